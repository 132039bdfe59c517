import PyProof.Rows.All
import Wide.All
import OpenK.AllK
import Wide.FinOn
import HandS.ForMost
import HandS.Defaults
import HandS.IsInst
import HandS.TupAny
import HandS.Deep
import HandS.Zip
import HandS.Conv
import KE.KStateDown
import Lean
import HandS.Head0
import HandS.Head1
import HandS.Head2
import HandS.HeadEnd
import HandS.HeadHook1
import HandS.HeadHook2
import HandS.HeadHook3
import HandS.HeadHook4
import KE.LtData
import KE.SortData
import HandS.DictComp
import HandS.SetBool
import KE.GoesSet
import KE.GoesEnum
import KE.GoesMore
import HandS.Star
import HandS.TupSets
import HandS.SetTxt0
import HandS.TryOnly
import PySem.Challenge.RW_rebuiltby_k18_whole_classes
set_option Elab.async false
set_option linter.all false
set_option maxRecDepth 100000
set_option maxHeartbeats 4000000
/-! Data in a heap that grows: the frozen part G of the tracked heap H, slots that hold data, what an expression is worth as data. -/
namespace Rb
open PySem PySem.Spec PyProof.Rows L2
abbrev D := PyData
variable {K : PySem.W.Frag}
/-! ### data in a heap: each tuple that is not empty is tracked -/
theorem same_q {H H' : Hp} {a : Addr} {xs : List V} (e : Same H H') (h : SqT K H a xs) : SqT K H' a xs := by
  rcases h with (h | ⟨o, h⟩) | h
  · exact .inl (.inl (e _ _ h))
  · exact .inl (.inr ⟨o, e _ _ h⟩)
  · exact .inr h
def TupAt (K : PySem.W.Frag) (H : Hp) (a : Addr) (xs : List V) : Prop := H a = some (.tup xs) ∨ (xs = [] ∧ SqT K H a [])
theorem TupAt.of {H : Hp} {a : Addr} {xs : List V} (h : H a = some (.tup xs)) : TupAt K H a xs := .inl h
theorem TupAt.sq {H : Hp} {a : Addr} {xs : List V} (h : TupAt K H a xs) : SqT K H a xs := by
  rcases h with h | ⟨rfl, h⟩
  · exact SqT.of h
  · exact h
theorem TupAt.up {H H' : Hp} {a : Addr} {xs : List V} (e : Same H H') (h : TupAt K H a xs) : TupAt K H' a xs := by
  rcases h with h | ⟨h1, h⟩
  · exact .inl (e _ _ h)
  · exact .inr ⟨h1, same_q e h⟩
theorem same_t {H H' : Hp} {a : Addr} {xs : List V} (e : Same H H') (h : TupAt K H a xs) : SqT K H' a xs := (h.up e).sq
mutual
inductive Dp (K : PySem.W.Frag) (H : Hp) : V → PyData → Prop
  | non : Dp K H .non .none
  | bl (b : Bool) : Dp K H (.bl b) (.bool b)
  | int (i : Int) : Dp K H (.int i) (.int i)
  | str (x : Str) : Dp K H (.str x) (.str x)
  | lst {a : Addr} {xs : List V} {ds : List PyData} : SqL K H a xs → DpAll K H xs ds → Dp K H (.ref a) (.list ds)
  | tup {a : Addr} {xs : List V} {ds : List PyData} : TupAt K H a xs → DpAll K H xs ds → Dp K H (.ref a) (.tuple ds)
inductive DpAll (K : PySem.W.Frag) (H : Hp) : List V → List PyData → Prop
  | nil : DpAll K H [] []
  | cons {v : V} {vs : List V} {d : PyData} {ds : List PyData} : Dp K H v d → DpAll K H vs ds → DpAll K H (v :: vs) (d :: ds)
end
mutual
theorem dp_of {H : Hp} : ∀ (d : PyData) (v : V), Dp K H v d → L2.Dp K H v d
  | .none, _, h => by cases h; exact .non
  | .bool b, _, h => by cases h; exact .bl b
  | .int i, _, h => by cases h; exact .int i
  | .str x, _, h => by cases h; exact .str x
  | .list ds, _, h => by cases h with | lst a b => exact .lst a (dps_of' ds _ b)
  | .tuple ds, _, h => by cases h with | tup a b => exact .tup a.sq (dps_of' ds _ b)
  | .dict _, _, h => by cases h
theorem dps_of' {H : Hp} : ∀ (ds : List PyData) (vs : List V), DpAll K H vs ds → L2.DpAll K H vs ds
  | [], _, h => by cases h; exact .nil
  | d :: ds, _, h => by cases h with | cons a b => exact .cons (dp_of d _ a) (dps_of' ds _ b)
end
/-! ### data stand still while the heap grows -/
mutual
theorem dp_up {H H' : Hp} (e : Same H H') : ∀ (d : D) (v : V), Dp K H v d → Dp K H' v d
  | .none, _, h => by cases h; exact .non
  | .bool b, _, h => by cases h; exact .bl b
  | .int i, _, h => by cases h; exact .int i
  | .str x, _, h => by cases h; exact .str x
  | .list ds, _, h => by cases h with | lst a b => exact .lst (e.seq a) (dps_up e ds _ b)
  | .tuple ds, _, h => by cases h with | tup a b => exact .tup (a.up e) (dps_up e ds _ b)
  | .dict _, _, h => by cases h
theorem dps_up {H H' : Hp} (e : Same H H') : ∀ (ds : List D) (vs : List V), DpAll K H vs ds → DpAll K H' vs ds
  | [], _, h => by cases h; exact .nil
  | d :: ds, _, h => by cases h with | cons a b => exact .cons (dp_up e d _ a) (dps_up e ds _ b)
end
theorem dps_len {H : Hp} : ∀ {vs : List V} {ds : List D}, DpAll K H vs ds → vs.length = ds.length
  | _, [], h => by cases h; rfl
  | _, d :: ds, h => by cases h with | cons a b => exact congrArg Nat.succ (dps_len b)
theorem dps_get {H : Hp} : ∀ {ds : List D} {vs : List V} {i : Nat} {d : D}, DpAll K H vs ds → ds[i]? = some d → ∃ v, vs[i]? = some v ∧ Dp K H v d
  | [], _, _, _, _, e => by simp at e
  | d :: ds, _, 0, x, h, e => by cases h with | cons a b => simp at e; subst e; exact ⟨_, rfl, a⟩
  | d :: ds, _, i + 1, x, h, e => by
    cases h with
    | cons a b =>
      obtain ⟨v, h1, h2⟩ := dps_get (i := i) b (by simpa using e)
      exact ⟨v, by simpa using h1, h2⟩
theorem dps_of {H : Hp} : ∀ {ds : List D} {vs : List V} {i : Nat} {v : V}, DpAll K H vs ds → vs[i]? = some v → ∃ d, ds[i]? = some d ∧ Dp K H v d
  | [], _, _, _, h, e => by cases h; simp at e
  | d :: ds, _, 0, x, h, e => by cases h with | cons a b => simp at e; subst e; exact ⟨_, rfl, a⟩
  | d :: ds, _, i + 1, x, h, e => by
    cases h with
    | cons a b =>
      obtain ⟨v, h1, h2⟩ := dps_of (i := i) b (by simpa using e)
      exact ⟨v, by simpa using h1, h2⟩
theorem dps_app {H : Hp} : ∀ {ds es : List D} {vs us : List V}, DpAll K H vs ds → DpAll K H us es → DpAll K H (vs ++ us) (ds ++ es)
  | [], _, _, _, h, q => by cases h; exact q
  | d :: ds, _, _, _, h, q => by cases h with | cons a b => exact .cons a (dps_app b q)
theorem dps_take {H : Hp} : ∀ {ds : List D} {vs : List V} (n : Nat), DpAll K H vs ds → DpAll K H (vs.take n) (ds.take n)
  | _, _, 0, _ => .nil
  | [], _, n + 1, h => by cases h; exact .nil
  | d :: ds, _, n + 1, h => by cases h with | cons a b => exact .cons a (dps_take n b)
theorem dps_drop {H : Hp} : ∀ {ds : List D} {vs : List V} (n : Nat), DpAll K H vs ds → DpAll K H (vs.drop n) (ds.drop n)
  | _, _, 0, h => h
  | [], _, n + 1, h => by cases h; exact .nil
  | d :: ds, _, n + 1, h => by cases h with | cons a b => exact dps_drop n b
theorem dps_set {H : Hp} {v : V} {x : D} (q : Dp K H v x) : ∀ {ds : List D} {vs : List V} (n : Nat), DpAll K H vs ds → DpAll K H (vs.set n v) (ds.set n x)
  | [], _, _, h => by cases h; exact .nil
  | d :: ds, _, 0, h => by cases h with | cons a b => exact .cons q b
  | d :: ds, _, n + 1, h => by cases h with | cons a b => exact .cons a (dps_set q n b)
/-! ### heaps: G the part that nothing changes any more, H all that is tracked -/
structure Gr (G H G2 H2 : Hp) : Prop where
  g : Same G G2
  h : Same H H2
  gh : Same G2 H2
  fr : ∀ a, G a = none → H a ≠ none → G2 a = none
section
variable {G H G1 H1 G2 H2 G3 H3 : Hp} {p : Addr} {o o' : HO}
theorem Gr.refl (e : Same G H) : Gr G H G H := ⟨.refl _, .refl _, e, fun _ h _ => h⟩
theorem Gr.trans (a : Gr G H G1 H1) (b : Gr G1 H1 G2 H2) : Gr G H G2 H2 := ⟨a.g.trans b.g, a.h.trans b.h, b.gh, fun x h1 h2 => b.fr x (a.fr x h1 h2) (by
  cases e : H x with
  | none => exact absurd e h2
  | some u => rw [a.h x u e]; simp)⟩
theorem same_new (hp : H p = none) : Same H (upd H p o) := fun b x e => by
  rw [upd_ne (ne_of_none e hp)]
  exact e
theorem same_upd2 (e : Same G H) : Same (upd G p o) (upd H p o) := fun b x h => by
  by_cases hb : b = p
  · subst hb; rw [upd_same] at h ⊢; exact h
  · rw [upd_ne hb] at h ⊢; exact e _ _ h
/-- a new thing that nothing changes -/
theorem Gr.new (e : Same G H) (hp : H p = none) : Gr G H (upd G p o) (upd H p o) := ⟨same_new (e.free hp), same_new hp, same_upd2 e, fun a h1 h2 => by
  rw [upd_ne (show a ≠ p from fun z => h2 (by rw [z]; exact hp))]
  exact h1⟩
/-- a new thing that may still change -/
theorem Gr.tmp (e : Same G H) (hp : H p = none) : Gr G H G (upd H p o) := ⟨.refl _, same_new hp, fun b x h => same_new hp _ _ (e _ _ h), fun a h1 _ => h1⟩
/-- a thing made since (G, H) is changed -/
theorem Gr.mut (g : Gr G H G1 H1) (hp : H p = none) (gp : G1 p = none) : Gr G H G1 (upd H1 p o) := ⟨g.g, fun b x h => by
  rw [upd_ne (ne_of_none h hp)]
  exact g.h _ _ h, fun b x h => by
  rw [upd_ne (ne_of_none h gp)]
  exact g.gh _ _ h, g.fr⟩
/-- a thing made since (G, H) is not changed any more -/
theorem Gr.frz (g : Gr G H G1 H1) (hp : H p = none) (gp : G1 p = none) (e : H1 p = some o) : Gr G H (upd G1 p o) H1 := ⟨g.g.trans (same_new gp), g.h, fun b x h => by
  by_cases hb : b = p
  · subst hb; rw [upd_same] at h; rw [← h]; exact e
  · rw [upd_ne hb] at h; exact g.gh _ _ h, fun a h1 h2 => by
  rw [upd_ne (show a ≠ p from fun z => h2 (by rw [z]; exact hp))]
  exact g.fr a h1 h2⟩
theorem Gr.none' (g : Gr G H G1 H1) (h : H1 p = none) : H p = none := g.h.free h
theorem Gr.same (g : Gr G H G1 H1) : Same G1 H1 := g.gh
end
/-! ### slots -/
/-- what a slot, an argument or an answer is known to be: data, or just this value -/
inductive SV where
  | d (x : D) | v (u : V) | p (P : D → Prop)
def SR (K : PySem.W.Frag) (G : Hp) : V → SV → Prop
  | v, .d x => Dp K G v x
  | v, .v u => v = u
  | v, .p P => ∃ x, P x ∧ Dp K G v x
inductive SRs (K : PySem.W.Frag) (G : Hp) : List V → List SV → Prop
  | nil : SRs K G [] []
  | cons {v : V} {vs : List V} {x : SV} {xs : List SV} : SR K G v x → SRs K G vs xs → SRs K G (v :: vs) (x :: xs)
abbrev Env := List (Option SV)
def OR (K : PySem.W.Frag) (G : Hp) : Option V → Option SV → Prop
  | _, none => True
  | some v, some x => SR K G v x
  | none, some _ => False
inductive ER (K : PySem.W.Frag) (G : Hp) : List (Option V) → Env → Prop
  | nil : ER K G [] []
  | cons {v : Option V} {vs : List (Option V)} {x : Option SV} {xs : Env} : OR K G v x → ER K G vs xs → ER K G (v :: vs) (x :: xs)
section
variable {G G' H H' : Hp}
theorem SR.up (e : Same G G') : ∀ {v : V} {x : SV}, SR K G v x → SR K G' v x
  | _, .d x, h => dp_up e x _ h
  | _, .v _, h => h
  | _, .p _, ⟨x, h1, h2⟩ => ⟨x, h1, dp_up e x _ h2⟩
theorem SRs.up (e : Same G G') : ∀ {vs : List V} {xs : List SV}, SRs K G vs xs → SRs K G' vs xs
  | _, _, .nil => .nil
  | _, _, .cons a b => .cons (a.up e) (SRs.up e b)
theorem SRs.length : ∀ {vs : List V} {xs : List SV}, SRs K G vs xs → vs.length = xs.length
  | _, _, .nil => rfl
  | _, _, .cons _ b => congrArg Nat.succ (SRs.length b)
theorem SRs.app : ∀ {vs us : List V} {xs ys : List SV}, SRs K G vs xs → SRs K G us ys → SRs K G (vs ++ us) (xs ++ ys)
  | _, _, _, _, .nil, q => q
  | _, _, _, _, .cons a b, q => .cons a (SRs.app b q)
theorem SRs.dps : ∀ {vs : List V} {ds : List D}, SRs K G vs (ds.map .d) → DpAll K G vs ds
  | _, [], h => by cases h; exact .nil
  | _, d :: ds, h => by cases h with | cons a b => exact .cons a (SRs.dps b)
theorem SRs.of_dps : ∀ {ds : List D} {vs : List V}, DpAll K G vs ds → SRs K G vs (ds.map .d)
  | [], _, h => by cases h; exact .nil
  | d :: ds, _, h => by cases h with | cons a b => exact .cons a (SRs.of_dps b)
theorem OR.up (e : Same G G') : ∀ {v : Option V} {x : Option SV}, OR K G v x → OR K G' v x
  | _, none, _ => trivial
  | some v, some x, h => SR.up e h
  | none, some _, h => h.elim
theorem ER.up (e : Same G G') : ∀ {vs : List (Option V)} {xs : Env}, ER K G vs xs → ER K G' vs xs
  | _, _, .nil => .nil
  | _, _, .cons a b => .cons (a.up e) (ER.up e b)
theorem ER.get : ∀ {vs : List (Option V)} {xs : Env} {i : Nat} {x : SV}, ER K G vs xs → xs[i]? = some (some x) → ∃ v, vs[i]? = some (some v) ∧ SR K G v x
  | _, _, _, _, .nil, e => by simp at e
  | v :: _, _ :: _, 0, x, .cons a _, e => by
    simp at e
    subst e
    cases v with
    | none => exact a.elim
    | some v => exact ⟨v, rfl, a⟩
  | _, _, i + 1, x, .cons _ b, e => by
    obtain ⟨v, h1, h2⟩ := ER.get (i := i) b (by simpa using e)
    exact ⟨v, by simpa using h1, h2⟩
theorem ER.set {v : V} {x : SV} (r : SR K G v x) : ∀ {vs : List (Option V)} {xs : Env} (i : Nat), ER K G vs xs → ER K G (vs.set i (some v)) (xs.set i (some x))
  | _, _, _, .nil => .nil
  | _, _, 0, .cons _ b => .cons r b
  | _, _, i + 1, .cons a b => .cons a (ER.set r i b)
theorem ER.off : ∀ {vs : List (Option V)} {xs : Env} (i : Nat), ER K G vs xs → ER K G (vs.set i none) (xs.set i none)
  | _, _, _, .nil => .nil
  | _, _, 0, .cons _ b => .cons trivial b
  | _, _, i + 1, .cons a b => .cons a (ER.off i b)
def wipeR (ρ : Env) : List Nat → Env
  | [] => ρ
  | v :: vs => (wipeR ρ vs).set v none
def setsR (ρ : Env) (us : List (Nat × D)) : Env := us.foldl (fun ρ u => ρ.set u.1 (some (.d u.2))) ρ
/-- the slots as a def begins: xs, then m that hold nothing -/
def slots (xs : List SV) (m : Nat) : Env := xs.map some ++ List.replicate m none
theorem slots_cons (x : SV) (xs : List SV) (m : Nat) : slots (x :: xs) m = some x :: slots xs m := rfl
theorem slots_succ (m : Nat) : slots [] (m + 1) = none :: slots [] m := rfl
theorem slots_zero : slots [] 0 = [] := rfl
/-- the names of a block hold nothing -/
def wipeO (ρ : Env) (own : List (Str × Nat)) : Env := wipeR ρ (own.map (·.2))
theorem wipeO_nil (ρ : Env) : wipeO ρ [] = ρ := rfl
theorem wipeO_cons (ρ : Env) (n : Str) (i : Nat) (own : List (Str × Nat)) : wipeO ρ ((n, i) :: own) = (wipeO ρ own).set i none := rfl
theorem ER.wipe {σ : L2.St} {ρ : Env} (h : ER K G σ ρ) : ∀ vs : List Nat, ER K G (L2.wipe σ vs) (wipeR ρ vs)
  | [] => h
  | v :: vs => (h.wipe vs).off v
theorem ER.start {vs : List V} {xs : List SV} (r : SRs K G vs xs) : ∀ n : Nat, ER K G (vs.map some ++ List.replicate n none) (xs.map some ++ List.replicate n none) := by
  intro n
  induction r with
  | nil =>
    induction n with
    | zero => exact .nil
    | succ n ih => exact .cons trivial ih
  | cons a b ih => exact .cons a ih
end
end Rb
set_option Elab.async false
set_option linter.all false
set_option maxRecDepth 100000
set_option maxHeartbeats 4000000
/-! What a piece of syntax is worth, told by data: the widest readings (wE ..), EE (an expression), ET (a test), EA (arguments), EF (a new list that may still change), and a rule for each form. -/
namespace Rb
open PySem PySem.Spec PyProof.Rows L2
section
variable (X : Cx)
/-! ### the widest readings -/
def wE (e : Expr) : TE := fun σ H Q => ∀ pins s, Inv X pins σ H s → wpAny (model X.prog X.w) X.A (eval e X.env) (EP X pins σ Q) X.xe s
def wT (e : Expr) : TT := fun σ H Q => ∀ pins s, Inv X pins σ H s → wpAny (model X.prog X.w) X.A (isTrue e X.env (eval e X.env)) (TP X pins σ Q) X.xe s
def wW (e : Expr) : TT := fun σ H Q => ∀ (whole : Sem Value) pins s, Inv X pins σ H s → wpAny (model X.prog X.w) X.A (isTrue e X.env whole) (TP X pins σ Q) X.xe s
def wA (es : List Expr) : TA := fun σ H Q => ∀ (pos : Pos) pins s, Inv X pins σ H s → wpAny (model X.prog X.w) X.A (spliced (backTo pos (starEach es X.env))) (AP X pins σ Q) X.xe s
def wOp (f : Value → Value → Sem Value) : R2 := fun x y H Q => ∀ pins s σ v u, Inv X pins σ H s → RelV x v → RelV y u → wpAny (model X.prog X.w) X.A (f v u) (EP X pins σ Q) X.xe s
def wCall (f : Value) : List V → Hp → VK → Prop := fun xs H Q => ∀ pins s σ us, Inv X pins σ H s → Vals xs us → wpAny (model X.prog X.w) X.A (call f us) (EP X pins σ Q) X.xe s
def wIx : R2 := fun x y H Q => ∀ (value slice : Expr) pins s σ v u, Inv X pins σ H s → RelV x v → RelV y u → subscripted slice false v u = operate [v, u] (getItem v u) → wpAny (model X.prog X.w) X.A (subscriptTail value slice v u) (EP X pins σ Q) X.xe s
def wS (st : Stmt) : TS := fun D σ H => ∀ pins s, Inv X pins σ H s → wpAny (model X.prog X.w) X.A (exec st X.env) (SP X pins D) X.xe s
def wSs (st : List Stmt) : TS := fun D σ H => ∀ pins s, Inv X pins σ H s → wpAny (model X.prog X.w) X.A (execs st X.env) (SP X pins D) X.xe s
def wG (tg : Expr) : TG := fun v σ H Q => ∀ pins s u, Inv X pins σ H s → RelV v u → wpAny (model X.prog X.w) X.A (assign tg X.env u) (fun _ s' => ∃ σ' H', Inv X pins σ' H' s' ∧ Q σ' H') X.xe s
def wI (tg iter : Expr) : TI := fun σ H R => ∀ pins s, Inv X pins σ H s → wpAny (model X.prog X.w) X.A (eval iter X.env) (fun v s1 => wpAny (model X.prog X.w) X.A (pyIter v) (PIE X pins σ tg R) X.xe s1) X.xe s
def wPTs (ifs : List Expr) : TT := fun σ H Q => ∀ pins s, Inv X pins σ H s → wpAny (model X.prog X.w) X.A (forIn ifs true fun c r => if r = true then do let ok ← isTrue c X.env (eval c X.env); pure (ForInStep.yield ok) else pure (ForInStep.yield r)) (TP X pins σ Q) X.xe s
end
section
variable {X : Cx} {e : Expr} {es : List Expr} {σ : L2.St} {H : Hp} {Q Q' : VK}
theorem pe_w : PE X e (wE X e) := ⟨fun pins s _ _ _ I h => h pins s I⟩
theorem pt_w : PT X e (wT X e) := ⟨fun pins s _ _ _ I h => h pins s I⟩
theorem pw_w : PW X e (wW X e) := ⟨fun wh pins s _ _ _ I h => h wh pins s I⟩
theorem pa_w : PA X es (wA X es) := ⟨fun pos pins s _ _ _ I h => h pos pins s I⟩
theorem or_w {f : Value → Value → Sem Value} : OpR X f (wOp X f) := fun pins s σ _ _ _ v u _ I r1 r2 h => h pins s σ v u I r1 r2
theorem cr_w {f : Value} : CallR X f (wCall X f) := fun pins s σ _ _ us _ I r h => h pins s σ us I r
theorem ix_w : IxR X (wIx X) := fun va sl pins s σ _ _ _ v u _ I r1 r2 h hs => h va sl pins s σ v u I r1 r2 hs
theorem ps_w {st : Stmt} : PS X st (wS X st) := ⟨fun pins s _ _ _ I h => h pins s I⟩
theorem pss_w {st : List Stmt} : PSs X st (wSs X st) := ⟨fun pins s _ _ _ I h => h pins s I⟩
theorem pg_w {tg : Expr} : PG X tg (wG X tg) := ⟨fun pins s _ _ _ u _ I r h => h pins s u I r⟩
theorem pi_w {tg iter : Expr} : PI X tg iter (wI X tg iter) := ⟨fun pins s _ _ _ I h => h pins s I⟩
theorem pts_w {ifs : List Expr} : PTs X ifs (wPTs X ifs) := ⟨fun pins s _ _ _ I h => h pins s I⟩
theorem w_pe {t : TE} (h : PE X e t) (q : t σ H Q) : wE X e σ H Q := fun pins s I => h.run pins s σ H Q I q
theorem w_pt {t : TT} {Q : Bool → Hp → Prop} (h : PT X e t) (q : t σ H Q) : wT X e σ H Q := fun pins s I => h.run pins s σ H Q I q
theorem w_pw {t : TT} {Q : Bool → Hp → Prop} (h : PW X e t) (q : t σ H Q) : wW X e σ H Q := fun wh pins s I => h.run wh pins s σ H Q I q
theorem w_pa {t : TA} {Q : List V → Hp → Prop} (h : PA X es t) (q : t σ H Q) : wA X es σ H Q := fun pos pins s I => h.run pos pins s σ H Q I q
theorem w_or {f : Value → Value → Sem Value} {r : R2} {x y : V} (h : OpR X f r) (q : r x y H Q) : wOp X f x y H Q := fun pins s σ v u I r1 r2 => h pins s σ H x y v u Q I r1 r2 q
theorem w_cr {f : Value} {r : List V → Hp → VK → Prop} {xs : List V} (h : CallR X f r) (q : r xs H Q) : wCall X f xs H Q := fun pins s σ us I r1 => h pins s σ H xs us Q I r1 q
theorem w_ix {r : R2} {x y : V} (h : IxR X r) (q : r x y H Q) : wIx X x y H Q := fun va sl pins s σ v u I r1 r2 hs => h va sl pins s σ H x y v u Q I r1 r2 q hs
theorem w_ps {st : Stmt} {t : TS} {D : Ends} (h : PS X st t) (q : t D σ H) : wS X st D σ H := fun pins s I => h.run pins s σ H D I q
theorem w_pss {st : List Stmt} {t : TS} {D : Ends} (h : PSs X st t) (q : t D σ H) : wSs X st D σ H := fun pins s I => h.run pins s σ H D I q
theorem w_pg {tg : Expr} {t : TG} {v : V} {Q : L2.St → Hp → Prop} (h : PG X tg t) (q : t v σ H Q) : wG X tg v σ H Q := fun pins s u I r => h.run pins s σ H v u Q I r q
theorem w_pi {tg iter : Expr} {t : TI} {R : It → Hp → Prop} (h : PI X tg iter t) (q : t σ H R) : wI X tg iter σ H R := fun pins s I => h.run pins s σ H R I q
theorem w_pts {ifs : List Expr} {t : TT} {Q : Bool → Hp → Prop} (h : PTs X ifs t) (q : t σ H Q) : wPTs X ifs σ H Q := fun pins s I => h.run pins s σ H Q I q
end
/-! ### worth -/
def EE (X : Cx) (ρ : Env) (G H : Hp) (e : Expr) (x : SV) : Prop := ∀ G1 H1 σ, Gr G H G1 H1 → ER X.K G1 σ ρ → ∀ Q : VK, (∀ v G2 H2, Gr G1 H1 G2 H2 → SR X.K G2 v x → Q v H2) → wE X e σ H1 Q
def ET (X : Cx) (ρ : Env) (G H : Hp) (e : Expr) (b : Bool) : Prop := ∀ G1 H1 σ, Gr G H G1 H1 → ER X.K G1 σ ρ → ∀ Q : Bool → Hp → Prop, (∀ G2 H2, Gr G1 H1 G2 H2 → Q b H2) → wT X e σ H1 Q
def EW (X : Cx) (ρ : Env) (G H : Hp) (e : Expr) (b : Bool) : Prop := ∀ G1 H1 σ, Gr G H G1 H1 → ER X.K G1 σ ρ → ∀ Q : Bool → Hp → Prop, (∀ G2 H2, Gr G1 H1 G2 H2 → Q b H2) → wW X e σ H1 Q
def EA (X : Cx) (ρ : Env) (G H : Hp) (es : List Expr) (xs : List SV) : Prop := ∀ G1 H1 σ, Gr G H G1 H1 → ER X.K G1 σ ρ → ∀ Q : List V → Hp → Prop, (∀ vs G2 H2, Gr G1 H1 G2 H2 → SRs X.K G2 vs xs → Q vs H2) → wA X es σ H1 Q
def EF (X : Cx) (ρ : Env) (G H : Hp) (e : Expr) (ds : List D) : Prop := ∀ G1 H1 σ, Gr G H G1 H1 → ER X.K G1 σ ρ → ∀ Q : VK, (∀ p vs G2 H2, Gr G1 H1 G2 H2 → H1 p = none → G2 p = none → H2 p = some (.lst vs) → DpAll X.K G2 vs ds → Q (.ref p) H2) → wE X e σ H1 Q
/-- a two-place operation, an index, a call, by what the values are worth -/
def OD (X : Cx) (f : Value → Value → Sem Value) (G H : Hp) (x y z : SV) : Prop := ∀ v u, SR X.K G v x → SR X.K G u y → ∀ Q : VK, (∀ w G2 H2, Gr G H G2 H2 → SR X.K G2 w z → Q w H2) → wOp X f v u H Q
def XD (X : Cx) (G H : Hp) (x y z : SV) : Prop := ∀ v u, SR X.K G v x → SR X.K G u y → ∀ Q : VK, (∀ w G2 H2, Gr G H G2 H2 → SR X.K G2 w z → Q w H2) → wIx X v u H Q
def CD (X : Cx) (f : Value) (G H : Hp) (xs : List SV) (z : SV) : Prop := ∀ vs, SRs X.K G vs xs → ∀ Q : VK, (∀ w G2 H2, Gr G H G2 H2 → SR X.K G2 w z → Q w H2) → wCall X f vs H Q
/-- .. a new list -/
def CF (X : Cx) (f : Value) (G H : Hp) (xs : List SV) (ds : List D) : Prop := ∀ vs, SRs X.K G vs xs → ∀ Q : VK, (∀ p ws G2 H2, Gr G H G2 H2 → H p = none → G2 p = none → H2 p = some (.lst ws) → DpAll X.K G2 ws ds → Q (.ref p) H2) → wCall X f vs H Q
section
variable {X : Cx} {ρ : Env} {G H G' H' : Hp} {e a b c : Expr} {es : List Expr} {x y z : SV} {pos p' : Pos}
theorem EE.up (h : EE X ρ G H e x) (g : Gr G H G' H') : EE X ρ G' H' e x := fun G1 H1 σ g1 r Q q => h G1 H1 σ (g.trans g1) r Q q
theorem ET.up {k : Bool} (h : ET X ρ G H e k) (g : Gr G H G' H') : ET X ρ G' H' e k := fun G1 H1 σ g1 r Q q => h G1 H1 σ (g.trans g1) r Q q
theorem EA.up {xs : List SV} (h : EA X ρ G H es xs) (g : Gr G H G' H') : EA X ρ G' H' es xs := fun G1 H1 σ g1 r Q q => h G1 H1 σ (g.trans g1) r Q q
theorem EF.up {ds : List D} (h : EF X ρ G H e ds) (g : Gr G H G' H') : EF X ρ G' H' e ds := fun G1 H1 σ g1 r Q q => h G1 H1 σ (g.trans g1) r Q q
theorem EE.to (h : EE X ρ G H e x) (q : x = y) : EE X ρ G H e y := q ▸ h
theorem ET.to {k k' : Bool} (h : ET X ρ G H e k) (q : k = k') : ET X ρ G H e k' := q ▸ h
theorem EF.to {ds ds' : List D} (h : EF X ρ G H e ds) (q : ds = ds') : EF X ρ G H e ds' := q ▸ h
/-- a new list is let be -/
theorem EF.ee {ds : List D} (h : EF X ρ G H e ds) : EE X ρ G H e (.d (.list ds)) := fun G1 H1 σ g r Q q => h G1 H1 σ g r Q fun p vs G2 H2 g2 hp gp e2 r2 =>
  q _ (upd G2 p (.lst vs)) H2 (g2.frz hp gp e2) (.lst (SqL.of upd_same) (dps_up (same_new gp) ds _ r2))
theorem ee_nm (i : Nat) {n : Str} (hr : ρ[i]? = some (some x) := by first | (simp only [setsR, wipeO_nil, wipeO_cons, List.foldl_cons, List.foldl_nil, slots_cons, slots_succ, slots_zero, List.set_cons_zero, List.set_cons_succ, List.getElem?_cons_zero, List.getElem?_cons_succ] <;> rfl) | rfl) (hN : X.N[i]? = some n := by rfl) (hv : Vis X.env.scope n := by first | exact Or.inl rfl | exact Or.inr (Or.inl rfl) | exact Or.inr (Or.inr rfl)) (hd : (n == ("__debug__" : Str)) = false := by decide)
    (hcd : (n == ("__classdict__" : Str)) = false := by decide) : EE X ρ G H (.Name n pos) x := fun G1 H1 σ g r Q q => by
  obtain ⟨v, e1, r1⟩ := r.get hr
  exact w_pe (pe_var hN hv hd hcd) ⟨v, e1, q v G1 H1 (.refl g.gh) r1⟩
theorem ee_int {i : Int} {j : Nat} : EE X ρ G H (.Constant (.int i) j pos) (.d (.int i)) := fun G1 H1 σ g r Q q => w_pe pe_int (q _ G1 H1 (.refl g.gh) (.int i))
theorem ee_bl {i : Bool} {j : Nat} : EE X ρ G H (.Constant (.bool i) j pos) (.d (.bool i)) := fun G1 H1 σ g r Q q => w_pe pe_bl (q _ G1 H1 (.refl g.gh) (.bl i))
theorem ee_str {i : Str} {j : Nat} : EE X ρ G H (.Constant (.str i) j pos) (.d (.str i)) := fun G1 H1 σ g r Q q => w_pe pe_str (q _ G1 H1 (.refl g.gh) (.str i))
theorem ee_non {j : Nat} : EE X ρ G H (.Constant .none j pos) (.d .none) := fun G1 H1 σ g r Q q => w_pe pe_non (q _ G1 H1 (.refl g.gh) .non)
/-- a module's text, number -/
theorem ee_gstr {n i : Str} {t : Tok} (hm : X.mg n = some (.str i t)) (hg : Gl X n := by rfl) (hd : (n == ("__debug__" : Str)) = false := by decide) : EE X ρ G H (.Name n pos) (.d (.str i)) := fun G1 H1 σ g r Q q =>
  w_pe (pe_glob (v := .str i) hg hm ⟨t, rfl⟩ hd) (q _ G1 H1 (.refl g.gh) (.str i))
theorem ee_gint {n : Str} {i : Int} {t : Tok} (hm : X.mg n = some (.int i t)) (hg : Gl X n := by rfl) (hd : (n == ("__debug__" : Str)) = false := by decide) : EE X ρ G H (.Name n pos) (.d (.int i)) := fun G1 H1 σ g r Q q =>
  w_pe (pe_glob (v := .int i) hg hm ⟨t, rfl⟩ hd) (q _ G1 H1 (.refl g.gh) (.int i))
/-- a built-in type as a value -/
theorem ee_ty {n : Str} {T : String} (hm : X.mg n = none) (hv : bootBuiltins n = some (.type T)) (hg : Gl X n := by rfl) (hn : n ≠ "__name__" := by decide) (hd : (n == ("__debug__" : Str)) = false := by decide) : EE X ρ G H (.Name n pos) (.v (.ty T)) := fun G1 H1 σ g r Q q =>
  w_pe (pe_bltn (v := .ty T) hg hm hv rfl hn hd) (q _ G1 H1 (.refl g.gh) rfl)
/-! ### argument lists, displays -/
theorem ea_nil : EA X ρ G H [] [] := fun G1 H1 σ g r Q q => w_pa pa_nil (q _ G1 H1 (.refl g.gh) .nil)
theorem ea_cons {xs : List SV} (h : EE X ρ G H e x) (hr : EA X ρ G H es xs) (hs : starEach (e :: es) X.env = (false, eval e X.env) :: starEach es X.env := by rfl) : EA X ρ G H (e :: es) (x :: xs) := fun G1 H1 σ g r Q q =>
  w_pa (pa_cons pe_w pa_w hs) (h G1 H1 σ g r _ fun v G2 H2 g2 r2 => hr G2 H2 σ (g.trans g2) (r.up g2.g) _ fun vs G3 H3 g3 r3 => q _ G3 H3 (g2.trans g3) (.cons (r2.up g3.g) r3))
theorem ee_tup {k : Nat} {ds : List D} (h : EA X ρ G H es (ds.map .d)) (hl : ds.length ≤ 100000 := by exact Nat.le_of_ble_eq_true rfl) : EE X ρ G H (.Tuple es k pos) (.d (.tuple ds)) := fun G1 H1 σ g r Q q =>
  w_pe (pe_tup pa_w) (h G1 H1 σ g r _ fun vs G2 H2 g2 r2 => ⟨by have l := dps_len r2.dps; exact Nat.le_trans (by omega) (show 100000 ≤ sizeLine by decide), fun p hp =>
    q _ (upd G2 p (.tup vs)) _ (g2.trans (.new g2.gh hp)) (.tup (TupAt.of upd_same) (dps_up (same_new (g2.gh.free hp)) ds _ r2.dps))⟩)
theorem ef_lst {ds : List D} (h : EA X ρ G H es (ds.map .d)) (hl : ds.length ≤ 100000 := by exact Nat.le_of_ble_eq_true rfl) : EF X ρ G H (.List es pos) ds := fun G1 H1 σ g r Q q =>
  w_pe (pe_lst pa_w) (h G1 H1 σ g r _ fun vs G2 H2 g2 r2 => ⟨by have l := dps_len r2.dps; exact Nat.le_trans (by omega) (show 100000 ≤ sizeLine by decide), fun p hp =>
    q p vs G2 _ (g2.trans (.tmp g2.gh hp)) (g2.none' hp) (g2.gh.free hp) upd_same r2.dps⟩)
/-! ### operations -/
theorem ee_bin {op : Operator} (ha : EE X ρ G H a x) (hb : EE X ρ G H b y) (ho : ∀ G1 H1, Gr G H G1 H1 → OD X (binaryOp op) G1 H1 x y z) : EE X ρ G H (.BinOp a op b pos) z := fun G1 H1 σ g r Q q =>
  w_pe (pe_op or_w pe_w pe_w) (ha G1 H1 σ g r _ fun v G2 H2 g2 r2 => hb G2 H2 σ (g.trans g2) (r.up g2.g) _ fun u G3 H3 g3 r3 => ho G3 H3 ((g.trans g2).trans g3) v u (r2.up g3.g) r3 _ fun w G4 H4 g4 r4 => q w G4 H4 ((g2.trans g3).trans g4) r4)
theorem ee_cmp {op : CmpOp} (ha : EE X ρ G H a x) (hb : EE X ρ G H b y) (ho : ∀ G1 H1, Gr G H G1 H1 → OD X (compareOp op) G1 H1 x y z) (hm : behindInMarks op b = false := by first | exact nomark _ | with_unfolding_all rfl) : EE X ρ G H (.Compare a [op] [b] pos) z := fun G1 H1 σ g r Q q =>
  w_pe (pe_cmpR or_w pe_w pe_w hm) (ha G1 H1 σ g r _ fun v G2 H2 g2 r2 => hb G2 H2 σ (g.trans g2) (r.up g2.g) _ fun u G3 H3 g3 r3 => ho G3 H3 ((g.trans g2).trans g3) v u (r2.up g3.g) r3 _ fun w G4 H4 g4 r4 => q w G4 H4 ((g2.trans g3).trans g4) r4)
theorem et_cmp {op : CmpOp} {k : Bool} (ha : EE X ρ G H a x) (hb : EE X ρ G H b y) (ho : ∀ G1 H1, Gr G H G1 H1 → OD X (compareOp op) G1 H1 x y (.d (.bool k))) (hm : behindInMarks op b = false := by first | exact nomark _ | with_unfolding_all rfl) : ET X ρ G H (.Compare a [op] [b] pos) k := fun G1 H1 σ g r Q q =>
  w_pt (pt_cmpR or_w pe_w pe_w hm) (ha G1 H1 σ g r _ fun v G2 H2 g2 r2 => hb G2 H2 σ (g.trans g2) (r.up g2.g) _ fun u G3 H3 g3 r3 => ho G3 H3 ((g.trans g2).trans g3) v u (r2.up g3.g) r3 _ fun w G4 H4 g4 r4 => ⟨k, by
    have r5 : Dp X.K G4 w (.bool k) := r4
    cases r5; rfl, q G4 H4 ((g2.trans g3).trans g4)⟩)
theorem et_val {k : Bool} (h : EE X ρ G H e (.d (.bool k))) (he : ∀ whole, isTrue e X.env whole = (do let v ← whole; standAt e.pos; holding [v] (truthy v)) := by intro _; rfl) : ET X ρ G H e k := fun G1 H1 σ g r Q q =>
  w_pt (pt_val pe_w he) (h G1 H1 σ g r _ fun v G2 H2 g2 r2 => ⟨k, by
    have r5 : Dp X.K G2 v (.bool k) := r2
    cases r5; rfl, q G2 H2 g2⟩)
theorem et_not {k : Bool} (h : ET X ρ G H a k) : ET X ρ G H (.UnaryOp .Not a pos) (!k) := fun G1 H1 σ g r Q q => w_pt (pt_not pt_w) (h G1 H1 σ g r _ fun G2 H2 g2 => q G2 H2 g2)
theorem ew_and1 {k : Bool} (h : ET X ρ G H a k) : EW X ρ G H (.BoolOp .And [a] pos) k := fun G1 H1 σ g r Q q => w_pw (pw_and1 pt_w) (h G1 H1 σ g r _ q)
theorem ew_or1 {k : Bool} (h : ET X ρ G H a k) : EW X ρ G H (.BoolOp .Or [a] pos) k := fun G1 H1 σ g r Q q => w_pw (pw_or1 pt_w) (h G1 H1 σ g r _ q)
theorem ew_and {k l : Bool} {rest : List Expr} (h : ET X ρ G H a k) (hr : k = true → EW X ρ G H (.BoolOp .And (b :: rest) pos) l) : EW X ρ G H (.BoolOp .And (a :: b :: rest) pos) (k && l) := fun G1 H1 σ g r Q q =>
  w_pw (pw_and pt_w pw_w) (h G1 H1 σ g r _ fun G2 H2 g2 => by
    cases k with
    | true => exact iteT (hr rfl G2 H2 σ (g.trans g2) (r.up g2.g) _ fun G3 H3 g3 => q G3 H3 (g2.trans g3))
    | false => exact iteF (q G2 H2 g2))
theorem ew_or {k l : Bool} {rest : List Expr} (h : ET X ρ G H a k) (hr : k = false → EW X ρ G H (.BoolOp .Or (b :: rest) pos) l) : EW X ρ G H (.BoolOp .Or (a :: b :: rest) pos) (k || l) := fun G1 H1 σ g r Q q =>
  w_pw (pw_or pt_w pw_w) (h G1 H1 σ g r _ fun G2 H2 g2 => by
    cases k with
    | false => exact iteF (hr rfl G2 H2 σ (g.trans g2) (r.up g2.g) _ fun G3 H3 g3 => q G3 H3 (g2.trans g3))
    | true => exact iteT (q G2 H2 g2))
theorem et_w {k : Bool} (h : EW X ρ G H e k) : ET X ρ G H e k := fun G1 H1 σ g r Q q => w_pt (PW.pt pw_w) (h G1 H1 σ g r _ q)
theorem ee_one {op : BoolOp} (h : EE X ρ G H a x) : EE X ρ G H (.BoolOp op [a] pos) x := fun G1 H1 σ g r Q q => w_pe (pe_one pe_w) (h G1 H1 σ g r Q q)
theorem ee_and {k l : Bool} {rest : List Expr} (h : EE X ρ G H a (.d (.bool k))) (hr : k = true → EE X ρ G H (.BoolOp .And (b :: rest) pos) (.d (.bool l))) : EE X ρ G H (.BoolOp .And (a :: b :: rest) pos) (.d (.bool (k && l))) := fun G1 H1 σ g r Q q =>
  w_pe (pe_and pe_w pe_w) (h G1 H1 σ g r _ fun v G2 H2 g2 r2 => ⟨k, by
    have r5 : Dp X.K G2 v (.bool k) := r2
    cases r5; rfl, by
    cases k with
    | true => exact iteT (hr rfl G2 H2 σ (g.trans g2) (r.up g2.g) _ fun v G3 H3 g3 r3 => q v G3 H3 (g2.trans g3) r3)
    | false => exact iteF (q _ G2 H2 g2 (.bl false))⟩)
theorem ee_or {k l : Bool} {rest : List Expr} (h : EE X ρ G H a (.d (.bool k))) (hr : k = false → EE X ρ G H (.BoolOp .Or (b :: rest) pos) (.d (.bool l))) : EE X ρ G H (.BoolOp .Or (a :: b :: rest) pos) (.d (.bool (k || l))) := fun G1 H1 σ g r Q q =>
  w_pe (pe_or pe_w pe_w) (h G1 H1 σ g r _ fun v G2 H2 g2 r2 => ⟨k, by
    have r5 : Dp X.K G2 v (.bool k) := r2
    cases r5; rfl, by
    cases k with
    | false => exact iteF (hr rfl G2 H2 σ (g.trans g2) (r.up g2.g) _ fun v G3 H3 g3 r3 => q v G3 H3 (g2.trans g3) r3)
    | true => exact iteT (q _ G2 H2 g2 (.bl true))⟩)
theorem ee_not {k : Bool} (h : EE X ρ G H a (.d (.bool k))) : EE X ρ G H (.UnaryOp .Not a pos) (.d (.bool (!k))) := fun G1 H1 σ g r Q q =>
  w_pe (pe_not pe_w) (h G1 H1 σ g r _ fun v G2 H2 g2 r2 => ⟨k, by
    have r5 : Dp X.K G2 v (.bool k) := r2
    cases r5; rfl, q _ G2 H2 g2 (.bl (!k))⟩)
theorem ee_if {k : Bool} (h : ET X ρ G H c k) (h1 : k = true → EE X ρ G H a x) (h2 : k = false → EE X ρ G H b x) : EE X ρ G H (.IfExp c a b pos) x := fun G1 H1 σ g r Q q =>
  w_pe (pe_ifExp pt_w pe_w pe_w) (h G1 H1 σ g r _ fun G2 H2 g2 => by
    cases k with
    | true => exact iteT (h1 rfl G2 H2 σ (g.trans g2) (r.up g2.g) _ fun v G3 H3 g3 r3 => q v G3 H3 (g2.trans g3) r3)
    | false => exact iteF (h2 rfl G2 H2 σ (g.trans g2) (r.up g2.g) _ fun v G3 H3 g3 r3 => q v G3 H3 (g2.trans g3) r3))
theorem ee_ix (ha : EE X ρ G H a x) (hb : EE X ρ G H b y) (ho : ∀ G1 H1, Gr G H G1 H1 → XD X G1 H1 x y z) (hs : PlainIx b := by intro _ _; rfl) : EE X ρ G H (.Subscript a b pos) z := fun G1 H1 σ g r Q q =>
  w_pe (pe_ix ix_w pe_w pe_w hs) (ha G1 H1 σ g r _ fun v G2 H2 g2 r2 => hb G2 H2 σ (g.trans g2) (r.up g2.g) _ fun u G3 H3 g3 r3 => ho G3 H3 ((g.trans g2).trans g3) v u (r2.up g3.g) r3 _ fun w G4 H4 g4 r4 => q w G4 H4 ((g2.trans g3).trans g4) r4)
theorem ee_callB {n : Str} {id : String} {xs : List SV} (hm : X.mg n = none) (hv : bootBuiltins n = some (.builtin id)) (ha : EA X ρ G H (e :: es) xs) (ho : ∀ G1 H1, Gr G H G1 H1 → CD X (.builtin id) G1 H1 xs z) (hg : Gl X n := by rfl) (hn : n ≠ "__name__" := by decide) (hdb : (n == ("__debug__" : Str)) = false := by decide)
    (he : starEach (e :: es) X.env = (false, eval e X.env) :: starEach es X.env := by rfl) (hpl : (backTo pos (starEach es X.env)).any (·.1) = false := by rfl) : EE X ρ G H (.Call (.Name n p') (e :: es) [] pos) z := fun G1 H1 σ g r Q q =>
  w_pe (pe_callB cr_w hg hm hv pa_w hn hdb he hpl) (ha G1 H1 σ g r _ fun vs G2 H2 g2 r2 => ho G2 H2 (g.trans g2) vs r2 _ fun w G3 H3 g3 r3 => q w G3 H3 (g2.trans g3) r3)
theorem ee_callT {n : Str} {T : String} {xs : List SV} (hm : X.mg n = none) (hv : bootBuiltins n = some (.type T)) (ha : EA X ρ G H (e :: es) xs) (ho : ∀ G1 H1, Gr G H G1 H1 → CD X (.type T) G1 H1 xs z) (hg : Gl X n := by rfl) (hn : n ≠ "__name__" := by decide) (hdb : (n == ("__debug__" : Str)) = false := by decide)
    (he : starEach (e :: es) X.env = (false, eval e X.env) :: starEach es X.env := by rfl) (hpl : (backTo pos (starEach es X.env)).any (·.1) = false := by rfl) : EE X ρ G H (.Call (.Name n p') (e :: es) [] pos) z := fun G1 H1 σ g r Q q =>
  w_pe (pe_callTy cr_w hg hm hv pa_w hn hdb he hpl) (ha G1 H1 σ g r _ fun vs G2 H2 g2 r2 => ho G2 H2 (g.trans g2) vs r2 _ fun w G3 H3 g3 r3 => q w G3 H3 (g2.trans g3) r3)
theorem ef_callB {n : Str} {id : String} {xs : List SV} {ds : List D} (hm : X.mg n = none) (hv : bootBuiltins n = some (.builtin id)) (ha : EA X ρ G H (e :: es) xs) (ho : ∀ G1 H1, Gr G H G1 H1 → CF X (.builtin id) G1 H1 xs ds) (hg : Gl X n := by rfl) (hn : n ≠ "__name__" := by decide) (hdb : (n == ("__debug__" : Str)) = false := by decide)
    (he : starEach (e :: es) X.env = (false, eval e X.env) :: starEach es X.env := by rfl) (hpl : (backTo pos (starEach es X.env)).any (·.1) = false := by rfl) : EF X ρ G H (.Call (.Name n p') (e :: es) [] pos) ds := fun G1 H1 σ g r Q q =>
  w_pe (pe_callB cr_w hg hm hv pa_w hn hdb he hpl) (ha G1 H1 σ g r _ fun vs G2 H2 g2 r2 => ho G2 H2 (g.trans g2) vs r2 _ fun p ws G3 H3 g3 hp gp e3 r3 => q p ws G3 H3 (g2.trans g3) (g2.none' hp) gp e3 r3)
theorem ef_callT {n : Str} {T : String} {xs : List SV} {ds : List D} (hm : X.mg n = none) (hv : bootBuiltins n = some (.type T)) (ha : EA X ρ G H (e :: es) xs) (ho : ∀ G1 H1, Gr G H G1 H1 → CF X (.type T) G1 H1 xs ds) (hg : Gl X n := by rfl) (hn : n ≠ "__name__" := by decide) (hdb : (n == ("__debug__" : Str)) = false := by decide)
    (he : starEach (e :: es) X.env = (false, eval e X.env) :: starEach es X.env := by rfl) (hpl : (backTo pos (starEach es X.env)).any (·.1) = false := by rfl) : EF X ρ G H (.Call (.Name n p') (e :: es) [] pos) ds := fun G1 H1 σ g r Q q =>
  w_pe (pe_callTy cr_w hg hm hv pa_w hn hdb he hpl) (ha G1 H1 σ g r _ fun vs G2 H2 g2 r2 => ho G2 H2 (g.trans g2) vs r2 _ fun p ws G3 H3 g3 hp gp e3 r3 => q p ws G3 H3 (g2.trans g3) (g2.none' hp) gp e3 r3)
end
end Rb
set_option Elab.async false
set_option linter.all false
set_option maxRecDepth 100000
set_option maxHeartbeats 4000000
/-! The operations on data: ints, texts, tuples, lists. -/
namespace Rb
open PySem PySem.Spec PyProof.Rows L2
section
variable {K : PySem.W.Frag} {G : Hp} {v : V}
theorem sr_int {i : Int} (h : SR K G v (.d (.int i))) : v = .int i := by
  have r : Dp K G v (.int i) := h
  cases r; rfl
theorem sr_bl {i : Bool} (h : SR K G v (.d (.bool i))) : v = .bl i := by
  have r : Dp K G v (.bool i) := h
  cases r; rfl
theorem sr_str {i : Str} (h : SR K G v (.d (.str i))) : v = .str i := by
  have r : Dp K G v (.str i) := h
  cases r; rfl
theorem sr_non (h : SR K G v (.d .none)) : v = .non := by
  have r : Dp K G v .none := h
  cases r; rfl
theorem sr_tup {ds : List D} (h : SR K G v (.d (.tuple ds))) : ∃ a xs, v = .ref a ∧ TupAt K G a xs ∧ DpAll K G xs ds := by
  have r : Dp K G v (.tuple ds) := h
  cases r with | tup a b => exact ⟨_, _, rfl, a, b⟩
theorem sr_lst {ds : List D} (h : SR K G v (.d (.list ds))) : ∃ a xs, v = .ref a ∧ SqL K G a xs ∧ DpAll K G xs ds := by
  have r : Dp K G v (.list ds) := h
  cases r with | lst a b => exact ⟨_, _, rfl, a, b⟩
def isNon : D → Bool
  | .none => true
  | _ => false
theorem sr_isNon {x : D} (h : SR K G v (.d x)) : decide (v = .non) = isNon x := by
  have r : Dp K G v x := h
  cases r <;> rfl
theorem vs_strs : ∀ {xs : List Str} {vs : List V}, DpAll K G vs (xs.map .str) → vs = xs.map .str
  | [], _, h => by cases h; rfl
  | x :: xs, _, h => by
    cases h with
    | cons a b =>
      cases a
      rw [vs_strs b] <;> rfl
theorem vs_ints : ∀ {xs : List Int} {vs : List V}, DpAll K G vs (xs.map .int) → vs = xs.map .int
  | [], _, h => by cases h; rfl
  | x :: xs, _, h => by
    cases h with
    | cons a b =>
      cases a
      rw [vs_ints b] <;> rfl
theorem vs_bls : ∀ {xs : List Bool} {vs : List V}, DpAll K G vs (xs.map .bool) → vs = xs.map .bl
  | [], _, h => by cases h; rfl
  | x :: xs, _, h => by
    cases h with
    | cons a b =>
      cases a
      rw [vs_bls b] <;> rfl
theorem flat_strs : ∀ xs : List Str, (xs.map V.str).all flatV = true
  | [] => rfl
  | _ :: xs => flat_strs xs
theorem flat_ints : ∀ xs : List Int, (xs.map V.int).all flatV = true
  | [] => rfl
  | _ :: xs => flat_ints xs
theorem in_strs (a : Str) : ∀ xs : List Str, inV (.str a) (xs.map V.str) = decide (a ∈ xs)
  | [] => by simp [inV]
  | x :: xs => by
    have ih := in_strs a xs
    unfold inV at ih ⊢
    rw [List.map_cons, List.any_cons, ih]
    show ((x == a) || decide (a ∈ xs)) = _
    by_cases h : x = a
    · subst h; simp
    · have h2 : ¬ a = x := fun e => h e.symm
      simp [h, h2]
theorem in_ints (a : Int) : ∀ xs : List Int, inV (.int a) (xs.map V.int) = decide (a ∈ xs)
  | [] => by simp [inV]
  | x :: xs => by
    have ih := in_ints a xs
    unfold inV at ih ⊢
    rw [List.map_cons, List.any_cons, ih]
    show ((x == a) || decide (a ∈ xs)) = _
    by_cases h : x = a
    · subst h; simp
    · have h2 : ¬ a = x := fun e => h e.symm
      simp [h, h2]
end
section
variable {X : Cx} {G H G1 H1 : Hp}
/-! ### ints -/
theorem od_I {f : Value → Value → Sem Value} {C : Int → Int → Prop} {h : Int → Int → Int} {i j : Int} (r : OpR X f (rI C fun i j => .int (h i j))) (hc : C i j) (g : Gr G H G1 H1) : OD X f G1 H1 (.d (.int i)) (.d (.int j)) (.d (.int (h i j))) := fun v u rv ru Q q => by
  cases sr_int rv; cases sr_int ru
  exact w_or r ⟨i, j, rfl, rfl, hc, q _ G1 H1 (.refl g.gh) (.int _)⟩
theorem od_I0 {f : Value → Value → Sem Value} {h : Int → Int → Int} {i j : Int} (r : OpR X f (rI0 fun i j => .int (h i j))) (g : Gr G H G1 H1) : OD X f G1 H1 (.d (.int i)) (.d (.int j)) (.d (.int (h i j))) := fun v u rv ru Q q => by
  cases sr_int rv; cases sr_int ru
  exact w_or r ⟨i, j, rfl, rfl, q _ G1 H1 (.refl g.gh) (.int _)⟩
theorem od_B0 {f : Value → Value → Sem Value} {h : Int → Int → Bool} {i j : Int} (r : OpR X f (rI0 fun i j => .bl (h i j))) (g : Gr G H G1 H1) : OD X f G1 H1 (.d (.int i)) (.d (.int j)) (.d (.bool (h i j))) := fun v u rv ru Q q => by
  cases sr_int rv; cases sr_int ru
  exact w_or r ⟨i, j, rfl, rfl, q _ G1 H1 (.refl g.gh) (.bl _)⟩
theorem od_add {i j : Int} (g : Gr G H G1 H1) : OD X (binaryOp .Add) G1 H1 (.d (.int i)) (.d (.int j)) (.d (.int (i + j))) := od_I0 op_add g
theorem od_sub {i j : Int} (g : Gr G H G1 H1) : OD X (binaryOp .Sub) G1 H1 (.d (.int i)) (.d (.int j)) (.d (.int (i - j))) := od_I0 op_sub g
theorem od_mul {i j : Int} (hc : CMul i j) (g : Gr G H G1 H1) : OD X (binaryOp .Mult) G1 H1 (.d (.int i)) (.d (.int j)) (.d (.int (i * j))) := od_I op_mul hc g
theorem od_fdiv {i j : Int} (hc : 0 < j ∧ j < 1073741824) (g : Gr G H G1 H1) : OD X (binaryOp .FloorDiv) G1 H1 (.d (.int i)) (.d (.int j)) (.d (.int (i / j))) := od_I op_fdiv hc g
theorem od_mod {i j : Int} (hc : 0 < j) (g : Gr G H G1 H1) : OD X (binaryOp .Mod) G1 H1 (.d (.int i)) (.d (.int j)) (.d (.int (i % j))) := od_I (C := fun _ j => 0 < j) op_mod hc g
theorem od_pow {i j : Int} (hc : CPow i j) (g : Gr G H G1 H1) : OD X (binaryOp .Pow) G1 H1 (.d (.int i)) (.d (.int j)) (.d (.int (i ^ j.toNat))) := od_I op_pow hc g
theorem od_lt {i j : Int} (g : Gr G H G1 H1) : OD X (compareOp .Lt) G1 H1 (.d (.int i)) (.d (.int j)) (.d (.bool (decide (i < j)))) := od_B0 op_lt g
theorem od_le {i j : Int} (g : Gr G H G1 H1) : OD X (compareOp .LtE) G1 H1 (.d (.int i)) (.d (.int j)) (.d (.bool (decide (i ≤ j)))) := od_B0 op_le g
theorem od_gt {i j : Int} (g : Gr G H G1 H1) : OD X (compareOp .Gt) G1 H1 (.d (.int i)) (.d (.int j)) (.d (.bool (decide (j < i)))) := od_B0 op_gt g
theorem od_ge {i j : Int} (g : Gr G H G1 H1) : OD X (compareOp .GtE) G1 H1 (.d (.int i)) (.d (.int j)) (.d (.bool (decide (j ≤ i)))) := od_B0 op_ge g
/-! ### == and !=, is None -/
theorem od_eqI {i j : Int} (g : Gr G H G1 H1) : OD X (compareOp .Eq) G1 H1 (.d (.int i)) (.d (.int j)) (.d (.bool (decide (i = j)))) := fun v u rv ru Q q => by
  cases sr_int rv; cases sr_int ru
  refine w_or op_eq ⟨rfl, ?_⟩
  have e : decide (V.int i = V.int j) = decide (i = j) := by rw [dec_int, Bool.beq_eq_decide_eq]
  rw [e]
  exact q _ G1 H1 (.refl g.gh) (.bl _)
theorem od_eqS {i j : Str} (g : Gr G H G1 H1) : OD X (compareOp .Eq) G1 H1 (.d (.str i)) (.d (.str j)) (.d (.bool (decide (i = j)))) := fun v u rv ru Q q => by
  cases sr_str rv; cases sr_str ru
  refine w_or op_eq ⟨rfl, ?_⟩
  have e : decide (V.str i = V.str j) = decide (i = j) := by rw [dec_str, Bool.beq_eq_decide_eq]
  rw [e]
  exact q _ G1 H1 (.refl g.gh) (.bl _)
theorem od_neS {i j : Str} (g : Gr G H G1 H1) : OD X (compareOp .NotEq) G1 H1 (.d (.str i)) (.d (.str j)) (.d (.bool (!decide (i = j)))) := fun v u rv ru Q q => by
  cases sr_str rv; cases sr_str ru
  refine w_or op_ne ⟨rfl, ?_⟩
  have e : decide (V.str i = V.str j) = decide (i = j) := by rw [dec_str, Bool.beq_eq_decide_eq]
  rw [e]
  exact q _ G1 H1 (.refl g.gh) (.bl _)
theorem od_neB {i j : Bool} (g : Gr G H G1 H1) : OD X (compareOp .NotEq) G1 H1 (.d (.bool i)) (.d (.bool j)) (.d (.bool (i != j))) := fun v u rv ru Q q => by
  cases sr_bl rv; cases sr_bl ru
  refine w_or op_ne ⟨rfl, ?_⟩
  have e : (!decide (V.bl i = V.bl j)) = (i != j) := by rw [dec_bl] <;> rfl
  rw [e]
  exact q _ G1 H1 (.refl g.gh) (.bl _)
theorem od_eqD {d e : D} (hu : X.A.units + 64 < cLine) (hd : SeqAt.shaped d = true) (he : SeqAt.shaped e = true) (g : Gr G H G1 H1) : OD X (compareOp .Eq) G1 H1 (.d d) (.d e) (.d (.bool (PyData.eqv d e))) := fun v u rv ru Q q =>
  w_or (op_eqD hu) ⟨d, e, dp_of _ _ (dp_up g.gh d v rv), dp_of _ _ (dp_up g.gh e u ru), hd, he, q _ G1 H1 (.refl g.gh) (.bl _)⟩
theorem od_neD {d e : D} (hu : X.A.units + 64 < cLine) (hd : SeqAt.shaped d = true) (he : SeqAt.shaped e = true) (g : Gr G H G1 H1) : OD X (compareOp .NotEq) G1 H1 (.d d) (.d e) (.d (.bool (!PyData.eqv d e))) := fun v u rv ru Q q =>
  w_or (op_neD hu) ⟨d, e, dp_of _ _ (dp_up g.gh d v rv), dp_of _ _ (dp_up g.gh e u ru), hd, he, q _ G1 H1 (.refl g.gh) (.bl _)⟩
theorem od_isN {d : D} (g : Gr G H G1 H1) : OD X (compareOp .Is) G1 H1 (.d d) (.d .none) (.d (.bool (isNon d))) := fun v u rv ru Q q => by
  cases sr_non ru
  refine w_or op_isN ⟨rfl, ?_⟩
  rw [sr_isNon rv]
  exact q _ G1 H1 (.refl g.gh) (.bl _)
theorem od_notN {d : D} (g : Gr G H G1 H1) : OD X (compareOp .IsNot) G1 H1 (.d d) (.d .none) (.d (.bool (!isNon d))) := fun v u rv ru Q q => by
  cases sr_non ru
  refine w_or op_notN ⟨rfl, ?_⟩
  rw [sr_isNon rv]
  exact q _ G1 H1 (.refl g.gh) (.bl _)
theorem od_ltS {i j : Str} (g : Gr G H G1 H1) : OD X (compareOp .Lt) G1 H1 (.d (.str i)) (.d (.str j)) (.d (.bool (decide (i.cps.toList < j.cps.toList)))) := fun v u rv ru Q q => by
  cases sr_str rv; cases sr_str ru
  exact w_or op_lt_str ⟨i, j, rfl, rfl, q _ G1 H1 (.refl g.gh) (.bl _)⟩
/-! ### in, not in -/
theorem od_sign {c : Nat} {z : Str} (g : Gr G H G1 H1) : OD X (compareOp .In) G1 H1 (.d (.str ⟨#[c]⟩)) (.d (.str z)) (.d (.bool (decide (c ∈ z.cps.toList)))) := fun v u rv ru Q q => by
  cases sr_str rv; cases sr_str ru
  exact w_or op_in_sign ⟨c, z, rfl, rfl, q _ G1 H1 (.refl g.gh) (.bl _)⟩
theorem od_nsign {c : Nat} {z : Str} (g : Gr G H G1 H1) : OD X (compareOp .NotIn) G1 H1 (.d (.str ⟨#[c]⟩)) (.d (.str z)) (.d (.bool (!decide (c ∈ z.cps.toList)))) := fun v u rv ru Q q => by
  cases sr_str rv; cases sr_str ru
  exact w_or op_notIn_sign ⟨c, z, rfl, rfl, q _ G1 H1 (.refl g.gh) (.bl _)⟩
theorem od_inT {a : Str} {xs : List Str} (g : Gr G H G1 H1) : OD X (compareOp .In) G1 H1 (.d (.str a)) (.d (.tuple (xs.map .str))) (.d (.bool (decide (a ∈ xs)))) := fun v u rv ru Q q => by
  cases sr_str rv
  obtain ⟨p, vs, rfl, h1, h2⟩ := sr_tup ru
  cases vs_strs h2
  refine w_or op_in_seq ⟨p, _, rfl, .inr (same_t g.gh h1), rfl, flat_strs xs, ?_⟩
  show Q (.bl (inV (.str a) (xs.map V.str))) H1
  rw [in_strs]
  exact q _ G1 H1 (.refl g.gh) (.bl _)
theorem od_ninT {a : Str} {xs : List Str} (g : Gr G H G1 H1) : OD X (compareOp .NotIn) G1 H1 (.d (.str a)) (.d (.tuple (xs.map .str))) (.d (.bool (!decide (a ∈ xs)))) := fun v u rv ru Q q => by
  cases sr_str rv
  obtain ⟨p, vs, rfl, h1, h2⟩ := sr_tup ru
  cases vs_strs h2
  refine w_or op_notIn_seq ⟨p, _, rfl, .inr (same_t g.gh h1), rfl, flat_strs xs, ?_⟩
  show Q (.bl (!inV (.str a) (xs.map V.str))) H1
  rw [in_strs]
  exact q _ G1 H1 (.refl g.gh) (.bl _)
theorem od_inL {a : Str} {xs : List Str} (g : Gr G H G1 H1) : OD X (compareOp .In) G1 H1 (.d (.str a)) (.d (.list (xs.map .str))) (.d (.bool (decide (a ∈ xs)))) := fun v u rv ru Q q => by
  cases sr_str rv
  obtain ⟨p, vs, rfl, h1, h2⟩ := sr_lst ru
  cases vs_strs h2
  refine w_or op_in_seq ⟨p, _, rfl, .inl (g.gh.seq h1), rfl, flat_strs xs, ?_⟩
  show Q (.bl (inV (.str a) (xs.map V.str))) H1
  rw [in_strs]
  exact q _ G1 H1 (.refl g.gh) (.bl _)
theorem od_ninL {a : Str} {xs : List Str} (g : Gr G H G1 H1) : OD X (compareOp .NotIn) G1 H1 (.d (.str a)) (.d (.list (xs.map .str))) (.d (.bool (!decide (a ∈ xs)))) := fun v u rv ru Q q => by
  cases sr_str rv
  obtain ⟨p, vs, rfl, h1, h2⟩ := sr_lst ru
  cases vs_strs h2
  refine w_or op_notIn_seq ⟨p, _, rfl, .inl (g.gh.seq h1), rfl, flat_strs xs, ?_⟩
  show Q (.bl (!inV (.str a) (xs.map V.str))) H1
  rw [in_strs]
  exact q _ G1 H1 (.refl g.gh) (.bl _)
theorem od_inTI {a : Int} {xs : List Int} (g : Gr G H G1 H1) : OD X (compareOp .In) G1 H1 (.d (.int a)) (.d (.tuple (xs.map .int))) (.d (.bool (decide (a ∈ xs)))) := fun v u rv ru Q q => by
  cases sr_int rv
  obtain ⟨p, vs, rfl, h1, h2⟩ := sr_tup ru
  cases vs_ints h2
  refine w_or op_in_seq ⟨p, _, rfl, .inr (same_t g.gh h1), rfl, flat_ints xs, ?_⟩
  show Q (.bl (inV (.int a) (xs.map V.int))) H1
  rw [in_ints]
  exact q _ G1 H1 (.refl g.gh) (.bl _)
theorem od_inD {d : D} {ds : List D} (hu : X.A.units + 65 < cLine) (hd : SeqAt.shaped d = true) (he : SeqAt.shaped (.list ds) = true) (g : Gr G H G1 H1) : OD X (compareOp .In) G1 H1 (.d d) (.d (.list ds)) (.d (.bool (ds.any fun z => PyData.eqv z d))) := fun v u rv ru Q q =>
  w_or (op_inD hu) ⟨d, ds, dp_of _ _ (dp_up g.gh d v rv), dp_of _ _ (dp_up g.gh _ u ru), hd, he, q _ G1 H1 (.refl g.gh) (.bl _)⟩
theorem od_ninD {d : D} {ds : List D} (hu : X.A.units + 65 < cLine) (hd : SeqAt.shaped d = true) (he : SeqAt.shaped (.list ds) = true) (g : Gr G H G1 H1) : OD X (compareOp .NotIn) G1 H1 (.d d) (.d (.list ds)) (.d (.bool (!ds.any fun z => PyData.eqv z d))) := fun v u rv ru Q q =>
  w_or (op_notInD hu) ⟨d, ds, dp_of _ _ (dp_up g.gh d v rv), dp_of _ _ (dp_up g.gh _ u ru), hd, he, q _ G1 H1 (.refl g.gh) (.bl _)⟩
/-! ### tuple + tuple, list + list -/
theorem line_of {n : Nat} (h : n ≤ 100000) : n ≤ sizeLine := Nat.le_trans h (by decide)
theorem od_cat {ds es : List D} (hz : ds.length + es.length ≤ 100000) (g : Gr G H G1 H1) : OD X (binaryOp .Add) G1 H1 (.d (.tuple ds)) (.d (.tuple es)) (.d (.tuple (ds ++ es))) := fun v u rv ru Q q => by
  obtain ⟨p, vs, rfl, h1, h2⟩ := sr_tup rv
  obtain ⟨p', vs', rfl, h1', h2'⟩ := sr_tup ru
  have l1 := dps_len h2
  have l2 := dps_len h2'
  refine w_or op_catA ⟨p, p', vs, vs', rfl, rfl, same_t g.gh h1, same_t g.gh h1', line_of (by omega), fun e => ?_, fun _ e => ?_, fun _ _ a ha => ?_⟩
  · subst e
    cases h2
    exact q _ G1 H1 (.refl g.gh) (.tup h1' h2')
  · subst e
    cases h2'
    rw [List.append_nil] at q
    exact q _ G1 H1 (.refl g.gh) (.tup h1 h2)
  · exact q _ _ _ (.new g.gh ha) (.tup (TupAt.of upd_same) (dps_up (same_new (g.gh.free ha)) _ _ (dps_app h2 h2')))
/-- list + list, whatever they are read from -/
theorem op_catL : OpR X (binaryOp .Add) (fun x y H Q => ∃ l b xs zs, x = .ref l ∧ y = .ref b ∧ SqL X.K H l xs ∧ SqL X.K H b zs ∧ xs.length + zs.length ≤ sizeLine ∧ ∀ p, H p = none → Q (.ref p) (upd H p (.lst (xs ++ zs)))) := by
  intro pins s σ H x y v u Q I rx ry h
  obtain ⟨l, b, xs, zs, rfl, rfl, hH, hB, hz, q⟩ := h
  cases rx
  cases ry
  obtain ⟨its, r, ⟨⟨c1, d1, t1, s1⟩, n, e, hc, hd, hs⟩, _⟩ := I.list hH
  obtain ⟨its2, r2, ⟨⟨c2, d2, t2, s2⟩, n2, e2, hc2, hd2, hs2⟩, _⟩ := I.list hB
  simp only at hc hd hs hc2 hd2 hs2
  subst hc hd hs hc2 hd2 hs2
  have hl := r.length
  have hl2 := r2.length
  have ea : its.toArray ++ its2.toArray = (its ++ its2).toArray := by simp
  refine PySem.concat_meets ⟨_, e, rfl⟩ ⟨_, e2, rfl⟩ PySem.noFill_list_add PySem.seq_list_add PySem.F.slot_list_add PySem.F.entry_list_add (PySem.F.args_list_add_2 _ _) (PyProof.Rows.list_addW l b its.toArray its2.toArray n n2 none none s1 s2 (by rw [List.size_toArray, List.size_toArray]; omega)) ⟨e, e2, ?_⟩
  rw [ea]
  exact ⟨.ref _, _, I.lnew (t' := s.toks) (r.append r2) (by rw [List.length_append]; omega), rfl, q _ I.fresh⟩
theorem od_catL {ds es : List D} (hz : ds.length + es.length ≤ 100000) (g : Gr G H G1 H1) : OD X (binaryOp .Add) G1 H1 (.d (.list ds)) (.d (.list es)) (.d (.list (ds ++ es))) := fun v u rv ru Q q => by
  obtain ⟨p, vs, rfl, h1, h2⟩ := sr_lst rv
  obtain ⟨p', vs', rfl, h1', h2'⟩ := sr_lst ru
  have l1 := dps_len h2
  have l2 := dps_len h2'
  exact w_or op_catL ⟨p, p', vs, vs', rfl, rfl, g.gh.seq h1, g.gh.seq h1', line_of (by omega), fun a ha =>
    q _ _ _ (.new g.gh ha) (.lst (SqL.of upd_same) (dps_up (same_new (g.gh.free ha)) _ _ (dps_app h2 h2')))⟩
/-! ### an item -/
theorem xd_tup {ds : List D} {d : D} {i : Nat} (h : ds[i]? = some d := by rfl) (g : Gr G H G1 H1) : XD X G1 H1 (.d (.tuple ds)) (.d (.int (i : Int))) (.d d) := fun v u rv ru Q q => by
  cases sr_int ru
  obtain ⟨p, vs, rfl, h1, h2⟩ := sr_tup rv
  obtain ⟨w, e, r⟩ := dps_get h2 h
  exact w_ix ix_tup ⟨p, vs, i, w, rfl, rfl, same_t g.gh h1, atI_nat e, q w G1 H1 (.refl g.gh) r⟩
theorem xd_lst {ds : List D} {d : D} {i : Nat} (h : ds[i]? = some d := by rfl) (g : Gr G H G1 H1) : XD X G1 H1 (.d (.list ds)) (.d (.int (i : Int))) (.d d) := fun v u rv ru Q q => by
  cases sr_int ru
  obtain ⟨p, vs, rfl, h1, h2⟩ := sr_lst rv
  obtain ⟨w, e, r⟩ := dps_get h2 h
  exact w_ix ix_list ⟨p, vs, i, w, rfl, rfl, g.gh.seq h1, atI_nat e, q w G1 H1 (.refl g.gh) r⟩
theorem xd_str {z : Str} {c i : Nat} (hl : z.length ≤ 100000) (h : z.cps.toList[i]? = some c) (g : Gr G H G1 H1) : XD X G1 H1 (.d (.str z)) (.d (.int (i : Int))) (.d (.str ⟨#[c]⟩)) := fun v u rv ru Q q => by
  cases sr_int ru
  cases sr_str rv
  exact w_ix ix_str ⟨z, i, c, rfl, rfl, line_of hl, atI_nat h, q _ G1 H1 (.refl g.gh) (.str _)⟩
/-! ### built-in calls -/
theorem srs1 {K : PySem.W.Frag} {x : SV} {vs : List V} (h : SRs K G vs [x]) : ∃ v, vs = [v] ∧ SR K G v x := by
  cases h with | cons a b => cases b; exact ⟨_, rfl, a⟩
theorem srs2 {K : PySem.W.Frag} {x y : SV} {vs : List V} (h : SRs K G vs [x, y]) : ∃ v u, vs = [v, u] ∧ SR K G v x ∧ SR K G u y := by
  cases h with | cons a b => cases b with | cons a2 b2 => cases b2; exact ⟨_, _, rfl, a, a2⟩
theorem cd_lenT {ds : List D} (g : Gr G H G1 H1) : CD X (.builtin "len") G1 H1 [.d (.tuple ds)] (.d (.int (ds.length : Nat))) := fun vs r Q q => by
  obtain ⟨v, rfl, r1⟩ := srs1 r
  obtain ⟨p, us, rfl, h1, h2⟩ := sr_tup r1
  rw [← dps_len h2] at q
  exact w_cr call_len_seq ⟨p, us, rfl, .inr (same_t g.gh h1), q _ G1 H1 (.refl g.gh) (.int _)⟩
theorem cd_lenL {ds : List D} (g : Gr G H G1 H1) : CD X (.builtin "len") G1 H1 [.d (.list ds)] (.d (.int (ds.length : Nat))) := fun vs r Q q => by
  obtain ⟨v, rfl, r1⟩ := srs1 r
  obtain ⟨p, us, rfl, h1, h2⟩ := sr_lst r1
  rw [← dps_len h2] at q
  exact w_cr call_len_seq ⟨p, us, rfl, .inl (g.gh.seq h1), q _ G1 H1 (.refl g.gh) (.int _)⟩
theorem cd_lenS {z : Str} (hl : z.length ≤ 100000) (g : Gr G H G1 H1) : CD X (.builtin "len") G1 H1 [.d (.str z)] (.d (.int (z.length : Nat))) := fun vs r Q q => by
  obtain ⟨v, rfl, r1⟩ := srs1 r
  cases sr_str r1
  exact w_cr call_len_str ⟨z, rfl, line_of hl, q _ G1 H1 (.refl g.gh) (.int _)⟩
theorem cd_all {bs : List Bool} (hc : X.calm = true) (g : Gr G H G1 H1) : CD X (.builtin "all") G1 H1 [.d (.list (bs.map .bool))] (.d (.bool (bs.all id))) := fun vs r Q q => by
  obtain ⟨v, rfl, r1⟩ := srs1 r
  obtain ⟨p, us, rfl, h1, h2⟩ := sr_lst r1
  cases vs_bls h2
  exact w_cr (cr_all hc) ⟨p, bs, rfl, g.gh.seq h1, q _ G1 H1 (.refl g.gh) (.bl _)⟩
theorem cd_int {i : Int} (g : Gr G H G1 H1) : CD X (.type "int") G1 H1 [.d (.int i)] (.d (.int i)) := fun vs r Q q => by
  obtain ⟨v, rfl, r1⟩ := srs1 r
  cases sr_int r1
  exact w_cr call_int1 (.inl ⟨i, rfl, q _ G1 H1 (.refl g.gh) (.int _)⟩)
theorem cd_tuple {ds : List D} (g : Gr G H G1 H1) : CD X (.type "tuple") G1 H1 [.d (.list ds)] (.d (.tuple ds)) := fun vs r Q q => by
  obtain ⟨v, rfl, r1⟩ := srs1 r
  obtain ⟨p, us, rfl, h1, h2⟩ := sr_lst r1
  exact w_cr call_tuple_of ⟨p, us, rfl, .inl ⟨g.gh.seq h1, fun a ha => q _ _ _ (.new g.gh ha) (.tup (TupAt.of upd_same) (dps_up (same_new (g.gh.free ha)) _ _ h2))⟩⟩
/-- list(t), list(l): a new one -/
theorem cf_listT {ds : List D} (g : Gr G H G1 H1) : CF X (.type "list") G1 H1 [.d (.tuple ds)] ds := fun vs r Q q => by
  obtain ⟨v, rfl, r1⟩ := srs1 r
  obtain ⟨p, us, rfl, h1, h2⟩ := sr_tup r1
  exact w_cr call_list_of ⟨p, us, rfl, .inr (same_t g.gh h1), fun a ha => q _ us G1 _ (.tmp g.gh ha) ha (g.gh.free ha) upd_same h2⟩
theorem cf_listL {ds : List D} (g : Gr G H G1 H1) : CF X (.type "list") G1 H1 [.d (.list ds)] ds := fun vs r Q q => by
  obtain ⟨v, rfl, r1⟩ := srs1 r
  obtain ⟨p, us, rfl, h1, h2⟩ := sr_lst r1
  exact w_cr call_list_of ⟨p, us, rfl, .inl (g.gh.seq h1), fun a ha => q _ us G1 _ (.tmp g.gh ha) ha (g.gh.free ha) upd_same h2⟩
/-! ### isinstance -/
theorem tyx_tup {K : PySem.W.Frag} {H : Hp} {a : Addr} {xs : List V} (h : SqT K H a xs) : TyX K H (.ref a) (.type "tuple") := by
  rcases h with (h | ⟨o, h⟩) | ⟨o, its, n, h, hc, _⟩
  · exact .base (.tup h)
  · exact .fTuple h
  · exact .kTuple h hc
theorem isi_of {v : V} {t : Value} {c : String} {b : Bool} (ty : TyX X.K H1 v t) (e : PySem.W.kitOne X.K t (.type c) = some b) {x : SV} (hv : ∀ v', SR X.K G1 v' x → v' = v) (g : Gr G H G1 H1) :
    CD X (.builtin "isinstance") G1 H1 [x, .v (.ty c)] (.d (.bool b)) := fun vs r Q q => by
  obtain ⟨v1, v2, rfl, r1, r2⟩ := srs2 r
  cases hv v1 r1
  cases (show v2 = V.ty c from r2)
  exact w_cr call_isi ⟨_, _, t, .type c, b, rfl, .ty c, ty, e, q _ G1 H1 (.refl g.gh) (.bl b)⟩
theorem isi_str {z : Str} (g : Gr G H G1 H1) : CD X (.builtin "isinstance") G1 H1 [.d (.str z), .v (.ty "str")] (.d (.bool true)) :=
  isi_of (v := .str z) (.base (.str z)) (L2.kit_ty (by decide +kernel)) (fun _ r => sr_str r) g
theorem isi_bool {z : Bool} (g : Gr G H G1 H1) : CD X (.builtin "isinstance") G1 H1 [.d (.bool z), .v (.ty "bool")] (.d (.bool true)) :=
  isi_of (v := .bl z) (.base (.bl z)) (L2.kit_ty (by decide +kernel)) (fun _ r => sr_bl r) g
theorem isi_tup {ds : List D} (g : Gr G H G1 H1) : CD X (.builtin "isinstance") G1 H1 [.d (.tuple ds), .v (.ty "tuple")] (.d (.bool true)) := fun vs r Q q => by
  obtain ⟨v1, v2, rfl, r1, r2⟩ := srs2 r
  obtain ⟨p, us, rfl, h1, h2⟩ := sr_tup r1
  cases (show v2 = V.ty "tuple" from r2)
  exact w_cr call_isi ⟨_, _, .type "tuple", .type "tuple", true, rfl, .ty _, tyx_tup (same_t g.gh h1), L2.kit_ty (by decide +kernel), q _ G1 H1 (.refl g.gh) (.bl true)⟩
end
end Rb
set_option Elab.async false
set_option linter.all false
set_option maxRecDepth 100000
set_option maxHeartbeats 4000000
/-! Targets, what is walked, comprehensions, statements, loops, calls of defs. -/
namespace Rb
open PySem PySem.Spec PyProof.Rows L2
/-! ### targets -/
def sets (σ : L2.St) (ws : List (Nat × V)) : L2.St := ws.foldl (fun σ w => σ.set w.1 (some w.2)) σ
inductive WR (K : PySem.W.Frag) (G : Hp) : List (Nat × V) → List (Nat × D) → Prop
  | nil : WR K G [] []
  | cons {i : Nat} {v : V} {d : D} {ws : List (Nat × V)} {us : List (Nat × D)} : Dp K G v d → WR K G ws us → WR K G ((i, v) :: ws) ((i, d) :: us)
theorem WR.er {K : PySem.W.Frag} {G : Hp} : ∀ {ws : List (Nat × V)} {us : List (Nat × D)} {σ : L2.St} {ρ : Env}, WR K G ws us → ER K G σ ρ → ER K G (sets σ ws) (setsR ρ us)
  | _, _, _, _, .nil, h => h
  | _, _, σ, ρ, .cons (i := i) (v := v) (d := d) (ws := ws) (us := us) a b, h => by
    have q : ER K G (sets (σ.set i (some v)) ws) (setsR (ρ.set i (some (.d d))) us) := WR.er b (ER.set (x := .d d) a i h)
    exact q
theorem WR.app {K : PySem.W.Frag} {G : Hp} : ∀ {ws ws' : List (Nat × V)} {us us' : List (Nat × D)}, WR K G ws us → WR K G ws' us' → WR K G (ws ++ ws') (us ++ us')
  | _, _, _, _, .nil, h => h
  | _, _, _, _, .cons a b, h => .cons a (WR.app b h)
theorem WR.idx {K : PySem.W.Frag} {G : Hp} : ∀ {ws : List (Nat × V)} {us : List (Nat × D)}, WR K G ws us → ws.map (·.1) = us.map (·.1)
  | _, _, .nil => rfl
  | _, _, .cons _ b => by rw [List.map_cons, List.map_cons, WR.idx b]
theorem sets_app (σ : L2.St) (a b : List (Nat × V)) : sets σ (a ++ b) = sets (sets σ a) b := List.foldl_append ..
theorem wipe_len (σ : L2.St) : ∀ vs : List Nat, (L2.wipe σ vs).length = σ.length := wipe_length σ
theorem wipe_far {σ : L2.St} {i : Nat} {x : Option V} : ∀ (vs : List Nat) (j : Nat), ¬ i = j → (L2.wipe (σ.set i x) vs)[j]? = (L2.wipe σ vs)[j]?
  | [], j, hj => by show (σ.set i x)[j]? = σ[j]?; rw [List.getElem?_set_ne hj]
  | v :: vs, j, hj => by
    show ((L2.wipe (σ.set i x) vs).set v none)[j]? = ((L2.wipe σ vs).set v none)[j]?
    by_cases e : v = j
    · subst e
      rw [List.getElem?_set_self', List.getElem?_set_self', wipe_far vs v hj]
    · rw [List.getElem?_set_ne e, List.getElem?_set_ne e, wipe_far vs j hj]
theorem wipe_set {σ : L2.St} {i : Nat} {x : Option V} : ∀ {vs : List Nat}, i ∈ vs → L2.wipe (σ.set i x) vs = L2.wipe σ vs
  | v :: vs, h => by
    by_cases hv : i ∈ vs
    · show (L2.wipe (σ.set i x) vs).set v none = (L2.wipe σ vs).set v none
      rw [wipe_set hv]
    · have e : i = v := by
        rcases List.mem_cons.mp h with e | e
        · exact e
        · exact absurd e hv
      subst e
      apply List.ext_getElem?
      intro j
      show ((L2.wipe (σ.set i x) vs).set i none)[j]? = ((L2.wipe σ vs).set i none)[j]?
      by_cases hj : i = j
      · subst hj
        rw [List.getElem?_set_self', List.getElem?_set_self']
        by_cases hl : i < σ.length
        · rw [List.getElem?_eq_getElem (by rw [wipe_len, List.length_set]; exact hl), List.getElem?_eq_getElem (by rw [wipe_len]; exact hl)] <;> rfl
        · rw [List.getElem?_eq_none (by rw [wipe_len, List.length_set]; omega), List.getElem?_eq_none (by rw [wipe_len]; omega)]
      · rw [List.getElem?_set_ne hj, List.getElem?_set_ne hj]
        exact wipe_far vs j hj
theorem wipe_sets {vs : List Nat} : ∀ {ws : List (Nat × V)} {σ : L2.St}, (∀ i ∈ ws.map (·.1), i ∈ vs) → L2.wipe (sets σ ws) vs = L2.wipe σ vs
  | [], _, _ => rfl
  | w :: ws, σ, h => by
    show L2.wipe (sets (σ.set w.1 (some w.2)) ws) vs = _
    rw [wipe_sets (fun i hi => h i (List.mem_cons_of_mem _ hi)), wipe_set (h w.1 List.mem_cons_self)]
theorem wipe_none {σ : L2.St} {vs : List Nat} : ∀ us : List Nat, (∀ i ∈ us, i ∈ vs) → L2.wipe (L2.wipe σ us) vs = L2.wipe σ vs
  | [], _ => rfl
  | u :: us, h => by
    show L2.wipe ((L2.wipe σ us).set u none) vs = _
    rw [wipe_set (h u List.mem_cons_self), wipe_none us fun i hi => h i (List.mem_cons_of_mem _ hi)]
theorem wipe_wipe {σ : L2.St} {vs : List Nat} : L2.wipe (L2.wipe σ vs) vs = L2.wipe σ vs := wipe_none vs fun _ h => h
def wGs (X : Cx) (ts : List Expr) : TGs := fun vs σ H Q => ∀ pins s us, Inv X pins σ H s → Vals vs us → wpAny (model X.prog X.w) X.A (assignInOrder ((assignEach ts X.env).map (·.2)) us) (fun _ s' => ∃ σ' H', Inv X pins σ' H' s' ∧ Q σ' H') X.xe s
theorem pgs_w {X : Cx} {ts : List Expr} : PGs X ts (wGs X ts) := ⟨fun pins s _ _ _ us _ I r h => h pins s us I r⟩
theorem w_pgs {X : Cx} {ts : List Expr} {t : TGs} {vs : List V} {σ : L2.St} {H : Hp} {Q : L2.St → Hp → Prop} (h : PGs X ts t) (q : t vs σ H Q) : wGs X ts vs σ H Q := fun pins s us I r => h.run pins s σ H vs us Q I r q
/-- the target takes the data d: the slots us are stored -/
def GA (X : Cx) (tg : Expr) (d : D) (us : List (Nat × D)) : Prop := ∀ (G H : Hp) (σ : L2.St) (v : V), Same G H → Dp X.K G v d → ∀ Q : L2.St → Hp → Prop, (∀ ws, WR X.K G ws us → Q (sets σ ws) H) → wG X tg v σ H Q
def GAs (X : Cx) (ts : List Expr) (ds : List D) (us : List (Nat × D)) : Prop := ∀ (G H : Hp) (σ : L2.St) (vs : List V), Same G H → DpAll X.K G vs ds → ∀ Q : L2.St → Hp → Prop, (∀ ws, WR X.K G ws us → Q (sets σ ws) H) → wGs X ts vs σ H Q
section
variable {X : Cx} {pos : Pos} {e : Expr} {es : List Expr}
theorem ga_nm (i : Nat) {n : Str} {d : D} (hN : X.N.Nodup) (hi : X.N[i]? = some n := by rfl) (hx : Loc X.env.scope n := by first | exact Or.inl rfl | exact Or.inr rfl) (hf : X.fn n = true ∨ X.env.scope.names.lookup n = some .local := by first | exact .inl rfl | exact .inr rfl) : GA X (.Name n pos) d [(i, d)] := fun G H σ v g r Q q =>
  w_pg (pg_name hN hi hx hf) (q [(i, v)] (.cons r .nil))
theorem gas_nil : GAs X [] [] [] := fun G H σ vs g r Q q => w_pgs pgs_nil ⟨by cases r; rfl, q [] .nil⟩
theorem gas_cons {d : D} {ds : List D} {us us' : List (Nat × D)} (h : GA X e d us) (hr : GAs X es ds us') (hs : (assignEach (e :: es) X.env).map (·.2) = assign e X.env :: (assignEach es X.env).map (·.2) := by rfl) : GAs X (e :: es) (d :: ds) (us ++ us') := fun G H σ vs g r Q q => by
  cases r with
  | cons a b =>
    refine w_pgs (pgs_cons pg_w pgs_w hs) ⟨_, _, rfl, h G H σ _ g a _ fun ws w1 => hr G H _ _ g b _ fun ws' w2 => ?_⟩
    rw [← sets_app]
    exact q _ (w1.app w2)
theorem ga_tup {k : Nat} {ds : List D} {us : List (Nat × D)} (hc : X.calm = true) (h : GAs X es ds us) (hn : (assignEach es X.env).length = ds.length := by rfl) (hst : (assignEach es X.env).findIdx? (·.1) = none := by rfl) : GA X (.Tuple es k pos) (.tuple ds) us := fun G H σ v g r Q q => by
  cases r with
  | tup a b => exact w_pg (pg_tup hc pgs_w hn hst) ⟨_, _, rfl, same_t g a, dps_len b, h G H σ _ g b Q q⟩
end
/-! ### what is walked -/
/-- the iterator J gives the data xs, from any heap that holds G -/
def ItD (K : PySem.W.Frag) (J : It) (G : Hp) (xs : List D) : Prop := ∀ (i : Nat) (G' H' : Hp), Same G G' → Same G' H' →
  (∀ d, xs[i]? = some d → J.go i H' ∧ ∀ v H2, J.yld i H' v H2 → ∃ G2, Gr G' H' G2 H2 ∧ Dp K G2 v d) ∧ (xs.length ≤ i → J.stop i H')
def EI (X : Cx) (ρ : Env) (G H : Hp) (tg iter : Expr) (xs : List D) : Prop := ∀ G1 H1 σ, Gr G H G1 H1 → ER X.K G1 σ ρ → ∀ R : It → Hp → Prop, (∀ J G2 H2, Gr G1 H1 G2 H2 → ItD X.K J G2 xs → R J H2) → wI X tg iter σ H1 R
section
variable {K : PySem.W.Frag} {G : Hp}
theorem itd_list {a : Addr} {vs : List V} {ds : List D} (h : SqL K G a vs) (r : DpAll K G vs ds) : ItD K (Itl K a) G ds := fun i G' H' g gh => by
  have hH : SqL K H' a vs := gh.seq (g.seq h)
  refine ⟨fun d hd => ?_, fun hl => ⟨vs, hH, by rw [dps_len r]; exact hl⟩⟩
  obtain ⟨v, e, r2⟩ := dps_get r hd
  refine ⟨⟨vs, v, hH, e⟩, fun v' H2 y => ?_⟩
  obtain ⟨rfl, y⟩ := y
  have e2 := y vs hH
  rw [e] at e2
  cases e2
  exact ⟨G', .refl gh, dp_up g _ _ r2⟩
theorem itd_tup {a : Addr} {vs : List V} {ds : List D} (h : TupAt K G a vs) (r : DpAll K G vs ds) : ItD K (Itt K a) G ds := fun i G' H' g gh => by
  have hH : SqT K H' a vs := same_t gh (h.up g)
  refine ⟨fun d hd => ?_, fun hl => ⟨vs, hH, by rw [dps_len r]; exact hl⟩⟩
  obtain ⟨v, e, r2⟩ := dps_get r hd
  refine ⟨⟨vs, v, hH, e⟩, fun v' H2 y => ?_⟩
  obtain ⟨rfl, y⟩ := y
  have e2 := y vs hH
  rw [e] at e2
  cases e2
  exact ⟨G', .refl gh, dp_up g _ _ r2⟩
def upTo (n : Nat) : List D := (List.range n).map fun i => .int ((0 : Int) + (i : Nat))
theorem itd_range {n : Nat} : ItD K (Itr 0 n) G (upTo n) := fun i G' H' g gh => by
  refine ⟨fun d hd => ?_, fun hl => (by simpa [upTo] using hl : n ≤ i)⟩
  unfold upTo at hd
  rw [List.getElem?_map] at hd
  by_cases hi : i < n
  · rw [List.getElem?_range hi] at hd
    cases hd
    refine ⟨hi, fun v' H2 y => ?_⟩
    obtain ⟨rfl, rfl⟩ := y
    exact ⟨G', .refl gh, .int _⟩
  · rw [List.getElem?_eq_none (by simpa using hi)] at hd
    cases hd
def signs (z : Str) : List D := z.cps.toList.map fun c => .str ⟨#[c]⟩
theorem itd_str {z : Str} : ItD K (Its z) G (signs z) := fun i G' H' g gh => by
  refine ⟨fun d hd => ?_, fun hl => (by simpa [signs] using hl : z.cps.size ≤ i)⟩
  unfold signs at hd
  rw [List.getElem?_map, Array.getElem?_toList] at hd
  by_cases hi : i < z.cps.size
  · rw [Array.getElem?_eq_getElem hi] at hd
    cases hd
    refine ⟨hi, fun v' H2 y => ?_⟩
    obtain ⟨rfl, c, e, rfl⟩ := y
    rw [Array.getElem?_eq_getElem hi] at e
    cases e
    exact ⟨G', .refl gh, .str _⟩
  · rw [Array.getElem?_eq_none (by omega)] at hd
    cases hd
def pairsOf (ds es : List D) : List D := (ds.zip es).map fun p => .tuple [p.1, p.2]
theorem pairsOf_get {ds es : List D} {i : Nat} {d : D} (h : (pairsOf ds es)[i]? = some d) : ∃ x y, ds[i]? = some x ∧ es[i]? = some y ∧ d = .tuple [x, y] := by
  unfold pairsOf at h
  rw [List.getElem?_map] at h
  cases e : (ds.zip es)[i]? with
  | none => rw [e] at h; cases h
  | some p =>
    rw [e] at h
    obtain ⟨h1, h2⟩ := List.getElem?_zip_eq_some.mp e
    exact ⟨p.1, p.2, h1, h2, (Option.some.inj h).symm⟩
theorem itd_zipT {a b : Addr} {vs us : List V} {ds es : List D} (h : TupAt K G a vs) (r : DpAll K G vs ds) (h' : TupAt K G b us) (r' : DpAll K G us es) : ItD K (RZ.ItzT K a b) G (pairsOf ds es) := fun i G' H' g gh => by
  have hH : SqT K H' a vs := same_t gh (h.up g)
  have hH' : SqT K H' b us := same_t gh (h'.up g)
  refine ⟨fun d hd => ?_, fun hl => ⟨vs, us, hH, hH', ?_⟩⟩
  · obtain ⟨x, y, e1, e2, rfl⟩ := pairsOf_get hd
    obtain ⟨v, f1, q1⟩ := dps_get r e1
    obtain ⟨u, f2, q2⟩ := dps_get r' e2
    refine ⟨⟨vs, us, v, u, hH, hH', f1, f2⟩, fun v' H2 yy => ?_⟩
    obtain ⟨T, v2, u2, rfl, hT, rfl, y1, y2⟩ := yy
    have e3 := y1 vs hH
    have e4 := y2 us hH'
    rw [f1] at e3
    rw [f2] at e4
    cases e3
    cases e4
    exact ⟨_, .new gh hT, .tup (TupAt.of upd_same) (.cons (dp_up (g.trans (same_new (gh.free hT))) _ _ q1) (.cons (dp_up (g.trans (same_new (gh.free hT))) _ _ q2) .nil))⟩
  · rw [dps_len r, dps_len r']
    unfold pairsOf at hl
    rw [List.length_map, List.length_zip] at hl
    omega
theorem itd_zipL {a b : Addr} {vs us : List V} {ds es : List D} (h : SqL K G a vs) (r : DpAll K G vs ds) (h' : SqL K G b us) (r' : DpAll K G us es) : ItD K (Itz K a b) G (pairsOf ds es) := fun i G' H' g gh => by
  have hH : SqL K H' a vs := gh.seq (g.seq h)
  have hH' : SqL K H' b us := gh.seq (g.seq h')
  refine ⟨fun d hd => ?_, fun hl => ⟨vs, us, hH, hH', ?_⟩⟩
  · obtain ⟨x, y, e1, e2, rfl⟩ := pairsOf_get hd
    obtain ⟨v, f1, q1⟩ := dps_get r e1
    obtain ⟨u, f2, q2⟩ := dps_get r' e2
    refine ⟨⟨vs, us, v, u, hH, hH', f1, f2⟩, fun v' H2 yy => ?_⟩
    obtain ⟨T, v2, u2, rfl, hT, rfl, y1, y2⟩ := yy
    have e3 := y1 vs hH
    have e4 := y2 us hH'
    rw [f1] at e3
    rw [f2] at e4
    cases e3
    cases e4
    exact ⟨_, .new gh hT, .tup (TupAt.of upd_same) (.cons (dp_up (g.trans (same_new (gh.free hT))) _ _ q1) (.cons (dp_up (g.trans (same_new (gh.free hT))) _ _ q2) .nil))⟩
  · rw [dps_len r, dps_len r']
    unfold pairsOf at hl
    rw [List.length_map, List.length_zip] at hl
    omega
def numbered (ds : List D) : List D := (ds.zipIdx).map fun p => .tuple [.int ((p.2 : Nat) : Int), p.1]
theorem numbered_get {ds : List D} {i : Nat} {d : D} (h : (numbered ds)[i]? = some d) : ∃ x, ds[i]? = some x ∧ d = .tuple [.int ((i : Nat) : Int), x] := by
  unfold numbered at h
  rw [List.getElem?_map, List.getElem?_zipIdx] at h
  cases e : ds[i]? with
  | none => rw [e] at h; cases h
  | some x =>
    rw [e] at h
    refine ⟨x, rfl, ?_⟩
    have q := (Option.some.inj h).symm
    rw [q]
    show PyData.tuple [.int ((0 + i : Nat) : Int), x] = _
    rw [Nat.zero_add]
theorem itd_enumL {a : Addr} {vs : List V} {ds : List D} (h : SqL K G a vs) (r : DpAll K G vs ds) : ItD K (Ite K a) G (numbered ds) := fun i G' H' g gh => by
  have hH : SqL K H' a vs := gh.seq (g.seq h)
  refine ⟨fun d hd => ?_, fun hl => ⟨vs, hH, ?_⟩⟩
  · obtain ⟨x, e1, rfl⟩ := numbered_get hd
    obtain ⟨v, f1, q1⟩ := dps_get r e1
    refine ⟨⟨vs, v, hH, f1⟩, fun v' H2 yy => ?_⟩
    obtain ⟨T, v2, rfl, hT, rfl, y1⟩ := yy
    have e3 := y1 vs hH
    rw [f1] at e3
    cases e3
    exact ⟨_, .new gh hT, .tup (TupAt.of upd_same) (.cons (.int _) (.cons (dp_up (g.trans (same_new (gh.free hT))) _ _ q1) .nil))⟩
  · rw [dps_len r]
    unfold numbered at hl
    rw [List.length_map, List.length_zipIdx] at hl
    exact hl
end
section
variable {X : Cx} {ρ : Env} {G H : Hp} {tg e e2 : Expr} {pos p' tpos : Pos} {ds es : List D}
theorem ei_list (h : EE X ρ G H e (.d (.list ds))) : EI X ρ G H tg e ds := fun G1 H1 σ g r R q => w_pi (pi_list pe_w) (h G1 H1 σ g r _ fun v G2 H2 g2 r2 => by
  obtain ⟨a, vs, rfl, h1, h2⟩ := sr_lst r2
  exact ⟨a, rfl, ⟨vs, g2.gh.seq h1⟩, q _ G2 H2 g2 (itd_list h1 h2)⟩)
theorem ei_tup (h : EE X ρ G H e (.d (.tuple ds))) : EI X ρ G H tg e ds := fun G1 H1 σ g r R q => w_pi (pi_tup pe_w) (h G1 H1 σ g r _ fun v G2 H2 g2 r2 => by
  obtain ⟨a, vs, rfl, h1, h2⟩ := sr_tup r2
  exact ⟨a, rfl, ⟨vs, same_t g2.gh h1⟩, q _ G2 H2 g2 (itd_tup h1 h2)⟩)
theorem ei_str {z : Str} (h : EE X ρ G H e (.d (.str z))) : EI X ρ G H tg e (signs z) := fun G1 H1 σ g r R q => w_pi (pi_str pe_w) (h G1 H1 σ g r _ fun v G2 H2 g2 r2 => ⟨z, sr_str r2, q _ G2 H2 g2 itd_str⟩)
theorem ei_range {n : Nat} (hm : X.mg "range" = none) (h : EE X ρ G H e (.d (.int (n : Nat)))) (hn : n ≤ 100000) (hg : Gl X "range" := by rfl) (hs : starEach [e] X.env = [(false, eval e X.env)] := by rfl) : EI X ρ G H tg (.Call (.Name "range" p') [e] [] pos) (upTo n) := fun G1 H1 σ g r R q =>
  w_pi (pi_range1 hg hm (pa_cons pe_w pa_nil hs) hs) (h G1 H1 σ g r _ fun v G2 H2 g2 r2 => ⟨(n : Nat), by rw [sr_int r2], by omega, by omega, q _ G2 H2 g2 (by
    have z : ((n : Nat) : Int).toNat = n := by omega
    rw [z]
    exact itd_range)⟩)
theorem ei_zipT {elts : List Expr} {kk : Nat} (hm : X.mg "zip" = none) (h : EE X ρ G H e (.d (.tuple ds))) (h2 : EE X ρ G H e2 (.d (.tuple es))) (hg : Gl X "zip" := by rfl) (hs : starEach [e, e2] X.env = (false, eval e X.env) :: starEach [e2] X.env := by rfl)
    (hs2 : starEach [e2] X.env = (false, eval e2 X.env) :: starEach [] X.env := by rfl) (hpl : (backTo pos (starEach [e2] X.env)).any (·.1) = false := by rfl) : EI X ρ G H (.Tuple elts kk tpos) (.Call (.Name "zip" p') [e, e2] [] pos) (pairsOf ds es) := fun G1 H1 σ g r R q =>
  w_pi (RZ.pi_zipA hg hm (pa_cons pe_w (pa_cons pe_w pa_nil hs2) hs) hs hpl) (h G1 H1 σ g r _ fun v G2 H2 g2 r2 => h2 G2 H2 σ (g.trans g2) (r.up g2.g) _ fun u G3 H3 g3 r3 => by
    obtain ⟨a, vs, rfl, h1, q1⟩ := sr_tup r2
    obtain ⟨b, us, rfl, h2, q2⟩ := sr_tup r3
    exact ⟨a, b, vs, us, rfl, .inr ⟨same_t g3.gh (h1.up g3.g), same_t g3.gh h2, q _ G3 H3 (g2.trans g3) (itd_zipT (h1.up g3.g) (dps_up g3.g _ _ q1) h2 q2)⟩⟩)
theorem ei_zipL {elts : List Expr} {kk : Nat} (hm : X.mg "zip" = none) (h : EE X ρ G H e (.d (.list ds))) (h2 : EE X ρ G H e2 (.d (.list es))) (hg : Gl X "zip" := by rfl) (hs : starEach [e, e2] X.env = (false, eval e X.env) :: starEach [e2] X.env := by rfl)
    (hs2 : starEach [e2] X.env = (false, eval e2 X.env) :: starEach [] X.env := by rfl) (hpl : (backTo pos (starEach [e2] X.env)).any (·.1) = false := by rfl) : EI X ρ G H (.Tuple elts kk tpos) (.Call (.Name "zip" p') [e, e2] [] pos) (pairsOf ds es) := fun G1 H1 σ g r R q =>
  w_pi (RZ.pi_zipA hg hm (pa_cons pe_w (pa_cons pe_w pa_nil hs2) hs) hs hpl) (h G1 H1 σ g r _ fun v G2 H2 g2 r2 => h2 G2 H2 σ (g.trans g2) (r.up g2.g) _ fun u G3 H3 g3 r3 => by
    obtain ⟨a, vs, rfl, h1, q1⟩ := sr_lst r2
    obtain ⟨b, us, rfl, h2, q2⟩ := sr_lst r3
    exact ⟨a, b, vs, us, rfl, .inl ⟨g3.gh.seq (g3.g.seq h1), g3.gh.seq h2, q _ G3 H3 (g2.trans g3) (itd_zipL (g3.g.seq h1) (dps_up g3.g _ _ q1) h2 q2)⟩⟩)
theorem ei_enumL {elts : List Expr} {kk : Nat} (hm : X.mg "enumerate" = none) (h : EE X ρ G H e (.d (.list ds))) (hg : Gl X "enumerate" := by rfl) (hs : starEach [e] X.env = [(false, eval e X.env)] := by rfl) : EI X ρ G H (.Tuple elts kk tpos) (.Call (.Name "enumerate" p') [e] [] pos) (numbered ds) := fun G1 H1 σ g r R q =>
  w_pi (pi_enum hg hm (pa_cons pe_w pa_nil hs) hs) (h G1 H1 σ g r _ fun v G2 H2 g2 r2 => by
    obtain ⟨a, vs, rfl, h1, q1⟩ := sr_lst r2
    exact ⟨a, vs, rfl, g2.gh.seq h1, q _ G2 H2 g2 (itd_enumL h1 q1)⟩)
end
end Rb
set_option Elab.async false
set_option linter.all false
set_option maxRecDepth 100000
set_option maxHeartbeats 4000000
/-! Comprehensions, statements, loops, calls of defs. -/
namespace Rb
open PySem PySem.Spec PyProof.Rows L2
/-! ### a comprehension's block -/
section
variable (X : Cx) (scope : Scope)
def bG (tg : Expr) : TG := fun v σ H Q => ∀ (s : Shared) (H0 : Hp) (C : Addr) (cl : List (Str × Addr)) (fp : List Addr), wG (X.blk s H0 scope (compEnvC scope cl C X.env) fp) tg v σ H Q
def bT (ifs : List Expr) : TT := fun σ H Q => ∀ (s : Shared) (H0 : Hp) (C : Addr) (cl : List (Str × Addr)) (fp : List Addr), wPTs (X.blk s H0 scope (compEnvC scope cl C X.env) fp) ifs σ H Q
def bE (e : Expr) : TE := fun σ H Q => ∀ (s : Shared) (H0 : Hp) (C : Addr) (cl : List (Str × Addr)) (fp : List Addr), wE (X.blk s H0 scope (compEnvC scope cl C X.env) fp) e σ H Q
def bI (tg iter : Expr) : TI := fun σ H Q => ∀ (s : Shared) (H0 : Hp) (C : Addr) (cl : List (Str × Addr)) (fp : List Addr), wI (X.blk s H0 scope (compEnvC scope cl C X.env) fp) tg iter σ H Q
end
section
variable {X : Cx} {scope : Scope}
theorem pg_b {tg : Expr} (s : Shared) (H : Hp) (C : Addr) (cl : List (Str × Addr)) (fp : List Addr) : PG (X.blk s H scope (compEnvC scope cl C X.env) fp) tg (bG X scope tg) := ⟨fun pins s' _ _ _ u _ I r h => h s H C cl fp pins s' u I r⟩
theorem pts_b {ifs : List Expr} (s : Shared) (H : Hp) (C : Addr) (cl : List (Str × Addr)) (fp : List Addr) : PTs (X.blk s H scope (compEnvC scope cl C X.env) fp) ifs (bT X scope ifs) := ⟨fun pins s' _ _ _ I h => h s H C cl fp pins s' I⟩
theorem pe_b {e : Expr} (s : Shared) (H : Hp) (C : Addr) (cl : List (Str × Addr)) (fp : List Addr) : PE (X.blk s H scope (compEnvC scope cl C X.env) fp) e (bE X scope e) := ⟨fun pins s' _ _ _ I h => h s H C cl fp pins s' I⟩
theorem pi_b {tg iter : Expr} (s : Shared) (H : Hp) (C : Addr) (cl : List (Str × Addr)) (fp : List Addr) : PI (X.blk s H scope (compEnvC scope cl C X.env) fp) tg iter (bI X scope tg iter) := ⟨fun pins s' _ _ _ I h => h s H C cl fp pins s' I⟩
end
/-- a clause's tests -/
def EP' (X : Cx) (ρ : Env) (G H : Hp) (ifs : List Expr) (b : Bool) : Prop := ∀ G1 H1 σ, Gr G H G1 H1 → ER X.K G1 σ ρ → ∀ Q : Bool → Hp → Prop, (∀ G2 H2, Gr G1 H1 G2 H2 → Q b H2) → wPTs X ifs σ H1 Q
theorem ep_nil {X : Cx} {ρ : Env} {G H : Hp} : EP' X ρ G H [] true := fun G1 H1 σ g r Q q => w_pts pts_nil (q G1 H1 (.refl g.gh))
theorem ep_one {X : Cx} {ρ : Env} {G H : Hp} {c : Expr} {b : Bool} (h : ET X ρ G H c b) : EP' X ρ G H [c] b := fun G1 H1 σ g r Q q => w_pts (pts_one pt_w) (h G1 H1 σ g r Q q)
section
variable {X : Cx} {ρ : Env} {G H : Hp} {tg iter elt : Expr} {ifs : List Expr} {scope : Scope} {pos : Pos} {β : Type} {ys : List β} {enc : β → D} {us : β → List (Nat × D)} {p : β → Bool} {f : β → D}
theorem filt_take {i : Nat} {b : β} (h : ys[i]? = some b) : ((ys.take (i + 1)).filter p).map f = if p b = true then ((ys.take i).filter p).map f ++ [f b] else ((ys.take i).filter p).map f := by
  rw [List.take_add_one, h, List.filter_append, List.map_append]
  by_cases hb : p b = true
  · simp [hb]
  · simp [hb]
theorem filt_len (i : Nat) : (((ys.take i).filter p).map f).length ≤ ys.length := by
  rw [List.length_map]
  have h1 := List.length_filter_le p (ys.take i)
  have h2 : (ys.take i).length ≤ ys.length := by rw [List.length_take]; omega
  omega
/-- the reading of a list comprehension -/
theorem lc_rd {vs : List Nat} (hi : EI X ρ G H tg iter (ys.map enc)) (hz : ys.length < 100000) (hv : ∀ b ∈ ys, ∀ i ∈ (us b).map (·.1), i ∈ vs)
    (hg : ∀ (s : Shared) (H0 : Hp) (C : Addr) (cl : List (Str × Addr)) (fp : List Addr), ∀ b ∈ ys, GA (X.blk s H0 scope (compEnvC scope cl C X.env) fp) tg (enc b) (us b))
    (ht : ∀ (s : Shared) (H0 : Hp) (C : Addr) (cl : List (Str × Addr)) (fp : List Addr), ∀ b ∈ ys, EP' (X.blk s H0 scope (compEnvC scope cl C X.env) fp) (setsR (wipeR ρ vs) (us b)) G H ifs (p b))
    (he : ∀ (s : Shared) (H0 : Hp) (C : Addr) (cl : List (Str × Addr)) (fp : List Addr), ∀ b ∈ ys, p b = true → EE (X.blk s H0 scope (compEnvC scope cl C X.env) fp) (setsR (wipeR ρ vs) (us b)) G H elt (.d (f b)))
    {G1 H1 : Hp} {σ : L2.St} (g : Gr G H G1 H1) (r : ER X.K G1 σ ρ) {Q : VK} (q : ∀ p' vs G2 H2, Gr G1 H1 G2 H2 → H1 p' = none → G2 p' = none → H2 p' = some (.lst vs) → DpAll X.K G2 vs ((ys.filter p).map f) → Q (.ref p') H2) :
    tLc (wI X tg iter) (bG X scope tg) (bT X scope ifs) (bE X scope elt) vs σ H1 Q := by
  refine hi G1 H1 σ g r _ fun J G2 H2 g2 hJ => fun Dl hD => ?_
  have gD : G2 Dl = none := g2.gh.free hD
  refine ⟨fun i m H' => m = ys.length - i ∧ i ≤ ys.length ∧ ∃ G' us', Gr G2 H2 G' H' ∧ G' Dl = none ∧ H' Dl = some (.lst us') ∧ DpAll X.K G' us' (((ys.take i).filter p).map f),
    ⟨ys.length, rfl, Nat.zero_le _, G2, [], .tmp g2.gh hD, gD, upd_same, by rw [List.take_zero]; exact .nil⟩, ?_⟩
  rintro i m H' ⟨rfl, hil, G', us', g', d1, d2, d3⟩
  by_cases hlt : i < ys.length
  · have hb : ys[i]? = some ys[i] := List.getElem?_eq_getElem hlt
    have hm : ys[i] ∈ ys := List.getElem_mem hlt
    obtain ⟨hgo, hy⟩ := (hJ i G' H' g'.g g'.gh).1 (enc ys[i]) (by rw [List.getElem?_map, hb] <;> rfl)
    refine .inr ⟨hgo, fun H'' => ∃ G'' us'', Gr G2 H2 G'' H'' ∧ G'' Dl = none ∧ H'' Dl = some (.lst us'') ∧ DpAll X.K G'' us'' (((ys.take (i + 1)).filter p).map f), fun H'' w => ⟨ys.length - (i + 1), by omega, rfl, hlt, w⟩, fun v H3 y => ?_⟩
    obtain ⟨G3, g3, r3⟩ := hy v H3 y
    have gg3 : Gr G H G3 H3 := (g.trans g2).trans (g'.trans g3)
    have rr3 : ER X.K G3 σ ρ := r.up (g2.g.trans (g'.g.trans g3.g))
    have d1' : G3 Dl = none := g3.fr Dl d1 (by rw [d2]; simp)
    intro s0 H0 C cl fp
    refine hg s0 H0 C cl fp _ hm G3 H3 _ v g3.gh r3 _ fun ws hw => ⟨?_, ?_⟩
    · rw [wipe_sets (fun i hi => hv _ hm i (by rw [← hw.idx]; exact hi)), wipe_wipe]
    · intro s0 H0 C cl fp
      refine ht s0 H0 C cl fp _ hm G3 H3 _ gg3 (hw.er (rr3.wipe vs)) _ fun G4 H4 g4 => ?_
      have e4 : H4 Dl = some (.lst us') := g4.h _ _ (g3.h _ _ d2)
      have d1'' : G4 Dl = none := g4.fr Dl d1' (by rw [g3.h _ _ d2]; simp)
      have w4 : Gr G2 H2 G4 H4 := g'.trans (g3.trans g4)
      cases hp : p ys[i] with
      | true =>
        refine iteT ?_
        intro s0 H0 C cl fp
        refine he s0 H0 C cl fp _ hm hp G4 H4 _ (gg3.trans g4) ((hw.er (rr3.wipe vs)).up g4.g) _ fun y G5 H5 g5 r5 => ?_
        have e5 : H5 Dl = some (.lst us') := g5.h _ _ e4
        have d5 : G5 Dl = none := g5.fr Dl d1'' (by rw [e4]; simp)
        have dd : DpAll X.K G5 us' (((ys.take i).filter p).map f) := dps_up (g3.g.trans (g4.g.trans g5.g)) _ _ d3
        refine ⟨us', e5, ?_, G5, us' ++ [y], (w4.trans g5).mut hD d5, d5, upd_same, ?_⟩
        · have l1 := dps_len dd
          have l2 := filt_len (ys := ys) (p := p) (f := f) i
          exact Nat.lt_of_lt_of_le (show us'.length < 100000 by omega) (by decide)
        · rw [filt_take hb, if_pos hp]
          exact dps_app dd (.cons r5 .nil)
      | false =>
        refine iteF ⟨G4, us', w4, d1'', e4, ?_⟩
        rw [filt_take hb, if_neg (by rw [hp]; decide)]
        exact dps_up (g3.g.trans g4.g) _ _ d3
  · have hi' : i = ys.length := by omega
    subst hi'
    refine .inl ⟨(hJ _ G' H' g'.g g'.gh).2 (by rw [List.length_map]; exact Nat.le_refl _), ?_⟩
    rw [List.take_length] at d3
    exact q Dl us' G' H' (g2.trans g') (g2.none' hD) d1 d2 d3
/-- [elt for tg in iter if ..] -/
theorem ef_lc (own : List (Str × Nat)) (ys : List β) (enc : β → D) (us : β → List (Nat × D)) (p : β → Bool) (f : β → D) (hN : X.N.Nodup) (hi : EI X ρ G H tg iter (ys.map enc)) (hz : ys.length < 100000) (hv : ∀ b ∈ ys, ∀ i ∈ (us b).map (·.1), i ∈ own.map (·.2))
    (hg : ∀ (s : Shared) (H0 : Hp) (C : Addr) (cl : List (Str × Addr)) (fp : List Addr), ∀ b ∈ ys, GA (X.blk s H0 scope (compEnvC scope cl C X.env) fp) tg (enc b) (us b))
    (ht : ∀ (s : Shared) (H0 : Hp) (C : Addr) (cl : List (Str × Addr)) (fp : List Addr), ∀ b ∈ ys, EP' (X.blk s H0 scope (compEnvC scope cl C X.env) fp) (setsR (wipeO ρ own) (us b)) G H ifs (p b))
    (he : ∀ (s : Shared) (H0 : Hp) (C : Addr) (cl : List (Str × Addr)) (fp : List Addr), ∀ b ∈ ys, p b = true → EE (X.blk s H0 scope (compEnvC scope cl C X.env) fp) (setsR (wipeO ρ own) (us b)) G H elt (.d (f b)))
    (hc : X.calm = true := by rfl) (ok : blkC X.N X.env.scope scope own = true := by kernel_rfl) (hs : ∀ x, foldedSetIterable iter X.env x = pure x := by intro _; rfl) :
    EF X ρ G H (.ListComp elt [⟨tg, iter, ifs, 0⟩] scope pos) ((ys.filter p).map f) := fun G1 H1 σ g r Q q =>
  w_pe (pe_lc (wi := wI X tg iter) (g := bG X scope tg) (tt := bT X scope ifs) (te := bE X scope elt) hc hN pi_w (blkOk_by ok) pg_b pts_b pe_b hs) (lc_rd hi hz hv hg ht he g r q)
end
/-! ### statements -/
def SS (X : Cx) (D : Ends) (ρ : Env) (G H : Hp) (sts : List Stmt) : Prop := Same G H → ∀ σ, ER X.K G σ ρ → wSs X sts D σ H
section
variable {X : Cx} {D : Ends} {ρ ρ' : Env} {G H : Hp} {e c tg iter : Expr} {x : SV} {rest a b body : List Stmt} {st : Stmt} {pos p' : Pos}
theorem ss_nil (h : ∀ σ, Same G H → ER X.K G σ ρ → D.nx σ H) : SS X D ρ G H [] := fun s σ r => w_pss pss_nil (h σ s r)
theorem ss_cons {t : TS} (h : PS X st t) (q : Same G H → ∀ σ, ER X.K G σ ρ → t { D with nx := wSs X rest D } σ H) : SS X D ρ G H (st :: rest) := fun s σ r => w_pss (pss_cons h pss_w) (q s σ r)
theorem ss_ret (h : EE X ρ G H e x) (q : ∀ v G1 H1, Gr G H G1 H1 → SR X.K G1 v x → D.rt v H1) : SS X D ρ G H (.Return (some e) pos :: rest) := ss_cons (ps_ret pe_w) fun s σ r => h G H σ (.refl s) r _ q
theorem ss_if {k : Bool} (h : ET X ρ G H c k) (h1 : k = true → ∀ G1 H1, Gr G H G1 H1 → SS X { D with nx := wSs X rest D } ρ G1 H1 a) (h2 : k = false → ∀ G1 H1, Gr G H G1 H1 → SS X { D with nx := wSs X rest D } ρ G1 H1 b) : SS X D ρ G H (.If c a b pos :: rest) :=
  ss_cons (ps_if pt_w pss_w pss_w) fun s σ r => h G H σ (.refl s) r _ fun G1 H1 g => by
    cases k with
    | true => exact iteT (h1 rfl G1 H1 g g.gh σ (r.up g.g))
    | false => exact iteF (h2 rfl G1 H1 g g.gh σ (r.up g.g))
/-- behind a branch: what stands behind the if -/
theorem ss_out (h : ∀ G1 H1, Gr G H G1 H1 → SS X D ρ G1 H1 rest) : SS X { D with nx := wSs X rest D } ρ G H [] := ss_nil fun σ s r => h G H (.refl s) s σ r
theorem ss_if1 {k : Bool} (h : ET X ρ G H c k) (h1 : k = true → ∀ G1 H1, Gr G H G1 H1 → SS X { D with nx := wSs X rest D } ρ G1 H1 a) (h2 : k = false → ∀ G1 H1, Gr G H G1 H1 → SS X D ρ G1 H1 rest) : SS X D ρ G H (.If c a [] pos :: rest) :=
  ss_if h h1 fun hk G1 H1 g => ss_out fun G2 H2 g2 => h2 hk G2 H2 (g.trans g2)
theorem ss_set (i : Nat) {n : Str} (hN : X.N.Nodup) (h : EE X ρ G H e x) (q : ∀ G1 H1, Gr G H G1 H1 → SS X D (ρ.set i (some x)) G1 H1 rest) (hi : X.N[i]? = some n := by rfl) (hx : Loc X.env.scope n := by first | exact Or.inl rfl | exact Or.inr rfl)
    (hs : swapsWith e (some (.Name n p')) pos.line X.env = pure false := by rfl) (hf : X.fn n = true ∨ X.env.scope.names.lookup n = some .local := by first | exact .inl rfl | exact .inr rfl) : SS X D ρ G H (.Assign [.Name n p'] e pos :: rest) :=
  ss_cons (ps_set hN hi hx pe_w hs hf) fun s σ r => h G H σ (.refl s) r _ fun v G1 H1 g r1 => q G1 H1 g g.gh _ ((r.up g.g).set r1 i)
/-- a list of one's own -/
theorem ss_own (i : Nat) {n : Str} {ds : List Rb.D} (hN : X.N.Nodup) (h : EF X ρ G H e ds) (q : ∀ p vs G1 H1, Gr G H G1 H1 → H p = none → G1 p = none → H1 p = some (.lst vs) → DpAll X.K G1 vs ds → SS X D (ρ.set i (some (.v (.ref p)))) G1 H1 rest) (hi : X.N[i]? = some n := by rfl) (hx : Loc X.env.scope n := by first | exact Or.inl rfl | exact Or.inr rfl)
    (hs : swapsWith e (some (.Name n p')) pos.line X.env = pure false := by rfl) (hf : X.fn n = true ∨ X.env.scope.names.lookup n = some .local := by first | exact .inl rfl | exact .inr rfl) : SS X D ρ G H (.Assign [.Name n p'] e pos :: rest) :=
  ss_cons (ps_set hN hi hx pe_w hs hf) fun s σ r => h G H σ (.refl s) r _ fun p vs G1 H1 g hp gp e1 r1 => q p vs G1 H1 g hp gp e1 r1 g.gh _ ((r.up g.g).set (x := .v (.ref p)) rfl i)
/-- name = [.. for ..] on one line -/
theorem ss_lcOwn (i : Nat) {n : Str} {β : Type} (own : List (Str × Nat)) (ys : List β) (enc : β → Rb.D) (us : β → List (Nat × Rb.D)) (p : β → Bool) (f : β → Rb.D) {elt : Expr} {ifs : List Expr} {scope : Scope} {lpos : Pos} (hN : X.N.Nodup) (hi : EI X ρ G H tg iter (ys.map enc)) (hz : ys.length < 100000)
    (hv : ∀ b ∈ ys, ∀ i ∈ (us b).map (·.1), i ∈ own.map (·.2))
    (hg : ∀ (s : Shared) (H0 : Hp) (C : Addr) (cl : List (Str × Addr)) (fp : List Addr), ∀ b ∈ ys, GA (X.blk s H0 scope (compEnvC scope cl C X.env) fp) tg (enc b) (us b))
    (ht : ∀ (s : Shared) (H0 : Hp) (C : Addr) (cl : List (Str × Addr)) (fp : List Addr), ∀ b ∈ ys, EP' (X.blk s H0 scope (compEnvC scope cl C X.env) fp) (setsR (wipeO ρ own) (us b)) G H ifs (p b))
    (he : ∀ (s : Shared) (H0 : Hp) (C : Addr) (cl : List (Str × Addr)) (fp : List Addr), ∀ b ∈ ys, p b = true → EE (X.blk s H0 scope (compEnvC scope cl C X.env) fp) (setsR (wipeO ρ own) (us b)) G H elt (.d (f b)))
    (q : ∀ p' vs G1 H1, Gr G H G1 H1 → H p' = none → G1 p' = none → H1 p' = some (.lst vs) → DpAll X.K G1 vs ((ys.filter p).map f) → SS X D (ρ.set i (some (.v (.ref p')))) G1 H1 rest)
    (hin : X.N[i]? = some n := by rfl) (hyl : X.env.scope.names.lookup n = some .local := by rfl) (hsw : swapsWith (.ListComp elt [⟨tg, iter, ifs, 0⟩] scope lpos) (some (.Name n p')) pos.line X.env = pure true := by exact sw_true rfl rfl rfl (by decide +kernel))
    (hc : X.calm = true := by rfl) (ok : blkC X.N X.env.scope scope own = true := by kernel_rfl) (hs : ∀ x, foldedSetIterable iter X.env x = pure x := by intro _; rfl) : SS X D ρ G H (.Assign [.Name n p'] (.ListComp elt [⟨tg, iter, ifs, 0⟩] scope lpos) pos :: rest) :=
  ss_cons (ps_setLc (wi := wI X tg iter) (g := bG X scope tg) (tt := bT X scope ifs) (te := bE X scope elt) hc hN hin hyl hsw pi_w (blkOk_by ok) pg_b pts_b pe_b hs) fun s σ r =>
    lc_rd hi hz hv hg ht he (.refl s) r fun p vs G1 H1 g hp gp e1 r1 => q p vs G1 H1 g hp gp e1 r1 g.gh _ ((r.up g.g).set (x := .v (.ref p)) rfl i)
theorem ss_lc (i : Nat) {n : Str} {β : Type} (own : List (Str × Nat)) (ys : List β) (enc : β → Rb.D) (us : β → List (Nat × Rb.D)) (p : β → Bool) (f : β → Rb.D) {elt : Expr} {ifs : List Expr} {scope : Scope} {lpos : Pos} (hN : X.N.Nodup) (hi : EI X ρ G H tg iter (ys.map enc)) (hz : ys.length < 100000)
    (hv : ∀ b ∈ ys, ∀ i ∈ (us b).map (·.1), i ∈ own.map (·.2))
    (hg : ∀ (s : Shared) (H0 : Hp) (C : Addr) (cl : List (Str × Addr)) (fp : List Addr), ∀ b ∈ ys, GA (X.blk s H0 scope (compEnvC scope cl C X.env) fp) tg (enc b) (us b))
    (ht : ∀ (s : Shared) (H0 : Hp) (C : Addr) (cl : List (Str × Addr)) (fp : List Addr), ∀ b ∈ ys, EP' (X.blk s H0 scope (compEnvC scope cl C X.env) fp) (setsR (wipeO ρ own) (us b)) G H ifs (p b))
    (he : ∀ (s : Shared) (H0 : Hp) (C : Addr) (cl : List (Str × Addr)) (fp : List Addr), ∀ b ∈ ys, p b = true → EE (X.blk s H0 scope (compEnvC scope cl C X.env) fp) (setsR (wipeO ρ own) (us b)) G H elt (.d (f b)))
    (q : ∀ G1 H1, Gr G H G1 H1 → SS X D (ρ.set i (some (.d (.list ((ys.filter p).map f))))) G1 H1 rest)
    (hin : X.N[i]? = some n := by rfl) (hyl : X.env.scope.names.lookup n = some .local := by rfl) (hsw : swapsWith (.ListComp elt [⟨tg, iter, ifs, 0⟩] scope lpos) (some (.Name n p')) pos.line X.env = pure true := by exact sw_true rfl rfl rfl (by decide +kernel))
    (hc : X.calm = true := by rfl) (ok : blkC X.N X.env.scope scope own = true := by kernel_rfl) (hs : ∀ x, foldedSetIterable iter X.env x = pure x := by intro _; rfl) : SS X D ρ G H (.Assign [.Name n p'] (.ListComp elt [⟨tg, iter, ifs, 0⟩] scope lpos) pos :: rest) :=
  ss_cons (ps_setLc (wi := wI X tg iter) (g := bG X scope tg) (tt := bT X scope ifs) (te := bE X scope elt) hc hN hin hyl hsw pi_w (blkOk_by ok) pg_b pts_b pe_b hs) fun s σ r =>
    lc_rd hi hz hv hg ht he (.refl s) r fun p vs G1 H1 g hp gp e1 r1 =>
      have g2 := g.frz hp gp e1
      q _ H1 g2 g2.gh _ ((r.up g2.g).set (x := .d _) (show Dp X.K _ (.ref p) _ from .lst (SqL.of upd_same) (dps_up (same_new gp) _ _ r1)) i)
/-- a, b = data -/
theorem ss_asg {d : Rb.D} {us : List (Nat × Rb.D)} (h : EE X ρ G H e (.d d)) (hg : GA X tg d us) (q : ∀ G1 H1, Gr G H G1 H1 → SS X D (setsR ρ us) G1 H1 rest) (hs : swapsWithSole [tg] e pos.line X.env = pure false := by rfl) (hw : swappedStores [tg] e X.env = pure none := by rfl)
    (h1 : (assignEach [tg] X.env).map (·.2) = [assign tg X.env] := by rfl) : SS X D ρ G H (.Assign [tg] e pos :: rest) :=
  ss_cons (ps_asg pe_w pg_w hs hw h1) fun s σ r => h G H σ (.refl s) r _ fun v G1 H1 g r1 => hg G1 H1 σ v g.gh r1 _ fun ws hw => q G1 H1 g g.gh _ (hw.er (r.up g.g))
theorem ss_drop (h : EE X ρ G H e x) (q : ∀ G1 H1, Gr G H G1 H1 → SS X D ρ G1 H1 rest) (hs : swapsWith e none pos.line X.env = pure false := by rfl) : SS X D ρ G H (.Expr e pos :: rest) :=
  ss_cons (ps_expr pe_w hs) fun s σ r => h G H σ (.refl s) r _ fun v G1 H1 g r1 => q G1 H1 g g.gh σ (r.up g.g)
/-- xs.append(e), xs a list of one's own -/
theorem ss_app {l : Addr} {vs : List V} {d : Rb.D} {o : Expr} {apos : Pos} (ho : EE X ρ G H o (.v (.ref l))) (he : EE X ρ G H e (.d d)) (hl : H l = some (.lst vs)) (gl : G l = none) (hz : vs.length < 100000)
    (q : ∀ v G1 H1, Gr G H G1 H1 → H1 l = some (.lst vs) → G1 l = none → Dp X.K G1 v d → SS X D ρ G1 (upd H1 l (.lst (vs ++ [v]))) rest)
    (hbase : attributeBase o "append" X.env (eval o X.env) = eval o X.env := by rfl) (hs : swapsWith (.Call (.Attribute o "append" apos) [e] [] p') none pos.line X.env = pure false := by rfl) (he1 : starEach [e] X.env = (false, eval e X.env) :: starEach [] X.env := by rfl)
    (hform : ((backTo p' (starEach [e] X.env)).all (fun x => !x.1) && (backToKw p' (keywordEach [] X.env)).all (fun x => x.1.isSome) && decide (([e] : List Expr).length + ([] : List Keyword).length + (if ([] : List Keyword).isEmpty then 0 else 1) < 30)) = true := by rfl) (hline : (apos.endLine == p'.line) = true := by rfl) : SS X D ρ G H (.Expr (.Call (.Attribute o "append" apos) [e] [] p') pos :: rest) :=
  ss_cons (ps_expr (pe_bm PySem.F.plainAttrs_list PySem.F.slot_list_append PySem.F.type_list_append mt_append pe_w (pa_cons pe_w pa_nil he1) hbase hform hline he1) hs) fun s σ r =>
    ho G H σ (.refl s) r _ fun v G1 H1 g r1 => by
      cases (show v = V.ref l from r1)
      have e1 : H1 l = some (.lst vs) := g.h _ _ hl
      have gl1 : G1 l = none := g.fr l gl (by rw [hl]; simp)
      refine ⟨Or.inl ⟨rfl, _, Or.inl (Or.inl e1)⟩, he G1 H1 σ g (r.up g.g) _ fun y G2 H2 g2 r2 => ?_⟩
      have e2 : H2 l = some (.lst vs) := g2.h _ _ e1
      have gl2 : G2 l = none := g2.fr l gl1 (by rw [e1]; simp)
      refine ⟨l, vs, y, rfl, rfl, e2, Nat.lt_of_lt_of_le hz (by decide), ?_⟩
      refine q y G2 H2 (g.trans g2) e2 gl2 r2 (fun b u hb => ?_) σ (r.up (g.g.trans g2.g))
      rw [upd_ne (ne_of_none hb gl2)]
      exact g2.gh _ _ hb
/-- between two turns -/
def LN (K : PySem.W.Frag) (W : Nat → Env → Hp → Hp → Prop) (i : Nat) : L2.St → Hp → Prop := fun σ H => ∃ ρ G, Same G H ∧ ER K G σ ρ ∧ W i ρ G H
def loopD (X : Cx) (D : Ends) (rest : List Stmt) (W : Nat → Env → Hp → Hp → Prop) (i : Nat) : Ends := { D with nx := LN X.K W i, ct := LN X.K W i, bk := wSs X rest D }
/-- for tg in iter: W by the turn, the slots, the heaps -/
theorem ss_for {xs : List Rb.D} (hi : EI X ρ G H tg iter xs) (k : ∀ G2 H2, Gr G H G2 H2 → ∃ W : Nat → Env → Hp → Hp → Prop, W 0 ρ G2 H2 ∧ (∀ i ρ' G1 H1, W i ρ' G1 H1 → Same G2 G1) ∧
      (∀ i d ρ' G1 H1, xs[i]? = some d → W i ρ' G1 H1 → ∀ G3 H3, Gr G1 H1 G3 H3 → ∃ us, GA X tg d us ∧ SS X (loopD X D rest W (i + 1)) (setsR ρ' us) G3 H3 body) ∧
      (∀ ρ' G1 H1, W xs.length ρ' G1 H1 → SS X D ρ' G1 H1 rest))
    (hp : PassesOwn (model X.prog X.w) X.A X.env X.xe := by exact PassesOwn.never) (hc : X.calm = true := by rfl) (hf : ∀ x, foldedSetIterable iter X.env x = pure x := by intro _; rfl) : SS X D ρ G H (.For tg iter body [] pos :: rest) :=
  ss_cons (ps_for hp hc pi_w pg_w pss_w hf) fun s σ r => hi G H σ (.refl s) r _ fun J G2 H2 g2 hJ => by
    obtain ⟨W, h0, hw, hs, hd⟩ := k G2 H2 g2
    refine ⟨fun i m σ' H' => m = xs.length - i ∧ i ≤ xs.length ∧ LN X.K W i σ' H', ⟨xs.length, rfl, Nat.zero_le _, ρ, G2, g2.gh, r.up g2.g, h0⟩, ?_⟩
    rintro i m σ' H' ⟨rfl, hil, ρ', G', s', r', w'⟩
    have s2 := hw i ρ' G' H' w'
    by_cases hlt : i < xs.length
    · obtain ⟨hgo, hy⟩ := (hJ i G' H' s2 s').1 xs[i] (List.getElem?_eq_getElem hlt)
      refine .inr ⟨hgo, LN X.K W (i + 1), fun σ'' H'' w => ⟨xs.length - (i + 1), by omega, rfl, hlt, w⟩, fun v H3 y => ?_⟩
      obtain ⟨G3, g3, r3⟩ := hy v H3 y
      obtain ⟨us, h1, h2⟩ := hs i _ ρ' G' H' (List.getElem?_eq_getElem hlt) w' G3 H3 g3
      exact h1 G3 H3 σ' v g3.gh r3 _ fun ws hws => h2 g3.gh _ (hws.er (r'.up g3.g))
    · have hi' : i = xs.length := by omega
      subst hi'
      exact .inl ⟨(hJ _ G' H' s2 s').2 (Nat.le_refl _), hd ρ' G' H' w' s' σ' r'⟩
/-- a turn's end -/
theorem ss_turn {W : Nat → Env → Hp → Hp → Prop} {i : Nat} (h : W i ρ G H) : SS X (loopD X D rest W i) ρ G H [] := ss_nil fun σ s r => ⟨ρ, G, s, r, h⟩
end
end Rb
set_option Elab.async false
set_option linter.all false
set_option maxRecDepth 100000
set_option maxHeartbeats 4000000
/-! Defs: what they promise, how they are called. -/
namespace Rb
open PySem PySem.Spec PyProof.Rows L2
/-- the promise of a def that changes nothing: from n arguments xs an answer x, as R says (R may look at what stands in the heap) -/
def spP (K : PySem.W.Frag) (n : Nat) (R : Hp → List SV → SV → Prop) : Sp := fun vs H Q _ => ∃ G xs x, Same G H ∧ SRs K G vs xs ∧ xs.length = n ∧ R G xs x ∧ ∀ v G2 H2, Gr G H G2 H2 → SR K G2 v x → Q v H2
/-- the def x of the module keeps it, dv its defaults -/
def Fn (P : Program) (w : World) (K : PySem.W.Frag) (mg : Str → Option Value) (base : Heap) (x : Str) (k n : Nat) (dv : List V) (R : Hp → List SV → SV → Prop) : Prop :=
  ∃ f fd ps ds, mg x = some (.ref f) ∧ PySem.W.keepIn K (.ref f) = true ∧ Binds K fd ps ds ∧ Vals dv ds ∧ FnOk P w K mg base CX0 k f fd ps (spP K n R)
section
variable {X : Cx} {ρ : Env} {G H : Hp} {e : Expr} {es : List Expr} {x : SV} {pos p' : Pos} {nm : Str} {k n : Nat} {R : Hp → List SV → SV → Prop}
theorem Fn.up {P : Program} {w : World} {K : PySem.W.Frag} {mg : Str → Option Value} {base : Heap} {dv : List V} {j : Nat} (F : Fn P w K mg base nm k n dv R) (h : k ≤ j) : Fn P w K mg base nm j n dv R := by
  obtain ⟨f, fd, ps, ds, h1, h2, h3, h4, h5⟩ := F
  exact ⟨f, fd, ps, ds, h1, h2, h3, h4, h5.mono h⟩
theorem ee_callD {dv : List V} {xs ys : List SV} (F : Fn X.prog X.w X.K X.mg X.base nm k n dv R) (hr : Room k X.A) (ha : EA X ρ G H (e :: es) xs) (hd : ∀ G, SRs X.K G dv ys) (hR : ∀ G1 H1, Gr G H G1 H1 → R G1 (xs ++ ys) x) (hl : (xs ++ ys).length = n := by rfl) (hg : Gl X nm := by rfl) (hdb : (nm == ("__debug__" : Str)) = false := by decide)
    (he : starEach (e :: es) X.env = (false, eval e X.env) :: starEach es X.env := by rfl) (hpl : (backTo pos (starEach es X.env)).any (·.1) = false := by rfl) : EE X ρ G H (.Call (.Name nm p') (e :: es) [] pos) x := fun G1 H1 σ g r Q q => by
  obtain ⟨f, fd, ps, ds, h1, h2, h3, h4, h5⟩ := F
  exact w_pe (pe_call h5 hr hg h1 h2 h3 h4 pass0 pa_w hdb he hpl) (ha G1 H1 σ g r _ fun vs G2 H2 g2 r2 => ⟨G2, xs ++ ys, x, g2.gh, r2.app (hd G2), hl, hR G2 H2 (g.trans g2), fun v G3 H3 g3 r3 => q v G3 H3 (g2.trans g3) r3⟩)
/-- f(a, ..) -/
theorem ee_call {xs : List SV} (F : Fn X.prog X.w X.K X.mg X.base nm k n [] R) (hr : Room k X.A) (ha : EA X ρ G H (e :: es) xs) (hR : ∀ G1 H1, Gr G H G1 H1 → R G1 xs x) (hl : xs.length = n := by rfl) (hg : Gl X nm := by rfl) (hdb : (nm == ("__debug__" : Str)) = false := by decide)
    (he : starEach (e :: es) X.env = (false, eval e X.env) :: starEach es X.env := by rfl) (hpl : (backTo pos (starEach es X.env)).any (·.1) = false := by rfl) : EE X ρ G H (.Call (.Name nm p') (e :: es) [] pos) x :=
  ee_callD (ys := []) F hr ha (fun _ => .nil) (fun G1 H1 g => by rw [List.append_nil]; exact hR G1 H1 g) (by rw [List.append_nil]; exact hl) hg hdb he hpl
/-- f() -/
theorem ee_call0 (F : Fn X.prog X.w X.K X.mg X.base nm k 0 [] R) (hr : Room k X.A) (hR : ∀ G1 H1, Gr G H G1 H1 → R G1 [] x) (hg : Gl X nm := by rfl) (hdb : (nm == ("__debug__" : Str)) = false := by decide) : EE X ρ G H (.Call (.Name nm p') [] [] pos) x := fun G1 H1 σ g r Q q => by
  obtain ⟨f, fd, ps, ds, h1, h2, h3, h4, h5⟩ := F
  exact w_pe (pe_call0 h5 hr hg h1 h2 h3 h4 pass0 hdb) ⟨G1, [], x, g.gh, by cases h4; exact .nil, rfl, hR G1 H1 g, fun v G3 H3 g3 r3 => q v G3 H3 g3 r3⟩
end
/-! ### a def's body -/
/-- the context of a def's body -/
abbrev bX (P : Program) (w : World) (K : PySem.W.Frag) (mg : Str → Option Value) (base : Heap) (N : List Str) (x : Str) (st : Stmt) (f : Addr) (cdv : Value) (A : Around) (outer : List PySem.Env) (s : Shared) (H : Hp) (E : XK) : Cx := (cxOf CX0 P w K mg base N x (defScope st) f cdv A outer s H E).nox
section
variable {P : Program} {w : World} {K : PySem.W.Frag} {mg : Str → Option Value} {base : Heap} {x : Str} {st : Stmt} {f : Addr} {fd : FuncData} {N ps : List Str} {k n m : Nat} {dvs : List V} {kws : List (Str × V)} {R : Hp → List SV → SV → Prop}
/-- THE RULE for a def that changes nothing -/
theorem fn_pure {dv : List V} {ds : List Value} (F : FunD K x x (defArgs st) (defBody st) (defScope st) dvs kws f fd) (S : FnScope N ps (defScope st)) (hps : ps.length = n) (hm : N.length = m + n) (hx : mg x = some (.ref f)) (hb : Binds K fd ps ds) (hv : Vals dv ds)
    (body : ∀ (cdv : Value) (A : Around) (outer : List PySem.Env) (s : Shared) (H : Hp) (E : XK), Room k (bX P w K mg base N x st f cdv A outer s H E).A → ∀ (G : Hp) (xs : List SV) (y : SV) (Q : VK), R G xs y → xs.length = n → (∀ v G2 H2, Gr G H G2 H2 → SR K G2 v y → Q v H2) →
      SS (bX P w K mg base N x st f cdv A outer s H E) { nx := fun _ H' => Q .non H', rt := Q } (slots xs m) G H (defBody st)) : Fn P w K mg base x (k + 1) n dv R := by
  refine ⟨f, fd, ps, ds, hx, F.kp, hb, hv, F.ok S (fun vs H Q E h => ?_) fun cdv A outer s H vs Q E hr h => ?_⟩
  · obtain ⟨G, xs, y, _, r, l, _⟩ := h
    rw [r.length, l, hps]
  · obtain ⟨G, xs, y, gh, r, l, hR, q⟩ := h
    refine ⟨_, PSs.nox pss_w, ?_⟩
    refine body cdv A outer s H E hr G xs y Q hR l q gh _ ?_
    have e : vs.length = n := by rw [r.length, l]
    unfold L2.start
    rw [e, hm, Nat.add_sub_cancel]
    exact ER.start r _
end
end Rb
set_option Elab.async false
set_option linter.all false
set_option maxRecDepth 100000
set_option maxHeartbeats 4000000
/-! More forms: chains of comparisons, slices. -/
namespace Rb
open PySem PySem.Spec PyProof.Rows L2
section
variable {X : Cx} {ρ : Env} {G H G1 H1 : Hp} {e a b c : Expr} {x y z : SV} {pos p' p2 : Pos}
theorem et_chain {op op' : CmpOp} {k l : Bool} (ha : EE X ρ G H a x) (hb : EE X ρ G H b y) (hc : EE X ρ G H c z) (ho : ∀ G1 H1, Gr G H G1 H1 → OD X (compareOp op) G1 H1 x y (.d (.bool k))) (ho' : ∀ G1 H1, Gr G H G1 H1 → OD X (compareOp op') G1 H1 y z (.d (.bool l)))
    (hm : lastMarks [op, op'] [b, c] = false := by with_unfolding_all rfl) : ET X ρ G H (.Compare a [op, op'] [b, c] pos) (k && l) := fun G1 H1 σ g r Q q =>
  w_pt (pt_chain or_w or_w pe_w pe_w pe_w hm) (ha G1 H1 σ g r _ fun v G2 H2 g2 r2 => hb G2 H2 σ (g.trans g2) (r.up g2.g) _ fun u G3 H3 g3 r3 => ho G3 H3 ((g.trans g2).trans g3) v u (r2.up g3.g) r3 _ fun w G4 H4 g4 r4 => ⟨k, by rw [sr_bl r4], by
    cases k with
    | true => exact iteT (hc G4 H4 σ (((g.trans g2).trans g3).trans g4) (r.up ((g2.g.trans g3.g).trans g4.g)) _ fun t G5 H5 g5 r5 => ho' G5 H5 ((((g.trans g2).trans g3).trans g4).trans g5) u t (r3.up (g4.g.trans g5.g)) r5 _ fun w G6 H6 g6 r6 => ⟨l, by rw [sr_bl r6], q G6 H6 (((g2.trans g3).trans g4).trans (g5.trans g6))⟩)
    | false => exact iteF ⟨false, rfl, q G4 H4 ((g2.trans g3).trans g4)⟩⟩)
/-! ### slices -/
def EO (X : Cx) (ρ : Env) (G H : Hp) (o : Option Expr) (i : Option Int) : Prop := match o with
  | none => i = none
  | some e => ∃ j : Int, i = some j ∧ EE X ρ G H e (.d (.int j))
theorem eo_no : EO X ρ G H none none := rfl
theorem eo_at {i : Int} (h : EE X ρ G H e (.d (.int i))) : EO X ρ G H (some e) (some i) := ⟨i, rfl, h⟩
def cutD (ds : List D) (lo hi : Option Int) : List D := (ds.drop (HT.sIx ds.length 0 lo)).take (HT.sIx ds.length ds.length hi - HT.sIx ds.length 0 lo)
theorem dps_cut {K : PySem.W.Frag} {vs : List V} {ds : List D} (lo hi : Option Int) (h : DpAll K G vs ds) : DpAll K G (cutV vs lo hi) (cutD ds lo hi) := by
  unfold cutV cutD
  rw [dps_len h]
  exact dps_take _ (dps_drop _ h)
/-- a part's reading -/
def wO (X : Cx) (o : Option Expr) : TO := match o with
  | none => tNoPart
  | some e => tPart (wE X e)
theorem po_w : ∀ {o : Option Expr}, PO X o (wO X o)
  | none => po_none
  | some _ => po_some pe_w
theorem eo_run {o : Option Expr} {i : Option Int} (h : EO X ρ G H o i) {σ : L2.St} (g : Gr G H G1 H1) (r : ER X.K G1 σ ρ) {Q : Option Int → Hp → Prop} (q : ∀ G2 H2, Gr G1 H1 G2 H2 → Q i H2) : wO X o σ H1 Q := by
  cases o with
  | none =>
    cases (show i = none from h)
    exact q G1 H1 (.refl g.gh)
  | some e =>
    obtain ⟨j, rfl, h⟩ := h
    exact h G1 H1 σ g r _ fun v G2 H2 g2 r2 => ⟨j, sr_int r2, q G2 H2 g2⟩
/-- t[lo:hi] -/
theorem ee_slT {lo hi : Option Expr} {ds : List D} {i j : Option Int} (ha : EE X ρ G H a (.d (.tuple ds))) (hl : EO X ρ G H lo i) (hh : EO X ρ G H hi j) : EE X ρ G H (.Subscript a (.Slice lo hi none p2) pos) (.d (.tuple (cutD ds i j))) := fun G1 H1 σ g r Q q =>
  w_pe (pe_slice sl_tupA pe_w po_w po_w) (ha G1 H1 σ g r _ fun v G2 H2 g2 r2 => eo_run hl (g.trans g2) (r.up g2.g) fun G3 H3 g3 => eo_run hh ((g.trans g2).trans g3) (r.up (g2.g.trans g3.g)) fun G4 H4 g4 => by
    obtain ⟨p, vs, rfl, h1, h2⟩ := sr_tup (r2.up (g3.g.trans g4.g))
    have gg := (g2.trans g3).trans g4
    refine ⟨p, vs, rfl, same_t g4.gh h1, fun hw => ?_, fun _ t ht => ?_⟩
    · refine q _ G4 H4 gg ?_
      have e : cutD ds i j = ds := by
        unfold cutD
        rw [← dps_len h2, hw.1, hw.2, List.drop_zero, Nat.sub_zero, dps_len h2, List.take_length]
      rw [e]
      exact .tup h1 h2
    · exact q _ _ _ (gg.trans (.new g4.gh ht)) (.tup (TupAt.of upd_same) (dps_up (same_new (g4.gh.free ht)) _ _ (dps_cut i j h2))))
/-- xs[lo:hi], a new list -/
theorem ef_slL {lo hi : Option Expr} {ds : List D} {i j : Option Int} (ha : EE X ρ G H a (.d (.list ds))) (hl : EO X ρ G H lo i) (hh : EO X ρ G H hi j) : EF X ρ G H (.Subscript a (.Slice lo hi none p2) pos) (cutD ds i j) := fun G1 H1 σ g r Q q =>
  w_pe (pe_slice sl_list pe_w po_w po_w) (ha G1 H1 σ g r _ fun v G2 H2 g2 r2 => eo_run hl (g.trans g2) (r.up g2.g) fun G3 H3 g3 => eo_run hh ((g.trans g2).trans g3) (r.up (g2.g.trans g3.g)) fun G4 H4 g4 => by
    obtain ⟨p, vs, rfl, h1, h2⟩ := sr_lst (r2.up (g3.g.trans g4.g))
    have gg := (g2.trans g3).trans g4
    exact ⟨p, vs, rfl, g4.gh.seq h1, fun t ht => q _ _ G4 _ (gg.trans (.tmp g4.gh ht)) (gg.none' ht) (g4.gh.free ht) upd_same (dps_cut i j h2)⟩)
theorem cutD_from (ds : List D) (n : Nat) : cutD ds (some (n : Int)) none = ds.drop n := by
  unfold cutD
  rw [HT.sIx_nat, HT.sIx_none, ← List.length_drop, List.take_of_length_le (by rw [List.length_drop]; omega)]
  by_cases h : n ≤ ds.length
  · rw [Nat.min_eq_left h]
  · rw [Nat.min_eq_right (by omega), List.drop_eq_nil_of_le (Nat.le_refl _), List.drop_eq_nil_of_le (by omega)]
theorem cutD_to (ds : List D) (n : Nat) : cutD ds none (some (n : Int)) = ds.take n := by
  unfold cutD
  rw [HT.sIx_nat, HT.sIx_none, List.drop_zero, Nat.sub_zero]
  by_cases h : n ≤ ds.length
  · rw [Nat.min_eq_left h]
  · rw [Nat.min_eq_right (by omega), List.take_length, List.take_of_length_le (by omega)]
end
/-! ### comprehensions in short -/
section
variable {X : Cx} {ρ : Env} {G H : Hp} {tg iter elt c : Expr} {scope : Scope} {pos cpos p' : Pos} {β : Type}
theorem filter_yes (ys : List β) : ys.filter (fun _ => true) = ys := List.filter_eq_self.mpr fun _ _ => rfl
/-- [elt for tg in iter] -/
theorem ef_map (own : List (Str × Nat)) (ys : List β) (enc : β → D) (us : β → List (Nat × D)) (f : β → D) (hN : X.N.Nodup) (hi : EI X ρ G H tg iter (ys.map enc)) (hz : ys.length < 100000) (hv : ∀ b ∈ ys, ∀ i ∈ (us b).map (·.1), i ∈ own.map (·.2))
    (hg : ∀ (s : Shared) (H0 : Hp) (C : Addr) (cl : List (Str × Addr)) (fp : List Addr), ∀ b ∈ ys, GA (X.blk s H0 scope (compEnvC scope cl C X.env) fp) tg (enc b) (us b))
    (he : ∀ (s : Shared) (H0 : Hp) (C : Addr) (cl : List (Str × Addr)) (fp : List Addr), ∀ b ∈ ys, EE (X.blk s H0 scope (compEnvC scope cl C X.env) fp) (setsR (wipeO ρ own) (us b)) G H elt (.d (f b)))
    (hc : X.calm = true := by rfl) (ok : blkC X.N X.env.scope scope own = true := by kernel_rfl) (hs : ∀ x, foldedSetIterable iter X.env x = pure x := by intro _; rfl) :
    EF X ρ G H (.ListComp elt [⟨tg, iter, [], 0⟩] scope pos) (ys.map f) := by
  have h := ef_lc (pos := pos) (ifs := []) own ys enc us (fun _ => true) f hN hi hz hv hg (fun _ _ _ _ _ _ _ => ep_nil) (fun s H0 C cl fp b hb _ => he s H0 C cl fp b hb) hc ok hs
  rw [filter_yes] at h
  exact h
/-- [elt for tg in iter if c] -/
theorem ef_fil (own : List (Str × Nat)) (ys : List β) (enc : β → D) (us : β → List (Nat × D)) (p : β → Bool) (f : β → D) (hN : X.N.Nodup) (hi : EI X ρ G H tg iter (ys.map enc)) (hz : ys.length < 100000) (hv : ∀ b ∈ ys, ∀ i ∈ (us b).map (·.1), i ∈ own.map (·.2))
    (hg : ∀ (s : Shared) (H0 : Hp) (C : Addr) (cl : List (Str × Addr)) (fp : List Addr), ∀ b ∈ ys, GA (X.blk s H0 scope (compEnvC scope cl C X.env) fp) tg (enc b) (us b))
    (ht : ∀ (s : Shared) (H0 : Hp) (C : Addr) (cl : List (Str × Addr)) (fp : List Addr), ∀ b ∈ ys, ET (X.blk s H0 scope (compEnvC scope cl C X.env) fp) (setsR (wipeO ρ own) (us b)) G H c (p b))
    (he : ∀ (s : Shared) (H0 : Hp) (C : Addr) (cl : List (Str × Addr)) (fp : List Addr), ∀ b ∈ ys, p b = true → EE (X.blk s H0 scope (compEnvC scope cl C X.env) fp) (setsR (wipeO ρ own) (us b)) G H elt (.d (f b)))
    (hc : X.calm = true := by rfl) (ok : blkC X.N X.env.scope scope own = true := by kernel_rfl) (hs : ∀ x, foldedSetIterable iter X.env x = pure x := by intro _; rfl) :
    EF X ρ G H (.ListComp elt [⟨tg, iter, [c], 0⟩] scope pos) ((ys.filter p).map f) :=
  ef_lc own ys enc us p f hN hi hz hv hg (fun s H0 C cl fp b hb => ep_one (ht s H0 C cl fp b hb)) he hc ok hs
/-- all([elt for tg in iter]) -/
theorem ee_all (own : List (Str × Nat)) (ys : List β) (enc : β → D) (us : β → List (Nat × D)) (f : β → Bool) (hm : X.mg "all" = none) (hN : X.N.Nodup) (hi : EI X ρ G H tg iter (ys.map enc)) (hz : ys.length < 100000) (hv : ∀ b ∈ ys, ∀ i ∈ (us b).map (·.1), i ∈ own.map (·.2))
    (hg : ∀ (s : Shared) (H0 : Hp) (C : Addr) (cl : List (Str × Addr)) (fp : List Addr), ∀ b ∈ ys, GA (X.blk s H0 scope (compEnvC scope cl C X.env) fp) tg (enc b) (us b))
    (he : ∀ (s : Shared) (H0 : Hp) (C : Addr) (cl : List (Str × Addr)) (fp : List Addr), ∀ b ∈ ys, EE (X.blk s H0 scope (compEnvC scope cl C X.env) fp) (setsR (wipeO ρ own) (us b)) G H elt (.d (.bool (f b))))
    (hc : X.calm = true := by rfl) (ok : blkC X.N X.env.scope scope own = true := by kernel_rfl) (hs : ∀ x, foldedSetIterable iter X.env x = pure x := by intro _; rfl) (hgl : Gl X "all" := by rfl)
    (hst : starEach [.ListComp elt [⟨tg, iter, [], 0⟩] scope pos] X.env = (false, eval (.ListComp elt [⟨tg, iter, [], 0⟩] scope pos) X.env) :: starEach [] X.env := by rfl) (hpl : (backTo cpos (starEach [] X.env)).any (·.1) = false := by rfl) :
    EE X ρ G H (.Call (.Name "all" p') [.ListComp elt [⟨tg, iter, [], 0⟩] scope pos] [] cpos) (.d (.bool (ys.all f))) := by
  have h := (ef_map (pos := pos) own ys enc us (fun b => .bool (f b)) hN hi hz hv hg he hc ok hs).ee
  have e1 : ys.map (fun b => PyData.bool (f b)) = (ys.map f).map .bool := by rw [List.map_map] <;> rfl
  have e2 : (ys.map f).all id = ys.all f := by rw [List.all_map] <;> rfl
  rw [e1] at h
  rw [← e2]
  exact ee_callB hm (by decide +kernel) (ea_cons h ea_nil hst) (fun _ _ g => cd_all hc g) hgl (by decide) (by decide) hst hpl
end
end Rb
set_option Elab.async false
set_option linter.all false
set_option maxRecDepth 100000
set_option maxHeartbeats 0
namespace Rb
open PySem PySem.Spec PyProof.Rows L2
def topS (i : Nat) : Stmt := PySem.Challenge.pw_rebuiltby_k18_whole_classes.main.body.getD i (.Pass ⟨0, 0, 0, 0⟩)
/-- the default of the keyword-only parameter x of the def f, if it is an object -/
def kwAt (f x : Str) (K : PySem.W.Frag) : Addr := match K.lookup (He.fAd K (f, none)) with
  | some ⟨_, _, .func fd, _⟩ => (match fd.kwdefaults with
    | .ref d => (match PySem.W.nsIn K d x with
      | some (some (.ref a)) => a
      | _ => 0)
    | _ => 0)
  | _ => 0
/-- an empty tuple stands there -/
def tup0B (K : PySem.W.Frag) (a : Addr) : Bool := match K.lookup a with
  | some ⟨.type c, _, .seq its _, _⟩ => decide (c = "tuple") && decide (its.size = 0)
  | _ => false
def dd (x : Str) (i : Nat) (dfl : List He.Dv) (kwd : List (Str × He.Dv)) : He.DefD := ⟨(x, none), x, x, defArgs (topS i), defBody (topS i), defScope (topS i), dfl, kwd⟩
def fn : List He.DefD := [dd "is_name" 8 [] [],
  dd "are_names" 9 [] [],
  dd "is_rising" 10 [] [],
  dd "is_set" 11 [] [],
  dd "is_name_pair" 12 [] [],
  dd "is_fact" 13 [] [],
  dd "need" 15 [.int (-1)] [],
  dd "source_of" 16 [] [],
  dd "source_names" 17 [] [],
  dd "party_names" 18 [] [],
  dd "need_parties" 19 [] [],
  dd "need_supposed" 20 [] [],
  dd "build_step" 21 [] [],
  dd "moved_steps" 22 [] [],
  dd "next_steps" 23 [] [],
  dd "derived" 24 [] [],
  dd "part_clash" 25 [] [],
  dd "parted_pairs" 26 [] [],
  dd "clashes_among" 27 [] [],
  dd "facts_of" 29 [] [("supposed", .adr (kwAt "facts_of" "supposed"))],
  dd "clashes_of" 30 [] [("supposed", .adr (kwAt "clashes_of" "supposed"))],
  dd "is_calm" 31 [] [("supposed", .adr (kwAt "is_calm" "supposed"))],
  dd "classes_of" 32 [] [("supposed", .adr (kwAt "classes_of" "supposed"))],
  dd "_law_feed" 34 [] [],
  dd "_law_draw" 35 [] [],
  dd "_law_any" 36 [] [],
  dd "_law_names" 37 [] [],
  dd "_law_rows" 38 [] [],
  dd "_law_row" 39 [] [],
  dd "_law_build" 40 [] [],
  dd "_law_forms" 41 [] [],
  dd "_law_pairs" 42 [] [],
  dd "_law_scene" 43 [] [],
  dd "_law_chosen" 44 [] [],
  dd "_law_supposed" 45 [] [],
  dd "_law_form_of" 46 [] [],
  dd "_law_rights" 47 [] [],
  dd "_law_wanted" 48 [] [],
  dd "_law_links" 49 [] [],
  dd "_law_close" 50 [] [],
  dd "_law_part" 51 [] [],
  dd "_law_clashes" 52 [] [],
  dd "_law_given" 53 [] [],
  dd "_law_classes" 54 [] [],
  dd "_law_fixed" 55 [] [],
  dd "_law_agrees" 56 [] [],
  dd "law" 57 [] []]
def fa : List He.Fa := [.glo "is_name", .glo "are_names", .glo "is_rising", .glo "is_set", .glo "is_name_pair", .glo "is_fact", .glo "need", .glo "source_of", .glo "source_names", .glo "party_names", .glo "need_parties", .glo "need_supposed", .glo "build_step", .glo "moved_steps", .glo "next_steps", .glo "derived", .glo "part_clash", .glo "parted_pairs", .glo "clashes_among", .glo "facts_of", .glo "clashes_of", .glo "is_calm", .glo "classes_of", .glo "_law_feed", .glo "_law_draw", .glo "_law_any", .glo "_law_names", .glo "_law_rows", .glo "_law_row", .glo "_law_build", .glo "_law_forms", .glo "_law_pairs", .glo "_law_scene", .glo "_law_chosen", .glo "_law_supposed", .glo "_law_form_of", .glo "_law_rights", .glo "_law_wanted", .glo "_law_links", .glo "_law_close", .glo "_law_part", .glo "_law_clashes", .glo "_law_given", .glo "_law_classes", .glo "_law_fixed", .glo "_law_agrees", .glo "law", .free "isinstance", .free "str", .free "len", .free "all", .free "tuple", .free "zip", .free "enumerate", .free "range", .free "sorted", .free "set", .free "list", .free "int", .free "bool", .str "LETTERS" "abcdefghijklmnopqrstuvwxyz", .str "DIGITS" "0123456789", .int "LONGEST_NAME" 8]
def exB (K : PySem.W.Frag) : Bool := [("facts_of" : Str), ("clashes_of" : Str), ("is_calm" : Str), ("classes_of" : Str)].all fun f => tup0B K (kwAt f "supposed" K)
abbrev R : PySem.W.OpenRow := PySem.W.OpenLaw.row PySem.Challenge.rw_rebuiltby_k18_whole_classes
abbrev hk : PySem.W.Hook := He.hookX 4 fa fn [] [] exB
def ob (s : PySem.W.SharedT) : He.AlX := He.obsX 4 fa fn [] [] exB (HandSHeadRun.getT s)
theorem ob_eq (s : PySem.W.SharedT) : ob s = hk.obs s.abs := He.obsX_eq (HandSHeadRun.getT_eq s)
def loose0 : List PySem.Str := ["RebuiltError", "BookError", "NotUsable", "LETTERS", "DIGITS", "LONGEST_NAME", "is_name", "are_names", "is_rising", "is_set", "is_name_pair", "is_fact", "need", "source_of", "source_names", "party_names", "need_parties", "need_supposed", "build_step", "moved_steps", "next_steps", "derived", "part_clash", "parted_pairs", "clashes_among", "facts_of", "clashes_of", "is_calm", "classes_of", "_law_feed"]
def loose1 : List PySem.Str := ["_law_draw", "_law_any", "_law_names", "_law_rows", "_law_row", "_law_build", "_law_forms", "_law_pairs", "_law_scene", "_law_chosen", "_law_supposed", "_law_form_of", "_law_rights", "_law_wanted", "_law_links", "_law_close", "_law_part", "_law_clashes", "_law_given", "_law_classes", "_law_fixed", "_law_agrees"]
abbrev looseN : List PySem.Str := loose0 ++ loose1
theorem run (w : World) : HandSHeadRun.RunEq R (PySem.W.view R.prog [57]) hk ob 3000 looseN w := by
  intro os
  kernel_rfl
end Rb
set_option Elab.async false
set_option linter.all false
set_option maxRecDepth 100000
namespace Rb
open PySem PySem.Spec PyProof.Rows L2
abbrev s_is_name : Stmt := topS 8
abbrev N_is_name : List Str := ["thing", "sign"]
theorem sc_is_name : FnScope N_is_name ["thing"] (defScope s_is_name) := ⟨rfl, rfl, rfl, by decide +kernel, rfl, by decide +kernel, by decide +kernel⟩
abbrev s_are_names : Stmt := topS 9
abbrev N_are_names : List Str := ["thing", "one"]
theorem sc_are_names : FnScope N_are_names ["thing"] (defScope s_are_names) := ⟨rfl, rfl, rfl, by decide +kernel, rfl, by decide +kernel, by decide +kernel⟩
abbrev s_is_rising : Stmt := topS 10
abbrev N_is_rising : List Str := ["some", "one", "other"]
theorem sc_is_rising : FnScope N_is_rising ["some"] (defScope s_is_rising) := ⟨rfl, rfl, rfl, by decide +kernel, rfl, by decide +kernel, by decide +kernel⟩
abbrev s_is_set : Stmt := topS 11
abbrev N_is_set : List Str := ["thing"]
theorem sc_is_set : FnScope N_is_set ["thing"] (defScope s_is_set) := ⟨rfl, rfl, rfl, by decide +kernel, rfl, by decide +kernel, by decide +kernel⟩
abbrev s_is_name_pair : Stmt := topS 12
abbrev N_is_name_pair : List Str := ["thing"]
theorem sc_is_name_pair : FnScope N_is_name_pair ["thing"] (defScope s_is_name_pair) := ⟨rfl, rfl, rfl, by decide +kernel, rfl, by decide +kernel, by decide +kernel⟩
abbrev s_is_fact : Stmt := topS 13
abbrev N_is_fact : List Str := ["thing"]
theorem sc_is_fact : FnScope N_is_fact ["thing"] (defScope s_is_fact) := ⟨rfl, rfl, rfl, by decide +kernel, rfl, by decide +kernel, by decide +kernel⟩
abbrev s_need : Stmt := topS 15
abbrev N_need : List Str := ["fine", "word", "at"]
theorem sc_need : FnScope N_need ["fine", "word", "at"] (defScope s_need) := ⟨rfl, rfl, rfl, by decide +kernel, rfl, by decide +kernel, by decide +kernel⟩
abbrev s_source_of : Stmt := topS 16
abbrev N_source_of : List Str := ["book", "name", "source"]
theorem sc_source_of : FnScope N_source_of ["book", "name"] (defScope s_source_of) := ⟨rfl, rfl, rfl, by decide +kernel, rfl, by decide +kernel, by decide +kernel⟩
abbrev s_source_names : Stmt := topS 17
abbrev N_source_names : List Str := ["book", "source"]
theorem sc_source_names : FnScope N_source_names ["book"] (defScope s_source_names) := ⟨rfl, rfl, rfl, by decide +kernel, rfl, by decide +kernel, by decide +kernel⟩
abbrev s_party_names : Stmt := topS 18
abbrev N_party_names : List Str := ["book", "name", "weight"]
theorem sc_party_names : FnScope N_party_names ["book"] (defScope s_party_names) := ⟨rfl, rfl, rfl, by decide +kernel, rfl, by decide +kernel, by decide +kernel⟩
abbrev s_need_parties : Stmt := topS 19
abbrev N_need_parties : List Str := ["book", "thing", "word", "names", "name"]
theorem sc_need_parties : FnScope N_need_parties ["book", "thing", "word"] (defScope s_need_parties) := ⟨rfl, rfl, rfl, by decide +kernel, rfl, by decide +kernel, by decide +kernel⟩
abbrev s_need_supposed : Stmt := topS 20
abbrev N_need_supposed : List Str := ["book", "supposed", "names", "fine", "fact", "one", "other"]
theorem sc_need_supposed : FnScope N_need_supposed ["book", "supposed"] (defScope s_need_supposed) := ⟨rfl, rfl, rfl, by decide +kernel, rfl, by decide +kernel, by decide +kernel⟩
abbrev s_build_step : Stmt := topS 21
abbrev N_build_step : List Str := ["book", "spots", "k", "party", "compiler", "source", "parts", "file", "name", "language", "compiles", "steady", "uses", "found", "other", "wanted", "part", "use", "fact"]
theorem sc_build_step : FnScope N_build_step ["book", "spots", "k"] (defScope s_build_step) := ⟨rfl, rfl, rfl, by decide +kernel, rfl, by decide +kernel, by decide +kernel⟩
abbrev s_moved_steps : Stmt := topS 22
abbrev N_moved_steps : List Str := ["facts", "spots", "by_file", "by_source", "n", "file", "source", "found", "i", "j", "l"]
theorem sc_moved_steps : FnScope N_moved_steps ["facts", "spots"] (defScope s_moved_steps) := ⟨rfl, rfl, rfl, by decide +kernel, rfl, by decide +kernel, by decide +kernel⟩
abbrev s_next_steps : Stmt := topS 23
abbrev N_next_steps : List Str := ["book", "trusted", "facts", "spots", "n", "fact", "found", "met", "k", "build", "step"]
theorem sc_next_steps : FnScope N_next_steps ["book", "trusted", "facts"] (defScope s_next_steps) := ⟨rfl, rfl, rfl, by decide +kernel, rfl, by decide +kernel, by decide +kernel⟩
abbrev s_derived : Stmt := topS 24
abbrev N_derived : List Str := ["book", "trusted", "supposed", "facts", "fact", "steps", "n", "more", "step"]
theorem sc_derived : FnScope N_derived ["book", "trusted", "supposed"] (defScope s_derived) := ⟨rfl, rfl, rfl, by decide +kernel, rfl, by decide +kernel, by decide +kernel⟩
abbrev s_part_clash : Stmt := topS 25
abbrev N_part_clash : List Str := ["book", "known", "k", "m", "one", "other", "name", "language", "compiles", "steady", "uses"]
theorem sc_part_clash : FnScope N_part_clash ["book", "known", "k", "m"] (defScope s_part_clash) := ⟨rfl, rfl, rfl, by decide +kernel, rfl, by decide +kernel, by decide +kernel⟩
abbrev s_parted_pairs : Stmt := topS 26
abbrev N_parted_pairs : List Str := ["book", "trusted", "known", "mine", "k", "build", "m"]
theorem sc_parted_pairs : FnScope N_parted_pairs ["book", "trusted", "known"] (defScope s_parted_pairs) := ⟨rfl, rfl, rfl, by decide +kernel, rfl, by decide +kernel, by decide +kernel⟩
abbrev s_clashes_among : Stmt := topS 27
abbrev N_clashes_among : List Str := ["book", "trusted", "facts", "known", "fact", "files", "file", "source", "unlike", "one", "other", "parted", "k", "m"]
theorem sc_clashes_among : FnScope N_clashes_among ["book", "trusted", "facts"] (defScope s_clashes_among) := ⟨rfl, rfl, rfl, by decide +kernel, rfl, by decide +kernel, by decide +kernel⟩
abbrev s_facts_of : Stmt := topS 29
abbrev N_facts_of : List Str := ["book", "trusted", "supposed"]
theorem sc_facts_of : FnScope N_facts_of ["book", "trusted", "supposed"] (defScope s_facts_of) := ⟨rfl, rfl, rfl, by decide +kernel, rfl, by decide +kernel, by decide +kernel⟩
abbrev s_clashes_of : Stmt := topS 30
abbrev N_clashes_of : List Str := ["book", "trusted", "supposed", "facts"]
theorem sc_clashes_of : FnScope N_clashes_of ["book", "trusted", "supposed"] (defScope s_clashes_of) := ⟨rfl, rfl, rfl, by decide +kernel, rfl, by decide +kernel, by decide +kernel⟩
abbrev s_is_calm : Stmt := topS 31
abbrev N_is_calm : List Str := ["book", "trusted", "supposed"]
theorem sc_is_calm : FnScope N_is_calm ["book", "trusted", "supposed"] (defScope s_is_calm) := ⟨rfl, rfl, rfl, by decide +kernel, rfl, by decide +kernel, by decide +kernel⟩
abbrev s_classes_of : Stmt := topS 32
abbrev N_classes_of : List Str := ["book", "trusted", "supposed", "facts", "first_files", "file", "source", "found", "name"]
theorem sc_classes_of : FnScope N_classes_of ["book", "trusted", "supposed"] (defScope s_classes_of) := ⟨rfl, rfl, rfl, by decide +kernel, rfl, by decide +kernel, by decide +kernel⟩
abbrev s_l_feed : Stmt := topS 34
abbrev N_l_feed : List Str := ["_law_script"]
theorem sc_l_feed : FnScope N_l_feed ["_law_script"] (defScope s_l_feed) := ⟨rfl, rfl, rfl, by decide +kernel, rfl, by decide +kernel, by decide +kernel⟩
abbrev s_l_draw : Stmt := topS 35
abbrev N_l_draw : List Str := ["_law_feed_here", "_law_many", "_law_turn", "_law_left", "_law_spot", "_law_cell", "_law_mixed"]
theorem sc_l_draw : FnScope N_l_draw ["_law_feed_here", "_law_many"] (defScope s_l_draw) := ⟨rfl, rfl, rfl, by decide +kernel, rfl, by decide +kernel, by decide +kernel⟩
abbrev s_l_any : Stmt := topS 36
abbrev N_l_any : List Str := ["_law_feed_here", "_law_some"]
theorem sc_l_any : FnScope N_l_any ["_law_feed_here", "_law_some"] (defScope s_l_any) := ⟨rfl, rfl, rfl, by decide +kernel, rfl, by decide +kernel, by decide +kernel⟩
abbrev s_l_names : Stmt := topS 37
abbrev N_l_names : List Str := ["_law_feed_here", "_law_sources", "_law_parties", "_law_files"]
theorem sc_l_names : FnScope N_l_names ["_law_feed_here"] (defScope s_l_names) := ⟨rfl, rfl, rfl, by decide +kernel, rfl, by decide +kernel, by decide +kernel⟩
abbrev s_l_rows : Stmt := topS 38
abbrev N_l_rows : List Str := ["_law_scene_here", "_law_first"]
theorem sc_l_rows : FnScope N_l_rows ["_law_scene_here"] (defScope s_l_rows) := ⟨rfl, rfl, rfl, by decide +kernel, rfl, by decide +kernel, by decide +kernel⟩
abbrev s_l_row : Stmt := topS 39
abbrev N_l_row : List Str := ["_law_feed_here", "_law_role", "_law_parts", "_law_k"]
theorem sc_l_row : FnScope N_l_row ["_law_feed_here"] (defScope s_l_row) := ⟨rfl, rfl, rfl, by decide +kernel, rfl, by decide +kernel, by decide +kernel⟩
abbrev s_l_build : Stmt := topS 40
abbrev N_l_build : List Str := ["_law_row_here", "_law_names_here", "_law_sources", "_law_parties", "_law_files", "_law_parts", "_law_k", "_law_compiler"]
theorem sc_l_build : FnScope N_l_build ["_law_row_here", "_law_names_here"] (defScope s_l_build) := ⟨rfl, rfl, rfl, by decide +kernel, rfl, by decide +kernel, by decide +kernel⟩
abbrev s_l_forms : Stmt := topS 41
abbrev N_l_forms : List Str := ["_law_feed_here", "_law_sources", "_law_steady", "_law_words", "_law_first", "_law_late", "_law_compiles", "_law_uses", "_law_k"]
theorem sc_l_forms : FnScope N_l_forms ["_law_feed_here", "_law_sources"] (defScope s_l_forms) := ⟨rfl, rfl, rfl, by decide +kernel, rfl, by decide +kernel, by decide +kernel⟩
abbrev s_l_pairs : Stmt := topS 42
abbrev N_l_pairs : List Str := ["_law_feed_here", "_law_sources", "_law_scene_here", "_law_found", "_law_k", "_law_one", "_law_other"]
theorem sc_l_pairs : FnScope N_l_pairs ["_law_feed_here", "_law_sources", "_law_scene_here"] (defScope s_l_pairs) := ⟨rfl, rfl, rfl, by decide +kernel, rfl, by decide +kernel, by decide +kernel⟩
abbrev s_l_scene : Stmt := topS 43
abbrev N_l_scene : List Str := ["_law_feed_here", "_law_names_here", "_law_scene_here", "_law_turn", "_law_rows_here", "_law_row_here", "_law_k", "_law_spot", "_law_builds", "_law_build_here", "_law_persons", "_law_name", "_law_pairs_here"]
theorem sc_l_scene : FnScope N_l_scene ["_law_feed_here"] (defScope s_l_scene) := ⟨rfl, rfl, rfl, by decide +kernel, rfl, by decide +kernel, by decide +kernel⟩
abbrev s_l_chosen : Stmt := topS 44
abbrev N_l_chosen : List Str := ["_law_book", "_law_mask", "_law_k"]
theorem sc_l_chosen : FnScope N_l_chosen ["_law_book", "_law_mask"] (defScope s_l_chosen) := ⟨rfl, rfl, rfl, by decide +kernel, rfl, by decide +kernel, by decide +kernel⟩
abbrev s_l_supposed : Stmt := topS 45
abbrev N_l_supposed : List Str := ["_law_feed_here", "_law_book", "_law_names_here", "_law_found", "_law_k"]
theorem sc_l_supposed : FnScope N_l_supposed ["_law_feed_here", "_law_book", "_law_names_here"] (defScope s_l_supposed) := ⟨rfl, rfl, rfl, by decide +kernel, rfl, by decide +kernel, by decide +kernel⟩
abbrev s_l_form_of : Stmt := topS 46
abbrev N_l_form_of : List Str := ["_law_book", "_law_source", "_law_form"]
theorem sc_l_form_of : FnScope N_l_form_of ["_law_book", "_law_source"] (defScope s_l_form_of) := ⟨rfl, rfl, rfl, by decide +kernel, rfl, by decide +kernel, by decide +kernel⟩
abbrev s_l_rights : Stmt := topS 47
abbrev N_l_rights : List Str := ["_law_facts", "_law_file", "_law_name", "_law_source"]
theorem sc_l_rights : FnScope N_l_rights ["_law_facts", "_law_file"] (defScope s_l_rights) := ⟨rfl, rfl, rfl, by decide +kernel, rfl, by decide +kernel, by decide +kernel⟩
abbrev s_l_wanted : Stmt := topS 48
abbrev N_l_wanted : List Str := ["_law_book", "_law_facts", "_law_build_here", "_law_form", "_law_kinds", "_law_one", "_law_part_here", "_law_use"]
theorem sc_l_wanted : FnScope N_l_wanted ["_law_book", "_law_facts", "_law_build_here"] (defScope s_l_wanted) := ⟨rfl, rfl, rfl, by decide +kernel, rfl, by decide +kernel, by decide +kernel⟩
abbrev s_l_links : Stmt := topS 49
abbrev N_l_links : List Str := ["_law_facts", "_law_found", "_law_file", "_law_source", "_law_other"]
theorem sc_l_links : FnScope N_l_links ["_law_facts"] (defScope s_l_links) := ⟨rfl, rfl, rfl, by decide +kernel, rfl, by decide +kernel, by decide +kernel⟩
abbrev s_l_close : Stmt := topS 50
abbrev N_l_close : List Str := ["_law_book", "_law_trusted", "_law_assumed", "_law_facts", "_law_grown", "_law_before", "_law_build_here", "_law_fact", "_law_links_here", "_law_file", "_law_source", "_law_one", "_law_other"]
theorem sc_l_close : FnScope N_l_close ["_law_book", "_law_trusted", "_law_assumed"] (defScope s_l_close) := ⟨rfl, rfl, rfl, by decide +kernel, rfl, by decide +kernel, by decide +kernel⟩
abbrev s_l_part : Stmt := topS 51
abbrev N_l_part : List Str := ["_law_book", "_law_trusted", "_law_facts", "_law_one", "_law_other", "_law_both", "_law_source"]
theorem sc_l_part : FnScope N_l_part ["_law_book", "_law_trusted", "_law_facts", "_law_one", "_law_other"] (defScope s_l_part) := ⟨rfl, rfl, rfl, by decide +kernel, rfl, by decide +kernel, by decide +kernel⟩
abbrev s_l_clashes : Stmt := topS 52
abbrev N_l_clashes : List Str := ["_law_book", "_law_trusted", "_law_facts", "_law_found", "_law_one", "_law_other", "_law_file", "_law_source", "_law_m", "_law_k"]
theorem sc_l_clashes : FnScope N_l_clashes ["_law_book", "_law_trusted", "_law_facts"] (defScope s_l_clashes) := ⟨rfl, rfl, rfl, by decide +kernel, rfl, by decide +kernel, by decide +kernel⟩
abbrev s_l_given : Stmt := topS 53
abbrev N_l_given : List Str := ["_law_sources", "_law_parties", "_law_own", "_law_more", "_law_head"]
theorem sc_l_given : FnScope N_l_given [] (defScope s_l_given) := ⟨rfl, rfl, rfl, by decide +kernel, rfl, by decide +kernel, by decide +kernel⟩
abbrev s_l_classes : Stmt := topS 54
abbrev N_l_classes : List Str := ["_law_book", "_law_facts", "_law_found", "_law_form", "_law_mates", "_law_other", "_law_one", "_law_shared", "_law_file", "_law_source"]
theorem sc_l_classes : FnScope N_l_classes ["_law_book", "_law_facts"] (defScope s_l_classes) := ⟨rfl, rfl, rfl, by decide +kernel, rfl, by decide +kernel, by decide +kernel⟩
abbrev s_l_fixed : Stmt := topS 55
abbrev N_l_fixed : List Str := ["_law_alone", "_law_whole", "_law_split", "_law_assumed", "_law_apart"]
theorem sc_l_fixed : FnScope N_l_fixed [] (defScope s_l_fixed) := ⟨rfl, rfl, rfl, by decide +kernel, rfl, by decide +kernel, by decide +kernel⟩
abbrev s_l_agrees : Stmt := topS 56
abbrev N_l_agrees : List Str := ["_law_book", "_law_trusted", "_law_assumed", "_law_facts", "_law_calm", "_law_classes_here", "_law_told", "_law_some", "_law_form"]
theorem sc_l_agrees : FnScope N_l_agrees ["_law_book", "_law_trusted", "_law_assumed"] (defScope s_l_agrees) := ⟨rfl, rfl, rfl, by decide +kernel, rfl, by decide +kernel, by decide +kernel⟩
abbrev s_law : Stmt := topS 57
abbrev N_law : List Str := ["_law_script", "_law_feed_here", "_law_book", "_law_names_here", "_law_mask", "_law_trusted"]
theorem sc_law : FnScope N_law ["_law_script"] (defScope s_law) := ⟨rfl, rfl, rfl, by decide +kernel, rfl, by decide +kernel, by decide +kernel⟩
end Rb
set_option Elab.async false
set_option linter.all false
set_option maxRecDepth 100000
set_option maxHeartbeats 4000000
namespace Rb
open PySem PySem.Spec PyProof.Rows L2
/-- the module's names that the defs lean on -/
structure Gf (mg : Str → Option Value) : Prop where
  isinstance : mg "isinstance" = none
  str : mg "str" = none
  len : mg "len" = none
  all : mg "all" = none
  tuple : mg "tuple" = none
  zip : mg "zip" = none
  enumerate : mg "enumerate" = none
  range : mg "range" = none
  sorted : mg "sorted" = none
  set : mg "set" = none
  list : mg "list" = none
  int : mg "int" = none
  bool : mg "bool" = none
  letters : ∃ t, mg "LETTERS" = some (.str "abcdefghijklmnopqrstuvwxyz" t)
  digits : ∃ t, mg "DIGITS" = some (.str "0123456789" t)
  longest : ∃ t, mg "LONGEST_NAME" = some (.int 8 t)
/-- a def of the top, by its statement -/
abbrev FD (K : PySem.W.Frag) (x : Str) (st : Stmt) (f : Addr) (fd : FuncData) : Prop := FunD K x x (defArgs st) (defBody st) (defScope st) [] [] f fd
variable {P : Program} {w : World} {K : PySem.W.Frag} {mg : Str → Option Value} {base : Heap}
/-- a name by form -/
def letters : Str := "abcdefghijklmnopqrstuvwxyz"
def digits : Str := "0123456789"
def isNameB (z : Str) : Bool := decide (1 ≤ z.length) && decide (z.length ≤ 8) && (match z.cps.toList[0]? with
  | some c => decide (c ∈ letters.cps.toList)
  | none => false) && z.cps.toList.all fun c => decide (c ∈ letters.cps.toList) || decide (c ∈ digits.cps.toList)
def R_name : Hp → List SV → SV → Prop := fun _ xs y => ∃ z : Str, xs = [.d (.str z)] ∧ isNameB z = true ∧ y = .d (.bool true)
theorem fn_is_name {f : Addr} {fd : FuncData} (T : Gf mg) (F : FD K "is_name" s_is_name f fd) (hx : mg "is_name" = some (.ref f)) : Fn P w K mg base "is_name" 1 1 [] R_name := by
  refine fn_pure F sc_is_name rfl rfl hx (F.bindsN fun _ _ _ _ _ _ us hl => match us, hl with | [_], _ => rfl) .nil fun cdv A outer s H E hr G xs y Q hR hl q => ?_
  obtain ⟨z, rfl, hz, rfl⟩ := hR
  obtain ⟨tl, hl1⟩ := T.letters
  obtain ⟨td, hl2⟩ := T.digits
  obtain ⟨tn, hl3⟩ := T.longest
  unfold isNameB at hz
  simp only [Bool.and_eq_true, decide_eq_true_eq] at hz
  obtain ⟨⟨⟨h1, h2⟩, h3⟩, h4⟩ := hz
  obtain ⟨c0, e0, h5⟩ : ∃ c, z.cps.toList[0]? = some c ∧ decide (c ∈ letters.cps.toList) = true := by
    cases e : z.cps.toList[0]? with
    | none => rw [e] at h3; cases h3
    | some c => rw [e] at h3; exact ⟨c, rfl, h3⟩
  have h8 : z.length ≤ 100000 := by omega
  refine ss_if1 (k := false) ?_ (fun k => nomatch k) fun _ G1 H1 g1 => ?_
  · refine ET.to (et_w (ew_or (et_not (et_val (ee_callB T.isinstance (by decide +kernel) (ea_cons (ee_nm 0) (ea_cons (ee_ty T.str (by decide +kernel)) ea_nil)) fun _ _ g => isi_str g)))
      fun _ => ew_or (et_not (et_chain ee_int (ee_callB T.len (by decide +kernel) (ea_cons (ee_nm 0) ea_nil) fun _ _ g => cd_lenS h8 g) (ee_gint hl3) (fun _ _ g => od_le g) (fun _ _ g => od_le g)))
      fun _ => ew_or1 (et_cmp (ee_ix (ee_nm 0) ee_int fun _ _ g => xd_str (i := 0) h8 e0 g) (ee_gstr hl1) fun _ _ g => od_nsign g))) ?_
    have h6 : decide (c0 ∈ (("abcdefghijklmnopqrstuvwxyz" : Str).cps.toList)) = true := h5
    have h7 : decide ((1 : Int) ≤ (z.length : Nat)) = true := decide_eq_true (by omega)
    have h9 : decide (((z.length : Nat) : Int) ≤ 8) = true := decide_eq_true (by omega)
    rw [h6, h7, h9] <;> rfl
  · refine ss_ret (x := .d (.bool true)) (EE.to (ee_all [("sign", 1)] z.cps.toList (fun c => .str ⟨#[c]⟩) (fun c => [(1, .str ⟨#[c]⟩)]) (fun c => decide (c ∈ letters.cps.toList) || decide (c ∈ digits.cps.toList)) T.all sc_is_name.nd (ei_str (ee_nm 0)) ?_ ?_ (fun _ _ _ _ _ c _ => ga_nm 1 sc_is_name.nd) (fun _ _ _ _ _ c _ => ?_)) ?_) fun v G2 H2 g2 r2 => q v G2 H2 (g1.trans g2) r2
    · have e : z.cps.toList.length = z.length := by rw [Array.length_toList] <;> rfl
      omega
    · intro c _ i hi
      exact hi
    · exact ee_or (ee_cmp (ee_nm 1) (ee_gstr hl1) fun _ _ g => od_sign g) fun _ => ee_one (ee_cmp (ee_nm 1) (ee_gstr hl2) fun _ _ g => od_sign g)
    · rw [h4]
end Rb
set_option Elab.async false
set_option linter.all false
set_option maxRecDepth 100000
/-! Books as Lean values, and how they are written as data. -/
namespace Rb
open PySem
structure Src where
  name : Str
  lang : Str
  comp : List Str
  steady : Bool
  uses : List Str
  deriving DecidableEq
structure Bld where
  party : Str
  comp : Option Str
  src : Str
  parts : List Str
  file : Str
  deriving DecidableEq
structure Book where
  srcs : List Src
  parties : List (Str × Int)
  unl : List (Str × Str)
  blds : List Bld
abbrev Fact := Str × Str
def eSs (l : List Str) : D := .tuple (l.map .str)
def eO : Option Str → D
  | none => .none
  | some z => .str z
def eS (s : Src) : D := .tuple [.str s.name, .str s.lang, .tuple (s.comp.map .str), .bool s.steady, .tuple (s.uses.map .str)]
def eB (b : Bld) : D := .tuple [.str b.party, eO b.comp, .str b.src, .tuple (b.parts.map .str), .str b.file]
def eP (p : Str × Int) : D := .tuple [.str p.1, .int p.2]
def eU (p : Str × Str) : D := .tuple [.str p.1, .str p.2]
def eK (b : Book) : D := .tuple [.tuple (b.srcs.map eS), .tuple (b.parties.map eP), .tuple (b.unl.map eU), .tuple (b.blds.map eB)]
/-- the order of texts -/
def ltS (a b : Str) : Bool := decide (a.cps.toList < b.cps.toList)
def ltF (a b : Fact) : Bool := if a.1 = b.1 then ltS a.2 b.2 else ltS a.1 b.1
/-- each less than the next -/
def rising {α : Type} (lt : α → α → Bool) (l : List α) : Bool := (l.zip (l.drop 1)).all fun p => lt p.1 p.2
def noSrc : Src := ⟨"", "", [], false, []⟩
def Book.srcOf (b : Book) (n : Str) : Src := (b.srcs.find? fun s => decide (s.name = n)).getD noSrc
end Rb
set_option Elab.async false
set_option linter.all false
set_option maxRecDepth 100000
set_option maxHeartbeats 4000000
/-! Short words: places, pairs, shapes. -/
namespace Rb
open PySem PySem.Spec PyProof.Rows L2
section
variable {X : Cx} {ρ : Env} {G H : Hp} {a : Expr} {pos p2 : Pos} {ds : List D} {d : D}
/-- t[i], i written -/
theorem ee_at {i : Int} {j : Nat} (n : Nat) (ha : EE X ρ G H a (.d (.tuple ds))) (hi : i = (n : Int) := by rfl) (h : ds[n]? = some d := by rfl) : EE X ρ G H (.Subscript a (.Constant (.int i) j p2) pos) (.d d) := by
  subst hi
  exact ee_ix ha ee_int fun _ _ g => xd_tup h g
theorem ee_atL {i : Int} {j : Nat} (n : Nat) (ha : EE X ρ G H a (.d (.list ds))) (h : ds[n]? = some d) (hi : i = (n : Int) := by rfl) : EE X ρ G H (.Subscript a (.Constant (.int i) j p2) pos) (.d d) := by
  subst hi
  exact ee_ix ha ee_int fun _ _ g => xd_lst h g
/-- (a, b) -/
theorem ee_pair {x y : D} {e f : Expr} {k : Nat} (h1 : EE X ρ G H e (.d x)) (h2 : EE X ρ G H f (.d y)) (hs : starEach [e, f] X.env = (false, eval e X.env) :: starEach [f] X.env := by rfl) (hs2 : starEach [f] X.env = (false, eval f X.env) :: starEach [] X.env := by rfl) :
    EE X ρ G H (.Tuple [e, f] k pos) (.d (.tuple [x, y])) := ee_tup (ds := [x, y]) (ea_cons h1 (ea_cons h2 ea_nil hs2) hs)
/-- len(t) -/
theorem ee_lenT {p p' : Pos} (hm : X.mg "len" = none) (h : EE X ρ G H a (.d (.tuple ds))) (hg : Gl X "len" := by rfl) (hs : starEach [a] X.env = (false, eval a X.env) :: starEach [] X.env := by rfl) (hpl : (backTo p (starEach [] X.env)).any (·.1) = false := by rfl) :
    EE X ρ G H (.Call (.Name "len" p') [a] [] p) (.d (.int (ds.length : Nat))) := ee_callB hm PySem.boot_len (ea_cons h ea_nil hs) (fun _ _ g => cd_lenT g) hg (by decide) (by decide) hs hpl
theorem ee_lenL {p p' : Pos} (hm : X.mg "len" = none) (h : EE X ρ G H a (.d (.list ds))) (hg : Gl X "len" := by rfl) (hs : starEach [a] X.env = (false, eval a X.env) :: starEach [] X.env := by rfl) (hpl : (backTo p (starEach [] X.env)).any (·.1) = false := by rfl) :
    EE X ρ G H (.Call (.Name "len" p') [a] [] p) (.d (.int (ds.length : Nat))) := ee_callB hm PySem.boot_len (ea_cons h ea_nil hs) (fun _ _ g => cd_lenL g) hg (by decide) (by decide) hs hpl
/-- tuple(l) -/
theorem ee_tupOf {p p' : Pos} (hm : X.mg "tuple" = none) (h : EE X ρ G H a (.d (.list ds))) (hg : Gl X "tuple" := by rfl) (hs : starEach [a] X.env = (false, eval a X.env) :: starEach [] X.env := by rfl) (hpl : (backTo p (starEach [] X.env)).any (·.1) = false := by rfl) :
    EE X ρ G H (.Call (.Name "tuple" p') [a] [] p) (.d (.tuple ds)) := ee_callT hm PyProof.Rows.boot_tuple (ea_cons h ea_nil hs) (fun _ _ g => cd_tuple g) hg (by decide) (by decide) hs hpl
end
theorem isi_t {X : Cx} {ρ : Env} {G H : Hp} {a : Expr} {ds : List D} {p p' p2 : Pos} (hm : X.mg "isinstance" = none) (hm2 : X.mg "tuple" = none) (h : EE X ρ G H a (.d (.tuple ds))) (hg : Gl X "isinstance" := by rfl) (hg2 : Gl X "tuple" := by rfl)
    (hs : starEach [a, .Name "tuple" p2] X.env = (false, eval a X.env) :: starEach [.Name "tuple" p2] X.env := by rfl) : EE X ρ G H (.Call (.Name "isinstance" p') [a, .Name "tuple" p2] [] p) (.d (.bool true)) :=
  ee_callB hm (by decide +kernel) (ea_cons h (ea_cons (ee_ty hm2 PyProof.Rows.boot_tuple hg2) ea_nil) hs) (fun _ _ g => isi_tup g) hg (by decide) (by decide) hs
theorem pairsOf_map {α β : Type} (f : α → D) (g : β → D) (xs : List α) (ys : List β) : pairsOf (xs.map f) (ys.map g) = (xs.zip ys).map fun p => .tuple [f p.1, g p.2] := by
  unfold pairsOf
  rw [List.zip_map, List.map_map]
  rfl
theorem numbered_map {α : Type} (f : α → D) (xs : List α) : numbered (xs.map f) = xs.zipIdx.map fun p => .tuple [.int ((p.2 : Nat) : Int), f p.1] := by
  unfold numbered
  rw [List.zipIdx_map, List.map_map]
  rfl
end Rb
set_option Elab.async false
set_option linter.all false
set_option maxRecDepth 100000
set_option maxHeartbeats 4000000
namespace Rb
open PySem PySem.Spec PyProof.Rows L2
variable {P : Program} {w : World} {K : PySem.W.Frag} {mg : Str → Option Value} {base : Heap} {f : Addr} {fd : FuncData}
def R_names : Hp → List SV → SV → Prop := fun _ xs y => ∃ zs : List Str, xs = [.d (eSs zs)] ∧ zs.length < 1000 ∧ (∀ z ∈ zs, isNameB z = true) ∧ y = .d (.bool true)
theorem fn_are_names (T : Gf mg) (F : FD K "are_names" s_are_names f fd) (hx : mg "are_names" = some (.ref f)) (C : Fn P w K mg base "is_name" 1 1 [] R_name) : Fn P w K mg base "are_names" 2 1 [] R_names := by
  refine fn_pure F sc_are_names rfl rfl hx (F.bindsN fun _ _ _ _ _ _ us hl => match us, hl with | [_], _ => rfl) .nil fun cdv A outer s H E hr G xs y Q hR hl q => ?_
  obtain ⟨zs, rfl, hz, hn, rfl⟩ := hR
  refine ss_ret (x := .d (.bool true)) ?_ q
  refine EE.to (ee_and (isi_t T.isinstance T.tuple (ee_nm 0)) fun _ => ee_one (ee_all [("one", 1)] zs (fun z => .str z) (fun z => [(1, .str z)]) (fun _ => true) T.all sc_are_names.nd (ei_tup (ee_nm 0)) (by omega) (fun _ _ i hi => hi) (fun _ _ _ _ _ z _ => ga_nm 1 sc_are_names.nd)
    fun _ _ _ _ _ z hz => ee_call C hr (ea_cons (ee_nm 1) ea_nil) fun _ _ _ => ⟨z, rfl, hn z hz, rfl⟩)) ?_
  have e : zs.all (fun _ => true) = true := List.all_eq_true.mpr fun _ _ => rfl
  rw [e] <;> rfl
def R_rising : Hp → List SV → SV → Prop := fun _ xs y => ∃ zs : List Str, xs = [.d (eSs zs)] ∧ zs.length < 1000 ∧ y = .d (.bool (rising ltS zs))
theorem fn_is_rising (T : Gf mg) (F : FD K "is_rising" s_is_rising f fd) (hx : mg "is_rising" = some (.ref f)) : Fn P w K mg base "is_rising" 1 1 [] R_rising := by
  refine fn_pure F sc_is_rising rfl rfl hx (F.bindsN fun _ _ _ _ _ _ us hl => match us, hl with | [_], _ => rfl) .nil fun cdv A outer s H E hr G xs y Q hR hl q => ?_
  obtain ⟨zs, rfl, hz, rfl⟩ := hR
  refine ss_ret (x := .d (.bool (rising ltS zs))) ?_ q
  refine ee_all [("one", 1), ("other", 2)] (zs.zip (zs.drop 1)) (fun p => .tuple [.str p.1, .str p.2]) (fun p => [(1, .str p.1), (2, .str p.2)]) (fun p => ltS p.1 p.2) T.all sc_is_rising.nd ?_ ?_ (fun _ _ i hi => hi) (fun _ _ _ _ _ z _ => ga_tup rfl (gas_cons (ga_nm 1 sc_is_rising.nd) (gas_cons (ga_nm 2 sc_is_rising.nd) gas_nil)))
    fun _ _ _ _ _ z hz => ee_cmp (ee_nm 1) (ee_nm 2) fun _ _ g => od_ltS g
  · rw [← pairsOf_map PyData.str PyData.str, List.map_drop]
    have e : (zs.map PyData.str).drop 1 = cutD (zs.map PyData.str) (some ((1 : Nat) : Int)) none := (cutD_from _ 1).symm
    rw [e]
    exact ei_zipT T.zip (ee_nm 0) (ee_slT (ee_nm 0) (eo_at ee_int) eo_no)
  · rw [List.length_zip]
    omega
end Rb
set_option Elab.async false
set_option linter.all false
set_option maxRecDepth 100000
set_option maxHeartbeats 4000000
/-! Order of data; sorted. -/
namespace Rb
open PySem PySem.Spec PyProof.Rows L2
section
variable {X : Cx} {ρ : Env} {G H G1 H1 : Hp}
/-- d < e, alike data -/
theorem od_ltD {d e : D} (hu : X.A.units + 64 < cLine) (ha : PySem.W.alike d e = true) (hn : d ≠ .none) (hd : d.depth ≤ 60) (g : Gr G H G1 H1) : OD X (compareOp .Lt) G1 H1 (.d d) (.d e) (.d (.bool (PySem.W.dataLt d e))) := fun v u rv ru Q q => by
  intro pins s σ v' u' I r1 r2
  obtain ⟨as, q1⟩ := L2.Dp.reads I d v v' (dp_of _ _ (dp_up g.gh d v rv)) r1
  obtain ⟨bs, q2⟩ := L2.Dp.reads I e u u' (dp_of _ _ (dp_up g.gh e u ru)) r2
  have hm : min d.depth e.depth ≤ d.depth := Nat.min_le_left _ _
  refine PySem.W.rcLt_alike d e X.A s v' u' as bs q1 q2 ha hn (by omega) X.prog X.w X.xe _ ?_
  exact ⟨.bl _, H1, I, rfl, q _ G1 H1 (.refl g.gh) (.bl _)⟩
theorem ltF_data (a b : Fact) : PySem.W.dataLt (eU a) (eU b) = ltF a b := by
  unfold eU
  rw [PySem.W.dataLt_pair (by simp [PySem.W.alike]) (by simp [PySem.W.alike]), PySem.W.dataLt_str, PySem.W.dataLt_str]
  unfold ltF ltS
  simp only [PyData.eqv, beq_iff_eq]
  by_cases h1 : a.1 = b.1
  · rw [if_pos h1, if_pos h1]
    by_cases h2 : a.2 = b.2
    · rw [if_pos h2, h2]
      exact (decide_eq_false (List.lt_irrefl _)).symm
    · rw [if_neg h2]
  · rw [if_neg h1, if_neg h1]
theorem eU_alike (a b : Fact) : PySem.W.alike (eU a) (eU b) = true := by simp [eU, PySem.W.alike, PySem.W.alikeAll]
theorem eU_depth (a : Fact) : (eU a).depth ≤ 60 := by simp [eU, PyData.depth, PyData.depthAll]
theorem eU_ne (a : Fact) : eU a ≠ .none := fun h => nomatch h
theorem od_ltF {a b : Fact} (hu : X.A.units + 64 < cLine) (g : Gr G H G1 H1) : OD X (compareOp .Lt) G1 H1 (.d (eU a)) (.d (eU b)) (.d (.bool (ltF a b))) := by
  rw [← ltF_data]
  exact od_ltD hu (eU_alike a b) (eU_ne a) (eU_depth a) g
end
/-! ### sorted -/
section
variable {X : Cx} {ρ : Env} {G H G1 H1 : Hp} {β : Type}
open PySem.W in
theorem each_of_dps {enc : β → D} {G : Hp} : ∀ {bs : List β} {xs : List V} {us : List Value}, DpAll X.K G xs (bs.map enc) → Vals xs us → EachIs (fun u b => ∃ x, RelV x u ∧ Dp X.K G x (enc b)) us bs
  | [], _, _, h, r => by cases h; cases r; exact .nil
  | b :: bs, _, _, h, r => by
    cases h with
    | cons h1 h2 => cases r with | cons r1 r2 => exact .cons ⟨_, r1, h1⟩ (each_of_dps h2 r2)
open PySem.W in
theorem dps_of_each {enc : β → D} {G : Hp} : ∀ {bs : List β} {us : List Value}, EachIs (fun u b => ∃ x, RelV x u ∧ Dp X.K G x (enc b)) us bs → ∃ xs, Vals xs us ∧ DpAll X.K G xs (bs.map enc)
  | _, _, .nil => ⟨[], .nil, .nil⟩
  | _, _, .cons ⟨x, r, h⟩ t => by
    obtain ⟨xs, h1, h2⟩ := dps_of_each t
    exact ⟨x :: xs, .cons r h1, .cons h h2⟩
/-- sorted(l): l's items by the order of data -/
theorem cf_sorted {enc : β → D} {bs : List β} (hu : X.A.units + 64 < cLine) (hal : ∀ a b, PySem.W.alike (enc a) (enc b) = true) (hk : PySem.W.Sortable (bs.map enc)) (hL : bs.length ≤ 100000) (hd : ∀ b, (enc b).depth ≤ 50) (g : Gr G H G1 H1) :
    CF X (.builtin "sorted") G1 H1 [.d (.list (bs.map enc))] ((bs.mergeSort (PySem.W.dataLe false enc)).map enc) := fun vs r Q q => by
  obtain ⟨v, rfl, r1⟩ := srs1 r
  obtain ⟨a, xs, rfl, h1, h2⟩ := sr_lst r1
  intro pins s σ us I rv
  obtain ⟨u, rfl, ru⟩ := vals1 rv
  cases ru
  obtain ⟨its, r', pl, hz⟩ := I.list (g.gh.seq h1)
  have hl := pl.isList
  have e := each_of_dps (X := X) h2 r'
  have er : PySem.W.EachIs (fun v b => ∃ as, Reads s.heap v (enc b) as) its bs := e.mono fun v b ⟨x, rx, dx⟩ => L2.Dp.reads I (enc b) x v (dp_of _ _ (dp_up g.gh _ _ dx)) rx
  refine PySem.W.sorted_data hl e er (PySem.W.AllAlike.of hal) hk (line_of hL) (fun b _ => ?_) fun out ho eo => ?_
  · have := hd b
    omega
  · obtain ⟨xs', v1, d1⟩ := dps_of_each (X := X) eo
    obtain ⟨c, hc⟩ := PyProof.Rows.sortedAll_at s.heap its out.toArray
    have hlen : xs'.length ≤ sizeLine := by
      rw [v1.length, ho]
      exact line_of hL
    have hfr : H1 (s.heap.objs.size + 1) = none := I.hok.fresh (Nat.le_succ _)
    refine ⟨.ref _, upd H1 (s.heap.objs.size + 1) (.lst xs'), I.laid (t' := s.toks) (fun _ _ => PyProof.Rows.sortedAll_old) (Nat.le_succ _) ?_, rfl, q _ xs' G1 _ (.tmp g.gh hfr) hfr (g.gh.free hfr) upd_same d1⟩
    exact ⟨hlen, out, c, v1, hc⟩
end
end Rb
set_option Elab.async false
set_option linter.all false
set_option maxRecDepth 100000
set_option maxHeartbeats 4000000
namespace Rb
open PySem PySem.Spec PyProof.Rows L2
variable {P : Program} {w : World} {K : PySem.W.Frag} {mg : Str → Option Value} {base : Heap} {f : Addr} {fd : FuncData}
def R_set : Hp → List SV → SV → Prop := fun _ xs y => ∃ zs : List Str, xs = [.d (eSs zs)] ∧ zs.length < 1000 ∧ (∀ z ∈ zs, isNameB z = true) ∧ rising ltS zs = true ∧ y = .d (.bool true)
theorem fn_is_set (F : FD K "is_set" s_is_set f fd) (hx : mg "is_set" = some (.ref f)) (C1 : Fn P w K mg base "are_names" 2 1 [] R_names) (C2 : Fn P w K mg base "is_rising" 1 1 [] R_rising) : Fn P w K mg base "is_set" 3 1 [] R_set := by
  refine fn_pure F sc_is_set rfl rfl hx (F.bindsN fun _ _ _ _ _ _ us hl => match us, hl with | [_], _ => rfl) .nil fun cdv A outer s H E hr G xs y Q hR hl q => ?_
  obtain ⟨zs, rfl, hz, hn, hs, rfl⟩ := hR
  refine ss_ret (x := .d (.bool true)) ?_ q
  refine EE.to (ee_and (ee_call C1 hr (ea_cons (ee_nm 0) ea_nil) fun _ _ _ => ⟨zs, rfl, hz, hn, rfl⟩) fun _ => ee_one (ee_call C2 (hr.mono (by decide)) (ea_cons (ee_nm 0) ea_nil) fun _ _ _ => ⟨zs, rfl, hz, rfl⟩)) ?_
  rw [hs] <;> rfl
def R_fact : Hp → List SV → SV → Prop := fun _ xs y => ∃ p : Fact, xs = [.d (eU p)] ∧ isNameB p.1 = true ∧ isNameB p.2 = true ∧ y = .d (.bool true)
theorem fn_is_name_pair (T : Gf mg) (F : FD K "is_name_pair" s_is_name_pair f fd) (hx : mg "is_name_pair" = some (.ref f)) (C1 : Fn P w K mg base "are_names" 2 1 [] R_names) : Fn P w K mg base "is_name_pair" 3 1 [] R_fact := by
  refine fn_pure F sc_is_name_pair rfl rfl hx (F.bindsN fun _ _ _ _ _ _ us hl => match us, hl with | [_], _ => rfl) .nil fun cdv A outer s H E hr G xs y Q hR hl q => ?_
  obtain ⟨p, rfl, h1, h2, rfl⟩ := hR
  refine ss_ret (x := .d (.bool true)) ?_ q
  refine EE.to (ee_and (ee_call C1 hr (ea_cons (ee_nm 0) ea_nil) fun _ _ _ => ⟨[p.1, p.2], rfl, (by show 2 < 1000; decide), ?_, rfl⟩) fun _ => ee_one (ee_cmp (ee_lenT T.len (ee_nm 0)) ee_int fun _ _ g => od_eqI g)) rfl
  intro z hz
  rcases List.mem_cons.mp hz with e | hz
  · rw [e]; exact h1
  · rw [List.mem_singleton.mp hz]; exact h2
theorem fn_is_fact (F : FD K "is_fact" s_is_fact f fd) (hx : mg "is_fact" = some (.ref f)) (C1 : Fn P w K mg base "is_name_pair" 3 1 [] R_fact) : Fn P w K mg base "is_fact" 4 1 [] R_fact := by
  refine fn_pure F sc_is_fact rfl rfl hx (F.bindsN fun _ _ _ _ _ _ us hl => match us, hl with | [_], _ => rfl) .nil fun cdv A outer s H E hr G xs y Q hR hl q => ?_
  obtain ⟨p, rfl, h1, h2, rfl⟩ := hR
  refine ss_ret (x := .d (.bool true)) ?_ q
  exact ee_call C1 hr (ea_cons (ee_nm 0) ea_nil) fun _ _ _ => ⟨p, rfl, h1, h2, rfl⟩
/-- need(True, word) -/
def R_need : Hp → List SV → SV → Prop := fun _ xs y => ∃ a b : D, xs = [.d (.bool true), .d a, .d b] ∧ y = .d .none
theorem fn_need (F : FunD K "need" "need" (defArgs s_need) (defBody s_need) (defScope s_need) [.int (-1)] [] f fd) (hx : mg "need" = some (.ref f)) : Fn P w K mg base "need" 1 3 [.int (-1)] R_need := by
  obtain ⟨ds, hv, hb⟩ := F.binds1 (ps := ["fine", "word", "at"]) 2 0 (by simp) rfl fun _ _ _ _ _ _ _ us its hu hi => match us, its, hu, hi with | [_, _], [_], _, _ => ⟨_, rfl, rfl⟩
  refine fn_pure F sc_need rfl rfl hx hb hv fun cdv A outer s H E hr G xs y Q hR hl q => ?_
  obtain ⟨a, b, rfl, rfl⟩ := hR
  refine ss_if1 (k := false) ?_ (fun k => nomatch k) fun _ G1 H1 g1 => ?_
  · exact ET.to (et_not (et_val (ee_nm 0))) rfl
  · exact ss_nil fun σ s r => q .non G1 H1 g1 .non
/-! ### sources and parties by name -/
def R_source_of : Hp → List SV → SV → Prop := fun _ xs y => ∃ (b : Book) (n : Str), xs = [.d (eK b), .d (.str n)] ∧ y = .d (eS (b.srcOf n))
theorem find_step {α : Type} {p : α → Bool} {l : List α} {i : Nat} {x : α} (h : (l.take i).find? p = none) (e : l[i]? = some x) : (p x = true → l.find? p = some x) ∧ (p x = false → (l.take (i + 1)).find? p = none) := by
  have e1 : l.take (i + 1) = l.take i ++ [x] := by rw [List.take_add_one, e] <;> rfl
  refine ⟨fun hp => ?_, fun hp => ?_⟩
  · have e2 : l = l.take (i + 1) ++ l.drop (i + 1) := (List.take_append_drop _ _).symm
    rw [e2, e1, List.find?_append, List.find?_append, h, List.find?_cons, hp] <;> rfl
  · rw [e1, List.find?_append, h, List.find?_cons, hp] <;> rfl
theorem fn_source_of (F : FD K "source_of" s_source_of f fd) (hx : mg "source_of" = some (.ref f)) : Fn P w K mg base "source_of" 1 2 [] R_source_of := by
  refine fn_pure F sc_source_of rfl rfl hx (F.bindsN fun _ _ _ _ _ _ us hl => match us, hl with | [_, _], _ => rfl) .nil fun cdv A outer s H E hr G xs y Q hR hl q => ?_
  obtain ⟨b, n, rfl, rfl⟩ := hR
  refine ss_for (xs := b.srcs.map eS) (ei_tup (ee_at 0 (ee_nm 0))) fun G2 H2 g2 => ⟨fun i ρ G' H' => ∃ o, ρ = [some (.d (eK b)), some (.d (.str n)), o] ∧ Gr G2 H2 G' H' ∧ (b.srcs.take i).find? (fun s => decide (s.name = n)) = none, ⟨none, rfl, .refl g2.gh, rfl⟩, fun i ρ G1 H1 h => h.choose_spec.2.1.g, ?_, ?_⟩
  · rintro i d ρ G1 H1 hd ⟨o, rfl, g1, hf⟩ G3 H3 g3
    rw [List.getElem?_map] at hd
    cases e : b.srcs[i]? with
    | none => rw [e] at hd; cases hd
    | some x =>
      rw [e] at hd
      cases hd
      obtain ⟨f1, f2⟩ := find_step hf e
      refine ⟨_, ga_nm 2 sc_source_of.nd, ?_⟩
      refine ss_if1 (k := decide (x.name = n)) ?_ (fun k G4 H4 g4 => ?_) fun k G4 H4 g4 => ?_
      · exact et_cmp (ee_at 0 (ee_nm 2)) (ee_nm 1) fun _ _ g => od_eqS g
      · refine ss_ret (x := .d (eS x)) (ee_nm 2) fun v G5 H5 g5 r5 => q v G5 H5 (g2.trans (g1.trans (g3.trans (g4.trans g5)))) ?_
        have e2 : b.srcOf n = x := by
          unfold Book.srcOf
          rw [f1 k] <;> rfl
        rw [e2]
        exact r5
      · exact ss_turn ⟨_, rfl, g1.trans (g3.trans g4), f2 k⟩
  · rintro ρ G1 H1 ⟨o, rfl, g1, hf⟩
    rw [List.length_map, List.take_length] at hf
    have e2 : b.srcOf n = noSrc := by
      unfold Book.srcOf
      rw [hf] <;> rfl
    refine ss_ret (x := .d (eS noSrc)) ?_ fun v G5 H5 g5 r5 => q v G5 H5 (g2.trans (g1.trans g5)) (by rw [e2]; exact r5)
    exact ee_tup (ds := [.str "", .str "", .tuple [], .bool false, .tuple []]) (ea_cons ee_str (ea_cons ee_str (ea_cons (ee_tup (ds := []) ea_nil) (ea_cons ee_bl (ea_cons (ee_tup (ds := []) ea_nil) ea_nil)))))
def Book.names (b : Book) : List Str := b.srcs.map (·.name)
def R_source_names : Hp → List SV → SV → Prop := fun _ xs y => ∃ b : Book, xs = [.d (eK b)] ∧ b.srcs.length < 1000 ∧ y = .d (.list (b.names.map .str))
theorem fn_source_names (F : FD K "source_names" s_source_names f fd) (hx : mg "source_names" = some (.ref f)) : Fn P w K mg base "source_names" 1 1 [] R_source_names := by
  refine fn_pure F sc_source_names rfl rfl hx (F.bindsN fun _ _ _ _ _ _ us hl => match us, hl with | [_], _ => rfl) .nil fun cdv A outer s H E hr G xs y Q hR hl q => ?_
  obtain ⟨b, rfl, hb, rfl⟩ := hR
  refine ss_ret (x := .d (.list (b.names.map .str))) ?_ q
  refine EE.to (EF.ee (ef_map [("source", 1)] b.srcs eS (fun s => [(1, eS s)]) (fun s => .str s.name) sc_source_names.nd (ei_tup (ee_at 0 (ee_nm 0))) (by omega) (fun _ _ i hi => hi) (fun _ _ _ _ _ z _ => ga_nm 1 sc_source_names.nd) fun _ _ _ _ _ z hz => ee_at 0 (ee_nm 1))) ?_
  unfold Book.names
  rw [List.map_map] <;> rfl
def Book.people (b : Book) : List Str := b.parties.map (·.1)
def R_party_names : Hp → List SV → SV → Prop := fun _ xs y => ∃ b : Book, xs = [.d (eK b)] ∧ b.parties.length < 1000 ∧ y = .d (.list (b.people.map .str))
theorem fn_party_names (F : FD K "party_names" s_party_names f fd) (hx : mg "party_names" = some (.ref f)) : Fn P w K mg base "party_names" 1 1 [] R_party_names := by
  refine fn_pure F sc_party_names rfl rfl hx (F.bindsN fun _ _ _ _ _ _ us hl => match us, hl with | [_], _ => rfl) .nil fun cdv A outer s H E hr G xs y Q hR hl q => ?_
  obtain ⟨b, rfl, hb, rfl⟩ := hR
  refine ss_ret (x := .d (.list (b.people.map .str))) ?_ q
  refine EE.to (EF.ee (ef_map [("name", 1), ("weight", 2)] b.parties eP (fun s => [(1, .str s.1), (2, .int s.2)]) (fun s => .str s.1) sc_party_names.nd (ei_tup (ee_at 1 (ee_nm 0))) (by omega) (fun _ _ i hi => hi)
    (fun _ _ _ _ _ z _ => ga_tup rfl (gas_cons (ga_nm 1 sc_party_names.nd) (gas_cons (ga_nm 2 sc_party_names.nd) gas_nil))) fun _ _ _ _ _ z hz => ee_nm 1)) ?_
  unfold Book.people
  rw [List.map_map] <;> rfl
end Rb
set_option Elab.async false
set_option linter.all false
set_option maxRecDepth 100000
set_option maxHeartbeats 4000000
namespace Rb
open PySem PySem.Spec PyProof.Rows L2
variable {P : Program} {w : World} {K : PySem.W.Frag} {mg : Str → Option Value} {base : Heap} {f : Addr} {fd : FuncData}
theorem all_yes {α : Type} {l : List α} {p : α → Bool} (h : ∀ x ∈ l, p x = true) : l.all p = true := List.all_eq_true.mpr h
/-- the trusted parties: a set of parties of the book -/
def Book.Trust (b : Book) (zs : List Str) : Prop := zs.length < 1000 ∧ b.parties.length < 1000 ∧ (∀ z ∈ zs, isNameB z = true) ∧ rising ltS zs = true ∧ ∀ z ∈ zs, z ∈ b.people
def R_parties : Hp → List SV → SV → Prop := fun _ xs y => ∃ (b : Book) (zs : List Str) (o : D), xs = [.d (eK b), .d (eSs zs), .d o] ∧ b.Trust zs ∧ y = .d .none
theorem fn_need_parties (T : Gf mg) (F : FD K "need_parties" s_need_parties f fd) (hx : mg "need_parties" = some (.ref f)) (C1 : Fn P w K mg base "party_names" 1 1 [] R_party_names) (C2 : Fn P w K mg base "is_set" 3 1 [] R_set) (C3 : Fn P w K mg base "need" 1 3 [.int (-1)] R_need) :
    Fn P w K mg base "need_parties" 4 3 [] R_parties := by
  refine fn_pure F sc_need_parties rfl rfl hx (F.bindsN fun _ _ _ _ _ _ us hl => match us, hl with | [_, _, _], _ => rfl) .nil fun cdv A outer s H E hr G xs y Q hR hl q => ?_
  obtain ⟨b, zs, o, rfl, ⟨h1, h2, h3, h4, h5⟩, rfl⟩ := hR
  refine ss_set 3 sc_need_parties.nd (ee_call C1 (hr.mono (by decide)) (ea_cons (ee_nm 0) ea_nil) fun _ _ _ => ⟨b, rfl, h2, rfl⟩) fun G1 H1 g1 => ?_
  refine ss_drop (x := .d .none) ?_ fun G2 H2 g2 => ss_nil fun σ s r => q .non G2 H2 (g1.trans g2) .non
  refine ee_callD (xs := [.d (.bool true), .d o]) (ys := [.d (.int (-1))]) C3 (hr.mono (by decide)) (ea_cons (EE.to (ee_and (ee_call C2 hr (ea_cons (ee_nm 1) ea_nil) fun _ _ _ => ⟨zs, rfl, h1, h3, h4, rfl⟩) fun _ => ee_one (ee_all [("name", 4)] zs (fun z => .str z) (fun z => [(4, .str z)]) (fun z => decide (z ∈ b.people)) T.all sc_need_parties.nd (ei_tup (ee_nm 1)) (by omega) (fun _ _ i hi => hi) (fun _ _ _ _ _ z _ => ga_nm 4 sc_need_parties.nd)
    fun _ _ _ _ _ z hz => ee_cmp (ee_nm 4) (ee_nm 3) fun _ _ g => od_inL g)) ?_) (ea_cons (ee_nm 2) ea_nil)) (fun _ => .cons (.int _) .nil) (fun _ _ _ => ⟨o, .int (-1), rfl, rfl⟩)
  rw [all_yes fun z hz => decide_eq_true (h5 z hz)] <;> rfl
/-- supposed facts: a set of facts of sources of the book -/
def Book.Supp (b : Book) (fs : List Fact) : Prop := fs.length < 1000 ∧ b.srcs.length < 1000 ∧ (∀ p ∈ fs, isNameB p.1 = true ∧ isNameB p.2 = true ∧ p.2 ∈ b.names) ∧ rising ltF fs = true
def R_supposed : Hp → List SV → SV → Prop := fun _ xs y => ∃ (b : Book) (fs : List Fact), xs = [.d (eK b), .d (.tuple (fs.map eU))] ∧ b.Supp fs ∧ y = .d .none
theorem fn_need_supposed (T : Gf mg) (F : FD K "need_supposed" s_need_supposed f fd) (hx : mg "need_supposed" = some (.ref f)) (C1 : Fn P w K mg base "source_names" 1 1 [] R_source_names) (C2 : Fn P w K mg base "is_fact" 4 1 [] R_fact) (C3 : Fn P w K mg base "need" 1 3 [.int (-1)] R_need) :
    Fn P w K mg base "need_supposed" 5 2 [] R_supposed := by
  refine fn_pure F sc_need_supposed rfl rfl hx (F.bindsN fun _ _ _ _ _ _ us hl => match us, hl with | [_, _], _ => rfl) .nil fun cdv A outer s H E hr G xs y Q hR hl q => ?_
  obtain ⟨b, fs, rfl, ⟨h1, h2, h3, h4⟩, rfl⟩ := hR
  refine ss_set 2 sc_need_supposed.nd (ee_call C1 (hr.mono (by decide)) (ea_cons (ee_nm 0) ea_nil) fun _ _ _ => ⟨b, rfl, h2, rfl⟩) fun G1 H1 g1 => ?_
  refine ss_set (x := .d (.bool true)) 3 sc_need_supposed.nd ?_ fun G2 H2 g2 => ?_
  · refine EE.to (ee_and (isi_t T.isinstance T.tuple (ee_nm 1)) fun _ => ee_one (ee_all [("fact", 4)] fs eU (fun z => [(4, eU z)]) (fun z => true && decide (z.2 ∈ b.names)) T.all sc_need_supposed.nd (ei_tup (ee_nm 1)) (by omega) (fun _ _ i hi => hi) (fun _ _ _ _ _ z _ => ga_nm 4 sc_need_supposed.nd)
      fun _ _ _ _ _ z hz => ee_and (ee_call C2 hr (ea_cons (ee_nm 4) ea_nil) fun _ _ _ => ⟨z, rfl, (h3 z hz).1, (h3 z hz).2.1, rfl⟩) fun _ => ee_one (ee_cmp (ee_at 1 (ee_nm 4)) (ee_nm 2) fun _ _ g => od_inL g))) ?_
    rw [all_yes fun z hz => show (true && decide (z.2 ∈ b.names)) = true by rw [decide_eq_true (h3 z hz).2.2] <;> rfl] <;> rfl
  · refine ss_drop (x := .d .none) ?_ fun G3 H3 g3 => ss_nil fun σ s r => q .non G3 H3 (g1.trans (g2.trans g3)) .non
    refine ee_callD (xs := [.d (.bool true), .d (.str "supposed")]) (ys := [.d (.int (-1))]) C3 (hr.mono (by decide)) (ea_cons (EE.to (ee_and (ee_nm 3) fun _ => ee_one (ee_all [("one", 5), ("other", 6)] (fs.zip (fs.drop 1)) (fun p => .tuple [eU p.1, eU p.2]) (fun p => [(5, eU p.1), (6, eU p.2)]) (fun p => ltF p.1 p.2) T.all sc_need_supposed.nd ?_ ?_ (fun _ _ i hi => hi)
      (fun _ _ _ _ _ z _ => ga_tup rfl (gas_cons (ga_nm 5 sc_need_supposed.nd) (gas_cons (ga_nm 6 sc_need_supposed.nd) gas_nil))) fun _ _ _ _ _ z hz => ee_cmp (ee_nm 5) (ee_nm 6) fun _ _ g => od_ltF hr.units g)) ?_) (ea_cons ee_str ea_nil)) (fun _ => .cons (.int _) .nil) (fun _ _ _ => ⟨_, .int (-1), rfl, rfl⟩)
    · rw [← pairsOf_map eU eU, List.map_drop]
      have e : (fs.map eU).drop 1 = cutD (fs.map eU) (some ((1 : Nat) : Int)) none := (cutD_from _ 1).symm
      rw [e]
      exact ei_zipT T.zip (ee_nm 1) (ee_slT (ee_nm 1) (eo_at ee_int) eo_no)
    · rw [List.length_zip]
      omega
    · show SV.d (.bool (true && rising ltF fs)) = _
      rw [h4] <;> rfl
end Rb
set_option Elab.async false
set_option linter.all false
set_option maxRecDepth 100000
set_option maxHeartbeats 4000000
/-! Comprehensions that fill a dict or a set: one core for both, by what a turn does with the new object. -/
namespace Rb
open PySem PySem.Spec PyProof.Rows L2
/-- an error of the block's is noted there -/
abbrev noteB (P : Program) (w : World) (A : Around) (ce : PySem.Env) (R : Result → Shared → Prop) : Value → Shared → Prop := notedBy (model P w) A ce fun e s' => R (.error e) s'
/-- the tests of a clause, as the block runs them -/
abbrev tstS (ifs : List Expr) (ce : PySem.Env) : Sem Bool := forIn ifs true fun c r => if r = true then do let ok ← isTrue c ce (eval c ce); pure (ForInStep.yield ok) else pure (ForInStep.yield r)
/-- one turn of the block: an item, the store, the tests, then bw -/
def turnW (P : Program) (w : World) (A : Around) (tg : Expr) (ifs : List Expr) (it : Value) (ce : PySem.Env) (R : Result → Shared → Prop) (bw : (Shared → Prop) → (Value → Shared → Prop) → Shared → Prop) (Nx : Shared → Prop) (s : Shared) : Prop :=
  wpAny (model P w) A (pyNext it) (fun r s1 => match r with
    | none => R (.ok .next) s1
    | some v => wpAny (model P w) A (letOwnedTupleGo tg it v) (fun _ s2 => wpAny (model P w) A (assign tg ce v) (fun _ s3 => wpAny (model P w) A (tstS ifs ce) (fun ok s4 =>
        if ok = true then bw Nx (noteB P w A ce R) s4 else Nx s4) (noteB P w A ce R) s3) (noteB P w A ce R) s2) (noteB P w A ce R) s1) (noteB P w A ce R) s
/-- what the model's block of e does, turn by turn -/
structure Blk (P : Program) (w : World) (A : Around) (e tg : Expr) (ifs : List Expr) (bw : Addr → PySem.Env → (Shared → Prop) → (Value → Shared → Prop) → Shared → Prop) : Prop where
  loop : ∀ {R : Result → Shared → Prop} {it : Value} {d : Addr} {ce : PySem.Env} (J : Nat → Shared → Prop), (∀ n s, J n s → turnW P w A tg ifs it ce R (bw d ce) (fun s' => ∃ m, m < n ∧ J m s') s) → ∀ n s, J n s → codeAny (model P w) A (.compLoop e 0 it (.ref d) ce) R s
  start : ∀ {R : Result → Shared → Prop} {it : Value} {d : Addr} {ce : PySem.Env} {s : Shared}, codeAny (model P w) A (.compLoop e 0 it (.ref d) ce) R s →
    wpAny (model P w) A (pyIter it) (fun it' s' => codeAny (model P w) A (.compLoop e 0 it' (.ref d) ce) R s') (noteB P w A ce R) s → codeAny (model P w) A (.compStart e 0 it (.ref d) ce) R s
  any : ∀ {d : Addr} {ce : PySem.Env} {Q Q' : Shared → Prop} {E : Value → Shared → Prop} {s : Shared}, bw d ce Q (fun _ _ => False) s → (∀ s', Q s' → Q' s') → bw d ce Q' E s
/-- the reading: d the new thing, W by the turn and a measure; rb what is wanted of the turn's own work -/
def tCc (u0 : Addr → HO) (wi : TI) (g : TG) (tt : TT) (rb : Addr → L2.St → Hp → (Hp → Prop) → Prop) (vs : List Nat) : TE := fun σ H Q => wi σ H fun J H1 => ∀ d, H1 d = none → ∃ W : Nat → Nat → Hp → Prop, (∃ m, W 0 m (upd H1 d (u0 d))) ∧ ∀ i m H', W i m H' →
  (J.stop i H' ∧ Q (.ref d) H') ∨ (J.go i H' ∧ ∃ Nx : Hp → Prop, (∀ H2, Nx H2 → ∃ m', m' < m ∧ W (i + 1) m' H2) ∧ ∀ x H2, J.yld i H' x H2 → g x (wipe σ vs) H2 fun σ3 H3 => wipe σ3 vs = wipe σ vs ∧ tt σ3 H3 fun b H4 => if b = true then rb d σ3 H4 Nx else Nx H4)
section
variable {X : Cx}
theorem cc_core {pins : List (Addr × Obj)} {s : Shared} {σ : L2.St} {H : Hp} {Q : VK} {e tg iter : Expr} {ifs : List Expr} {scope : Scope} {own : List (Str × Nat)} {pos' : Pos} {wi : TI} {g : TG} {tt : TT} {gs : List Comprehension}
    {bw : Addr → PySem.Env → (Shared → Prop) → (Value → Shared → Prop) → Shared → Prop} {rb : Addr → L2.St → Hp → (Hp → Prop) → Prop} {mk : Sem Value} {ob : Obj} {u0 : Addr → HO} {use : Option (Value → Sem Unit)} {Qf : Value → Shared → Prop} (hcl : clausesOf e = ⟨tg, iter, ifs, 0⟩ :: gs)
    (B : Blk X.prog X.w X.A e tg ifs bw) (hmk : ∀ (s : Shared) (Q : Value → Shared → Prop) (E : Value → Shared → Prop), Q (.ref s.heap.objs.size) { s with heap := s.heap.push ob } → wpAny (model X.prog X.w) X.A mk Q E s)
    (hob : ∀ (H : Hp) (h : Heap), sysModules < h.objs.size → ObjOk X.prog X.w H (h.push ob) h.objs.size (u0 h.objs.size))
    (hrb : ∀ (s : Shared) (H : Hp) (C : Addr) (cl : List (Str × Addr)) (fp : List Addr) (d : Addr) (pins : List (Addr × Obj)) (s' : Shared) (σ : L2.St) (H' : Hp) (Nx : Hp → Prop), Inv (X.blk s H scope (compEnvC scope cl C X.env) fp) pins σ H' s' → rb d σ H' Nx →
      bw d (compEnvC scope cl C X.env) (fun s2 => ∃ H2, Inv (X.blk s H scope (compEnvC scope cl C X.env) fp) pins σ H2 s2 ∧ Nx H2) (fun _ _ => False) s')
    (hc : X.calm = true) (hN : X.N.Nodup) (I : Inv X pins σ H s) (hi : PI X tg iter wi) (ok : BlkOk X.N X.env.scope scope own)
    (hg : ∀ (s : Shared) (H : Hp) (C : Addr) (cl : List (Str × Addr)) (fp : List Addr), PG (X.blk s H scope (compEnvC scope cl C X.env) fp) tg g) (ht : ∀ (s : Shared) (H : Hp) (C : Addr) (cl : List (Str × Addr)) (fp : List Addr), PTs (X.blk s H scope (compEnvC scope cl C X.env) fp) ifs tt)
    (hs : ∀ x, foldedSetIterable iter X.env x = pure x) (h : tCc u0 wi g tt rb (own.map (·.2)) σ H Q)
    (hend : ∀ d C s' m H', Inv X pins σ H' s' → Q (.ref d) H' → s'.heap.Ns C m → FpOk X pins H' C → compPost (model X.prog X.w) X.A X.xe use Qf (.ref d) C (.ok .next) s') :
    wpAny (model X.prog X.w) X.A (comprehension e scope X.env pos' mk false (eval iter X.env) use) Qf X.xe s := by
  have caps : ∀ y ∈ scope.names, y.2 = .free → ∃ c, X.env.cells.lookup y.1 = some c := fun y hy q => (ok.free y hy q).elim (fun z => I.ok.has _ (.inl z)) fun z => I.ok.has _ (.inr z)
  refine wpAny_comprehension_free (use := use) hcl hs (closure_ok caps) ok.kind (fun y hy q => by rw [ok.uniq y hy, q]) (thn (hi.run pins s σ H _ I h) fun xv s1 hx => thn hx fun itv s2 ⟨it, fp, tn, J, H2, e0, I2, T, st2, f2, q⟩ => ?_)
  subst e0
  refine hmk s2 _ _ (newEnv_comp ?_)
  generalize hd : s2.heap.objs.size = d at *
  have dn : H2 d = none := I2.hok.fresh (Nat.le_of_eq hd)
  obtain ⟨W, ⟨m0, w0⟩, turn⟩ := q d dn
  have I3 : Inv X pins σ (upd H2 d (u0 d)) { s2 with heap := s2.heap.push ob } := I2.laid (t' := s2.toks) (fun _ _ z => Heap.get?_push_of_some _ z) (Nat.le_of_eq hd) (by rw [← hd]; exact hob _ _ I2.big)
  have lt : ∀ b ∈ fp, b < s2.heap.objs.size := fun b hb => let ⟨_, z, _⟩ := T.obj _ _ st2 b hb; Heap.lt_size z
  generalize hs3 : ({ s2 with heap := s2.heap.push ob } : Shared) = s3 at *
  have grow3 : ∀ b o, s2.heap.get? b = some o → s3.heap.get? b = some o := fun b o z => by rw [← hs3]; exact Heap.get?_push_of_some _ z
  have size3 : s2.heap.objs.size < s3.heap.objs.size := by rw [← hs3, Heap.size_push]; exact Nat.lt_succ_self _
  generalize hH3 : upd H2 d (u0 d) = H3 at *
  have f3 : ∀ b ∈ fp, FpOk X pins H3 b ∧ b < s3.heap.objs.size := fun b hb => ⟨⟨by rw [← hH3, upd_ne (by rw [← hd]; exact Nat.ne_of_lt (lt b hb))]; exact (f2 b hb).1, (f2 b hb).2⟩, Nat.lt_trans (lt b hb) size3⟩
  have I4 := block_start I3 ok hN f3
  have st3 : tn 0 s3.heap := T.keep _ _ _ st2 fun b _ o z => grow3 b o z
  generalize hcl' : cellsFrom (s3.heap.objs.size + 1) scope.names (cloFrom X.env.cells scope.names []) = cl at *
  show codeAny _ _ (.compStart e 0 (.ref it) (.ref d) (compEnvC scope cl s3.heap.objs.size X.env)) (compPost (model X.prog X.w) X.A X.xe use Qf (.ref d) s3.heap.objs.size) { s3 with heap := pushCells (s3.heap.push { cls := .type "dict", data := .dict #[] }) scope.names }
  have pg := hg s3 H3 s3.heap.objs.size cl fp
  have pt := ht s3 H3 s3.heap.objs.size cl fp
  have pb := hrb s3 H3 s3.heap.objs.size cl fp
  have st4 : tn 0 (pushCells (s3.heap.push { cls := .type "dict", data := .dict #[] }) scope.names) := T.keep _ _ _ st3 fun b _ o z => pushCells_keeps _ _ _ _ (Heap.get?_push_of_some _ z)
  generalize hce : compEnvC scope cl s3.heap.objs.size X.env = ce at *
  have cL : ce.locals = s3.heap.objs.size := by rw [← hce] <;> rfl
  generalize hs4 : ({ s3 with heap := pushCells (s3.heap.push { cls := .type "dict", data := .dict #[] }) scope.names } : Shared) = s4 at *
  have st4' : tn 0 s4.heap := by rw [← hs4]; exact st4
  have ours : ∀ {σ' : L2.St} {H' : Hp} {s' : Shared}, Inv (X.blk s3 H3 scope ce fp) [] σ' H' s' → (∀ b ∈ fp, H' b = none) → ∀ b ∈ fp, FpOk (X.blk s3 H3 scope ce fp) [] H' b := fun {σ' H' s'} I' hn b hb =>
    ⟨hn b hb, (I'.ok.exf b hb).1, I'.ok.exfs b hb, .inl hb, fun x c z => (I'.ok.exf b hb).2 x c z, fun p hp => absurd (show p ∈ ([] : List (Addr × Obj)) ++ [] from hp) (by simp)⟩
  have go : codeAny (model X.prog X.w) X.A (.compLoop e 0 (.ref it) (.ref d) ce) (compPost (model X.prog X.w) X.A X.xe use Qf (.ref d) s3.heap.objs.size) s4 := by
    refine B.loop (fun n s' => ∃ i H', Inv (X.blk s3 H3 scope ce fp) [] (wipe σ (own.map (·.2))) H' s' ∧ tn i s'.heap ∧ (∀ b ∈ fp, H' b = none) ∧ W i n H') ?_ m0 s4 ⟨0, H3, I4, st4', fun b hb => (f3 b hb).1.1, w0⟩
    rintro n s5 ⟨i, H5, I5, st5, n5, w5⟩
    rcases turn i n H5 w5 with ⟨stop, qe⟩ | ⟨gone, Nx, hNx, step⟩
    · refine thnF (T.done (X.blk s3 H3 scope ce fp) rfl rfl rfl hc i [] s5 _ H5 (fun _ _ => False) I5 (ours I5 n5) st5 stop) fun r s6 ⟨hr, I6⟩ => ?_
      subst hr
      have I7 : Inv X pins σ H5 s6 := I3.call' (ch := fp) I6.os I6.base I6.hok I6.bare fun b hb => ⟨(f3 b hb).1.2.2.2.1, (f3 b hb).1.2.1, (f3 b hb).1.2.2.2.2.1, (f3 b hb).1.2.2.2.2.2⟩
      have nC : H5 s3.heap.objs.size = none := by rw [← cL]; exact I6.free
      obtain ⟨m, hn, _⟩ := I6.loc
      have hn' : s6.heap.Ns s3.heap.objs.size m := by rw [← cL]; exact hn
      exact hend d s3.heap.objs.size s6 m H5 I7 qe hn' (I3.fpOk (Nat.le_refl _) nC)
    · refine thnF (T.item (X.blk s3 H3 scope ce fp) rfl rfl rfl hc i [] s5 _ H5 (fun _ _ => False) I5 (ours I5 n5) st5 gone) fun r s6 ⟨u, hr, h6⟩ => ?_
      subst hr
      refine thnF h6 fun _ s7 ⟨x, H7, I7, r7, y7, st7, n7⟩ => ?_
      refine thnF (pg.run _ s7 _ H7 x u _ (I7.pinned (ours I7 n7) (T.obj _ _ st7)) r7 (step x H7 y7)) fun _ s8 ⟨σ8, H8, I8, hw8, q8⟩ => ?_
      have close : ∀ {s' : Shared} {H' : Hp}, Inv (X.blk s3 H3 scope ce fp) ([] ++ pinsAt fp s7.heap) σ8 H' s' → Nx H' → ∃ m, m < n ∧ ∃ i H', Inv (X.blk s3 H3 scope ce fp) [] (wipe σ (own.map (·.2))) H' s' ∧ tn i s'.heap ∧ (∀ b ∈ fp, H' b = none) ∧ W i m H' := fun {s' H'} I' nx => by
        obtain ⟨m', hm, w'⟩ := hNx H' nx
        have held : ∀ b ∈ fp, ∀ o, s7.heap.get? b = some o → s'.heap.get? b = some o ∧ H' b = none := fun b hb o z =>
          have p := I'.pin (b, o) (List.mem_append_right _ (List.mem_append_right _ (mem_pinsAt hb z)))
          ⟨p.1, p.2.1⟩
        refine ⟨m', hm, i + 1, H', (I'.unpinned (pins := [])).weak (by rw [← hw8, wipe_length]) (fun j v z => ?_), T.keep _ _ _ st7 fun b hb o z => (held b hb o z).1, fun b hb => ?_, w'⟩
        · rw [← hw8] at z
          exact (wipe_some z).1
        · obtain ⟨o, z, _⟩ := T.obj _ _ st7 b hb
          exact (held b hb o z).2
      refine thnF (pt.run _ s8 σ8 H8 _ I8 q8) fun b s9 ⟨H9, I9, q9⟩ => ?_
      cases b with
      | false => exact iteF (close I9 (by simpa using q9))
      | true => exact iteT (B.any (pb d _ s9 σ8 H9 Nx I9 (by simpa using q9)) fun s10 ⟨H10, I10, nx⟩ => close I10 nx)
  exact B.start go (T.self X.A 0 _ _ _ st4' go)
/-- the new thing is the value -/
theorem end_val {pins : List (Addr × Obj)} {σ : L2.St} {Q : VK} {d C : Addr} {s' : Shared} {m : Str → Option Value} {H' : Hp} (I : Inv X pins σ H' s') (q : Q (.ref d) H') (hn : s'.heap.Ns C m) (f : FpOk X pins H' C) :
    compPost (model X.prog X.w) X.A X.xe none (EP X pins σ Q) (.ref d) C (.ok .next) s' := by
  obtain ⟨k0, k1, k2, k3, k4, k5⟩ := f
  exact ⟨m, hn, fun h6 sb => ⟨.ref d, H', I.turned (t' := s'.toks) (fun b o hb z => (sb.2 b hb).trans z) k0 k1 k3 k4 k5, rfl, q⟩⟩
/-- the new thing goes to a name at once -/
theorem end_set {pins : List (Addr × Obj)} {σ : L2.St} {D : Ends} {i : Nat} {y : Str} {py : Pos} {d C : Addr} {s' : Shared} {m : Str → Option Value} {H' : Hp} (hN : X.N.Nodup) (hy : X.N[i]? = some y) (hl : X.env.scope.names.lookup y = some .local) (I : Inv X pins σ H' s') (q : D.nx (σ.set i (some (.ref d))) H') (hn : s'.heap.Ns C m)
    (f : FpOk X pins H' C) : compPost (model X.prog X.w) X.A X.xe (some (assign (.Name y py) X.env)) (fun _ s' => SP X pins D .next s') (.ref d) C (.ok .next) s' := by
  obtain ⟨k0, k1, k2, k3, k4, k5⟩ := f
  refine wpAny_assign_Name (store_ok2 (v := V.ref d) I hN hy (.inl hl) rfl (fun s2 I2 ⟨a, sb, ha⟩ => ?_) (.inr hl))
  have apart : C ≠ a := ha.elim (fun z => by rw [z]; exact k1) fun z q => k4 y a z q.symm
  exact ⟨m, hn.sameBut sb apart, fun h3 sb3 => ⟨_, H', I2.turned (t' := s2.toks) (fun b o hb z => (sb3.2 b hb).trans z) k0 k1 k3 k4 k5, q⟩⟩
end
/-! ### {k: v for ..} -/
section
variable {X : Cx}
/-- d[k] = v within a comprehension -/
theorem dset_ok {pins : List (Addr × Obj)} {σ : L2.St} {H H' : Hp} {s : Shared} {E : Value → Shared → Prop} {a : Addr} {y v : V} {u r : Value} {Q : Unit → Shared → Prop} (hu : X.A.units < cLine) (I : Inv X pins σ H s) (g : DPut H a y v H') (ry : RelV y u) (rv : RelV v r) (h : ∀ s', Inv X pins σ H' s' → Q () s') :
    wpAny (model X.prog X.w) X.A (dictSet a u r) Q E s := by
  rcases g with ⟨kvs, k, e, rfl, l, rfl⟩ | ⟨kvs, k, b, e, rfl, eb, l, rfl⟩
  · exact d_dictSet I e l ry rv h
  · cases (show u = Value.ref b from ry)
    obtain ⟨z, hd, xs, rel, dd⟩ := dt_of I.hok e
    have grown : (putK kvs k v).length ≤ sizeLine := Nat.le_trans (length_putK kvs k v) l
    refine wpAny_dictSet_heap (hsz := by rw [← Paired.length rel]; exact z) (show (tupleKind (mixKind X.prog X.w)).room X.A from hu) (key_of I.hok eb) dd fun h' dd' hs => h _ ?_
    obtain ⟨q, es, ep, hq, h2, h3, h4, _, h5⟩ := dd'
    refine d_write I (by rw [e]; exact True.intro) hs ⟨q, hq⟩ ⟨grown, hd, _, (rel.put k eb rv).keeps fun c ys ec => ?_, q, es, ep, hq, h2, h3, h4, h5⟩
    rw [upd_ne (ne_of ec e (fun z => nomatch z))]
    exact ec
/-- a dict comprehension's block -/
theorem blk_dict {P : Program} {w : World} {A : Around} {kx vx tg iter : Expr} {ifs : List Expr} {scope : Scope} {pos : Pos} : Blk P w A (.DictComp kx vx [⟨tg, iter, ifs, 0⟩] scope pos) tg ifs (fun d ce Q E s => wpAny (model P w) A (eval kx ce) (fun kv s4 => wpAny (model P w) A (eval vx ce) (fun vv s5 => wpAny (model P w) A (dictSet d kv vv) (fun _ s6 => Q s6) E s5) E s4) E s) where
  loop := fun J turn n s h => compLoop_anyD J turn n h
  start := fun h0 h => codeAny_compStart_dict h0 h
  any := fun h q => thnF h fun kv s4 h4 => thnF h4 fun vv s5 h5 => thnF h5 fun _ s6 h6 => q s6 h6
/-- a turn's work: the key, the value, the store -/
def rbD (X : Cx) (scope : Scope) (kx vx : Expr) (d : Addr) (σ : L2.St) (H : Hp) (Nx : Hp → Prop) : Prop := bE X scope kx σ H fun y H4 => bE X scope vx σ H4 fun z H5 => ∃ H6, DPut H5 d y z H6 ∧ Nx H6
theorem rbD_ok {scope : Scope} {kx vx : Expr} (hu : X.A.units < cLine) (s : Shared) (H : Hp) (C : Addr) (cl : List (Str × Addr)) (fp : List Addr) (d : Addr) (pins : List (Addr × Obj)) (s' : Shared) (σ : L2.St) (H' : Hp) (Nx : Hp → Prop) (I : Inv (X.blk s H scope (compEnvC scope cl C X.env) fp) pins σ H' s') (h : rbD X scope kx vx d σ H' Nx) :
    wpAny (model X.prog X.w) X.A (eval kx (compEnvC scope cl C X.env)) (fun kv s4 => wpAny (model X.prog X.w) X.A (eval vx (compEnvC scope cl C X.env)) (fun vv s5 => wpAny (model X.prog X.w) X.A (dictSet d kv vv) (fun _ s6 => ∃ H2, Inv (X.blk s H scope (compEnvC scope cl C X.env) fp) pins σ H2 s6 ∧ Nx H2) (fun _ _ => False) s5) (fun _ _ => False) s4) (fun _ _ => False) s' := by
  refine thnF ((pe_b s H C cl fp).run pins s' σ H' _ I h) fun kv s4 ⟨y, H4, I4, r4, q4⟩ => ?_
  refine thnF ((pe_b s H C cl fp).run pins s4 σ H4 _ I4 q4) fun vv s5 ⟨z, H5, I5, r5, H6, g6, q6⟩ => ?_
  exact dset_ok (X := X.blk s H scope (compEnvC scope cl C X.env) fp) hu I5 g6 r4 r5 fun s6 I6 => ⟨H6, I6, q6⟩
end
end Rb
set_option Elab.async false
set_option linter.all false
set_option maxRecDepth 100000
set_option maxHeartbeats 4000000
/-! Dicts by texts and by facts. -/
namespace Rb
open PySem PySem.Spec PyProof.Rows L2
/-- a fact as a key -/
def kF (f : Fact) : List L2.Key := [.inr f.1, .inr f.2]
def kS (z : Str) : L2.Key := .inr z
theorem kF_inj {f g : Fact} (h : kF f = kF g) : f = g := by
  unfold kF at h
  injection h with h1 h2
  injection h2 with h2 _
  injection h1 with h1
  injection h2 with h2
  exact Prod.ext h1 h2
theorem kF_at {K : PySem.W.Frag} {G : Hp} {v : V} {f : Fact} (h : SR K G v (.d (eU f))) : ∃ a, v = .ref a ∧ G a = some (.tup ((kF f).map kV)) := by
  obtain ⟨a, xs, rfl, h1, h2⟩ := sr_tup h
  have e : xs = [V.str f.1, V.str f.2] := vs_strs (xs := [f.1, f.2]) h2
  subst e
  rcases h1 with h1 | ⟨h1, _⟩
  · exact ⟨a, rfl, h1⟩
  · cases h1
theorem ss_same {X : Cx} {D : Ends} {ρ : Env} {G H : Hp} {sts : List Stmt} (h : Same G H → SS X D ρ G H sts) : SS X D ρ G H sts := fun s => h s s
section
variable {X : Cx} {ρ : Env} {G H G1 H1 : Hp} {p : Addr} {f : Fact} {kvs : List (List L2.Key × V)} {kvz : List (L2.Key × V)} {z : Str}
/-! ### in, not in -/
theorem od_inF (hu : X.A.units + 64 < cLine) (h : H p = some (.dT kvs)) (g : Gr G H G1 H1) : OD X (compareOp .In) G1 H1 (.d (eU f)) (.v (.ref p)) (.d (.bool (valV kvs (kF f)).isSome)) := fun v u rv ru Q q => by
  cases (show u = V.ref p from ru)
  obtain ⟨a, rfl, ha⟩ := kF_at rv
  exact fun pins s σ v' u' I r1 r2 => by
    cases (show u' = Value.ref p from r2)
    exact d_in (by omega) I (.t (g.h _ _ h) (g.gh _ _ ha)) r1 fun s' I' => ⟨.bl _, H1, I', rfl, q _ G1 H1 (.refl g.gh) (.bl _)⟩
theorem od_ninF (hu : X.A.units + 64 < cLine) (h : H p = some (.dT kvs)) (g : Gr G H G1 H1) : OD X (compareOp .NotIn) G1 H1 (.d (eU f)) (.v (.ref p)) (.d (.bool (!(valV kvs (kF f)).isSome))) := fun v u rv ru Q q => by
  cases (show u = V.ref p from ru)
  obtain ⟨a, rfl, ha⟩ := kF_at rv
  exact fun pins s σ v' u' I r1 r2 => by
    cases (show u' = Value.ref p from r2)
    exact d_notIn (by omega) I (.t (g.h _ _ h) (g.gh _ _ ha)) r1 fun s' I' => ⟨.bl _, H1, I', rfl, q _ G1 H1 (.refl g.gh) (.bl _)⟩
theorem od_inZ (hu : X.A.units + 64 < cLine) (h : H p = some (.dK kvz)) (g : Gr G H G1 H1) : OD X (compareOp .In) G1 H1 (.d (.str z)) (.v (.ref p)) (.d (.bool (valV kvz (kS z)).isSome)) := fun v u rv ru Q q => by
  cases (show u = V.ref p from ru)
  cases sr_str rv
  exact fun pins s σ v' u' I r1 r2 => by
    cases (show u' = Value.ref p from r2)
    exact d_in (by omega) I (.k (k := kS z) (g.h _ _ h)) r1 fun s' I' => ⟨.bl _, H1, I', rfl, q _ G1 H1 (.refl g.gh) (.bl _)⟩
/-! ### d[k], d.get(k, x) -/
variable {a b c : Expr} {d d' : D} {pos apos p' : Pos} {w : V}
theorem ee_dF (hu : X.A.units + 64 < cLine) (ha : EE X ρ G H a (.v (.ref p))) (hb : EE X ρ G H b (.d (eU f))) (h : H p = some (.dT kvs)) (hv : valV kvs (kF f) = some w) (hd : Dp X.K G w d) (hs : NoSl b := by intro _ _; rfl) : EE X ρ G H (.Subscript a b pos) (.d d) := fun G1 H1 σ g r Q q =>
  w_pe (pe_dget (by omega) pe_w pe_w hs) (ha G1 H1 σ g r _ fun v G2 H2 g2 r2 => hb G2 H2 σ (g.trans g2) (r.up g2.g) _ fun u G3 H3 g3 r3 => by
    obtain ⟨t, rfl, ht⟩ := kF_at r3
    have gg := g.trans (g2.trans g3)
    exact ⟨p, w, r2, hv ▸ .t (gg.h _ _ h) (g3.gh _ _ ht), q _ G3 H3 (g2.trans g3) (dp_up gg.g _ _ hd)⟩)
theorem ee_dZ (hu : X.A.units + 64 < cLine) (ha : EE X ρ G H a (.v (.ref p))) (hb : EE X ρ G H b (.d (.str z))) (h : H p = some (.dK kvz)) (hv : valV kvz (kS z) = some w) (hd : Dp X.K G w d) (hs : NoSl b := by intro _ _; rfl) : EE X ρ G H (.Subscript a b pos) (.d d) := fun G1 H1 σ g r Q q =>
  w_pe (pe_dget (by omega) pe_w pe_w hs) (ha G1 H1 σ g r _ fun v G2 H2 g2 r2 => hb G2 H2 σ (g.trans g2) (r.up g2.g) _ fun u G3 H3 g3 r3 => by
    cases sr_str r3
    have gg := g.trans (g2.trans g3)
    exact ⟨p, w, r2, hv ▸ .k (k := kS z) (gg.h _ _ h), q _ G3 H3 (g2.trans g3) (dp_up gg.g _ _ hd)⟩)
/-- d.get(k, x), a text's -/
theorem ee_dgetZ (hu : X.A.units + 64 < cLine) (ha : EE X ρ G H a (.v (.ref p))) (hb : EE X ρ G H b (.d (.str z))) (hc : EE X ρ G H c (.d d')) (h : H p = some (.dK kvz)) (hv : ∀ w, valV kvz (kS z) = some w → Dp X.K G w d) (hn : valV kvz (kS z) = none → d = d') (m : M2 X a "get" apos b c pos := by exact ⟨rfl, rfl, rfl, rfl⟩) :
    EE X ρ G H (.Call (.Attribute a "get" apos) [b, c] [] pos) (.d d) := fun G1 H1 σ g r Q q =>
  w_pe (pe_dget2 (by omega) pe_w pe_w pe_w m) (ha G1 H1 σ g r _ fun v G2 H2 g2 r2 => ⟨p, r2, .inl ⟨kvz, .inl ((g.trans g2).h _ _ h)⟩, hb G2 H2 σ (g.trans g2) (r.up g2.g) _ fun u G3 H3 g3 r3 => hc G3 H3 σ ((g.trans g2).trans g3) (r.up (g2.g.trans g3.g)) _ fun t G4 H4 g4 r4 => by
    cases sr_str r3
    have gg := g.trans (g2.trans (g3.trans g4))
    refine ⟨valV kvz (kS z), .k (k := kS z) (gg.h _ _ h), q _ G4 H4 (g2.trans (g3.trans g4)) ?_⟩
    cases e : valV kvz (kS z) with
    | none =>
      rw [hn e]
      exact r4
    | some w => exact dp_up gg.g _ _ (hv w e)⟩)
end
/-! ### d = {}, d[k] = v -/
section
variable {X : Cx} {D : Ends} {ρ : Env} {G H : Hp} {a b c : Expr} {rest : List Stmt} {pos p' p2 : Pos} {p : Addr}
theorem ss_newT (i : Nat) {n : Str} (hN : X.N.Nodup) (q : ∀ p H1, Gr G H G H1 → H p = none → G p = none → H1 p = some (.dT []) → SS X D (ρ.set i (some (.v (.ref p)))) G H1 rest) (hi : X.N[i]? = some n := by rfl) (hx : Loc X.env.scope n := by first | exact Or.inl rfl | exact Or.inr rfl)
    (hs : swapsWith (.Dict [] [] p2) (some (.Name n p')) pos.line X.env = pure false := by rfl) (hf : X.fn n = true ∨ X.env.scope.names.lookup n = some .local := by first | exact .inl rfl | exact .inr rfl) : SS X D ρ G H (.Assign [.Name n p'] (.Dict [] [] p2) pos :: rest) :=
  ss_cons (ps_set hN hi hx pe_dnewT hs hf) fun s σ r p hp => q p _ (.tmp s hp) hp (s.free hp) upd_same (same_new hp |> fun e => s.trans e) _ (r.set (x := .v (.ref p)) rfl i)
theorem ss_newK (i : Nat) {n : Str} (hN : X.N.Nodup) (q : ∀ p H1, Gr G H G H1 → H p = none → G p = none → H1 p = some (.dK []) → SS X D (ρ.set i (some (.v (.ref p)))) G H1 rest) (hi : X.N[i]? = some n := by rfl) (hx : Loc X.env.scope n := by first | exact Or.inl rfl | exact Or.inr rfl)
    (hs : swapsWith (.Dict [] [] p2) (some (.Name n p')) pos.line X.env = pure false := by rfl) (hf : X.fn n = true ∨ X.env.scope.names.lookup n = some .local := by first | exact .inl rfl | exact .inr rfl) : SS X D ρ G H (.Assign [.Name n p'] (.Dict [] [] p2) pos :: rest) :=
  ss_cons (ps_set hN hi hx pe_dnewK hs hf) fun s σ r p hp => q p _ (.tmp s hp) hp (s.free hp) upd_same (same_new hp |> fun e => s.trans e) _ (r.set (x := .v (.ref p)) rfl i)
theorem same_own {G H : Hp} {p : Addr} {o : HO} (s : Same G H) (gp : G p = none) : Same G (upd H p o) := fun b u hb => by
  rw [upd_ne (ne_of_none hb gp)]
  exact s _ _ hb
/-- d[fact] = x -/
theorem ss_putF {x : Rb.D} {f : Fact} {kvs : List (List L2.Key × V)} (hu : X.A.units + 64 < cLine) (hc : EE X ρ G H c (.d x)) (ha : EE X ρ G H a (.v (.ref p))) (hb : EE X ρ G H b (.d (eU f))) (h : H p = some (.dT kvs)) (gp : G p = none) (hz : kvs.length < 100000)
    (q : ∀ v G1 H1, Gr G H G1 H1 → H1 p = some (.dT kvs) → G1 p = none → Dp X.K G1 v x → SS X D ρ G1 (upd H1 p (.dT (putK kvs (kF f) v))) rest) (hs : swapsWith c (some (.Subscript a b p')) pos.line X.env = pure false := by rfl) : SS X D ρ G H (.Assign [.Subscript a b p'] c pos :: rest) :=
  ss_cons (ps_dput (by omega) pe_w pe_w pe_w hs) fun s σ r => hc G H σ (.refl s) r _ fun v G1 H1 g r1 => ha G1 H1 σ g (r.up g.g) _ fun u G2 H2 g2 r2 => hb G2 H2 σ (g.trans g2) (r.up (g.g.trans g2.g)) _ fun t G3 H3 g3 r3 => by
    cases (show u = V.ref p from r2)
    obtain ⟨k, rfl, hk⟩ := kF_at r3
    have gg := g.trans (g2.trans g3)
    have e3 : H3 p = some (.dT kvs) := gg.h _ _ h
    have n3 : G3 p = none := gg.fr p gp (by rw [h]; simp)
    refine ⟨p, _, rfl, .t e3 (g3.gh _ _ hk) (Nat.lt_of_lt_of_le hz (by decide)), ?_⟩
    exact q v G3 H3 gg e3 n3 (dp_up (g2.g.trans g3.g) _ _ r1) (same_own g3.gh n3) σ (r.up gg.g)
/-- d[text] = x -/
theorem ss_putZ {x : Rb.D} {z : Str} {kvs : List (L2.Key × V)} (hu : X.A.units + 64 < cLine) (hc : EE X ρ G H c (.d x)) (ha : EE X ρ G H a (.v (.ref p))) (hb : EE X ρ G H b (.d (.str z))) (h : H p = some (.dK kvs)) (gp : G p = none) (hz : kvs.length < 100000)
    (q : ∀ v G1 H1, Gr G H G1 H1 → H1 p = some (.dK kvs) → G1 p = none → Dp X.K G1 v x → SS X D ρ G1 (upd H1 p (.dK (putK kvs (kS z) v))) rest) (hs : swapsWith c (some (.Subscript a b p')) pos.line X.env = pure false := by rfl) : SS X D ρ G H (.Assign [.Subscript a b p'] c pos :: rest) :=
  ss_cons (ps_dput (by omega) pe_w pe_w pe_w hs) fun s σ r => hc G H σ (.refl s) r _ fun v G1 H1 g r1 => ha G1 H1 σ g (r.up g.g) _ fun u G2 H2 g2 r2 => hb G2 H2 σ (g.trans g2) (r.up (g.g.trans g2.g)) _ fun t G3 H3 g3 r3 => by
    cases (show u = V.ref p from r2)
    cases sr_str r3
    have gg := g.trans (g2.trans g3)
    have e3 : H3 p = some (.dK kvs) := gg.h _ _ h
    have n3 : G3 p = none := gg.fr p gp (by rw [h]; simp)
    refine ⟨p, _, rfl, .k (k := kS z) e3 (Nat.lt_of_lt_of_le hz (by decide)), ?_⟩
    exact q v G3 H3 gg e3 n3 (dp_up (g2.g.trans g3.g) _ _ r1) (same_own g3.gh n3) σ (r.up gg.g)
end
/-! ### what a dict holds, told by data -/
section
variable {K : PySem.W.Frag} {G : Hp}
/-- the texts' dict kvs holds m -/
def KD (K : PySem.W.Frag) (G : Hp) (kvs : List (L2.Key × V)) (m : Str → Option D) : Prop := ∀ z, match valV kvs (kS z) with
  | none => m z = none
  | some v => ∃ d, m z = some d ∧ Dp K G v d
theorem KD.nil : KD K G [] fun _ => none := fun z => rfl
theorem KD.got {kvs : List (L2.Key × V)} {m : Str → Option D} {z : Str} {v : V} (h : KD K G kvs m) (e : valV kvs (kS z) = some v) : ∃ d, m z = some d ∧ Dp K G v d := by
  have := h z
  rw [e] at this
  exact this
theorem KD.not {kvs : List (L2.Key × V)} {m : Str → Option D} {z : Str} (h : KD K G kvs m) (e : valV kvs (kS z) = none) : m z = none := by
  have := h z
  rw [e] at this
  exact this
theorem KD.of {kvs : List (L2.Key × V)} {m : Str → Option D} {z : Str} {d : D} (h : KD K G kvs m) (e : m z = some d) : ∃ v, valV kvs (kS z) = some v ∧ Dp K G v d := by
  cases e2 : valV kvs (kS z) with
  | none =>
    rw [h.not e2] at e
    cases e
  | some v =>
    obtain ⟨d', h1, h2⟩ := h.got e2
    rw [h1] at e
    cases e
    exact ⟨v, rfl, h2⟩
theorem KD.up {G' : Hp} {kvs : List (L2.Key × V)} {m : Str → Option D} (g : Same G G') (h : KD K G kvs m) : KD K G' kvs m := fun z => by
  cases e : valV kvs (kS z) with
  | none => exact h.not e
  | some v =>
    obtain ⟨d, h1, h2⟩ := h.got e
    exact ⟨d, h1, dp_up g _ _ h2⟩
theorem kS_inj {y z : Str} (h : kS y = kS z) : y = z := by injection h
theorem KD.put {kvs : List (L2.Key × V)} {m : Str → Option D} {z : Str} {v : V} {d : D} (h : KD K G kvs m) (hv : Dp K G v d) : KD K G (putK kvs (kS z) v) fun y => if y = z then Option.some d else m y := fun y => by
  rw [valV_put]
  by_cases e : y = z
  · rw [if_pos (by rw [e])]
    exact ⟨d, if_pos e, hv⟩
  · rw [if_neg (fun q => e (kS_inj q))]
    have e2 : (fun y => if y = z then Option.some d else m y) y = m y := if_neg e
    rw [e2]
    exact h y
/-- the last pair by the key -/
theorem valV_fold {κ β : Type} [DecidableEq κ] (key : β → κ) (val : β → V) (k : κ) : ∀ (ys : List β) (acc : List (κ × V)), valV (ys.foldl (fun m b => putK m (key b) (val b)) acc) k = ((ys.reverse.find? fun b => decide (key b = k)).map val).or (valV acc k)
  | [], _ => rfl
  | y :: ys, acc => by
    rw [List.foldl_cons, valV_fold key val k ys, valV_put, List.reverse_cons, List.find?_append]
    cases ys.reverse.find? fun b => decide (key b = k) with
    | some b => rfl
    | none =>
      by_cases e : key y = k
      · rw [if_pos e.symm]
        simp [e]
      · rw [if_neg (fun q => e q.symm)]
        simp [e]
theorem len_fold {κ β : Type} [DecidableEq κ] (key : β → κ) (val : β → V) : ∀ (ys : List β) (acc : List (κ × V)), (ys.foldl (fun m b => putK m (key b) (val b)) acc).length ≤ acc.length + ys.length
  | [], _ => Nat.le_refl _
  | y :: ys, acc => by
    rw [List.foldl_cons, List.length_cons]
    have h1 := len_fold key val ys (putK acc (key y) (val y))
    have h2 := length_putK acc (key y) (val y)
    omega
end
end Rb
set_option Elab.async false
set_option linter.all false
set_option maxRecDepth 100000
set_option maxHeartbeats 4000000
/-! Dict comprehensions. -/
namespace Rb
open PySem PySem.Spec PyProof.Rows L2
section
variable {X : Cx} {ρ : Env} {G H : Hp} {tg iter kx vx : Expr} {scope : Scope} {pos : Pos} {β κ : Type} [DecidableEq κ] {ys : List β} {enc kd vd : β → D} {us : β → List (Nat × D)} {mk : List (κ × V) → HO} {key : β → κ} {vv : β → V}
/-- the reading of {k: v for ..} -/
theorem dc_rd {vs : List Nat} (hi : EI X ρ G H tg iter (ys.map enc)) (hz : ys.length < 100000) (hv : ∀ b ∈ ys, ∀ i ∈ (us b).map (·.1), i ∈ vs)
    (hput : ∀ (G H : Hp) (a : Addr) (kvs : List (κ × V)) (v y : V) (b : β), Same G H → H a = some (mk kvs) → Dp X.K G y (kd b) → kvs.length < sizeLine → DPut H a y v (upd H a (mk (putK kvs (key b) v))))
    (hvv : ∀ (G : Hp) (v : V) (b : β), Dp X.K G v (vd b) → v = vv b)
    (hg : ∀ (s : Shared) (H0 : Hp) (C : Addr) (cl : List (Str × Addr)) (fp : List Addr), ∀ b ∈ ys, GA (X.blk s H0 scope (compEnvC scope cl C X.env) fp) tg (enc b) (us b))
    (hk : ∀ (s : Shared) (H0 : Hp) (C : Addr) (cl : List (Str × Addr)) (fp : List Addr), ∀ b ∈ ys, EE (X.blk s H0 scope (compEnvC scope cl C X.env) fp) (setsR (wipeR ρ vs) (us b)) G H kx (.d (kd b)))
    (he : ∀ (s : Shared) (H0 : Hp) (C : Addr) (cl : List (Str × Addr)) (fp : List Addr), ∀ b ∈ ys, EE (X.blk s H0 scope (compEnvC scope cl C X.env) fp) (setsR (wipeR ρ vs) (us b)) G H vx (.d (vd b)))
    {G1 H1 : Hp} {σ : L2.St} (g : Gr G H G1 H1) (r : ER X.K G1 σ ρ) {Q : VK} (q : ∀ p' G2 H2, Gr G1 H1 G2 H2 → H1 p' = none → G2 p' = none → H2 p' = some (mk (ys.foldl (fun m b => putK m (key b) (vv b)) [])) → Q (.ref p') H2) :
    tCc (fun _ => mk []) (wI X tg iter) (bG X scope tg) (bT X scope []) (rbD X scope kx vx) vs σ H1 Q := by
  refine hi G1 H1 σ g r _ fun J G2 H2 g2 hJ => fun Dl hD => ?_
  have gD : G2 Dl = none := g2.gh.free hD
  refine ⟨fun i m H' => m = ys.length - i ∧ i ≤ ys.length ∧ ∃ G', Gr G2 H2 G' H' ∧ G' Dl = none ∧ H' Dl = some (mk ((ys.take i).foldl (fun m b => putK m (key b) (vv b)) [])),
    ⟨ys.length, rfl, Nat.zero_le _, G2, .tmp g2.gh hD, gD, upd_same⟩, ?_⟩
  rintro i m H' ⟨rfl, hil, G', g', d1, d2⟩
  by_cases hlt : i < ys.length
  · have hb : ys[i]? = some ys[i] := List.getElem?_eq_getElem hlt
    have hm : ys[i] ∈ ys := List.getElem_mem hlt
    obtain ⟨hgo, hy⟩ := (hJ i G' H' g'.g g'.gh).1 (enc ys[i]) (by rw [List.getElem?_map, hb] <;> rfl)
    refine .inr ⟨hgo, fun H'' => ∃ G'', Gr G2 H2 G'' H'' ∧ G'' Dl = none ∧ H'' Dl = some (mk ((ys.take (i + 1)).foldl (fun m b => putK m (key b) (vv b)) [])), fun H'' w => ⟨ys.length - (i + 1), by omega, rfl, hlt, w⟩, fun v H3 y => ?_⟩
    obtain ⟨G3, g3, r3⟩ := hy v H3 y
    have gg3 : Gr G H G3 H3 := (g.trans g2).trans (g'.trans g3)
    have rr3 : ER X.K G3 σ ρ := r.up (g2.g.trans (g'.g.trans g3.g))
    have d1' : G3 Dl = none := g3.fr Dl d1 (by rw [d2]; simp)
    intro s0 H0 C cl fp
    refine hg s0 H0 C cl fp _ hm G3 H3 _ v g3.gh r3 _ fun ws hw => ⟨?_, ?_⟩
    · rw [wipe_sets (fun i hi => hv _ hm i (by rw [← hw.idx]; exact hi)), wipe_wipe]
    · intro s0 H0 C cl fp
      refine ep_nil (X := X.blk s0 H0 scope (compEnvC scope cl C X.env) fp) (G := G) (H := H) G3 H3 _ gg3 (hw.er (rr3.wipe vs)) _ fun G0 H9 g0 => ?_
      refine iteT ?_
      intro s0 H0 C cl fp
      refine hk s0 H0 C cl fp _ hm G0 H9 _ (gg3.trans g0) ((hw.er (rr3.wipe vs)).up g0.g) _ fun y G4 H4 g4 r4 => ?_
      intro s0 H0 C cl fp
      refine he s0 H0 C cl fp _ hm G4 H4 _ ((gg3.trans g0).trans g4) ((hw.er (rr3.wipe vs)).up (g0.g.trans g4.g)) _ fun z G5 H5 g5 r5 => ?_
      have g35 : Gr G3 H3 G5 H5 := g0.trans (g4.trans g5)
      have e5 := g35.h _ _ (g3.h _ _ d2)
      have n5 : G5 Dl = none := g35.fr Dl d1' (by rw [g3.h _ _ d2]; simp)
      have w5 : Gr G2 H2 G5 H5 := g'.trans (g3.trans g35)
      have hlen := len_fold key vv (ys.take i) []
      have htl : (ys.take i).length ≤ i := by rw [List.length_take]; omega
      refine ⟨_, hput G5 H5 Dl _ z y ys[i] g5.gh e5 (dp_up g5.g _ _ r4) (Nat.lt_of_le_of_lt (m := 99999) (by simp only [List.length_nil] at hlen; omega) (by decide)), G5, w5.mut hD n5, n5, ?_⟩
      rw [upd_same, hvv G5 z ys[i] r5, List.take_add_one, hb, List.foldl_append]
      rfl
  · have hi' : i = ys.length := by omega
    subst hi'
    refine .inl ⟨(hJ _ G' H' g'.g g'.gh).2 (by rw [List.length_map]; exact Nat.le_refl _), ?_⟩
    rw [List.take_length] at d2
    exact q Dl G' H' (g2.trans g') (g2.none' hD) d1 d2
theorem sw_dict {gs : List Comprehension} {py : Pos} {y : Str} {l : Nat} {env : PySem.Env} (hk : env.scope.kind = .function) (hy : env.scope.names.lookup y = some .local) (hl : (py.line == pos.line) = true)
    (ha : (scope.names.any fun (n, k) => n == y && (k == .local || k == .cell)) = false) : swapsWith (.DictComp kx vx gs scope pos) (some (.Name y py)) l env = pure true := by
  have k1 : env.kindOf y = some .local := hy
  have k2 : env.blockKind = .function := by unfold Env.blockKind; rw [hk] <;> rfl
  unfold swapsWith
  simp only [k1, k2, ha, Expr.pos, hl]
  rfl
variable {D : Ends} {rest : List Stmt} {p' : Pos}
/-- name = {k: v for ..} on one line -/
theorem ss_dc (i : Nat) {n : Str} {lpos : Pos} (own : List (Str × Nat)) (mk : List (κ × V) → HO) (ys : List β) (enc kd vd : β → Rb.D) (us : β → List (Nat × Rb.D)) (key : β → κ) (vv : β → V)
    (h0 : ∀ (H : Hp) (h : Heap), sysModules < h.objs.size → ObjOk X.prog X.w H (h.push { cls := .type "dict", data := .dict #[] }) h.objs.size (mk [])) (hu : X.A.units + 64 < cLine)
    (hput : ∀ (G H : Hp) (a : Addr) (kvs : List (κ × V)) (v y : V) (b : β), Same G H → H a = some (mk kvs) → Dp X.K G y (kd b) → kvs.length < sizeLine → DPut H a y v (upd H a (mk (putK kvs (key b) v))))
    (hvv : ∀ (G : Hp) (v : V) (b : β), Dp X.K G v (vd b) → v = vv b) (hN : X.N.Nodup) (hi : EI X ρ G H tg iter (ys.map enc)) (hz : ys.length < 100000) (hv : ∀ b ∈ ys, ∀ i ∈ (us b).map (·.1), i ∈ own.map (·.2))
    (hg : ∀ (s : Shared) (H0 : Hp) (C : Addr) (cl : List (Str × Addr)) (fp : List Addr), ∀ b ∈ ys, GA (X.blk s H0 scope (compEnvC scope cl C X.env) fp) tg (enc b) (us b))
    (hk : ∀ (s : Shared) (H0 : Hp) (C : Addr) (cl : List (Str × Addr)) (fp : List Addr), ∀ b ∈ ys, EE (X.blk s H0 scope (compEnvC scope cl C X.env) fp) (setsR (wipeO ρ own) (us b)) G H kx (.d (kd b)))
    (he : ∀ (s : Shared) (H0 : Hp) (C : Addr) (cl : List (Str × Addr)) (fp : List Addr), ∀ b ∈ ys, EE (X.blk s H0 scope (compEnvC scope cl C X.env) fp) (setsR (wipeO ρ own) (us b)) G H vx (.d (vd b)))
    (q : ∀ p' G1 H1, Gr G H G1 H1 → G1 p' = some (mk (ys.foldl (fun m b => putK m (key b) (vv b)) [])) → SS X D (ρ.set i (some (.v (.ref p')))) G1 H1 rest)
    (hin : X.N[i]? = some n := by rfl) (hyl : X.env.scope.names.lookup n = some .local := by rfl) (hsw : swapsWith (.DictComp kx vx [⟨tg, iter, [], 0⟩] scope lpos) (some (.Name n p')) pos.line X.env = pure true := by exact sw_dict rfl rfl rfl (by decide +kernel))
    (hc : X.calm = true := by rfl) (ok : blkC X.N X.env.scope scope own = true := by kernel_rfl) (hs : ∀ x, foldedSetIterable iter X.env x = pure x := by intro _; rfl) : SS X D ρ G H (.Assign [.Name n p'] (.DictComp kx vx [⟨tg, iter, [], 0⟩] scope lpos) pos :: rest) := by
  refine ss_cons (t := tAsg (tCc (fun _ => mk []) (wI X tg iter) (bG X scope tg) (bT X scope []) (rbD X scope kx vx) (List.map (fun x : Str × Nat => x.2) own)) (gName i)) ⟨fun pins s σ H D I h => ?_⟩ fun s σ r => ?_
  · rw [exec_Assign_Name_used _ _ _ _ hsw]
    refine wpAny_bind (wpAny_standAt (wpAny_bind ?_))
    show wpAny _ X.A (do let _ ← comprehension (.DictComp kx vx [⟨tg, iter, [], 0⟩] scope lpos) scope X.env (firstIterPos [⟨tg, iter, [], 0⟩] lpos) newDict false (eval iter X.env) (some (assign (.Name n p') X.env))) _ _ s
    have h' : tCc (fun _ => mk []) (wI X tg iter) (bG X scope tg) (bT X scope []) (rbD X scope kx vx) (own.map (·.2)) σ H (fun x H1 => gName i x σ H1 D.nx) := h
    refine wpAny_bind (thn (cc_core (ob := { cls := .type "dict", data := .dict #[] }) (Qf := fun _ s' => SP X pins D .next s') (gs := []) rfl blk_dict (fun s Q E h => wpAny_newObj_type h) (fun H h hb => h0 H h hb) (rbD_ok (by omega)) hc hN I pi_w (blkOk_by ok) pg_b pts_b hs h' fun d C s' m H' I' q hn f => ?_) fun _ s' hq => wpAny_pure (wpAny_pure hq))
    exact end_set hN hin hyl I' q hn f
  · refine dc_rd hi hz hv hput hvv hg hk he (.refl s) r fun p G1 H1 g hp gp e1 => ?_
    have g2 := g.frz hp gp e1
    exact q p _ H1 g2 upd_same g2.gh _ ((r.up g2.g).set (x := .v (.ref p)) rfl i)
end
theorem put_F {K : PySem.W.Frag} {β : Type} (key : β → Fact) : ∀ (G H : Hp) (a : Addr) (kvs : List (List L2.Key × V)) (v y : V) (b : β), Same G H → H a = some (.dT kvs) → Dp K G y (eU (key b)) → kvs.length < sizeLine → DPut H a y v (upd H a (.dT (putK kvs (kF (key b)) v))) := fun G H a kvs v y b s e h hz => by
  obtain ⟨k, rfl, hk⟩ := kF_at h
  exact .t e (s _ _ hk) hz
theorem put_Z {K : PySem.W.Frag} {β : Type} (key : β → Str) : ∀ (G H : Hp) (a : Addr) (kvs : List (L2.Key × V)) (v y : V) (b : β), Same G H → H a = some (.dK kvs) → Dp K G y (.str (key b)) → kvs.length < sizeLine → DPut H a y v (upd H a (.dK (putK kvs (kS (key b)) v))) := fun G H a kvs v y b s e h hz => by
  cases sr_str h
  exact .k (k := kS (key b)) e hz
end Rb
set_option Elab.async false
set_option linter.all false
set_option maxRecDepth 100000
set_option maxHeartbeats 4000000
/-! enumerate of a tuple. -/
namespace Rb
open PySem PySem.Spec PyProof.Rows L2
abbrev enumObj (it : Addr) : Obj := { cls := .type "enumerate", data := .fields #[.none, .bool false, .ref it, rawInt 0, .none, .none] }
/-- enumerate(v), by what iter(v) makes -/
theorem new_enum {v : Value} {o : Obj} {Hv : Heap → Prop} (B : Begins v o Hv) : Meets (Builtin.«enumerate.__new__» ⟨[.type "enumerate", v], []⟩)
    (fun _ R s => Hv s.heap ∧ R (.ok (.ret (.ref (s.heap.push o).objs.size))) { s with heap := (s.heap.push o).push (enumObj s.heap.objs.size) }) :=
  .of_wp fun prog w A R s ⟨hv, hR⟩ => by
    obtain ⟨hp, gg, dr, tk, os⟩ := s
    have sub := sub_enumerate
    have go : ∀ {A' : Around} {E' : Value → Shared → Prop} {Q' : Value → Shared → Prop}, Q' (.ref hp.objs.size) ⟨hp.push o, gg, dr, tk, os⟩ → wpAny (model prog w) A' (pyIter v) Q' E' ⟨hp, gg, dr, tk, os⟩ := fun q => B.iter prog w _ _ ⟨hp, gg, dr, tk, os⟩ _ hv q
    wp_walk using go
    refine wpAny_stack_any fun st => wpAny_pure ?_
    split
    · rename_i c _ _ _ _ _
      cases hcase : (c == Value.type "enumerate")
      all_goals
        wp_walk using go
        exact ⟨_, rfl, hR⟩
    · wp_walk using go
      exact ⟨_, rfl, hR⟩
section
variable {prog : Program} {w : World} {A : Around} {E : Value → Shared → Prop} {s : Shared}
theorem call_enum {v : Value} {o : Obj} {Hv : Heap → Prop} {Q : Value → Shared → Prop} (B : Begins v o Hv) (hv : Hv s.heap)
    (h : ∀ h', IsEnum h' (s.heap.objs.size + 1) s.heap.objs.size 0 .none → h'.get? s.heap.objs.size = some o → (∀ b u, s.heap.get? b = some u → h'.get? b = some u) → Q (.ref (s.heap.objs.size + 1)) { s with heap := h' }) :
    wpAny (model prog w) A (call (.type "enumerate") [v]) Q E s := by
  refine callType_new F.called_enumerate (by decide) (F.typeCall_enumerate_1 _) (F.newCall_enumerate_1 _) (fun obj => F.args_object_init_2 obj _) F.entry_enumerate_new (new_enum B) ⟨hv, ?_⟩
  have size1 : (s.heap.push o).objs.size = s.heap.objs.size + 1 := Heap.size_push ..
  show _ ∧ _
  rw [size1]
  have en : IsEnum ((s.heap.push o).push (enumObj s.heap.objs.size)) (s.heap.objs.size + 1) s.heap.objs.size 0 .none := by
    have q := Heap.get?_push_size (s.heap.push o) (o := enumObj s.heap.objs.size) rfl
    rw [size1] at q
    exact q
  exact ⟨⟨_, en, rfl⟩, h _ en (Heap.get?_push_of_some _ (Heap.get?_push_size _ B.free)) fun b u q => Heap.get?_push_of_some _ (Heap.get?_push_of_some _ q)⟩
end
/-- the tuple at a, each item in a new pair -/
def IteT (K : PySem.W.Frag) (a : Addr) : It :=
  ⟨fun i H => ∃ (xs : List V) (x : V), SqT K H a xs ∧ xs[i]? = some x, fun i H v H' => ∃ T x, v = .ref T ∧ H T = none ∧ H' = upd H T (.tup [.int (i : Nat), x]) ∧ ∀ xs, SqT K H a xs → xs[i]? = some x, fun i H => ∃ xs : List V, SqT K H a xs ∧ xs.length ≤ i⟩
theorem turn_enT {P : Program} {w : World} {K : PySem.W.Frag} {elts : List Expr} {kk : Nat} {tpos : Pos} (a e it : Addr) (hat : a ≠ it) :
    Turn P w K (.Tuple elts kk tpos) (IteT K a) [e, it] e (fun i h => (∃ old, IsEnum h e it ((i : Nat) : Int) old) ∧ h.IsTupleIter it a i ∧ e ≠ it ∧ e ≠ a) where
  mem := List.mem_cons_self
  obj := by
    rintro i h ⟨⟨old, he⟩, ⟨o, ho, hc, hd⟩, _, _⟩ b hb
    rcases List.mem_cons.mp hb with z | hb
    · subst z
      exact ⟨_, he, fun v q => nomatch q⟩
    · cases List.mem_singleton.mp hb
      exact ⟨o, ho, fun v q => by rw [hd] at q; cases q⟩
  keep := by
    rintro i h h' ⟨⟨old, he⟩, hi, hne⟩ k
    exact ⟨⟨old, k e (by simp) _ he⟩, hi.at fun o q => k it (by simp) o q, hne⟩
  item := by
    intro X hP hw hK hc i pins s σ H E I hf st hg
    subst hP hw hK
    obtain ⟨⟨old, he⟩, hit, hne, hea⟩ := st
    obtain ⟨xs, x, hq, hx⟩ := hg
    obtain ⟨its, rv, tp, hz⟩ := I.tuple hq
    obtain ⟨u, hu, ru⟩ := rv.get hx
    have le : e < s.heap.objs.size := Heap.lt_size he
    have li : it < s.heap.objs.size := by obtain ⟨_, q, _⟩ := hit; exact Heap.lt_size q
    have hilt : i < its.toArray.size := by
      have := (List.getElem?_eq_some_iff.mp hu).1
      simpa using this
    have tp' : s.heap.IsTuple a its.toArray := tp
    have hh1 : X.A.in1.handled = none := I.ok.hd hc
    refine wpAny_pyNext_enum_itemD (Draws.tuple hh1 it a hat its.toArray) he ⟨hit, tp'⟩ hilt hne (by simp [hne, hea]) fun y h' tk hP ho hst' hT hsz hk => ?_
    have ey : y = u := by
      have q : its.toArray[i]? = some u := by simpa using hu
      rw [q] at hP
      exact (Option.some.inj hP).symm
    subst ey
    refine ⟨_, rfl, wpAny_letOwnedTupleGo_enum (s := { s with heap := h', toks := tk + 1 }) ho fun h'' he' sb => ?_⟩
    have hT2 : h''.get? s.heap.objs.size = some { cls := .type "tuple", data := .seq #[.int i tk, y] } := (sb.2 _ (Nat.ne_of_gt le)).trans hT
    have fine : ObjOk X.prog X.w (upd H s.heap.objs.size (.tup [.int (i : Nat), x])) h'' s.heap.objs.size (.tup [.int (i : Nat), x]) :=
      ⟨(by decide : 2 ≤ sizeLine), [.int i tk, y], .cons ⟨_, rfl⟩ (.cons ru .nil), ⟨_, hT2, rfl, _, rfl⟩⟩
    have J : Inv X pins σ (upd H s.heap.objs.size (.tup [.int (i : Nat), x])) { s with heap := h'', toks := tk + 1 } :=
      I.turnedNew (ch := [e, it]) (fun b ob hb q => by
        rw [List.mem_cons, List.mem_singleton, not_or] at hb
        exact (sb.2 b hb.1).trans (hk b ob hb.1 hb.2 q)) hf (Nat.le_refl _) fine
    refine ⟨.ref s.heap.objs.size, _, J, rfl, ⟨_, x, rfl, I.hok.fresh (Nat.le_refl _), rfl, fun ys hy => by rw [I.tuple_inj hy hq]; exact hx⟩, ⟨⟨y, ?_⟩, hst'.1.at fun o q => (sb.2 it (Ne.symm hne)).trans q, hne, hea⟩, fun b hb => ?_⟩
    · rw [show ((i + 1 : Nat) : Int) = (i : Int) + 1 by omega]
      exact he'
    · have lb : b < s.heap.objs.size := by
        rcases List.mem_cons.mp hb with z | hb
        · exact z ▸ le
        · exact (List.mem_singleton.mp hb) ▸ li
      rw [upd_ne (Nat.ne_of_lt lb)]
      exact (hf b hb).1
  done := by
    intro X hP hw hK hc i pins s σ H E I hf st hg
    subst hP hw hK
    obtain ⟨⟨old, he⟩, hit, hne, hea⟩ := st
    obtain ⟨xs, hq, hx⟩ := hg
    obtain ⟨its, rv, tp, hz⟩ := I.tuple hq
    have tp' : s.heap.IsTuple a its.toArray := tp
    obtain ⟨f0, f1, f2, f3, f4, f5⟩ := hf it (by simp)
    have hl := rv.length
    refine wpAny_pyNext_enum_endD (n := i) (P := fun _ _ => False) (St := fun j h => j = i ∧ h.IsTupleIter it a i ∧ h.IsTuple a its.toArray) (fp := [it, a]) ⟨fun j h ⟨_, q, _⟩ => let ⟨o, ho, _⟩ := q; ⟨o, ho⟩, fun j h h' ⟨z, q, q'⟩ k => ⟨z, q.at fun o e => k it (by simp) o e, q'.at fun o e => k a (by simp) o e⟩,
      fun j s Q E hj ⟨z, _⟩ _ => absurd hj (by omega), fun s Q E ⟨_, q, q'⟩ hE => wpAny_nextOf_tuple_end (I.ok.hd hc) q q' (by simp; omega) hE⟩ he ⟨rfl, hit, tp'⟩ fun h' eb => ⟨rfl, I.turned (t' := s.toks) (fun b o hb q => eb b o hb q) f0 f1 f3 f4 f5⟩
  self := by
    rintro A i s Q E ⟨⟨_, he⟩, _⟩ h
    exact wpAny_pyIter_enum he h
def iEnT (K : PySem.W.Frag) (ta : TA) : TI := fun σ H R => ta σ H fun vs H1 => ∃ a xs, vs = [.ref a] ∧ SqT K H1 a xs ∧ R (IteT K a) H1
theorem pi_enT {X : Cx} {e : Expr} {ta : TA} {p pos tpos : Pos} {elts : List Expr} {kk : Nat} (hg : Gl X "enumerate") (hm : X.mg "enumerate" = none) (ha : PA X [e] ta) (hs : starEach [e] X.env = [(false, eval e X.env)] := by rfl) :
    PI X (.Tuple elts kk tpos) (.Call (.Name "enumerate" p) [e] [] pos) (iEnT X.K ta) := ⟨fun pins s σ H R I h => by
  refine Call_ (ld_blt I hg hm boot_enumerate (PyProof.Rows.callWith_type1 (thn (ha.run pos pins s σ H _ I h) fun us s1 ⟨vs, H1, I1, r1, a, xs, ex, hq, q⟩ => ?_) hs rfl))
  subst ex
  obtain ⟨u, rfl, r⟩ := vals1 r1
  cases r
  obtain ⟨its, rv, tp, hz⟩ := I1.tuple hq
  have tp' : s1.heap.IsTuple a its.toArray := tp
  have la : a < s1.heap.objs.size := by obtain ⟨o, ho, _⟩ := id tp'; exact Heap.lt_size ho
  refine call_enum (begins_tuple a its.toArray) tp' fun h' he hit hk => wpAny_pyIter_enum he ?_
  have I2 : Inv X pins σ H1 { s1 with heap := h' } := I1.kept (t' := s1.toks) hk
  refine ⟨s1.heap.objs.size + 1, [s1.heap.objs.size + 1, s1.heap.objs.size], _, _, H1, rfl, I2, turn_enT a (s1.heap.objs.size + 1) s1.heap.objs.size (Nat.ne_of_lt la), ⟨⟨.none, he⟩, ⟨_, hit, rfl, rfl⟩, Nat.succ_ne_self _, Nat.ne_of_gt (Nat.lt_succ_of_lt la)⟩, fun b hb => ?_, q⟩
  have hle : s1.heap.objs.size ≤ b := by
    rcases List.mem_cons.mp hb with z | hb
    · exact z ▸ Nat.le_succ _
    · exact (List.mem_singleton.mp hb) ▸ Nat.le_refl _
  exact I1.fpOk hle (I1.hok.fresh hle)⟩
theorem itd_enT {K : PySem.W.Frag} {G : Hp} {a : Addr} {vs : List V} {ds : List D} (h : TupAt K G a vs) (r : DpAll K G vs ds) : ItD K (IteT K a) G (numbered ds) := fun i G' H' g gh => by
  have hH : SqT K H' a vs := same_t gh (h.up g)
  refine ⟨fun d hd => ?_, fun hl => ⟨vs, hH, ?_⟩⟩
  · obtain ⟨x, e1, rfl⟩ := numbered_get hd
    obtain ⟨v, f1, q1⟩ := dps_get r e1
    refine ⟨⟨vs, v, hH, f1⟩, fun v' H2 yy => ?_⟩
    obtain ⟨T, v2, rfl, hT, rfl, y1⟩ := yy
    have e3 := y1 vs hH
    rw [f1] at e3
    cases e3
    exact ⟨_, .new gh hT, .tup (TupAt.of upd_same) (.cons (.int _) (.cons (dp_up (g.trans (same_new (gh.free hT))) _ _ q1) .nil))⟩
  · rw [dps_len r]
    unfold numbered at hl
    rw [List.length_map, List.length_zipIdx] at hl
    exact hl
theorem ei_enumT {X : Cx} {ρ : Env} {G H : Hp} {e : Expr} {pos p' tpos : Pos} {ds : List D} {elts : List Expr} {kk : Nat} (hm : X.mg "enumerate" = none) (h : EE X ρ G H e (.d (.tuple ds))) (hg : Gl X "enumerate" := by rfl) (hs : starEach [e] X.env = [(false, eval e X.env)] := by rfl) : EI X ρ G H (.Tuple elts kk tpos) (.Call (.Name "enumerate" p') [e] [] pos) (numbered ds) := fun G1 H1 σ g r R q =>
  w_pi (pi_enT hg hm (pa_cons pe_w pa_nil hs) hs) (h G1 H1 σ g r _ fun v G2 H2 g2 r2 => by
    obtain ⟨a, vs, rfl, h1, q1⟩ := sr_tup r2
    exact ⟨a, vs, rfl, same_t g2.gh h1, q _ G2 H2 g2 (itd_enT h1 q1)⟩)
end Rb
set_option Elab.async false
set_option linter.all false
set_option maxRecDepth 100000
set_option maxHeartbeats 4000000
/-! A list of one's own read as data; defs that make a list; more lists. -/
namespace Rb
open PySem PySem.Spec PyProof.Rows L2
mutual
/-- data without lists -/
def lf : D → Bool
  | .none => true
  | .bool _ => true
  | .int _ => true
  | .str _ => true
  | .tuple ds => lfs ds
  | _ => false
def lfs : List D → Bool
  | [] => true
  | d :: ds => lf d && lfs ds
end
theorem lfs_map {α : Type} {f : α → D} {l : List α} (h : ∀ x ∈ l, lf (f x) = true) : lfs (l.map f) = true := by
  induction l with
  | nil => simp [lfs]
  | cons x l ih =>
    rw [List.map_cons, lfs, h x List.mem_cons_self, ih fun y hy => h y (List.mem_cons_of_mem _ hy)] <;> rfl
/-- G without l -/
def off (G : Hp) (l : Addr) : Hp := fun b => if b = l then none else G b
section
variable {K : PySem.W.Frag} {G G1 H H1 G2 H2 : Hp} {l : Addr} {vs : List V} {o : HO}
theorem off_ne {b : Addr} (h : b ≠ l) : off G l b = G b := if_neg h
theorem off_at : off G l l = none := if_pos rfl
theorem rd_off {a : Addr} {u : HO} (hl : G l = some (.lst vs)) (hu : ∀ xs, u ≠ .lst xs) (h : Rd G a u) : Rd (off G l) a u := by
  rcases h with h | ⟨o, h⟩
  · exact .inl ((off_ne fun e => by rw [e, hl] at h; exact hu _ (Option.some.inj h).symm).trans h)
  · exact .inr ⟨o, (off_ne fun e => by rw [e, hl] at h; cases h).trans h⟩
mutual
theorem dp_off (hl : G l = some (.lst vs)) : ∀ (d : D) (v : V), lf d = true → Dp K G v d → Dp K (off G l) v d
  | .none, _, _, h => by cases h; exact .non
  | .bool _, _, _, h => by cases h; exact .bl _
  | .int _, _, _, h => by cases h; exact .int _
  | .str _, _, _, h => by cases h; exact .str _
  | .list _, _, e, _ => by simp [lf] at e
  | .dict _, _, e, _ => by simp [lf] at e
  | .tuple ds, _, e, h => by
    cases h with
    | tup a b =>
      refine .tup ?_ (dps_off hl ds _ (by simpa [lf] using e) b)
      rcases a with a | ⟨a1, a | a⟩
      · exact .inl ((off_ne fun e => by rw [e, hl] at a; cases a).trans a)
      · exact .inr ⟨a1, .inl (rd_off hl (fun _ z => nomatch z) a)⟩
      · exact .inr ⟨a1, .inr a⟩
theorem dps_off (hl : G l = some (.lst vs)) : ∀ (ds : List D) (us : List V), lfs ds = true → DpAll K G us ds → DpAll K (off G l) us ds
  | [], _, _, h => by cases h; exact .nil
  | d :: ds, _, e, h => by
    rw [lfs, Bool.and_eq_true] at e
    cases h with | cons a b => exact .cons (dp_off hl d _ e.1 a) (dps_off hl ds _ e.2 b)
end
theorem ER.put {σ : List (Option V)} {ρ : Env} {i : Nat} {v : V} {x : SV} (h : ER K G σ ρ) (hv : SR K G v x) (e : σ[i]? = some (some v)) : ER K G σ (ρ.set i (some x)) := by
  have h2 := h.set hv i
  have e2 : σ.set i (some v) = σ := by
    apply List.ext_getElem?
    intro j
    by_cases hj : i = j
    · subst hj
      rw [List.getElem?_set_self', e] <;> rfl
    · rw [List.getElem?_set_ne hj]
  rw [e2] at h2
  exact h2
theorem gr_on (g : Gr G H G1 H1) (gl : G l = none) (hl : H l = some (.lst vs)) : Gr (upd G l (.lst vs)) H (upd G1 l (.lst vs)) H1 := ⟨same_upd2 g.g, g.h, fun b u hb => by
  by_cases e : b = l
  · subst e; rw [upd_same] at hb; rw [← hb]; exact g.h _ _ hl
  · rw [upd_ne e] at hb; exact g.gh _ _ hb, fun a h1 h2 => by
  by_cases e : a = l
  · subst e; rw [upd_same] at h1; cases h1
  · rw [upd_ne e] at h1 ⊢; exact g.fr a h1 h2⟩
theorem gr_off (n1 : G1 l = none) (g : Gr (upd G1 l (.lst vs)) H1 G2 H2) : Gr G1 H1 (off G2 l) H2 := ⟨fun b u hb => by
  have e : b ≠ l := fun e => by rw [e, n1] at hb; cases hb
  exact (off_ne e).trans (g.g b u ((upd_ne e).trans hb)), g.h, fun b u hb => by
  by_cases e : b = l
  · rw [e, off_at] at hb; cases hb
  · rw [off_ne e] at hb; exact g.gh _ _ hb, fun a h1 h2 => by
  by_cases e : a = l
  · rw [e]; exact off_at
  · exact (off_ne e).trans (g.fr a ((upd_ne e).trans h1) h2)⟩
end
section
variable {X : Cx} {ρ : Env} {G H : Hp} {e : Expr} {i : Nat} {l : Addr} {vs : List V} {ds es : List D} {x : D}
theorem own_in (hi : ρ[i]? = some (some (.v (.ref l)))) (hd : DpAll X.K G vs ds) {G1 H1 : Hp} {σ : L2.St} (g : Gr G H G1 H1) (n1 : G1 l = none) (r : ER X.K G1 σ ρ) : ER X.K (upd G1 l (.lst vs)) σ (ρ.set i (some (.d (.list ds)))) := by
  obtain ⟨v, e1, r1⟩ := r.get hi
  cases (show v = V.ref l from r1)
  exact (r.up (same_new n1)).put (x := .d (.list ds)) (.lst (SqL.of upd_same) (dps_up (g.g.trans (same_new n1)) _ _ hd)) e1
/-- a list of one's own is read as data while e runs -/
theorem ee_own (i : Nat) (hi : ρ[i]? = some (some (.v (.ref l)))) (hl : H l = some (.lst vs)) (gl : G l = none) (hd : DpAll X.K G vs ds) (hx : lf x = true) (h : EE X (ρ.set i (some (.d (.list ds)))) (upd G l (.lst vs)) H e (.d x)) : EE X ρ G H e (.d x) := fun G1 H1 σ g r Q q => by
  have n1 : G1 l = none := g.fr l gl (by rw [hl]; simp)
  exact h _ H1 σ (gr_on g gl hl) (own_in hi hd g n1 r) Q fun v G2 H2 g2 r2 => q v (off G2 l) H2 (gr_off n1 g2) (dp_off (g2.g _ _ upd_same) _ _ hx r2)
theorem et_own (i : Nat) {k : Bool} (hi : ρ[i]? = some (some (.v (.ref l)))) (hl : H l = some (.lst vs)) (gl : G l = none) (hd : DpAll X.K G vs ds) (h : ET X (ρ.set i (some (.d (.list ds)))) (upd G l (.lst vs)) H e k) : ET X ρ G H e k := fun G1 H1 σ g r Q q => by
  have n1 : G1 l = none := g.fr l gl (by rw [hl]; simp)
  exact h _ H1 σ (gr_on g gl hl) (own_in hi hd g n1 r) Q fun G2 H2 g2 => q (off G2 l) H2 (gr_off n1 g2)
theorem ef_own (i : Nat) (hi : ρ[i]? = some (some (.v (.ref l)))) (hl : H l = some (.lst vs)) (gl : G l = none) (hd : DpAll X.K G vs ds) (hx : lfs es = true) (h : EF X (ρ.set i (some (.d (.list ds)))) (upd G l (.lst vs)) H e es) : EF X ρ G H e es := fun G1 H1 σ g r Q q => by
  have n1 : G1 l = none := g.fr l gl (by rw [hl]; simp)
  exact h _ H1 σ (gr_on g gl hl) (own_in hi hd g n1 r) Q fun p ws G2 H2 g2 hp gp e2 r2 => q p ws (off G2 l) H2 (gr_off n1 g2) hp ((off_ne fun z => by rw [z, g.h _ _ hl] at hp; cases hp).trans gp) e2 (dps_off (g2.g _ _ upd_same) _ _ hx r2)
end
/-! ### defs that make a list -/
def spL (K : PySem.W.Frag) (n : Nat) (R : Hp → List SV → List D → Prop) : Sp := fun vs H Q _ => ∃ G xs ds, Same G H ∧ SRs K G vs xs ∧ xs.length = n ∧ R G xs ds ∧ ∀ p ws G2 H2, Gr G H G2 H2 → H p = none → G2 p = none → H2 p = some (.lst ws) → DpAll K G2 ws ds → Q (.ref p) H2
def FnL (P : Program) (w : World) (K : PySem.W.Frag) (mg : Str → Option Value) (base : Heap) (x : Str) (k n : Nat) (R : Hp → List SV → List D → Prop) : Prop :=
  ∃ f fd ps, mg x = some (.ref f) ∧ PySem.W.keepIn K (.ref f) = true ∧ Binds K fd ps [] ∧ FnOk P w K mg base CX0 k f fd ps (spL K n R)
theorem FnL.up {P : Program} {w : World} {K : PySem.W.Frag} {mg : Str → Option Value} {base : Heap} {x : Str} {k j n : Nat} {R : Hp → List SV → List D → Prop} (F : FnL P w K mg base x k n R) (h : k ≤ j) : FnL P w K mg base x j n R := by
  obtain ⟨f, fd, ps, h1, h2, h3, h5⟩ := F
  exact ⟨f, fd, ps, h1, h2, h3, h5.mono h⟩
section
variable {X : Cx} {ρ : Env} {G H : Hp} {e : Expr} {es : List Expr} {pos p' : Pos} {nm : Str} {k n : Nat} {R : Hp → List SV → List D → Prop} {ds : List D}
theorem ef_call {xs : List SV} (F : FnL X.prog X.w X.K X.mg X.base nm k n R) (hr : Room k X.A) (ha : EA X ρ G H (e :: es) xs) (hR : ∀ G1 H1, Gr G H G1 H1 → R G1 xs ds) (hl : xs.length = n := by rfl) (hg : Gl X nm := by rfl) (hdb : (nm == ("__debug__" : Str)) = false := by decide)
    (he : starEach (e :: es) X.env = (false, eval e X.env) :: starEach es X.env := by rfl) (hpl : (backTo pos (starEach es X.env)).any (·.1) = false := by rfl) : EF X ρ G H (.Call (.Name nm p') (e :: es) [] pos) ds := fun G1 H1 σ g r Q q => by
  obtain ⟨f, fd, ps, h1, h2, h3, h5⟩ := F
  refine w_pe (pe_call h5 hr hg h1 h2 h3 .nil pass0 pa_w hdb he hpl) (ha G1 H1 σ g r _ fun vs G2 H2 g2 r2 => ⟨G2, xs, ds, g2.gh, ?_, hl, hR G2 H2 (g.trans g2), fun p ws G3 H3 g3 hp gp e3 r3 => q p ws G3 H3 (g2.trans g3) (g2.none' hp) gp e3 r3⟩)
  have e : vs ++ [] = vs := List.append_nil vs
  exact e.symm ▸ r2
variable {D : Ends} {rest : List Stmt}
theorem ss_retF (h : EF X ρ G H e ds) (q : ∀ p ws G2 H2, Gr G H G2 H2 → H p = none → G2 p = none → H2 p = some (.lst ws) → DpAll X.K G2 ws ds → D.rt (.ref p) H2) : SS X D ρ G H (.Return (some e) pos :: rest) := ss_cons (ps_ret pe_w) fun s σ r => h G H σ (.refl s) r _ q
/-- return name, a list of one's own -/
theorem ss_retOwn {l : Addr} {vs : List V} (h : EE X ρ G H e (.v (.ref l))) (hl : H l = some (.lst vs)) (gl : G l = none) (q : ∀ G2 H2, Gr G H G2 H2 → G2 l = none → H2 l = some (.lst vs) → D.rt (.ref l) H2) : SS X D ρ G H (.Return (some e) pos :: rest) := ss_cons (ps_ret pe_w) fun s σ r => h G H σ (.refl s) r _ fun v G2 H2 g2 r2 => by
  cases (show v = V.ref l from r2)
  exact q G2 H2 g2 (g2.fr l gl (by rw [hl]; simp)) (g2.h _ _ hl)
/-- a list of one's own stays as it is from here -/
theorem ss_frz (i : Nat) {l : Addr} {vs : List V} (hi : ρ[i]? = some (some (.v (.ref l)))) (hl : H l = some (.lst vs)) (gl : G l = none) (hd : DpAll X.K G vs ds) {sts : List Stmt} (q : SS X D (ρ.set i (some (.d (.list ds)))) (upd G l (.lst vs)) H sts) : SS X D ρ G H sts := fun s σ r => by
  refine q (fun b u hb => ?_) σ (own_in hi hd (.refl s) gl r)
  by_cases e : b = l
  · subst e; rw [upd_same] at hb; rw [← hb]; exact hl
  · rw [upd_ne e] at hb; exact s _ _ hb
/-- xs.extend(new list) -/
theorem ss_ext {l : Addr} {vs : List V} {o : Expr} {apos : Pos} (ho : EE X ρ G H o (.v (.ref l))) (he : EF X ρ G H e ds) (hl : H l = some (.lst vs)) (gl : G l = none) (hz : vs.length + ds.length < 100000)
    (q : ∀ us G1 H1, Gr G H G1 H1 → H1 l = some (.lst vs) → G1 l = none → DpAll X.K G1 us ds → SS X D ρ G1 (upd H1 l (.lst (vs ++ us))) rest)
    (hbase : attributeBase o "extend" X.env (eval o X.env) = eval o X.env := by rfl) (hs : swapsWith (.Call (.Attribute o "extend" apos) [e] [] p') none pos.line X.env = pure false := by rfl) (he1 : starEach [e] X.env = (false, eval e X.env) :: starEach [] X.env := by rfl)
    (hform : ((backTo p' (starEach [e] X.env)).all (fun x => !x.1) && (backToKw p' (keywordEach [] X.env)).all (fun x => x.1.isSome) && decide (([e] : List Expr).length + ([] : List Keyword).length + (if ([] : List Keyword).isEmpty then 0 else 1) < 30)) = true := by rfl) (hline : (apos.endLine == p'.line) = true := by rfl) : SS X D ρ G H (.Expr (.Call (.Attribute o "extend" apos) [e] [] p') pos :: rest) :=
  ss_cons (ps_expr (pe_bm PySem.F.plainAttrs_list PySem.F.slot_list_extend PySem.F.type_list_extend mt_extend pe_w (pa_cons pe_w pa_nil he1) hbase hform hline he1) hs) fun s σ r =>
    ho G H σ (.refl s) r _ fun v G1 H1 g r1 => by
      cases (show v = V.ref l from r1)
      have e1 : H1 l = some (.lst vs) := g.h _ _ hl
      have gl1 : G1 l = none := g.fr l gl (by rw [hl]; simp)
      refine ⟨Or.inl ⟨rfl, _, Or.inl (Or.inl e1)⟩, he G1 H1 σ g (r.up g.g) _ fun p us G2 H2 g2 hp gp e2 r2 => ?_⟩
      have e3 : H2 l = some (.lst vs) := g2.h _ _ e1
      have gl2 : G2 l = none := g2.fr l gl1 (by rw [e1]; simp)
      have hlen := dps_len r2
      refine ⟨l, p, vs, us, rfl, rfl, e3, e2, line_of (by omega), ?_⟩
      exact q us G2 H2 (g.trans g2) e3 gl2 r2 (same_own g2.gh gl2) σ (r.up (g.g.trans g2.g))
/-- *t ahead of the rest -/
theorem ea_starT {ts : List Rb.D} {xs : List SV} {sp : Pos} (h : EE X ρ G H e (.d (.tuple ts))) (hr : EA X ρ G H es xs) (hs : starEach (.Starred e sp :: es) X.env = (true, eval e X.env) :: starEach es X.env := by rfl) : EA X ρ G H (.Starred e sp :: es) (ts.map .d ++ xs) := fun G1 H1 σ g r Q q =>
  w_pa (StX.pa_star pe_w pa_w hs) (h G1 H1 σ g r _ fun v G2 H2 g2 r2 => by
    obtain ⟨a, vs, rfl, h1, h2⟩ := sr_tup r2
    exact ⟨a, vs, rfl, .inl (same_t g2.gh h1), hr G2 H2 σ (g.trans g2) (r.up g2.g) _ fun us G3 H3 g3 r3 => q _ G3 H3 (g2.trans g3) (.app (.of_dps (dps_up g3.g _ _ h2)) r3)⟩)
theorem ea_starL {ts : List Rb.D} {xs : List SV} {sp : Pos} (h : EE X ρ G H e (.d (.list ts))) (hr : EA X ρ G H es xs) (hs : starEach (.Starred e sp :: es) X.env = (true, eval e X.env) :: starEach es X.env := by rfl) : EA X ρ G H (.Starred e sp :: es) (ts.map .d ++ xs) := fun G1 H1 σ g r Q q =>
  w_pa (StX.pa_star pe_w pa_w hs) (h G1 H1 σ g r _ fun v G2 H2 g2 r2 => by
    obtain ⟨a, vs, rfl, h1, h2⟩ := sr_lst r2
    exact ⟨a, vs, rfl, .inr (g2.gh.seq h1), hr G2 H2 σ (g.trans g2) (r.up g2.g) _ fun us G3 H3 g3 r3 => q _ G3 H3 (g2.trans g3) (.app (.of_dps (dps_up g3.g _ _ h2)) r3)⟩)
end
section
variable {P : Program} {w : World} {K : PySem.W.Frag} {mg : Str → Option Value} {base : Heap} {x : Str} {st : Stmt} {f : Addr} {fd : FuncData} {N ps : List Str} {k n m : Nat} {dvs : List V} {kws : List (Str × V)} {R : Hp → List SV → List D → Prop}
/-- THE RULE for a def that makes a list -/
theorem fn_list (F : FunD K x x (defArgs st) (defBody st) (defScope st) dvs kws f fd) (S : FnScope N ps (defScope st)) (hps : ps.length = n) (hm : N.length = m + n) (hx : mg x = some (.ref f)) (hb : Binds K fd ps [])
    (body : ∀ (cdv : Value) (A : Around) (outer : List PySem.Env) (s : Shared) (H : Hp) (E : XK), Room k (bX P w K mg base N x st f cdv A outer s H E).A → ∀ (G : Hp) (xs : List SV) (ds : List D) (Q : VK), R G xs ds → xs.length = n → (∀ p ws G2 H2, Gr G H G2 H2 → H p = none → G2 p = none → H2 p = some (.lst ws) → DpAll K G2 ws ds → Q (.ref p) H2) →
      SS (bX P w K mg base N x st f cdv A outer s H E) { nx := fun _ H' => Q .non H', rt := Q } (slots xs m) G H (defBody st)) : FnL P w K mg base x (k + 1) n R := by
  refine ⟨f, fd, ps, hx, F.kp, hb, F.ok S (fun vs H Q E h => ?_) fun cdv A outer s H vs Q E hr h => ?_⟩
  · obtain ⟨G, xs, ds, _, r, l, _⟩ := h
    rw [r.length, l, hps]
  · obtain ⟨G, xs, ds, gh, r, l, hR, q⟩ := h
    refine ⟨_, PSs.nox pss_w, body cdv A outer s H E hr G xs ds Q hR l q gh _ ?_⟩
    unfold L2.start
    rw [r.length, l, hm, Nat.add_sub_cancel]
    exact ER.start r _
end
end Rb
set_option Elab.async false
set_option linter.all false
set_option maxRecDepth 100000
set_option maxHeartbeats 4000000
namespace Rb
open PySem PySem.Spec PyProof.Rows L2
variable {P : Program} {w : World} {K : PySem.W.Frag} {mg : Str → Option Value} {base : Heap} {f : Addr} {fd : FuncData}
/-- where a fact stands -/
def ixF (fs : List Fact) (f : Fact) : Int := ((fs.idxOf f : Nat) : Int)
/-- the dict kvs tells the places of the facts fs -/
def Spot (kvs : List (List L2.Key × V)) (fs : List Fact) : Prop := ∀ f : Fact, valV kvs (kF f) = if f ∈ fs then some (.int (ixF fs f)) else none
theorem Spot.is {kvs : List (List L2.Key × V)} {fs : List Fact} (h : Spot kvs fs) (f : Fact) : (valV kvs (kF f)).isSome = decide (f ∈ fs) := by
  rw [h f]
  by_cases e : f ∈ fs
  · rw [if_pos e, decide_eq_true e] <;> rfl
  · rw [if_neg e, decide_eq_false e] <;> rfl
/-- what is found of the compiler c -/
def foundOf (b : Book) (fs : List Fact) (lang c : Str) : List Src := b.srcs.filter fun o => decide (lang ∈ o.comp) && decide ((c, o.name) ∈ fs)
/-- the step that makes build k, if it can be made -/
def stepOf (b : Book) (fs : List Fact) (k : Nat) (u : Bld) : Option D := match u.comp with
  | none => some (.tuple [.str "vouched", .int k])
  | some c => match foundOf b fs (b.srcOf u.src).lang c with
    | [] => none
    | o :: _ => if (u.parts.zip (b.srcOf u.src).uses).all (fun f => decide (f ∈ fs)) = true then some (.tuple [.str "built", .int k, .int (ixF fs (c, o.name)), .tuple ((u.parts.zip (b.srcOf u.src).uses).map fun f => .int (ixF fs f))]) else none
section
variable {b : Book} {fs : List Fact} {k : Nat} {u : Bld} {c : Str} {o : Src} {os : List Src}
theorem stepOf_no (hc : u.comp = none) : stepOf b fs k u = some (.tuple [.str "vouched", .int k]) := by unfold stepOf; simp only [hc]
theorem stepOf_nil (hc : u.comp = some c) (hf : foundOf b fs (b.srcOf u.src).lang c = []) : stepOf b fs k u = none := by unfold stepOf; simp only [hc, hf]
theorem stepOf_lack (hc : u.comp = some c) (hf : foundOf b fs (b.srcOf u.src).lang c = o :: os) (hw : (u.parts.zip (b.srcOf u.src).uses).all (fun f => decide (f ∈ fs)) = false) : stepOf b fs k u = none := by
  unfold stepOf
  simp only [hc, hf]
  rw [if_neg (by rw [hw]; decide)]
theorem stepOf_yes (hc : u.comp = some c) (hf : foundOf b fs (b.srcOf u.src).lang c = o :: os) (hw : (u.parts.zip (b.srcOf u.src).uses).all (fun f => decide (f ∈ fs)) = true) :
    stepOf b fs k u = some (.tuple [.str "built", .int k, .int (ixF fs (c, o.name)), .tuple ((u.parts.zip (b.srcOf u.src).uses).map fun f => .int (ixF fs f))]) := by
  unfold stepOf
  simp only [hc, hf]
  rw [if_pos hw]
end
def optD : Option D → D
  | none => .none
  | some d => d
structure Book.Small (b : Book) : Prop where
  srcs : b.srcs.length < 1000
  people : b.parties.length < 1000
  blds : b.blds.length < 200
  unl : b.unl.length < 1000
  parts : ∀ u ∈ b.blds, u.parts.length < 1000
  txt : ∀ u ∈ b.blds, PyData.strOk u.src = true ∧ ∀ z ∈ u.parts, PyData.strOk z = true
def R_step : Hp → List SV → SV → Prop := fun G xs y => ∃ (b : Book) (p : Addr) (kvs : List (List L2.Key × V)) (fs : List Fact) (k : Nat) (u : Bld), xs = [.d (eK b), .v (.ref p), .d (.int k)] ∧ b.Small ∧ G p = some (.dT kvs) ∧ Spot kvs fs ∧ b.blds[k]? = some u ∧ y = .d (optD (stepOf b fs k u))
theorem fn_build_step (T : Gf mg) (F : FD K "build_step" s_build_step f fd) (hx : mg "build_step" = some (.ref f)) (C1 : Fn P w K mg base "source_of" 1 2 [] R_source_of) : Fn P w K mg base "build_step" 2 3 [] R_step := by
  refine fn_pure F sc_build_step rfl rfl hx (F.bindsN fun _ _ _ _ _ _ us hl => match us, hl with | [_, _, _], _ => rfl) .nil fun cdv A outer s H E hr G xs y Q hR hl q => ss_same fun hs => ?_
  obtain ⟨b, p, kvs, fs, k, u, rfl, hb, hp, hS, hu, rfl⟩ := hR
  have hp0 : H p = some (.dT kvs) := hs _ _ hp
  have hku : (b.blds.map eB)[k]? = some (eB u) := by rw [List.getElem?_map, hu] <;> rfl
  have hpl : u.parts.length < 1000 := hb.parts u (List.mem_of_getElem? hu)
  refine ss_asg (us := [(3, .str u.party), (4, eO u.comp), (5, .str u.src), (6, eSs u.parts), (7, .str u.file)]) (ee_ix (ee_at 3 (ee_nm 0)) (ee_nm 2) fun _ _ g => xd_tup hku g) (ga_tup rfl (gas_cons (ga_nm 3 sc_build_step.nd) (gas_cons (ga_nm 4 sc_build_step.nd) (gas_cons (ga_nm 5 sc_build_step.nd) (gas_cons (ga_nm 6 sc_build_step.nd) (gas_cons (ga_nm 7 sc_build_step.nd) gas_nil)))))) fun G1 H1 g1 => ?_
  cases hc : u.comp with
  | none =>
    refine ss_if1 (k := true) ?_ (fun _ G2 H2 g2 => ?_) fun k => nomatch k
    · exact ET.to (et_cmp (ee_nm 4) ee_non fun _ _ g => od_isN g) rfl
    · refine ss_ret (x := .d (.tuple [.str "vouched", .int k])) (ee_pair ee_str (ee_nm 2)) fun v G3 H3 g3 r3 => q v G3 H3 (g1.trans (g2.trans g3)) ?_
      rw [stepOf_no hc]
      exact r3
  | some c =>
    refine ss_if1 (k := false) ?_ (fun k => nomatch k) fun _ G2 H2 g2 => ?_
    · exact ET.to (et_cmp (ee_nm 4) ee_non fun _ _ g => od_isN g) rfl
    have hfound : foundOf b fs (b.srcOf u.src).lang c = b.srcs.filter fun o => decide ((b.srcOf u.src).lang ∈ o.comp) && decide ((c, o.name) ∈ fs) := rfl
    generalize hss : b.srcOf u.src = sc at hfound
    refine ss_asg (d := eS sc) (us := [(8, .str sc.name), (9, .str sc.lang), (10, eSs sc.comp), (11, .bool sc.steady), (12, eSs sc.uses)]) (ee_call C1 (hr.mono (by decide)) (ea_cons (ee_nm 0) (ea_cons (ee_nm 5) ea_nil)) fun _ _ _ => ⟨b, u.src, rfl, by rw [hss]⟩)
      (ga_tup rfl (gas_cons (ga_nm 8 sc_build_step.nd) (gas_cons (ga_nm 9 sc_build_step.nd) (gas_cons (ga_nm 10 sc_build_step.nd) (gas_cons (ga_nm 11 sc_build_step.nd) (gas_cons (ga_nm 12 sc_build_step.nd) gas_nil)))))) fun G3 H3 g3 => ?_
    have g13 := g1.trans (g2.trans g3)
    have hp3 : H3 p = some (.dT kvs) := g13.h _ _ hp0
    refine ss_lc 13 [("other", 14)] b.srcs eS (fun o => [(14, eS o)]) (fun o => decide (sc.lang ∈ o.comp) && decide ((c, o.name) ∈ fs)) (fun o => .int (ixF fs (c, o.name))) sc_build_step.nd (ei_tup (ee_at 0 (ee_nm 0))) (by have := hb.srcs; omega) (fun _ _ i hi => hi) (fun _ _ _ _ _ z _ => ga_nm 14 sc_build_step.nd)
      (fun _ _ _ _ _ o ho => ep_one (et_w (ew_and (et_cmp (ee_nm 9) (ee_at 2 (ee_nm 14)) fun _ _ g => od_inT g) fun _ => ew_and1 (ET.to (et_cmp (ee_pair (ee_nm 4) (ee_at 0 (ee_nm 14))) (ee_nm 1) fun _ _ g => od_inF (f := (c, o.name)) hr.units hp3 g) (hS.is _)))))
      (fun _ _ _ _ _ o ho hpo => ee_dF (f := (c, o.name)) hr.units (ee_nm 1) (ee_pair (ee_nm 4) (ee_at 0 (ee_nm 14))) hp3 (hS _ |>.trans (if_pos (by simp only [Bool.and_eq_true, decide_eq_true_eq] at hpo; exact hpo.2))) (.int _)) fun G4 H4 g4 => ?_
    refine ss_lc 15 [("part", 16), ("use", 17)] (u.parts.zip sc.uses) eU (fun f => [(16, .str f.1), (17, .str f.2)]) (fun _ => true) eU sc_build_step.nd ?_ (by rw [List.length_zip]; omega) (fun _ _ i hi => hi) (fun _ _ _ _ _ z _ => ga_tup rfl (gas_cons (ga_nm 16 sc_build_step.nd) (gas_cons (ga_nm 17 sc_build_step.nd) gas_nil)))
      (fun _ _ _ _ _ o ho => ep_nil) (fun _ _ _ _ _ o ho hpo => ee_pair (ee_nm 16) (ee_nm 17)) fun G5 H5 g5 => ?_
    · have e := pairsOf_map (fun z : Str => PyData.str z) (fun z : Str => PyData.str z) u.parts sc.uses
      show EI _ _ _ _ _ _ ((u.parts.zip sc.uses).map fun p => .tuple [.str p.1, .str p.2])
      rw [← e]
      exact ei_zipT T.zip (ee_nm 6) (ee_nm 12)
    rw [filter_yes, ← hfound]
    have g15 := g13.trans (g4.trans g5)
    have hp5 : H5 p = some (.dT kvs) := g15.h _ _ hp0
    cases hf : foundOf b fs sc.lang c with
    | nil =>
      refine ss_if1 (k := true) ?_ (fun _ G6 H6 g6 => ?_) fun k => nomatch k
      · refine ET.to (et_w (ew_or (l := false) (et_cmp (ee_lenL T.len (ee_nm 13)) ee_int fun _ _ g => od_eqI g) fun k => ?_)) rfl
        cases k
      · refine ss_ret (x := .d .none) ee_non fun v G7 H7 g7 r7 => q v G7 H7 (g15.trans (g6.trans g7)) ?_
        rw [stepOf_nil hc (by rw [hss]; exact hf)]
        exact r7
    | cons o os =>
      refine ss_if1 (k := !((u.parts.zip sc.uses).all fun f => decide (f ∈ fs))) ?_ (fun hk G6 H6 g6 => ?_) fun hk G6 H6 g6 => ?_
      · refine ET.to (et_w (ew_or (et_cmp (ee_lenL T.len (ee_nm 13)) ee_int fun _ _ g => od_eqI g) fun _ => ew_or1 (et_not (et_val (ee_all [("fact", 18)] (u.parts.zip sc.uses) eU (fun f => [(18, eU f)]) (fun f => decide (f ∈ fs)) T.all sc_build_step.nd (ei_list (ee_nm 15)) (by rw [List.length_zip]; omega) (fun _ _ i hi => hi) (fun _ _ _ _ _ z _ => ga_nm 18 sc_build_step.nd)
          fun _ _ _ _ _ z hz => EE.to (ee_cmp (ee_nm 18) (ee_nm 1) fun _ _ g => od_inF hr.units hp5 g) (by rw [hS.is])))))) ?_
        rw [show decide ((((o :: os).map fun o => PyData.int (ixF fs (c, o.name))).length : Nat) = (0 : Int)) = false from decide_eq_false (by rw [List.length_map, List.length_cons]; omega)]
        rfl
      · refine ss_ret (x := .d .none) ee_non fun v G7 H7 g7 r7 => q v G7 H7 (g15.trans (g6.trans g7)) ?_
        rw [stepOf_lack hc (by rw [hss]; exact hf) (by rw [hss]; simpa using hk)]
        exact r7
      · have hk' : ((u.parts.zip sc.uses).all fun f => decide (f ∈ fs)) = true := by simpa using hk
        refine ss_ret (x := .d (.tuple [.str "built", .int k, .int (ixF fs (c, o.name)), .tuple ((u.parts.zip sc.uses).map fun f => .int (ixF fs f))])) ?_ fun v G7 H7 g7 r7 => q v G7 H7 (g15.trans (g6.trans g7)) ?_
        · refine ee_tup (ds := [.str "built", .int k, .int (ixF fs (c, o.name)), .tuple ((u.parts.zip sc.uses).map fun f => .int (ixF fs f))]) (ea_cons ee_str (ea_cons (ee_nm 2) (ea_cons (ee_atL 0 (ee_nm 13) rfl) (ea_cons (ee_tupOf T.tuple (EF.ee (ef_map [("fact", 18)] (u.parts.zip sc.uses) eU (fun f => [(18, eU f)]) (fun f => .int (ixF fs f)) sc_build_step.nd (ei_list (ee_nm 15)) (by rw [List.length_zip]; omega) (fun _ _ i hi => hi) (fun _ _ _ _ _ z _ => ga_nm 18 sc_build_step.nd)
            fun _ _ _ _ _ z hz => ee_dF hr.units (ee_nm 1) (ee_nm 18) (g6.h _ _ hp5) (hS _ |>.trans (if_pos ?_)) (.int _)))) ea_nil))))
          exact of_decide_eq_true (List.all_eq_true.mp hk' z hz)
        · rw [stepOf_yes hc (by rw [hss]; exact hf) (by rw [hss]; exact hk'), hss]
          exact r7
end Rb
set_option Elab.async false
set_option linter.all false
set_option maxRecDepth 100000
namespace Rb
open PySem
/-- the places where the key is z -/
def ids (key : Fact → Str) (fs : List Fact) (z : Str) : List Nat := (fs.zipIdx.filter fun q => decide (key q.1 = z)).map (·.2)
theorem ids_take (key : Fact → Str) {fs : List Fact} {i : Nat} {f : Fact} (h : fs[i]? = some f) (z : Str) : ids key (fs.take (i + 1)) z = ids key (fs.take i) z ++ if key f = z then [i] else [] := by
  have hl : (fs.take i).length = i := by
    have := (List.getElem?_eq_some_iff.mp h).1
    rw [List.length_take]
    omega
  unfold ids
  rw [List.take_add_one, h, Option.toList_some, List.zipIdx_append, List.filter_append, List.map_append, hl]
  by_cases e : key f = z
  · simp [e]
  · simp [e]
theorem ids_lt {key : Fact → Str} {fs : List Fact} {z : Str} {n : Nat} (h : n ∈ ids key fs z) : ∃ f, fs[n]? = some f ∧ key f = z := by
  unfold ids at h
  obtain ⟨q, hq, rfl⟩ := List.mem_map.mp h
  obtain ⟨h1, h2⟩ := List.mem_filter.mp hq
  refine ⟨q.1, ?_, of_decide_eq_true h2⟩
  have := List.mem_zipIdx_iff_getElem?.mp h1
  exact this
theorem ids_mem {key : Fact → Str} {fs : List Fact} {n : Nat} {f : Fact} (h : fs[n]? = some f) : n ∈ ids key fs (key f) := by
  unfold ids
  refine List.mem_map.mpr ⟨(f, n), List.mem_filter.mpr ⟨List.mem_zipIdx_iff_getElem?.mpr h, by simp⟩, rfl⟩
theorem ids_len (key : Fact → Str) (fs : List Fact) (z : Str) : (ids key fs z).length ≤ fs.length := by
  unfold ids
  rw [List.length_map]
  refine Nat.le_trans (List.length_filter_le _ _) ?_
  rw [List.length_zipIdx]
  exact Nat.le_refl _
def idD (l : List Nat) : List D := l.map fun n => .int (n : Nat)
/-- what a dict of places holds at z -/
def grp (key : Fact → Str) (fs : List Fact) (z : Str) : Option D := match ids key fs z with
  | [] => none
  | n :: l => some (.tuple (idD (n :: l)))
theorem grp_some {key : Fact → Str} {fs : List Fact} {z : Str} (h : ids key fs z ≠ []) : grp key fs z = some (.tuple (idD (ids key fs z))) := by
  unfold grp
  cases e : ids key fs z with
  | nil => exact absurd e h
  | cons n l => rfl
theorem grp_none {key : Fact → Str} {fs : List Fact} {z : Str} (h : grp key fs z = none) : ids key fs z = [] := by
  unfold grp at h
  cases e : ids key fs z with
  | nil => rfl
  | cons n l => rw [e] at h; cases h
theorem grp_is {key : Fact → Str} {fs : List Fact} {z : Str} {d : D} (h : grp key fs z = some d) : d = .tuple (idD (ids key fs z)) := by
  unfold grp at h
  cases e : ids key fs z with
  | nil => rw [e] at h; cases h
  | cons n l => rw [e] at h; exact (Option.some.inj h).symm
theorem grp_take (key : Fact → Str) {fs : List Fact} {i : Nat} {f : Fact} (h : fs[i]? = some f) : grp key (fs.take (i + 1)) = fun y => if y = key f then some (.tuple (idD (ids key (fs.take i) (key f)) ++ [.int (i : Nat)])) else grp key (fs.take i) y := by
  funext y
  by_cases e : y = key f
  · subst e
    rw [if_pos rfl, grp_some, ids_take key h, if_pos rfl]
    · unfold idD
      rw [List.map_append] <;> rfl
    · rw [ids_take key h, if_pos rfl]
      simp
  · rw [if_neg e]
    unfold grp
    rw [ids_take key h, if_neg (fun q => e q.symm), List.append_nil]
theorem flat_take {α β : Type} (f : α → List β) {l : List α} {i : Nat} {x : α} (h : l[i]? = some x) : (l.take (i + 1)).flatMap f = (l.take i).flatMap f ++ f x := by
  rw [List.take_add_one, h, Option.toList_some, List.flatMap_append]
  simp
theorem flat_len {α β : Type} {f : α → List β} {c : Nat} : ∀ {l : List α}, (∀ x ∈ l, (f x).length ≤ c) → (l.flatMap f).length ≤ l.length * c
  | [], _ => by simp
  | x :: l, h => by
    rw [List.flatMap_cons, List.length_append, List.length_cons, Nat.succ_mul]
    have h1 := h x List.mem_cons_self
    have h2 := flat_len (l := l) fun y hy => h y (List.mem_cons_of_mem _ hy)
    omega
/-- the fact at a place -/
def nth (fs : List Fact) (n : Nat) : Fact := fs.getD n ("", "")
theorem nth_eq {fs : List Fact} {n : Nat} {f : Fact} (h : fs[n]? = some f) : nth fs n = f := by
  unfold nth
  rw [List.getD_eq_getElem?_getD, h] <;> rfl
abbrev FS := Fact × D
def eFS (q : FS) : D := .tuple [eU q.1, q.2]
def mv3 (fs : List Fact) (i : Nat) (f : Fact) (j l : Nat) : List FS := if (f.1, (nth fs l).2) ∈ fs then [] else [((f.1, (nth fs l).2), .tuple [.str "moved", .int (i : Nat), .int (j : Nat), .int (l : Nat)])]
def mv2 (fs : List Fact) (i : Nat) (f : Fact) (j : Nat) : List FS := (ids Prod.fst fs (nth fs j).1).flatMap (mv3 fs i f j)
def mv1 (fs : List Fact) (i : Nat) (f : Fact) : List FS := (ids Prod.snd fs f.2).flatMap (mv2 fs i f)
def movedOf (fs : List Fact) : List FS := fs.zipIdx.flatMap fun q => mv1 fs q.2 q.1
theorem mv3_len (fs : List Fact) (i : Nat) (f : Fact) (j l : Nat) : (mv3 fs i f j l).length ≤ 1 := by
  unfold mv3
  split
  · exact Nat.zero_le _
  · exact Nat.le_refl _
theorem mv2_len {fs : List Fact} {i : Nat} {f : Fact} {j : Nat} (is : List Nat) (h : is.length ≤ fs.length) : (is.flatMap (mv3 fs i f j)).length ≤ fs.length := by
  have := flat_len (f := mv3 fs i f j) (c := 1) (l := is) fun l _ => mv3_len fs i f j l
  omega
theorem mv1_len {fs : List Fact} {i : Nat} {f : Fact} (is : List Nat) (h : is.length ≤ fs.length) : (is.flatMap (mv2 fs i f)).length ≤ fs.length * fs.length := by
  have := flat_len (f := mv2 fs i f) (c := fs.length) (l := is) fun j _ => mv2_len _ (ids_len _ _ _)
  exact Nat.le_trans this (Nat.mul_le_mul_right _ h)
theorem moved_len {fs : List Fact} (qs : List (Fact × Nat)) (h : qs.length ≤ fs.length) : (qs.flatMap fun q => mv1 fs q.2 q.1).length ≤ fs.length * (fs.length * fs.length) := by
  have := flat_len (f := fun q : Fact × Nat => mv1 fs q.2 q.1) (c := fs.length * fs.length) (l := qs) fun q _ => mv1_len _ (ids_len _ _ _)
  exact Nat.le_trans this (Nat.mul_le_mul_right _ h)
end Rb
set_option Elab.async false
set_option linter.all false
set_option maxRecDepth 100000
set_option maxHeartbeats 4000000
namespace Rb
open PySem PySem.Spec PyProof.Rows L2
/-- a list of one's own at l, with the data ds -/
def Own (K : PySem.W.Frag) (G H : Hp) (l : Addr) (ds : List D) : Prop := ∃ vs, H l = some (.lst vs) ∧ G l = none ∧ DpAll K G vs ds
section
variable {K : PySem.W.Frag} {G H G1 H1 G0 H0 : Hp} {l p : Addr} {ds : List D}
theorem Own.gr (h : Own K G H l ds) (g : Gr G H G1 H1) : Own K G1 H1 l ds := by
  obtain ⟨vs, h1, h2, h3⟩ := h
  exact ⟨vs, g.h _ _ h1, g.fr l h2 (by rw [h1]; simp), dps_up g.g _ _ h3⟩
theorem Own.ne {o : HO} (h : Own K G H l ds) (e : H p = some o) (ho : ∀ vs, o ≠ .lst vs) : p ≠ l := fun z => by
  obtain ⟨vs, h1, _⟩ := h
  rw [z, h1] at e
  exact ho vs (Option.some.inj e).symm
theorem dset_ne {H : Hp} {a b : Addr} {o u : HO} (h : H a = some u) (e : a ≠ b) : upd H b o a = some u := (upd_ne e).trans h
end
section
variable {X : Cx} {D : Ends} {ρ : Env} {G H : Hp} {e o : Expr} {rest : List Stmt} {pos p' : Pos} {apos : Pos} {l : Addr} {ds : List Rb.D} {d : Rb.D}
/-- xs.append(e) -/
theorem ss_appO (hO : Own X.K G H l ds) (ho : EE X ρ G H o (.v (.ref l))) (he : EE X ρ G H e (.d d)) (hz : ds.length < 100000)
    (q : ∀ vs v G1 H1, Gr G H G1 H1 → Own X.K G1 H1 l ds → Own X.K G1 (upd H1 l (.lst (vs ++ [v]))) l (ds ++ [d]) → SS X D ρ G1 (upd H1 l (.lst (vs ++ [v]))) rest)
    (hbase : attributeBase o "append" X.env (eval o X.env) = eval o X.env := by rfl) (hs : swapsWith (.Call (.Attribute o "append" apos) [e] [] p') none pos.line X.env = pure false := by rfl) (he1 : starEach [e] X.env = (false, eval e X.env) :: starEach [] X.env := by rfl)
    (hform : ((backTo p' (starEach [e] X.env)).all (fun x => !x.1) && (backToKw p' (keywordEach [] X.env)).all (fun x => x.1.isSome) && decide (([e] : List Expr).length + ([] : List Keyword).length + (if ([] : List Keyword).isEmpty then 0 else 1) < 30)) = true := by rfl) (hline : (apos.endLine == p'.line) = true := by rfl) : SS X D ρ G H (.Expr (.Call (.Attribute o "append" apos) [e] [] p') pos :: rest) := by
  obtain ⟨vs, h1, h2, h3⟩ := hO
  have hl := dps_len h3
  refine ss_app ho he h1 h2 (by omega) (fun v G1 H1 g e1 n1 r1 => q vs v G1 H1 g ⟨vs, e1, n1, dps_up g.g _ _ h3⟩ ⟨_, upd_same, n1, dps_app (dps_up g.g _ _ h3) (.cons r1 .nil)⟩) hbase hs he1 hform hline
theorem ss_newL (i : Nat) {n : Str} {lp : Pos} (hN : X.N.Nodup) (q : ∀ p G1 H1, Gr G H G1 H1 → H p = none → Own X.K G1 H1 p [] → SS X D (ρ.set i (some (.v (.ref p)))) G1 H1 rest) (hi : X.N[i]? = some n := by rfl) (hx : Loc X.env.scope n := by first | exact Or.inl rfl | exact Or.inr rfl)
    (hs : swapsWith (.List [] lp) (some (.Name n p')) pos.line X.env = pure false := by rfl) (hf : X.fn n = true ∨ X.env.scope.names.lookup n = some .local := by first | exact .inl rfl | exact .inr rfl) : SS X D ρ G H (.Assign [.Name n p'] (.List [] lp) pos :: rest) :=
  ss_own i hN (ef_lst (ds := []) ea_nil) (fun p vs G1 H1 g hp gp e1 r1 => q p G1 H1 g hp ⟨vs, e1, gp, r1⟩) hi hx hs hf
end
theorem EA.to {X : Cx} {ρ : Env} {G H : Hp} {es : List Expr} {xs ys : List SV} (h : EA X ρ G H es xs) (q : xs = ys) : EA X ρ G H es ys := q ▸ h
variable {P : Program} {w : World} {K : PySem.W.Frag} {mg : Str → Option Value} {base : Heap} {f : Addr} {fd : FuncData}
def R_moved : Hp → List SV → List D → Prop := fun G xs ds => ∃ (p : Addr) (kvs : List (List L2.Key × V)) (fs : List Fact), xs = [.d (.list (fs.map eU)), .v (.ref p)] ∧ fs.length ≤ 46 ∧ G p = some (.dT kvs) ∧ Spot kvs fs ∧ ds = (movedOf fs).map eFS
/-- between the turns of the second loop -/
structure MS (K : PySem.W.Frag) (G0 H0 G2 : Hp) (p1 p2 l : Addr) (k1 k2 : List (L2.Key × V)) (acc : List FS) (G H : Hp) : Prop where
  same : Same G2 G
  gr : Gr G0 H0 G H
  a1 : H p1 = some (.dK k1)
  a2 : H p2 = some (.dK k2)
  own : Own K G H l (acc.map eFS)
section
variable {G0 H0 G2 G H G1 H1 : Hp} {p1 p2 l : Addr} {k1 k2 : List (L2.Key × V)} {acc : List FS}
theorem MS.up (m : MS K G0 H0 G2 p1 p2 l k1 k2 acc G H) (g : Gr G H G1 H1) : MS K G0 H0 G2 p1 p2 l k1 k2 acc G1 H1 := ⟨m.same.trans g.g, m.gr.trans g, g.h _ _ m.a1, g.h _ _ m.a2, m.own.gr g⟩
theorem MS.add (m : MS K G0 H0 G2 p1 p2 l k1 k2 acc G H) (g : Gr G H G1 H1) (hl : H0 l = none) {vs : List V} {q : FS} (o : Own K G1 (upd H1 l (.lst vs)) l (acc.map eFS ++ [eFS q])) : MS K G0 H0 G2 p1 p2 l k1 k2 (acc ++ [q]) G1 (upd H1 l (.lst vs)) := by
  have m1 := m.up g
  refine ⟨m1.same, m1.gr.mut hl (o.choose_spec.2.1), dset_ne m1.a1 (m1.own.ne m1.a1 fun _ z => nomatch z), dset_ne m1.a2 (m1.own.ne m1.a2 fun _ z => nomatch z), ?_⟩
  rw [List.map_append]
  exact o
end
/-- between the turns of the first loop -/
structure MB (K : PySem.W.Frag) (G0 H0 G2 : Hp) (p1 p2 : Addr) (fs : List Fact) (i : Nat) (G H : Hp) : Prop where
  same : Same G2 G
  gr : Gr G0 H0 G H
  b1 : ∃ k1, H p1 = some (.dK k1) ∧ G p1 = none ∧ KD K G k1 (grp Prod.fst (fs.take i)) ∧ k1.length ≤ i
  b2 : ∃ k2, H p2 = some (.dK k2) ∧ G p2 = none ∧ KD K G k2 (grp Prod.snd (fs.take i)) ∧ k2.length ≤ i
theorem fn_moved_steps (T : Gf mg) (F : FD K "moved_steps" s_moved_steps f fd) (hx : mg "moved_steps" = some (.ref f)) : FnL P w K mg base "moved_steps" 1 2 R_moved := by
  refine fn_list F sc_moved_steps rfl rfl hx (F.bindsN fun _ _ _ _ _ _ us hl => match us, hl with | [_, _], _ => rfl) fun cdv A outer s H E hr G xs ds Q hR hl q => ss_same fun hs => ?_
  obtain ⟨p, kvs, fs, rfl, hb, hp, hS, rfl⟩ := hR
  have hp0 : H p = some (.dT kvs) := hs _ _ hp
  refine ss_newK 2 sc_moved_steps.nd fun p1 H1 g1 hp1 gp1 e1 => ?_
  refine ss_newK 3 sc_moved_steps.nd fun p2 H2 g2 hp2 gp2 e2 => ?_
  have ne12 : p1 ≠ p2 := fun z => by rw [z] at e1; rw [hp2] at e1; cases e1
  have h02 : H p2 = none := g1.none' hp2
  have g12 := g1.trans g2
  have hen : numbered (fs.map eU) = fs.zipIdx.map fun p => .tuple [.int ((p.2 : Nat) : Int), eU p.1] := numbered_map eU fs
  refine ss_for (xs := numbered (fs.map eU)) (ei_enumL T.enumerate (ee_nm 0)) fun G3 H3 g3 => ⟨fun i ρ G' H' => ∃ o4 o5 o6, ρ = [some (.d (.list (fs.map eU))), some (.v (.ref p)), some (.v (.ref p1)), some (.v (.ref p2)), o4, o5, o6, none, none, none, none] ∧ MB K G H G3 p1 p2 fs i G' H',
    ⟨none, none, none, rfl, .refl _, g12.trans g3, ⟨[], g3.h _ _ (g2.h _ _ e1), g3.fr p1 gp1 (by rw [g2.h _ _ e1]; simp), .nil, Nat.le_refl _⟩, ⟨[], g3.h _ _ e2, g3.fr p2 gp2 (by rw [e2]; simp), .nil, Nat.le_refl _⟩⟩, fun i ρ G1 H1 h => h.choose_spec.choose_spec.choose_spec.2.same, ?_, ?_⟩
  · rintro i d ρ G4 H4 hd ⟨o4, o5, o6, rfl, m⟩ G5 H5 g5
    obtain ⟨x, hx0, rfl⟩ := numbered_get hd
    rw [List.getElem?_map] at hx0
    cases hf : fs[i]? with
    | none => rw [hf] at hx0; cases hx0
    | some z =>
      rw [hf] at hx0
      cases hx0
      have hi : i < fs.length := (List.getElem?_eq_some_iff.mp hf).1
      refine ⟨[(4, .int (i : Nat)), (5, .str z.1), (6, .str z.2)], ga_tup (us := [(4, .int (i : Nat)), (5, .str z.1), (6, .str z.2)]) rfl (gas_cons (ga_nm 4 sc_moved_steps.nd) (gas_cons (ga_tup (us := [(5, .str z.1), (6, .str z.2)]) rfl (gas_cons (ga_nm 5 sc_moved_steps.nd) (gas_cons (ga_nm 6 sc_moved_steps.nd) gas_nil))) gas_nil)), ?_⟩
      obtain ⟨k1, a1, n1, kd1, l1⟩ := m.b1
      obtain ⟨k2, a2, n2, kd2, l2⟩ := m.b2
      have a1' := g5.h _ _ a1
      have a2' := g5.h _ _ a2
      have n1' := g5.fr p1 n1 (by rw [a1]; simp)
      have n2' := g5.fr p2 n2 (by rw [a2]; simp)
      have hlen1 : (idD (ids Prod.fst (fs.take i) z.1) ++ [PyData.int (i : Nat)]).length ≤ 100000 := by
        have h1 := ids_len Prod.fst (fs.take i) z.1
        rw [List.length_take] at h1
        rw [List.length_append, idD, List.length_map, List.length_singleton]
        omega
      have hlen2 : (idD (ids Prod.snd (fs.take i) z.2) ++ [PyData.int (i : Nat)]).length ≤ 100000 := by
        have h1 := ids_len Prod.snd (fs.take i) z.2
        rw [List.length_take] at h1
        rw [List.length_append, idD, List.length_map, List.length_singleton]
        omega
      refine ss_putZ (z := z.1) (x := .tuple (idD (ids Prod.fst (fs.take i) z.1) ++ [.int (i : Nat)])) hr.units (ee_tup (EA.to (ea_starT (ee_dgetZ (z := z.1) (d := .tuple (idD (ids Prod.fst (fs.take i) z.1))) (d' := .tuple []) hr.units (ee_nm 2) (ee_nm 5) (ee_tup (ds := []) ea_nil) a1' (fun w hw => ?_) (fun hn => ?_)) (ea_cons (ee_nm 4) ea_nil)) ?_) hlen1) (ee_nm 2) (ee_nm 5) a1' n1' (by omega) fun v G6 H6 g6 e6 n6 r6 => ?_
      · obtain ⟨d', h1, h2⟩ := kd1.got hw
        rw [grp_is h1] at h2
        exact dp_up g5.g _ _ h2
      · rw [grp_none (kd1.not hn)] <;> rfl
      · rw [List.map_append] <;> rfl
      have g46 := g5.trans g6
      have e2' : upd H6 p1 (.dK (putK k1 (kS z.1) v)) p2 = some (.dK k2) := dset_ne (g46.h _ _ a2) (Ne.symm ne12)
      have n2'' : G6 p2 = none := g46.fr p2 n2 (by rw [a2]; simp)
      refine ss_putZ (z := z.2) (x := .tuple (idD (ids Prod.snd (fs.take i) z.2) ++ [.int (i : Nat)])) hr.units (ee_tup (EA.to (ea_starT (ee_dgetZ (z := z.2) (d := .tuple (idD (ids Prod.snd (fs.take i) z.2))) (d' := .tuple []) hr.units (ee_nm 3) (ee_nm 6) (ee_tup (ds := []) ea_nil) e2' (fun w hw => ?_) (fun hn => ?_)) (ea_cons (ee_nm 4) ea_nil)) ?_) hlen2) (ee_nm 3) (ee_nm 6) e2' n2'' (by omega) fun v' G7 H7 g7 e7 n7 r7 => ?_
      · obtain ⟨d', h1, h2⟩ := kd2.got hw
        rw [grp_is h1] at h2
        exact dp_up g46.g _ _ h2
      · rw [grp_none (kd2.not hn)] <;> rfl
      · rw [List.map_append] <;> rfl
      have gA : Gr G H G6 (upd H6 p1 (.dK (putK k1 (kS z.1) v))) := (m.gr.trans g46).mut hp1 n6
      have hA := gA.trans g7
      refine ss_turn ⟨_, _, _, rfl, m.same.trans (g46.g.trans g7.g), hA.mut h02 n7, ⟨putK k1 (kS z.1) v, dset_ne (g7.h _ _ upd_same) ne12, g7.fr p1 n6 (by rw [upd_same]; simp), ?_, ?_⟩, ⟨putK k2 (kS z.2) v', upd_same, n7, ?_, ?_⟩⟩
      · rw [grp_take Prod.fst hf]
        exact ((kd1.up g46.g).put r6).up g7.g
      · have := length_putK k1 (kS z.1) v
        omega
      · rw [grp_take Prod.snd hf]
        exact (kd2.up (g46.g.trans g7.g)).put r7
      · have := length_putK k2 (kS z.2) v'
        omega
  · rintro ρ G4 H4 ⟨o4, o5, o6, rfl, m⟩
    have hlen : (numbered (fs.map eU)).length = fs.length := by unfold numbered; rw [List.length_map, List.length_zipIdx, List.length_map]
    rw [hlen] at m
    obtain ⟨k1, a1, n1, kd1, l1⟩ := m.b1
    obtain ⟨k2, a2, n2, kd2, l2⟩ := m.b2
    rw [List.take_length] at kd1 kd2
    refine ss_newL 7 sc_moved_steps.nd fun l G5 H5 g5 hl5 own5 => ?_
    have hl0 : H l = none := m.gr.none' hl5
    have M0 : MS K G H G5 p1 p2 l k1 k2 [] G5 H5 := ⟨.refl _, m.gr.trans g5, g5.h _ _ a1, g5.h _ _ a2, own5⟩
    have kd1' := kd1.up g5.g
    have kd2' := kd2.up g5.g
    have hcube : fs.length * (fs.length * fs.length) ≤ 46 * (46 * 46) := Nat.mul_le_mul hb (Nat.mul_le_mul hb hb)
    refine ss_for (xs := numbered (fs.map eU)) (ei_enumL T.enumerate (ee_nm 0)) fun G6 H6 g6 => ⟨fun i ρ G' H' => ∃ o4 o5 o6 o8 o9 o10, ρ = [some (.d (.list (fs.map eU))), some (.v (.ref p)), some (.v (.ref p1)), some (.v (.ref p2)), o4, o5, o6, some (.v (.ref l)), o8, o9, o10] ∧ Same G6 G' ∧ MS K G H G5 p1 p2 l k1 k2 ((fs.zipIdx.take i).flatMap fun q => mv1 fs q.2 q.1) G' H',
      ⟨_, _, _, none, none, none, rfl, .refl _, M0.up g6⟩, fun i ρ G1 H1 h => h.choose_spec.choose_spec.choose_spec.choose_spec.choose_spec.choose_spec.2.1, ?_, ?_⟩
    · rintro i d ρ G7 H7 hd ⟨o4, o5, o6, o8, o9, o10, rfl, s67, m⟩ G8 H8 g8
      obtain ⟨x, hx0, rfl⟩ := numbered_get hd
      rw [List.getElem?_map] at hx0
      cases hf : fs[i]? with
      | none => rw [hf] at hx0; cases hx0
      | some z =>
        rw [hf] at hx0
        cases hx0
        have hzi : fs.zipIdx[i]? = some (z, i) := by rw [List.getElem?_zipIdx, hf, Option.map_some, Nat.zero_add]
        refine ⟨[(8, .int (i : Nat)), (5, .str z.1), (6, .str z.2)], ga_tup (us := [(8, .int (i : Nat)), (5, .str z.1), (6, .str z.2)]) rfl (gas_cons (ga_nm 8 sc_moved_steps.nd) (gas_cons (ga_tup (us := [(5, .str z.1), (6, .str z.2)]) rfl (gas_cons (ga_nm 5 sc_moved_steps.nd) (gas_cons (ga_nm 6 sc_moved_steps.nd) gas_nil))) gas_nil)), ?_⟩
        have hbase1 : ((fs.zipIdx.take i).flatMap fun q => mv1 fs q.2 q.1).length ≤ fs.length * (fs.length * fs.length) := moved_len _ (by rw [List.length_take, List.length_zipIdx]; omega)
        have hnext := flat_take (fun q : Fact × Nat => mv1 fs q.2 q.1) hzi
        have htake : (fs.zipIdx.take (i + 1)).length ≤ fs.length := by rw [List.length_take, List.length_zipIdx]; omega
        have hwhole := moved_len (fs := fs) _ htake
        rw [hnext, List.length_append] at hwhole
        generalize hacc1 : ((fs.zipIdx.take i).flatMap fun q => mv1 fs q.2 q.1) = acc1 at m hwhole hnext
        have m8 := m.up g8
        have hne2 : ids Prod.snd fs z.2 ≠ [] := fun e => by
          have := ids_mem (key := Prod.snd) hf
          rw [e] at this
          cases this
        obtain ⟨w2, hw2, dp2⟩ := kd2'.of (grp_some hne2)
        refine ss_for (xs := idD (ids Prod.snd fs z.2)) (ei_tup (ee_dZ hr.units (ee_nm 3) (ee_nm 6) m8.a2 hw2 (dp_up m8.same _ _ dp2))) fun G9 H9 g9 => ⟨fun j ρ G' H' => ∃ o9 o10, ρ = [some (.d (.list (fs.map eU))), some (.v (.ref p)), some (.v (.ref p1)), some (.v (.ref p2)), o4, some (.d (.str z.1)), some (.d (.str z.2)), some (.v (.ref l)), some (.d (.int (i : Nat))), o9, o10] ∧ Same G9 G' ∧ MS K G H G5 p1 p2 l k1 k2 (acc1 ++ ((ids Prod.snd fs z.2).take j).flatMap (mv2 fs i z)) G' H',
          ⟨_, _, rfl, .refl _, by rw [List.take_zero, List.flatMap_nil, List.append_nil]; exact m8.up g9⟩, fun i ρ G1 H1 h => h.choose_spec.choose_spec.2.1, ?_, ?_⟩
        · rintro j d ρ Ga Ha hd2 ⟨o9, o10, rfl, s9a, ma⟩ Gb Hb gb
          unfold idD at hd2
          rw [List.getElem?_map] at hd2
          cases hj : (ids Prod.snd fs z.2)[j]? with
          | none => rw [hj] at hd2; cases hd2
          | some j0 =>
            rw [hj] at hd2
            cases hd2
            refine ⟨[(9, .int (j0 : Nat))], ga_nm 9 sc_moved_steps.nd, ?_⟩
            obtain ⟨fj, hfj, _⟩ := ids_lt (List.mem_of_getElem? hj)
            have hnj := nth_eq hfj
            have hne1 : ids Prod.fst fs fj.1 ≠ [] := fun e => by
              have := ids_mem (key := Prod.fst) hfj
              rw [e] at this
              cases this
            obtain ⟨w1, hw1, dp1⟩ := kd1'.of (grp_some hne1)
            have mb := ma.up gb
            have hfjD : (fs.map eU)[j0]? = some (eU fj) := by rw [List.getElem?_map, hfj] <;> rfl
            have hnext2 := flat_take (mv2 fs i z) hj
            have hpart : ((ids Prod.snd fs z.2).take (j + 1)).flatMap (mv2 fs i z) = ((ids Prod.snd fs z.2).take j).flatMap (mv2 fs i z) ++ mv2 fs i z j0 := hnext2
            have hle2 : (((ids Prod.snd fs z.2).take j).flatMap (mv2 fs i z) ++ mv2 fs i z j0).length ≤ fs.length * fs.length := by
              rw [← hpart]
              refine mv1_len _ (Nat.le_trans ?_ (ids_len Prod.snd fs z.2))
              rw [List.length_take]
              exact Nat.min_le_right _ _
            refine ss_for (xs := idD (ids Prod.fst fs fj.1)) (ei_tup (ee_dZ hr.units (ee_nm 2) (ee_at 0 (ds := [.str fj.1, .str fj.2]) (d := .str fj.1) (ee_ix (ee_nm 0) (ee_nm 9) fun _ _ g => xd_lst hfjD g)) mb.a1 hw1 (dp_up mb.same _ _ dp1))) fun Gc Hc gc => ⟨fun k ρ G' H' => ∃ o10, ρ = [some (.d (.list (fs.map eU))), some (.v (.ref p)), some (.v (.ref p1)), some (.v (.ref p2)), o4, some (.d (.str z.1)), some (.d (.str z.2)), some (.v (.ref l)), some (.d (.int (i : Nat))), some (.d (.int (j0 : Nat))), o10] ∧ Same Gc G' ∧ MS K G H G5 p1 p2 l k1 k2 ((acc1 ++ ((ids Prod.snd fs z.2).take j).flatMap (mv2 fs i z)) ++ ((ids Prod.fst fs fj.1).take k).flatMap (mv3 fs i z j0)) G' H',
              ⟨_, rfl, .refl _, by rw [List.take_zero, List.flatMap_nil, List.append_nil]; exact mb.up gc⟩, fun i ρ G1 H1 h => h.choose_spec.2.1, ?_, ?_⟩
            · rintro k d ρ Gd Hd hd3 ⟨o10, rfl, scd, md⟩ Ge He ge
              unfold idD at hd3
              rw [List.getElem?_map] at hd3
              cases hk : (ids Prod.fst fs fj.1)[k]? with
              | none => rw [hk] at hd3; cases hd3
              | some k0 =>
                rw [hk] at hd3
                cases hd3
                refine ⟨[(10, .int (k0 : Nat))], ga_nm 10 sc_moved_steps.nd, ?_⟩
                obtain ⟨fk, hfk, _⟩ := ids_lt (List.mem_of_getElem? hk)
                have hnk := nth_eq hfk
                have hfkD : (fs.map eU)[k0]? = some (eU fk) := by rw [List.getElem?_map, hfk] <;> rfl
                have me := md.up ge
                have hpe : He p = some (.dT kvs) := me.gr.h _ _ hp0
                have hnext3 := flat_take (mv3 fs i z j0) hk
                refine ss_if1 (k := !decide ((z.1, fk.2) ∈ fs)) (ET.to (et_cmp (ee_pair (ee_nm 5) (ee_at 1 (ds := [.str fk.1, .str fk.2]) (d := .str fk.2) (ee_ix (ee_nm 0) (ee_nm 10) fun _ _ g => xd_lst hfkD g))) (ee_nm 1) fun _ _ g => od_ninF (f := (z.1, fk.2)) hr.units hpe g) (by rw [hS.is])) (fun hyes Gf Hf gf => ?_) fun hno Gf Hf gf => ?_
                · have hyes' : (z.1, fk.2) ∉ fs := by simpa using hyes
                  have mf := me.up gf
                  have hm3 : mv3 fs i z j0 k0 = [((z.1, fk.2), .tuple [.str "moved", .int (i : Nat), .int (j0 : Nat), .int (k0 : Nat)])] := by
                    unfold mv3
                    rw [hnk, if_neg hyes']
                  refine ss_appO mf.own (ee_nm 7) (d := eFS ((z.1, fk.2), .tuple [.str "moved", .int (i : Nat), .int (j0 : Nat), .int (k0 : Nat)])) (ee_pair (ee_pair (x := .str z.1) (y := .str fk.2) (ee_nm 5) (ee_at 1 (ds := [.str fk.1, .str fk.2]) (d := .str fk.2) (ee_ix (ee_nm 0) (ee_nm 10) fun _ _ g => xd_lst hfkD g))) (ee_tup (ds := [.str "moved", .int (i : Nat), .int (j0 : Nat), .int (k0 : Nat)]) (ea_cons ee_str (ea_cons (ee_nm 8) (ea_cons (ee_nm 9) (ea_cons (ee_nm 10) ea_nil)))))) ?_ fun vs v Gg Hg gg og og2 => ?_
                  · have h1 : (((ids Prod.fst fs fj.1).take k).flatMap (mv3 fs i z j0)).length ≤ fs.length := mv2_len _ (Nat.le_trans (by rw [List.length_take]; exact Nat.min_le_right _ _) (ids_len Prod.fst fs fj.1))
                    rw [List.length_append] at hle2
                    have h2 : fs.length * fs.length ≤ 46 * 46 := Nat.mul_le_mul hb hb
                    rw [List.length_map, List.length_append, List.length_append]
                    omega
                  · refine ss_out fun Gh Hh gh => ss_turn ⟨_, rfl, ?_, ?_⟩
                    · exact scd.trans (ge.g.trans (gf.g.trans (gg.g.trans gh.g)))
                    · rw [hnext3, hm3, ← List.append_assoc]
                      exact (mf.add gg hl0 og2).up gh
                · have hno' : (z.1, fk.2) ∈ fs := by simpa using hno
                  have hm3 : mv3 fs i z j0 k0 = [] := by
                    unfold mv3
                    rw [hnk, if_pos hno']
                  refine ss_turn ⟨_, rfl, scd.trans (ge.g.trans gf.g), ?_⟩
                  rw [hnext3, hm3, List.append_nil]
                  exact me.up gf
            · rintro ρ Gd Hd ⟨o10, rfl, scd, md⟩
              have hl3 : (idD (ids Prod.fst fs fj.1)).length = (ids Prod.fst fs fj.1).length := by unfold idD; rw [List.length_map]
              rw [hl3, List.take_length] at md
              refine ss_turn ⟨_, _, rfl, s9a.trans (gb.g.trans (gc.g.trans scd)), ?_⟩
              have hm2 : mv2 fs i z j0 = (ids Prod.fst fs fj.1).flatMap (mv3 fs i z j0) := by
                unfold mv2
                rw [hnj]
              rw [hnext2, hm2, ← List.append_assoc]
              exact md
        · rintro ρ Ga Ha ⟨o9, o10, rfl, s9a, ma⟩
          have hl3 : (idD (ids Prod.snd fs z.2)).length = (ids Prod.snd fs z.2).length := by unfold idD; rw [List.length_map]
          rw [hl3, List.take_length] at ma
          exact ss_turn ⟨_, _, _, _, _, _, rfl, s67.trans (g8.g.trans (g9.g.trans s9a)), by rw [hnext]; exact ma⟩
    · rintro ρ G7 H7 ⟨o4, o5, o6, o8, o9, o10, rfl, s67, m⟩
      have hl3 : fs.zipIdx.take (numbered (fs.map eU)).length = fs.zipIdx := by rw [hlen, List.take_of_length_le (by rw [List.length_zipIdx]; exact Nat.le_refl _)]
      rw [hl3] at m
      obtain ⟨vs, h1, h2, h3⟩ := m.own
      exact ss_retOwn (ee_nm 7) h1 h2 fun G9 H9 g9 n9 e9 => q l vs G9 H9 (m.gr.trans g9) hl0 n9 e9 (dps_up g9.g _ _ h3)
end Rb
set_option Elab.async false
set_option linter.all false
set_option maxRecDepth 100000
set_option maxHeartbeats 4000000
namespace Rb
open PySem PySem.Spec PyProof.Rows L2
theorem foldl_take {α β : Type} (f : β → α → β) (a : β) {l : List α} {i : Nat} {x : α} (h : l[i]? = some x) : (l.take (i + 1)).foldl f a = f ((l.take i).foldl f a) x := by
  rw [List.take_add_one, h, Option.toList_some, List.foldl_append] <;> rfl
/-- the dict {fact: n for n, fact in enumerate(facts)} -/
theorem spot_fold {fs : List Fact} (hn : fs.Nodup) : Spot (fs.zipIdx.foldl (fun m (q : Fact × Nat) => putK m (kF q.1) (V.int (q.2 : Nat))) []) fs := fun f => by
  rw [valV_fold (fun q : Fact × Nat => kF q.1) (fun q => V.int (q.2 : Nat)) (kF f) fs.zipIdx []]
  have e0 : valV ([] : List (List L2.Key × V)) (kF f) = none := rfl
  rw [e0, Option.or_none]
  by_cases hf : f ∈ fs
  · rw [if_pos hf]
    cases e : fs.zipIdx.reverse.find? fun q => decide (kF q.1 = kF f) with
    | none =>
      exfalso
      obtain ⟨i, hi, e1⟩ := List.getElem_of_mem hf
      have hm : (f, i) ∈ fs.zipIdx.reverse := List.mem_reverse.mpr (List.mem_zipIdx_iff_getElem?.mpr (by rw [List.getElem?_eq_getElem hi, e1]))
      have := List.find?_eq_none.mp e _ hm
      simp at this
    | some q =>
      have h1 := List.find?_some e
      have h2 := List.mem_reverse.mp (List.mem_of_find?_eq_some e)
      have h3 : q.1 = f := kF_inj (of_decide_eq_true h1)
      have h4 : fs[q.2]? = some f := by rw [← h3]; exact List.mem_zipIdx_iff_getElem?.mp h2
      have h5 : fs.idxOf f = q.2 := by
        obtain ⟨hl, e2⟩ := List.getElem?_eq_some_iff.mp h4
        have h6 : fs.idxOf f < fs.length := List.idxOf_lt_length_of_mem hf
        have h7 : fs[fs.idxOf f] = f := List.getElem_idxOf h6
        exact (List.getElem_inj hn).mp (h7.trans e2.symm)
      show some (V.int (q.2 : Nat)) = some (V.int (ixF fs f))
      unfold ixF
      rw [h5]
  · rw [if_neg hf]
    cases e : fs.zipIdx.reverse.find? fun q => decide (kF q.1 = kF f) with
    | none => rfl
    | some q =>
      exfalso
      have h1 := List.find?_some e
      have h2 := List.mem_reverse.mp (List.mem_of_find?_eq_some e)
      have h3 : q.1 = f := kF_inj (of_decide_eq_true h1)
      exact hf (by rw [← h3]; exact List.mem_of_getElem? (List.mem_zipIdx_iff_getElem?.mp h2))
def hasF (acc : List FS) (f : Fact) : Bool := decide (f ∈ acc.map (·.1))
def nb1 (b : Book) (tr : List Str) (fs : List Fact) (acc : List FS) (q : Bld × Nat) : List FS :=
  if q.1.party ∈ tr ∧ (q.1.file, q.1.src) ∉ fs ∧ hasF acc (q.1.file, q.1.src) = false then match stepOf b fs q.2 q.1 with
    | none => acc
    | some d => acc ++ [((q.1.file, q.1.src), d)]
  else acc
def nb2 (acc : List FS) (q : FS) : List FS := if hasF acc q.1 = true then acc else acc ++ [q]
def builtOf (b : Book) (tr : List Str) (fs : List Fact) : List FS := b.blds.zipIdx.foldl (nb1 b tr fs) []
def nextOf (b : Book) (tr : List Str) (fs : List Fact) : List FS := (movedOf fs).foldl nb2 (builtOf b tr fs)
theorem nb1_len (b : Book) (tr : List Str) (fs : List Fact) (acc : List FS) (q : Bld × Nat) : (nb1 b tr fs acc q).length ≤ acc.length + 1 := by
  unfold nb1
  split
  · split
    · exact Nat.le_succ _
    · rw [List.length_append] <;> exact Nat.le_refl _
  · exact Nat.le_succ _
theorem nb2_len (acc : List FS) (q : FS) : (nb2 acc q).length ≤ acc.length + 1 := by
  unfold nb2
  split
  · exact Nat.le_succ _
  · rw [List.length_append] <;> exact Nat.le_refl _
theorem foldl_len {α β : Type} {f : List β → α → List β} (h : ∀ a x, (f a x).length ≤ a.length + 1) : ∀ (l : List α) (a : List β), (l.foldl f a).length ≤ a.length + l.length
  | [], _ => Nat.le_refl _
  | x :: l, a => by
    rw [List.foldl_cons, List.length_cons]
    have h1 := foldl_len h l (f a x)
    have h2 := h a x
    omega
theorem stepOf_is {b : Book} {fs : List Fact} {k : Nat} {u : Bld} {d : D} (h : stepOf b fs k u = some d) : isNon d = false := by
  unfold stepOf at h
  split at h
  · cases h; rfl
  · split at h
    · cases h
    · split at h
      · cases h; rfl
      · cases h
variable {P : Program} {w : World} {K : PySem.W.Frag} {mg : Str → Option Value} {base : Heap} {f : Addr} {fd : FuncData}
/-- between the turns -/
structure NS (K : PySem.W.Frag) (G0 H0 G2 : Hp) (pm l : Addr) (acc : List FS) (G H : Hp) : Prop where
  same : Same G2 G
  gr : Gr G0 H0 G H
  met : ∃ kvs, H pm = some (.dT kvs) ∧ G pm = none ∧ (∀ f : Fact, (valV kvs (kF f)).isSome = hasF acc f) ∧ kvs.length ≤ acc.length
  own : Own K G H l (acc.map eFS)
theorem NS.up {G0 H0 G2 G H G1 H1 : Hp} {pm l : Addr} {acc : List FS} (m : NS K G0 H0 G2 pm l acc G H) (g : Gr G H G1 H1) : NS K G0 H0 G2 pm l acc G1 H1 := by
  obtain ⟨kvs, h1, h2, h3, h4⟩ := m.met
  exact ⟨m.same.trans g.g, m.gr.trans g, ⟨kvs, g.h _ _ h1, g.fr pm h2 (by rw [h1]; simp), h3, h4⟩, m.own.gr g⟩
theorem hasF_add (acc : List FS) (q : FS) (f : Fact) : hasF (acc ++ [q]) f = (decide (f = q.1) || hasF acc f) := by
  unfold hasF
  rw [List.map_append, List.map_cons, List.map_nil]
  by_cases e : f = q.1
  · simp [e]
  · simp [e]
def R_next : Hp → List SV → List D → Prop := fun G xs ds => ∃ (b : Book) (tr : List Str) (fs : List Fact), xs = [.d (eK b), .d (eSs tr), .d (.list (fs.map eU))] ∧ b.Small ∧ fs.length ≤ 46 ∧ fs.Nodup ∧ ds = (nextOf b tr fs).map eFS
section
variable {X : Cx} {D : Ends} {ρ : Env} {rest : List Stmt} {G0 H0 G2 G H : Hp} {pm l : Addr} {acc : List FS} {q : FS} {a b c e o : Expr} {pos p' pos2 p2 apos : Pos}
/-- met[fact] = True; found.append((fact, step)) -/
theorem ss_meet (hu : X.A.units + 64 < cLine) (m : NS X.K G0 H0 G2 pm l acc G H) (hm0 : H0 pm = none) (hl0 : H0 l = none) (hz : acc.length < 99999)
    (hc : ∀ G1 H1, Gr G H G1 H1 → EE X ρ G1 H1 c (.d (.bool true))) (ha : ∀ G1 H1, EE X ρ G1 H1 a (.v (.ref pm))) (hb : ∀ G1 H1, EE X ρ G1 H1 b (.d (eU q.1))) (ho : ∀ G1 H1, EE X ρ G1 H1 o (.v (.ref l))) (he : ∀ G1 H1, EE X ρ G1 H1 e (.d (eFS q)))
    (k : ∀ G1 H1, NS X.K G0 H0 G2 pm l (acc ++ [q]) G1 H1 → Same G G1 → SS X D ρ G1 H1 rest)
    (hs1 : swapsWith c (some (.Subscript a b p')) pos.line X.env = pure false := by rfl)
    (hbase : attributeBase o "append" X.env (eval o X.env) = eval o X.env := by rfl) (hs : swapsWith (.Call (.Attribute o "append" apos) [e] [] p2) none pos2.line X.env = pure false := by rfl) (he1 : starEach [e] X.env = (false, eval e X.env) :: starEach [] X.env := by rfl)
    (hform : ((backTo p2 (starEach [e] X.env)).all (fun x => !x.1) && (backToKw p2 (keywordEach [] X.env)).all (fun x => x.1.isSome) && decide (([e] : List Expr).length + ([] : List Keyword).length + (if ([] : List Keyword).isEmpty then 0 else 1) < 30)) = true := by rfl) (hline : (apos.endLine == p2.line) = true := by rfl) :
    SS X D ρ G H (.Assign [.Subscript a b p'] c pos :: .Expr (.Call (.Attribute o "append" apos) [e] [] p2) pos2 :: rest) := by
  obtain ⟨kvs, h1, h2, h3, h4⟩ := m.met
  have hne : pm ≠ l := m.own.ne h1 fun _ z => nomatch z
  refine ss_putF hu (hc G H (.refl m.gr.gh)) (ha G H) (hb G H) h1 h2 (by omega) (fun v G1 H1 g1 e1 n1 r1 => ?_) hs1
  have m1 := m.up g1
  have gA : Gr G0 H0 G1 (upd H1 pm (.dT (putK kvs (kF q.1) v))) := m1.gr.mut hm0 n1
  have oA : Own X.K G1 (upd H1 pm (.dT (putK kvs (kF q.1) v))) l (acc.map eFS) := by
    obtain ⟨vs, o1, o2, o3⟩ := m1.own
    exact ⟨vs, dset_ne o1 (Ne.symm hne), o2, o3⟩
  refine ss_appO oA (ho _ _) (he _ _) (by rw [List.length_map]; omega) (fun vs v' G3 H3 g3 og og2 => ?_) hbase hs he1 hform hline
  refine k _ _ ⟨m1.same.trans g3.g, (gA.trans g3).mut hl0 og2.choose_spec.2.1, ⟨putK kvs (kF q.1) v, dset_ne (g3.h _ _ upd_same) hne, g3.fr pm n1 (by rw [upd_same]; simp), fun f => ?_, ?_⟩, ?_⟩ (g1.g.trans g3.g)
  · rw [valV_put, hasF_add]
    by_cases e : f = q.1
    · rw [if_pos (by rw [e]), decide_eq_true e] <;> rfl
    · rw [if_neg (fun z => e (kF_inj z)), decide_eq_false e, h3 f] <;> rfl
  · have := length_putK kvs (kF q.1) v
    rw [List.length_append, List.length_singleton]
    omega
  · rw [List.map_append]
    exact og2
end
theorem fn_next_steps (T : Gf mg) (F : FD K "next_steps" s_next_steps f fd) (hx : mg "next_steps" = some (.ref f)) (C1 : Fn P w K mg base "build_step" 2 3 [] R_step) (C2 : FnL P w K mg base "moved_steps" 1 2 R_moved) : FnL P w K mg base "next_steps" 3 3 R_next := by
  refine fn_list F sc_next_steps rfl rfl hx (F.bindsN fun _ _ _ _ _ _ us hl => match us, hl with | [_, _, _], _ => rfl) fun cdv A outer s H E hr G xs ds Q hR hl q => ss_same fun hs => ?_
  obtain ⟨b, tr, fs, rfl, hb, hfl, hfn, rfl⟩ := hR
  have hen : numbered (fs.map eU) = fs.zipIdx.map fun p => .tuple [.int ((p.2 : Nat) : Int), eU p.1] := numbered_map eU fs
  have hen2 : numbered (b.blds.map eB) = b.blds.zipIdx.map fun p => .tuple [.int ((p.2 : Nat) : Int), eB p.1] := numbered_map eB b.blds
  refine ss_dc 3 [("n", 4), ("fact", 5)] .dT fs.zipIdx (fun p => .tuple [.int ((p.2 : Nat) : Int), eU p.1]) (fun q => eU q.1) (fun q => .int (q.2 : Nat)) (fun q => [(4, .int (q.2 : Nat)), (5, eU q.1)]) (fun q : Fact × Nat => kF q.1) (fun q => V.int (q.2 : Nat)) (fun H h hb => dt_empty h hb) hr.units (put_F fun q : Fact × Nat => q.1) (fun G v q h => sr_int h) sc_next_steps.nd
    (by rw [← hen]; exact ei_enumL T.enumerate (ee_nm 2)) (by rw [List.length_zipIdx]; omega) (fun _ _ i hi => hi) (fun _ _ _ _ _ z _ => ga_tup (us := [(4, .int (z.2 : Nat)), (5, eU z.1)]) rfl (gas_cons (ga_nm 4 sc_next_steps.nd) (gas_cons (ga_nm 5 sc_next_steps.nd) gas_nil))) (fun _ _ _ _ _ z _ => ee_nm 5) (fun _ _ _ _ _ z _ => ee_nm 4) fun p G1 H1 g1 e1 => ?_
  have hS := spot_fold hfn
  generalize (fs.zipIdx.foldl (fun m (q : Fact × Nat) => putK m (kF q.1) (V.int (q.2 : Nat))) []) = kvs at e1 hS
  refine ss_newL 6 sc_next_steps.nd fun l G2 H2 g2 hl2 own2 => ?_
  refine ss_newT 7 sc_next_steps.nd fun pm H3 g3 hm3 gm3 em3 => ?_
  have g13 := g1.trans (g2.trans g3)
  have hl0 : H l = none := g1.none' hl2
  have hm0 : H pm = none := (g1.trans g2).none' hm3
  have eG3 : G2 p = some (.dT kvs) := g2.g _ _ e1
  have M0 : NS K G H G2 pm l [] G2 H3 := ⟨.refl _, g13, ⟨[], em3, gm3, fun f => by unfold hasF; rfl, Nat.le_refl _⟩, own2.gr g3⟩
  refine ss_for (xs := numbered (b.blds.map eB)) (ei_enumT T.enumerate (ee_at 3 (ee_nm 0))) fun G4 H4 g4 => ⟨fun i ρ G' H' => ∃ o5 o8 o9 o10, ρ = [some (.d (eK b)), some (.d (eSs tr)), some (.d (.list (fs.map eU))), some (.v (.ref p)), none, o5, some (.v (.ref l)), some (.v (.ref pm)), o8, o9, o10] ∧ Same G4 G' ∧ NS K G H G2 pm l ((b.blds.zipIdx.take i).foldl (nb1 b tr fs) []) G' H',
    ⟨none, none, none, none, rfl, .refl _, M0.up g4⟩, fun i ρ G1 H1 h => h.choose_spec.choose_spec.choose_spec.choose_spec.2.1, ?_, ?_⟩
  · rintro i d ρ G5 H5 hd ⟨o5, o8, o9, o10, rfl, s45, m⟩ G6 H6 g6
    obtain ⟨x, hx0, rfl⟩ := numbered_get hd
    rw [List.getElem?_map] at hx0
    cases hf : b.blds[i]? with
    | none => rw [hf] at hx0; cases hx0
    | some u =>
      rw [hf] at hx0
      cases hx0
      have hzi : b.blds.zipIdx[i]? = some (u, i) := by rw [List.getElem?_zipIdx, hf, Option.map_some, Nat.zero_add]
      have hnext := foldl_take (nb1 b tr fs) [] hzi
      have hlen : ((b.blds.zipIdx.take i).foldl (nb1 b tr fs) []).length < 99999 := by
        have h1 := foldl_len (nb1_len b tr fs) (b.blds.zipIdx.take i) []
        have h2 := hb.blds
        have h3 : (b.blds.zipIdx.take i).length ≤ b.blds.length := by rw [List.length_take, List.length_zipIdx]; omega
        simp only [List.length_nil] at h1
        omega
      generalize (b.blds.zipIdx.take i).foldl (nb1 b tr fs) [] = acc at m hnext hlen
      refine ⟨[(8, .int (i : Nat)), (9, eB u)], ga_tup (us := [(8, .int (i : Nat)), (9, eB u)]) rfl (gas_cons (ga_nm 8 sc_next_steps.nd) (gas_cons (ga_nm 9 sc_next_steps.nd) gas_nil)), ?_⟩
      refine ss_set (x := .d (eU (u.file, u.src))) 5 sc_next_steps.nd (ee_pair (ee_at 4 (ee_nm 9)) (ee_at 2 (ee_nm 9))) fun G7 H7 g7 => ?_
      have m7 := (m.up g6).up g7
      have s47 := s45.trans (g6.g.trans g7.g)
      have ep7 : G7 p = some (.dT kvs) := m7.same _ _ eG3
      have hp7 : H7 p = some (.dT kvs) := g7.gh _ _ ep7
      obtain ⟨kv, k1, k2, k3, k4⟩ := m7.met
      refine ss_if1 (k := decide (u.party ∈ tr) && (!decide ((u.file, u.src) ∈ fs) && !hasF acc (u.file, u.src))) (ET.to (et_w (ew_and (et_cmp (ee_at 0 (ee_nm 9)) (ee_nm 1) fun _ _ g => od_inT g) fun _ => ew_and (et_cmp (ee_nm 5) (ee_nm 3) fun _ _ g => od_ninF (f := (u.file, u.src)) hr.units hp7 g) fun _ => ew_and1 (et_cmp (ee_nm 5) (ee_nm 7) fun _ _ g => od_ninF (f := (u.file, u.src)) hr.units k1 g)))
        (by rw [hS.is, k3])) (fun hy G8 H8 g8 => ?_) fun hn G8 H8 g8 => ?_
      · simp only [Bool.and_eq_true, decide_eq_true_eq, Bool.not_eq_true', decide_eq_false_iff_not] at hy
        have m8 := m7.up g8
        refine ss_set (x := .d (optD (stepOf b fs i u))) 10 sc_next_steps.nd (ee_call C1 hr (ea_cons (ee_nm 0) (ea_cons (ee_nm 3) (ea_cons (ee_nm 8) ea_nil))) fun G9 H9 g9 => ⟨b, p, kvs, fs, i, u, rfl, hb, g9.g _ _ (g8.g _ _ ep7), hS, hf, rfl⟩) fun G9 H9 g9 => ?_
        have m9 := m8.up g9
        cases hst : stepOf b fs i u with
        | none =>
          refine ss_if1 (k := false) (ET.to (et_cmp (ee_nm 10) ee_non fun _ _ g => od_notN g) rfl) (fun k => nomatch k) fun _ Ga Ha ga => ?_
          refine ss_out fun Gb Hb gb => ss_turn ⟨_, _, _, _, rfl, s47.trans (g8.g.trans (g9.g.trans (ga.g.trans gb.g))), ?_⟩
          rw [hnext]
          have e : nb1 b tr fs acc (u, i) = acc := by
            unfold nb1
            rw [if_pos ⟨hy.1, hy.2.1, hy.2.2⟩]
            simp only [hst]
          rw [e]
          exact (m9.up ga).up gb
        | some d =>
          refine ss_if1 (k := true) (ET.to (et_cmp (ee_nm 10) ee_non fun _ _ g => od_notN g) (by show (!isNon d) = true; rw [stepOf_is hst] <;> rfl)) (fun _ Ga Ha ga => ?_) fun k => nomatch k
          refine ss_meet (q := ((u.file, u.src), d)) hr.units (m9.up ga) hm0 hl0 hlen (fun _ _ _ => ee_bl) (fun _ _ => ee_nm 7) (fun _ _ => ee_nm 5) (fun _ _ => ee_nm 6) (fun _ _ => ee_pair (ee_nm 5) (ee_nm 10)) fun Gb Hb mb sb => ?_
          refine ss_out fun Gc Hc gc => ss_out fun Gd Hd gd => ss_turn ⟨_, _, _, _, rfl, s47.trans (g8.g.trans (g9.g.trans (ga.g.trans (sb.trans (gc.g.trans gd.g))))), ?_⟩
          rw [hnext]
          have e : nb1 b tr fs acc (u, i) = acc ++ [((u.file, u.src), d)] := by
            unfold nb1
            rw [if_pos ⟨hy.1, hy.2.1, hy.2.2⟩]
            simp only [hst]
          rw [e]
          exact (mb.up gc).up gd
      · refine ss_turn ⟨_, _, _, _, rfl, s47.trans g8.g, ?_⟩
        rw [hnext]
        have e : nb1 b tr fs acc (u, i) = acc := by
          unfold nb1
          rw [if_neg]
          rintro ⟨h1, h2, h3⟩
          rw [decide_eq_true h1, decide_eq_false h2, h3] at hn
          cases hn
        rw [e]
        exact m7.up g8
  · rintro ρ G5 H5 ⟨o5, o8, o9, o10, rfl, s45, m⟩
    have hl3 : b.blds.zipIdx.take (numbered (b.blds.map eB)).length = b.blds.zipIdx := by
      rw [hen2, List.length_map, List.length_zipIdx, List.take_of_length_le (by rw [List.length_zipIdx]; exact Nat.le_refl _)]
    rw [hl3] at m
    have hm0' : (b.blds.zipIdx.foldl (nb1 b tr fs) []) = builtOf b tr fs := rfl
    rw [hm0'] at m
    have hblen : (builtOf b tr fs).length ≤ 1000 := by
      have h1 := foldl_len (nb1_len b tr fs) b.blds.zipIdx []
      have h2 := hb.blds
      rw [List.length_zipIdx] at h1
      simp only [List.length_nil] at h1
      have h3 : (builtOf b tr fs).length = (b.blds.zipIdx.foldl (nb1 b tr fs) []).length := rfl
      omega
    have hmlen : (movedOf fs).length ≤ 97336 := by
      have h1 := moved_len (fs := fs) fs.zipIdx (by rw [List.length_zipIdx]; exact Nat.le_refl _)
      have h2 : fs.length * (fs.length * fs.length) ≤ 46 * (46 * 46) := Nat.mul_le_mul hfl (Nat.mul_le_mul hfl hfl)
      exact Nat.le_trans h1 h2
    refine ss_for (xs := (movedOf fs).map eFS) (ei_list (EF.ee (ef_call C2 (hr.mono (by decide)) (ea_cons (ee_nm 2) (ea_cons (ee_nm 3) ea_nil)) fun G9 H9 g9 => ⟨p, kvs, fs, rfl, hfl, g9.g _ _ (m.same _ _ eG3), hS, rfl⟩))) fun G6 H6 g6 => ⟨fun i ρ G' H' => ∃ o5 o10, ρ = [some (.d (eK b)), some (.d (eSs tr)), some (.d (.list (fs.map eU))), some (.v (.ref p)), none, o5, some (.v (.ref l)), some (.v (.ref pm)), o8, o9, o10] ∧ Same G6 G' ∧ NS K G H G2 pm l (((movedOf fs).take i).foldl nb2 (builtOf b tr fs)) G' H',
      ⟨_, _, rfl, .refl _, m.up g6⟩, fun i ρ G1 H1 h => h.choose_spec.choose_spec.2.1, ?_, ?_⟩
    · rintro i d ρ G7 H7 hd ⟨o5, o10, rfl, s67, m⟩ G8 H8 g8
      rw [List.getElem?_map] at hd
      cases hq : (movedOf fs)[i]? with
      | none => rw [hq] at hd; cases hd
      | some z =>
        rw [hq] at hd
        cases hd
        have hnext := foldl_take nb2 (builtOf b tr fs) hq
        have hlen : (((movedOf fs).take i).foldl nb2 (builtOf b tr fs)).length < 99999 := by
          have h1 := foldl_len nb2_len ((movedOf fs).take i) (builtOf b tr fs)
          have h3 : ((movedOf fs).take i).length ≤ (movedOf fs).length := by rw [List.length_take]; omega
          omega
        generalize ((movedOf fs).take i).foldl nb2 (builtOf b tr fs) = acc at m hnext hlen
        refine ⟨[(5, eU z.1), (10, z.2)], ga_tup (us := [(5, eU z.1), (10, z.2)]) rfl (gas_cons (ga_nm 5 sc_next_steps.nd) (gas_cons (ga_nm 10 sc_next_steps.nd) gas_nil)), ?_⟩
        have m8 := m.up g8
        obtain ⟨kv, k1, k2, k3, k4⟩ := m8.met
        refine ss_if1 (k := !hasF acc z.1) (ET.to (et_cmp (ee_nm 5) (ee_nm 7) fun _ _ g => od_ninF (f := z.1) hr.units k1 g) (by rw [k3])) (fun hy G9 H9 g9 => ?_) fun hn G9 H9 g9 => ?_
        · refine ss_meet (q := z) hr.units (m8.up g9) hm0 hl0 hlen (fun _ _ _ => ee_bl) (fun _ _ => ee_nm 7) (fun _ _ => ee_nm 5) (fun _ _ => ee_nm 6) (fun _ _ => ee_pair (ee_nm 5) (ee_nm 10)) fun Gb Hb mb sb => ?_
          refine ss_out fun Gc Hc gc => ss_turn ⟨_, _, rfl, s67.trans (g8.g.trans (g9.g.trans (sb.trans gc.g))), ?_⟩
          rw [hnext]
          have e : nb2 acc z = acc ++ [z] := by
            unfold nb2
            rw [if_neg]
            intro h
            rw [h] at hy
            cases hy
          rw [e]
          exact mb.up gc
        · refine ss_turn ⟨_, _, rfl, s67.trans (g8.g.trans g9.g), ?_⟩
          rw [hnext]
          have e : nb2 acc z = acc := by
            unfold nb2
            rw [if_pos (by simpa using hn)]
          rw [e]
          exact m8.up g9
    · rintro ρ G7 H7 ⟨o5, o10, rfl, s67, m⟩
      rw [List.length_map, List.take_length] at m
      obtain ⟨vs, h1, h2, h3⟩ := m.own
      exact ss_retOwn (ee_nm 6) h1 h2 fun G9 H9 g9 n9 e9 => q l vs G9 H9 (m.gr.trans g9) hl0 n9 e9 (dps_up g9.g _ _ h3)
end Rb
set_option Elab.async false
set_option linter.all false
set_option maxRecDepth 100000
namespace Rb
open PySem
/-! What the steps are: the plain side of the closure. -/
/-- what a build needs, by what is known -/
def Can (b : Book) (S : Fact → Prop) (u : Bld) : Prop := u.comp = none ∨ ∃ c, u.comp = some c ∧ (∃ o ∈ b.srcs, (b.srcOf u.src).lang ∈ o.comp ∧ S (c, o.name)) ∧ ∀ p ∈ u.parts.zip (b.srcOf u.src).uses, S p
def Step (b : Book) (tr : List Str) (S : Fact → Prop) (f : Fact) : Prop := (∃ u ∈ b.blds, u.party ∈ tr ∧ f = (u.file, u.src) ∧ Can b S u) ∨ ∃ s y, S (f.1, s) ∧ S (y, s) ∧ S (y, f.2)
/-- what is derived: the least that holds the supposed facts and each step -/
def Drv (b : Book) (tr : List Str) (sup : List Fact) (f : Fact) : Prop := ∀ S : Fact → Prop, (∀ f ∈ sup, S f) → (∀ f, Step b tr S f → S f) → S f
theorem Can.mono {b : Book} {S T : Fact → Prop} {u : Bld} (h : ∀ f, S f → T f) (c : Can b S u) : Can b T u := by
  rcases c with c | ⟨c, h1, ⟨o, h2, h3, h4⟩, h5⟩
  · exact .inl c
  · exact .inr ⟨c, h1, ⟨o, h2, h3, h _ h4⟩, fun p hp => h _ (h5 p hp)⟩
theorem Step.mono {b : Book} {tr : List Str} {S T : Fact → Prop} {f : Fact} (h : ∀ f, S f → T f) (c : Step b tr S f) : Step b tr T f := by
  rcases c with ⟨u, h1, h2, h3, h4⟩ | ⟨s, y, h1, h2, h3⟩
  · exact .inl ⟨u, h1, h2, h3, h4.mono h⟩
  · exact .inr ⟨s, y, h _ h1, h _ h2, h _ h3⟩
theorem Drv.step {b : Book} {tr : List Str} {sup : List Fact} {f : Fact} (h : Step b tr (Drv b tr sup) f) : Drv b tr sup f := fun S h1 h2 => h2 f (h.mono fun g hg => hg S h1 h2)
theorem Drv.sup {b : Book} {tr : List Str} {sup : List Fact} {f : Fact} (h : f ∈ sup) : Drv b tr sup f := fun S h1 _ => h1 f h
/-- a list that has the supposed, only derived facts, and no step left has just the derived facts -/
theorem drv_iff {b : Book} {tr : List Str} {sup fs : List Fact} (h1 : ∀ f ∈ sup, f ∈ fs) (h2 : ∀ f ∈ fs, Drv b tr sup f) (h3 : ∀ f, Step b tr (· ∈ fs) f → f ∈ fs) (f : Fact) : f ∈ fs ↔ Drv b tr sup f := ⟨h2 f, fun h => h (· ∈ fs) h1 h3⟩
/-! ### the program's steps -/
section
variable {b : Book} {tr : List Str} {fs : List Fact}
theorem found_iff {lang c : Str} : foundOf b fs lang c ≠ [] ↔ ∃ o ∈ b.srcs, lang ∈ o.comp ∧ (c, o.name) ∈ fs := by
  unfold foundOf
  constructor
  · intro h
    obtain ⟨o, ho⟩ := List.exists_mem_of_ne_nil _ h
    obtain ⟨h1, h2⟩ := List.mem_filter.mp ho
    simp only [Bool.and_eq_true, decide_eq_true_eq] at h2
    exact ⟨o, h1, h2⟩
  · rintro ⟨o, h1, h2⟩ e
    have : o ∈ ([] : List Src) := by
      rw [← e]
      exact List.mem_filter.mpr ⟨h1, by simpa using h2⟩
    cases this
theorem stepOf_iff {k : Nat} {u : Bld} : (stepOf b fs k u).isSome = true ↔ Can b (· ∈ fs) u := by
  unfold Can
  cases hc : u.comp with
  | none => rw [stepOf_no hc]; simp
  | some c =>
    cases hf : foundOf b fs (b.srcOf u.src).lang c with
    | nil =>
      rw [stepOf_nil hc hf]
      have : ¬ ∃ o ∈ b.srcs, (b.srcOf u.src).lang ∈ o.comp ∧ (c, o.name) ∈ fs := fun h => found_iff.mpr h hf
      constructor
      · intro h; cases h
      · rintro (h | ⟨c', h1, h2, _⟩)
        · cases h
        · cases h1
          exact absurd h2 this
    | cons o os =>
      have hne : ∃ o ∈ b.srcs, (b.srcOf u.src).lang ∈ o.comp ∧ (c, o.name) ∈ fs := found_iff.mp (by rw [hf]; simp)
      cases hw : (u.parts.zip (b.srcOf u.src).uses).all (fun f => decide (f ∈ fs)) with
      | false =>
        rw [stepOf_lack hc hf hw]
        constructor
        · intro h; cases h
        · rintro (h | ⟨c', h1, h2, h3⟩)
          · cases h
          · have : (u.parts.zip (b.srcOf u.src).uses).all (fun f => decide (f ∈ fs)) = true := List.all_eq_true.mpr fun p hp => decide_eq_true (h3 p hp)
            rw [hw] at this
            cases this
      | true =>
        rw [stepOf_yes hc hf hw]
        constructor
        · intro _
          exact .inr ⟨c, rfl, hne, fun p hp => of_decide_eq_true (List.all_eq_true.mp hw p hp)⟩
        · intro _; rfl
theorem moved_mem {q : FS} (h : q ∈ movedOf fs) : q.1 ∉ fs ∧ ∃ s y, (q.1.1, s) ∈ fs ∧ (y, s) ∈ fs ∧ (y, q.1.2) ∈ fs := by
  unfold movedOf at h
  obtain ⟨⟨f, i⟩, h1, h2⟩ := List.mem_flatMap.mp h
  have e1 := List.mem_zipIdx_iff_getElem?.mp h1
  unfold mv1 at h2
  obtain ⟨j, h3, h4⟩ := List.mem_flatMap.mp h2
  obtain ⟨fj, e2, e3⟩ := ids_lt h3
  unfold mv2 at h4
  obtain ⟨l, h5, h6⟩ := List.mem_flatMap.mp h4
  obtain ⟨fl, e4, e5⟩ := ids_lt h5
  unfold mv3 at h6
  split at h6
  · cases h6
  · rename_i hn
    rw [List.mem_singleton] at h6
    rw [h6]
    rw [nth_eq e4] at hn ⊢
    rw [nth_eq e2] at e5
    refine ⟨hn, f.2, fj.1, List.mem_of_getElem? e1, ?_, ?_⟩
    · have : (fj.1, f.2) = fj := Prod.ext rfl e3.symm
      rw [this]
      exact List.mem_of_getElem? e2
    · have : (fj.1, fl.2) = fl := Prod.ext e5.symm rfl
      rw [this]
      exact List.mem_of_getElem? e4
theorem moved_all {x s y t : Str} (h1 : (x, s) ∈ fs) (h2 : (y, s) ∈ fs) (h3 : (y, t) ∈ fs) (hn : (x, t) ∉ fs) : (x, t) ∈ (movedOf fs).map (·.1) := by
  obtain ⟨i, hi, e1⟩ := List.getElem_of_mem h1
  obtain ⟨j, hj, e2⟩ := List.getElem_of_mem h2
  obtain ⟨l, hl, e3⟩ := List.getElem_of_mem h3
  have g1 : fs[i]? = some (x, s) := by rw [List.getElem?_eq_getElem hi, e1]
  have g2 : fs[j]? = some (y, s) := by rw [List.getElem?_eq_getElem hj, e2]
  have g3 : fs[l]? = some (y, t) := by rw [List.getElem?_eq_getElem hl, e3]
  refine List.mem_map.mpr ⟨((x, t), .tuple [.str "moved", .int (i : Nat), .int (j : Nat), .int (l : Nat)]), ?_, rfl⟩
  unfold movedOf
  refine List.mem_flatMap.mpr ⟨((x, s), i), List.mem_zipIdx_iff_getElem?.mpr g1, ?_⟩
  unfold mv1
  refine List.mem_flatMap.mpr ⟨j, (show j ∈ ids Prod.snd fs s from ids_mem (key := Prod.snd) (f := (y, s)) g2), ?_⟩
  unfold mv2
  rw [nth_eq g2]
  refine List.mem_flatMap.mpr ⟨l, (show l ∈ ids Prod.fst fs y from ids_mem (key := Prod.fst) (f := (y, t)) g3), ?_⟩
  unfold mv3
  rw [nth_eq g3, if_neg hn]
  exact List.mem_singleton.mpr rfl
/-- what the growing list of steps holds -/
structure AccOk (b : Book) (tr : List Str) (fs : List Fact) (acc : List FS) : Prop where
  nd : (acc.map (·.1)).Nodup
  new : ∀ q ∈ acc, q.1 ∉ fs
  step : ∀ q ∈ acc, Step b tr (· ∈ fs) q.1
theorem AccOk.add {acc : List FS} {q : FS} (h : AccOk b tr fs acc) (h1 : hasF acc q.1 = false) (h2 : q.1 ∉ fs) (h3 : Step b tr (· ∈ fs) q.1) : AccOk b tr fs (acc ++ [q]) := by
  refine ⟨?_, ?_, ?_⟩
  · rw [List.map_append, List.map_singleton]
    refine List.nodup_append.mpr ⟨h.nd, List.nodup_cons.mpr ⟨List.not_mem_nil, List.nodup_nil⟩, fun x hx y hy e => ?_⟩
    rw [List.mem_singleton] at hy
    subst hy
    subst e
    unfold hasF at h1
    exact (of_decide_eq_false h1) hx
  · intro p hp
    rcases List.mem_append.mp hp with hp | hp
    · exact h.new p hp
    · rw [List.mem_singleton.mp hp]; exact h2
  · intro p hp
    rcases List.mem_append.mp hp with hp | hp
    · exact h.step p hp
    · rw [List.mem_singleton.mp hp]; exact h3
theorem hasF_mem {acc : List FS} {f : Fact} : hasF acc f = true ↔ f ∈ acc.map (·.1) := by
  unfold hasF
  exact decide_eq_true_iff
theorem nb1_ok {acc : List FS} {u : Bld} {k : Nat} (h : AccOk b tr fs acc) (hu : u ∈ b.blds) : AccOk b tr fs (nb1 b tr fs acc (u, k)) ∧ (∀ f, f ∈ acc.map (·.1) → f ∈ (nb1 b tr fs acc (u, k)).map (·.1)) ∧ (u.party ∈ tr → (u.file, u.src) ∉ fs → Can b (· ∈ fs) u → (u.file, u.src) ∈ (nb1 b tr fs acc (u, k)).map (·.1)) := by
  unfold nb1
  split
  · rename_i hc
    cases hs : stepOf b fs k u with
    | none =>
      refine ⟨h, fun f hf => hf, fun _ _ hcan => ?_⟩
      have := stepOf_iff (b := b) (fs := fs) (k := k) (u := u) |>.mpr hcan
      rw [hs] at this
      cases this
    | some d =>
      have hcan : Can b (· ∈ fs) u := stepOf_iff (k := k) |>.mp (by rw [hs] <;> rfl)
      refine ⟨h.add hc.2.2 hc.2.1 (.inl ⟨u, hu, hc.1, rfl, hcan⟩), fun f hf => ?_, fun _ _ _ => ?_⟩
      · rw [List.map_append]
        exact List.mem_append_left _ hf
      · rw [List.map_append]
        exact List.mem_append_right _ (List.mem_singleton.mpr rfl)
  · rename_i hc
    refine ⟨h, fun f hf => hf, fun h1 h2 _ => ?_⟩
    cases hh : hasF acc (u.file, u.src) with
    | true => exact hasF_mem.mp hh
    | false => exact absurd ⟨h1, h2, hh⟩ hc
theorem nb1_fold : ∀ (l : List (Bld × Nat)) (acc : List FS), (∀ q ∈ l, q.1 ∈ b.blds) → AccOk b tr fs acc → AccOk b tr fs (l.foldl (nb1 b tr fs) acc) ∧ (∀ f, f ∈ acc.map (·.1) → f ∈ (l.foldl (nb1 b tr fs) acc).map (·.1)) ∧ (∀ q ∈ l, q.1.party ∈ tr → (q.1.file, q.1.src) ∉ fs → Can b (· ∈ fs) q.1 → (q.1.file, q.1.src) ∈ (l.foldl (nb1 b tr fs) acc).map (·.1))
  | [], acc, _, h => ⟨h, fun f hf => hf, fun q hq => by cases hq⟩
  | q :: l, acc, hl, h => by
    obtain ⟨h1, h2, h3⟩ := nb1_ok (k := q.2) h (hl q List.mem_cons_self)
    obtain ⟨k1, k2, k3⟩ := nb1_fold l _ (fun p hp => hl p (List.mem_cons_of_mem _ hp)) h1
    rw [List.foldl_cons]
    refine ⟨k1, fun f hf => k2 f (h2 f hf), fun p hp a1 a2 a3 => ?_⟩
    rcases List.mem_cons.mp hp with e | hp
    · subst e
      exact k2 _ (h3 a1 a2 a3)
    · exact k3 p hp a1 a2 a3
theorem nb2_ok {acc : List FS} {q : FS} (h : AccOk b tr fs acc) (h1 : q.1 ∉ fs) (h2 : Step b tr (· ∈ fs) q.1) : AccOk b tr fs (nb2 acc q) ∧ (∀ f, f ∈ acc.map (·.1) → f ∈ (nb2 acc q).map (·.1)) ∧ q.1 ∈ (nb2 acc q).map (·.1) := by
  unfold nb2
  split
  · rename_i hc
    exact ⟨h, fun f hf => hf, hasF_mem.mp hc⟩
  · rename_i hc
    refine ⟨h.add (by simpa using hc) h1 h2, fun f hf => ?_, ?_⟩
    · rw [List.map_append]; exact List.mem_append_left _ hf
    · rw [List.map_append]; exact List.mem_append_right _ (List.mem_singleton.mpr rfl)
theorem nb2_fold : ∀ (l acc : List FS), (∀ q ∈ l, q.1 ∉ fs ∧ Step b tr (· ∈ fs) q.1) → AccOk b tr fs acc → AccOk b tr fs (l.foldl nb2 acc) ∧ (∀ f, f ∈ acc.map (·.1) → f ∈ (l.foldl nb2 acc).map (·.1)) ∧ ∀ q ∈ l, q.1 ∈ (l.foldl nb2 acc).map (·.1)
  | [], acc, _, h => ⟨h, fun f hf => hf, fun q hq => by cases hq⟩
  | q :: l, acc, hl, h => by
    obtain ⟨h1, h2, h3⟩ := nb2_ok h (hl q List.mem_cons_self).1 (hl q List.mem_cons_self).2
    obtain ⟨k1, k2, k3⟩ := nb2_fold l _ (fun p hp => hl p (List.mem_cons_of_mem _ hp)) h1
    rw [List.foldl_cons]
    refine ⟨k1, fun f hf => k2 f (h2 f hf), fun p hp => ?_⟩
    rcases List.mem_cons.mp hp with e | hp
    · subst e
      exact k2 _ h3
    · exact k3 p hp
theorem next_ok : AccOk b tr fs (nextOf b tr fs) ∧ ∀ f, f ∉ fs → Step b tr (· ∈ fs) f → f ∈ (nextOf b tr fs).map (·.1) := by
  obtain ⟨h1, h2, h3⟩ := nb1_fold (b := b) (tr := tr) (fs := fs) b.blds.zipIdx [] (fun q hq => List.mem_of_getElem? (List.mem_zipIdx_iff_getElem?.mp hq)) ⟨List.nodup_nil, (fun q hq => by cases hq), fun q hq => by cases hq⟩
  obtain ⟨k1, k2, k3⟩ := nb2_fold (b := b) (tr := tr) (fs := fs) (movedOf fs) (builtOf b tr fs) (fun q hq => by
    obtain ⟨a1, s, y, a2, a3, a4⟩ := moved_mem hq
    exact ⟨a1, .inr ⟨s, y, a2, a3, a4⟩⟩) h1
  refine ⟨k1, fun f hf hs => ?_⟩
  rcases hs with ⟨u, a1, a2, a3, a4⟩ | ⟨s, y, a1, a2, a3⟩
  · subst a3
    obtain ⟨i, hi, e⟩ := List.getElem_of_mem a1
    exact k2 _ (h3 (u, i) (List.mem_zipIdx_iff_getElem?.mpr (by rw [List.getElem?_eq_getElem hi, e])) a2 hf a4)
  · obtain ⟨q, hq, e⟩ := List.mem_map.mp (moved_all (t := f.2) a1 a2 a3 hf)
    have e2 : q.1 = f := e
    rw [← e2]
    exact k3 q hq
end
/-! ### the closure -/
/-- facts and steps, as far as the fuel lasts -/
def closeP (b : Book) (tr : List Str) : Nat → List Fact × List D → List Fact × List D
  | 0, p => p
  | n + 1, p => match nextOf b tr p.1 with
    | [] => p
    | q :: l => closeP b tr n (p.1 ++ (q :: l).map (·.1), p.2 ++ (q :: l).map (·.2))
/-- files F, sources S: all that can be said -/
structure Univ (b : Book) (F S : List Str) : Prop where
  bld : ∀ u ∈ b.blds, u.file ∈ F ∧ u.src ∈ S
  few : F.length * S.length ≤ 46
def InU (F S : List Str) (fs : List Fact) : Prop := ∀ f ∈ fs, f.1 ∈ F ∧ f.2 ∈ S
theorem inU_len {F S : List Str} {fs : List Fact} (h : InU F S fs) (hn : fs.Nodup) : fs.length ≤ F.length * S.length := by
  have h2 : fs ⊆ F.flatMap fun a => S.map fun c => (a, c) := fun f hf => List.mem_flatMap.mpr ⟨f.1, (h f hf).1, List.mem_map.mpr ⟨f.2, (h f hf).2, rfl⟩⟩
  have h3 := hn.length_le_of_subset h2
  have h4 : ∀ F : List Str, (F.flatMap fun a => S.map fun c => (a, c)).length = F.length * S.length := by
    intro F
    induction F with
    | nil => simp
    | cons a F ih => rw [List.flatMap_cons, List.length_append, ih, List.length_map, List.length_cons, Nat.succ_mul, Nat.add_comm]
  rw [h4] at h3
  exact h3
section
variable {b : Book} {tr : List Str} {F S : List Str}
theorem step_inU (U : Univ b F S) {fs : List Fact} (h : InU F S fs) {f : Fact} (hs : Step b tr (· ∈ fs) f) : f.1 ∈ F ∧ f.2 ∈ S := by
  rcases hs with ⟨u, a1, a2, a3, a4⟩ | ⟨s, y, a1, a2, a3⟩
  · subst a3
    exact U.bld u a1
  · exact ⟨(h _ a1).1, (h _ a3).2⟩
theorem next_nodup (U : Univ b F S) {fs : List Fact} (h : InU F S fs) (hn : fs.Nodup) : InU F S (fs ++ (nextOf b tr fs).map (·.1)) ∧ (fs ++ (nextOf b tr fs).map (·.1)).Nodup := by
  obtain ⟨k, _⟩ := next_ok (b := b) (tr := tr) (fs := fs)
  refine ⟨fun f hf => ?_, List.nodup_append.mpr ⟨hn, k.nd, fun x hx y hy e => ?_⟩⟩
  · rcases List.mem_append.mp hf with hf | hf
    · exact h f hf
    · obtain ⟨q, hq, e⟩ := List.mem_map.mp hf
      subst e
      exact step_inU U h (k.step q hq)
  · obtain ⟨q, hq, e2⟩ := List.mem_map.mp hy
    subst e
    exact k.new q hq (by rw [show q.1 = x from e2]; exact hx)
end
end Rb
set_option Elab.async false
set_option linter.all false
set_option maxRecDepth 100000
set_option maxHeartbeats 4000000
/-! while; own lists, once more. -/
namespace Rb
open PySem PySem.Spec PyProof.Rows L2
theorem Own.far {K : PySem.W.Frag} {G H : Hp} {l p : Addr} {ds : List D} {o : HO} (h : Own K G H l ds) (e : l ≠ p) : Own K G (upd H p o) l ds := by
  obtain ⟨vs, h1, h2, h3⟩ := h
  exact ⟨vs, dset_ne h1 e, h2, h3⟩
theorem Own.apart {K : PySem.W.Frag} {G H : Hp} {l p : Addr} {ds : List D} (h : Own K G H l ds) (e : H p = none) : l ≠ p := fun z => by
  obtain ⟨vs, h1, _⟩ := h
  rw [z, e] at h1
  cases h1
theorem Own.off {K : PySem.W.Frag} {G H : Hp} {l : Addr} {ds : List D} (h : Own K G H l ds) : G l = none := h.choose_spec.2.1
def LNw (K : PySem.W.Frag) (W : Nat → Env → Hp → Hp → Prop) (m : Nat) : L2.St → Hp → Prop := fun σ H => ∃ k ρ G, k < m ∧ Same G H ∧ ER K G σ ρ ∧ W k ρ G H
def whileD (X : Cx) (D : Ends) (rest : List Stmt) (W : Nat → Env → Hp → Hp → Prop) (m : Nat) : Ends := { D with nx := LNw X.K W m, ct := LNw X.K W m, bk := wSs X rest D }
section
variable {X : Cx} {D : Ends} {ρ : Env} {G H : Hp} {c e o : Expr} {body rest : List Stmt} {pos p' apos : Pos} {l : Addr} {ds es : List Rb.D} {d : Rb.D}
/-- while c: W by a measure -/
theorem ss_while (W : Nat → Env → Hp → Hp → Prop) (m0 : Nat) (h0 : W m0 ρ G H)
    (hs : ∀ m ρ' G1 H1, W m ρ' G1 H1 → ∃ k, ET X ρ' G1 H1 c k ∧ (k = true → ∀ G2 H2, Gr G1 H1 G2 H2 → SS X (whileD X D rest W m) ρ' G2 H2 body) ∧ (k = false → ∀ G2 H2, Gr G1 H1 G2 H2 → SS X D ρ' G2 H2 rest))
    (hp : PassesOwn (model X.prog X.w) X.A X.env X.xe := by exact PassesOwn.never) : SS X D ρ G H (.While c body [] pos :: rest) :=
  ss_cons (ps_while hp pt_w pss_w) fun s σ r => by
    refine ⟨fun m σ' H' => ∃ ρ' G', Same G' H' ∧ ER X.K G' σ' ρ' ∧ W m ρ' G' H', ⟨m0, ρ, G, s, r, h0⟩, ?_⟩
    rintro m σ' H' ⟨ρ', G', s', r', w'⟩
    obtain ⟨k, h1, h2, h3⟩ := hs m ρ' G' H' w'
    refine h1 G' H' σ' (.refl s') r' _ fun G2 H2 g2 => ?_
    cases k with
    | true => exact iteT ⟨LNw X.K W m, fun σ'' H'' ⟨k, ρ'', G'', a1, a2, a3, a4⟩ => ⟨k, a1, ρ'', G'', a2, a3, a4⟩, h2 rfl G2 H2 g2 g2.gh σ' (r'.up g2.g)⟩
    | false => exact iteF (h3 rfl G2 H2 g2 g2.gh σ' (r'.up g2.g))
theorem ss_wturn {W : Nat → Env → Hp → Hp → Prop} {m k : Nat} (hk : k < m) (h : W k ρ G H) : SS X (whileD X D rest W m) ρ G H [] := ss_nil fun σ s r => ⟨k, ρ, G, hk, s, r, h⟩
/-- xs.extend(new list) -/
theorem ss_extO (hO : Own X.K G H l ds) (ho : EE X ρ G H o (.v (.ref l))) (he : EF X ρ G H e es) (hz : ds.length + es.length < 100000)
    (q : ∀ vs G1 H1, Gr G H G1 H1 → Own X.K G1 H1 l ds → Own X.K G1 (upd H1 l (.lst vs)) l (ds ++ es) → SS X D ρ G1 (upd H1 l (.lst vs)) rest)
    (hbase : attributeBase o "extend" X.env (eval o X.env) = eval o X.env := by rfl) (hs : swapsWith (.Call (.Attribute o "extend" apos) [e] [] p') none pos.line X.env = pure false := by rfl) (he1 : starEach [e] X.env = (false, eval e X.env) :: starEach [] X.env := by rfl)
    (hform : ((backTo p' (starEach [e] X.env)).all (fun x => !x.1) && (backToKw p' (keywordEach [] X.env)).all (fun x => x.1.isSome) && decide (([e] : List Expr).length + ([] : List Keyword).length + (if ([] : List Keyword).isEmpty then 0 else 1) < 30)) = true := by rfl) (hline : (apos.endLine == p'.line) = true := by rfl) : SS X D ρ G H (.Expr (.Call (.Attribute o "extend" apos) [e] [] p') pos :: rest) := by
  obtain ⟨vs, h1, h2, h3⟩ := hO
  have hl := dps_len h3
  refine ss_ext ho he h1 h2 (by omega) (fun us G1 H1 g e1 n1 r1 => q (vs ++ us) G1 H1 g ⟨vs, e1, n1, dps_up g.g _ _ h3⟩ ⟨_, upd_same, n1, dps_app (dps_up g.g _ _ h3) r1⟩) hbase hs he1 hform hline
theorem ss_ownO (i : Nat) {n : Str} (hN : X.N.Nodup) (h : EF X ρ G H e ds) (q : ∀ p G1 H1, Gr G H G1 H1 → H p = none → Own X.K G1 H1 p ds → SS X D (ρ.set i (some (.v (.ref p)))) G1 H1 rest) (hi : X.N[i]? = some n := by rfl) (hx : Loc X.env.scope n := by first | exact Or.inl rfl | exact Or.inr rfl)
    (hs : swapsWith e (some (.Name n p')) pos.line X.env = pure false := by rfl) (hf : X.fn n = true ∨ X.env.scope.names.lookup n = some .local := by first | exact .inl rfl | exact .inr rfl) : SS X D ρ G H (.Assign [.Name n p'] e pos :: rest) :=
  ss_own i hN h (fun p vs G1 H1 g hp gp e1 r1 => q p G1 H1 g hp ⟨vs, e1, gp, r1⟩) hi hx hs hf
theorem ee_ownO (i : Nat) (hO : Own X.K G H l ds) (hx : lf d = true) (h : ∀ G1, Same G G1 → EE X (ρ.set i (some (.d (.list ds)))) G1 H e (.d d)) (hi : ρ[i]? = some (some (.v (.ref l))) := by first | (simp only [setsR, wipeO_nil, wipeO_cons, List.foldl_cons, List.foldl_nil, slots_cons, slots_succ, slots_zero, List.set_cons_zero, List.set_cons_succ, List.getElem?_cons_zero, List.getElem?_cons_succ] <;> rfl) | rfl) : EE X ρ G H e (.d d) := by
  obtain ⟨vs, h1, h2, h3⟩ := hO
  exact ee_own i hi h1 h2 h3 hx (h _ (same_new h2))
theorem et_ownO (i : Nat) {k : Bool} (hO : Own X.K G H l ds) (h : ∀ G1, Same G G1 → ET X (ρ.set i (some (.d (.list ds)))) G1 H e k) (hi : ρ[i]? = some (some (.v (.ref l))) := by first | (simp only [setsR, wipeO_nil, wipeO_cons, List.foldl_cons, List.foldl_nil, slots_cons, slots_succ, slots_zero, List.set_cons_zero, List.set_cons_succ, List.getElem?_cons_zero, List.getElem?_cons_succ] <;> rfl) | rfl) : ET X ρ G H e k := by
  obtain ⟨vs, h1, h2, h3⟩ := hO
  exact et_own i hi h1 h2 h3 (h _ (same_new h2))
theorem ef_ownO (i : Nat) (hO : Own X.K G H l ds) (hx : lfs es = true) (h : ∀ G1, Same G G1 → EF X (ρ.set i (some (.d (.list ds)))) G1 H e es) (hi : ρ[i]? = some (some (.v (.ref l))) := by first | (simp only [setsR, wipeO_nil, wipeO_cons, List.foldl_cons, List.foldl_nil, slots_cons, slots_succ, slots_zero, List.set_cons_zero, List.set_cons_succ, List.getElem?_cons_zero, List.getElem?_cons_succ] <;> rfl) | rfl) : EF X ρ G H e es := by
  obtain ⟨vs, h1, h2, h3⟩ := hO
  exact ef_own i hi h1 h2 h3 hx (h _ (same_new h2))
/-- from here the list is data -/
theorem ss_frzO (i : Nat) (hO : Own X.K G H l ds) {sts : List Stmt} (q : ∀ G1, Same G G1 → (∀ {G0 H0 : Hp}, Gr G0 H0 G H → H0 l = none → Gr G0 H0 G1 H) → (∀ p, p ≠ l → G1 p = G p) → SS X D (ρ.set i (some (.d (.list ds)))) G1 H sts) (hi : ρ[i]? = some (some (.v (.ref l))) := by first | (simp only [setsR, wipeO_nil, wipeO_cons, List.foldl_cons, List.foldl_nil, slots_cons, slots_succ, slots_zero, List.set_cons_zero, List.set_cons_succ, List.getElem?_cons_zero, List.getElem?_cons_succ] <;> rfl) | rfl) : SS X D ρ G H sts := by
  obtain ⟨vs, h1, h2, h3⟩ := hO
  exact ss_frz i hi h1 h2 h3 (q _ (same_new h2) (fun g h0 => g.frz h0 h2 h1) fun p hp => upd_ne hp)
end
end Rb
set_option Elab.async false
set_option linter.all false
set_option maxRecDepth 100000
set_option maxHeartbeats 4000000
namespace Rb
open PySem PySem.Spec PyProof.Rows L2
theorem lf_fact (f : Fact) : lf (eU f) = true := by simp [eU, lf, lfs]
theorem lf_ints : ∀ l : List Int, lfs (l.map .int) = true
  | [] => by simp [lfs]
  | i :: l => by rw [List.map_cons, lfs, lf_ints l] <;> simp [lf]
theorem lf_step {b : Book} {fs : List Fact} {k : Nat} {u : Bld} {d : D} (h : stepOf b fs k u = some d) : lf d = true := by
  unfold stepOf at h
  split at h
  · cases h; simp [lf, lfs]
  · split at h
    · cases h
    · split at h
      · cases h
        have e : ((u.parts.zip (b.srcOf u.src).uses).map fun f => PyData.int (ixF fs f)) = ((u.parts.zip (b.srcOf u.src).uses).map (ixF fs)).map .int := by rw [List.map_map] <;> rfl
        have h2 := lf_ints ((u.parts.zip (b.srcOf u.src).uses).map (ixF fs))
        rw [← e] at h2
        simp only [lf, lfs, h2, Bool.and_true]
      · cases h
theorem lf_moved {fs : List Fact} {q : FS} (h : q ∈ movedOf fs) : lf q.2 = true := by
  unfold movedOf mv1 mv2 mv3 at h
  obtain ⟨a, _, h⟩ := List.mem_flatMap.mp h
  obtain ⟨c, _, h⟩ := List.mem_flatMap.mp h
  obtain ⟨e, _, h⟩ := List.mem_flatMap.mp h
  split at h
  · cases h
  · rw [List.mem_singleton.mp h]
    simp [lf, lfs]
theorem lf_built {b : Book} {tr : List Str} {fs : List Fact} : ∀ (l : List (Bld × Nat)) (acc : List FS), (∀ q ∈ acc, lf q.2 = true) → ∀ q ∈ l.foldl (nb1 b tr fs) acc, lf q.2 = true
  | [], acc, h => h
  | p :: l, acc, h => by
    rw [List.foldl_cons]
    refine lf_built l _ fun q hq => ?_
    unfold nb1 at hq
    split at hq
    · split at hq
      · exact h q hq
      · rename_i d hd
        rcases List.mem_append.mp hq with hq | hq
        · exact h q hq
        · rw [List.mem_singleton.mp hq]
          exact lf_step hd
    · exact h q hq
theorem lf_nb2 : ∀ (l acc : List FS), (∀ q ∈ acc, lf q.2 = true) → (∀ q ∈ l, lf q.2 = true) → ∀ q ∈ l.foldl nb2 acc, lf q.2 = true
  | [], acc, h, _ => h
  | p :: l, acc, h, hl => by
    rw [List.foldl_cons]
    refine lf_nb2 l _ (fun q hq => ?_) fun q hq => hl q (List.mem_cons_of_mem _ hq)
    unfold nb2 at hq
    split at hq
    · exact h q hq
    · rcases List.mem_append.mp hq with hq | hq
      · exact h q hq
      · rw [List.mem_singleton.mp hq]
        exact hl p List.mem_cons_self
theorem lf_next {b : Book} {tr : List Str} {fs : List Fact} : ∀ q ∈ nextOf b tr fs, lf q.2 = true := lf_nb2 _ _ (lf_built _ _ fun q hq => by cases hq) fun q hq => lf_moved hq
theorem lf_eFS {b : Book} {tr : List Str} {fs : List Fact} : lfs ((nextOf b tr fs).map eFS) = true := lfs_map fun q hq => by
  unfold eFS
  rw [lf, lfs, lfs, lfs, lf_fact, lf_next q hq] <;> rfl
/-- the steps of the supposed facts -/
def supSteps (n : Nat) : List D := (List.range n).map fun i => .tuple [.str "supposed", .int ((0 : Int) + (i : Nat))]
/-- what derived gives -/
def derOf (b : Book) (tr : List Str) (sup : List Fact) : List Fact × List D := closeP b tr 47 (sup, supSteps sup.length)
theorem closeP_done {b : Book} {tr : List Str} {p : List Fact × List D} (h : nextOf b tr p.1 = []) : ∀ m, closeP b tr m p = p
  | 0 => rfl
  | m + 1 => by unfold closeP; rw [h]
theorem closeP_more {b : Book} {tr : List Str} {p : List Fact × List D} {q : FS} {l : List FS} {m : Nat} (h : nextOf b tr p.1 = q :: l) : closeP b tr (m + 1) p = closeP b tr m (p.1 ++ (nextOf b tr p.1).map (·.1), p.2 ++ (nextOf b tr p.1).map (·.2)) := by
  conv => lhs; unfold closeP
  rw [h]
def R_derived : Hp → List SV → SV → Prop := fun _ xs y => ∃ (b : Book) (tr : List Str) (sup : List Fact) (F S : List Str), xs = [.d (eK b), .d (eSs tr), .d (.tuple (sup.map eU))] ∧ b.Small ∧ Univ b F S ∧ InU F S sup ∧ sup.Nodup ∧
  y = .d (.tuple [.list ((derOf b tr sup).1.map eU), .list (derOf b tr sup).2])
/-- between the turns of the while -/
structure WS (K : PySem.W.Frag) (b : Book) (tr : List Str) (F S : List Str) (fin : List Fact × List D) (G0 H0 : Hp) (la lb lc : Addr) (m : Nat) (fs : List Fact) (ds : List D) (G H : Hp) : Prop where
  gr : Gr G0 H0 G H
  oa : Own K G H la (fs.map eU)
  ob : Own K G H lb ds
  oc : Own K G H lc ((nextOf b tr fs).map eFS)
  ab : la ≠ lb
  ac : la ≠ lc
  bc : lb ≠ lc
  fin : closeP b tr m (fs, ds) = fin
  fuel : 47 ≤ m + fs.length
  inU : InU F S fs
  nd : fs.Nodup
  len : ds.length = fs.length
variable {P : Program} {w : World} {K : PySem.W.Frag} {mg : Str → Option Value} {base : Heap} {f : Addr} {fd : FuncData}
theorem WS.up {b : Book} {tr F S : List Str} {fin : List Fact × List D} {G0 H0 G H G1 H1 : Hp} {la lb lc : Addr} {m : Nat} {fs : List Fact} {ds : List D} (s : WS K b tr F S fin G0 H0 la lb lc m fs ds G H) (g : Gr G H G1 H1) : WS K b tr F S fin G0 H0 la lb lc m fs ds G1 H1 :=
  ⟨s.gr.trans g, s.oa.gr g, s.ob.gr g, s.oc.gr g, s.ab, s.ac, s.bc, s.fin, s.fuel, s.inU, s.nd, s.len⟩
theorem fn_derived (T : Gf mg) (F : FD K "derived" s_derived f fd) (hx : mg "derived" = some (.ref f)) (C1 : FnL P w K mg base "next_steps" 3 3 R_next) : Fn P w K mg base "derived" 4 3 [] R_derived := by
  refine fn_pure F sc_derived rfl rfl hx (F.bindsN fun _ _ _ _ _ _ us hl => match us, hl with | [_, _, _], _ => rfl) .nil fun cdv A outer s H E hr G xs y Q hR hl q => ?_
  obtain ⟨b, tr, sup, Fi, So, rfl, hb, hU, hin, hnd, rfl⟩ := hR
  have hs46 : sup.length ≤ 46 := Nat.le_trans (inU_len hin hnd) hU.few
  refine ss_lcOwn 3 [("fact", 4)] sup eU (fun z => [(4, eU z)]) (fun _ => true) eU sc_derived.nd (ei_tup (ee_nm 2)) (by omega) (fun _ _ i hi => hi) (fun _ _ _ _ _ z _ => ga_nm 4 sc_derived.nd) (fun _ _ _ _ _ z hz => ep_nil) (fun _ _ _ _ _ z hz _ => ee_nm 4) fun la vs G1 H1 g1 ha0 ga0 e1 r1 => ?_
  rw [filter_yes] at r1
  have oa1 : Own K G1 H1 la (sup.map eU) := ⟨vs, e1, ga0, r1⟩
  refine ss_lcOwn 5 [("n", 6)] (List.range sup.length) (fun i => .int ((0 : Int) + (i : Nat))) (fun z => [(6, .int ((0 : Int) + (z : Nat)))]) (fun _ => true) (fun i => .tuple [.str "supposed", .int ((0 : Int) + (i : Nat))]) sc_derived.nd (ei_range T.range (ee_ownO 3 oa1 (by simp [lf]) fun Gx sx => EE.to (ee_lenL T.len (ee_nm 3)) (by rw [List.length_map])) (by omega)) (by rw [List.length_range]; omega) (fun _ _ i hi => hi)
    (fun _ _ _ _ _ z _ => ga_nm 6 sc_derived.nd) (fun _ _ _ _ _ z hz => ep_nil) (fun _ _ _ _ _ z hz _ => ee_pair ee_str (ee_nm 6)) fun lb vb G2 H2 g2 hb0 gb0 e2 r2 => ?_
  rw [filter_yes] at r2
  have ob2 : Own K G2 H2 lb (supSteps sup.length) := ⟨vb, e2, gb0, r2⟩
  have hab : la ≠ lb := oa1.apart hb0
  have oa2 := oa1.gr g2
  have nextE : ∀ {ρ' : Env} {G' H' : Hp} {fs : List Fact} {q1 q2 q3 q4 q5 : Pos}, Own K G' H' la (fs.map eU) → InU Fi So fs → fs.Nodup → ρ'[0]? = some (some (.d (eK b))) → ρ'[1]? = some (some (.d (eSs tr))) → ρ'[3]? = some (some (.v (.ref la))) → ρ'.length = 9 → EF (bX P w K mg base N_derived "derived" s_derived f cdv A outer s H E) ρ' G' H' (.Call (.Name "next_steps" q1) [.Name "book" q2, .Name "trusted" q3, .Name "facts" q4] [] q5) ((nextOf b tr fs).map eFS) :=
    fun {ρ' G' H' fs q1 q2 q3 q4 q5} o hi hn r0 r1 r3 r9 => by
      refine ef_ownO 3 o lf_eFS (fun Gx sx => ?_) r3
      refine ef_call C1 hr (ea_cons (ee_nm 0 (hr := by rw [List.getElem?_set_ne (by decide)]; exact r0)) (ea_cons (ee_nm 1 (hr := by rw [List.getElem?_set_ne (by decide)]; exact r1)) (ea_cons (ee_nm 3 (hr := List.getElem?_set_self (by omega))) ea_nil))) fun _ _ _ => ⟨b, tr, fs, rfl, hb, Nat.le_trans (inU_len hi hn) hU.few, hn, rfl⟩
  refine ss_ownO 7 sc_derived.nd (nextE oa2 hin hnd rfl rfl rfl rfl) fun lc G3 H3 g3 hc0 oc3 => ?_
  have oa3 := oa2.gr g3
  have ob3 := ob2.gr g3
  have M0 : WS K b tr Fi So (derOf b tr sup) G H la lb lc 47 sup (supSteps sup.length) G3 H3 := ⟨g1.trans (g2.trans g3), oa3, ob3, oc3, hab, oa2.apart hc0, ob2.apart hc0, rfl, by omega, hin, hnd, by unfold supSteps; rw [List.length_map, List.length_range]⟩
  have hla0 : H la = none := ha0
  have hlb0 : H lb = none := g1.none' hb0
  refine ss_while (fun m ρ G' H' => ∃ lc fs ds o4 o6 o8, H lc = none ∧ ρ = [some (.d (eK b)), some (.d (eSs tr)), some (.d (.tuple (sup.map eU))), some (.v (.ref la)), o4, some (.v (.ref lb)), o6, some (.v (.ref lc)), o8] ∧ WS K b tr Fi So (derOf b tr sup) G H la lb lc m fs ds G' H') 47
    ⟨lc, sup, _, none, none, none, (g1.trans g2).none' hc0, rfl, M0⟩ ?_
  rintro m ρ G4 H4 ⟨lc, fs, ds, o4, o6, o8, hlc0, rfl, w⟩
  have hf46 : fs.length ≤ 46 := Nat.le_trans (inU_len w.inU w.nd) hU.few
  refine ⟨decide ((nextOf b tr fs).length > 0), ?_, fun hk G5 H5 g5 => ?_, fun hk G5 H5 g5 => ?_⟩
  · refine et_ownO 7 w.oc fun Gx sx => ET.to (et_cmp (ee_lenL T.len (ee_nm 7)) ee_int fun _ _ g => od_gt g) ?_
    rw [List.length_map]
    refine decide_eq_decide.mpr ?_
    omega
  · have w5 := w.up g5
    have hpos : (nextOf b tr fs).length > 0 := of_decide_eq_true hk
    obtain ⟨hin', hnd'⟩ := next_nodup (tr := tr) hU w.inU w.nd
    have hlen' : (fs ++ (nextOf b tr fs).map (·.1)).length ≤ 46 := Nat.le_trans (inU_len hin' hnd') hU.few
    have hnl : fs.length + (nextOf b tr fs).length ≤ 46 := by rw [List.length_append, List.length_map] at hlen'; exact hlen'
    obtain ⟨m', rfl⟩ : ∃ m', m = m' + 1 := ⟨m - 1, by have := w.fuel; omega⟩
    have hlfU : lfs ((nextOf b tr fs).map fun q => eU q.1) = true := lfs_map fun q _ => lf_fact q.1
    have hlfD : lfs ((nextOf b tr fs).map fun q => q.2) = true := lfs_map fun q hq => lf_next q hq
    refine ss_extO w5.oa (ee_nm 3) (ef_ownO 7 w5.oc hlfU fun Gx sx => ef_map [("fact", 4), ("step", 8)] (nextOf b tr fs) eFS (fun z => [(4, eU z.1), (8, z.2)]) (fun q => eU q.1) sc_derived.nd (ei_list (ee_nm 7)) (by omega) (fun _ _ i hi => hi) (fun _ _ _ _ _ z _ => ga_tup (us := [(4, eU z.1), (8, z.2)]) rfl (gas_cons (ga_nm 4 sc_derived.nd) (gas_cons (ga_nm 8 sc_derived.nd) gas_nil))) (fun _ _ _ _ _ z hz => ee_nm 4)) (by rw [List.length_map, List.length_map]; omega) fun va G6 H6 g6 oa6 oa6' => ?_
    have w6 := w5.up g6
    have gr6 : Gr G H G6 (upd H6 la (.lst va)) := w6.gr.mut hla0 w6.oa.off
    have ob6 : Own K G6 (upd H6 la (.lst va)) lb ds := w6.ob.far (Ne.symm w6.ab)
    have oc6 : Own K G6 (upd H6 la (.lst va)) lc ((nextOf b tr fs).map eFS) := w6.oc.far (Ne.symm w6.ac)
    generalize upd H6 la (.lst va) = H6' at gr6 ob6 oc6 oa6'
    refine ss_extO ob6 (ee_nm 5) (ef_ownO 7 oc6 hlfD fun Gx sx => ef_map [("fact", 4), ("step", 8)] (nextOf b tr fs) eFS (fun z => [(4, eU z.1), (8, z.2)]) (fun q => q.2) sc_derived.nd (ei_list (ee_nm 7)) (by omega) (fun _ _ i hi => hi) (fun _ _ _ _ _ z _ => ga_tup (us := [(4, eU z.1), (8, z.2)]) rfl (gas_cons (ga_nm 4 sc_derived.nd) (gas_cons (ga_nm 8 sc_derived.nd) gas_nil))) (fun _ _ _ _ _ z hz => ee_nm 8)) (by have := w.len; rw [List.length_map]; omega) fun vb G7 H7 g7 ob7 ob7' => ?_
    have gr7 : Gr G H G7 (upd H7 lb (.lst vb)) := (gr6.trans g7).mut hlb0 ob7.off
    have oa7 : Own K G7 (upd H7 lb (.lst vb)) la ((fs ++ (nextOf b tr fs).map (·.1)).map eU) := by
      have e : (fs ++ (nextOf b tr fs).map (·.1)).map eU = fs.map eU ++ (nextOf b tr fs).map fun q => eU q.1 := by rw [List.map_append, List.map_map] <;> rfl
      rw [e]
      exact (oa6'.gr g7).far w.ab
    generalize upd H7 lb (.lst vb) = H7' at gr7 oa7 ob7'
    refine ss_ownO 7 sc_derived.nd (nextE oa7 hin' hnd' rfl rfl rfl rfl) fun lc' G8 H8 g8 hc8 oc8 => ?_
    refine ss_wturn (Nat.lt_succ_self m') ⟨lc', _, _, _, _, _, gr7.none' hc8, rfl, gr7.trans g8, oa7.gr g8, ob7'.gr g8, oc8, w.ab, oa7.apart hc8, ob7'.apart hc8, ?_, ?_, hin', hnd', ?_⟩
    · have hfin := w.fin
      cases hn : nextOf b tr fs with
      | nil => rw [hn] at hpos; cases hpos
      | cons q l =>
        rw [closeP_more (p := (fs, ds)) hn] at hfin
        rw [← hfin, hn]
    · have := w.fuel
      rw [List.length_append, List.length_map]
      omega
    · rw [List.length_append, List.length_append, List.length_map, List.length_map, w.len]
  · have hnil : nextOf b tr fs = [] := by
      have := of_decide_eq_false hk
      exact List.length_eq_zero_iff.mp (by omega)
    have w5 := w.up g5
    have hfin : derOf b tr sup = (fs, ds) := by rw [← w.fin]; exact closeP_done (p := (fs, ds)) hnil m
    refine ss_frzO 3 w5.oa fun G6 s6 gr6 ne6 => ?_
    have ob6 : Own K G6 H5 lb ds := by
      obtain ⟨vs, h1, h2, h3⟩ := w5.ob
      exact ⟨vs, h1, (ne6 lb (Ne.symm w.ab)).trans h2, dps_up s6 _ _ h3⟩
    refine ss_frzO 5 ob6 fun G7 s7 gr7 ne7 => ?_
    have gr := gr7 (gr6 w5.gr hla0) hlb0
    refine ss_ret (x := .d (.tuple [.list ((derOf b tr sup).1.map eU), .list (derOf b tr sup).2])) ?_ fun v G8 H8 g8 r8 => q v G8 H8 (gr.trans g8) r8
    rw [hfin]
    exact ee_pair (ee_nm 3) (ee_nm 5)
end Rb
set_option Elab.async false
set_option linter.all false
set_option maxRecDepth 100000
set_option maxHeartbeats 4000000
/-! sorted of a list of tuples that begin with a text: where the texts differ the rest need not be alike. -/
namespace Rb
open PySem PySem.Spec PyProof.Rows L2
open PySem.W in
/-- each is a tuple that begins with a text; those of one text are alike -/
structure Tagged (ds : List D) : Prop where
  tup : ∀ d ∈ ds, ∃ t r, d = .tuple (.str t :: r)
  one : ∀ t r r', PyData.tuple (.str t :: r) ∈ ds → PyData.tuple (.str t :: r') ∈ ds → alikeAll r r' = true
namespace Tagged
open PySem.W
section
variable {h : Heap} {ds : List D} {v : Value}
theorem same (T : Tagged ds) {d d' : D} (h1 : d ∈ ds) (h2 : d' ∈ ds) {as as' : List Addr} (r : Reads h v d as) (r' : Reads h v d' as') : d = d' := by
  obtain ⟨t, u, rfl⟩ := T.tup d h1
  obtain ⟨t', u', rfl⟩ := T.tup d' h2
  have e : t = t' := by
    cases r with
    | tuple a1 a2 a3 a4 =>
      cases r' with
      | tuple b1 b2 b3 b4 =>
        rw [a1] at b1
        cases b1
        rw [a3] at b3
        cases b3
        rename_i vs n
        generalize vs.toList = l at a4 b4
        cases a4 with
        | cons p q =>
          cases b4 with
          | cons p' q' =>
            cases p
            cases p'
            rfl
  subst e
  exact alike_unique _ _ v as as' (by simp [alike, alikeAll, T.one t u u' h1 h2]) r r'
theorem key (T : Tagged ds) {d : D} {as : List Addr} (hd : d ∈ ds) (r : Reads h v d as) : (dataKind h ds).keyOf v = some (keyToks d) := by
  have q : ∃ d, d ∈ ds ∧ ∃ as, Reads h v d as := ⟨d, hd, as, r⟩
  have e : (dataKind h ds).keyOf v = some (keyToks q.choose) := by
    show (open Classical in if q : ∃ d, d ∈ ds ∧ ∃ as, Reads h v d as then some (keyToks q.choose) else none) = _
    rw [dif_pos q]
  obtain ⟨m1, as', m2⟩ := q.choose_spec
  rw [e, T.same m1 hd m2 r]
end
section
variable {prog : Program} {w : World} {A : Around} {s : Shared}
theorem sorts {vs : List Value} {ds : List D} (T : Tagged ds) (e : EachIs (fun v d => ∃ as, Reads s.heap v d as) vs ds) (hu : ∀ d, d ∈ ds → A.units + d.depth < cLine) : SortsAt prog w A s (dataKind s.heap ds) vs := by
  refine ⟨fun v hv => ?_, tuples' true, ?_, fun h2 E Q hq => ?_⟩
  · obtain ⟨d, hd, as, r⟩ := e.left v hv
    exact ⟨_, T.key hd r⟩
  · intro E x y a b Q ha hb hq
    obtain ⟨d, as, hd, ra, rfl⟩ := dataKind_inv ha
    obtain ⟨d', as', hd', rb, rfl⟩ := dataKind_inv hb
    obtain ⟨t, u, rfl⟩ := T.tup d hd
    obtain ⟨t', u', rfl⟩ := T.tup d' hd'
    have hq' : Q (dataLt (.tuple (.str t :: u)) (.tuple (.str t' :: u'))) s := hq
    rw [dataLt_tuple] at hq'
    have room : A.units + min (PyData.tuple (.str t :: u)).depth (PyData.tuple (.str t' :: u')).depth < cLine := Nat.lt_of_le_of_lt (Nat.add_le_add_left (Nat.min_le_left _ _) _) (hu _ hd)
    have room2 := SeqAt.room_in room
    cases ra with
    | @tuple l o xs n _ _ h1 h2 h3 h4 =>
      cases rb with
      | @tuple l' o' xs' n' _ _ k1 k2 k3 k4 =>
        have n1 : xs.size = (PyData.str t :: u).length := by simpa using SeqAt.ReadsAll.length _ _ _ h4
        have n2 : xs'.size = (PyData.str t' :: u').length := by simpa using SeqAt.ReadsAll.length _ _ _ k4
        refine kat_lt h1 h3 k1 k3 ?_
        by_cases ett : t = t'
        · subst ett
          exact katLex_alike (.str t :: u) (.str t :: u') 0 _ _ _ _ h4 k4 (by simp [alike, alikeAll, T.one t u u' hd hd']) (by omega) (fun _ _ x r t ex => by
            obtain ⟨rfl, _⟩ := List.cons.inj ex
            exact fun z => nomatch z) (by rw [n1, n2]) hq'
        · have hal : alike (PyData.str t) (PyData.str t') = true := by simp [alike]
          have hrm : A.units + min (PyData.str t).depth (PyData.str t').depth < cLine := by
            have z : (PyData.str t).depth = 0 := by simp [PyData.depth]
            omega
          have hne : PyData.eqv (.str t) (.str t') = false := by simp [PyData.eqv, ett]
          rw [dataLt_all_no hal hne] at hq'
          generalize hx1 : xs.toList = l1 at h4
          generalize hx2 : xs'.toList = l2 at k4
          cases h4 with
          | cons r rs =>
            cases k4 with
            | cons r' rs' =>
              rw [List.zip_cons_cons]
              refine kat_cons (eqAt_alike (.str t) (.str t') A s _ _ _ _ r r' hal hrm prog w _ _ ?_)
              rw [hne]
              exact kat_no (oneLt_alike (fun _ xs z => PyData.noConfusion z) r r' hal (fun z => PyData.noConfusion z) hrm hq')
  · cases ds with
    | nil => cases e; exact absurd h2 (by simp)
    | cons d₀ ds₀ =>
      obtain ⟨fs, t1, t2, t3⟩ := each_katTups e fun d hd => by
        obtain ⟨t, r, q⟩ := T.tup d hd
        exact ⟨_, r, q⟩
      refine kat_kind (T := .type "str") t1 (by omega) (fun f hf => ?_) (beq_self_eq_true _) hq
      obtain ⟨x, r, as, m1, m2⟩ := t3 f hf
      obtain ⟨t, r', q⟩ := T.tup _ m1
      cases q
      exact looks_reads m2
end
end Tagged
section
variable {X : Cx} {G H G1 H1 : Hp} {β : Type}
open PySem.W in
theorem cf_sortedTag {enc : β → D} {bs : List β} (hu : X.A.units + 64 < cLine) (T : Tagged (bs.map enc)) (hL : bs.length ≤ 100000) (hd : ∀ b, (enc b).depth ≤ 50) (g : Gr G H G1 H1) :
    CF X (.builtin "sorted") G1 H1 [.d (.list (bs.map enc))] ((bs.mergeSort (dataLe false enc)).map enc) := fun vs r Q q => by
  obtain ⟨v, rfl, r1⟩ := srs1 r
  obtain ⟨a, xs, rfl, h1, h2⟩ := sr_lst r1
  intro pins s σ us I rv
  obtain ⟨u, rfl, ru⟩ := vals1 rv
  cases ru
  obtain ⟨its, r', pl, hz⟩ := I.list (g.gh.seq h1)
  have e := each_of_dps (X := X) h2 r'
  have er : EachIs (fun v b => ∃ as, Reads s.heap v (enc b) as) its bs := e.mono fun v b ⟨x, rx, dx⟩ => L2.Dp.reads I (enc b) x v (dp_of _ _ (dp_up g.gh _ _ dx)) rx
  have er2 : EachIs (fun v b => ∃ as, Reads (sortingHeap (copyHeap s.heap its) (s.heap.objs.size + 1) its) v (enc b) as) its bs := er.mono fun _ _ ⟨as, r⟩ => ⟨as, PyProof.Rows.Reads.keeps (fun _ _ => sorting_copy_old) r⟩
  have ed := each_map (R := fun v d => ∃ as, Reads (sortingHeap (copyHeap s.heap its) (s.heap.objs.size + 1) its) v d as) enc er2
  have srt := T.sorts (prog := X.prog) (w := X.w) (A := X.A.in1.in1) (s := { s with heap := sortingHeap (copyHeap s.heap its) (s.heap.objs.size + 1) its }) ed fun d hd' => by
    obtain ⟨b, _, rfl⟩ := List.mem_map.mp hd'
    have h1 := hd b
    have h2 : X.A.in1.in1.units = X.A.units + 2 := rfl
    omega
  refine sorted_vals pl.isList srt (by rw [e.length]; exact line_of hL) ?_
  have keys : EachIs (fun v b => (dataKind (sortingHeap (copyHeap s.heap its) (s.heap.objs.size + 1) its) (bs.map enc)).keyOf v = some (keyToks (enc b))) its bs := (each_mem er2).mono fun v b ⟨⟨as, r⟩, hb⟩ => T.key (List.mem_map.mpr ⟨b, hb, rfl⟩) r
  have eo := sortVals_each (κ := dataKind (sortingHeap (copyHeap s.heap its) (s.heap.objs.size + 1) its) (bs.map enc)) (rev := false) (fun b => keyToks (enc b)) e keys
  have ho := sortVals_length (κ := dataKind (sortingHeap (copyHeap s.heap its) (s.heap.objs.size + 1) its) (bs.map enc)) false (ks := its) (vs := its) rfl
  generalize sortVals (dataKind (sortingHeap (copyHeap s.heap its) (s.heap.objs.size + 1) its) (bs.map enc)) false its its = out at eo ho ⊢
  obtain ⟨xs', v1, d1⟩ := dps_of_each (X := X) eo
  obtain ⟨c, hc⟩ := PyProof.Rows.sortedAll_at s.heap its out.toArray
  have hlen : xs'.length ≤ sizeLine := by
    rw [v1.length, ho, r'.length.symm]
    exact hz
  have hfr : H1 (s.heap.objs.size + 1) = none := I.hok.fresh (Nat.le_succ _)
  refine ⟨.ref _, upd H1 (s.heap.objs.size + 1) (.lst xs'), I.laid (t' := s.toks) (fun _ _ => PyProof.Rows.sortedAll_old) (Nat.le_succ _) ?_, rfl, q _ xs' G1 _ (.tmp g.gh hfr) hfr (g.gh.free hfr) upd_same d1⟩
  exact ⟨hlen, out, c, v1, hc⟩
end
end Rb
set_option Elab.async false
set_option linter.all false
set_option maxRecDepth 100000
set_option maxHeartbeats 4000000
/-! [elt for tg in iter for tg1 in iter1 if ..]. -/
namespace Rb
open PySem PySem.Spec PyProof.Rows L2
section
variable {X : Cx} {ρ : Env} {G H : Hp} {tg iter tg1 iter1 elt : Expr} {ifs1 : List Expr} {scope : Scope} {pos : Pos} {β γ : Type} {ys : List β} {zs : β → List γ} {enc : β → D} {enc1 : γ → D} {us : β → List (Nat × D)} {us1 : γ → List (Nat × D)} {p : β → γ → Bool} {f : β → γ → D}
/-- what the inner clause gives of b -/
def innerOf (p : β → γ → Bool) (f : β → γ → D) (b : β) (l : List γ) : List D := (l.filter (p b)).map (f b)
theorem inner_len (b : β) (l : List γ) : (innerOf p f b l).length ≤ l.length := by
  unfold innerOf
  rw [List.length_map]
  exact List.length_filter_le _ _
theorem inner_take {b : β} {l : List γ} {j : Nat} {c : γ} (h : l[j]? = some c) : innerOf p f b (l.take (j + 1)) = if p b c = true then innerOf p f b (l.take j) ++ [f b c] else innerOf p f b (l.take j) := filt_take h
theorem lc2_rd {vs vs1 : List Nat} {n : Nat} (hi : EI X ρ G H tg iter (ys.map enc)) (hzz : ∀ b ∈ ys, (zs b).length ≤ n) (hz : ys.length * n < 100000) (hv : ∀ b ∈ ys, ∀ i ∈ (us b).map (·.1), i ∈ vs) (hv1 : ∀ b ∈ ys, ∀ c ∈ zs b, ∀ i ∈ (us1 c).map (·.1), i ∈ vs1)
    (hg : ∀ (s : Shared) (H0 : Hp) (C : Addr) (cl : List (Str × Addr)) (fp : List Addr), ∀ b ∈ ys, GA (X.blk s H0 scope (compEnvC scope cl C X.env) fp) tg (enc b) (us b))
    (hi1 : ∀ (s : Shared) (H0 : Hp) (C : Addr) (cl : List (Str × Addr)) (fp : List Addr), ∀ b ∈ ys, EI (X.blk s H0 scope (compEnvC scope cl C X.env) fp) (setsR (wipeR ρ vs) (us b)) G H tg1 iter1 ((zs b).map enc1))
    (hg1 : ∀ (s : Shared) (H0 : Hp) (C : Addr) (cl : List (Str × Addr)) (fp : List Addr), ∀ b ∈ ys, ∀ c ∈ zs b, GA (X.blk s H0 scope (compEnvC scope cl C X.env) fp) tg1 (enc1 c) (us1 c))
    (ht : ∀ (s : Shared) (H0 : Hp) (C : Addr) (cl : List (Str × Addr)) (fp : List Addr), ∀ b ∈ ys, ∀ c ∈ zs b, EP' (X.blk s H0 scope (compEnvC scope cl C X.env) fp) (setsR (wipeR (setsR (wipeR ρ vs) (us b)) vs1) (us1 c)) G H ifs1 (p b c))
    (he : ∀ (s : Shared) (H0 : Hp) (C : Addr) (cl : List (Str × Addr)) (fp : List Addr), ∀ b ∈ ys, ∀ c ∈ zs b, p b c = true → EE (X.blk s H0 scope (compEnvC scope cl C X.env) fp) (setsR (wipeR (setsR (wipeR ρ vs) (us b)) vs1) (us1 c)) G H elt (.d (f b c)))
    {G1 H1 : Hp} {σ : L2.St} (g : Gr G H G1 H1) (r : ER X.K G1 σ ρ) {Q : VK} (q : ∀ p' vs G2 H2, Gr G1 H1 G2 H2 → H1 p' = none → G2 p' = none → H2 p' = some (.lst vs) → DpAll X.K G2 vs (ys.flatMap fun b => innerOf p f b (zs b)) → Q (.ref p') H2) :
    tLc2 (wI X tg iter) (bG X scope tg) (bT X scope []) (bI X scope tg1 iter1) (bG X scope tg1) (bT X scope ifs1) (bE X scope elt) vs vs1 σ H1 Q := by
  refine hi G1 H1 σ g r _ fun J G2 H2 g2 hJ => fun Dl hD => ?_
  have gD : G2 Dl = none := g2.gh.free hD
  let St : Hp → List D → Prop := fun H' ds => ∃ G' us', Gr G2 H2 G' H' ∧ G' Dl = none ∧ H' Dl = some (.lst us') ∧ DpAll X.K G' us' ds
  refine ⟨fun i m H' => m = ys.length - i ∧ i ≤ ys.length ∧ St H' ((ys.take i).flatMap fun b => innerOf p f b (zs b)), ⟨ys.length, rfl, Nat.zero_le _, G2, [], .tmp g2.gh hD, gD, upd_same, by rw [List.take_zero]; exact .nil⟩, ?_⟩
  rintro i m H' ⟨rfl, hil, G', us', g', d1, d2, d3⟩
  by_cases hlt : i < ys.length
  · have hb : ys[i]? = some ys[i] := List.getElem?_eq_getElem hlt
    have hm : ys[i] ∈ ys := List.getElem_mem hlt
    generalize hbe : ys[i] = b at hb hm
    obtain ⟨hgo, hy⟩ := (hJ i G' H' g'.g g'.gh).1 (enc b) (by rw [List.getElem?_map, hb] <;> rfl)
    have hnext := flat_take (fun b => innerOf p f b (zs b)) hb
    refine .inr ⟨hgo, fun H'' => St H'' ((ys.take (i + 1)).flatMap fun b => innerOf p f b (zs b)), fun H'' w => ⟨ys.length - (i + 1), by omega, rfl, hlt, w⟩, fun v H3 y => ?_⟩
    obtain ⟨G3, g3, r3⟩ := hy v H3 y
    have gg3 : Gr G H G3 H3 := (g.trans g2).trans (g'.trans g3)
    have rr3 : ER X.K G3 σ ρ := r.up (g2.g.trans (g'.g.trans g3.g))
    have d1' : G3 Dl = none := g3.fr Dl d1 (by rw [d2]; simp)
    have hpre : ((ys.take i).flatMap fun b => innerOf p f b (zs b)).length ≤ i * n := by
      have h1 := flat_len (f := fun b => innerOf p f b (zs b)) (c := n) (l := ys.take i) fun b hb' => Nat.le_trans (inner_len b _) (hzz b (List.mem_of_mem_take hb'))
      have h2 : (ys.take i).length ≤ i := by rw [List.length_take]; omega
      exact Nat.le_trans h1 (Nat.mul_le_mul_right _ h2)
    have hbig : i * n + n ≤ ys.length * n := by
      have h1 : (i + 1) * n ≤ ys.length * n := Nat.mul_le_mul_right _ hlt
      rw [Nat.succ_mul] at h1
      exact h1
    intro s0 H0 C cl fp
    refine hg s0 H0 C cl fp _ hm G3 H3 _ v g3.gh r3 _ fun ws hw => ⟨?_, ?_⟩
    · rw [wipe_sets (fun i hi => hv _ hm i (by rw [← hw.idx]; exact hi)), wipe_wipe]
    · intro s0 H0 C cl fp
      have er1 : ER X.K G3 (sets (L2.wipe σ vs) ws) (setsR (wipeR ρ vs) (us b)) := hw.er (rr3.wipe vs)
      refine ep_nil (X := X.blk s0 H0 scope (compEnvC scope cl C X.env) fp) (G := G) (H := H) G3 H3 _ gg3 er1 _ fun G0 H9 g0 => ?_
      refine iteT ?_
      intro s0 H0 C cl fp
      refine hi1 s0 H0 C cl fp b hm G0 H9 _ (gg3.trans g0) (er1.up g0.g) _ fun J1 G4 H4 g4 hJ1 => ?_
      have g34 : Gr G3 H3 G4 H4 := g0.trans g4
      have n4 : G4 Dl = none := g34.fr Dl d1' (by rw [g3.h _ _ d2]; simp)
      have e4 : H4 Dl = some (.lst us') := g34.h _ _ (g3.h _ _ d2)
      refine ⟨fun j k H' => k = (zs b).length - j ∧ j ≤ (zs b).length ∧ ∃ Gx us', Gr G2 H2 Gx H' ∧ Same G4 Gx ∧ Gx Dl = none ∧ H' Dl = some (.lst us') ∧ DpAll X.K Gx us' (((ys.take i).flatMap fun b => innerOf p f b (zs b)) ++ innerOf p f b ((zs b).take j)),
        ⟨(zs b).length, rfl, Nat.zero_le _, G4, us', g'.trans (g3.trans g34), .refl _, n4, e4, by rw [List.take_zero]; exact (List.append_nil _).symm ▸ dps_up (g3.g.trans g34.g) _ _ d3⟩, ?_⟩
      rintro j k H5 ⟨rfl, hjl, G5, us5, g5, s45, c1, c2, c3⟩
      by_cases hjlt : j < (zs b).length
      · have hc : (zs b)[j]? = some (zs b)[j] := List.getElem?_eq_getElem hjlt
        have hcm : (zs b)[j] ∈ zs b := List.getElem_mem hjlt
        generalize hce : (zs b)[j] = c at hc hcm
        obtain ⟨hgo1, hy1⟩ := (hJ1 j G5 H5 s45 g5.gh).1 (enc1 c) (by rw [List.getElem?_map, hc] <;> rfl)
        have hnext1 := inner_take (p := p) (f := f) (b := b) hc
        refine .inr ⟨hgo1, fun H' => ∃ Gx us', Gr G2 H2 Gx H' ∧ Same G4 Gx ∧ Gx Dl = none ∧ H' Dl = some (.lst us') ∧ DpAll X.K Gx us' (((ys.take i).flatMap fun b => innerOf p f b (zs b)) ++ innerOf p f b ((zs b).take (j + 1))), fun H' w => ⟨(zs b).length - (j + 1), by omega, rfl, hjlt, w⟩, fun v1 H6 y1 => ?_⟩
        obtain ⟨G6, g6, r6⟩ := hy1 v1 H6 y1
        have gg6 : Gr G H G6 H6 := (g.trans g2).trans (g5.trans g6)
        have er6 : ER X.K G6 (sets (L2.wipe σ vs) ws) (setsR (wipeR ρ vs) (us b)) := er1.up (g34.g.trans (s45.trans g6.g))
        have c1' : G6 Dl = none := g6.fr Dl c1 (by rw [c2]; simp)
        intro s0 H0 C cl fp
        refine hg1 s0 H0 C cl fp b hm c hcm G6 H6 _ v1 g6.gh r6 _ fun ws1 hw1 => ⟨?_, ?_⟩
        · rw [wipe_sets (fun i hi => hv1 b hm c hcm i (by rw [← hw1.idx]; exact hi)), wipe_wipe]
        · have er7 : ER X.K G6 (sets (L2.wipe (sets (L2.wipe σ vs) ws) vs1) ws1) (setsR (wipeR (setsR (wipeR ρ vs) (us b)) vs1) (us1 c)) := hw1.er (er6.wipe vs1)
          intro s0 H0 C cl fp
          refine ht s0 H0 C cl fp b hm c hcm G6 H6 _ gg6 er7 _ fun G7 H7 g7 => ?_
          have e7 : H7 Dl = some (.lst us5) := g7.h _ _ (g6.h _ _ c2)
          have n7 : G7 Dl = none := g7.fr Dl c1' (by rw [g6.h _ _ c2]; simp)
          have w7 : Gr G2 H2 G7 H7 := g5.trans (g6.trans g7)
          cases hp : p b c with
          | true =>
            refine iteT ?_
            intro s0 H0 C cl fp
            refine he s0 H0 C cl fp b hm c hcm hp G7 H7 _ (gg6.trans g7) (er7.up g7.g) _ fun y G8 H8 g8 r8 => ?_
            have e8 : H8 Dl = some (.lst us5) := g8.h _ _ e7
            have n8 : G8 Dl = none := g8.fr Dl n7 (by rw [e7]; simp)
            have dd := dps_up (g6.g.trans (g7.g.trans g8.g)) _ _ c3
            refine ⟨us5, e8, ?_, G8, us5 ++ [y], (w7.trans g8).mut hD n8, s45.trans (g6.g.trans (g7.g.trans g8.g)), n8, upd_same, ?_⟩
            · have l1 := dps_len dd
              have l2 := inner_len (p := p) (f := f) b ((zs b).take j)
              have l3 := hzz b hm
              rw [List.length_take] at l2
              rw [List.length_append] at l1
              exact Nat.lt_of_lt_of_le (show us5.length < 100000 by omega) (by decide)
            · rw [hnext1, if_pos hp, ← List.append_assoc]
              exact dps_app dd (.cons r8 .nil)
          | false =>
            refine iteF ⟨G7, us5, w7, s45.trans (g6.g.trans g7.g), n7, e7, ?_⟩
            rw [hnext1, if_neg (by rw [hp]; decide)]
            exact dps_up (g6.g.trans g7.g) _ _ c3
      · have hj' : j = (zs b).length := by omega
        subst hj'
        refine .inl ⟨(hJ1 _ G5 H5 s45 g5.gh).2 (by rw [List.length_map]; exact Nat.le_refl _), G5, us5, g5, c1, c2, ?_⟩
        rw [hnext]
        rw [List.take_length] at c3
        exact c3
  · have hi' : i = ys.length := by omega
    subst hi'
    refine .inl ⟨(hJ _ G' H' g'.g g'.gh).2 (by rw [List.length_map]; exact Nat.le_refl _), ?_⟩
    rw [List.take_length] at d3
    exact q Dl us' G' H' (g2.trans g') (g2.none' hD) d1 d2 d3
theorem ef_lc2 (own own1 : List (Str × Nat)) (n : Nat) (ys : List β) (zs : β → List γ) (enc : β → D) (enc1 : γ → D) (us : β → List (Nat × D)) (us1 : γ → List (Nat × D)) (p : β → γ → Bool) (f : β → γ → D) (hN : X.N.Nodup) (hi : EI X ρ G H tg iter (ys.map enc)) (hzz : ∀ b ∈ ys, (zs b).length ≤ n) (hz : ys.length * n < 100000)
    (hv : ∀ b ∈ ys, ∀ i ∈ (us b).map (·.1), i ∈ own.map (·.2)) (hv1 : ∀ b ∈ ys, ∀ c ∈ zs b, ∀ i ∈ (us1 c).map (·.1), i ∈ own1.map (·.2)) (hv2 : ∀ i ∈ own1.map (·.2), i ∈ own.map (·.2))
    (hg : ∀ (s : Shared) (H0 : Hp) (C : Addr) (cl : List (Str × Addr)) (fp : List Addr), ∀ b ∈ ys, GA (X.blk s H0 scope (compEnvC scope cl C X.env) fp) tg (enc b) (us b))
    (hi1 : ∀ (s : Shared) (H0 : Hp) (C : Addr) (cl : List (Str × Addr)) (fp : List Addr), ∀ b ∈ ys, EI (X.blk s H0 scope (compEnvC scope cl C X.env) fp) (setsR (wipeO ρ own) (us b)) G H tg1 iter1 ((zs b).map enc1))
    (hg1 : ∀ (s : Shared) (H0 : Hp) (C : Addr) (cl : List (Str × Addr)) (fp : List Addr), ∀ b ∈ ys, ∀ c ∈ zs b, GA (X.blk s H0 scope (compEnvC scope cl C X.env) fp) tg1 (enc1 c) (us1 c))
    (ht : ∀ (s : Shared) (H0 : Hp) (C : Addr) (cl : List (Str × Addr)) (fp : List Addr), ∀ b ∈ ys, ∀ c ∈ zs b, EP' (X.blk s H0 scope (compEnvC scope cl C X.env) fp) (setsR (wipeO (setsR (wipeO ρ own) (us b)) own1) (us1 c)) G H ifs1 (p b c))
    (he : ∀ (s : Shared) (H0 : Hp) (C : Addr) (cl : List (Str × Addr)) (fp : List Addr), ∀ b ∈ ys, ∀ c ∈ zs b, p b c = true → EE (X.blk s H0 scope (compEnvC scope cl C X.env) fp) (setsR (wipeO (setsR (wipeO ρ own) (us b)) own1) (us1 c)) G H elt (.d (f b c)))
    (hc : X.calm = true := by rfl) (ok : blkC X.N X.env.scope scope own = true := by kernel_rfl) (hs : ∀ x, foldedSetIterable iter X.env x = pure x := by intro _; rfl) (hs1 : ∀ env x, foldedSetIterable iter1 env x = pure x := by intro _ _; rfl) :
    EF X ρ G H (.ListComp elt [⟨tg, iter, [], 0⟩, ⟨tg1, iter1, ifs1, 0⟩] scope pos) (ys.flatMap fun b => innerOf p f b (zs b)) := by
  intro G1 H1 σ g r Q q
  have h := lc2_rd (vs := List.map (fun x : Str × Nat => x.2) own) (vs1 := List.map (fun x : Str × Nat => x.2) own1) (n := n) (ys := ys) (zs := zs) (enc := enc) (enc1 := enc1) (us := us) (us1 := us1) (p := p) (f := f) hi hzz hz hv hv1 hg hi1 hg1 ht he g r (Q := Q) q
  refine w_pe ?_ h
  exact pe_lc2 (vs1 := List.map (fun x : Str × Nat => x.2) own1) hc hN pi_w (blkOk_by ok) hv2 pg_b pts_b pi_b pg_b pts_b pe_b hs hs1
end
end Rb
set_option Elab.async false
set_option linter.all false
set_option maxRecDepth 100000
set_option maxHeartbeats 4000000
/-! Equality of data: shapes, what it says. -/
namespace Rb
open PySem PySem.Spec PyProof.Rows L2
theorem lay_strs : ∀ {xs : List Str}, (∀ z ∈ xs, PyData.strOk z = true) → PyData.canLayAll0 (xs.map .str) = true
  | [], _ => by simp [PyData.canLayAll0]
  | x :: xs, h => by
    rw [List.map_cons, PyData.canLayAll0, lay_strs fun z hz => h z (List.mem_cons_of_mem _ hz)]
    simp [PyData.canLay0, h x List.mem_cons_self]
theorem depth_strs : ∀ xs : List Str, PyData.depthAll (xs.map .str) = 0
  | [] => by simp [PyData.depthAll]
  | x :: xs => by
    rw [List.map_cons, PyData.depthAll, depth_strs xs]
    simp [PyData.depth]
theorem eqv_strs : ∀ xs ys : List Str, PyData.eqvAll (xs.map .str) (ys.map .str) = decide (xs = ys)
  | [], [] => by simp [PyData.eqvAll]
  | [], _ :: _ => by simp [PyData.eqvAll]
  | _ :: _, [] => by simp [PyData.eqvAll]
  | x :: xs, y :: ys => by
    rw [List.map_cons, List.map_cons, PyData.eqvAll, eqv_strs xs ys]
    simp only [PyData.eqv]
    by_cases h : x = y
    · by_cases h2 : xs = ys
      · simp [h, h2]
      · simp [h, h2]
    · simp [h]
/-- the texts of a fact are written in signs that there are -/
def okF (f : Fact) : Prop := PyData.strOk f.1 = true ∧ PyData.strOk f.2 = true
theorem shaped_U {f : Fact} (h : okF f) : SeqAt.shaped (eU f) = true := by
  unfold SeqAt.shaped eU
  simp [PyData.canLay0, PyData.canLayAll0, h.1, h.2, PyData.depth, PyData.depthAll]
theorem shaped_Us {fs : List Fact} (h : ∀ f ∈ fs, okF f) : SeqAt.shaped (.list (fs.map eU)) = true := by
  have h1 : ∀ fs : List Fact, (∀ f ∈ fs, okF f) → PyData.canLayAll0 (fs.map eU) = true ∧ PyData.depthAll (fs.map eU) ≤ 1 := by
    intro fs
    induction fs with
    | nil => intro _; simp [PyData.canLayAll0, PyData.depthAll]
    | cons f fs ih =>
      intro h
      obtain ⟨i1, i2⟩ := ih fun g hg => h g (List.mem_cons_of_mem _ hg)
      obtain ⟨k1, k2⟩ := h f List.mem_cons_self
      rw [List.map_cons, PyData.canLayAll0, PyData.depthAll, i1]
      refine ⟨?_, ?_⟩
      · simp [eU, PyData.canLay0, PyData.canLayAll0, k1, k2]
      · have : (eU f).depth = 1 := by simp [eU, PyData.depth, PyData.depthAll]
        omega
  obtain ⟨k1, k2⟩ := h1 fs h
  unfold SeqAt.shaped
  rw [PyData.canLay0, k1]
  have : (PyData.list (fs.map eU)).depth = PyData.depthAll (fs.map eU) + 1 := by simp [PyData.depth]
  simp
  omega
theorem eqv_U (f g : Fact) : PyData.eqv (eU f) (eU g) = decide (f = g) := by
  have := eqv_strs [f.1, f.2] [g.1, g.2]
  show PyData.eqvAll ([f.1, f.2].map .str) ([g.1, g.2].map .str) = _
  rw [this]
  refine decide_eq_decide.mpr ⟨fun h => ?_, fun h => by rw [h]⟩
  injection h with h1 h2
  injection h2 with h2 _
  exact Prod.ext h1 h2
theorem any_U (fs : List Fact) (f : Fact) : ((fs.map eU).any fun z => PyData.eqv z (eU f)) = decide (f ∈ fs) := by
  induction fs with
  | nil => simp
  | cons g fs ih =>
    rw [List.map_cons, List.any_cons, ih, eqv_U]
    by_cases h : g = f
    · simp [h]
    · have h2 : ¬ f = g := fun e => h e.symm
      simp [h, h2]
section
variable {X : Cx} {G H G1 H1 : Hp} {f : Fact} {fs : List Fact}
theorem od_inU (hu : X.A.units + 65 < cLine) (h1 : okF f) (h2 : ∀ f ∈ fs, okF f) (g : Gr G H G1 H1) : OD X (compareOp .In) G1 H1 (.d (eU f)) (.d (.list (fs.map eU))) (.d (.bool (decide (f ∈ fs)))) := by
  rw [← any_U]
  exact od_inD hu (shaped_U h1) (shaped_Us h2) g
theorem od_ninU (hu : X.A.units + 65 < cLine) (h1 : okF f) (h2 : ∀ f ∈ fs, okF f) (g : Gr G H G1 H1) : OD X (compareOp .NotIn) G1 H1 (.d (eU f)) (.d (.list (fs.map eU))) (.d (.bool (!decide (f ∈ fs)))) := by
  rw [← any_U]
  exact od_ninD hu (shaped_U h1) (shaped_Us h2) g
/-- a text and texts -/
theorem od_nePart {a c : Str} {xs ys : List Str} (hu : X.A.units + 64 < cLine) (h1 : PyData.strOk a = true) (h2 : ∀ z ∈ xs, PyData.strOk z = true) (h3 : PyData.strOk c = true) (h4 : ∀ z ∈ ys, PyData.strOk z = true) (g : Gr G H G1 H1) :
    OD X (compareOp .NotEq) G1 H1 (.d (.tuple [.str a, .tuple (xs.map .str)])) (.d (.tuple [.str c, .tuple (ys.map .str)])) (.d (.bool (!(decide (a = c) && decide (xs = ys))))) := by
  have e : PyData.eqv (.tuple [.str a, .tuple (xs.map .str)]) (.tuple [.str c, .tuple (ys.map .str)]) = (decide (a = c) && decide (xs = ys)) := by
    simp only [PyData.eqv, PyData.eqvAll, eqv_strs, Bool.and_true]
    by_cases h : a = c <;> simp [h]
  rw [← e]
  refine od_neD hu ?_ ?_ g
  · unfold SeqAt.shaped
    simp [PyData.canLay0, PyData.canLayAll0, h1, lay_strs h2, PyData.depth, PyData.depthAll, depth_strs]
  · unfold SeqAt.shaped
    simp [PyData.canLay0, PyData.canLayAll0, h3, lay_strs h4, PyData.depth, PyData.depthAll, depth_strs]
end
end Rb
set_option Elab.async false
set_option linter.all false
set_option maxRecDepth 100000
set_option maxHeartbeats 4000000
namespace Rb
open PySem PySem.Spec PyProof.Rows L2
/-- the dict of the facts fs -/
def Know (kvs : List (List L2.Key × V)) (fs : List Fact) : Prop := ∀ f : Fact, (valV kvs (kF f)).isSome = decide (f ∈ fs)
/-- the source that tells the builds u and v apart -/
def partOf (b : Book) (fs : List Fact) (u v : Bld) : Option Str := match u.comp, v.comp with
  | some c, some d => if (u.src = v.src ∧ u.parts = v.parts) ∧ u.file ≠ v.file then (b.srcs.find? fun s => s.steady && (decide ((c, s.name) ∈ fs) && decide ((d, s.name) ∈ fs))).map (·.name) else none
  | _, _ => none
def R_part : Hp → List SV → SV → Prop := fun G xs y => ∃ (b : Book) (p : Addr) (kvs : List (List L2.Key × V)) (fs : List Fact) (k m : Nat) (u v : Bld), xs = [.d (eK b), .v (.ref p), .d (.int k), .d (.int m)] ∧ b.Small ∧ G p = some (.dT kvs) ∧ Know kvs fs ∧ b.blds[k]? = some u ∧ b.blds[m]? = some v ∧ y = .d (eO (partOf b fs u v))
variable {P : Program} {w : World} {K : PySem.W.Frag} {mg : Str → Option Value} {base : Heap} {f : Addr} {fd : FuncData}
theorem cut24 (a c d e g : D) : cutD [a, c, d, e, g] (some ((2 : Nat) : Int)) (some ((4 : Nat) : Int)) = [d, e] := by
  unfold cutD
  rw [HT.sIx_nat, HT.sIx_nat] <;> rfl
theorem fn_part_clash (T : Gf mg) (F : FD K "part_clash" s_part_clash f fd) (hx : mg "part_clash" = some (.ref f)) : Fn P w K mg base "part_clash" 1 4 [] R_part := by
  refine fn_pure F sc_part_clash rfl rfl hx (F.bindsN fun _ _ _ _ _ _ us hl => match us, hl with | [_, _, _, _], _ => rfl) .nil fun cdv A outer s H E hr G xs y Q hR hl q => ss_same fun hs => ?_
  obtain ⟨b, p, kvs, fs, k, m, u, v, rfl, hb, hp, hK, hu, hv, rfl⟩ := hR
  have hp0 : H p = some (.dT kvs) := hs _ _ hp
  have hku : (b.blds.map eB)[k]? = some (eB u) := by rw [List.getElem?_map, hu] <;> rfl
  have hkv : (b.blds.map eB)[m]? = some (eB v) := by rw [List.getElem?_map, hv] <;> rfl
  obtain ⟨tu1, tu2⟩ := hb.txt u (List.mem_of_getElem? hu)
  obtain ⟨tv1, tv2⟩ := hb.txt v (List.mem_of_getElem? hv)
  refine ss_set (x := .d (eB u)) 4 sc_part_clash.nd (ee_ix (ee_at 3 (ee_nm 0)) (ee_nm 2) fun _ _ g => xd_tup hku g) fun G1 H1 g1 => ?_
  refine ss_set (x := .d (eB v)) 5 sc_part_clash.nd (ee_ix (ee_at 3 (ee_nm 0)) (ee_nm 3) fun _ _ g => xd_tup hkv g) fun G2 H2 g2 => ?_
  have g12 := g1.trans g2
  refine ss_if1 (k := isNon (eO u.comp) || (isNon (eO v.comp) || (!(decide (u.src = v.src) && decide (u.parts = v.parts)) || decide (u.file = v.file)))) ?_ (fun hy G3 H3 g3 => ?_) fun hn G3 H3 g3 => ?_
  · refine et_w (ew_or (et_cmp (ee_at 1 (ee_nm 4)) ee_non fun _ _ g => od_isN g) fun _ => ew_or (et_cmp (ee_at 1 (ee_nm 5)) ee_non fun _ _ g => od_isN g) fun _ => ew_or (et_cmp (x := .d (.tuple [.str u.src, .tuple (u.parts.map .str)])) (y := .d (.tuple [.str v.src, .tuple (v.parts.map .str)])) (EE.to (ee_slT (i := some ((2 : Nat) : Int)) (j := some ((4 : Nat) : Int)) (ee_nm 4) (eo_at ee_int) (eo_at ee_int)) (by rw [cut24]))
      (EE.to (ee_slT (i := some ((2 : Nat) : Int)) (j := some ((4 : Nat) : Int)) (ee_nm 5) (eo_at ee_int) (eo_at ee_int)) (by rw [cut24])) fun _ _ g => od_nePart hr.units tu1 tu2 tv1 tv2 g) fun _ => ew_or1 (et_cmp (ee_at 4 (ee_nm 4)) (ee_at 4 (ee_nm 5)) fun _ _ g => od_eqS g))
  · refine ss_ret (x := .d .none) ee_non fun v' G4 H4 g4 r4 => q v' G4 H4 (g12.trans (g3.trans g4)) ?_
    have e : partOf b fs u v = none := by
      unfold partOf
      cases hc : u.comp with
      | none => rfl
      | some c =>
        cases hd : v.comp with
        | none => rfl
        | some d =>
          rw [hc, hd] at hy
          refine if_neg ?_
          rintro ⟨⟨h1, h2⟩, h3⟩
          rw [decide_eq_true h1, decide_eq_true h2, decide_eq_false h3] at hy
          cases hy
    rw [e]
    exact r4
  · have hc : ∃ c, u.comp = some c := by
      cases hc : u.comp with
      | none => rw [hc] at hn; cases hn
      | some c => exact ⟨c, rfl⟩
    obtain ⟨c, hc⟩ := hc
    have hd : ∃ d, v.comp = some d := by
      cases hd : v.comp with
      | none => rw [hc, hd] at hn; cases hn
      | some d => exact ⟨d, rfl⟩
    obtain ⟨d, hd⟩ := hd
    have hpart : partOf b fs u v = (b.srcs.find? fun s => s.steady && (decide ((c, s.name) ∈ fs) && decide ((d, s.name) ∈ fs))).map (·.name) := by
      have hn2 : (!(decide (u.src = v.src) && decide (u.parts = v.parts)) || decide (u.file = v.file)) = false := by
        rw [hc, hd] at hn
        exact hn
      unfold partOf
      rw [hc, hd]
      refine if_pos ?_
      simp only [Bool.or_eq_false_iff, Bool.not_eq_false', Bool.and_eq_true, decide_eq_true_eq, decide_eq_false_iff_not] at hn2
      exact hn2
    have eu : eB u = .tuple [.str u.party, .str c, .str u.src, .tuple (u.parts.map .str), .str u.file] := by unfold eB; rw [hc] <;> rfl
    have ev : eB v = .tuple [.str v.party, .str d, .str v.src, .tuple (v.parts.map .str), .str v.file] := by unfold eB; rw [hd] <;> rfl
    rw [hpart] at q
    rw [eu, ev]
    have hp3 : H3 p = some (.dT kvs) := g3.h _ _ (g12.h _ _ hp0)
    refine ss_for (xs := b.srcs.map eS) (ei_tup (ee_at 0 (ee_nm 0))) fun G4 H4 g4 => ⟨fun i ρ G' H' => ∃ o6 o7 o8 o9 o10, ρ = [some (.d (eK b)), some (.v (.ref p)), some (.d (.int k)), some (.d (.int m)), some (.d (.tuple [.str u.party, .str c, .str u.src, .tuple (u.parts.map .str), .str u.file])), some (.d (.tuple [.str v.party, .str d, .str v.src, .tuple (v.parts.map .str), .str v.file])), o6, o7, o8, o9, o10] ∧ Gr G4 H4 G' H' ∧ (b.srcs.take i).find? (fun s => s.steady && (decide ((c, s.name) ∈ fs) && decide ((d, s.name) ∈ fs))) = none,
      ⟨none, none, none, none, none, rfl, .refl g4.gh, rfl⟩, fun i ρ G1 H1 h => h.choose_spec.choose_spec.choose_spec.choose_spec.choose_spec.2.1.g, ?_, ?_⟩
    · rintro i x ρ G5 H5 hxd ⟨o6, o7, o8, o9, o10, rfl, g5, hf⟩ G6 H6 g6
      rw [List.getElem?_map] at hxd
      cases e : b.srcs[i]? with
      | none => rw [e] at hxd; cases hxd
      | some z =>
        rw [e] at hxd
        cases hxd
        obtain ⟨f1, f2⟩ := find_step hf e
        have g46 := g5.trans g6
        have hp6 : H6 p = some (.dT kvs) := g46.h _ _ (g4.h _ _ hp3)
        refine ⟨[(6, .str z.name), (7, .str z.lang), (8, eSs z.comp), (9, .bool z.steady), (10, eSs z.uses)], ga_tup rfl (gas_cons (ga_nm 6 sc_part_clash.nd) (gas_cons (ga_nm 7 sc_part_clash.nd) (gas_cons (ga_nm 8 sc_part_clash.nd) (gas_cons (ga_nm 9 sc_part_clash.nd) (gas_cons (ga_nm 10 sc_part_clash.nd) gas_nil))))), ?_⟩
        refine ss_if1 (k := z.steady && (decide ((c, z.name) ∈ fs) && decide ((d, z.name) ∈ fs))) (ET.to (et_w (ew_and (et_val (ee_nm 9)) fun _ => ew_and (et_cmp (ee_pair (x := .str c) (y := .str z.name) (ee_at 1 (ee_nm 4)) (ee_nm 6)) (ee_nm 1) fun _ _ g => od_inF (f := (c, z.name)) hr.units hp6 g) fun _ => ew_and1 (et_cmp (ee_pair (x := .str d) (y := .str z.name) (ee_at 1 (ee_nm 5)) (ee_nm 6)) (ee_nm 1) fun _ _ g => od_inF (f := (d, z.name)) hr.units hp6 g)))
          (by rw [hK, hK])) (fun hk G7 H7 g7 => ?_) fun hk G7 H7 g7 => ?_
        · refine ss_ret (x := .d (.str z.name)) (ee_nm 6) fun v' G8 H8 g8 r8 => q v' G8 H8 (g12.trans (g3.trans (g4.trans (g46.trans (g7.trans g8))))) ?_
          rw [f1 hk]
          exact r8
        · exact ss_turn ⟨_, _, _, _, _, rfl, g46.trans g7, f2 hk⟩
    · rintro ρ G5 H5 ⟨o6, o7, o8, o9, o10, rfl, g5, hf⟩
      rw [List.length_map, List.take_length] at hf
      refine ss_ret (x := .d .none) ee_non fun v' G8 H8 g8 r8 => q v' G8 H8 (g12.trans (g3.trans (g4.trans (g5.trans g8)))) ?_
      rw [hf]
      exact r8
/-! ### the pairs that are told apart -/
def partAt (b : Book) (fs : List Fact) (k m : Nat) : Option Str := match b.blds[k]?, b.blds[m]? with
  | some u, some v => partOf b fs u v
  | _, _ => none
def mineOf (b : Book) (tr : List Str) : List Nat := (b.blds.zipIdx.filter fun q => decide (q.1.party ∈ tr)).map (·.2)
theorem mine_lt {b : Book} {tr : List Str} {k : Nat} (h : k ∈ mineOf b tr) : ∃ u, b.blds[k]? = some u ∧ u.party ∈ tr := by
  unfold mineOf at h
  obtain ⟨q, h1, rfl⟩ := List.mem_map.mp h
  obtain ⟨h1, h2⟩ := List.mem_filter.mp h1
  exact ⟨q.1, List.mem_zipIdx_iff_getElem?.mp h1, of_decide_eq_true h2⟩
theorem mine_len (b : Book) (tr : List Str) : (mineOf b tr).length ≤ b.blds.length := by
  unfold mineOf
  rw [List.length_map]
  refine Nat.le_trans (List.length_filter_le _ _) ?_
  rw [List.length_zipIdx]
  exact Nat.le_refl _
def ePr (q : Nat × Nat) : D := .tuple [.int (q.1 : Nat), .int (q.2 : Nat)]
def pairIn (b : Book) (fs : List Fact) (k m : Nat) : Bool := decide (k < m) && (partAt b fs k m).isSome
def partedOf (b : Book) (tr : List Str) (fs : List Fact) : List (Nat × Nat) := (mineOf b tr).flatMap fun k => ((mineOf b tr).filter (pairIn b fs k)).map fun m => (k, m)
def R_parted : Hp → List SV → List D → Prop := fun G xs ds => ∃ (b : Book) (tr : List Str) (p : Addr) (kvs : List (List L2.Key × V)) (fs : List Fact), xs = [.d (eK b), .d (eSs tr), .v (.ref p)] ∧ b.Small ∧ G p = some (.dT kvs) ∧ Know kvs fs ∧ ds = (partedOf b tr fs).map ePr
theorem isNon_eO (o : Option Str) : isNon (eO o) = !o.isSome := by cases o <;> rfl
theorem fn_parted_pairs (T : Gf mg) (F : FD K "parted_pairs" s_parted_pairs f fd) (hx : mg "parted_pairs" = some (.ref f)) (C1 : Fn P w K mg base "part_clash" 1 4 [] R_part) : FnL P w K mg base "parted_pairs" 2 3 R_parted := by
  refine fn_list F sc_parted_pairs rfl rfl hx (F.bindsN fun _ _ _ _ _ _ us hl => match us, hl with | [_, _, _], _ => rfl) fun cdv A outer s H E hr G xs ds Q hR hl q => ss_same fun hs => ?_
  obtain ⟨b, tr, p, kvs, fs, rfl, hb, hp, hK, rfl⟩ := hR
  have hen2 : numbered (b.blds.map eB) = b.blds.zipIdx.map fun p => .tuple [.int ((p.2 : Nat) : Int), eB p.1] := numbered_map eB b.blds
  have hml := mine_len b tr
  have hbl := hb.blds
  refine ss_set (x := .d (.list ((b.blds.zipIdx.filter fun q => decide (q.1.party ∈ tr)).map fun q => PyData.int ((q.2 : Nat) : Int)))) 3 sc_parted_pairs.nd (EF.ee (ef_fil [("k", 4), ("build", 5)] b.blds.zipIdx (fun q => .tuple [.int ((q.2 : Nat) : Int), eB q.1]) (fun q => [(4, .int (q.2 : Nat)), (5, eB q.1)]) (fun q => decide (q.1.party ∈ tr)) (fun q => .int (q.2 : Nat)) sc_parted_pairs.nd (by rw [← hen2]; exact ei_enumT T.enumerate (ee_at 3 (ee_nm 0))) (by rw [List.length_zipIdx]; omega) (fun _ _ i hi => hi) (fun _ _ _ _ _ z _ => ga_tup (us := [(4, .int (z.2 : Nat)), (5, eB z.1)]) rfl (gas_cons (ga_nm 4 sc_parted_pairs.nd) (gas_cons (ga_nm 5 sc_parted_pairs.nd) gas_nil)))
    (fun _ _ _ _ _ z hz => et_cmp (ee_at 0 (ee_nm 5)) (ee_nm 1) fun _ _ g => od_inT g) (fun _ _ _ _ _ z hz _ => ee_nm 4))) fun G1 H1 g1 => ?_
  have hm : (b.blds.zipIdx.filter fun q => decide (q.1.party ∈ tr)).map (fun q => PyData.int ((q.2 : Nat) : Int)) = (mineOf b tr).map fun k => .int (k : Nat) := by
    unfold mineOf
    rw [List.map_map] <;> rfl
  rw [hm]
  refine ss_retF (EF.to (ef_lc2 [("k", 4), ("m", 6)] [("m", 6)] 300 (mineOf b tr) (fun _ => mineOf b tr) (fun k => .int (k : Nat)) (fun k => .int (k : Nat)) (fun k => [(4, .int (k : Nat))]) (fun k => [(6, .int (k : Nat))]) (fun k m => pairIn b fs k m) (fun k m => ePr (k, m)) sc_parted_pairs.nd (ei_list (ee_nm 3)) (fun _ _ => by omega) (by
      have : (mineOf b tr).length * 300 ≤ 300 * 300 := Nat.mul_le_mul_right _ (by omega)
      omega) (fun _ _ i hi => by simp at hi; simp [hi]) (fun _ _ _ _ i hi => hi) (fun i hi => by simp at hi; simp [hi]) (fun _ _ _ _ _ z _ => ga_nm 4 sc_parted_pairs.nd) (fun _ _ _ _ _ z _ => ei_list (ee_nm 3)) (fun _ _ _ _ _ z _ c _ => ga_nm 6 sc_parted_pairs.nd) (fun _ _ _ _ _ z hz c hc => ?_) (fun _ _ _ _ _ z hz c hc _ => ee_pair (ee_nm 4) (ee_nm 6))) ?_) fun p' ws G2 H2 g2 hp' gp' e2 r2 => q p' ws G2 H2 (g1.trans g2) (g1.none' hp') gp' e2 r2
  · obtain ⟨u, hu, _⟩ := mine_lt hz
    obtain ⟨v, hv, _⟩ := mine_lt hc
    have e : partAt b fs z c = partOf b fs u v := by unfold partAt; rw [hu, hv]
    refine ep_one (ET.to (et_w (ew_and (et_cmp (ee_nm 4) (ee_nm 6) fun _ _ g => od_lt g) fun _ => ew_and1 (et_cmp (ee_call C1 hr (ea_cons (ee_nm 0) (ea_cons (ee_nm 2) (ea_cons (ee_nm 4) (ea_cons (ee_nm 6) ea_nil)))) fun G9 H9 g9 => ⟨b, p, kvs, fs, z, c, u, v, rfl, hb, g9.g _ _ (g1.g _ _ hp), hK, hu, hv, rfl⟩) ee_non fun _ _ g => od_notN g))) ?_)
    unfold pairIn
    rw [e, isNon_eO, Bool.not_not]
    have : decide ((z : Int) < (c : Nat)) = decide (z < c) := decide_eq_decide.mpr (by omega)
    rw [this]
  · unfold partedOf innerOf
    rw [List.map_flatMap]
    congr 1
    funext k
    rw [List.map_map] <;> rfl
end Rb
set_option Elab.async false
set_option linter.all false
set_option maxRecDepth 100000
set_option maxHeartbeats 4000000
/-! Sets of tuples of texts: the table is searched slot by slot; what is searched for is found. -/
namespace Rb
open PySem PySem.Spec PyProof.Rows L2
section
variable (P : Program) (w : World)
/-- the hash of a tuple of texts -/
abbrev qh (k : List Str) : Int := tupleKeyHash (strKind P w) k
/-- the tuple of texts k stands at b -/
abbrev QT (h : Heap) (k : List Str) (b : Addr) : Prop := IsTupleKey (strKind P w) h k b
/-- an entry: where it is, its texts -/
abbrev QE : Type := Addr × List Str
def qRow (q : QE) : Int × Value := (qh P w q.2, .ref q.1)
end
section
variable {P : Program} {w : World} {A : Around} {E : Value → Shared → Prop} {s : Shared}
/-! ### what the search asks of an element -/
theorem q_texts {k : List Str} {vs : List Value} (h : ItemsAre (strKind P w) k vs) : ∀ v ∈ vs, ∃ z t, v = Value.str z t := by
  induction h with
  | nil => intro v hv; cases hv
  | @cons k0 v' ks vs h1 _ ih =>
    intro v hv
    rcases List.mem_cons.mp hv with e | hv
    · obtain ⟨t, e2⟩ := Value.isStrOf_shape h1
      exact ⟨k0, t, e.trans e2⟩
    · exact ih v hv
theorem q_ofClass {k : List Str} {b : Addr} {Q : Bool → Shared → Prop} (x : QT P w s.heap k b) (h : Q false s) : wpAny (model P w) A (ofAClassStatement 8 (.ref b)) Q E s := by
  have ty := x.typeIs
  obtain ⟨o, its, n, e1, _, e2, e3⟩ := x
  have texts := q_texts e3
  unfold ofAClassStatement
  refine wpAny_bind (wpAny_typeOf ty ?_)
  dsimp only
  have yes : (("tuple" : String) == "tuple") = true := by decide
  simp only [yes, if_true, Bool.not_true, Bool.false_eq_true, if_false]
  show wpAny _ _ (seqItems? (.ref b) >>= _) _ _ s
  refine wpAny_bind (wpAny_seqItems e1 e2 ?_)
  dsimp only
  refine wpAny_bind ?_
  show wpAny _ _ (forIn its _ _) _ _ s
  rw [← Array.forIn_toList]
  refine wpAny_forIn_list _ (fun left r s' => (r.1 = none ∧ s' = s) ∧ ∀ v ∈ left, ∃ z t, v = Value.str z t) _ ?_ ?_ _ _ ⟨⟨rfl, rfl⟩, texts⟩
  · rintro v left r s' ⟨⟨hr, rfl⟩, all⟩
    obtain ⟨z, t, rfl⟩ := all v List.mem_cons_self
    refine wpAny_bind (wpAny_of_eq (a := false) (by rfl) ?_)
    simp only [Bool.false_eq_true, if_false]
    exact wpAny_pure ⟨⟨rfl, rfl⟩, fun u hu => all u (List.mem_cons_of_mem _ hu)⟩
  · rintro ⟨r1, r2⟩ s' ⟨⟨hr, rfl⟩, _⟩
    simp only at hr
    subst hr
    exact wpAny_pure h
theorem q_byValue {k : List Str} {b : Addr} {Q : Bool → Shared → Prop} (x : QT P w s.heap k b) (h : ∀ v, Q v s) : wpAny (model P w) A (hashByValue 8 (.ref b)) Q E s := by
  have ty := x.typeIs
  obtain ⟨o, its, n, e1, _, e2, e3⟩ := x
  have texts := q_texts e3
  unfold hashByValue
  refine wpAny_bind (wpAny_specialOf ty F.slot_tuple_hash.lookup ?_)
  show wpAny _ _ (seqItems? (.ref b) >>= _) _ _ s
  refine wpAny_bind (wpAny_seqItems e1 e2 ?_)
  refine wpAny_bind ?_
  show wpAny _ _ (forIn its _ _) _ _ s
  rw [← Array.forIn_toList]
  cases hl : its.toList with
  | nil =>
    rw [List.forIn_nil]
    refine wpAny_pure ?_
    exact wpAny_pure (h true)
  | cons v vs =>
    rw [hl] at texts
    obtain ⟨z, t, rfl⟩ := texts v List.mem_cons_self
    rw [List.forIn_cons]
    refine wpAny_bind (wpAny_bind (wpAny_of_eq (a := plainKind (Value.str z t)) (hashByValue_scannable _ rfl) ?_))
    have e : plainKind (Value.str z t) = false := rfl
    rw [e]
    simp only [Bool.not_false, if_true]
    refine wpAny_pure (wpAny_pure ?_)
    exact wpAny_pure (h false)
theorem q_unseen {k : List Str} {b : Addr} {Q : Bool → Shared → Prop} (x : QT P w s.heap k b) {ys : List Value} (hy : ∀ y ∈ ys, ∃ k' c, y = Value.ref c ∧ QT P w s.heap k' c) (h : Q false s) : wpAny (model P w) A (searchCouldBeSeen (.ref b) ys) Q E s := by
  unfold searchCouldBeSeen
  refine wpAny_bind ?_
  refine wpAny_forIn_list _ (fun left r s' => (r.1 = none ∧ s' = s) ∧ ∀ y ∈ left, ∃ k' c, y = Value.ref c ∧ QT P w s.heap k' c) _ ?_ ?_ _ _ ⟨⟨rfl, rfl⟩, hy⟩
  · rintro v left r s' ⟨⟨hr, rfl⟩, all⟩
    obtain ⟨k', c, rfl, y⟩ := all v List.mem_cons_self
    have more : ∀ u ∈ left, ∃ k' c, u = Value.ref c ∧ QT P w s'.heap k' c := fun u hu => all u (List.mem_cons_of_mem _ hu)
    dsimp only
    by_cases hc : (b == c || (carriedByValue (.ref b) && carriedByValue (.ref c))) = true
    · exact wp_if_pos hc (wpAny_pure ⟨⟨rfl, rfl⟩, more⟩)
    · refine wp_if_neg hc (wpAny_bind (wpAny_eqIsQuiet_tuple x ?_))
      simp only [Bool.not_true, Bool.false_eq_true, if_false]
      refine wpAny_bind (wpAny_eqIsQuiet_tuple y ?_)
      simp only [Bool.not_true, Bool.false_eq_true, if_false]
      refine wpAny_bind (q_ofClass x ?_)
      simp only [Bool.false_eq_true, if_false]
      refine wpAny_bind (q_ofClass y ?_)
      simp only [Bool.false_eq_true, if_false]
      exact wpAny_pure ⟨⟨rfl, rfl⟩, more⟩
  · rintro ⟨r1, r2⟩ s' ⟨⟨hr, rfl⟩, _⟩
    simp only at hr
    subst hr
    exact wpAny_pure h
end
/-! ### the set -/
/-- the set at a holds the entries L, laid as es in the table t -/
structure QSet (P : Program) (w : World) (h : Heap) (a : Addr) (L : List QE) (es : Array (Int × Value)) (ep : Nat) (t : SetTable) : Prop where
  obj : ∃ o, h.get? a = some o ∧ o.ExactSet ∧ o.data = .set es ep t
  ents : es.toList = L.map (qRow P w)
  table : TabOk t (L.map fun q => qh P w q.2)
  uniq : (L.map (·.2)).Nodup
  elts : ∀ q ∈ L, QT P w h q.2 q.1
  ledT : w.params.followText "set-order" = true ∨ t.led = true
  roomT : L.length * 5 < t.mask * 3
  fewT : L.length < 64
section
variable {P : Program} {w : World} {A : Around} {E : Value → Shared → Prop} {s : Shared} {a : Addr} {L : List QE} {es : Array (Int × Value)} {ep : Nat} {t : SetTable}
theorem ents_size (h : es.toList = L.map (qRow P w)) : es.size = L.length := by
  rw [← Array.length_toList, h, List.length_map]
theorem ents_at (h : es.toList = L.map (qRow P w)) {i : Nat} {q : QE} (e : L[i]? = some q) : es[i]? = some (qh P w q.2, Value.ref q.1) := by
  rw [← Array.getElem?_toList, h, List.getElem?_map, e] <;> rfl
theorem fits_by (h1 : t.place.size = L.length) (h2 : t.dummies = #[]) (h3 : es.size = L.length) (h4 : L.length ≤ t.mask) : t.fits es.size = true := by
  unfold SetTable.fits SetTable.fill
  rw [h2, Bool.and_eq_true, beq_iff_eq, decide_eq_true_eq]
  show t.place.size = es.size ∧ t.place.size + 0 ≤ t.mask
  omega
theorem QSet.len (R : QSet P w s.heap a L es ep t) : t.place.size = L.length := by rw [R.table.sz, List.length_map]
theorem QSet.fit (R : QSet P w s.heap a L es ep t) : t.fits es.size = true := fits_by R.len R.table.dm (ents_size R.ents) (by have := R.roomT; omega)
/-- where the way to the hash h is after c steps -/
abbrev stand (m : Nat) (h : Int) (c : Nat) : SetTable.Probe := L2.nth m (runAt m (SetTable.bits h % (m + 1)) (SetTable.bits h)) c
theorem stand_more (m : Nat) (h : Int) (c q : Nat) : L2.nth m (stand m h c) q = stand m h (c + q) := (L2.nth_add m c _ q).symm
theorem stand_clean (m : Nat) (h : Int) : ∀ c, (stand m h c).dummy = none := by
  have key : ∀ (n : Nat) (p : SetTable.Probe), p.dummy = none → (L2.nth m p n).dummy = none := by
    intro n
    induction n with
    | zero => exact fun p e => e
    | succ n ih =>
      intro p e
      refine ih _ ?_
      unfold adv
      split <;> exact e
  exact fun c => key c _ rfl
/-- THE SEARCH from the c-th stand, the first empty slot at the K-th -/
theorem q_search (R : QSet P w s.heap a L es ep t) {x : Addr} {k : List Str} (hx : QT P w s.heap k x) (hu : A.units < cLine) {K : Nat} (hK1 : K < 10 * SetTable.turns t.mask) (hK2 : way t.mask (qh P w k) K ∉ t.place.toList) (hK3 : ∀ c, c < K → way t.mask (qh P w k) c ∈ t.place.toList)
    {Q : SetFound → Shared → Prop} (yes : k ∈ L.map (·.2) → Q (.there none) s) (no : k ∉ L.map (·.2) → Q (.free (way t.mask (qh P w k) K) false) s) :
    ∀ (fuel c : Nat) (from' : Option SetTable.Probe), from'.getD (t.probeStart (qh P w k)) = stand t.mask (qh P w k) c → c ≤ K → K < fuel + c → (∀ (i : Nat) q, L[i]? = some q → q.2 = k → ∃ c', c ≤ c' ∧ c' < K ∧ t.place.toList[i]? = some (way t.mask (qh P w k) c')) →
      wpAny (model P w) A (setSearchFrom a (.ref x) (qh P w k) true fuel from') Q E s := by
  obtain ⟨o, ho, hex, hd⟩ := R.obj
  have odd : ¬ t.gaveWay = true := by
    unfold SetTable.gaveWay
    rw [mask_odd R.table.mok]
    decide
  intro fuel
  induction fuel with
  | zero => intro c from' _ h1 h2; omega
  | succ fuel ih =>
    intro c from' hfrom hc hf ahead
    rw [setSearchFrom_succ]
    refine wpAny_bind (wpAny_setState_of ho hd R.fit ?_)
    dsimp only
    refine wp_if_neg odd ?_
    have wayc : ∀ q, (L2.nth t.mask (stand t.mask (qh P w k) c) q).j = way t.mask (qh P w k) (c + q) := fun q => congrArg SetTable.Probe.j (stand_more t.mask (qh P w k) c q)
    have hashes : ∀ (i : Nat) q, L[i]? = some q → (es[i]?.map (·.1)).getD 0 = qh P w q.2 := fun i q e => by rw [ents_at R.ents e] <;> rfl
    have toK : c + (K - c) = K := by omega
    rcases go_spec t R.table.ris R.table.dm (fun i => (es[i]?.map (·.1)).getD 0) (qh P w k) (10 * SetTable.turns t.mask) (K - c) (stand t.mask (qh P w k) c) (stand_clean _ _ c) (by omega) (fun q hq => by rw [wayc]; exact hK3 _ (by omega)) (by rw [wayc, toK]; exact hK2) with ⟨q, i, hq, hi, hh, before, met⟩ | ⟨none', met⟩
    · -- an entry of this hash
      rw [wayc] at hi
      rw [wayc, stand_more] at met
      have met' : t.probe (fun i => (es[i]?.map (·.1)).getD 0) (qh P w k) (from'.getD (t.probeStart (qh P w k))) = some (.candidate (way t.mask (qh P w k) (c + q)) i (stand t.mask (qh P w k) (c + (q + 1)))) := by
        rw [hfrom]
        exact met
      rw [met']
      dsimp only
      have il : i < L.length := by
        have h1 := (List.getElem?_eq_some_iff.mp hi).1
        rw [Array.length_toList, R.len] at h1
        exact h1
      obtain ⟨p, hp⟩ : ∃ p, L[i]? = some p := ⟨L[i], List.getElem?_eq_getElem il⟩
      have pm : p ∈ L := List.mem_of_getElem? hp
      have slotI : t.slot (way t.mask (qh P w k) (c + q)) = .live i := slot_live R.table.ris hi
      have judge : wpAny (model P w) A (searchRest a (.ref x) (qh P w k) true fuel es t (way t.mask (qh P w k) (c + q)) i (stand t.mask (qh P w k) (c + (q + 1)))) Q E s := by
        unfold searchRest
        rw [ents_at R.ents hp]
        dsimp only
        refine wpAny_bind (wpAny_holding (wpAny_eqBool_tuple hu (R.elts p pm) hx ?_))
        refine wpAny_bind (wpAny_setState_of ho hd R.fit ?_)
        dsimp only
        by_cases same : p.2 = k
        · exact wp_if_pos (by simp [same]) (wpAny_pure (yes (List.mem_map.mpr ⟨p, pm, same⟩)))
        · refine wp_if_neg (by simp [same]) ?_
          rw [sameMem]
          dsimp only
          simp only [if_true, slotI, ents_at R.ents hp]
          refine wpAny_bind (wpAny_isSame_ref_self (wpAny_bind (wpAny_pure ?_)))
          simp only [if_true]
          refine wp_if_neg (by simp [same]) (ih (c + (q + 1)) _ rfl (by omega) (by omega) fun i0 q0 e0 k0 => ?_)
          obtain ⟨c', a1, a2, a3⟩ := ahead i0 q0 e0 k0
          refine ⟨c', ?_, a2, a3⟩
          rcases Nat.lt_trichotomy c' (c + q) with z | z | z
          · exact absurd ((hashes i0 q0 e0).trans (congrArg (qh P w) k0)) (before (c' - c) i0 (by omega) (by rw [wayc, show c + (c' - c) = c' by omega]; exact a3))
          · rw [z] at a3
            have s0 := slot_live R.table.ris a3
            rw [slotI] at s0
            injection s0 with s0
            rw [← s0, hp] at e0
            exact absurd ((congrArg Prod.snd (Option.some.inj e0)).trans k0) same
          · omega
      by_cases led : t.led = true
      · exact wp_if_neg (by simp [led]) judge
      · refine wp_if_pos (by simp [led]) (wpAny_bind (q_unseen hx (fun y hy => ?_) ?_))
        · obtain ⟨e, he, ee⟩ := List.mem_map.mp hy
          have he2 : e ∈ es.toList := by
            have : e ∈ es ∧ e.1 = qh P w k := by simpa using he
            simpa using this.1
          rw [R.ents] at he2
          obtain ⟨p2, hp2, e2⟩ := List.mem_map.mp he2
          exact ⟨p2.2, p2.1, by rw [← ee, ← e2] <;> rfl, R.elts p2 hp2⟩
        · exact wp_if_neg (by decide) judge
    · -- the empty slot
      rw [wayc, toK] at met
      have met' : t.probe (fun i => (es[i]?.map (·.1)).getD 0) (qh P w k) (from'.getD (t.probeStart (qh P w k))) = some (.empty (way t.mask (qh P w k) K) none) := by
        rw [hfrom]
        exact met
      rw [met']
      dsimp only
      refine wpAny_pure (no fun hm => ?_)
      obtain ⟨p0, m0, k0⟩ := List.mem_map.mp hm
      obtain ⟨i0, hi0, e0⟩ := List.getElem_of_mem m0
      have e00 : L[i0]? = some p0 := by rw [List.getElem?_eq_getElem hi0, e0]
      obtain ⟨c', a1, a2, a3⟩ := ahead i0 p0 e00 k0
      exact none' (c' - c) i0 (by omega) (by rw [wayc, show c + (c' - c) = c' by omega]; exact a3) ((hashes i0 p0 e00).trans (congrArg (qh P w) k0))
theorem q_find (R : QSet P w s.heap a L es ep t) {x : Addr} {k : List Str} (hx : QT P w s.heap k x) (hu : A.units < cLine) {Q : SetFound → Shared → Prop} (yes : k ∈ L.map (·.2) → Q (.there none) s)
    (no : ∀ K, k ∉ L.map (·.2) → way t.mask (qh P w k) K ∉ t.place.toList → (∀ c, c < K → way t.mask (qh P w k) c ∈ t.place.toList) → Q (.free (way t.mask (qh P w k) K) false) s) : wpAny (model P w) A (setSearch a (.ref x) (qh P w k) true) Q E s := by
  have room := R.roomT
  obtain ⟨K, k1, k2, k3⟩ := R.table.first (by rw [List.length_map]; omega) (qh P w k)
  have small : 10 * SetTable.turns t.mask ≤ 1420 := by
    unfold SetTable.turns
    rcases R.table.mok with e | e | e <;> omega
  unfold setSearch
  refine q_search R hx hu k1 k2 k3 yes (fun z => no K z k2 k3) 100000 0 none rfl (Nat.zero_le _) (by omega) fun i q e ek => ?_
  have hi : (L.map fun q => qh P w q.2)[i]? = some (qh P w k) := by rw [List.getElem?_map, e, ← ek] <;> rfl
  have il : i < t.place.toList.length := by
    have h1 := (List.getElem?_eq_some_iff.mp e).1
    rw [Array.length_toList, R.len]
    exact h1
  have hj := List.getElem?_eq_getElem il
  obtain ⟨c, hc, ec⟩ := R.table.before k2 hi hj
  exact ⟨c, Nat.zero_le _, hc, by rw [hj, ec]⟩
end
end Rb
set_option Elab.async false
set_option linter.all false
set_option maxRecDepth 100000
set_option maxHeartbeats 4000000
/-! Sets of tuples of texts: adding; set(list); sorted(set). -/
namespace Rb
open PySem PySem.Spec PyProof.Rows L2
section
variable {P : Program} {w : World} {A : Around} {E : Value → Shared → Prop} {s : Shared}
/-- an element is another object than the set -/
theorem q_far {h h' : Heap} {k : List Str} {a b : Addr} {o : Obj} {es : Array (Int × Value)} {ep : Nat} {t : SetTable} (x : QT P w h k b) (ho : h.get? a = some o) (hd : o.data = .set es ep t) (sb : Heap.SameBut a h h') : QT P w h' k b := by
  obtain ⟨u, its, n, e1, e2, e3, e4⟩ := x
  refine ⟨u, its, n, (sb.2 b fun z => ?_).trans e1, e2, e3, e4⟩
  rw [z, ho] at e1
  cases e1
  rw [hd] at e3
  cases e3
theorem q_keep {h h' : Heap} {k : List Str} {b : Addr} (x : QT P w h k b) (hk : ∀ c o, h.get? c = some o → h'.get? c = some o) : QT P w h' k b := by
  obtain ⟨u, its, n, e1, r⟩ := x
  exact ⟨u, its, n, hk b u e1, r⟩
theorem ins_perm {α : Type} (l : List α) (p : Nat) (x : α) : (l.take p ++ x :: l.drop p).Perm (x :: l) := by
  have h : (l.take p ++ x :: l.drop p).Perm (x :: (l.take p ++ l.drop p)) := List.perm_middle
  rwa [List.take_append_drop] at h
theorem filter_range {α : Type} (l : List α) : ∀ n, n ≤ l.length → (List.range n).filterMap (fun i => l[i]?) = l.take n
  | 0, _ => rfl
  | n + 1, h => by
    rw [List.range_succ, List.filterMap_append, filter_range l n (Nat.le_of_succ_le h), List.take_add_one, List.filterMap_cons_some (List.getElem?_eq_getElem h), List.getElem?_eq_getElem h]
    rfl
/-- the entries in another order -/
theorem q_order (L : List QE) (es : Array (Int × Value)) (order : Array Nat) (hr : es.toList = L.map (qRow P w)) (hp : order.toList.Perm (List.range L.length)) :
    ∃ M2 : List QE, (order.filterMap (es[·]?)).toList = M2.map (qRow P w) ∧ M2.Perm L ∧ (M2.map fun q => qh P w q.2) = order.toList.map fun i => (es.map (·.1)).getD i 0 := by
  have hs := ents_size hr
  have part : ∀ is : List Nat, (∀ i ∈ is, i < L.length) → is.filterMap (fun i => es[i]?) = (is.filterMap fun i => L[i]?).map (qRow P w) ∧ ((is.filterMap fun i => L[i]?).map fun q => qh P w q.2) = is.map fun i => (es.map (·.1)).getD i 0 := by
    intro is
    induction is with
    | nil => intro _; exact ⟨rfl, rfl⟩
    | cons i is ih =>
      intro hi
      obtain ⟨i1, i2⟩ := ih fun j hj => hi j (List.mem_cons_of_mem _ hj)
      have lt := hi i List.mem_cons_self
      have eL : L[i]? = some L[i] := List.getElem?_eq_getElem lt
      have eE := ents_at hr eL
      rw [List.filterMap_cons_some eL, List.filterMap_cons_some eE, i1, List.map_cons, List.map_cons, i2, List.map_cons]
      refine ⟨rfl, ?_⟩
      have e5 : (es.map (·.1))[i]? = some (qh P w (L[i]).2) := by rw [Array.getElem?_map, eE] <;> rfl
      rw [Array.getD_eq_getD_getElem?, e5] <;> rfl
  obtain ⟨p1, p2⟩ := part order.toList fun i hi => List.mem_range.mp (hp.mem_iff.mp hi)
  refine ⟨order.toList.filterMap fun i => L[i]?, by first | (rw [Array.toList_filterMap]; exact p1) | simpa using p1, ?_, p2⟩
  have := hp.filterMap (fun i => L[i]?)
  rwa [filter_range L L.length (Nat.le_refl _), List.take_length] at this
variable {a : Addr} {L : List QE} {es : Array (Int × Value)} {ep : Nat} {t : SetTable}
/-- the table is laid anew, larger -/
theorem q_relay {o : Obj} (ho : s.heap.get? a = some o) (hex : o.ExactSet) (hd : o.data = .set es ep t) (hents : es.toList = L.map (qRow P w)) (hsz : t.place.size = L.length) (hdm : t.dummies = #[]) (hfl : L.length ≤ t.mask) (uniq : (L.map (·.2)).Nodup) (elts : ∀ q ∈ L, QT P w s.heap q.2 q.1)
    (led : w.params.followText "set-order" = true ∨ t.led = true) (few : L.length < 64) {wanted M : Nat} (hw : SetTable.sizeAbove wanted - 1 = M) (hM : MaskOk M) (hw2 : SetTable.sizeAbove wanted ≤ 128) (hn : L.length * 5 < M * 3) {Q : Unit → Shared → Prop}
    (hQ : ∀ h' L' es' ep' t', Heap.SameBut a s.heap h' → QSet P w h' a L' es' ep' t' → L'.Perm L → Q () { s with heap := h' }) : wpAny (model P w) A (setRelay a wanted) Q E s := by
  have hsl := ents_size hents
  obtain ⟨t', order, e1, e2, T, e3, e4, e5, e6⟩ := relaid_ok t (hs := es.map (·.1)) (wanted := wanted) hw hM (by rw [Array.size_map, hsl]; omega)
  rw [Array.size_map, hsl] at e2
  obtain ⟨M2, r1, r2, r3⟩ := q_order L es order hents e2
  rw [← r3] at T
  have hs2 := ents_size r1
  rw [r2.length_eq] at hs2
  rw [setRelay_eq]
  refine wpAny_bind (wpAny_setState_of ho hd (fits_by hsz hdm hsl hfl) ?_)
  dsimp only
  refine wp_if_neg (by rw [sizeLine_eq]; omega) ?_
  rw [e1]
  dsimp only
  refine wpAny_bind (wp_if_neg (by rw [hs2, hsl]; simp) (wpAny_pure ?_))
  dsimp only
  refine wpAny_storeSet_of ho hd ?_ (by rw [hs2, sizeLine_eq]; omega)
  have sb : Heap.SameBut a s.heap (s.heap.update a (Obj.putSet (order.filterMap (es[·]?)) t')) := Heap.SameBut.update ..
  refine hQ _ M2 _ (ep + 1) t' sb ⟨⟨_, store_at ho hd, ⟨hex.1, hex.2.1, hex.2.2⟩, rfl⟩, r1, T, (r2.map (·.2)).nodup_iff.mpr uniq, fun q hq => q_far (elts q (r2.mem_iff.mp hq)) ho hd sb, by rw [e4]; exact led, by rw [r2.length_eq, e3]; exact hn, by rw [r2.length_eq]; exact few⟩ r2
/-- ADDING -/
theorem q_add (R : QSet P w s.heap a L es ep t) {x : Addr} {k : List Str} (hx : QT P w s.heap k x) (hu : A.units < cLine) (hfew : L.length + 1 < 64) {Q : Bool → Shared → Prop}
    (hQ : ∀ b h' L' es' ep' t', Heap.SameBut a s.heap h' → QSet P w h' a L' es' ep' t' → (k ∈ L.map (·.2) → L' = L) → (k ∉ L.map (·.2) → L'.Perm ((x, k) :: L)) → Q b { s with heap := h' }) : wpAny (model P w) A (setAddHashed a (.ref x) (qh P w k)) Q E s := by
  obtain ⟨o, ho, hex, hd⟩ := R.obj
  have hsl := ents_size R.ents
  have room := R.roomT
  unfold setAddHashed
  refine wpAny_holding ?_
  rw [show (100000 : Nat) = 99999 + 1 from rfl, setAddHashedIn_succ]
  refine wpAny_bind (wpAny_setState_of ho hd R.fit ?_)
  dsimp only
  refine wp_if_neg (by simp [byScan, Value.scannable]) ?_
  refine wpAny_bind (q_find R hx hu (fun hm => ?_) fun K hm k2 k3 => ?_)
  · exact wpAny_pure (hQ false s.heap L es ep t (Heap.SameBut.refl a s.heap) R (fun _ => rfl) fun z => absurd hm z)
  dsimp only
  refine wpAny_bind (wpAny_setState_of ho hd R.fit ?_)
  dsimp only
  obtain ⟨q1, q2, q3, q4, q5, q6, q7, q8, q9⟩ := R.table.put k2 k3
  have hents1 : (SetTable.insertAt es (SetTable.below t.place (way t.mask (qh P w k) K)) (qh P w k, Value.ref x)).toList = (L.take (SetTable.below t.place (way t.mask (qh P w k) K)) ++ (x, k) :: L.drop (SetTable.below t.place (way t.mask (qh P w k) K))).map (qRow P w) := by
    rw [SetTable.toList_insertAt, R.ents, List.map_append, List.map_cons, List.map_take, List.map_drop] <;> rfl
  have hhash : (L.take (SetTable.below t.place (way t.mask (qh P w k) K)) ++ (x, k) :: L.drop (SetTable.below t.place (way t.mask (qh P w k) K))).map (fun q => qh P w q.2) = (L.map fun q => qh P w q.2).take (SetTable.below t.place (way t.mask (qh P w k) K)) ++ qh P w k :: (L.map fun q => qh P w q.2).drop (SetTable.below t.place (way t.mask (qh P w k) K)) := by
    rw [List.map_append, List.map_cons, List.map_take, List.map_drop]
  rw [← hhash] at q3
  have pm := ins_perm L (SetTable.below t.place (way t.mask (qh P w k) K)) (x, k)
  generalize t.put (way t.mask (qh P w k) K) = pt at q1 q3 q4 q5 q6 q7 q8 q9 ⊢
  obtain ⟨t1, p1⟩ := pt
  dsimp only at q1 q3 q4 q5 q6 q7 q8 q9 ⊢
  subst q1
  generalize SetTable.below t.place (way t.mask (qh P w k) K) = p at q2 q3 hents1 pm hhash ⊢
  generalize L.take p ++ (x, k) :: L.drop p = L1 at pm q3 hents1 hhash
  generalize SetTable.insertAt es p (qh P w k, Value.ref x) = es1 at hents1 ⊢
  have len1 : L1.length = L.length + 1 := pm.length_eq
  have hes1 : es1.size = L.length + 1 := by rw [ents_size hents1, len1]
  have uniq1 : (L1.map (·.2)).Nodup := (pm.map (·.2)).nodup_iff.mpr (by rw [List.map_cons]; exact List.nodup_cons.mpr ⟨hm, R.uniq⟩)
  -- whatever is said of the table's plainness
  have rest : ∀ t2 : SetTable, t2.place = t1.place → t2.dummies = t1.dummies → t2.mask = t1.mask → t2.led = t1.led → t2.fill = t1.fill → t2.tooFull = t1.tooFull → TabOk t2 (L1.map fun q => qh P w q.2) →
      wpAny (model P w) A (do
        storeSet a es1 t2
        if (!false && t2.tooFull) = true then do
          setRelay a (SetTable.grown (es.size + 1))
          pure true
        else pure true) Q E s := by
    intro t2 b1 b2 b3 b4 b5 b6 T2
    refine wpAny_bind (wpAny_storeSet_of ho hd ?_ (by rw [hes1, sizeLine_eq]; omega))
    have sb : Heap.SameBut a s.heap (s.heap.update a (Obj.putSet es1 t2)) := Heap.SameBut.update ..
    have ho1 := store_at (es' := es1) (t' := t2) ho hd
    generalize s.heap.update a (Obj.putSet es1 t2) = h1 at sb ho1 ⊢
    have elts1 : ∀ q ∈ L1, QT P w h1 q.2 q.1 := fun q hq => by
      rcases List.mem_cons.mp (pm.mem_iff.mp hq) with e | hq
      · rw [e]; exact q_far hx ho hd sb
      · exact q_far (R.elts q hq) ho hd sb
    have led2 : w.params.followText "set-order" = true ∨ t2.led = true := by rw [b4, q5]; exact R.ledT
    have fill2 : t2.fill = L.length + 1 := by rw [b5, q9, List.length_map]
    have m2 : t2.mask = t.mask := b3.trans q4
    by_cases hf : t2.tooFull = true
    · refine wp_if_pos (by simp [hf]) (wpAny_bind ?_)
      have full : (L.length + 1) * 5 ≥ t2.mask * 3 := by
        have h := hf
        unfold SetTable.tooFull at h
        rw [decide_eq_true_eq, fill2] at h
        exact h
      rw [m2] at full
      rw [hsl]
      have sz2 : t2.place.size = L1.length := by rw [T2.sz, List.length_map]
      have two : (t.mask = 7 ∧ L.length = 4) ∨ (t.mask = 31 ∧ L.length = 18) := by
        rcases R.table.mok with e | e | e
        · rw [e] at full room; exact .inl ⟨e, by omega⟩
        · rw [e] at full room; exact .inr ⟨e, by omega⟩
        · rw [e] at full room; omega
      have grow : ∀ M, SetTable.sizeAbove (SetTable.grown (L.length + 1)) - 1 = M → MaskOk M → SetTable.sizeAbove (SetTable.grown (L.length + 1)) ≤ 128 → (L.length + 1) * 5 < M * 3 →
          wpAny (model P w) A (setRelay a (SetTable.grown (L.length + 1))) (fun _ s' => wpAny (model P w) A (pure true) Q E s') E { s with heap := h1 } := fun M a1 a2 a3 a4 =>
        q_relay (s := { s with heap := h1 }) ho1 ⟨hex.1, hex.2.1, hex.2.2⟩ rfl hents1 sz2 T2.dm (by rw [len1, m2]; rcases two with ⟨e, e2⟩ | ⟨e, e2⟩ <;> omega) uniq1 elts1 led2 (by rw [len1]; exact hfew) a1 a2 a3 (by rw [len1]; exact a4) fun h2 M2 es2 ep2 t2 sb2 R2 pm2 =>
          wpAny_pure (hQ true h2 M2 es2 ep2 t2 (sb.trans sb2) R2 (fun z => absurd z hm) fun _ => pm2.trans pm)
      rcases two with ⟨_, e2⟩ | ⟨_, e2⟩
      · exact grow 31 (by rw [e2, size_20]) (.inr (.inl rfl)) (by rw [e2, size_20]; decide) (by omega)
      · exact grow 127 (by rw [e2, size_76]) (.inr (.inr rfl)) (by rw [e2, size_76]; decide) (by omega)
    · refine wp_if_neg (by simp [hf]) (wpAny_pure (hQ true h1 L1 es1 (ep + 1) t2 sb ⟨⟨_, ho1, ⟨hex.1, hex.2.1, hex.2.2⟩, rfl⟩, hents1, T2, uniq1, elts1, led2, ?_, by rw [len1]; exact hfew⟩ (fun z => absurd z hm) fun _ => pm))
      unfold SetTable.tooFull at hf
      rw [decide_eq_true_eq, fill2] at hf
      rw [len1]
      omega
  have done : ∀ v : Bool, wpAny (model P w) A (do
        storeSet a es1 (if v = true then t1 else { t1 with plain := false })
        if (!false && (if v = true then t1 else { t1 with plain := false }).tooFull) = true then do
          setRelay a (SetTable.grown (es.size + 1))
          pure true
        else pure true) Q E s := fun v => by
    cases v with
    | true => exact rest t1 rfl rfl rfl rfl rfl rfl q3
    | false => exact rest { t1 with plain := false } rfl rfl rfl rfl rfl rfl ⟨q3.ris, q3.dm, q3.sz, q3.mok, q3.bd, q3.reach⟩
  by_cases hp : t1.plain = true
  · first
      | exact wp_if_pos hp (wpAny_bind (q_byValue hx fun v => done v))
      | exact wpAny_bind (wp_if_pos hp (q_byValue hx fun v => done v))
  · first
      | exact wp_if_neg hp (wpAny_bind (wpAny_pure (done true)))
      | exact wpAny_bind (wp_if_neg hp (wpAny_pure (done true)))
end
end Rb
set_option Elab.async false
set_option linter.all false
set_option maxRecDepth 100000
set_option maxHeartbeats 4000000
/-! set(list of tuples of texts); sorted of such a set; the order of data. -/
namespace Rb
open PySem PySem.Spec PyProof.Rows L2
/-! ### the order -/
section
open PySem.W
theorem dataLe_anti {β : Type} {k : β → D} {a b : β} (h1 : dataLe false k a b = true) (h2 : dataLe false k b a = true) : keyToks (k a) = keyToks (k b) := by
  have e1 : (listOrd itemOrd).blt (keyToks (k b)) (keyToks (k a)) = false := by
    have : (!(listOrd itemOrd).blt (keyToks (k b)) (keyToks (k a))) = true := h1
    simpa using this
  have e2 : (listOrd itemOrd).blt (keyToks (k a)) (keyToks (k b)) = false := by
    have : (!(listOrd itemOrd).blt (keyToks (k a)) (keyToks (k b))) = true := h2
    simpa using this
  exact (listOrd itemOrd).total _ _ e2 e1
theorem toks_strs : ∀ {xs ys : List Str}, keyToksAll (xs.map .str) = keyToksAll (ys.map .str) → xs = ys
  | [], [], _ => rfl
  | [], y :: ys, h => by simp [keyToksAll] at h
  | x :: xs, [], h => by simp [keyToksAll] at h
  | x :: xs, y :: ys, h => by
    rw [List.map_cons, List.map_cons, keyToksAll, keyToksAll, keyToks, keyToks] at h
    injection h with _ h
    injection h with h1 h2
    injection h1 with h1
    rw [str_of_cps h1, toks_strs h2]
theorem inj_str {x y : Str} (h : keyToks (.str x) = keyToks (.str y)) : x = y := by
  rw [keyToks, keyToks] at h
  injection h with h _
  injection h with h
  exact str_of_cps h
theorem inj_Ss {x y : List Str} (h : keyToks (eSs x) = keyToks (eSs y)) : x = y := by
  unfold eSs at h
  rw [keyToks, keyToks] at h
  exact toks_strs h
theorem inj_U {x y : Fact} (h : keyToks (eU x) = keyToks (eU y)) : x = y := by
  have h2 : [x.1, x.2] = [y.1, y.2] := inj_Ss h
  injection h2 with h1 h2
  injection h2 with h2 _
  exact Prod.ext h1 h2
/-- the sorted list of l by the data k -/
abbrev sortBy {β : Type} (k : β → D) (l : List β) : List β := l.mergeSort (dataLe false k)
theorem sort_pw {β : Type} (k : β → D) (l : List β) : (sortBy k l).Pairwise fun a b => dataLe false k a b = true := sort_pairwise (sortLe_total _ _ _) l
theorem sort_perm {β : Type} (k : β → D) (l : List β) : (sortBy k l).Perm l := List.mergeSort_perm l _
theorem sort_same {β : Type} {k : β → D} (inj : ∀ x y, keyToks (k x) = keyToks (k y) → x = y) {l m : List β} (h : l.Perm m) : sortBy k l = sortBy k m :=
  List.Perm.eq_of_pairwise (le := fun a b => dataLe false k a b = true) (fun a b _ _ h1 h2 => inj a b (dataLe_anti h1 h2)) (sort_pw k l) (sort_pw k m) (((sort_perm k l).trans h).trans (sort_perm k m).symm)
theorem sort_mem {β : Type} {k : β → D} {l : List β} {x : β} : x ∈ sortBy k l ↔ x ∈ l := (sort_perm k l).mem_iff
theorem sort_set {β : Type} [DecidableEq β] {k : β → D} (inj : ∀ x y, keyToks (k x) = keyToks (k y) → x = y) {l m : List β} (h1 : l.Nodup) (h2 : m.Nodup) (h : ∀ x, x ∈ l ↔ x ∈ m) : sortBy k l = sortBy k m := sort_same inj ((List.perm_ext_iff_of_nodup h1 h2).mpr h)
theorem alike_strs : ∀ xs ys : List Str, alikeAll (xs.map .str) (ys.map .str) = true
  | [], _ => by simp [alikeAll]
  | _ :: _, [] => by simp [alikeAll]
  | x :: xs, y :: ys => by
    rw [List.map_cons, List.map_cons, alikeAll, alike_strs xs ys]
    simp [alike]
theorem alike_Ss (xs ys : List Str) : alike (eSs xs) (eSs ys) = true := by
  unfold eSs
  rw [alike]
  exact alike_strs xs ys
end
section
variable {P : Program} {w : World} {A : Around} {E : Value → Shared → Prop} {s : Shared}
/-! ### set(list) -/
/-- what the set has after the first i items -/
structure QGot (ks : List QE) (i : Nat) (L : List QE) : Prop where
  sub : ∀ q ∈ L, q ∈ ks.take i
  all : ∀ q ∈ ks.take i, q.2 ∈ L.map (·.2)
  len : L.length ≤ i
theorem QGot.next {ks L L' : List QE} {i : Nat} {x : QE} (g : QGot ks i L) (e : ks[i]? = some x) (h1 : x.2 ∈ L.map (·.2) → L' = L) (h2 : x.2 ∉ L.map (·.2) → L'.Perm (x :: L)) : QGot ks (i + 1) L' := by
  have tk : ks.take (i + 1) = ks.take i ++ [x] := by rw [List.take_add_one, e] <;> rfl
  by_cases hm : x.2 ∈ L.map (·.2)
  · rw [h1 hm]
    refine ⟨fun q hq => by rw [tk]; exact List.mem_append_left _ (g.sub q hq), fun q hq => ?_, Nat.le_succ_of_le g.len⟩
    rw [tk] at hq
    rcases List.mem_append.mp hq with hq | hq
    · exact g.all q hq
    · rw [List.mem_singleton.mp hq]; exact hm
  · have pm := h2 hm
    refine ⟨fun q hq => ?_, fun q hq => ?_, by rw [pm.length_eq]; exact Nat.succ_le_succ g.len⟩
    · rw [tk]
      rcases List.mem_cons.mp (pm.mem_iff.mp hq) with z | z
      · exact List.mem_append_right _ (List.mem_singleton.mpr z)
      · exact List.mem_append_left _ (g.sub q z)
    · rw [(pm.map (·.2)).mem_iff, List.map_cons]
      rw [tk] at hq
      rcases List.mem_append.mp hq with hq | hq
      · exact List.mem_cons_of_mem _ (g.all q hq)
      · rw [List.mem_singleton.mp hq]; exact List.mem_cons_self
theorem q_carry {h h' : Heap} {a : Addr} {L : List QE} {es : Array (Int × Value)} {ep : Nat} {t : SetTable} (R : QSet P w h a L es ep t) (ha : ∀ o, h.get? a = some o → h'.get? a = some o) (ht : ∀ q ∈ L, QT P w h' q.2 q.1) : QSet P w h' a L es ep t := by
  obtain ⟨o, ho, r⟩ := R.obj
  exact ⟨⟨o, ha o ho, r⟩, R.ents, R.table, R.uniq, ht, R.ledT, R.roomT, R.fewT⟩
abbrev newSetObj (w : World) : Obj := { cls := .type "set", dict := none, data := .set #[] 0 (.fresh 0 0 (!w.params.followText "set-order")) }
theorem led_new (w : World) : w.params.followText "set-order" = true ∨ (!w.params.followText "set-order") = true := by
  cases w.params.followText "set-order"
  · exact .inr rfl
  · exact .inl rfl
theorem q_fresh {h : Heap} {a : Addr} (ho : h.get? a = some (newSetObj w)) : QSet P w h a [] #[] 0 (.fresh 0 0 (!w.params.followText "set-order")) :=
  ⟨⟨_, ho, ⟨rfl, rfl, rfl⟩, rfl⟩, rfl, ⟨List.Pairwise.nil, rfl, rfl, .inl rfl, fun x hx => (by cases hx), fun i h j hi => (by simp at hi)⟩, List.nodup_nil, fun q hq => (by cases hq), led_new w, (by decide : 0 * 5 < 7 * 3), (by decide : 0 < 64)⟩
/-- set.update's loop -/
theorem q_loop {I : Addr} {fp wr : List Addr} {Gn : Array GenState → Array GenState → Prop} {n : Nat} {Pv : Nat → Value → Prop} {St : Nat → Shared → Prop} {R : Result → Shared → Prop} (W : WalksS P w A.in1 I fp wr Gn n Pv St) (S : Addr) (hSf : S ∉ fp) (ks : List QE) (hn : n = ks.length) (hfew : ks.length < 64)
    (hval : ∀ i v, Pv i v → ∃ q, ks[i]? = some q ∧ v = .ref q.1) (h0 : Heap) (hk : ∀ q ∈ ks, QT P w h0 q.2 q.1) (hS0 : h0.get? S = none) (hw0 : ∀ b ∈ wr, h0.get? b = none) (hu : A.in1.units < cLine) :
    ∀ (k i : Nat) (s : Shared), n - i = k → i ≤ n → St i s → (∀ b o, h0.get? b = some o → s.heap.get? b = some o) → (∃ L es ep t, QSet P w s.heap S L es ep t ∧ QGot ks i L) →
      (∀ s' L es ep t, Moved (S :: wr) Gn s s' → QSet P w s'.heap S L es ep t → QGot ks n L → (∀ b o, h0.get? b = some o → s'.heap.get? b = some o) → R (.ok (.ret .none)) s') →
      codeAny (model P w) A (.builtin "set.update.loop" ⟨[.ref S, .ref I], []⟩) R s := by
  have hSw : S ∉ wr := fun z => hSf (W.sub _ z)
  have wider : ∀ b ∈ wr, b ∈ S :: wr := fun b => List.mem_cons_of_mem _
  have still : ∀ {s s' : Shared}, Moved wr Gn s s' → (∀ b o, h0.get? b = some o → s.heap.get? b = some o) → ∀ b o, h0.get? b = some o → s'.heap.get? b = some o := fun mv old b o e => mv.heap b o (fun z => by rw [hw0 b z] at e; cases e) (old b o e)
  intro k
  induction k with
  | zero =>
    intro i s hki hi hst old ⟨L, es, ep, t, hS, g⟩ hR
    obtain rfl : i = n := by omega
    refine codeAny_builtin F.entry_set_update_loop ?_
    rw [Around.under_plainId F.plain_set_update_loop _]
    show wpAny _ A.in1 (pyNext (.ref I) >>= _) _ _ s
    refine wpAny_bind (W.done s _ _ hst fun s' mv => ?_)
    show wpAny _ A.in1 (ret Value.none) _ _ s'
    have old' := still mv old
    exact wpAny_pure (hR s' L es ep t (mv.mono wider) (q_carry hS (fun o e => mv.heap S o hSw e) fun q hq => q_keep (hk q (List.mem_of_mem_take (g.sub q hq))) old') g old')
  | succ k ih =>
    intro i s hki hi hst old ⟨L, es, ep, t, hS, g⟩ hR
    have lt : i < n := by omega
    refine codeAny_builtin F.entry_set_update_loop ?_
    rw [Around.under_plainId F.plain_set_update_loop _]
    show wpAny _ A.in1 (pyNext (.ref I) >>= _) _ _ s
    refine wpAny_bind (W.item i s _ _ lt hst fun v s' hv hst' mv => ?_)
    obtain ⟨q, hq, rfl⟩ := hval i v hv
    have old' := still mv old
    have hS' : QSet P w s'.heap S L es ep t := q_carry hS (fun o e => mv.heap S o hSw e) fun p hp => q_keep (hk p (List.mem_of_mem_take (g.sub p hp))) old'
    have hx : QT P w s'.heap q.2 q.1 := q_keep (hk q (List.mem_of_getElem? hq)) old'
    show wpAny _ A.in1 (holding [Value.ref q.1] (setAdd S (.ref q.1)) >>= _) _ _ s'
    refine wpAny_bind (wpAny_holding ?_)
    unfold setAdd
    refine wpAny_holding (wpAny_bind (wpAny_pyHash_tuple hu hx ?_))
    refine q_add (s := { s' with toks := s'.toks + (q.2.length + 1) }) hS' hx hu (by have := g.len; omega) fun b h' L' es' ep' t' sb hS2 c1 c2 => ?_
    have old2 : ∀ b o, h0.get? b = some o → h'.get? b = some o := fun b o e => (sb.2 b fun z => by rw [z, hS0] at e; cases e).trans (old' b o e)
    refine wpAny_pure ⟨plainId_quiet F.plain_set_update_loop _, ih (i + 1) _ (by omega) lt (W.frame _ s' _ _ hst' (Nat.le_add_right _ _) fun b hb o e => ?_) old2 ⟨L', es', ep', t', hS2, g.next hq c1 c2⟩ fun s3 L3 es3 ep3 t3 mv3 hS3 g3 old3 => ?_⟩
    · exact (sb.2 b fun z => hSf (z ▸ hb)).trans e
    · refine hR s3 L3 es3 ep3 t3 (Moved.trans W.gtrans ((mv.mono wider).then_heap (Nat.le_add_right _ _) fun b o hb e => ?_) mv3) hS3 g3 old3
      exact (sb.2 b fun z => hb (z ▸ List.mem_cons_self)).trans e
end
end Rb
set_option Elab.async false
set_option linter.all false
set_option maxRecDepth 100000
set_option maxHeartbeats 8000000
/-! set(list of tuples of texts) and sorted of it, as calls. -/
namespace Rb
open PySem PySem.Spec PyProof.Rows L2
section
variable {P : Program} {w : World} {A : Around} {E : Value → Shared → Prop} {s : Shared}
theorem none_past {h : Heap} {b : Addr} (hb : h.objs.size ≤ b) : h.get? b = none := by
  cases e : h.get? b with
  | none => rfl
  | some o => exact absurd (Heap.lt_size e) (Nat.not_lt.mpr hb)
/-- set(xs) -/
theorem q_call {l : Addr} {items : Array Value} (ks : List QE) {Q : Value → Shared → Prop} (hh : A.handled = none) (hl : s.heap.IsList l items) (hit : items.toList = ks.map fun q => Value.ref q.1) (hk : ∀ q ∈ ks, QT P w s.heap q.2 q.1) (hfew : ks.length < 64) (hu : A.units + 3 < cLine)
    (h : ∀ (h' : Heap) (tk : Nat) L es ep t, QSet P w h' s.heap.objs.size L es ep t → QGot ks ks.length L → (∀ b o, s.heap.get? b = some o → h'.get? b = some o) → Q (.ref s.heap.objs.size) { s with heap := h', toks := tk }) :
    wpAny (model P w) A (call (.type "set") [.ref l]) Q E s := by
  have hsz : items.size = ks.length := by rw [← Array.length_toList, hit, List.length_map]
  obtain ⟨c, tl, hmro⟩ := F.called_set.mro
  have hmade := F.called_set.made
  have hsub := F.called_set.sub
  refine wpAny_call (codeAny_of_tree ?_)
  show wpAny _ _ (callAny (.type "set") _) _ _ _
  refine wpAny_pure ⟨Code.quiet_builtin _ (by decide +kernel), codeAny_builtin F.entry_type_call ?_⟩
  rw [Around.under_plain (weight_type_call_type "set" [.ref l] []) rfl]
  have h1 := F.called_set.notType
  have h2 := F.called_set.canCreate
  have hct := F.typeCall_set_1 (.ref l)
  repeat (any_goals (first | assumption | wp_step))
  refine codeAny_mono (code_set_led1 (.ref l) (E := E) (Q₁ := fun obj s₁ => obj = .ref s.heap.objs.size ∧ s₁ = { s with heap := s.heap.push (newSetObj w) }) ⟨rfl, rfl⟩) fun r s₁ hr => ?_
  cases r with
  | error e => exact hr
  | ok fl =>
    cases fl with
    | ret obj =>
      obtain ⟨rfl, rfl⟩ := hr
      have hS : (s.heap.push (newSetObj w)).get? s.heap.objs.size = some (newSetObj w) := Heap.get?_push_size _ rfl
      have hT : Shared.TypeIs { s with heap := s.heap.push (newSetObj w) } (.ref s.heap.objs.size) "set" := ⟨_, hS, rfl⟩
      have hli := F.called_set.init.lookup
      have hbi := F.called_set.init.bind (.ref s.heap.objs.size)
      repeat (any_goals (first | assumption | wp_step))
      refine codeAny_mono (codeAny_call_builtin (R := wants (fun r s₂ => r = .none ∧ ∃ h' tk L es ep t, s₂ = { s with heap := h', toks := tk } ∧ QSet P w h' s.heap.objs.size L es ep t ∧ QGot ks ks.length L ∧
          (∀ b o, s.heap.get? b = some o → h'.get? b = some o)) E) F.called_set.init.plain F.entry_set_init (check_set_init_1 hT ?_)) fun r₂ s₂ hr₂ => ?_
      · obtain ⟨⟨lc, ldict, ldata, lslots⟩, hol, hcl, nl, hdl⟩ := id hl
        simp only at hcl hdl
        subst hcl hdl
        have hol' : (s.heap.push (newSetObj w)).get? l = some { cls := .type "list", dict := ldict, data := .seq items nl, slots := lslots } := Heap.get?_push_of_some _ hol
        have hsls := F.sub_list_set
        have hslf := F.sub_list_frozenset
        have hne : (Value.type "list" == Value.type "dict") = false := by decide
        have hl1 : (s.heap.push (newSetObj w)).IsList l items := ⟨_, hol', rfl, nl, rfl⟩
        unfold Builtin.«set.__init__» noKeywords Builtin.Frozenset.updateFrom
        generalize hPI : pyIter = PI
        wp_walk
        subst hPI
        refine wpAny_pyIter_list hl1 ?_
        refine wpAny_bind (wpAny_runValue ?_)
        have ll : l < s.heap.objs.size := Heap.lt_size hol
        have hh3 : A.in1.in1.in1.handled = none := by simp [hh]
        have z1 : (s.heap.push (newSetObj w)).objs.size = s.heap.objs.size + 1 := Heap.size_push ..
        have neI : l ≠ (s.heap.push (newSetObj w)).objs.size := by rw [z1]; exact Nat.ne_of_lt (Nat.lt_succ_of_lt ll)
        have nin : s.heap.objs.size ∉ [(s.heap.push (newSetObj w)).objs.size, l] := by
          rw [z1]
          intro z
          rcases List.mem_cons.mp z with z | z
          · exact absurd z (Nat.ne_of_lt (Nat.lt_succ_self _))
          · exact absurd (List.mem_singleton.mp z) (Nat.ne_of_gt ll)
        have vals : ∀ (i : Nat) (v : Value), items[i]? = some v → ∃ q, ks[i]? = some q ∧ v = .ref q.1 := fun i v hv => by
          have e : items.toList[i]? = some v := by rw [Array.getElem?_toList]; exact hv
          rw [hit, List.getElem?_map] at e
          cases hq : ks[i]? with
          | none => rw [hq] at e; cases e
          | some q => rw [hq] at e; exact ⟨q, rfl, (Option.some.inj e).symm⟩
        refine q_loop ((Walks.list hh3 _ l neI items).toS) s.heap.objs.size nin ks hsz hfew vals s.heap hk (none_past (Nat.le_refl _)) (fun b hb => none_past (by
            rw [List.mem_singleton.mp hb, z1]
            exact Nat.le_succ _)) hu (items.size - 0) 0 _ (by omega) (Nat.zero_le _) ⟨⟨_, Heap.get?_push_size _ rfl, rfl, rfl⟩, (hl1.push _)⟩ (fun b o e => Heap.get?_push_of_some _ (Heap.get?_push_of_some _ e)) ?start ?last
        case start =>
          have got : ((s.heap.push (newSetObj w)).push { cls := .type "list_iterator", data := .fields #[.ref l, .int 0 0] }).get? s.heap.objs.size = some (newSetObj w) := Heap.get?_push_of_some _ hS
          exact ⟨[], #[], 0, _, q_fresh got, ⟨fun q hq => (by cases hq), fun q hq => (by simp at hq), Nat.le_refl _⟩⟩
        case last =>
          intro s' L es ep t mv hS' g' old
          obtain ⟨h', g2, d', tk', os'⟩ := s'
          obtain rfl : g2 = s.gens := mv.gens
          obtain rfl : d' = s.drawn := mv.drawn
          obtain rfl : os' = s.os := mv.os
          show wpAny _ _ _ _ _ _
          refine wpAny_pure ?_
          show wpAny _ _ (ret Value.none) _ _ _
          rw [hsz] at g'
          exact wpAny_pure ⟨rfl, h', tk', L, es, ep, t, rfl, hS', g', old⟩
      · cases r₂ with
        | error e => exact hr₂
        | ok fl₂ =>
          cases fl₂ with
          | ret r =>
            obtain ⟨rfl, h', tk, L, es, ep, t, rfl, hS', g', old⟩ := hr₂
            repeat (any_goals (first | assumption | wp_step))
            exact h _ _ _ _ _ _ hS' g' old
          | _ => exact hr₂.elim
    | _ => exact hr.elim
end
end Rb
set_option Elab.async false
set_option linter.all false
set_option maxRecDepth 100000
set_option maxHeartbeats 4000000
/-! sorted of a set. -/
namespace Rb
open PySem PySem.Spec PyProof.Rows L2
section
variable {P : Program} {w : World} {A : Around} {E : Value → Shared → Prop} {s : Shared}
open PySem.W in
/-- the values of a set, gathered and sorted by data: for any set that can be walked -/
theorem sorted_walk {β : Type} {a : Addr} {es : Array (Int × Value)} {ep : Nat} {t : SetTable} {bs : List β} {enc : β → D} {vl : β → Value → Prop} {Q : Value → Shared → Prop} (hh : A.handled = none) (ha : SetAt s.heap a es ep t) (hf : t.fits es.size = true) (hsz : es.size < scanBound) (r : Ris t.place.toList)
    (hl : w.params.followText "set-order" = true ∨ t.led = true) (hb : EachIs (fun v b => vl b v) (es.toList.map (·.2)) bs) (hrd : ∀ (h : Heap), (∀ c o, s.heap.get? c = some o → h.get? c = some o) → ∀ v b, b ∈ bs → vl b v → ∃ as, Reads h v (enc b) as)
    (hal : ∀ x y, alike (enc x) (enc y) = true) (hk : ∀ l : List β, (∀ b ∈ l, b ∈ bs) → Sortable (l.map enc)) (hd : ∀ b, (enc b).depth ≤ 50) (hu : A.units + 64 < cLine)
    (hQ : ∀ s' p (out : Array Value) (c : Nat) (m : List β), (∀ b o, s.heap.get? b = some o → s'.heap.get? b = some o) → s'.gens = s.gens → s'.os = s.os → s.heap.objs.size ≤ p → s'.heap.get? p = some (seqObj "list" out c) → m.Perm bs → EachIs (fun v b => vl b v) out.toList (sortBy enc m) → Q (.ref p) s') :
    wpAny (model P w) A (call (.builtin "sorted") [.ref a]) Q E s := by
  refine Calls.call_function_entry kind_sorted plain_sorted entry_sorted (args_sorted1 _) ?_
  unfold Builtin.«sorted»
  refine wpAny_bind (m := checkCount "sorted" 1 1 _) (wpAny_pure ?_)
  refine wpAny_bind (collect_set (A := A.in1) hh ha hf hsz r hl fun s1 vs k1 hz g1 o1 pm => ?_)
  -- the values in the order of the walk, with what they stand for
  have paired : ∀ {xs ys : List Value}, ys.Perm xs → ∀ {bs : List β}, EachIs (fun v b => vl b v) xs bs → ∃ m : List β, m.Perm bs ∧ EachIs (fun v b => vl b v) ys m := by
    intro xs ys pm
    induction pm with
    | nil => intro bs e; exact ⟨bs, .refl _, e⟩
    | cons x _ ih =>
      intro bs e
      cases e with
      | cons h1 h2 =>
        obtain ⟨m, p1, p2⟩ := ih h2
        exact ⟨_ :: m, p1.cons _, .cons h1 p2⟩
    | swap x y l =>
      intro bs e
      cases e with
      | cons h1 h2 =>
        cases h2 with
        | cons h3 h4 => exact ⟨_, .swap _ _ _, .cons h3 (.cons h1 h4)⟩
    | trans _ _ ih1 ih2 =>
      intro bs e
      obtain ⟨m, p1, p2⟩ := ih2 e
      obtain ⟨m', p3, p4⟩ := ih1 p2
      exact ⟨m', p3.trans p1, p4⟩
  obtain ⟨m, pm2, em⟩ := paired pm hb
  have hvl : vs.length ≤ sizeLine := by
    rw [pm.length_eq, List.length_map, Array.length_toList]
    exact fits_of_scanBound hsz
  refine wpAny_bind (wpAny_newList ?_ hvl)
  have hoL : (s1.heap.push (seqObj "list" vs.toArray 0)).get? s1.heap.objs.size = some (seqObj "list" vs.toArray 0) := Heap.get?_push_size _ rfl
  generalize hH : s1.heap.push (seqObj "list" vs.toArray 0) = hp at hoL ⊢
  have grow : ∀ c o, s.heap.get? c = some o → (sortingHeap hp s1.heap.objs.size vs).get? c = some o := fun c o e => by
    have e1 := k1 c o e
    have lt := Heap.lt_size e1
    have e2 : hp.get? c = some o := by rw [← hH]; exact Heap.get?_push_of_some _ e1
    exact sortingHeap_old (Nat.ne_of_lt lt) e2
  have er : EachIs (fun v b => ∃ as, Reads (sortingHeap hp s1.heap.objs.size vs) v (enc b) as) vs m := (each_mem em).mono fun v b ⟨h1, h2⟩ => hrd _ grow v b (pm2.mem_iff.mp h2) h1
  have ed := each_map (R := fun v d => ∃ as, Reads (sortingHeap hp s1.heap.objs.size vs) v d as) enc er
  have srt := SortsAt.data (prog := P) (w := w) (A := A.in1.in1) (s := { s1 with heap := sortingHeap hp s1.heap.objs.size vs }) ed (AllAlike.of hal) (hk m fun b hb => pm2.mem_iff.mp hb) fun d hd' => by
    obtain ⟨b, _, rfl⟩ := List.mem_map.mp hd'
    have h1 := hd b
    have h2 : A.in1.in1.units = A.units + 2 := rfl
    omega
  have eo := sortVals_data (h' := sortingHeap hp s1.heap.objs.size vs) false em er (AllAlike.of hal)
  have ho := sortVals_length (κ := dataKind (sortingHeap hp s1.heap.objs.size vs) (m.map enc)) false (ks := vs) (vs := vs) rfl
  refine wpAny_bind (wpAny_holding (wpAny_call_entry slot_list_sort ⟨_, hoL, rfl⟩ entry_list_sort (list_sort_vals (s := { s1 with heap := hp }) hoL srt hvl ⟨_, rfl, ?_⟩) (args_list_sort _)))
  generalize sortVals (dataKind (sortingHeap hp s1.heap.objs.size vs) (m.map enc)) false vs vs = out at eo ho ⊢
  obtain ⟨c, hc⟩ := sortedHeap_at (vs := vs) (out := out.toArray) hoL
  refine wpAny_pure ⟨_, rfl, hQ _ s1.heap.objs.size out.toArray c m (fun b u e => ?_) g1 o1 hz hc pm2 eo⟩
  have e1 := k1 b u e
  have lt := Heap.lt_size e1
  have hpz : hp.objs.size = s1.heap.objs.size + 1 := by rw [← hH, size_push']
  show (sortedHeap hp s1.heap.objs.size vs out.toArray).get? b = some u
  rw [sortedHeap_old (Nat.ne_of_lt lt) (by rw [hpz]; exact Nat.lt_succ_of_lt lt), ← hH]
  exact Heap.get?_push_of_some _ e1
end
end Rb
set_option Elab.async false
set_option linter.all false
set_option maxRecDepth 100000
set_option maxHeartbeats 4000000
/-! sorted(set(list of tuples of texts)), as an expression. -/
namespace Rb
open PySem PySem.Spec PyProof.Rows L2
section
variable {α : Type} [DecidableEq α]
/-- each once, as first met -/
def uniq (l : List α) : List α := l.foldl (fun acc x => if x ∈ acc then acc else acc ++ [x]) []
theorem uniq_aux : ∀ (l acc : List α), acc.Nodup → (l.foldl (fun acc x => if x ∈ acc then acc else acc ++ [x]) acc).Nodup ∧ ∀ y, y ∈ l.foldl (fun acc x => if x ∈ acc then acc else acc ++ [x]) acc ↔ y ∈ acc ∨ y ∈ l
  | [], acc, h => ⟨h, fun y => by simp⟩
  | x :: l, acc, h => by
    rw [List.foldl_cons]
    by_cases hx : x ∈ acc
    · rw [if_pos hx]
      obtain ⟨h1, h2⟩ := uniq_aux l acc h
      refine ⟨h1, fun y => (h2 y).trans ⟨fun z => z.imp id (List.mem_cons_of_mem _), fun z => ?_⟩⟩
      rcases z with z | z
      · exact .inl z
      · rcases List.mem_cons.mp z with z | z
        · exact .inl (z ▸ hx)
        · exact .inr z
    · rw [if_neg hx]
      obtain ⟨h1, h2⟩ := uniq_aux l (acc ++ [x]) (List.nodup_append.mpr ⟨h, List.nodup_cons.mpr ⟨List.not_mem_nil, List.nodup_nil⟩, fun a ha c hc e => by rw [List.mem_singleton] at hc; exact hx (by rw [← hc, ← e]; exact ha)⟩)
      refine ⟨h1, fun y => (h2 y).trans ?_⟩
      rw [List.mem_append, List.mem_singleton, List.mem_cons, or_assoc]
theorem uniq_nodup (l : List α) : (uniq l).Nodup := (uniq_aux l [] List.nodup_nil).1
theorem uniq_mem {l : List α} {y : α} : y ∈ uniq l ↔ y ∈ l := ((uniq_aux l [] List.nodup_nil).2 y).trans (by simp)
/-- two lists of one length, the first without doubles and within the second -/
theorem perm_len : ∀ {l m : List α}, l.Nodup → (∀ x ∈ l, x ∈ m) → m.length = l.length → l.Perm m
  | [], m, _, _, h => by
    cases m with
    | nil => exact .refl _
    | cons a m => cases h
  | x :: l, m, hn, hs, h => by
    obtain ⟨h1, h2⟩ := List.nodup_cons.mp hn
    have hx := hs x List.mem_cons_self
    have ih := perm_len (m := m.erase x) h2 (fun y hy => by
      have hne : y ≠ x := fun e => h1 (e ▸ hy)
      exact (List.mem_erase_of_ne hne).mpr (hs y (List.mem_cons_of_mem _ hy))) (by rw [List.length_erase_of_mem hx, h, List.length_cons]; omega)
    exact (ih.cons x).trans (List.perm_cons_erase hx).symm
end
/-! ### as tracked things -/
section
variable {P : Program} {w : World}
/-- the set at a, without its elements -/
def QBare (P : Program) (w : World) (h : Heap) (a : Addr) (L : List QE) : Prop := ∃ (es : Array (Int × Value)) (ep : Nat) (t : SetTable), (∃ o, h.get? a = some o ∧ o.ExactSet ∧ o.data = .set es ep t) ∧ es.toList = L.map (qRow P w) ∧ TabOk t (L.map fun q => qh P w q.2) ∧ (L.map (·.2)).Nodup ∧
  (w.params.followText "set-order" = true ∨ t.led = true) ∧ L.length * 5 < t.mask * 3 ∧ L.length < 64
def QO (P : Program) (w : World) (a : Addr) (L : List QE) : HO := .ext fun h => QBare P w h a L
theorem qo_new {H : Hp} {h : Heap} {a : Addr} {L : List QE} (R : QBare P w h a L) : ObjOk P w H h a (QO P w a L) := by
  have ⟨es, ep, t, ⟨o, ho, _⟩, _⟩ := R
  refine ⟨R, ⟨o, ho⟩, fun h1 h2 p k => ?_⟩
  have ⟨es', ep', t', ⟨o', ho', r'⟩, q'⟩ := p
  exact ⟨es', ep', t', ⟨o', k o' ho', r'⟩, q'⟩
end
section
variable {X : Cx} {pins : List (Addr × Obj)} {σ : L2.St} {H : Hp} {s : Shared}
theorem txt_items {P : Program} {w : World} : ∀ {k : List Str} {us : List Value}, Vals (k.map V.str) us → ItemsAre (strKind P w) k us
  | [], _, .nil => .nil
  | z :: k, _, .cons r t => by
    obtain ⟨tk, rfl⟩ := r
    exact .cons (strKind_is P w z tk) (txt_items t)
theorem inv_q {b : Addr} {k : List Str} (I : Inv X pins σ H s) (h : SqT X.K H b (k.map V.str)) : QT X.prog X.w s.heap k b := by
  obtain ⟨its, r, ⟨o, ho, hc, n, hd⟩, _⟩ := I.tuple h
  exact ⟨o, its.toArray, n, ho, hc, hd, by simpa using txt_items r⟩
theorem ref_vals : ∀ {ks : List QE} {us : List Value}, Vals (ks.map fun q => V.ref q.1) us → us = ks.map fun q => Value.ref q.1
  | [], _, .nil => rfl
  | q :: ks, _, .cons r t => by
    cases r
    rw [ref_vals t] <;> rfl
theorem vals_ref : ∀ (ks : List QE), Vals (ks.map fun q => V.ref q.1) (ks.map fun q => Value.ref q.1)
  | [] => .nil
  | q :: ks => .cons rfl (vals_ref ks)
def rSetQ (K : PySem.W.Frag) (P : Program) (w : World) : List V → Hp → VK → Prop := fun xs H Q => ∃ (l : Addr) (ks : List QE), xs = [V.ref l] ∧ SqL K H l (ks.map fun q => V.ref q.1) ∧ (∀ q ∈ ks, SqT K H q.1 (q.2.map V.str)) ∧ ks.length < 64 ∧
  ∀ a L, H a = none → (∀ q ∈ L, q ∈ ks) → (∀ q ∈ ks, q.2 ∈ L.map (·.2)) → Q (.ref a) (upd H a (QO P w a L))
theorem cr_setQ (hc : X.calm = true) (hu : X.A.units + 64 < cLine) : CallR X (.type "set") (rSetQ X.K X.prog X.w) := by
  intro pins s σ H xs us Q I r h
  obtain ⟨l, ks, rfl, hl, hk, hf, q⟩ := h
  rw [Vals.ref1 r]
  obtain ⟨its, rv, pl, hz⟩ := I.list hl
  have hn : H s.heap.objs.size = none := I.hok.fresh (Nat.le_refl _)
  refine q_call (P := X.prog) (w := X.w) ks (I.ok.hd hc) pl.isList (by simpa using ref_vals rv) (fun p hp => inv_q I (hk p hp)) hf (by omega) fun h' tk L es ep t R g old => ?_
  have bare : QBare X.prog X.w h' s.heap.objs.size L := ⟨es, ep, t, R.obj, R.ents, R.table, R.uniq, R.ledT, R.roomT, R.fewT⟩
  refine ⟨.ref s.heap.objs.size, upd H s.heap.objs.size (QO X.prog X.w s.heap.objs.size L), I.laid (t' := tk) old (Nat.le_refl _) (qo_new bare), rfl, q _ L hn (fun p hp => List.mem_of_mem_take (g.sub p hp)) fun p hp => g.all p (by rw [List.take_length]; exact hp)⟩
open PySem.W in
theorem each_refs : ∀ (L : List QE), EachIs (fun v (q : QE) => v = Value.ref q.1) ((L.map (qRow X.prog X.w)).map (·.2)) L
  | [] => .nil
  | q :: L => .cons rfl (each_refs L)
open PySem.W in
theorem refs_each : ∀ {out : List Value} {m : List QE}, EachIs (fun v (q : QE) => v = Value.ref q.1) out m → out = m.map fun q => Value.ref q.1
  | _, _, .nil => rfl
  | _, _, .cons h t => by rw [h, refs_each t] <;> rfl
def rSortQ (K : PySem.W.Frag) (P : Program) (w : World) : List V → Hp → VK → Prop := fun vs H Q => ∃ (a : Addr) (L : List QE), vs = [V.ref a] ∧ H a = some (QO P w a L) ∧ (∀ q ∈ L, SqT K H q.1 (q.2.map V.str)) ∧ (∀ q ∈ L, q.2 ≠ []) ∧
  ∀ (m : List QE) (p : Addr), m.Perm L → (L.map (·.2)).Nodup → H p = none → Q (.ref p) (upd H p (.lst ((sortBy (fun q : QE => eSs q.2) m).map fun q => V.ref q.1)))
theorem cr_sortQ (hc : X.calm = true) (hu : X.A.units + 64 < cLine) : CallR X (.builtin "sorted") (rSortQ X.K X.prog X.w) := by
  intro pins s σ H vs us Q I r h
  obtain ⟨a, L, rfl, ha, hk, hne, q⟩ := h
  have ⟨es, ep, t, ⟨o, ho, hex, hd⟩, hents, T, uniq, led, room, few⟩ : QBare X.prog X.w s.heap a L := (I.hok a _ ha).1
  rw [Vals.ref1 r]
  have hsz := ents_size hents
  have tsz : t.place.size = L.length := by rw [T.sz, List.length_map]
  refine sorted_walk (bs := L) (enc := fun q : QE => eSs q.2) (vl := fun q v => v = Value.ref q.1) (I.ok.hd hc) ⟨o, ho, hex.1, hd⟩ (fits_by tsz T.dm hsz (by omega)) (by unfold scanBound; omega) T.ris led (by rw [hents]; exact each_refs L) (fun h old v q hq hv => ?_) (fun x y => alike_Ss _ _) (fun l hl => ?_) (fun q => ?_) hu fun s' p out c m old g os hp hget pm e => ?_
  · subst hv
    have x := q_keep (inv_q I (hk q hq)) old
    obtain ⟨u, its, n, e1, e2, e3, e4⟩ := x
    have rd : ∀ {k : List Str} {vs : List Value}, ItemsAre (strKind X.prog X.w) k vs → ∃ as, ReadsAll h vs (k.map .str) as := by
      intro k vs hi
      induction hi with
      | nil => exact ⟨_, .nil⟩
      | @cons k0 v' ks vs h1 _ ih =>
        obtain ⟨tk, rfl⟩ := Value.isStrOf_shape h1
        obtain ⟨as, i1⟩ := ih
        exact ⟨_, .cons (.str _ _) i1⟩
    obtain ⟨as, ra⟩ := rd e4
    exact ⟨as, .tuple e1 e2 e3 ra⟩
  · refine .inl fun d hd' => ?_
    obtain ⟨q, hq, rfl⟩ := List.mem_map.mp hd'
    cases hk2 : q.2 with
    | nil => exact absurd hk2 (hne q (hl q hq))
    | cons z zs => exact ⟨.str z, zs.map .str, rfl⟩
  · show (eSs q.2).depth ≤ 50
    unfold eSs
    have := depth_strs q.2
    have e : (PyData.tuple (q.2.map .str)).depth = PyData.depthAll (q.2.map .str) + 1 := by simp [PyData.depth]
    omega
  · have eout := refs_each e
    have hlen : ((sortBy (fun q : QE => eSs q.2) m).map fun q => V.ref q.1).length ≤ sizeLine := by
      rw [List.length_map, (sort_perm _ m).length_eq, pm.length_eq]
      exact line_of (by omega)
    have hn : H p = none := I.hok.fresh hp
    have hv : Vals ((sortBy (fun q : QE => eSs q.2) m).map fun q => V.ref q.1) out.toList := by rw [eout]; exact vals_ref _
    have J : Inv X pins σ (upd H p (.lst ((sortBy (fun q : QE => eSs q.2) m).map fun q => V.ref q.1))) { s with heap := s'.heap, gens := s'.gens, drawn := s'.drawn, toks := s'.toks } :=
      I.call (ch := []) (Un.laid old hp hn) (I.hok.laid old hp ⟨hlen, out.toList, c, hv, hget⟩) (by rw [g]; exact I.bare) (fun _ z => nomatch z)
    have es' : s' = { s with heap := s'.heap, gens := s'.gens, drawn := s'.drawn, toks := s'.toks } := by
      cases s'
      cases s
      cases os
      rfl
    rw [es']
    exact ⟨.ref p, _, J, rfl, q m p pm uniq hn⟩
end
end Rb
set_option Elab.async false
set_option linter.all false
set_option maxRecDepth 100000
set_option maxHeartbeats 4000000
namespace Rb
open PySem PySem.Spec PyProof.Rows L2
section
variable {K : PySem.W.Frag} {G : Hp}
theorem dp_strs : ∀ xs : List Str, DpAll K G (xs.map V.str) (xs.map .str)
  | [] => .nil
  | x :: xs => .cons (.str x) (dp_strs xs)
/-- tuples of texts, with where they stand -/
theorem refs_of : ∀ {ks : List (List Str)} {vs : List V}, DpAll K G vs (ks.map eSs) → ∃ qs : List QE, vs = qs.map (fun q => V.ref q.1) ∧ qs.map (·.2) = ks ∧ ∀ q ∈ qs, TupAt K G q.1 (q.2.map V.str)
  | [], _, h => by cases h; exact ⟨[], rfl, rfl, fun q hq => by cases hq⟩
  | k :: ks, _, h => by
    rw [List.map_cons] at h
    cases h with
    | cons a b =>
      obtain ⟨qs, h1, h2, h3⟩ := refs_of b
      obtain ⟨p, xs, rfl, t, d⟩ := sr_tup (ds := k.map .str) a
      rw [vs_strs d] at t
      exact ⟨(p, k) :: qs, by rw [h1] <;> rfl, by rw [List.map_cons, h2], fun q hq => by
        rcases List.mem_cons.mp hq with e | hq
        · rw [e]; exact t
        · exact h3 q hq⟩
theorem dps_refs : ∀ {qs : List QE}, (∀ q ∈ qs, TupAt K G q.1 (q.2.map V.str)) → DpAll K G (qs.map fun q => V.ref q.1) ((qs.map (·.2)).map eSs)
  | [], _ => .nil
  | q :: qs, h => .cons (.tup (h q List.mem_cons_self) (dp_strs q.2)) (dps_refs fun p hp => h p (List.mem_cons_of_mem _ hp))
end
section
variable {X : Cx} {ρ : Env} {G H : Hp} {e : Expr} {ks : List (List Str)} {p1 p2 p3 p4 : Pos}
/-- sorted(set(e)) -/
theorem ef_sortSet (hc : X.calm = true) (hu : X.A.units + 64 < cLine) (hm : X.mg "sorted" = none) (hm2 : X.mg "set" = none) (h : EE X ρ G H e (.d (.list (ks.map eSs)))) (hne : ∀ k ∈ ks, k ≠ []) (hfew : ks.length < 64) (hg : Gl X "sorted" := by rfl) (hg2 : Gl X "set" := by rfl)
    (hs : starEach [e] X.env = (false, eval e X.env) :: starEach [] X.env := by rfl) (hpl : (backTo p2 (starEach [] X.env)).any (·.1) = false := by rfl)
    (hs2 : starEach [.Call (.Name "set" p1) [e] [] p2] X.env = (false, eval (.Call (.Name "set" p1) [e] [] p2) X.env) :: starEach [] X.env := by rfl) (hpl2 : (backTo p4 (starEach [] X.env)).any (·.1) = false := by rfl) :
    EF X ρ G H (.Call (.Name "sorted" p3) [.Call (.Name "set" p1) [e] [] p2] [] p4) ((sortBy eSs (uniq ks)).map eSs) := fun G1 H1 σ g r Q q => by
  refine w_pe (pe_callB (cr_sortQ hc hu) hg hm (by decide +kernel) (pa_cons (pe_callTy (cr_setQ hc hu) hg2 hm2 (by decide +kernel) (pa_cons pe_w pa_nil hs) (by decide) (by decide) hs hpl) pa_nil hs2) (by decide) (by decide) hs2 hpl2) ?_
  refine h G1 H1 σ g r _ fun v G2 H2 g2 r2 => ?_
  obtain ⟨l, vs, rfl, h1, h2⟩ := sr_lst r2
  obtain ⟨qs, rfl, e2, tq⟩ := refs_of h2
  have hlen : qs.length = ks.length := by rw [← e2, List.length_map]
  refine ⟨l, qs, rfl, g2.gh.seq h1, fun q hq => same_t g2.gh (tq q hq), by omega, fun a L ha hsub hall => ?_⟩
  have ga : Gr G1 H1 G2 (upd H2 a (QO X.prog X.w a L)) := g2.trans (.tmp g2.gh ha)
  refine ⟨a, L, rfl, upd_same, fun q hq => same_t ga.gh (tq q (hsub q hq)), fun q hq => hne q.2 (by rw [← e2]; exact List.mem_map.mpr ⟨q, hsub q hq, rfl⟩), fun m p pm uq hp => ?_⟩
  have gp : Gr G1 H1 G2 (upd (upd H2 a (QO X.prog X.w a L)) p (.lst ((sortBy (fun q : QE => eSs q.2) m).map fun q => V.ref q.1))) := ga.trans (.tmp ga.gh hp)
  refine q p _ G2 _ gp (ga.none' hp) (ga.gh.free hp) upd_same ?_
  have e3 : (sortBy (fun q : QE => eSs q.2) m).map (·.2) = sortBy eSs (m.map (·.2)) := PySem.W.sort_maps (fun q : QE => q.2) (r := PySem.W.dataLe false fun q : QE => eSs q.2) (s := PySem.W.dataLe false eSs) fun _ _ _ _ => rfl
  have e4 : sortBy eSs (m.map (·.2)) = sortBy eSs (uniq ks) := by
    refine sort_set (fun _ _ => inj_Ss) ((pm.map (·.2)).nodup_iff.mpr uq) (uniq_nodup ks) fun k => ?_
    rw [(pm.map (·.2)).mem_iff, uniq_mem, ← e2]
    constructor
    · intro hk
      obtain ⟨q, hq, rfl⟩ := List.mem_map.mp hk
      exact List.mem_map.mpr ⟨q, hsub q hq, rfl⟩
    · intro hk
      obtain ⟨q, hq, rfl⟩ := List.mem_map.mp hk
      exact hall q hq
  rw [← e4, ← e3]
  exact dps_refs fun q hq => tq q (hsub q (pm.mem_iff.mp (sort_mem.mp hq)))
end
/-! ### a set of texts -/
section
variable {P : Program} {w : World}
open PySem.Froz
/-- the set at a holds the texts l -/
def TxS (P : Program) (w : World) (h : Heap) (a : Addr) (l : List Str) : Prop := ∃ D : SD, h.get? a = some (sObj "set" D) ∧ TxOk P w D l ∧ Ris D.2.2.place.toList ∧ (w.params.followText "set-order" = true ∨ D.2.2.led = true) ∧ l.Nodup
def TxO (P : Program) (w : World) (a : Addr) (l : List Str) : HO := .ext fun h => TxS P w h a l
theorem tx_new {H : Hp} {h : Heap} {a : Addr} {l : List Str} (R : TxS P w h a l) : ObjOk P w H h a (TxO P w a l) := by
  have ⟨D, ho, _⟩ := R
  refine ⟨R, ⟨_, ho⟩, fun h1 h2 p k => ?_⟩
  have ⟨D', ho', r'⟩ := p
  exact ⟨D', k _ ho', r'⟩
theorem tx_fresh {h : Heap} : TxS P w (h.push (newSetObj w)) h.objs.size [] := ⟨(#[], 0, .fresh 0 0 (!w.params.followText "set-order")), Heap.get?_push_size _ rfl, .nil rfl, List.Pairwise.nil, led_new w, List.nodup_nil⟩
theorem tail_keeps {ep : Nat} {es : Array (Int × Value)} {t : SetTable} {d : Bool} (h1 : Ris t.place.toList) (h2 : w.params.followText "set-order" = true ∨ t.led = true) : Ris (tailTx ep es t d).2.2.place.toList ∧ (w.params.followText "set-order" = true ∨ (tailTx ep es t d).2.2.led = true) := by
  unfold tailTx
  split
  · exact ⟨relayAll_ris _ _ _, h2.imp id fun z => (relayAll_led _ _ _).trans z⟩
  · exact ⟨h1, h2⟩
theorem add_keeps {h : Int} {v : Value} {D : SD} (h1 : Ris D.2.2.place.toList) (h2 : w.params.followText "set-order" = true ∨ D.2.2.led = true) : Ris (addTx h v D).2.2.place.toList ∧ (w.params.followText "set-order" = true ∨ (addTx h v D).2.2.led = true) := by
  unfold addTx
  have r1 := layNew_ris D.2.2 D.1 h v h1
  have r2 := layNew_led D.2.2 D.1 h v
  refine tail_keeps ?_ ?_
  · split <;> exact r1
  · split
    · exact h2.imp id fun z => r2.trans z
    · exact h2.imp id fun z => r2.trans z
variable {A : Around} {E : Value → Shared → Prop} {s : Shared} {a : Addr} {l : List Str} {k : Str} {u : Tok}
theorem tx_hashed {Q : Bool → Shared → Prop} (R : TxS P w s.heap a l) (hb : l.length + 1 < scanBound) (hQ : ∀ b h', Heap.SameBut a s.heap h' → TxS P w h' a (if k ∈ l then l else k :: l) → Q b { s with heap := h' }) : wpAny (model P w) A (setAddHashed a (.str k u) (hashStr w k)) Q E s := by
  obtain ⟨D, ho, ok, ris, led, nd⟩ := R
  by_cases hk : k ∈ l
  · obtain ⟨es, ep, t⟩ := D
    have hsz : es.size = l.length := ok.sz
    have sc : es.size < scanBound := by omega
    unfold setAddHashed setAddHashedIn
    refine wpAny_holding (wpAny_bind (wpAny_setState_of ho rfl ok.fit ?_))
    dsimp only
    rw [byScan_of rfl sc ok.el]
    simp only [↓reduceIte]
    unfold setAddByScan
    refine wpAny_bind (wpAny_bind (wpAny_rule (wpAny_bind (wpAny_setScan_of (knd := strKind P w) (k := k) (is_str k u) ho rfl ok.fit ok.el ?_))))
    cases e : List.findIdx? (fun e => (strKind P w).is k e.2) es.toList with
    | none =>
      obtain ⟨x, hx, hi⟩ := (ok.mem k).mp hk
      have := List.findIdx?_eq_none_iff.mp e x hx
      rw [hi] at this
      cases this
    | some j =>
      dsimp only
      refine wpAny_pure (wpAny_pure (hQ false s.heap (Heap.SameBut.refl a s.heap) ?_))
      rw [if_pos hk]
      exact ⟨(es, ep, t), ho, ok, ris, led, nd⟩
  · refine add_x ho ok hk hb (hQ true _ (Heap.SameBut.update ..) ?_)
    rw [if_neg hk]
    obtain ⟨k1, k2⟩ := add_keeps (h := hashStr w k) (v := .str k u) (D := D) ris led
    exact ⟨_, get_upd _ ho rfl, add_ok u ok, k1, k2, List.nodup_cons.mpr ⟨hk, nd⟩⟩
theorem tx_add {Q : Value → Shared → Prop} (R : TxS P w s.heap a l) (hb : l.length + 1 < scanBound) (hQ : ∀ h', Heap.SameBut a s.heap h' → TxS P w h' a (if k ∈ l then l else k :: l) → Q .none { s with heap := h', toks := s.toks + 1 }) :
    wpAny (model P w) A (call (.builtin "set.add") [.ref a, .str k u]) Q E s := by
  have ty : s.TypeIs (.ref a) "set" := by
    obtain ⟨D, ho, _⟩ := R
    exact ⟨_, ho, rfl⟩
  refine wpAny_call_entry F.slot_set_add ty F.entry_set_add ?_ (F.args_set_add_2 _ _)
  unfold Builtin.«set.add» Builtin.Frozenset.oneOther
  simp only [List.isEmpty_nil, bind_assoc]
  unfold Builtin.Frozenset.addrOf setAdd
  refine wpAny_bind (wpAny_pure ?_)
  try dsimp only
  refine wpAny_bind (wpAny_pure ?_)
  try dsimp only
  refine wpAny_bind (wpAny_holding (wpAny_bind ((strKind P w).pyHash (k := k) (is_str k u) ?_)))
  refine tx_hashed (s := { s with toks := s.toks + 1 }) R hb fun b h' sb r => ?_
  show wpAny _ _ (ret Value.none) _ _ _
  exact wpAny_pure ⟨_, rfl, hQ h' sb r⟩
end
end Rb
set_option Elab.async false
set_option linter.all false
set_option maxRecDepth 100000
set_option maxHeartbeats 4000000
/-! sorted({text for ..}). -/
namespace Rb
open PySem PySem.Spec PyProof.Rows L2 PySem.Froz PpSet
theorem blk_set {P : Program} {w : World} {A : Around} {elt tg iter : Expr} {ifs : List Expr} {scope : Scope} {pos : Pos} : Blk P w A (.SetComp elt [⟨tg, iter, ifs, 0⟩] scope pos) tg ifs (fun d ce Q E s => wpAny (model P w) A (eval elt ce) (fun v s5 => wpAny (model P w) A (call (.builtin "set.add") [.ref d, v]) (fun _ s6 => Q s6) E s5) E s) where
  loop := fun J turn n s h => compLoopS_any J turn n h
  start := fun h0 h => PpSet.codeAny_compStart_set h0 h
  any := fun h q => thnF h fun v s5 h5 => thnF h5 fun _ s6 h6 => q s6 h6
section
variable {X : Cx} {scope : Scope} {elt : Expr}
def rbS (X : Cx) (scope : Scope) (elt : Expr) (d : Addr) (σ : L2.St) (H : Hp) (Nx : Hp → Prop) : Prop := bE X scope elt σ H fun y H4 => ∃ (z : Str) (l : List Str), y = .str z ∧ H4 d = some (TxO X.prog X.w d l) ∧ l.length + 1 < scanBound ∧ Nx (upd H4 d (TxO X.prog X.w d (if z ∈ l then l else z :: l)))
theorem rbS_ok (s : Shared) (H : Hp) (C : Addr) (cl : List (Str × Addr)) (fp : List Addr) (d : Addr) (pins : List (Addr × Obj)) (s' : Shared) (σ : L2.St) (H' : Hp) (Nx : Hp → Prop) (I : Inv (X.blk s H scope (compEnvC scope cl C X.env) fp) pins σ H' s') (h : rbS X scope elt d σ H' Nx) :
    wpAny (model X.prog X.w) X.A (eval elt (compEnvC scope cl C X.env)) (fun v s5 => wpAny (model X.prog X.w) X.A (call (.builtin "set.add") [.ref d, v]) (fun _ s6 => ∃ H2, Inv (X.blk s H scope (compEnvC scope cl C X.env) fp) pins σ H2 s6 ∧ Nx H2) (fun _ _ => False) s5) (fun _ _ => False) s' := by
  refine thnF ((pe_b s H C cl fp).run pins s' σ H' _ I h) fun v s5 ⟨y, H4, I4, r4, z, l, ey, e4, hb, nx⟩ => ?_
  subst ey
  obtain ⟨tk, rfl⟩ := r4
  have R : TxS X.prog X.w s5.heap d l := (I4.hok d _ e4).1
  refine tx_add R hb fun h' sb new => ?_
  have he : ∃ u, h'.get? d = some u := by
    have ⟨D, ho, _⟩ := new
    exact ⟨_, ho⟩
  exact ⟨_, I4.write (e := d) (t' := s5.toks + 1) (by rw [e4]; trivial) (.inl rfl) (fun b u hb hu => (sb.2 b hb).trans hu) he (tx_new new), nx⟩
end
section
variable {X : Cx} {ρ : Env} {G H : Hp} {tg iter elt : Expr} {scope : Scope} {pos : Pos} {β : Type} {ys : List β} {enc : β → D} {us : β → List (Nat × D)} {f : β → Str}
def addS (l : List Str) (z : Str) : List Str := if z ∈ l then l else z :: l
theorem addS_mem {l : List Str} {z y : Str} : y ∈ addS l z ↔ y = z ∨ y ∈ l := by
  unfold addS
  split
  · rename_i h
    exact ⟨.inr, fun q => q.elim (fun e => e ▸ h) id⟩
  · exact List.mem_cons
theorem addS_len (l : List Str) (z : Str) : (addS l z).length ≤ l.length + 1 := by
  unfold addS
  split
  · exact Nat.le_succ _
  · exact Nat.le_refl _
theorem adds_mem : ∀ (zs l : List Str) (y : Str), y ∈ zs.foldl addS l ↔ y ∈ l ∨ y ∈ zs
  | [], l, y => by simp
  | z :: zs, l, y => by
    rw [List.foldl_cons, adds_mem zs, addS_mem, List.mem_cons]
    constructor
    · rintro ((h | h) | h)
      · exact .inr (.inl h)
      · exact .inl h
      · exact .inr (.inr h)
    · rintro (h | h | h)
      · exact .inl (.inr h)
      · exact .inl (.inl h)
      · exact .inr h
theorem adds_len : ∀ (zs l : List Str), (zs.foldl addS l).length ≤ l.length + zs.length
  | [], l => Nat.le_refl _
  | z :: zs, l => by
    rw [List.foldl_cons, List.length_cons]
    have h1 := adds_len zs (addS l z)
    have h2 := addS_len l z
    omega
/-- the reading of {text for ..} -/
theorem sc_rd {vs : List Nat} (hi : EI X ρ G H tg iter (ys.map enc)) (hz : ys.length < 1000) (hv : ∀ b ∈ ys, ∀ i ∈ (us b).map (·.1), i ∈ vs)
    (hg : ∀ (s : Shared) (H0 : Hp) (C : Addr) (cl : List (Str × Addr)) (fp : List Addr), ∀ b ∈ ys, GA (X.blk s H0 scope (compEnvC scope cl C X.env) fp) tg (enc b) (us b))
    (he : ∀ (s : Shared) (H0 : Hp) (C : Addr) (cl : List (Str × Addr)) (fp : List Addr), ∀ b ∈ ys, EE (X.blk s H0 scope (compEnvC scope cl C X.env) fp) (setsR (wipeR ρ vs) (us b)) G H elt (.d (.str (f b))))
    {G1 H1 : Hp} {σ : L2.St} (g : Gr G H G1 H1) (r : ER X.K G1 σ ρ) {Q : VK} (q : ∀ p' G2 H2, Gr G1 H1 G2 H2 → H1 p' = none → G2 p' = none → H2 p' = some (TxO X.prog X.w p' ((ys.map f).foldl addS [])) → Q (.ref p') H2) :
    tCc (fun d => TxO X.prog X.w d []) (wI X tg iter) (bG X scope tg) (bT X scope []) (rbS X scope elt) vs σ H1 Q := by
  refine hi G1 H1 σ g r _ fun J G2 H2 g2 hJ => fun Dl hD => ?_
  have gD : G2 Dl = none := g2.gh.free hD
  refine ⟨fun i m H' => m = ys.length - i ∧ i ≤ ys.length ∧ ∃ G', Gr G2 H2 G' H' ∧ G' Dl = none ∧ H' Dl = some (TxO X.prog X.w Dl (((ys.take i).map f).foldl addS [])),
    ⟨ys.length, rfl, Nat.zero_le _, G2, .tmp g2.gh hD, gD, upd_same⟩, ?_⟩
  rintro i m H' ⟨rfl, hil, G', g', d1, d2⟩
  by_cases hlt : i < ys.length
  · have hb : ys[i]? = some ys[i] := List.getElem?_eq_getElem hlt
    have hm : ys[i] ∈ ys := List.getElem_mem hlt
    obtain ⟨hgo, hy⟩ := (hJ i G' H' g'.g g'.gh).1 (enc ys[i]) (by rw [List.getElem?_map, hb] <;> rfl)
    refine .inr ⟨hgo, fun H'' => ∃ G'', Gr G2 H2 G'' H'' ∧ G'' Dl = none ∧ H'' Dl = some (TxO X.prog X.w Dl (((ys.take (i + 1)).map f).foldl addS [])), fun H'' w => ⟨ys.length - (i + 1), by omega, rfl, hlt, w⟩, fun v H3 y => ?_⟩
    obtain ⟨G3, g3, r3⟩ := hy v H3 y
    have gg3 : Gr G H G3 H3 := (g.trans g2).trans (g'.trans g3)
    have rr3 : ER X.K G3 σ ρ := r.up (g2.g.trans (g'.g.trans g3.g))
    have d1' : G3 Dl = none := g3.fr Dl d1 (by rw [d2]; simp)
    intro s0 H0 C cl fp
    refine hg s0 H0 C cl fp _ hm G3 H3 _ v g3.gh r3 _ fun ws hw => ⟨?_, ?_⟩
    · rw [wipe_sets (fun i hi => hv _ hm i (by rw [← hw.idx]; exact hi)), wipe_wipe]
    · intro s0 H0 C cl fp
      refine ep_nil (X := X.blk s0 H0 scope (compEnvC scope cl C X.env) fp) (G := G) (H := H) G3 H3 _ gg3 (hw.er (rr3.wipe vs)) _ fun G0 H9 g0 => ?_
      refine iteT ?_
      intro s0 H0 C cl fp
      refine he s0 H0 C cl fp _ hm G0 H9 _ (gg3.trans g0) ((hw.er (rr3.wipe vs)).up g0.g) _ fun y G4 H4 g4 r4 => ?_
      have g34 : Gr G3 H3 G4 H4 := g0.trans g4
      have e4 := g34.h _ _ (g3.h _ _ d2)
      have n4 : G4 Dl = none := g34.fr Dl d1' (by rw [g3.h _ _ d2]; simp)
      have w4 : Gr G2 H2 G4 H4 := g'.trans (g3.trans g34)
      have hl := adds_len ((ys.take i).map f) []
      have htl : (ys.take i).length ≤ i := by rw [List.length_take]; omega
      rw [List.length_map] at hl
      refine ⟨f ys[i], _, sr_str r4, e4, Nat.lt_of_le_of_lt (m := 1000) (by simp only [List.length_nil] at hl; omega) (by decide), G4, w4.mut hD n4, n4, ?_⟩
      rw [upd_same, List.take_add_one, hb, Option.toList_some, List.map_append, List.foldl_append]
      rfl
  · have hi' : i = ys.length := by omega
    subst hi'
    refine .inl ⟨(hJ _ G' H' g'.g g'.gh).2 (by rw [List.length_map]; exact Nat.le_refl _), ?_⟩
    rw [List.take_length] at d2
    exact q Dl G' H' (g2.trans g') (g2.none' hD) d1 d2
def rSortTx (P : Program) (w : World) : List V → Hp → VK → Prop := fun vs H Q => ∃ (a : Addr) (l : List Str), vs = [V.ref a] ∧ H a = some (TxO P w a l) ∧ l.length < 1000 ∧ ∀ p, l.Nodup → H p = none → Q (.ref p) (upd H p (.lst ((sortBy PyData.str l).map V.str)))
open PySem.W in
theorem cr_sortTx (hc : X.calm = true) (hu : X.A.units + 64 < cLine) : CallR X (.builtin "sorted") (rSortTx X.prog X.w) := by
  intro pins s σ H vs us Q I r h
  obtain ⟨a, l, rfl, ha, hlen, q⟩ := h
  have ⟨D, ho, ok, ris, led, nd⟩ : TxS X.prog X.w s.heap a l := (I.hok a _ ha).1
  rw [Vals.ref1 r]
  have each : ∀ es : List (Int × Value), ElemsOf (strKind X.prog X.w) es → ∃ bs : List Str, EachIs (fun v b => ∃ tk, v = Value.str b tk) (es.map (·.2)) bs ∧ ∀ z, z ∈ bs ↔ ∃ e ∈ es, (strKind X.prog X.w).is z e.2 = true := by
    intro es
    induction es with
    | nil => intro _; exact ⟨[], .nil, fun z => by simp⟩
    | cons e es ih =>
      intro he
      obtain ⟨bs, i1, i2⟩ := ih fun x hx => he x (List.mem_cons_of_mem _ hx)
      obtain ⟨⟨k, h1, _⟩, _⟩ := he e List.mem_cons_self
      obtain ⟨tk, h2⟩ := Value.isStrOf_shape h1
      refine ⟨k :: bs, .cons ⟨tk, h2⟩ i1, fun z => ?_⟩
      rw [List.mem_cons, i2]
      constructor
      · rintro (h | ⟨x, hx, hz⟩)
        · exact ⟨e, List.mem_cons_self, by rw [h]; exact h1⟩
        · exact ⟨x, List.mem_cons_of_mem _ hx, hz⟩
      · rintro ⟨x, hx, hz⟩
        rcases List.mem_cons.mp hx with c | hx
        · rw [c] at hz
          exact .inl ((strKind X.prog X.w).inj _ _ _ hz h1)
        · exact .inr ⟨x, hx, hz⟩
  obtain ⟨bs, e1, e2⟩ := each D.1.toList ok.el
  have hbl : bs.length = l.length := by
    have := e1.length
    rw [List.length_map, Array.length_toList, ok.sz] at this
    exact this.symm
  have pb : l.Perm bs := perm_len nd (fun z hz => (e2 z).mpr ((ok.mem z).mp hz)) hbl
  refine sorted_walk (bs := bs) (enc := PyData.str) (vl := fun z v => ∃ tk, v = Value.str z tk) (I.ok.hd hc) ⟨_, ho, rfl, rfl⟩ ok.fit (by rw [ok.sz]; exact Nat.lt_trans hlen (by decide)) ris led e1 (fun h old v z hz hv => ?_) (fun x y => by simp [alike]) (fun l hl => ?_) (fun z => by simp [PyData.depth]) hu fun s' p out c m old g os hp hget pm e => ?_
  · obtain ⟨tk, rfl⟩ := hv
    exact ⟨[], .str z tk⟩
  · exact Sortable.others fun z => ⟨fun q => PyData.noConfusion q, fun xs q => PyData.noConfusion q⟩
  · have eq1 : sortBy PyData.str m = sortBy PyData.str l := sort_same (fun _ _ => inj_str) (pm.trans pb.symm)
    rw [eq1] at e
    have hv : Vals ((sortBy PyData.str l).map V.str) out.toList := by
      revert e
      generalize out.toList = os2
      generalize sortBy PyData.str l = bs2
      intro e
      induction e with
      | nil => exact .nil
      | cons h1 _ ih => exact .cons h1 ih
    have hsz : ((sortBy PyData.str l).map V.str).length ≤ sizeLine := by
      rw [List.length_map, (sort_perm _ l).length_eq]
      exact line_of (by omega)
    have hn : H p = none := I.hok.fresh hp
    have J : Inv X pins σ (upd H p (.lst ((sortBy PyData.str l).map V.str))) { s with heap := s'.heap, gens := s'.gens, drawn := s'.drawn, toks := s'.toks } :=
      I.call (ch := []) (Un.laid old hp hn) (I.hok.laid old hp ⟨hsz, out.toList, c, hv, hget⟩) (by rw [g]; exact I.bare) (fun _ z => nomatch z)
    have es' : s' = { s with heap := s'.heap, gens := s'.gens, drawn := s'.drawn, toks := s'.toks } := by
      cases s'
      cases s
      cases os
      rfl
    rw [es']
    exact ⟨.ref p, _, J, rfl, q p nd hn⟩
variable {p3 p4 : Pos}
/-- sorted({text for tg in iter}) -/
theorem ef_sortComp (own : List (Str × Nat)) (ys : List β) (enc : β → D) (us : β → List (Nat × D)) (f : β → Str) (hu : X.A.units + 64 < cLine) (hm : X.mg "sorted" = none) (hN : X.N.Nodup) (hi : EI X ρ G H tg iter (ys.map enc)) (hz : ys.length < 999) (hv : ∀ b ∈ ys, ∀ i ∈ (us b).map (·.1), i ∈ own.map (·.2))
    (hg : ∀ (s : Shared) (H0 : Hp) (C : Addr) (cl : List (Str × Addr)) (fp : List Addr), ∀ b ∈ ys, GA (X.blk s H0 scope (compEnvC scope cl C X.env) fp) tg (enc b) (us b))
    (he : ∀ (s : Shared) (H0 : Hp) (C : Addr) (cl : List (Str × Addr)) (fp : List Addr), ∀ b ∈ ys, EE (X.blk s H0 scope (compEnvC scope cl C X.env) fp) (setsR (wipeO ρ own) (us b)) G H elt (.d (.str (f b))))
    (hc : X.calm = true := by rfl) (ok : blkC X.N X.env.scope scope own = true := by kernel_rfl) (hs : ∀ x, foldedSetIterable iter X.env x = pure x := by intro _; rfl) (hgl : Gl X "sorted" := by rfl)
    (hs2 : starEach [.SetComp elt [⟨tg, iter, [], 0⟩] scope pos] X.env = (false, eval (.SetComp elt [⟨tg, iter, [], 0⟩] scope pos) X.env) :: starEach [] X.env := by rfl) (hpl : (backTo p4 (starEach [] X.env)).any (·.1) = false := by rfl) :
    EF X ρ G H (.Call (.Name "sorted" p3) [.SetComp elt [⟨tg, iter, [], 0⟩] scope pos] [] p4) ((sortBy PyData.str (uniq (ys.map f))).map .str) := fun G1 H1 σ g r Q q => by
  have pe : PE X (.SetComp elt [⟨tg, iter, [], 0⟩] scope pos) (tCc (fun d => TxO X.prog X.w d []) (wI X tg iter) (bG X scope tg) (bT X scope []) (rbS X scope elt) (List.map (fun x : Str × Nat => x.2) own)) := ⟨fun pins s σ H Q I h => by
    rw [eval_SetComp]
    exact cc_core (ob := newSetObj X.w) (gs := []) rfl blk_set (fun s Q E h => newSet_ok h) (fun H h hb => tx_new tx_fresh) rbS_ok hc hN I pi_w (blkOk_by ok) pg_b pts_b hs h fun d C s' m H' I' q hn f => end_val I' q hn f⟩
  refine w_pe (pe_callB (cr_sortTx hc hu) hgl hm (by decide +kernel) (pa_cons pe pa_nil hs2) (by decide) (by decide) hs2 hpl) ?_
  refine (show tCc (fun d => TxO X.prog X.w d []) (wI X tg iter) (bG X scope tg) (bT X scope []) (rbS X scope elt) (List.map (fun x : Str × Nat => x.2) own) σ H1 (fun x H2 => tNil σ H2 fun xs H3 => rSortTx X.prog X.w (x :: xs) H3 Q) from ?_)
  refine sc_rd (f := f) (vs := List.map (fun x : Str × Nat => x.2) own) hi (by omega) hv hg he g r fun a G2 H2 g2 ha ga e2 => ?_
  have hl := adds_len (ys.map f) []
  rw [List.length_map] at hl
  simp only [List.length_nil] at hl
  refine ⟨a, _, rfl, e2, by omega, fun p nd hp => ?_⟩
  refine q p _ G2 _ (g2.trans (.tmp g2.gh hp)) (g2.none' hp) (g2.gh.free hp) upd_same ?_
  have e3 : sortBy PyData.str ((ys.map f).foldl addS []) = sortBy PyData.str (uniq (ys.map f)) := sort_set (fun _ _ => inj_str) nd (uniq_nodup _) fun z => by rw [adds_mem, uniq_mem]; simp
  rw [e3]
  exact dp_strs _
end
end Rb
set_option Elab.async false
set_option linter.all false
set_option maxRecDepth 100000
set_option maxHeartbeats 4000000
/-! Calls with a keyword; name = [.. for .. for ..]. -/
namespace Rb
open PySem PySem.Spec PyProof.Rows L2
/-- a def with the keyword-only parameter supposed -/
def FnK (P : Program) (w : World) (K : PySem.W.Frag) (mg : Str → Option Value) (base : Heap) (x : Str) (k : Nat) (R : Hp → List SV → SV → Prop) : Prop :=
  ∃ f fd ps ds a, mg x = some (.ref f) ∧ PySem.W.keepIn K (.ref f) = true ∧ Binds K fd ps ds ∧ Vals [V.ref a] ds ∧ (∀ H, SqT K H a []) ∧ KBn K fd ps 2 [("supposed" : Str)] (fun us ws => us ++ ws) (fun vs zs => vs ++ zs) ∧ FnOk P w K mg base CX0 k f fd ps (spP K 3 R)
theorem FnK.up {P : Program} {w : World} {K : PySem.W.Frag} {mg : Str → Option Value} {base : Heap} {x : Str} {k j : Nat} {R : Hp → List SV → SV → Prop} (F : FnK P w K mg base x k R) (h : k ≤ j) : FnK P w K mg base x j R := by
  obtain ⟨f, fd, ps, ds, a, h1, h2, h3, h4, h5, h6, h7⟩ := F
  exact ⟨f, fd, ps, ds, a, h1, h2, h3, h4, h5, h6, h7.mono h⟩
/-- called without it -/
theorem FnK.two {P : Program} {w : World} {K : PySem.W.Frag} {mg : Str → Option Value} {base : Heap} {x : Str} {k : Nat} {R : Hp → List SV → SV → Prop} (F : FnK P w K mg base x k R) : ∃ a, (∀ H, SqT K H a []) ∧ Fn P w K mg base x k 3 [V.ref a] R := by
  obtain ⟨f, fd, ps, ds, a, h1, h2, h3, h4, h5, h6, h7⟩ := F
  exact ⟨a, h5, f, fd, ps, ds, h1, h2, h3, h4, h7⟩
section
variable {X : Cx} {ρ : Env} {G H : Hp} {e e2 c : Expr} {x : SV} {pos p' kpos : Pos} {nm : Str} {k : Nat} {R : Hp → List SV → SV → Prop}
/-- f(a, b) -/
theorem ee_call2 {y z : SV} (F : FnK X.prog X.w X.K X.mg X.base nm k R) (hr : Room k X.A) (ha : EE X ρ G H e y) (hb : EE X ρ G H e2 z) (hR : ∀ G1 H1, Gr G H G1 H1 → R G1 [y, z, .d (.tuple [])] x) (hg : Gl X nm := by rfl) (hdb : (nm == ("__debug__" : Str)) = false := by decide)
    (he : starEach [e, e2] X.env = (false, eval e X.env) :: starEach [e2] X.env := by rfl) (he2 : starEach [e2] X.env = (false, eval e2 X.env) :: starEach [] X.env := by rfl) (hpl : (backTo pos (starEach [e2] X.env)).any (·.1) = false := by rfl) : EE X ρ G H (.Call (.Name nm p') [e, e2] [] pos) x := by
  obtain ⟨a, h5, F'⟩ := F.two
  exact ee_callD (xs := [y, z]) (ys := [.d (.tuple [])]) F' hr (ea_cons ha (ea_cons hb ea_nil he2) he) (fun G => .cons (.tup (.inr ⟨rfl, h5 G⟩) .nil) .nil) hR rfl hg hdb he hpl
/-- f(a, b, supposed=c) -/
theorem ee_callK {y z u : SV} (F : FnK X.prog X.w X.K X.mg X.base nm k R) (hr : Room k X.A) (ha : EE X ρ G H e y) (hb : EE X ρ G H e2 z) (hc : EE X ρ G H c u) (hR : ∀ G1 H1, Gr G H G1 H1 → R G1 [y, z, u] x) (hg : Gl X nm := by rfl) (hdb : (nm == ("__debug__" : Str)) = false := by decide)
    (he : starEach [e, e2] X.env = (false, eval e X.env) :: starEach [e2] X.env := by rfl) (he2 : starEach [e2] X.env = (false, eval e2 X.env) :: starEach [] X.env := by rfl)
    (hall : (backToKw pos (keywordEach [⟨some "supposed", c, kpos⟩] X.env)).all (·.1.isSome) = true := by rfl) (hks : (backToKw pos (keywordEach [⟨some "supposed", c, kpos⟩] X.env)).filterMap (·.1) = [("supposed" : Str)] := by rfl)
    (hpl : ((backTo pos (starEach [e, e2] X.env)).any (·.1) || (backToKw pos (keywordEach [⟨some "supposed", c, kpos⟩] X.env)).any (·.1.isNone)) = false := by rfl) : EE X ρ G H (.Call (.Name nm p') [e, e2] [⟨some "supposed", c, kpos⟩] pos) x := fun G1 H1 σ g r Q q => by
  obtain ⟨f, fd, ps, ds, a, h1, h2, h3, h4, h5, h6, h7⟩ := F
  refine w_pe (pe_callN h7 hr hg h1 h2 h6 pass0 (pa_cons pe_w (pa_cons pe_w pa_nil he2) he) (pk_cons pe_w pk_nil) hall hks hdb he hpl) ?_
  refine ha G1 H1 σ g r _ fun v1 G2 H2 g2 r2 => hb G2 H2 σ (g.trans g2) (r.up g2.g) _ fun v2 G3 H3 g3 r3 => hc G3 H3 σ ((g.trans g2).trans g3) (r.up (g2.g.trans g3.g)) _ fun v3 G4 H4 g4 r4 => ?_
  have gg := g2.trans (g3.trans g4)
  exact ⟨rfl, rfl, G4, [y, z, u], x, g4.gh, .cons (r2.up (g3.g.trans g4.g)) (.cons (r3.up g4.g) (.cons r4 .nil)), rfl, hR G4 H4 (g.trans gg), fun v G5 H5 g5 r5 => q v G5 H5 (gg.trans g5) r5⟩
end
section
variable {P : Program} {w : World} {K : PySem.W.Frag} {mg : Str → Option Value} {base : Heap} {x : Str} {st : Stmt} {f a : Addr} {fd : FuncData} {N : List Str} {k m : Nat} {R : Hp → List SV → SV → Prop}
/-- THE RULE for such a def -/
theorem fn_kw (F : FunD K x x (defArgs st) (defBody st) (defScope st) [] [("supposed", .ref a)] f fd) (S : FnScope N ["book", "trusted", "supposed"] (defScope st)) (hm : N.length = m + 3) (hx : mg x = some (.ref f)) (h0 : ∀ H, SqT K H a [])
    (hb : ∀ (D : Addr) (doc pm : Value) (an : Option Addr) (cdv ct : Value) (u v d : Value), KwChain D [(("supposed" : Str), d)] (bindArgs (PySem.W.fnOf x x (defArgs st) (defBody st) (defScope st) .none (.ref D) doc pm an cdv ct) ⟨[u, v], []⟩) [(("book" : Str), u), (("trusted" : Str), v), (("supposed" : Str), d)])
    (hb2 : ∀ (kV doc pm : Value) (an : Option Addr) (cdv ct : Value) (u v c : Value), bindArgs (PySem.W.fnOf x x (defArgs st) (defBody st) (defScope st) .none kV doc pm an cdv ct) ⟨[u, v], [(("supposed" : Str), c)]⟩ = pure [(("book" : Str), u), (("trusted" : Str), v), (("supposed" : Str), c)])
    (body : ∀ (cdv : Value) (A : Around) (outer : List PySem.Env) (s : Shared) (H : Hp) (E : XK), Room k (bX P w K mg base N x st f cdv A outer s H E).A → ∀ (G : Hp) (xs : List SV) (y : SV) (Q : VK), R G xs y → xs.length = 3 → (∀ v G2 H2, Gr G H G2 H2 → SR K G2 v y → Q v H2) →
      SS (bX P w K mg base N x st f cdv A outer s H E) { nx := fun _ H' => Q .non H', rt := Q } (slots xs m) G H (defBody st)) : FnK P w K mg base x (k + 1) R := by
  obtain ⟨ds, hv, hbd⟩ := F.binds0 (ps := ["book", "trusted", "supposed"]) 2 (by simp) rfl fun D doc pm an cdv ct us ks hl hk => match us, ks, hl, hk with | [u, v], [d], _, _ => hb D doc pm an cdv ct u v d
  refine ⟨f, fd, _, ds, a, hx, F.kp, hbd, hv, h0, ⟨fun s us ws X l1 l2 => ?_, fun r1 r2 => r1.append r2⟩, F.ok S (fun vs H Q E h => ?_) fun cdv A outer s H vs Q E hr h => ?_⟩
  · obtain ⟨oc, od, dV, kV, doc, pm, an, cdv, ct, osl, rfl, lk, hcd, hD, hK⟩ := F.ex
    rcases hD with ⟨_, rfl⟩ | ⟨e, _⟩
    · match us, ws, l1, l2 with
      | [u, v], [c], _, _ => exact BindsTo.of_eq (hb2 kV doc pm an cdv ct u v c)
    · exact absurd rfl e
  · obtain ⟨G, xs, y, _, r, l, _⟩ := h
    rw [r.length, l] <;> rfl
  · obtain ⟨G, xs, y, gh, r, l, hR, q⟩ := h
    refine ⟨_, PSs.nox pss_w, body cdv A outer s H E hr G xs y Q hR l q gh _ ?_⟩
    unfold L2.start
    rw [r.length, l, hm, Nat.add_sub_cancel]
    exact ER.start r _
end
section
variable {X : Cx} {D : Ends} {ρ : Env} {G H : Hp} {tg iter tg1 iter1 elt : Expr} {ifs1 : List Expr} {scope : Scope} {pos p' lpos : Pos} {β γ : Type} {rest : List Stmt}
/-- name = [elt for .. for .. if ..] on one line -/
theorem ss_lc2 (i : Nat) {nm : Str} (own own1 : List (Str × Nat)) (n : Nat) (ys : List β) (zs : β → List γ) (enc : β → Rb.D) (enc1 : γ → Rb.D) (us : β → List (Nat × Rb.D)) (us1 : γ → List (Nat × Rb.D)) (p : β → γ → Bool) (f : β → γ → Rb.D) (hN : X.N.Nodup) (hi : EI X ρ G H tg iter (ys.map enc)) (hzz : ∀ b ∈ ys, (zs b).length ≤ n) (hz : ys.length * n < 100000)
    (hv : ∀ b ∈ ys, ∀ i ∈ (us b).map (·.1), i ∈ own.map (·.2)) (hv1 : ∀ b ∈ ys, ∀ c ∈ zs b, ∀ i ∈ (us1 c).map (·.1), i ∈ own1.map (·.2)) (hv2 : ∀ i ∈ own1.map (·.2), i ∈ own.map (·.2))
    (hg : ∀ (s : Shared) (H0 : Hp) (C : Addr) (cl : List (Str × Addr)) (fp : List Addr), ∀ b ∈ ys, GA (X.blk s H0 scope (compEnvC scope cl C X.env) fp) tg (enc b) (us b))
    (hi1 : ∀ (s : Shared) (H0 : Hp) (C : Addr) (cl : List (Str × Addr)) (fp : List Addr), ∀ b ∈ ys, EI (X.blk s H0 scope (compEnvC scope cl C X.env) fp) (setsR (wipeO ρ own) (us b)) G H tg1 iter1 ((zs b).map enc1))
    (hg1 : ∀ (s : Shared) (H0 : Hp) (C : Addr) (cl : List (Str × Addr)) (fp : List Addr), ∀ b ∈ ys, ∀ c ∈ zs b, GA (X.blk s H0 scope (compEnvC scope cl C X.env) fp) tg1 (enc1 c) (us1 c))
    (ht : ∀ (s : Shared) (H0 : Hp) (C : Addr) (cl : List (Str × Addr)) (fp : List Addr), ∀ b ∈ ys, ∀ c ∈ zs b, EP' (X.blk s H0 scope (compEnvC scope cl C X.env) fp) (setsR (wipeO (setsR (wipeO ρ own) (us b)) own1) (us1 c)) G H ifs1 (p b c))
    (he : ∀ (s : Shared) (H0 : Hp) (C : Addr) (cl : List (Str × Addr)) (fp : List Addr), ∀ b ∈ ys, ∀ c ∈ zs b, p b c = true → EE (X.blk s H0 scope (compEnvC scope cl C X.env) fp) (setsR (wipeO (setsR (wipeO ρ own) (us b)) own1) (us1 c)) G H elt (.d (f b c)))
    (q : ∀ G1 H1, Gr G H G1 H1 → SS X D (ρ.set i (some (.d (.list (ys.flatMap fun b => innerOf p f b (zs b)))))) G1 H1 rest)
    (hin : X.N[i]? = some nm := by rfl) (hyl : X.env.scope.names.lookup nm = some .local := by rfl) (hsw : swapsWith (.ListComp elt [⟨tg, iter, [], 0⟩, ⟨tg1, iter1, ifs1, 0⟩] scope lpos) (some (.Name nm p')) pos.line X.env = pure true := by exact sw_true rfl rfl rfl (by decide +kernel))
    (hc : X.calm = true := by rfl) (ok : blkC X.N X.env.scope scope own = true := by kernel_rfl) (hs : ∀ x, foldedSetIterable iter X.env x = pure x := by intro _; rfl) (hs1 : ∀ env x, foldedSetIterable iter1 env x = pure x := by intro _ _; rfl) :
    SS X D ρ G H (.Assign [.Name nm p'] (.ListComp elt [⟨tg, iter, [], 0⟩, ⟨tg1, iter1, ifs1, 0⟩] scope lpos) pos :: rest) := by
  refine ss_cons (ps_setLc2 (wi := wI X tg iter) (g := bG X scope tg) (tt := bT X scope []) (wi1 := bI X scope tg1 iter1) (g1 := bG X scope tg1) (tt1 := bT X scope ifs1) (te := bE X scope elt) (vs1 := List.map (fun x : Str × Nat => x.2) own1) hc hN hin hyl hsw pi_w (blkOk_by ok) hv2 pg_b pts_b pi_b pg_b pts_b pe_b hs hs1) fun s σ r => ?_
  refine lc2_rd (vs := List.map (fun x : Str × Nat => x.2) own) (vs1 := List.map (fun x : Str × Nat => x.2) own1) (n := n) (ys := ys) (zs := zs) (enc := enc) (enc1 := enc1) (us := us) (us1 := us1) (p := p) (f := f) hi hzz hz hv hv1 hg hi1 hg1 ht he (.refl s) r fun p' vs G1 H1 g hp gp e1 r1 => ?_
  have g2 := g.frz hp gp e1
  exact q _ H1 g2 g2.gh _ ((r.up g2.g).set (x := .d _) (show Dp X.K _ (.ref p') _ from .lst (SqL.of upd_same) (dps_up (same_new gp) _ _ r1)) i)
end
section
variable {X : Cx} {D : Ends} {ρ : Env} {G H : Hp} {tg iter kx vx : Expr} {scope : Scope} {pos p' lpos : Pos} {β κ : Type} [DecidableEq κ] {rest : List Stmt}
/-- name = {k: v for ..}, the name a cell -/
theorem ss_dcC (i : Nat) {n : Str} (own : List (Str × Nat)) (mk : List (κ × V) → HO) (ys : List β) (enc kd vd : β → Rb.D) (us : β → List (Nat × Rb.D)) (key : β → κ) (vv : β → V)
    (h0 : ∀ (H : Hp) (h : Heap), sysModules < h.objs.size → ObjOk X.prog X.w H (h.push { cls := .type "dict", data := .dict #[] }) h.objs.size (mk [])) (hu : X.A.units + 64 < cLine)
    (hput : ∀ (G H : Hp) (a : Addr) (kvs : List (κ × V)) (v y : V) (b : β), Same G H → H a = some (mk kvs) → Dp X.K G y (kd b) → kvs.length < sizeLine → DPut H a y v (upd H a (mk (putK kvs (key b) v))))
    (hvv : ∀ (G : Hp) (v : V) (b : β), Dp X.K G v (vd b) → v = vv b) (hN : X.N.Nodup) (hi : EI X ρ G H tg iter (ys.map enc)) (hz : ys.length < 100000) (hv : ∀ b ∈ ys, ∀ i ∈ (us b).map (·.1), i ∈ own.map (·.2))
    (hg : ∀ (s : Shared) (H0 : Hp) (C : Addr) (cl : List (Str × Addr)) (fp : List Addr), ∀ b ∈ ys, GA (X.blk s H0 scope (compEnvC scope cl C X.env) fp) tg (enc b) (us b))
    (hk : ∀ (s : Shared) (H0 : Hp) (C : Addr) (cl : List (Str × Addr)) (fp : List Addr), ∀ b ∈ ys, EE (X.blk s H0 scope (compEnvC scope cl C X.env) fp) (setsR (wipeO ρ own) (us b)) G H kx (.d (kd b)))
    (he : ∀ (s : Shared) (H0 : Hp) (C : Addr) (cl : List (Str × Addr)) (fp : List Addr), ∀ b ∈ ys, EE (X.blk s H0 scope (compEnvC scope cl C X.env) fp) (setsR (wipeO ρ own) (us b)) G H vx (.d (vd b)))
    (q : ∀ p' G1 H1, Gr G H G1 H1 → G1 p' = some (mk (ys.foldl (fun m b => putK m (key b) (vv b)) [])) → SS X D (ρ.set i (some (.v (.ref p')))) G1 H1 rest)
    (hin : X.N[i]? = some n := by rfl) (hx : Loc X.env.scope n := by first | exact Or.inl rfl | exact Or.inr rfl) (hsw : swapsWith (.DictComp kx vx [⟨tg, iter, [], 0⟩] scope lpos) (some (.Name n p')) pos.line X.env = pure false := by rfl)
    (hf : X.fn n = true ∨ X.env.scope.names.lookup n = some .local := by first | exact .inl rfl | exact .inr rfl) (hc : X.calm = true := by rfl) (ok : blkC X.N X.env.scope scope own = true := by kernel_rfl) (hs : ∀ x, foldedSetIterable iter X.env x = pure x := by intro _; rfl) :
    SS X D ρ G H (.Assign [.Name n p'] (.DictComp kx vx [⟨tg, iter, [], 0⟩] scope lpos) pos :: rest) := by
  have pe : PE X (.DictComp kx vx [⟨tg, iter, [], 0⟩] scope lpos) (tCc (fun _ => mk []) (wI X tg iter) (bG X scope tg) (bT X scope []) (rbD X scope kx vx) (List.map (fun x : Str × Nat => x.2) own)) := ⟨fun pins s σ H Q I h => by
    rw [arm_eval_DictComp]
    exact cc_core (ob := { cls := .type "dict", data := .dict #[] }) (gs := []) rfl blk_dict (fun s Q E h => wpAny_newObj_type h) (fun H h hb => h0 H h hb) (rbD_ok (by omega)) hc hN I pi_w (blkOk_by ok) pg_b pts_b hs h fun d C s' m H' I' q hn f => end_val I' q hn f⟩
  refine ss_cons (ps_set hN hin hx pe hsw hf) fun s σ r => ?_
  refine (show tCc (fun _ => mk []) (wI X tg iter) (bG X scope tg) (bT X scope []) (rbD X scope kx vx) (List.map (fun x : Str × Nat => x.2) own) σ H (fun x H1 => wSs X rest D (σ.set i (some x)) H1) from ?_)
  refine dc_rd hi hz hv hput hvv hg hk he (.refl s) r fun p G1 H1 g hp gp e1 => ?_
  have g2 := g.frz hp gp e1
  exact q p _ H1 g2 upd_same g2.gh _ ((r.up g2.g).set (x := .v (.ref p)) rfl i)
end
end Rb
set_option Elab.async false
set_option linter.all false
set_option maxRecDepth 100000
set_option maxHeartbeats 4000000
namespace Rb
open PySem PySem.Spec PyProof.Rows L2
inductive Clash where
  | parted (k m : Nat) | unlike (f a b : Str)
def eC : Clash → D
  | .parted k m => .tuple [.str "parted", .int (k : Nat), .int (m : Nat)]
  | .unlike f a b => .tuple [.str "unlike", .str f, .str a, .str b]
theorem eC_depth (c : Clash) : (eC c).depth ≤ 50 := by cases c <;> simp [eC, PyData.depth, PyData.depthAll]
theorem eC_tagged (cs : List Clash) : Tagged (cs.map eC) where
  tup := fun d hd => by
    obtain ⟨c, _, rfl⟩ := List.mem_map.mp hd
    cases c <;> exact ⟨_, _, rfl⟩
  one := fun t r r' h1 h2 => by
    obtain ⟨c, _, e1⟩ := List.mem_map.mp h1
    obtain ⟨c', _, e2⟩ := List.mem_map.mp h2
    cases c <;> cases c' <;> simp only [eC, PyData.tuple.injEq, List.cons.injEq, PyData.str.injEq] at e1 e2
    · rw [← e1.2, ← e2.2]; simp [PySem.W.alike, PySem.W.alikeAll]
    · rw [← e1.1] at e2
      exact absurd e2.1 (by decide)
    · rw [← e1.1] at e2
      exact absurd e2.1 (by decide)
    · rw [← e1.2, ← e2.2]; simp [PySem.W.alike, PySem.W.alikeAll]
/-- the dict {fact: True for fact in facts} -/
theorem know_fold (fs : List Fact) : Know (fs.foldl (fun m f => putK m (kF f) (V.bl true)) []) fs := fun f => by
  rw [valV_fold (fun f : Fact => kF f) (fun _ => V.bl true) (kF f) fs []]
  have e0 : valV ([] : List (List L2.Key × V)) (kF f) = none := rfl
  rw [e0, Option.or_none, Option.isSome_map]
  by_cases hf : f ∈ fs
  · rw [decide_eq_true hf, List.find?_isSome]
    exact ⟨f, List.mem_reverse.mpr hf, by simp⟩
  · rw [decide_eq_false hf]
    cases e : fs.reverse.find? fun b => decide (kF b = kF f) with
    | none => rfl
    | some g =>
      have h1 := List.find?_some e
      have h2 := List.mem_reverse.mp (List.mem_of_find?_eq_some e)
      exact absurd (by rw [← kF_inj (of_decide_eq_true h1)]; exact h2) hf
def filesOf (fs : List Fact) : List Str := sortBy PyData.str (uniq (fs.map (·.1)))
def unlikeIn (fs : List Fact) (file : Str) (u : Str × Str) : Bool := decide ((file, u.1) ∈ fs) && decide ((file, u.2) ∈ fs)
def clashList (b : Book) (tr : List Str) (fs : List Fact) : List Clash := (partedOf b tr fs).map (fun q => .parted q.1 q.2) ++ (filesOf fs).flatMap fun file => (b.unl.filter (unlikeIn fs file)).map fun u => .unlike file u.1 u.2
theorem uniq_len {α : Type} [DecidableEq α] (l : List α) : (uniq l).length ≤ l.length := (uniq_nodup l).length_le_of_subset fun x hx => uniq_mem.mp hx
theorem files_len (fs : List Fact) : (filesOf fs).length ≤ fs.length := by
  unfold filesOf
  rw [(sort_perm _ _).length_eq]
  have := uniq_len (fs.map (·.1))
  rw [List.length_map] at this
  exact this
theorem parted_len {b : Book} (hb : b.Small) (tr : List Str) (fs : List Fact) : (partedOf b tr fs).length ≤ 40000 := by
  have h0 := mine_len b tr
  have h1 := hb.blds
  have h2 := flat_len (f := fun k => ((mineOf b tr).filter (pairIn b fs k)).map fun m => (k, m)) (c := 200) (l := mineOf b tr) fun k _ => by
    rw [List.length_map]
    have := List.length_filter_le (pairIn b fs k) (mineOf b tr)
    omega
  have h3 : (mineOf b tr).length * 200 ≤ 200 * 200 := Nat.mul_le_mul_right _ (by omega)
  exact Nat.le_trans h2 (by omega)
theorem unlike_len {b : Book} (hb : b.Small) {fs : List Fact} (hf : fs.length ≤ 46) : ((filesOf fs).flatMap fun file => (b.unl.filter (unlikeIn fs file)).map fun u => Clash.unlike file u.1 u.2).length ≤ 46000 := by
  have h1 := hb.unl
  have h2 := flat_len (f := fun file => (b.unl.filter (unlikeIn fs file)).map fun u => Clash.unlike file u.1 u.2) (c := 1000) (l := filesOf fs) fun k _ => by
    rw [List.length_map]
    have := List.length_filter_le (unlikeIn fs k) b.unl
    omega
  have h3 : (filesOf fs).length * 1000 ≤ 46 * 1000 := Nat.mul_le_mul_right _ (Nat.le_trans (files_len fs) hf)
  exact Nat.le_trans h2 (by omega)
variable {P : Program} {w : World} {K : PySem.W.Frag} {mg : Str → Option Value} {base : Heap} {f : Addr} {fd : FuncData}
def R_among : Hp → List SV → SV → Prop := fun _ xs y => ∃ (b : Book) (tr : List Str) (fs : List Fact), xs = [.d (eK b), .d (eSs tr), .d (.tuple (fs.map eU))] ∧ b.Small ∧ fs.length ≤ 46 ∧ y = .d (.tuple ((sortBy eC (clashList b tr fs)).map eC))
theorem fn_clashes_among (T : Gf mg) (F : FD K "clashes_among" s_clashes_among f fd) (hx : mg "clashes_among" = some (.ref f)) (C1 : FnL P w K mg base "parted_pairs" 2 3 R_parted) : Fn P w K mg base "clashes_among" 3 3 [] R_among := by
  refine fn_pure F sc_clashes_among rfl rfl hx (F.bindsN fun _ _ _ _ _ _ us hl => match us, hl with | [_, _, _], _ => rfl) .nil fun cdv A outer s H E hr G xs y Q hR hl q => ?_
  obtain ⟨b, tr, fs, rfl, hb, hf, rfl⟩ := hR
  have hfl := files_len fs
  refine ss_dcC 3 [("fact", 4)] .dT fs eU eU (fun _ => .bool true) (fun f => [(4, eU f)]) (fun f : Fact => kF f) (fun _ => V.bl true) (fun H h hb => dt_empty h hb) hr.units (put_F fun f : Fact => f) (fun G v q h => sr_bl h) sc_clashes_among.nd (ei_tup (ee_nm 2)) (by omega) (fun _ _ i hi => hi) (fun _ _ _ _ _ z _ => ga_nm 4 sc_clashes_among.nd) (fun _ _ _ _ _ z _ => ee_nm 4) (fun _ _ _ _ _ z _ => ee_bl) fun p G1 H1 g1 e1 => ss_same fun s1 => ?_
  have hK := know_fold fs
  generalize (fs.foldl (fun m f => putK m (kF f) (V.bl true)) []) = kvs at e1 hK
  have hp1 : H1 p = some (.dT kvs) := s1 _ _ e1
  refine ss_set (x := .d (.list ((filesOf fs).map .str))) 5 sc_clashes_among.nd (EF.ee (ef_sortComp [("file", 6), ("source", 7)] fs eU (fun f => [(6, .str f.1), (7, .str f.2)]) (fun f => f.1) hr.units T.sorted sc_clashes_among.nd (ei_tup (ee_nm 2)) (by omega) (fun _ _ i hi => hi) (fun _ _ _ _ _ z _ => ga_tup rfl (gas_cons (ga_nm 6 sc_clashes_among.nd) (gas_cons (ga_nm 7 sc_clashes_among.nd) gas_nil))) (fun _ _ _ _ _ z _ => ee_nm 6))) fun G2 H2 g2 => ?_
  have hp2 := g2.h _ _ hp1
  refine ss_lc2 8 [("file", 6), ("one", 9), ("other", 10)] [("one", 9), ("other", 10)] 1000 (filesOf fs) (fun _ => b.unl) (fun z => .str z) eU (fun z => [(6, .str z)]) (fun u => [(9, .str u.1), (10, .str u.2)]) (fun file u => unlikeIn fs file u) (fun file u => eC (.unlike file u.1 u.2)) sc_clashes_among.nd (ei_list (ee_nm 5)) (fun _ _ => Nat.le_of_lt hb.unl) (by
      have : (filesOf fs).length * 1000 ≤ 46 * 1000 := Nat.mul_le_mul_right _ (Nat.le_trans hfl hf)
      omega) (fun _ _ i hi => by simp at hi; simp [hi]) (fun _ _ _ _ i hi => hi) (fun i hi => by simp at hi; rcases hi with h | h <;> simp [h]) (fun _ _ _ _ _ z _ => ga_nm 6 sc_clashes_among.nd) (fun _ _ _ _ _ z _ => ei_tup (ee_at 2 (ee_nm 0))) (fun _ _ _ _ _ z _ c _ => ga_tup rfl (gas_cons (ga_nm 9 sc_clashes_among.nd) (gas_cons (ga_nm 10 sc_clashes_among.nd) gas_nil)))
      (fun _ _ _ _ _ z hz c hc => ep_one (ET.to (et_w (ew_and (et_cmp (ee_pair (x := .str z) (y := .str c.1) (ee_nm 6) (ee_nm 9)) (ee_nm 3) fun _ _ g => od_inF (f := (z, c.1)) hr.units hp2 g) fun _ => ew_and1 (et_cmp (ee_pair (x := .str z) (y := .str c.2) (ee_nm 6) (ee_nm 10)) (ee_nm 3) fun _ _ g => od_inF (f := (z, c.2)) hr.units hp2 g))) (by rw [hK, hK] <;> rfl)))
      (fun _ _ _ _ _ z hz c hc _ => ee_tup (ds := [.str "unlike", .str z, .str c.1, .str c.2]) (ea_cons ee_str (ea_cons (ee_nm 6) (ea_cons (ee_nm 9) (ea_cons (ee_nm 10) ea_nil))))) fun G3 H3 g3 => ?_
  have eun : ((filesOf fs).flatMap fun b_1 => innerOf (fun file u => unlikeIn fs file u) (fun file u => eC (.unlike file u.1 u.2)) b_1 b.unl) = ((filesOf fs).flatMap fun file => (b.unl.filter (unlikeIn fs file)).map fun u => Clash.unlike file u.1 u.2).map eC := by
    unfold innerOf
    rw [List.map_flatMap]
    congr 1
    funext k
    rw [List.map_map] <;> rfl
  rw [eun]
  refine ss_lc 11 [("k", 12), ("m", 13)] (partedOf b tr fs) ePr (fun q => [(12, .int (q.1 : Nat)), (13, .int (q.2 : Nat))]) (fun _ => true) (fun q => eC (.parted q.1 q.2)) sc_clashes_among.nd (ei_list (EF.ee (ef_call C1 hr (ea_cons (ee_nm 0) (ea_cons (ee_nm 1) (ea_cons (ee_nm 3) ea_nil))) fun G9 H9 g9 => ⟨b, tr, p, kvs, fs, rfl, hb, g9.g _ _ (g3.g _ _ (g2.g _ _ e1)), hK, rfl⟩))) (by have := parted_len hb tr fs; omega) (fun _ _ i hi => hi)
    (fun _ _ _ _ _ z _ => ga_tup rfl (gas_cons (ga_nm 12 sc_clashes_among.nd) (gas_cons (ga_nm 13 sc_clashes_among.nd) gas_nil))) (fun _ _ _ _ _ z _ => ep_nil) (fun _ _ _ _ _ z _ _ => ee_tup (ds := [.str "parted", .int (z.1 : Nat), .int (z.2 : Nat)]) (ea_cons ee_str (ea_cons (ee_nm 12) (ea_cons (ee_nm 13) ea_nil)))) fun G4 H4 g4 => ?_
  rw [filter_yes]
  have epa : (partedOf b tr fs).map (fun q => eC (.parted q.1 q.2)) = ((partedOf b tr fs).map fun q => Clash.parted q.1 q.2).map eC := by rw [List.map_map] <;> rfl
  rw [epa]
  have hlen : (clashList b tr fs).length ≤ 100000 := by
    have h1 := parted_len hb tr fs
    have h2 := unlike_len hb hf
    unfold clashList
    rw [List.length_append, List.length_map]
    omega
  have hcl : (clashList b tr fs).map eC = ((partedOf b tr fs).map fun q => Clash.parted q.1 q.2).map eC ++ ((filesOf fs).flatMap fun file => (b.unl.filter (unlikeIn fs file)).map fun u => Clash.unlike file u.1 u.2).map eC := by
    unfold clashList
    rw [List.map_append]
  refine ss_ret (x := .d (.tuple ((sortBy eC (clashList b tr fs)).map eC))) (ee_tupOf T.tuple (EF.ee (ef_callB T.sorted (by decide +kernel) (ea_cons (x := .d (.list ((clashList b tr fs).map eC))) (EF.ee (ef_lst (EA.to (ea_starL (ee_nm 11) (ea_starL (ee_nm 8) ea_nil)) ?_) (by rw [List.length_map]; exact hlen))) ea_nil) fun _ _ g => cf_sortedTag hr.units (eC_tagged _) hlen eC_depth g))) fun v G5 H5 g5 r5 => q v G5 H5 (g1.trans (g2.trans (g3.trans (g4.trans g5)))) r5
  rw [hcl, List.map_append, List.append_nil]
end Rb
set_option Elab.async false
set_option linter.all false
set_option maxRecDepth 100000
set_option maxHeartbeats 4000000
namespace Rb
open PySem PySem.Spec PyProof.Rows L2
/-! ### what derived gives -/
theorem closeP_ok {b : Book} {tr F S : List Str} (U : Univ b F S) : ∀ (n : Nat) (p : List Fact × List D), InU F S p.1 → p.1.Nodup → InU F S (closeP b tr n p).1 ∧ (closeP b tr n p).1.Nodup
  | 0, p, h1, h2 => ⟨h1, h2⟩
  | n + 1, p, h1, h2 => by
    cases hn : nextOf b tr p.1 with
    | nil => rw [closeP_done hn]; exact ⟨h1, h2⟩
    | cons q l =>
      rw [closeP_more hn]
      obtain ⟨k1, k2⟩ := next_nodup (tr := tr) U h1 h2
      exact closeP_ok U n _ k1 k2
theorem closeP_end {b : Book} {tr F S : List Str} (U : Univ b F S) : ∀ (n : Nat) (p : List Fact × List D), InU F S p.1 → p.1.Nodup → 47 ≤ n + p.1.length → nextOf b tr (closeP b tr n p).1 = []
  | 0, p, h1, h2, h3 => by
    have := Nat.le_trans (inU_len h1 h2) U.few
    omega
  | n + 1, p, h1, h2, h3 => by
    cases hn : nextOf b tr p.1 with
    | nil => rw [closeP_done hn]; exact hn
    | cons q l =>
      rw [closeP_more hn]
      obtain ⟨k1, k2⟩ := next_nodup (tr := tr) U h1 h2
      refine closeP_end U n _ k1 k2 ?_
      show 47 ≤ n + (p.1 ++ (nextOf b tr p.1).map (·.1)).length
      rw [List.length_append, List.length_map, hn, List.length_cons]
      omega
theorem closeP_sound {b : Book} {tr : List Str} {sup : List Fact} : ∀ (n : Nat) (p : List Fact × List D), (∀ f ∈ p.1, Drv b tr sup f) → ∀ f ∈ (closeP b tr n p).1, Drv b tr sup f
  | 0, p, h => h
  | n + 1, p, h => by
    cases hn : nextOf b tr p.1 with
    | nil => rw [closeP_done hn]; exact h
    | cons q l =>
      rw [closeP_more hn]
      refine closeP_sound n _ fun f hf => ?_
      rcases List.mem_append.mp hf with hf | hf
      · exact h f hf
      · obtain ⟨q, hq, rfl⟩ := List.mem_map.mp hf
        exact Drv.step (((next_ok (b := b) (tr := tr) (fs := p.1)).1.step q hq).mono fun g hg => h g hg)
theorem closeP_sub {b : Book} {tr : List Str} : ∀ (n : Nat) (p : List Fact × List D), ∀ f ∈ p.1, f ∈ (closeP b tr n p).1
  | 0, p => fun f hf => hf
  | n + 1, p => fun f hf => by
    cases hn : nextOf b tr p.1 with
    | nil => rw [closeP_done hn]; exact hf
    | cons q l =>
      rw [closeP_more hn]
      exact closeP_sub n _ f (List.mem_append_left _ hf)
/-- what a call is given -/
structure Fine (b : Book) (tr : List Str) (sup : List Fact) (F S : List Str) : Prop where
  small : b.Small
  few : b.srcs.length < 64
  trust : b.Trust tr
  supp : b.Supp sup
  univ : Univ b F S
  inU : InU F S sup
  nd : sup.Nodup
section
variable {b : Book} {tr : List Str} {sup : List Fact} {F S : List Str}
theorem der_inU (h : Fine b tr sup F S) : InU F S (derOf b tr sup).1 ∧ (derOf b tr sup).1.Nodup := closeP_ok h.univ 47 _ h.inU h.nd
theorem der_len (h : Fine b tr sup F S) : (derOf b tr sup).1.length ≤ 46 := Nat.le_trans (inU_len (der_inU h).1 (der_inU h).2) h.univ.few
theorem der_iff (h : Fine b tr sup F S) (f : Fact) : f ∈ (derOf b tr sup).1 ↔ Drv b tr sup f := by
  refine drv_iff (closeP_sub 47 _) (closeP_sound 47 _ fun g hg => Drv.sup hg) (fun g hg => ?_) f
  have hnil := closeP_end (tr := tr) h.univ 47 (sup, supSteps sup.length) h.inU h.nd (by omega)
  rcases Classical.em (g ∈ (derOf b tr sup).1) with c | c
  · exact c
  · have := (next_ok (b := b) (tr := tr) (fs := (derOf b tr sup).1)).2 g c hg
    rw [show nextOf b tr (derOf b tr sup).1 = [] from hnil] at this
    cases this
end
/-- the facts, sorted -/
def factsOf (b : Book) (tr : List Str) (sup : List Fact) : List Fact := sortBy eU (derOf b tr sup).1
theorem facts_len {b : Book} {tr : List Str} {sup : List Fact} {F S : List Str} (h : Fine b tr sup F S) : (factsOf b tr sup).length ≤ 46 := by
  unfold factsOf
  rw [(sort_perm _ _).length_eq]
  exact der_len h
variable {P : Program} {w : World} {K : PySem.W.Frag} {mg : Str → Option Value} {base : Heap} {f a : Addr} {fd : FuncData}
def R_facts_of : Hp → List SV → SV → Prop := fun _ xs y => ∃ (b : Book) (tr : List Str) (sup : List Fact) (F S : List Str), xs = [.d (eK b), .d (eSs tr), .d (.tuple (sup.map eU))] ∧ Fine b tr sup F S ∧ y = .d (.tuple ((factsOf b tr sup).map eU))
abbrev FDK (K : PySem.W.Frag) (x : Str) (st : Stmt) (a f : Addr) (fd : FuncData) : Prop := FunD K x x (defArgs st) (defBody st) (defScope st) [] [("supposed", .ref a)] f fd
theorem fn_facts_of (T : Gf mg) (F : FDK K "facts_of" s_facts_of a f fd) (h0 : ∀ H, SqT K H a []) (hx : mg "facts_of" = some (.ref f)) (C1 : Fn P w K mg base "need_parties" 4 3 [] R_parties) (C2 : Fn P w K mg base "need_supposed" 5 2 [] R_supposed) (C3 : Fn P w K mg base "derived" 4 3 [] R_derived) : FnK P w K mg base "facts_of" 6 R_facts_of := by
  refine fn_kw F sc_facts_of rfl hx h0 (fun _ _ _ _ _ _ _ _ _ => ⟨_, _, _, _, _, _, rfl, rfl, rfl⟩) (fun _ _ _ _ _ _ _ _ _ => rfl) fun cdv A outer s H E hr G xs y Q hR hl q => ?_
  obtain ⟨b, tr, sup, Fi, So, rfl, hf, rfl⟩ := hR
  refine ss_drop (x := .d .none) (ee_call C1 (hr.mono (by decide)) (ea_cons (ee_nm 0) (ea_cons (ee_nm 1) (ea_cons ee_str ea_nil))) fun _ _ _ => ⟨b, tr, _, rfl, hf.trust, rfl⟩) fun G1 H1 g1 => ?_
  refine ss_drop (x := .d .none) (ee_call C2 hr (ea_cons (ee_nm 0) (ea_cons (ee_nm 2) ea_nil)) fun _ _ _ => ⟨b, sup, rfl, hf.supp, rfl⟩) fun G2 H2 g2 => ?_
  have hlen := der_len hf
  refine ss_ret (x := .d (.tuple ((factsOf b tr sup).map eU))) (ee_tupOf T.tuple (EF.ee (ef_callB T.sorted (by decide +kernel) (ea_cons (x := .d (.list ((derOf b tr sup).1.map eU))) (ee_at 0 (ee_call C3 (hr.mono (by decide)) (ea_cons (ee_nm 0) (ea_cons (ee_nm 1) (ea_cons (ee_nm 2) ea_nil))) fun _ _ _ => ⟨b, tr, sup, Fi, So, rfl, hf.small, hf.univ, hf.inU, hf.nd, rfl⟩)) ea_nil)
    fun _ _ g => cf_sorted hr.units eU_alike (PySem.W.Sortable.tuples fun x => ⟨_, _, rfl⟩) (by omega) (fun x => by simp [eU, PyData.depth, PyData.depthAll]) g))) fun v G5 H5 g5 r5 => q v G5 H5 (g1.trans (g2.trans g5)) r5
/-- the clashes -/
def R_clashes_of : Hp → List SV → SV → Prop := fun _ xs y => ∃ (b : Book) (tr : List Str) (sup : List Fact) (F S : List Str), xs = [.d (eK b), .d (eSs tr), .d (.tuple (sup.map eU))] ∧ Fine b tr sup F S ∧ y = .d (.tuple ((sortBy eC (clashList b tr (factsOf b tr sup))).map eC))
theorem fn_clashes_of (F : FDK K "clashes_of" s_clashes_of a f fd) (h0 : ∀ H, SqT K H a []) (hx : mg "clashes_of" = some (.ref f)) (C1 : FnK P w K mg base "facts_of" 6 R_facts_of) (C2 : Fn P w K mg base "clashes_among" 3 3 [] R_among) : FnK P w K mg base "clashes_of" 7 R_clashes_of := by
  refine fn_kw F sc_clashes_of rfl hx h0 (fun _ _ _ _ _ _ _ _ _ => ⟨_, _, _, _, _, _, rfl, rfl, rfl⟩) (fun _ _ _ _ _ _ _ _ _ => rfl) fun cdv A outer s H E hr G xs y Q hR hl q => ?_
  obtain ⟨b, tr, sup, Fi, So, rfl, hf, rfl⟩ := hR
  refine ss_set (x := .d (.tuple ((factsOf b tr sup).map eU))) 3 sc_clashes_of.nd (ee_callK C1 hr (ee_nm 0) (ee_nm 1) (ee_nm 2) fun _ _ _ => ⟨b, tr, sup, Fi, So, rfl, hf, rfl⟩) fun G1 H1 g1 => ?_
  exact ss_ret (ee_call C2 (hr.mono (by decide)) (ea_cons (ee_nm 0) (ea_cons (ee_nm 1) (ea_cons (ee_nm 3) ea_nil))) fun _ _ _ => ⟨b, tr, _, rfl, hf.small, facts_len hf, rfl⟩) fun v G5 H5 g5 r5 => q v G5 H5 (g1.trans g5) r5
/-- no clash -/
def calmB (b : Book) (tr : List Str) (sup : List Fact) : Bool := (clashList b tr (factsOf b tr sup)).isEmpty
def R_calm : Hp → List SV → SV → Prop := fun _ xs y => ∃ (b : Book) (tr : List Str) (sup : List Fact) (F S : List Str), xs = [.d (eK b), .d (eSs tr), .d (.tuple (sup.map eU))] ∧ Fine b tr sup F S ∧ y = .d (.bool (calmB b tr sup))
theorem fn_is_calm (T : Gf mg) (F : FDK K "is_calm" s_is_calm a f fd) (h0 : ∀ H, SqT K H a []) (hx : mg "is_calm" = some (.ref f)) (C1 : FnK P w K mg base "clashes_of" 7 R_clashes_of) : FnK P w K mg base "is_calm" 8 R_calm := by
  refine fn_kw F sc_is_calm rfl hx h0 (fun _ _ _ _ _ _ _ _ _ => ⟨_, _, _, _, _, _, rfl, rfl, rfl⟩) (fun _ _ _ _ _ _ _ _ _ => rfl) fun cdv A outer s H E hr G xs y Q hR hl q => ?_
  obtain ⟨b, tr, sup, Fi, So, rfl, hf, rfl⟩ := hR
  refine ss_ret (x := .d (.bool (calmB b tr sup))) (EE.to (ee_cmp (ee_lenT T.len (ee_callK C1 hr (ee_nm 0) (ee_nm 1) (ee_nm 2) fun _ _ _ => ⟨b, tr, sup, Fi, So, rfl, hf, rfl⟩)) ee_int fun _ _ g => od_eqI g) ?_) q
  unfold calmB
  rw [List.length_map, (sort_perm _ _).length_eq]
  cases clashList b tr (factsOf b tr sup) with
  | nil => rfl
  | cons c l =>
    show SV.d (.bool (decide (((c :: l).length : Nat) = (0 : Int)))) = _
    rw [decide_eq_false (by rw [List.length_cons]; omega)] <;> rfl
/-! ### the classes -/
def lastFile (fs : List Fact) (z : Str) : Option Str := (fs.reverse.find? fun f => decide (f.2 = z)).map (·.1)
def classOf (fs : List Fact) (z : Str) : List Str := match lastFile fs z with
  | none => [z]
  | some file => (fs.filter fun f => decide (f.1 = file)).map (·.2)
def classesOf (b : Book) (fs : List Fact) : List (List Str) := sortBy eSs (uniq (b.names.map (classOf fs)))
theorem last_mem {fs : List Fact} {z file : Str} (h : lastFile fs z = some file) : (file, z) ∈ fs := by
  unfold lastFile at h
  cases e : fs.reverse.find? fun f => decide (f.2 = z) with
  | none => rw [e] at h; cases h
  | some g =>
    rw [e] at h
    have h1 : g.2 = z := of_decide_eq_true (List.find?_some (p := fun f : Fact => decide (f.2 = z)) e)
    have h2 := List.mem_reverse.mp (List.mem_of_find?_eq_some e)
    have h3 : g.1 = file := Option.some.inj h
    rw [← h1, ← h3]
    exact h2
theorem class_ne (fs : List Fact) (z : Str) : classOf fs z ≠ [] := by
  unfold classOf
  cases h : lastFile fs z with
  | none => exact fun e => nomatch e
  | some file =>
    intro e
    have := last_mem h
    have h2 : z ∈ (fs.filter fun f => decide (f.1 = file)).map (·.2) := List.mem_map.mpr ⟨(file, z), List.mem_filter.mpr ⟨this, by simp⟩, rfl⟩
    rw [show (fs.filter fun f => decide (f.1 = file)).map (·.2) = [] from e] at h2
    cases h2
def R_classes_of : Hp → List SV → SV → Prop := fun _ xs y => ∃ (b : Book) (tr : List Str) (sup : List Fact) (F S : List Str), xs = [.d (eK b), .d (eSs tr), .d (.tuple (sup.map eU))] ∧ Fine b tr sup F S ∧ y = .d (.tuple ((classesOf b (factsOf b tr sup)).map eSs))
theorem fn_classes_of (T : Gf mg) (F : FDK K "classes_of" s_classes_of a f fd) (h0 : ∀ H, SqT K H a []) (hx : mg "classes_of" = some (.ref f)) (C1 : FnK P w K mg base "facts_of" 6 R_facts_of) (C2 : Fn P w K mg base "source_names" 1 1 [] R_source_names) : FnK P w K mg base "classes_of" 7 R_classes_of := by
  refine fn_kw F sc_classes_of rfl hx h0 (fun _ _ _ _ _ _ _ _ _ => ⟨_, _, _, _, _, _, rfl, rfl, rfl⟩) (fun _ _ _ _ _ _ _ _ _ => rfl) fun cdv A outer s H E hr G xs y Q hR hl q => ?_
  obtain ⟨b, tr, sup, Fi, So, rfl, hf, rfl⟩ := hR
  refine ss_set (x := .d (.tuple ((factsOf b tr sup).map eU))) 3 sc_classes_of.nd (ee_callK C1 hr (ee_nm 0) (ee_nm 1) (ee_nm 2) fun _ _ _ => ⟨b, tr, sup, Fi, So, rfl, hf, rfl⟩) fun G1 H1 g1 => ?_
  have hfl := facts_len hf
  generalize factsOf b tr sup = fs at hfl q
  refine ss_dcC 4 [("file", 5), ("source", 6)] .dK fs eU (fun f => .str f.2) (fun f => .str f.1) (fun f => [(5, .str f.1), (6, .str f.2)]) (fun f : Fact => kS f.2) (fun f => V.str f.1) (fun H h hb => dk_empty h hb) hr.units (put_Z fun f : Fact => f.2) (fun G v q h => sr_str h) sc_classes_of.nd (ei_tup (ee_nm 3)) (by omega) (fun _ _ i hi => hi)
    (fun _ _ _ _ _ z _ => ga_tup rfl (gas_cons (ga_nm 5 sc_classes_of.nd) (gas_cons (ga_nm 6 sc_classes_of.nd) gas_nil))) (fun _ _ _ _ _ z _ => ee_nm 6) (fun _ _ _ _ _ z _ => ee_nm 5) fun p G2 H2 g2 e2 => ss_same fun s2 => ?_
  have hM : ∀ z, valV (fs.foldl (fun m (f : Fact) => putK m (kS f.2) (V.str f.1)) []) (kS z) = (lastFile fs z).map V.str := fun z => by
    rw [valV_fold (fun f : Fact => kS f.2) (fun f => V.str f.1) (kS z) fs []]
    have e0 : valV ([] : List (L2.Key × V)) (kS z) = none := rfl
    rw [e0, Option.or_none]
    unfold lastFile
    have e : (fun b : Fact => decide (kS b.2 = kS z)) = fun b : Fact => decide (b.2 = z) := by
      funext b
      exact decide_eq_decide.mpr ⟨fun h => kS_inj h, fun h => by rw [h]⟩
    rw [e, Option.map_map]
    rfl
  generalize (fs.foldl (fun m (f : Fact) => putK m (kS f.2) (V.str f.1)) []) = kvs at e2 hM
  have hp2 : H2 p = some (.dK kvs) := s2 _ _ e2
  refine ss_newL 7 sc_classes_of.nd fun l G3 H3 g3 hl3 own3 => ?_
  have hl0 : H l = none := (g1.trans g2).none' hl3
  have hp3 := g3.h _ _ hp2
  have hnl : b.names.length < 64 := by unfold Book.names; rw [List.length_map]; exact hf.few
  refine ss_for (xs := b.names.map .str) (ei_list (ee_call C2 (hr.mono (by decide)) (ea_cons (ee_nm 0) ea_nil) fun _ _ _ => ⟨b, rfl, hf.small.srcs, rfl⟩)) fun G4 H4 g4 => ⟨fun i ρ G' H' => ∃ o8, ρ = [some (.d (eK b)), some (.d (eSs tr)), some (.d (.tuple (sup.map eU))), some (.d (.tuple (fs.map eU))), some (.v (.ref p)), none, none, some (.v (.ref l)), o8] ∧ Same G4 G' ∧ Gr G H G' H' ∧ H' p = some (.dK kvs) ∧ Own K G' H' l (((b.names.take i).map (classOf fs)).map eSs),
    ⟨none, rfl, .refl _, g1.trans (g2.trans (g3.trans g4)), g4.h _ _ hp3, own3.gr g4⟩, fun i ρ G1 H1 h => h.choose_spec.2.1, ?_, ?_⟩
  · rintro i d ρ G5 H5 hd ⟨o8, rfl, s45, gr5, hp5, own5⟩ G6 H6 g6
    rw [List.getElem?_map] at hd
    cases hn : b.names[i]? with
    | none => rw [hn] at hd; cases hd
    | some z =>
      rw [hn] at hd
      cases hd
      refine ⟨[(8, .str z)], ga_nm 8 sc_classes_of.nd, ?_⟩
      have hi : i < b.names.length := (List.getElem?_eq_some_iff.mp hn).1
      have hp6 := g6.h _ _ hp5
      have o6 := own5.gr g6
      have hlen : (((b.names.take i).map (classOf fs)).map eSs).length < 100000 := by
        rw [List.length_map, List.length_map, List.length_take]
        omega
      have hnext : ((b.names.take (i + 1)).map (classOf fs)).map eSs = ((b.names.take i).map (classOf fs)).map eSs ++ [eSs (classOf fs z)] := by
        rw [List.take_add_one, hn, Option.toList_some, List.map_append, List.map_append] <;> rfl
      have fin : ∀ (vs : List V) (v : V) (G7 H7 : Hp), Gr G6 H6 G7 H7 → Own K G7 H7 l (((b.names.take i).map (classOf fs)).map eSs) → Own K G7 (upd H7 l (.lst (vs ++ [v]))) l (((b.names.take i).map (classOf fs)).map eSs ++ [eSs (classOf fs z)]) →
          Same G4 G7 ∧ Gr G H G7 (upd H7 l (.lst (vs ++ [v]))) ∧ (upd H7 l (.lst (vs ++ [v]))) p = some (.dK kvs) ∧ Own K G7 (upd H7 l (.lst (vs ++ [v]))) l (((b.names.take (i + 1)).map (classOf fs)).map eSs) := fun vs v G7 H7 g7 ow1 ow2 =>
        ⟨s45.trans (g6.g.trans g7.g), (gr5.trans (g6.trans g7)).mut hl0 ow1.off, dset_ne (g7.h _ _ hp6) (ow1.ne (g7.h _ _ hp6) fun _ z => nomatch z), by rw [hnext]; exact ow2⟩
      cases hlast : lastFile fs z with
      | none =>
        refine ss_if (k := false) (ET.to (et_cmp (ee_nm 8) (ee_nm 4) fun _ _ g => od_inZ hr.units hp6 g) (by rw [hM, hlast] <;> rfl)) (fun k => nomatch k) fun _ G7 H7 g7 => ?_
        have ec : classOf fs z = [z] := by unfold classOf; rw [hlast]
        refine ss_appO (d := eSs (classOf fs z)) (o6.gr g7) (ee_nm 7) (by rw [ec]; exact ee_tup (ds := [.str z]) (ea_cons (ee_nm 8) ea_nil)) hlen fun vs v G8 H8 g8 w1 w2 => ?_
        refine ss_out fun G9 H9 g9 => ss_turn ⟨_, rfl, ?_⟩
        obtain ⟨k1, k2, k3, k4⟩ := fin vs v G8 H8 (g7.trans g8) w1 w2
        exact ⟨k1.trans g9.g, k2.trans g9, g9.h _ _ k3, k4.gr g9⟩
      | some file =>
        refine ss_if (k := true) (ET.to (et_cmp (ee_nm 8) (ee_nm 4) fun _ _ g => od_inZ hr.units hp6 g) (by rw [hM, hlast] <;> rfl)) (fun _ G7 H7 g7 => ?_) fun k => nomatch k
        have ec : classOf fs z = (fs.filter fun f => decide (f.1 = file)).map (·.2) := by unfold classOf; rw [hlast]
        have hp7 := g7.h _ _ hp6
        refine ss_appO (d := eSs (classOf fs z)) (o6.gr g7) (ee_nm 7) (EE.to (ee_tupOf T.tuple (EF.ee (ef_fil [("file", 5), ("source", 6)] fs eU (fun f => [(5, .str f.1), (6, .str f.2)]) (fun f => decide (f.1 = file)) (fun f => .str f.2) sc_classes_of.nd (ei_tup (ee_nm 3)) (by omega) (fun _ _ i hi => hi) (fun _ _ _ _ _ z _ => ga_tup rfl (gas_cons (ga_nm 5 sc_classes_of.nd) (gas_cons (ga_nm 6 sc_classes_of.nd) gas_nil)))
          (fun _ _ _ _ _ x hx => et_cmp (ee_nm 5) (ee_dZ (d := .str file) (w := V.str file) hr.units (ee_nm 4) (ee_nm 8) hp7 (by rw [hM, hlast] <;> rfl) (.str file)) fun _ _ g => od_eqS g) (fun _ _ _ _ _ x hx _ => ee_nm 6)))) (by rw [ec]; unfold eSs; rw [List.map_map] <;> rfl)) hlen fun vs v G8 H8 g8 w1 w2 => ?_
        refine ss_out fun G9 H9 g9 => ss_turn ⟨_, rfl, ?_⟩
        obtain ⟨k1, k2, k3, k4⟩ := fin vs v G8 H8 (g7.trans g8) w1 w2
        exact ⟨k1.trans g9.g, k2.trans g9, g9.h _ _ k3, k4.gr g9⟩
  · rintro ρ G5 H5 ⟨o8, rfl, s45, gr5, hp5, own5⟩
    rw [List.length_map, List.take_length] at own5
    refine ss_frzO 7 own5 fun G6 s6 gr6 ne6 => ?_
    refine ss_ret (x := .d (.tuple ((classesOf b fs).map eSs))) (ee_tupOf T.tuple (EF.ee (ef_sortSet rfl hr.units T.sorted T.set (ee_nm 7) (fun k hk => ?_) (by rw [List.length_map]; exact hnl)))) fun v G8 H8 g8 r8 => q v G8 H8 ((gr6 gr5 hl0).trans g8) r8
    obtain ⟨z, _, rfl⟩ := List.mem_map.mp hk
    exact class_ne fs z
end Rb
set_option Elab.async false
set_option linter.all false
set_option maxRecDepth 100000
set_option maxHeartbeats 4000000
namespace Rb
open PySem PySem.Spec PyProof.Rows L2
variable {P : Program} {w : World} {K : PySem.W.Frag} {mg : Str → Option Value} {base : Heap} {f : Addr} {fd : FuncData}
theorem u65 {k : Nat} {A : Around} (r : Room k A) : A.units + 65 < cLine := by
  have := r.un
  omega
section
variable {X : Cx} {G H G1 H1 : Hp}
theorem eqv_nil (xs : List D) : PyData.eqv (.list xs) (.list []) = decide (xs = []) := by
  cases xs <;> simp [PyData.eqv, PyData.eqvAll]
theorem shaped_nil : SeqAt.shaped (.list []) = true := by simp [SeqAt.shaped, PyData.canLay0, PyData.canLayAll0, PyData.depth, PyData.depthAll]
theorem shaped_strL {xs : List Str} (h : ∀ z ∈ xs, PyData.strOk z = true) : SeqAt.shaped (.list (xs.map .str)) = true := by
  unfold SeqAt.shaped
  simp [PyData.canLay0, lay_strs h, PyData.depth, depth_strs]
/-- texts == [], texts != [] -/
theorem od_eqNil {xs : List Str} (hu : X.A.units + 64 < cLine) (h : ∀ z ∈ xs, PyData.strOk z = true) (g : Gr G H G1 H1) : OD X (compareOp .Eq) G1 H1 (.d (.list (xs.map .str))) (.d (.list [])) (.d (.bool (decide (xs = [])))) := by
  have e : PyData.eqv (.list (xs.map .str)) (.list []) = decide (xs = []) := by
    rw [eqv_nil]
    exact decide_eq_decide.mpr List.map_eq_nil_iff
  rw [← e]
  exact od_eqD hu (shaped_strL h) shaped_nil g
theorem od_neNil {xs : List Str} (hu : X.A.units + 64 < cLine) (h : ∀ z ∈ xs, PyData.strOk z = true) (g : Gr G H G1 H1) : OD X (compareOp .NotEq) G1 H1 (.d (.list (xs.map .str))) (.d (.list [])) (.d (.bool (!decide (xs = [])))) := by
  have e : PyData.eqv (.list (xs.map .str)) (.list []) = decide (xs = []) := by
    rw [eqv_nil]
    exact decide_eq_decide.mpr List.map_eq_nil_iff
  rw [← e]
  exact od_neD hu (shaped_strL h) shaped_nil g
end
/-- the book's own texts are written in signs that there are -/
structure Book.Txt (b : Book) : Prop where
  names : ∀ s ∈ b.srcs, PyData.strOk s.name = true ∧ ∀ z ∈ s.uses, PyData.strOk z = true
  blds : ∀ u ∈ b.blds, PyData.strOk u.file = true ∧ u.src ∈ b.names ∧ ∀ z ∈ u.parts, PyData.strOk z = true
  unl : ∀ p ∈ b.unl, PyData.strOk p.1 = true ∧ PyData.strOk p.2 = true
theorem Book.Txt.name {b : Book} (h : b.Txt) {z : Str} (hz : z ∈ b.names) : PyData.strOk z = true := by
  obtain ⟨s, hs, rfl⟩ := List.mem_map.mp hz
  exact (h.names s hs).1
/-- facts of sources of the book -/
structure FOk (b : Book) (fs : List Fact) : Prop where
  txt : ∀ f ∈ fs, okF f
  src : ∀ f ∈ fs, f.2 ∈ b.names
  len : fs.length ≤ 100
theorem srcOf_mem {b : Book} {z : Str} (h : z ∈ b.names) : b.srcOf z ∈ b.srcs ∧ (b.srcOf z).name = z ∧ b.srcs.find? (fun s => decide (s.name = z)) = some (b.srcOf z) := by
  obtain ⟨s, hs, rfl⟩ := List.mem_map.mp h
  cases e : b.srcs.find? fun t => decide (t.name = s.name) with
  | none =>
    have := List.find?_eq_none.mp e s hs
    simp at this
  | some t =>
    have e2 : b.srcOf s.name = t := by unfold Book.srcOf; rw [e] <;> rfl
    rw [e2]
    exact ⟨List.mem_of_find?_eq_some e, of_decide_eq_true (List.find?_some (p := fun t : Src => decide (t.name = s.name)) e), rfl⟩
def R_form : Hp → List SV → SV → Prop := fun _ xs y => ∃ (b : Book) (z : Str), xs = [.d (eK b), .d (.str z)] ∧ b.srcs.length < 1000 ∧ z ∈ b.names ∧ y = .d (eS (b.srcOf z))
theorem fn_form_of (F : FD K "_law_form_of" s_l_form_of f fd) (hx : mg "_law_form_of" = some (.ref f)) : Fn P w K mg base "_law_form_of" 1 2 [] R_form := by
  refine fn_pure F sc_l_form_of rfl rfl hx (F.bindsN fun _ _ _ _ _ _ us hl => match us, hl with | [_, _], _ => rfl) .nil fun cdv A outer s H E hr G xs y Q hR hl q => ?_
  obtain ⟨b, z, rfl, hb, hz, rfl⟩ := hR
  refine ss_ret (x := .d (eS (b.srcOf z))) (ee_atL 0 (EF.ee (ef_fil [("_law_form", 2)] b.srcs eS (fun s => [(2, eS s)]) (fun s => decide (s.name = z)) eS sc_l_form_of.nd (ei_tup (ee_at 0 (ee_nm 0))) (by omega) (fun _ _ i hi => hi) (fun _ _ _ _ _ z _ => ga_nm 2 sc_l_form_of.nd) (fun _ _ _ _ _ x hx => et_cmp (ee_at 0 (ee_nm 2)) (ee_nm 1) fun _ _ g => od_eqS g) (fun _ _ _ _ _ x hx _ => ee_nm 2))) ?_) q
  have h := (srcOf_mem hz).2.2
  rw [← List.head?_filter] at h
  cases e : b.srcs.filter fun s => decide (s.name = z) with
  | nil => rw [e] at h; cases h
  | cons s l =>
    rw [e] at h
    cases h
    rfl
def rightsOf (fs : List Fact) (file : Str) : List Str := (fs.filter fun f => decide (f.1 = file)).map (·.2)
theorem rights_mem {fs : List Fact} {file z : Str} : z ∈ rightsOf fs file ↔ (file, z) ∈ fs := by
  unfold rightsOf
  constructor
  · intro h
    obtain ⟨f, hf, rfl⟩ := List.mem_map.mp h
    obtain ⟨h1, h2⟩ := List.mem_filter.mp hf
    rw [← of_decide_eq_true h2]
    exact h1
  · intro h
    exact List.mem_map.mpr ⟨_, List.mem_filter.mpr ⟨h, by simp⟩, rfl⟩
theorem rights_len (fs : List Fact) (file : Str) : (rightsOf fs file).length ≤ fs.length := by
  unfold rightsOf
  rw [List.length_map]
  exact List.length_filter_le _ _
def R_rights : Hp → List SV → List D → Prop := fun _ xs ds => ∃ (fs : List Fact) (file : Str), xs = [.d (.list (fs.map eU)), .d (.str file)] ∧ fs.length ≤ 100 ∧ ds = (rightsOf fs file).map .str
theorem fn_rights (F : FD K "_law_rights" s_l_rights f fd) (hx : mg "_law_rights" = some (.ref f)) : FnL P w K mg base "_law_rights" 1 2 R_rights := by
  refine fn_list F sc_l_rights rfl rfl hx (F.bindsN fun _ _ _ _ _ _ us hl => match us, hl with | [_, _], _ => rfl) fun cdv A outer s H E hr G xs ds Q hR hl q => ?_
  obtain ⟨fs, file, rfl, hf, rfl⟩ := hR
  refine ss_retF (EF.to (ef_fil [("_law_name", 2), ("_law_source", 3)] fs eU (fun f => [(2, .str f.1), (3, .str f.2)]) (fun f => decide (f.1 = file)) (fun f => .str f.2) sc_l_rights.nd (ei_list (ee_nm 0)) (by omega) (fun _ _ i hi => hi) (fun _ _ _ _ _ z _ => ga_tup rfl (gas_cons (ga_nm 2 sc_l_rights.nd) (gas_cons (ga_nm 3 sc_l_rights.nd) gas_nil))) (fun _ _ _ _ _ x hx => et_cmp (ee_nm 2) (ee_nm 1) fun _ _ g => od_eqS g) (fun _ _ _ _ _ x hx _ => ee_nm 3)) ?_) q
  unfold rightsOf
  rw [List.map_map] <;> rfl
/-- a build's wants are met -/
def wantedB (b : Book) (fs : List Fact) (u : Bld) : Bool := match u.comp with
  | none => true
  | some c => !decide ((rightsOf fs c).filter (fun z => decide ((b.srcOf u.src).lang ∈ (b.srcOf z).comp)) = []) && decide (((u.parts.zip (b.srcOf u.src).uses).filter fun p => !decide (p ∈ fs)).map (·.2) = [])
def R_wanted : Hp → List SV → SV → Prop := fun _ xs y => ∃ (b : Book) (fs : List Fact) (u : Bld), xs = [.d (eK b), .d (.list (fs.map eU)), .d (eB u)] ∧ b.srcs.length < 1000 ∧ b.Txt ∧ FOk b fs ∧ u ∈ b.blds ∧ u.parts.length < 1000 ∧ y = .d (.bool (wantedB b fs u))
theorem fn_wanted (T : Gf mg) (F : FD K "_law_wanted" s_l_wanted f fd) (hx : mg "_law_wanted" = some (.ref f)) (C1 : Fn P w K mg base "_law_form_of" 1 2 [] R_form) (C2 : FnL P w K mg base "_law_rights" 1 2 R_rights) : Fn P w K mg base "_law_wanted" 2 3 [] R_wanted := by
  refine fn_pure F sc_l_wanted rfl rfl hx (F.bindsN fun _ _ _ _ _ _ us hl => match us, hl with | [_, _, _], _ => rfl) .nil fun cdv A outer s H E hr G xs y Q hR hl q => ?_
  obtain ⟨b, fs, u, rfl, hb, hT, hF, hu, hpl, rfl⟩ := hR
  obtain ⟨t1, t2, t3⟩ := hT.blds u hu
  obtain ⟨m1, m2, _⟩ := srcOf_mem t2
  have hfl := hF.len
  cases hc : u.comp with
  | none =>
    have eu : eB u = .tuple [.str u.party, .none, .str u.src, .tuple (u.parts.map .str), .str u.file] := by unfold eB; rw [hc] <;> rfl
    rw [eu]
    refine ss_if1 (k := true) (ET.to (et_cmp (ee_at 1 (ee_nm 2)) ee_non fun _ _ g => od_isN g) rfl) (fun _ G1 H1 g1 => ?_) fun k => nomatch k
    refine ss_ret (x := .d (.bool true)) ee_bl fun v G2 H2 g2 r2 => q v G2 H2 (g1.trans g2) ?_
    unfold wantedB
    rw [hc]
    exact r2
  | some c =>
    have eu : eB u = .tuple [.str u.party, .str c, .str u.src, .tuple (u.parts.map .str), .str u.file] := by unfold eB; rw [hc] <;> rfl
    have ew : wantedB b fs u = (!decide ((rightsOf fs c).filter (fun z => decide ((b.srcOf u.src).lang ∈ (b.srcOf z).comp)) = []) && decide (((u.parts.zip (b.srcOf u.src).uses).filter fun p => !decide (p ∈ fs)).map (·.2) = [])) := by unfold wantedB; rw [hc]
    rw [eu]
    rw [ew] at q
    refine ss_if1 (k := false) (ET.to (et_cmp (ee_at 1 (ee_nm 2)) ee_non fun _ _ g => od_isN g) rfl) (fun k => nomatch k) fun _ G1 H1 g1 => ?_
    refine ss_set (x := .d (eS (b.srcOf u.src))) 3 sc_l_wanted.nd (ee_call C1 hr (ea_cons (ee_nm 0) (ea_cons (ee_at 2 (ee_nm 2)) ea_nil)) fun _ _ _ => ⟨b, u.src, rfl, hb, t2, rfl⟩) fun G2 H2 g2 => ?_
    generalize b.srcOf u.src = sc at *
    have hrl := rights_len fs c
    refine ss_lc 4 [("_law_one", 5)] (rightsOf fs c) (fun z => .str z) (fun z => [(5, .str z)]) (fun z => decide (sc.lang ∈ (b.srcOf z).comp)) (fun z => .str z) sc_l_wanted.nd (ei_list (EF.ee (ef_call C2 hr (ea_cons (ee_nm 1) (ea_cons (ee_at 1 (ee_nm 2)) ea_nil)) fun _ _ _ => ⟨fs, c, rfl, hfl, rfl⟩))) (by omega) (fun _ _ i hi => hi) (fun _ _ _ _ _ z _ => ga_nm 5 sc_l_wanted.nd)
      (fun _ _ _ _ _ z hz => ep_one (et_cmp (ee_at 1 (ds := [.str sc.name, .str sc.lang, .tuple (sc.comp.map .str), .bool sc.steady, .tuple (sc.uses.map .str)]) (ee_nm 3)) (ee_at 2 (ds := [.str (b.srcOf z).name, .str (b.srcOf z).lang, .tuple ((b.srcOf z).comp.map .str), .bool (b.srcOf z).steady, .tuple ((b.srcOf z).uses.map .str)]) (ee_call C1 hr (ea_cons (ee_nm 0) (ea_cons (ee_nm 5) ea_nil)) fun _ _ _ => ⟨b, z, rfl, hb, hF.src _ (rights_mem.mp hz), rfl⟩)) fun _ _ g => od_inT g)) (fun _ _ _ _ _ z hz _ => ee_nm 5) fun G3 H3 g3 => ?_
    refine ss_if1 (k := decide ((rightsOf fs c).filter (fun z => decide (sc.lang ∈ (b.srcOf z).comp)) = [])) (et_cmp (ee_nm 4) (EF.ee (ef_lst (ds := []) ea_nil)) fun _ _ g => od_eqNil hr.units (fun z hz => (hF.txt _ (rights_mem.mp (List.mem_filter.mp hz).1)).2) g) (fun hk G4 H4 g4 => ?_) fun hk G4 H4 g4 => ?_
    · refine ss_ret (x := .d (.bool false)) ee_bl fun v G5 H5 g5 r5 => q v G5 H5 (g1.trans (g2.trans (g3.trans (g4.trans g5)))) ?_
      rw [hk]
      exact r5
    · refine ss_ret (x := .d (.bool (decide (((u.parts.zip sc.uses).filter fun p => !decide (p ∈ fs)).map (·.2) = [])))) ?_ fun v G5 H5 g5 r5 => q v G5 H5 (g1.trans (g2.trans (g3.trans (g4.trans g5)))) (by rw [hk]; exact r5)
      refine ee_cmp (EE.to (EF.ee (ef_fil [("_law_part_here", 6), ("_law_use", 7)] (u.parts.zip sc.uses) eU (fun p => [(6, .str p.1), (7, .str p.2)]) (fun p => !decide (p ∈ fs)) (fun p => .str p.2) sc_l_wanted.nd ?_ (by rw [List.length_zip]; omega) (fun _ _ i hi => hi) (fun _ _ _ _ _ z _ => ga_tup rfl (gas_cons (ga_nm 6 sc_l_wanted.nd) (gas_cons (ga_nm 7 sc_l_wanted.nd) gas_nil)))
        (fun _ _ _ _ _ p hp => et_cmp (ee_pair (x := .str p.1) (y := .str p.2) (ee_nm 6) (ee_nm 7)) (ee_nm 1) fun _ _ g => od_ninU (f := (p.1, p.2)) (u65 hr) ⟨t3 _ (List.of_mem_zip hp).1, (hT.names _ m1).2 _ (List.of_mem_zip hp).2⟩ hF.txt g) (fun _ _ _ _ _ p hp _ => ee_nm 7))) (y := .d (.list ((((u.parts.zip sc.uses).filter fun p => !decide (p ∈ fs)).map (·.2)).map .str))) (by rw [List.map_map] <;> rfl)) (EF.ee (ef_lst (ds := []) ea_nil)) fun _ _ g => od_eqNil hr.units (fun z hz => ?_) g
      · have e := pairsOf_map (fun z : Str => PyData.str z) (fun z : Str => PyData.str z) u.parts sc.uses
        show EI _ _ _ _ _ _ ((u.parts.zip sc.uses).map fun p => .tuple [.str p.1, .str p.2])
        rw [← e]
        exact ei_zipT T.zip (ee_at 3 (ds := [.str u.party, .str c, .str u.src, .tuple (u.parts.map .str), .str u.file]) (ee_nm 2)) (ee_at 4 (ds := [.str sc.name, .str sc.lang, .tuple (sc.comp.map .str), .bool sc.steady, .tuple (sc.uses.map .str)]) (ee_nm 3))
      · obtain ⟨p, hp, rfl⟩ := List.mem_map.mp hz
        exact (hT.names _ m1).2 _ (List.of_mem_zip (List.mem_filter.mp hp).1).2
end Rb
set_option Elab.async false
set_option linter.all false
set_option maxRecDepth 100000
set_option maxHeartbeats 4000000
namespace Rb
open PySem PySem.Spec PyProof.Rows L2
variable {P : Program} {w : World} {K : PySem.W.Frag} {mg : Str → Option Value} {base : Heap} {f : Addr} {fd : FuncData}
/-! ### links -/
def lk2 (s : Str) (acc : List Fact) (o : Str) : List Fact := if o ≠ s ∧ (s, o) ∉ acc then acc ++ [(s, o)] else acc
def lk1 (fs : List Fact) (acc : List Fact) (f : Fact) : List Fact := (rightsOf fs f.1).foldl (lk2 f.2) acc
def linksOf (fs : List Fact) : List Fact := fs.foldl (lk1 fs) []
theorem lk2_len (s : Str) (acc : List Fact) (o : Str) : (lk2 s acc o).length ≤ acc.length + 1 := by
  unfold lk2
  split
  · rw [List.length_append] <;> exact Nat.le_refl _
  · exact Nat.le_succ _
theorem lk1_len (fs : List Fact) (acc : List Fact) (f : Fact) : (lk1 fs acc f).length ≤ acc.length + fs.length := by
  unfold lk1
  have h1 := foldl_len (lk2_len f.2) (rightsOf fs f.1) acc
  have h2 := rights_len fs f.1
  omega
theorem links_len (fs : List Fact) : ∀ (l acc : List Fact), (l.foldl (lk1 fs) acc).length ≤ acc.length + l.length * fs.length
  | [], acc => by simp
  | x :: l, acc => by
    rw [List.foldl_cons, List.length_cons, Nat.succ_mul]
    have h1 := links_len fs l (lk1 fs acc x)
    have h2 := lk1_len fs acc x
    omega
theorem lk2_mem {s : Str} {acc : List Fact} {o : Str} {p : Fact} : p ∈ lk2 s acc o ↔ p ∈ acc ∨ (p = (s, o) ∧ o ≠ s) := by
  unfold lk2
  by_cases h : o ≠ s ∧ (s, o) ∉ acc
  · rw [if_pos h, List.mem_append, List.mem_singleton]
    exact ⟨fun q => q.imp id fun e => ⟨e, h.1⟩, fun q => q.imp id fun e => e.1⟩
  · rw [if_neg h]
    refine ⟨.inl, fun q => q.elim id fun ⟨e, ho⟩ => ?_⟩
    rw [e]
    rcases Classical.em ((s, o) ∈ acc) with c | c
    · exact c
    · exact absurd ⟨ho, c⟩ h
theorem lk2s_mem {s : Str} {p : Fact} : ∀ (l : List Str) (acc : List Fact), p ∈ l.foldl (lk2 s) acc ↔ p ∈ acc ∨ (p.1 = s ∧ p.2 ∈ l ∧ p.2 ≠ s)
  | [], acc => by simp
  | o :: l, acc => by
    rw [List.foldl_cons, lk2s_mem l, lk2_mem, List.mem_cons]
    constructor
    · rintro ((h | ⟨h, ho⟩) | ⟨h1, h2, h3⟩)
      · exact .inl h
      · rw [h]; exact .inr ⟨rfl, .inl rfl, ho⟩
      · exact .inr ⟨h1, .inr h2, h3⟩
    · rintro (h | ⟨h1, h2 | h2, h3⟩)
      · exact .inl (.inl h)
      · exact .inl (.inr ⟨Prod.ext h1 h2, by rw [← h2]; exact h3⟩)
      · exact .inr ⟨h1, h2, h3⟩
theorem lk1s_mem {fs : List Fact} {p : Fact} : ∀ (l acc : List Fact), p ∈ l.foldl (lk1 fs) acc ↔ p ∈ acc ∨ ∃ f ∈ l, p.1 = f.2 ∧ (f.1, p.2) ∈ fs ∧ p.2 ≠ f.2
  | [], acc => by simp
  | x :: l, acc => by
    rw [List.foldl_cons, lk1s_mem l]
    unfold lk1
    rw [lk2s_mem, rights_mem]
    constructor
    · rintro ((h | ⟨h1, h2, h3⟩) | ⟨g, hg, h⟩)
      · exact .inl h
      · exact .inr ⟨x, List.mem_cons_self, h1, h2, h3⟩
      · exact .inr ⟨g, List.mem_cons_of_mem _ hg, h⟩
    · rintro (h | ⟨g, hg, h⟩)
      · exact .inl (.inl h)
      · rcases List.mem_cons.mp hg with e | hg
        · subst e; exact .inl (.inr h)
        · exact .inr ⟨g, hg, h⟩
theorem links_mem {fs : List Fact} {p : Fact} : p ∈ linksOf fs ↔ ∃ y, (y, p.1) ∈ fs ∧ (y, p.2) ∈ fs ∧ p.2 ≠ p.1 := by
  unfold linksOf
  rw [lk1s_mem]
  constructor
  · rintro (h | ⟨f, hf, h1, h2, h3⟩)
    · cases h
    · exact ⟨f.1, by rw [h1]; exact hf, h2, by rw [h1]; exact h3⟩
  · rintro ⟨y, h1, h2, h3⟩
    exact .inr ⟨(y, p.1), h1, rfl, h2, h3⟩
def R_links : Hp → List SV → List D → Prop := fun _ xs ds => ∃ fs : List Fact, xs = [.d (.list (fs.map eU))] ∧ fs.length ≤ 100 ∧ (∀ f ∈ fs, okF f) ∧ ds = (linksOf fs).map eU
theorem fn_links (F : FD K "_law_links" s_l_links f fd) (hx : mg "_law_links" = some (.ref f)) (C1 : FnL P w K mg base "_law_rights" 1 2 R_rights) : FnL P w K mg base "_law_links" 2 1 R_links := by
  refine fn_list F sc_l_links rfl rfl hx (F.bindsN fun _ _ _ _ _ _ us hl => match us, hl with | [_], _ => rfl) fun cdv A outer s H E hr G xs ds Q hR hl q => ?_
  obtain ⟨fs, rfl, hfl, hok, rfl⟩ := hR
  have hsq : fs.length * fs.length ≤ 100 * 100 := Nat.mul_le_mul hfl hfl
  refine ss_newL 1 sc_l_links.nd fun l G1 H1 g1 hl1 own1 => ?_
  have okL : ∀ {p : Fact}, p ∈ linksOf fs → okF p := fun {p} hp => by
    obtain ⟨y, h1, h2, _⟩ := links_mem.mp hp
    exact ⟨(hok _ h1).2, (hok _ h2).2⟩
  refine ss_for (xs := fs.map eU) (ei_list (ee_nm 0)) fun G2 H2 g2 => ⟨fun i ρ G' H' => ∃ o2 o3 o4, ρ = [some (.d (.list (fs.map eU))), some (.v (.ref l)), o2, o3, o4] ∧ Same G2 G' ∧ Gr G H G' H' ∧ Own K G' H' l (((fs.take i).foldl (lk1 fs) []).map eU),
    ⟨none, none, none, rfl, .refl _, g1.trans g2, own1.gr g2⟩, fun i ρ G1 H1 h => h.choose_spec.choose_spec.choose_spec.2.1, ?_, ?_⟩
  · rintro i d ρ G3 H3 hd ⟨o2, o3, o4, rfl, s23, gr3, own3⟩ G4 H4 g4
    rw [List.getElem?_map] at hd
    cases hf : fs[i]? with
    | none => rw [hf] at hd; cases hd
    | some z =>
      rw [hf] at hd
      cases hd
      have hz : z ∈ fs := List.mem_of_getElem? hf
      have hi : i < fs.length := (List.getElem?_eq_some_iff.mp hf).1
      have hnext := foldl_take (lk1 fs) [] hf
      have hlen := links_len fs (fs.take i) []
      have hpre : ∀ p ∈ (fs.take i).foldl (lk1 fs) [], okF p := fun p hp => okL (by
        unfold linksOf
        rw [lk1s_mem]
        rcases (lk1s_mem _ _).mp hp with h | ⟨f, hf, h⟩
        · exact .inl h
        · exact .inr ⟨f, List.mem_of_mem_take hf, h⟩)
      rw [List.length_take] at hlen
      simp only [List.length_nil, Nat.zero_add] at hlen
      have hlen2 : min i fs.length * fs.length ≤ 100 * 100 := Nat.mul_le_mul (by omega) hfl
      generalize (fs.take i).foldl (lk1 fs) [] = acc at own3 hnext hlen hpre
      refine ⟨[(2, .str z.1), (3, .str z.2)], ga_tup (us := [(2, .str z.1), (3, .str z.2)]) rfl (gas_cons (ga_nm 2 sc_l_links.nd) (gas_cons (ga_nm 3 sc_l_links.nd) gas_nil)), ?_⟩
      refine ss_for (xs := (rightsOf fs z.1).map .str) (ei_list (EF.ee (ef_call C1 hr (ea_cons (ee_nm 0) (ea_cons (ee_nm 2) ea_nil)) fun _ _ _ => ⟨fs, z.1, rfl, hfl, rfl⟩))) fun G5 H5 g5 => ⟨fun j ρ G' H' => ∃ o4, ρ = [some (.d (.list (fs.map eU))), some (.v (.ref l)), some (.d (.str z.1)), some (.d (.str z.2)), o4] ∧ Same G5 G' ∧ Gr G H G' H' ∧ Own K G' H' l ((((rightsOf fs z.1).take j).foldl (lk2 z.2) acc).map eU),
        ⟨_, rfl, .refl _, gr3.trans (g4.trans g5), own3.gr (g4.trans g5)⟩, fun i ρ G1 H1 h => h.choose_spec.2.1, ?_, ?_⟩
      · rintro j d ρ G6 H6 hd2 ⟨o4, rfl, s56, gr6, own6⟩ G7 H7 g7
        rw [List.getElem?_map] at hd2
        cases hj : (rightsOf fs z.1)[j]? with
        | none => rw [hj] at hd2; cases hd2
        | some o =>
          rw [hj] at hd2
          cases hd2
          have ho := List.mem_of_getElem? hj
          have hoz := rights_mem.mp ho
          have hnext2 := foldl_take (lk2 z.2) acc hj
          have hlen3 := foldl_len (lk2_len z.2) ((rightsOf fs z.1).take j) acc
          have hok2 : ∀ p ∈ ((rightsOf fs z.1).take j).foldl (lk2 z.2) acc, okF p := fun p hp => by
            rcases (lk2s_mem _ _).mp hp with h | ⟨h1, h2, _⟩
            · exact hpre p h
            · exact ⟨by rw [h1]; exact (hok z hz).2, (hok _ (rights_mem.mp (List.mem_of_mem_take h2))).2⟩
          have hl3 : ((rightsOf fs z.1).take j).length ≤ 100 := by
            have := rights_len fs z.1
            rw [List.length_take]
            omega
          generalize ((rightsOf fs z.1).take j).foldl (lk2 z.2) acc = acc2 at own6 hnext2 hlen3 hok2
          have own7 := own6.gr g7
          refine ⟨[(4, .str o)], ga_nm 4 sc_l_links.nd, ?_⟩
          refine ss_if1 (k := !decide (o = z.2) && !decide ((z.2, o) ∈ acc2)) (et_w (ew_and (et_cmp (ee_nm 4) (ee_nm 3) fun _ _ g => od_neS g) fun _ => ew_and1 (et_ownO 1 own7 fun Gx sx => et_cmp (ee_pair (x := .str z.2) (y := .str o) (ee_nm 3) (ee_nm 4)) (ee_nm 1) fun _ _ g => od_ninU (f := (z.2, o)) (u65 hr) ⟨(hok z hz).2, (hok _ hoz).2⟩ hok2 g))) (fun hy G8 H8 g8 => ?_) fun hn G8 H8 g8 => ?_
          · simp only [Bool.and_eq_true, Bool.not_eq_true', decide_eq_false_iff_not] at hy
            refine ss_appO (d := eU (z.2, o)) (own7.gr g8) (ee_nm 1) (ee_pair (x := .str z.2) (y := .str o) (ee_nm 3) (ee_nm 4)) (by rw [List.length_map]; omega) fun vs v G9 H9 g9 w1 w2 => ?_
            refine ss_out fun Ga Ha ga => ss_turn ⟨_, rfl, s56.trans (g7.g.trans (g8.g.trans (g9.g.trans ga.g))), ((gr6.trans (g7.trans (g8.trans g9))).mut hl1 w1.off).trans ga, ?_⟩
            rw [hnext2]
            have e : lk2 z.2 acc2 o = acc2 ++ [(z.2, o)] := if_pos hy
            rw [e, List.map_append]
            exact w2.gr ga
          · refine ss_turn ⟨_, rfl, s56.trans (g7.g.trans g8.g), gr6.trans (g7.trans g8), ?_⟩
            rw [hnext2]
            have e : lk2 z.2 acc2 o = acc2 := if_neg fun h => by
              rw [decide_eq_false h.1, decide_eq_false h.2] at hn
              cases hn
            rw [e]
            exact own7.gr g8
      · rintro ρ G6 H6 ⟨o4, rfl, s56, gr6, own6⟩
        rw [List.length_map, List.take_length] at own6
        refine ss_turn ⟨_, _, _, rfl, s23.trans (g4.g.trans (g5.g.trans s56)), gr6, ?_⟩
        rw [hnext]
        exact own6
  · rintro ρ G3 H3 ⟨o2, o3, o4, rfl, s23, gr3, own3⟩
    rw [List.length_map, List.take_length] at own3
    obtain ⟨vs, h1, h2, h3⟩ := own3
    exact ss_retOwn (ee_nm 1) h1 h2 fun G9 H9 g9 n9 e9 => q l vs G9 H9 (gr3.trans g9) hl1 n9 e9 (dps_up g9.g _ _ h3)
/-! ### the closure -/
def cb (b : Book) (tr : List Str) (fs : List Fact) (u : Bld) : List Fact := if u.party ∈ tr ∧ (u.file, u.src) ∉ fs ∧ wantedB b fs u = true then fs ++ [(u.file, u.src)] else fs
def cl2 (f : Fact) (fs : List Fact) (l : Fact) : List Fact := if l.1 = f.2 ∧ (f.1, l.2) ∉ fs then fs ++ [(f.1, l.2)] else fs
def cl1 (ls : List Fact) (fs : List Fact) (f : Fact) : List Fact := ls.foldl (cl2 f) fs
def turnB (b : Book) (tr : List Str) (fs : List Fact) : List Fact := b.blds.foldl (cb b tr) fs
def turnL (g : List Fact) : List Fact := g.foldl (cl1 (linksOf g)) g
def turnOf (b : Book) (tr : List Str) (fs : List Fact) : List Fact := turnL (turnB b tr fs)
def closeL (b : Book) (tr : List Str) : Nat → List Fact → List Fact
  | 0, fs => fs
  | n + 1, fs => if fs.length < (turnOf b tr fs).length then closeL b tr n (turnOf b tr fs) else turnOf b tr fs
/-- what holds of the facts as they grow -/
structure Grow (b : Book) (tr : List Str) (sup : List Fact) (F S : List Str) (fs : List Fact) : Prop where
  inU : InU F S fs
  nd : fs.Nodup
  drv : ∀ f ∈ fs, Drv b tr sup f
/-- what is known of the book for the law's closure -/
structure Ground (b : Book) (F S : List Str) : Prop where
  txt : b.Txt
  univ : Univ b F S
  files : ∀ z ∈ F, PyData.strOk z = true
  names : ∀ z ∈ S, z ∈ b.names
section
variable {b : Book} {tr : List Str} {sup fs : List Fact} {F S : List Str}
theorem Grow.fok (B : Ground b F S) (h : Grow b tr sup F S fs) : FOk b fs where
  txt := fun f hf => ⟨B.files _ (h.inU f hf).1, B.txt.name (B.names _ (h.inU f hf).2)⟩
  src := fun f hf => B.names _ (h.inU f hf).2
  len := Nat.le_trans (Nat.le_trans (inU_len h.inU h.nd) B.univ.few) (by decide)
theorem Grow.len (B : Ground b F S) (h : Grow b tr sup F S fs) : fs.length ≤ 46 := Nat.le_trans (inU_len h.inU h.nd) B.univ.few
theorem Grow.add (h : Grow b tr sup F S fs) {f : Fact} (h1 : f ∉ fs) (h2 : f.1 ∈ F ∧ f.2 ∈ S) (h3 : Drv b tr sup f) : Grow b tr sup F S (fs ++ [f]) := by
  refine ⟨fun g hg => ?_, List.nodup_append.mpr ⟨h.nd, List.nodup_cons.mpr ⟨List.not_mem_nil, List.nodup_nil⟩, fun x hx y hy e => ?_⟩, fun g hg => ?_⟩
  · rcases List.mem_append.mp hg with hg | hg
    · exact h.inU g hg
    · rw [List.mem_singleton.mp hg]; exact h2
  · rw [List.mem_singleton] at hy
    exact h1 (by rw [← hy, ← e]; exact hx)
  · rcases List.mem_append.mp hg with hg | hg
    · exact h.drv g hg
    · rw [List.mem_singleton.mp hg]; exact h3
/-- the wants are met just where the program's are: names are the book's -/
theorem wanted_iff (hn : ∀ s ∈ b.srcs, b.srcOf s.name = s) (hf : ∀ f ∈ fs, f.2 ∈ b.names) {u : Bld} : wantedB b fs u = true ↔ Can b (· ∈ fs) u := by
  unfold wantedB Can
  cases hc : u.comp with
  | none => simp
  | some c =>
    simp only [Bool.and_eq_true, Bool.not_eq_true', decide_eq_false_iff_not, decide_eq_true_eq]
    constructor
    · rintro ⟨h1, h2⟩
      refine .inr ⟨c, rfl, ?_, fun p hp => ?_⟩
      · obtain ⟨z, hz⟩ := List.exists_mem_of_ne_nil _ h1
        obtain ⟨z1, z2⟩ := List.mem_filter.mp hz
        have z3 := rights_mem.mp z1
        obtain ⟨m1, m2, _⟩ := srcOf_mem (hf _ z3)
        exact ⟨b.srcOf z, m1, of_decide_eq_true z2, by rw [m2]; exact z3⟩
      · rcases Classical.em (p ∈ fs) with c | c
        · exact c
        · have : p.2 ∈ ((u.parts.zip (b.srcOf u.src).uses).filter fun p => !decide (p ∈ fs)).map (·.2) := List.mem_map.mpr ⟨p, List.mem_filter.mpr ⟨hp, by simp [c]⟩, rfl⟩
          rw [h2] at this
          cases this
    · rintro (h | ⟨c', h1, ⟨o, h2, h3, h4⟩, h5⟩)
      · cases h
      · cases h1
        refine ⟨fun e => ?_, ?_⟩
        · have : o.name ∈ (rightsOf fs c).filter (fun z => decide ((b.srcOf u.src).lang ∈ (b.srcOf z).comp)) := List.mem_filter.mpr ⟨rights_mem.mpr h4, by rw [hn o h2]; exact decide_eq_true h3⟩
          rw [e] at this
          cases this
        · refine List.map_eq_nil_iff.mpr (List.filter_eq_nil_iff.mpr fun p hp => ?_)
          simp [h5 p hp]
end
end Rb
set_option Elab.async false
set_option linter.all false
set_option maxRecDepth 100000
set_option maxHeartbeats 4000000
namespace Rb
open PySem PySem.Spec PyProof.Rows L2
section
variable {b : Book} {tr : List Str} {sup fs g : List Fact} {F S : List Str}
theorem cb_ok (B : Ground b F S) (hn : ∀ s ∈ b.srcs, b.srcOf s.name = s) (h : Grow b tr sup F S fs) {u : Bld} (hu : u ∈ b.blds) : Grow b tr sup F S (cb b tr fs u) ∧ ∀ f ∈ fs, f ∈ cb b tr fs u := by
  unfold cb
  by_cases hc : u.party ∈ tr ∧ (u.file, u.src) ∉ fs ∧ wantedB b fs u = true
  · rw [if_pos hc]
    refine ⟨h.add hc.2.1 (B.univ.bld u hu) (Drv.step (.inl ⟨u, hu, hc.1, rfl, ((wanted_iff hn (h.fok B).src).mp hc.2.2).mono fun f hf => h.drv f hf⟩)), fun f hf => List.mem_append_left _ hf⟩
  · rw [if_neg hc]
    exact ⟨h, fun f hf => hf⟩
theorem cbs_ok (B : Ground b F S) (hn : ∀ s ∈ b.srcs, b.srcOf s.name = s) : ∀ (l : List Bld) (fs : List Fact), (∀ u ∈ l, u ∈ b.blds) → Grow b tr sup F S fs → Grow b tr sup F S (l.foldl (cb b tr) fs) ∧ ∀ f ∈ fs, f ∈ l.foldl (cb b tr) fs
  | [], fs, _, h => ⟨h, fun f hf => hf⟩
  | u :: l, fs, hl, h => by
    obtain ⟨h1, h2⟩ := cb_ok B hn h (hl u List.mem_cons_self)
    obtain ⟨k1, k2⟩ := cbs_ok B hn l _ (fun v hv => hl v (List.mem_cons_of_mem _ hv)) h1
    exact ⟨k1, fun f hf => k2 f (h2 f hf)⟩
theorem cl2_ok (h : Grow b tr sup F S fs) (hg : ∀ x ∈ g, x ∈ fs) {f l : Fact} (hf : f ∈ g) (hl : l ∈ linksOf g) : Grow b tr sup F S (cl2 f fs l) ∧ ∀ x ∈ fs, x ∈ cl2 f fs l := by
  unfold cl2
  by_cases hc : l.1 = f.2 ∧ (f.1, l.2) ∉ fs
  · rw [if_pos hc]
    obtain ⟨y, h1, h2, _⟩ := links_mem.mp hl
    have f1 := hg f hf
    refine ⟨h.add hc.2 ⟨(h.inU f f1).1, (h.inU _ (hg _ h2)).2⟩ (Drv.step (.inr ⟨f.2, y, ?_, ?_, ?_⟩)), fun x hx => List.mem_append_left _ hx⟩
    · exact h.drv f f1
    · exact h.drv _ (hg _ (by rw [← hc.1]; exact h1))
    · exact h.drv _ (hg _ h2)
  · rw [if_neg hc]
    exact ⟨h, fun x hx => hx⟩
theorem cl2s_ok {f : Fact} (hf : f ∈ g) : ∀ (ls fs : List Fact), (∀ l ∈ ls, l ∈ linksOf g) → Grow b tr sup F S fs → (∀ x ∈ g, x ∈ fs) → Grow b tr sup F S (ls.foldl (cl2 f) fs) ∧ ∀ x ∈ fs, x ∈ ls.foldl (cl2 f) fs
  | [], fs, _, h, _ => ⟨h, fun x hx => hx⟩
  | l :: ls, fs, hl, h, hg => by
    obtain ⟨h1, h2⟩ := cl2_ok h hg hf (hl l List.mem_cons_self)
    obtain ⟨k1, k2⟩ := cl2s_ok hf ls _ (fun v hv => hl v (List.mem_cons_of_mem _ hv)) h1 fun x hx => h2 x (hg x hx)
    exact ⟨k1, fun x hx => k2 x (h2 x hx)⟩
theorem cl1s_ok : ∀ (l fs : List Fact), (∀ x ∈ l, x ∈ g) → Grow b tr sup F S fs → (∀ x ∈ g, x ∈ fs) → Grow b tr sup F S (l.foldl (cl1 (linksOf g)) fs) ∧ ∀ x ∈ fs, x ∈ l.foldl (cl1 (linksOf g)) fs
  | [], fs, _, h, _ => ⟨h, fun x hx => hx⟩
  | f :: l, fs, hl, h, hg => by
    obtain ⟨h1, h2⟩ := cl2s_ok (hl f List.mem_cons_self) (linksOf g) fs (fun _ hx => hx) h hg
    obtain ⟨k1, k2⟩ := cl1s_ok l _ (fun v hv => hl v (List.mem_cons_of_mem _ hv)) h1 fun x hx => h2 x (hg x hx)
    exact ⟨k1, fun x hx => k2 x (h2 x hx)⟩
theorem turn_ok (B : Ground b F S) (hn : ∀ s ∈ b.srcs, b.srcOf s.name = s) (h : Grow b tr sup F S fs) : Grow b tr sup F S (turnB b tr fs) ∧ (∀ f ∈ fs, f ∈ turnB b tr fs) ∧ Grow b tr sup F S (turnOf b tr fs) ∧ ∀ f ∈ turnB b tr fs, f ∈ turnOf b tr fs := by
  obtain ⟨h1, h2⟩ := cbs_ok (tr := tr) B hn b.blds fs (fun _ hu => hu) h
  obtain ⟨k1, k2⟩ := cl1s_ok (g := turnB b tr fs) (turnB b tr fs) (turnB b tr fs) (fun _ hx => hx) h1 fun _ hx => hx
  exact ⟨h1, h2, k1, k2⟩
/-- nothing new: closed -/
theorem cb_all {l : List Bld} {fs : List Fact} (B : Ground b F S) (hn : ∀ s ∈ b.srcs, b.srcOf s.name = s) : ∀ (l : List Bld) (fs : List Fact), (l.foldl (cb b tr) fs).length ≤ fs.length → l.foldl (cb b tr) fs = fs ∧ ∀ u ∈ l, ¬ (u.party ∈ tr ∧ (u.file, u.src) ∉ fs ∧ wantedB b fs u = true) := by
  have mono : ∀ (l : List Bld) (fs : List Fact), fs.length ≤ (l.foldl (cb b tr) fs).length := by
    intro l
    induction l with
    | nil => intro fs; exact Nat.le_refl _
    | cons u l ih =>
      intro fs
      refine Nat.le_trans ?_ (ih (cb b tr fs u))
      unfold cb
      split
      · rw [List.length_append]; exact Nat.le_add_right _ _
      · exact Nat.le_refl _
  intro l
  induction l with
  | nil => intro fs _; exact ⟨rfl, fun u hu => by cases hu⟩
  | cons u l ih =>
    intro fs h
    rw [List.foldl_cons] at h ⊢
    by_cases hc : u.party ∈ tr ∧ (u.file, u.src) ∉ fs ∧ wantedB b fs u = true
    · have e : cb b tr fs u = fs ++ [(u.file, u.src)] := if_pos hc
      have := mono l (cb b tr fs u)
      rw [e, List.length_append, List.length_singleton] at this
      rw [e] at h
      omega
    · have e : cb b tr fs u = fs := if_neg hc
      rw [e] at h ⊢
      obtain ⟨i1, i2⟩ := ih fs h
      refine ⟨i1, fun v hv => ?_⟩
      rcases List.mem_cons.mp hv with z | hv
      · rw [z]; exact hc
      · exact i2 v hv
theorem cl_mono2 (f : Fact) : ∀ (ls fs : List Fact), fs.length ≤ (ls.foldl (cl2 f) fs).length
  | [], fs => Nat.le_refl _
  | l :: ls, fs => by
    refine Nat.le_trans ?_ (cl_mono2 f ls (cl2 f fs l))
    unfold cl2
    split
    · rw [List.length_append]; exact Nat.le_add_right _ _
    · exact Nat.le_refl _
theorem cl_mono1 (ls : List Fact) : ∀ (l fs : List Fact), fs.length ≤ (l.foldl (cl1 ls) fs).length
  | [], fs => Nat.le_refl _
  | f :: l, fs => Nat.le_trans (cl_mono2 f ls fs) (cl_mono1 ls l _)
theorem cl2_all (f : Fact) : ∀ (ls fs : List Fact), (ls.foldl (cl2 f) fs).length ≤ fs.length → ls.foldl (cl2 f) fs = fs ∧ ∀ l ∈ ls, ¬ (l.1 = f.2 ∧ (f.1, l.2) ∉ fs)
  | [], fs, _ => ⟨rfl, fun l hl => by cases hl⟩
  | l :: ls, fs, h => by
    rw [List.foldl_cons] at h ⊢
    by_cases hc : l.1 = f.2 ∧ (f.1, l.2) ∉ fs
    · have e : cl2 f fs l = fs ++ [(f.1, l.2)] := if_pos hc
      have := cl_mono2 f ls (cl2 f fs l)
      rw [e, List.length_append, List.length_singleton] at this
      rw [e] at h
      omega
    · have e : cl2 f fs l = fs := if_neg hc
      rw [e] at h ⊢
      obtain ⟨i1, i2⟩ := cl2_all f ls fs h
      refine ⟨i1, fun v hv => ?_⟩
      rcases List.mem_cons.mp hv with z | hv
      · rw [z]; exact hc
      · exact i2 v hv
theorem cl1_all (ls : List Fact) : ∀ (l fs : List Fact), (l.foldl (cl1 ls) fs).length ≤ fs.length → l.foldl (cl1 ls) fs = fs ∧ ∀ f ∈ l, ∀ k ∈ ls, ¬ (k.1 = f.2 ∧ (f.1, k.2) ∉ fs)
  | [], fs, _ => ⟨rfl, fun f hf => by cases hf⟩
  | f :: l, fs, h => by
    rw [List.foldl_cons] at h ⊢
    have m1 := cl_mono1 ls l (cl1 ls fs f)
    obtain ⟨e, h2⟩ := cl2_all f ls fs (Nat.le_trans m1 h)
    have e' : cl1 ls fs f = fs := e
    rw [e'] at h ⊢
    obtain ⟨i1, i2⟩ := cl1_all ls l fs h
    refine ⟨i1, fun v hv => ?_⟩
    rcases List.mem_cons.mp hv with z | hv
    · rw [z]; exact h2
    · exact i2 v hv
theorem turn_closed (B : Ground b F S) (hn : ∀ s ∈ b.srcs, b.srcOf s.name = s) (h : Grow b tr sup F S fs) (hl : ¬ fs.length < (turnOf b tr fs).length) : turnOf b tr fs = fs ∧ ∀ f, Step b tr (· ∈ fs) f → f ∈ fs := by
  have hmono : (turnB b tr fs).length ≤ (turnOf b tr fs).length := cl_mono1 _ _ _
  obtain ⟨e1, a1⟩ := cb_all (l := []) (fs := []) (tr := tr) B hn b.blds fs (by
    show (turnB b tr fs).length ≤ fs.length
    omega)
  have e1' : turnB b tr fs = fs := e1
  have e2' : turnOf b tr fs = turnL fs := by unfold turnOf; rw [e1']
  rw [e2'] at hl ⊢
  obtain ⟨e3, a3⟩ := cl1_all (linksOf fs) fs fs (by
    show (turnL fs).length ≤ fs.length
    omega)
  refine ⟨e3, fun f hs => ?_⟩
  rcases Classical.em (f ∈ fs) with c | c
  · exact c
  · rcases hs with ⟨u, hu, k1, k2, k3⟩ | ⟨s, y, k1, k2, k3⟩
    · subst k2
      exact absurd ⟨k1, c, (wanted_iff hn (h.fok B).src).mpr k3⟩ (a1 u hu)
    · by_cases hst : f.2 = s
      · rw [← hst] at k1
        exact absurd k1 c
      · exact absurd ⟨rfl, c⟩ (a3 (f.1, s) k1 (s, f.2) (links_mem.mpr ⟨y, k2, k3, hst⟩))
theorem closeL_ok (B : Ground b F S) (hn : ∀ s ∈ b.srcs, b.srcOf s.name = s) : ∀ (n : Nat) (fs : List Fact), Grow b tr sup F S fs → 47 ≤ n + fs.length → Grow b tr sup F S (closeL b tr n fs) ∧ (∀ f ∈ fs, f ∈ closeL b tr n fs) ∧ ∀ f, Step b tr (· ∈ closeL b tr n fs) f → f ∈ closeL b tr n fs
  | 0, fs, h, hf => by
    have := h.len B
    omega
  | n + 1, fs, h, hf => by
    obtain ⟨t1, t2, t3, t4⟩ := turn_ok (tr := tr) B hn h
    unfold closeL
    by_cases hl : fs.length < (turnOf b tr fs).length
    · rw [if_pos hl]
      obtain ⟨i1, i2, i3⟩ := closeL_ok B hn n (turnOf b tr fs) t3 (by omega)
      exact ⟨i1, fun f hf => i2 f (t4 f (t2 f hf)), i3⟩
    · rw [if_neg hl]
      obtain ⟨e, c⟩ := turn_closed B hn h hl
      rw [e]
      exact ⟨h, fun f hf => hf, c⟩
theorem closeL_iff (B : Ground b F S) (hn : ∀ s ∈ b.srcs, b.srcOf s.name = s) (h : InU F S sup) (hd : sup.Nodup) (f : Fact) : f ∈ closeL b tr 47 sup ↔ Drv b tr sup f := by
  obtain ⟨i1, i2, i3⟩ := closeL_ok (tr := tr) (sup := sup) B hn 47 sup ⟨h, hd, fun g hg => Drv.sup hg⟩ (by omega)
  exact drv_iff i2 i1.drv i3 f
end
end Rb
set_option Elab.async false
set_option linter.all false
set_option maxRecDepth 100000
set_option maxHeartbeats 4000000
namespace Rb
open PySem PySem.Spec PyProof.Rows L2
variable {P : Program} {w : World} {K : PySem.W.Frag} {mg : Str → Option Value} {base : Heap} {f : Addr} {fd : FuncData}
theorem lfs_facts (fs : List Fact) : lfs (fs.map eU) = true := lfs_map fun f _ => lf_fact f
structure CloseOk (b : Book) (sup : List Fact) (F S : List Str) : Prop where
  small : b.Small
  ground : Ground b F S
  uniq : ∀ s ∈ b.srcs, b.srcOf s.name = s
  inU : InU F S sup
  nd : sup.Nodup
def R_close : Hp → List SV → List D → Prop := fun _ xs ds => ∃ (b : Book) (tr : List Str) (sup : List Fact) (F S : List Str), xs = [.d (eK b), .d (eSs tr), .d (.tuple (sup.map eU))] ∧ CloseOk b sup F S ∧ ds = (sortBy eU (closeL b tr 47 sup)).map eU
theorem fn_close (T : Gf mg) (Fd : FD K "_law_close" s_l_close f fd) (hx : mg "_law_close" = some (.ref f)) (C1 : Fn P w K mg base "_law_wanted" 2 3 [] R_wanted) (C2 : FnL P w K mg base "_law_links" 2 1 R_links) : FnL P w K mg base "_law_close" 3 3 R_close := by
  refine fn_list Fd sc_l_close rfl rfl hx (Fd.bindsN fun _ _ _ _ _ _ us hl => match us, hl with | [_, _, _], _ => rfl) fun cdv A outer s H E hr G xs ds Q hR hl q => ?_
  obtain ⟨b, tr, sup, F, S, rfl, ok, rfl⟩ := hR
  have B := ok.ground
  have G0 : Grow b tr sup F S sup := ⟨ok.inU, ok.nd, fun g hg => Drv.sup hg⟩
  refine ss_ownO 3 sc_l_close.nd (ef_callT T.list (by decide +kernel) (ea_cons (ee_nm 2) ea_nil) fun _ _ g => cf_listT g) fun l G1 H1 g1 hl0 own1 => ?_
  refine ss_set (x := .d (.bool true)) 4 sc_l_close.nd ee_bl fun G2 H2 g2 => ?_
  refine ss_while (fun m ρ G' H' => ∃ (fs : List Fact) (fl : Bool) (o5 o6 o7 o8 o9 o10 o11 o12 : Option SV), ρ = [some (.d (eK b)), some (.d (eSs tr)), some (.d (.tuple (sup.map eU))), some (.v (.ref l)), some (.d (.bool fl)), o5, o6, o7, o8, o9, o10, o11, o12] ∧ Gr G H G' H' ∧ Own K G' H' l (fs.map eU) ∧ Grow b tr sup F S fs ∧ (fl = true → closeL b tr m fs = closeL b tr 47 sup ∧ 47 ≤ m + fs.length) ∧ (fl = false → fs = closeL b tr 47 sup)) 47
    ⟨sup, true, none, none, none, none, none, none, none, none, rfl, g1.trans g2, own1.gr g2, G0, fun _ => ⟨rfl, by omega⟩, fun k => nomatch k⟩ ?_
  rintro m ρ G3 H3 ⟨fs, fl, o5, o6, o7, o8, o9, o10, o11, o12, rfl, gr3, own3, hG, hT, hF⟩
  refine ⟨fl, et_val (ee_nm 4), fun hk G4 H4 g4 => ?_, fun hk G4 H4 g4 => ?_⟩
  · obtain ⟨hfin, hfuel⟩ := hT hk
    have h46 := hG.len B
    obtain ⟨m', rfl⟩ : ∃ m', m = m' + 1 := ⟨m - 1, by omega⟩
    have own4 := own3.gr g4
    refine ss_set (x := .d (.int (fs.length : Nat))) 5 sc_l_close.nd (ee_ownO 3 own4 (by simp [lf]) fun Gx sx => EE.to (ee_lenL T.len (ee_nm 3)) (by rw [List.length_map])) fun G5 H5 g5 => ?_
    have gr5 := gr3.trans (g4.trans g5)
    have own5 := own4.gr g5
    obtain ⟨t1, t2, t3, t4⟩ := turn_ok (tr := tr) B ok.uniq hG
    -- the builds
    refine ss_for (xs := b.blds.map eB) (ei_tup (ee_at 3 (ee_nm 0))) fun G6 H6 g6 => ⟨fun i ρ G' H' => ∃ o6 o7, ρ = [some (.d (eK b)), some (.d (eSs tr)), some (.d (.tuple (sup.map eU))), some (.v (.ref l)), some (.d (.bool fl)), some (.d (.int (fs.length : Nat))), o6, o7, o8, o9, o10, o11, o12] ∧ Same G6 G' ∧ Gr G H G' H' ∧ Own K G' H' l (((b.blds.take i).foldl (cb b tr) fs).map eU),
      ⟨_, _, rfl, .refl _, gr5.trans g6, own5.gr g6⟩, fun i ρ G1 H1 h => h.choose_spec.choose_spec.2.1, ?_, ?_⟩
    · rintro i d ρ G7 H7 hd ⟨o6, o7, rfl, s67, gr7, own7⟩ G8 H8 g8
      rw [List.getElem?_map] at hd
      cases hf : b.blds[i]? with
      | none => rw [hf] at hd; cases hd
      | some u =>
        rw [hf] at hd
        cases hd
        have hu := List.mem_of_getElem? hf
        have hnext := foldl_take (cb b tr) fs hf
        have hGi := (cbs_ok (tr := tr) B ok.uniq (b.blds.take i) fs (fun v hv => List.mem_of_mem_take hv) hG).1
        generalize (b.blds.take i).foldl (cb b tr) fs = fi at own7 hnext hGi
        have hFi := hGi.fok B
        obtain ⟨x1, x2, x3⟩ := B.txt.blds u hu
        refine ⟨[(6, eB u)], ga_nm 6 sc_l_close.nd, ?_⟩
        refine ss_set (x := .d (eU (u.file, u.src))) 7 sc_l_close.nd (ee_pair (ee_at 4 (ee_nm 6)) (ee_at 2 (ee_nm 6))) fun G9 H9 g9 => ?_
        have own9 := own7.gr (g8.trans g9)
        refine ss_if1 (k := decide (u.party ∈ tr) && (!decide ((u.file, u.src) ∈ fi) && wantedB b fi u)) (et_w (ew_and (et_cmp (ee_at 0 (ee_nm 6)) (ee_nm 1) fun _ _ g => od_inT g) fun _ => ew_and (et_ownO 3 own9 fun Gx sx => et_cmp (ee_nm 7) (ee_nm 3) fun _ _ g => od_ninU (f := (u.file, u.src)) (u65 hr) ⟨x1, B.txt.name x2⟩ hFi.txt g) fun _ => ew_and1 (et_ownO 3 own9 fun Gx sx => et_val (ee_call C1 hr (ea_cons (ee_nm 0) (ea_cons (ee_nm 3) (ea_cons (ee_nm 6) ea_nil))) fun _ _ _ => ⟨b, fi, u, rfl, ok.small.srcs, B.txt, hFi, hu, ok.small.parts u hu, rfl⟩)))) (fun hy Ga Ha ga => ?_) fun hn Ga Ha ga => ?_
        · simp only [Bool.and_eq_true, Bool.not_eq_true', decide_eq_false_iff_not, decide_eq_true_eq] at hy
          have h46i := hGi.len B
          refine ss_appO (d := eU (u.file, u.src)) (own9.gr ga) (ee_nm 3) (ee_nm 7) (by rw [List.length_map]; omega) fun vs v Gb Hb gb w1 w2 => ?_
          refine ss_out fun Gc Hc gc => ss_turn ⟨_, _, rfl, s67.trans (g8.g.trans (g9.g.trans (ga.g.trans (gb.g.trans gc.g)))), ((gr7.trans (g8.trans (g9.trans (ga.trans gb)))).mut hl0 w1.off).trans gc, ?_⟩
          rw [hnext]
          have e : cb b tr fi u = fi ++ [(u.file, u.src)] := if_pos hy
          rw [e, List.map_append]
          exact w2.gr gc
        · refine ss_turn ⟨_, _, rfl, s67.trans (g8.g.trans (g9.g.trans ga.g)), gr7.trans (g8.trans (g9.trans ga)), ?_⟩
          rw [hnext]
          have e : cb b tr fi u = fi := if_neg fun h => by
            rw [decide_eq_true h.1, decide_eq_false h.2.1, h.2.2] at hn
            cases hn
          rw [e]
          exact own9.gr ga
    · rintro ρ G7 H7 ⟨o6, o7, rfl, s67, gr7, own7⟩
      rw [List.length_map, List.take_length] at own7
      have eB' : b.blds.foldl (cb b tr) fs = turnB b tr fs := rfl
      rw [eB'] at own7
      have hFB := t1.fok B
      have h46B := t1.len B
      -- the links
      refine ss_set (x := .d (.list ((linksOf (turnB b tr fs)).map eU))) 8 sc_l_close.nd (EF.ee (ef_ownO 3 own7 (lfs_facts _) fun Gx sx => ef_call C2 hr (ea_cons (ee_nm 3) ea_nil) fun _ _ _ => ⟨turnB b tr fs, rfl, hFB.len, hFB.txt, rfl⟩)) fun G8 H8 g8 => ?_
      have own8 := own7.gr g8
      refine ss_for (xs := (turnB b tr fs).map eU) (ei_list (EF.ee (ef_ownO 3 own8 (lfs_facts _) fun Gx sx => ef_callT T.list (by decide +kernel) (ea_cons (ee_nm 3) ea_nil) fun _ _ g => cf_listL g))) fun G9 H9 g9 => ⟨fun i ρ G' H' => ∃ o9 o10 o11 o12, ρ = [some (.d (eK b)), some (.d (eSs tr)), some (.d (.tuple (sup.map eU))), some (.v (.ref l)), some (.d (.bool fl)), some (.d (.int (fs.length : Nat))), o6, o7, some (.d (.list ((linksOf (turnB b tr fs)).map eU))), o9, o10, o11, o12] ∧ Same G9 G' ∧ Gr G H G' H' ∧ Own K G' H' l ((((turnB b tr fs).take i).foldl (cl1 (linksOf (turnB b tr fs))) (turnB b tr fs)).map eU),
        ⟨_, _, _, _, rfl, .refl _, gr7.trans (g8.trans g9), own8.gr g9⟩, fun i ρ G1 H1 h => h.choose_spec.choose_spec.choose_spec.choose_spec.2.1, ?_, ?_⟩
      · rintro i d ρ Ga Ha hd ⟨o9, o10, o11, o12, rfl, s9a, gra, owna⟩ Gb Hb gb
        rw [List.getElem?_map] at hd
        cases hf : (turnB b tr fs)[i]? with
        | none => rw [hf] at hd; cases hd
        | some z =>
          rw [hf] at hd
          cases hd
          have hz := List.mem_of_getElem? hf
          have hnext := foldl_take (cl1 (linksOf (turnB b tr fs))) (turnB b tr fs) hf
          obtain ⟨hGi, hsub⟩ := cl1s_ok (tr := tr) (sup := sup) (F := F) (S := S) (b := b) (g := turnB b tr fs) ((turnB b tr fs).take i) (turnB b tr fs) (fun v hv => List.mem_of_mem_take hv) t1 fun _ hx => hx
          generalize ((turnB b tr fs).take i).foldl (cl1 (linksOf (turnB b tr fs))) (turnB b tr fs) = fi at owna hnext hGi hsub
          refine ⟨[(9, .str z.1), (10, .str z.2)], ga_tup (us := [(9, .str z.1), (10, .str z.2)]) rfl (gas_cons (ga_nm 9 sc_l_close.nd) (gas_cons (ga_nm 10 sc_l_close.nd) gas_nil)), ?_⟩
          refine ss_for (xs := (linksOf (turnB b tr fs)).map eU) (ei_list (ee_nm 8)) fun Gc Hc gc => ⟨fun j ρ G' H' => ∃ o11 o12, ρ = [some (.d (eK b)), some (.d (eSs tr)), some (.d (.tuple (sup.map eU))), some (.v (.ref l)), some (.d (.bool fl)), some (.d (.int (fs.length : Nat))), o6, o7, some (.d (.list ((linksOf (turnB b tr fs)).map eU))), some (.d (.str z.1)), some (.d (.str z.2)), o11, o12] ∧ Same Gc G' ∧ Gr G H G' H' ∧ Own K G' H' l ((((linksOf (turnB b tr fs)).take j).foldl (cl2 z) fi).map eU),
            ⟨_, _, rfl, .refl _, gra.trans (gb.trans gc), owna.gr (gb.trans gc)⟩, fun i ρ G1 H1 h => h.choose_spec.choose_spec.2.1, ?_, ?_⟩
          · rintro j d ρ Gd Hd hd2 ⟨o11, o12, rfl, scd, grd, ownd⟩ Ge He ge
            rw [List.getElem?_map] at hd2
            cases hj : (linksOf (turnB b tr fs))[j]? with
            | none => rw [hj] at hd2; cases hd2
            | some k =>
              rw [hj] at hd2
              cases hd2
              have hk2 := List.mem_of_getElem? hj
              obtain ⟨y, y1, y2, _⟩ := links_mem.mp hk2
              have hnext2 := foldl_take (cl2 z) fi hj
              have hGj := (cl2s_ok (tr := tr) (sup := sup) (F := F) (S := S) (b := b) hz ((linksOf (turnB b tr fs)).take j) fi (fun v hv => List.mem_of_mem_take hv) hGi hsub).1
              generalize ((linksOf (turnB b tr fs)).take j).foldl (cl2 z) fi = fj at ownd hnext2 hGj
              have hFj := hGj.fok B
              have owne := ownd.gr ge
              refine ⟨[(11, .str k.1), (12, .str k.2)], ga_tup (us := [(11, .str k.1), (12, .str k.2)]) rfl (gas_cons (ga_nm 11 sc_l_close.nd) (gas_cons (ga_nm 12 sc_l_close.nd) gas_nil)), ?_⟩
              refine ss_if1 (k := decide (k.1 = z.2) && !decide ((z.1, k.2) ∈ fj)) (et_w (ew_and (et_cmp (ee_nm 11) (ee_nm 10) fun _ _ g => od_eqS g) fun _ => ew_and1 (et_ownO 3 owne fun Gx sx => et_cmp (ee_pair (x := .str z.1) (y := .str k.2) (ee_nm 9) (ee_nm 12)) (ee_nm 3) fun _ _ g => od_ninU (f := (z.1, k.2)) (u65 hr) ⟨(hFB.txt z hz).1, (hFB.txt _ y2).2⟩ hFj.txt g))) (fun hy Gf Hf gf => ?_) fun hn Gf Hf gf => ?_
              · simp only [Bool.and_eq_true, Bool.not_eq_true', decide_eq_false_iff_not, decide_eq_true_eq] at hy
                have h46j := hGj.len B
                refine ss_appO (d := eU (z.1, k.2)) (owne.gr gf) (ee_nm 3) (ee_pair (x := .str z.1) (y := .str k.2) (ee_nm 9) (ee_nm 12)) (by rw [List.length_map]; omega) fun vs v Gg Hg gg w1 w2 => ?_
                refine ss_out fun Gh Hh gh => ss_turn ⟨_, _, rfl, scd.trans (ge.g.trans (gf.g.trans (gg.g.trans gh.g))), ((grd.trans (ge.trans (gf.trans gg))).mut hl0 w1.off).trans gh, ?_⟩
                rw [hnext2]
                have e : cl2 z fj k = fj ++ [(z.1, k.2)] := if_pos hy
                rw [e, List.map_append]
                exact w2.gr gh
              · refine ss_turn ⟨_, _, rfl, scd.trans (ge.g.trans gf.g), grd.trans (ge.trans gf), ?_⟩
                rw [hnext2]
                have e : cl2 z fj k = fj := if_neg fun h => by
                  rw [decide_eq_true h.1, decide_eq_false h.2] at hn
                  cases hn
                rw [e]
                exact owne.gr gf
          · rintro ρ Gd Hd ⟨o11, o12, rfl, scd, grd, ownd⟩
            rw [List.length_map, List.take_length] at ownd
            refine ss_turn ⟨_, _, _, _, rfl, s9a.trans (gb.g.trans (gc.g.trans scd)), grd, ?_⟩
            rw [hnext]
            exact ownd
      · rintro ρ Ga Ha ⟨o9, o10, o11, o12, rfl, s9a, gra, owna⟩
        rw [List.length_map, List.take_length] at owna
        have eL : (turnB b tr fs).foldl (cl1 (linksOf (turnB b tr fs))) (turnB b tr fs) = turnOf b tr fs := rfl
        rw [eL] at owna
        refine ss_set (x := .d (.bool (decide (fs.length < (turnOf b tr fs).length)))) 4 sc_l_close.nd (ee_ownO 3 owna (by simp [lf]) fun Gx sx => EE.to (ee_cmp (ee_lenL T.len (ee_nm 3)) (ee_nm 5) fun _ _ g => od_gt g) ?_) fun Gb Hb gb => ?_
        · rw [List.length_map]
          have : decide (((fs.length : Nat) : Int) < ((turnOf b tr fs).length : Nat)) = decide (fs.length < (turnOf b tr fs).length) := decide_eq_decide.mpr (by omega)
          rw [this]
        · refine ss_wturn (k := m') (Nat.lt_succ_self m') ⟨turnOf b tr fs, _, _, _, _, _, _, _, _, _, rfl, gra.trans gb, owna.gr gb, t3, fun k => ?_, fun k => ?_⟩
          · have hlt := of_decide_eq_true k
            have e : closeL b tr (m' + 1) fs = closeL b tr m' (turnOf b tr fs) := by
              conv => lhs; unfold closeL
              rw [if_pos hlt]
            rw [← e]
            exact ⟨hfin, by omega⟩
          · have hlt := of_decide_eq_false k
            have e : closeL b tr (m' + 1) fs = turnOf b tr fs := by
              conv => lhs; unfold closeL
              rw [if_neg hlt]
            rw [← e]
            exact hfin
  · have e := hF hk
    have own4 := own3.gr g4
    have h46 := hG.len B
    rw [← e] at q
    refine ss_retF (ef_ownO 3 own4 (lfs_facts _) fun Gx sx => ef_callB T.sorted (by decide +kernel) (ea_cons (ee_nm 3) ea_nil) fun _ _ g => cf_sorted hr.units eU_alike (PySem.W.Sortable.tuples fun x => ⟨_, _, rfl⟩) (by omega) (fun x => by simp [eU, PyData.depth, PyData.depthAll]) g) fun p ws G5 H5 g5 hp gp e5 r5 => q p ws G5 H5 (gr3.trans (g4.trans g5)) ((gr3.trans g4).none' hp) gp e5 r5
end Rb
set_option Elab.async false
set_option linter.all false
set_option maxRecDepth 100000
set_option maxHeartbeats 4000000
namespace Rb
open PySem PySem.Spec PyProof.Rows L2
variable {P : Program} {w : World} {K : PySem.W.Frag} {mg : Str → Option Value} {base : Heap} {f : Addr} {fd : FuncData}
theorem upTo_eq (n : Nat) : upTo n = (List.range n).map fun i => .int (i : Nat) := by
  unfold upTo
  refine List.map_congr_left fun i _ => ?_
  rw [Int.zero_add]
theorem ei_rangeN {X : Cx} {ρ : Env} {G H : Hp} {tg e : Expr} {p' pos : Pos} {n : Nat} (hm : X.mg "range" = none) (h : EE X ρ G H e (.d (.int (n : Nat)))) (hn : n ≤ 100000) (hg : Gl X "range" := by rfl) (hs : starEach [e] X.env = [(false, eval e X.env)] := by rfl) : EI X ρ G H tg (.Call (.Name "range" p') [e] [] pos) ((List.range n).map fun i => .int (i : Nat)) := by
  rw [← upTo_eq]
  exact ei_range hm h hn hg hs
/-! ### chosen -/
def chosenOf (b : Book) (mask : Nat) : List Str := ((List.range b.parties.length).filter fun k => decide ((mask / 2 ^ k) % 2 = 1)).map fun k => (b.parties.getD k ("", 0)).1
def R_chosen : Hp → List SV → SV → Prop := fun _ xs y => ∃ (b : Book) (mask : Nat), xs = [.d (eK b), .d (.int (mask : Nat))] ∧ b.parties.length ≤ 3 ∧ y = .d (eSs (chosenOf b mask))
theorem fn_chosen (T : Gf mg) (F : FD K "_law_chosen" s_l_chosen f fd) (hx : mg "_law_chosen" = some (.ref f)) : Fn P w K mg base "_law_chosen" 1 2 [] R_chosen := by
  refine fn_pure F sc_l_chosen rfl rfl hx (F.bindsN fun _ _ _ _ _ _ us hl => match us, hl with | [_, _], _ => rfl) .nil fun cdv A outer s H E hr G xs y Q hR hl q => ?_
  obtain ⟨b, mask, rfl, hb, rfl⟩ := hR
  refine ss_ret (x := .d (eSs (chosenOf b mask))) (EE.to (ee_tupOf T.tuple (EF.ee (ef_fil [("_law_k", 2)] (List.range b.parties.length) (fun k => .int (k : Nat)) (fun k => [(2, .int (k : Nat))]) (fun k => decide ((mask / 2 ^ k) % 2 = 1)) (fun k => .str (b.parties.getD k ("", 0)).1) sc_l_chosen.nd (ei_rangeN T.range (EE.to (ee_lenT T.len (ee_at 1 (ee_nm 0))) (by rw [List.length_map])) (by omega)) (by rw [List.length_range]; omega) (fun _ _ i hi => hi) (fun _ _ _ _ _ z _ => ga_nm 2 sc_l_chosen.nd)
    (fun _ _ _ _ _ k hk => ?_) (fun _ _ _ _ _ k hk _ => ?_)))) (by unfold chosenOf eSs; rw [List.map_map] <;> rfl)) q
  · have hk3 : k < 3 := Nat.lt_of_lt_of_le (List.mem_range.mp hk) hb
    have hpw : ([.int 1, .int 2, .int 4] : List D)[k]? = some (.int ((2 ^ k : Nat) : Int)) := by
      rcases k with _ | _ | _ | k
      · rfl
      · rfl
      · rfl
      · omega
    have hpos : 0 < 2 ^ k := Nat.pow_pos (by decide)
    have hle : 2 ^ k ≤ 4 := by
      rcases k with _ | _ | _ | k
      · decide
      · decide
      · decide
      · omega
    refine ET.to (et_cmp (ee_bin (ee_callT T.int (by decide +kernel) (ea_cons (ee_bin (ee_nm 1) (ee_ix (ee_tup (ds := [.int 1, .int 2, .int 4]) (ea_cons ee_int (ea_cons ee_int (ea_cons ee_int ea_nil)))) (ee_nm 2) fun _ _ g => xd_tup hpw g) fun _ _ g => od_fdiv (by omega) g) ea_nil) fun _ _ g => cd_int g) ee_int fun _ _ g => od_mod (by decide) g) ee_int fun _ _ g => od_eqI g) ?_
    refine decide_eq_decide.mpr ?_
    rw [← Int.natCast_ediv]
    omega
  · have hk' := List.mem_range.mp hk
    have hg : (b.parties.map eP)[k]? = some (eP (b.parties.getD k ("", 0))) := by
      rw [List.getElem?_map, List.getD_eq_getElem?_getD, List.getElem?_eq_getElem hk'] <;> rfl
    exact ee_at 0 (ds := [.str (b.parties.getD k ("", 0)).1, .int (b.parties.getD k ("", 0)).2]) (ee_ix (ee_at 1 (ee_nm 0)) (ee_nm 2) fun _ _ g => xd_tup hg g)
/-! ### part -/
def partL (b : Book) (tr : List Str) (fs : List Fact) (u v : Bld) : Bool := match u.comp, v.comp with
  | some c, some d => (decide (u.party ∈ tr) && decide (v.party ∈ tr)) && (((decide (u.src = v.src) && decide (u.parts = v.parts)) && !decide (u.file = v.file)) && !decide (((rightsOf fs c).filter fun z => decide ((d, z) ∈ fs)).filter (fun z => (b.srcOf z).steady) = []))
  | _, _ => false
def R_lpart : Hp → List SV → SV → Prop := fun _ xs y => ∃ (b : Book) (tr : List Str) (fs : List Fact) (u v : Bld), xs = [.d (eK b), .d (eSs tr), .d (.list (fs.map eU)), .d (eB u), .d (eB v)] ∧ b.Small ∧ FOk b fs ∧ u ∈ b.blds ∧ v ∈ b.blds ∧ (∀ c, v.comp = some c → PyData.strOk c = true) ∧ y = .d (.bool (partL b tr fs u v))
theorem fn_part (T : Gf mg) (F : FD K "_law_part" s_l_part f fd) (hx : mg "_law_part" = some (.ref f)) (C1 : Fn P w K mg base "_law_form_of" 1 2 [] R_form) (C2 : FnL P w K mg base "_law_rights" 1 2 R_rights) : Fn P w K mg base "_law_part" 2 5 [] R_lpart := by
  refine fn_pure F sc_l_part rfl rfl hx (F.bindsN fun _ _ _ _ _ _ us hl => match us, hl with | [_, _, _, _, _], _ => rfl) .nil fun cdv A outer s H E hr G xs y Q hR hl q => ?_
  obtain ⟨b, tr, fs, u, v, rfl, hb, hF, hu, hv, hvc, rfl⟩ := hR
  obtain ⟨tu1, tu2⟩ := hb.txt u hu
  obtain ⟨tv1, tv2⟩ := hb.txt v hv
  have hfl := hF.len
  refine ss_if1 (k := !decide (u.party ∈ tr) || (!decide (v.party ∈ tr) || (isNon (eO u.comp) || isNon (eO v.comp)))) (et_w (ew_or (et_cmp (ee_at 0 (ee_nm 3)) (ee_nm 1) fun _ _ g => od_ninT g) fun _ => ew_or (et_cmp (ee_at 0 (ee_nm 4)) (ee_nm 1) fun _ _ g => od_ninT g) fun _ => ew_or (et_cmp (ee_at 1 (ee_nm 3)) ee_non fun _ _ g => od_isN g) fun _ => ew_or1 (et_cmp (ee_at 1 (ee_nm 4)) ee_non fun _ _ g => od_isN g))) (fun hy G1 H1 g1 => ?_) fun hn G1 H1 g1 => ?_
  · refine ss_ret (x := .d (.bool false)) ee_bl fun w' G2 H2 g2 r2 => q w' G2 H2 (g1.trans g2) ?_
    have e : partL b tr fs u v = false := by
      unfold partL
      cases hc : u.comp with
      | none => rfl
      | some c =>
        cases hd : v.comp with
        | none => rfl
        | some d =>
          rw [hc, hd] at hy
          have hy' : (!decide (u.party ∈ tr) || (!decide (v.party ∈ tr) || false)) = true := hy
          show ((decide (u.party ∈ tr) && decide (v.party ∈ tr)) && _) = false
          revert hy'
          cases decide (u.party ∈ tr) <;> cases decide (v.party ∈ tr) <;> intro hy' <;> first | rfl | cases hy'
    rw [e]
    exact r2
  · have hc : ∃ c, u.comp = some c := by
      cases hc : u.comp with
      | none => rw [hc] at hn; revert hn; cases decide (u.party ∈ tr) <;> cases decide (v.party ∈ tr) <;> intro hn <;> cases hn
      | some c => exact ⟨c, rfl⟩
    obtain ⟨c, hc⟩ := hc
    have hd : ∃ d, v.comp = some d := by
      cases hd : v.comp with
      | none => rw [hc, hd] at hn; revert hn; cases decide (u.party ∈ tr) <;> cases decide (v.party ∈ tr) <;> intro hn <;> cases hn
      | some d => exact ⟨d, rfl⟩
    obtain ⟨d, hd⟩ := hd
    have ht : (decide (u.party ∈ tr) && decide (v.party ∈ tr)) = true := by
      rw [hc, hd] at hn
      revert hn
      cases decide (u.party ∈ tr) <;> cases decide (v.party ∈ tr) <;> intro hn <;> first | rfl | cases hn
    have hpart : partL b tr fs u v = (((decide (u.src = v.src) && decide (u.parts = v.parts)) && !decide (u.file = v.file)) && !decide (((rightsOf fs c).filter fun z => decide ((d, z) ∈ fs)).filter (fun z => (b.srcOf z).steady) = [])) := by
      unfold partL
      rw [hc, hd]
      show ((decide (u.party ∈ tr) && decide (v.party ∈ tr)) && _) = _
      rw [ht, Bool.true_and]
    have eu : eB u = .tuple [.str u.party, .str c, .str u.src, .tuple (u.parts.map .str), .str u.file] := by unfold eB; rw [hc] <;> rfl
    have ev : eB v = .tuple [.str v.party, .str d, .str v.src, .tuple (v.parts.map .str), .str v.file] := by unfold eB; rw [hd] <;> rfl
    rw [hpart] at q
    rw [eu, ev]
    refine ss_if1 (k := !(decide (u.src = v.src) && decide (u.parts = v.parts)) || decide (u.file = v.file)) (et_w (ew_or (et_cmp (x := .d (.tuple [.str u.src, .tuple (u.parts.map .str)])) (y := .d (.tuple [.str v.src, .tuple (v.parts.map .str)])) (EE.to (ee_slT (i := some ((2 : Nat) : Int)) (j := some ((4 : Nat) : Int)) (ee_nm 3) (eo_at ee_int) (eo_at ee_int)) (by rw [cut24])) (EE.to (ee_slT (i := some ((2 : Nat) : Int)) (j := some ((4 : Nat) : Int)) (ee_nm 4) (eo_at ee_int) (eo_at ee_int)) (by rw [cut24])) fun _ _ g => od_nePart hr.units tu1 tu2 tv1 tv2 g)
      fun _ => ew_or1 (et_cmp (ee_at 4 (ds := [.str u.party, .str c, .str u.src, .tuple (u.parts.map .str), .str u.file]) (ee_nm 3)) (ee_at 4 (ds := [.str v.party, .str d, .str v.src, .tuple (v.parts.map .str), .str v.file]) (ee_nm 4)) fun _ _ g => od_eqS g))) (fun hy G2 H2 g2 => ?_) fun hno G2 H2 g2 => ?_
    · refine ss_ret (x := .d (.bool false)) ee_bl fun w' G3 H3 g3 r3 => q w' G3 H3 (g1.trans (g2.trans g3)) ?_
      have e : ((decide (u.src = v.src) && decide (u.parts = v.parts)) && !decide (u.file = v.file)) = false := by
        revert hy
        cases decide (u.src = v.src) && decide (u.parts = v.parts) <;> cases decide (u.file = v.file) <;> intro hy <;> first | rfl | cases hy
      rw [e, Bool.false_and]
      exact r3
    · have e : ((decide (u.src = v.src) && decide (u.parts = v.parts)) && !decide (u.file = v.file)) = true := by
        revert hno
        cases decide (u.src = v.src) && decide (u.parts = v.parts) <;> cases decide (u.file = v.file) <;> intro hno <;> first | rfl | cases hno
      rw [e, Bool.true_and] at q
      have hrl := rights_len fs c
      have okz : ∀ z ∈ rightsOf fs c, PyData.strOk z = true := fun z hz => (hF.txt _ (rights_mem.mp hz)).2
      have hdo : PyData.strOk d = true := hvc d hd
      refine ss_lc 5 [("_law_source", 6)] (rightsOf fs c) (fun z => .str z) (fun z => [(6, .str z)]) (fun z => decide ((d, z) ∈ fs)) (fun z => .str z) sc_l_part.nd (ei_list (EF.ee (ef_call C2 hr (ea_cons (ee_nm 2) (ea_cons (ee_at 1 (ds := [.str u.party, .str c, .str u.src, .tuple (u.parts.map .str), .str u.file]) (ee_nm 3)) ea_nil)) fun _ _ _ => ⟨fs, c, rfl, hfl, rfl⟩))) (by omega) (fun _ _ i hi => hi) (fun _ _ _ _ _ z _ => ga_nm 6 sc_l_part.nd)
        (fun _ _ _ _ _ z hz => ep_one (et_cmp (ee_pair (x := .str d) (y := .str z) (ee_at 1 (ds := [.str v.party, .str d, .str v.src, .tuple (v.parts.map .str), .str v.file]) (ee_nm 4)) (ee_nm 6)) (ee_nm 2) fun _ _ g => od_inU (f := (d, z)) (u65 hr) ⟨hdo, okz z hz⟩ hF.txt g)) (fun _ _ _ _ _ z hz _ => ee_nm 6) fun G3 H3 g3 => ?_
      have hbl : ((rightsOf fs c).filter fun z => decide ((d, z) ∈ fs)).length ≤ (rightsOf fs c).length := List.length_filter_le _ _
      refine ss_ret (x := .d (.bool (!decide (((rightsOf fs c).filter fun z => decide ((d, z) ∈ fs)).filter (fun z => (b.srcOf z).steady) = [])))) (ee_cmp (EF.ee (ef_fil [("_law_source", 6)] ((rightsOf fs c).filter fun z => decide ((d, z) ∈ fs)) (fun z => .str z) (fun z => [(6, .str z)]) (fun z => (b.srcOf z).steady) (fun z => .str z) sc_l_part.nd (ei_list (ee_nm 5)) (by omega) (fun _ _ i hi => hi) (fun _ _ _ _ _ z _ => ga_nm 6 sc_l_part.nd)
        (fun _ _ _ _ _ z hz => et_val (ee_at 3 (ds := [.str (b.srcOf z).name, .str (b.srcOf z).lang, .tuple ((b.srcOf z).comp.map .str), .bool (b.srcOf z).steady, .tuple ((b.srcOf z).uses.map .str)]) (ee_call C1 hr (ea_cons (ee_nm 0) (ea_cons (ee_nm 6) ea_nil)) fun _ _ _ => ⟨b, z, rfl, hb.srcs, hF.src _ (rights_mem.mp (List.mem_filter.mp hz).1), rfl⟩))) (fun _ _ _ _ _ z hz _ => ee_nm 6))) (EF.ee (ef_lst (ds := []) ea_nil)) fun _ _ g => od_neNil hr.units (fun z hz => okz z (List.mem_filter.mp (List.mem_filter.mp hz).1).1) g) fun w' G4 H4 g4 r4 => q w' G4 H4 (g1.trans (g2.trans (g3.trans g4))) r4
end Rb
set_option Elab.async false
set_option linter.all false
set_option maxRecDepth 100000
set_option maxHeartbeats 4000000
namespace Rb
open PySem PySem.Spec PyProof.Rows L2
variable {P : Program} {w : World} {K : PySem.W.Frag} {mg : Str → Option Value} {base : Heap} {f : Addr} {fd : FuncData}
/-! ### clashes -/
def un2 (fs : List Fact) (u : Str × Str) (acc : List Clash) (f : Fact) : List Clash := if f.2 = u.1 ∧ (f.1, u.2) ∈ fs then acc ++ [.unlike f.1 u.1 u.2] else acc
def un1 (fs : List Fact) (acc : List Clash) (u : Str × Str) : List Clash := fs.foldl (un2 fs u) acc
def bldAt (b : Book) (k : Nat) : Bld := b.blds.getD k ⟨"", none, "", [], ""⟩
def pa2 (b : Book) (tr : List Str) (fs : List Fact) (m : Nat) (acc : List Clash) (k : Nat) : List Clash := if partL b tr fs (bldAt b k) (bldAt b m) = true then acc ++ [.parted k m] else acc
def pa1 (b : Book) (tr : List Str) (fs : List Fact) (acc : List Clash) (m : Nat) : List Clash := (List.range m).foldl (pa2 b tr fs m) acc
def clashL (b : Book) (tr : List Str) (fs : List Fact) : List Clash := (List.range b.blds.length).foldl (pa1 b tr fs) (b.unl.foldl (un1 fs) [])
theorem un2_len (fs : List Fact) (u : Str × Str) (acc : List Clash) (f : Fact) : (un2 fs u acc f).length ≤ acc.length + 1 := by
  unfold un2
  split
  · rw [List.length_append] <;> exact Nat.le_refl _
  · exact Nat.le_succ _
theorem pa2_len (b : Book) (tr : List Str) (fs : List Fact) (m : Nat) (acc : List Clash) (k : Nat) : (pa2 b tr fs m acc k).length ≤ acc.length + 1 := by
  unfold pa2
  split
  · rw [List.length_append] <;> exact Nat.le_refl _
  · exact Nat.le_succ _
theorem foldl_len2 {α β : Type} {f : List β → α → List β} {c : Nat} {l : List α} (h : ∀ a, ∀ x ∈ l, (f a x).length ≤ a.length + c) : ∀ a, (l.foldl f a).length ≤ a.length + l.length * c := by
  induction l with
  | nil => intro a; simp
  | cons x l ih =>
    intro a
    rw [List.foldl_cons, List.length_cons, Nat.succ_mul]
    have h1 := ih (fun a y hy => h a y (List.mem_cons_of_mem _ hy)) (f a x)
    have h2 := h a x List.mem_cons_self
    omega
theorem un1_len (fs : List Fact) (acc : List Clash) (u : Str × Str) : (un1 fs acc u).length ≤ acc.length + fs.length := foldl_len (un2_len fs u) fs acc
theorem pa1_len (b : Book) (tr : List Str) (fs : List Fact) (acc : List Clash) (m : Nat) : (pa1 b tr fs acc m).length ≤ acc.length + m := by
  have := foldl_len (pa2_len b tr fs m) (List.range m) acc
  rw [List.length_range] at this
  exact this
structure Few (b : Book) : Prop where
  unl : b.unl.length ≤ 50
  blds : b.blds.length ≤ 50
theorem bld_at {b : Book} {k : Nat} (h : k < b.blds.length) : b.blds[k]? = some (bldAt b k) := by
  unfold bldAt
  rw [List.getD_eq_getElem?_getD, List.getElem?_eq_getElem h] <;> rfl
def R_lclash : Hp → List SV → List D → Prop := fun _ xs ds => ∃ (b : Book) (tr : List Str) (fs : List Fact), xs = [.d (eK b), .d (eSs tr), .d (.list (fs.map eU))] ∧ b.Small ∧ b.Txt ∧ Few b ∧ FOk b fs ∧ (∀ v ∈ b.blds, ∀ c, v.comp = some c → PyData.strOk c = true) ∧ ds = (sortBy eC (clashL b tr fs)).map eC
theorem fn_clashes (T : Gf mg) (F : FD K "_law_clashes" s_l_clashes f fd) (hx : mg "_law_clashes" = some (.ref f)) (C1 : Fn P w K mg base "_law_part" 2 5 [] R_lpart) : FnL P w K mg base "_law_clashes" 3 3 R_lclash := by
  refine fn_list F sc_l_clashes rfl rfl hx (F.bindsN fun _ _ _ _ _ _ us hl => match us, hl with | [_, _, _], _ => rfl) fun cdv A outer s H E hr G xs ds Q hR hl q => ?_
  obtain ⟨b, tr, fs, rfl, hb, hT, hW, hF, hC, rfl⟩ := hR
  have hfl := hF.len
  have l1 : ∀ (l : List (Str × Str)) (acc : List Clash), (l.foldl (un1 fs) acc).length ≤ acc.length + l.length * 100 := fun l => foldl_len2 fun a x _ => Nat.le_trans (un1_len fs a x) (by omega)
  refine ss_newL 3 sc_l_clashes.nd fun l G1 H1 g1 hl0 own1 => ?_
  refine ss_for (xs := b.unl.map eU) (ei_tup (ee_at 2 (ee_nm 0))) fun G2 H2 g2 => ⟨fun i ρ G' H' => ∃ o4 o5 o6 o7, ρ = [some (.d (eK b)), some (.d (eSs tr)), some (.d (.list (fs.map eU))), some (.v (.ref l)), o4, o5, o6, o7, none, none] ∧ Same G2 G' ∧ Gr G H G' H' ∧ Own K G' H' l (((b.unl.take i).foldl (un1 fs) []).map eC),
    ⟨none, none, none, none, rfl, .refl _, g1.trans g2, own1.gr g2⟩, fun i ρ G1 H1 h => h.choose_spec.choose_spec.choose_spec.choose_spec.2.1, ?_, ?_⟩
  · rintro i d ρ G3 H3 hd ⟨o4, o5, o6, o7, rfl, s23, gr3, own3⟩ G4 H4 g4
    rw [List.getElem?_map] at hd
    cases hf : b.unl[i]? with
    | none => rw [hf] at hd; cases hd
    | some u =>
      rw [hf] at hd
      cases hd
      have hu := List.mem_of_getElem? hf
      obtain ⟨u1, u2⟩ := hT.unl u hu
      have hnext := foldl_take (un1 fs) [] hf
      have hlen := l1 (b.unl.take i) []
      have htk : (b.unl.take i).length ≤ 50 := by
        rw [List.length_take]
        have := hW.unl
        omega
      simp only [List.length_nil] at hlen
      generalize (b.unl.take i).foldl (un1 fs) [] = acc at own3 hnext hlen
      refine ⟨[(4, .str u.1), (5, .str u.2)], ga_tup (us := [(4, .str u.1), (5, .str u.2)]) rfl (gas_cons (ga_nm 4 sc_l_clashes.nd) (gas_cons (ga_nm 5 sc_l_clashes.nd) gas_nil)), ?_⟩
      refine ss_for (xs := fs.map eU) (ei_list (ee_nm 2)) fun G5 H5 g5 => ⟨fun j ρ G' H' => ∃ o6 o7, ρ = [some (.d (eK b)), some (.d (eSs tr)), some (.d (.list (fs.map eU))), some (.v (.ref l)), some (.d (.str u.1)), some (.d (.str u.2)), o6, o7, none, none] ∧ Same G5 G' ∧ Gr G H G' H' ∧ Own K G' H' l (((fs.take j).foldl (un2 fs u) acc).map eC),
        ⟨_, _, rfl, .refl _, gr3.trans (g4.trans g5), own3.gr (g4.trans g5)⟩, fun i ρ G1 H1 h => h.choose_spec.choose_spec.2.1, ?_, ?_⟩
      · rintro j d ρ G6 H6 hd2 ⟨o6, o7, rfl, s56, gr6, own6⟩ G7 H7 g7
        rw [List.getElem?_map] at hd2
        cases hj : fs[j]? with
        | none => rw [hj] at hd2; cases hd2
        | some z =>
          rw [hj] at hd2
          cases hd2
          have hz := List.mem_of_getElem? hj
          have hnext2 := foldl_take (un2 fs u) acc hj
          have hlen3 := foldl_len (un2_len fs u) (fs.take j) acc
          have htk2 : (fs.take j).length ≤ 100 := by rw [List.length_take]; omega
          generalize (fs.take j).foldl (un2 fs u) acc = acc2 at own6 hnext2 hlen3
          refine ⟨[(6, .str z.1), (7, .str z.2)], ga_tup (us := [(6, .str z.1), (7, .str z.2)]) rfl (gas_cons (ga_nm 6 sc_l_clashes.nd) (gas_cons (ga_nm 7 sc_l_clashes.nd) gas_nil)), ?_⟩
          refine ss_if1 (k := decide (z.2 = u.1) && decide ((z.1, u.2) ∈ fs)) (et_w (ew_and (et_cmp (ee_nm 7) (ee_nm 4) fun _ _ g => od_eqS g) fun _ => ew_and1 (et_cmp (ee_pair (x := .str z.1) (y := .str u.2) (ee_nm 6) (ee_nm 5)) (ee_nm 2) fun _ _ g => od_inU (f := (z.1, u.2)) (u65 hr) ⟨(hF.txt z hz).1, u2⟩ hF.txt g))) (fun hy G8 H8 g8 => ?_) fun hn G8 H8 g8 => ?_
          · simp only [Bool.and_eq_true, decide_eq_true_eq] at hy
            refine ss_appO (d := eC (.unlike z.1 u.1 u.2)) ((own6.gr g7).gr g8) (ee_nm 3) (ee_tup (ds := [.str "unlike", .str z.1, .str u.1, .str u.2]) (ea_cons ee_str (ea_cons (ee_nm 6) (ea_cons (ee_nm 4) (ea_cons (ee_nm 5) ea_nil))))) (by rw [List.length_map]; omega) fun vs v G9 H9 g9 w1 w2 => ?_
            refine ss_out fun Ga Ha ga => ss_turn ⟨_, _, rfl, s56.trans (g7.g.trans (g8.g.trans (g9.g.trans ga.g))), ((gr6.trans (g7.trans (g8.trans g9))).mut hl0 w1.off).trans ga, ?_⟩
            rw [hnext2]
            have e : un2 fs u acc2 z = acc2 ++ [.unlike z.1 u.1 u.2] := if_pos hy
            rw [e, List.map_append]
            exact w2.gr ga
          · refine ss_turn ⟨_, _, rfl, s56.trans (g7.g.trans g8.g), gr6.trans (g7.trans g8), ?_⟩
            rw [hnext2]
            have e : un2 fs u acc2 z = acc2 := if_neg fun h => by
              rw [decide_eq_true h.1, decide_eq_true h.2] at hn
              cases hn
            rw [e]
            exact (own6.gr g7).gr g8
      · rintro ρ G6 H6 ⟨o6, o7, rfl, s56, gr6, own6⟩
        rw [List.length_map, List.take_length] at own6
        refine ss_turn ⟨_, _, _, _, rfl, s23.trans (g4.g.trans (g5.g.trans s56)), gr6, ?_⟩
        rw [hnext]
        exact own6
  · rintro ρ G3 H3 ⟨o4, o5, o6, o7, rfl, s23, gr3, own3⟩
    rw [List.length_map, List.take_length] at own3
    have hl1 := l1 b.unl []
    have hu50 := hW.unl
    have hb50 := hW.blds
    simp only [List.length_nil] at hl1
    have hcl : clashL b tr fs = (List.range b.blds.length).foldl (pa1 b tr fs) (b.unl.foldl (un1 fs) []) := rfl
    generalize b.unl.foldl (un1 fs) [] = st1 at own3 hl1 hcl
    refine ss_for (xs := (List.range b.blds.length).map fun i => .int (i : Nat)) (ei_rangeN T.range (EE.to (ee_lenT T.len (ee_at 3 (ee_nm 0))) (by rw [List.length_map])) (by omega)) fun G4 H4 g4 => ⟨fun i ρ G' H' => ∃ o8 o9, ρ = [some (.d (eK b)), some (.d (eSs tr)), some (.d (.list (fs.map eU))), some (.v (.ref l)), o4, o5, o6, o7, o8, o9] ∧ Same G4 G' ∧ Gr G H G' H' ∧ Own K G' H' l ((((List.range b.blds.length).take i).foldl (pa1 b tr fs) st1).map eC),
      ⟨none, none, rfl, .refl _, gr3.trans g4, own3.gr g4⟩, fun i ρ G1 H1 h => h.choose_spec.choose_spec.2.1, ?_, ?_⟩
    · rintro i d ρ G5 H5 hd ⟨o8, o9, rfl, s45, gr5, own5⟩ G6 H6 g6
      rw [List.getElem?_map] at hd
      cases hf : (List.range b.blds.length)[i]? with
      | none => rw [hf] at hd; cases hd
      | some m =>
        rw [hf] at hd
        cases hd
        have hm := List.mem_range.mp (List.mem_of_getElem? hf)
        have hnext := foldl_take (pa1 b tr fs) st1 hf
        have hlen := foldl_len2 (f := pa1 b tr fs) (c := 50) (l := (List.range b.blds.length).take i) (fun a x hx => Nat.le_trans (pa1_len b tr fs a x) (by have := List.mem_range.mp (List.mem_of_mem_take hx); omega)) st1
        have htk : ((List.range b.blds.length).take i).length ≤ 50 := by rw [List.length_take, List.length_range]; omega
        generalize ((List.range b.blds.length).take i).foldl (pa1 b tr fs) st1 = acc at own5 hnext hlen
        refine ⟨[(8, .int (m : Nat))], ga_nm 8 sc_l_clashes.nd, ?_⟩
        refine ss_for (xs := (List.range m).map fun i => .int (i : Nat)) (ei_rangeN T.range (ee_nm 8) (by omega)) fun G7 H7 g7 => ⟨fun j ρ G' H' => ∃ o9, ρ = [some (.d (eK b)), some (.d (eSs tr)), some (.d (.list (fs.map eU))), some (.v (.ref l)), o4, o5, o6, o7, some (.d (.int (m : Nat))), o9] ∧ Same G7 G' ∧ Gr G H G' H' ∧ Own K G' H' l ((((List.range m).take j).foldl (pa2 b tr fs m) acc).map eC),
          ⟨_, rfl, .refl _, gr5.trans (g6.trans g7), own5.gr (g6.trans g7)⟩, fun i ρ G1 H1 h => h.choose_spec.2.1, ?_, ?_⟩
        · rintro j d ρ G8 H8 hd2 ⟨o9, rfl, s78, gr8, own8⟩ G9 H9 g9
          rw [List.getElem?_map] at hd2
          cases hj : (List.range m)[j]? with
          | none => rw [hj] at hd2; cases hd2
          | some k =>
            rw [hj] at hd2
            cases hd2
            have hk := List.mem_range.mp (List.mem_of_getElem? hj)
            have hnext2 := foldl_take (pa2 b tr fs m) acc hj
            have hlen3 := foldl_len (pa2_len b tr fs m) ((List.range m).take j) acc
            have htk2 : ((List.range m).take j).length ≤ 50 := by rw [List.length_take, List.length_range]; omega
            generalize ((List.range m).take j).foldl (pa2 b tr fs m) acc = acc2 at own8 hnext2 hlen3
            have ek := bld_at (b := b) (k := k) (by omega)
            have em := bld_at hm
            have ekD : (b.blds.map eB)[k]? = some (eB (bldAt b k)) := by rw [List.getElem?_map, ek] <;> rfl
            have emD : (b.blds.map eB)[m]? = some (eB (bldAt b m)) := by rw [List.getElem?_map, em] <;> rfl
            refine ⟨[(9, .int (k : Nat))], ga_nm 9 sc_l_clashes.nd, ?_⟩
            refine ss_if1 (k := partL b tr fs (bldAt b k) (bldAt b m)) (et_val (ee_call C1 hr (ea_cons (ee_nm 0) (ea_cons (ee_nm 1) (ea_cons (ee_nm 2) (ea_cons (x := .d (eB (bldAt b k))) (ee_ix (ee_at 3 (ee_nm 0)) (ee_nm 9) fun _ _ g => xd_tup ekD g) (ea_cons (x := .d (eB (bldAt b m))) (ee_ix (ee_at 3 (ee_nm 0)) (ee_nm 8) fun _ _ g => xd_tup emD g) ea_nil))))) fun _ _ _ => ⟨b, tr, fs, _, _, rfl, hb, hF, List.mem_of_getElem? ek, List.mem_of_getElem? em, hC _ (List.mem_of_getElem? em), rfl⟩)) (fun hy Ga Ha ga => ?_) fun hn Ga Ha ga => ?_
            · refine ss_appO (d := eC (.parted k m)) ((own8.gr g9).gr ga) (ee_nm 3) (ee_tup (ds := [.str "parted", .int (k : Nat), .int (m : Nat)]) (ea_cons ee_str (ea_cons (ee_nm 9) (ea_cons (ee_nm 8) ea_nil)))) (by rw [List.length_map]; omega) fun vs v Gb Hb gb w1 w2 => ?_
              refine ss_out fun Gc Hc gc => ss_turn ⟨_, rfl, s78.trans (g9.g.trans (ga.g.trans (gb.g.trans gc.g))), ((gr8.trans (g9.trans (ga.trans gb))).mut hl0 w1.off).trans gc, ?_⟩
              rw [hnext2]
              have e : pa2 b tr fs m acc2 k = acc2 ++ [.parted k m] := if_pos hy
              rw [e, List.map_append]
              exact w2.gr gc
            · refine ss_turn ⟨_, rfl, s78.trans (g9.g.trans ga.g), gr8.trans (g9.trans ga), ?_⟩
              rw [hnext2]
              have e : pa2 b tr fs m acc2 k = acc2 := if_neg fun h => by rw [h] at hn; cases hn
              rw [e]
              exact (own8.gr g9).gr ga
        · rintro ρ G8 H8 ⟨o9, rfl, s78, gr8, own8⟩
          rw [List.length_map, List.take_length] at own8
          refine ss_turn ⟨_, _, rfl, s45.trans (g6.g.trans (g7.g.trans s78)), gr8, ?_⟩
          rw [hnext]
          exact own8
    · rintro ρ G5 H5 ⟨o8, o9, rfl, s45, gr5, own5⟩
      rw [List.length_map, List.take_length, ← hcl] at own5
      have hlen : (clashL b tr fs).length ≤ 100000 := by
        have := foldl_len2 (f := pa1 b tr fs) (c := 50) (l := List.range b.blds.length) (fun a x hx => Nat.le_trans (pa1_len b tr fs a x) (by have := List.mem_range.mp hx; omega)) st1
        rw [List.length_range] at this
        rw [hcl]
        have h2 : b.blds.length * 50 ≤ 50 * 50 := Nat.mul_le_mul_right _ hb50
        omega
      have hlf : ∀ cs : List Clash, lfs (cs.map eC) = true := fun cs => lfs_map fun c _ => by cases c <;> simp [eC, lf, lfs]
      exact ss_retF (ef_ownO 3 own5 (hlf _) fun Gx sx => ef_callB T.sorted (by decide +kernel) (ea_cons (ee_nm 3) ea_nil) fun _ _ g => cf_sortedTag hr.units (eC_tagged _) hlen eC_depth g) fun p ws G6 H6 g6 hp gp e6 r6 => q p ws G6 H6 (gr5.trans g6) (gr5.none' hp) gp e6 r6
end Rb
set_option Elab.async false
set_option linter.all false
set_option maxRecDepth 100000
set_option maxHeartbeats 4000000
namespace Rb
open PySem PySem.Spec PyProof.Rows L2
variable {P : Program} {w : World} {K : PySem.W.Frag} {mg : Str → Option Value} {base : Heap} {f : Addr} {fd : FuncData}
def sharedOf (fs : List Fact) (z o : Str) : List Str := (fs.filter fun f => decide (f.2 = z) && decide ((f.1, o) ∈ fs)).map (·.1)
def mt2 (fs : List Fact) (z : Str) (acc : List Str) (o : Str) : List Str := if sharedOf fs z o ≠ [] ∧ o ∉ acc then acc ++ [o] else acc
def matesOf (b : Book) (fs : List Fact) (z : Str) : List Str := b.names.foldl (mt2 fs z) [z]
def cs2 (b : Book) (fs : List Fact) (acc : List (List Str)) (s : Src) : List (List Str) := if sortBy PyData.str (matesOf b fs s.name) ∈ acc then acc else acc ++ [sortBy PyData.str (matesOf b fs s.name)]
def clsL (b : Book) (fs : List Fact) : List (List Str) := b.srcs.foldl (cs2 b fs) []
theorem mt2_len (fs : List Fact) (z : Str) (acc : List Str) (o : Str) : (mt2 fs z acc o).length ≤ acc.length + 1 := by
  unfold mt2
  split
  · rw [List.length_append] <;> exact Nat.le_refl _
  · exact Nat.le_succ _
theorem cs2_len (b : Book) (fs : List Fact) (acc : List (List Str)) (s : Src) : (cs2 b fs acc s).length ≤ acc.length + 1 := by
  unfold cs2
  split
  · exact Nat.le_succ _
  · rw [List.length_append] <;> exact Nat.le_refl _
theorem mts_mem {fs : List Fact} {z y : Str} : ∀ (l acc : List Str), y ∈ l.foldl (mt2 fs z) acc ↔ y ∈ acc ∨ (y ∈ l ∧ sharedOf fs z y ≠ [])
  | [], acc => by simp
  | o :: l, acc => by
    rw [List.foldl_cons, mts_mem l, List.mem_cons]
    unfold mt2
    by_cases h : sharedOf fs z o ≠ [] ∧ o ∉ acc
    · rw [if_pos h, List.mem_append, List.mem_singleton]
      constructor
      · rintro ((h1 | h1) | h1)
        · exact .inl h1
        · exact .inr ⟨.inl h1, by rw [h1]; exact h.1⟩
        · exact .inr ⟨.inr h1.1, h1.2⟩
      · rintro (h1 | ⟨h1 | h1, h2⟩)
        · exact .inl (.inl h1)
        · exact .inl (.inr h1)
        · exact .inr ⟨h1, h2⟩
    · rw [if_neg h]
      constructor
      · rintro (h1 | h1)
        · exact .inl h1
        · exact .inr ⟨.inr h1.1, h1.2⟩
      · rintro (h1 | ⟨h1 | h1, h2⟩)
        · exact .inl h1
        · rw [h1] at h2 ⊢
          rcases Classical.em (o ∈ acc) with c | c
          · exact .inl c
          · exact absurd ⟨h2, c⟩ h
        · exact .inr ⟨h1, h2⟩
theorem shared_ne {fs : List Fact} {z o : Str} : sharedOf fs z o ≠ [] ↔ ∃ x, (x, z) ∈ fs ∧ (x, o) ∈ fs := by
  unfold sharedOf
  constructor
  · intro h
    obtain ⟨x, hx⟩ := List.exists_mem_of_ne_nil _ h
    obtain ⟨f, hf, rfl⟩ := List.mem_map.mp hx
    obtain ⟨h1, h2⟩ := List.mem_filter.mp hf
    simp only [Bool.and_eq_true, decide_eq_true_eq] at h2
    exact ⟨f.1, by rw [← h2.1]; exact h1, h2.2⟩
  · rintro ⟨x, h1, h2⟩ e
    have : x ∈ (fs.filter fun f => decide (f.2 = z) && decide ((f.1, o) ∈ fs)).map (·.1) := List.mem_map.mpr ⟨(x, z), List.mem_filter.mpr ⟨h1, by simp [h2]⟩, rfl⟩
    rw [e] at this
    cases this
theorem shaped_Ss {k : List Str} (h : ∀ z ∈ k, PyData.strOk z = true) : SeqAt.shaped (eSs k) = true := by
  unfold SeqAt.shaped eSs
  simp [PyData.canLay0, lay_strs h, PyData.depth, depth_strs]
theorem shaped_LSs {ks : List (List Str)} (h : ∀ k ∈ ks, ∀ z ∈ k, PyData.strOk z = true) : SeqAt.shaped (.list (ks.map eSs)) = true ∧ SeqAt.shaped (.tuple (ks.map eSs)) = true := by
  have h1 : ∀ ks : List (List Str), (∀ k ∈ ks, ∀ z ∈ k, PyData.strOk z = true) → PyData.canLayAll0 (ks.map eSs) = true ∧ PyData.depthAll (ks.map eSs) ≤ 1 := by
    intro ks
    induction ks with
    | nil => intro _; simp [PyData.canLayAll0, PyData.depthAll]
    | cons k ks ih =>
      intro h
      obtain ⟨i1, i2⟩ := ih fun g hg => h g (List.mem_cons_of_mem _ hg)
      rw [List.map_cons, PyData.canLayAll0, PyData.depthAll, i1]
      refine ⟨?_, ?_⟩
      · simp [eSs, PyData.canLay0, lay_strs (h k List.mem_cons_self)]
      · have : (eSs k).depth = 1 := by simp [eSs, PyData.depth, depth_strs]
        omega
  obtain ⟨k1, k2⟩ := h1 ks h
  unfold SeqAt.shaped
  rw [PyData.canLay0, PyData.canLay0, k1]
  have e1 : (PyData.list (ks.map eSs)).depth = PyData.depthAll (ks.map eSs) + 1 := by simp [PyData.depth]
  have e2 : (PyData.tuple (ks.map eSs)).depth = PyData.depthAll (ks.map eSs) + 1 := by simp [PyData.depth]
  refine ⟨?_, ?_⟩
  · simp; omega
  · simp; omega
theorem eqv_Ss (a c : List Str) : PyData.eqv (eSs a) (eSs c) = decide (a = c) := by
  show PyData.eqvAll (a.map .str) (c.map .str) = _
  exact eqv_strs a c
theorem any_Ss (ks : List (List Str)) (k : List Str) : ((ks.map eSs).any fun z => PyData.eqv z (eSs k)) = decide (k ∈ ks) := by
  induction ks with
  | nil => simp
  | cons g ks ih =>
    rw [List.map_cons, List.any_cons, ih, eqv_Ss]
    by_cases h : g = k
    · simp [h]
    · have h2 : ¬ k = g := fun e => h e.symm
      simp [h, h2]
theorem lf_Ss (k : List Str) : lf (eSs k) = true := by
  have : ∀ k : List Str, lfs (k.map .str) = true := fun k => by
    induction k with
    | nil => simp [lfs]
    | cons z k ih => rw [List.map_cons, lfs, ih] <;> simp [lf]
  unfold eSs
  rw [lf]
  exact this k
theorem lfs_Ss (ks : List (List Str)) : lfs (ks.map eSs) = true := lfs_map fun k _ => lf_Ss k
def R_lcls : Hp → List SV → SV → Prop := fun _ xs y => ∃ (b : Book) (fs : List Fact), xs = [.d (eK b), .d (.list (fs.map eU))] ∧ b.srcs.length < 64 ∧ b.Txt ∧ FOk b fs ∧ y = .d (.tuple ((sortBy eSs (clsL b fs)).map eSs))
theorem fn_classes (T : Gf mg) (F : FD K "_law_classes" s_l_classes f fd) (hx : mg "_law_classes" = some (.ref f)) : Fn P w K mg base "_law_classes" 1 2 [] R_lcls := by
  refine fn_pure F sc_l_classes rfl rfl hx (F.bindsN fun _ _ _ _ _ _ us hl => match us, hl with | [_, _], _ => rfl) .nil fun cdv A outer s H E hr G xs y Q hR hl q => ?_
  obtain ⟨b, fs, rfl, hb, hT, hF, rfl⟩ := hR
  have hfl := hF.len
  have hnl : b.names.length < 64 := by unfold Book.names; rw [List.length_map]; exact hb
  have okm : ∀ z ∈ b.names, ∀ o ∈ matesOf b fs z, PyData.strOk o = true := fun z hz o ho => by
    rcases (mts_mem _ _).mp ho with h | h
    · rw [List.mem_singleton.mp h]; exact hT.name hz
    · exact hT.name h.1
  refine ss_newL 2 sc_l_classes.nd fun lf' G1 H1 g1 hl0 own1 => ?_
  refine ss_for (xs := b.srcs.map eS) (ei_tup (ee_at 0 (ee_nm 0))) fun G2 H2 g2 => ⟨fun i ρ G' H' => ∃ o3 o4 o5 o7, ρ = [some (.d (eK b)), some (.d (.list (fs.map eU))), some (.v (.ref lf')), o3, o4, o5, none, o7, none, none] ∧ Same G2 G' ∧ Gr G H G' H' ∧ Own K G' H' lf' (((b.srcs.take i).foldl (cs2 b fs) []).map eSs),
    ⟨none, none, none, none, rfl, .refl _, g1.trans g2, own1.gr g2⟩, fun i ρ G1 H1 h => h.choose_spec.choose_spec.choose_spec.choose_spec.2.1, ?_, ?_⟩
  · rintro i d ρ G3 H3 hd ⟨o3, o4, o5, o7, rfl, s23, gr3, own3⟩ G4 H4 g4
    rw [List.getElem?_map] at hd
    cases hf : b.srcs[i]? with
    | none => rw [hf] at hd; cases hd
    | some u =>
      rw [hf] at hd
      cases hd
      have hu := List.mem_of_getElem? hf
      have hun : u.name ∈ b.names := List.mem_map.mpr ⟨u, hu, rfl⟩
      have hnext := foldl_take (cs2 b fs) [] hf
      have hlen := foldl_len (cs2_len b fs) (b.srcs.take i) []
      have htk : (b.srcs.take i).length ≤ 64 := by rw [List.length_take]; omega
      have hshape : ∀ k ∈ (b.srcs.take i).foldl (cs2 b fs) [], ∀ z ∈ k, PyData.strOk z = true := by
        have key : ∀ (l : List Src) (acc : List (List Str)), (∀ s ∈ l, s ∈ b.srcs) → (∀ k ∈ acc, ∀ z ∈ k, PyData.strOk z = true) → ∀ k ∈ l.foldl (cs2 b fs) acc, ∀ z ∈ k, PyData.strOk z = true := by
          intro l
          induction l with
          | nil => intro acc _ h; exact h
          | cons s l ih =>
            intro acc hl h
            rw [List.foldl_cons]
            refine ih _ (fun v hv => hl v (List.mem_cons_of_mem _ hv)) fun k hk z hz => ?_
            unfold cs2 at hk
            split at hk
            · exact h k hk z hz
            · rcases List.mem_append.mp hk with hk | hk
              · exact h k hk z hz
              · rw [List.mem_singleton.mp hk] at hz
                exact okm _ (List.mem_map.mpr ⟨s, hl s List.mem_cons_self, rfl⟩) z (sort_mem.mp hz)
        exact key _ [] (fun v hv => List.mem_of_mem_take hv) fun k hk => by cases hk
      simp only [List.length_nil] at hlen
      generalize (b.srcs.take i).foldl (cs2 b fs) [] = acc at own3 hnext hlen hshape
      refine ⟨[(3, eS u)], ga_nm 3 sc_l_classes.nd, ?_⟩
      have eu : eS u = .tuple [.str u.name, .str u.lang, .tuple (u.comp.map .str), .bool u.steady, .tuple (u.uses.map .str)] := rfl
      have gr4 := gr3.trans g4
      have own4 := own3.gr g4
      refine ss_ownO (ds := [.str u.name]) 4 sc_l_classes.nd (ef_lst (ds := [.str u.name]) (ea_cons (ee_at 0 (ds := [.str u.name, .str u.lang, .tuple (u.comp.map .str), .bool u.steady, .tuple (u.uses.map .str)]) (ee_nm 3)) ea_nil)) fun lm G5 H5 g5 hm0 ownm => ?_
      have own5 := own4.gr g5
      have hne : lf' ≠ lm := own4.apart hm0
      have hm00 : H lm = none := gr4.none' hm0
      refine ss_for (xs := b.names.map .str) (ei_list (EE.to (EF.ee (ef_map [("_law_one", 6)] b.srcs eS (fun s => [(6, eS s)]) (fun s => .str s.name) sc_l_classes.nd (ei_tup (ee_at 0 (ee_nm 0))) (by omega) (fun _ _ i hi => hi) (fun _ _ _ _ _ z _ => ga_nm 6 sc_l_classes.nd) fun _ _ _ _ _ z hz => ee_at 0 (ds := [.str z.name, .str z.lang, .tuple (z.comp.map .str), .bool z.steady, .tuple (z.uses.map .str)]) (ee_nm 6))) (by unfold Book.names; rw [List.map_map] <;> rfl))) fun G6 H6 g6 => ⟨fun j ρ G' H' => ∃ o5 o7, ρ = [some (.d (eK b)), some (.d (.list (fs.map eU))), some (.v (.ref lf')), some (.d (eS u)), some (.v (.ref lm)), o5, none, o7, none, none] ∧ Same G6 G' ∧ Gr G H G' H' ∧ Own K G' H' lf' (acc.map eSs) ∧ Own K G' H' lm (((b.names.take j).foldl (mt2 fs u.name) [u.name]).map .str),
        ⟨_, _, rfl, .refl _, gr4.trans (g5.trans g6), own5.gr g6, ownm.gr g6⟩, fun i ρ G1 H1 h => h.choose_spec.choose_spec.2.1, ?_, ?_⟩
      · rintro j d ρ G7 H7 hd2 ⟨o5, o7, rfl, s67, gr7, own7, ownm7⟩ G8 H8 g8
        rw [List.getElem?_map] at hd2
        cases hj : b.names[j]? with
        | none => rw [hj] at hd2; cases hd2
        | some o =>
          rw [hj] at hd2
          cases hd2
          have ho := List.mem_of_getElem? hj
          have hnext2 := foldl_take (mt2 fs u.name) [u.name] hj
          have hlen3 := foldl_len (mt2_len fs u.name) (b.names.take j) [u.name]
          have htk2 : (b.names.take j).length ≤ 64 := by rw [List.length_take]; omega
          simp only [List.length_singleton] at hlen3
          generalize (b.names.take j).foldl (mt2 fs u.name) [u.name] = acc2 at ownm7 hnext2 hlen3
          refine ⟨[(5, .str o)], ga_nm 5 sc_l_classes.nd, ?_⟩
          refine ss_lc 7 [("_law_file", 8), ("_law_source", 9)] fs eU (fun f => [(8, .str f.1), (9, .str f.2)]) (fun f => decide (f.2 = u.name) && decide ((f.1, o) ∈ fs)) (fun f => .str f.1) sc_l_classes.nd (ei_list (ee_nm 1)) (by omega) (fun _ _ i hi => hi) (fun _ _ _ _ _ z _ => ga_tup rfl (gas_cons (ga_nm 8 sc_l_classes.nd) (gas_cons (ga_nm 9 sc_l_classes.nd) gas_nil)))
            (fun _ _ _ _ _ z hz => ep_one (et_w (ew_and (et_cmp (ee_nm 9) (ee_at 0 (ds := [.str u.name, .str u.lang, .tuple (u.comp.map .str), .bool u.steady, .tuple (u.uses.map .str)]) (ee_nm 3)) fun _ _ g => od_eqS g) fun _ => ew_and1 (et_cmp (ee_pair (x := .str z.1) (y := .str o) (ee_nm 8) (ee_nm 5)) (ee_nm 1) fun _ _ g => od_inU (f := (z.1, o)) (u65 hr) ⟨(hF.txt z hz).1, hT.name ho⟩ hF.txt g)))) (fun _ _ _ _ _ z hz _ => ee_nm 8) fun G9 H9 g9 => ?_
          have esh : (fs.filter fun f => decide (f.2 = u.name) && decide ((f.1, o) ∈ fs)).map (fun f => PyData.str f.1) = (sharedOf fs u.name o).map .str := by unfold sharedOf; rw [List.map_map] <;> rfl
          rw [esh]
          have oksh : ∀ z ∈ sharedOf fs u.name o, PyData.strOk z = true := fun z hz => by
            unfold sharedOf at hz
            obtain ⟨f, hf, rfl⟩ := List.mem_map.mp hz
            exact (hF.txt f (List.mem_filter.mp hf).1).1
          have ownm9 := ownm7.gr (g8.trans g9)
          have own9 := own7.gr (g8.trans g9)
          refine ss_if1 (k := !decide (sharedOf fs u.name o = []) && !decide (o ∈ acc2)) (et_w (ew_and (et_cmp (ee_nm 7) (EF.ee (ef_lst (ds := []) ea_nil)) fun _ _ g => od_neNil hr.units oksh g) fun _ => ew_and1 (et_ownO 4 ownm9 fun Gx sx => et_cmp (ee_nm 5) (ee_nm 4) fun _ _ g => od_ninL g))) (fun hy Ga Ha ga => ?_) fun hn Ga Ha ga => ?_
          · simp only [Bool.and_eq_true, Bool.not_eq_true', decide_eq_false_iff_not] at hy
            refine ss_appO (d := .str o) (ownm9.gr ga) (ee_nm 4) (ee_nm 5) (by rw [List.length_map]; omega) fun vs v Gb Hb gb w1 w2 => ?_
            refine ss_out fun Gc Hc gc => ss_turn ⟨_, _, rfl, s67.trans (g8.g.trans (g9.g.trans (ga.g.trans (gb.g.trans gc.g)))), ((gr7.trans (g8.trans (g9.trans (ga.trans gb)))).mut hm00 w1.off).trans gc, ((own9.gr (ga.trans gb)).far hne).gr gc, ?_⟩
            rw [hnext2]
            have e : mt2 fs u.name acc2 o = acc2 ++ [o] := if_pos hy
            rw [e, List.map_append]
            exact w2.gr gc
          · refine ss_turn ⟨_, _, rfl, s67.trans (g8.g.trans (g9.g.trans ga.g)), gr7.trans (g8.trans (g9.trans ga)), own9.gr ga, ?_⟩
            rw [hnext2]
            have e : mt2 fs u.name acc2 o = acc2 := if_neg fun h => by
              rw [decide_eq_false h.1, decide_eq_false h.2] at hn
              cases hn
            rw [e]
            exact ownm9.gr ga
      · rintro ρ G7 H7 ⟨o5, o7, rfl, s67, gr7, own7, ownm7⟩
        rw [List.length_map, List.take_length] at ownm7
        have em : b.names.foldl (mt2 fs u.name) [u.name] = matesOf b fs u.name := rfl
        rw [em] at ownm7
        have hml : (matesOf b fs u.name).length ≤ 100 := by
          have := foldl_len (mt2_len fs u.name) b.names [u.name]
          rw [em] at this
          simp only [List.length_singleton] at this
          omega
        refine ss_frzO 4 ownm7 fun G8 s8 gr8 ne8 => ?_
        have gr8' := gr8 gr7 hm00
        have own8 : Own K G8 H7 lf' (acc.map eSs) := by
          obtain ⟨vs, k1, k2, k3⟩ := own7
          exact ⟨vs, k1, (ne8 lf' hne).trans k2, dps_up s8 _ _ k3⟩
        have sortE : ∀ {Gx Hx : Hp} {ρ' : Env} {q1 q2 q3 q4 q5 : Pos}, ρ'[4]? = some (some (.d (.list ((matesOf b fs u.name).map .str)))) → EE (bX P w K mg base N_l_classes "_law_classes" s_l_classes f cdv A outer s H E) ρ' Gx Hx (.Call (.Name "tuple" q1) [.Call (.Name "sorted" q2) [.Name "_law_mates" q3] [] q4] [] q5) (.d (eSs (sortBy PyData.str (matesOf b fs u.name)))) := fun {Gx Hx ρ' q1 q2 q3 q4 q5} r4 =>
          ee_tupOf T.tuple (EF.ee (ef_callB T.sorted (by decide +kernel) (ea_cons (ee_nm 4 (hr := r4)) ea_nil) fun _ _ g => cf_sorted hr.units (fun x y => by simp [PySem.W.alike]) (PySem.W.Sortable.others fun z => ⟨fun q => PyData.noConfusion q, fun xs q => PyData.noConfusion q⟩) (by omega) (fun z => by simp [PyData.depth]) g))
        have okc : ∀ z ∈ sortBy PyData.str (matesOf b fs u.name), PyData.strOk z = true := fun z hz => okm _ hun z (sort_mem.mp hz)
        refine ss_if1 (k := !decide (sortBy PyData.str (matesOf b fs u.name) ∈ acc)) (et_ownO 2 own8 fun Gx sx => ET.to (et_cmp (sortE rfl) (ee_nm 2) fun _ _ g => od_ninD (u65 hr) (shaped_Ss okc) (shaped_LSs hshape).1 g) (by rw [any_Ss])) (fun hy G9 H9 g9 => ?_) fun hn G9 H9 g9 => ?_
        · simp only [Bool.not_eq_true', decide_eq_false_iff_not] at hy
          refine ss_appO (d := eSs (sortBy PyData.str (matesOf b fs u.name))) (own8.gr g9) (ee_nm 2) (sortE rfl) (by rw [List.length_map]; omega) fun vs v Ga Ha ga w1 w2 => ?_
          refine ss_out fun Gb Hb gb => ss_turn ⟨_, _, _, _, rfl, s23.trans (g4.g.trans (g5.g.trans (g6.g.trans (s67.trans (s8.trans (g9.g.trans (ga.g.trans gb.g))))))), ((gr8'.trans (g9.trans ga)).mut hl0 w1.off).trans gb, ?_⟩
          rw [hnext]
          have e : cs2 b fs acc u = acc ++ [sortBy PyData.str (matesOf b fs u.name)] := if_neg hy
          rw [e, List.map_append]
          exact w2.gr gb
        · refine ss_turn ⟨_, _, _, _, rfl, s23.trans (g4.g.trans (g5.g.trans (g6.g.trans (s67.trans (s8.trans g9.g))))), gr8'.trans g9, ?_⟩
          rw [hnext]
          have e : cs2 b fs acc u = acc := if_pos (by simpa using hn)
          rw [e]
          exact own8.gr g9
  · rintro ρ G3 H3 ⟨o3, o4, o5, o7, rfl, s23, gr3, own3⟩
    rw [List.length_map, List.take_length] at own3
    have ec : b.srcs.foldl (cs2 b fs) [] = clsL b fs := rfl
    rw [ec] at own3
    have hlen : (clsL b fs).length ≤ 64 := by
      have := foldl_len (cs2_len b fs) b.srcs []
      rw [ec] at this
      simp only [List.length_nil] at this
      omega
    have hne : ∀ k ∈ clsL b fs, k ≠ [] := by
      have key : ∀ (l : List Src) (acc : List (List Str)), (∀ k ∈ acc, k ≠ []) → ∀ k ∈ l.foldl (cs2 b fs) acc, k ≠ [] := by
        intro l
        induction l with
        | nil => intro acc h; exact h
        | cons s l ih =>
          intro acc h
          rw [List.foldl_cons]
          refine ih _ fun k hk => ?_
          unfold cs2 at hk
          split at hk
          · exact h k hk
          · rcases List.mem_append.mp hk with hk | hk
            · exact h k hk
            · rw [List.mem_singleton.mp hk]
              intro e
              have : s.name ∈ sortBy PyData.str (matesOf b fs s.name) := sort_mem.mpr ((mts_mem _ _).mpr (.inl (List.mem_singleton.mpr rfl)))
              rw [e] at this
              cases this
      exact key _ [] fun k hk => by cases hk
    refine ss_ret (x := .d (.tuple ((sortBy eSs (clsL b fs)).map eSs))) (ee_ownO 2 own3 (by rw [lf]; exact lfs_Ss _) fun Gx sx => ee_tupOf T.tuple (EF.ee (ef_callB T.sorted (by decide +kernel) (ea_cons (ee_nm 2) ea_nil) fun _ _ g => cf_sorted hr.units alike_Ss (.inl fun d hd => ?_) (by omega) (fun k => ?_) g))) fun v G8 H8 g8 r8 => q v G8 H8 (gr3.trans g8) r8
    · obtain ⟨k, hk, rfl⟩ := List.mem_map.mp hd
      cases e : k with
      | nil => exact absurd e (hne k hk)
      | cons z zs => exact ⟨.str z, zs.map .str, rfl⟩
    · have := depth_strs k
      have e : (eSs k).depth = PyData.depthAll (k.map .str) + 1 := by simp [eSs, PyData.depth]
      omega
end Rb
set_option Elab.async false
set_option linter.all false
set_option maxRecDepth 100000
set_option maxHeartbeats 4000000
namespace Rb
open PySem PySem.Spec PyProof.Rows L2
variable {P : Program} {w : World} {K : PySem.W.Frag} {mg : Str → Option Value} {base : Heap} {f : Addr} {fd : FuncData}
/-- the law's own facts -/
def lawFacts (b : Book) (tr : List Str) (sup : List Fact) : List Fact := sortBy eU (closeL b tr 47 sup)
/-- the book is such that the plain law holds -/
structure Plain (b : Book) (tr : List Str) (sup : List Fact) : Prop where
  calm : calmB b tr sup = decide (clashL b tr (lawFacts b tr sup) = [])
  cls : classesOf b (factsOf b tr sup) = sortBy eSs (clsL b (lawFacts b tr sup))
  told : sortBy PyData.str ((classesOf b (factsOf b tr sup)).foldl (fun acc k => acc ++ k) []) = b.names
/-- all that the law's texts ask of the facts -/
structure LawOk (b : Book) (tr : List Str) (sup : List Fact) (F S : List Str) : Prop where
  fine : Fine b tr sup F S
  close : CloseOk b sup F S
  few : Few b
  fok : FOk b (lawFacts b tr sup)
  comps : ∀ v ∈ b.blds, ∀ c, v.comp = some c → PyData.strOk c = true
  plain : Plain b tr sup
def R_agrees : Hp → List SV → SV → Prop := fun _ xs y => ∃ (b : Book) (tr : List Str) (sup : List Fact) (F S : List Str), xs = [.d (eK b), .d (eSs tr), .d (.tuple (sup.map eU))] ∧ LawOk b tr sup F S ∧ y = .d (.bool true)
theorem LawOk.ground {b : Book} {tr : List Str} {sup : List Fact} {F S : List Str} (h : LawOk b tr sup F S) : Ground b F S := h.close.ground
theorem eqv_nilD {α : Type} (e : α → D) (l : List α) : PyData.eqv (.list (l.map e)) (.list []) = decide (l = []) := by
  rw [eqv_nil]
  exact decide_eq_decide.mpr List.map_eq_nil_iff
theorem told_len : ∀ (ks : List (List Str)) (acc : List Str), (ks.foldl (fun acc k => acc ++ k) acc).length = acc.length + (ks.map List.length).sum
  | [], acc => by simp
  | k :: ks, acc => by
    rw [List.foldl_cons, told_len ks, List.length_append, List.map_cons, List.sum_cons]
    omega
theorem told_mem {z : Str} : ∀ (ks : List (List Str)) (acc : List Str), z ∈ ks.foldl (fun acc k => acc ++ k) acc ↔ z ∈ acc ∨ ∃ k ∈ ks, z ∈ k
  | [], acc => by simp
  | k :: ks, acc => by
    rw [List.foldl_cons, told_mem ks, List.mem_append]
    constructor
    · rintro ((h | h) | ⟨k', h1, h2⟩)
      · exact .inl h
      · exact .inr ⟨k, List.mem_cons_self, h⟩
      · exact .inr ⟨k', List.mem_cons_of_mem _ h1, h2⟩
    · rintro (h | ⟨k', h1, h2⟩)
      · exact .inl (.inl h)
      · rcases List.mem_cons.mp h1 with rfl | h1
        · exact .inl (.inr h2)
        · exact .inr ⟨k', h1, h2⟩
theorem sum_take (l : List Nat) (i : Nat) : (l.take i).sum ≤ l.sum := by
  have : (l.take i ++ l.drop i).sum = (l.take i).sum + (l.drop i).sum := List.sum_append
  rw [List.take_append_drop] at this
  omega
def okC (c : Clash) : Prop := PyData.canLay0 (eC c) = true
theorem clashL_ok {b : Book} {tr : List Str} {fs : List Fact} (hT : b.Txt) (hF : ∀ f ∈ fs, okF f) : ∀ c ∈ clashL b tr fs, okC c := by
  have fold : ∀ {α : Type} (g : List Clash → α → List Clash) (l : List α) (acc : List Clash), (∀ x ∈ l, ∀ a : List Clash, (∀ c ∈ a, okC c) → ∀ c ∈ g a x, okC c) → (∀ c ∈ acc, okC c) → ∀ c ∈ l.foldl g acc, okC c := by
    intro α g l
    induction l with
    | nil => intro acc _ h; exact h
    | cons x l ih =>
      intro acc h1 h2
      rw [List.foldl_cons]
      exact ih _ (fun y hy => h1 y (List.mem_cons_of_mem _ hy)) (h1 x List.mem_cons_self acc h2)
  have add : ∀ {a : List Clash} {c : Clash}, (∀ c ∈ a, okC c) → okC c → ∀ d ∈ a ++ [c], okC d := fun h1 h2 d hd => by
    rcases List.mem_append.mp hd with hd | hd
    · exact h1 d hd
    · rw [List.mem_singleton.mp hd]; exact h2
  refine fold _ _ _ (fun m _ a ha => fold _ _ _ (fun k _ a ha => ?_) ha) (fold _ _ _ (fun u hu a ha => fold _ _ _ (fun f hf a ha => ?_) ha) fun c hc => by cases hc)
  · unfold pa2
    split
    · exact add ha (by simp only [okC, eC, PyData.canLay0, PyData.canLayAll0]; decide +kernel)
    · exact ha
  · unfold un2
    split
    · refine add ha ?_
      have h0 : PyData.strOk "unlike" = true := by decide +kernel
      simp [okC, eC, PyData.canLay0, PyData.canLayAll0, h0, (hF f hf).1, (hT.unl u hu).1, (hT.unl u hu).2]
    · exact ha
theorem shaped_C {cs : List Clash} (h : ∀ c ∈ cs, okC c) : SeqAt.shaped (.list (cs.map eC)) = true := by
  have h1 : ∀ cs : List Clash, (∀ c ∈ cs, okC c) → PyData.canLayAll0 (cs.map eC) = true ∧ PyData.depthAll (cs.map eC) ≤ 50 := by
    intro cs
    induction cs with
    | nil => intro _; simp [PyData.canLayAll0, PyData.depthAll]
    | cons c cs ih =>
      intro h
      obtain ⟨i1, i2⟩ := ih fun g hg => h g (List.mem_cons_of_mem _ hg)
      rw [List.map_cons, PyData.canLayAll0, PyData.depthAll, i1]
      refine ⟨by rw [show PyData.canLay0 (eC c) = true from h c List.mem_cons_self] <;> rfl, ?_⟩
      have := eC_depth c
      omega
  obtain ⟨k1, k2⟩ := h1 cs h
  unfold SeqAt.shaped
  rw [PyData.canLay0, k1]
  have : (PyData.list (cs.map eC)).depth = PyData.depthAll (cs.map eC) + 1 := by simp [PyData.depth]
  simp
  omega
theorem eqv_same : ∀ ks : List (List Str), PyData.eqvAll (ks.map eSs) (ks.map eSs) = true
  | [] => by simp [PyData.eqvAll]
  | k :: ks => by
    rw [List.map_cons, PyData.eqvAll, eqv_same ks, eqv_Ss]
    simp
theorem fn_agrees (T : Gf mg) (F : FD K "_law_agrees" s_l_agrees f fd) (hx : mg "_law_agrees" = some (.ref f)) (C1 : FnL P w K mg base "_law_close" 3 3 R_close) (C2 : FnK P w K mg base "is_calm" 8 R_calm) (C3 : FnL P w K mg base "_law_clashes" 3 3 R_lclash) (C4 : FnK P w K mg base "classes_of" 7 R_classes_of) (C5 : Fn P w K mg base "_law_classes" 1 2 [] R_lcls) : Fn P w K mg base "_law_agrees" 9 3 [] R_agrees := by
  refine fn_pure F sc_l_agrees rfl rfl hx (F.bindsN fun _ _ _ _ _ _ us hl => match us, hl with | [_, _, _], _ => rfl) .nil fun cdv A outer s H E hr G xs y Q hR hl q => ?_
  obtain ⟨b, tr, sup, Fi, So, rfl, L, rfl⟩ := hR
  have hns : b.names.length < 64 := by unfold Book.names; rw [List.length_map]; exact L.fine.few
  refine ss_set (x := .d (.list ((lawFacts b tr sup).map eU))) 3 sc_l_agrees.nd (EF.ee (ef_call C1 (hr.mono (by decide)) (ea_cons (ee_nm 0) (ea_cons (ee_nm 1) (ea_cons (ee_nm 2) ea_nil))) fun _ _ _ => ⟨b, tr, sup, Fi, So, rfl, L.close, rfl⟩)) fun G1 H1 g1 => ?_
  have hpl := L.plain
  have hok := L.fok
  refine ss_set (x := .d (.bool (calmB b tr sup))) 4 sc_l_agrees.nd (ee_callK C2 hr (ee_nm 0) (ee_nm 1) (ee_nm 2) fun _ _ _ => ⟨b, tr, sup, Fi, So, rfl, L.fine, rfl⟩) fun G2 H2 g2 => ?_
  have hsh : SeqAt.shaped (.list ((sortBy eC (clashL b tr (lawFacts b tr sup))).map eC)) = true := shaped_C fun c hc => clashL_ok L.ground.txt hok.txt c (sort_mem.mp hc)
  refine ss_if1 (k := false) (ET.to (et_w (ew_or (et_not (et_val (ee_callB T.isinstance (by decide +kernel) (ea_cons (ee_nm 4) (ea_cons (ee_ty T.bool (by decide +kernel)) ea_nil)) fun _ _ g => isi_bool g))) fun _ => ew_or1 (et_cmp (ee_nm 4) (ee_cmp (EF.ee (ef_call C3 (hr.mono (by decide)) (ea_cons (ee_nm 0) (ea_cons (ee_nm 1) (ea_cons (ee_nm 3) ea_nil))) fun _ _ _ => ⟨b, tr, lawFacts b tr sup, rfl, L.fine.small, L.ground.txt, L.few, hok, L.comps, rfl⟩)) (EF.ee (ef_lst (ds := []) ea_nil)) fun _ _ g => od_eqD hr.units hsh shaped_nil g) fun _ _ g => od_neB g))) ?_) (fun k => nomatch k) fun _ G3 H3 g3 => ?_
  · rw [eqv_nilD, hpl.calm, show decide (sortBy eC (clashL b tr (lawFacts b tr sup)) = []) = decide (clashL b tr (lawFacts b tr sup) = []) from decide_eq_decide.mpr ⟨fun h => ?_, fun h => ?_⟩]
    · simp
    · exact List.length_eq_zero_iff.mp (by rw [← (sort_perm eC _).length_eq, h] <;> rfl)
    · exact List.length_eq_zero_iff.mp (by rw [(sort_perm eC _).length_eq, h] <;> rfl)
  refine ss_set (x := .d (.tuple ((classesOf b (factsOf b tr sup)).map eSs))) 5 sc_l_agrees.nd (ee_callK C4 (hr.mono (by decide)) (ee_nm 0) (ee_nm 1) (ee_nm 2) fun _ _ _ => ⟨b, tr, sup, Fi, So, rfl, L.fine, rfl⟩) fun G4 H4 g4 => ?_
  have hmem : ∀ k ∈ classesOf b (factsOf b tr sup), ∀ z ∈ k, PyData.strOk z = true := fun k hk z hz => L.ground.txt.name (by
    rw [← hpl.told]
    exact sort_mem.mpr ((told_mem _ _).mpr (.inr ⟨k, hk, hz⟩)))
  refine ss_if1 (k := false) (ET.to (et_cmp (ee_nm 5) (ee_call C5 (hr.mono (by decide)) (ea_cons (ee_nm 0) (ea_cons (ee_nm 3) ea_nil)) fun _ _ _ => ⟨b, lawFacts b tr sup, rfl, L.fine.few, L.ground.txt, hok, rfl⟩) fun _ _ g => od_neD hr.units (shaped_LSs hmem).2 (by rw [← hpl.cls]; exact (shaped_LSs hmem).2) g) ?_) (fun k => nomatch k) fun _ G5 H5 g5 => ?_
  · rw [← hpl.cls]
    show (!PyData.eqvAll _ _) = false
    rw [eqv_same]
    rfl
  refine ss_set (x := .d (.list (([] : List Str).map .str))) 6 sc_l_agrees.nd (EF.ee (ef_lst (ds := []) ea_nil)) fun G6 H6 g6 => ?_
  have htl := hpl.told
  have hlen : ((classesOf b (factsOf b tr sup)).foldl (fun acc k => acc ++ k) []).length = b.names.length := by
    rw [← htl, (sort_perm _ _).length_eq]
  generalize classesOf b (factsOf b tr sup) = ks at htl hlen
  rw [told_len] at hlen
  refine ss_for (xs := ks.map eSs) (ei_tup (ee_nm 5)) fun G7 H7 g7 => ⟨fun i ρ G' H' => ∃ o7, ρ = [some (.d (eK b)), some (.d (eSs tr)), some (.d (.tuple (sup.map eU))), some (.d (.list ((lawFacts b tr sup).map eU))), some (.d (.bool (calmB b tr sup))), some (.d (.tuple (ks.map eSs))), some (.d (.list (((ks.take i).foldl (fun acc k => acc ++ k) []).map .str))), o7, none] ∧ Gr G7 H7 G' H',
    ⟨none, rfl, .refl g7.gh⟩, fun i ρ G1 H1 h => h.choose_spec.2.g, ?_, ?_⟩
  · rintro i d ρ G8 H8 hd ⟨o7, rfl, gr8⟩ G9 H9 g9
    rw [List.getElem?_map] at hd
    cases hn : ks[i]? with
    | none => rw [hn] at hd; cases hd
    | some k =>
      rw [hn] at hd
      cases hd
      refine ⟨[(7, eSs k)], ga_nm 7 sc_l_agrees.nd, ?_⟩
      have hnext := foldl_take (fun (acc : List Str) k => acc ++ k) [] hn
      have h1 := told_len (ks.take (i + 1)) []
      have h2 := sum_take (ks.map List.length) (i + 1)
      rw [← List.map_take] at h2
      rw [hnext] at h1
      simp only [List.length_nil, List.length_append] at h1 hlen
      refine ss_set (x := .d (.list (((ks.take i).foldl (fun acc k => acc ++ k) []).map .str ++ k.map .str))) 6 sc_l_agrees.nd (ee_bin (ee_nm 6) (EF.ee (ef_callT T.list (by decide +kernel) (ea_cons (x := .d (.tuple (k.map .str))) (ee_nm 7) ea_nil) fun _ _ g => cf_listT g)) fun _ _ g => od_catL (by rw [List.length_map, List.length_map]; omega) g) fun Ga Ha ga => ss_turn ⟨some (.d (eSs k)), by rw [hnext, List.map_append] <;> rfl, (gr8.trans (g9.trans ga))⟩
  · rintro ρ G8 H8 ⟨o7, rfl, gr8⟩
    rw [List.length_map, List.take_length]
    have htl : (ks.foldl (fun acc k => acc ++ k) []).mergeSort (PySem.W.dataLe false PyData.str) = b.names := htl
    have hok2 : ∀ z ∈ b.names, PyData.strOk z = true := fun z hz => L.ground.txt.name hz
    refine ss_ret (x := .d (.bool true)) (EE.to (ee_cmp (EF.ee (ef_callB T.sorted (by decide +kernel) (ea_cons (ee_nm 6) ea_nil) fun _ _ g => cf_sorted hr.units (fun x y => by simp [PySem.W.alike]) (PySem.W.Sortable.others fun z => ⟨fun q => PyData.noConfusion q, fun xs q => PyData.noConfusion q⟩) (by rw [told_len, hlen]; omega) (fun z => by simp [PyData.depth]) g))
      (EF.ee (ef_map [("_law_form", 8)] b.srcs eS (fun s => [(8, eS s)]) (fun s => .str s.name) sc_l_agrees.nd (ei_tup (ee_at 0 (ee_nm 0))) (by have := L.fine.few; omega) (fun _ _ i hi => hi) (fun _ _ _ _ _ z _ => ga_nm 8 sc_l_agrees.nd) fun _ _ _ _ _ z hz => ee_at 0 (ds := [.str z.name, .str z.lang, .tuple (z.comp.map .str), .bool z.steady, .tuple (z.uses.map .str)]) (ee_nm 8)))
      fun _ _ g => od_eqD hr.units (by rw [htl]; exact shaped_strL hok2) (by rw [show b.srcs.map (fun s => PyData.str s.name) = b.names.map .str from by unfold Book.names; rw [List.map_map] <;> rfl]; exact shaped_strL hok2) g) ?_) fun v Gb Hb gb rb => q v Gb Hb (g1.trans (g2.trans (g3.trans (g4.trans (g5.trans (g6.trans (g7.trans (gr8.trans gb)))))))) rb
    rw [htl, show b.srcs.map (fun s => PyData.str s.name) = b.names.map .str from by unfold Book.names; rw [List.map_map] <;> rfl]
    show SV.d (.bool (PyData.eqvAll _ _)) = _
    rw [eqv_strs, decide_eq_true rfl]
end Rb
set_option Elab.async false
set_option linter.all false
set_option maxRecDepth 100000
set_option maxHeartbeats 4000000
/-! The feed: one dict that changes while all else stands; what an expression that draws from it is worth. -/
namespace Rb
open PySem PySem.Spec PyProof.Rows L2
/-- H without what stands at a -/
def er (a : Addr) (H : Hp) : Hp := fun b => if b = a then none else H b
theorem er_ne {a b : Addr} {H : Hp} (h : b ≠ a) : er a H b = H b := if_neg h
theorem er_same {a : Addr} {H : Hp} : Same (er a H) H := fun b x h => by
  by_cases e : b = a
  · unfold er at h; rw [if_pos e] at h; cases h
  · rwa [er_ne e] at h
theorem er_upd {a : Addr} {H : Hp} {o : HO} : er a (upd H a o) = er a H := by
  funext b
  by_cases e : b = a
  · unfold er; rw [if_pos e, if_pos e]
  · rw [er_ne e, er_ne e, upd_ne e]
theorem er_upd' {a p : Addr} {H : Hp} {o : HO} (h : p ≠ a) : er a (upd H p o) = upd (er a H) p o := by
  funext b
  by_cases e : b = a
  · have : b ≠ p := fun z => h (by rw [← z, e])
    rw [upd_ne this]; unfold er; rw [if_pos e, if_pos e]
  · rw [er_ne e]
    by_cases e2 : b = p
    · rw [e2, upd_same, upd_same]
    · rw [upd_ne e2, upd_ne e2, er_ne e]
/-- where the feed stands, and its cells -/
structure Feed where
  a : Addr
  l : Addr
  cs : List Int
def feedK (l : Addr) (t f u : Int) : List (L2.Key × V) := [(kS "cells", .ref l), (kS "at", .int t), (kS "left", .int f), (kS "turn", .int u)]
/-- the feed after at most n draws -/
structure Fd (K : PySem.W.Frag) (F : Feed) (n : Nat) (G H : Hp) : Prop where
  same : Same G H
  off : G F.a = none
  cells : G F.l = some (.lst (F.cs.map .int))
  few : F.cs.length ≤ 63
  dict : ∃ t f u : Int, H F.a = some (.dK (feedK F.l t f u)) ∧ 0 ≤ t ∧ 0 ≤ u ∧ u ≤ n
section
variable {K : PySem.W.Frag} {F : Feed} {n m : Nat} {G H G1 H1 G2 H2 : Hp}
theorem Fd.at (h : Fd K F n G H) : H F.a ≠ none := by
  obtain ⟨t, f, u, h, _⟩ := h.dict
  rw [h]; simp
theorem Fd.more (h : Fd K F n G H) (k : n ≤ m) : Fd K F m G H := by
  obtain ⟨t, f, u, h1, h2, h3, h4⟩ := h.dict
  exact ⟨h.same, h.off, h.cells, h.few, t, f, u, h1, h2, h3, by omega⟩
theorem Fd.up (h : Fd K F n G H) (g : Gr G H G1 H1) : Fd K F n G1 H1 := by
  obtain ⟨t, f, u, h1, h2⟩ := h.dict
  exact ⟨g.gh, g.fr _ h.off h.at, g.g _ _ h.cells, h.few, t, f, u, g.h _ _ h1, h2⟩
theorem Fd.er (h : Fd K F n G H) : Same G (er F.a H) := fun b x e => by
  have hb : b ≠ F.a := fun z => by rw [z, h.off] at e; cases e
  rw [er_ne hb]
  exact h.same _ _ e
/-- growth, the feed aside -/
theorem Gr.er (g : Gr G H G1 H1) (h : Fd K F n G H) : Gr G (er F.a H) G1 (er F.a H1) := ⟨g.g, fun b x e => by
  have hb : b ≠ F.a := fun z => by unfold Rb.er at e; rw [if_pos z] at e; cases e
  rw [er_ne hb] at e ⊢
  exact g.h _ _ e, (h.up g).er, fun b h1 h2 => g.fr b h1 (by
    have hb : b ≠ F.a := fun z => h2 (by unfold Rb.er; rw [if_pos z])
    rwa [er_ne hb] at h2)⟩
theorem Gr.whole (g : Gr G H G1 (Rb.er F.a H1)) (h : Fd K F n G1 H1) : Gr G H G1 H1 := ⟨g.g, fun b x e => er_same _ _ (g.h _ _ e), h.same, g.fr⟩
end
/-- worth: the base H is without the feed -/
def FE (X : Cx) (F : Feed) (ρ : Env) (G H : Hp) (k : Nat) (e : Expr) (P : D → Prop) : Prop := ∀ m G1 H1 σ, m + k ≤ 1000 → Gr G H G1 (er F.a H1) → Fd X.K F m G1 H1 → ER X.K G1 σ ρ → ∀ Q : VK, (∀ v d G2 H2, Gr G1 (er F.a H1) G2 (er F.a H2) → Fd X.K F (m + k) G2 H2 → P d → Dp X.K G2 v d → Q v H2) → wE X e σ H1 Q
def FT (X : Cx) (F : Feed) (ρ : Env) (G H : Hp) (k : Nat) (e : Expr) (P : Bool → Prop) : Prop := ∀ m G1 H1 σ, m + k ≤ 1000 → Gr G H G1 (er F.a H1) → Fd X.K F m G1 H1 → ER X.K G1 σ ρ → ∀ Q : Bool → Hp → Prop, (∀ b G2 H2, Gr G1 (er F.a H1) G2 (er F.a H2) → Fd X.K F (m + k) G2 H2 → P b → Q b H2) → wT X e σ H1 Q
def FW (X : Cx) (F : Feed) (ρ : Env) (G H : Hp) (k : Nat) (e : Expr) (P : Bool → Prop) : Prop := ∀ m G1 H1 σ, m + k ≤ 1000 → Gr G H G1 (er F.a H1) → Fd X.K F m G1 H1 → ER X.K G1 σ ρ → ∀ Q : Bool → Hp → Prop, (∀ b G2 H2, Gr G1 (er F.a H1) G2 (er F.a H2) → Fd X.K F (m + k) G2 H2 → P b → Q b H2) → wW X e σ H1 Q
def FA (X : Cx) (F : Feed) (ρ : Env) (G H : Hp) (k : Nat) (es : List Expr) (P : List D → Prop) : Prop := ∀ m G1 H1 σ, m + k ≤ 1000 → Gr G H G1 (er F.a H1) → Fd X.K F m G1 H1 → ER X.K G1 σ ρ → ∀ Q : List V → Hp → Prop, (∀ vs ds G2 H2, Gr G1 (er F.a H1) G2 (er F.a H2) → Fd X.K F (m + k) G2 H2 → P ds → DpAll X.K G2 vs ds → Q vs H2) → wA X es σ H1 Q
/-- a list that may still change -/
def FF (X : Cx) (F : Feed) (ρ : Env) (G H : Hp) (k : Nat) (e : Expr) (P : List D → Prop) : Prop := ∀ m G1 H1 σ, m + k ≤ 1000 → Gr G H G1 (er F.a H1) → Fd X.K F m G1 H1 → ER X.K G1 σ ρ → ∀ Q : VK, (∀ p vs ds G2 H2, Gr G1 (er F.a H1) G2 (er F.a H2) → Fd X.K F (m + k) G2 H2 → er F.a H1 p = none → G2 p = none → p ≠ F.a → H2 p = some (.lst vs) → P ds → DpAll X.K G2 vs ds → Q (.ref p) H2) → wE X e σ H1 Q
section
variable {X : Cx} {F : Feed} {ρ : Env} {G H G' H' : Hp} {k k1 k2 : Nat} {e a b c : Expr} {es : List Expr} {P P' R : D → Prop} {x : D} {pos p' p2 : Pos}
theorem fe_of (h : EE X ρ G H e (.d x)) (hp : P x) : FE X F ρ G H 0 e P := fun m G1 H1 σ hm g hf r Q q => h G1 H1 σ (g.whole hf) r _ fun v G2 H2 g2 r2 => q v x G2 H2 (g2.er hf) (hf.up g2) hp r2
theorem ft_of {t : Bool} {P : Bool → Prop} (h : ET X ρ G H e t) (hp : P t) : FT X F ρ G H 0 e P := fun m G1 H1 σ hm g hf r Q q => h G1 H1 σ (g.whole hf) r _ fun G2 H2 g2 => q t G2 H2 (g2.er hf) (hf.up g2) hp
theorem FE.more (h : FE X F ρ G H k e P) (hk : k ≤ k1) (hp : ∀ d, P d → P' d) : FE X F ρ G H k1 e P' := fun m G1 H1 σ hm g hf r Q q => h m G1 H1 σ (by omega) g hf r _ fun v d G2 H2 g2 f2 pd r2 => q v d G2 H2 g2 (f2.more (by omega)) (hp d pd) r2
theorem FF.more {P P' : List D → Prop} (h : FF X F ρ G H k e P) (hk : k ≤ k1) (hp : ∀ d, P d → P' d) : FF X F ρ G H k1 e P' := fun m G1 H1 σ hm g hf r Q q => h m G1 H1 σ (by omega) g hf r _ fun p vs ds G2 H2 g2 f2 h1 h2 h3 h4 h5 h6 => q p vs ds G2 H2 g2 (f2.more (by omega)) h1 h2 h3 h4 (hp _ h5) h6
/-- a new list is let be -/
theorem FF.fe {P : List D → Prop} (h : FF X F ρ G H k e P) : FE X F ρ G H k e fun d => ∃ ds, d = .list ds ∧ P ds := fun m G1 H1 σ hm g hf r Q q => h m G1 H1 σ hm g hf r _ fun p vs ds G2 H2 g2 f2 h1 h2 h3 h4 h5 h6 => by
  obtain ⟨t, f, u, d1, d2⟩ := f2.dict
  refine q _ (.list ds) (upd G2 p (.lst vs)) H2 (g2.frz h1 h2 (by rw [er_ne h3]; exact h4)) ⟨fun b x e => ?_, ?_, same_new h2 _ _ f2.cells, f2.few, t, f, u, d1, d2⟩ ⟨ds, rfl, h5⟩ (.lst (SqL.of upd_same) (dps_up (same_new h2) ds _ h6))
  · by_cases hb : b = p
    · subst hb; rw [upd_same] at e; rw [← e]; exact h4
    · rw [upd_ne hb] at e; exact f2.same _ _ e
  · rw [upd_ne (Ne.symm h3)]; exact f2.off
theorem fe_bin {op : Operator} (ha : FE X F ρ G H k1 a P) (hb : FE X F ρ G H k2 b P') (ho : ∀ x y, P x → P' y → ∃ z, R z ∧ ∀ G1 H1, Same G1 H1 → OD X (binaryOp op) G1 H1 (.d x) (.d y) (.d z)) : FE X F ρ G H (k1 + k2) (.BinOp a op b pos) R := fun m G1 H1 σ hm g hf r Q q =>
  w_pe (pe_op or_w pe_w pe_w) (ha m G1 H1 σ (by omega) g hf r _ fun v x G2 H2 g2 f2 px r2 => hb (m + k1) G2 H2 σ (by omega) (g.trans g2) f2 (r.up g2.g) _ fun u y G3 H3 g3 f3 py r3 => by
    obtain ⟨z, hz, o⟩ := ho x y px py
    exact o G3 H3 f3.same v u (dp_up g3.g _ _ r2) r3 _ fun w G4 H4 g4 r4 => q w z G4 H4 ((g2.trans g3).trans (g4.er f3)) (by rw [← Nat.add_assoc]; exact f3.up g4) hz r4)
theorem ft_cmp {op : CmpOp} {S : Bool → Prop} (ha : FE X F ρ G H k1 a P) (hb : FE X F ρ G H k2 b P') (ho : ∀ x y, P x → P' y → ∃ z, S z ∧ ∀ G1 H1, Same G1 H1 → OD X (compareOp op) G1 H1 (.d x) (.d y) (.d (.bool z))) (hm : behindInMarks op b = false := by first | exact nomark _ | with_unfolding_all rfl) : FT X F ρ G H (k1 + k2) (.Compare a [op] [b] pos) S := fun m G1 H1 σ hm' g hf r Q q =>
  w_pt (pt_cmpR or_w pe_w pe_w hm) (ha m G1 H1 σ (by omega) g hf r _ fun v x G2 H2 g2 f2 px r2 => hb (m + k1) G2 H2 σ (by omega) (g.trans g2) f2 (r.up g2.g) _ fun u y G3 H3 g3 f3 py r3 => by
    obtain ⟨z, hz, o⟩ := ho x y px py
    exact o G3 H3 f3.same v u (dp_up g3.g _ _ r2) r3 _ fun w G4 H4 g4 r4 => ⟨z, by
      have r5 : Dp X.K G4 w (.bool z) := r4
      cases r5; rfl, q z G4 H4 ((g2.trans g3).trans (g4.er f3)) (by rw [← Nat.add_assoc]; exact f3.up g4) hz⟩)
theorem fe_cmp {op : CmpOp} (ha : FE X F ρ G H k1 a P) (hb : FE X F ρ G H k2 b P') (ho : ∀ x y, P x → P' y → ∃ z, R z ∧ ∀ G1 H1, Same G1 H1 → OD X (compareOp op) G1 H1 (.d x) (.d y) (.d z)) (hm : behindInMarks op b = false := by first | exact nomark _ | with_unfolding_all rfl) : FE X F ρ G H (k1 + k2) (.Compare a [op] [b] pos) R := fun m G1 H1 σ hm' g hf r Q q =>
  w_pe (pe_cmpR or_w pe_w pe_w hm) (ha m G1 H1 σ (by omega) g hf r _ fun v x G2 H2 g2 f2 px r2 => hb (m + k1) G2 H2 σ (by omega) (g.trans g2) f2 (r.up g2.g) _ fun u y G3 H3 g3 f3 py r3 => by
    obtain ⟨z, hz, o⟩ := ho x y px py
    exact o G3 H3 f3.same v u (dp_up g3.g _ _ r2) r3 _ fun w G4 H4 g4 r4 => q w z G4 H4 ((g2.trans g3).trans (g4.er f3)) (by rw [← Nat.add_assoc]; exact f3.up g4) hz r4)
theorem fe_ix (ha : FE X F ρ G H k1 a P) (hb : FE X F ρ G H k2 b P') (ho : ∀ x y, P x → P' y → ∃ z, R z ∧ ∀ G1 H1, Same G1 H1 → XD X G1 H1 (.d x) (.d y) (.d z)) (hs : PlainIx b := by intro _ _; rfl) : FE X F ρ G H (k1 + k2) (.Subscript a b pos) R := fun m G1 H1 σ hm g hf r Q q =>
  w_pe (pe_ix ix_w pe_w pe_w hs) (ha m G1 H1 σ (by omega) g hf r _ fun v x G2 H2 g2 f2 px r2 => hb (m + k1) G2 H2 σ (by omega) (g.trans g2) f2 (r.up g2.g) _ fun u y G3 H3 g3 f3 py r3 => by
    obtain ⟨z, hz, o⟩ := ho x y px py
    exact o G3 H3 f3.same v u (dp_up g3.g _ _ r2) r3 _ fun w G4 H4 g4 r4 => q w z G4 H4 ((g2.trans g3).trans (g4.er f3)) (by rw [← Nat.add_assoc]; exact f3.up g4) hz r4)
/-! ### displays -/
theorem fa_nil : FA X F ρ G H 0 [] (· = []) := fun m G1 H1 σ hm g hf r Q q => w_pa pa_nil (q _ [] G1 H1 (.refl hf.er) hf rfl .nil)
theorem fa_cons {Ps Rs : List D → Prop} (h : FE X F ρ G H k1 e P) (hr : FA X F ρ G H k2 es Ps) (hq : ∀ d ds, P d → Ps ds → Rs (d :: ds)) (hs : starEach (e :: es) X.env = (false, eval e X.env) :: starEach es X.env := by rfl) : FA X F ρ G H (k1 + k2) (e :: es) Rs := fun m G1 H1 σ hm g hf r Q q =>
  w_pa (pa_cons pe_w pa_w hs) (h m G1 H1 σ (by omega) g hf r _ fun v x G2 H2 g2 f2 px r2 => hr (m + k1) G2 H2 σ (by omega) (g.trans g2) f2 (r.up g2.g) _ fun vs ds G3 H3 g3 f3 py r3 => q _ _ G3 H3 (g2.trans g3) (by rw [← Nat.add_assoc]; exact f3) (hq _ _ px py) (.cons (dp_up g3.g _ _ r2) r3))
theorem Fd.new {m : Nat} {K : PySem.W.Frag} {G1 H1 : Hp} {p : Addr} {o : HO} (h : Fd K F m G1 H1) (hp : H1 p = none) : p ≠ F.a ∧ Fd K F m (upd G1 p o) (upd H1 p o) ∧ Fd K F m G1 (upd H1 p o) := by
  have hne : p ≠ F.a := fun z => h.at (by rw [← z]; exact hp)
  obtain ⟨t, f, u, d1, d2⟩ := h.dict
  have e : (upd H1 p o) F.a = H1 F.a := upd_ne (Ne.symm hne)
  refine ⟨hne, ⟨same_upd2 h.same, by rw [upd_ne (Ne.symm hne)]; exact h.off, same_new (h.same.free hp) _ _ h.cells, h.few, t, f, u, by rw [e]; exact d1, d2⟩, ⟨fun b x z => same_new hp _ _ (h.same _ _ z), h.off, h.cells, h.few, t, f, u, by rw [e]; exact d1, d2⟩⟩
theorem fe_tup {j : Nat} {Ps : List D → Prop} (h : FA X F ρ G H k es Ps) (hl : ∀ ds, Ps ds → ds.length ≤ 100000) : FE X F ρ G H k (.Tuple es j pos) fun d => ∃ ds, d = .tuple ds ∧ Ps ds := fun m G1 H1 σ hm g hf r Q q =>
  w_pe (pe_tup pa_w) (h m G1 H1 σ hm g hf r _ fun vs ds G2 H2 g2 f2 hp r2 => ⟨by have l := dps_len r2; have l2 := hl ds hp; exact Nat.le_trans (by omega) (show 100000 ≤ sizeLine by decide), fun p hn => by
    obtain ⟨n1, n2, n3⟩ := f2.new (o := .tup vs) hn
    refine q _ (.tuple ds) (upd G2 p (.tup vs)) _ (g2.trans ?_) n2 ⟨ds, rfl, hp⟩ (.tup (TupAt.of upd_same) (dps_up (same_new (f2.same.free hn)) ds _ r2))
    rw [er_upd' n1]
    exact .new f2.er (by rw [er_ne n1]; exact hn)⟩)
theorem ff_lst {Ps : List D → Prop} (h : FA X F ρ G H k es Ps) (hl : ∀ ds, Ps ds → ds.length ≤ 100000) : FF X F ρ G H k (.List es pos) Ps := fun m G1 H1 σ hm g hf r Q q =>
  w_pe (pe_lst pa_w) (h m G1 H1 σ hm g hf r _ fun vs ds G2 H2 g2 f2 hp r2 => ⟨by have l := dps_len r2; have l2 := hl ds hp; exact Nat.le_trans (by omega) (show 100000 ≤ sizeLine by decide), fun p hn => by
    obtain ⟨n1, n2, n3⟩ := f2.new (o := .lst vs) hn
    refine q p vs ds G2 _ (g2.trans ?_) n3 (g2.none' (by rw [er_ne n1]; exact hn)) (f2.same.free hn) n1 upd_same hp r2
    rw [er_upd' n1]
    exact .tmp f2.er (by rw [er_ne n1]; exact hn)⟩)
end
end Rb
set_option Elab.async false
set_option linter.all false
set_option maxRecDepth 100000
set_option maxHeartbeats 4000000
namespace Rb
open PySem PySem.Spec PyProof.Rows L2
section
variable {X : Cx} {F : Feed} {ρ : Env} {G H G' H' : Hp} {k k1 k2 : Nat} {e a b c : Expr} {es : List Expr} {P P' R : D → Prop} {x : D} {pos p' p2 : Pos}
/-! ### calls of built-ins by one argument -/
theorem fe_callT {n : Str} {T : String} (hm : X.mg n = none) (hv : bootBuiltins n = some (.type T)) (h : FE X F ρ G H k e P) (ho : ∀ x, P x → ∃ z, R z ∧ ∀ G1 H1, Same G1 H1 → CD X (.type T) G1 H1 [.d x] (.d z)) (hg : Gl X n := by rfl) (hn : n ≠ "__name__" := by decide) (hdb : (n == ("__debug__" : Str)) = false := by decide)
    (he : starEach [e] X.env = (false, eval e X.env) :: starEach [] X.env := by rfl) (hpl : (backTo pos (starEach [] X.env)).any (·.1) = false := by rfl) : FE X F ρ G H k (.Call (.Name n p') [e] [] pos) R := fun m G1 H1 σ hm' g hf r Q q =>
  w_pe (pe_callTy cr_w hg hm hv pa_w hn hdb he hpl) (w_pa (pa_cons pe_w pa_w he) (h m G1 H1 σ hm' g hf r _ fun v x G2 H2 g2 f2 px r2 => w_pa pa_nil (by
    obtain ⟨z, hz, o⟩ := ho x px
    exact o G2 H2 f2.same [v] (.cons r2 .nil) _ fun w G3 H3 g3 r3 => q w z G3 H3 (g2.trans (g3.er f2)) (f2.up g3) hz r3)))
theorem ff_callB {n : Str} {id : String} {S : List D → Prop} (hm : X.mg n = none) (hv : bootBuiltins n = some (.builtin id)) (h : FE X F ρ G H k e P) (ho : ∀ x, P x → ∃ z, S z ∧ ∀ G1 H1, Same G1 H1 → CF X (.builtin id) G1 H1 [.d x] z) (hg : Gl X n := by rfl) (hn : n ≠ "__name__" := by decide) (hdb : (n == ("__debug__" : Str)) = false := by decide)
    (he : starEach [e] X.env = (false, eval e X.env) :: starEach [] X.env := by rfl) (hpl : (backTo pos (starEach [] X.env)).any (·.1) = false := by rfl) : FF X F ρ G H k (.Call (.Name n p') [e] [] pos) S := fun m G1 H1 σ hm' g hf r Q q =>
  w_pe (pe_callB cr_w hg hm hv pa_w hn hdb he hpl) (w_pa (pa_cons pe_w pa_w he) (h m G1 H1 σ hm' g hf r _ fun v x G2 H2 g2 f2 px r2 => w_pa pa_nil (by
    obtain ⟨z, hz, o⟩ := ho x px
    exact o G2 H2 f2.same [v] (.cons r2 .nil) _ fun p ws G3 H3 g3 hp gp e3 r3 => by
      have hne := (f2.new (o := .lst ws) hp).1
      exact q p ws z G3 H3 (g2.trans (g3.er f2)) (f2.up g3) (g2.none' (by rw [er_ne hne]; exact hp)) gp hne e3 hz r3)))
/-! ### defs that draw -/
def spF (K : PySem.W.Frag) (n c : Nat) (R : List SV → (D → Prop) → Prop) : Sp := fun vs H Q _ => ∃ F m G xs P, Fd K F m G H ∧ m + c ≤ 1000 ∧ SRs K G vs (.v (.ref F.a) :: xs) ∧ xs.length + 1 = n ∧ R xs P ∧ ∀ v d G2 H2, Gr G (er F.a H) G2 (er F.a H2) → Fd K F (m + c) G2 H2 → P d → Dp K G2 v d → Q v H2
def FnD (P : Program) (w : World) (K : PySem.W.Frag) (mg : Str → Option Value) (base : Heap) (x : Str) (k n c : Nat) (R : List SV → (D → Prop) → Prop) : Prop :=
  ∃ f fd ps, mg x = some (.ref f) ∧ PySem.W.keepIn K (.ref f) = true ∧ Binds K fd ps [] ∧ FnOk P w K mg base CX0 k f fd ps (spF K n c R)
theorem FnD.up {P : Program} {w : World} {K : PySem.W.Frag} {mg : Str → Option Value} {base : Heap} {nm : Str} {j k n c : Nat} {R : List SV → (D → Prop) → Prop} (F : FnD P w K mg base nm k n c R) (h : k ≤ j) : FnD P w K mg base nm j n c R := by
  obtain ⟨f, fd, ps, h1, h2, h3, h5⟩ := F
  exact ⟨f, fd, ps, h1, h2, h3, h5.mono h⟩
theorem fe_call {nm : Str} {j n : Nat} {xs : List SV} {R : List SV → (D → Prop) → Prop} (C : FnD X.prog X.w X.K X.mg X.base nm j n k R) (hr : Room j X.A) (ha : EA X ρ G H (e :: es) (.v (.ref F.a) :: xs)) (hR : R xs P) (hl : xs.length + 1 = n := by rfl) (hg : Gl X nm := by rfl) (hdb : (nm == ("__debug__" : Str)) = false := by decide)
    (he : starEach (e :: es) X.env = (false, eval e X.env) :: starEach es X.env := by rfl) (hpl : (backTo pos (starEach es X.env)).any (·.1) = false := by rfl) : FE X F ρ G H k (.Call (.Name nm p') (e :: es) [] pos) P := fun m G1 H1 σ hm g hf r Q q => by
  obtain ⟨f, fd, ps, h1, h2, h3, h5⟩ := C
  exact w_pe (pe_call h5 hr hg h1 h2 h3 .nil pass0 pa_w hdb he hpl) (ha G1 H1 σ (g.whole hf) r _ fun vs G2 H2 g2 r2 => by
    rw [List.append_nil]
    exact ⟨F, m, G2, xs, P, hf.up g2, hm, r2, hl, hR, fun v d G3 H3 g3 f3 p3 r3 => q v d G3 H3 ((g2.er hf).trans g3) f3 p3 r3⟩)
end
section
variable {P : Program} {w : World} {K : PySem.W.Frag} {mg : Str → Option Value} {base : Heap} {x : Str} {st : Stmt} {f : Addr} {fd : FuncData} {N ps : List Str} {k n m c : Nat} {R : List SV → (D → Prop) → Prop}
/-- THE RULE for a def that draws -/
theorem fn_feed (F : FunD K x x (defArgs st) (defBody st) (defScope st) [] [] f fd) (S : FnScope N ps (defScope st)) (hps : ps.length = n) (hm : N.length = m + n) (hx : mg x = some (.ref f)) (hb : Binds K fd ps [])
    (body : ∀ (cdv : Value) (A : Around) (outer : List PySem.Env) (s : Shared) (H : Hp) (E : XK), Room k (bX P w K mg base N x st f cdv A outer s H E).A → ∀ (Fe : Feed) (u : Nat) (G : Hp) (xs : List SV) (Pd : D → Prop) (Q : VK), R xs Pd → xs.length + 1 = n → Fd K Fe u G H → u + c ≤ 1000 → (∀ v d G2 H2, Gr G (er Fe.a H) G2 (er Fe.a H2) → Fd K Fe (u + c) G2 H2 → Pd d → Dp K G2 v d → Q v H2) →
      SS (bX P w K mg base N x st f cdv A outer s H E) { nx := fun _ H' => Q .non H', rt := Q } (slots (.v (.ref Fe.a) :: xs) m) G H (defBody st)) : FnD P w K mg base x (k + 1) n c R := by
  refine ⟨f, fd, ps, hx, F.kp, hb, F.ok S (fun vs H Q E h => ?_) fun cdv A outer s H vs Q E hr h => ?_⟩
  · obtain ⟨Fe, u, G, xs, Pd, _, _, r, l, _⟩ := h
    rw [r.length, List.length_cons, l, hps]
  · obtain ⟨Fe, u, G, xs, Pd, hf, hu, r, l, hR, q⟩ := h
    refine ⟨_, PSs.nox pss_w, body cdv A outer s H E hr Fe u G xs Pd Q hR l hf hu q hf.same _ ?_⟩
    have e : vs.length = n := by rw [r.length, List.length_cons, l]
    unfold L2.start
    rw [e, hm, Nat.add_sub_cancel]
    exact ER.start r _
end
/-! ### statements -/
section
variable {X : Cx} {D : Ends} {F : Feed} {ρ : Env} {G H : Hp} {m k : Nat} {e c tg iter o : Expr} {P : Rb.D → Prop} {rest a b body : List Stmt} {pos p' : Pos} {apos : Pos}
theorem fs_ret (hf : Fd X.K F m G H) (hm : m + k ≤ 1000) (h : FE X F ρ G (er F.a H) k e P) (q : ∀ v d G1 H1, Gr G (er F.a H) G1 (er F.a H1) → Fd X.K F (m + k) G1 H1 → P d → Dp X.K G1 v d → D.rt v H1) : SS X D ρ G H (.Return (some e) pos :: rest) := ss_cons (ps_ret pe_w) fun s σ r => h m G H σ hm (.refl hf.er) hf r _ q
theorem fs_set (i : Nat) {n : Str} (hf : Fd X.K F m G H) (hm : m + k ≤ 1000) (hN : X.N.Nodup) (h : FE X F ρ G (er F.a H) k e P) (q : ∀ d G1 H1, P d → Gr G (er F.a H) G1 (er F.a H1) → Fd X.K F (m + k) G1 H1 → SS X D (ρ.set i (some (.d d))) G1 H1 rest) (hi : X.N[i]? = some n := by rfl) (hx : Loc X.env.scope n := by first | exact Or.inl rfl | exact Or.inr rfl)
    (hs : swapsWith e (some (.Name n p')) pos.line X.env = pure false := by rfl) (hfn : X.fn n = true ∨ X.env.scope.names.lookup n = some .local := by first | exact .inl rfl | exact .inr rfl) : SS X D ρ G H (.Assign [.Name n p'] e pos :: rest) :=
  ss_cons (ps_set hN hi hx pe_w hs hfn) fun s σ r => h m G H σ hm (.refl hf.er) hf r _ fun v d G1 H1 g f1 pd r1 => q d G1 H1 pd g f1 f1.same _ ((r.up g.g).set (x := .d d) r1 i)
/-- a list of one's own -/
theorem fs_own (i : Nat) {n : Str} {Ps : List Rb.D → Prop} (hf : Fd X.K F m G H) (hm : m + k ≤ 1000) (hN : X.N.Nodup) (h : FF X F ρ G (er F.a H) k e Ps) (q : ∀ p ds G1 H1, Ps ds → Gr G (er F.a H) G1 (er F.a H1) → Fd X.K F (m + k) G1 H1 → er F.a H p = none → Own X.K G1 (er F.a H1) p ds → SS X D (ρ.set i (some (.v (.ref p)))) G1 H1 rest) (hi : X.N[i]? = some n := by rfl) (hx : Loc X.env.scope n := by first | exact Or.inl rfl | exact Or.inr rfl)
    (hs : swapsWith e (some (.Name n p')) pos.line X.env = pure false := by rfl) (hfn : X.fn n = true ∨ X.env.scope.names.lookup n = some .local := by first | exact .inl rfl | exact .inr rfl) : SS X D ρ G H (.Assign [.Name n p'] e pos :: rest) :=
  ss_cons (ps_set hN hi hx pe_w hs hfn) fun s σ r => h m G H σ hm (.refl hf.er) hf r _ fun p vs ds G1 H1 g f1 h1 h2 h3 h4 h5 h6 => q p ds G1 H1 h5 g f1 h1 ⟨vs, by rw [er_ne h3]; exact h4, h2, h6⟩ f1.same _ ((r.up g.g).set (x := .v (.ref p)) rfl i)
theorem fs_asg (hf : Fd X.K F m G H) (hm : m + k ≤ 1000) (h : FE X F ρ G (er F.a H) k e P) (q : ∀ d, P d → ∃ us, GA X tg d us ∧ ∀ G1 H1, Gr G (er F.a H) G1 (er F.a H1) → Fd X.K F (m + k) G1 H1 → SS X D (setsR ρ us) G1 H1 rest) (hs : swapsWithSole [tg] e pos.line X.env = pure false := by rfl) (hw : swappedStores [tg] e X.env = pure none := by rfl)
    (h1 : (assignEach [tg] X.env).map (·.2) = [assign tg X.env] := by rfl) : SS X D ρ G H (.Assign [tg] e pos :: rest) :=
  ss_cons (ps_asg pe_w pg_w hs hw h1) fun s σ r => h m G H σ hm (.refl hf.er) hf r _ fun v d G1 H1 g f1 pd r1 => by
    obtain ⟨us, hg, k⟩ := q d pd
    exact hg G1 H1 σ v f1.same r1 _ fun ws hw => k G1 H1 g f1 f1.same _ (hw.er (r.up g.g))
theorem fs_if1 {S : Bool → Prop} (hf : Fd X.K F m G H) (hm : m + k ≤ 1000) (h : FT X F ρ G (er F.a H) k c S) (h1 : S true → ∀ G1 H1, Gr G (er F.a H) G1 (er F.a H1) → Fd X.K F (m + k) G1 H1 → SS X { D with nx := wSs X rest D } ρ G1 H1 a) (h2 : S false → ∀ G1 H1, Gr G (er F.a H) G1 (er F.a H1) → Fd X.K F (m + k) G1 H1 → SS X D ρ G1 H1 rest) : SS X D ρ G H (.If c a [] pos :: rest) :=
  ss_cons (ps_if pt_w pss_w pss_w) fun s σ r => h m G H σ hm (.refl hf.er) hf r _ fun t G1 H1 g f1 ht => by
    cases t with
    | true => exact iteT (h1 ht G1 H1 g f1 f1.same σ (r.up g.g))
    | false => exact iteF (ss_out (fun G2 H2 g2 => (fun s => h2 ht G2 H2 (g.trans (g2.er f1)) (f1.up g2) s : SS X D ρ G2 H2 rest)) f1.same σ (r.up g.g))
theorem Own.feed {K : PySem.W.Frag} {l : Addr} {ds : List Rb.D} (h : Own K G H l ds) (hf : Fd K F m G H) : Own K G (Rb.er F.a H) l ds := by
  obtain ⟨vs, h1, h2, h3⟩ := h
  obtain ⟨t, f, u, d1, _⟩ := hf.dict
  refine ⟨vs, ?_, h2, h3⟩
  rw [er_ne]
  · exact h1
  · intro z
    rw [z, d1] at h1
    cases h1
theorem Own.ne_feed {K : PySem.W.Frag} {l a : Addr} {ds : List Rb.D} (h : Own K G (Rb.er a H) l ds) : l ≠ a := fun z => by
  obtain ⟨vs, h1, _⟩ := h
  rw [z] at h1
  unfold Rb.er at h1
  rw [if_pos rfl] at h1
  cases h1
theorem Own.whole {K : PySem.W.Frag} {l a : Addr} {ds : List Rb.D} (h : Own K G (Rb.er a H) l ds) : Own K G H l ds := by
  obtain ⟨vs, h1, h2, h3⟩ := h
  exact ⟨vs, er_same _ _ h1, h2, h3⟩
/-- xs.append(e) -/
theorem fs_app {l : Addr} {ds : List Rb.D} (hf : Fd X.K F m G H) (hm : m + k ≤ 1000) (hO : Own X.K G (er F.a H) l ds) (ho : EE X ρ G H o (.v (.ref l))) (he : FE X F ρ G (er F.a H) k e P) (hz : ds.length < 100000)
    (q : ∀ vs d G1 H1, P d → Gr G (er F.a H) G1 (er F.a H1) → Own X.K G1 (er F.a H1) l ds → Fd X.K F (m + k) G1 (upd H1 l (.lst vs)) → Own X.K G1 (er F.a (upd H1 l (.lst vs))) l (ds ++ [d]) → SS X D ρ G1 (upd H1 l (.lst vs)) rest)
    (hbase : attributeBase o "append" X.env (eval o X.env) = eval o X.env := by rfl) (hs : swapsWith (.Call (.Attribute o "append" apos) [e] [] p') none pos.line X.env = pure false := by rfl) (he1 : starEach [e] X.env = (false, eval e X.env) :: starEach [] X.env := by rfl)
    (hform : ((backTo p' (starEach [e] X.env)).all (fun x => !x.1) && (backToKw p' (keywordEach [] X.env)).all (fun x => x.1.isSome) && decide (([e] : List Expr).length + ([] : List Keyword).length + (if ([] : List Keyword).isEmpty then 0 else 1) < 30)) = true := by rfl) (hline : (apos.endLine == p'.line) = true := by rfl) : SS X D ρ G H (.Expr (.Call (.Attribute o "append" apos) [e] [] p') pos :: rest) :=
  ss_cons (ps_expr (pe_bm PySem.F.plainAttrs_list PySem.F.slot_list_append PySem.F.type_list_append mt_append pe_w (pa_cons pe_w pa_nil he1) hbase hform hline he1) hs) fun s σ r =>
    ho G H σ (.refl s) r _ fun v G1 H1 g r1 => by
      cases (show v = V.ref l from r1)
      have hne := hO.ne_feed
      obtain ⟨vs, o1, o2, o3⟩ := hO.gr (g.er hf)
      rw [er_ne hne] at o1
      refine ⟨Or.inl ⟨rfl, _, Or.inl (Or.inl o1)⟩, he m G1 H1 σ hm (g.er hf) (hf.up g) (r.up g.g) _ fun y d G2 H2 g2 f2 pd r2 => ?_⟩
      have gg := (g.er hf).trans g2
      obtain ⟨vs2, w1, w2, w3⟩ := hO.gr gg
      have e2 : H2 l = some (.lst vs) := by
        have := g2.h l _ (by rw [er_ne hne]; exact o1)
        rwa [er_ne hne] at this
      have ev : vs2 = vs := by
        rw [er_ne hne, e2] at w1
        injection w1 with w1
        injection w1 with w1
        exact w1.symm
      subst ev
      have hlen := dps_len w3
      refine ⟨l, vs2, y, rfl, rfl, e2, Nat.lt_of_lt_of_le (show vs2.length < 100000 by omega) (by decide), ?_⟩
      obtain ⟨t, f, u, d1, d2⟩ := f2.dict
      have sm : Same G2 (upd H2 l (.lst (vs2 ++ [y]))) := fun b u hb => by
        rw [upd_ne (ne_of_none hb w2)]
        exact f2.same _ _ hb
      have hFd : Fd X.K F (m + k) G2 (upd H2 l (.lst (vs2 ++ [y]))) := ⟨sm, f2.off, f2.cells, f2.few, t, f, u, by rw [upd_ne (Ne.symm hne)]; exact d1, d2⟩
      exact q _ d G2 H2 pd gg ⟨vs2, w1, w2, w3⟩ hFd ⟨_, by rw [er_ne hne]; exact upd_same, w2, dps_app w3 (.cons r2 .nil)⟩ sm σ (r.up gg.g)
theorem Gr.mutF {G0 H0 G1 H1 : Hp} {l a : Addr} {o : HO} {K : PySem.W.Frag} {ds : List Rb.D} (g : Gr G0 (Rb.er a H0) G1 (Rb.er a H1)) (h0 : Rb.er a H0 l = none) (hO : Own K G1 (Rb.er a H1) l ds) : Gr G0 (Rb.er a H0) G1 (Rb.er a (upd H1 l o)) := by
  rw [er_upd' hO.ne_feed]
  obtain ⟨vs, h1, h2, h3⟩ := hO
  exact g.mut h0 h2
/-! ### loops -/
def FI (X : Cx) (F : Feed) (ρ : Env) (G H : Hp) (k : Nat) (tg iter : Expr) (S : List Rb.D → Prop) : Prop := ∀ m G1 H1 σ, m + k ≤ 1000 → Gr G H G1 (er F.a H1) → Fd X.K F m G1 H1 → ER X.K G1 σ ρ → ∀ R : It → Hp → Prop, (∀ J xs G2 H2, Gr G1 (er F.a H1) G2 (er F.a H2) → Fd X.K F (m + k) G2 H2 → S xs → ItD X.K J G2 xs → R J H2) → wI X tg iter σ H1 R
theorem fi_range {S : List Rb.D → Prop} (hm : X.mg "range" = none) (h : FE X F ρ G H k e P) (hP : ∀ d, P d → ∃ n : Nat, d = .int (n : Nat) ∧ n ≤ 100000 ∧ S (upTo n)) (hg : Gl X "range" := by rfl) (hs : starEach [e] X.env = [(false, eval e X.env)] := by rfl) : FI X F ρ G H k tg (.Call (.Name "range" p') [e] [] pos) S := fun m G1 H1 σ hm' g hf r R q =>
  w_pi (pi_range1 hg hm (pa_cons pe_w pa_nil hs) hs) (h m G1 H1 σ hm' g hf r _ fun v d G2 H2 g2 f2 pd r2 => by
    obtain ⟨n, rfl, hn, hS⟩ := hP d pd
    have := sr_int (K := X.K) (G := G2) (v := v) r2
    exact ⟨(n : Nat), by rw [this], by omega, by omega, q _ _ G2 H2 g2 f2 hS (by
      have e : ((n : Nat) : Int).toNat = n := by omega
      simpa using (itd_range (K := X.K) (G := G2) (n := n)))⟩)
theorem fs_for {S : List Rb.D → Prop} (hf : Fd X.K F m G H) (hm : m + k ≤ 1000) (hi : FI X F ρ G (er F.a H) k tg iter S) (kk : ∀ xs G2 H2, S xs → Gr G (er F.a H) G2 (er F.a H2) → Fd X.K F (m + k) G2 H2 → ∃ W : Nat → Env → Hp → Hp → Prop, W 0 ρ G2 H2 ∧ (∀ i ρ' G1 H1, W i ρ' G1 H1 → Same G2 G1) ∧
      (∀ i d ρ' G1 H1, xs[i]? = some d → W i ρ' G1 H1 → ∀ G3 H3, Gr G1 H1 G3 H3 → ∃ us, GA X tg d us ∧ SS X (loopD X D rest W (i + 1)) (setsR ρ' us) G3 H3 body) ∧
      (∀ ρ' G1 H1, W xs.length ρ' G1 H1 → SS X D ρ' G1 H1 rest))
    (hp : PassesOwn (model X.prog X.w) X.A X.env X.xe := by exact PassesOwn.never) (hc : X.calm = true := by rfl) (hfs : ∀ x, foldedSetIterable iter X.env x = pure x := by intro _; rfl) : SS X D ρ G H (.For tg iter body [] pos :: rest) :=
  ss_cons (ps_for hp hc pi_w pg_w pss_w hfs) fun s σ r => hi m G H σ hm (.refl hf.er) hf r _ fun J xs G2 H2 g2 f2 hS hJ => by
    obtain ⟨W, h0, hw, hs, hd⟩ := kk xs G2 H2 hS g2 f2
    refine ⟨fun i m σ' H' => m = xs.length - i ∧ i ≤ xs.length ∧ LN X.K W i σ' H', ⟨xs.length, rfl, Nat.zero_le _, ρ, G2, f2.same, r.up g2.g, h0⟩, ?_⟩
    rintro i m σ' H' ⟨rfl, hil, ρ', G', s', r', w'⟩
    have s2 := hw i ρ' G' H' w'
    by_cases hlt : i < xs.length
    · obtain ⟨hgo, hy⟩ := (hJ i G' H' s2 s').1 xs[i] (List.getElem?_eq_getElem hlt)
      refine .inr ⟨hgo, LN X.K W (i + 1), fun σ'' H'' w => ⟨xs.length - (i + 1), by omega, rfl, hlt, w⟩, fun v H3 y => ?_⟩
      obtain ⟨G3, g3, r3⟩ := hy v H3 y
      obtain ⟨us, h1, h2⟩ := hs i _ ρ' G' H' (List.getElem?_eq_getElem hlt) w' G3 H3 g3
      exact h1 G3 H3 σ' v g3.gh r3 _ fun ws hws => h2 g3.gh _ (hws.er (r'.up g3.g))
    · have hi' : i = xs.length := by omega
      subst hi'
      exact .inl ⟨(hJ _ G' H' s2 s').2 (Nat.le_refl _), hd ρ' G' H' w' s' σ' r'⟩
end
/-! ### a comprehension that draws -/
def All2 {β : Type} (P : β → D → Prop) (ys : List β) (ds : List D) : Prop := ds.length = ys.length ∧ ∀ (i : Nat) (b : β) (d : D), ys[i]? = some b → ds[i]? = some d → P b d
theorem All2.add {β : Type} {P : β → D → Prop} {ys : List β} {ds : List D} {b : β} {d : D} (h : All2 P ys ds) (hb : P b d) : All2 P (ys ++ [b]) (ds ++ [d]) := by
  obtain ⟨h1, h2⟩ := h
  refine ⟨by simp [h1], fun i b' d' e1 e2 => ?_⟩
  by_cases hi : i < ys.length
  · rw [List.getElem?_append_left hi] at e1
    rw [List.getElem?_append_left (by omega)] at e2
    exact h2 i b' d' e1 e2
  · rw [List.getElem?_append_right (by omega)] at e1 e2
    rw [h1] at e2
    cases hj : i - ys.length with
    | zero =>
      rw [hj] at e1 e2
      cases e1
      cases e2
      exact hb
    | succ j =>
      rw [hj] at e1
      cases e1
section
variable {X : Cx} {F : Feed} {ρ : Env} {G H : Hp} {tg iter elt : Expr} {scope : Scope} {pos : Pos} {β : Type} {kk : Nat}
theorem ff_map (own : List (Str × Nat)) (ys : List β) (enc : β → D) (us : β → List (Nat × D)) (P : β → D → Prop) (hN : X.N.Nodup) (hi : EI X ρ G H tg iter (ys.map enc)) (hz : ys.length < 100000) (hv : ∀ b ∈ ys, ∀ i ∈ (us b).map (·.1), i ∈ own.map (·.2))
    (hg : ∀ (s : Shared) (H0 : Hp) (C : Addr) (cl : List (Str × Addr)) (fp : List Addr), ∀ b ∈ ys, GA (X.blk s H0 scope (compEnvC scope cl C X.env) fp) tg (enc b) (us b))
    (he : ∀ (s : Shared) (H0 : Hp) (C : Addr) (cl : List (Str × Addr)) (fp : List Addr), ∀ b ∈ ys, FE (X.blk s H0 scope (compEnvC scope cl C X.env) fp) F (setsR (wipeO ρ own) (us b)) G H kk elt (P b))
    (hc : X.calm = true := by rfl) (ok : blkC X.N X.env.scope scope own = true := by kernel_rfl) (hs : ∀ x, foldedSetIterable iter X.env x = pure x := by intro _; rfl) :
    FF X F ρ G H (ys.length * kk) (.ListComp elt [⟨tg, iter, [], 0⟩] scope pos) (All2 P ys) := fun m G1 H1 σ hm g hf r Q q =>
  w_pe (pe_lc (wi := wI X tg iter) (g := bG X scope tg) (tt := bT X scope []) (te := bE X scope elt) hc hN pi_w (blkOk_by ok) pg_b pts_b pe_b hs) <| by
  refine hi G1 H1 σ (g.whole hf) r _ fun J G2 H2 g2 hJ => fun Dl hD => ?_
  have f2 := hf.up g2
  have gD : G2 Dl = none := g2.gh.free hD
  obtain ⟨hDa, _, f2'⟩ := f2.new (o := .lst []) hD
  have hDe : er F.a H2 Dl = none := by rw [er_ne hDa]; exact hD
  refine ⟨fun i t H' => t = ys.length - i ∧ i ≤ ys.length ∧ ∃ G' us' ds', Gr G2 (er F.a H2) G' (er F.a H') ∧ Fd X.K F (m + i * kk) G' H' ∧ G' Dl = none ∧ H' Dl = some (.lst us') ∧ DpAll X.K G' us' ds' ∧ All2 P (ys.take i) ds',
    ⟨ys.length, rfl, Nat.zero_le _, G2, [], [], by rw [er_upd' hDa]; exact .tmp f2.er hDe, by rw [Nat.zero_mul]; exact f2', gD, upd_same, .nil, by rw [List.take_zero]; exact ⟨rfl, fun i b d e => by simp at e⟩⟩, ?_⟩
  rintro i t H' ⟨rfl, hil, G', us', ds', g', f', d1, d2, d3, d4⟩
  by_cases hlt : i < ys.length
  · have hb : ys[i]? = some ys[i] := List.getElem?_eq_getElem hlt
    have hm' : ys[i] ∈ ys := List.getElem_mem hlt
    obtain ⟨hgo, hy⟩ := (hJ i G' H' g'.g f'.same).1 (enc ys[i]) (by rw [List.getElem?_map, hb] <;> rfl)
    have hmul : (i + 1) * kk ≤ ys.length * kk := Nat.mul_le_mul_right kk hlt
    rw [Nat.add_mul, Nat.one_mul] at hmul
    refine .inr ⟨hgo, fun H'' => ∃ G'' us'' ds'', Gr G2 (er F.a H2) G'' (er F.a H'') ∧ Fd X.K F (m + (i + 1) * kk) G'' H'' ∧ G'' Dl = none ∧ H'' Dl = some (.lst us'') ∧ DpAll X.K G'' us'' ds'' ∧ All2 P (ys.take (i + 1)) ds'', fun H'' w => ⟨ys.length - (i + 1), by omega, rfl, hlt, w⟩, fun v H3 y => ?_⟩
    obtain ⟨G3, g3, r3⟩ := hy v H3 y
    have f3 := f'.up g3
    have gg3 : Gr G H G3 (er F.a H3) := (g.trans (g2.er hf)).trans (g'.trans (g3.er f'))
    have rr3 : ER X.K G3 σ ρ := r.up (g2.g.trans (g'.g.trans g3.g))
    have d1' : G3 Dl = none := g3.fr Dl d1 (by rw [d2]; simp)
    intro s0 H0 C cl fp
    refine hg s0 H0 C cl fp _ hm' G3 H3 _ v f3.same r3 _ fun ws hw => ⟨?_, ?_⟩
    · rw [wipe_sets (fun i hi => hv _ hm' i (by rw [← hw.idx]; exact hi)), wipe_wipe]
    · intro s0 H0 C cl fp
      refine ep_nil (X := X.blk s0 H0 scope (compEnvC scope cl C X.env) fp) (G := G3) (H := H3) G3 H3 _ (.refl f3.same) (hw.er (rr3.wipe _)) _ fun G4 H4 g4 => ?_
      have f4 := f3.up g4
      refine iteT ?_
      intro s0 H0 C cl fp
      refine he s0 H0 C cl fp _ hm' (m + i * kk) G4 H4 _ (by omega) (gg3.trans (g4.er f3)) f4 ((hw.er (rr3.wipe _)).up g4.g) _ fun y d G5 H5 g5 f5 pd r5 => ?_
      have e3 : H4 Dl = some (.lst us') := g4.h _ _ (g3.h _ _ d2)
      have d1' : G4 Dl = none := g4.fr Dl d1' (by rw [g3.h _ _ d2]; simp)
      have e5 : H5 Dl = some (.lst us') := by
        have := g5.h Dl _ (by rw [er_ne hDa]; exact e3)
        rwa [er_ne hDa] at this
      have d5 : G5 Dl = none := g5.fr Dl d1' (by rw [er_ne hDa, e3]; simp)
      have dd : DpAll X.K G5 us' ds' := dps_up (g3.g.trans (g4.g.trans g5.g)) _ _ d3
      have w5 : Gr G2 (er F.a H2) G5 (er F.a H5) := g'.trans ((g3.er f').trans ((g4.er f3).trans g5))
      obtain ⟨t, f, u, k1, k2⟩ := f5.dict
      refine ⟨us', e5, ?_, G5, us' ++ [y], ds' ++ [d], ?_, ⟨fun b u hb => ?_, f5.off, f5.cells, f5.few, t, f, u, by rw [upd_ne (Ne.symm hDa)]; exact k1, ?_⟩, d5, upd_same, dps_app dd (.cons r5 .nil), ?_⟩
      · have l1 := dps_len dd
        have l2 := d4.1
        rw [List.length_take] at l2
        exact Nat.lt_of_lt_of_le (show us'.length < 100000 by omega) (by decide)
      · rw [er_upd' hDa]
        exact w5.mut hDe d5
      · rw [upd_ne (ne_of_none hb d5)]
        exact f5.same _ _ hb
      · rw [Nat.add_mul, Nat.one_mul, ← Nat.add_assoc]
        exact k2
      · rw [List.take_add_one, hb, Option.toList_some]
        exact d4.add pd
  · have hi' : i = ys.length := by omega
    subst hi'
    refine .inl ⟨(hJ _ G' H' g'.g f'.same).2 (by rw [List.length_map]; exact Nat.le_refl _), ?_⟩
    rw [List.take_length] at d4
    exact q Dl us' ds' G' H' ((g2.er hf).trans g') f' ((g2.er hf).none' hDe) d1 hDa d2 d4 d3
end
end Rb
set_option Elab.async false
set_option linter.all false
set_option maxRecDepth 100000
set_option maxHeartbeats 4000000
namespace Rb
open PySem PySem.Spec PyProof.Rows L2
/-- the feed, with what it holds -/
structure FdX (K : PySem.W.Frag) (F : Feed) (t f u : Int) (G H : Hp) : Prop where
  same : Same G H
  off : G F.a = none
  cells : G F.l = some (.lst (F.cs.map .int))
  few : F.cs.length ≤ 63
  dict : H F.a = some (.dK (feedK F.l t f u))
section
variable {K : PySem.W.Frag} {F : Feed} {n m : Nat} {G H G1 H1 G2 H2 : Hp} {t f u v : Int} {l : Addr}
theorem FdX.fd (h : FdX K F t f u G H) (h1 : 0 ≤ t) (h2 : 0 ≤ u) (h3 : u ≤ n) : Fd K F n G H := ⟨h.same, h.off, h.cells, h.few, t, f, u, h.dict, h1, h2, h3⟩
theorem FdX.up (h : FdX K F t f u G H) (g : Gr G H G1 H1) : FdX K F t f u G1 H1 := ⟨g.gh, g.fr _ h.off (by rw [h.dict]; simp), g.g _ _ h.cells, h.few, g.h _ _ h.dict⟩
theorem FdX.put (h : FdX K F t f u G H) {t' f' u' : Int} : FdX K F t' f' u' G (upd H F.a (.dK (feedK F.l t' f' u'))) := ⟨same_own h.same h.off, h.off, h.cells, h.few, upd_same⟩
theorem k12 : ¬ kS "cells" = kS "at" := fun h => absurd (kS_inj h) (by decide)
theorem k13 : ¬ kS "cells" = kS "left" := fun h => absurd (kS_inj h) (by decide)
theorem k14 : ¬ kS "cells" = kS "turn" := fun h => absurd (kS_inj h) (by decide)
theorem k23 : ¬ kS "at" = kS "left" := fun h => absurd (kS_inj h) (by decide)
theorem k24 : ¬ kS "at" = kS "turn" := fun h => absurd (kS_inj h) (by decide)
theorem k34 : ¬ kS "left" = kS "turn" := fun h => absurd (kS_inj h) (by decide)
theorem put_at : putK (feedK l t f u) (kS "at") (.int v) = feedK l v f u := by
  simp [putK, feedK, k12, Ne.symm k23, Ne.symm k24]
theorem put_left : putK (feedK l t f u) (kS "left") (.int v) = feedK l t v u := by
  simp [putK, feedK, k13, k23, Ne.symm k34]
theorem put_turn : putK (feedK l t f u) (kS "turn") (.int v) = feedK l t f v := by
  simp [putK, feedK, k14, k24, k34]
theorem get_cells : valV (feedK l t f u) (kS "cells") = some (.ref l) := by
  simp [valV, feedK]
theorem get_at : valV (feedK l t f u) (kS "at") = some (.int t) := by
  simp [valV, feedK, k12]
theorem get_left : valV (feedK l t f u) (kS "left") = some (.int f) := by
  simp [valV, feedK, k13, k23]
theorem get_turn : valV (feedK l t f u) (kS "turn") = some (.int u) := by
  simp [valV, feedK, k14, k24, k34]
theorem feed_len : (feedK l t f u).length < 100000 := by simp [feedK]
theorem dp_ints {l : List Int} : DpAll K G (l.map .int) (l.map .int) := by
  induction l with
  | nil => exact .nil
  | cons i l ih => exact .cons (.int i) ih
theorem FdX.dpc (h : FdX K F t f u G H) : Dp K G (.ref F.l) (.list (F.cs.map .int)) := .lst (SqL.of h.cells) dp_ints
end
theorem shaped_ints : ∀ l : List Int, SeqAt.shaped (.list (l.map .int)) = true := fun l => by
  have h : ∀ l : List Int, PyData.canLayAll0 (l.map .int) = true ∧ PyData.depthAll (l.map .int) ≤ 0 := by
    intro l
    induction l with
    | nil => simp [PyData.canLayAll0, PyData.depthAll]
    | cons i l ih => simpa [PyData.canLayAll0, PyData.depthAll, PyData.canLay0, PyData.depth] using ih
  obtain ⟨h1, h2⟩ := h l
  unfold SeqAt.shaped
  rw [PyData.canLay0, h1]
  have : (PyData.list (l.map .int)).depth = PyData.depthAll (l.map .int) + 1 := by simp [PyData.depth]
  simp
  omega
variable {P : Program} {w : World} {K : PySem.W.Frag} {mg : Str → Option Value} {base : Heap} {f : Addr} {fd : FuncData}
def upto (n : Nat) : D → Prop := fun d => ∃ i : Nat, i < n ∧ d = .int (i : Nat)
def R_draw : List SV → (D → Prop) → Prop := fun xs Pd => ∃ n : Nat, xs = [.d (.int (n : Nat))] ∧ 0 < n ∧ n ≤ 1000 ∧ Pd = upto n
theorem upto_mod {x : Int} {n : Nat} (h : 0 < n) : upto n (.int (x % (n : Nat))) := ⟨(x % (n : Nat)).toNat, by
  have h1 := Int.emod_nonneg x (b := (n : Nat)) (by omega)
  have h2 := Int.emod_lt_of_pos x (b := (n : Nat)) (by omega)
  omega, by
  have h1 := Int.emod_nonneg x (b := (n : Nat)) (by omega)
  rw [Int.toNat_of_nonneg h1]⟩
section
variable {X : Cx} {ρ : Env} {G H : Hp} {a : Expr} {i : Int} {pos p' : Pos}
theorem ee_intOf (hm : X.mg "int" = none) (h : EE X ρ G H a (.d (.int i))) (hg : Gl X "int" := by rfl) (hs : starEach [a] X.env = (false, eval a X.env) :: starEach [] X.env := by rfl) (hpl : (backTo pos (starEach [] X.env)).any (·.1) = false := by rfl) : EE X ρ G H (.Call (.Name "int" p') [a] [] pos) (.d (.int i)) :=
  ee_callT hm (by decide +kernel) (ea_cons h ea_nil hs) (fun _ _ g => cd_int g) hg (by decide) (by decide) hs hpl
end
theorem fn_draw (T : Gf mg) (Fd' : FD K "_law_draw" s_l_draw f fd) (hx : mg "_law_draw" = some (.ref f)) : FnD P w K mg base "_law_draw" 1 2 1 R_draw := by
  refine fn_feed Fd' sc_l_draw rfl rfl hx (Fd'.bindsN fun _ _ _ _ _ _ us hl => match us, hl with | [_, _], _ => rfl) fun cdv A outer s H E hr Fe u0 G xs Pd Q hR hl hf hu q => ?_
  obtain ⟨n, rfl, hn, hn2, rfl⟩ := hR
  obtain ⟨t, lf, u, hd, ht, hu0, hun⟩ := hf.dict
  have x0 : FdX K Fe t lf u G H := ⟨hf.same, hf.off, hf.cells, hf.few, hd⟩
  have hU : (bX P w K mg base N_l_draw "_law_draw" s_l_draw f cdv A outer s H E).A.units + 64 < cLine := hr.units
  -- turn
  refine ss_set (x := .d (.int (u + 1))) 2 sc_l_draw.nd (ee_bin (ee_dZ (w := .int u) hU (ee_nm 0) ee_str x0.dict get_turn (.int u)) ee_int fun _ _ g => od_add g) fun G1 H1 g1 => ?_
  have x1 := x0.up g1
  have r1 : Gr G (er Fe.a H) G1 (er Fe.a H1) := g1.er hf
  refine ss_putZ (z := "turn") (x := .int (u + 1)) hU (ee_nm 2) (ee_nm 0) ee_str x1.dict x1.off feed_len fun v G2 H2 g2 e2 n2 d2 => ?_
  cases d2
  rw [put_turn]
  have x2 : FdX K Fe t lf (u + 1) G2 _ := (x1.up g2).put
  have r2 : Gr G (er Fe.a H) G2 (er Fe.a (upd H2 Fe.a (.dK (feedK Fe.l t lf (u + 1))))) := by
    rw [er_upd]
    exact r1.trans (g2.er (hf.up g1))
  generalize upd H2 Fe.a (.dK (feedK Fe.l t lf (u + 1))) = H3 at x2 r2
  have fin : ∀ {t' f' : Int} {G' H' : Hp} {x : Int}, 0 ≤ t' → FdX K Fe t' f' (u + 1) G' H' → Gr G (er Fe.a H) G' (er Fe.a H') → ∀ v G2 H2, Gr G' H' G2 H2 → SR K G2 v (.d (.int (x % (n : Nat)))) → Q v H2 := fun ht' x' r' v G2 H2 g2 rv => by
    have f1 : Fd K Fe (u0 + 1) _ _ := x'.fd ht' (by omega) (by omega)
    exact q v _ G2 H2 (r'.trans (g2.er f1)) (f1.up g2) (upto_mod hn) rv
  have hndiv : (0 : Int) < (n : Nat) ∧ ((n : Nat) : Int) < 1073741824 := by omega
  -- left
  refine ss_set (x := .d (.int lf)) 3 sc_l_draw.nd (ee_dZ (w := .int lf) hU (ee_nm 0) ee_str x2.dict get_left (.int lf)) fun G4 H4 g4 => ?_
  have x4 := x2.up g4
  have f2 : Fd K Fe (u0 + 1) G2 H3 := x2.fd ht (by omega) (by omega)
  have r4 := r2.trans (g4.er f2)
  refine ss_if1 (et_cmp (ee_nm 3) ee_int fun _ _ g => od_gt g) (fun _ G5 H5 g5 => ?_) fun _ G5 H5 g5 => ?_
  · have x5 := x4.up g5
    have f4 : Fd K Fe (u0 + 1) G4 H4 := x4.fd ht (by omega) (by omega)
    have r5 := r4.trans (g5.er f4)
    refine ss_putZ (z := "left") (x := .int (lf / (n : Nat))) hU (ee_bin (ee_nm 3) (ee_nm 1) fun _ _ g => od_fdiv hndiv g) (ee_nm 0) ee_str x5.dict x5.off feed_len fun v G6 H6 g6 e6 n6 d6 => ?_
    cases d6
    rw [put_left]
    have x6 : FdX K Fe t (lf / (n : Nat)) (u + 1) G6 _ := (x5.up g6).put
    refine ss_ret (x := .d (.int (lf % (n : Nat)))) (ee_bin (ee_intOf T.int (ee_nm 3)) (ee_nm 1) fun _ _ g => od_mod (by omega) g) (fin ht x6 ?_)
    rw [er_upd]
    exact r5.trans (g6.er (x5.fd (n := u0 + 1) ht (by omega) (by omega)))
  -- at
  have x5 := x4.up g5
  have r5 := r4.trans (g5.er (x4.fd (n := u0 + 1) ht (by omega) (by omega)))
  refine ss_set (x := .d (.int t)) 4 sc_l_draw.nd (ee_dZ (w := .int t) hU (ee_nm 0) ee_str x5.dict get_at (.int t)) fun G6 H6 g6 => ?_
  have x6 := x5.up g6
  have r6 := r5.trans (g6.er (x5.fd (n := u0 + 1) ht (by omega) (by omega)))
  refine ss_putZ (z := "at") (x := .int (t + 1)) hU (ee_bin (ee_nm 4) ee_int fun _ _ g => od_add g) (ee_nm 0) ee_str x6.dict x6.off feed_len fun v G7 H7 g7 e7 n7 d7 => ?_
  cases d7
  rw [put_at]
  have x7 : FdX K Fe (t + 1) lf (u + 1) G7 _ := (x6.up g7).put
  have r7 : Gr G (er Fe.a H) G7 (er Fe.a (upd H7 Fe.a (.dK (feedK Fe.l (t + 1) lf (u + 1))))) := by
    rw [er_upd]
    exact r6.trans (g7.er (x6.fd (n := u0 + 1) ht (by omega) (by omega)))
  generalize upd H7 Fe.a (.dK (feedK Fe.l (t + 1) lf (u + 1))) = H8 at x7 r7
  have ht1 : 0 ≤ t + 1 := by omega
  refine ss_set (x := .d (.int 0)) 5 sc_l_draw.nd ee_int fun G9 H9 g9 => ?_
  have x9 := x7.up g9
  have r9 := r7.trans (g9.er (x7.fd (n := u0 + 1) ht1 (by omega) (by omega)))
  have hshape := shaped_ints Fe.cs
  -- the rest, by the cell
  have tail : ∀ (c : Int) (G9 H9 : Hp), FdX K Fe (t + 1) lf (u + 1) G9 H9 → Gr G (er Fe.a H) G9 (er Fe.a H9) → SS (bX P w K mg base N_l_draw "_law_draw" s_l_draw f cdv A outer s H E) { nx := fun _ H' => Q .non H', rt := Q } [some (.v (.ref Fe.a)), some (.d (.int (n : Nat))), some (.d (.int (u + 1))), some (.d (.int lf)), some (.d (.int t)), some (.d (.int c)), none] G9 H9 ((defBody s_l_draw).drop 8) := by
    intro c G9 H9 x9 r9
    refine ss_if1 (et_w (ew_and (et_cmp (ee_nm 5) (ee_bin ee_int ee_int fun _ _ g => od_pow (show CPow 10 18 from ⟨by decide, by decide, by decide⟩) g) fun _ _ g => od_ge g) fun _ => ew_and1 (et_cmp (ee_nm 4) (ee_lenL T.len (ee_dZ (w := .ref Fe.l) hU (ee_nm 0) ee_str x9.dict get_cells x9.dpc)) fun _ _ g => od_lt g))) (fun _ G10 H10 g10 => ?_) fun _ G10 H10 g10 => ?_
    · have x10 := x9.up g10
      have r10 := r9.trans (g10.er (x9.fd (n := u0 + 1) ht1 (by omega) (by omega)))
      refine ss_putZ (z := "left") (x := .int (c / (n : Nat))) hU (ee_bin (ee_nm 5) (ee_nm 1) fun _ _ g => od_fdiv hndiv g) (ee_nm 0) ee_str x10.dict x10.off feed_len fun v G11 H11 g11 e11 n11 d11 => ?_
      cases d11
      rw [put_left]
      have x11 : FdX K Fe (t + 1) (c / (n : Nat)) (u + 1) G11 _ := (x10.up g11).put
      refine ss_ret (x := .d (.int (c % (n : Nat)))) (ee_bin (ee_intOf T.int (ee_nm 5)) (ee_nm 1) fun _ _ g => od_mod (by omega) g) (fin ht1 x11 ?_)
      rw [er_upd]
      exact r10.trans (g11.er (x10.fd (n := u0 + 1) ht1 (by omega) (by omega)))
    · have x10 := x9.up g10
      have r10 := r9.trans (g10.er (x9.fd (n := u0 + 1) ht1 (by omega) (by omega)))
      refine ss_set (x := .d (.int ((c % 2147483629 + 48271 * (u + 1) + 11) % 2147483587))) 6 sc_l_draw.nd (ee_bin (ee_intOf T.int (ee_bin (ee_bin (ee_bin (ee_intOf T.int (ee_nm 5)) ee_int fun _ _ g => od_mod (by decide) g) (ee_bin ee_int (ee_nm 2) fun _ _ g => od_mul (.inl (by decide)) g) fun _ _ g => od_add g) ee_int fun _ _ g => od_add g)) ee_int fun _ _ g => od_mod (by decide) g) fun G11 H11 g11 => ?_
      have x11 := x10.up g11
      have r11 := r10.trans (g11.er (x10.fd (n := u0 + 1) ht1 (by omega) (by omega)))
      have hm1 : 0 ≤ (c % 2147483629 + 48271 * (u + 1) + 11) % 2147483587 ∧ (c % 2147483629 + 48271 * (u + 1) + 11) % 2147483587 < 2147483587 := ⟨Int.emod_nonneg _ (by decide), Int.emod_lt_of_pos _ (by decide)⟩
      generalize (c % 2147483629 + 48271 * (u + 1) + 11) % 2147483587 = m1 at hm1
      have hm1' : -(2 ^ 64) < m1 ∧ m1 < 2 ^ 64 := by omega
      have hu1' : -(2 ^ 64) < u + 1 ∧ u + 1 < 2 ^ 64 := by omega
      refine ss_set (x := .d (.int ((m1 * m1 + 69621 * (u + 1) * (u + 1) * (u + 1) + 7 * m1) % 2147483563))) 6 sc_l_draw.nd (ee_bin (ee_intOf T.int (ee_bin (ee_bin (ee_bin (ee_nm 6) (ee_nm 6) fun _ _ g => od_mul (.inl hm1') g) (ee_bin (ee_bin (ee_bin ee_int (ee_nm 2) fun _ _ g => od_mul (.inl (by decide)) g) (ee_nm 2) fun _ _ g => od_mul (.inr hu1') g) (ee_nm 2) fun _ _ g => od_mul (.inr hu1') g) fun _ _ g => od_add g) (ee_bin ee_int (ee_nm 6) fun _ _ g => od_mul (.inl (by decide)) g) fun _ _ g => od_add g)) ee_int fun _ _ g => od_mod (by decide) g) fun G12 H12 g12 => ?_
      have x12 := x11.up g12
      have r12 := r11.trans (g12.er (x11.fd (n := u0 + 1) ht1 (by omega) (by omega)))
      have hm2 : 0 ≤ (m1 * m1 + 69621 * (u + 1) * (u + 1) * (u + 1) + 7 * m1) % 2147483563 ∧ (m1 * m1 + 69621 * (u + 1) * (u + 1) * (u + 1) + 7 * m1) % 2147483563 < 2147483563 := ⟨Int.emod_nonneg _ (by decide), Int.emod_lt_of_pos _ (by decide)⟩
      generalize (m1 * m1 + 69621 * (u + 1) * (u + 1) * (u + 1) + 7 * m1) % 2147483563 = m2 at hm2
      have hm2' : -(2 ^ 64) < m2 ∧ m2 < 2 ^ 64 := by omega
      exact ss_ret (x := .d (.int (((m2 * m2 * m2 + 16807 * m2) % 2147483549 / 64) % (n : Nat)))) (ee_bin (ee_intOf T.int (ee_bin (ee_bin (ee_intOf T.int (ee_bin (ee_bin (ee_bin (ee_nm 6) (ee_nm 6) fun _ _ g => od_mul (.inl hm2') g) (ee_nm 6) fun _ _ g => od_mul (.inr hm2') g) (ee_bin ee_int (ee_nm 6) fun _ _ g => od_mul (.inl (by decide)) g) fun _ _ g => od_add g)) ee_int fun _ _ g => od_mod (by decide) g) ee_int fun _ _ g => od_fdiv (by decide) g)) (ee_nm 1) fun _ _ g => od_mod (by omega) g) (fin ht1 x12 r12)
  refine ss_if1 (k := !decide (Fe.cs = [])) (ET.to (et_cmp (ee_dZ (w := .ref Fe.l) hU (ee_nm 0) ee_str x9.dict get_cells x9.dpc) (EF.ee (ef_lst (ds := []) ea_nil)) fun _ _ g => od_neD hU hshape shaped_nil g) ?_) (fun hy G10 H10 g10 => ?_) fun _ G10 H10 g10 => ?_
  · rw [eqv_nil]
    exact congrArg _ (decide_eq_decide.mpr List.map_eq_nil_iff)
  · have x10 := x9.up g10
    have r10 := r9.trans (g10.er (x9.fd (n := u0 + 1) ht1 (by omega) (by omega)))
    have hne : Fe.cs ≠ [] := by simpa using hy
    have hlen : 0 < Fe.cs.length := List.length_pos_iff.mpr hne
    have e0 : t % ((Fe.cs.map PyData.int).length : Nat) = ((t.toNat % Fe.cs.length : Nat) : Int) := by
      rw [List.length_map, Int.natCast_emod, Int.toNat_of_nonneg ht]
    have hlt : t.toNat % Fe.cs.length < Fe.cs.length := Nat.mod_lt _ hlen
    refine ss_set (x := .d (.int (Fe.cs[t.toNat % Fe.cs.length]))) 5 sc_l_draw.nd (ee_ix (ee_dZ (w := .ref Fe.l) hU (ee_nm 0) ee_str x10.dict get_cells x10.dpc) (EE.to (ee_bin (ee_intOf T.int (ee_nm 4)) (ee_lenL T.len (ee_dZ (w := .ref Fe.l) hU (ee_nm 0) ee_str x10.dict get_cells x10.dpc)) fun _ _ g => od_mod (by rw [List.length_map]; omega) g) (by rw [e0])) fun _ _ g => xd_lst (by rw [List.getElem?_map, List.getElem?_eq_getElem hlt] <;> rfl) g) fun G11 H11 g11 => ?_
    have x11 := x10.up g11
    have r11 := r10.trans (g11.er (x10.fd (n := u0 + 1) ht1 (by omega) (by omega)))
    exact ss_out fun G12 H12 g12 => tail _ G12 H12 (x11.up g12) (r11.trans (g12.er (x11.fd (n := u0 + 1) ht1 (by omega) (by omega))))
  · exact tail _ G10 H10 (x9.up g10) (r9.trans (g10.er (x9.fd (n := u0 + 1) ht1 (by omega) (by omega))))
end Rb
set_option Elab.async false
set_option linter.all false
set_option maxRecDepth 100000
set_option maxHeartbeats 4000000
namespace Rb
open PySem PySem.Spec PyProof.Rows L2
variable {P : Program} {w : World} {K : PySem.W.Frag} {mg : Str → Option Value} {base : Heap} {f : Addr} {fd : FuncData}
/-! ### displays of texts -/
def strsOf : List Expr → Option (List Str)
  | [] => some []
  | .Constant (.str z) _ _ :: es => (strsOf es).map (z :: ·)
  | _ => none
def listsOf : List Expr → Option (List (List Str))
  | [] => some []
  | .Tuple es _ _ :: r => (strsOf es).bind fun zs => (listsOf r).map (zs :: ·)
  | _ => none
section
variable {X : Cx} {ρ : Env} {G H : Hp} {k : Nat} {pos : Pos}
theorem ea_strs : ∀ (es : List Expr) (zs : List Str), strsOf es = some zs → EA X ρ G H es ((zs.map PyData.str).map .d)
  | [], zs, h => by
    cases h
    exact ea_nil
  | .Constant (.str z) j p :: es, zs, h => by
    unfold strsOf at h
    cases e : strsOf es with
    | none => rw [e] at h; cases h
    | some ws =>
      rw [e] at h
      cases h
      exact ea_cons ee_str (ea_strs es ws e) rfl
theorem ee_strT {es : List Expr} {zs : List Str} (h : strsOf es = some zs) (hl : zs.length ≤ 100000) : EE X ρ G H (.Tuple es k pos) (.d (eSs zs)) := ee_tup (ea_strs es zs h) (by rw [List.length_map]; exact hl)
theorem ea_lists : ∀ (es : List Expr) (zss : List (List Str)), listsOf es = some zss → (∀ zs ∈ zss, zs.length ≤ 100000) → EA X ρ G H es ((zss.map eSs).map .d)
  | [], zss, h, _ => by
    cases h
    exact ea_nil
  | .Tuple es j p :: r, zss, h, hl => by
    unfold listsOf at h
    cases e : strsOf es with
    | none => rw [e] at h; cases h
    | some zs =>
      cases e2 : listsOf r with
      | none => rw [e, e2] at h; cases h
      | some ws =>
        rw [e, e2] at h
        cases h
        exact ea_cons (ee_strT e (hl _ List.mem_cons_self)) (ea_lists r ws e2 fun zs hz => hl zs (List.mem_cons_of_mem _ hz)) rfl
theorem ee_strLL {es : List Expr} {zss : List (List Str)} (h : listsOf es = some zss) (hl : zss.length ≤ 1000 ∧ ∀ zs ∈ zss, zs.length ≤ 100000) : EE X ρ G H (.List es pos) (.d (.list (zss.map eSs))) := EF.ee (ef_lst (ea_lists es zss h hl.2) (by rw [List.length_map]; omega))
theorem ee_go {e : Expr} {x : SV} {G1 H1 : Hp} {σ : L2.St} (h : EE X ρ G H e x) (g : Gr G H G1 H1) (r : ER X.K G1 σ ρ) {Q : VK} (q : ∀ v G2 H2, Gr G1 H1 G2 H2 → SR X.K G2 v x → Q v H2) : wE X e σ H1 Q := h G1 H1 σ g r Q q
theorem ef_go {e : Expr} {ds : List D} {G1 H1 : Hp} {σ : L2.St} (h : EF X ρ G H e ds) (g : Gr G H G1 H1) (r : ER X.K G1 σ ρ) {Q : VK} (q : ∀ p vs G2 H2, Gr G1 H1 G2 H2 → H1 p = none → G2 p = none → H2 p = some (.lst vs) → DpAll X.K G2 vs ds → Q (.ref p) H2) : wE X e σ H1 Q := h G1 H1 σ g r Q q
end
/-! ### the feed -/
def spFd (K : PySem.W.Frag) : Sp := fun vs H Q _ => ∃ (G : Hp) (cs : List Int), Same G H ∧ SRs K G vs [.d (.list (cs.map .int))] ∧ ∀ F G2 H2, Gr G H G2 H2 → H F.a = none → FdX K F 0 0 0 G2 H2 → Q (.ref F.a) H2
def FnFeed (P : Program) (w : World) (K : PySem.W.Frag) (mg : Str → Option Value) (base : Heap) (x : Str) (k : Nat) : Prop :=
  ∃ f fd ps, mg x = some (.ref f) ∧ PySem.W.keepIn K (.ref f) = true ∧ Binds K fd ps [] ∧ FnOk P w K mg base CX0 k f fd ps (spFd K)
theorem ints_of {G : Hp} : ∀ {cs : List Int} {vs : List V}, DpAll K G vs (cs.map .int) → vs = cs.map .int
  | [], _, h => by cases h; rfl
  | i :: cs, _, h => by
    cases h with
    | cons a b =>
      cases a
      rw [ints_of b] <;> rfl
theorem fn_lawfeed (T : Gf mg) (F : FD K "_law_feed" s_l_feed f fd) (hx : mg "_law_feed" = some (.ref f)) : FnFeed P w K mg base "_law_feed" 1 := by
  refine ⟨f, fd, _, hx, F.kp, F.bindsN fun _ _ _ _ _ _ us hl => match us, hl with | [_], _ => rfl, F.ok sc_l_feed (fun vs H Q E h => ?_) fun cdv A outer s H vs Q E hr h => ?_⟩
  · obtain ⟨G, cs, _, r, _⟩ := h
    rw [r.length] <;> rfl
  · obtain ⟨G, cs, gh, r, q⟩ := h
    refine ⟨_, PSs.nox pss_w, ?_⟩
    have hlen : vs.length = 1 := by rw [r.length] <;> rfl
    have key : SS (bX P w K mg base N_l_feed "_law_feed" s_l_feed f cdv A outer s H E) { nx := fun _ H' => Q .non H', rt := Q } (slots [.d (.list (cs.map .int))] 0) G H (defBody s_l_feed) := by
      refine ss_cons (ps_ret (pe_disp (pps_cons pe_w pe_w (pps_cons pe_w pe_w (pps_cons pe_w pe_w (pps_cons pe_w pe_w pps_nil)))) rfl rfl (by decide) (by decide))) fun s0 σ r0 => ?_
      intro p hp
      have gp : G p = none := s0.free hp
      have t0 : Gr G H G (upd H p (.dK [])) := .tmp s0 hp
      refine ee_str (i := "cells") G _ σ t0 r0 _ fun v1 G1 H1 g1 r1 => ?_
      have e1 := sr_str r1
      refine ef_go (ρ := slots [.d (.list (cs.map .int))] 0) (ds := (cs.take 63).map .int) (ef_callT (T := "list") T.list (by decide +kernel) (ea_cons (EF.ee (ef_slL (j := some 63) (ee_nm 0) eo_no (eo_at ee_int))) ea_nil) (fun _ _ g => ?_)) (t0.trans g1) (r0.up g1.g) fun l ws G2 H2 g2 hl gl e2 r2 => ?_
      · have := cutD_to (cs.map PyData.int) 63
        rw [List.map_take, ← this]
        exact cf_listL g
      have ew := ints_of r2
      have e1p : H1 p = some (.dK []) := g1.h _ _ upd_same
      have hlp : l ≠ p := fun z => by rw [z, e1p] at hl; cases hl
      have gf := g2.frz hl gl e2
      have e2p : H2 p = some (.dK []) := g2.h _ _ e1p
      have gall : Gr G (upd H p (.dK [])) (upd G2 l (.lst ws)) H2 := g1.trans gf
      refine ee_str (i := "at") _ _ σ (t0.trans gall) (r0.up gall.g) _ fun v3 G3 H3 g3 r3 => ?_
      refine ee_int (i := 0) _ _ σ (t0.trans (gall.trans g3)) (r0.up (gall.trans g3).g) _ fun v4 G4 H4 g4 r4 => ?_
      have g5' := gall.trans (g3.trans g4)
      refine ee_str (i := "left") _ _ σ (t0.trans g5') (r0.up g5'.g) _ fun v5 G5 H5 g5 r5 => ?_
      refine ee_int (i := 0) _ _ σ (t0.trans (g5'.trans g5)) (r0.up (g5'.trans g5).g) _ fun v6 G6 H6 g6 r6 => ?_
      have g7' := g5'.trans (g5.trans g6)
      refine ee_str (i := "turn") _ _ σ (t0.trans g7') (r0.up g7'.g) _ fun v7 G7 H7 g7 r7 => ?_
      refine ee_int (i := 0) _ _ σ (t0.trans (g7'.trans g7)) (r0.up (g7'.trans g7).g) _ fun v8 G8 H8 g8 r8 => ?_
      have gz := g7'.trans (g7.trans g8)
      have glast := (g3.trans (g4.trans (g5.trans (g6.trans (g7.trans g8)))))
      have e8p : H8 p = some (.dK []) := glast.h _ _ e2p
      have n8 : G8 p = none := gz.fr p gp (by rw [upd_same]; simp)
      refine ⟨e8p, feedK l 0 0 0, ?_, (show 4 ≤ 15 by decide), ?_⟩
      · rw [e1, sr_str r3, sr_int r4, sr_str r5, sr_int r6, sr_str r7, sr_int r8] <;> rfl
      have em : mergeK [] (feedK l 0 0 0) = feedK l 0 0 0 := by
        simp [mergeK, feedK, putK, k12, k13, k14, k23, k24, k34]
      rw [em]
      have cells : G8 l = some (.lst ((cs.take 63).map .int)) := by
        refine glast.g _ _ ?_
        rw [upd_same, ew]
      refine q ⟨p, l, cs.take 63⟩ G8 _ ((t0.trans gz).mut hp n8) hp ⟨same_own gz.gh n8, n8, cells, by rw [List.length_take]; omega, upd_same⟩
    refine key gh _ ?_
    unfold L2.start
    rw [hlen]
    exact ER.start r _
/-! ### drawing from a display -/
def R_any : List SV → (D → Prop) → Prop := fun xs Pd => ∃ ds : List D, (xs = [.d (.tuple ds)] ∨ xs = [.d (.list ds)]) ∧ 0 < ds.length ∧ ds.length ≤ 1000 ∧ Pd = (· ∈ ds)
theorem fn_any (T : Gf mg) (F : FD K "_law_any" s_l_any f fd) (hx : mg "_law_any" = some (.ref f)) (C1 : FnD P w K mg base "_law_draw" 1 2 1 R_draw) : FnD P w K mg base "_law_any" 2 2 1 R_any := by
  refine fn_feed F sc_l_any rfl rfl hx (F.bindsN fun _ _ _ _ _ _ us hl => match us, hl with | [_, _], _ => rfl) fun cdv A outer s H E hr Fe u0 G xs Pd Q hR hl hf hu q => ?_
  obtain ⟨ds, hxs, hn, hn2, rfl⟩ := hR
  have get : ∀ y, upto ds.length y → ∃ (i : Nat) (z : D), y = .int (i : Nat) ∧ z ∈ ds ∧ ds[i]? = some z := fun y hy => by
    obtain ⟨i, hi, rfl⟩ := hy
    exact ⟨i, ds[i], rfl, List.getElem_mem hi, List.getElem?_eq_getElem hi⟩
  rcases hxs with rfl | rfl
  · refine fs_ret (k := 0 + 1) hf hu (fe_ix (P := (· = .tuple ds)) (fe_of (ee_nm 1) rfl) (fe_call C1 hr (ea_cons (ee_nm 0) (ea_cons (ee_lenT T.len (ee_nm 1)) ea_nil)) ⟨ds.length, rfl, hn, hn2, rfl⟩) fun x y hx hy => ?_) q
    subst hx
    obtain ⟨i, z, rfl, hz, e⟩ := get y hy
    exact ⟨z, hz, fun G1 H1 s => xd_tup e (.refl s)⟩
  · refine fs_ret (k := 0 + 1) hf hu (fe_ix (P := (· = .list ds)) (fe_of (ee_nm 1) rfl) (fe_call C1 hr (ea_cons (ee_nm 0) (ea_cons (ee_lenL T.len (ee_nm 1)) ea_nil)) ⟨ds.length, rfl, hn, hn2, rfl⟩) fun x y hx hy => ?_) q
    subst hx
    obtain ⟨i, z, rfl, hz, e⟩ := get y hy
    exact ⟨z, hz, fun G1 H1 s => xd_lst e (.refl s)⟩
end Rb
set_option Elab.async false
set_option linter.all false
set_option maxRecDepth 100000
set_option maxHeartbeats 1000000
namespace Rb
open PySem PySem.Spec PyProof.Rows L2
variable {P : Program} {w : World} {K : PySem.W.Frag} {mg : Str → Option Value} {base : Heap} {f : Addr} {fd : FuncData}
/-! ### names -/
def srcLists : List (List Str) := [["cc", "tcc", "lib", "app", "top"], ["m", "mm", "b2", "a", "zz"], ["z", "c", "yy1", "x", "n1"], ["q9", "q", "p", "q10", "aaaaaaaa"]]
def ptyLists : List (List Str) := [["ann", "bob", "cy"], ["z", "b", "a"], ["p1", "p", "q"], ["x", "cc", "n0"]]
def fileLists : List (List Str) := [["x", "t", "y", "f", "g", "h", "z", "w"], ["n1", "n0", "a", "n3", "n10", "b", "n2", "cc"], ["z9", "zz", "y", "xx", "x", "w1234567", "v", "u"]]
def eN (S Q F : List Str) : D := .tuple [eSs S, eSs Q, eSs F]
def isNames : D → Prop := fun d => ∃ S Q F, S ∈ srcLists ∧ Q ∈ ptyLists ∧ F ∈ fileLists ∧ d = eN S Q F
def R_lnames : List SV → (D → Prop) → Prop := fun xs Pd => xs = [] ∧ Pd = isNames
theorem R_any_list {ds : List D} {L : List (List Str)} (h : ds = L.map eSs) (h1 : L ≠ [] := by exact fun e => nomatch e) (h2 : L.length ≤ 1000 := by decide) : R_any [.d (.list ds)] (· ∈ L.map eSs) := ⟨ds, .inr rfl, by rw [h, List.length_map]; exact List.length_pos_iff.mpr h1, by rw [h, List.length_map]; exact h2, by rw [h]⟩
end Rb
set_option Elab.async false
set_option linter.all false
set_option maxRecDepth 100000
set_option maxHeartbeats 300000
namespace Rb
open PySem PySem.Spec PyProof.Rows L2
theorem st_list {es r : List Expr} {p : Pos} {env : PySem.Env} : starEach (.List es p :: r) env = (false, eval (.List es p) env) :: starEach r env := rfl
theorem st_name {n : Str} {r : List Expr} {p : Pos} {env : PySem.Env} : starEach (.Name n p :: r) env = (false, eval (.Name n p) env) :: starEach r env := rfl
theorem st_tup {es r : List Expr} {k : Nat} {p : Pos} {env : PySem.Env} : starEach (.Tuple es k p :: r) env = (false, eval (.Tuple es k p) env) :: starEach r env := rfl
theorem st_call {f : Expr} {es r : List Expr} {ks : List Keyword} {p : Pos} {env : PySem.Env} : starEach (.Call f es ks p :: r) env = (false, eval (.Call f es ks p) env) :: starEach r env := rfl
theorem st_sub {a b : Expr} {r : List Expr} {p : Pos} {env : PySem.Env} : starEach (.Subscript a b p :: r) env = (false, eval (.Subscript a b p) env) :: starEach r env := rfl
theorem st_bin {a b : Expr} {o : Operator} {r : List Expr} {p : Pos} {env : PySem.Env} : starEach (.BinOp a o b p :: r) env = (false, eval (.BinOp a o b p) env) :: starEach r env := rfl
theorem st_lc {e : Expr} {gs : List Comprehension} {sc : Scope} {r : List Expr} {p : Pos} {env : PySem.Env} : starEach (.ListComp e gs sc p :: r) env = (false, eval (.ListComp e gs sc p) env) :: starEach r env := rfl
theorem st_con {c : Const} {j : Nat} {r : List Expr} {p : Pos} {env : PySem.Env} : starEach (.Constant c j p :: r) env = (false, eval (.Constant c j p) env) :: starEach r env := rfl
theorem st_cmp {a : Expr} {os : List CmpOp} {bs : List Expr} {r : List Expr} {p : Pos} {env : PySem.Env} : starEach (.Compare a os bs p :: r) env = (false, eval (.Compare a os bs p) env) :: starEach r env := rfl
theorem st_if {a b c : Expr} {r : List Expr} {p : Pos} {env : PySem.Env} : starEach (.IfExp c a b p :: r) env = (false, eval (.IfExp c a b p) env) :: starEach r env := rfl
theorem fe_call1 {X : Cx} {F : Feed} {ρ : Env} {G H : Hp} {nm n : Str} {p0 p' pos : Pos} {e : Expr} {x : SV} {j k : Nat} {Pd : D → Prop} {R : List SV → (D → Prop) → Prop} (C : FnD X.prog X.w X.K X.mg X.base nm j 2 k R) (hr : Room j X.A) (h0 : EE X ρ G H (.Name n p0) (.v (.ref F.a))) (h : EE X ρ G H e x) (hs : starEach [e] X.env = (false, eval e X.env) :: starEach [] X.env) (hR : R [x] Pd) (hg : Gl X nm := by rfl) (hdb : (nm == ("__debug__" : Str)) = false := by decide) : FE X F ρ G H k (.Call (.Name nm p') [.Name n p0, e] [] pos) Pd :=
  fe_call C hr (ea_cons h0 (ea_cons h ea_nil hs) st_name) hR rfl hg hdb st_name (by rw [hs]; rfl)
theorem fe_call0 {X : Cx} {F : Feed} {ρ : Env} {G H : Hp} {nm n : Str} {p0 p' pos : Pos} {j k : Nat} {Pd : D → Prop} {R : List SV → (D → Prop) → Prop} (C : FnD X.prog X.w X.K X.mg X.base nm j 1 k R) (hr : Room j X.A) (h0 : EE X ρ G H (.Name n p0) (.v (.ref F.a))) (hR : R [] Pd) (hg : Gl X nm := by rfl) (hdb : (nm == ("__debug__" : Str)) = false := by decide) : FE X F ρ G H k (.Call (.Name nm p') [.Name n p0] [] pos) Pd :=
  fe_call C hr (ea_cons h0 ea_nil st_name) hR rfl hg hdb st_name rfl
variable {P : Program} {w : World} {K : PySem.W.Frag} {mg : Str → Option Value} {base : Heap} {f : Addr} {fd : FuncData}
theorem fn_lnames (F : FD K "_law_names" s_l_names f fd) (hx : mg "_law_names" = some (.ref f)) (C1 : FnD P w K mg base "_law_any" 2 2 1 R_any) : FnD P w K mg base "_law_names" 3 1 3 R_lnames := by
  refine fn_feed F sc_l_names rfl rfl hx (F.bindsN fun _ _ _ _ _ _ us hl => match us, hl with | [_], _ => rfl) fun cdv A outer s H E hr Fe u0 G xs Pd Q hR hl hf hu q => ?_
  obtain ⟨rfl, rfl⟩ := hR
  refine fs_set (P := (· ∈ srcLists.map eSs)) (k := 1) 1 hf (by omega) sc_l_names.nd ?_ fun d1 G1 H1 h1 g1 f1 => ?_
  · refine fe_call1 C1 hr (ee_nm 0) ?_ st_list (R_any_list (L := srcLists) rfl)
    refine ee_strLL (zss := srcLists) ?_ ?_
    · kernel_rfl
    · decide
  refine fs_set (P := (· ∈ ptyLists.map eSs)) (k := 1) 2 f1 (by omega) sc_l_names.nd ?_ fun d2 G2 H2 h2 g2 f2 => ?_
  · refine fe_call1 C1 hr (ee_nm 0) ?_ st_list (R_any_list (L := ptyLists) rfl)
    refine ee_strLL (zss := ptyLists) ?_ ?_
    · kernel_rfl
    · decide
  refine fs_set (P := (· ∈ fileLists.map eSs)) (k := 1) 3 f2 (by omega) sc_l_names.nd ?_ fun d3 G3 H3 h3 g3 f3 => ?_
  · refine fe_call1 C1 hr (ee_nm 0) ?_ st_list (R_any_list (L := fileLists) rfl)
    refine ee_strLL (zss := fileLists) ?_ ?_
    · kernel_rfl
    · decide
  obtain ⟨S, hS, rfl⟩ := List.mem_map.mp h1
  obtain ⟨Q', hQ, rfl⟩ := List.mem_map.mp h2
  obtain ⟨F', hF, rfl⟩ := List.mem_map.mp h3
  exact ss_ret (x := .d (eN S Q' F')) (ee_tup (ds := [eSs S, eSs Q', eSs F']) (ea_cons (ee_nm 1) (ea_cons (ee_nm 2) (ea_cons (ee_nm 3) ea_nil)))) fun v G4 H4 g4 r4 => q v _ G4 H4 ((g1.trans (g2.trans g3)).trans (g4.er f3)) (f3.up g4) ⟨S, Q', F', hS, hQ, hF, rfl⟩ r4
end Rb
set_option Elab.async false
set_option linter.all false
set_option maxRecDepth 100000
set_option maxHeartbeats 1000000
namespace Rb
open PySem PySem.Spec PyProof.Rows L2
/-! ### displays of plain data -/
mutual
def cD : Expr → Option D
  | .Constant (.int i) _ _ => some (.int i)
  | .Constant (.str z) _ _ => some (.str z)
  | .Constant (.bool b) _ _ => some (.bool b)
  | .Constant .none _ _ => some .none
  | .UnaryOp .USub (.Constant (.int i) _ _) _ => some (.int (-i))
  | .Tuple es _ _ => match cDs es with
    | some ds => if ds.length ≤ 100000 then some (.tuple ds) else none
    | none => none
  | _ => none
def cDs : List Expr → Option (List D)
  | [] => some []
  | e :: es => match cD e, cDs es with
    | some d, some ds => some (d :: ds)
    | _, _ => none
end
section
variable {X : Cx} {ρ : Env} {G H : Hp} {k : Nat} {pos : Pos}
theorem ee_neg {e : Expr} {i : Int} (h : EE X ρ G H e (.d (.int i))) : EE X ρ G H (.UnaryOp .USub e pos) (.d (.int (-i))) := fun G1 H1 σ g r Q q =>
  w_pe (pe_un un_neg pe_w) (h G1 H1 σ g r _ fun v G2 H2 g2 r2 => ⟨i, sr_int r2, q _ G2 H2 g2 (.int _)⟩)
theorem st_any {e : Expr} {es : List Expr} {env : PySem.Env} (h : (cD e).isSome = true) : starEach (e :: es) env = (false, eval e env) :: starEach es env := by
  cases e with
  | Starred a p => unfold cD at h; cases h
  | _ => rfl
mutual
theorem ee_con : ∀ (e : Expr) (d : D), cD e = some d → EE X ρ G H e (.d d)
  | .Constant (.int i) j p, d, h => by unfold cD at h; cases h; exact ee_int
  | .Constant (.str i) j p, d, h => by unfold cD at h; cases h; exact ee_str
  | .Constant (.bool i) j p, d, h => by unfold cD at h; cases h; exact ee_bl
  | .Constant .none j p, d, h => by unfold cD at h; cases h; exact ee_non
  | .UnaryOp .USub (.Constant (.int i) _ _) _, d, h => by unfold cD at h; cases h; exact ee_neg ee_int
  | .Tuple es j p, d, h => by
    unfold cD at h
    cases e : cDs es with
    | none => rw [e] at h; cases h
    | some ds =>
      rw [e] at h
      simp only at h
      split at h
      · cases h
        rename_i hl
        exact ee_tup (ea_con es ds e) hl
      · cases h
theorem ea_con : ∀ (es : List Expr) (ds : List D), cDs es = some ds → EA X ρ G H es (ds.map .d)
  | [], ds, h => by unfold cDs at h; cases h; exact ea_nil
  | e :: es, ds, h => by
    unfold cDs at h
    cases e1 : cD e with
    | none => rw [e1] at h; cases h
    | some d =>
      cases e2 : cDs es with
      | none => rw [e1, e2] at h; cases h
      | some ds' =>
        rw [e1, e2] at h
        cases h
        exact ea_cons (ee_con e d e1) (ea_con es ds' e2) (st_any (by rw [e1] <;> rfl))
end
theorem ef_con {es : List Expr} {ds : List D} (h : cDs es = some ds) (hl : ds.length ≤ 100000) : EF X ρ G H (.List es pos) ds := ef_lst (ea_con es ds h) hl
end
/-! ### rows -/
structure Row where
  party : Nat
  comp : Option Nat
  src : Nat
  parts : List Nat
  file : Nat
def eI : Option Nat → D
  | none => .int (-1)
  | some c => .int (c : Nat)
def eR (r : Row) : D := .tuple [.int (r.party : Nat), eI r.comp, .int (r.src : Nat), .tuple (r.parts.map fun k => .int (k : Nat)), .int (r.file : Nat)]
structure RowOk (r : Row) : Prop where
  party : r.party < 3
  comp : ∀ c, r.comp = some c → c < 8
  src : r.src < 5
  parts : (∀ k ∈ r.parts, k < 8) ∧ r.parts.length ≤ 2
  file : r.file < 8
end Rb
set_option Elab.async false
set_option linter.all false
set_option maxRecDepth 100000
set_option maxHeartbeats 1000000
/-! More rules of the feed's mode. -/
namespace Rb
open PySem PySem.Spec PyProof.Rows L2
/-- each of a list as told -/
def Each : List (D → Prop) → List D → Prop
  | [], ds => ds = []
  | P :: Ps, ds => ∃ d r, ds = d :: r ∧ P d ∧ Each Ps r
theorem each_len : ∀ {Ps : List (D → Prop)} {ds : List D}, Each Ps ds → ds.length = Ps.length
  | [], _, h => by rw [show _ = [] from h]; rfl
  | P :: Ps, _, h => by
    obtain ⟨d, r, rfl, _, h⟩ := h
    rw [List.length_cons, List.length_cons, each_len h]
theorem st_un {a : Expr} {o : UnaryOp} {r : List Expr} {p : Pos} {env : PySem.Env} : starEach (.UnaryOp o a p :: r) env = (false, eval (.UnaryOp o a p) env) :: starEach r env := rfl
section
variable {X : Cx} {F : Feed} {ρ : Env} {G H : Hp} {k k1 k2 : Nat} {e a b c : Expr} {es rest : List Expr} {P : D → Prop} {Ps : List (D → Prop)} {x : D} {pos p0 p' p2 : Pos} {S : Bool → Prop}
theorem fa_e0 : FA X F ρ G H 0 [] (Each []) := fa_nil
theorem fa_e (h : FE X F ρ G H k1 e P) (hr : FA X F ρ G H k2 es (Each Ps)) (hs : starEach (e :: es) X.env = (false, eval e X.env) :: starEach es X.env) : FA X F ρ G H (k1 + k2) (e :: es) (Each (P :: Ps)) := fa_cons h hr (fun d ds hd hr => ⟨d, ds, rfl, hd, hr⟩) hs
theorem fe_eTup {j : Nat} (h : FA X F ρ G H k es (Each Ps)) (hl : Ps.length ≤ 100000) : FE X F ρ G H k (.Tuple es j pos) fun d => ∃ ds, d = .tuple ds ∧ Each Ps ds := fe_tup h fun ds hd => by rw [each_len hd]; exact hl
theorem fe_eLst (h : FA X F ρ G H k es (Each Ps)) (hl : Ps.length ≤ 100000) : FE X F ρ G H k (.List es pos) fun d => ∃ ds, d = .list ds ∧ Each Ps ds := (ff_lst h fun ds hd => by rw [each_len hd]; exact hl).fe
theorem fe_draw {i : Int} {nm : Str} {j n : Nat} (C : FnD X.prog X.w X.K X.mg X.base "_law_draw" 1 2 1 R_draw) (hr : Room 1 X.A) (h0 : EE X ρ G H (.Name nm p0) (.v (.ref F.a))) (hi : i = (n : Nat)) (h1 : 0 < n) (h2 : n ≤ 1000) (hg : Gl X "_law_draw" := by rfl) : FE X F ρ G H 1 (.Call (.Name "_law_draw" p') [.Name nm p0, .Constant (.int i) j p2] [] pos) (upto n) :=
  fe_call1 C hr h0 ee_int st_con ⟨n, by rw [hi], h1, h2, rfl⟩ hg
theorem fe_drawE {nm : Str} {n : Nat} (C : FnD X.prog X.w X.K X.mg X.base "_law_draw" 1 2 1 R_draw) (hr : Room 1 X.A) (h0 : EE X ρ G H (.Name nm p0) (.v (.ref F.a))) (h : EE X ρ G H e (.d (.int (n : Nat)))) (h1 : 0 < n) (h2 : n ≤ 1000) (hs : starEach [e] X.env = (false, eval e X.env) :: starEach [] X.env) (hg : Gl X "_law_draw" := by rfl) : FE X F ρ G H 1 (.Call (.Name "_law_draw" p') [.Name nm p0, e] [] pos) (upto n) :=
  fe_call1 C hr h0 h hs ⟨n, rfl, h1, h2, rfl⟩ hg
theorem FE.up' (h : FE X F ρ G H k e P) {G' H' : Hp} (g : Gr G H G' H') : FE X F ρ G' H' k e P := fun m G1 H1 σ hm g1 hf r Q q => h m G1 H1 σ hm (g.trans g1) hf r Q q
theorem fw_one (h : FT X F ρ G H k a S) : FW X F ρ G H k (.BoolOp .And [a] pos) S := fun m G1 H1 σ hm g hf r Q q => w_pw (pw_and1 pt_w) (h m G1 H1 σ hm g hf r _ q)
theorem fw_and {t : Bool} (h : ET X ρ G H a t) (hr : t = true → FW X F ρ G H k (.BoolOp .And (b :: rest) pos) S) (hS : t = false → S false) : FW X F ρ G H k (.BoolOp .And (a :: b :: rest) pos) S := fun m G1 H1 σ hm g hf r Q q =>
  w_pw (pw_and pt_w pw_w) (h G1 H1 σ (g.whole hf) r _ fun G2 H2 g2 => by
    cases t with
    | true => exact iteT (hr rfl m G2 H2 σ hm (g.trans (g2.er hf)) (hf.up g2) (r.up g2.g) _ fun b G3 H3 g3 f3 hb => q b G3 H3 ((g2.er hf).trans g3) f3 hb)
    | false => exact iteF (q false G2 H2 (g2.er hf) ((hf.up g2).more (by omega)) (hS rfl)))
theorem ft_w (h : FW X F ρ G H k e S) : FT X F ρ G H k e S := fun m G1 H1 σ hm g hf r Q q => w_pt (PW.pt pw_w) (h m G1 H1 σ hm g hf r _ q)
theorem ft_not {S : Bool → Prop} (h : FT X F ρ G H k a fun b => S (!b)) : FT X F ρ G H k (.UnaryOp .Not a pos) S := fun m G1 H1 σ hm g hf r Q q => w_pt (pt_not pt_w) (h m G1 H1 σ hm g hf r _ fun b G2 H2 g2 f2 hb => q _ G2 H2 g2 f2 hb)
theorem ft_val {S : Bool → Prop} (h : FE X F ρ G H k e fun d => ∃ b, d = .bool b ∧ S b) (he : ∀ whole, isTrue e X.env whole = (do let v ← whole; standAt e.pos; holding [v] (truthy v)) := by intro _; rfl) : FT X F ρ G H k e S := fun m G1 H1 σ hm g hf r Q q =>
  w_pt (pt_val pe_w he) (h m G1 H1 σ hm g hf r _ fun v d G2 H2 g2 f2 hd r2 => by
    obtain ⟨b, rfl, hb⟩ := hd
    cases r2
    exact ⟨b, rfl, q b G2 H2 g2 f2 hb⟩)
end
section
variable {X : Cx} {D : Ends} {F : Feed} {ρ : Env} {G H : Hp} {m k : Nat} {e a b c : Expr} {P : Rb.D → Prop} {rest : List Stmt} {pos p' : Pos}
/-- xs[j] = e -/
theorem fs_put {l : Addr} {ds : List Rb.D} {j : Nat} (hf : Fd X.K F m G H) (hm : m + k ≤ 1000) (hO : Own X.K G (er F.a H) l ds) (hj : j < ds.length) (hc : FE X F ρ G (er F.a H) k c P) (ho : EE X ρ G (er F.a H) a (.v (.ref l))) (hi : EE X ρ G (er F.a H) b (.d (.int (j : Nat))))
    (q : ∀ vs d G1 H1, P d → Gr G (er F.a H) G1 (er F.a H1) → Own X.K G1 (er F.a H1) l ds → Fd X.K F (m + k) G1 (upd H1 l (.lst vs)) → Own X.K G1 (er F.a (upd H1 l (.lst vs))) l (ds.set j d) → SS X D ρ G1 (upd H1 l (.lst vs)) rest)
    (ha : ∀ v, assign (.Subscript a b p') X.env v = (do
      let ov ← holding [v] (eval a X.env)
      let iv ← holding [v, ov] (eval b X.env)
      standAt p'
      holding [v, ov, iv] (setItem ov iv v)
      release [v, ov, iv] []) := by intro _; rfl)
    (hs : swapsWithSole [.Subscript a b p'] c pos.line X.env = pure false := by rfl) (hw : swappedStores [.Subscript a b p'] c X.env = pure none := by rfl)
    (h1 : (assignEach [.Subscript a b p'] X.env).map (·.2) = [assign (.Subscript a b p') X.env] := by rfl) : SS X D ρ G H (.Assign [.Subscript a b p'] c pos :: rest) :=
  ss_cons (ps_asg pe_w (pg_sub pe_w pe_w set_list ha) hs hw h1) fun s σ r =>
    hc m G H σ hm (.refl hf.er) hf r _ fun y d G1 H1 g1 f1 pd r1 => ho G1 H1 σ (g1.whole f1) (r.up g1.g) _ fun u G2 H2 g2 r2 => hi G2 H2 σ ((g1.trans (g2.er f1)).whole (f1.up g2)) (r.up (g1.g.trans g2.g)) _ fun t G3 H3 g3 r3 => by
      cases (show u = V.ref l from r2)
      have e3 := sr_int r3
      subst e3
      have hne := hO.ne_feed
      have f2 := f1.up g2
      have f3 := f2.up g3
      have gg := (g1.trans (g2.er f1)).trans (g3.er f2)
      obtain ⟨vs, w1, w2, w3⟩ := hO.gr gg
      have hlen := dps_len w3
      have e2 : H3 l = some (.lst vs) := by rwa [er_ne hne] at w1
      have r4 : Dp X.K G3 y d := dp_up (g2.g.trans g3.g) _ _ r1
      have sm : Same G3 (upd H3 l (.lst (vs.set j y))) := fun b u hb => by
        rw [upd_ne (ne_of_none hb w2)]
        exact f3.same _ _ hb
      obtain ⟨t, f, u, d1, d2⟩ := f3.dict
      have hFd : Fd X.K F (m + k) G3 (upd H3 l (.lst (vs.set j y))) := ⟨sm, f3.off, f3.cells, f3.few, t, f, u, by rw [upd_ne (Ne.symm hne)]; exact d1, d2⟩
      refine ⟨l, vs, _, j, rfl, rfl, e2, ?_, ?_⟩
      · rw [hlen]
        unfold ixN
        rw [if_pos (by omega), if_pos (by omega)]
        simp
      exact q (vs.set j y) d G3 H3 pd gg ⟨vs, w1, w2, w3⟩ hFd ⟨_, by rw [er_ne hne]; exact upd_same, w2, dps_set r4 j w3⟩ sm σ (r.up gg.g)
/-- a statement that draws nothing, seen from the feed -/
theorem fs_pure {sts : List Stmt} (hf : Fd X.K F m G H) (h : SS X D ρ G H sts) : SS X D ρ G H sts := h
end
variable {P : Program} {w : World} {K : PySem.W.Frag} {mg : Str → Option Value} {base : Heap} {f : Addr} {fd : FuncData}
/-! ### a row -/
def isRow : D → Prop := fun d => ∃ r, RowOk r ∧ d = eR r
def R_lrow : List SV → (D → Prop) → Prop := fun xs Pd => xs = [] ∧ Pd = isRow
theorem all_upto {n : Nat} : ∀ {ys : List Nat} {ds : List D}, All2 (fun (_ : Nat) => upto n) ys ds → ∃ ks : List Nat, ks.length = ys.length ∧ (∀ k ∈ ks, k < n) ∧ ds = ks.map fun k => .int (k : Nat) := by
  intro ys ds h
  obtain ⟨h1, h2⟩ := h
  have : ∀ d ∈ ds, ∃ k : Nat, k < n ∧ d = .int (k : Nat) := fun d hd => by
    obtain ⟨i, hi, e⟩ := List.getElem_of_mem hd
    exact h2 i ys[i] d (List.getElem?_eq_getElem (by omega)) (by rw [List.getElem?_eq_getElem hi, e])
  have key : ∀ ds : List D, (∀ d ∈ ds, ∃ k : Nat, k < n ∧ d = .int (k : Nat)) → ∃ ks : List Nat, (∀ k ∈ ks, k < n) ∧ ds = ks.map fun k => .int (k : Nat) := by
    intro ds
    induction ds with
    | nil => intro _; exact ⟨[], (fun k hk => by cases hk), rfl⟩
    | cons d ds ih =>
      intro h
      obtain ⟨k, h1, rfl⟩ := h d List.mem_cons_self
      obtain ⟨ks, h2, rfl⟩ := ih fun d hd => h d (List.mem_cons_of_mem _ hd)
      refine ⟨k :: ks, fun j hj => ?_, rfl⟩
      rcases List.mem_cons.mp hj with rfl | hj
      · exact h1
      · exact h2 j hj
  obtain ⟨ks, h3, rfl⟩ := key ds this
  exact ⟨ks, by rw [← h1, List.length_map], h3, rfl⟩
end Rb
set_option Elab.async false
set_option linter.all false
set_option maxRecDepth 100000
set_option maxHeartbeats 1000000
namespace Rb
open PySem PySem.Spec PyProof.Rows L2
variable {P : Program} {w : World} {K : PySem.W.Frag} {mg : Str → Option Value} {base : Heap} {f : Addr} {fd : FuncData}
/-! ### a build from its row -/
def at_ (l : List Str) (k : Nat) : Str := l.getD k ""
theorem at_get {l : List Str} {k : Nat} (h : k < l.length) : (l.map PyData.str)[k]? = some (.str (at_ l k)) := by
  unfold at_
  rw [List.getElem?_map, List.getD_eq_getElem?_getD, List.getElem?_eq_getElem h] <;> rfl
theorem at_mem {l : List Str} {k : Nat} (h : k < l.length) : at_ l k ∈ l := by
  unfold at_
  rw [List.getD_eq_getElem?_getD, List.getElem?_eq_getElem h]
  exact List.getElem_mem h
def swapP (S : List Str) (ps : List Str) : List Str := if ps.length = 2 ∧ ltS (at_ S 3) (at_ S 2) = true then [at_ ps 1, at_ ps 0] else ps
def partsOf (S Fl : List Str) (r : Row) : List Str := swapP S (r.parts.map (at_ Fl))
def bldOf (S Q Fl : List Str) (r : Row) : Bld := ⟨at_ Q r.party, r.comp.map (at_ Fl), at_ S r.src, partsOf S Fl r, at_ Fl r.file⟩
def R_lbuild : Hp → List SV → SV → Prop := fun _ xs y => ∃ (r : Row) (S Q Fl : List Str), xs = [.d (eR r), .d (eN S Q Fl)] ∧ RowOk r ∧ S.length = 5 ∧ Q.length = 3 ∧ Fl.length = 8 ∧ y = .d (eB (bldOf S Q Fl r))
theorem fn_lbuild (T : Gf mg) (F : FD K "_law_build" s_l_build f fd) (hx : mg "_law_build" = some (.ref f)) : Fn P w K mg base "_law_build" 1 2 [] R_lbuild := by
  refine fn_pure F sc_l_build rfl rfl hx (F.bindsN fun _ _ _ _ _ _ us hl => match us, hl with | [_, _], _ => rfl) .nil fun cdv A outer s H E hr G xs y Q hR hl q => ?_
  obtain ⟨r, S, Qn, Fl, rfl, ok, hS, hQ, hF, rfl⟩ := hR
  refine ss_asg (us := [(2, eSs S), (3, eSs Qn), (4, eSs Fl)]) (ee_nm 1) (ga_tup rfl (gas_cons (ga_nm 2 sc_l_build.nd) (gas_cons (ga_nm 3 sc_l_build.nd) (gas_cons (ga_nm 4 sc_l_build.nd) gas_nil)))) fun G1 H1 g1 => ?_
  refine ss_lc 5 [("_law_k", 6)] r.parts (fun k => .int (k : Nat)) (fun k => [(6, .int (k : Nat))]) (fun _ => true) (fun k => .str (at_ Fl k)) sc_l_build.nd (ei_tup (ee_at 3 (ds := [.int (r.party : Nat), eI r.comp, .int (r.src : Nat), .tuple (r.parts.map fun k => .int (k : Nat)), .int (r.file : Nat)]) (ee_nm 0))) (by have := ok.parts.2; omega) (fun _ _ i hi => hi) (fun _ _ _ _ _ z _ => ga_nm 6 sc_l_build.nd) (fun _ _ _ _ _ z _ => ep_nil) (fun _ _ _ _ _ z hz _ => ?_) fun G2 H2 g2 => ?_
  · exact ee_ix (ee_nm 4) (ee_nm 6) fun _ _ g => xd_tup (at_get (by rw [hF]; exact ok.parts.1 z hz)) g
  rw [filter_yes, show r.parts.map (fun k => PyData.str (at_ Fl k)) = (r.parts.map (at_ Fl)).map .str from by rw [List.map_map] <;> rfl]
  have tail : ∀ (ps : List Str) (G2 H2 : Hp), Gr G H G2 H2 → partsOf S Fl r = ps → SS (bX P w K mg base N_l_build "_law_build" s_l_build f cdv A outer s H E) { nx := fun _ H' => Q .non H', rt := Q } [some (.d (eR r)), some (.d (eN S Qn Fl)), some (.d (eSs S)), some (.d (eSs Qn)), some (.d (eSs Fl)), some (.d (.list (ps.map .str))), none, none] G2 H2 ((defBody s_l_build).drop 3) := by
    intro ps G2 H2 g2 hps
    have row : ∀ {G' H' : Hp} {ρ : Env} {X : Cx} {e : Expr}, EE X ρ G' H' e (.d (eR r)) → EE X ρ G' H' e (.d (.tuple [.int (r.party : Nat), eI r.comp, .int (r.src : Nat), .tuple (r.parts.map fun k => .int (k : Nat)), .int (r.file : Nat)])) := fun h => h
    refine ss_set (x := .d (eO (r.comp.map (at_ Fl)))) 7 sc_l_build.nd ?_ fun G3 H3 g3 => ?_
    · cases hc : r.comp with
      | none =>
        refine ee_if (k := true) (ET.to (et_cmp (ee_at 1 (d := .int (-1)) (row (ee_nm 0)) rfl (by rw [hc] <;> rfl)) ee_int fun _ _ g => od_lt g) ?_) (fun _ => ?_) fun k => nomatch k
        · decide
        · exact ee_non
      | some c =>
        refine ee_if (k := false) (ET.to (et_cmp (ee_at 1 (d := .int (c : Nat)) (row (ee_nm 0)) rfl (by rw [hc] <;> rfl)) ee_int fun _ _ g => od_lt g) ?_) (fun k => nomatch k) fun _ => ?_
        · exact decide_eq_false (by omega)
        · exact ee_ix (ee_nm 4) (ee_at 1 (d := .int (c : Nat)) (row (ee_nm 0)) rfl (by rw [hc] <;> rfl)) fun _ _ g => xd_tup (at_get (by rw [hF]; exact ok.comp c hc)) g
    refine ss_ret (x := .d (eB (bldOf S Qn Fl r))) ?_ fun v G4 H4 g4 r4 => q v G4 H4 (g2.trans (g3.trans g4)) r4
    refine ee_tup (ds := [.str (at_ Qn r.party), eO (r.comp.map (at_ Fl)), .str (at_ S r.src), .tuple ((partsOf S Fl r).map .str), .str (at_ Fl r.file)]) ?_
    refine ea_cons (e := _) (es := _) (xs := _) ?_ ?_ st_sub
    · exact ee_ix (ee_nm 3) (ee_at 0 (row (ee_nm 0))) fun _ _ g => xd_tup (at_get (by rw [hQ]; exact ok.party)) g
    refine ea_cons (e := _) (es := _) (xs := _) (ee_nm 7) ?_ st_name
    refine ea_cons (e := _) (es := _) (xs := _) ?_ ?_ st_sub
    · exact ee_ix (ee_nm 2) (ee_at 2 (row (ee_nm 0))) fun _ _ g => xd_tup (at_get (by rw [hS]; exact ok.src)) g
    refine ea_cons (e := _) (es := _) (xs := _) ?_ ?_ st_call
    · rw [hps]
      exact ee_tupOf T.tuple (ee_nm 5)
    refine ea_cons (e := _) (es := []) (xs := []) ?_ ea_nil st_sub
    exact ee_ix (ee_nm 4) (ee_at 4 (row (ee_nm 0))) fun _ _ g => xd_tup (at_get (by rw [hF]; exact ok.file)) g
  have hlen : (r.parts.map (at_ Fl)).length = r.parts.length := List.length_map _
  refine ss_if1 (k := decide (r.parts.length = 2) && ltS (at_ S 3) (at_ S 2)) (ET.to (et_w (ew_and (et_cmp (ee_lenL T.len (ee_nm 5)) ee_int fun _ _ g => od_eqI g) fun _ => ew_and1 (et_cmp (ee_at 3 (d := .str (at_ S 3)) (ee_nm 2) rfl (at_get (by omega))) (ee_at 2 (d := .str (at_ S 2)) (ee_nm 2) rfl (at_get (by omega))) fun _ _ g => od_ltS g))) ?_) (fun hk G3 H3 g3 => ?_) fun hk G3 H3 g3 => ?_
  · rw [List.length_map, hlen]
    refine congrArg (· && _) ?_
    exact decide_eq_decide.mpr (by omega)
  · rw [Bool.and_eq_true, decide_eq_true_eq] at hk
    refine ss_set (x := .d (.list ([at_ (r.parts.map (at_ Fl)) 1, at_ (r.parts.map (at_ Fl)) 0].map .str))) 5 sc_l_build.nd (EF.ee (ef_lst ?_)) fun G4 H4 g4 => ?_
    · refine ea_cons (e := _) (es := _) (xs := _) (ee_atL 1 (ee_nm 5) (at_get (by omega))) ?_ st_sub
      exact ea_cons (e := _) (es := []) (xs := []) (ee_atL 0 (ee_nm 5) (at_get (by omega))) ea_nil st_sub
    refine ss_out fun G5 H5 g5 => tail _ G5 H5 (g1.trans (g2.trans (g3.trans (g4.trans g5)))) ?_
    unfold partsOf swapP
    rw [if_pos ⟨by rw [hlen]; exact hk.1, hk.2⟩]
  · refine tail _ G3 H3 (g1.trans (g2.trans g3)) ?_
    unfold partsOf swapP
    rw [if_neg]
    rintro ⟨h1, h2⟩
    rw [hlen] at h1
    rw [h1, h2] at hk
    cases hk
end Rb
set_option Elab.async false
set_option linter.all false
set_option maxRecDepth 100000
set_option maxHeartbeats 4000000
/-! The plain law: what the program's functions compute answers as the law says. -/
namespace Rb
open PySem PySem.Spec PyProof.Rows L2
open PySem.W in
theorem le_U {x y : Fact} (e : x.1 = y.1) (h : dataLe false eU x y = true) : dataLe false PyData.str x.2 y.2 = true := by
  have h1 : (!lexLt itemOrd (keyToks (eU y)) (keyToks (eU x))) = true := h
  show (!lexLt itemOrd (keyToks (.str y.2)) (keyToks (.str x.2))) = true
  rw [← h1]
  unfold eU
  simp only [keyToks, keyToksAll, e]
  refine congrArg _ ?_
  rw [show (Sum.inl 1 :: ([Sum.inr y.1.cps.toList] ++ Sum.inl 1 :: ([Sum.inr y.2.cps.toList] ++ [Sum.inl 0])) : List (Int ⊕ List Nat)) = [Sum.inl 1, Sum.inr y.1.cps.toList, Sum.inl 1] ++ ([Sum.inr y.2.cps.toList] ++ [Sum.inl 0]) from rfl,
    show (Sum.inl 1 :: ([Sum.inr y.1.cps.toList] ++ Sum.inl 1 :: ([Sum.inr x.2.cps.toList] ++ [Sum.inl 0])) : List (Int ⊕ List Nat)) = [Sum.inl 1, Sum.inr y.1.cps.toList, Sum.inl 1] ++ ([Sum.inr x.2.cps.toList] ++ [Sum.inl 0]) from rfl, lex_pre]
  by_cases c : (Sum.inr y.2.cps.toList : Int ⊕ List Nat) = Sum.inr x.2.cps.toList
  · rw [c]
    rw [lex_irrefl, lex_irrefl]
  · exact (lex_atom c _ _).symm
theorem sort_id {β : Type} {k : β → D} {l : List β} (inj : ∀ x y, PySem.W.keyToks (k x) = PySem.W.keyToks (k y) → x = y) (h : l.Pairwise fun a b => PySem.W.dataLe false k a b = true) : sortBy k l = l :=
  List.Perm.eq_of_pairwise (le := fun a b => PySem.W.dataLe false k a b = true) (fun a b _ _ h1 h2 => inj a b (dataLe_anti h1 h2)) (sort_pw k l) h (sort_perm k l)
section
variable {b : Book} {tr : List Str} {sup fs : List Fact} {F S : List Str}
theorem lawFacts_eq (h : Fine b tr sup F S) (c : CloseOk b sup F S) : lawFacts b tr sup = factsOf b tr sup := by
  have h1 := (closeL_ok (tr := tr) (sup := sup) c.ground c.uniq 47 sup ⟨c.inU, c.nd, fun g hg => Drv.sup hg⟩ (by omega)).1
  exact sort_set (fun _ _ => inj_U) h1.nd (der_inU h).2 fun f => (closeL_iff c.ground c.uniq c.inU c.nd f).trans (der_iff h f).symm
/-- what is known of the facts -/
structure Closed (b : Book) (fs : List Fact) : Prop where
  nd : fs.Nodup
  src : ∀ f ∈ fs, f.2 ∈ b.names
  mv : ∀ {x s y t : Str}, (x, s) ∈ fs → (y, s) ∈ fs → (y, t) ∈ fs → (x, t) ∈ fs
  pw : fs.Pairwise fun a b => PySem.W.dataLe false eU a b = true
theorem closed_of (h : Fine b tr sup F S) (c : CloseOk b sup F S) : Closed b (factsOf b tr sup) where
  nd := (sort_perm _ _).nodup_iff.mpr (der_inU h).2
  src := fun f hf => c.ground.names _ ((der_inU h).1 f (sort_mem.mp hf)).2
  mv := fun {x s y t} h1 h2 h3 => sort_mem.mpr ((der_iff h _).mpr (Drv.step (.inr ⟨s, y, (der_iff h _).mp (sort_mem.mp h1), (der_iff h _).mp (sort_mem.mp h2), (der_iff h _).mp (sort_mem.mp h3)⟩)))
  pw := sort_pw _ _
/-! ### classes -/
theorem mts_nodup {fs : List Fact} {z : Str} : ∀ (l acc : List Str), acc.Nodup → (l.foldl (mt2 fs z) acc).Nodup
  | [], _, h => h
  | o :: l, acc, h => by
    rw [List.foldl_cons]
    refine mts_nodup l _ ?_
    unfold mt2
    split
    · rename_i c
      refine List.nodup_append.mpr ⟨h, List.nodup_cons.mpr ⟨List.not_mem_nil, List.nodup_nil⟩, fun x hx y hy e => ?_⟩
      rw [List.mem_singleton] at hy
      exact c.2 (by rw [← hy, ← e]; exact hx)
    · exact h
theorem mates_mem {z y : Str} : y ∈ matesOf b fs z ↔ y = z ∨ (y ∈ b.names ∧ ∃ x, (x, z) ∈ fs ∧ (x, y) ∈ fs) := by
  unfold matesOf
  rw [mts_mem, List.mem_singleton, shared_ne]
theorem file_mem {file y : Str} : y ∈ (fs.filter fun f => decide (f.1 = file)).map (·.2) ↔ (file, y) ∈ fs := by
  constructor
  · intro h
    obtain ⟨f, h1, rfl⟩ := List.mem_map.mp h
    obtain ⟨h2, h3⟩ := List.mem_filter.mp h1
    rw [← of_decide_eq_true h3]
    exact h2
  · intro h
    exact List.mem_map.mpr ⟨(file, y), List.mem_filter.mpr ⟨h, by simp⟩, rfl⟩
theorem last_none {z : Str} (h : lastFile fs z = none) (x : Str) : (x, z) ∉ fs := by
  unfold lastFile at h
  rw [Option.map_eq_none_iff] at h
  intro hm
  have := List.find?_eq_none.mp h (x, z) (List.mem_reverse.mpr hm)
  simp at this
/-- the class of z holds z and what shares a file with it -/
theorem class_mem (C : Closed b fs) {z y : Str} : y ∈ classOf fs z ↔ y = z ∨ ∃ x, (x, z) ∈ fs ∧ (x, y) ∈ fs := by
  unfold classOf
  cases e : lastFile fs z with
  | none =>
    simp only [List.mem_singleton]
    constructor
    · exact .inl
    · rintro (h | ⟨x, h1, _⟩)
      · exact h
      · exact absurd h1 (last_none e x)
  | some file =>
    have hz := last_mem e
    simp only
    rw [file_mem]
    constructor
    · intro h
      exact .inr ⟨file, hz, h⟩
    · rintro (rfl | ⟨x, h1, h2⟩)
      · exact hz
      · exact C.mv hz h1 h2
theorem class_nodup (C : Closed b fs) (z : Str) : (classOf fs z).Nodup := by
  unfold classOf
  cases e : lastFile fs z with
  | none => exact List.nodup_cons.mpr ⟨List.not_mem_nil, List.nodup_nil⟩
  | some file =>
    have h1 : (fs.filter fun f => decide (f.1 = file)).Nodup := C.nd.filter _
    have h2 : ∀ f ∈ fs.filter (fun f => decide (f.1 = file)), f.1 = file := fun f hf => of_decide_eq_true (List.mem_filter.mp hf).2
    show ((fs.filter fun f => decide (f.1 = file)).map (·.2)).Nodup
    generalize fs.filter (fun f => decide (f.1 = file)) = l at h1 h2
    unfold List.Nodup
    rw [List.pairwise_map]
    refine List.Pairwise.imp_of_mem (fun {x y} hx hy hne e => hne (Prod.ext ?_ e)) h1
    rw [h2 x hx, h2 y hy]
theorem class_pw (C : Closed b fs) (z : Str) : (classOf fs z).Pairwise fun a b => PySem.W.dataLe false PyData.str a b = true := by
  unfold classOf
  cases e : lastFile fs z with
  | none => exact List.pairwise_singleton _ _
  | some file =>
    have h1 := C.pw.filter fun f => decide (f.1 = file)
    have h2 : ∀ f ∈ fs.filter (fun f => decide (f.1 = file)), f.1 = file := fun f hf => of_decide_eq_true (List.mem_filter.mp hf).2
    show (List.map _ _).Pairwise _
    rw [List.pairwise_map]
    exact List.Pairwise.imp_of_mem (fun {x y} hx hy hle => le_U (by rw [h2 x hx, h2 y hy]) hle) h1
theorem class_eq (C : Closed b fs) {z : Str} (hz : z ∈ b.names) : sortBy PyData.str (matesOf b fs z) = classOf fs z := by
  rw [← sort_id (fun _ _ => inj_str) (class_pw C z)]
  refine sort_set (fun _ _ => inj_str) (mts_nodup _ _ (List.nodup_cons.mpr ⟨List.not_mem_nil, List.nodup_nil⟩)) (class_nodup C z) fun y => ?_
  rw [mates_mem, class_mem C]
  constructor
  · rintro (h | ⟨_, h⟩)
    · exact .inl h
    · exact .inr h
  · rintro (h | ⟨x, h1, h2⟩)
    · exact .inl h
    · exact .inr ⟨C.src _ h2, x, h1, h2⟩
theorem cls_fold (C : Closed b fs) : ∀ (l : List Src) (acc : List (List Str)), (∀ s ∈ l, s.name ∈ b.names) → acc.Nodup → (l.foldl (cs2 b fs) acc).Nodup ∧ ∀ y, y ∈ l.foldl (cs2 b fs) acc ↔ y ∈ acc ∨ ∃ s ∈ l, classOf fs s.name = y
  | [], acc, _, h => ⟨h, fun y => by simp⟩
  | s :: l, acc, hm, h => by
    rw [List.foldl_cons]
    have e : cs2 b fs acc s = if classOf fs s.name ∈ acc then acc else acc ++ [classOf fs s.name] := by
      unfold cs2
      rw [class_eq C (hm s List.mem_cons_self)]
    obtain ⟨i1, i2⟩ := cls_fold C l (cs2 b fs acc s) (fun t ht => hm t (List.mem_cons_of_mem _ ht)) (by
      rw [e]
      by_cases c : classOf fs s.name ∈ acc
      · rw [if_pos c]; exact h
      · rw [if_neg c]
        refine List.nodup_append.mpr ⟨h, List.nodup_cons.mpr ⟨List.not_mem_nil, List.nodup_nil⟩, fun x hx y hy e => ?_⟩
        rw [List.mem_singleton] at hy
        exact c (by rw [← hy, ← e]; exact hx))
    refine ⟨i1, fun y => ?_⟩
    rw [i2, e]
    by_cases c : classOf fs s.name ∈ acc
    · rw [if_pos c]
      constructor
      · rintro (h | ⟨t, ht, h⟩)
        · exact .inl h
        · exact .inr ⟨t, List.mem_cons_of_mem _ ht, h⟩
      · rintro (h | ⟨t, ht, h⟩)
        · exact .inl h
        · rcases List.mem_cons.mp ht with rfl | ht
          · exact .inl (by rw [← h]; exact c)
          · exact .inr ⟨t, ht, h⟩
    · rw [if_neg c, List.mem_append, List.mem_singleton]
      constructor
      · rintro ((h | h) | ⟨t, ht, h⟩)
        · exact .inl h
        · exact .inr ⟨s, List.mem_cons_self, h.symm⟩
        · exact .inr ⟨t, List.mem_cons_of_mem _ ht, h⟩
      · rintro (h | ⟨t, ht, h⟩)
        · exact .inl (.inl h)
        · rcases List.mem_cons.mp ht with rfl | ht
          · exact .inl (.inr h.symm)
          · exact .inr ⟨t, ht, h⟩
theorem cls_eq (C : Closed b fs) : sortBy eSs (uniq (b.names.map (classOf fs))) = sortBy eSs (clsL b fs) := by
  obtain ⟨h1, h2⟩ := cls_fold C b.srcs [] (fun s hs => List.mem_map.mpr ⟨s, hs, rfl⟩) List.nodup_nil
  refine sort_set (fun _ _ => inj_Ss) (uniq_nodup _) h1 fun y => ?_
  show _ ↔ y ∈ b.srcs.foldl (cs2 b fs) []
  rw [h2, uniq_mem, List.mem_map]
  constructor
  · rintro ⟨z, hz, h⟩
    obtain ⟨s, hs, rfl⟩ := List.mem_map.mp hz
    exact .inr ⟨s, hs, h⟩
  · rintro (h | ⟨s, hs, h⟩)
    · cases h
    · exact ⟨s.name, List.mem_map.mpr ⟨s, hs, rfl⟩, h⟩
/-- two classes that share a source are one -/
theorem class_one (C : Closed b fs) {z t y : Str} (h1 : y ∈ classOf fs z) (h2 : y ∈ classOf fs t) : classOf fs z = classOf fs t := by
  have sub : ∀ {z t : Str}, y ∈ classOf fs z → y ∈ classOf fs t → ∀ u, u ∈ classOf fs z → u ∈ classOf fs t := by
    intro z t h1 h2 u hu
    rw [class_mem C] at h1 h2 hu ⊢
    rcases h1 with rfl | ⟨x, a1, a2⟩
    · rcases h2 with rfl | ⟨x', b1, b2⟩
      · exact hu
      · rcases hu with rfl | ⟨x2, c1, c2⟩
        · exact .inr ⟨x', b1, b2⟩
        · exact .inr ⟨x', b1, C.mv b2 c1 c2⟩
    · have hzu : (x, u) ∈ fs := by
        rcases hu with rfl | ⟨x2, c1, c2⟩
        · exact a1
        · exact C.mv a1 c1 c2
      rcases h2 with rfl | ⟨x', b1, b2⟩
      · exact .inr ⟨x, a2, hzu⟩
      · exact .inr ⟨x', b1, C.mv b2 a2 hzu⟩
  rw [← sort_id (fun _ _ => inj_str) (class_pw C z), ← sort_id (fun _ _ => inj_str) (class_pw C t)]
  exact sort_set (fun _ _ => inj_str) (class_nodup C z) (class_nodup C t) fun u => ⟨sub h1 h2 u, sub h2 h1 u⟩
theorem flat_eq : ∀ (ks : List (List Str)) (acc : List Str), ks.foldl (fun acc k => acc ++ k) acc = acc ++ ks.flatten
  | [], acc => by simp
  | k :: ks, acc => by
    rw [List.foldl_cons, flat_eq ks, List.flatten_cons, List.append_assoc]
theorem flat_nodup : ∀ {ks : List (List Str)}, ks.Nodup → (∀ k ∈ ks, k.Nodup) → (∀ k ∈ ks, ∀ l ∈ ks, ∀ y, y ∈ k → y ∈ l → k = l) → ks.flatten.Nodup
  | [], _, _, _ => List.nodup_nil
  | k :: ks, h1, h2, h3 => by
    obtain ⟨n1, n2⟩ := List.nodup_cons.mp h1
    rw [List.flatten_cons]
    refine List.nodup_append.mpr ⟨h2 k List.mem_cons_self, flat_nodup n2 (fun l hl => h2 l (List.mem_cons_of_mem _ hl)) fun l hl m hm => h3 l (List.mem_cons_of_mem _ hl) m (List.mem_cons_of_mem _ hm), fun x hx y hy e => ?_⟩
    subst e
    obtain ⟨l, hl, hyl⟩ := List.mem_flatten.mp hy
    exact n1 (by rw [h3 k List.mem_cons_self l (List.mem_cons_of_mem _ hl) x hx hyl]; exact hl)
theorem told_eq (C : Closed b fs) (hn : b.names.Nodup) (hs : sortBy PyData.str b.names = b.names) : sortBy PyData.str ((classesOf b fs).foldl (fun acc k => acc ++ k) []) = b.names := by
  rw [flat_eq, List.nil_append, ← hs]
  have hm : ∀ k, k ∈ classesOf b fs ↔ ∃ z ∈ b.names, classOf fs z = k := fun k => by
    unfold classesOf
    rw [sort_mem, uniq_mem, List.mem_map]
  refine sort_set (fun _ _ => inj_str) (flat_nodup ((sort_perm _ _).nodup_iff.mpr (uniq_nodup _)) (fun k hk => ?_) fun k hk l hl y h1 h2 => ?_) hn fun y => ?_
  · obtain ⟨z, _, rfl⟩ := (hm k).mp hk
    exact class_nodup C z
  · obtain ⟨z, _, rfl⟩ := (hm k).mp hk
    obtain ⟨t, _, rfl⟩ := (hm l).mp hl
    exact class_one C h1 h2
  · rw [List.mem_flatten]
    constructor
    · rintro ⟨k, hk, hy⟩
      obtain ⟨z, hz, rfl⟩ := (hm k).mp hk
      rcases (class_mem C).mp hy with rfl | ⟨x, _, h2⟩
      · exact hz
      · exact C.src _ h2
    · intro hy
      exact ⟨_, (hm _).mpr ⟨y, hy, rfl⟩, (class_mem C).mpr (.inl rfl)⟩
/-! ### clashes -/
theorem part_iff (hu : ∀ s ∈ b.srcs, b.srcOf s.name = s) (hs : ∀ f ∈ fs, f.2 ∈ b.names) {u v : Bld} : partL b tr fs u v = true ↔ (u.party ∈ tr ∧ v.party ∈ tr) ∧ (partOf b fs u v).isSome = true := by
  unfold partL partOf
  cases u.comp with
  | none => simp
  | some c =>
    cases v.comp with
    | none => simp
    | some d =>
      simp only [Bool.and_eq_true, decide_eq_true_eq, Bool.not_eq_true', decide_eq_false_iff_not]
      have key : (((rightsOf fs c).filter fun z => decide ((d, z) ∈ fs)).filter (fun z => (b.srcOf z).steady) ≠ []) ↔ ((b.srcs.find? fun s => s.steady && (decide ((c, s.name) ∈ fs) && decide ((d, s.name) ∈ fs))).map (·.name)).isSome = true := by
        rw [Option.isSome_map, List.find?_isSome]
        constructor
        · intro h
          obtain ⟨z, hz⟩ := List.exists_mem_of_ne_nil _ h
          obtain ⟨h1, h2⟩ := List.mem_filter.mp hz
          obtain ⟨h3, h4⟩ := List.mem_filter.mp h1
          have h5 := rights_mem.mp h3
          obtain ⟨m1, m2, _⟩ := srcOf_mem (hs _ h5)
          refine ⟨b.srcOf z, m1, ?_⟩
          rw [m2]
          simp only [Bool.and_eq_true, decide_eq_true_eq]
          exact ⟨h2, h5, of_decide_eq_true h4⟩
        · rintro ⟨s, m1, h⟩ e
          simp only [Bool.and_eq_true, decide_eq_true_eq] at h
          have : s.name ∈ (((rightsOf fs c).filter fun z => decide ((d, z) ∈ fs)).filter fun z => (b.srcOf z).steady) := List.mem_filter.mpr ⟨List.mem_filter.mpr ⟨rights_mem.mpr h.2.1, decide_eq_true h.2.2⟩, by rw [hu s m1]; exact h.1⟩
          rw [e] at this
          cases this
      by_cases hp : (u.src = v.src ∧ u.parts = v.parts) ∧ u.file ≠ v.file
      · rw [if_pos hp, ← key]
        constructor
        · rintro ⟨h1, _, h2⟩
          exact ⟨h1, h2⟩
        · rintro ⟨h1, h2⟩
          exact ⟨h1, hp, h2⟩
      · rw [if_neg hp]
        constructor
        · rintro ⟨_, h1, _⟩
          exact absurd h1 hp
        · rintro ⟨_, h⟩
          cases h
theorem fold_nil {α β : Type} {g : List β → α → List β} {P : α → Prop} (h : ∀ acc x, g acc x = [] ↔ acc = [] ∧ ¬ P x) : ∀ (l : List α) (acc : List β), l.foldl g acc = [] ↔ acc = [] ∧ ∀ x ∈ l, ¬ P x
  | [], acc => by simp
  | x :: l, acc => by
    rw [List.foldl_cons, fold_nil h l, h]
    constructor
    · rintro ⟨⟨h1, h2⟩, h3⟩
      refine ⟨h1, fun y hy => ?_⟩
      rcases List.mem_cons.mp hy with rfl | hy
      · exact h2
      · exact h3 y hy
    · rintro ⟨h1, h2⟩
      exact ⟨⟨h1, h2 x List.mem_cons_self⟩, fun y hy => h2 y (List.mem_cons_of_mem _ hy)⟩
theorem add_nil {β : Type} {c : Prop} [Decidable c] {acc : List β} {x : β} : (if c then acc ++ [x] else acc) = [] ↔ acc = [] ∧ ¬ c := by
  by_cases h : c
  · rw [if_pos h]; simp [h]
  · rw [if_neg h]; simp [h]
theorem clashL_nil : clashL b tr fs = [] ↔ (∀ u ∈ b.unl, ¬ ∃ f ∈ fs, f.2 = u.1 ∧ (f.1, u.2) ∈ fs) ∧ ∀ m ∈ List.range b.blds.length, ¬ ∃ k ∈ List.range m, partL b tr fs (bldAt b k) (bldAt b m) = true := by
  unfold clashL
  rw [fold_nil (P := fun m => ∃ k ∈ List.range m, partL b tr fs (bldAt b k) (bldAt b m) = true) fun acc m => ?_, fold_nil (P := fun u : Str × Str => ∃ f ∈ fs, f.2 = u.1 ∧ (f.1, u.2) ∈ fs) fun acc u => ?_]
  · simp
  · unfold un1
    rw [fold_nil (P := fun f : Fact => f.2 = u.1 ∧ (f.1, u.2) ∈ fs) fun acc f => by unfold un2; exact add_nil]
    simp
  · unfold pa1
    rw [fold_nil (P := fun k => partL b tr fs (bldAt b k) (bldAt b m) = true) fun acc f => by unfold pa2; exact add_nil]
    simp
theorem mine_mem {k : Nat} (hk : k < b.blds.length) : k ∈ mineOf b tr ↔ (bldAt b k).party ∈ tr := by
  constructor
  · intro h
    obtain ⟨u, h1, h2⟩ := mine_lt h
    rw [bld_at hk] at h1
    cases h1
    exact h2
  · intro h
    exact List.mem_map.mpr ⟨(bldAt b k, k), List.mem_filter.mpr ⟨List.mem_zipIdx_iff_getElem?.mpr (bld_at hk), decide_eq_true h⟩, rfl⟩
theorem calm_eq (h : Fine b tr sup F S) (c : CloseOk b sup F S) : calmB b tr sup = decide (clashL b tr (factsOf b tr sup) = []) := by
  have C := closed_of h c
  unfold calmB
  generalize factsOf b tr sup = fs at C
  rw [Bool.eq_iff_iff, List.isEmpty_iff, decide_eq_true_eq, clashL_nil]
  unfold clashList
  rw [List.append_eq_nil_iff, List.map_eq_nil_iff, List.flatMap_eq_nil_iff, And.comm]
  refine and_congr ?_ ?_
  · constructor
    · rintro h1 u hu ⟨f, hf, h2, h3⟩
      have := h1 f.1 (by unfold filesOf; rw [sort_mem, uniq_mem]; exact List.mem_map.mpr ⟨f, hf, rfl⟩)
      rw [List.map_eq_nil_iff, List.filter_eq_nil_iff] at this
      refine this u hu ?_
      unfold unlikeIn
      rw [← h2]
      simp only [Bool.and_eq_true, decide_eq_true_eq]
      exact ⟨hf, h3⟩
    · intro h1 file hfile
      rw [List.map_eq_nil_iff, List.filter_eq_nil_iff]
      intro u hu h2
      unfold unlikeIn at h2
      simp only [Bool.and_eq_true, decide_eq_true_eq] at h2
      exact h1 u hu ⟨_, h2.1, rfl, h2.2⟩
  · unfold partedOf
    rw [List.flatMap_eq_nil_iff]
    constructor
    · rintro h1 m hm ⟨k, hk, h2⟩
      rw [List.mem_range] at hm hk
      have hk' : k < b.blds.length := by omega
      obtain ⟨⟨p1, p2⟩, p3⟩ := (part_iff c.uniq C.src).mp h2
      have := h1 k ((mine_mem hk').mpr p1)
      rw [List.map_eq_nil_iff, List.filter_eq_nil_iff] at this
      refine this m ((mine_mem hm).mpr p2) ?_
      unfold pairIn partAt
      rw [bld_at hk', bld_at hm, decide_eq_true hk]
      exact p3
    · intro h1 k hk
      rw [List.map_eq_nil_iff, List.filter_eq_nil_iff]
      intro m hm h2
      have lt : ∀ {k}, k ∈ mineOf b tr → k < b.blds.length := fun hk => by
        obtain ⟨u, e, _⟩ := mine_lt hk
        exact (List.getElem?_eq_some_iff.mp e).1
      have hk' := lt hk
      have hm' := lt hm
      unfold pairIn partAt at h2
      rw [bld_at hk', bld_at hm', Bool.and_eq_true, decide_eq_true_eq] at h2
      exact h1 m (List.mem_range.mpr hm') ⟨k, List.mem_range.mpr h2.1, (part_iff c.uniq C.src).mpr ⟨⟨(mine_mem hk').mp hk, (mine_mem hm').mp hm⟩, h2.2⟩⟩
theorem plain_of (h : Fine b tr sup F S) (c : CloseOk b sup F S) (hn : b.names.Nodup) (hs : sortBy PyData.str b.names = b.names) : Plain b tr sup where
  calm := by rw [lawFacts_eq h c]; exact calm_eq h c
  cls := by rw [lawFacts_eq h c, ← cls_eq (closed_of h c)]; rfl
  told := told_eq (closed_of h c) hn hs
end
end Rb
set_option Elab.async false
set_option linter.all false
set_option maxRecDepth 100000
set_option maxHeartbeats 1000000
namespace Rb
open PySem PySem.Spec PyProof.Rows L2
/-! ### sorted data by their first text -/
open PySem.W in
theorem le_head {a c : Str} {r r' : List (Int ⊕ List Nat)} (h : (!lexLt itemOrd (Sum.inl 1 :: Sum.inr c.cps.toList :: r') (Sum.inl 1 :: Sum.inr a.cps.toList :: r)) = true) : dataLe false PyData.str a c = true := by
  show (!lexLt itemOrd (keyToks (.str c)) (keyToks (.str a))) = true
  simp only [keyToks]
  by_cases e : (Sum.inr c.cps.toList : Int ⊕ List Nat) = Sum.inr a.cps.toList
  · rw [e, lex_irrefl]; rfl
  · rw [← h, lex_self (O := itemOrd) (Sum.inl 1), lex_atom e r' r]
theorem le_S {x y : Src} (h : PySem.W.dataLe false eS x y = true) : PySem.W.dataLe false PyData.str x.name y.name = true := by
  have h1 : (!PyProof.Rows.lexLt PyProof.Rows.itemOrd (PySem.W.keyToks (eS y)) (PySem.W.keyToks (eS x))) = true := h
  unfold eS at h1
  simp only [PySem.W.keyToks, PySem.W.keyToksAll, List.singleton_append] at h1
  exact le_head h1
theorem le_P {x y : Str × Int} (h : PySem.W.dataLe false eP x y = true) : PySem.W.dataLe false PyData.str x.1 y.1 = true := by
  have h1 : (!PyProof.Rows.lexLt PyProof.Rows.itemOrd (PySem.W.keyToks (eP y)) (PySem.W.keyToks (eP x))) = true := h
  unfold eP at h1
  simp only [PySem.W.keyToks, PySem.W.keyToksAll, List.singleton_append] at h1
  exact le_head h1
theorem sort_names {β : Type} {k : β → D} {nm : β → Str} (hle : ∀ {x y}, PySem.W.dataLe false k x y = true → PySem.W.dataLe false PyData.str (nm x) (nm y) = true) (l : List β) : (sortBy k l).map nm = sortBy PyData.str (l.map nm) := by
  have h1 : ((sortBy k l).map nm).Pairwise fun a b => PySem.W.dataLe false PyData.str a b = true := by
    rw [List.pairwise_map]
    exact (sort_pw k l).imp fun h => hle h
  rw [← sort_id (fun _ _ => inj_str) h1]
  exact sort_same (fun _ _ => inj_str) ((sort_perm k l).map nm)
theorem eS_alike (a b : Src) : PySem.W.alike (eS a) (eS b) = true := by simp [eS, PySem.W.alike, PySem.W.alikeAll, alike_strs]
theorem eP_alike (a b : Str × Int) : PySem.W.alike (eP a) (eP b) = true := by simp [eP, PySem.W.alike, PySem.W.alikeAll]
theorem eS_depth (s : Src) : (eS s).depth ≤ 50 := by simp [eS, PyData.depth, PyData.depthAll, depth_strs]
theorem eP_depth (s : Str × Int) : (eP s).depth ≤ 50 := by simp [eP, PyData.depth, PyData.depthAll]
theorem getD_get {β : Type} {l : List β} {k : Nat} (d : β) (g : β → D) (h : k < l.length) : (l.map g)[k]? = some (g (l.getD k d)) := by
  rw [List.getElem?_map, List.getD_eq_getElem?_getD, List.getElem?_eq_getElem h] <;> rfl
/-- a list whose items are each of something -/
theorem lift_list {α β : Type} {g : α → β} {R : α → Prop} : ∀ l : List β, (∀ y ∈ l, ∃ x, y = g x ∧ R x) → ∃ xs : List α, l = xs.map g ∧ ∀ x ∈ xs, R x
  | [], _ => ⟨[], rfl, (fun x hx => by cases hx)⟩
  | y :: l, h => by
    obtain ⟨x, h1, h2⟩ := h y List.mem_cons_self
    obtain ⟨xs, h3, h4⟩ := lift_list l fun z hz => h z (List.mem_cons_of_mem _ hz)
    refine ⟨x :: xs, by rw [h1, h3] <;> rfl, fun z hz => ?_⟩
    rcases List.mem_cons.mp hz with rfl | hz
    · exact h2
    · exact h4 z hz
/-- forms of the sources S -/
structure FormsOk (S : List Str) (srcs : List Src) : Prop where
  names : srcs.map (·.name) = sortBy PyData.str S
  uses : ∀ s ∈ srcs, ∀ z ∈ s.uses, z ∈ S
def isForms (S : List Str) : D → Prop := fun d => ∃ srcs : List Src, d = .tuple (srcs.map eS) ∧ FormsOk S srcs
def R_lforms : List SV → (D → Prop) → Prop := fun xs Pd => ∃ S : List Str, xs = [.d (eSs S)] ∧ S.length = 5 ∧ Pd = isForms S
def isB : D → Prop := fun d => ∃ b : Bool, d = .bool b
theorem fe_gt0 {X : Cx} {F : Feed} {ρ : Env} {G H : Hp} {e : Expr} {k n j : Nat} {pos p2 : Pos} (h : FE X F ρ G H k e (upto n)) (hm : behindInMarks .Gt (.Constant (.int 0) j p2) = false := by first | exact nomark _ | with_unfolding_all rfl) : FE X F ρ G H (k + 0) (.Compare e [.Gt] [.Constant (.int 0) j p2] pos) isB :=
  fe_cmp h (fe_of (P := (· = .int 0)) ee_int rfl) (fun x y hx hy => by
    obtain ⟨i, _, rfl⟩ := hx
    subst hy
    exact ⟨_, ⟨_, rfl⟩, fun G1 H1 s => od_gt (.refl s)⟩) hm
/-- drawing from a display of data -/
theorem fe_anyC {X : Cx} {F : Feed} {ρ : Env} {G H : Hp} {nm : Str} {p0 p' p2 pos : Pos} {es : List Expr} (C : FnD X.prog X.w X.K X.mg X.base "_law_any" 2 2 1 R_any) (hr : Room 2 X.A) (h0 : EE X ρ G H (.Name nm p0) (.v (.ref F.a))) {ds : List D} (h : cDs es = some ds) (h1 : 0 < ds.length) (h2 : ds.length ≤ 1000) (hg : Gl X "_law_any" := by rfl) : FE X F ρ G H 1 (.Call (.Name "_law_any" p') [.Name nm p0, .List es p2] [] pos) (· ∈ ds) :=
  fe_call1 C hr h0 (EF.ee (ef_con h (by omega))) st_list ⟨ds, .inr rfl, h1, h2, rfl⟩ hg
end Rb
set_option Elab.async false
set_option linter.all false
set_option maxRecDepth 100000
set_option maxHeartbeats 1000000
namespace Rb
open PySem PySem.Spec PyProof.Rows L2
/-! ### a list is let be, in the feed's mode -/
section
variable {X : Cx} {D : Ends} {F : Feed} {ρ : Env} {G H : Hp} {m : Nat} {l : Addr} {ds : List Rb.D}
theorem fs_frz (i : Nat) (hf : Fd X.K F m G H) (hO : Own X.K G (er F.a H) l ds) {sts : List Stmt}
    (q : ∀ G1, (∀ {G0 H0 : Hp}, Gr G0 (er F.a H0) G (er F.a H) → er F.a H0 l = none → Gr G0 (er F.a H0) G1 (er F.a H)) → Fd X.K F m G1 H → SS X D (ρ.set i (some (.d (.list ds)))) G1 H sts)
    (hi : ρ[i]? = some (some (.v (.ref l))) := by first | (simp only [setsR, wipeO_nil, wipeO_cons, List.foldl_cons, List.foldl_nil, slots_cons, slots_succ, slots_zero, List.set_cons_zero, List.set_cons_succ, List.getElem?_cons_zero, List.getElem?_cons_succ] <;> rfl) | rfl) : SS X D ρ G H sts := by
  have hne := hO.ne_feed
  obtain ⟨vs, h1, h2, h3⟩ := hO
  have h4 : H l = some (.lst vs) := er_same _ _ h1
  obtain ⟨t, f, u, d1, d2⟩ := hf.dict
  refine ss_frz i hi h4 h2 h3 (q (upd G l (.lst vs)) (fun g h0 => g.frz h0 h2 h1) ⟨fun b x e => ?_, ?_, same_new h2 _ _ hf.cells, hf.few, t, f, u, d1, d2⟩)
  · by_cases hb : b = l
    · subst hb; rw [upd_same] at e; rw [← e]; exact h4
    · rw [upd_ne hb] at e; exact hf.same _ _ e
  · rw [upd_ne (Ne.symm hne)]; exact hf.off
end
/-! ### pairs of texts, sorted -/
def pr (f : Fact) : List Str := [f.1, f.2]
theorem eSs_pr (f : Fact) : eSs (pr f) = eU f := rfl
theorem pr_inj {f g : Fact} (h : pr f = pr g) : f = g := by
  unfold pr at h
  injection h with h1 h2
  injection h2 with h2 _
  exact Prod.ext h1 h2
/-- a sorted set of pairs -/
theorem set_pairs (fs : List Fact) : ∃ gs : List Fact, (sortBy eSs (uniq (fs.map pr))).map eSs = gs.map eU ∧ gs.Nodup ∧ (∀ g, g ∈ gs ↔ g ∈ fs) ∧ gs.Pairwise (fun a b => PySem.W.dataLe false eU a b = true) ∧ gs.length ≤ fs.length := by
  obtain ⟨gs, h1, h2⟩ := lift_list (g := pr) (R := fun f => f ∈ fs) (sortBy eSs (uniq (fs.map pr))) fun y hy => by
    rw [sort_mem, uniq_mem, List.mem_map] at hy
    obtain ⟨f, hf, rfl⟩ := hy
    exact ⟨f, rfl, hf⟩
  have nd : (sortBy eSs (uniq (fs.map pr))).Nodup := (sort_perm _ _).nodup_iff.mpr (uniq_nodup _)
  have pw := sort_pw eSs (uniq (fs.map pr))
  have ln : (sortBy eSs (uniq (fs.map pr))).length ≤ fs.length := by
    rw [(sort_perm _ _).length_eq]
    have := uniq_len (fs.map pr)
    rwa [List.length_map] at this
  have mm : ∀ f ∈ fs, pr f ∈ sortBy eSs (uniq (fs.map pr)) := fun f hf => by
    rw [sort_mem, uniq_mem]
    exact List.mem_map.mpr ⟨f, hf, rfl⟩
  rw [h1] at nd pw ln mm ⊢
  refine ⟨gs, by rw [List.map_map] <;> rfl, ?_, fun g => ⟨h2 g, fun hg => ?_⟩, ?_, by rwa [List.length_map] at ln⟩
  · unfold List.Nodup at nd ⊢
    rw [List.pairwise_map] at nd
    exact nd.imp fun h e => h (by rw [e])
  · obtain ⟨g', hg', e⟩ := List.mem_map.mp (mm g hg)
    rw [← pr_inj e]
    exact hg'
  · rw [List.pairwise_map] at pw
    exact pw.imp fun h => h
/-- texts less than the next -/
theorem rising_of {α : Type} {lt : α → α → Bool} : ∀ {l : List α}, l.Pairwise (fun a b => lt a b = true) → rising lt l = true
  | [], _ => rfl
  | [a], _ => rfl
  | a :: b :: l, h => by
    obtain ⟨h1, h2⟩ := List.pairwise_cons.mp h
    have ih := rising_of h2
    unfold rising at ih ⊢
    simp only [List.drop_succ_cons, List.drop_zero, List.zip_cons_cons, List.all_cons, Bool.and_eq_true] at ih ⊢
    exact ⟨h1 b List.mem_cons_self, ih⟩
theorem ltF_of {a b : Fact} (h : PySem.W.dataLe false eU a b = true) (hne : a ≠ b) : ltF a b = true := by
  rw [← ltF_data]
  have h1 : (!PyProof.Rows.lexLt PyProof.Rows.itemOrd (PySem.W.keyToks (eU b)) (PySem.W.keyToks (eU a))) = true := h
  cases e : PySem.W.dataLt (eU a) (eU b) with
  | true => rfl
  | false =>
    have e2 : PyProof.Rows.lexLt PyProof.Rows.itemOrd (PySem.W.keyToks (eU a)) (PySem.W.keyToks (eU b)) = false := e
    have h2 : PySem.W.dataLe false eU b a = true := by
      show (!PyProof.Rows.lexLt PyProof.Rows.itemOrd (PySem.W.keyToks (eU a)) (PySem.W.keyToks (eU b))) = true
      rw [e2]; rfl
    exact absurd (inj_U (dataLe_anti h h2)) hne
theorem rising_F {gs : List Fact} (h : gs.Pairwise fun a b => PySem.W.dataLe false eU a b = true) (nd : gs.Nodup) : rising ltF gs = true := rising_of (List.Pairwise.imp₂ (fun a b h1 h2 => ltF_of h1 h2) h nd)
theorem ltS_of {a b : Str} (h : PySem.W.dataLe false PyData.str a b = true) (hne : a ≠ b) : ltS a b = true := by
  have h0 : PySem.W.dataLt (.str a) (.str b) = ltS a b := PySem.W.dataLt_str a b
  rw [← h0]
  cases e : PySem.W.dataLt (.str a) (.str b) with
  | true => rfl
  | false =>
    have e2 : PyProof.Rows.lexLt PyProof.Rows.itemOrd (PySem.W.keyToks (.str a)) (PySem.W.keyToks (.str b)) = false := e
    have h2 : PySem.W.dataLe false PyData.str b a = true := by
      show (!PyProof.Rows.lexLt PyProof.Rows.itemOrd (PySem.W.keyToks (.str a)) (PySem.W.keyToks (.str b))) = true
      rw [e2]; rfl
    exact absurd (inj_str (dataLe_anti h h2)) hne
/-- told unlike: pairs of the sources -/
def isPairs (S : List Str) : D → Prop := fun d => ∃ ps : List Fact, d = .tuple (ps.map eU) ∧ ps.length ≤ 3 ∧ ∀ p ∈ ps, p.1 ∈ S ∧ p.2 ∈ S
def R_lpairs : List SV → (D → Prop) → Prop := fun xs Pd => ∃ (S : List Str) (n : Nat), xs = [.d (eSs S), .d (.int (n : Nat))] ∧ S.length = 5 ∧ Pd = isPairs S
/-- sorted([a, b]) -/
theorem sort2 {S : List Str} {a b : Str} (ha : a ∈ S) (hb : b ∈ S) : ∃ f : Fact, sortBy PyData.str [a, b] = pr f ∧ f.1 ∈ S ∧ f.2 ∈ S := by
  have hl : (sortBy PyData.str [a, b]).length = 2 := (sort_perm PyData.str [a, b]).length_eq
  have hm : ∀ z ∈ sortBy PyData.str [a, b], z ∈ S := fun z hz => by
    have := sort_mem.mp hz
    simp only [List.mem_cons, List.not_mem_nil, or_false] at this
    rcases this with rfl | rfl
    · exact ha
    · exact hb
  match sortBy PyData.str [a, b], hl, hm with
  | [x, y], _, hm => exact ⟨(x, y), rfl, hm x (by simp), hm y (by simp)⟩
/-- supposed facts -/
structure SupOk (S Fl : List Str) (sup : List Fact) : Prop where
  len : sup.length ≤ 2
  nd : sup.Nodup
  asc : rising ltF sup = true
  of : ∀ p ∈ sup, p.1 ∈ Fl ++ (["zq"] : List Str) ∧ p.2 ∈ S
def isSup (S Fl : List Str) : D → Prop := fun d => ∃ sup : List Fact, d = .tuple (sup.map eU) ∧ SupOk S Fl sup
def R_lsup : List SV → (D → Prop) → Prop := fun xs Pd => ∃ (x : D) (S Q Fl : List Str), xs = [.d x, .d (eN S Q Fl)] ∧ S.length = 5 ∧ Fl.length = 8 ∧ Pd = isSup S Fl
end Rb
set_option Elab.async false
set_option linter.all false
set_option maxRecDepth 100000
set_option maxHeartbeats 1000000
namespace Rb
open PySem PySem.Spec PyProof.Rows L2
variable {P : Program} {w : World} {K : PySem.W.Frag} {mg : Str → Option Value} {base : Heap} {f : Addr} {fd : FuncData}
theorem ee_sort2 {X : Cx} {ρ : Env} {G H : Hp} {a b : Expr} {x y : Str} {p0 p1 p2 p3 p4 : Pos} (hu : X.A.units + 64 < cLine) (ht : X.mg "tuple" = none) (hs : X.mg "sorted" = none) (hgt : Gl X "tuple") (hgs : Gl X "sorted") (ha : EE X ρ G H a (.d (.str x))) (hb : EE X ρ G H b (.d (.str y))) (s1 : starEach [a, b] X.env = (false, eval a X.env) :: starEach [b] X.env) (s2 : starEach [b] X.env = (false, eval b X.env) :: starEach [] X.env) :
    EE X ρ G H (.Call (.Name "tuple" p0) [.Call (.Name "sorted" p1) [.List [a, b] p2] [] p3] [] p4) (.d (eSs (sortBy PyData.str [x, y]))) :=
  ee_tupOf ht (EF.ee (ef_callB hs (by decide +kernel) (ea_cons (x := .d (.list ([x, y].map .str))) (EF.ee (ef_lst (ea_cons ha (ea_cons hb ea_nil s2) s1) (Nat.le_of_ble_eq_true rfl))) ea_nil st_list) (fun _ _ g => cf_sorted hu (fun x y => by simp [PySem.W.alike]) (PySem.W.Sortable.others fun z => ⟨fun q => PyData.noConfusion q, fun xs q => PyData.noConfusion q⟩) (Nat.le_of_ble_eq_true rfl) (fun z => by simp [PyData.depth]) g) hgs (by decide) (by decide) st_list rfl)) hgt st_call rfl
theorem fn_lpairs (T : Gf mg) (F : FD K "_law_pairs" s_l_pairs f fd) (hx : mg "_law_pairs" = some (.ref f)) (C1 : FnD P w K mg base "_law_draw" 1 2 1 R_draw) : FnD P w K mg base "_law_pairs" 2 3 6 R_lpairs := by
  refine fn_feed F sc_l_pairs rfl rfl hx (F.bindsN fun _ _ _ _ _ _ us hl => match us, hl with | [_, _, _], _ => rfl) fun cdv A outer s H E hr Fe u0 G xs Pd Q hR hl hf hu q => ?_
  obtain ⟨S, n, rfl, hS, rfl⟩ := hR
  refine ss_newL 3 sc_l_pairs.nd fun l G1 H1 g1 hl0 own1 => ?_
  have f1 := hf.up g1
  have gr1 : Gr G (er Fe.a H) G1 (er Fe.a H1) := g1.er hf
  have hl1 : er Fe.a H l = none := by
    have := own1.feed f1
    by_cases e : l = Fe.a
    · unfold er; rw [if_pos e]
    · rw [er_ne e]; exact hl0
  -- behind the loop
  have tail : ∀ (ps : List Fact) (o4 o5 o6 : Option SV) (G2 H2 : Hp), ps.length ≤ 3 → (∀ p ∈ ps, p.1 ∈ S ∧ p.2 ∈ S) → Fd K Fe (u0 + 6) G2 H2 → Gr G (er Fe.a H) G2 (er Fe.a H2) → Own K G2 (er Fe.a H2) l ((ps.map pr).map eSs) →
      SS (bX P w K mg base N_l_pairs "_law_pairs" s_l_pairs f cdv A outer s H E) { nx := fun _ H' => Q .non H', rt := Q } [some (.v (.ref Fe.a)), some (.d (eSs S)), some (.d (.int (n : Nat))), some (.v (.ref l)), o4, o5, o6] G2 H2 ((defBody s_l_pairs).drop 3) := by
    intro ps o4 o5 o6 G2 H2 hps hpS f2 gr2 own2
    refine fs_frz 3 f2 own2 fun G3 fr f3 => ?_
    obtain ⟨gs, e1, e2, e3, e4, e5⟩ := set_pairs ps
    refine ss_ret (x := .d (.tuple ((sortBy eSs (uniq (ps.map pr))).map eSs))) (ee_tupOf T.tuple (EF.ee (ef_sortSet rfl hr.units T.sorted T.set (ee_nm 3) (fun k hk => ?_) (by rw [List.length_map]; omega)))) fun v G4 H4 g4 r4 => q v _ G4 H4 ((fr gr2 hl1).trans (g4.er f3)) (f3.up g4) ⟨gs, by rw [e1], by omega, fun p hp => hpS p ((e3 p).mp hp)⟩ r4
    obtain ⟨f, _, rfl⟩ := List.mem_map.mp hk
    exact fun e => nomatch e
  have at5 : ∀ {k : Nat}, k < 5 → (S.map PyData.str)[k]? = some (.str (at_ S k)) ∧ at_ S k ∈ S := fun h => ⟨at_get (by omega), at_mem (by omega)⟩
  refine fs_for (k := 1) (S := fun xs => ∃ n : Nat, n < 3 ∧ xs = upTo n) f1 (by omega) (fi_range (P := upto 3) T.range (fe_draw C1 hr (ee_nm 0) rfl (by decide) (by decide)) fun d hd => ?_) fun xs G2 H2 hxs g2 f2 => ?_
  · obtain ⟨i, hi, rfl⟩ := hd
    exact ⟨i, rfl, by omega, i, hi, rfl⟩
  obtain ⟨nn, hnn, rfl⟩ := hxs
  have hlen : (upTo nn).length = nn := by unfold upTo; rw [List.length_map, List.length_range]
  refine ⟨fun i ρ G' H' => ∃ (ps : List Fact) (o4 o5 o6 : Option SV), ρ = [some (.v (.ref Fe.a)), some (.d (eSs S)), some (.d (.int (n : Nat))), some (.v (.ref l)), o4, o5, o6] ∧ Same G2 G' ∧ ps.length ≤ i ∧ (∀ p ∈ ps, p.1 ∈ S ∧ p.2 ∈ S) ∧ Fd K Fe (u0 + 1 + 2 * i) G' H' ∧ Gr G (er Fe.a H) G' (er Fe.a H') ∧ Own K G' (er Fe.a H') l ((ps.map pr).map eSs),
    ⟨[], none, none, none, rfl, .refl _, Nat.le_refl _, (fun p hp => by cases hp), f2.more (by omega), gr1.trans g2, (own1.feed f1).gr g2⟩, fun i ρ G1 H1 h => h.choose_spec.choose_spec.choose_spec.choose_spec.2.1, ?_, ?_⟩
  · rintro i d ρ G3 H3 hd ⟨ps, o4, o5, o6, rfl, s23, hps, hpS, f3, gr3, own3⟩ G4 H4 g4
    have hi : i < nn := by
      have := (List.getElem?_eq_some_iff.mp hd).1
      omega
    have hdi : ∃ j : Int, d = .int j := by
      unfold upTo at hd
      rw [List.getElem?_map] at hd
      cases e : (List.range nn)[i]? with
      | none => rw [e] at hd; cases hd
      | some j => rw [e] at hd; cases hd; exact ⟨_, rfl⟩
    obtain ⟨j, rfl⟩ := hdi
    refine ⟨[(4, .int j)], ga_nm 4 sc_l_pairs.nd, ?_⟩
    have f4 := f3.up g4
    have gr4 := gr3.trans (g4.er f3)
    have own4 := own3.gr (g4.er f3)
    refine fs_set (P := upto 5) (k := 1) 5 f4 (by omega) sc_l_pairs.nd (fe_draw C1 hr (ee_nm 0) rfl (by decide) (by decide)) fun d5 G5 H5 h5 g5 f5 => ?_
    obtain ⟨one, h1, rfl⟩ := h5
    refine fs_set (P := upto 5) (k := (0 + 1) + 0) 6 f5 (by omega) sc_l_pairs.nd ?_ fun d6 G6 H6 h6 g6 f6 => ?_
    · refine fe_bin (P := fun d => ∃ z : Int, d = .int z) (P' := (· = .int 5)) ?_ (fe_of ee_int rfl) fun x y hx hy => ?_
      · refine fe_callT (T := "int") T.int (by decide +kernel) (P := fun d => ∃ z : Int, d = .int z) (fe_bin (P := (· = .int ((one : Nat) + 1))) (P' := upto 4) (fe_of (ee_bin (ee_nm 5) ee_int fun _ _ g => od_add g) rfl) (fe_draw C1 hr (ee_nm 0) rfl (by decide) (by decide)) fun x y hx hy => ?_) fun x hx => ?_
        · subst hx
          obtain ⟨z, _, rfl⟩ := hy
          exact ⟨_, ⟨_, rfl⟩, fun G1 H1 s => od_add (.refl s)⟩
        · obtain ⟨z, rfl⟩ := hx
          exact ⟨_, ⟨_, rfl⟩, fun G1 H1 s => cd_int (.refl s)⟩
      · obtain ⟨z, rfl⟩ := hx
        subst hy
        exact ⟨_, upto_mod (n := 5) (by decide), fun G1 H1 s => od_mod (by decide) (.refl s)⟩
    obtain ⟨other, h2, rfl⟩ := h6
    have gr6 := gr4.trans (g5.trans g6)
    have own6 := own4.gr (g5.trans g6)
    obtain ⟨fp, e7, e8, e9⟩ := sort2 (at5 h1).2 (at5 h2).2
    refine fs_app (P := (· = eSs (pr fp))) (k := 0) f6 (by omega) own6 (ee_nm 3) (fe_of (x := eSs (sortBy PyData.str [at_ S one, at_ S other])) (ee_sort2 hr.units T.tuple T.sorted rfl rfl (ee_ix (ee_nm 1) (ee_nm 5) fun _ _ g => xd_tup (at5 h1).1 g) (ee_ix (ee_nm 1) (ee_nm 6) fun _ _ g => xd_tup (at5 h2).1 g) st_sub st_sub) (by rw [e7])) (by rw [List.length_map, List.length_map]; omega) fun vs d G7 H7 hd7 g7 o7 f7 own7 => ?_
    subst hd7
    refine ss_turn ⟨ps ++ [fp], _, _, _, rfl, s23.trans (g4.g.trans (g5.g.trans (g6.g.trans g7.g))), by rw [List.length_append]; simp; omega, fun p hp => ?_, f7.more (by omega), ?_, ?_⟩
    · rcases List.mem_append.mp hp with hp | hp
      · exact hpS p hp
      · rw [List.mem_singleton.mp hp]
        exact ⟨e8, e9⟩
    · exact Gr.mutF (gr6.trans g7) hl1 o7
    · rw [List.map_append, List.map_append]
      exact own7
  · rintro ρ G3 H3 ⟨ps, o4, o5, o6, rfl, s23, hps, hpS, f3, gr3, own3⟩
    rw [hlen] at hps f3
    refine fs_if1 (S := fun _ => True) (k := 1 + 0) (f3.more (m := u0 + 5) (by omega)) (by omega) (ft_w (fw_and (et_cmp (ee_nm 2) ee_int fun _ _ g => od_eqI g) (fun _ => fw_one (ft_cmp (P := upto 2) (P' := (· = .int 0)) (fe_draw C1 hr (ee_nm 0) rfl (by decide) (by decide)) (fe_of ee_int rfl) fun x y hx hy => ?_)) fun _ => trivial)) (fun _ G4 H4 g4 f4 => ?_) fun _ G4 H4 g4 f4 => ?_
    · obtain ⟨i, hi, rfl⟩ := hx
      subst hy
      exact ⟨_, trivial, fun G1 H1 s => od_eqI (.refl s)⟩
    · obtain ⟨fp, e7, e8, e9⟩ := sort2 (at5 (k := 0) (by decide)).2 (at5 (k := 2) (by decide)).2
      refine fs_app (P := (· = eSs (pr fp))) (k := 0) f4 (by omega) (own3.gr g4) (ee_nm 3) (fe_of (x := eSs (sortBy PyData.str [at_ S 0, at_ S 2])) (ee_sort2 hr.units T.tuple T.sorted rfl rfl (ee_at 0 (ee_nm 1) rfl (at5 (by decide)).1) (ee_at 2 (ee_nm 1) rfl (at5 (by decide)).1) st_sub st_sub) (by rw [e7])) (by rw [List.length_map, List.length_map]; omega) fun vs d G7 H7 hd7 g7 o7 f7 own7 => ?_
      subst hd7
      refine ss_out fun G8 H8 g8 => tail (ps ++ [fp]) _ _ _ G8 H8 (by rw [List.length_append]; simp; omega) (fun p hp => ?_) ((f7.up g8).more (by omega)) ((Gr.mutF ((gr3.trans g4).trans g7) hl1 o7).trans (g8.er f7)) ?_
      · rcases List.mem_append.mp hp with hp | hp
        · exact hpS p hp
        · rw [List.mem_singleton.mp hp]
          exact ⟨e8, e9⟩
      · rw [List.map_append, List.map_append]
        exact own7.gr (g8.er f7)
    · exact tail ps _ _ _ G4 H4 (by omega) hpS (f4.more (by omega)) (gr3.trans g4) (own3.gr g4)
end Rb
set_option Elab.async false
set_option linter.all false
set_option maxRecDepth 100000
set_option maxHeartbeats 1000000
namespace Rb
open PySem PySem.Spec PyProof.Rows L2
variable {P : Program} {w : World} {K : PySem.W.Frag} {mg : Str → Option Value} {base : Heap} {f : Addr} {fd : FuncData}
theorem fe_anyE {X : Cx} {F : Feed} {ρ : Env} {G H : Hp} {nm : Str} {p0 p' pos : Pos} {e : Expr} {ds : List D} (C : FnD X.prog X.w X.K X.mg X.base "_law_any" 2 2 1 R_any) (hr : Room 2 X.A) (h0 : EE X ρ G H (.Name nm p0) (.v (.ref F.a))) (h : EE X ρ G H e (.d (.tuple ds))) (hs : starEach [e] X.env = (false, eval e X.env) :: starEach [] X.env) (h1 : 0 < ds.length) (h2 : ds.length ≤ 1000) (hg : Gl X "_law_any" := by rfl) : FE X F ρ G H 1 (.Call (.Name "_law_any" p') [.Name nm p0, e] [] pos) (· ∈ ds) :=
  fe_call1 C hr h0 h hs ⟨ds, .inl rfl, h1, h2, rfl⟩ hg
theorem fn_lsup (T : Gf mg) (F : FD K "_law_supposed" s_l_supposed f fd) (hx : mg "_law_supposed" = some (.ref f)) (C1 : FnD P w K mg base "_law_draw" 1 2 1 R_draw) (C2 : FnD P w K mg base "_law_any" 2 2 1 R_any) : FnD P w K mg base "_law_supposed" 3 3 5 R_lsup := by
  refine fn_feed F sc_l_supposed rfl rfl hx (F.bindsN fun _ _ _ _ _ _ us hl => match us, hl with | [_, _, _], _ => rfl) fun cdv A outer s H E hr Fe u0 G xs Pd Q hR hl hf hu q => ?_
  obtain ⟨x, S, Qn, Fl, rfl, hS, hF, rfl⟩ := hR
  have hr1 : Room 1 (bX P w K mg base N_l_supposed "_law_supposed" s_l_supposed f cdv A outer s H E).A := hr.mono (by decide)
  refine ss_newL 3 sc_l_supposed.nd fun l G1 H1 g1 hl0 own1 => ?_
  have f1 := hf.up g1
  have gr1 : Gr G (er Fe.a H) G1 (er Fe.a H1) := g1.er hf
  have hl1 : er Fe.a H l = none := by
    by_cases e : l = Fe.a
    · unfold er; rw [if_pos e]
    · rw [er_ne e]; exact hl0
  refine fs_for (k := 1) (S := fun xs => ∃ n : Nat, n < 3 ∧ xs = upTo n) f1 (by omega) (fi_range (P := upto 3) T.range (fe_draw C1 hr1 (ee_nm 0) rfl (by decide) (by decide)) fun d hd => ?_) fun xs G2 H2 hxs g2 f2 => ?_
  · obtain ⟨i, hi, rfl⟩ := hd
    exact ⟨i, rfl, by omega, i, hi, rfl⟩
  obtain ⟨nn, hnn, rfl⟩ := hxs
  have hlen : (upTo nn).length = nn := by unfold upTo; rw [List.length_map, List.length_range]
  refine ⟨fun i ρ G' H' => ∃ (ps : List Fact) (o4 : Option SV), ρ = [some (.v (.ref Fe.a)), some (.d x), some (.d (eN S Qn Fl)), some (.v (.ref l)), o4] ∧ Same G2 G' ∧ ps.length ≤ i ∧ (∀ p ∈ ps, p.1 ∈ Fl ++ (["zq"] : List Str) ∧ p.2 ∈ S) ∧ Fd K Fe (u0 + 1 + 2 * i) G' H' ∧ Gr G (er Fe.a H) G' (er Fe.a H') ∧ Own K G' (er Fe.a H') l ((ps.map pr).map eSs),
    ⟨[], none, rfl, .refl _, Nat.le_refl _, (fun p hp => by cases hp), f2.more (by omega), gr1.trans g2, (own1.feed f1).gr g2⟩, fun i ρ G1 H1 h => h.choose_spec.choose_spec.2.1, ?_, ?_⟩
  · rintro i d ρ G3 H3 hd ⟨ps, o4, rfl, s23, hps, hpS, f3, gr3, own3⟩ G4 H4 g4
    have hi : i < nn := by
      have := (List.getElem?_eq_some_iff.mp hd).1
      omega
    refine ⟨[(4, d)], ga_nm 4 sc_l_supposed.nd, ?_⟩
    have f4 := f3.up g4
    have gr4 := gr3.trans (g4.er f3)
    have own4 := own3.gr (g4.er f3)
    refine fs_app (P := fun d => ∃ fp : Fact, d = eSs (pr fp) ∧ fp.1 ∈ Fl ++ (["zq"] : List Str) ∧ fp.2 ∈ S) (k := 1 + (1 + 0)) f4 (by omega) own4 (ee_nm 3) ?_ (by rw [List.length_map, List.length_map]; omega) fun vs d7 G7 H7 hd7 g7 o7 f7 own7 => ?_
    · refine FE.more (k := 1 + (1 + 0)) (P := fun d => ∃ ds, d = .tuple ds ∧ Each [(· ∈ (Fl ++ (["zq"] : List Str)).map .str), (· ∈ S.map .str)] ds) ?_ (Nat.le_refl _) ?_
      · refine fe_eTup ?_ (Nat.le_of_ble_eq_true rfl)
        refine fa_e (e := _) (es := _) ?_ ?_ st_call
        · refine fe_anyE C2 hr (ee_nm 0) ?_ st_bin ?_ ?_
          · refine EE.to (ee_bin (x := .d (.tuple (Fl.map .str))) (y := .d (.tuple [.str "zq"])) (ee_at 2 (ee_nm 2)) (ee_tup (ds := [.str "zq"]) (ea_cons ee_str ea_nil st_con)) fun _ _ g => od_cat ?_ g) ?_
            · rw [List.length_map, hF]; decide
            · rw [List.map_append] <;> rfl
          · simp
          · simp [hF]
        refine fa_e (e := _) (es := _) ?_ fa_e0 st_call
        refine fe_anyE C2 hr (ee_nm 0) (ee_at 0 (ds := [eSs S, eSs Qn, eSs Fl]) (d := eSs S) (ee_nm 2)) st_sub ?_ ?_
        · rw [List.length_map, hS]; decide
        · rw [List.length_map, hS]; decide
      · rintro d ⟨ds, rfl, a, _, rfl, ha, b, _, rfl, hb, rfl⟩
        obtain ⟨a', ha', rfl⟩ := List.mem_map.mp ha
        obtain ⟨b', hb', rfl⟩ := List.mem_map.mp hb
        exact ⟨(a', b'), rfl, ha', hb'⟩
    obtain ⟨fp, rfl, e8, e9⟩ := hd7
    refine ss_turn ⟨ps ++ [fp], _, rfl, s23.trans (g4.g.trans g7.g), by rw [List.length_append]; simp; omega, fun p hp => ?_, f7.more (by omega), ?_, ?_⟩
    · rcases List.mem_append.mp hp with hp | hp
      · exact hpS p hp
      · rw [List.mem_singleton.mp hp]
        exact ⟨e8, e9⟩
    · exact Gr.mutF (gr4.trans g7) hl1 o7
    · rw [List.map_append, List.map_append]
      exact own7
  · rintro ρ G3 H3 ⟨ps, o4, rfl, s23, hps, hpS, f3, gr3, own3⟩
    rw [hlen] at hps f3
    refine fs_frz 3 f3 own3 fun G4 fr f4 => ?_
    obtain ⟨gs, e1, e2, e3, e4, e5⟩ := set_pairs ps
    refine ss_ret (x := .d (.tuple ((sortBy eSs (uniq (ps.map pr))).map eSs))) (ee_tupOf T.tuple (EF.ee (ef_sortSet rfl hr.units T.sorted T.set (ee_nm 3) (fun k hk => ?_) (by rw [List.length_map]; omega)))) fun v G5 H5 g5 r5 => q v _ G5 H5 ((fr gr3 hl1).trans (g5.er f4)) ((f4.up g5).more (by omega)) ⟨gs, by rw [e1], ⟨by omega, e2, rising_F e4 e2, fun p hp => hpS p ((e3 p).mp hp)⟩⟩ r5
    obtain ⟨f, _, rfl⟩ := List.mem_map.mp hk
    exact fun e => nomatch e
end Rb
set_option Elab.async false
set_option linter.all false
set_option maxRecDepth 100000
set_option maxHeartbeats 1000000
namespace Rb
open PySem PySem.Spec PyProof.Rows L2
structure BldIs (S Q Fl : List Str) (u : Bld) : Prop where
  party : u.party ∈ Q
  comp : ∀ c, u.comp = some c → c ∈ Fl
  src : u.src ∈ S
  parts : (∀ z ∈ u.parts, z ∈ Fl) ∧ u.parts.length ≤ 2
  file : u.file ∈ Fl
theorem bld_is {S Q Fl : List Str} {r : Row} (ok : RowOk r) (hS : S.length = 5) (hQ : Q.length = 3) (hF : Fl.length = 8) : BldIs S Q Fl (bldOf S Q Fl r) where
  party := at_mem (by rw [hQ]; exact ok.party)
  comp := fun c hc => by
    have hc' : r.comp.map (at_ Fl) = some c := hc
    obtain ⟨k, h1, rfl⟩ := Option.map_eq_some_iff.mp hc'
    exact at_mem (by rw [hF]; exact ok.comp k h1)
  src := at_mem (by rw [hS]; exact ok.src)
  parts := by
    have h1 : ∀ z ∈ r.parts.map (at_ Fl), z ∈ Fl := fun z hz => by
      obtain ⟨k, hk, rfl⟩ := List.mem_map.mp hz
      exact at_mem (by rw [hF]; exact ok.parts.1 k hk)
    have h2 : (r.parts.map (at_ Fl)).length ≤ 2 := by rw [List.length_map]; exact ok.parts.2
    show (∀ z ∈ swapP S (r.parts.map (at_ Fl)), z ∈ Fl) ∧ (swapP S (r.parts.map (at_ Fl))).length ≤ 2
    generalize r.parts.map (at_ Fl) = ps at h1 h2
    unfold swapP
    split
    · rename_i c
      refine ⟨fun z hz => ?_, by simp⟩
      simp only [List.mem_cons, List.not_mem_nil, or_false] at hz
      rcases hz with rfl | rfl
      · exact h1 _ (at_mem (by omega))
      · exact h1 _ (at_mem (by omega))
    · exact ⟨h1, h2⟩
  file := at_mem (by rw [hF]; exact ok.file)
structure BookIs (S Q Fl : List Str) (b : Book) : Prop where
  forms : FormsOk S b.srcs
  people : b.parties.map (·.1) = sortBy PyData.str Q
  unl : b.unl.length ≤ 3 ∧ ∀ p ∈ b.unl, p.1 ∈ S ∧ p.2 ∈ S
  blds : b.blds.length ≤ 9 ∧ ∀ u ∈ b.blds, BldIs S Q Fl u
def isScene : D → Prop := fun d => ∃ S Q Fl b, S ∈ srcLists ∧ Q ∈ ptyLists ∧ Fl ∈ fileLists ∧ BookIs S Q Fl b ∧ d = .tuple [eK b, eN S Q Fl]
def R_lscene : List SV → (D → Prop) → Prop := fun xs Pd => xs = [] ∧ Pd = isScene
/-- the names drawn are written in signs that there are -/
structure TxtIs (S Q Fl : List Str) : Prop where
  s : ∀ z ∈ S, PyData.strOk z = true
  q : ∀ z ∈ Q, PyData.strOk z = true
  f : ∀ z ∈ Fl, PyData.strOk z = true
theorem srcs_len : ∀ S ∈ srcLists, S.length = 5 := by decide
theorem ptys_len : ∀ S ∈ ptyLists, S.length = 3 := by decide
theorem files_len' : ∀ S ∈ fileLists, S.length = 8 := by decide
theorem txt_is {S Q Fl : List Str} (h1 : S ∈ srcLists) (h2 : Q ∈ ptyLists) (h3 : Fl ∈ fileLists) : TxtIs S Q Fl where
  s := (show ∀ S ∈ srcLists, ∀ z ∈ S, PyData.strOk z = true from by decide +kernel) S h1
  q := (show ∀ S ∈ ptyLists, ∀ z ∈ S, PyData.strOk z = true from by decide +kernel) Q h2
  f := (show ∀ S ∈ fileLists, ∀ z ∈ S, PyData.strOk z = true from by decide +kernel) Fl h3
theorem lay_B {S Q Fl : List Str} (t : TxtIs S Q Fl) {u : Bld} (h : BldIs S Q Fl u) : PyData.canLay0 (eB u) = true ∧ (eB u).depth ≤ 5 := by
  have h1 := t.q _ h.party
  have h2 := t.s _ h.src
  have h3 := t.f _ h.file
  have h4 := lay_strs fun z hz => t.f z (h.parts.1 z hz)
  cases hc : u.comp with
  | none => simp [eB, eO, hc, PyData.canLay0, PyData.canLayAll0, h1, h2, h3, h4, PyData.depth, PyData.depthAll, depth_strs]
  | some c =>
    have h5 := t.f _ (h.comp c hc)
    simp [eB, eO, hc, PyData.canLay0, PyData.canLayAll0, h1, h2, h3, h4, h5, PyData.depth, PyData.depthAll, depth_strs]
theorem shaped_B {S Q Fl : List Str} (t : TxtIs S Q Fl) {u : Bld} (h : BldIs S Q Fl u) : SeqAt.shaped (eB u) = true := by
  obtain ⟨h1, h2⟩ := lay_B t h
  unfold SeqAt.shaped
  rw [h1, Bool.true_and]
  exact decide_eq_true (by omega)
theorem shaped_LB {S Q Fl : List Str} (t : TxtIs S Q Fl) {bs : List Bld} (h : ∀ u ∈ bs, BldIs S Q Fl u) : SeqAt.shaped (.list (bs.map eB)) = true := by
  have h1 : ∀ bs : List Bld, (∀ u ∈ bs, BldIs S Q Fl u) → PyData.canLayAll0 (bs.map eB) = true ∧ PyData.depthAll (bs.map eB) ≤ 5 := by
    intro bs
    induction bs with
    | nil => intro _; simp [PyData.canLayAll0, PyData.depthAll]
    | cons c cs ih =>
      intro h
      obtain ⟨i1, i2⟩ := ih fun g hg => h g (List.mem_cons_of_mem _ hg)
      obtain ⟨j1, j2⟩ := lay_B t (h c List.mem_cons_self)
      rw [List.map_cons, PyData.canLayAll0, PyData.depthAll, i1, j1]
      refine ⟨rfl, ?_⟩
      omega
  obtain ⟨k1, k2⟩ := h1 bs h
  unfold SeqAt.shaped
  rw [PyData.canLay0, k1]
  have : (PyData.list (bs.map eB)).depth = PyData.depthAll (bs.map eB) + 1 := by simp [PyData.depth]
  simp
  omega
theorem all2_cons {β : Type} {P : β → D → Prop} {y : β} {ys : List β} {ds : List D} (h : All2 P (y :: ys) ds) : ∃ d ds', ds = d :: ds' ∧ P y d ∧ All2 P ys ds' := by
  obtain ⟨h1, h2⟩ := h
  match ds, h1 with
  | d :: ds, h1 =>
    refine ⟨d, ds, rfl, h2 0 y d rfl rfl, by simpa using h1, fun i b d' e1 e2 => h2 (i + 1) b d' ?_ ?_⟩
    · rw [List.getElem?_cons_succ]; exact e1
    · rw [List.getElem?_cons_succ]; exact e2
theorem all_persons : ∀ {ys : List Str} {ds : List D}, All2 (fun z d => ∃ i : Int, d = .tuple [.str z, .int i]) ys ds → ∃ ps : List (Str × Int), ds = ps.map eP ∧ ps.map (·.1) = ys
  | [], ds, h => by
    have h1 := h.1
    match ds, h1 with
    | [], _ => exact ⟨[], rfl, rfl⟩
  | y :: ys, ds, h => by
    obtain ⟨d, ds', rfl, ⟨i, rfl⟩, h3⟩ := all2_cons h
    obtain ⟨ps, rfl, rfl⟩ := all_persons h3
    exact ⟨(y, i) :: ps, rfl, rfl⟩
theorem er_none {a l : Addr} {H : Hp} (h : H l = none) : er a H l = none := by
  by_cases e : l = a
  · unfold er; rw [if_pos e]
  · rw [er_ne e]; exact h
end Rb
set_option Elab.async false
set_option linter.all false
set_option maxRecDepth 100000
set_option maxHeartbeats 1000000
/-! A drawn book is all that the laws of its parts ask. -/
namespace Rb
open PySem PySem.Spec PyProof.Rows L2
structure Nm (S Q Fl : List Str) : Prop where
  s : ∀ z ∈ S, isNameB z = true ∧ PyData.strOk z = true
  q : ∀ z ∈ Q, isNameB z = true
  f : ∀ z ∈ Fl ++ (["zq"] : List Str), isNameB z = true ∧ PyData.strOk z = true
  snd : S.Nodup
  qnd : Q.Nodup
  few : (Fl.length + 1) * S.length ≤ 46
  sl : S.length < 64
  ql : Q.length < 1000
theorem key_one {α β : Type} {g : α → β} : ∀ {l : List α}, (l.map g).Nodup → ∀ {x y}, x ∈ l → y ∈ l → g x = g y → x = y
  | a :: l, h, x, y, hx, hy, e => by
    rw [List.map_cons, List.nodup_cons] at h
    rcases List.mem_cons.mp hx with h1 | h1
    · rcases List.mem_cons.mp hy with h2 | h2
      · rw [h1, h2]
      · rw [h1] at e
        exact absurd (List.mem_map.mpr ⟨y, h2, e.symm⟩) h.1
    · rcases List.mem_cons.mp hy with h2 | h2
      · rw [h2] at e
        exact absurd (List.mem_map.mpr ⟨x, h1, e⟩) h.1
      · exact key_one h.2 h1 h2 e
section
variable {S Q Fl tr : List Str} {b : Book} {sup : List Fact}
theorem names_eq (B : BookIs S Q Fl b) : b.names = sortBy PyData.str S := B.forms.names
theorem names_mem (B : BookIs S Q Fl b) {z : Str} : z ∈ b.names ↔ z ∈ S := by rw [names_eq B, sort_mem]
theorem names_nd (N : Nm S Q Fl) (B : BookIs S Q Fl b) : b.names.Nodup := by rw [names_eq B]; exact (sort_perm _ _).nodup_iff.mpr N.snd
theorem names_sort (B : BookIs S Q Fl b) : sortBy PyData.str b.names = b.names := by
  rw [names_eq B]
  exact sort_id (fun _ _ => inj_str) (sort_pw _ _)
theorem srcs_lenS (B : BookIs S Q Fl b) : b.srcs.length = S.length := by
  have := congrArg List.length (names_eq B)
  rw [(sort_perm _ _).length_eq] at this
  unfold Book.names at this
  rwa [List.length_map] at this
theorem src_one (N : Nm S Q Fl) (B : BookIs S Q Fl b) : ∀ s ∈ b.srcs, b.srcOf s.name = s := fun s hs => by
  obtain ⟨h1, h2, _⟩ := srcOf_mem (b := b) (z := s.name) (List.mem_map.mpr ⟨s, hs, rfl⟩)
  exact key_one (g := fun s : Src => s.name) (names_nd N B) h1 hs h2
theorem pty_len (B : BookIs S Q Fl b) : b.parties.length = Q.length := by
  have := congrArg List.length B.people
  rwa [(sort_perm _ _).length_eq, List.length_map] at this
theorem people_pw (N : Nm S Q Fl) (B : BookIs S Q Fl b) : b.people.Pairwise fun a c => ltS a c = true := by
  have e : b.people = sortBy PyData.str Q := B.people
  have nd : b.people.Nodup := by rw [e]; exact (sort_perm _ _).nodup_iff.mpr N.qnd
  have pw : b.people.Pairwise fun a c => PySem.W.dataLe false PyData.str a c = true := by rw [e]; exact sort_pw _ _
  exact List.Pairwise.imp₂ (fun a c h1 h2 => ltS_of h1 h2) pw nd
theorem trust_of (N : Nm S Q Fl) (B : BookIs S Q Fl b) (h : tr.Sublist b.people) : b.Trust tr := by
  have hl := h.length_le
  have e : b.people.length = Q.length := by rw [← pty_len B]; exact List.length_map _
  have hm : ∀ z ∈ tr, z ∈ b.people := fun z hz => h.subset hz
  refine ⟨by have := N.ql; omega, by rw [pty_len B]; exact N.ql, fun z hz => N.q z ?_, rising_of ((people_pw N B).sublist h), hm⟩
  have := hm z hz
  rw [show b.people = sortBy PyData.str Q from B.people, sort_mem] at this
  exact this
theorem chosen_sub {mask : Nat} : (chosenOf b mask).Sublist b.people := by
  have e : b.people = (List.range b.parties.length).map fun k => (b.parties.getD k ("", 0)).1 := by
    refine List.ext_getElem? fun i => ?_
    unfold Book.people
    rw [List.getElem?_map, List.getElem?_map]
    by_cases hi : i < b.parties.length
    · rw [List.getElem?_eq_getElem hi, List.getElem?_range hi]
      simp [List.getD_eq_getElem?_getD, List.getElem?_eq_getElem hi]
    · rw [List.getElem?_eq_none (by omega), List.getElem?_eq_none (by rw [List.length_range]; omega)]
      rfl
  rw [e]
  unfold chosenOf
  exact List.filter_sublist.map _
theorem supp_of (N : Nm S Q Fl) (B : BookIs S Q Fl b) (h : SupOk S Fl sup) : b.Supp sup :=
  ⟨by have := h.len; omega, by rw [srcs_lenS B]; have := N.sl; omega, fun p hp => ⟨(N.f _ (h.of p hp).1).1, (N.s _ (h.of p hp).2).1, (names_mem B).mpr (h.of p hp).2⟩, h.asc⟩
theorem small_of (N : Nm S Q Fl) (B : BookIs S Q Fl b) : b.Small where
  srcs := by rw [srcs_lenS B]; have := N.sl; omega
  people := by rw [pty_len B]; exact N.ql
  blds := by have := B.blds.1; omega
  unl := by have := B.unl.1; omega
  parts := fun u hu => by have := (B.blds.2 u hu).parts.2; omega
  txt := fun u hu => ⟨(N.s _ (B.blds.2 u hu).src).2, fun z hz => (N.f z (List.mem_append_left _ ((B.blds.2 u hu).parts.1 z hz))).2⟩
theorem univ_of (N : Nm S Q Fl) (B : BookIs S Q Fl b) : Univ b (Fl ++ (["zq"] : List Str)) S where
  bld := fun u hu => ⟨List.mem_append_left _ (B.blds.2 u hu).file, (B.blds.2 u hu).src⟩
  few := by rw [List.length_append]; exact N.few
theorem fine_of (N : Nm S Q Fl) (B : BookIs S Q Fl b) (ht : tr.Sublist b.people) (h : SupOk S Fl sup) : Fine b tr sup (Fl ++ (["zq"] : List Str)) S where
  small := small_of N B
  few := by rw [srcs_lenS B]; exact N.sl
  trust := trust_of N B ht
  supp := supp_of N B h
  univ := univ_of N B
  inU := h.of
  nd := h.nd
theorem txt_of (N : Nm S Q Fl) (B : BookIs S Q Fl b) : b.Txt where
  names := fun s hs => ⟨(N.s _ ((names_mem B).mp (List.mem_map.mpr ⟨s, hs, rfl⟩))).2, fun z hz => (N.s _ (B.forms.uses s hs z hz)).2⟩
  blds := fun u hu => ⟨(N.f _ (List.mem_append_left _ (B.blds.2 u hu).file)).2, (names_mem B).mpr (B.blds.2 u hu).src, fun z hz => (N.f z (List.mem_append_left _ ((B.blds.2 u hu).parts.1 z hz))).2⟩
  unl := fun p hp => ⟨(N.s _ (B.unl.2 p hp).1).2, (N.s _ (B.unl.2 p hp).2).2⟩
theorem close_of (N : Nm S Q Fl) (B : BookIs S Q Fl b) (h : SupOk S Fl sup) : CloseOk b sup (Fl ++ (["zq"] : List Str)) S where
  small := small_of N B
  ground := ⟨txt_of N B, univ_of N B, fun z hz => (N.f z hz).2, fun z hz => (names_mem B).mpr hz⟩
  uniq := src_one N B
  inU := h.of
  nd := h.nd
theorem fok_of {F' S' : List Str} (c : CloseOk b sup F' S') : FOk b (lawFacts b tr sup) := by
  have h := (closeL_ok (tr := tr) (sup := sup) c.ground c.uniq 47 sup ⟨c.inU, c.nd, fun g hg => Drv.sup hg⟩ (by omega)).1.fok c.ground
  refine ⟨fun f hf => h.txt f (sort_mem.mp hf), fun f hf => h.src f (sort_mem.mp hf), ?_⟩
  unfold lawFacts
  rw [(sort_perm _ _).length_eq]
  exact h.len
theorem law_of (N : Nm S Q Fl) (B : BookIs S Q Fl b) (ht : tr.Sublist b.people) (h : SupOk S Fl sup) : LawOk b tr sup (Fl ++ (["zq"] : List Str)) S where
  fine := fine_of N B ht h
  close := close_of N B h
  few := ⟨by have := B.unl.1; omega, by have := B.blds.1; omega⟩
  fok := fok_of (close_of N B h)
  comps := fun v hv c hc => (N.f c (List.mem_append_left _ ((B.blds.2 v hv).comp c hc))).2
  plain := plain_of (fine_of N B ht h) (close_of N B h) (names_nd N B) (names_sort B)
end
theorem nm_of {S Q Fl : List Str} (h1 : S ∈ srcLists) (h2 : Q ∈ ptyLists) (h3 : Fl ∈ fileLists) : Nm S Q Fl where
  s := (show ∀ S ∈ srcLists, ∀ z ∈ S, isNameB z = true ∧ PyData.strOk z = true from by decide +kernel) S h1
  q := (show ∀ S ∈ ptyLists, ∀ z ∈ S, isNameB z = true from by decide +kernel) Q h2
  f := (show ∀ S ∈ fileLists, ∀ z ∈ S ++ (["zq"] : List Str), isNameB z = true ∧ PyData.strOk z = true from by decide +kernel) Fl h3
  snd := (show ∀ S ∈ srcLists, S.Nodup from by decide +kernel) S h1
  qnd := (show ∀ S ∈ ptyLists, S.Nodup from by decide +kernel) Q h2
  few := by rw [srcs_len S h1, files_len' Fl h3]; decide
  sl := by rw [srcs_len S h1]; decide
  ql := by rw [ptys_len Q h2]; decide
/-! ### the books given -/
def srcG : List Src := [⟨"cc", "c", ["c"], true, []⟩, ⟨"tcc", "c", ["c"], true, []⟩]
def ptyG : List (Str × Int) := [("ann", 1), ("bob", 1), ("cy", 1)]
def ownG : List Bld := [⟨"ann", none, "cc", [], "x"⟩, ⟨"cy", some "x", "cc", [], "x"⟩]
def moreG : List Bld := [⟨"bob", none, "tcc", [], "t"⟩, ⟨"cy", some "t", "cc", [], "y"⟩]
def aloneG : Book := ⟨srcG, ptyG, [], ownG⟩
def wholeG : Book := ⟨srcG, ptyG, [], ownG ++ moreG ++ [⟨"cy", some "y", "cc", [], "x"⟩]⟩
def splitG : Book := ⟨srcG, ptyG, [], ownG ++ moreG ++ [⟨"cy", some "y", "cc", [], "z"⟩]⟩
def emptyG : Book := ⟨[], [], [], []⟩
def apartG : Book := ⟨srcG, ptyG, [("cc", "tcc")], []⟩
def SG : List Str := ["cc", "tcc"]
def QG : List Str := ["ann", "bob", "cy"]
def FG : List Str := ["x", "t", "y", "z", "q"]
def supG : List Fact := [("q", "cc"), ("q", "tcc")]
theorem sort_eq {β : Type} {k : β → D} {l m : List β} (inj : ∀ x y, PySem.W.keyToks (k x) = PySem.W.keyToks (k y) → x = y) (hp : l.Perm m) (hw : m.Pairwise fun a b => PySem.W.dataLe false k a b = true) : sortBy k l = m := by
  rw [← sort_id inj hw]
  exact sort_same inj hp
theorem nm_G : Nm SG QG FG := ⟨by decide +kernel, by decide +kernel, by decide +kernel, by decide +kernel, by decide +kernel, by decide, by decide, by decide⟩
theorem nm_0 : Nm [] [] [] := ⟨by decide, by decide, by decide +kernel, .nil, .nil, by decide, by decide, by decide⟩
theorem sort_SG : sortBy PyData.str SG = SG := sort_id (fun _ _ => inj_str) (by decide +kernel)
theorem sort_QG : sortBy PyData.str QG = QG := sort_id (fun _ _ => inj_str) (by decide +kernel)
theorem forms_G : FormsOk SG srcG := ⟨by rw [sort_SG]; rfl, by decide⟩
theorem ppl_G : ptyG.map (·.1) = sortBy PyData.str QG := by rw [sort_QG]; rfl
theorem blds_G {l : List Bld} (h : l.all (fun u => decide (u.party ∈ QG) && (u.comp.all fun c => decide (c ∈ FG)) && decide (u.src ∈ SG) && decide (u.parts = []) && decide (u.file ∈ FG)) = true) : ∀ u ∈ l, BldIs SG QG FG u := fun u hu => by
  have := List.all_eq_true.mp h u hu
  simp only [Bool.and_eq_true, decide_eq_true_eq] at this
  obtain ⟨⟨⟨⟨h1, h2⟩, h3⟩, h4⟩, h5⟩ := this
  refine ⟨h1, fun c hc => ?_, h3, by rw [h4]; simp, h5⟩
  rw [hc] at h2
  simpa using h2
theorem is_alone : BookIs SG QG FG aloneG := ⟨forms_G, ppl_G, ⟨by decide, fun p hp => by cases hp⟩, by decide, blds_G (by decide +kernel)⟩
theorem is_whole : BookIs SG QG FG wholeG := ⟨forms_G, ppl_G, ⟨by decide, fun p hp => by cases hp⟩, by decide, blds_G (by decide +kernel)⟩
theorem is_split : BookIs SG QG FG splitG := ⟨forms_G, ppl_G, ⟨by decide, fun p hp => by cases hp⟩, by decide, blds_G (by decide +kernel)⟩
theorem is_apart : BookIs SG QG FG apartG := ⟨forms_G, ppl_G, by decide +kernel, by decide, fun u hu => by cases hu⟩
theorem is_empty : BookIs [] [] [] emptyG := ⟨⟨List.mergeSort_nil.symm, fun s hs => by cases hs⟩, List.mergeSort_nil.symm, ⟨by decide, fun p hp => by cases hp⟩, by decide, fun u hu => by cases hu⟩
theorem sup_nil {S Fl : List Str} : SupOk S Fl [] := ⟨by decide, .nil, rfl, fun p hp => by cases hp⟩
theorem sup_G : SupOk SG FG supG := ⟨by decide, by decide +kernel, by decide +kernel, by decide +kernel⟩
theorem sub_G {b : Book} (h : b.people = QG) : List.Sublist QG b.people := by rw [h]; exact List.Sublist.refl _
theorem fine_whole : Fine wholeG QG [] (FG ++ (["zq"] : List Str)) SG := fine_of nm_G is_whole (sub_G rfl) sup_nil
theorem fine_split : Fine splitG QG [] (FG ++ (["zq"] : List Str)) SG := fine_of nm_G is_split (sub_G rfl) sup_nil
theorem fine_empty : Fine emptyG [] [] ([] ++ (["zq"] : List Str)) [] := fine_of nm_0 is_empty (List.nil_sublist _) sup_nil
theorem fine_alone : Fine aloneG [] supG (FG ++ (["zq"] : List Str)) SG := fine_of nm_G is_alone (List.nil_sublist _) sup_G
theorem fine_apart1 : Fine apartG [] supG (FG ++ (["zq"] : List Str)) SG := fine_of nm_G is_apart (List.nil_sublist _) sup_G
theorem fine_apart0 : Fine apartG [] [] (FG ++ (["zq"] : List Str)) SG := fine_of nm_G is_apart (List.nil_sublist _) sup_nil
theorem facts_is {b : Book} {tr : List Str} {sup m : List Fact} (h : (derOf b tr sup).1.Perm m) (hw : m.Pairwise fun a b => PySem.W.dataLe false eU a b = true) : factsOf b tr sup = m := sort_eq (fun _ _ => inj_U) h hw
theorem fc_whole : factsOf wholeG QG [] = ([("t", "tcc"), ("x", "cc"), ("y", "cc")] : List Fact) := facts_is (by decide +kernel) (by decide +kernel)
theorem fc_split : factsOf splitG QG [] = ([("t", "tcc"), ("x", "cc"), ("y", "cc"), ("z", "cc")] : List Fact) := facts_is (by decide +kernel) (by decide +kernel)
theorem fc_empty : factsOf emptyG [] [] = [] := facts_is (by decide +kernel) .nil
theorem fc_alone : factsOf aloneG [] supG = supG := facts_is (by decide +kernel) (by decide +kernel)
theorem fc_apart1 : factsOf apartG [] supG = supG := facts_is (by decide +kernel) (by decide +kernel)
theorem fc_apart0 : factsOf apartG [] [] = [] := facts_is (by decide +kernel) .nil
theorem ev_whole : classesOf wholeG (factsOf wholeG QG []) = ([["cc"], ["tcc"]] : List (List Str)) := by rw [fc_whole]; exact sort_eq (fun _ _ => inj_Ss) (by decide +kernel) (by decide +kernel)
theorem ev_split : calmB splitG QG [] = false := by rw [calm_eq fine_split (close_of nm_G is_split sup_nil), fc_split]; decide +kernel
theorem ev_empty : classesOf emptyG (factsOf emptyG [] []) = [] := by rw [fc_empty]; exact sort_eq (fun _ _ => inj_Ss) (by decide +kernel) .nil
theorem ev_empty2 : calmB emptyG [] [] = true := by rw [calm_eq fine_empty (close_of nm_0 is_empty sup_nil), fc_empty]; decide +kernel
theorem ev_alone : classesOf aloneG (factsOf aloneG [] supG) = ([["cc", "tcc"]] : List (List Str)) := by rw [fc_alone]; exact sort_eq (fun _ _ => inj_Ss) (by decide +kernel) (by decide +kernel)
theorem ev_alone2 : calmB aloneG [] supG = true := by rw [calm_eq fine_alone (close_of nm_G is_alone sup_G), fc_alone]; decide +kernel
theorem ev_apart1 : calmB apartG [] supG = false := by rw [calm_eq fine_apart1 (close_of nm_G is_apart sup_G), fc_apart1]; decide +kernel
theorem ev_apart0 : calmB apartG [] [] = true := by rw [calm_eq fine_apart0 (close_of nm_G is_apart sup_nil), fc_apart0]; decide +kernel
end Rb
set_option Elab.async false
set_option linter.all false
set_option maxRecDepth 100000
set_option maxHeartbeats 1000000
namespace Rb
open PySem PySem.Spec PyProof.Rows L2
variable {P : Program} {w : World} {K : PySem.W.Frag} {mg : Str → Option Value} {base : Heap} {f : Addr} {fd : FuncData}
theorem ga_lst {X : Cx} {es : List Expr} {pos : Pos} {k : Nat} {ds : List D} {us : List (Nat × D)} (hc : X.calm = true) (h : GAs X es ds us) (hn : (assignEach es X.env).length = ds.length := by rfl) (hst : (assignEach es X.env).findIdx? (·.1) = none := by rfl) : GA X (.Tuple es k pos) (.list ds) us := fun G H σ v g r Q q => by
  cases r with
  | lst a b => exact w_pg (pg_lst hc pgs_w hn hst) ⟨_, _, rfl, g.seq a, dps_len b, h G H σ _ g b Q q⟩
def R_lgiven : Hp → List SV → SV → Prop := fun _ xs y => xs = [] ∧ y = .d (.list [eK aloneG, eK wholeG, eK splitG])
theorem ee_cat {X : Cx} {ρ : Env} {G H : Hp} {a b : Expr} {pos : Pos} {ds es : List D} (ha : EE X ρ G H a (.d (.tuple ds))) (hb : EE X ρ G H b (.d (.tuple es))) (hz : ds.length + es.length ≤ 100000) : EE X ρ G H (.BinOp a .Add b pos) (.d (.tuple (ds ++ es))) := ee_bin ha hb fun _ _ g => od_cat hz g
def headG : List D := [.tuple (srcG.map eS), .tuple (ptyG.map eP), .tuple []]
theorem ee_bookG {X : Cx} {ρ : Env} {G H : Hp} {a b : Expr} {pos p2 : Pos} {k : Nat} {bs : List Bld} {x : D} (ha : EE X ρ G H a (.d (.tuple headG))) (hb : EE X ρ G H b (.d (.tuple (bs.map eB)))) (hs : starEach [b] X.env = (false, eval b X.env) :: starEach [] X.env) (hx : eK ⟨srcG, ptyG, [], bs⟩ = x) : EE X ρ G H (.BinOp a .Add (.Tuple [b] k p2) pos) (.d x) := by
  rw [← hx]
  exact ee_cat (es := [.tuple (bs.map eB)]) ha (ee_tup (ds := [.tuple (bs.map eB)]) (ea_cons hb ea_nil hs) (Nat.le_of_ble_eq_true rfl)) (Nat.le_of_ble_eq_true rfl)
theorem ee_moreG {X : Cx} {ρ : Env} {G H : Hp} {a b c : Expr} {pos p2 : Pos} {u : Bld} (ha : EE X ρ G H a (.d (.tuple (ownG.map eB)))) (hb : EE X ρ G H b (.d (.tuple (moreG.map eB)))) (hc : EE X ρ G H c (.d (.tuple [eB u]))) : EE X ρ G H (.BinOp (.BinOp a .Add b p2) .Add c pos) (.d (.tuple ((ownG ++ moreG ++ [u]).map eB))) :=
  ee_cat (ds := (ownG ++ moreG).map eB) (es := [eB u]) (ee_cat (ds := ownG.map eB) (es := moreG.map eB) ha hb (Nat.le_of_ble_eq_true rfl)) hc (Nat.le_of_ble_eq_true rfl)
theorem fn_lgiven (F : FD K "_law_given" s_l_given f fd) (hx : mg "_law_given" = some (.ref f)) : Fn P w K mg base "_law_given" 1 0 [] R_lgiven := by
  refine fn_pure F sc_l_given rfl rfl hx (F.bindsN fun _ _ _ _ _ _ us hl => match us, hl with | [], _ => rfl) .nil fun cdv A outer s H E hr G xs y Q hR hl q => ?_
  obtain ⟨rfl, rfl⟩ := hR
  change SS _ _ _ _ _ (List.cons _ _)
  with_reducible refine ss_set (x := .d (.tuple (srcG.map eS))) 0 ?_ ?_ (fun G1 H1 g1 => ?_) ?_ ?_ ?_ ?_
  · exact sc_l_given.nd
  rotate_left 2
  · rfl
  · first | exact Or.inl rfl | exact Or.inr rfl
  · rfl
  · first | exact .inl rfl | exact .inr rfl
  · with_reducible refine ee_con _ _ ?_
    kernel_rfl
  with_reducible refine ss_set (x := .d (.tuple (ptyG.map eP))) 1 ?_ ?_ (fun G2 H2 g2 => ?_) ?_ ?_ ?_ ?_
  · exact sc_l_given.nd
  rotate_left 2
  · rfl
  · first | exact Or.inl rfl | exact Or.inr rfl
  · rfl
  · first | exact .inl rfl | exact .inr rfl
  · with_reducible refine ee_con _ _ ?_
    kernel_rfl
  with_reducible refine ss_set (x := .d (.tuple (ownG.map eB))) 2 ?_ ?_ (fun G3 H3 g3 => ?_) ?_ ?_ ?_ ?_
  · exact sc_l_given.nd
  rotate_left 2
  · rfl
  · first | exact Or.inl rfl | exact Or.inr rfl
  · rfl
  · first | exact .inl rfl | exact .inr rfl
  · with_reducible refine ee_con _ _ ?_
    kernel_rfl
  with_reducible refine ss_set (x := .d (.tuple (moreG.map eB))) 3 ?_ ?_ (fun G4 H4 g4 => ?_) ?_ ?_ ?_ ?_
  · exact sc_l_given.nd
  rotate_left 2
  · rfl
  · first | exact Or.inl rfl | exact Or.inr rfl
  · rfl
  · first | exact .inl rfl | exact .inr rfl
  · with_reducible refine ee_con _ _ ?_
    kernel_rfl
  with_reducible refine ss_set (x := .d (.tuple headG)) 4 ?_ ?_ (fun G5 H5 g5 => ?_) ?_ ?_ ?_ ?_
  · exact sc_l_given.nd
  rotate_left 2
  · rfl
  · first | exact Or.inl rfl | exact Or.inr rfl
  · rfl
  · first | exact .inl rfl | exact .inr rfl
  · with_reducible refine ee_tup (ds := headG) ?_ ?_
    · exact ea_cons (ee_nm 0) (ea_cons (ee_nm 1) (ea_cons (ee_tup (ds := []) ea_nil) ea_nil st_tup) st_name) st_name
    · exact Nat.le_of_ble_eq_true rfl
  with_reducible refine ss_ret (x := .d (.list [eK aloneG, eK wholeG, eK splitG])) (EF.ee ?_) ?_
  rotate_left 1
  · exact fun v G6 H6 g6 r6 => q v G6 H6 (g1.trans (g2.trans (g3.trans (g4.trans (g5.trans g6))))) r6
  with_reducible refine ef_lst ?_ ?_
  rotate_left 1
  · exact Nat.le_of_ble_eq_true rfl
  show EA _ _ _ _ _ [.d (eK aloneG), .d (eK wholeG), .d (eK splitG)]
  refine ea_cons (e := _) (es := _) (xs := _) ?_ ?_ st_bin
  · refine ee_bookG (bs := ownG) (ee_nm 4) (ee_nm 2) st_name rfl
  refine ea_cons (e := _) (es := _) (xs := _) ?_ ?_ st_bin
  · refine ee_bookG (bs := ownG ++ moreG ++ [⟨"cy", some "y", "cc", [], "x"⟩]) (ee_nm 4) (ee_moreG (ee_nm 2) (ee_nm 3) (ee_con _ _ ?_)) st_bin rfl
    kernel_rfl
  refine ea_cons (e := _) (es := []) (xs := []) ?_ ea_nil st_bin
  · refine ee_bookG (bs := ownG ++ moreG ++ [⟨"cy", some "y", "cc", [], "z"⟩]) (ee_nm 4) (ee_moreG (ee_nm 2) (ee_nm 3) (ee_con _ _ ?_)) st_bin rfl
    kernel_rfl
end Rb
set_option Elab.async false
set_option linter.all false
set_option maxRecDepth 100000
set_option maxHeartbeats 1000000
namespace Rb
open PySem PySem.Spec PyProof.Rows L2
variable {P : Program} {w : World} {K : PySem.W.Frag} {mg : Str → Option Value} {base : Heap} {f : Addr} {fd : FuncData}
/-- the scene's end: persons, pairs, forms -/
theorem scene_end (T : Gf mg) (C1 : FnD P w K mg base "_law_draw" 1 2 1 R_draw) (C3 : FnD P w K mg base "_law_pairs" 2 3 6 R_lpairs) (C4 : FnD P w K mg base "_law_forms" 3 2 7 R_lforms) {cdv : Value} {A : Around} {outer : List PySem.Env} {s : Shared} {H0 : Hp} {E : XK} (hr : Room 3 (bX P w K mg base N_l_scene "_law_scene" s_l_scene f cdv A outer s H0 E).A)
    {Fe : Feed} {m scene : Nat} {G H G2 H2 : Hp} {l : Addr} {S Qn Fl : List Str} {bs : List Bld} {o3 o4 o5 o6 o7 o9 : Option SV} {Q : VK} (hS : S ∈ srcLists) (hQ : Qn ∈ ptyLists) (hF : Fl ∈ fileLists) (hb : bs.length ≤ 9 ∧ ∀ u ∈ bs, BldIs S Qn Fl u) (f2 : Fd K Fe m G2 H2) (hm : m + 16 ≤ 1000) (gr2 : Gr G (er Fe.a H) G2 (er Fe.a H2)) (own2 : Own K G2 (er Fe.a H2) l (bs.map eB)) (hl1 : er Fe.a H l = none)
    (q : ∀ v d G3 H3, Gr G (er Fe.a H) G3 (er Fe.a H3) → Fd K Fe (m + 16) G3 H3 → isScene d → Dp K G3 v d → Q v H3) :
    SS (bX P w K mg base N_l_scene "_law_scene" s_l_scene f cdv A outer s H0 E) { nx := fun _ H' => Q .non H', rt := Q } [some (.v (.ref Fe.a)), some (.d (eN S Qn Fl)), some (.d (.int (scene : Nat))), o3, o4, o5, o6, o7, some (.v (.ref l)), o9, none, none, none] G2 H2 ((defBody s_l_scene).drop 8) := by
  have lS := srcs_len S hS
  have lQ := ptys_len Qn hQ
  refine fs_set (P := fun d => ∃ ps : List (Str × Int), d = .tuple (ps.map eP) ∧ ps.map (·.1) = sortBy PyData.str Qn) (k := 3) 10 f2 (by omega) sc_l_scene.nd ?_ fun d3 G3 H3 h3 g3 f3 => ?_
  · refine FE.more (k := Qn.length * 1) (P := fun d => ∃ ps : List (Str × Int), d = .tuple (ps.map eP) ∧ ps.map (·.1) = sortBy PyData.str Qn) ?_ (by omega) fun d h => h
    refine fe_callT (T := "tuple") T.tuple (by decide +kernel) (P := fun d => ∃ ds, d = .list ds ∧ ∃ ps : List (Str × Int), ds = ps.map eP ∧ ps.map (·.1) = sortBy PyData.str Qn) ?_ fun x hx => ?_
    · refine FF.fe (ff_callB (id := "sorted") T.sorted (by decide +kernel) (P := fun d => ∃ ds, d = .list ds ∧ All2 (fun z d => ∃ i : Int, d = .tuple [.str z, .int i]) Qn ds) ?_ fun x hx => ?_)
      · refine FF.fe (ff_map [("_law_name", 11)] Qn .str (fun z => [(11, .str z)]) (fun z d => ∃ i : Int, d = .tuple [.str z, .int i]) sc_l_scene.nd (ei_tup (ee_at 1 (ds := [eSs S, eSs Qn, eSs Fl]) (d := eSs Qn) (ee_nm 1))) (by omega) (fun _ _ i hi => hi) (fun _ _ _ _ _ z _ => ga_nm 11 sc_l_scene.nd) fun _ _ _ _ _ z hz => ?_)
        refine FE.more (k := 0 + ((0 + 1) + 0)) (P := fun d => ∃ ds, d = .tuple ds ∧ Each [(· = .str z), fun d => ∃ i : Int, d = .int i] ds) ?_ (Nat.le_refl _) ?_
        · refine fe_eTup ?_ (Nat.le_of_ble_eq_true rfl)
          refine fa_e (e := _) (es := _) (fe_of (ee_nm 11) rfl) ?_ st_name
          refine fa_e (e := _) (es := _) ?_ fa_e0 st_bin
          refine fe_bin (P := (· = .int 1)) (P' := upto 5) (fe_of ee_int rfl) (fe_draw C1 (hr.mono (by decide)) (ee_nm 0) rfl (by decide) (by decide)) fun x y hx hy => ?_
          subst hx
          obtain ⟨i, _, rfl⟩ := hy
          exact ⟨_, ⟨_, rfl⟩, fun G1 H1 s => od_add (.refl s)⟩
        · rintro d ⟨ds, rfl, _, _, rfl, rfl, _, _, rfl, ⟨i, rfl⟩, rfl⟩
          exact ⟨i, rfl⟩
      · obtain ⟨ds, rfl, hds⟩ := hx
        obtain ⟨ps, rfl, e⟩ := all_persons hds
        have hpl : ps.length = 3 := by rw [← lQ, ← e, List.length_map]
        exact ⟨_, ⟨sortBy eP ps, rfl, by rw [sort_names (nm := fun p : Str × Int => p.1) (fun h => le_P h), e]⟩, fun G1 H1 s => cf_sorted hr.units eP_alike (PySem.W.Sortable.tuples fun x => ⟨_, _, rfl⟩) (by omega) eP_depth (.refl s)⟩
    · obtain ⟨_, rfl, ps, rfl, e⟩ := hx
      exact ⟨_, ⟨ps, rfl, e⟩, fun G1 H1 s => cd_tuple (.refl s)⟩
  obtain ⟨ps, rfl, hps⟩ := h3
  refine fs_set (P := isPairs S) (k := 6) 12 f3 (by omega) sc_l_scene.nd ?_ fun d4 G4 H4 h4 g4 f4 => ?_
  · exact fe_call C3 (hr.mono (by decide)) (ea_cons (ee_nm 0) (ea_cons (ee_at 0 (ds := [eSs S, eSs Qn, eSs Fl]) (d := eSs S) (ee_nm 1)) (ea_cons (ee_nm 2) ea_nil))) ⟨S, scene, rfl, lS, rfl⟩
  obtain ⟨us, rfl, hu1, hu2⟩ := h4
  refine fs_frz 8 f4 ((own2.gr g3).gr g4) fun G5 fr f5 => ?_
  have gr5 := fr (gr2.trans (g3.trans g4)) hl1
  refine fs_ret (k := 7) f5 (by omega) (P := isScene) ?_ fun v d G6 H6 g6 f6 pd r6 => q v d G6 H6 (gr5.trans g6) (f6.more (by omega)) pd r6
  refine FE.more (k := (7 + (0 + (0 + (0 + 0)))) + (0 + 0)) (P := fun d => ∃ ds, d = .tuple ds ∧ Each [fun d => ∃ ds, d = .tuple ds ∧ Each [isForms S, (· = .tuple (ps.map eP)), (· = .tuple (us.map eU)), (· = .tuple (bs.map eB))] ds, (· = eN S Qn Fl)] ds) ?_ (Nat.le_refl _) ?_
  · refine fe_eTup ?_ (Nat.le_of_ble_eq_true rfl)
    refine fa_e (e := _) (es := _) ?_ ?_ st_tup
    · refine fe_eTup ?_ (Nat.le_of_ble_eq_true rfl)
      refine fa_e (e := _) (es := _) ?_ ?_ st_call
      · exact fe_call C4 hr (ea_cons (ee_nm 0) (ea_cons (ee_at 0 (ds := [eSs S, eSs Qn, eSs Fl]) (d := eSs S) (ee_nm 1)) ea_nil)) ⟨S, rfl, lS, rfl⟩
      refine fa_e (e := _) (es := _) (fe_of (ee_nm 10) rfl) ?_ st_name
      refine fa_e (e := _) (es := _) (fe_of (ee_nm 12) rfl) ?_ st_name
      exact fa_e (e := _) (es := _) (fe_of (ee_tupOf T.tuple (ee_nm 8)) rfl) fa_e0 st_call
    · exact fa_e (e := _) (es := _) (fe_of (ee_nm 1) rfl) fa_e0 st_name
  · rintro d ⟨ds, rfl, _, _, rfl, ⟨ds, rfl, _, _, rfl, ⟨srcs, rfl, hsr⟩, _, _, rfl, rfl, _, _, rfl, rfl, _, _, rfl, rfl, rfl⟩, _, _, rfl, rfl, rfl⟩
    exact ⟨S, Qn, Fl, ⟨srcs, ps, us, bs⟩, hS, hQ, hF, ⟨hsr, hps, ⟨hu1, hu2⟩, hb⟩, rfl⟩
end Rb
set_option Elab.async false
set_option linter.all false
set_option maxRecDepth 100000
set_option maxHeartbeats 1000000
namespace Rb
open PySem PySem.Spec PyProof.Rows L2
variable {P : Program} {w : World} {K : PySem.W.Frag} {mg : Str → Option Value} {base : Heap} {f : Addr} {fd : FuncData}
/-- the rows become builds -/
theorem scene_builds (T : Gf mg) (C1 : FnD P w K mg base "_law_draw" 1 2 1 R_draw) (C2 : Fn P w K mg base "_law_build" 1 2 [] R_lbuild) (C3 : FnD P w K mg base "_law_pairs" 2 3 6 R_lpairs) (C4 : FnD P w K mg base "_law_forms" 3 2 7 R_lforms) {cdv : Value} {A : Around} {outer : List PySem.Env} {s : Shared} {H0 : Hp} {E : XK} (hr : Room 3 (bX P w K mg base N_l_scene "_law_scene" s_l_scene f cdv A outer s H0 E).A)
    {Fe : Feed} {m scene : Nat} {G H G2 H2 : Hp} {lr : Addr} {S Qn Fl : List Str} {ds : List D} {o3 o5 o6 o7 : Option SV} {Q : VK} (hS : S ∈ srcLists) (hQ : Qn ∈ ptyLists) (hF : Fl ∈ fileLists) (hds : ds.length ≤ 9 ∧ ∀ d ∈ ds, isRow d) (f2 : Fd K Fe m G2 H2) (hm : m + 17 ≤ 1000) (gr2 : Gr G (er Fe.a H) G2 (er Fe.a H2)) (own2 : Own K G2 (er Fe.a H2) lr ds) (hl1 : er Fe.a H lr = none)
    (q : ∀ v d G3 H3, Gr G (er Fe.a H) G3 (er Fe.a H3) → Fd K Fe (m + 17) G3 H3 → isScene d → Dp K G3 v d → Q v H3) :
    SS (bX P w K mg base N_l_scene "_law_scene" s_l_scene f cdv A outer s H0 E) { nx := fun _ H' => Q .non H', rt := Q } [some (.v (.ref Fe.a)), some (.d (eN S Qn Fl)), some (.d (.int (scene : Nat))), o3, some (.v (.ref lr)), o5, o6, o7, none, none, none, none, none] G2 H2 ((defBody s_l_scene).drop 5) := by
  have lS := srcs_len S hS
  have lQ := ptys_len Qn hQ
  have lF := files_len' Fl hF
  have tx := txt_is hS hQ hF
  have hu65 : (bX P w K mg base N_l_scene "_law_scene" s_l_scene f cdv A outer s H0 E).A.units + 65 < cLine := u65 hr
  refine fs_set (P := upto (ds.length + 1)) (k := 1) 7 f2 (by omega) sc_l_scene.nd ?_ fun d3 G3 H3 h3 g3 f3 => ?_
  · refine fe_drawE C1 (hr.mono (by decide)) (ee_nm 0) ?_ (by omega) (by omega) st_bin
    exact ee_bin (x := .d (.int (ds.length : Nat))) (ee_ownO 4 own2 rfl fun Gx sx => ee_lenL T.len (ee_nm 4)) ee_int fun _ _ g => od_add g
  obtain ⟨spot, hspot, rfl⟩ := h3
  refine fs_frz 4 f3 (own2.gr g3) fun G4 fr f4 => ?_
  have gr4 := fr (gr2.trans g3) hl1
  obtain ⟨rs, rfl, hrs⟩ := lift_list (g := eR) (R := RowOk) ds fun d hd => by
    obtain ⟨r, h1, h2⟩ := hds.2 d hd
    exact ⟨r, h2, h1⟩
  have hlen := hds.1
  rw [List.length_map] at hlen
  refine ss_newL 8 sc_l_scene.nd fun lb G5 H5 g5 hb0 own5 => ?_
  have f5 := f4.up g5
  have gr5 := gr4.trans (g5.er f4)
  have hb1 : er Fe.a H lb = none := gr4.none' (er_none hb0)
  refine ss_for (xs := (rs.drop spot ++ rs.take spot).map eR) (ei_list (EE.to (ee_bin (x := .d (.list (cutD (rs.map eR) (some ((spot : Nat) : Int)) none))) (y := .d (.list (cutD (rs.map eR) none (some ((spot : Nat) : Int))))) (EF.ee (ef_slL (ee_nm 4) (eo_at (ee_nm 7)) eo_no)) (EF.ee (ef_slL (ee_nm 4) eo_no (eo_at (ee_nm 7)))) fun _ _ g => od_catL ?_ g) ?_)) fun G6 H6 g6 => ⟨fun i ρ G' H' => ∃ (o5 o9 : Option SV) (bs : List Bld), ρ = [some (.v (.ref Fe.a)), some (.d (eN S Qn Fl)), some (.d (.int (scene : Nat))), o3, some (.d (.list (rs.map eR))), o5, o6, some (.d (.int (spot : Nat))), some (.v (.ref lb)), o9, none, none, none] ∧ Same G6 G' ∧ Gr G4 H3 G' H' ∧ bs.length ≤ i ∧ (∀ u ∈ bs, BldIs S Qn Fl u) ∧ Own K G' H' lb (bs.map eB),
    ⟨o5, none, [], rfl, .refl _, g5.trans g6, Nat.le_refl _, (fun u hu => by cases hu), own5.gr g6⟩, fun i ρ G1 H1 h => h.choose_spec.choose_spec.choose_spec.2.1, ?_, ?_⟩
  · rw [cutD_from, cutD_to, List.length_drop, List.length_take, List.length_map]
    omega
  · rw [cutD_from, cutD_to, List.map_append, List.map_drop, List.map_take]
  · rintro i d ρ G7 H7 hd ⟨o5', o9, bs, rfl, s67, gr7, hbl, hbs, own7⟩ G8 H8 g8
    rw [List.getElem?_map] at hd
    cases hn : (rs.drop spot ++ rs.take spot)[i]? with
    | none => rw [hn] at hd; cases hd
    | some r =>
      rw [hn] at hd
      cases hd
      have hr' : RowOk r := hrs r (by
        rcases List.mem_append.mp (List.mem_of_getElem? hn) with h | h
        · exact List.mem_of_mem_drop h
        · exact List.mem_of_mem_take h)
      have hil : i < 9 := by
        have := (List.getElem?_eq_some_iff.mp hn).1
        rw [List.length_append, List.length_drop, List.length_take] at this
        omega
      have hB := bld_is (S := S) (Q := Qn) (Fl := Fl) hr' lS lQ lF
      refine ⟨[(5, eR r)], ga_nm 5 sc_l_scene.nd, ?_⟩
      refine ss_set (x := .d (eB (bldOf S Qn Fl r))) 9 sc_l_scene.nd (ee_call C2 (hr.mono (by decide)) (ea_cons (ee_nm 5) (ea_cons (ee_nm 1) ea_nil)) fun _ _ _ => ⟨r, S, Qn, Fl, rfl, hr', lS, lQ, lF, rfl⟩) fun G9 H9 g9 => ?_
      have own9 := own7.gr (g8.trans g9)
      refine ss_if1 (k := !((bs.map eB).any fun z => PyData.eqv z (eB (bldOf S Qn Fl r)))) (et_ownO 8 own9 fun Gx sx => et_cmp (ee_nm 9) (ee_nm 8) fun _ _ g => od_ninD hu65 (shaped_B tx hB) (shaped_LB tx hbs) g) (fun _ Ga Ha ga => ?_) fun _ Ga Ha ga => ?_
      · refine ss_appO (d := eB (bldOf S Qn Fl r)) (own9.gr ga) (ee_nm 8) (ee_nm 9) (by rw [List.length_map]; omega) fun vs v Gb Hb gb w1 w2 => ?_
        refine ss_out fun Gc Hc gc => ss_turn ⟨_, _, bs ++ [bldOf S Qn Fl r], rfl, s67.trans (g8.g.trans (g9.g.trans (ga.g.trans (gb.g.trans gc.g)))), ((gr7.trans (g8.trans (g9.trans (ga.trans gb)))).mut hb0 w1.off).trans gc, by rw [List.length_append]; simp; omega, fun u hu => ?_, ?_⟩
        · rcases List.mem_append.mp hu with hu | hu
          · exact hbs u hu
          · rw [List.mem_singleton.mp hu]
            exact hB
        · rw [List.map_append]
          exact w2.gr gc
      · exact ss_turn ⟨_, _, bs, rfl, s67.trans (g8.g.trans (g9.g.trans ga.g)), gr7.trans (g8.trans (g9.trans ga)), by omega, hbs, own9.gr ga⟩
  · rintro ρ G7 H7 ⟨o5', o9, bs, rfl, s67, gr7, hbl, hbs, own7⟩
    rw [List.length_map, List.length_append, List.length_drop, List.length_take] at hbl
    have f7 := f4.up gr7
    exact scene_end T C1 C3 C4 hr (m := m + 1) hS hQ hF ⟨by omega, hbs⟩ f7 (by omega) (gr4.trans (gr7.er f4)) (own7.feed f7) hb1 fun v d G8 H8 g8 f8 => q v d G8 H8 g8 (f8.more (by omega))
end Rb
set_option Elab.async false
set_option linter.all false
set_option maxRecDepth 100000
set_option maxHeartbeats 8000000
namespace Rb
open PySem PySem.Spec PyProof.Rows L2
variable {P : Program} {w : World} {K : PySem.W.Frag} {mg : Str → Option Value} {base : Heap} {f : Addr} {fd : FuncData}
def rowsOf : Nat → List Row
  | 0 => [⟨0, none, 0, [], 0⟩, ⟨2, some 0, 0, [], 0⟩]
  | 1 => [⟨0, none, 0, [], 0⟩, ⟨2, some 0, 0, [], 0⟩, ⟨1, none, 1, [], 1⟩, ⟨2, some 1, 0, [], 2⟩, ⟨2, some 2, 0, [], 0⟩]
  | 2 => [⟨0, none, 0, [], 0⟩, ⟨2, some 0, 0, [], 0⟩, ⟨1, none, 1, [], 1⟩, ⟨2, some 1, 0, [], 2⟩, ⟨2, some 2, 0, [], 6⟩]
  | 3 => [⟨0, none, 0, [], 0⟩, ⟨1, none, 1, [], 1⟩, ⟨0, some 0, 0, [], 3⟩, ⟨1, some 1, 1, [], 3⟩, ⟨2, some 0, 2, [], 4⟩, ⟨2, some 1, 2, [], 5⟩]
  | 4 => [⟨0, none, 0, [], 0⟩, ⟨1, some 0, 2, [], 3⟩, ⟨2, some 0, 2, [], 4⟩]
  | 5 => [⟨0, none, 0, [], 0⟩, ⟨1, some 0, 2, [], 3⟩, ⟨2, some 0, 3, [3], 4⟩, ⟨2, some 0, 3, [5], 6⟩, ⟨1, none, 2, [], 5⟩, ⟨0, some 0, 4, [3, 4], 7⟩]
  | 6 => [⟨0, none, 0, [], 0⟩, ⟨1, some 0, 1, [], 1⟩, ⟨2, some 1, 2, [], 2⟩, ⟨0, some 1, 3, [2], 3⟩]
  | 7 => [⟨0, none, 0, [], 0⟩, ⟨0, none, 1, [], 0⟩, ⟨1, none, 1, [], 1⟩, ⟨1, none, 2, [], 1⟩, ⟨2, some 0, 2, [], 3⟩]
  | 8 => [⟨0, none, 0, [], 0⟩, ⟨0, none, 1, [], 0⟩, ⟨1, none, 1, [], 2⟩, ⟨2, some 2, 2, [], 3⟩, ⟨1, some 2, 2, [], 4⟩]
  | 9 => [⟨1, some 0, 0, [], 1⟩, ⟨2, some 1, 0, [], 0⟩, ⟨0, some 0, 0, [], 0⟩]
  | 10 => []
  | _ => []
theorem rows_ok {n : Nat} : (rowsOf n).length ≤ 6 ∧ ∀ r ∈ rowsOf n, RowOk r := by
  have key : ∀ l : List Row, (l.length ≤ 6 ∧ ∀ r ∈ l, r.party < 3 ∧ (∀ c ∈ r.comp, c < 8) ∧ r.src < 5 ∧ ((∀ k ∈ r.parts, k < 8) ∧ r.parts.length ≤ 2) ∧ r.file < 8) → l.length ≤ 6 ∧ ∀ r ∈ l, RowOk r := fun l h => ⟨h.1, fun r hr => by
    obtain ⟨h1, h2, h3, h4, h5⟩ := h.2 r hr
    exact ⟨h1, fun c hc => h2 c hc, h3, h4, h5⟩⟩
  match n with
  | 0 => exact key _ (by decide)
  | 1 => exact key _ (by decide)
  | 2 => exact key _ (by decide)
  | 3 => exact key _ (by decide)
  | 4 => exact key _ (by decide)
  | 5 => exact key _ (by decide)
  | 6 => exact key _ (by decide)
  | 7 => exact key _ (by decide)
  | 8 => exact key _ (by decide)
  | 9 => exact key _ (by decide)
  | 10 => exact key _ (by decide)
  | _ + 11 => exact ⟨Nat.zero_le _, fun r hr => by cases hr⟩
def R_lrows : Hp → List SV → SV → Prop := fun _ xs y => ∃ n : Nat, xs = [.d (.int (n : Nat))] ∧ n < 11 ∧ y = .d (.list ((rowsOf n).map eR))
theorem ee_conL {X : Cx} {ρ : Env} {G H : Hp} {pos : Pos} {es : List Expr} {ds : List D} (h : cDs es = some ds) (hl : ds.length ≤ 100000) : EE X ρ G H (.List es pos) (.d (.list ds)) := EF.ee (ef_con h hl)
theorem z_cat {X : Cx} {ρ : Env} {G H : Hp} {a b : Expr} {pos : Pos} {ds es : List D} (ha : EE X ρ G H a (.d (.list ds))) (hb : EE X ρ G H b (.d (.list es))) (hz : ds.length + es.length ≤ 100000) : EE X ρ G H (.BinOp a .Add b pos) (.d (.list (ds ++ es))) := ee_bin ha hb fun _ _ g => od_catL hz g
theorem fn_lrows (F : FD K "_law_rows" s_l_rows f fd) (hx : mg "_law_rows" = some (.ref f)) : Fn P w K mg base "_law_rows" 1 1 [] R_lrows := by
  refine fn_pure F sc_l_rows rfl rfl hx (F.bindsN fun _ _ _ _ _ _ us hl => match us, hl with | [_], _ => rfl) .nil fun cdv A outer s H E hr G xs y Q hR hl q => ?_
  obtain ⟨n, rfl, hn, rfl⟩ := hR
  have h0 : cDs (match (defBody s_l_rows) with | .Assign _ (.List es _) _ :: _ => es | _ => []) = some (([⟨0, none, 0, [], 0⟩] : List Row).map eR) := by kernel_rfl
  refine ss_set (x := .d (.list (([⟨0, none, 0, [], 0⟩] : List Row).map eR))) 1 sc_l_rows.nd (EF.ee (ef_con h0 ?_)) fun G0 H0 g0 => ?_
  · first | exact Nat.le_of_ble_eq_true rfl | decide
  refine ss_if1 (k := decide (n = 0)) (ET.to (et_cmp (ee_nm 0) ee_int fun _ _ g => od_eqI g) ?_) (fun h G1 H1 g1 => ?_) fun h1 G1 H1 g1 => ?_
  · refine decide_eq_decide.mpr ?_
    omega
  · cases of_decide_eq_true h
    refine ss_ret (x := .d (.list ((rowsOf 0).map eR))) ?_ fun v Gb Hb g r => q v Gb Hb (g0.trans (g1.trans g)) r
    · refine EE.to (x := .d (.list (([⟨0, none, 0, [], 0⟩] : List Row).map eR ++ ([⟨2, some 0, 0, [], 0⟩] : List Row).map eR))) ?_ ?_
      · refine z_cat ?_ ?_ ?_
        · exact ee_nm 1
        · refine ee_conL ?_ ?_
          · kernel_rfl
          · first | exact Nat.le_of_ble_eq_true rfl | decide
        · first | exact Nat.le_of_ble_eq_true rfl | decide
      · kernel_rfl
  refine ss_if1 (k := decide (n = 1 ∨ n = 2)) (ET.to (et_cmp (ee_nm 0) (ee_con _ (.tuple ([1, 2].map .int)) ?_) fun _ _ g => od_inTI (xs := [1, 2]) g) ?_) (fun h G2 H2 g2 => ?_) fun h2 G2 H2 g2 => ?_
  · kernel_rfl
  · refine decide_eq_decide.mpr ?_
    simp only [List.mem_cons, List.not_mem_nil, or_false]
    omega
  · have hk := of_decide_eq_true h
    have eL : PyData.list ((rowsOf n).map eR) = .list (([⟨0, none, 0, [], 0⟩] : List Row).map eR ++ (([⟨2, some 0, 0, [], 0⟩, ⟨1, none, 1, [], 1⟩, ⟨2, some 1, 0, [], 2⟩] : List Row).map eR ++ [.tuple [.int 2, .int 2, .int 0, .tuple [], .int (6 * ((n : Nat) - 1 : Int))]])) := by
      rcases hk with rfl | rfl
      · rfl
      · rfl
    refine ss_ret (x := .d (.list ((rowsOf n).map eR))) ?_ fun v Gb Hb g r => q v Gb Hb (g0.trans (g1.trans (g2.trans g))) r
    rw [eL]
    refine z_cat ?_ ?_ ?_
    · exact ee_nm 1
    · refine EF.ee ?_
      with_reducible refine ef_lst ?_ ?_
      · refine ea_cons (e := _) (es := _) (xs := _) ?_ ?_ ?_
        · refine ee_con _ _ ?_
          kernel_rfl
        · refine ea_cons (e := _) (es := _) (xs := _) ?_ ?_ ?_
          · refine ee_con _ _ ?_
            kernel_rfl
          · refine ea_cons (e := _) (es := _) (xs := _) ?_ ?_ ?_
            · refine ee_con _ _ ?_
              kernel_rfl
            · refine ea_cons (e := _) (es := []) (xs := []) ?_ ?_ ?_
              · with_reducible refine ee_tup (ds := [.int 2, .int 2, .int 0, .tuple [], .int (6 * ((n : Nat) - 1 : Int))]) ?_ ?_
                · refine ea_cons (e := _) (es := _) (xs := _) ee_int ?_ st_con
                  refine ea_cons (e := _) (es := _) (xs := _) ee_int ?_ st_con
                  refine ea_cons (e := _) (es := _) (xs := _) ee_int ?_ st_con
                  refine ea_cons (e := _) (es := _) (xs := _) ?_ ?_ st_tup
                  · refine ee_con _ _ ?_
                    kernel_rfl
                  refine ea_cons (e := _) (es := []) (xs := []) ?_ ea_nil st_bin
                  refine ee_bin ee_int (ee_bin (ee_nm 0) ee_int fun _ _ g => od_sub g) fun _ _ g => od_mul (.inl ?_) g
                  decide
                · first | exact Nat.le_of_ble_eq_true rfl | decide
              · exact ea_nil
              · exact st_tup
            · exact st_tup
          · exact st_tup
        · exact st_tup
      · first | exact Nat.le_of_ble_eq_true rfl | decide
    · first | exact Nat.le_of_ble_eq_true rfl | decide
  refine ss_if1 (k := decide (n = 3)) (ET.to (et_cmp (ee_nm 0) ee_int fun _ _ g => od_eqI g) ?_) (fun h G3 H3 g3 => ?_) fun h3 G3 H3 g3 => ?_
  · refine decide_eq_decide.mpr ?_
    omega
  · cases of_decide_eq_true h
    refine ss_set (x := .d (.list (([⟨0, none, 0, [], 0⟩, ⟨1, none, 1, [], 1⟩, ⟨0, some 0, 0, [], 3⟩, ⟨1, some 1, 1, [], 3⟩] : List Row).map eR))) 1 sc_l_rows.nd ?_ fun Ga Ha ga => ?_
    · refine EE.to (x := .d (.list (([⟨0, none, 0, [], 0⟩] : List Row).map eR ++ ([⟨1, none, 1, [], 1⟩, ⟨0, some 0, 0, [], 3⟩, ⟨1, some 1, 1, [], 3⟩] : List Row).map eR))) ?_ ?_
      · refine z_cat ?_ ?_ ?_
        · exact ee_nm 1
        · refine ee_conL ?_ ?_
          · kernel_rfl
          · first | exact Nat.le_of_ble_eq_true rfl | decide
        · first | exact Nat.le_of_ble_eq_true rfl | decide
      · kernel_rfl
    refine ss_ret (x := .d (.list ((rowsOf 3).map eR))) ?_ fun v Gb Hb g r => q v Gb Hb (g0.trans (g1.trans (g2.trans (g3.trans (ga.trans g))))) r
    · refine EE.to (x := .d (.list (([⟨0, none, 0, [], 0⟩, ⟨1, none, 1, [], 1⟩, ⟨0, some 0, 0, [], 3⟩, ⟨1, some 1, 1, [], 3⟩] : List Row).map eR ++ ([⟨2, some 0, 2, [], 4⟩, ⟨2, some 1, 2, [], 5⟩] : List Row).map eR))) ?_ ?_
      · refine z_cat ?_ ?_ ?_
        · exact ee_nm 1
        · refine ee_conL ?_ ?_
          · kernel_rfl
          · first | exact Nat.le_of_ble_eq_true rfl | decide
        · first | exact Nat.le_of_ble_eq_true rfl | decide
      · kernel_rfl
  refine ss_if1 (k := decide (n = 4)) (ET.to (et_cmp (ee_nm 0) ee_int fun _ _ g => od_eqI g) ?_) (fun h G4 H4 g4 => ?_) fun h4 G4 H4 g4 => ?_
  · refine decide_eq_decide.mpr ?_
    omega
  · cases of_decide_eq_true h
    refine ss_ret (x := .d (.list ((rowsOf 4).map eR))) ?_ fun v Gb Hb g r => q v Gb Hb (g0.trans (g1.trans (g2.trans (g3.trans (g4.trans g))))) r
    · refine EE.to (x := .d (.list (([⟨0, none, 0, [], 0⟩] : List Row).map eR ++ ([⟨1, some 0, 2, [], 3⟩, ⟨2, some 0, 2, [], 4⟩] : List Row).map eR))) ?_ ?_
      · refine z_cat ?_ ?_ ?_
        · exact ee_nm 1
        · refine ee_conL ?_ ?_
          · kernel_rfl
          · first | exact Nat.le_of_ble_eq_true rfl | decide
        · first | exact Nat.le_of_ble_eq_true rfl | decide
      · kernel_rfl
  refine ss_if1 (k := decide (n = 5)) (ET.to (et_cmp (ee_nm 0) ee_int fun _ _ g => od_eqI g) ?_) (fun h G5 H5 g5 => ?_) fun h5 G5 H5 g5 => ?_
  · refine decide_eq_decide.mpr ?_
    omega
  · cases of_decide_eq_true h
    refine ss_set (x := .d (.list (([⟨0, none, 0, [], 0⟩, ⟨1, some 0, 2, [], 3⟩, ⟨2, some 0, 3, [3], 4⟩, ⟨2, some 0, 3, [5], 6⟩] : List Row).map eR))) 1 sc_l_rows.nd ?_ fun Ga Ha ga => ?_
    · refine EE.to (x := .d (.list (([⟨0, none, 0, [], 0⟩] : List Row).map eR ++ ([⟨1, some 0, 2, [], 3⟩, ⟨2, some 0, 3, [3], 4⟩, ⟨2, some 0, 3, [5], 6⟩] : List Row).map eR))) ?_ ?_
      · refine z_cat ?_ ?_ ?_
        · exact ee_nm 1
        · refine ee_conL ?_ ?_
          · kernel_rfl
          · first | exact Nat.le_of_ble_eq_true rfl | decide
        · first | exact Nat.le_of_ble_eq_true rfl | decide
      · kernel_rfl
    refine ss_ret (x := .d (.list ((rowsOf 5).map eR))) ?_ fun v Gb Hb g r => q v Gb Hb (g0.trans (g1.trans (g2.trans (g3.trans (g4.trans (g5.trans (ga.trans g))))))) r
    · refine EE.to (x := .d (.list (([⟨0, none, 0, [], 0⟩, ⟨1, some 0, 2, [], 3⟩, ⟨2, some 0, 3, [3], 4⟩, ⟨2, some 0, 3, [5], 6⟩] : List Row).map eR ++ ([⟨1, none, 2, [], 5⟩, ⟨0, some 0, 4, [3, 4], 7⟩] : List Row).map eR))) ?_ ?_
      · refine z_cat ?_ ?_ ?_
        · exact ee_nm 1
        · refine ee_conL ?_ ?_
          · kernel_rfl
          · first | exact Nat.le_of_ble_eq_true rfl | decide
        · first | exact Nat.le_of_ble_eq_true rfl | decide
      · kernel_rfl
  refine ss_if1 (k := decide (n = 6)) (ET.to (et_cmp (ee_nm 0) ee_int fun _ _ g => od_eqI g) ?_) (fun h G6 H6 g6 => ?_) fun h6 G6 H6 g6 => ?_
  · refine decide_eq_decide.mpr ?_
    omega
  · cases of_decide_eq_true h
    refine ss_ret (x := .d (.list ((rowsOf 6).map eR))) ?_ fun v Gb Hb g r => q v Gb Hb (g0.trans (g1.trans (g2.trans (g3.trans (g4.trans (g5.trans (g6.trans g))))))) r
    · refine EE.to (x := .d (.list (([⟨0, none, 0, [], 0⟩] : List Row).map eR ++ ([⟨1, some 0, 1, [], 1⟩, ⟨2, some 1, 2, [], 2⟩, ⟨0, some 1, 3, [2], 3⟩] : List Row).map eR))) ?_ ?_
      · refine z_cat ?_ ?_ ?_
        · exact ee_nm 1
        · refine ee_conL ?_ ?_
          · kernel_rfl
          · first | exact Nat.le_of_ble_eq_true rfl | decide
        · first | exact Nat.le_of_ble_eq_true rfl | decide
      · kernel_rfl
  refine ss_if1 (k := decide (n = 7)) (ET.to (et_cmp (ee_nm 0) ee_int fun _ _ g => od_eqI g) ?_) (fun h G7 H7 g7 => ?_) fun h7 G7 H7 g7 => ?_
  · refine decide_eq_decide.mpr ?_
    omega
  · cases of_decide_eq_true h
    refine ss_ret (x := .d (.list ((rowsOf 7).map eR))) ?_ fun v Gb Hb g r => q v Gb Hb (g0.trans (g1.trans (g2.trans (g3.trans (g4.trans (g5.trans (g6.trans (g7.trans g)))))))) r
    · refine EE.to (x := .d (.list (([⟨0, none, 0, [], 0⟩] : List Row).map eR ++ ([⟨0, none, 1, [], 0⟩, ⟨1, none, 1, [], 1⟩, ⟨1, none, 2, [], 1⟩, ⟨2, some 0, 2, [], 3⟩] : List Row).map eR))) ?_ ?_
      · refine z_cat ?_ ?_ ?_
        · exact ee_nm 1
        · refine ee_conL ?_ ?_
          · kernel_rfl
          · first | exact Nat.le_of_ble_eq_true rfl | decide
        · first | exact Nat.le_of_ble_eq_true rfl | decide
      · kernel_rfl
  refine ss_if1 (k := decide (n = 8)) (ET.to (et_cmp (ee_nm 0) ee_int fun _ _ g => od_eqI g) ?_) (fun h G8 H8 g8 => ?_) fun h8 G8 H8 g8 => ?_
  · refine decide_eq_decide.mpr ?_
    omega
  · cases of_decide_eq_true h
    refine ss_ret (x := .d (.list ((rowsOf 8).map eR))) ?_ fun v Gb Hb g r => q v Gb Hb (g0.trans (g1.trans (g2.trans (g3.trans (g4.trans (g5.trans (g6.trans (g7.trans (g8.trans g))))))))) r
    · refine EE.to (x := .d (.list (([⟨0, none, 0, [], 0⟩] : List Row).map eR ++ ([⟨0, none, 1, [], 0⟩, ⟨1, none, 1, [], 2⟩, ⟨2, some 2, 2, [], 3⟩, ⟨1, some 2, 2, [], 4⟩] : List Row).map eR))) ?_ ?_
      · refine z_cat ?_ ?_ ?_
        · exact ee_nm 1
        · refine ee_conL ?_ ?_
          · kernel_rfl
          · first | exact Nat.le_of_ble_eq_true rfl | decide
        · first | exact Nat.le_of_ble_eq_true rfl | decide
      · kernel_rfl
  with_reducible refine ss_if1 (k := decide (n = 9)) ?_ (fun h G9 H9 g9 => ?_) fun h9 G9 H9 g9 => ?_
  · refine ET.to (et_cmp (ee_nm 0) ee_int fun _ _ g => od_eqI g) ?_
    refine decide_eq_decide.mpr ?_
    omega
  · cases of_decide_eq_true h
    with_reducible refine ss_ret (x := .d (.list ((rowsOf 9).map eR))) ?_ ?_
    · with_reducible refine ee_conL ?_ ?_
      · kernel_rfl
      · first | exact Nat.le_of_ble_eq_true rfl | decide
    · exact fun v Gb Hb g r => q v Gb Hb (g0.trans (g1.trans (g2.trans (g3.trans (g4.trans (g5.trans (g6.trans (g7.trans (g8.trans (g9.trans g)))))))))) r
  have e10 : n = 10 := by
    simp only [decide_eq_false_iff_not, not_or] at h1 h2 h3 h4 h5 h6 h7 h8 h9
    omega
  subst e10
  with_reducible refine ss_ret (x := .d (.list ((rowsOf 10).map eR))) ?_ ?_
  · with_reducible refine ee_conL ?_ ?_
    · kernel_rfl
    · first | exact Nat.le_of_ble_eq_true rfl | decide
  · exact fun v Gb Hb g r => q v Gb Hb (g0.trans (g1.trans (g2.trans (g3.trans (g4.trans (g5.trans (g6.trans (g7.trans (g8.trans (g9.trans g)))))))))) r
end Rb
set_option Elab.async false
set_option linter.all false
set_option maxRecDepth 100000
set_option maxHeartbeats 1000000
namespace Rb
open PySem PySem.Spec PyProof.Rows L2
variable {P : Program} {w : World} {K : PySem.W.Frag} {mg : Str → Option Value} {base : Heap} {f : Addr} {fd : FuncData}
theorem fn_lrow (T : Gf mg) (F : FD K "_law_row" s_l_row f fd) (hx : mg "_law_row" = some (.ref f)) (C1 : FnD P w K mg base "_law_draw" 1 2 1 R_draw) : FnD P w K mg base "_law_row" 2 1 7 R_lrow := by
  refine fn_feed F sc_l_row rfl rfl hx (F.bindsN fun _ _ _ _ _ _ us hl => match us, hl with | [_], _ => rfl) fun cdv A outer s H E hr Fe u0 G xs Pd Q hR hl hf hu q => ?_
  obtain ⟨rfl, rfl⟩ := hR
  refine fs_set (P := upto 5) (k := 1) 1 hf (by omega) sc_l_row.nd ?_ fun d1 G1 H1 h1 g1 f1 => ?_
  · exact fe_draw (n := 5) C1 hr (ee_nm 0) rfl (by decide) (by decide)
  obtain ⟨role, hrole, rfl⟩ := h1
  refine fs_if1 (S := fun _ => True) (k := 1 + 0) f1 (by omega) ?_ (fun _ G2 H2 g2 f2 => ?_) fun _ G2 H2 g2 f2 => ?_
  · refine ft_cmp (fe_draw (n := 3) C1 hr (ee_nm 0) rfl (by decide) (by decide)) (fe_of (P := (· = .int 0)) ee_int rfl) fun x y hx hy => ?_
    obtain ⟨i, hi, rfl⟩ := hx
    subst hy
    exact ⟨_, trivial, fun G1 H1 s => od_eqI (.refl s)⟩
  · refine fs_ret (k := 2) f2 (by omega) (P := isRow) ?_ fun v d G3 H3 g3 f3 pd r3 => q v d G3 H3 (g1.trans (g2.trans g3)) (f3.more (by omega)) pd r3
    refine FE.more (k := 1 + (0 + (0 + (0 + (1 + 0))))) (P := fun d => ∃ ds, d = .tuple ds ∧ Each [upto 3, (· = .int (-1)), (· = .int (role : Nat)), (· = .tuple []), upto 8] ds) ?_ (by decide) ?_
    · refine fe_eTup ?_ (Nat.le_of_ble_eq_true rfl)
      refine fa_e (e := _) (es := _) ?_ ?_ st_call
      · exact fe_draw (n := 3) C1 hr (ee_nm 0) rfl (by decide) (by decide)
      refine fa_e (e := _) (es := _) ?_ ?_ st_un
      · exact fe_of (ee_neg ee_int) rfl
      refine fa_e (e := _) (es := _) ?_ ?_ st_name
      · exact fe_of (ee_nm 1) rfl
      refine fa_e (e := _) (es := _) ?_ ?_ st_tup
      · exact fe_of (ee_tup (ds := []) ea_nil) rfl
      refine fa_e (e := _) (es := _) ?_ fa_e0 st_call
      exact fe_draw (n := 8) C1 hr (ee_nm 0) rfl (by decide) (by decide)
    · rintro d ⟨ds, rfl, _, _, rfl, ⟨p, hp, rfl⟩, _, _, rfl, rfl, _, _, rfl, rfl, _, _, rfl, rfl, _, _, rfl, ⟨x, hx, rfl⟩, rfl⟩
      exact ⟨⟨p, none, role, [], x⟩, ⟨hp, (fun c hc => by cases hc), hrole, ⟨(fun k hk => by cases hk), by simp⟩, hx⟩, rfl⟩
  obtain ⟨n, hn, hn2⟩ : ∃ n : Nat, ([.int 0, .int 0, .int 0, .int 1, .int 2] : List D)[role]? = some (.int (n : Nat)) ∧ n ≤ 2 := by
    rcases role with _ | _ | _ | _ | _ | r
    · exact ⟨0, rfl, by decide⟩
    · exact ⟨0, rfl, by decide⟩
    · exact ⟨0, rfl, by decide⟩
    · exact ⟨1, rfl, by decide⟩
    · exact ⟨2, rfl, by decide⟩
    · omega
  refine fs_set (P := fun d => ∃ ks : List Nat, (∀ k ∈ ks, k < 8) ∧ ks.length ≤ 2 ∧ d = .tuple (ks.map fun k => .int (k : Nat))) (k := 2) 2 f2 (by omega) sc_l_row.nd ?_ fun d2 G3 H3 h3 g3 f3 => ?_
  · refine FE.more (k := (List.range n).length * 1) (P := fun d => ∃ ks : List Nat, (∀ k ∈ ks, k < 8) ∧ ks.length ≤ 2 ∧ d = .tuple (ks.map fun k => .int (k : Nat))) ?_ (by rw [List.length_range]; omega) fun d h => h
    refine fe_callT (T := "tuple") T.tuple (by decide +kernel) (P := fun d => ∃ ds, d = .list ds ∧ All2 (fun (_ : Nat) => upto 8) (List.range n) ds) ?_ fun x hx => ?_
    · refine FF.fe (ff_map [("_law_k", 3)] (List.range n) (fun k => .int (k : Nat)) (fun k => [(3, .int (k : Nat))]) (fun _ => upto 8) sc_l_row.nd ?_ (by rw [List.length_range]; omega) (fun _ _ i hi => hi) (fun _ _ _ _ _ z _ => ga_nm 3 sc_l_row.nd) fun _ _ _ _ _ z hz => ?_)
      · exact ei_rangeN T.range (ee_ix (ee_tup (ds := [.int 0, .int 0, .int 0, .int 1, .int 2]) (ea_cons ee_int (ea_cons ee_int (ea_cons ee_int (ea_cons ee_int (ea_cons ee_int ea_nil)))))) (ee_nm 1) fun _ _ g => xd_tup hn g) (by omega)
      · exact fe_draw (n := 8) C1 hr (ee_nm 0) rfl (by decide) (by decide)
    · obtain ⟨ds, rfl, hds⟩ := hx
      obtain ⟨ks, k1, k2, rfl⟩ := all_upto hds
      rw [List.length_range] at k1
      exact ⟨_, ⟨ks, k2, by omega, rfl⟩, fun G1 H1 s => cd_tuple (.refl s)⟩
  obtain ⟨ks, k1, k2, rfl⟩ := h3
  refine fs_ret (k := 3) f3 (by omega) (P := isRow) ?_ fun v d G4 H4 g4 f4 pd r4 => q v d G4 H4 (g1.trans (g2.trans (g3.trans g4))) (f4.more (by omega)) pd r4
  refine FE.more (k := 1 + (1 + (0 + (0 + (1 + 0))))) (P := fun d => ∃ ds, d = .tuple ds ∧ Each [upto 3, upto 6, (· = .int (role : Nat)), (· = .tuple (ks.map fun k => .int (k : Nat))), upto 8] ds) ?_ (by decide) ?_
  · refine fe_eTup ?_ (Nat.le_of_ble_eq_true rfl)
    refine fa_e (e := _) (es := _) ?_ ?_ st_call
    · exact fe_draw (n := 3) C1 hr (ee_nm 0) rfl (by decide) (by decide)
    refine fa_e (e := _) (es := _) ?_ ?_ st_call
    · exact fe_draw (n := 6) C1 hr (ee_nm 0) rfl (by decide) (by decide)
    refine fa_e (e := _) (es := _) ?_ ?_ st_name
    · exact fe_of (ee_nm 1) rfl
    refine fa_e (e := _) (es := _) ?_ ?_ st_name
    · exact fe_of (ee_nm 2) rfl
    refine fa_e (e := _) (es := _) ?_ fa_e0 st_call
    exact fe_draw (n := 8) C1 hr (ee_nm 0) rfl (by decide) (by decide)
  · rintro d ⟨ds, rfl, _, _, rfl, ⟨p, hp, rfl⟩, _, _, rfl, ⟨c, hc, rfl⟩, _, _, rfl, rfl, _, _, rfl, rfl, _, _, rfl, ⟨x, hx, rfl⟩, rfl⟩
    exact ⟨⟨p, some c, role, ks, x⟩, ⟨hp, (fun c' hc' => by cases hc'; omega), hrole, ⟨k1, k2⟩, hx⟩, rfl⟩
end Rb
set_option Elab.async false
set_option linter.all false
set_option maxRecDepth 100000
set_option maxHeartbeats 1000000
namespace Rb
open PySem PySem.Spec PyProof.Rows L2
variable {P : Program} {w : World} {K : PySem.W.Frag} {mg : Str → Option Value} {base : Heap} {f : Addr} {fd : FuncData}
theorem lf_row (r : Row) : lf (eR r) = true := by
  have h : lfs (r.parts.map fun k => PyData.int (k : Nat)) = true := lfs_map fun k _ => by simp [lf]
  cases hc : r.comp <;> simp [eR, eI, hc, lf, lfs, h]
theorem lay_R (r : Row) : PyData.canLay0 (eR r) = true ∧ (eR r).depth ≤ 5 := by
  have h : ∀ ks : List Nat, PyData.canLayAll0 (ks.map fun k => PyData.int (k : Nat)) = true ∧ PyData.depthAll (ks.map fun k => PyData.int (k : Nat)) ≤ 0 := by
    intro ks
    induction ks with
    | nil => simp [PyData.canLayAll0, PyData.depthAll]
    | cons k ks ih => simpa [PyData.canLayAll0, PyData.depthAll, PyData.canLay0, PyData.depth] using ih
  obtain ⟨h1, h2⟩ := h r.parts
  have h3 : PyData.depthAll (r.parts.map fun k => PyData.int (k : Nat)) = 0 := by omega
  cases hc : r.comp <;> simp [eR, eI, hc, PyData.canLay0, PyData.canLayAll0, h1, PyData.depth, PyData.depthAll, h3]
theorem shaped_rows (rs : List Row) : SeqAt.shaped (.list (rs.map eR)) = true := by
  have h1 : ∀ rs : List Row, PyData.canLayAll0 (rs.map eR) = true ∧ PyData.depthAll (rs.map eR) ≤ 5 := by
    intro rs
    induction rs with
    | nil => simp [PyData.canLayAll0, PyData.depthAll]
    | cons c cs ih =>
      obtain ⟨i1, i2⟩ := ih
      obtain ⟨j1, j2⟩ := lay_R c
      rw [List.map_cons, PyData.canLayAll0, PyData.depthAll, i1, j1]
      refine ⟨rfl, ?_⟩
      omega
  obtain ⟨k1, k2⟩ := h1 rs
  unfold SeqAt.shaped
  rw [PyData.canLay0, k1]
  have : (PyData.list (rs.map eR)).depth = PyData.depthAll (rs.map eR) + 1 := by simp [PyData.depth]
  simp
  omega
/-- the rows: more of them, one file changed -/
theorem scene_rows (T : Gf mg) (C1 : FnD P w K mg base "_law_draw" 1 2 1 R_draw) (C5 : FnD P w K mg base "_law_row" 2 1 7 R_lrow) (C2 : Fn P w K mg base "_law_build" 1 2 [] R_lbuild) (C3 : FnD P w K mg base "_law_pairs" 2 3 6 R_lpairs) (C4 : FnD P w K mg base "_law_forms" 3 2 7 R_lforms) {cdv : Value} {A : Around} {outer : List PySem.Env} {s : Shared} {H0 : Hp} {E : XK} (hr : Room 3 (bX P w K mg base N_l_scene "_law_scene" s_l_scene f cdv A outer s H0 E).A)
    {Fe : Feed} {m scene : Nat} {G H G2 H2 : Hp} {lr : Addr} {S Qn Fl : List Str} {ds : List D} {o3 : Option SV} {Q : VK} (hS : S ∈ srcLists) (hQ : Qn ∈ ptyLists) (hF : Fl ∈ fileLists) (hds : ds.length ≤ 6 ∧ ∀ d ∈ ds, isRow d) (f2 : Fd K Fe m G2 H2) (hm : m + 42 ≤ 1000) (gr2 : Gr G (er Fe.a H) G2 (er Fe.a H2)) (own2 : Own K G2 (er Fe.a H2) lr ds) (hl1 : er Fe.a H lr = none)
    (q : ∀ v d G3 H3, Gr G (er Fe.a H) G3 (er Fe.a H3) → Fd K Fe (m + 42) G3 H3 → isScene d → Dp K G3 v d → Q v H3) :
    SS (bX P w K mg base N_l_scene "_law_scene" s_l_scene f cdv A outer s H0 E) { nx := fun _ H' => Q .non H', rt := Q } [some (.v (.ref Fe.a)), some (.d (eN S Qn Fl)), some (.d (.int (scene : Nat))), o3, some (.v (.ref lr)), none, none, none, none, none, none, none, none] G2 H2 ((defBody s_l_scene).drop 3) := by
  have hr1 : Room 1 (bX P w K mg base N_l_scene "_law_scene" s_l_scene f cdv A outer s H0 E).A := hr.mono (by decide)
  refine fs_for (k := 1) (S := fun xs => ∃ n : Nat, n < 4 ∧ xs = upTo n) f2 (by omega) (fi_range (P := upto 4) T.range (fe_draw C1 hr1 (ee_nm 0) rfl (by decide) (by decide)) fun d hd => ?_) fun xs G3 H3 hxs g3 f3 => ?_
  · obtain ⟨i, hi, rfl⟩ := hd
    exact ⟨i, rfl, by omega, i, hi, rfl⟩
  obtain ⟨nn, hnn, rfl⟩ := hxs
  have hlen : (upTo nn).length = nn := by unfold upTo; rw [List.length_map, List.length_range]
  refine ⟨fun i ρ G' H' => ∃ (es : List D) (o6 : Option SV), ρ = [some (.v (.ref Fe.a)), some (.d (eN S Qn Fl)), some (.d (.int (scene : Nat))), o3, some (.v (.ref lr)), none, o6, none, none, none, none, none, none] ∧ Same G3 G' ∧ es.length ≤ 6 + i ∧ (∀ d ∈ es, isRow d) ∧ Fd K Fe (m + 1 + 7 * i) G' H' ∧ Gr G (er Fe.a H) G' (er Fe.a H') ∧ Own K G' (er Fe.a H') lr es,
    ⟨ds, none, rfl, .refl _, hds.1, hds.2, f3.more (by omega), gr2.trans g3, own2.gr g3⟩, fun i ρ G1 H1 h => h.choose_spec.choose_spec.2.1, ?_, ?_⟩
  · rintro i d ρ G4 H4 hd ⟨es, o6, rfl, s34, hes, heR, f4, gr4, own4⟩ G5 H5 g5
    have hi : i < nn := by
      have := (List.getElem?_eq_some_iff.mp hd).1
      omega
    refine ⟨[(6, d)], ga_nm 6 sc_l_scene.nd, ?_⟩
    have f5 := f4.up g5
    have gr5 := gr4.trans (g5.er f4)
    have own5 := own4.gr (g5.er f4)
    refine fs_app (P := isRow) (k := 7) f5 (by omega) own5 (ee_nm 4) (fe_call0 C5 (hr.mono (by decide)) (ee_nm 0) ⟨rfl, rfl⟩) (by omega) fun vs d7 G7 H7 hd7 g7 o7 f7 own7 => ?_
    refine ss_turn ⟨es ++ [d7], _, rfl, s34.trans (g5.g.trans g7.g), by rw [List.length_append]; simp; omega, fun p hp => ?_, f7.more (by omega), ?_, own7⟩
    · rcases List.mem_append.mp hp with hp | hp
      · exact heR p hp
      · rw [List.mem_singleton.mp hp]
        exact hd7
    · exact Gr.mutF (gr5.trans g7) hl1 o7
  · rintro ρ G4 H4 ⟨es, o6, rfl, s34, hes, heR, f4, gr4, own4⟩
    rw [hlen] at hes f4
    have f4' : Fd K Fe (m + 22) G4 H4 := f4.more (by omega)
    have fin : ∀ {k : Nat} {o7 : Option SV} {es : List D} {G5 H5 : Hp}, k ≤ 25 → es.length ≤ 9 → (∀ d ∈ es, isRow d) → Fd K Fe (m + k) G5 H5 → Gr G (er Fe.a H) G5 (er Fe.a H5) → Own K G5 (er Fe.a H5) lr es → SS (bX P w K mg base N_l_scene "_law_scene" s_l_scene f cdv A outer s H0 E) { nx := fun _ H' => Q .non H', rt := Q } [some (.v (.ref Fe.a)), some (.d (eN S Qn Fl)), some (.d (.int (scene : Nat))), o3, some (.v (.ref lr)), none, o6, o7, none, none, none, none, none] G5 H5 ((defBody s_l_scene).drop 5) := fun hk h1 h2 h3 h4 h5 => scene_builds T C1 C2 C3 C4 hr hS hQ hF ⟨h1, h2⟩ h3 (by omega) h4 h5 hl1 fun v d G8 H8 g8 f8 => q v d G8 H8 g8 (f8.more (by omega))
    have hshape : SeqAt.shaped (.list es) = true := by
      obtain ⟨rs, rfl, hrs⟩ := lift_list (g := eR) (R := RowOk) es fun d hd => by
        obtain ⟨r, h1, h2⟩ := heR d hd
        exact ⟨r, h2, h1⟩
      exact shaped_rows rs
    refine fs_if1 (S := fun b => b = true → es ≠ []) (k := 1 + 0) f4' (by omega) (ft_w (fw_and (t := !decide (es = [])) (ET.to (et_ownO 4 own4 fun Gx sx => et_cmp (ee_nm 4) (EF.ee (ef_lst (ds := []) ea_nil)) fun _ _ g => od_neD hr.units hshape shaped_nil g) ?_) (fun ht => fw_one (ft_cmp (P := upto 3) (P' := (· = .int 0)) (fe_draw C1 hr1 (ee_nm 0) rfl (by decide) (by decide)) (fe_of ee_int rfl) fun x y hx hy => ?_)) fun _ h => nomatch h)) (fun hne G5 H5 g5 f5 => ?_) fun _ G5 H5 g5 f5 => ?_
    · rw [eqv_nil]
    · obtain ⟨i, hi, rfl⟩ := hx
      subst hy
      exact ⟨_, fun _ => by simpa using ht, fun G1 H1 s => od_eqI (.refl s)⟩
    · have hpos : 0 < es.length := List.length_pos_iff.mpr (hne rfl)
      have own5 := own4.gr g5
      have gr5 := gr4.trans g5
      refine fs_set (P := upto es.length) (k := 1) 7 f5 (by omega) sc_l_scene.nd (fe_drawE C1 hr1 (ee_nm 0) (ee_ownO 4 own5 rfl fun Gx sx => ee_lenL T.len (ee_nm 4)) hpos (by omega) st_call) fun d6 G6 H6 h6 g6 f6 => ?_
      obtain ⟨spot, hspot, rfl⟩ := h6
      have own6 := own5.gr g6
      obtain ⟨r, hr', er'⟩ := heR es[spot] (List.getElem_mem hspot)
      have eget : es[spot]? = some (eR r) := by rw [List.getElem?_eq_getElem hspot, er']
      refine fs_put (P := isRow) (k := 0 + (1 + 0)) (j := spot) f6 (by omega) own6 hspot ?_ (ee_nm 4) (ee_nm 7) fun vs d G7 H7 hd7 g7 o7 f7 own7 => ?_
      · refine fe_bin (P := (· = .tuple [.int (r.party : Nat), eI r.comp, .int (r.src : Nat), .tuple (r.parts.map fun k => .int (k : Nat))])) (P' := fun d => ∃ ds, d = .tuple ds ∧ Each [upto 7] ds) (fe_of (x := .tuple (cutD [.int (r.party : Nat), eI r.comp, .int (r.src : Nat), .tuple (r.parts.map fun k => .int (k : Nat)), .int (r.file : Nat)] none (some ((4 : Nat) : Int)))) (ee_ownO 4 own6 ?_ fun Gx sx => ee_slT (ee_ix (ee_nm 4) (ee_nm 7) fun _ _ g => xd_lst eget g) eo_no (eo_at ee_int)) ?_) (fe_eTup (fa_e (e := _) (es := _) (fe_draw C1 hr1 (ee_nm 0) rfl (by decide) (by decide)) fa_e0 st_call) (Nat.le_of_ble_eq_true rfl)) fun x y hx hy => ?_
        · rw [cutD_to]
          have := lf_row r
          unfold eR at this
          simp only [lf, lfs, Bool.and_true, Bool.and_eq_true] at this
          simp [lf, lfs, this]
        · rw [cutD_to]
          rfl
        · subst hx
          obtain ⟨_, rfl, _, _, rfl, ⟨x, hx, rfl⟩, rfl⟩ := hy
          exact ⟨_, ⟨⟨r.party, r.comp, r.src, r.parts, x⟩, ⟨hr'.party, hr'.comp, hr'.src, hr'.parts, Nat.lt_of_lt_of_le hx (by decide)⟩, rfl⟩, fun G1 H1 s => od_cat (Nat.le_of_ble_eq_true rfl) (.refl s)⟩
      · refine ss_out fun G8 H8 g8 => fin (k := 25) (Nat.le_refl _) (by rw [List.length_set]; omega) (fun d' hd' => ?_) ((f7.up g8).more (by omega)) ((Gr.mutF ((gr5.trans g6).trans g7) hl1 o7).trans (g8.er f7)) (own7.gr (g8.er f7))
        rcases List.mem_or_eq_of_mem_set hd' with h | h
        · exact heR d' h
        · rw [h]; exact hd7
    · exact fin (k := 23) (by decide) (by omega) heR (f5.more (by omega)) (gr4.trans g5) (own4.gr g5)
end Rb
set_option Elab.async false
set_option linter.all false
set_option maxRecDepth 100000
set_option maxHeartbeats 1000000
namespace Rb
open PySem PySem.Spec PyProof.Rows L2
variable {P : Program} {w : World} {K : PySem.W.Frag} {mg : Str → Option Value} {base : Heap} {f : Addr} {fd : FuncData}
def turnR (t : Nat) (r : Row) : Row := ⟨(r.party + t) % 3, r.comp, r.src, r.parts, r.file⟩
theorem fn_lscene (T : Gf mg) (F : FD K "_law_scene" s_l_scene f fd) (hx : mg "_law_scene" = some (.ref f)) (C0 : FnD P w K mg base "_law_names" 3 1 3 R_lnames) (C1 : FnD P w K mg base "_law_draw" 1 2 1 R_draw) (C6 : Fn P w K mg base "_law_rows" 1 1 [] R_lrows) (C5 : FnD P w K mg base "_law_row" 2 1 7 R_lrow) (C2 : Fn P w K mg base "_law_build" 1 2 [] R_lbuild) (C3 : FnD P w K mg base "_law_pairs" 2 3 6 R_lpairs) (C4 : FnD P w K mg base "_law_forms" 3 2 7 R_lforms) : FnD P w K mg base "_law_scene" 4 1 47 R_lscene := by
  refine fn_feed F sc_l_scene rfl rfl hx (F.bindsN fun _ _ _ _ _ _ us hl => match us, hl with | [_], _ => rfl) fun cdv A outer s H E hr Fe u0 G xs Pd Q hR hl hf hu q => ?_
  obtain ⟨rfl, rfl⟩ := hR
  have hr1 : Room 1 (bX P w K mg base N_l_scene "_law_scene" s_l_scene f cdv A outer s H E).A := hr.mono (by decide)
  refine fs_set (P := isNames) (k := 3) 1 hf (by omega) sc_l_scene.nd (fe_call0 C0 hr (ee_nm 0) ⟨rfl, rfl⟩) fun d1 G1 H1 h1 g1 f1 => ?_
  obtain ⟨S, Qn, Fl, hS, hQ, hF, rfl⟩ := h1
  refine fs_asg (P := fun d => ∃ ds, d = .tuple ds ∧ Each [upto 11, upto 3] ds) (k := 1 + (1 + 0)) f1 (by omega) (fe_eTup (fa_e (e := _) (es := _) (fe_draw C1 hr1 (ee_nm 0) rfl (by decide) (by decide)) (fa_e (e := _) (es := _) (fe_draw C1 hr1 (ee_nm 0) rfl (by decide) (by decide)) fa_e0 st_call) st_call) (Nat.le_of_ble_eq_true rfl)) fun d2 h2 => ?_
  obtain ⟨_, rfl, _, _, rfl, ⟨scene, hsc, rfl⟩, _, _, rfl, ⟨t, ht, rfl⟩, rfl⟩ := h2
  refine ⟨[(2, .int (scene : Nat)), (3, .int (t : Nat))], ga_tup rfl (gas_cons (ga_nm 2 sc_l_scene.nd) (gas_cons (ga_nm 3 sc_l_scene.nd) gas_nil)), fun G2 H2 g2 f2 => ?_⟩
  have hrow := rows_ok (n := scene)
  refine ss_lcOwn 4 [("_law_row_here", 5)] (rowsOf scene) eR (fun r => [(5, eR r)]) (fun _ => true) (fun r => eR (turnR t r)) sc_l_scene.nd (ei_list (ee_call C6 hr1 (ea_cons (ee_nm 2) ea_nil) fun _ _ _ => ⟨scene, rfl, hsc, rfl⟩)) (by omega) (fun _ _ i hi => hi) (fun _ _ _ _ _ z _ => ga_nm 5 sc_l_scene.nd) (fun _ _ _ _ _ z _ => ep_nil) (fun _ _ _ _ _ z hz _ => ?_) fun lr vs G3 H3 g3 hl0 hg0 e3 r3 => ?_
  · have row : ∀ {G' H' : Hp} {ρ : Env} {X : Cx} {e : Expr}, EE X ρ G' H' e (.d (eR z)) → EE X ρ G' H' e (.d (.tuple [.int (z.party : Nat), eI z.comp, .int (z.src : Nat), .tuple (z.parts.map fun k => .int (k : Nat)), .int (z.file : Nat)])) := fun h => h
    refine EE.to (ee_bin (x := .d (.tuple [.int (((z.party : Nat) + (t : Nat) : Int) % 3)])) (y := .d (.tuple (cutD [.int (z.party : Nat), eI z.comp, .int (z.src : Nat), .tuple (z.parts.map fun k => .int (k : Nat)), .int (z.file : Nat)] (some ((1 : Nat) : Int)) none))) (ee_tup (ds := [.int (((z.party : Nat) + (t : Nat) : Int) % 3)]) (ea_cons (ee_bin (ee_intOf T.int (ee_bin (ee_at 0 (row (ee_nm 5))) (ee_nm 3) fun _ _ g => od_add g) rfl st_bin rfl) ee_int fun _ _ g => od_mod (by decide) g) ea_nil st_bin) (Nat.le_of_ble_eq_true rfl)) (ee_slT (row (ee_nm 5)) (eo_at ee_int) eo_no) fun _ _ g => od_cat ?_ g) ?_
    · rw [cutD_from]
      exact Nat.le_of_ble_eq_true rfl
    · rw [cutD_from]
      have e : (((z.party : Nat) + (t : Nat) : Int) % 3) = (((z.party + t) % 3 : Nat) : Int) := by omega
      rw [e]
      rfl
  rw [filter_yes] at r3
  have gr2 := g1.trans g2
  have f3 := f2.up g3
  have own3 : Own K G3 H3 lr ((rowsOf scene).map fun r => eR (turnR t r)) := ⟨vs, e3, hg0, r3⟩
  refine scene_rows T C1 C5 C2 C3 C4 hr (m := u0 + 5) hS hQ hF ⟨by rw [List.length_map]; exact hrow.1, fun d hd => ?_⟩ f3 (by omega) (gr2.trans (g3.er f2)) (own3.feed f3) (gr2.none' (er_none hl0)) fun v d G8 H8 g8 f8 => q v d G8 H8 g8 (f8.more (by omega))
  obtain ⟨r, hr', rfl⟩ := List.mem_map.mp hd
  have ok := hrow.2 r hr'
  exact ⟨turnR t r, ⟨Nat.mod_lt _ (by decide), ok.comp, ok.src, ok.parts, ok.file⟩, rfl⟩
end Rb
set_option Elab.async false
set_option linter.all false
set_option maxRecDepth 100000
set_option maxHeartbeats 1000000
namespace Rb
open PySem PySem.Spec PyProof.Rows L2
section
variable {X : Cx} {ρ : Env} {G H : Hp} {e e2 c : Expr} {pos p' kpos : Pos} {b : Book} {tr F S : List Str} {sup : List Fact} {ks : List (List Str)} {t : Bool}
theorem ee_cls2 (C : FnK X.prog X.w X.K X.mg X.base "classes_of" 7 R_classes_of) (hr : Room 7 X.A) (ha : EE X ρ G H e (.d (eK b))) (hb : EE X ρ G H e2 (.d (eSs tr))) (hf : Fine b tr [] F S) (hk : classesOf b (factsOf b tr []) = ks) (he : starEach [e, e2] X.env = (false, eval e X.env) :: starEach [e2] X.env) (he2 : starEach [e2] X.env = (false, eval e2 X.env) :: starEach [] X.env) (hg : Gl X "classes_of" := by rfl) :
    EE X ρ G H (.Call (.Name "classes_of" p') [e, e2] [] pos) (.d (.tuple (ks.map eSs))) := ee_call2 C hr ha hb (fun _ _ _ => ⟨b, tr, [], F, S, rfl, hf, by rw [hk]⟩) hg (by decide) he he2 (by rw [he2]; rfl)
theorem ee_calm2 (C : FnK X.prog X.w X.K X.mg X.base "is_calm" 8 R_calm) (hr : Room 8 X.A) (ha : EE X ρ G H e (.d (eK b))) (hb : EE X ρ G H e2 (.d (eSs tr))) (hf : Fine b tr [] F S) (hk : calmB b tr [] = t) (he : starEach [e, e2] X.env = (false, eval e X.env) :: starEach [e2] X.env) (he2 : starEach [e2] X.env = (false, eval e2 X.env) :: starEach [] X.env) (hg : Gl X "is_calm" := by rfl) :
    EE X ρ G H (.Call (.Name "is_calm" p') [e, e2] [] pos) (.d (.bool t)) := ee_call2 C hr ha hb (fun _ _ _ => ⟨b, tr, [], F, S, rfl, hf, by rw [hk]⟩) hg (by decide) he he2 (by rw [he2]; rfl)
theorem ee_clsK (C : FnK X.prog X.w X.K X.mg X.base "classes_of" 7 R_classes_of) (hr : Room 7 X.A) (ha : EE X ρ G H e (.d (eK b))) (hb : EE X ρ G H e2 (.d (eSs tr))) (hc : EE X ρ G H c (.d (.tuple (sup.map eU)))) (hf : Fine b tr sup F S) (hk : classesOf b (factsOf b tr sup) = ks) (he : starEach [e, e2] X.env = (false, eval e X.env) :: starEach [e2] X.env) (he2 : starEach [e2] X.env = (false, eval e2 X.env) :: starEach [] X.env) (hg : Gl X "classes_of" := by rfl)
    (hall : (backToKw pos (keywordEach [⟨some "supposed", c, kpos⟩] X.env)).all (·.1.isSome) = true := by rfl) (hks : (backToKw pos (keywordEach [⟨some "supposed", c, kpos⟩] X.env)).filterMap (·.1) = [("supposed" : Str)] := by rfl)
    (hpl : ((backTo pos (starEach [e, e2] X.env)).any (·.1) || (backToKw pos (keywordEach [⟨some "supposed", c, kpos⟩] X.env)).any (·.1.isNone)) = false := by rfl) :
    EE X ρ G H (.Call (.Name "classes_of" p') [e, e2] [⟨some "supposed", c, kpos⟩] pos) (.d (.tuple (ks.map eSs))) := ee_callK C hr ha hb hc (fun _ _ _ => ⟨b, tr, sup, F, S, rfl, hf, by rw [hk]⟩) hg (by decide) he he2 hall hks hpl
theorem ee_calmK (C : FnK X.prog X.w X.K X.mg X.base "is_calm" 8 R_calm) (hr : Room 8 X.A) (ha : EE X ρ G H e (.d (eK b))) (hb : EE X ρ G H e2 (.d (eSs tr))) (hc : EE X ρ G H c (.d (.tuple (sup.map eU)))) (hf : Fine b tr sup F S) (hk : calmB b tr sup = t) (he : starEach [e, e2] X.env = (false, eval e X.env) :: starEach [e2] X.env) (he2 : starEach [e2] X.env = (false, eval e2 X.env) :: starEach [] X.env) (hg : Gl X "is_calm" := by rfl)
    (hall : (backToKw pos (keywordEach [⟨some "supposed", c, kpos⟩] X.env)).all (·.1.isSome) = true := by rfl) (hks : (backToKw pos (keywordEach [⟨some "supposed", c, kpos⟩] X.env)).filterMap (·.1) = [("supposed" : Str)] := by rfl)
    (hpl : ((backTo pos (starEach [e, e2] X.env)).any (·.1) || (backToKw pos (keywordEach [⟨some "supposed", c, kpos⟩] X.env)).any (·.1.isNone)) = false := by rfl) :
    EE X ρ G H (.Call (.Name "is_calm" p') [e, e2] [⟨some "supposed", c, kpos⟩] pos) (.d (.bool t)) := ee_callK C hr ha hb hc (fun _ _ _ => ⟨b, tr, sup, F, S, rfl, hf, by rw [hk]⟩) hg (by decide) he he2 hall hks hpl
end
/-! ### the feed's start; a pure def called with what was drawn -/
section
variable {X : Cx} {D : Ends} {F : Feed} {ρ : Env} {G H : Hp} {m k : Nat} {e : Expr} {es : List Expr} {rest : List Stmt} {pos p' p2 p3 : Pos}
theorem fs_feed (i : Nat) {n : Str} {cs : List Int} (hN : X.N.Nodup) (C : FnFeed X.prog X.w X.K X.mg X.base "_law_feed" 1) (hr : Room 1 X.A) (h : EE X ρ G H e (.d (.list (cs.map .int)))) (q : ∀ F G1 H1, Fd X.K F 0 G1 H1 → SS X D (ρ.set i (some (.v (.ref F.a)))) G1 H1 rest)
    (hi : X.N[i]? = some n) (hx : Loc X.env.scope n) (hs : swapsWith (.Call (.Name "_law_feed" p2) [e] [] p3) (some (.Name n p')) pos.line X.env = pure false) (hfn : X.fn n = true ∨ X.env.scope.names.lookup n = some .local) (he : starEach [e] X.env = (false, eval e X.env) :: starEach [] X.env) (hg : Gl X "_law_feed") (hpl : (backTo p3 (starEach [] X.env)).any (·.1) = false) : SS X D ρ G H (.Assign [.Name n p'] (.Call (.Name "_law_feed" p2) [e] [] p3) pos :: rest) := by
  obtain ⟨f, fd, ps, h1, h2, h3, h5⟩ := C
  refine ss_cons (ps_set hN hi hx (pe_call h5 hr hg h1 h2 h3 .nil pass0 (pa_cons pe_w pa_nil he) (by decide) he hpl) hs hfn) fun s σ r => ?_
  refine h G H σ (.refl s) r _ fun v G1 H1 g r1 => ?_
  refine ⟨G1, cs, g.gh, .cons r1 .nil, fun F G2 H2 g2 hF x => ?_⟩
  exact q F G2 H2 (x.fd (Int.le_refl _) (Int.le_refl _) (Int.le_refl _)) x.same _ ((r.up (g.g.trans g2.g)).set (x := .v (.ref F.a)) rfl i)
theorem fe_callP {nm : Str} {j n : Nat} {Ps : List Rb.D → Prop} {R : Rb.D → Prop} {Rf : Hp → List SV → SV → Prop} (C : Fn X.prog X.w X.K X.mg X.base nm j n [] Rf) (hr : Room j X.A) (ha : FA X F ρ G H k (e :: es) Ps) (ho : ∀ ds, Ps ds → ds.length = n ∧ ∃ z, R z ∧ ∀ G1, Rf G1 (ds.map .d) (.d z)) (hg : Gl X nm) (hdb : (nm == ("__debug__" : Str)) = false)
    (he : starEach (e :: es) X.env = (false, eval e X.env) :: starEach es X.env) (hpl : (backTo pos (starEach es X.env)).any (·.1) = false) : FE X F ρ G H k (.Call (.Name nm p') (e :: es) [] pos) R := fun m G1 H1 σ hm g hf r Q q => by
  obtain ⟨f, fd, ps, dvs, h1, h2, h3, h4, h5⟩ := C
  exact w_pe (pe_call h5 hr hg h1 h2 h3 h4 pass0 pa_w hdb he hpl) (ha m G1 H1 σ hm g hf r _ fun vs ds G2 H2 g2 f2 hp r2 => by
    obtain ⟨hl, z, hz, hR⟩ := ho ds hp
    exact ⟨G2, ds.map .d ++ [], .d z, f2.same, (SRs.of_dps r2).app .nil, by simp [hl], by rw [List.append_nil]; exact hR G2, fun v G3 H3 g3 r3 => q v z G3 H3 (g2.trans (g3.er f2)) (f2.up g3) hz r3⟩)
end
end Rb
set_option Elab.async false
set_option linter.all false
set_option maxRecDepth 100000
set_option maxHeartbeats 1000000
namespace Rb
open PySem PySem.Spec PyProof.Rows L2
variable {P : Program} {w : World} {K : PySem.W.Frag} {mg : Str → Option Value} {base : Heap} {f : Addr} {fd : FuncData}
def R_lfixed : Hp → List SV → SV → Prop := fun _ xs y => xs = [] ∧ y = .d (.bool true)
theorem shSs {ks : List (List Str)} (h : ∀ k ∈ ks, ∀ z ∈ k, PyData.strOk z = true) : SeqAt.shaped (.tuple (ks.map eSs)) = true := (shaped_LSs h).2
theorem fn_lfixed (T : Gf mg) (F : FD K "_law_fixed" s_l_fixed f fd) (hx : mg "_law_fixed" = some (.ref f)) (C0 : Fn P w K mg base "_law_given" 1 0 [] R_lgiven) (C7 : FnK P w K mg base "classes_of" 7 R_classes_of) (C8 : FnK P w K mg base "is_calm" 8 R_calm) : Fn P w K mg base "_law_fixed" 9 0 [] R_lfixed := by
  refine fn_pure F sc_l_fixed rfl rfl hx (F.bindsN fun _ _ _ _ _ _ us hl => match us, hl with | [], _ => rfl) .nil fun cdv A outer s H E hr G xs y Q hR hl q => ?_
  obtain ⟨rfl, rfl⟩ := hR
  have hr7 : Room 7 (bX P w K mg base N_l_fixed "_law_fixed" s_l_fixed f cdv A outer s H E).A := hr.mono (by decide)
  change SS _ _ _ _ _ (List.cons _ _)
  with_reducible refine ss_asg (d := .list [eK aloneG, eK wholeG, eK splitG]) (us := [(0, eK aloneG), (1, eK wholeG), (2, eK splitG)]) ?_ ?_ (fun G1 H1 g1 => ?_) ?_ ?_ ?_
  · exact ee_call0 C0 (hr.mono (by decide)) fun _ _ _ => ⟨rfl, rfl⟩
  · exact ga_lst rfl (gas_cons (ga_nm 0 sc_l_fixed.nd) (gas_cons (ga_nm 1 sc_l_fixed.nd) (gas_cons (ga_nm 2 sc_l_fixed.nd) gas_nil)))
  rotate_left 1
  · rfl
  · rfl
  · rfl
  change SS _ _ [some (.d (eK aloneG)), some (.d (eK wholeG)), some (.d (eK splitG)), none, none] _ _ _
  -- classes_of(whole, ..), is_calm(split, ..)
  with_reducible refine ss_if1 (k := false) ?_ (fun k => nomatch k) (fun _ G2 H2 g2 => ?_)
  · refine et_w (ew_or (k := false) (et_cmp (x := .d (.tuple (([["cc"], ["tcc"]] : List (List Str)).map eSs))) (y := .d (.tuple (([["cc"], ["tcc"]] : List (List Str)).map eSs))) (ee_cls2 C7 hr7 (ee_nm 1) (ee_con _ (eSs QG) ?_) fine_whole ev_whole st_name st_tup) (ee_con _ _ ?_) fun _ _ g => ?_) fun _ => ew_or1 (et_val (ee_calm2 C8 hr (ee_nm 2) (ee_con _ (eSs QG) ?_) fine_split ev_split st_name st_tup)))
    · kernel_rfl
    · kernel_rfl
    · have sh : SeqAt.shaped (.tuple (([["cc"], ["tcc"]] : List (List Str)).map eSs)) = true := shSs (by decide +kernel)
      have := od_neD hr.units sh sh g
      rw [show PyData.eqv (.tuple (([["cc"], ["tcc"]] : List (List Str)).map eSs)) (.tuple (([["cc"], ["tcc"]] : List (List Str)).map eSs)) = true from eqv_same _] at this
      exact this
    · kernel_rfl
  -- the empty book
  with_reducible refine ss_if1 (k := false) ?_ (fun k => nomatch k) (fun _ G3 H3 g3 => ?_)
  · refine et_w (ew_or (k := false) (et_cmp (x := .d (.tuple (([] : List (List Str)).map eSs))) (y := .d (.tuple (([] : List (List Str)).map eSs))) (ee_cls2 (b := emptyG) (tr := []) C7 hr7 (ee_con _ (eK emptyG) ?_) (ee_con _ (eSs []) ?_) fine_empty ev_empty st_tup st_tup) (ee_con _ _ ?_) fun _ _ g => ?_) fun _ => ew_or1 (ET.to (et_not (et_val (ee_calm2 (b := emptyG) (tr := []) C8 hr (ee_con _ (eK emptyG) ?_) (ee_con _ (eSs []) ?_) fine_empty ev_empty2 st_tup st_tup))) rfl))
    · kernel_rfl
    · kernel_rfl
    · kernel_rfl
    · have sh : SeqAt.shaped (.tuple (([] : List (List Str)).map eSs)) = true := shSs (by decide +kernel)
      have := od_neD hr.units sh sh g
      rw [show PyData.eqv (.tuple (([] : List (List Str)).map eSs)) (.tuple (([] : List (List Str)).map eSs)) = true from eqv_same _] at this
      exact this
    · kernel_rfl
    · kernel_rfl
  -- supposed facts
  with_reducible refine ss_set (x := .d (.tuple (supG.map eU))) 3 ?_ ?_ (fun G4 H4 g4 => ?_) ?_ ?_ ?_ ?_
  · exact sc_l_fixed.nd
  rotate_left 2
  · rfl
  · first | exact Or.inl rfl | exact Or.inr rfl
  · rfl
  · first | exact .inl rfl | exact .inr rfl
  · with_reducible refine ee_con _ _ ?_
    kernel_rfl
  change SS _ _ [some (.d (eK aloneG)), some (.d (eK wholeG)), some (.d (eK splitG)), some (.d (.tuple (supG.map eU))), none] _ _ _
  with_reducible refine ss_if1 (k := false) ?_ (fun k => nomatch k) (fun _ G5 H5 g5 => ?_)
  · refine et_w (ew_or (k := false) (et_cmp (x := .d (.tuple (([["cc", "tcc"]] : List (List Str)).map eSs))) (y := .d (.tuple (([["cc", "tcc"]] : List (List Str)).map eSs))) (ee_clsK (tr := []) C7 hr7 (ee_nm 0) (ee_con _ (eSs []) ?_) (ee_nm 3) fine_alone ev_alone st_name st_tup) (ee_con _ _ ?_) fun _ _ g => ?_) fun _ => ew_or1 (ET.to (et_not (et_val (ee_calmK (tr := []) C8 hr (ee_nm 0) (ee_con _ (eSs []) ?_) (ee_nm 3) fine_alone ev_alone2 st_name st_tup))) rfl))
    · kernel_rfl
    · kernel_rfl
    · have sh : SeqAt.shaped (.tuple (([["cc", "tcc"]] : List (List Str)).map eSs)) = true := shSs (by decide +kernel)
      have := od_neD hr.units sh sh g
      rw [show PyData.eqv (.tuple (([["cc", "tcc"]] : List (List Str)).map eSs)) (.tuple (([["cc", "tcc"]] : List (List Str)).map eSs)) = true from eqv_same _] at this
      exact this
    · kernel_rfl
  -- told unlike
  with_reducible refine ss_set (x := .d (eK apartG)) 4 ?_ ?_ (fun G6 H6 g6 => ?_) ?_ ?_ ?_ ?_
  · exact sc_l_fixed.nd
  rotate_left 2
  · rfl
  · first | exact Or.inl rfl | exact Or.inr rfl
  · rfl
  · first | exact .inl rfl | exact .inr rfl
  · refine EE.to (ee_cat (ds := cutD [.tuple (srcG.map eS), .tuple (ptyG.map eP), .tuple [], .tuple (ownG.map eB)] none (some ((2 : Nat) : Int))) (es := [.tuple [eU ("cc", "tcc")], .tuple []]) (ee_slT (ee_nm 0) eo_no (eo_at ee_int)) (ee_con _ _ ?_) ?_) ?_
    · kernel_rfl
    · rw [cutD_to]
      exact Nat.le_of_ble_eq_true rfl
    · rw [cutD_to]
      rfl
  change SS _ _ [some (.d (eK aloneG)), some (.d (eK wholeG)), some (.d (eK splitG)), some (.d (.tuple (supG.map eU))), some (.d (eK apartG))] _ _ _
  with_reducible refine ss_ret (x := .d (.bool true)) ?_ ?_
  · refine EE.to (ee_and (k := true) (l := true) (ee_not (k := false) (ee_calmK (tr := []) C8 hr (ee_nm 4) (ee_con _ (eSs []) ?_) (ee_nm 3) fine_apart1 ev_apart1 st_name st_tup)) fun _ => ee_one (ee_calm2 (tr := []) C8 hr (ee_nm 4) (ee_con _ (eSs []) ?_) fine_apart0 ev_apart0 st_name st_tup)) ?_
    · kernel_rfl
    · kernel_rfl
    · rfl
  · exact fun v G7 H7 g7 r7 => q v G7 H7 (g1.trans (g2.trans (g3.trans (g4.trans (g5.trans (g6.trans g7)))))) r7
end Rb
set_option Elab.async false
set_option linter.all false
set_option maxRecDepth 100000
set_option maxHeartbeats 1000000
namespace Rb
open PySem PySem.Spec PyProof.Rows L2
variable {P : Program} {w : World} {K : PySem.W.Frag} {mg : Str → Option Value} {base : Heap} {f : Addr} {fd : FuncData}
/-- the law: on at most 63 whole numbers it gives True -/
def spLaw (K : PySem.W.Frag) : Sp := fun vs H Q _ => ∃ (a : Addr) (ns : List Int), vs = [.ref a] ∧ SqL K H a (ns.map V.int) ∧ ∀ H', Q (.bl true) H'
theorem ok_law (T : Gf mg) (F : FD K "law" s_law f fd) (C0 : Fn P w K mg base "_law_fixed" 9 0 [] R_lfixed) (C1 : FnFeed P w K mg base "_law_feed" 1) (C2 : FnD P w K mg base "_law_scene" 4 1 47 R_lscene) (C3 : Fn P w K mg base "_law_chosen" 1 2 [] R_chosen) (C4 : FnD P w K mg base "_law_supposed" 3 3 5 R_lsup) (C5 : Fn P w K mg base "_law_agrees" 9 3 [] R_agrees) (C6 : FnK P w K mg base "classes_of" 7 R_classes_of) (C7 : Fn P w K mg base "_law_classes" 1 2 [] R_lcls) (C8 : FnL P w K mg base "_law_close" 3 3 R_close) : FnOk P w K mg base CX0 10 f fd ["_law_script"] (spLaw K) := by
  refine F.ok sc_law (fun vs H Q E h => ?_) fun cdv A outer s H vs Q E hr h => ?_
  · obtain ⟨a, ns, rfl, _⟩ := h
    rfl
  obtain ⟨a, ns, rfl, hS, hQ⟩ := h
  refine ⟨_, PSs.nox pss_w, ?_⟩
  have key : SS (bX P w K mg base N_law "law" s_law f cdv A outer s H E) { nx := fun _ H' => Q .non H', rt := Q } [some (.d (.list (ns.map .int))), none, none, none, none, none] H H (defBody s_law) := by
    have hr1 : Room 1 (bX P w K mg base N_law "law" s_law f cdv A outer s H E).A := hr.mono (by decide)
    change SS _ _ _ _ _ (List.cons _ _)
    with_reducible refine ss_if1 (k := false) ?_ (fun k => nomatch k) (fun _ G1 H1 g1 => ?_)
    · exact ET.to (et_not (et_val (k := true) (ee_call0 C0 hr fun _ _ _ => ⟨rfl, rfl⟩))) rfl
    with_reducible refine fs_feed (cs := ns) 1 ?_ ?_ ?_ ?_ (fun Fe G2 H2 f2 => ?_) ?_ ?_ ?_ ?_ ?_ ?_ ?_
    · exact sc_law.nd
    · exact C1
    · exact hr1
    · exact ee_nm 0
    rotate_left 1
    · rfl
    · first | exact Or.inl rfl | exact Or.inr rfl
    · rfl
    · first | exact .inl rfl | exact .inr rfl
    · rfl
    · rfl
    · rfl
    change SS _ _ [some (.d (.list (ns.map .int))), some (.v (.ref Fe.a)), none, none, none, none] _ _ _
    with_reducible refine fs_asg (m := 0) (k := 47) (P := isScene) f2 (by decide) ?_ (fun d hd => ?_) ?_ ?_ ?_
    · exact fe_call0 C2 (hr.mono (by decide)) (ee_nm 1) ⟨rfl, rfl⟩
    rotate_left 1
    · rfl
    · rfl
    · rfl
    obtain ⟨S, Qn, Fl, b, iS, iQ, iF, B, rfl⟩ := hd
    refine ⟨[(2, eK b), (3, eN S Qn Fl)], ga_tup rfl (gas_cons (ga_nm 2 sc_law.nd) (gas_cons (ga_nm 3 sc_law.nd) gas_nil)), fun G3 H3 g3 f3 => ?_⟩
    change SS _ _ [some (.d (.list (ns.map .int))), some (.v (.ref Fe.a)), some (.d (eK b)), some (.d (eN S Qn Fl)), none, none] _ _ _
    have N := nm_of iS iQ iF
    have lS := srcs_len S iS
    have lQ := ptys_len Qn iQ
    have lF := files_len' Fl iF
    have hlen : (upTo 8).length = 8 := by unfold upTo; rw [List.length_map, List.length_range]
    refine fs_for (m := 0 + 47) (k := 0) (S := fun xs => xs = upTo 8) f3 (by decide) (fi_range (P := (· = .int ((8 : Nat) : Int))) T.range (fe_of ee_int rfl) fun d hd => ⟨8, hd, by decide, rfl⟩) fun xs G4 H4 hxs g4 f4 => ?_
    subst hxs
    refine ⟨fun i ρ G' H' => ∃ o4 o5 : Option SV, ρ = [some (.d (.list (ns.map .int))), some (.v (.ref Fe.a)), some (.d (eK b)), some (.d (eN S Qn Fl)), o4, o5] ∧ Same G4 G' ∧ Fd K Fe (47 + 5 * i) G' H', ⟨none, none, rfl, .refl _, f4.more (by decide)⟩, fun i ρ G1 H1 h => h.choose_spec.choose_spec.2.1, ?_, ?_⟩
    · rintro i d ρ G5 H5 hd ⟨o4, o5, rfl, s45, f5⟩ G6 H6 g6
      have hi : i < 8 := by
        have := (List.getElem?_eq_some_iff.mp hd).1
        omega
      have hd2 : d = .int (i : Nat) := by
        rw [upTo_eq, List.getElem?_map, List.getElem?_range hi] at hd
        exact (Option.some.inj hd).symm
      subst hd2
      refine ⟨[(4, .int (i : Nat))], ga_nm 4 sc_law.nd, ?_⟩
      have f6 := f5.up g6
      have ht : (chosenOf b i).Sublist b.people := chosen_sub
      refine ss_set (x := .d (eSs (chosenOf b i))) 5 sc_law.nd (ee_call C3 hr1 (ea_cons (ee_nm 2) (ea_cons (ee_nm 4) ea_nil)) fun _ _ _ => ⟨b, i, rfl, by rw [pty_len B, lQ]; decide, rfl⟩) fun G7 H7 g7 => ?_
      have f7 := f6.up g7
      generalize chosenOf b i = tr at ht
      change SS _ _ [some (.d (.list (ns.map .int))), some (.v (.ref Fe.a)), some (.d (eK b)), some (.d (eN S Qn Fl)), some (.d (.int (i : Nat))), some (.d (eSs tr))] _ _ _
      with_reducible refine fs_if1 (F := Fe) (m := 47 + 5 * i) (S := fun t => t = false) (k := 0 + (0 + (5 + 0))) ?_ ?_ ?_ (fun h => nomatch h) (fun _ G8 H8 g8 f8 => ?_)
      · exact f7
      · omega
      · refine ft_not (S := fun t => t = false) (ft_val (S := fun t => (!t) = false) ?_)
        refine FE.more (k := 0 + (0 + (5 + 0))) (P := (· = .bool true)) ?_ (Nat.le_refl _) fun d hd => ⟨true, hd, rfl⟩
        refine fe_callP (Ps := Each [(· = eK b), (· = eSs tr), isSup S Fl]) C5 hr ?_ (fun ds hds => ?_) rfl (by decide) st_name rfl
        · refine fa_e (e := _) (es := _) (fe_of (ee_nm 2) rfl) ?_ st_name
          refine fa_e (e := _) (es := _) (fe_of (ee_nm 5) rfl) ?_ st_name
          refine fa_e (e := _) (es := _) ?_ fa_e0 st_call
          exact fe_call C4 (hr.mono (by decide)) (ea_cons (ee_nm 1) (ea_cons (ee_nm 2) (ea_cons (ee_nm 3) ea_nil))) ⟨eK b, S, Qn, Fl, rfl, lS, lF, rfl⟩
        · obtain ⟨_, _, rfl, rfl, _, _, rfl, rfl, _, _, rfl, ⟨sup, rfl, hsup⟩, rfl⟩ := hds
          exact ⟨rfl, .bool true, rfl, fun G1 => ⟨b, tr, sup, _, _, rfl, law_of N B ht hsup, rfl⟩⟩
      have L := law_of (tr := tr) N B ht (sup_nil (S := S) (Fl := Fl))
      have hmem : ∀ k ∈ classesOf b (factsOf b tr []), ∀ z ∈ k, PyData.strOk z = true := fun k hk z hz => L.ground.txt.name (by
        rw [← L.plain.told]
        exact sort_mem.mpr ((told_mem _ _).mpr (.inr ⟨k, hk, hz⟩)))
      with_reducible refine ss_if1 (k := false) ?_ (fun k => nomatch k) (fun _ G9 H9 g9 => ?_)
      · refine et_cmp (x := .d (.tuple ((classesOf b (factsOf b tr [])).map eSs))) (y := .d (.tuple ((classesOf b (factsOf b tr [])).map eSs))) (ee_cls2 C6 (hr.mono (by decide)) (ee_nm 2) (ee_nm 5) L.fine rfl st_name st_name) (ee_call C7 hr1 (ea_cons (ee_nm 2) (ea_cons (x := .d (.list ((lawFacts b tr []).map eU))) (EF.ee (ef_call C8 (hr.mono (by decide)) (ea_cons (ee_nm 2) (ea_cons (ee_nm 5) (ea_cons (ee_tup (ds := []) ea_nil) ea_nil st_tup) st_name) st_name) fun _ _ _ => ⟨b, tr, [], _, _, rfl, L.close, rfl⟩)) ea_nil st_call)) fun _ _ _ => ⟨b, lawFacts b tr [], rfl, L.fine.few, L.ground.txt, L.fok, by rw [L.plain.cls]⟩) fun _ _ g => ?_
        have sh : SeqAt.shaped (.tuple ((classesOf b (factsOf b tr [])).map eSs)) = true := (shaped_LSs hmem).2
        have := od_neD (X := bX P w K mg base N_law "law" s_law f cdv A outer s H E) hr.units sh sh g
        rw [show PyData.eqv (.tuple ((classesOf b (factsOf b tr [])).map eSs)) (.tuple ((classesOf b (factsOf b tr [])).map eSs)) = true from eqv_same _] at this
        exact this
      exact ss_turn ⟨_, _, rfl, s45.trans (g6.g.trans (g7.g.trans (g8.g.trans g9.g))), (f8.up g9).more (by omega)⟩
    · rintro ρ G5 H5 ⟨o4, o5, rfl, s45, f5⟩
      exact ss_ret (x := .d (.bool true)) ee_bl fun v G6 H6 g6 r6 => by
        cases (show Dp K G6 v (.bool true) from r6)
        exact hQ H6
  refine key (.refl _) _ ?_
  exact ER.start (xs := [.d (.list (ns.map .int))]) (.cons (show Dp K H (.ref a) (.list (ns.map .int)) from .lst hS dp_ints) .nil) 5
end Rb
set_option Elab.async false
set_option linter.all false
set_option maxRecDepth 100000
set_option maxHeartbeats 2000000
namespace Rb
open PySem PySem.Spec PyProof.Rows L2
variable {P : Program} {w : World} {K : PySem.W.Frag} {mg : Str → Option Value} {base : Heap} {f : Addr} {fd : FuncData}
def formAt (S ws : List Str) (cs : List (List Str)) (bs : List Bool) (us : List (List Str)) (k : Nat) : Src := ⟨at_ S k, at_ ws k, cs.getD k [], bs.getD k false, us.getD k []⟩
theorem fn_lforms (T : Gf mg) (F : FD K "_law_forms" s_l_forms f fd) (hx : mg "_law_forms" = some (.ref f)) (C1 : FnD P w K mg base "_law_draw" 1 2 1 R_draw) (C2 : FnD P w K mg base "_law_any" 2 2 1 R_any) : FnD P w K mg base "_law_forms" 3 2 7 R_lforms := by
  refine fn_feed F sc_l_forms rfl rfl hx (F.bindsN fun _ _ _ _ _ _ us hl => match us, hl with | [_, _], _ => rfl) fun cdv A outer s H E hr Fe u0 G xs Pd Q hR hl hf hu q => ?_
  obtain ⟨S, rfl, hS, rfl⟩ := hR
  have hr1 : Room 1 (bX P w K mg base N_l_forms "_law_forms" s_l_forms f cdv A outer s H E).A := hr.mono (by decide)
  refine fs_set (P := fun d => ∃ ds, d = .list ds ∧ Each [isB, isB, isB, (· = .bool true), (· = .bool false)] ds) (k := (1 + 0) + ((1 + 0) + ((1 + 0) + (0 + (0 + 0))))) 2 hf (by omega) sc_l_forms.nd ?_ fun d1 G1 H1 h1 g1 f1 => ?_
  · refine fe_eLst ?_ (Nat.le_of_ble_eq_true rfl)
    refine fa_e (e := _) (es := _) ?_ ?_ st_cmp
    · exact fe_gt0 (fe_draw (n := 4) C1 hr1 (ee_nm 0) rfl (by decide) (by decide))
    refine fa_e (e := _) (es := _) ?_ ?_ st_cmp
    · exact fe_gt0 (fe_draw (n := 3) C1 hr1 (ee_nm 0) rfl (by decide) (by decide))
    refine fa_e (e := _) (es := _) ?_ ?_ st_cmp
    · exact fe_gt0 (fe_draw (n := 2) C1 hr1 (ee_nm 0) rfl (by decide) (by decide))
    refine fa_e (e := _) (es := _) (fe_of ee_bl rfl) ?_ st_con
    exact fa_e (e := _) (es := _) (fe_of ee_bl rfl) fa_e0 st_con
  obtain ⟨_, rfl, _, _, rfl, ⟨b0, rfl⟩, _, _, rfl, ⟨b1, rfl⟩, _, _, rfl, ⟨b2, rfl⟩, _, _, rfl, rfl, _, _, rfl, rfl, rfl⟩ := h1
  refine fs_set (P := fun d => ∃ ds, d = .list ds ∧ Each [(· = .str "c"), (· = .str "c"), (· ∈ [.str "c", .str "c", .str "d"]), (· ∈ [.str "c", .str "c", .str "d"]), (· = .str "c")] ds) (k := 0 + (0 + (1 + (1 + (0 + 0))))) 3 f1 (by omega) sc_l_forms.nd ?_ fun d2 G2 H2 h2 g2 f2 => ?_
  · refine fe_eLst ?_ (Nat.le_of_ble_eq_true rfl)
    refine fa_e (e := _) (es := _) (fe_of ee_str rfl) ?_ st_con
    refine fa_e (e := _) (es := _) (fe_of ee_str rfl) ?_ st_con
    refine fa_e (e := _) (es := _) ?_ ?_ st_call
    · refine fe_anyC C2 hr (ee_nm 0) ?_ (by decide) (by decide)
      kernel_rfl
    refine fa_e (e := _) (es := _) ?_ ?_ st_call
    · refine fe_anyC C2 hr (ee_nm 0) ?_ (by decide) (by decide)
      kernel_rfl
    exact fa_e (e := _) (es := _) (fe_of ee_str rfl) fa_e0 st_con
  obtain ⟨_, rfl, _, _, rfl, rfl, _, _, rfl, rfl, w2, _, rfl, hw2, w3, _, rfl, hw3, _, _, rfl, rfl, rfl⟩ := h2
  obtain ⟨z2, rfl⟩ : ∃ z : Str, w2 = .str z := by
    simp only [List.mem_cons, List.not_mem_nil, or_false] at hw2
    rcases hw2 with h | h | h
    · exact ⟨_, h⟩
    · exact ⟨_, h⟩
    · exact ⟨_, h⟩
  obtain ⟨z3, rfl⟩ : ∃ z : Str, w3 = .str z := by
    simp only [List.mem_cons, List.not_mem_nil, or_false] at hw3
    rcases hw3 with h | h | h
    · exact ⟨_, h⟩
    · exact ⟨_, h⟩
    · exact ⟨_, h⟩
  have oneC : ∀ {d : D}, d ∈ [eSs ["c"], eSs ["c"], eSs ["c", "d"]] ∨ d ∈ [eSs ["c", "d"], eSs ["c"], eSs ["d"]] → ∃ c, d = eSs c := by
    intro d hd
    simp only [List.mem_cons, List.not_mem_nil, or_false] at hd
    rcases hd with (h | h | h) | (h | h | h)
    · exact ⟨_, h⟩
    · exact ⟨_, h⟩
    · exact ⟨_, h⟩
    · exact ⟨_, h⟩
    · exact ⟨_, h⟩
    · exact ⟨_, h⟩
  refine fs_set (P := (· ∈ [eSs ["c"], eSs ["c"], eSs ["c", "d"]])) (k := 1) 4 f2 (by omega) sc_l_forms.nd ?_ fun d3 G3 H3 h3 g3 f3 => ?_
  · refine fe_anyC C2 hr (ee_nm 0) ?_ (by decide) (by decide)
    kernel_rfl
  obtain ⟨c0, rfl⟩ := oneC (.inl h3)
  refine ss_set (x := .d (eSs (if z3 = "d" then ["c"] else []))) 5 sc_l_forms.nd ?_ fun G4 H4 g4 => ?_
  · refine ee_if (k := decide (z3 = "d")) ?_ (fun hk => ?_) fun hk => ?_
    · exact et_cmp (ee_atL 3 (ds := [.str "c", .str "c", .str z2, .str z3, .str "c"]) (ee_nm 3) rfl) ee_str fun _ _ g => od_eqS g
    · rw [if_pos (of_decide_eq_true hk)]
      exact ee_tup (ds := [.str "c"]) (ea_cons ee_str ea_nil)
    · rw [if_neg (of_decide_eq_false hk)]
      exact ee_tup (ds := []) ea_nil
  generalize (if z3 = "d" then ["c"] else [] : List Str) = late
  have f4 := f3.up g4
  refine fs_set (P := fun d => ∃ c1, d = .list [eSs c0, eSs c1, eSs [], eSs late, eSs []]) (k := 0 + (1 + (0 + (0 + (0 + 0))))) 6 f4 (by omega) sc_l_forms.nd ?_ fun d5 G5 H5 h5 g5 f5 => ?_
  · refine FE.more (k := 0 + (1 + (0 + (0 + (0 + 0))))) (P := fun d => ∃ ds, d = .list ds ∧ Each [(· = eSs c0), (· ∈ [eSs ["c", "d"], eSs ["c"], eSs ["d"]]), (· = eSs []), (· = eSs late), (· = eSs [])] ds) ?_ (by decide) ?_
    · refine fe_eLst ?_ (Nat.le_of_ble_eq_true rfl)
      refine fa_e (e := _) (es := _) (fe_of (ee_nm 4) rfl) ?_ st_name
      refine fa_e (e := _) (es := _) ?_ ?_ st_call
      · refine fe_anyC C2 hr (ee_nm 0) ?_ (by decide) (by decide)
        kernel_rfl
      refine fa_e (e := _) (es := _) (fe_of (ee_tup (ds := []) ea_nil) rfl) ?_ st_tup
      refine fa_e (e := _) (es := _) (fe_of (ee_nm 5) rfl) ?_ st_name
      exact fa_e (e := _) (es := _) (fe_of (ee_tup (ds := []) ea_nil) rfl) fa_e0 st_tup
    · rintro d ⟨_, rfl, _, _, rfl, rfl, _, _, rfl, hc, _, _, rfl, rfl, _, _, rfl, rfl, _, _, rfl, rfl, rfl⟩
      obtain ⟨c1, rfl⟩ := oneC (.inr hc)
      exact ⟨c1, rfl⟩
  obtain ⟨c1, rfl⟩ := h5
  have S2 : (S.map PyData.str)[2]? = some (.str (at_ S 2)) := at_get (by omega)
  have S3 : (S.map PyData.str)[3]? = some (.str (at_ S 3)) := at_get (by omega)
  with_reducible refine ss_set (x := .d (.list [eSs [], eSs [], eSs [], eSs [at_ S 2], eSs (sortBy PyData.str [at_ S 2, at_ S 3])])) 7 ?_ (EF.ee ?_) (fun G6 H6 g6 => ?_) ?_ ?_ ?_ ?_
  · exact sc_l_forms.nd
  rotate_left 2
  · rfl
  · first | exact Or.inl rfl | exact Or.inr rfl
  · rfl
  · first | exact .inl rfl | exact .inr rfl
  · with_reducible refine ef_lst ?_ ?_
    rotate_left 1
    · exact Nat.le_of_ble_eq_true rfl
    refine ea_cons (e := _) (es := _) (xs := _) (ee_tup (ds := []) ea_nil) ?_ st_tup
    refine ea_cons (e := _) (es := _) (xs := _) (ee_tup (ds := []) ea_nil) ?_ st_tup
    refine ea_cons (e := _) (es := _) (xs := _) (ee_tup (ds := []) ea_nil) ?_ st_tup
    refine ea_cons (e := _) (es := _) (xs := _) (ee_tup (ds := [.str (at_ S 2)]) (ea_cons (ee_at 2 (ee_nm 1) rfl S2) ea_nil st_sub)) ?_ st_tup
    refine ea_cons (e := _) (es := []) (xs := []) ?_ ea_nil st_call
    refine ee_tupOf T.tuple (EF.ee (ef_callB T.sorted (by decide +kernel) (ea_cons (x := .d (.list ([at_ S 2, at_ S 3].map .str))) (EF.ee (ef_lst ?_)) ea_nil st_list) fun _ _ g => cf_sorted hr.units (fun x y => by simp [PySem.W.alike]) (PySem.W.Sortable.others fun z => ⟨fun q => PyData.noConfusion q, fun xs q => PyData.noConfusion q⟩) (Nat.le_of_ble_eq_true rfl) (fun z => by simp [PyData.depth]) g))
    refine ea_cons (e := _) (es := _) (xs := _) (ee_at 2 (ee_nm 1) rfl S2) ?_ st_sub
    exact ea_cons (e := _) (es := []) (xs := []) (ee_at 3 (ee_nm 1) rfl S3) ea_nil st_sub
  refine ss_ret (x := .d (.tuple ((sortBy eS ((List.range 5).map (formAt S ["c", "c", z2, z3, "c"] [c0, c1, [], late, []] [b0, b1, b2, true, false] [[], [], [], [at_ S 2], sortBy PyData.str [at_ S 2, at_ S 3]]))).map eS))) ?_ fun v G7 H7 g7 r7 => q v _ G7 H7 (g1.trans (g2.trans (g3.trans ((g4.er f3).trans (g5.trans ((g6.trans g7).er f5)))))) ((f5.up (g6.trans g7)).more (by omega)) ⟨_, rfl, ?_⟩ r7
  · refine ee_tupOf T.tuple (EF.ee (ef_callB T.sorted (by decide +kernel) (ea_cons (x := .d (.list (((List.range 5).map (formAt S ["c", "c", z2, z3, "c"] [c0, c1, [], late, []] [b0, b1, b2, true, false] [[], [], [], [at_ S 2], sortBy PyData.str [at_ S 2, at_ S 3]])).map eS))) (EE.to (EF.ee (ef_map [("_law_k", 8)] (List.range 5) (fun k => .int (k : Nat)) (fun k => [(8, .int (k : Nat))]) (fun k => eS (formAt S ["c", "c", z2, z3, "c"] [c0, c1, [], late, []] [b0, b1, b2, true, false] [[], [], [], [at_ S 2], sortBy PyData.str [at_ S 2, at_ S 3]] k)) sc_l_forms.nd ?_ (by decide) (fun _ _ i hi => hi) (fun _ _ _ _ _ z _ => ga_nm 8 sc_l_forms.nd) fun _ _ _ _ _ z hz => ?_)) ?_) ea_nil st_lc) fun _ _ g => cf_sorted hr.units eS_alike (PySem.W.Sortable.tuples fun x => ⟨_, _, rfl⟩) (Nat.le_of_ble_eq_true rfl) eS_depth g))
    · exact ei_rangeN T.range ee_int (by decide)
    · have hz5 : z < 5 := List.mem_range.mp hz
      refine ee_tup (ds := [.str (at_ S z), .str (at_ (["c", "c", z2, z3, "c"] : List Str) z), eSs ([c0, c1, [], late, []].getD z []), .bool ([b0, b1, b2, true, false].getD z false), eSs ([[], [], [], [at_ S 2], sortBy PyData.str [at_ S 2, at_ S 3]].getD z [])]) ?_
      refine ea_cons (e := _) (es := _) (xs := _) (ee_ix (ee_nm 1) (ee_nm 8) fun _ _ g => xd_tup (at_get (by omega)) g) ?_ st_sub
      refine ea_cons (e := _) (es := _) (xs := _) (ee_ix (x := .d (.list (((["c", "c", z2, z3, "c"] : List Str)).map .str))) (ee_nm 3) (ee_nm 8) fun _ _ g => xd_lst (at_get hz5) g) ?_ st_sub
      refine ea_cons (e := _) (es := _) (xs := _) (ee_ix (x := .d (.list ([c0, c1, [], late, []].map eSs))) (ee_nm 6) (ee_nm 8) fun _ _ g => xd_lst (getD_get [] eSs hz5) g) ?_ st_sub
      refine ea_cons (e := _) (es := _) (xs := _) (ee_ix (x := .d (.list ([b0, b1, b2, true, false].map .bool))) (ee_nm 2) (ee_nm 8) fun _ _ g => xd_lst (getD_get false .bool hz5) g) ?_ st_sub
      exact ea_cons (e := _) (es := []) (xs := []) (ee_ix (x := .d (.list ([[], [], [], [at_ S 2], sortBy PyData.str [at_ S 2, at_ S 3]].map eSs))) (ee_nm 7) (ee_nm 8) fun _ _ g => xd_lst (getD_get [] eSs hz5) g) ea_nil st_sub
    · rw [List.map_map]
      rfl
  · refine ⟨?_, ?_⟩
    · rw [sort_names (nm := fun s : Src => s.name) (fun h => le_S h)]
      refine congrArg _ ?_
      rw [List.map_map]
      match S, hS with
      | [s0, s1, s2, s3, s4], _ => rfl
    · intro sr hs z hz
      rw [sort_mem] at hs
      obtain ⟨k, hk, rfl⟩ := List.mem_map.mp hs
      have h2 : at_ S 2 ∈ S := at_mem (by omega)
      have h3 : at_ S 3 ∈ S := at_mem (by omega)
      have hz' : z ∈ ([[], [], [], [at_ S 2], sortBy PyData.str [at_ S 2, at_ S 3]] : List (List Str)).getD k [] := hz
      have hk5 : k < 5 := List.mem_range.mp hk
      rcases k with _ | _ | _ | _ | _ | k
      · cases hz'
      · cases hz'
      · cases hz'
      · rw [List.mem_singleton.mp hz']
        exact h2
      · have := sort_mem.mp hz'
        simp only [List.mem_cons, List.not_mem_nil, or_false] at this
        rcases this with rfl | rfl
        · exact h2
        · exact h3
      · omega
end Rb
set_option Elab.async false
set_option linter.all false
set_option maxRecDepth 100000
set_option maxHeartbeats 4000000
namespace Rb
open PySem PySem.Spec PyProof.Rows L2
theorem tup0_ok {K : PySem.W.Frag} {a : Addr} (h : tup0B K a = true) (H : Hp) : SqT K H a [] := by
  unfold tup0B at h
  cases q : K.lookup a with
  | none =>
    rw [q] at h
    cases h
  | some o =>
    obtain ⟨oc, od, dt, osl⟩ := o
    rw [q] at h
    cases oc with
    | type c =>
      cases dt with
      | seq its n =>
        obtain ⟨h1, h2⟩ := He.ba (show (decide (c = "tuple") && decide (its.size = 0)) = true from h)
        have hz : its.size = 0 := of_decide_eq_true h2
        have he : its = #[] := Array.eq_empty_of_size_eq_zero hz
        subst he
        exact .inr ⟨_, #[], n, q, congrArg Value.type (of_decide_eq_true h1), rfl, Nat.zero_le _, .nil⟩
      | _ => cases h
    | _ => cases dt <;> cases h

section
variable {P : Program} {w : World} {K : PySem.W.Frag} {h : Heap} {mg : Str → Option Value} {f : Addr} {base : Heap}
theorem gf_of (X : K.In h) (G : h.Ns mainGlobals mg) (c : He.SaysD fa fn K) : Gf mg where
  isinstance := He.free_ok X G (c.fact 47 (f := .free "isinstance") rfl)
  str := He.free_ok X G (c.fact 48 (f := .free "str") rfl)
  len := He.free_ok X G (c.fact 49 (f := .free "len") rfl)
  all := He.free_ok X G (c.fact 50 (f := .free "all") rfl)
  tuple := He.free_ok X G (c.fact 51 (f := .free "tuple") rfl)
  zip := He.free_ok X G (c.fact 52 (f := .free "zip") rfl)
  enumerate := He.free_ok X G (c.fact 53 (f := .free "enumerate") rfl)
  range := He.free_ok X G (c.fact 54 (f := .free "range") rfl)
  sorted := He.free_ok X G (c.fact 55 (f := .free "sorted") rfl)
  set := He.free_ok X G (c.fact 56 (f := .free "set") rfl)
  list := He.free_ok X G (c.fact 57 (f := .free "list") rfl)
  int := He.free_ok X G (c.fact 58 (f := .free "int") rfl)
  bool := He.free_ok X G (c.fact 59 (f := .free "bool") rfl)
  letters := He.str_ok X G (c.fact 60 (f := .str "LETTERS" "abcdefghijklmnopqrstuvwxyz") rfl)
  digits := He.str_ok X G (c.fact 61 (f := .str "DIGITS" "0123456789") rfl)
  longest := He.int_ok X G (c.fact 62 (f := .int "LONGEST_NAME" 8) rfl)
theorem facts (X : K.In h) (G : h.Ns mainGlobals mg) (hfa : mg ("law" : Str) = some (.ref f)) (cx : He.SaysX fa fn [] [] exB w h K) :
    ∃ fd : FuncData, (∀ (s : Shared) (v : Value), BindsTo s fd ⟨[v], []⟩ [("_law_script", v)]) ∧ ∀ base : Heap, K.In base → base.Ns mainGlobals mg → FnOk P w K mg base CX0 10 f fd ["_law_script"] (spLaw K) := by
  have c : He.SaysD fa fn K := He.SaysT.d cx.t
  have T := gf_of X G c
  have ex := cx.more
  have hz : ∀ x : Str, x ∈ [("facts_of" : Str), "clashes_of", "is_calm", "classes_of"] → ∀ H, SqT K H (kwAt x "supposed" K) [] := fun x hx => tup0_ok (List.all_eq_true.mp ex x hx)
  obtain ⟨fd_is_name, F_is_name⟩ := c.def_ 0 (d := dd "is_name" 8 [] []) rfl
  have x_is_name : mg "is_name" = some (.ref (He.ga K "is_name")) := He.glo_ok X G (c.fact 0 (f := .glo "is_name") rfl)
  obtain ⟨fd_are_names, F_are_names⟩ := c.def_ 1 (d := dd "are_names" 9 [] []) rfl
  have x_are_names : mg "are_names" = some (.ref (He.ga K "are_names")) := He.glo_ok X G (c.fact 1 (f := .glo "are_names") rfl)
  obtain ⟨fd_is_rising, F_is_rising⟩ := c.def_ 2 (d := dd "is_rising" 10 [] []) rfl
  have x_is_rising : mg "is_rising" = some (.ref (He.ga K "is_rising")) := He.glo_ok X G (c.fact 2 (f := .glo "is_rising") rfl)
  obtain ⟨fd_is_set, F_is_set⟩ := c.def_ 3 (d := dd "is_set" 11 [] []) rfl
  have x_is_set : mg "is_set" = some (.ref (He.ga K "is_set")) := He.glo_ok X G (c.fact 3 (f := .glo "is_set") rfl)
  obtain ⟨fd_is_name_pair, F_is_name_pair⟩ := c.def_ 4 (d := dd "is_name_pair" 12 [] []) rfl
  have x_is_name_pair : mg "is_name_pair" = some (.ref (He.ga K "is_name_pair")) := He.glo_ok X G (c.fact 4 (f := .glo "is_name_pair") rfl)
  obtain ⟨fd_is_fact, F_is_fact⟩ := c.def_ 5 (d := dd "is_fact" 13 [] []) rfl
  have x_is_fact : mg "is_fact" = some (.ref (He.ga K "is_fact")) := He.glo_ok X G (c.fact 5 (f := .glo "is_fact") rfl)
  obtain ⟨fd_need, F_need⟩ := c.def_ 6 (d := dd "need" 15 [.int (-1)] []) rfl
  have x_need : mg "need" = some (.ref (He.ga K "need")) := He.glo_ok X G (c.fact 6 (f := .glo "need") rfl)
  obtain ⟨fd_source_of, F_source_of⟩ := c.def_ 7 (d := dd "source_of" 16 [] []) rfl
  have x_source_of : mg "source_of" = some (.ref (He.ga K "source_of")) := He.glo_ok X G (c.fact 7 (f := .glo "source_of") rfl)
  obtain ⟨fd_source_names, F_source_names⟩ := c.def_ 8 (d := dd "source_names" 17 [] []) rfl
  have x_source_names : mg "source_names" = some (.ref (He.ga K "source_names")) := He.glo_ok X G (c.fact 8 (f := .glo "source_names") rfl)
  obtain ⟨fd_party_names, F_party_names⟩ := c.def_ 9 (d := dd "party_names" 18 [] []) rfl
  have x_party_names : mg "party_names" = some (.ref (He.ga K "party_names")) := He.glo_ok X G (c.fact 9 (f := .glo "party_names") rfl)
  obtain ⟨fd_need_parties, F_need_parties⟩ := c.def_ 10 (d := dd "need_parties" 19 [] []) rfl
  have x_need_parties : mg "need_parties" = some (.ref (He.ga K "need_parties")) := He.glo_ok X G (c.fact 10 (f := .glo "need_parties") rfl)
  obtain ⟨fd_need_supposed, F_need_supposed⟩ := c.def_ 11 (d := dd "need_supposed" 20 [] []) rfl
  have x_need_supposed : mg "need_supposed" = some (.ref (He.ga K "need_supposed")) := He.glo_ok X G (c.fact 11 (f := .glo "need_supposed") rfl)
  obtain ⟨fd_build_step, F_build_step⟩ := c.def_ 12 (d := dd "build_step" 21 [] []) rfl
  have x_build_step : mg "build_step" = some (.ref (He.ga K "build_step")) := He.glo_ok X G (c.fact 12 (f := .glo "build_step") rfl)
  obtain ⟨fd_moved_steps, F_moved_steps⟩ := c.def_ 13 (d := dd "moved_steps" 22 [] []) rfl
  have x_moved_steps : mg "moved_steps" = some (.ref (He.ga K "moved_steps")) := He.glo_ok X G (c.fact 13 (f := .glo "moved_steps") rfl)
  obtain ⟨fd_next_steps, F_next_steps⟩ := c.def_ 14 (d := dd "next_steps" 23 [] []) rfl
  have x_next_steps : mg "next_steps" = some (.ref (He.ga K "next_steps")) := He.glo_ok X G (c.fact 14 (f := .glo "next_steps") rfl)
  obtain ⟨fd_derived, F_derived⟩ := c.def_ 15 (d := dd "derived" 24 [] []) rfl
  have x_derived : mg "derived" = some (.ref (He.ga K "derived")) := He.glo_ok X G (c.fact 15 (f := .glo "derived") rfl)
  obtain ⟨fd_part_clash, F_part_clash⟩ := c.def_ 16 (d := dd "part_clash" 25 [] []) rfl
  have x_part_clash : mg "part_clash" = some (.ref (He.ga K "part_clash")) := He.glo_ok X G (c.fact 16 (f := .glo "part_clash") rfl)
  obtain ⟨fd_parted_pairs, F_parted_pairs⟩ := c.def_ 17 (d := dd "parted_pairs" 26 [] []) rfl
  have x_parted_pairs : mg "parted_pairs" = some (.ref (He.ga K "parted_pairs")) := He.glo_ok X G (c.fact 17 (f := .glo "parted_pairs") rfl)
  obtain ⟨fd_clashes_among, F_clashes_among⟩ := c.def_ 18 (d := dd "clashes_among" 27 [] []) rfl
  have x_clashes_among : mg "clashes_among" = some (.ref (He.ga K "clashes_among")) := He.glo_ok X G (c.fact 18 (f := .glo "clashes_among") rfl)
  obtain ⟨fd_facts_of, F_facts_of⟩ := c.def_ 19 (d := dd "facts_of" 29 [] [("supposed", .adr (kwAt "facts_of" "supposed"))]) rfl
  have x_facts_of : mg "facts_of" = some (.ref (He.ga K "facts_of")) := He.glo_ok X G (c.fact 19 (f := .glo "facts_of") rfl)
  obtain ⟨fd_clashes_of, F_clashes_of⟩ := c.def_ 20 (d := dd "clashes_of" 30 [] [("supposed", .adr (kwAt "clashes_of" "supposed"))]) rfl
  have x_clashes_of : mg "clashes_of" = some (.ref (He.ga K "clashes_of")) := He.glo_ok X G (c.fact 20 (f := .glo "clashes_of") rfl)
  obtain ⟨fd_is_calm, F_is_calm⟩ := c.def_ 21 (d := dd "is_calm" 31 [] [("supposed", .adr (kwAt "is_calm" "supposed"))]) rfl
  have x_is_calm : mg "is_calm" = some (.ref (He.ga K "is_calm")) := He.glo_ok X G (c.fact 21 (f := .glo "is_calm") rfl)
  obtain ⟨fd_classes_of, F_classes_of⟩ := c.def_ 22 (d := dd "classes_of" 32 [] [("supposed", .adr (kwAt "classes_of" "supposed"))]) rfl
  have x_classes_of : mg "classes_of" = some (.ref (He.ga K "classes_of")) := He.glo_ok X G (c.fact 22 (f := .glo "classes_of") rfl)
  obtain ⟨fd_l_feed, F_l_feed⟩ := c.def_ 23 (d := dd "_law_feed" 34 [] []) rfl
  have x_l_feed : mg "_law_feed" = some (.ref (He.ga K "_law_feed")) := He.glo_ok X G (c.fact 23 (f := .glo "_law_feed") rfl)
  obtain ⟨fd_l_draw, F_l_draw⟩ := c.def_ 24 (d := dd "_law_draw" 35 [] []) rfl
  have x_l_draw : mg "_law_draw" = some (.ref (He.ga K "_law_draw")) := He.glo_ok X G (c.fact 24 (f := .glo "_law_draw") rfl)
  obtain ⟨fd_l_any, F_l_any⟩ := c.def_ 25 (d := dd "_law_any" 36 [] []) rfl
  have x_l_any : mg "_law_any" = some (.ref (He.ga K "_law_any")) := He.glo_ok X G (c.fact 25 (f := .glo "_law_any") rfl)
  obtain ⟨fd_l_names, F_l_names⟩ := c.def_ 26 (d := dd "_law_names" 37 [] []) rfl
  have x_l_names : mg "_law_names" = some (.ref (He.ga K "_law_names")) := He.glo_ok X G (c.fact 26 (f := .glo "_law_names") rfl)
  obtain ⟨fd_l_rows, F_l_rows⟩ := c.def_ 27 (d := dd "_law_rows" 38 [] []) rfl
  have x_l_rows : mg "_law_rows" = some (.ref (He.ga K "_law_rows")) := He.glo_ok X G (c.fact 27 (f := .glo "_law_rows") rfl)
  obtain ⟨fd_l_row, F_l_row⟩ := c.def_ 28 (d := dd "_law_row" 39 [] []) rfl
  have x_l_row : mg "_law_row" = some (.ref (He.ga K "_law_row")) := He.glo_ok X G (c.fact 28 (f := .glo "_law_row") rfl)
  obtain ⟨fd_l_build, F_l_build⟩ := c.def_ 29 (d := dd "_law_build" 40 [] []) rfl
  have x_l_build : mg "_law_build" = some (.ref (He.ga K "_law_build")) := He.glo_ok X G (c.fact 29 (f := .glo "_law_build") rfl)
  obtain ⟨fd_l_forms, F_l_forms⟩ := c.def_ 30 (d := dd "_law_forms" 41 [] []) rfl
  have x_l_forms : mg "_law_forms" = some (.ref (He.ga K "_law_forms")) := He.glo_ok X G (c.fact 30 (f := .glo "_law_forms") rfl)
  obtain ⟨fd_l_pairs, F_l_pairs⟩ := c.def_ 31 (d := dd "_law_pairs" 42 [] []) rfl
  have x_l_pairs : mg "_law_pairs" = some (.ref (He.ga K "_law_pairs")) := He.glo_ok X G (c.fact 31 (f := .glo "_law_pairs") rfl)
  obtain ⟨fd_l_scene, F_l_scene⟩ := c.def_ 32 (d := dd "_law_scene" 43 [] []) rfl
  have x_l_scene : mg "_law_scene" = some (.ref (He.ga K "_law_scene")) := He.glo_ok X G (c.fact 32 (f := .glo "_law_scene") rfl)
  obtain ⟨fd_l_chosen, F_l_chosen⟩ := c.def_ 33 (d := dd "_law_chosen" 44 [] []) rfl
  have x_l_chosen : mg "_law_chosen" = some (.ref (He.ga K "_law_chosen")) := He.glo_ok X G (c.fact 33 (f := .glo "_law_chosen") rfl)
  obtain ⟨fd_l_supposed, F_l_supposed⟩ := c.def_ 34 (d := dd "_law_supposed" 45 [] []) rfl
  have x_l_supposed : mg "_law_supposed" = some (.ref (He.ga K "_law_supposed")) := He.glo_ok X G (c.fact 34 (f := .glo "_law_supposed") rfl)
  obtain ⟨fd_l_form_of, F_l_form_of⟩ := c.def_ 35 (d := dd "_law_form_of" 46 [] []) rfl
  have x_l_form_of : mg "_law_form_of" = some (.ref (He.ga K "_law_form_of")) := He.glo_ok X G (c.fact 35 (f := .glo "_law_form_of") rfl)
  obtain ⟨fd_l_rights, F_l_rights⟩ := c.def_ 36 (d := dd "_law_rights" 47 [] []) rfl
  have x_l_rights : mg "_law_rights" = some (.ref (He.ga K "_law_rights")) := He.glo_ok X G (c.fact 36 (f := .glo "_law_rights") rfl)
  obtain ⟨fd_l_wanted, F_l_wanted⟩ := c.def_ 37 (d := dd "_law_wanted" 48 [] []) rfl
  have x_l_wanted : mg "_law_wanted" = some (.ref (He.ga K "_law_wanted")) := He.glo_ok X G (c.fact 37 (f := .glo "_law_wanted") rfl)
  obtain ⟨fd_l_links, F_l_links⟩ := c.def_ 38 (d := dd "_law_links" 49 [] []) rfl
  have x_l_links : mg "_law_links" = some (.ref (He.ga K "_law_links")) := He.glo_ok X G (c.fact 38 (f := .glo "_law_links") rfl)
  obtain ⟨fd_l_close, F_l_close⟩ := c.def_ 39 (d := dd "_law_close" 50 [] []) rfl
  have x_l_close : mg "_law_close" = some (.ref (He.ga K "_law_close")) := He.glo_ok X G (c.fact 39 (f := .glo "_law_close") rfl)
  obtain ⟨fd_l_part, F_l_part⟩ := c.def_ 40 (d := dd "_law_part" 51 [] []) rfl
  have x_l_part : mg "_law_part" = some (.ref (He.ga K "_law_part")) := He.glo_ok X G (c.fact 40 (f := .glo "_law_part") rfl)
  obtain ⟨fd_l_clashes, F_l_clashes⟩ := c.def_ 41 (d := dd "_law_clashes" 52 [] []) rfl
  have x_l_clashes : mg "_law_clashes" = some (.ref (He.ga K "_law_clashes")) := He.glo_ok X G (c.fact 41 (f := .glo "_law_clashes") rfl)
  obtain ⟨fd_l_given, F_l_given⟩ := c.def_ 42 (d := dd "_law_given" 53 [] []) rfl
  have x_l_given : mg "_law_given" = some (.ref (He.ga K "_law_given")) := He.glo_ok X G (c.fact 42 (f := .glo "_law_given") rfl)
  obtain ⟨fd_l_classes, F_l_classes⟩ := c.def_ 43 (d := dd "_law_classes" 54 [] []) rfl
  have x_l_classes : mg "_law_classes" = some (.ref (He.ga K "_law_classes")) := He.glo_ok X G (c.fact 43 (f := .glo "_law_classes") rfl)
  obtain ⟨fd_l_fixed, F_l_fixed⟩ := c.def_ 44 (d := dd "_law_fixed" 55 [] []) rfl
  have x_l_fixed : mg "_law_fixed" = some (.ref (He.ga K "_law_fixed")) := He.glo_ok X G (c.fact 44 (f := .glo "_law_fixed") rfl)
  obtain ⟨fd_l_agrees, F_l_agrees⟩ := c.def_ 45 (d := dd "_law_agrees" 56 [] []) rfl
  have x_l_agrees : mg "_law_agrees" = some (.ref (He.ga K "_law_agrees")) := He.glo_ok X G (c.fact 45 (f := .glo "_law_agrees") rfl)
  obtain ⟨fd_law, F_law⟩ := c.def_ 46 (d := dd "law" 57 [] []) rfl
  have x_law : mg "law" = some (.ref (He.ga K "law")) := He.glo_ok X G (c.fact 46 (f := .glo "law") rfl)
  have e := hfa.symm.trans x_law
  cases e
  have b := FunD.bindsA (ps := ["_law_script"]) F_law fun _ _ _ _ _ _ us hl => match us, hl with | [_], _ => rfl
  refine ⟨fd_law, fun s v => b s [v] rfl, fun base _ _ => ?_⟩
  have c_is_name := fn_is_name (P := P) (w := w) (base := base) T F_is_name x_is_name
  have c_are_names := fn_are_names (P := P) (w := w) (base := base) T F_are_names x_are_names c_is_name
  have c_is_rising := fn_is_rising (P := P) (w := w) (base := base) T F_is_rising x_is_rising
  have c_is_set := fn_is_set (P := P) (w := w) (base := base) F_is_set x_is_set c_are_names c_is_rising
  have c_is_name_pair := fn_is_name_pair (P := P) (w := w) (base := base) T F_is_name_pair x_is_name_pair c_are_names
  have c_is_fact := fn_is_fact (P := P) (w := w) (base := base) F_is_fact x_is_fact c_is_name_pair
  have c_need := fn_need (P := P) (w := w) (base := base) F_need x_need
  have c_source_of := fn_source_of (P := P) (w := w) (base := base) F_source_of x_source_of
  have c_source_names := fn_source_names (P := P) (w := w) (base := base) F_source_names x_source_names
  have c_party_names := fn_party_names (P := P) (w := w) (base := base) F_party_names x_party_names
  have c_need_parties := fn_need_parties (P := P) (w := w) (base := base) T F_need_parties x_need_parties c_party_names c_is_set c_need
  have c_need_supposed := fn_need_supposed (P := P) (w := w) (base := base) T F_need_supposed x_need_supposed c_source_names c_is_fact c_need
  have c_build_step := fn_build_step (P := P) (w := w) (base := base) T F_build_step x_build_step c_source_of
  have c_moved_steps := fn_moved_steps (P := P) (w := w) (base := base) T F_moved_steps x_moved_steps
  have c_next_steps := fn_next_steps (P := P) (w := w) (base := base) T F_next_steps x_next_steps c_build_step c_moved_steps
  have c_derived := fn_derived (P := P) (w := w) (base := base) T F_derived x_derived c_next_steps
  have c_part_clash := fn_part_clash (P := P) (w := w) (base := base) T F_part_clash x_part_clash
  have c_parted_pairs := fn_parted_pairs (P := P) (w := w) (base := base) T F_parted_pairs x_parted_pairs c_part_clash
  have c_clashes_among := fn_clashes_among (P := P) (w := w) (base := base) T F_clashes_among x_clashes_among c_parted_pairs
  have c_facts_of := fn_facts_of (P := P) (w := w) (base := base) T F_facts_of (hz _ (by decide)) x_facts_of c_need_parties c_need_supposed c_derived
  have c_clashes_of := fn_clashes_of (P := P) (w := w) (base := base) F_clashes_of (hz _ (by decide)) x_clashes_of c_facts_of c_clashes_among
  have c_is_calm := fn_is_calm (P := P) (w := w) (base := base) T F_is_calm (hz _ (by decide)) x_is_calm c_clashes_of
  have c_classes_of := fn_classes_of (P := P) (w := w) (base := base) T F_classes_of (hz _ (by decide)) x_classes_of c_facts_of c_source_names
  have c_l_form_of := fn_form_of (P := P) (w := w) (base := base) F_l_form_of x_l_form_of
  have c_l_rights := fn_rights (P := P) (w := w) (base := base) F_l_rights x_l_rights
  have c_l_wanted := fn_wanted (P := P) (w := w) (base := base) T F_l_wanted x_l_wanted c_l_form_of c_l_rights
  have c_l_links := fn_links (P := P) (w := w) (base := base) F_l_links x_l_links c_l_rights
  have c_l_close := fn_close (P := P) (w := w) (base := base) T F_l_close x_l_close c_l_wanted c_l_links
  have c_l_chosen := fn_chosen (P := P) (w := w) (base := base) T F_l_chosen x_l_chosen
  have c_l_part := fn_part (P := P) (w := w) (base := base) T F_l_part x_l_part c_l_form_of c_l_rights
  have c_l_clashes := fn_clashes (P := P) (w := w) (base := base) T F_l_clashes x_l_clashes c_l_part
  have c_l_classes := fn_classes (P := P) (w := w) (base := base) T F_l_classes x_l_classes
  have c_l_agrees := fn_agrees (P := P) (w := w) (base := base) T F_l_agrees x_l_agrees c_l_close c_is_calm c_l_clashes c_classes_of c_l_classes
  have c_l_draw := fn_draw (P := P) (w := w) (base := base) T F_l_draw x_l_draw
  have c_l_feed := fn_lawfeed (P := P) (w := w) (base := base) T F_l_feed x_l_feed
  have c_l_any := fn_any (P := P) (w := w) (base := base) T F_l_any x_l_any c_l_draw
  have c_l_names := fn_lnames (P := P) (w := w) (base := base) F_l_names x_l_names c_l_any
  have c_l_rows := fn_lrows (P := P) (w := w) (base := base) F_l_rows x_l_rows
  have c_l_row := fn_lrow (P := P) (w := w) (base := base) T F_l_row x_l_row c_l_draw
  have c_l_build := fn_lbuild (P := P) (w := w) (base := base) T F_l_build x_l_build
  have c_l_forms := fn_lforms (P := P) (w := w) (base := base) T F_l_forms x_l_forms c_l_draw c_l_any
  have c_l_pairs := fn_lpairs (P := P) (w := w) (base := base) T F_l_pairs x_l_pairs c_l_draw
  have c_l_supposed := fn_lsup (P := P) (w := w) (base := base) T F_l_supposed x_l_supposed c_l_draw c_l_any
  have c_l_scene := fn_lscene (P := P) (w := w) (base := base) T F_l_scene x_l_scene c_l_names c_l_draw c_l_rows c_l_row c_l_build c_l_pairs c_l_forms
  have c_l_given := fn_lgiven (P := P) (w := w) (base := base) F_l_given x_l_given
  have c_l_fixed := fn_lfixed (P := P) (w := w) (base := base) T F_l_fixed x_l_fixed c_l_given c_classes_of c_is_calm
  exact ok_law T F_law c_l_fixed c_l_feed c_l_scene c_l_chosen c_l_supposed c_l_agrees c_classes_of c_l_classes c_l_close
end
end Rb
open PySem PySem.W PySem.Calls PyProof.Rows
set_option Elab.async false
set_option linter.all false
set_option maxRecDepth 100000
set_option maxHeartbeats 0
theorem PySem.Challenge.cw_rebuiltby_k18_whole_classes_holds : PySem.Challenge.rw_rebuiltby_k18_whole_classes.Holds := by
  w_on; o_law
  refine HandSHeadRun.head_any (r := OpenLaw.row PySem.Challenge.rw_rebuiltby_k18_whole_classes) (q := view (OpenLaw.row PySem.Challenge.rw_rebuiltby_k18_whole_classes).prog [57]) (H := Rb.hk) (ob := Rb.ob) (M := 3000) (loose := Rb.looseN) (d := HandSHeadRun.topDef (OpenLaw.row PySem.Challenge.rw_rebuiltby_k18_whole_classes).prog 57) (kwd := []) Rb.ob_eq
    (by kernel_rfl) (fun s => by kernel_rfl) Rb.run (by kernel_rfl) (by kernel_rfl) (by kernel_rfl) (by rfl) (by first | assumption | decide +kernel) (by decide +kernel) ⟨rfl, rfl, rfl, rfl, rfl, by decide +kernel⟩ ?hw ?hc
  case hw => w_witness2
  case hc =>
    refine L2.walk_ofE (l := PySem.Challenge.rw_rebuiltby_k18_whole_classes) (n := 63) (k := 10) (x := "_law_script") (CX := L2.CX0) rfl (by decide) (by kernel_rfl) ⟨rfl, by decide, by decide⟩ ?F (fun _ _ _ _ z => z)
    intro w mg fa h Y G hmg0
    obtain ⟨K, KX, c⟩ := Y
    have hmg : mg ("law" : PySem.Str) = some (.ref fa) := by
      have e : (HandSHeadRun.topDef (OpenLaw.row PySem.Challenge.rw_rebuiltby_k18_whole_classes).prog 57).name = ("law" : PySem.Str) := by kernel_rfl
      rw [← e]
      exact hmg0
    obtain ⟨fd, hb, hF⟩ := Rb.facts (P := (PySem.Challenge.rw_rebuiltby_k18_whole_classes).prog) (w := w) KX G hmg c
    exact ⟨K, fd, Rb.spLaw K, KX, hb, fun H a ns hl _ hS => ⟨a, ns, rfl, hS, fun _ => rfl⟩, hF⟩
