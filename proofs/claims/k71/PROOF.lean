import PyProof.Rows.All
import Wide.All
import OpenK.AllK
import Wide.FinOn
import HandS.ForMost
import HandS.Zip
import HandS.TupAny
import HandS.Star
import HandS.Deep
import HandS.TupLen
import HandS.Style
import KE.GoesEnum
import HandS.IsInst
import PyProof.ReprRoads
import HandS.HeadWalk
import HandS.Defaults
import HandS.ExcIs
import HandS.ExcField
import HandS.Lambda
import HandS.ExcOwn
import HandS.CallLocal
import KE.KStateDown
import HandS.Head0
import HandS.Head1
import HandS.Head2
import HandS.HeadEnd
import HandS.HeadHook4
import HandS.Words
import PySem.Challenge.RW_wallscut_k71_whole_known_sets
import HandS.OwnEq
import HandS.WordsExc
import KE.KNestM
set_option Elab.async false
set_option linter.all false
section Part_ShA
set_option maxRecDepth 100000
set_option maxHeartbeats 2000000
/-! ShA: plain Python over data trees. D: data; Rp: a value stands for data in a heap; Gr: how heaps grow; the judgements OkE (expression), OkT (test), OkA (arguments), OkI (what is walked), OkG (targets), OkS (statements). -/
namespace Sh
open PySem L2

/-- data, without a heap -/
inductive D where
  | non | bl (b : Bool) | int (i : Int) | str (x : Str)
  | tup (ds : List D) | lst (ds : List D)
  | dct (kvs : List (List Int × D))
  | raw (v : V)
  | rng (lo hi : Int)

mutual
inductive Rp (K : PySem.W.Frag) (H : Hp) : V → D → Prop where
  | non : Rp K H .non .non
  | bl (b : Bool) : Rp K H (.bl b) (.bl b)
  | int (i : Int) : Rp K H (.int i) (.int i)
  | str (x : Str) : Rp K H (.str x) (.str x)
  | raw (v : V) : Rp K H v (.raw v)
  | rng {a : Addr} (lo hi : Int) : H a = some (.rng lo hi) → Rp K H (.ref a) (.rng lo hi)
  | tup {a : Addr} {xs : List V} {ds : List D} : SqT K H a xs → Rps K H xs ds → Rp K H (.ref a) (.tup ds)
  | lst {a : Addr} {xs : List V} {ds : List D} : H a = some (.lst xs) → Rps K H xs ds → Rp K H (.ref a) (.lst ds)
inductive Rps (K : PySem.W.Frag) (H : Hp) : List V → List D → Prop where
  | nil : Rps K H [] []
  | cons {v : V} {vs : List V} {d : D} {ds : List D} : Rp K H v d → Rps K H vs ds → Rps K H (v :: vs) (d :: ds)
end

section
variable {K : PySem.W.Frag} {G G' H H' : Hp}
theorem same_sqt (e : Same G G') {a : Addr} {xs : List V} (h : SqT K G a xs) : SqT K G' a xs := by
  rcases h with (h | ⟨o, h⟩) | h
  · exact .inl (.inl (e _ _ h))
  · exact .inl (.inr ⟨o, e _ _ h⟩)
  · exact .inr h
mutual
theorem Rp.mono (e : Same G G') : ∀ (d : D) (v : V), Rp K G v d → Rp K G' v d
  | .non, _, h => by cases h; exact .non
  | .bl _, _, h => by cases h; exact .bl _
  | .int _, _, h => by cases h; exact .int _
  | .str _, _, h => by cases h; exact .str _
  | .tup ds, _, h => by
    cases h with
    | tup h1 h2 => exact .tup (same_sqt e h1) (Rps.mono e ds _ h2)
  | .lst ds, _, h => by
    cases h with
    | lst h1 h2 => exact .lst (e _ _ h1) (Rps.mono e ds _ h2)
  | .dct _, _, h => by cases h
  | .raw _, _, h => by cases h; exact .raw _
  | .rng lo hi, _, h => by
    cases h with
    | rng _ _ h1 => exact .rng lo hi (e _ _ h1)
theorem Rps.mono (e : Same G G') : ∀ (ds : List D) (vs : List V), Rps K G vs ds → Rps K G' vs ds
  | [], _, h => by cases h; exact .nil
  | d :: ds, _, h => by
    cases h with
    | cons h1 h2 => exact .cons (Rp.mono e d _ h1) (Rps.mono e ds _ h2)
end
theorem Rps.length : ∀ {vs : List V} {ds : List D}, Rps K G vs ds → vs.length = ds.length
  | _, [], h => by cases h; rfl
  | _, d :: ds, h => by
    cases h with
    | cons h1 h2 => simp [Rps.length h2]
theorem Rps.get : ∀ {vs : List V} {ds : List D} {i : Nat} {d : D}, Rps K G vs ds → ds[i]? = some d → ∃ v, vs[i]? = some v ∧ Rp K G v d
  | _, [], _, _, h, e => by simp at e
  | _, d :: ds, 0, _, h, e => by
    cases h with
    | cons h1 h2 => simp at e; subst e; exact ⟨_, rfl, h1⟩
  | _, d :: ds, i + 1, d', h, e => by
    cases h with
    | cons h1 h2 =>
      obtain ⟨v, q1, q2⟩ := Rps.get (i := i) h2 (by simpa using e)
      exact ⟨v, by simpa using q1, q2⟩
theorem Rps.get' : ∀ {vs : List V} {ds : List D} {i : Nat} {v : V}, Rps K G vs ds → vs[i]? = some v → ∃ d, ds[i]? = some d ∧ Rp K G v d
  | _, [], _, _, h, e => by cases h; simp at e
  | _, d :: ds, 0, _, h, e => by
    cases h with
    | cons h1 h2 => simp at e; subst e; exact ⟨_, rfl, h1⟩
  | _, d :: ds, i + 1, v', h, e => by
    cases h with
    | cons h1 h2 =>
      obtain ⟨v, q1, q2⟩ := Rps.get' (i := i) h2 (by simpa using e)
      exact ⟨v, by simpa using q1, q2⟩
theorem Rps.append : ∀ {vs ws : List V} {ds es : List D}, Rps K G vs ds → Rps K G ws es → Rps K G (vs ++ ws) (ds ++ es)
  | _, _, [], _, h, h' => by cases h; exact h'
  | _, _, d :: ds, _, h, h' => by
    cases h with
    | cons h1 h2 => exact .cons h1 (Rps.append h2 h')
theorem Rps.snoc {vs : List V} {v : V} {ds : List D} {d : D} (h : Rps K G vs ds) (h' : Rp K G v d) : Rps K G (vs ++ [v]) (ds ++ [d]) := h.append (.cons h' .nil)
theorem Rps.take : ∀ (n : Nat) {vs : List V} {ds : List D}, Rps K G vs ds → Rps K G (vs.take n) (ds.take n)
  | 0, _, _, _ => by simp; exact .nil
  | n + 1, _, [], h => by cases h; simp; exact .nil
  | n + 1, _, d :: ds, h => by
    cases h with
    | cons h1 h2 => simp; exact .cons h1 (Rps.take n h2)
theorem Rps.drop : ∀ (n : Nat) {vs : List V} {ds : List D}, Rps K G vs ds → Rps K G (vs.drop n) (ds.drop n)
  | 0, _, _, h => by simpa using h
  | n + 1, _, [], h => by cases h; simp; exact .nil
  | n + 1, _, d :: ds, h => by
    cases h with
    | cons h1 h2 => simp; exact Rps.drop n h2
theorem Rps.set : ∀ (n : Nat) {vs : List V} {ds : List D} {v : V} {d : D}, Rps K G vs ds → Rp K G v d → Rps K G (vs.set n v) (ds.set n d)
  | _, _, [], _, _, h, _ => by cases h; simp; exact .nil
  | 0, _, d :: ds, _, _, h, q => by
    cases h with
    | cons h1 h2 => simp; exact .cons q h2
  | n + 1, _, d :: ds, _, _, h, q => by
    cases h with
    | cons h1 h2 => simp; exact .cons h1 (Rps.set n h2 q)
theorem Rps.rep {v : V} {d : D} (q : Rp K G v d) : ∀ n : Nat, Rps K G (List.replicate n v) (List.replicate n d)
  | 0 => .nil
  | n + 1 => .cons q (Rps.rep q n)
theorem Rps.flatRep {vs : List V} {ds : List D} (q : Rps K G vs ds) : ∀ n : Nat, Rps K G (List.replicate n vs).flatten (List.replicate n ds).flatten
  | 0 => .nil
  | n + 1 => by
    rw [List.replicate_succ, List.replicate_succ, List.flatten_cons, List.flatten_cons]
    exact q.append (Rps.flatRep q n)

/-- a dict's entries: keys are tuples of ints -/
inductive KR (K : PySem.W.Frag) (G : Hp) : List (List Key × V) → List (List Int × D) → Prop where
  | nil : KR K G [] []
  | cons {k : List Int} {v : V} {d : D} {r : List (List Key × V)} {s : List (List Int × D)} : Rp K G v d → KR K G r s → KR K G ((k.map Sum.inl, v) :: r) ((k, d) :: s)
theorem KR.mono (e : Same G G') : ∀ {r : List (List Key × V)} {s : List (List Int × D)}, KR K G r s → KR K G' r s
  | _, _, .nil => .nil
  | _, _, .cons h t => .cons (h.mono e _ _) (KR.mono e t)
theorem KR.length : ∀ {r : List (List Key × V)} {s : List (List Int × D)}, KR K G r s → r.length = s.length
  | _, _, .nil => rfl
  | _, _, .cons h t => by simp [KR.length t]
/-- the heaps grow: G the part that never changes, H the whole -/
structure Gr (G H G' H' : Hp) : Prop where
  h : Same H H'
  g : Same G G'
  gh : Same G' H'
  nw : ∀ a o, G' a = some o → G a = some o ∨ H a = none
theorem Gr.refl (e : Same G H) : Gr G H G H := ⟨Same.refl H, Same.refl G, e, fun _ _ q => .inl q⟩
theorem Gr.trans {G1 H1 : Hp} (a : Gr G H G1 H1) (b : Gr G1 H1 G' H') : Gr G H G' H' :=
  ⟨a.h.trans b.h, a.g.trans b.g, b.gh, fun x o q => by
    rcases b.nw x o q with q | q
    · exact a.nw x o q
    · exact .inr (a.h.free q)⟩
theorem Gr.new {p : Addr} {o : HO} (e : Same G H) (n : H p = none) : Gr G H (upd G p o) (upd H p o) := by
  have hn : ∀ a u, H a = some u → a ≠ p := fun a u q z => by rw [z, n] at q; cases q
  refine ⟨fun a u q => by rw [upd_ne (hn a u q)]; exact q, fun a u q => by rw [upd_ne (hn a u (e a u q))]; exact q, fun a u q => ?_, fun a u q => ?_⟩
  · by_cases h : a = p
    · subst h; rw [upd_same] at q ⊢; exact q
    · rw [upd_ne h] at q ⊢; exact e a u q
  · by_cases h : a = p
    · subst h; exact .inr n
    · rw [upd_ne h] at q; exact .inl q

/-! ### the slots -/
/-- a slot: (owned, data); an owned one holds a list (or dict) that nobody else knows -/
abbrev Env := List (Option (Bool × D))
def Own (K : PySem.W.Frag) (G H : Hp) (a : Addr) : D → Prop
  | .lst ds => ∃ xs, H a = some (.lst xs) ∧ Rps K G xs ds
  | .dct kvs => ∃ ys, H a = some (.dT ys) ∧ KR K G ys kvs
  | _ => False
structure Rl (K : PySem.W.Frag) (O : Addr → Prop) (env : Env) (σ : L2.St) (G H : Hp) : Prop where
  gh : Same G H
  len : env.length = σ.length
  fr : ∀ (i : Nat) (d : D), env[i]? = some (some (false, d)) → ∃ v, σ[i]? = some (some v) ∧ Rp K G v d
  ow : ∀ (i : Nat) (d : D), env[i]? = some (some (true, d)) → ∃ a, σ[i]? = some (some (.ref a)) ∧ G a = none ∧ O a ∧ Own K G H a d
  dj : ∀ (i j : Nat) (d e : D) (a : Addr), env[i]? = some (some (true, d)) → env[j]? = some (some (true, e)) → σ[i]? = some (some (.ref a)) → σ[j]? = some (some (.ref a)) → i = j
variable {O : Addr → Prop} {env : Env} {σ : L2.St}
theorem Own.grow {a : Addr} : ∀ {d : D}, Own K G H a d → Gr G H G' H' → Own K G' H' a d
  | .lst ds, ⟨xs, h1, h2⟩, g => ⟨xs, g.h _ _ h1, h2.mono g.g ds xs⟩
  | .dct _, ⟨ys, h1, h2⟩, g => ⟨ys, g.h _ _ h1, h2.mono g.g⟩
theorem Own.there {a : Addr} : ∀ {d : D}, Own K G H a d → ∃ o, H a = some o
  | .lst _, ⟨_, h1, _⟩ => ⟨_, h1⟩
  | .dct _, ⟨_, h1, _⟩ => ⟨_, h1⟩
theorem Rl.grow (r : Rl K O env σ G H) (g : Gr G H G' H') : Rl K O env σ G' H' where
  gh := g.gh
  len := r.len
  fr := fun i d e => let ⟨v, h1, h2⟩ := r.fr i d e; ⟨v, h1, h2.mono g.g d v⟩
  ow := fun i d e => by
    obtain ⟨a, h1, h2, h3, h4⟩ := r.ow i d e
    refine ⟨a, h1, ?_, h3, h4.grow g⟩
    cases q : G' a with
    | none => rfl
    | some o =>
      obtain ⟨u, hu⟩ := h4.there
      rcases g.nw a o q with z | z
      · rw [h2] at z; cases z
      · rw [hu] at z; cases z
  dj := r.dj
end
end Sh
end Part_ShA

section Part_ShB
set_option maxRecDepth 100000
set_option maxHeartbeats 2000000
/-! ShB: expressions. -/
namespace Sh
open PySem L2

abbrev Ex := Env → Option D
abbrev Ax := Env → Option (List D)
abbrev Tx := Env → Option Bool

def tE (K : PySem.W.Frag) (m : Ex) : TE := fun σ H Q => ∃ (O : Addr → Prop) (env : Env) (G : Hp) (d : D), Rl K O env σ G H ∧ m env = some d ∧ ∀ v G' H', Gr G H G' H' → Rp K G' v d → Q v H'
def tT (K : PySem.W.Frag) (m : Tx) : TT := fun σ H Q => ∃ (O : Addr → Prop) (env : Env) (G : Hp) (b : Bool), Rl K O env σ G H ∧ m env = some b ∧ ∀ G' H', Gr G H G' H' → Q b H'
def tA (K : PySem.W.Frag) (m : Ax) : TA := fun σ H Q => ∃ (O : Addr → Prop) (env : Env) (G : Hp) (ds : List D), Rl K O env σ G H ∧ m env = some ds ∧ ∀ vs G' H', Gr G H G' H' → Rps K G' vs ds → Q vs H'
/-- a value that is only looked at: it stands for the data in the whole heap -/
def tP (K : PySem.W.Frag) (m : Ex) : TE := fun σ H Q => ∃ (O : Addr → Prop) (env : Env) (G : Hp) (d : D), Rl K O env σ G H ∧ m env = some d ∧ ∀ v G' H', Gr G H G' H' → Rp K H' v d → Q v H'

def OkE (X : Cx) (e : Expr) (m : Ex) : Prop := PE X e (tE X.K m)
def OkP (X : Cx) (e : Expr) (m : Ex) : Prop := PE X e (tP X.K m)
def OkT (X : Cx) (e : Expr) (m : Tx) : Prop := PT X e (tT X.K m)
def OkW (X : Cx) (e : Expr) (m : Tx) : Prop := PW X e (tT X.K m)
def OkA (X : Cx) (es : List Expr) (m : Ax) : Prop := PA X es (tA X.K m)

section
variable {X : Cx} {e : Expr} {es : List Expr}
theorem weakE {t t' : TE} (h : PE X e t) (w : ∀ σ H Q, t' σ H Q → t σ H Q) : PE X e t' := ⟨fun pins s σ H Q I q => h.run pins s σ H Q I (w _ _ _ q)⟩
theorem weakT {t t' : TT} (h : PT X e t) (w : ∀ σ H Q, t' σ H Q → t σ H Q) : PT X e t' := ⟨fun pins s σ H Q I q => h.run pins s σ H Q I (w _ _ _ q)⟩
theorem weakW {t t' : TT} (h : PW X e t) (w : ∀ σ H Q, t' σ H Q → t σ H Q) : PW X e t' := ⟨fun wh pins s σ H Q I q => h.run wh pins s σ H Q I (w _ _ _ q)⟩
theorem weakA {t t' : TA} (h : PA X es t) (w : ∀ σ H Q, t' σ H Q → t σ H Q) : PA X es t' := ⟨fun pos pins s σ H Q I q => h.run pos pins s σ H Q I (w _ _ _ q)⟩
theorem OkE.p {m : Ex} (h : OkE X e m) : OkP X e m := weakE h fun σ H Q ⟨O, env, G, d, r, e, k⟩ => ⟨O, env, G, d, r, e, fun v G' H' g q => k v G' H' g (q.mono g.gh d v)⟩
end

/-! ### names, constants -/
def eVar (i : Nat) : Ex := fun env => match env[i]? with
  | some (some (false, d)) => some d
  | _ => none
def ePk (i : Nat) : Ex := fun env => match env[i]? with
  | some (some (false, d)) => some d
  | some (some (true, .lst ds)) => some (.lst ds)
  | _ => none
def eC (d : D) : Ex := fun _ => some d
section
variable {X : Cx}
theorem ok_var (i : Nat) {x : Str} {pos : Pos} (hN : X.N[i]? = some x := by rfl) (hv : Vis X.env.scope x := by first | exact Or.inl rfl | exact Or.inr (Or.inl rfl) | exact Or.inr (Or.inr rfl)) (hd : (x == ("__debug__" : Str)) = false := by decide)
    (hcd : (x == ("__classdict__" : Str)) = false := by decide) : OkE X (.Name x pos) (eVar i) := by
  refine weakE (pe_var hN hv hd hcd) fun σ H Q ⟨O, env, G, d, r, e, k⟩ => ?_
  have e' : env[i]? = some (some (false, d)) := by
    unfold eVar at e
    split at e
    · rename_i d' h; cases e; exact h
    · cases e
  obtain ⟨v, h1, h2⟩ := r.fr i d e'
  exact ⟨v, h1, k v G H (Gr.refl r.gh) h2⟩
theorem ok_pk (i : Nat) {x : Str} {pos : Pos} (hN : X.N[i]? = some x := by rfl) (hv : Vis X.env.scope x := by first | exact Or.inl rfl | exact Or.inr (Or.inl rfl) | exact Or.inr (Or.inr rfl)) (hd : (x == ("__debug__" : Str)) = false := by decide)
    (hcd : (x == ("__classdict__" : Str)) = false := by decide) : OkP X (.Name x pos) (ePk i) := by
  refine weakE (pe_var hN hv hd hcd) fun σ H Q ⟨O, env, G, d, r, e, k⟩ => ?_
  unfold ePk at e
  split at e
  · rename_i d' h
    cases e
    obtain ⟨v, h1, h2⟩ := r.fr i d h
    exact ⟨v, h1, k v G H (Gr.refl r.gh) (h2.mono r.gh d v)⟩
  · rename_i ds h
    cases e
    obtain ⟨a, h1, h2, h3, h4⟩ := r.ow i _ h
    refine ⟨_, h1, k _ G H (Gr.refl r.gh) ?_⟩
    obtain ⟨xs, q1, q2⟩ := h4
    exact .lst q1 (q2.mono r.gh ds xs)
  · cases e
theorem ok_c {e : Expr} {v : V} {d : D} (h : PE X e (tC v)) (q : ∀ H, Rp X.K H v d) : OkE X e (eC d) :=
  weakE h fun σ H Q ⟨O, env, G, d', r, e, k⟩ => by
    cases e
    exact k v G H (Gr.refl r.gh) (q G)
theorem ok_int {i j pos} : OkE X (.Constant (.int i) j pos) (eC (.int i)) := ok_c pe_int fun _ => .int i
theorem ok_bl {i j pos} : OkE X (.Constant (.bool i) j pos) (eC (.bl i)) := ok_c pe_bl fun _ => .bl i
theorem ok_non {j pos} : OkE X (.Constant .none j pos) (eC .non) := ok_c pe_non fun _ => .non
theorem ok_str {x j pos} : OkE X (.Constant (.str x) j pos) (eC (.str x)) := ok_c pe_str fun _ => .str x
end

/-! ### two operands -/
def Sem2 (K : PySem.W.Frag) (r : R2) (sem : D → D → Option D) : Prop :=
  ∀ (x y : V) (dx dy d : D) (G H : Hp) (Q : VK), Same G H → Rp K G x dx → Rp K G y dy → sem dx dy = some d → (∀ v G' H', Gr G H G' H' → Rp K G' v d → Q v H') → r x y H Q
/-- looked at alone -/
def SemP (K : PySem.W.Frag) (r : R2) (sem : D → D → Option D) : Prop :=
  ∀ (x y : V) (dx dy d : D) (H : Hp) (Q : VK), Rp K H x dx → Rp K H y dy → sem dx dy = some d → (∀ v, (∀ G, Rp K G v d) → Q v H) → r x y H Q
def eBin (sem : D → D → Option D) (a b : Ex) : Ex := fun env => (a env).bind fun x => (b env).bind fun y => sem x y
section
variable {X : Cx} {a b : Expr} {ma mb : Ex} {r : R2} {sem : D → D → Option D} {pos : Pos}
theorem SemP.two (h : SemP X.K r sem) : Sem2 X.K r sem := fun x y dx dy d G H Q e rx ry q k =>
  h x y dx dy d H Q (rx.mono e dx x) (ry.mono e dy y) q fun v hv => k v G H (Gr.refl e) (hv G)
theorem step2 (ha : tE X.K (eBin sem ma mb) = tE X.K (eBin sem ma mb)) (hs : Sem2 X.K r sem) {σ : L2.St} {H : Hp} {Q : VK} (h : tE X.K (eBin sem ma mb) σ H Q) : tOp r (tE X.K ma) (tE X.K mb) σ H Q := by
  obtain ⟨O, env, G, d, rl, e, k⟩ := h
  obtain ⟨dx, e1, e⟩ := Option.bind_eq_some_iff.mp e
  obtain ⟨dy, e2, e3⟩ := Option.bind_eq_some_iff.mp e
  refine ⟨O, env, G, dx, rl, e1, fun v G1 H1 g1 r1 => ⟨O, env, G1, dy, rl.grow g1, e2, fun u G2 H2 g2 r2 => ?_⟩⟩
  exact hs v u dx dy d G2 H2 Q g2.gh (r1.mono g2.g dx v) r2 e3 fun w G3 H3 g3 r3 => k w G3 H3 ((g1.trans g2).trans g3) r3
theorem stepP (hs : SemP X.K r sem) {σ : L2.St} {H : Hp} {Q : VK} (h : tE X.K (eBin sem ma mb) σ H Q) : tOp r (tP X.K ma) (tP X.K mb) σ H Q := by
  obtain ⟨O, env, G, d, rl, e, k⟩ := h
  obtain ⟨dx, e1, e⟩ := Option.bind_eq_some_iff.mp e
  obtain ⟨dy, e2, e3⟩ := Option.bind_eq_some_iff.mp e
  refine ⟨O, env, G, dx, rl, e1, fun v G1 H1 g1 r1 => ⟨O, env, G1, dy, rl.grow g1, e2, fun u G2 H2 g2 r2 => ?_⟩⟩
  exact hs v u dx dy d H2 Q (r1.mono g2.h dx v) r2 e3 fun w hw => k w G2 H2 (g1.trans g2) (hw G2)
theorem ok_bin {op : Operator} (ho : OpR X (binaryOp op) r) (hs : Sem2 X.K r sem) (ha : OkE X a ma) (hb : OkE X b mb) : OkE X (.BinOp a op b pos) (eBin sem ma mb) :=
  weakE (pe_op ho ha hb) fun σ H Q h => step2 rfl hs h
theorem ok_cmp {op : CmpOp} (ho : OpR X (compareOp op) r) (hs : SemP X.K r sem) (ha : OkP X a ma) (hb : OkP X b mb) (hm : behindInMarks op b = false := by first | exact nomark _ | with_unfolding_all rfl) : OkE X (.Compare a [op] [b] pos) (eBin sem ma mb) :=
  weakE (pe_cmpR ho ha hb hm) fun σ H Q h => stepP hs h
/-- a test of two operands -/
def bBin (sem : D → D → Option D) (a b : Ex) : Tx := fun env => match eBin sem a b env with
  | some (.bl k) => some k
  | _ => none
theorem ok_cmpT {op : CmpOp} (ho : OpR X (compareOp op) r) (hs : SemP X.K r sem) (ha : OkP X a ma) (hb : OkP X b mb) (hm : behindInMarks op b = false := by first | exact nomark _ | with_unfolding_all rfl) : OkT X (.Compare a [op] [b] pos) (bBin sem ma mb) :=
  weakT (pt_cmpR ho ha hb hm) fun σ H Q ⟨O, env, G, k, rl, e, kk⟩ => by
    have e' : eBin sem ma mb env = some (.bl k) := by
      unfold bBin at e
      split at e
      · rename_i h; cases e; exact h
      · cases e
    refine stepP (Q := fun x H' => ∃ k, x = .bl k ∧ Q k H') hs ⟨O, env, G, _, rl, e', fun v G' H' g q => ?_⟩
    cases q
    exact ⟨k, rfl, kk G' H' g⟩
end

/-! ### tests -/
/-- a value that is a bool, as a test -/
def bOf (m : Ex) : Tx := fun env => match m env with
  | some (.bl k) => some k
  | _ => none
def bNot (m : Tx) : Tx := fun env => (m env).map (!·)
def bAnd (a b : Tx) : Tx := fun env => (a env).bind fun x => if x then b env else some false
def bOr (a b : Tx) : Tx := fun env => (a env).bind fun x => if x then some true else b env
def eIf (c : Tx) (a b : Ex) : Ex := fun env => (c env).bind fun x => if x then a env else b env
def eNot (m : Ex) : Ex := fun env => (bOf m env).map fun k => .bl (!k)
def eAnd (a b : Ex) : Ex := fun env => (bOf a env).bind fun x => if x then b env else some (.bl false)
def eOr (a b : Ex) : Ex := fun env => (bOf a env).bind fun x => if x then some (.bl true) else b env
theorem bOf_some {m : Ex} {env : Env} {k : Bool} (e : bOf m env = some k) : m env = some (.bl k) := by
  unfold bOf at e
  split at e
  · rename_i h; cases e; exact h
  · cases e
section
variable {X : Cx} {a b c : Expr} {rest : List Expr} {ma mb : Ex} {ta tb : Tx} {pos : Pos}
theorem ok_test (ha : OkE X a ma) (he : ∀ whole, isTrue a X.env whole = (do let v ← whole; standAt a.pos; holding [v] (truthy v)) := by intro _; rfl) : OkT X a (bOf ma) :=
  weakT (pt_val ha he) fun σ H Q ⟨O, env, G, k, rl, e, kk⟩ => by
    refine ⟨O, env, G, _, rl, bOf_some e, fun v G' H' g q => ?_⟩
    cases q
    exact ⟨k, rfl, kk G' H' g⟩
theorem ok_notT (ha : OkT X a ta) : OkT X (.UnaryOp .Not a pos) (bNot ta) :=
  weakT (pt_not ha) fun σ H Q ⟨O, env, G, k, rl, e, kk⟩ => by
    obtain ⟨x, e1, e2⟩ := Option.map_eq_some_iff.mp e
    subst e2
    exact ⟨O, env, G, x, rl, e1, fun G' H' g => kk G' H' g⟩
theorem OkW.t {e : Expr} {m : Tx} (h : OkW X e m) : OkT X e m := PW.pt h
theorem ok_and1 (ha : OkT X a ta) : OkW X (.BoolOp .And [a] pos) ta := pw_and1 ha
theorem ok_or1 (ha : OkT X a ta) : OkW X (.BoolOp .Or [a] pos) ta := pw_or1 ha
theorem ok_andT (ha : OkT X a ta) (hb : OkW X (.BoolOp .And (b :: rest) pos) tb) : OkW X (.BoolOp .And (a :: b :: rest) pos) (bAnd ta tb) :=
  weakW (pw_and ha hb) fun σ H Q ⟨O, env, G, k, rl, e, kk⟩ => by
    obtain ⟨x, e1, e2⟩ := Option.bind_eq_some_iff.mp e
    refine ⟨O, env, G, x, rl, e1, fun G' H' g => ?_⟩
    cases x with
    | true => exact ⟨O, env, G', k, rl.grow g, e2, fun G2 H2 g2 => kk G2 H2 (g.trans g2)⟩
    | false => cases e2; exact kk G' H' g
theorem ok_orT (ha : OkT X a ta) (hb : OkW X (.BoolOp .Or (b :: rest) pos) tb) : OkW X (.BoolOp .Or (a :: b :: rest) pos) (bOr ta tb) :=
  weakW (pw_or ha hb) fun σ H Q ⟨O, env, G, k, rl, e, kk⟩ => by
    obtain ⟨x, e1, e2⟩ := Option.bind_eq_some_iff.mp e
    refine ⟨O, env, G, x, rl, e1, fun G' H' g => ?_⟩
    cases x with
    | true => cases e2; exact kk G' H' g
    | false => exact ⟨O, env, G', k, rl.grow g, e2, fun G2 H2 g2 => kk G2 H2 (g.trans g2)⟩
theorem ok_ifE (hc : OkT X c ta) (ha : OkE X a ma) (hb : OkE X b mb) : OkE X (.IfExp c a b pos) (eIf ta ma mb) :=
  weakE (pe_ifExp hc ha hb) fun σ H Q ⟨O, env, G, d, rl, e, k⟩ => by
    obtain ⟨x, e1, e2⟩ := Option.bind_eq_some_iff.mp e
    refine ⟨O, env, G, x, rl, e1, fun G' H' g => ?_⟩
    cases x with
    | true => exact ⟨O, env, G', d, rl.grow g, e2, fun v G2 H2 g2 r2 => k v G2 H2 (g.trans g2) r2⟩
    | false => exact ⟨O, env, G', d, rl.grow g, e2, fun v G2 H2 g2 r2 => k v G2 H2 (g.trans g2) r2⟩
theorem ok_one {op} (ha : OkE X a ma) : OkE X (.BoolOp op [a] pos) ma := pe_one ha
theorem ok_notE (ha : OkE X a ma) : OkE X (.UnaryOp .Not a pos) (eNot ma) :=
  weakE (pe_not ha) fun σ H Q ⟨O, env, G, d, rl, e, k⟩ => by
    obtain ⟨x, e1, e2⟩ := Option.map_eq_some_iff.mp e
    subst e2
    refine ⟨O, env, G, _, rl, bOf_some e1, fun v G' H' g q => ?_⟩
    cases q
    exact ⟨x, rfl, k _ G' H' g (.bl _)⟩
theorem ok_andE (ha : OkE X a ma) (hb : OkE X (.BoolOp .And (b :: rest) pos) mb) : OkE X (.BoolOp .And (a :: b :: rest) pos) (eAnd ma mb) :=
  weakE (pe_and ha hb) fun σ H Q ⟨O, env, G, d, rl, e, k⟩ => by
    obtain ⟨x, e1, e2⟩ := Option.bind_eq_some_iff.mp e
    refine ⟨O, env, G, _, rl, bOf_some e1, fun v G' H' g q => ?_⟩
    cases q
    refine ⟨x, rfl, ?_⟩
    cases x with
    | true => exact ⟨O, env, G', d, rl.grow g, e2, fun v G2 H2 g2 r2 => k v G2 H2 (g.trans g2) r2⟩
    | false => cases e2; exact k _ G' H' g (.bl _)
theorem ok_orE (ha : OkE X a ma) (hb : OkE X (.BoolOp .Or (b :: rest) pos) mb) : OkE X (.BoolOp .Or (a :: b :: rest) pos) (eOr ma mb) :=
  weakE (pe_or ha hb) fun σ H Q ⟨O, env, G, d, rl, e, k⟩ => by
    obtain ⟨x, e1, e2⟩ := Option.bind_eq_some_iff.mp e
    refine ⟨O, env, G, _, rl, bOf_some e1, fun v G' H' g q => ?_⟩
    cases q
    refine ⟨x, rfl, ?_⟩
    cases x with
    | true => cases e2; exact k _ G' H' g (.bl _)
    | false => exact ⟨O, env, G', d, rl.grow g, e2, fun v G2 H2 g2 r2 => k v G2 H2 (g.trans g2) r2⟩
end

/-! ### argument lists, displays -/
def aNil : Ax := fun _ => some []
def aCons (a : Ex) (r : Ax) : Ax := fun env => (a env).bind fun x => (r env).bind fun xs => some (x :: xs)
def itemsOf : D → Option (List D)
  | .tup ds => some ds
  | .lst ds => some ds
  | _ => none
def aStar (a : Ex) (r : Ax) : Ax := fun env => (a env).bind fun x => (itemsOf x).bind fun ys => (r env).bind fun xs => some (ys ++ xs)
def eTup (m : Ax) : Ex := fun env => (m env).bind fun ds => if ds.length ≤ 1000000 then some (.tup ds) else none
def eLst (m : Ax) : Ex := fun env => (m env).bind fun ds => if ds.length ≤ 1000000 then some (.lst ds) else none
theorem sz6 {n : Nat} (h : n ≤ 1000000) : n ≤ sizeLine := Nat.le_trans h (by decide)
section
variable {X : Cx} {e : Expr} {es : List Expr} {me : Ex} {ms : Ax} {p pos : Pos}
theorem ok_nil : OkA X [] aNil := weakA pa_nil fun σ H Q ⟨O, env, G, ds, rl, e, k⟩ => by cases e; exact k [] G H (Gr.refl rl.gh) .nil
theorem ok_cons (ha : OkE X e me) (hr : OkA X es ms) (hs : starEach (e :: es) X.env = (false, eval e X.env) :: starEach es X.env := by rfl) : OkA X (e :: es) (aCons me ms) :=
  weakA (pa_cons ha hr hs) fun σ H Q ⟨O, env, G, ds, rl, e, k⟩ => by
    obtain ⟨x, e1, e⟩ := Option.bind_eq_some_iff.mp e
    obtain ⟨xs, e2, e3⟩ := Option.bind_eq_some_iff.mp e
    cases e3
    refine ⟨O, env, G, x, rl, e1, fun v G1 H1 g1 r1 => ⟨O, env, G1, xs, rl.grow g1, e2, fun vs G2 H2 g2 r2 => ?_⟩⟩
    exact k _ G2 H2 (g1.trans g2) (.cons (r1.mono g2.g x v) r2)
theorem ok_star (ha : OkE X e me) (hr : OkA X es ms) (hs : starEach (.Starred e p :: es) X.env = (true, eval e X.env) :: starEach es X.env := by rfl) : OkA X (.Starred e p :: es) (aStar me ms) :=
  weakA (StX.pa_star ha hr hs) fun σ H Q ⟨O, env, G, ds, rl, e, k⟩ => by
    obtain ⟨x, e1, e⟩ := Option.bind_eq_some_iff.mp e
    obtain ⟨ys, e2, e⟩ := Option.bind_eq_some_iff.mp e
    obtain ⟨xs, e3, e4⟩ := Option.bind_eq_some_iff.mp e
    cases e4
    refine ⟨O, env, G, x, rl, e1, fun v G1 H1 g1 r1 => ?_⟩
    have fin : ∀ (ws : List V), Rps X.K G1 ws ys → tA X.K ms σ H1 fun zs H2 => Q (ws ++ zs) H2 := fun ws hw =>
      ⟨O, env, G1, xs, rl.grow g1, e3, fun vs G2 H2 g2 r2 => k _ G2 H2 (g1.trans g2) ((hw.mono g2.g ys ws).append r2)⟩
    cases r1 with
    | tup h1 h2 => cases e2; exact ⟨_, _, rfl, .inl (same_sqt g1.gh h1), fin _ h2⟩
    | lst h1 h2 => cases e2; exact ⟨_, _, rfl, .inr (SqL.of (g1.gh _ _ h1)), fin _ h2⟩
    | _ => cases e2
theorem ok_tup {x1} (h : OkA X es ms) : OkE X (.Tuple es x1 pos) (eTup ms) :=
  weakE (pe_tup h) fun σ H Q ⟨O, env, G, d, rl, e, k⟩ => by
    obtain ⟨ds, e1, e2⟩ := Option.bind_eq_some_iff.mp e
    split at e2
    · rename_i hl
      cases e2
      refine ⟨O, env, G, ds, rl, e1, fun vs G1 H1 g1 r1 => ⟨sz6 (by rw [r1.length]; exact hl), fun p hp => ?_⟩⟩
      have g2 := Gr.new (o := .tup vs) g1.gh hp
      exact k _ _ _ (g1.trans g2) (.tup (SqT.of upd_same) (r1.mono g2.g ds vs))
    · cases e2
theorem ok_lst (h : OkA X es ms) : OkE X (.List es pos) (eLst ms) :=
  weakE (pe_lst h) fun σ H Q ⟨O, env, G, d, rl, e, k⟩ => by
    obtain ⟨ds, e1, e2⟩ := Option.bind_eq_some_iff.mp e
    split at e2
    · rename_i hl
      cases e2
      refine ⟨O, env, G, ds, rl, e1, fun vs G1 H1 g1 r1 => ⟨sz6 (by rw [r1.length]; exact hl), fun p hp => ?_⟩⟩
      have g2 := Gr.new (o := .lst vs) g1.gh hp
      exact k _ _ _ (g1.trans g2) (.lst upd_same (r1.mono g2.g ds vs))
    · cases e2
end
end Sh
end Part_ShB

section Part_ShC
set_option maxRecDepth 100000
set_option maxHeartbeats 2000000
/-! ShC: operators, comparisons, subscripts, slices, calls of built-ins. -/
namespace Sh
open PySem L2

section
variable {K : PySem.W.Frag}
/-! ### arithmetic -/
def sAdd : D → D → Option D
  | .int i, .int j => some (.int (i + j))
  | .lst a, .lst b => if a.length + b.length ≤ 1000000 then some (.lst (a ++ b)) else none
  | .tup a, .tup b => if a.length + b.length ≤ 1000000 then some (.tup (a ++ b)) else none
  | _, _ => none
def rAdd : PySem.W.Frag → R2 := fun K x y H Q => rI0 (fun i j => .int (i + j)) x y H Q ∨ (rCat x y H Q ∨ L2.rCatA K x y H Q)
theorem op_addR {X : Cx} : OpR X (binaryOp .Add) (rAdd X.K) := op_add.or (op_cat.or op_catA)
theorem sem_add : Sem2 K (rAdd K) sAdd := by
  intro x y dx dy d G H Q e rx ry q k
  cases rx with
  | int i =>
    cases ry with
    | int j => cases q; exact .inl ⟨i, j, rfl, rfl, k _ G H (Gr.refl e) (.int _)⟩
    | _ => cases q
  | @lst a xs ds h1 h2 =>
    cases ry with
    | @lst b ys es h3 h4 =>
      unfold sAdd at q
      dsimp only at q
      split at q
      · rename_i hl
        cases q
        refine .inr (.inl ⟨a, b, xs, ys, rfl, rfl, e _ _ h1, e _ _ h3, sz6 (by rw [h2.length, h4.length]; exact hl), fun p hp => ?_⟩)
        have g := Gr.new (o := .lst (xs ++ ys)) e hp
        exact k _ _ _ g (.lst upd_same ((h2.append h4).mono g.g _ _))
      · cases q
    | _ => cases q
  | @tup a xs ds h1 h2 =>
    cases ry with
    | @tup b ys es h3 h4 =>
      unfold sAdd at q
      dsimp only at q
      split at q
      · rename_i hl
        cases q
        refine .inr (.inr ⟨a, b, xs, ys, rfl, rfl, same_sqt e h1, same_sqt e h3, sz6 (by rw [h2.length, h4.length]; exact hl), fun hx => ?_, fun hx hy => ?_, fun hx hy p hp => ?_⟩)
        · subst hx; cases h2
          exact k _ G H (Gr.refl e) (.tup h3 h4)
        · subst hy; cases h4
          refine k _ G H (Gr.refl e) ?_
          rw [List.append_nil]
          exact .tup h1 h2
        · have g := Gr.new (o := .tup (xs ++ ys)) e hp
          exact k _ _ _ g (.tup (SqT.of upd_same) ((h2.append h4).mono g.g _ _))
      · cases q
    | _ => cases q
  | _ => cases ry <;> cases q
/-- ints alone, by a function of ints -/
def sInt (f : Int → Int → Option Int) : D → D → Option D
  | .int i, .int j => (f i j).map .int
  | _, _ => none
theorem sem_int {C : Int → Int → Prop} {g : Int → Int → Int} {f : Int → Int → Option Int} (h : ∀ i j z, f i j = some z → C i j ∧ g i j = z) : Sem2 K (rI C fun i j => .int (g i j)) (sInt f) := by
  intro x y dx dy d G H Q e rx ry q k
  cases rx with
  | int i =>
    cases ry with
    | int j =>
      obtain ⟨z, q1, q2⟩ := Option.map_eq_some_iff.mp (show (f i j).map D.int = some d from q)
      obtain ⟨h1, h2⟩ := h i j z q1
      subst h2; subst q2
      exact ⟨i, j, rfl, rfl, h1, k _ G H (Gr.refl e) (.int _)⟩
    | _ => cases q
  | _ => cases ry <;> cases q
def fSub (i j : Int) : Option Int := some (i - j)
def fFdiv (i j : Int) : Option Int := if j ≠ 0 ∧ j.natAbs < 1073741824 then some (i.fdiv j) else none
def fMod (i j : Int) : Option Int := if j ≠ 0 then some (i.fmod j) else none
def fPow (i j : Int) : Option Int := if 0 ≤ j ∧ j ≤ 1000 ∧ i.natAbs < 18446744073709551616 then some (i ^ j.toNat) else none
theorem op_subR {X : Cx} : OpR X (binaryOp .Sub) (rI (fun _ _ => True) fun i j => .int (i - j)) := by
  intro pins s σ H x y v u Q I rx ry h
  obtain ⟨i, j, e1, e2, _, q⟩ := h
  exact op_sub pins s σ H x y v u Q I rx ry ⟨i, j, e1, e2, q⟩
theorem sem_sub : Sem2 K (rI (fun _ _ => True) fun i j => .int (i - j)) (sInt fSub) := sem_int fun i j z q => by cases q; exact ⟨trivial, rfl⟩
theorem sem_fdiv : Sem2 K (rI CDivN fun i j => .int (i.fdiv j)) (sInt fFdiv) := sem_int fun i j z q => by
  unfold fFdiv at q
  split at q
  · rename_i h; cases q; exact ⟨h, rfl⟩
  · cases q
theorem sem_mod : Sem2 K (rI (fun _ j => j ≠ 0) fun i j => .int (i.fmod j)) (sInt fMod) := sem_int fun i j z q => by
  unfold fMod at q
  split at q
  · rename_i h; cases q; exact ⟨h, rfl⟩
  · cases q
theorem sem_pow : Sem2 K (rI CPow fun i j => .int (i ^ j.toNat)) (sInt fPow) := sem_int fun i j z q => by
  unfold fPow at q
  split at q
  · rename_i h; cases q; exact ⟨⟨h.1, by omega, by have := h.2.2; omega⟩, rfl⟩
  · cases q
/-- * : ints; a list so many times -/
def sMul : D → D → Option D
  | .int i, .int j => if i.natAbs < 18446744073709551616 ∨ j.natAbs < 18446744073709551616 then some (.int (i * j)) else none
  | .lst a, .int k => if -1000000 ≤ k ∧ k ≤ 1000000 ∧ a.length * k.toNat ≤ 1000000 then some (.lst (List.replicate k.toNat a).flatten) else none
  | _, _ => none
def rMul : R2 := fun x y H Q => rI CMul (fun i j => .int (i * j)) x y H Q ∨ rRep x y H Q
theorem op_mulR {X : Cx} : OpR X (binaryOp .Mult) rMul := op_mul.or op_rep
theorem sem_mul : Sem2 K rMul sMul := by
  intro x y dx dy d G H Q e rx ry q k
  cases rx with
  | int i =>
    cases ry with
    | int j =>
      unfold sMul at q
      dsimp only at q
      split at q
      · rename_i h
        cases q
        refine .inl ⟨i, j, rfl, rfl, ?_, k _ G H (Gr.refl e) (.int _)⟩
        rcases h with h | h
        · exact .inl ⟨by omega, by omega⟩
        · exact .inr ⟨by omega, by omega⟩
      · cases q
    | _ => cases q
  | @lst a xs ds h1 h2 =>
    cases ry with
    | int j =>
      unfold sMul at q
      dsimp only at q
      split at q
      · rename_i h
        cases q
        refine .inr ⟨a, j, xs, rfl, rfl, e _ _ h1, by omega, by omega, sz6 (by rw [h2.length]; exact h.2.2), fun p hp => ?_⟩
        have g := Gr.new (o := .lst (List.replicate j.toNat xs).flatten) e hp
        exact k _ _ _ g (.lst upd_same ((h2.flatRep _).mono g.g _ _))
      · cases q
    | _ => cases q
  | _ => cases ry <;> cases q

/-! ### comparisons -/
def sCmp (f : Int → Int → Bool) : D → D → Option D
  | .int i, .int j => some (.bl (f i j))
  | _, _ => none
theorem sem_cmp {f : Int → Int → Bool} : SemP K (rI0 fun i j => .bl (f i j)) (sCmp f) := by
  intro x y dx dy d H Q rx ry q k
  cases rx with
  | int i =>
    cases ry with
    | int j => cases q; exact ⟨i, j, rfl, rfl, k _ fun _ => .bl _⟩
    | _ => cases q
  | _ => cases ry <;> cases q
mutual
def dpy : D → Option PyData
  | .non => some .none
  | .bl b => some (.bool b)
  | .int i => some (.int i)
  | .str x => some (.str x)
  | .tup ds => (dpys ds).map .tuple
  | .lst ds => (dpys ds).map .list
  | .dct _ => none
  | .raw _ => none
  | .rng _ _ => none
def dpys : List D → Option (List PyData)
  | [] => some []
  | d :: ds => (dpy d).bind fun p => (dpys ds).map (p :: ·)
end
variable {H : Hp}
mutual
theorem Rp.dp : ∀ (d : D) (v : V) (p : PyData), Rp K H v d → dpy d = some p → Dp K H v p
  | .non, _, _, h, e => by cases h; cases e; exact .non
  | .bl _, _, _, h, e => by cases h; cases e; exact .bl _
  | .int _, _, _, h, e => by cases h; cases e; exact .int _
  | .str _, _, _, h, e => by cases h; cases e; exact .str _
  | .tup ds, _, _, h, e => by
    cases h with
    | tup h1 h2 =>
      obtain ⟨ps, e1, e2⟩ := Option.map_eq_some_iff.mp (show (dpys ds).map PyData.tuple = _ from e)
      subst e2
      exact .tup h1 (Rps.dp ds _ ps h2 e1)
  | .lst ds, _, _, h, e => by
    cases h with
    | lst h1 h2 =>
      obtain ⟨ps, e1, e2⟩ := Option.map_eq_some_iff.mp (show (dpys ds).map PyData.list = _ from e)
      subst e2
      exact .lst (SqL.of h1) (Rps.dp ds _ ps h2 e1)
  | .dct _, _, _, h, _ => by cases h
  | .raw _, _, _, _, e => by cases e
  | .rng _ _, _, _, _, e => by cases e
theorem Rps.dp : ∀ (ds : List D) (vs : List V) (ps : List PyData), Rps K H vs ds → dpys ds = some ps → DpAll K H vs ps
  | [], _, _, h, e => by cases h; cases e; exact .nil
  | d :: ds, _, _, h, e => by
    cases h with
    | cons h1 h2 =>
      obtain ⟨p, e1, e⟩ := Option.bind_eq_some_iff.mp (show (dpy d).bind (fun p => (dpys ds).map (p :: ·)) = _ from e)
      obtain ⟨ps, e2, e3⟩ := Option.map_eq_some_iff.mp e
      subst e3
      exact .cons (Rp.dp d _ p h1 e1) (Rps.dp ds _ ps h2 e2)
end
def eqD (a b : D) : Option Bool := match a, b with
  | .int i, .int j => some (decide (i = j))
  | a, b => (dpy a).bind fun p => (dpy b).bind fun q => if SeqAt.shaped p = true ∧ SeqAt.shaped q = true then some (PyData.eqv p q) else none
def sEq (a b : D) : Option D := (eqD a b).map .bl
def sNe (a b : D) : Option D := (eqD a b).map fun k => .bl (!k)
def rEq' (K : PySem.W.Frag) : R2 := fun x y H Q => rEq x y H Q ∨ rEqD K x y H Q
def rNe' (K : PySem.W.Frag) : R2 := fun x y H Q => rNe x y H Q ∨ rNeD K x y H Q
theorem op_eqR {X : Cx} (hu : X.A.units + 64 < cLine) : OpR X (compareOp .Eq) (rEq' X.K) := op_eq.or (op_eqD hu)
theorem op_neR {X : Cx} (hu : X.A.units + 64 < cLine) : OpR X (compareOp .NotEq) (rNe' X.K) := op_ne.or (op_neD hu)
theorem eqD_cases {x y : V} {dx dy : D} {b : Bool} (rx : Rp K H x dx) (ry : Rp K H y dy) (q : eqD dx dy = some b) :
    (∃ i j, x = .int i ∧ y = .int j ∧ b = decide (i = j)) ∨ ∃ p q, Dp K H x p ∧ Dp K H y q ∧ SeqAt.shaped p = true ∧ SeqAt.shaped q = true ∧ b = PyData.eqv p q := by
  unfold eqD at q
  split at q
  · cases rx; cases ry; cases q; exact .inl ⟨_, _, rfl, rfl, rfl⟩
  · obtain ⟨p, e1, q⟩ := Option.bind_eq_some_iff.mp q
    obtain ⟨p2, e2, q⟩ := Option.bind_eq_some_iff.mp q
    split at q
    · rename_i h
      cases q
      exact .inr ⟨p, p2, rx.dp _ _ _ e1, ry.dp _ _ _ e2, h.1, h.2, rfl⟩
    · cases q
theorem dec_vint {i j : Int} : decide (V.int i = V.int j) = decide (i = j) := by simp
theorem sem_eq : SemP K (rEq' K) sEq := by
  intro x y dx dy d H Q rx ry q k
  obtain ⟨b, q1, q2⟩ := Option.map_eq_some_iff.mp q
  subst q2
  rcases eqD_cases rx ry q1 with ⟨i, j, rfl, rfl, rfl⟩ | ⟨p, p2, h1, h2, h3, h4, rfl⟩
  · exact .inl ⟨rfl, by rw [dec_vint]; exact k _ fun _ => .bl _⟩
  · exact .inr ⟨p, p2, h1, h2, h3, h4, k _ fun _ => .bl _⟩
theorem sem_ne : SemP K (rNe' K) sNe := by
  intro x y dx dy d H Q rx ry q k
  obtain ⟨b, q1, q2⟩ := Option.map_eq_some_iff.mp q
  subst q2
  rcases eqD_cases rx ry q1 with ⟨i, j, rfl, rfl, rfl⟩ | ⟨p, p2, h1, h2, h3, h4, rfl⟩
  · exact .inl ⟨rfl, by rw [dec_vint]; exact k _ fun _ => .bl _⟩
  · exact .inr ⟨p, p2, h1, h2, h3, h4, k _ fun _ => .bl _⟩
/-- flat things -/
def flatD : D → Option V
  | .non => some .non
  | .bl b => some (.bl b)
  | .int i => some (.int i)
  | .str x => some (.str x)
  | _ => none
def flatDs : List D → Option (List V)
  | [] => some []
  | d :: ds => (flatD d).bind fun v => (flatDs ds).map (v :: ·)
theorem flat_is {x v : V} {d : D} (r : Rp K H x d) (e : flatD d = some v) : x = v ∧ flatV v = true := by
  cases r <;> first | (cases e; exact ⟨rfl, rfl⟩) | cases e
theorem flats_are : ∀ {xs vs : List V} {ds : List D}, Rps K H xs ds → flatDs ds = some vs → xs = vs ∧ vs.all flatV = true
  | _, _, [], h, e => by cases h; cases e; exact ⟨rfl, rfl⟩
  | _, _, d :: ds, h, e => by
    cases h with
    | cons h1 h2 =>
      obtain ⟨v, e1, e⟩ := Option.bind_eq_some_iff.mp (show (flatD d).bind (fun v => (flatDs ds).map (v :: ·)) = _ from e)
      obtain ⟨vs, e2, e3⟩ := Option.map_eq_some_iff.mp e
      subst e3
      obtain ⟨q1, q2⟩ := flat_is h1 e1
      obtain ⟨q3, q4⟩ := flats_are h2 e2
      subst q1; subst q3
      exact ⟨rfl, by rw [List.all_cons, q2, q4]; rfl⟩
def sIn (neg : Bool) (a b : D) : Option D := (flatD a).bind fun v => (itemsOf b).bind fun ds => (flatDs ds).bind fun vs => some (.bl (if neg then !inV v vs else inV v vs))
theorem sem_in {neg : Bool} : SemP K (L2.rIn K neg) (sIn neg) := by
  intro x y dx dy d H Q rx ry q k
  obtain ⟨v, e1, q⟩ := Option.bind_eq_some_iff.mp q
  obtain ⟨ds, e2, q⟩ := Option.bind_eq_some_iff.mp q
  obtain ⟨vs, e3, q⟩ := Option.bind_eq_some_iff.mp q
  cases q
  obtain ⟨q1, q2⟩ := flat_is rx e1
  subst q1
  cases ry with
  | tup h1 h2 =>
    cases e2
    obtain ⟨q3, q4⟩ := flats_are h2 e3
    subst q3
    exact ⟨_, _, rfl, .inr h1, q2, q4, k _ fun _ => .bl _⟩
  | lst h1 h2 =>
    cases e2
    obtain ⟨q3, q4⟩ := flats_are h2 e3
    subst q3
    exact ⟨_, _, rfl, .inl (SqL.of h1), q2, q4, k _ fun _ => .bl _⟩
  | _ => cases e2

/-! ### subscripts -/
def sIdx : D → D → Option D
  | .lst ds, .int i => (ixN ds.length i).bind fun j => ds[j]?
  | .tup ds, .int i => (ixN ds.length i).bind fun j => ds[j]?
  | _, _ => none
def rIdx (K : PySem.W.Frag) : R2 := fun x y H Q => rIxL K x y H Q ∨ rIxT K x y H Q
theorem ix_R {X : Cx} : IxR X (rIdx X.K) := ix_list.or ix_tup
theorem at_of {xs : List V} {ds : List D} {i : Int} {d : D} {G : Hp} (h : Rps K G xs ds) (q : ((ixN ds.length i).bind fun j => ds[j]?) = some d) : ∃ v, atI xs i = some v ∧ Rp K G v d := by
  obtain ⟨j, q1, q2⟩ := Option.bind_eq_some_iff.mp q
  obtain ⟨v, h1, h2⟩ := h.get q2
  exact ⟨v, by unfold atI; rw [h.length, q1]; exact h1, h2⟩
theorem sem_idx : Sem2 K (rIdx K) sIdx := by
  intro x y dx dy d G H Q e rx ry q k
  cases rx with
  | @lst a xs ds h1 h2 =>
    cases ry with
    | int i =>
      obtain ⟨v, a1, a2⟩ := at_of h2 q
      exact .inl ⟨a, xs, i, v, rfl, rfl, SqL.of (e _ _ h1), a1, k v G H (Gr.refl e) a2⟩
    | _ => cases q
  | @tup a xs ds h1 h2 =>
    cases ry with
    | int i =>
      obtain ⟨v, a1, a2⟩ := at_of h2 q
      exact .inr ⟨a, xs, i, v, rfl, rfl, same_sqt e h1, a1, k v G H (Gr.refl e) a2⟩
    | _ => cases q
  | _ => cases ry <;> cases q
end

section
variable {X : Cx} {a b c : Expr} {ma mb mc : Ex} {pos : Pos}
theorem ok_add (ha : OkE X a ma) (hb : OkE X b mb) : OkE X (.BinOp a .Add b pos) (eBin sAdd ma mb) := ok_bin op_addR sem_add ha hb
theorem ok_sub (ha : OkE X a ma) (hb : OkE X b mb) : OkE X (.BinOp a .Sub b pos) (eBin (sInt fSub) ma mb) := ok_bin op_subR sem_sub ha hb
theorem ok_mul (ha : OkE X a ma) (hb : OkE X b mb) : OkE X (.BinOp a .Mult b pos) (eBin sMul ma mb) := ok_bin op_mulR sem_mul ha hb
theorem ok_fdiv (ha : OkE X a ma) (hb : OkE X b mb) : OkE X (.BinOp a .FloorDiv b pos) (eBin (sInt fFdiv) ma mb) := ok_bin op_fdivN sem_fdiv ha hb
theorem ok_mod (ha : OkE X a ma) (hb : OkE X b mb) : OkE X (.BinOp a .Mod b pos) (eBin (sInt fMod) ma mb) := ok_bin op_modN sem_mod ha hb
theorem ok_pow (ha : OkE X a ma) (hb : OkE X b mb) : OkE X (.BinOp a .Pow b pos) (eBin (sInt fPow) ma mb) := ok_bin op_pow sem_pow ha hb
def fLt (i j : Int) : Bool := decide (i < j)
def fLe (i j : Int) : Bool := decide (i ≤ j)
def fGt (i j : Int) : Bool := decide (j < i)
def fGe (i j : Int) : Bool := decide (j ≤ i)
theorem ok_lt (ha : OkE X a ma) (hb : OkE X b mb) : OkE X (.Compare a [.Lt] [b] pos) (eBin (sCmp fLt) ma mb) := ok_cmp op_lt sem_cmp ha.p hb.p
theorem ok_le (ha : OkE X a ma) (hb : OkE X b mb) : OkE X (.Compare a [.LtE] [b] pos) (eBin (sCmp fLe) ma mb) := ok_cmp op_le sem_cmp ha.p hb.p
theorem ok_gt (ha : OkE X a ma) (hb : OkE X b mb) : OkE X (.Compare a [.Gt] [b] pos) (eBin (sCmp fGt) ma mb) := ok_cmp op_gt sem_cmp ha.p hb.p
theorem ok_ge (ha : OkE X a ma) (hb : OkE X b mb) : OkE X (.Compare a [.GtE] [b] pos) (eBin (sCmp fGe) ma mb) := ok_cmp op_ge sem_cmp ha.p hb.p
theorem ok_eq (hu : X.A.units + 64 < cLine) (ha : OkP X a ma) (hb : OkP X b mb) : OkE X (.Compare a [.Eq] [b] pos) (eBin sEq ma mb) := ok_cmp (op_eqR hu) sem_eq ha hb
theorem ok_ne (hu : X.A.units + 64 < cLine) (ha : OkP X a ma) (hb : OkP X b mb) : OkE X (.Compare a [.NotEq] [b] pos) (eBin sNe ma mb) := ok_cmp (op_neR hu) sem_ne ha hb
theorem ok_in (ha : OkP X a ma) (hb : OkP X b mb) (hm : behindInMarks .In b = false := by with_unfolding_all rfl) : OkE X (.Compare a [.In] [b] pos) (eBin (sIn false) ma mb) := ok_cmp op_in_seq sem_in ha hb hm
theorem ok_nin (ha : OkP X a ma) (hb : OkP X b mb) (hm : behindInMarks .NotIn b = false := by with_unfolding_all rfl) : OkE X (.Compare a [.NotIn] [b] pos) (eBin (sIn true) ma mb) := ok_cmp op_notIn_seq sem_in ha hb hm
theorem ok_ltT (ha : OkE X a ma) (hb : OkE X b mb) : OkT X (.Compare a [.Lt] [b] pos) (bBin (sCmp fLt) ma mb) := ok_cmpT op_lt sem_cmp ha.p hb.p
theorem ok_leT (ha : OkE X a ma) (hb : OkE X b mb) : OkT X (.Compare a [.LtE] [b] pos) (bBin (sCmp fLe) ma mb) := ok_cmpT op_le sem_cmp ha.p hb.p
theorem ok_gtT (ha : OkE X a ma) (hb : OkE X b mb) : OkT X (.Compare a [.Gt] [b] pos) (bBin (sCmp fGt) ma mb) := ok_cmpT op_gt sem_cmp ha.p hb.p
theorem ok_geT (ha : OkE X a ma) (hb : OkE X b mb) : OkT X (.Compare a [.GtE] [b] pos) (bBin (sCmp fGe) ma mb) := ok_cmpT op_ge sem_cmp ha.p hb.p
theorem ok_eqT (hu : X.A.units + 64 < cLine) (ha : OkP X a ma) (hb : OkP X b mb) : OkT X (.Compare a [.Eq] [b] pos) (bBin sEq ma mb) := ok_cmpT (op_eqR hu) sem_eq ha hb
theorem ok_neT (hu : X.A.units + 64 < cLine) (ha : OkP X a ma) (hb : OkP X b mb) : OkT X (.Compare a [.NotEq] [b] pos) (bBin sNe ma mb) := ok_cmpT (op_neR hu) sem_ne ha hb
theorem ok_inT (ha : OkP X a ma) (hb : OkP X b mb) (hm : behindInMarks .In b = false := by with_unfolding_all rfl) : OkT X (.Compare a [.In] [b] pos) (bBin (sIn false) ma mb) := ok_cmpT op_in_seq sem_in ha hb hm
theorem ok_ninT (ha : OkP X a ma) (hb : OkP X b mb) (hm : behindInMarks .NotIn b = false := by with_unfolding_all rfl) : OkT X (.Compare a [.NotIn] [b] pos) (bBin (sIn true) ma mb) := ok_cmpT op_notIn_seq sem_in ha hb hm
def eNeg (m : Ex) : Ex := fun env => (m env).bind fun d => match d with
  | .int i => some (.int (-i))
  | _ => none
theorem ok_neg (ha : OkE X a ma) : OkE X (.UnaryOp .USub a pos) (eNeg ma) :=
  weakE (pe_un un_neg ha) fun σ H Q ⟨O, env, G, d, rl, e, k⟩ => by
    obtain ⟨x, e1, e2⟩ := Option.bind_eq_some_iff.mp e
    split at e2
    · cases e2
      refine ⟨O, env, G, _, rl, e1, fun v G' H' g r => ?_⟩
      cases r
      exact ⟨_, rfl, k _ G' H' g (.int _)⟩
    · cases e2
theorem ok_idx (ha : OkE X a ma) (hb : OkE X b mb) (hs : PlainIx b := by exact fun _ _ => rfl) : OkE X (.Subscript a b pos) (eBin sIdx ma mb) :=
  weakE (pe_ix ix_R ha hb hs) fun σ H Q h => step2 rfl sem_idx h
/-- a name's item, owned or not -/
def eIdxV (i : Nat) (m : Ex) : Ex := fun env => match env[i]? with
  | some (some (_, d)) => (m env).bind fun j => sIdx d j
  | _ => none
theorem ok_idxV (i : Nat) {x : Str} {p : Pos} (hb : OkE X b mb) (hs : PlainIx b := by exact fun _ _ => rfl) (hN : X.N[i]? = some x := by rfl) (hv : Vis X.env.scope x := by first | exact Or.inl rfl | exact Or.inr (Or.inl rfl) | exact Or.inr (Or.inr rfl))
    (hd : (x == ("__debug__" : Str)) = false := by decide) (hcd : (x == ("__classdict__" : Str)) = false := by decide) : OkE X (.Subscript (.Name x p) b pos) (eIdxV i mb) :=
  weakE (pe_ix ix_R (pe_var (i := i) hN hv hd hcd) hb hs) fun σ H Q ⟨O, env, G, d, rl, e, k⟩ => by
    unfold eIdxV at e
    split at e
    · rename_i w dd hh
      obtain ⟨j, e1, e2⟩ := Option.bind_eq_some_iff.mp e
      cases w with
      | false =>
        obtain ⟨v, h1, h2⟩ := rl.fr i dd hh
        refine ⟨v, h1, O, env, G, j, rl, e1, fun u G1 H1 g1 r1 => ?_⟩
        exact sem_idx v u dd j d G1 H1 Q g1.gh (h2.mono g1.g dd v) r1 e2 fun w G2 H2 g2 r2 => k w G2 H2 (g1.trans g2) r2
      | true =>
        obtain ⟨a, h1, h2, h3, h4⟩ := rl.ow i dd hh
        refine ⟨_, h1, O, env, G, j, rl, e1, fun u G1 H1 g1 r1 => ?_⟩
        cases dd with
        | lst ds =>
          obtain ⟨xs, q1, q2⟩ := h4.grow g1
          cases r1 with
          | int n =>
            obtain ⟨v, a1, a2⟩ := at_of q2 e2
            exact .inl ⟨a, xs, n, v, rfl, rfl, SqL.of q1, a1, k v G1 H1 g1 a2⟩
          | _ => cases e2
        | dct _ => cases e2
        | _ => exact h4.elim
    · cases e

/-! ### slices -/
abbrev Ox := Env → Option (Option Int)
def tO (K : PySem.W.Frag) (m : Ox) : TO := fun σ H Q => ∃ (O : Addr → Prop) (env : Env) (G : Hp) (o : Option Int), Rl K O env σ G H ∧ m env = some o ∧ ∀ G' H', Gr G H G' H' → Q o H'
def OkO (X : Cx) (e : Option Expr) (m : Ox) : Prop := PO X e (tO X.K m)
theorem weakO {e : Option Expr} {t t' : TO} (h : PO X e t) (w : ∀ σ H Q, t' σ H Q → t σ H Q) : PO X e t' := ⟨fun pins s σ H Q I q => h.run pins s σ H Q I (w _ _ _ q)⟩
def oNone : Ox := fun _ => some none
def oSome (m : Ex) : Ox := fun env => (m env).bind fun d => match d with
  | .int i => some (some i)
  | _ => none
theorem ok_oN : OkO X none oNone := weakO po_none fun σ H Q ⟨O, env, G, o, rl, e, k⟩ => by cases e; exact k G H (Gr.refl rl.gh)
theorem ok_oS (ha : OkE X a ma) : OkO X (some a) (oSome ma) := weakO (po_some ha) fun σ H Q ⟨O, env, G, o, rl, e, k⟩ => by
  obtain ⟨x, e1, e2⟩ := Option.bind_eq_some_iff.mp e
  split at e2
  · cases e2
    refine ⟨O, env, G, _, rl, e1, fun v G' H' g r => ?_⟩
    cases r
    exact ⟨_, rfl, k G' H' g⟩
  · cases e2
def cutD (ds : List D) (lo hi : Option Int) : List D := (ds.drop (HT.sIx ds.length 0 lo)).take (HT.sIx ds.length ds.length hi - HT.sIx ds.length 0 lo)
theorem cut_rps {K : PySem.W.Frag} {G : Hp} {xs : List V} {ds : List D} (h : Rps K G xs ds) (lo hi : Option Int) : Rps K G (cutV xs lo hi) (cutD ds lo hi) := by
  unfold cutV cutD
  rw [h.length]
  exact (h.drop _).take _
def sSl : D → Option Int → Option Int → Option D
  | .lst ds, lo, hi => some (.lst (cutD ds lo hi))
  | .tup ds, lo, hi => some (.tup (cutD ds lo hi))
  | _, _, _ => none
def eSl (m : Ex) (lo hi : Ox) : Ex := fun env => (m env).bind fun d => (lo env).bind fun l => (hi env).bind fun h => sSl d l h
theorem ok_sl {lo hi : Option Expr} {ml mh : Ox} {p2 : Pos} (ha : OkE X a ma) (hl : OkO X lo ml) (hh : OkO X hi mh) : OkE X (.Subscript a (.Slice lo hi none p2) pos) (eSl ma ml mh) :=
  weakE (pe_slice (sl_list.or sl_tupA) ha hl hh) fun σ H Q ⟨O, env, G, d, rl, e, k⟩ => by
    obtain ⟨x, e1, e⟩ := Option.bind_eq_some_iff.mp e
    obtain ⟨l, e2, e⟩ := Option.bind_eq_some_iff.mp e
    obtain ⟨h, e3, e4⟩ := Option.bind_eq_some_iff.mp e
    refine ⟨O, env, G, x, rl, e1, fun v G1 H1 g1 r1 => ⟨O, env, G1, l, rl.grow g1, e2, fun G2 H2 g2 => ⟨O, env, G2, h, (rl.grow g1).grow g2, e3, fun G3 H3 g3 => ?_⟩⟩⟩
    have g := (g1.trans g2).trans g3
    have r3 := (r1.mono g2.g _ _).mono g3.g _ _
    cases r3 with
    | @lst a xs ds h1 h2 =>
      cases e4
      refine .inl ⟨a, xs, rfl, SqL.of (g3.gh _ _ h1), fun p hp => ?_⟩
      have g4 := Gr.new (o := .lst (cutV xs l h)) g3.gh hp
      exact k _ _ _ (g.trans g4) (.lst upd_same ((cut_rps h2 l h).mono g4.g _ _))
    | @tup a xs ds h1 h2 =>
      cases e4
      refine .inr ⟨a, xs, rfl, same_sqt g3.gh h1, fun hw => ?_, fun hw p hp => ?_⟩
      · refine k _ _ _ g (.tup h1 ?_)
        have hc : cutD ds l h = ds := by
          unfold cutD
          rw [← h2.length, hw.1, hw.2, Nat.sub_zero, List.drop_zero, h2.length, List.take_length]
        rw [hc]
        exact h2
      · have g4 := Gr.new (o := .tup (cutV xs l h)) g3.gh hp
        exact k _ _ _ (g.trans g4) (.tup (SqT.of upd_same) ((cut_rps h2 l h).mono g4.g _ _))
    | _ => cases e4
end

/-! ### calls of built-ins -/
def SemC (K : PySem.W.Frag) (r : List V → Hp → VK → Prop) (sem : List D → Option D) : Prop :=
  ∀ (xs : List V) (ds : List D) (d : D) (G H : Hp) (Q : VK), Same G H → Rps K G xs ds → sem ds = some d → (∀ v G' H', Gr G H G' H' → Rp K G' v d → Q v H') → r xs H Q
def eCB (sem : List D → Option D) (m : Ax) : Ex := fun env => (m env).bind sem
section
variable {X : Cx} {e : Expr} {es : List Expr} {ms : Ax} {r : List V → Hp → VK → Prop} {sem : List D → Option D} {p pos : Pos} {x : Str} {id T : String}
theorem stepC (hs : SemC X.K r sem) {σ : L2.St} {H : Hp} {Q : VK} (h : tE X.K (eCB sem ms) σ H Q) : tCB r (tA X.K ms) σ H Q := by
  obtain ⟨O, env, G, d, rl, e, k⟩ := h
  obtain ⟨ds, e1, e2⟩ := Option.bind_eq_some_iff.mp e
  exact ⟨O, env, G, ds, rl, e1, fun vs G1 H1 g1 r1 => hs vs ds d G1 H1 Q g1.gh r1 e2 fun v G2 H2 g2 r2 => k v G2 H2 (g1.trans g2) r2⟩
theorem ok_cb (hc : CallR X (.builtin id) r) (hs : SemC X.K r sem) (hm : X.mg x = none) (hv : bootBuiltins x = some (.builtin id)) (ha : OkA X (e :: es) ms) (hg : Gl X x := by rfl) (hn : x ≠ "__name__" := by decide) (hdb : (x == ("__debug__" : Str)) = false := by decide)
    (he : starEach (e :: es) X.env = (false, eval e X.env) :: starEach es X.env := by rfl) (hpl : (backTo pos (starEach es X.env)).any (·.1) = false := by rfl) : OkE X (.Call (.Name x p) (e :: es) [] pos) (eCB sem ms) :=
  weakE (pe_callB hc hg hm hv ha hn hdb he hpl) fun σ H Q h => stepC hs h
theorem ok_ct (hc : CallR X (.type T) r) (hs : SemC X.K r sem) (hm : X.mg x = none) (hv : bootBuiltins x = some (.type T)) (ha : OkA X (e :: es) ms) (hg : Gl X x := by rfl) (hn : x ≠ "__name__" := by decide) (hdb : (x == ("__debug__" : Str)) = false := by decide)
    (he : starEach (e :: es) X.env = (false, eval e X.env) :: starEach es X.env := by rfl) (hpl : (backTo pos (starEach es X.env)).any (·.1) = false := by rfl) : OkE X (.Call (.Name x p) (e :: es) [] pos) (eCB sem ms) :=
  weakE (pe_callTy hc hg hm hv ha hn hdb he hpl) fun σ H Q h => stepC hs h
end
section
variable {K : PySem.W.Frag}
theorem rps1 {xs : List V} {d : D} {G : Hp} (h : Rps K G xs [d]) : ∃ v, xs = [v] ∧ Rp K G v d := by
  cases h with
  | cons h1 h2 => cases h2; exact ⟨_, rfl, h1⟩
def cLen : List D → Option D
  | [.tup ds] => some (.int (ds.length : Nat))
  | [.lst ds] => some (.int (ds.length : Nat))
  | _ => none
theorem sem_len : SemC K (fun xs H Q => ∃ p ys, xs = [.ref p] ∧ (SqL K H p ys ∨ SqT K H p ys) ∧ Q (.int (ys.length : Nat)) H) cLen := by
  intro xs ds d G H Q e h q k
  unfold cLen at q
  split at q
  · obtain ⟨v, rfl, r⟩ := rps1 h
    cases q
    cases r with
    | tup h1 h2 => exact ⟨_, _, rfl, .inr (same_sqt e h1), by rw [h2.length]; exact k _ G H (Gr.refl e) (.int _)⟩
  · obtain ⟨v, rfl, r⟩ := rps1 h
    cases q
    cases r with
    | lst h1 h2 => exact ⟨_, _, rfl, .inl (SqL.of (e _ _ h1)), by rw [h2.length]; exact k _ G H (Gr.refl e) (.int _)⟩
  · cases q
def cAbs : List D → Option D
  | [.int i] => some (.int (if i < 0 then -i else i))
  | _ => none
theorem sem_abs : SemC K (fun xs H Q => ∃ i, xs = [.int i] ∧ Q (.int (if i < 0 then -i else i)) H) cAbs := by
  intro xs ds d G H Q e h q k
  unfold cAbs at q
  split at q
  · obtain ⟨v, rfl, r⟩ := rps1 h
    cases q; cases r
    exact ⟨_, rfl, k _ G H (Gr.refl e) (.int _)⟩
  · cases q
def cInt : List D → Option D
  | [.int i] => some (.int i)
  | [.bl b] => some (.int (if b then 1 else 0))
  | _ => none
theorem sem_intc : SemC K (fun xs H Q => (∃ i, xs = [.int i] ∧ Q (.int i) H) ∨ ∃ k, xs = [.bl k] ∧ Q (.int (if k then 1 else 0)) H) cInt := by
  intro xs ds d G H Q e h q k
  unfold cInt at q
  split at q
  · obtain ⟨v, rfl, r⟩ := rps1 h
    cases q; cases r
    exact .inl ⟨_, rfl, k _ G H (Gr.refl e) (.int _)⟩
  · obtain ⟨v, rfl, r⟩ := rps1 h
    cases q; cases r
    exact .inr ⟨_, rfl, k _ G H (Gr.refl e) (.int _)⟩
  · cases q
def cList : List D → Option D
  | [.tup ds] => some (.lst ds)
  | [.lst ds] => some (.lst ds)
  | _ => none
theorem sem_list : SemC K (fun xs H Q => ∃ p ys, xs = [.ref p] ∧ (SqL K H p ys ∨ SqT K H p ys) ∧ ∀ l, H l = none → Q (.ref l) (upd H l (.lst ys))) cList := by
  intro xs ds d G H Q e h q k
  unfold cList at q
  split at q
  · obtain ⟨v, rfl, r⟩ := rps1 h
    cases q
    cases r with
    | @tup a ys es h1 h2 =>
      refine ⟨_, _, rfl, .inr (same_sqt e h1), fun p hp => ?_⟩
      have g := Gr.new (o := .lst ys) e hp
      exact k _ _ _ g (.lst upd_same (h2.mono g.g _ _))
  · obtain ⟨v, rfl, r⟩ := rps1 h
    cases q
    cases r with
    | @lst a ys es h1 h2 =>
      refine ⟨_, _, rfl, .inl (SqL.of (e _ _ h1)), fun p hp => ?_⟩
      have g := Gr.new (o := .lst ys) e hp
      exact k _ _ _ g (.lst upd_same (h2.mono g.g _ _))
  · cases q
def cTup : List D → Option D
  | [.tup ds] => some (.tup ds)
  | [.lst ds] => some (.tup ds)
  | _ => none
theorem sem_tup : SemC K (fun xs H Q => ∃ p ys, xs = [.ref p] ∧ ((SqL K H p ys ∧ ∀ l, H l = none → Q (.ref l) (upd H l (.tup ys))) ∨ (SqT K H p ys ∧ Q (.ref p) H))) cTup := by
  intro xs ds d G H Q e h q k
  unfold cTup at q
  split at q
  · obtain ⟨v, rfl, r⟩ := rps1 h
    cases q
    cases r with
    | @tup a ys es h1 h2 => exact ⟨_, _, rfl, .inr ⟨same_sqt e h1, k _ G H (Gr.refl e) (.tup h1 h2)⟩⟩
  · obtain ⟨v, rfl, r⟩ := rps1 h
    cases q
    cases r with
    | @lst a ys es h1 h2 =>
      refine ⟨_, _, rfl, .inl ⟨SqL.of (e _ _ h1), fun p hp => ?_⟩⟩
      have g := Gr.new (o := .tup ys) e hp
      exact k _ _ _ g (.tup (SqT.of upd_same) (h2.mono g.g _ _))
  · cases q
/-- ints -/
def intD : D → Option Int
  | .int i => some i
  | _ => none
def intsD : List D → Option (List Int)
  | [] => some []
  | d :: ds => (intD d).bind fun i => (intsD ds).map (i :: ·)
theorem ints_are {H : Hp} : ∀ {xs : List V} {ds : List D} {ns : List Int}, Rps K H xs ds → intsD ds = some ns → xs = ns.map V.int
  | _, [], _, h, e => by cases h; cases e; rfl
  | _, d :: ds, _, h, e => by
    cases h with
    | cons h1 h2 =>
      obtain ⟨v, e1, e⟩ := Option.bind_eq_some_iff.mp (show (intD d).bind (fun i => (intsD ds).map (i :: ·)) = _ from e)
      obtain ⟨vs, e2, e3⟩ := Option.map_eq_some_iff.mp e
      subst e3
      rw [ints_are h2 e2]
      cases h1 <;> first | (cases e1; rfl) | cases e1
def boolD : D → Option Bool
  | .bl i => some i
  | _ => none
def boolsD : List D → Option (List Bool)
  | [] => some []
  | d :: ds => (boolD d).bind fun i => (boolsD ds).map (i :: ·)
theorem bools_are {H : Hp} : ∀ {xs : List V} {ds : List D} {ns : List Bool}, Rps K H xs ds → boolsD ds = some ns → xs = ns.map V.bl
  | _, [], _, h, e => by cases h; cases e; rfl
  | _, d :: ds, _, h, e => by
    cases h with
    | cons h1 h2 =>
      obtain ⟨v, e1, e⟩ := Option.bind_eq_some_iff.mp (show (boolD d).bind (fun i => (boolsD ds).map (i :: ·)) = _ from e)
      obtain ⟨vs, e2, e3⟩ := Option.map_eq_some_iff.mp e
      subst e3
      rw [bools_are h2 e2]
      cases h1 <;> first | (cases e1; rfl) | cases e1
def cAll : List D → Option D
  | [.lst ds] => (boolsD ds).map fun bs => .bl (bs.all id)
  | _ => none
def cAny : List D → Option D
  | [.lst ds] => (boolsD ds).map fun bs => .bl (bs.any id)
  | _ => none
def cSum : List D → Option D
  | [.lst ds] => (intsD ds).map fun ns => .int ns.sum
  | _ => none
theorem sem_all : SemC K (rAll K) cAll := by
  intro xs ds d G H Q e h q k
  unfold cAll at q
  split at q
  · obtain ⟨v, rfl, r⟩ := rps1 h
    obtain ⟨bs, q1, q2⟩ := Option.map_eq_some_iff.mp q
    subst q2
    cases r with
    | @lst a ys es h1 h2 =>
      have z := bools_are h2 q1
      subst z
      exact ⟨a, bs, rfl, SqL.of (e _ _ h1), k _ G H (Gr.refl e) (.bl _)⟩
  · cases q
theorem sem_any : SemC K (rAny K) cAny := by
  intro xs ds d G H Q e h q k
  unfold cAny at q
  split at q
  · obtain ⟨v, rfl, r⟩ := rps1 h
    obtain ⟨bs, q1, q2⟩ := Option.map_eq_some_iff.mp q
    subst q2
    cases r with
    | @lst a ys es h1 h2 =>
      have z := bools_are h2 q1
      subst z
      exact ⟨a, bs, rfl, SqL.of (e _ _ h1), k _ G H (Gr.refl e) (.bl _)⟩
  · cases q
theorem sem_sum : SemC K (rSum K) cSum := by
  intro xs ds d G H Q e h q k
  unfold cSum at q
  split at q
  · obtain ⟨v, rfl, r⟩ := rps1 h
    obtain ⟨bs, q1, q2⟩ := Option.map_eq_some_iff.mp q
    subst q2
    cases r with
    | @lst a ys es h1 h2 =>
      have z := ints_are h2 q1
      subst z
      exact ⟨a, bs, rfl, SqL.of (e _ _ h1), k _ G H (Gr.refl e) (.int _)⟩
  · cases q
/-- the greatest, the least of a list of ints -/
def maxL : List Int → Option Int
  | [] => none
  | i :: r => some (r.foldl (fun a b => if a ≤ b then b else a) i)
def minL : List Int → Option Int
  | [] => none
  | i :: r => some (r.foldl (fun a b => if b ≤ a then b else a) i)
theorem maxL_is : ∀ (r : List Int) (i : Int), (r.foldl (fun a b => if a ≤ b then b else a) i) ∈ i :: r ∧ ∀ y ∈ i :: r, y ≤ r.foldl (fun a b => if a ≤ b then b else a) i
  | [], i => ⟨by simp, by simp⟩
  | j :: r, i => by
    rw [List.foldl_cons]
    by_cases h : i ≤ j
    · rw [if_pos h]
      obtain ⟨h1, h2⟩ := maxL_is r j
      refine ⟨List.mem_cons_of_mem _ h1, fun y hy => ?_⟩
      rcases List.mem_cons.mp hy with rfl | hy
      · exact Int.le_trans h (h2 j (by simp))
      · exact h2 y hy
    · rw [if_neg h]
      obtain ⟨h1, h2⟩ := maxL_is r i
      refine ⟨?_, fun y hy => ?_⟩
      · rcases List.mem_cons.mp h1 with z | z
        · rw [z]; simp
        · exact List.mem_cons_of_mem _ (List.mem_cons_of_mem _ z)
      · rcases List.mem_cons.mp hy with rfl | hy
        · exact h2 _ (by simp)
        · rcases List.mem_cons.mp hy with rfl | hy
          · exact Int.le_trans (by omega) (h2 i (by simp))
          · exact h2 y (List.mem_cons_of_mem _ hy)
theorem minL_is : ∀ (r : List Int) (i : Int), (r.foldl (fun a b => if b ≤ a then b else a) i) ∈ i :: r ∧ ∀ y ∈ i :: r, r.foldl (fun a b => if b ≤ a then b else a) i ≤ y
  | [], i => ⟨by simp, by simp⟩
  | j :: r, i => by
    rw [List.foldl_cons]
    by_cases h : j ≤ i
    · rw [if_pos h]
      obtain ⟨h1, h2⟩ := minL_is r j
      refine ⟨List.mem_cons_of_mem _ h1, fun y hy => ?_⟩
      rcases List.mem_cons.mp hy with rfl | hy
      · exact Int.le_trans (h2 j (by simp)) h
      · exact h2 y hy
    · rw [if_neg h]
      obtain ⟨h1, h2⟩ := minL_is r i
      refine ⟨?_, fun y hy => ?_⟩
      · rcases List.mem_cons.mp h1 with z | z
        · rw [z]; simp
        · exact List.mem_cons_of_mem _ (List.mem_cons_of_mem _ z)
      · rcases List.mem_cons.mp hy with rfl | hy
        · exact h2 _ (by simp)
        · rcases List.mem_cons.mp hy with rfl | hy
          · exact Int.le_trans (h2 i (by simp)) (by omega)
          · exact h2 y (List.mem_cons_of_mem _ hy)
def cMax : List D → Option D
  | [.lst ds] => (intsD ds).bind fun ns => (maxL ns).map .int
  | _ => none
def cMin : List D → Option D
  | [.lst ds] => (intsD ds).bind fun ns => (minL ns).map .int
  | _ => none
theorem sem_max : SemC K (rMax K) cMax := by
  intro xs ds d G H Q e h q k
  unfold cMax at q
  split at q
  · obtain ⟨v, rfl, r⟩ := rps1 h
    obtain ⟨ns, q1, q⟩ := Option.bind_eq_some_iff.mp q
    obtain ⟨m, q2, q3⟩ := Option.map_eq_some_iff.mp q
    subst q3
    cases r with
    | @lst a ys es h1 h2 =>
      have z := ints_are h2 q1
      subst z
      cases ns with
      | nil => cases q2
      | cons i r =>
        cases q2
        obtain ⟨m1, m2⟩ := maxL_is r i
        refine ⟨a, i :: r, rfl, SqL.of (e _ _ h1), by simp, fun m hm hle => ?_⟩
        have z : m = r.foldl (fun a b => if a ≤ b then b else a) i := Int.le_antisymm (m2 m hm) (hle _ m1)
        rw [z]
        exact k _ G H (Gr.refl e) (.int _)
  · cases q
theorem sem_min : SemC K (rMin K) cMin := by
  intro xs ds d G H Q e h q k
  unfold cMin at q
  split at q
  · obtain ⟨v, rfl, r⟩ := rps1 h
    obtain ⟨ns, q1, q⟩ := Option.bind_eq_some_iff.mp q
    obtain ⟨m, q2, q3⟩ := Option.map_eq_some_iff.mp q
    subst q3
    cases r with
    | @lst a ys es h1 h2 =>
      have z := ints_are h2 q1
      subst z
      cases ns with
      | nil => cases q2
      | cons i r =>
        cases q2
        obtain ⟨m1, m2⟩ := minL_is r i
        refine ⟨a, i :: r, rfl, SqL.of (e _ _ h1), by simp, fun m hm hle => ?_⟩
        have z : m = r.foldl (fun a b => if b ≤ a then b else a) i := Int.le_antisymm (hle _ m1) (m2 m hm)
        rw [z]
        exact k _ G H (Gr.refl e) (.int _)
  · cases q
end
section
variable {X : Cx} {e : Expr} {es : List Expr} {ms : Ax} {p pos : Pos}
theorem ok_len (hm : X.mg "len" = none) (ha : OkA X (e :: es) ms) (hg : Gl X "len" := by rfl) (he : starEach (e :: es) X.env = (false, eval e X.env) :: starEach es X.env := by rfl) (hpl : (backTo pos (starEach es X.env)).any (·.1) = false := by rfl) :
    OkE X (.Call (.Name "len" p) (e :: es) [] pos) (eCB cLen ms) := ok_cb call_len_seq sem_len hm PySem.boot_len ha hg (by decide) (by decide) he hpl
theorem ok_abs (hm : X.mg "abs" = none) (ha : OkA X (e :: es) ms) (hg : Gl X "abs" := by rfl) (he : starEach (e :: es) X.env = (false, eval e X.env) :: starEach es X.env := by rfl) (hpl : (backTo pos (starEach es X.env)).any (·.1) = false := by rfl) :
    OkE X (.Call (.Name "abs" p) (e :: es) [] pos) (eCB cAbs ms) := ok_cb call_abs sem_abs hm (by decide +kernel) ha hg (by decide) (by decide) he hpl
theorem ok_intc (hm : X.mg "int" = none) (ha : OkA X (e :: es) ms) (hg : Gl X "int" := by rfl) (he : starEach (e :: es) X.env = (false, eval e X.env) :: starEach es X.env := by rfl) (hpl : (backTo pos (starEach es X.env)).any (·.1) = false := by rfl) :
    OkE X (.Call (.Name "int" p) (e :: es) [] pos) (eCB cInt ms) := ok_ct call_int1 sem_intc hm (by decide +kernel) ha hg (by decide) (by decide) he hpl
theorem ok_list (hm : X.mg "list" = none) (ha : OkA X (e :: es) ms) (hg : Gl X "list" := by rfl) (he : starEach (e :: es) X.env = (false, eval e X.env) :: starEach es X.env := by rfl) (hpl : (backTo pos (starEach es X.env)).any (·.1) = false := by rfl) :
    OkE X (.Call (.Name "list" p) (e :: es) [] pos) (eCB cList ms) := ok_ct call_list_of sem_list hm (by decide +kernel) ha hg (by decide) (by decide) he hpl
theorem ok_tuple (hm : X.mg "tuple" = none) (ha : OkA X (e :: es) ms) (hg : Gl X "tuple" := by rfl) (he : starEach (e :: es) X.env = (false, eval e X.env) :: starEach es X.env := by rfl) (hpl : (backTo pos (starEach es X.env)).any (·.1) = false := by rfl) :
    OkE X (.Call (.Name "tuple" p) (e :: es) [] pos) (eCB cTup ms) := ok_ct call_tuple_of sem_tup hm (by decide +kernel) ha hg (by decide) (by decide) he hpl
theorem ok_all (hc : X.calm = true) (hm : X.mg "all" = none) (ha : OkA X (e :: es) ms) (hg : Gl X "all" := by rfl) (he : starEach (e :: es) X.env = (false, eval e X.env) :: starEach es X.env := by rfl) (hpl : (backTo pos (starEach es X.env)).any (·.1) = false := by rfl) :
    OkE X (.Call (.Name "all" p) (e :: es) [] pos) (eCB cAll ms) := ok_cb (cr_all hc) sem_all hm (by decide +kernel) ha hg (by decide) (by decide) he hpl
theorem ok_any (hc : X.calm = true) (hm : X.mg "any" = none) (ha : OkA X (e :: es) ms) (hg : Gl X "any" := by rfl) (he : starEach (e :: es) X.env = (false, eval e X.env) :: starEach es X.env := by rfl) (hpl : (backTo pos (starEach es X.env)).any (·.1) = false := by rfl) :
    OkE X (.Call (.Name "any" p) (e :: es) [] pos) (eCB cAny ms) := ok_cb (cr_any hc) sem_any hm (by decide +kernel) ha hg (by decide) (by decide) he hpl
theorem ok_sum (hc : X.calm = true) (hm : X.mg "sum" = none) (ha : OkA X (e :: es) ms) (hg : Gl X "sum" := by rfl) (he : starEach (e :: es) X.env = (false, eval e X.env) :: starEach es X.env := by rfl) (hpl : (backTo pos (starEach es X.env)).any (·.1) = false := by rfl) :
    OkE X (.Call (.Name "sum" p) (e :: es) [] pos) (eCB cSum ms) := ok_cb (cr_sum hc) sem_sum hm (by decide +kernel) ha hg (by decide) (by decide) he hpl
theorem ok_max (hc : X.calm = true) (hm : X.mg "max" = none) (ha : OkA X (e :: es) ms) (hg : Gl X "max" := by rfl) (he : starEach (e :: es) X.env = (false, eval e X.env) :: starEach es X.env := by rfl) (hpl : (backTo pos (starEach es X.env)).any (·.1) = false := by rfl) :
    OkE X (.Call (.Name "max" p) (e :: es) [] pos) (eCB cMax ms) := ok_cb (cr_max hc) sem_max hm (by decide +kernel) ha hg (by decide) (by decide) he hpl
theorem ok_min (hc : X.calm = true) (hm : X.mg "min" = none) (ha : OkA X (e :: es) ms) (hg : Gl X "min" := by rfl) (he : starEach (e :: es) X.env = (false, eval e X.env) :: starEach es X.env := by rfl) (hpl : (backTo pos (starEach es X.env)).any (·.1) = false := by rfl) :
    OkE X (.Call (.Name "min" p) (e :: es) [] pos) (eCB cMin ms) := ok_cb (cr_min hc) sem_min hm (by decide +kernel) ha hg (by decide) (by decide) he hpl
end

/-! ### calls of own defs -/
/-- what a def of data promises -/
def spF (K : PySem.W.Frag) (F : List D → Option D) : Sp := fun vs H Q _ => ∃ (G : Hp) (ds : List D) (d : D), Same G H ∧ Rps K G vs ds ∧ F ds = some d ∧ ∀ v G' H', Gr G H G' H' → Rp K G' v d → Q v H'
theorem ok_call {X : Cx} {k : Nat} {f : Addr} {fd : FuncData} {ps : List Str} {F : List D → Option D} {x : Str} {p pos : Pos} {e : Expr} {es : List Expr} {ms : Ax} (Fo : FnOk X.prog X.w X.K X.mg X.base CX0 k f fd ps (spF X.K F)) (hr : Room k X.A) (hm : X.mg x = some (.ref f)) (hk : PySem.W.keepIn X.K (.ref f) = true)
    (hb : Binds X.K fd ps []) (ha : OkA X (e :: es) ms) (hg : Gl X x := by rfl) (hdb : (x == ("__debug__" : Str)) = false := by decide) (he : starEach (e :: es) X.env = (false, eval e X.env) :: starEach es X.env := by rfl) (hpl : (backTo pos (starEach es X.env)).any (·.1) = false := by rfl) :
    OkE X (.Call (.Name x p) (e :: es) [] pos) (eCB F ms) :=
  weakE (pe_call Fo hr hg hm hk hb .nil pass0 ha hdb he hpl) fun σ H Q ⟨O, env, G, d, rl, e, k⟩ => by
    obtain ⟨ds, e1, e2⟩ := Option.bind_eq_some_iff.mp e
    refine ⟨O, env, G, ds, rl, e1, fun vs G1 H1 g1 r1 => ?_⟩
    show spF X.K F (vs ++ []) H1 Q E0
    rw [List.append_nil]
    exact ⟨G1, ds, d, g1.gh, r1, e2, fun v G2 H2 g2 r2 => k v G2 H2 (g1.trans g2) r2⟩
theorem ok_call0 {X : Cx} {k : Nat} {f : Addr} {fd : FuncData} {F : List D → Option D} {x : Str} {p pos : Pos} (Fo : FnOk X.prog X.w X.K X.mg X.base CX0 k f fd [] (spF X.K F)) (hr : Room k X.A) (hm : X.mg x = some (.ref f)) (hk : PySem.W.keepIn X.K (.ref f) = true)
    (hb : Binds X.K fd [] []) (hg : Gl X x := by rfl) (hdb : (x == ("__debug__" : Str)) = false := by decide) : OkE X (.Call (.Name x p) [] [] pos) (eCB F aNil) :=
  weakE (pe_call0 Fo hr hg hm hk hb .nil pass0 hdb) fun σ H Q ⟨O, env, G, d, rl, e, k⟩ => by
    exact ⟨G, [], d, rl.gh, .nil, e, fun v G2 H2 g2 r2 => k v G2 H2 g2 r2⟩
end Sh
end Part_ShC

section Part_ShD
set_option maxRecDepth 100000
set_option maxHeartbeats 2000000
/-! ShD: what is walked, targets, comprehensions. -/
namespace Sh
open PySem L2

/-! ### what is walked -/
/-- the iterator J yields the items of ds -/
def Walks (K : PySem.W.Frag) (J : It) (ds : List D) (G : Hp) : Prop := ∀ (i : Nat) (G1 H1 : Hp), Same G G1 → Same G1 H1 →
  (ds.length ≤ i → J.stop i H1) ∧ ∀ d, ds[i]? = some d → J.go i H1 ∧ ∀ x H2, J.yld i H1 x H2 → ∃ G2, Gr G1 H1 G2 H2 ∧ Rp K G2 x d
def tI (K : PySem.W.Frag) (m : Ax) : TI := fun σ H R => ∃ (O : Addr → Prop) (env : Env) (G : Hp) (ds : List D), Rl K O env σ G H ∧ m env = some ds ∧ ∀ J G' H', Gr G H G' H' → Walks K J ds G' → R J H'
def OkI (X : Cx) (tg e : Expr) (m : Ax) : Prop := PI X tg e (tI X.K m)
section
variable {X : Cx} {tg e : Expr}
theorem weakI {t t' : TI} (h : PI X tg e t) (w : ∀ σ H Q, t' σ H Q → t σ H Q) : PI X tg e t' := ⟨fun pins s σ H Q I q => h.run pins s σ H Q I (w _ _ _ q)⟩
variable {K : PySem.W.Frag} {G : Hp}
theorem walks_list {a : Addr} {xs : List V} {ds : List D} (h : G a = some (.lst xs)) (r : Rps K G xs ds) : Walks K (Itl K a) ds G := by
  intro i G1 H1 e1 e2
  have hH : H1 a = some (.lst xs) := e2 _ _ (e1 _ _ h)
  refine ⟨fun hi => ⟨xs, SqL.of hH, by rw [r.length]; exact hi⟩, fun d hd => ?_⟩
  obtain ⟨v, q1, q2⟩ := r.get hd
  refine ⟨⟨xs, v, SqL.of hH, q1⟩, fun x H2 y => ?_⟩
  obtain ⟨y1, y2⟩ := y
  subst y1
  have z := y2 xs (SqL.of hH)
  rw [q1] at z; cases z
  exact ⟨G1, Gr.refl e2, q2.mono e1 _ _⟩
theorem walks_tup {a : Addr} {xs : List V} {ds : List D} (h : SqT K G a xs) (r : Rps K G xs ds) : Walks K (Itt K a) ds G := by
  intro i G1 H1 e1 e2
  have hH : SqT K H1 a xs := same_sqt e2 (same_sqt e1 h)
  refine ⟨fun hi => ⟨xs, hH, by rw [r.length]; exact hi⟩, fun d hd => ?_⟩
  obtain ⟨v, q1, q2⟩ := r.get hd
  refine ⟨⟨xs, v, hH, q1⟩, fun x H2 y => ?_⟩
  obtain ⟨y1, y2⟩ := y
  subst y1
  have z := y2 xs hH
  rw [q1] at z; cases z
  exact ⟨G1, Gr.refl e2, q2.mono e1 _ _⟩
def rangeD (lo : Int) (n : Nat) : List D := (List.range n).map fun i => .int (lo + (i : Nat))
theorem rangeD_length (lo : Int) (n : Nat) : (rangeD lo n).length = n := by unfold rangeD; simp
theorem rangeD_get {lo : Int} {n i : Nat} {d : D} (h : (rangeD lo n)[i]? = some d) : i < n ∧ d = .int (lo + (i : Nat)) := by
  unfold rangeD at h
  rw [List.getElem?_map] at h
  obtain ⟨j, h1, h2⟩ := Option.map_eq_some_iff.mp h
  obtain ⟨h3, h4⟩ := List.getElem?_eq_some_iff.mp h1
  rw [List.length_range] at h3
  rw [List.getElem_range] at h4
  subst h4; subst h2
  exact ⟨h3, rfl⟩
theorem walks_range (lo : Int) (n : Nat) : Walks K (Itr lo n) (rangeD lo n) G := by
  intro i G1 H1 e1 e2
  refine ⟨fun hi => by rw [rangeD_length] at hi; exact hi, fun d hd => ?_⟩
  obtain ⟨h1, h2⟩ := rangeD_get hd
  refine ⟨h1, fun x H2 y => ?_⟩
  obtain ⟨y1, y2⟩ := y
  subst y1; subst y2; subst h2
  exact ⟨G1, Gr.refl e2, .int _⟩
/-- a list or a tuple -/
def wItems (m : Ex) : Ax := fun env => (m env).bind itemsOf
def wList (m : Ex) : Ax := fun env => (m env).bind fun d => match d with
  | .lst ds => some ds
  | _ => none
def wTup (m : Ex) : Ax := fun env => (m env).bind fun d => match d with
  | .tup ds => some ds
  | _ => none
theorem ok_wList {m : Ex} (h : OkE X e m) : OkI X tg e (wList m) := weakI (pi_list h) fun σ H R ⟨O, env, G, ds, rl, e, k⟩ => by
  obtain ⟨d, e1, e2⟩ := Option.bind_eq_some_iff.mp e
  refine ⟨O, env, G, d, rl, e1, fun v G1 H1 g1 r1 => ?_⟩
  cases r1 with
  | @lst a xs es h1 h2 => cases e2; exact ⟨a, rfl, ⟨xs, SqL.of (g1.gh _ _ h1)⟩, k _ G1 H1 g1 (walks_list h1 h2)⟩
  | _ => cases e2
theorem ok_wTup {m : Ex} (h : OkE X e m) : OkI X tg e (wTup m) := weakI (pi_tup h) fun σ H R ⟨O, env, G, ds, rl, e, k⟩ => by
  obtain ⟨d, e1, e2⟩ := Option.bind_eq_some_iff.mp e
  refine ⟨O, env, G, d, rl, e1, fun v G1 H1 g1 r1 => ?_⟩
  cases r1 with
  | @tup a xs es h1 h2 => cases e2; exact ⟨a, rfl, ⟨xs, same_sqt g1.gh h1⟩, k _ G1 H1 g1 (walks_tup h1 h2)⟩
  | _ => cases e2
theorem orI {wi wi' : TI} (h : PI X tg e wi) (h' : PI X tg e wi') : PI X tg e (fun σ H R => wi σ H R ∨ wi' σ H R) := ⟨fun pins s σ H R I q => by
  rcases q with q | q
  · exact h.run pins s σ H R I q
  · exact h'.run pins s σ H R I q⟩
/-- a list or a tuple, whichever it is -/
theorem ok_wItems {m : Ex} (h : OkE X e m) : OkI X tg e (wItems m) := weakI (orI (ok_wList (tg := tg) h) (ok_wTup h)) fun σ H R ⟨O, env, G, ds, rl, e, k⟩ => by
  obtain ⟨d, e1, e2⟩ := Option.bind_eq_some_iff.mp e
  cases d with
  | lst es => cases e2; exact .inl ⟨O, env, G, _, rl, by unfold wList; rw [e1]; rfl, k⟩
  | tup es => cases e2; exact .inr ⟨O, env, G, _, rl, by unfold wTup; rw [e1]; rfl, k⟩
  | _ => cases e2
def wRange1 (m : Ax) : Ax := fun env => (m env).bind fun ds => match ds with
  | [.int j] => if -1000000 ≤ j ∧ j ≤ 1000000 then some (rangeD 0 j.toNat) else none
  | _ => none
def wRange2 (m : Ax) : Ax := fun env => (m env).bind fun ds => match ds with
  | [.int i, .int j] => if (-1000000 ≤ i ∧ i ≤ 1000000) ∧ -1000000 ≤ j ∧ j ≤ 1000000 then some (rangeD i (j - i).toNat) else none
  | _ => none
theorem ok_wRange1 {a : Expr} {m : Ax} {p pos : Pos} (hm : X.mg "range" = none) (ha : OkA X [a] m) (hg : Gl X "range" := by rfl) (hs : starEach [a] X.env = [(false, eval a X.env)] := by rfl) : OkI X tg (.Call (.Name "range" p) [a] [] pos) (wRange1 m) :=
  weakI (pi_range1 hg hm ha hs) fun σ H R ⟨O, env, G, ds, rl, e, k⟩ => by
    obtain ⟨es, e1, e2⟩ := Option.bind_eq_some_iff.mp e
    refine ⟨O, env, G, es, rl, e1, fun vs G1 H1 g1 r1 => ?_⟩
    split at e2
    · split at e2
      · rename_i h
        cases e2
        obtain ⟨v, rfl, r⟩ := rps1 r1
        cases r
        exact ⟨_, rfl, by omega, by omega, k _ G1 H1 g1 (walks_range 0 _)⟩
      · cases e2
    · cases e2
theorem ok_wRange2 {a b : Expr} {m : Ax} {p pos : Pos} (hm : X.mg "range" = none) (ha : OkA X [a, b] m) (hg : Gl X "range" := by rfl) (hs : starEach [a, b] X.env = [(false, eval a X.env), (false, eval b X.env)] := by rfl) (hs2 : starEach [b] X.env = [(false, eval b X.env)] := by rfl) :
    OkI X tg (.Call (.Name "range" p) [a, b] [] pos) (wRange2 m) :=
  weakI (pi_range2 hg hm ha hs hs2) fun σ H R ⟨O, env, G, ds, rl, e, k⟩ => by
    obtain ⟨es, e1, e2⟩ := Option.bind_eq_some_iff.mp e
    refine ⟨O, env, G, es, rl, e1, fun vs G1 H1 g1 r1 => ?_⟩
    split at e2
    · split at e2
      · rename_i h
        cases e2
        cases r1 with
        | cons q1 q2 =>
          cases q2 with
          | cons q3 q4 =>
            cases q4; cases q1; cases q3
            exact ⟨_, _, rfl, ⟨by omega, by omega, by omega, by omega⟩, k _ G1 H1 g1 (walks_range _ _)⟩
      · cases e2
    · cases e2
/-- pairs of a place and an item -/
def enumD (ds : List D) : List D := ds.mapIdx fun i d => .tup [.int (i : Nat), d]
theorem enumD_get {ds : List D} {i : Nat} {d : D} (h : (enumD ds)[i]? = some d) : ∃ c, ds[i]? = some c ∧ d = .tup [.int (i : Nat), c] := by
  unfold enumD at h
  rw [List.getElem?_mapIdx] at h
  obtain ⟨c, h1, h2⟩ := Option.map_eq_some_iff.mp h
  exact ⟨c, h1, h2.symm⟩
theorem walks_enum {a : Addr} {xs : List V} {ds : List D} (h : G a = some (.lst xs)) (r : Rps K G xs ds) : Walks K (Ite K a) (enumD ds) G := by
  intro i G1 H1 e1 e2
  have hH : H1 a = some (.lst xs) := e2 _ _ (e1 _ _ h)
  refine ⟨fun hi => ⟨xs, SqL.of hH, by rw [r.length]; unfold enumD at hi; rwa [List.length_mapIdx] at hi⟩, fun d hd => ?_⟩
  obtain ⟨c, hc, rfl⟩ := enumD_get hd
  obtain ⟨v, q1, q2⟩ := r.get hc
  refine ⟨⟨xs, v, SqL.of hH, q1⟩, fun x H2 y => ?_⟩
  obtain ⟨T, u, rfl, hT, rfl, y2⟩ := y
  have z := y2 xs (SqL.of hH)
  rw [q1] at z; cases z
  have g := Gr.new (o := .tup [.int (i : Nat), v]) e2 hT
  exact ⟨_, g, .tup (SqT.of upd_same) (.cons (.int _) (.cons ((q2.mono e1 _ _).mono g.g _ _) .nil))⟩
/-- pairs of two lists' items -/
def zipD (as bs : List D) : List D := List.zipWith (fun a b => .tup [a, b]) as bs
theorem zipD_get {as bs : List D} {i : Nat} {d : D} (h : (zipD as bs)[i]? = some d) : ∃ a b, as[i]? = some a ∧ bs[i]? = some b ∧ d = .tup [a, b] := by
  unfold zipD at h
  rw [List.getElem?_zipWith] at h
  cases ha : as[i]? with
  | none => rw [ha] at h; cases h
  | some a =>
    cases hb : bs[i]? with
    | none => rw [ha, hb] at h; cases h
    | some b => rw [ha, hb] at h; cases h; exact ⟨a, b, rfl, rfl, rfl⟩
theorem walks_zip {a b : Addr} {xs ys : List V} {ds es : List D} (h : G a = some (.lst xs)) (r : Rps K G xs ds) (h' : G b = some (.lst ys)) (r' : Rps K G ys es) : Walks K (Itz K a b) (zipD ds es) G := by
  intro i G1 H1 e1 e2
  have hH : H1 a = some (.lst xs) := e2 _ _ (e1 _ _ h)
  have hH' : H1 b = some (.lst ys) := e2 _ _ (e1 _ _ h')
  refine ⟨fun hi => ⟨xs, ys, SqL.of hH, SqL.of hH', ?_⟩, fun d hd => ?_⟩
  · unfold zipD at hi
    rw [List.length_zipWith] at hi
    rw [r.length, r'.length]
    omega
  obtain ⟨c1, c2, hc1, hc2, rfl⟩ := zipD_get hd
  obtain ⟨v, q1, q2⟩ := r.get hc1
  obtain ⟨u, q3, q4⟩ := r'.get hc2
  refine ⟨⟨xs, ys, v, u, SqL.of hH, SqL.of hH', q1, q3⟩, fun x H2 y => ?_⟩
  obtain ⟨T, x1, x2, rfl, hT, rfl, y1, y2⟩ := y
  have z := y1 xs (SqL.of hH)
  rw [q1] at z; cases z
  have z := y2 ys (SqL.of hH')
  rw [q3] at z; cases z
  have g := Gr.new (o := .tup [v, u]) e2 hT
  exact ⟨_, g, .tup (SqT.of upd_same) (.cons ((q2.mono e1 _ _).mono g.g _ _) (.cons ((q4.mono e1 _ _).mono g.g _ _) .nil))⟩
theorem walks_zipT {a b : Addr} {xs ys : List V} {ds es : List D} (h : SqT K G a xs) (r : Rps K G xs ds) (h' : SqT K G b ys) (r' : Rps K G ys es) : Walks K (RZ.ItzT K a b) (zipD ds es) G := by
  intro i G1 H1 e1 e2
  have hH : SqT K H1 a xs := same_sqt e2 (same_sqt e1 h)
  have hH' : SqT K H1 b ys := same_sqt e2 (same_sqt e1 h')
  refine ⟨fun hi => ⟨xs, ys, hH, hH', ?_⟩, fun d hd => ?_⟩
  · unfold zipD at hi
    rw [List.length_zipWith] at hi
    rw [r.length, r'.length]
    omega
  obtain ⟨c1, c2, hc1, hc2, rfl⟩ := zipD_get hd
  obtain ⟨v, q1, q2⟩ := r.get hc1
  obtain ⟨u, q3, q4⟩ := r'.get hc2
  refine ⟨⟨xs, ys, v, u, hH, hH', q1, q3⟩, fun x H2 y => ?_⟩
  obtain ⟨T, x1, x2, rfl, hT, rfl, y1, y2⟩ := y
  have z := y1 xs hH
  rw [q1] at z; cases z
  have z := y2 ys hH'
  rw [q3] at z; cases z
  have g := Gr.new (o := .tup [v, u]) e2 hT
  exact ⟨_, g, .tup (SqT.of upd_same) (.cons ((q2.mono e1 _ _).mono g.g _ _) (.cons ((q4.mono e1 _ _).mono g.g _ _) .nil))⟩
def wEnum (m : Ax) : Ax := fun env => (m env).bind fun ds => match ds with
  | [.lst es] => some (enumD es)
  | _ => none
theorem ok_wEnum {e : Expr} {m : Ax} {p pos tpos : Pos} {elts : List Expr} {kk : Nat} (hm : X.mg "enumerate" = none) (ha : OkA X [e] m) (hg : Gl X "enumerate" := by rfl) (hs : starEach [e] X.env = [(false, eval e X.env)] := by rfl) :
    OkI X (.Tuple elts kk tpos) (.Call (.Name "enumerate" p) [e] [] pos) (wEnum m) :=
  weakI (pi_enum hg hm ha hs) fun σ H R ⟨O, env, G, ds, rl, e, k⟩ => by
    obtain ⟨es, e1, e2⟩ := Option.bind_eq_some_iff.mp e
    refine ⟨O, env, G, es, rl, e1, fun vs G1 H1 g1 r1 => ?_⟩
    split at e2
    · cases e2
      obtain ⟨v, rfl, r⟩ := rps1 r1
      cases r with
      | @lst a xs es h1 h2 => exact ⟨a, xs, rfl, SqL.of (g1.gh _ _ h1), k _ G1 H1 g1 (walks_enum h1 h2)⟩
    · cases e2
def wZip (m : Ax) : Ax := fun env => (m env).bind fun ds => match ds with
  | [.lst as, .lst bs] => some (zipD as bs)
  | [.tup as, .tup bs] => some (zipD as bs)
  | _ => none
theorem ok_wZip {e e2 : Expr} {m : Ax} {p pos tpos : Pos} {elts : List Expr} {kk : Nat} (hm : X.mg "zip" = none) (ha : OkA X [e, e2] m) (hg : Gl X "zip" := by rfl)
    (hs : starEach [e, e2] X.env = (false, eval e X.env) :: starEach [e2] X.env := by rfl) (hpl : (backTo pos (starEach [e2] X.env)).any (·.1) = false := by rfl) :
    OkI X (.Tuple elts kk tpos) (.Call (.Name "zip" p) [e, e2] [] pos) (wZip m) :=
  weakI (RZ.pi_zipA hg hm ha hs hpl) fun σ H R ⟨O, env, G, ds, rl, e, k⟩ => by
    obtain ⟨es, e1, e2⟩ := Option.bind_eq_some_iff.mp e
    refine ⟨O, env, G, es, rl, e1, fun vs G1 H1 g1 r1 => ?_⟩
    split at e2
    · cases e2
      cases r1 with
      | cons q1 q2 =>
        cases q2 with
        | cons q3 q4 =>
          cases q4
          cases q1 with
          | @lst a xs es h1 h2 =>
            cases q3 with
            | @lst b ys fs h3 h4 => exact ⟨a, b, xs, ys, rfl, .inl ⟨SqL.of (g1.gh _ _ h1), SqL.of (g1.gh _ _ h3), k _ G1 H1 g1 (walks_zip h1 h2 h3 h4)⟩⟩
    · cases e2
      cases r1 with
      | cons q1 q2 =>
        cases q2 with
        | cons q3 q4 =>
          cases q4
          cases q1 with
          | @tup a xs es h1 h2 =>
            cases q3 with
            | @tup b ys fs h3 h4 => exact ⟨a, b, xs, ys, rfl, .inr ⟨same_sqt g1.gh h1, same_sqt g1.gh h3, k _ G1 H1 g1 (walks_zipT h1 h2 h3 h4)⟩⟩
    · cases e2
end

/-! ### targets -/
abbrev Gx := D → Env → Option Env
abbrev Gsx := List D → Env → Option Env
def tG (K : PySem.W.Frag) (vs : List Nat) (t : Gx) : TG := fun v σ H Q => ∃ (O : Addr → Prop) (env : Env) (G : Hp) (d : D) (env' : Env), Rl K O env σ G H ∧ Rp K G v d ∧ t d env = some env' ∧ ∀ σ', Rl K O env' σ' G H → wipe σ' vs = wipe σ vs → Q σ' H
def tGs (K : PySem.W.Frag) (vs : List Nat) (t : Gsx) : TGs := fun us σ H Q => ∃ (O : Addr → Prop) (env : Env) (G : Hp) (ds : List D) (env' : Env), Rl K O env σ G H ∧ Rps K G us ds ∧ t ds env = some env' ∧ ∀ σ', Rl K O env' σ' G H → wipe σ' vs = wipe σ vs → Q σ' H
def OkG (X : Cx) (vs : List Nat) (tg : Expr) (t : Gx) : Prop := PG X tg (tG X.K vs t)
def OkGs (X : Cx) (vs : List Nat) (tgs : List Expr) (t : Gsx) : Prop := PGs X tgs (tGs X.K vs t)
theorem weakG {X : Cx} {tg : Expr} {t t' : TG} (h : PG X tg t) (w : ∀ v σ H Q, t' v σ H Q → t v σ H Q) : PG X tg t' := ⟨fun pins s σ H v u Q I r q => h.run pins s σ H v u Q I r (w _ _ _ _ q)⟩
theorem weakGs {X : Cx} {tg : List Expr} {t t' : TGs} (h : PGs X tg t) (w : ∀ v σ H Q, t' v σ H Q → t v σ H Q) : PGs X tg t' := ⟨fun pins s σ H v u Q I r q => h.run pins s σ H v u Q I r (w _ _ _ _ q)⟩
def gV (i : Nat) : Gx := fun d env => if i < env.length then some (env.set i (some (false, d))) else none
section
variable {K : PySem.W.Frag} {O : Addr → Prop} {env : Env} {σ : L2.St} {G H : Hp}
/-- a slot is stored: what it held is forgotten -/
theorem Rl.put (r : Rl K O env σ G H) {i : Nat} {v : V} {d : D} (hi : i < env.length) (q : Rp K G v d) : Rl K O (env.set i (some (false, d))) (σ.set i (some v)) G H where
  gh := r.gh
  len := by simpa using r.len
  fr := fun j e h => by
    by_cases hj : i = j
    · subst hj
      rw [List.getElem?_set_self hi] at h
      cases h
      exact ⟨v, List.getElem?_set_self (by rw [← r.len]; exact hi), q⟩
    · rw [List.getElem?_set_ne hj] at h
      rw [List.getElem?_set_ne hj]
      exact r.fr j e h
  ow := fun j e h => by
    by_cases hj : i = j
    · subst hj
      rw [List.getElem?_set_self hi] at h
      cases h
    · rw [List.getElem?_set_ne hj] at h
      rw [List.getElem?_set_ne hj]
      exact r.ow j e h
  dj := fun j k d1 d2 a h1 h2 => by
    have hj : i ≠ j := fun z => by subst z; rw [List.getElem?_set_self hi] at h1; cases h1
    have hk : i ≠ k := fun z => by subst z; rw [List.getElem?_set_self hi] at h2; cases h2
    rw [List.getElem?_set_ne hj] at h1
    rw [List.getElem?_set_ne hk] at h2
    rw [List.getElem?_set_ne hj, List.getElem?_set_ne hk]
    exact r.dj j k d1 d2 a h1 h2
theorem wipe_set {i : Nat} {o : Option V} : ∀ {vs : List Nat}, i ∈ vs → wipe (σ.set i o) vs = wipe σ vs
  | [], h => by cases h
  | v :: vs, h => by
    unfold wipe
    by_cases hi : i ∈ vs
    · rw [wipe_set hi]
    · have e : i = v := by
        rcases List.mem_cons.mp h with z | z
        · exact z
        · exact absurd z hi
      subst e
      have : ∀ (ws : List Nat), i ∉ ws → wipe (σ.set i o) ws = (wipe σ ws).set i o := by
        intro ws
        induction ws with
        | nil => intro _; rfl
        | cons w ws ih =>
          intro hw
          have h1 : w ≠ i := fun z => hw (by simp [z])
          unfold wipe
          rw [ih fun z => hw (List.mem_cons_of_mem _ z)]
          exact List.set_comm _ _ (Ne.symm h1)
      rw [this vs hi, List.set_set]
end
section
variable {X : Cx} {pos : Pos} {vs : List Nat}
theorem ok_gV (i : Nat) (hN : X.N.Nodup) {x : Str} (hi : X.N[i]? = some x := by rfl) (hx : Loc X.env.scope x := by first | exact Or.inl rfl | exact Or.inr rfl) (hf : X.fn x = true ∨ X.env.scope.names.lookup x = some .local := by first | exact .inl rfl | exact .inr rfl)
    (hm : i ∈ vs := by decide) : OkG X vs (.Name x pos) (gV i) :=
  weakG (pg_name hN hi hx hf) fun v σ H Q ⟨O, env, G, d, env', rl, r, e, k⟩ => by
    unfold gV at e
    split at e
    · rename_i hl
      cases e
      exact k _ (rl.put hl r) (wipe_set hm)
    · cases e
def gsNil : Gsx := fun ds env => match ds with
  | [] => some env
  | _ => none
def gsCons (t : Gx) (u : Gsx) : Gsx := fun ds env => match ds with
  | d :: r => (t d env).bind fun env1 => u r env1
  | _ => none
theorem ok_gsNil : OkGs X vs [] gsNil := weakGs pgs_nil fun us σ H Q ⟨O, env, G, ds, env', rl, r, e, k⟩ => by
  unfold gsNil at e
  split at e
  · cases e; cases r; exact ⟨rfl, k σ rl rfl⟩
  · cases e
theorem ok_gsCons {e : Expr} {es : List Expr} {t : Gx} {u : Gsx} (h1 : OkG X vs e t) (h2 : OkGs X vs es u)
    (hs : (assignEach (e :: es) X.env).map (·.2) = assign e X.env :: (assignEach es X.env).map (·.2) := by rfl) : OkGs X vs (e :: es) (gsCons t u) :=
  weakGs (pgs_cons h1 h2 hs) fun us σ H Q ⟨O, env, G, ds, env', rl, r, e, k⟩ => by
    unfold gsCons at e
    split at e
    · rename_i d ds'
      obtain ⟨env1, e1, e2⟩ := Option.bind_eq_some_iff.mp e
      cases r with
      | cons q1 q2 =>
        exact ⟨_, _, rfl, O, env, G, d, env1, rl, q1, e1, fun σ1 rl1 w1 => ⟨O, env1, G, ds', env', rl1, q2, e2, fun σ2 rl2 w2 => k σ2 rl2 (w2.trans w1)⟩⟩
    · cases e
def gT (n : Nat) (u : Gsx) : Gx := fun d env => match d with
  | .tup ds => if ds.length = n then u ds env else none
  | _ => none
theorem ok_gT {es : List Expr} {k0 : Nat} {u : Gsx} {n : Nat} (hc : X.calm = true) (h : OkGs X vs es u) (hn : (assignEach es X.env).length = n := by rfl) (hst : (assignEach es X.env).findIdx? (·.1) = none := by rfl) : OkG X vs (.Tuple es k0 pos) (gT n u) :=
  weakG (pg_tup hc h hn hst) fun v σ H Q ⟨O, env, G, d, env', rl, r, e, k⟩ => by
    unfold gT at e
    split at e
    · split at e
      · rename_i hl
        cases r with
        | @tup a xs _ h1 h2 => exact ⟨a, xs, rfl, same_sqt rl.gh h1, by rw [h2.length]; exact hl, O, env, G, _, env', rl, h2, e, k⟩
      · cases e
    · cases e
end

/-! ### comprehensions -/
def wipeE (env : Env) : List Nat → Env
  | [] => env
  | v :: vs => (wipeE env vs).set v none
theorem wipeE_length (env : Env) : ∀ vs : List Nat, (wipeE env vs).length = env.length
  | [] => rfl
  | v :: vs => by unfold wipeE; rw [List.length_set, wipeE_length env vs]
theorem wipeE_get {env : Env} {i : Nat} {x : Bool × D} : ∀ {vs : List Nat}, (wipeE env vs)[i]? = some (some x) → env[i]? = some (some x) ∧ i ∉ vs
  | [], h => ⟨h, by simp⟩
  | v :: vs, h => by
    unfold wipeE at h
    by_cases hi : v = i
    · subst hi
      by_cases hv : v < (wipeE env vs).length
      · rw [List.getElem?_set_self hv] at h; cases h
      · rw [List.getElem?_eq_none (by simpa using hv)] at h; cases h
    · rw [List.getElem?_set_ne hi] at h
      obtain ⟨h1, h2⟩ := wipeE_get h
      exact ⟨h1, by simp only [List.mem_cons, not_or]; exact ⟨fun e => hi e.symm, h2⟩⟩
theorem wipe_get {σ : L2.St} {i : Nat} : ∀ {vs : List Nat}, i ∉ vs → (wipe σ vs)[i]? = σ[i]?
  | [], _ => rfl
  | v :: vs, h => by
    unfold wipe
    rw [List.getElem?_set_ne (fun z => h (by simp [z])), wipe_get fun z => h (List.mem_cons_of_mem _ z)]
theorem wipe_mem {σ : L2.St} {i : Nat} : ∀ {vs : List Nat}, i ∈ vs → (wipe σ vs)[i]? = if i < σ.length then some none else none
  | [], h => by cases h
  | v :: vs, h => by
    unfold wipe
    by_cases hi : v = i
    · subst hi
      by_cases hv : v < σ.length
      · rw [List.getElem?_set_self (by rw [wipe_length]; exact hv), if_pos hv]
      · rw [List.getElem?_eq_none (by rw [List.length_set, wipe_length]; omega), if_neg hv]
    · rw [List.getElem?_set_ne hi]
      exact wipe_mem ((List.mem_cons.mp h).resolve_left (Ne.symm hi))
theorem wipe_wipe {σ : L2.St} {vs : List Nat} : wipe (wipe σ vs) vs = wipe σ vs := by
  apply List.ext_getElem?
  intro i
  by_cases h : i ∈ vs
  · rw [wipe_mem h, wipe_mem h, wipe_length]
  · rw [wipe_get h]
section
variable {K : PySem.W.Frag} {O : Addr → Prop} {env : Env} {σ : L2.St} {G H : Hp}
theorem Rl.wiped (r : Rl K O env σ G H) (vs : List Nat) : Rl K O (wipeE env vs) (wipe σ vs) G H where
  gh := r.gh
  len := by rw [wipeE_length, wipe_length]; exact r.len
  fr := fun i d h => let ⟨h1, h2⟩ := wipeE_get h; let ⟨v, q1, q2⟩ := r.fr i d h1; ⟨v, by rw [wipe_get h2]; exact q1, q2⟩
  ow := fun i d h => let ⟨h1, h2⟩ := wipeE_get h; let ⟨a, q1, q2⟩ := r.ow i d h1; ⟨a, by rw [wipe_get h2]; exact q1, q2⟩
  dj := fun i j d e a h1 h2 h3 h4 => by
    obtain ⟨a1, a2⟩ := wipeE_get h1
    obtain ⟨b1, b2⟩ := wipeE_get h2
    rw [wipe_get a2] at h3
    rw [wipe_get b2] at h4
    exact r.dj i j d e a a1 b1 h3 h4
/-- an object that neither the frozen part nor a slot knows is changed -/
theorem Rl.other (r : Rl K O env σ G H) {L : Addr} {o : HO} (hG : G L = none) (hd : ∀ a : Addr, (∃ (i : Nat) (d : Sh.D), env[i]? = some (some (true, d)) ∧ σ[i]? = some (some (V.ref a))) → a ≠ L) : Rl K O env σ G (upd H L o) where
  gh := fun a u q => by rw [upd_ne (fun z => by rw [z, hG] at q; cases q)]; exact r.gh a u q
  len := r.len
  fr := r.fr
  ow := fun i d h => by
    obtain ⟨a, q1, q2, q3, q4⟩ := r.ow i d h
    refine ⟨a, q1, q2, q3, ?_⟩
    have ne := hd a ⟨i, d, h, q1⟩
    cases d with
    | lst ds => obtain ⟨xs, z1, z2⟩ := q4; exact ⟨xs, by rw [upd_ne ne]; exact z1, z2⟩
    | dct kvs => obtain ⟨xs, z1, z2⟩ := q4; exact ⟨xs, by rw [upd_ne ne]; exact z1, z2⟩
    | _ => exact q4
  dj := r.dj
end
abbrev CondX := Tx
def tTs (K : PySem.W.Frag) (m : Tx) : TT := tT K m
def OkTs (X : Cx) (ifs : List Expr) (m : Tx) : Prop := PTs X ifs (tT X.K m)
def bYes : Tx := fun _ => some true
theorem ok_tsNil {X : Cx} : OkTs X [] bYes := ⟨fun pins s σ H Q I ⟨O, env, G, b, rl, e, k⟩ => by
  cases e
  exact pts_nil.run pins s σ H Q I (k G H (Gr.refl rl.gh))⟩
theorem ok_tsOne {X : Cx} {c : Expr} {m : Tx} (h : OkT X c m) : OkTs X [c] m := pts_one h
/-- one turn each -/
def compGo (tgt : Gx) (cond : Tx) (el : Ex) (env0 : Env) : List D → List D → Option (List D)
  | [], acc => some acc
  | d :: ds, acc => (tgt d env0).bind fun env1 => (cond env1).bind fun c => if c then (el env1).bind fun y => compGo tgt cond el env0 ds (acc ++ [y]) else compGo tgt cond el env0 ds acc
def eComp (src : Ax) (vs : List Nat) (tgt : Gx) (cond : Tx) (el : Ex) : Ex := fun env => (src env).bind fun ds => if ds.length ≤ 1000000 then (compGo tgt cond el (wipeE env vs) ds []).map .lst else none
section
variable {K : PySem.W.Frag}
theorem stepComp {src : Ax} {vs : List Nat} {tgt : Gx} {cond : Tx} {el : Ex} {σ : L2.St} {H : Hp} {Q : VK} (h : tE K (eComp src vs tgt cond el) σ H Q) : tLc (tI K src) (tG K vs tgt) (tT K cond) (tE K el) vs σ H Q := by
  obtain ⟨O, env, G, d, rl, e, k⟩ := h
  obtain ⟨ds, e1, e2⟩ := Option.bind_eq_some_iff.mp e
  split at e2
  case isFalse => cases e2
  rename_i hlen
  obtain ⟨out, e3, e4⟩ := Option.map_eq_some_iff.mp e2
  subst e4
  refine ⟨O, env, G, ds, rl, e1, fun J G1 H1 g1 wk L hD => ?_⟩
  have rl0 := (rl.grow g1).wiped vs
  -- the invariant: behind i items the list at L stands for acc, and the rest of the items gives out
  refine ⟨fun i m H' => m = ds.length - i ∧ i ≤ ds.length ∧ ∃ (G' : Hp) (acc : List D) (ys : List V), Gr G1 H1 G' H' ∧ G' L = none ∧ H' L = some (.lst ys) ∧ Rps K G' ys acc ∧ acc.length ≤ i ∧ compGo tgt cond el (wipeE env vs) (ds.drop i) acc = some out,
    ⟨ds.length, by simp, Nat.zero_le _, G1, [], [], ?_, ?_, upd_same, .nil, Nat.le_refl _, by simpa using e3⟩, ?_⟩
  · refine ⟨fun a u q => by rw [upd_ne (ne_of_none q hD)]; exact q, Same.refl _, fun a u q => by rw [upd_ne (ne_of_none (g1.gh a u q) hD)]; exact g1.gh a u q, fun _ _ q => .inl q⟩
  · cases q : G1 L with
    | none => rfl
    | some o => rw [g1.gh _ _ q] at hD; cases hD
  rintro i m H' ⟨rfl, hi, G', acc, ys, g, hG, hH, ra, hal, hgo⟩
  obtain ⟨wstop, wgo⟩ := wk i G' H' g.g g.gh
  by_cases hlt : i < ds.length
  · have hd : ds[i]? = some ds[i] := by simp [hlt]
    obtain ⟨go, yl⟩ := wgo _ hd
    refine .inr ⟨go, fun H2 => i + 1 ≤ ds.length ∧ ∃ (G' : Hp) (acc : List D) (ys : List V), Gr G1 H1 G' H2 ∧ G' L = none ∧ H2 L = some (.lst ys) ∧ Rps K G' ys acc ∧ acc.length ≤ i + 1 ∧ compGo tgt cond el (wipeE env vs) (ds.drop (i + 1)) acc = some out,
      fun H2 ⟨p1, p2⟩ => ⟨ds.length - (i + 1), by omega, rfl, p1, p2⟩, fun x H2 hy => ?_⟩
    obtain ⟨G2, g2, r2⟩ := yl x H2 hy
    rw [List.drop_eq_getElem_cons hlt] at hgo
    obtain ⟨env1, t1, hgo⟩ := Option.bind_eq_some_iff.mp (show ((tgt ds[i] (wipeE env vs)).bind fun env1 => (cond env1).bind fun c => if c then (el env1).bind fun y => compGo tgt cond el (wipeE env vs) (ds.drop (i + 1)) (acc ++ [y]) else compGo tgt cond el (wipeE env vs) (ds.drop (i + 1)) acc) = some out from hgo)
    obtain ⟨c, t2, hgo⟩ := Option.bind_eq_some_iff.mp hgo
    have gD : ∀ {Ga Ha Gb Hb : Hp}, Gr Ga Ha Gb Hb → Ga L = none → (∃ u, Ha L = some u) → Gb L = none := by
      intro Ga Ha Gb Hb gg h1 ⟨u, h2⟩
      cases q : Gb L with
      | none => rfl
      | some o =>
        rcases gg.nw L o q with z | z
        · rw [h1] at z; cases z
        · rw [h2] at z; cases z
    have hG2 := gD g2 hG ⟨_, hH⟩
    have hH2 := g2.h _ _ hH
    have rl2 : Rl K O (wipeE env vs) (wipe σ vs) G2 H2 := rl0.grow (g.trans g2)
    refine ⟨O, _, G2, _, env1, rl2, r2, t1, fun σ2 rl3 w3 => ⟨?_, O, env1, G2, c, rl3, t2, fun G3 H3 g3 => ?_⟩⟩
    · rw [wipe_wipe] at w3; exact w3
    · have hG3 := gD g3 hG2 ⟨_, hH2⟩
      have hH3 := g3.h _ _ hH2
      cases c with
      | true =>
        obtain ⟨y, t3, hgo⟩ := Option.bind_eq_some_iff.mp (show (el env1).bind (fun y => compGo tgt cond el (wipeE env vs) (ds.drop (i + 1)) (acc ++ [y])) = some out from hgo)
        refine ⟨O, env1, G3, y, rl3.grow g3, t3, fun v G4 H4 g4 r4 => ?_⟩
        have hG4 := gD g4 hG3 ⟨_, hH3⟩
        have hH4 := g4.h _ _ hH3
        have ra4 := ((ra.mono g2.g _ _).mono g3.g _ _).mono g4.g _ _
        refine ⟨ys, hH4, by rw [ra.length]; exact Nat.lt_of_le_of_lt hal (Nat.lt_of_lt_of_le hlt (Nat.le_trans hlen (by decide))), hlt, G4, acc ++ [y], ys ++ [v], ?_, hG4, upd_same, ra4.snoc r4, by simp; omega, hgo⟩
        have gg := ((g.trans g2).trans g3).trans g4
        exact ⟨fun a u q => by rw [upd_ne (ne_of_none q hD)]; exact gg.h a u q, gg.g, fun a u q => by rw [upd_ne (fun z => by rw [z, hG4] at q; cases q)]; exact gg.gh a u q, gg.nw⟩
      | false =>
        exact ⟨hlt, G3, acc, ys, (g.trans g2).trans g3, hG3, hH3, (ra.mono g2.g _ _).mono g3.g _ _, by omega, hgo⟩
  · have hie : i = ds.length := by omega
    refine .inl ⟨wstop (by omega), ?_⟩
    rw [List.drop_eq_nil_of_le (by omega)] at hgo
    cases hgo
    -- the list is frozen
    have g3 : Gr G1 H1 (upd G' L (.lst ys)) H' := by
      refine ⟨g.h, fun a u q => ?_, fun a u q => ?_, fun a u q => ?_⟩
      · have z := g.g a u q
        rw [upd_ne (fun w => by rw [w, hG] at z; cases z)]
        exact z
      · by_cases ha : a = L
        · subst ha; rw [upd_same] at q; cases q; exact hH
        · rw [upd_ne ha] at q; exact g.gh a u q
      · by_cases ha : a = L
        · subst ha; exact .inr hD
        · rw [upd_ne ha] at q; exact g.nw a u q
    have eG : Same G' (upd G' L (.lst ys)) := fun a u q => by rw [upd_ne (fun w => by rw [w, hG] at q; cases q)]; exact q
    exact k _ _ _ (g1.trans g3) (.lst upd_same (ra.mono eG _ _))
end
section
variable {X : Cx}
theorem ok_comp {elt tg iter : Expr} {ifs : List Expr} {scope : Scope} {own : List (Str × Nat)} {pos : Pos} {src : Ax} {tgt : Gx} {cond : Tx} {el : Ex} (hc : X.calm = true) (hN : X.N.Nodup) (hi : OkI X tg iter src) (ok : blkC X.N X.env.scope scope own = true)
    (hg : ∀ (s : Shared) (H : Hp) (C : Addr) (cl : List (Str × Addr)) (fp : List Addr), OkG (X.blk s H scope (compEnvC scope cl C X.env) fp) (own.map (·.2)) tg tgt) (ht : ∀ (s : Shared) (H : Hp) (C : Addr) (cl : List (Str × Addr)) (fp : List Addr), OkTs (X.blk s H scope (compEnvC scope cl C X.env) fp) ifs cond)
    (he : ∀ (s : Shared) (H : Hp) (C : Addr) (cl : List (Str × Addr)) (fp : List Addr), OkE (X.blk s H scope (compEnvC scope cl C X.env) fp) elt el) (hs : ∀ x, foldedSetIterable iter X.env x = pure x := by intro _; rfl) :
    OkE X (.ListComp elt [⟨tg, iter, ifs, 0⟩] scope pos) (eComp src (own.map (·.2)) tgt cond el) :=
  weakE (pe_lc (wi := tI X.K src) (own := own) (g := tG X.K (own.map (fun p : Str × Nat => p.2)) tgt) (tt := tT X.K cond) (te := tE X.K el) hc hN hi (blkOk_by ok) hg ht he hs) fun σ H Q h => stepComp h
end
end Sh
end Part_ShD

section Part_ShE
set_option maxRecDepth 100000
set_option maxHeartbeats 2000000
/-! ShE: statements, defs. -/
namespace Sh
open PySem L2

inductive Res where
  | nx (env : Env) | rt (d : D) | bk (env : Env) | ct (env : Env)
abbrev Sx := Env → Option Res

/-- at a statement: H0, G0 the heaps at the def's entry -/
structure Rs (K : PySem.W.Frag) (H0 G0 : Hp) (env : Env) (σ : L2.St) (G H : Hp) : Prop where
  rl : Rl K (fun a => H0 a = none) env σ G H
  g0 : Gr G0 H0 G H
def tS (K : PySem.W.Frag) (m : Sx) : TS := fun E σ H => ∃ (H0 G0 : Hp) (env : Env) (G : Hp) (r : Res), Rs K H0 G0 env σ G H ∧ m env = some r ∧
  match r with
  | .nx env' => ∀ σ' G' H', Rs K H0 G0 env' σ' G' H' → Same G G' → E.nx σ' H'
  | .rt d => ∀ v G' H', Gr G0 H0 G' H' → Rp K G' v d → E.rt v H'
  | .bk env' => ∀ σ' G' H', Rs K H0 G0 env' σ' G' H' → Same G G' → E.bk σ' H'
  | .ct env' => ∀ σ' G' H', Rs K H0 G0 env' σ' G' H' → Same G G' → E.ct σ' H'
def OkS (X : Cx) (st : Stmt) (m : Sx) : Prop := PS X st (tS X.K m)
def OkB (X : Cx) (sts : List Stmt) (m : Sx) : Prop := PSs X sts (tS X.K m)
section
variable {X : Cx} {st : Stmt} {sts : List Stmt}
theorem weakS {t t' : TS} (h : PS X st t) (w : ∀ E σ H, t' E σ H → t E σ H) : PS X st t' := ⟨fun pins s σ H E I q => h.run pins s σ H E I (w _ _ _ q)⟩
theorem weakB {t t' : TS} (h : PSs X sts t) (w : ∀ E σ H, t' E σ H → t E σ H) : PSs X sts t' := ⟨fun pins s σ H E I q => h.run pins s σ H E I (w _ _ _ q)⟩
end
section
variable {K : PySem.W.Frag} {H0 G0 G H G' H' : Hp} {env : Env} {σ : L2.St}
theorem Rs.grow (r : Rs K H0 G0 env σ G H) (g : Gr G H G' H') : Rs K H0 G0 env σ G' H' := ⟨r.rl.grow g, r.g0.trans g⟩
theorem Rs.put (r : Rs K H0 G0 env σ G H) {i : Nat} {v : V} {d : D} (hi : i < env.length) (q : Rp K G v d) : Rs K H0 G0 (env.set i (some (false, d))) (σ.set i (some v)) G H := ⟨r.rl.put hi q, r.g0⟩
/-- a fresh object is stored -/
theorem Rl.putO {O : Addr → Prop} (r : Rl K O env σ G H) {i : Nat} {p : Addr} {d : D} (hi : i < env.length) (hG : G p = none) (hO : O p) (ho : Own K G H p d)
    (hn : ∀ (j : Nat) (e : D), env[j]? = some (some (true, e)) → σ[j]? ≠ some (some (V.ref p))) : Rl K O (env.set i (some (true, d))) (σ.set i (some (.ref p))) G H where
  gh := r.gh
  len := by simpa using r.len
  fr := fun j e h => by
    have hj : i ≠ j := fun z => by subst z; rw [List.getElem?_set_self hi] at h; cases h
    rw [List.getElem?_set_ne hj] at h
    rw [List.getElem?_set_ne hj]
    exact r.fr j e h
  ow := fun j e h => by
    by_cases hj : i = j
    · subst hj
      rw [List.getElem?_set_self hi] at h
      cases h
      exact ⟨p, List.getElem?_set_self (by rw [← r.len]; exact hi), hG, hO, ho⟩
    · rw [List.getElem?_set_ne hj] at h
      rw [List.getElem?_set_ne hj]
      exact r.ow j e h
  dj := fun j k d1 d2 a h1 h2 h3 h4 => by
    by_cases hj : i = j
    · by_cases hk : i = k
      · exact hj.symm.trans hk
      · subst hj
        rw [List.getElem?_set_self (by rw [← r.len]; exact hi)] at h3
        cases h3
        rw [List.getElem?_set_ne hk] at h2 h4
        exact absurd h4 (hn k d2 h2)
    · by_cases hk : i = k
      · subst hk
        rw [List.getElem?_set_self (by rw [← r.len]; exact hi)] at h4
        cases h4
        rw [List.getElem?_set_ne hj] at h1 h3
        exact absurd h3 (hn j d1 h1)
      · rw [List.getElem?_set_ne hj] at h1 h3
        rw [List.getElem?_set_ne hk] at h2 h4
        exact r.dj j k d1 d2 a h1 h2 h3 h4
/-- an owned object is changed -/
theorem Rs.write (r : Rs K H0 G0 env σ G H) {i : Nat} {a : Addr} {d d' : D} {o : HO} (he : env[i]? = some (some (true, d))) (hs : σ[i]? = some (some (V.ref a))) (ho : Own K G (upd H a o) a d') : Rs K H0 G0 (env.set i (some (true, d'))) σ G (upd H a o) := by
  obtain ⟨a', q1, q2, q3, q4⟩ := r.rl.ow i d he
  rw [hs] at q1; cases q1
  have hi : i < env.length := (List.getElem?_eq_some_iff.mp he).1
  refine ⟨⟨fun b u q => ?_, by simpa using r.rl.len, fun j e h => ?_, fun j e h => ?_, fun j k d1 d2 b h1 h2 h3 h4 => ?_⟩, ⟨fun b u q => ?_, r.g0.g, fun b u q => ?_, r.g0.nw⟩⟩
  · rw [upd_ne (fun z => by rw [z, q2] at q; cases q)]
    exact r.rl.gh b u q
  · have hj : i ≠ j := fun z => by subst z; rw [List.getElem?_set_self hi] at h; cases h
    rw [List.getElem?_set_ne hj] at h
    exact r.rl.fr j e h
  · by_cases hj : i = j
    · subst hj
      rw [List.getElem?_set_self hi] at h
      cases h
      exact ⟨a, hs, q2, q3, ho⟩
    · rw [List.getElem?_set_ne hj] at h
      obtain ⟨b, z1, z2, z3, z4⟩ := r.rl.ow j e h
      refine ⟨b, z1, z2, z3, ?_⟩
      have ne : b ≠ a := fun z => hj (r.rl.dj i j d e a he h hs (by rw [← z]; exact z1))
      cases e with
      | lst ds => obtain ⟨xs, w1, w2⟩ := z4; exact ⟨xs, by rw [upd_ne ne]; exact w1, w2⟩
      | dct kvs => obtain ⟨xs, w1, w2⟩ := z4; exact ⟨xs, by rw [upd_ne ne]; exact w1, w2⟩
      | _ => exact z4.elim
  · have f : ∀ (n : Nat) (c : D), (env.set i (some (true, d')))[n]? = some (some (true, c)) → ∃ c', env[n]? = some (some (true, c')) := fun n c h => by
      by_cases hn : i = n
      · subst hn; exact ⟨d, he⟩
      · rw [List.getElem?_set_ne hn] at h; exact ⟨c, h⟩
    obtain ⟨c1, f1⟩ := f j d1 h1
    obtain ⟨c2, f2⟩ := f k d2 h2
    exact r.rl.dj j k c1 c2 b f1 f2 h3 h4
  · rw [upd_ne (fun z => by rw [z, q3] at q; cases q)]
    exact r.g0.h b u q
  · rw [upd_ne (fun z => by rw [z, q2] at q; cases q)]
    exact r.rl.gh b u q
/-- an owned object is frozen -/
def frz (i : Nat) (env : Env) : Env := match env[i]? with
  | some (some (true, .lst ds)) => env.set i (some (false, .lst ds))
  | _ => env
theorem Rs.frozen (r : Rs K H0 G0 env σ G H) (i : Nat) : ∃ G', Same G G' ∧ Rs K H0 G0 (frz i env) σ G' H := by
  unfold frz
  split
  · rename_i ds he
    obtain ⟨a, q1, q2, q3, q4⟩ := r.rl.ow i _ he
    have hi : i < env.length := (List.getElem?_eq_some_iff.mp he).1
    ·
      obtain ⟨xs, w1, w2⟩ := q4
      have eG : Same G (upd G a (.lst xs)) := fun b u q => by rw [upd_ne (fun z => by rw [z, q2] at q; cases q)]; exact q
      have ne : ∀ {j : Nat} {e : D} {b : Addr}, i ≠ j → env[j]? = some (some (true, e)) → σ[j]? = some (some (V.ref b)) → b ≠ a := fun {j e b} hj h1 h2 z => hj (r.rl.dj i j _ e a he h1 q1 (by rw [← z]; exact h2))
      refine ⟨_, eG, ⟨⟨fun b u q => ?_, by simpa using r.rl.len, fun j e h => ?_, fun j e h => ?_, fun j k d1 d2 b h1 h2 h3 h4 => ?_⟩, ⟨r.g0.h, fun b u q => eG _ _ (r.g0.g b u q), fun b u q => ?_, fun b u q => ?_⟩⟩⟩
      · by_cases hb : b = a
        · subst hb; rw [upd_same] at q; cases q; exact w1
        · rw [upd_ne hb] at q; exact r.rl.gh b u q
      · by_cases hj : i = j
        · subst hj
          rw [List.getElem?_set_self hi] at h
          cases h
          exact ⟨_, q1, .lst upd_same (w2.mono eG _ _)⟩
        · rw [List.getElem?_set_ne hj] at h
          obtain ⟨v, z1, z2⟩ := r.rl.fr j e h
          exact ⟨v, z1, z2.mono eG _ _⟩
      · have hj : i ≠ j := fun z => by subst z; rw [List.getElem?_set_self hi] at h; cases h
        rw [List.getElem?_set_ne hj] at h
        obtain ⟨b, z1, z2, z3, z4⟩ := r.rl.ow j e h
        refine ⟨b, z1, by rw [upd_ne (ne hj h z1)]; exact z2, z3, ?_⟩
        cases e with
        | lst es => obtain ⟨ys, y1, y2⟩ := z4; exact ⟨ys, y1, y2.mono eG _ _⟩
        | dct es => obtain ⟨ys, y1, y2⟩ := z4; exact ⟨ys, y1, y2.mono eG⟩
        | _ => exact z4.elim
      · have hj : i ≠ j := fun z => by subst z; rw [List.getElem?_set_self hi] at h1; cases h1
        have hk : i ≠ k := fun z => by subst z; rw [List.getElem?_set_self hi] at h2; cases h2
        rw [List.getElem?_set_ne hj] at h1
        rw [List.getElem?_set_ne hk] at h2
        exact r.rl.dj j k d1 d2 b h1 h2 h3 h4
      · by_cases hb : b = a
        · subst hb; rw [upd_same] at q; cases q; exact w1
        · rw [upd_ne hb] at q; exact r.rl.gh b u q
      · by_cases hb : b = a
        · subst hb; exact .inr q3
        · rw [upd_ne hb] at q; exact r.g0.nw b u q
  · exact ⟨G, Same.refl G, r⟩
end

/-! ### blocks -/
def sNil : Sx := fun env => some (.nx env)
def sSeq (a b : Sx) : Sx := fun env => match a env with
  | some (.nx e) => b e
  | r => r
def sFrz (i : Nat) (m : Sx) : Sx := fun env => m (frz i env)
def sIf (c : Tx) (a b : Sx) : Sx := fun env => (c env).bind fun k => if k then a env else b env
def sRet (m : Ex) : Sx := fun env => (m env).map .rt
def sBrk : Sx := fun env => some (.bk env)
def sCnt : Sx := fun env => some (.ct env)
def sDrop (m : Ex) : Sx := fun env => (m env).map fun _ => .nx env
section
variable {X : Cx} {st : Stmt} {sts : List Stmt} {a b : Sx} {pos : Pos}
theorem ok_bNil : OkB X [] sNil := weakB pss_nil fun E σ H ⟨H0, G0, env, G, r, rs, e, k⟩ => by cases e; exact k σ G H rs (Same.refl G)
theorem stepSeq {K : PySem.W.Frag} {E : Ends} {σ : L2.St} {H : Hp} (h : tS K (sSeq a b) E σ H) : tSeq (tS K a) (tS K b) E σ H := by
  obtain ⟨H0, G0, env, G, r, rs, e, k⟩ := h
  cases ha : a env with
  | none => unfold sSeq at e; rw [ha] at e; cases e
  | some ra =>
    refine ⟨H0, G0, env, G, ra, rs, ha, ?_⟩
    unfold sSeq at e
    rw [ha] at e
    cases ra with
    | nx e1 =>
      intro σ1 G1 H1 rs1 s1
      refine ⟨H0, G0, e1, G1, r, rs1, e, ?_⟩
      cases r with
      | nx e2 => intro σ2 G2 H2 rs2 s2; exact k σ2 G2 H2 rs2 (s1.trans s2)
      | rt d => exact k
      | bk e2 => intro σ2 G2 H2 rs2 s2; exact k σ2 G2 H2 rs2 (s1.trans s2)
      | ct e2 => intro σ2 G2 H2 rs2 s2; exact k σ2 G2 H2 rs2 (s1.trans s2)
    | rt d => cases e; exact k
    | bk e1 => cases e; exact k
    | ct e1 => cases e; exact k
theorem ok_bCons (h1 : OkS X st a) (h2 : OkB X sts b) : OkB X (st :: sts) (sSeq a b) := weakB (pss_cons h1 h2) fun E σ H h => stepSeq h
theorem ok_bOne (h1 : OkS X st a) : OkB X [st] a := pss_one h1
theorem ok_bFrz (i : Nat) (h : OkB X sts a) : OkB X sts (sFrz i a) := weakB h fun E σ H ⟨H0, G0, env, G, r, rs, e, k⟩ => by
  obtain ⟨G', eG, rs'⟩ := rs.frozen i
  refine ⟨H0, G0, _, G', r, rs', e, ?_⟩
  cases r with
  | nx e2 => intro σ2 G2 H2 rs2 s2; exact k σ2 G2 H2 rs2 (eG.trans s2)
  | rt d => exact k
  | bk e2 => intro σ2 G2 H2 rs2 s2; exact k σ2 G2 H2 rs2 (eG.trans s2)
  | ct e2 => intro σ2 G2 H2 rs2 s2; exact k σ2 G2 H2 rs2 (eG.trans s2)
theorem ok_sFrz (i : Nat) (h : OkS X st a) : OkS X st (sFrz i a) := weakS h fun E σ H ⟨H0, G0, env, G, r, rs, e, k⟩ => by
  obtain ⟨G', eG, rs'⟩ := rs.frozen i
  refine ⟨H0, G0, _, G', r, rs', e, ?_⟩
  cases r with
  | nx e2 => intro σ2 G2 H2 rs2 s2; exact k σ2 G2 H2 rs2 (eG.trans s2)
  | rt d => exact k
  | bk e2 => intro σ2 G2 H2 rs2 s2; exact k σ2 G2 H2 rs2 (eG.trans s2)
  | ct e2 => intro σ2 G2 H2 rs2 s2; exact k σ2 G2 H2 rs2 (eG.trans s2)
/-- what an expression asks at a statement -/
theorem atE {K : PySem.W.Frag} {H0 G0 G H : Hp} {env : Env} {σ : L2.St} {m : Ex} {d : D} {Q : VK} (rs : Rs K H0 G0 env σ G H) (e : m env = some d) (k : ∀ v G' H', Rs K H0 G0 env σ G' H' → Same G G' → Gr G0 H0 G' H' → Rp K G' v d → Q v H') : tE K m σ H Q :=
  ⟨_, env, G, d, rs.rl, e, fun v G' H' g r => k v G' H' (rs.grow g) g.g (rs.g0.trans g) r⟩
theorem ok_ret {e : Expr} {m : Ex} (h : OkE X e m) : OkS X (.Return (some e) pos) (sRet m) := weakS (ps_ret h) fun E σ H ⟨H0, G0, env, G, r, rs, e, k⟩ => by
  obtain ⟨d, e1, rfl⟩ := Option.map_eq_some_iff.mp e
  exact atE rs e1 fun v G' H' _ _ g r => k v G' H' g r
theorem ok_if {c : Expr} {s1 s2 : List Stmt} {tc : Tx} (hc : OkT X c tc) (h1 : OkB X s1 a) (h2 : OkB X s2 b) : OkS X (.If c s1 s2 pos) (sIf tc a b) := weakS (ps_if hc h1 h2) fun E σ H ⟨H0, G0, env, G, r, rs, e, k⟩ => by
  obtain ⟨x, e1, e2⟩ := Option.bind_eq_some_iff.mp e
  refine ⟨_, env, G, x, rs.rl, e1, fun G' H' g => ?_⟩
  have fin : ∀ {m : Sx}, m env = some r → tS X.K m E σ H' := fun {m} em => by
    refine ⟨H0, G0, env, G', r, rs.grow g, em, ?_⟩
    cases r with
    | nx e2 => intro σ2 G2 H2 rs2 s2; exact k σ2 G2 H2 rs2 (g.g.trans s2)
    | rt d => exact k
    | bk e2 => intro σ2 G2 H2 rs2 s2; exact k σ2 G2 H2 rs2 (g.g.trans s2)
    | ct e2 => intro σ2 G2 H2 rs2 s2; exact k σ2 G2 H2 rs2 (g.g.trans s2)
  cases x with
  | true => exact fin e2
  | false => exact fin e2
theorem ok_pass : OkS X (.Pass pos) sNil := weakS ps_pass fun E σ H ⟨H0, G0, env, G, r, rs, e, k⟩ => by cases e; exact k σ G H rs (Same.refl G)
theorem ok_brk : OkS X (.Break pos) sBrk := weakS ps_break fun E σ H ⟨H0, G0, env, G, r, rs, e, k⟩ => by cases e; exact k σ G H rs (Same.refl G)
theorem ok_cnt : OkS X (.Continue pos) sCnt := weakS ps_continue fun E σ H ⟨H0, G0, env, G, r, rs, e, k⟩ => by cases e; exact k σ G H rs (Same.refl G)
end

/-! ### stores -/
/-- a value that may be fresh: (true, its data) if nobody else knows it -/
abbrev Fx := Env → Option (Bool × D)
def Fp (K : PySem.W.Frag) (G' H' H : Hp) (v : V) : Bool × D → Prop
  | (false, d) => Rp K G' v d
  | (true, d) => ∃ p, v = .ref p ∧ H p = none ∧ G' p = none ∧ Own K G' H' p d
def tF (K : PySem.W.Frag) (m : Fx) : TE := fun σ H Q => ∃ (O : Addr → Prop) (env : Env) (G : Hp) (f : Bool × D), Rl K O env σ G H ∧ m env = some f ∧ ∀ v G' H', Gr G H G' H' → Fp K G' H' H v f → Q v H'
def OkF (X : Cx) (e : Expr) (m : Fx) : Prop := PE X e (tF X.K m)
def fPl (m : Ex) : Fx := fun env => (m env).map fun d => (false, d)
def fLst (m : Ax) : Fx := fun env => (m env).bind fun ds => if ds.length ≤ 1000000 then some (true, .lst ds) else none
def fRep (a b : Ex) : Fx := fun env => (a env).bind fun x => (b env).bind fun y => match x, y with
  | .lst c, .int k => if -1000000 ≤ k ∧ k ≤ 1000000 ∧ c.length * k.toNat ≤ 1000000 then some (true, .lst (List.replicate k.toNat c).flatten) else none
  | _, _ => none
def sSetF (i : Nat) (m : Fx) : Sx := fun env => (m env).bind fun f => if i < env.length then some (.nx (env.set i (some f))) else none
def sSet (i : Nat) (m : Ex) : Sx := fun env => (m env).bind fun d => if i < env.length then some (.nx (env.set i (some (false, d)))) else none
/-- the heap grows by an object that the frozen part does not know -/
theorem Gr.own {G H : Hp} {p : Addr} {o : HO} (e : Same G H) (n : H p = none) : Gr G H G (upd H p o) := by
  refine ⟨fun a u q => by rw [upd_ne (ne_of_none q n)]; exact q, Same.refl G, fun a u q => by rw [upd_ne (ne_of_none (e a u q) n)]; exact e a u q, fun _ _ q => .inl q⟩
theorem free_of {G H : Hp} {p : Addr} (e : Same G H) (n : H p = none) : G p = none := by
  cases q : G p with
  | none => rfl
  | some o => rw [e _ _ q] at n; cases n
section
variable {X : Cx} {e a b : Expr} {es : List Expr} {pos : Pos}
theorem OkE.f {m : Ex} (h : OkE X e m) : OkF X e (fPl m) := weakE h fun σ H Q ⟨O, env, G, f, rl, e, k⟩ => by
  obtain ⟨d, e1, rfl⟩ := Option.map_eq_some_iff.mp e
  exact ⟨O, env, G, d, rl, e1, fun v G' H' g r => k v G' H' g r⟩
theorem ok_fLst {m : Ax} (h : OkA X es m) : OkF X (.List es pos) (fLst m) := weakE (pe_lst h) fun σ H Q ⟨O, env, G, f, rl, e, k⟩ => by
  obtain ⟨ds, e1, e2⟩ := Option.bind_eq_some_iff.mp e
  split at e2
  · rename_i hl
    cases e2
    refine ⟨O, env, G, ds, rl, e1, fun vs G1 H1 g1 r1 => ⟨sz6 (by rw [r1.length]; exact hl), fun p hp => ?_⟩⟩
    exact k _ _ _ (g1.trans (Gr.own (o := .lst vs) g1.gh hp)) ⟨p, rfl, g1.h.free hp, free_of g1.gh hp, vs, upd_same, r1⟩
  · cases e2
theorem ok_fRep {ma mb : Ex} (ha : OkE X a ma) (hb : OkE X b mb) : OkF X (.BinOp a .Mult b pos) (fRep ma mb) := weakE (pe_op op_rep ha hb) fun σ H Q ⟨O, env, G, f, rl, e, k⟩ => by
  obtain ⟨x, e1, e⟩ := Option.bind_eq_some_iff.mp e
  obtain ⟨y, e2, e⟩ := Option.bind_eq_some_iff.mp e
  cases x with
  | lst c =>
    cases y with
    | int n =>
      have e : (if -1000000 ≤ n ∧ n ≤ 1000000 ∧ c.length * n.toNat ≤ 1000000 then some (true, D.lst (List.replicate n.toNat c).flatten) else none) = some f := e
      split at e
      · rename_i h
        cases e
        refine ⟨O, env, G, _, rl, e1, fun v G1 H1 g1 r1 => ⟨O, env, G1, _, rl.grow g1, e2, fun u G2 H2 g2 r2 => ?_⟩⟩
        cases r2
        have r1' := r1.mono g2.g _ _
        cases r1' with
        | @lst l xs ds h1 h2 =>
          refine ⟨l, n, xs, rfl, rfl, g2.gh _ _ h1, by omega, by omega, sz6 (by rw [h2.length]; exact h.2.2), fun p hp => ?_⟩
          have g := (g1.trans g2).trans (Gr.own (o := .lst (List.replicate n.toNat xs).flatten) g2.gh hp)
          exact k _ _ _ g ⟨p, rfl, (g1.trans g2).h.free hp, free_of g2.gh hp, _, upd_same, h2.flatRep _⟩
      · cases e
    | _ => cases e
  | _ => cases y <;> cases e
/-- what a fresh value asks at a statement: its slot may be stored -/
theorem Rs.putF {K : PySem.W.Frag} {H0 G0 G H : Hp} {env : Env} {σ : L2.St} (rs : Rs K H0 G0 env σ G H) {G' H' : Hp} (g : Gr G H G' H') {v : V} {f : Bool × D} (r : Fp K G' H' H v f) {i : Nat} (hi : i < env.length) : Rs K H0 G0 (env.set i (some f)) (σ.set i (some v)) G' H' := by
  obtain ⟨b, d⟩ := f
  cases b with
  | false => exact (rs.grow g).put hi r
  | true =>
    obtain ⟨p, rfl, hp, hG, ho⟩ := r
    refine ⟨(rs.grow g).rl.putO hi hG (rs.g0.h.free hp) ho fun j e hj hs => ?_, rs.g0.trans g⟩
    obtain ⟨a, q1, q2, q3, q4⟩ := rs.rl.ow j e hj
    rw [hs] at q1; cases q1
    obtain ⟨u, hu⟩ := q4.there
    rw [hp] at hu; cases hu
theorem ok_set (i : Nat) (hN : X.N.Nodup) {x : Str} {m : Ex} {pos' : Pos} (he : OkE X e m) (hi : X.N[i]? = some x := by rfl) (hx : Loc X.env.scope x := by first | exact Or.inl rfl | exact Or.inr rfl) (hs : swapsWith e (some (.Name x pos')) pos.line X.env = pure false := by rfl)
    (hf : X.fn x = true ∨ X.env.scope.names.lookup x = some .local := by first | exact .inl rfl | exact .inr rfl) : OkS X (.Assign [.Name x pos'] e pos) (sSet i m) :=
  weakS (ps_set hN hi hx he hs hf) fun E σ H ⟨H0, G0, env, G, r, rs, e, k⟩ => by
    obtain ⟨d, e1, e2⟩ := Option.bind_eq_some_iff.mp e
    split at e2
    · rename_i hl
      cases e2
      exact atE rs e1 fun v G' H' rs' s' _ r => k _ G' H' (rs'.put hl r) s'
    · cases e2
theorem ok_setF (i : Nat) (hN : X.N.Nodup) {x : Str} {m : Fx} {pos' : Pos} (he : OkF X e m) (hi : X.N[i]? = some x := by rfl) (hx : Loc X.env.scope x := by first | exact Or.inl rfl | exact Or.inr rfl) (hs : swapsWith e (some (.Name x pos')) pos.line X.env = pure false := by rfl)
    (hf : X.fn x = true ∨ X.env.scope.names.lookup x = some .local := by first | exact .inl rfl | exact .inr rfl) : OkS X (.Assign [.Name x pos'] e pos) (sSetF i m) :=
  weakS (ps_set hN hi hx he hs hf) fun E σ H ⟨H0, G0, env, G, r, rs, e, k⟩ => by
    obtain ⟨f, e1, e2⟩ := Option.bind_eq_some_iff.mp e
    split at e2
    · rename_i hl
      cases e2
      exact ⟨_, env, G, f, rs.rl, e1, fun v G' H' g r => k _ G' H' (rs.putF g r hl) g.g⟩
    · cases e2
theorem ok_setLc (i : Nat) {y : Str} {py : Pos} {elt tg iter : Expr} {ifs : List Expr} {scope : Scope} {own : List (Str × Nat)} {pos spos : Pos} {src : Ax} {tgt : Gx} {cond : Tx} {el : Ex} (hc : X.calm = true) (hN : X.N.Nodup) (hi : OkI X tg iter src) (ok : blkC X.N X.env.scope scope own = true)
    (hg : ∀ (s : Shared) (H : Hp) (C : Addr) (cl : List (Str × Addr)) (fp : List Addr), OkG (X.blk s H scope (compEnvC scope cl C X.env) fp) (own.map (·.2)) tg tgt) (ht : ∀ (s : Shared) (H : Hp) (C : Addr) (cl : List (Str × Addr)) (fp : List Addr), OkTs (X.blk s H scope (compEnvC scope cl C X.env) fp) ifs cond)
    (he : ∀ (s : Shared) (H : Hp) (C : Addr) (cl : List (Str × Addr)) (fp : List Addr), OkE (X.blk s H scope (compEnvC scope cl C X.env) fp) elt el) (hsw : swapsWith (.ListComp elt [⟨tg, iter, ifs, 0⟩] scope pos) (some (.Name y py)) spos.line X.env = pure true := by exact sw_true rfl rfl rfl (by decide +kernel))
    (hy : X.N[i]? = some y := by rfl) (hyl : X.env.scope.names.lookup y = some .local := by rfl) (hs : ∀ x, foldedSetIterable iter X.env x = pure x := by intro _; rfl) :
    OkS X (.Assign [.Name y py] (.ListComp elt [⟨tg, iter, ifs, 0⟩] scope pos) spos) (sSet i (eComp src (own.map (·.2)) tgt cond el)) :=
  weakS (ps_setLc (wi := tI X.K src) (own := own) (g := tG X.K (own.map (fun p : Str × Nat => p.2)) tgt) (tt := tT X.K cond) (te := tE X.K el) hc hN hy hyl hsw hi (blkOk_by ok) hg ht he hs) fun E σ H ⟨H0, G0, env, G, r, rs, e, k⟩ => by
    obtain ⟨d, e1, e2⟩ := Option.bind_eq_some_iff.mp e
    split at e2
    · rename_i hl
      cases e2
      exact stepComp (atE rs e1 fun v G' H' rs' s' _ r => k _ G' H' (rs'.put hl r) s')
    · cases e2
/-- (a, b, ..) = e -/
def sAsg (m : Ex) (t : Gx) : Sx := fun env => (m env).bind fun d => (t d env).map .nx
theorem ok_asg {tg : Expr} {m : Ex} {t : Gx} {vs : List Nat} (he : OkE X e m) (hg : OkG X vs tg t) (hs : swapsWithSole [tg] e pos.line X.env = pure false := by rfl) (hw : swappedStores [tg] e X.env = pure none := by rfl) (h1 : (assignEach [tg] X.env).map (·.2) = [assign tg X.env] := by rfl) :
    OkS X (.Assign [tg] e pos) (sAsg m t) := weakS (ps_asg he hg hs hw h1) fun E σ H ⟨H0, G0, env, G, r, rs, e, k⟩ => by
  obtain ⟨d, e1, e2⟩ := Option.bind_eq_some_iff.mp e
  obtain ⟨env', e3, rfl⟩ := Option.map_eq_some_iff.mp e2
  exact atE rs e1 fun v G' H' rs' s' g r => ⟨_, env, G', d, env', rs'.rl, r, e3, fun σ' rl' _ => k σ' G' H' ⟨rl', rs'.g0⟩ s'⟩
/-- a, b = x, y -/
def sPar (i j : Nat) (m n : Fx) : Sx := fun env => (m env).bind fun f => (n env).bind fun g => if i < env.length ∧ j < env.length then some (.nx ((env.set i (some f)).set j (some g))) else none
theorem ok_par (i j : Nat) {x y : Str} {m n : Fx} {px py pt : Pos} {kt k2 pt2} (hc : X.calm = true) (hN : X.N.Nodup) (ha : OkF X a m) (hb : OkF X b n) (hi : X.N[i]? = some x := by rfl) (hj : X.N[j]? = some y := by rfl) (hij : i ≠ j := by decide)
    (hx : X.env.scope.names.lookup x = some .local := by rfl) (hy : X.env.scope.names.lookup y = some .local := by rfl)
    (hw : swappedStores [.Tuple [.Name x px, .Name y py] kt pt] (.Tuple [a, b] k2 pt2) X.env = pure (some [x, y]) := by rfl)
    (hs : swapsWithSole [.Tuple [.Name x px, .Name y py] kt pt] (.Tuple [a, b] k2 pt2) pos.line X.env = pure false := by rfl)
    (hsa : starEach (a :: [b]) X.env = (false, eval a X.env) :: starEach [b] X.env := by rfl) (hsb : starEach (b :: []) X.env = (false, eval b X.env) :: starEach [] X.env := by rfl) :
    OkS X (.Assign [.Tuple [.Name x px, .Name y py] kt pt] (.Tuple [a, b] k2 pt2) pos) (sPar i j m n) :=
  weakS (ps_par hc hN hi hj hij hx hy (pa_cons ha (pa_cons hb pa_nil hsb) hsa) hw hs) fun E σ H ⟨H0, G0, env, G, r, rs, e, k⟩ => by
    obtain ⟨f, e1, e⟩ := Option.bind_eq_some_iff.mp e
    obtain ⟨g, e2, e⟩ := Option.bind_eq_some_iff.mp e
    split at e
    · rename_i hl
      cases e
      refine ⟨_, env, G, f, rs.rl, e1, fun v G1 H1 g1 r1 => ⟨_, env, G1, g, (rs.grow g1).rl, e2, fun u G2 H2 g2 r2 => ⟨v, u, rfl, ?_⟩⟩⟩
      have a1 : Rs X.K H0 G0 (env.set i (some f)) (σ.set i (some v)) G1 H1 := rs.putF g1 r1 hl.1
      exact k _ G2 H2 (a1.putF g2 r2 (by simpa using hl.2)) (g1.g.trans g2.g)
    · cases e
/-- name op= e, ints -/
def sAugI (i : Nat) (f : Int → Int → Int) (m : Ex) : Sx := fun env => match env[i]? with
  | some (some (false, .int x)) => (m env).bind fun d => match d with
    | .int y => some (.nx (env.set i (some (false, .int (f x y)))))
    | _ => none
  | _ => none
theorem ok_augI (i : Nat) {x : Str} {f : Int → Int → Int} {op : Operator} {m : Ex} {pos' : Pos} (hN : X.N.Nodup) (ho : PIp X op (ipI f)) (he : OkE X e m) (hi : X.N[i]? = some x := by rfl) (hx : Loc X.env.scope x := by first | exact Or.inl rfl | exact Or.inr rfl) (hf : X.fn x = true ∨ X.env.scope.names.lookup x = some .local := by first | exact .inl rfl | exact .inr rfl) :
    OkS X (.AugAssign (.Name x pos') op e pos) (sAugI i f m) := weakS (ps_aug hN hi hx he ho hf) fun E σ H ⟨H0, G0, env, G, r, rs, e, k⟩ => by
  unfold sAugI at e
  split at e
  · rename_i n hn
    obtain ⟨d, e1, e2⟩ := Option.bind_eq_some_iff.mp e
    split at e2
    · cases e2
      obtain ⟨v, h1, h2⟩ := rs.rl.fr i _ hn
      cases h2
      refine ⟨_, h1, atE rs e1 fun u G' H' rs' s' g r => ?_⟩
      cases r
      exact ⟨_, _, rfl, rfl, k _ G' H' (rs'.put (List.getElem?_eq_some_iff.mp hn).1 (.int _)) s'⟩
    · cases e2
  · cases e
/-! ### owned lists -/
def sApp (i : Nat) (m : Ex) : Sx := fun env => match env[i]? with
  | some (some (true, .lst ds)) => (m env).bind fun d => if ds.length < 1000000 then some (.nx (env.set i (some (true, .lst (ds ++ [d]))))) else none
  | _ => none
theorem ok_app (i : Nat) {x : Str} {m : Ex} {p apos cpos : Pos} (he : OkE X e m) (hi : X.N[i]? = some x := by rfl) (hv : Vis X.env.scope x := by first | exact Or.inl rfl | exact Or.inr (Or.inl rfl) | exact Or.inr (Or.inr rfl)) (hd : (x == ("__debug__" : Str)) = false := by decide)
    (hcd : (x == ("__classdict__" : Str)) = false := by decide) (hbase : attributeBase (.Name x p) "append" X.env (eval (.Name x p) X.env) = eval (.Name x p) X.env := by rfl) (hsa : starEach (e :: []) X.env = (false, eval e X.env) :: starEach [] X.env := by rfl)
    (hfew : ((backTo cpos (starEach (e :: []) X.env)).all (fun x => !x.1) && (backToKw cpos (keywordEach [] X.env)).all (fun x => x.1.isSome) && decide ((e :: ([] : List Expr)).length + ([] : List Keyword).length + (if ([] : List Keyword).isEmpty then 0 else 1) < 30)) = true := by rfl)
    (hpn : (backTo cpos (starEach ([] : List Expr) X.env)).any (·.1) = false := by rfl) (hline : (apos.endLine == cpos.line) = true := by rfl) (hsw : swapsWith (.Call (.Attribute (.Name x p) "append" apos) [e] [] cpos) none pos.line X.env = pure false := by rfl) :
    OkS X (.Expr (.Call (.Attribute (.Name x p) "append" apos) [e] [] cpos) pos) (sApp i m) :=
  weakS (ps_expr (pe_bm PySem.F.plainAttrs_list PySem.F.slot_list_append PySem.F.type_list_append mt_append (pe_var (i := i) hi hv hd hcd) (pa_cons he pa_nil hsa) hbase hfew hline hsa hpn) hsw) fun E σ H ⟨H0, G0, env, G, r, rs, e, k⟩ => by
    unfold sApp at e
    split at e
    · rename_i ds hn
      obtain ⟨d, e1, e2⟩ := Option.bind_eq_some_iff.mp e
      split at e2
      · rename_i hl
        cases e2
        obtain ⟨a, q1, q2, q3, xs, w1, w2⟩ := rs.rl.ow i _ hn
        refine ⟨_, q1, .inl ⟨rfl, xs, SqL.of w1⟩, atE rs e1 fun u G' H' rs' s' g r => ?_⟩
        obtain ⟨a', z1, z2, z3, ys, y1, y2⟩ := rs'.rl.ow i _ hn
        rw [q1] at z1; cases z1
        refine ⟨a, ys, u, rfl, rfl, y1, Nat.lt_of_lt_of_le (by rw [y2.length]; exact hl) (by decide), ?_⟩
        exact k _ G' _ (rs'.write hn q1 ⟨_, upd_same, y2.snoc r⟩) s'
      · cases e2
    · cases e
/-- name[k] = e -/
def sPut (i : Nat) (mk m : Ex) : Sx := fun env => match env[i]? with
  | some (some (true, .lst ds)) => (m env).bind fun d => (mk env).bind fun c => match c with
    | .int n => (ixN ds.length n).bind fun j => some (.nx (env.set i (some (true, .lst (ds.set j d)))))
    | _ => none
  | _ => none
/-- name[k] op= e, ints -/
def sAugL (i : Nat) (f : Int → Int → Int) (mk m : Ex) : Sx := fun env => match env[i]? with
  | some (some (true, .lst ds)) => (mk env).bind fun c => (m env).bind fun d => match c, d with
    | .int n, .int y => if 0 ≤ n ∧ n < 1000000 then (match ds[n.toNat]? with
      | some (.int x) => some (.nx (env.set i (some (true, .lst (ds.set n.toNat (.int (f x y)))))))
      | _ => none) else none
    | _, _ => none
  | _ => none
def rGetL : V → V → Hp → VK → Prop := fun x y H Q => ∃ p xs n v, x = .ref p ∧ y = .int n ∧ 0 ≤ n ∧ n < 1000000 ∧ H p = some (.lst xs) ∧ xs[n.toNat]? = some v ∧ Q v H
theorem get_list : PGet X rGetL := by
  intro pins s σ H x y v u Q I rx ry h
  obtain ⟨p, xs, n, z, rfl, rfl, h0, h1, hp, hz, q⟩ := h
  cases rx
  obtain ⟨t, rfl⟩ := ry
  obtain ⟨its, r, pl, hs⟩ := I.list (SqL.of hp)
  obtain ⟨w, ew, rw'⟩ := r.get hz
  exact wpAny_getItem_list pl.isList h0 (by omega) (by simpa using ew) ⟨z, H, I, rw', q⟩
theorem ok_augL (i : Nat) {x : Str} {f : Int → Int → Int} {op : Operator} {ei : Expr} {mk m : Ex} {p tpos : Pos} (ho : PIp X op (ipI f)) (hk : OkE X ei mk) (he : OkE X e m) (hi : X.N[i]? = some x := by rfl) (hv : Vis X.env.scope x := by first | exact Or.inl rfl | exact Or.inr (Or.inl rfl) | exact Or.inr (Or.inr rfl)) (hd : (x == ("__debug__" : Str)) = false := by decide)
    (hcd : (x == ("__classdict__" : Str)) = false := by decide) (ha : ∀ ov iv new, augStore ei ov iv new = (do holding [new, ov, iv] (setItem ov iv new); release [new, ov, iv] []; pure .next) := by intros; rfl) :
    OkS X (.AugAssign (.Subscript (.Name x p) ei tpos) op e pos) (sAugL i f mk m) :=
  weakS (ps_augS (pe_var (i := i) hi hv hd hcd) hk get_list he ho set_list ha) fun E σ H ⟨H0, G0, env, G, r, rs, e, k⟩ => by
    unfold sAugL at e
    split at e
    · rename_i ds hn
      obtain ⟨c, e1, e⟩ := Option.bind_eq_some_iff.mp e
      obtain ⟨d, e2, e⟩ := Option.bind_eq_some_iff.mp e
      cases c with
      | int n =>
       cases d with
       | int y =>
        have e : (if 0 ≤ n ∧ n < 1000000 then (match ds[n.toNat]? with
      | some (.int x) => some (Res.nx (env.set i (some (true, .lst (ds.set n.toNat (.int (f x y)))))))
      | _ => none) else none) = some r := e
        split at e
        · rename_i hb
          split at e
          · rename_i z hz
            cases e
            obtain ⟨a, q1, q2, q3, xs, w1, w2⟩ := rs.rl.ow i _ hn
            refine ⟨_, q1, atE rs e1 fun u G1 H1 rs1 s1 g1 r1 => ?_⟩
            cases r1
            obtain ⟨a', z1, z2, z3, ys, y1, y2⟩ := rs1.rl.ow i _ hn
            rw [q1] at z1; cases z1
            obtain ⟨v, v1, v2⟩ := y2.get hz
            cases v2
            refine ⟨a, ys, n, _, rfl, rfl, hb.1, hb.2, y1, v1, atE rs1 e2 fun u G2 H2 rs2 s2 g2 r2 => ?_⟩
            cases r2
            obtain ⟨a', z1, z2, z3, ys2, x1, x2⟩ := rs2.rl.ow i _ hn
            rw [q1] at z1; cases z1
            have hj : ixN ys2.length n = some n.toNat := by
              unfold ixN
              have hlt : n.toNat < ys2.length := by rw [x2.length]; exact (List.getElem?_eq_some_iff.mp hz).1
              rw [if_pos hb.1, if_pos (by omega)]
            refine ⟨_, _, rfl, rfl, a, ys2, n, n.toNat, rfl, rfl, x1, hj, ?_⟩
            exact k _ G2 _ (rs2.write hn q1 ⟨_, upd_same, x2.set _ (.int _)⟩) (s1.trans s2)
          · cases e
        · cases e
       | _ => cases e
      | _ => cases d <;> cases e
    · cases e
end

/-! ### loops -/
def forGo (t : Gx) (b : Sx) : List D → Env → Option Res
  | [], env => some (.nx env)
  | d :: ds, env => (t d env).bind fun env1 => match b env1 with
    | some (.nx e) => forGo t b ds e
    | some (.ct e) => forGo t b ds e
    | some (.bk e) => some (.nx e)
    | some (.rt d) => some (.rt d)
    | none => none
def sFor (src : Ax) (t : Gx) (b : Sx) : Sx := fun env => (src env).bind fun ds => forGo t b ds env
section
variable {X : Cx} {pos : Pos}
theorem ok_for {tg iter : Expr} {body : List Stmt} {src : Ax} {t : Gx} {b : Sx} {vs : List Nat} (hp : PassesOwn (model X.prog X.w) X.A X.env X.xe) (hc : X.calm = true) (hi : OkI X tg iter src) (hg : OkG X vs tg t) (hb : OkB X body b) (hs : ∀ x, foldedSetIterable iter X.env x = pure x := by intro _; rfl) :
    OkS X (.For tg iter body [] pos) (sFor src t b) := weakS (ps_for hp hc hi hg hb hs) fun E σ H ⟨H0, G0, env, G, r, rs, e, k⟩ => by
  obtain ⟨ds, e1, e2⟩ := Option.bind_eq_some_iff.mp e
  refine ⟨_, env, G, ds, rs.rl, e1, fun J G1 H1 g1 wk => ?_⟩
  -- behind i items: the rest gives r
  refine ⟨fun i m σ' H' => m = ds.length - i ∧ i ≤ ds.length ∧ ∃ (env' : Env) (G' : Hp), Rs X.K H0 G0 env' σ' G' H' ∧ Same G1 G' ∧ forGo t b (ds.drop i) env' = some r,
    ⟨ds.length, by simp, Nat.zero_le _, env, G1, rs.grow g1, Same.refl _, by simpa using e2⟩, ?_⟩
  rintro i m σ' H' ⟨rfl, hi, env', G', rs', s', hgo⟩
  obtain ⟨wstop, wgo⟩ := wk i G' H' s' rs'.rl.gh
  by_cases hlt : i < ds.length
  · obtain ⟨go, yl⟩ := wgo ds[i] (by simp [hlt])
    refine .inr ⟨go, fun σ2 H2 => i + 1 ≤ ds.length ∧ ∃ (env2 : Env) (G2 : Hp), Rs X.K H0 G0 env2 σ2 G2 H2 ∧ Same G1 G2 ∧ forGo t b (ds.drop (i + 1)) env2 = some r,
      fun σ2 H2 ⟨p1, p2⟩ => ⟨ds.length - (i + 1), by omega, rfl, p1, p2⟩, fun x H2 hy => ?_⟩
    obtain ⟨G2, g2, r2⟩ := yl x H2 hy
    rw [List.drop_eq_getElem_cons hlt] at hgo
    unfold forGo at hgo
    obtain ⟨env1, t1, hgo⟩ := Option.bind_eq_some_iff.mp hgo
    have rs2 := rs'.grow g2
    refine ⟨_, env', G2, _, env1, rs2.rl, r2, t1, fun σ3 rl3 _ => ?_⟩
    have rs3 : Rs X.K H0 G0 env1 σ3 G2 H2 := ⟨rl3, rs2.g0⟩
    have s2 := s'.trans g2.g
    cases hb1 : b env1 with
    | none => rw [hb1] at hgo; cases hgo
    | some r1 =>
      rw [hb1] at hgo
      refine ⟨H0, G0, env1, G2, r1, rs3, hb1, ?_⟩
      cases r1 with
      | nx e => intro σ4 G4 H4 rs4 s4; exact ⟨hlt, e, G4, rs4, s2.trans s4, hgo⟩
      | ct e => intro σ4 G4 H4 rs4 s4; exact ⟨hlt, e, G4, rs4, s2.trans s4, hgo⟩
      | bk e => cases hgo; intro σ4 G4 H4 rs4 s4; exact k σ4 G4 H4 rs4 (g1.g.trans (s2.trans s4))
      | rt d => cases hgo; exact k
  · rw [List.drop_eq_nil_of_le (by omega)] at hgo
    cases hgo
    exact .inl ⟨wstop (by omega), k σ' G' H' rs' (g1.g.trans s')⟩
def whGo (c : Tx) (b : Sx) : Nat → Env → Option Res
  | 0, _ => none
  | n + 1, env => (c env).bind fun k => if k then (match b env with
    | some (.nx e) => whGo c b n e
    | some (.ct e) => whGo c b n e
    | some (.bk e) => some (.nx e)
    | some (.rt d) => some (.rt d)
    | none => none) else some (.nx env)
def sWhile (n : Nat) (c : Tx) (b : Sx) : Sx := whGo c b n
theorem ok_while (n : Nat) {c : Expr} {body : List Stmt} {tc : Tx} {b : Sx} (hp : PassesOwn (model X.prog X.w) X.A X.env X.xe) (hc : OkT X c tc) (hb : OkB X body b) : OkS X (.While c body [] pos) (sWhile n tc b) := weakS (ps_while hp hc hb) fun E σ H ⟨H0, G0, env, G, r, rs, e, k⟩ => by
  refine ⟨fun m σ' H' => ∃ (env' : Env) (G' : Hp), Rs X.K H0 G0 env' σ' G' H' ∧ Same G G' ∧ whGo tc b m env' = some r, ⟨n, env, G, rs, Same.refl G, e⟩, ?_⟩
  rintro m σ' H' ⟨env', G', rs', s', hgo⟩
  cases m with
  | zero => cases hgo
  | succ m =>
    unfold whGo at hgo
    obtain ⟨x, e1, e2⟩ := Option.bind_eq_some_iff.mp hgo
    refine ⟨_, env', G', x, rs'.rl, e1, fun G2 H2 g2 => ?_⟩
    have rs2 := rs'.grow g2
    have s2 := s'.trans g2.g
    cases x with
    | true =>
      refine ⟨fun σ3 H3 => ∃ (env3 : Env) (G3 : Hp), Rs X.K H0 G0 env3 σ3 G3 H3 ∧ Same G G3 ∧ whGo tc b m env3 = some r, fun σ3 H3 q => ⟨m, Nat.lt_succ_self m, q⟩, ?_⟩
      have e2 : (match b env' with
        | some (.nx e) => whGo tc b m e
        | some (.ct e) => whGo tc b m e
        | some (.bk e) => some (.nx e)
        | some (.rt d) => some (.rt d)
        | none => none) = some r := e2
      cases hb1 : b env' with
      | none => rw [hb1] at e2; cases e2
      | some r1 =>
        rw [hb1] at e2
        refine ⟨H0, G0, env', G2, r1, rs2, hb1, ?_⟩
        cases r1 with
        | nx e => intro σ4 G4 H4 rs4 s4; exact ⟨e, G4, rs4, s2.trans s4, e2⟩
        | ct e => intro σ4 G4 H4 rs4 s4; exact ⟨e, G4, rs4, s2.trans s4, e2⟩
        | bk e => cases e2; intro σ4 G4 H4 rs4 s4; exact k σ4 G4 H4 rs4 (s2.trans s4)
        | rt d => cases e2; exact k
    | false =>
      cases e2
      exact k σ' G2 H2 rs2 s2
end

/-! ### a def -/
def startE (N : Nat) (ds : List D) : Env := ds.map (fun d => some (false, d)) ++ List.replicate (N - ds.length) none
def fnD (n N : Nat) (m : Sx) (ds : List D) : Option D := if ds.length = n ∧ n ≤ N then (match m (startE N ds) with
  | some (.rt d) => some d
  | some (.nx _) => some .non
  | _ => none) else none
theorem start_rl {K : PySem.W.Frag} {G H : Hp} {N : List Str} {vs : List V} {ds : List D} (e : Same G H) (r : Rps K G vs ds) (hn : ds.length ≤ N.length) : Rl K (fun a => H a = none) (startE N.length ds) (L2.start N vs) G H where
  gh := e
  len := by
    unfold startE L2.start
    simp only [List.length_append, List.length_map, List.length_replicate, r.length]
  fr := fun i d h => by
    unfold startE at h
    by_cases hi : i < ds.length
    · rw [List.getElem?_append_left (by simpa using hi), List.getElem?_map] at h
      obtain ⟨c, h1, h2⟩ := Option.map_eq_some_iff.mp h
      cases h2
      obtain ⟨v, q1, q2⟩ := r.get h1
      refine ⟨v, ?_, q2⟩
      unfold L2.start
      rw [List.getElem?_append_left (by simpa [r.length] using hi), List.getElem?_map, q1]
      rfl
    · rw [List.getElem?_append_right (by simpa using hi), List.getElem?_replicate] at h
      split at h <;> cases h
  ow := fun i d h => by
    unfold startE at h
    by_cases hi : i < ds.length
    · rw [List.getElem?_append_left (by simpa using hi), List.getElem?_map] at h
      obtain ⟨c, h1, h2⟩ := Option.map_eq_some_iff.mp h
      cases h2
    · rw [List.getElem?_append_right (by simpa using hi), List.getElem?_replicate] at h
      split at h <;> cases h
  dj := fun i j d e a h => by
    unfold startE at h
    by_cases hi : i < ds.length
    · rw [List.getElem?_append_left (by simpa using hi), List.getElem?_map] at h
      obtain ⟨c, h1, h2⟩ := Option.map_eq_some_iff.mp h
      cases h2
    · rw [List.getElem?_append_right (by simpa using hi), List.getElem?_replicate] at h
      split at h <;> cases h
theorem fn_ok {P : Program} {w : World} {K : PySem.W.Frag} {mg : Str → Option Value} {base : Heap} {x qual : Str} {st : Stmt} {f : Addr} {fd : FuncData} {N ps : List Str} {k : Nat} {m : Sx} (Fo : Fun K x qual st f fd) (S : FnScope N ps (defScope st))
    (hbody : ∀ (cdv : Value) (A : Around) (outer : List PySem.Env) (s : Shared) (H : Hp) (E : XK), Room k (A.deeper (PyProof.Rows.envOfC qual (defScope st) s.heap.objs.size f cdv)) → OkB (cxOf CX0 P w K mg base N qual (defScope st) f cdv A outer s H E).nox (defBody st) m) :
    FnOk P w K mg base CX0 (k + 1) f fd ps (spF K (fnD ps.length N.length m)) := by
  refine Fo.ok S (fun vs H Q E h => ?_) (fun cdv A outer s H vs Q E hr h => ⟨tS K m, hbody cdv A outer s H E hr, ?_⟩)
  · obtain ⟨G, ds, d, e, r, hF, _⟩ := h
    unfold fnD at hF
    split at hF
    · rename_i hl
      rw [r.length]; exact hl.1
    · cases hF
  · obtain ⟨G, ds, d, e, r, hF, k⟩ := h
    unfold fnD at hF
    split at hF
    · rename_i hl
      have rs : Rs K H G (startE N.length ds) (L2.start N vs) G H := ⟨start_rl e r (by omega), Gr.refl e⟩
      split at hF
      · rename_i d' hm
        cases hF
        exact ⟨H, G, _, G, _, rs, hm, fun v G' H' g r' => k v G' H' g r'⟩
      · rename_i e' hm
        cases hF
        exact ⟨H, G, _, G, _, rs, hm, fun σ' G' H' rs' _ => k .non G' H' rs'.g0 .non⟩
      · cases hF
    · cases hF
end Sh
end Part_ShE

section Part_ShF
set_option maxRecDepth 100000
set_option maxHeartbeats 2000000
/-! ShF: enumerate of a tuple; dicts keyed by tuples of ints, filled by a def. -/
namespace Sh
open PySem L2

set_option maxHeartbeats 4000000 in
theorem meets_enum1 {v : Value} {o : Obj} {H : Heap → Prop} (B : Begins v o H) :
    Meets (Builtin.«enumerate.__new__» ⟨[.type "enumerate", v], []⟩) (fun _ R s => H s.heap ∧
      R (.ok (.ret (.ref (s.heap.push o).objs.size))) { s with heap := (s.heap.push o).push { cls := .type "enumerate", data := .fields #[.none, .bool false, .ref s.heap.objs.size, rawInt 0, .none, .none] } }) :=
  .of_wp fun prog w A R s h => by
    obtain ⟨hp, g, d, tk, os⟩ := s
    obtain ⟨h1, h⟩ := h
    have hsub := sub_enumerate
    have q1 : ∀ {A' : Around} {E : Value → Shared → Prop} {Q : Value → Shared → Prop}, Q (.ref hp.objs.size) ⟨hp.push o, g, d, tk, os⟩ → wpAny (model prog w) A' (pyIter v) Q E ⟨hp, g, d, tk, os⟩ :=
      fun q => B.iter prog w _ _ ⟨hp, g, d, tk, os⟩ _ h1 q
    wp_walk using q1
    refine wpAny_stack_any fun st => wpAny_pure ?_
    split
    · rename_i c _ _ _ _ _
      cases (c == Value.type "enumerate")
      · wp_walk using q1
        exact ⟨_, rfl, h⟩
      · wp_walk using q1
        exact ⟨_, rfl, h⟩
    · wp_walk using q1
      exact ⟨_, rfl, h⟩
theorem enum1 {prog : Program} {w : World} {A : Around} {E : Value → Shared → Prop} {s : Shared} {v : Value} {o : Obj} {H : Heap → Prop} {Q : Value → Shared → Prop} (B : Begins v o H) (h1 : H s.heap)
    (h : ∀ h', IsEnum h' (s.heap.objs.size + 1) s.heap.objs.size 0 .none → h'.get? s.heap.objs.size = some o → h'.objs.size = s.heap.objs.size + 2 →
      (∀ b o, s.heap.get? b = some o → h'.get? b = some o) → Q (.ref (s.heap.objs.size + 1)) { s with heap := h' }) :
    wpAny (model prog w) A (call (.type "enumerate") [v]) Q E s := by
  refine callType_new F.called_enumerate (by decide) (F.typeCall_enumerate_1 _) (F.newCall_enumerate_1 _) (fun obj => F.args_object_init_2 obj _) F.entry_enumerate_new
    (meets_enum1 B) ⟨h1, ?_⟩
  have hz : (s.heap.push o).objs.size = s.heap.objs.size + 1 := Heap.size_push ..
  show _ ∧ _
  rw [hz]
  have he : IsEnum ((s.heap.push o).push { cls := .type "enumerate", data := .fields #[.none, .bool false, .ref s.heap.objs.size, rawInt 0, .none, .none] }) (s.heap.objs.size + 1) s.heap.objs.size 0 .none := by
    have := Heap.get?_push_size (s.heap.push o) (o := { cls := .type "enumerate", data := .fields #[.none, .bool false, .ref s.heap.objs.size, rawInt 0, .none, .none] }) rfl
    rw [hz] at this; exact this
  refine ⟨⟨_, he, rfl⟩, h _ he (Heap.get?_push_of_some _ (Heap.get?_push_size _ B.free)) (by rw [Heap.size_push, hz]) fun b o x => Heap.get?_push_of_some _ (Heap.get?_push_of_some _ x)⟩

/-- the tuple at a, its items in new pairs with their places -/
def IteT (K : PySem.W.Frag) (a : Addr) : It :=
  ⟨fun i H => ∃ (xs : List V) (x : V), SqT K H a xs ∧ xs[i]? = some x, fun i H v H' => ∃ (T : Addr) (x : V), v = .ref T ∧ H T = none ∧ H' = upd H T (.tup [.int (i : Nat), x]) ∧ ∀ xs, SqT K H a xs → xs[i]? = some x, fun i H => ∃ xs : List V, SqT K H a xs ∧ xs.length ≤ i⟩
theorem turn_enumT {P : Program} {w : World} {K : PySem.W.Frag} {elts : List Expr} {kk : Nat} {tpos : Pos} (a e it : Addr) :
    Turn P w K (.Tuple elts kk tpos) (IteT K a) [e, it] e (fun i h => (∃ old, IsEnum h e it ((i : Nat) : Int) old) ∧ h.IsTupleIter it a i ∧ e ≠ it) where
  mem := by simp
  obj := fun i h st b hb => by
    obtain ⟨⟨old, he⟩, ⟨o, ho, hc, hd⟩, _⟩ := st
    have e' : b = e ∨ b = it := by simpa using hb
    rcases e' with z | z
    · rw [z]; exact ⟨_, he, fun v q => nomatch q⟩
    · rw [z]; exact ⟨o, ho, fun v q => by rw [hd] at q; cases q⟩
  keep := fun i h h' st k => let ⟨⟨old, he⟩, hi, hne⟩ := st; ⟨⟨old, k e (by simp) _ he⟩, hi.at fun o q => k it (by simp) o q, hne⟩
  item := by
    intro X hP hw hK hc i pins s σ H E I hf st hg
    subst hP hw hK
    obtain ⟨⟨old, he⟩, hit, hne⟩ := st
    obtain ⟨xs, x, hq, hx⟩ := hg
    obtain ⟨its, rv, p, hz⟩ := I.tuple hq
    obtain ⟨u, hu, ru⟩ := rv.get hx
    have hel : e < s.heap.objs.size := Heap.lt_size he
    have hil : it < s.heap.objs.size := by obtain ⟨_, q, _⟩ := hit; exact Heap.lt_size q
    have p' : s.heap.IsTuple a its.toArray := p
    have hai : a ≠ it := fun z => by
      obtain ⟨o1, q1, c1, _⟩ := id p
      obtain ⟨o2, q2, c2, _⟩ := id hit
      rw [z, q2] at q1; cases q1
      rw [c2] at c1; exact absurd c1 (by decide +kernel)
    have hea : e ≠ a := fun z => by
      obtain ⟨o1, q1, c1, _⟩ := id p
      have q2 : s.heap.get? e = _ := he
      rw [z, q1] at q2; cases q2
      have c1' : Value.type "enumerate" = Value.type "tuple" := c1
      exact absurd c1' (by decide +kernel)
    have Dr := Draws.tuple (prog := X.prog) (w := X.w) (A := X.A.in1) (I.ok.hd hc) it a hai its.toArray
    have hlt : i < its.toArray.size := by
      have := (List.getElem?_eq_some_iff.mp hu).1
      simpa using this
    refine wpAny_pyNext_enum_itemD Dr he ⟨hit, p'⟩ hlt hne (by simp [hne, hea]) fun y h' tk hy ho st' hT hsz hk => ?_
    have ey : y = u := by
      have hy' : its.toArray[i]? = some y := hy
      rw [List.getElem?_toArray, hu] at hy'
      exact (Option.some.inj hy').symm
    subst ey
    refine ⟨_, rfl, wpAny_letOwnedTupleGo_enum (s := { s with heap := h', toks := tk + 1 }) ho fun h'' he' sb => ?_⟩
    have hT2 : h''.get? s.heap.objs.size = some { cls := .type "tuple", data := .seq #[.int i tk, y] } := (sb.2 _ (Nat.ne_of_gt hel)).trans hT
    have new : ObjOk X.prog X.w (upd H s.heap.objs.size (.tup [.int (i : Nat), x])) h'' s.heap.objs.size (.tup [.int (i : Nat), x]) :=
      ⟨by show 2 ≤ sizeLine; decide, [.int i tk, y], .cons ⟨_, rfl⟩ (.cons ru .nil), ⟨_, hT2, rfl, _, rfl⟩⟩
    have I1 : Inv X pins σ (upd H s.heap.objs.size (.tup [.int (i : Nat), x])) { s with heap := h'', toks := tk + 1 } :=
      I.turnedNew (ch := [e, it]) (fun b ob hb q => (sb.2 b (fun z => hb (by simp [z]))).trans (hk b ob (fun z => hb (by simp [z])) (fun z => hb (by simp [z])) q)) hf (Nat.le_refl _) new
    refine ⟨.ref s.heap.objs.size, _, I1, rfl, ⟨_, x, rfl, I.hok.fresh (Nat.le_refl _), rfl, fun ys hy => by rw [I.tuple_inj hy hq]; exact hx⟩, ⟨⟨y, ?_⟩, st'.1.at fun o q => (sb.2 it (Ne.symm hne)).trans q, hne⟩, fun b hb => ?_⟩
    · have e1 : ((i + 1 : Nat) : Int) = (i : Int) + 1 := by omega
      rw [e1]; exact he'
    · have hb' : b < s.heap.objs.size := by
        have e' : b = e ∨ b = it := by simpa using hb
        rcases e' with z | z
        · rw [z]; exact hel
        · rw [z]; exact hil
      rw [upd_ne (Nat.ne_of_lt hb')]
      exact (hf b hb).1
  done := by
    intro X hP hw hK hc i pins s σ H E I hf st hg
    subst hP hw hK
    obtain ⟨⟨old, he⟩, hit, hne⟩ := st
    obtain ⟨xs, hq, hx⟩ := hg
    obtain ⟨its, rv, p, hz⟩ := I.tuple hq
    obtain ⟨f0, f1, f2, f3, f4, f5⟩ := hf it (by simp)
    have hl := rv.length
    have p' : s.heap.IsTuple a its.toArray := p
    have hai : a ≠ it := fun z => by
      obtain ⟨o1, q1, c1, _⟩ := id p
      obtain ⟨o2, q2, c2, _⟩ := id hit
      rw [z, q2] at q1; cases q1
      rw [c2] at c1; exact absurd c1 (by decide +kernel)
    -- the iterator stands at i, past the end
    refine enum_endT (I.ok.hd hc) he hit p' (by rw [List.getElem?_toArray, List.getElem?_eq_none_iff]; omega) fun h' eb => ⟨rfl, I.turned (t' := s.toks) (fun b o hb q => eb b o hb q) f0 f1 f3 f4 f5⟩
  self := fun A i s Q E st h => let ⟨⟨_, he⟩, _⟩ := st; wpAny_pyIter_enum he h
where
  enum_endT {prog : Program} {w : World} {A : Around} {E : Value → Shared → Prop} {s : Shared} {e it l : Addr} {i : Nat} {items : Array Value} {old : Value} {Q : Option Value → Shared → Prop} (hh : A.handled = none)
      (he : IsEnum s.heap e it i old) (hit : s.heap.IsTupleIter it l i) (hl : s.heap.IsTuple l items) (hx : items[i]? = none)
      (hQ : ∀ h', Heap.ExtBut it s.heap h' → Q none { s with heap := h' }) : wpAny (model prog w) A (pyNext (.ref e)) Q E s := by
    have hT : s.TypeIs (.ref e) "enumerate" := ⟨_, he, rfl⟩
    unfold pyNext
    refine wpAny_bind (wpAny_attempt (wpAny_callSpecial?_slot (name := Str.ofString "__next__") hT F.slot_enumerate_next
      (wpAny_call_entry F.slot_enumerate_next hT F.entry_enumerate_next ?_ (F.args_enumerate_next_1 _))))
    show wpAny _ _ (field (.ref e) 2 >>= _) _ _ _
    refine wpAny_bind (wpAny_field he rfl (x := .ref it) rfl ?_)
    refine wpAny_bind (wpAny_nextOf_tuple_end (A := A.in1) hh hit hl hx fun h' x he' hx' => ?_)
    obtain ⟨o, ho, hc⟩ := hx'
    refine wpAny_bind (wpAny_isInstance (T := "StopIteration") (b := true) ⟨o, ho, hc⟩ isSubtype_stop ?_)
    exact wpAny_pure (hQ _ he')

def iEnumT (K : PySem.W.Frag) (ta : TA) : TI := fun σ H R => ta σ H fun vs H1 => ∃ (a : Addr) (xs : List V), vs = [.ref a] ∧ SqT K H1 a xs ∧ R (IteT K a) H1
theorem pi_enumT {X : Cx} {e : Expr} {ta : TA} {p pos tpos : Pos} {elts : List Expr} {kk : Nat} (hg : Gl X "enumerate") (hm : X.mg "enumerate" = none) (ha : PA X [e] ta) (hs : starEach [e] X.env = [(false, eval e X.env)] := by rfl) :
    PI X (.Tuple elts kk tpos) (.Call (.Name "enumerate" p) [e] [] pos) (iEnumT X.K ta) := by
  refine ⟨fun pins s σ H R I h => ?_⟩
  refine PyProof.Rows.Call_ (ld_blt I hg hm PyProof.Rows.boot_enumerate (PyProof.Rows.callWith_type1 (thn (ha.run pos pins s σ H _ I h) fun us s1 ⟨vs, H1, I1, r1, q1⟩ => ?_) hs rfl))
  obtain ⟨a, xs, ex, hq, q⟩ := q1
  subst ex
  obtain ⟨u, rfl, r⟩ := vals1 r1
  cases r
  obtain ⟨its, rv, p', hz⟩ := I1.tuple hq
  have ht : s1.heap.IsTuple a its.toArray := p'
  refine enum1 (begins_tuple a its.toArray) ht fun h' he hit hsz hk => wpAny_pyIter_enum he ?_
  have I2 : Inv X pins σ H1 { s1 with heap := h' } := I1.kept (t' := s1.toks) hk
  have fin : ∀ b ∈ [s1.heap.objs.size + 1, s1.heap.objs.size], FpOk X pins H1 b := fun b hb => by
    have e' : b = s1.heap.objs.size + 1 ∨ b = s1.heap.objs.size := by simpa using hb
    have hle : s1.heap.objs.size ≤ b := by
      rcases e' with z | z
      · rw [z]; exact Nat.le_succ _
      · rw [z]; exact Nat.le_refl _
    exact I1.fpOk hle (I1.hok.fresh hle)
  exact ⟨s1.heap.objs.size + 1, [s1.heap.objs.size + 1, s1.heap.objs.size], _, _, H1, rfl, I2, turn_enumT a (s1.heap.objs.size + 1) s1.heap.objs.size, ⟨⟨.none, he⟩, ⟨_, hit, rfl, rfl⟩, Nat.succ_ne_self _⟩, fin, q⟩
theorem walks_enumT {K : PySem.W.Frag} {G : Hp} {a : Addr} {xs : List V} {ds : List D} (h : SqT K G a xs) (r : Rps K G xs ds) : Walks K (IteT K a) (enumD ds) G := by
  intro i G1 H1 e1 e2
  have hH : SqT K H1 a xs := same_sqt e2 (same_sqt e1 h)
  refine ⟨fun hi => ⟨xs, hH, by rw [r.length]; unfold enumD at hi; rwa [List.length_mapIdx] at hi⟩, fun d hd => ?_⟩
  obtain ⟨c, hc, rfl⟩ := enumD_get hd
  obtain ⟨v, q1, q2⟩ := r.get hc
  refine ⟨⟨xs, v, hH, q1⟩, fun x H2 y => ?_⟩
  obtain ⟨T, u, rfl, hT, rfl, y2⟩ := y
  have z := y2 xs hH
  rw [q1] at z; cases z
  have g := Gr.new (o := .tup [.int (i : Nat), v]) e2 hT
  exact ⟨_, g, .tup (SqT.of upd_same) (.cons (.int _) (.cons ((q2.mono e1 _ _).mono g.g _ _) .nil))⟩
def wEn (m : Ax) : Ax := fun env => (m env).bind fun ds => match ds with
  | [.lst es] => some (enumD es)
  | [.tup es] => some (enumD es)
  | _ => none
theorem ok_wEn {X : Cx} {e : Expr} {m : Ax} {p pos tpos : Pos} {elts : List Expr} {kk : Nat} (hm : X.mg "enumerate" = none) (ha : OkA X [e] m) (hg : Gl X "enumerate" := by rfl) (hs : starEach [e] X.env = [(false, eval e X.env)] := by rfl) :
    OkI X (.Tuple elts kk tpos) (.Call (.Name "enumerate" p) [e] [] pos) (wEn m) :=
  weakI (orI (pi_enum hg hm ha hs) (pi_enumT hg hm ha hs)) fun σ H R ⟨O, env, G, ds, rl, e, k⟩ => by
    obtain ⟨es, e1, e2⟩ := Option.bind_eq_some_iff.mp e
    split at e2
    · cases e2
      refine .inl ⟨O, env, G, _, rl, e1, fun vs G1 H1 g1 r1 => ?_⟩
      obtain ⟨v, rfl, r⟩ := rps1 r1
      cases r with
      | @lst a xs es h1 h2 => exact ⟨a, xs, rfl, SqL.of (g1.gh _ _ h1), k _ G1 H1 g1 (walks_enum h1 h2)⟩
    · cases e2
      refine .inr ⟨O, env, G, _, rl, e1, fun vs G1 H1 g1 r1 => ?_⟩
      obtain ⟨v, rfl, r⟩ := rps1 r1
      cases r with
      | @tup a xs es h1 h2 => exact ⟨a, xs, rfl, same_sqt g1.gh h1, k _ G1 H1 g1 (walks_enumT h1 h2)⟩
    · cases e2
end Sh
end Part_ShF

section Part_ShG
set_option maxRecDepth 100000
set_option maxHeartbeats 2000000
/-! ShG: a dict keyed by tuples of ints, filled by the def that made it. -/
namespace Sh
open PySem L2
def dput (s : List (List Int × D)) (k : List Int) (d : D) : List (List Int × D) :=
  if (s.any fun kv => decide (kv.1 = k)) = true then s.map (fun kv => if kv.1 = k then (kv.1, d) else kv) else s ++ [(k, d)]
theorem inl_inj {k j : List Int} : (k.map (Sum.inl : Int → Key) = j.map Sum.inl) ↔ k = j := by
  constructor
  · intro h
    exact List.map_inj_right (fun a b q => Sum.inl.inj q) |>.mp h
  · rintro rfl; rfl
section
variable {K : PySem.W.Frag} {G : Hp}
theorem KR.any (k : List Int) : ∀ {r : List (List Key × V)} {s : List (List Int × D)}, KR K G r s → (r.any fun kv => decide (kv.1 = k.map Sum.inl)) = s.any fun kv => decide (kv.1 = k)
  | _, _, .nil => rfl
  | _, _, .cons (k := j) h t => by
    rw [List.any_cons, List.any_cons, KR.any k t]
    congr 1
    by_cases q : j = k
    · rw [decide_eq_true (inl_inj.mpr q), decide_eq_true q]
    · rw [decide_eq_false (fun z => q (inl_inj.mp z)), decide_eq_false q]
theorem KR.repl {k : List Int} {v : V} {d : D} (q : Rp K G v d) : ∀ {r : List (List Key × V)} {s : List (List Int × D)}, KR K G r s →
    KR K G (r.map fun kv => if kv.1 = k.map Sum.inl then (kv.1, v) else kv) (s.map fun kv => if kv.1 = k then (kv.1, d) else kv)
  | _, _, .nil => .nil
  | _, _, .cons (k := j) h t => by
    rw [List.map_cons, List.map_cons]
    by_cases z : j = k
    · rw [if_pos (inl_inj.mpr z), if_pos z]
      exact .cons q (KR.repl q t)
    · rw [if_neg (fun y => z (inl_inj.mp y)), if_neg z]
      exact .cons h (KR.repl q t)
theorem KR.snoc {k : List Int} {v : V} {d : D} (q : Rp K G v d) : ∀ {r : List (List Key × V)} {s : List (List Int × D)}, KR K G r s → KR K G (r ++ [(k.map Sum.inl, v)]) (s ++ [(k, d)])
  | _, _, .nil => .cons q .nil
  | _, _, .cons h t => .cons h (KR.snoc q t)
theorem KR.put {k : List Int} {v : V} {d : D} (q : Rp K G v d) {r : List (List Key × V)} {s : List (List Int × D)} (h : KR K G r s) : KR K G (putK r (k.map Sum.inl) v) (dput s k d) := by
  unfold putK dput
  rw [h.any k]
  split
  · exact h.repl q
  · exact h.snoc q
end
/-- a new tuple of ints -/
abbrev Kx := Env → Option (List Int)
def tK (K : PySem.W.Frag) (m : Kx) : TE := fun σ H Q => ∃ (O : Addr → Prop) (env : Env) (G : Hp) (ks : List Int), Rl K O env σ G H ∧ m env = some ks ∧ ∀ b G' H', Gr G H G' H' → H' b = some (.tup (ks.map V.int)) → Q (.ref b) H'
def OkK (X : Cx) (e : Expr) (m : Kx) : Prop := PE X e (tK X.K m)
def kTup (m : Ex) : Kx := fun env => (m env).bind fun d => match d with
  | .lst ds => intsD ds
  | _ => none
section
variable {X : Cx} {e : Expr} {pos : Pos}
theorem ok_kTup {m : Ex} {p : Pos} (hm : X.mg "tuple" = none) (ha : OkE X e m) (hg : Gl X "tuple" := by rfl) (hsa : starEach (e :: []) X.env = (false, eval e X.env) :: starEach [] X.env := by rfl) (hpl : (backTo pos (starEach ([] : List Expr) X.env)).any (·.1) = false := by rfl) :
    OkK X (.Call (.Name "tuple" p) [e] [] pos) (kTup m) :=
  weakE (pe_callTy call_tuple_of hg hm (by decide +kernel) (pa_cons ha pa_nil hsa) (by decide) (by decide) hsa hpl) fun σ H Q ⟨O, env, G, ks, rl, e, k⟩ => by
    obtain ⟨d, e1, e2⟩ := Option.bind_eq_some_iff.mp e
    split at e2
    · refine ⟨O, env, G, _, rl, e1, fun v G1 H1 g1 r1 => ?_⟩
      cases r1 with
      | @lst a xs ds h1 h2 =>
        have z := ints_are h2 e2
        subst z
        refine ⟨a, _, rfl, .inl ⟨SqL.of (g1.gh _ _ h1), fun l hl => ?_⟩⟩
        exact k l _ _ (g1.trans (Gr.new (o := .tup (ks.map V.int)) g1.gh hl)) upd_same
    · cases e2
/-- {} that the def fills -/
def fNewD : Fx := fun _ => some (true, .dct [])
theorem ok_fNewD : OkF X (.Dict [] [] pos) fNewD := weakE pe_dnewT fun σ H Q ⟨O, env, G, f, rl, e, k⟩ => by
  cases e
  intro p hp
  exact k _ _ _ (Gr.own (o := .dT []) rl.gh hp) ⟨p, rfl, hp, free_of rl.gh hp, [], upd_same, .nil⟩
/-- name[key] = e -/
def sPutD (i : Nat) (mk : Kx) (m : Ex) : Sx := fun env => match env[i]? with
  | some (some (true, .dct kvs)) => (m env).bind fun d => (mk env).bind fun ks => if kvs.length < 1000000 then some (.nx (env.set i (some (true, .dct (dput kvs ks d))))) else none
  | _ => none
theorem ok_putD (i : Nat) {x : Str} {ei : Expr} {mk : Kx} {m : Ex} {p pos' : Pos} (hu : X.A.units + 1 < cLine) (hk : OkK X ei mk) (he : OkE X e m) (hi : X.N[i]? = some x := by rfl) (hv : Vis X.env.scope x := by first | exact Or.inl rfl | exact Or.inr (Or.inl rfl) | exact Or.inr (Or.inr rfl)) (hd : (x == ("__debug__" : Str)) = false := by decide)
    (hcd : (x == ("__classdict__" : Str)) = false := by decide) (hs : swapsWith e (some (.Subscript (.Name x p) ei pos')) pos.line X.env = pure false := by rfl) : OkS X (.Assign [.Subscript (.Name x p) ei pos'] e pos) (sPutD i mk m) :=
  weakS (ps_dput hu (pe_var (i := i) hi hv hd hcd) hk he hs) fun E σ H ⟨H0, G0, env, G, r, rs, e, k⟩ => by
    unfold sPutD at e
    split at e
    · rename_i kvs hn
      obtain ⟨d, e1, e⟩ := Option.bind_eq_some_iff.mp e
      obtain ⟨ks, e2, e⟩ := Option.bind_eq_some_iff.mp e
      split at e
      · rename_i hl
        cases e
        refine atE rs e1 fun u G1 H1 rs1 s1 g1 r1 => ?_
        obtain ⟨a, q1, q2, q3, ys, w1, w2⟩ := rs1.rl.ow i _ hn
        refine ⟨_, q1, _, env, G1, ks, rs1.rl, e2, fun b G2 H2 g2 hb => ?_⟩
        have rs2 := rs1.grow g2
        obtain ⟨a', z1, z2, z3, ys2, y1, y2⟩ := rs2.rl.ow i _ hn
        rw [q1] at z1; cases z1
        have hb' : H2 b = some (.tup ((ks.map Sum.inl).map kV)) := by rw [hb, List.map_map]; rfl
        refine ⟨a, _, rfl, DPut.t y1 hb' (Nat.lt_of_lt_of_le (by rw [y2.length]; exact hl) (by decide)), ?_⟩
        exact k _ G2 _ (rs2.write hn q1 ⟨_, upd_same, y2.put (r1.mono g2.g _ _)⟩) (s1.trans g2.g)
      · cases e
    · cases e
/-- len(name), a dict that the def fills -/
def eLenD (i : Nat) : Ex := fun env => match env[i]? with
  | some (some (true, .dct kvs)) => some (.int (kvs.length : Nat))
  | _ => none
theorem ok_lenD (i : Nat) {x : Str} {p q : Pos} (hm : X.mg "len" = none) (hi : X.N[i]? = some x := by rfl) (hv : Vis X.env.scope x := by first | exact Or.inl rfl | exact Or.inr (Or.inl rfl) | exact Or.inr (Or.inr rfl)) (hd : (x == ("__debug__" : Str)) = false := by decide)
    (hcd : (x == ("__classdict__" : Str)) = false := by decide) (hg : Gl X "len" := by rfl) (hsa : starEach (.Name x p :: []) X.env = (false, eval (.Name x p) X.env) :: starEach [] X.env := by rfl) (hpl : (backTo pos (starEach ([] : List Expr) X.env)).any (·.1) = false := by rfl) :
    OkE X (.Call (.Name "len" q) [.Name x p] [] pos) (eLenD i) :=
  weakE (pe_callB call_len_dT hg hm PySem.boot_len (pa_cons (pe_var (i := i) hi hv hd hcd) pa_nil hsa) (by decide) (by decide) hsa hpl) fun σ H Q ⟨O, env, G, d, rl, e, k⟩ => by
    unfold eLenD at e
    split at e
    · rename_i kvs hn
      cases e
      obtain ⟨a, q1, q2, q3, ys, w1, w2⟩ := rl.ow i _ hn
      exact ⟨_, q1, a, ys, rfl, w1, by rw [w2.length]; exact k _ G H (Gr.refl rl.gh) (.int _)⟩
    · cases e
end
end Sh
end Part_ShG

section Part_ShH
set_option maxRecDepth 100000
set_option maxHeartbeats 2000000
/-! ShH: ranges as values, two for in a comprehension, isinstance, chains, pairs stored where a name is a cell, calls by the callee's promise. -/
namespace Sh
open PySem L2

section
variable {X : Cx} {pos : Pos}
/-! ### calls -/
/-- a def of data that may be called by its name -/
structure Cl (P : Program) (w : World) (K : PySem.W.Frag) (mg : Str → Option Value) (base : Heap) (k : Nat) (x : Str) (F : List D → Option D) : Prop where
  ex : ∃ (f : Addr) (fd : FuncData) (ps : List Str), FnOk P w K mg base CX0 k f fd ps (spF K F) ∧ mg x = some (.ref f) ∧ PySem.W.keepIn K (.ref f) = true ∧ Binds K fd ps []
theorem ok_cl {k j : Nat} {F : List D → Option D} {x : Str} {p : Pos} {e : Expr} {es : List Expr} {ms : Ax} (c : Cl X.prog X.w X.K X.mg X.base k x F) (hr : Room j X.A) (hj : k ≤ j) (ha : OkA X (e :: es) ms) (hg : Gl X x := by rfl) (hdb : (x == ("__debug__" : Str)) = false := by decide)
    (he : starEach (e :: es) X.env = (false, eval e X.env) :: starEach es X.env := by rfl) (hpl : (backTo pos (starEach es X.env)).any (·.1) = false := by rfl) : OkE X (.Call (.Name x p) (e :: es) [] pos) (eCB F ms) := by
  obtain ⟨f, fd, ps, h1, h2, h3, h4⟩ := c.ex
  exact ok_call h1 (hr.mono hj) h2 h3 h4 ha hg hdb he hpl
theorem ok_cl0 {k j : Nat} {F : List D → Option D} {x : Str} {p : Pos} (c : Cl X.prog X.w X.K X.mg X.base k x F) (hr : Room j X.A) (hj : k ≤ j) (hlen : F [] ≠ none) (hg : Gl X x := by rfl) (hdb : (x == ("__debug__" : Str)) = false := by decide) : OkE X (.Call (.Name x p) [] [] pos) (eCB F aNil) := by
  obtain ⟨f, fd, ps, h1, h2, h3, h4⟩ := c.ex
  obtain ⟨d, hd⟩ := Option.ne_none_iff_exists'.mp hlen
  have hz : ps = [] := by
    have z := h1.len [] (fun _ => none) (fun _ _ => True) (fun _ _ _ => True) ⟨fun _ => none, [], d, fun _ _ q => q, .nil, hd, fun _ _ _ _ _ => trivial⟩
    exact List.length_eq_zero_iff.mp z.symm
  subst hz
  exact ok_call0 h1 (hr.mono hj) h2 h3 h4 hg hdb
/-- what is never reached -/
theorem ok_never {st : Stmt} : PS X st (fun _ _ _ => False) := ⟨fun pins s σ H E I h => h.elim⟩
def sNo : Sx := fun _ => none
theorem ok_no {st : Stmt} : OkS X st sNo := weakS ok_never fun E σ H ⟨H0, G0, env, G, r, rs, e, k⟩ => by cases e

/-! ### ranges as values -/
theorem rng_it {tg : Expr} {pins : List (Addr × Obj)} {σ : L2.St} {H : Hp} {s : Shared} {R : It → Hp → Prop} {E : Value → Shared → Prop} {lo hi : Int} {a : Addr} (I : Inv X pins σ H s) (ha : H a = some (.rng lo hi)) (h1 : -(2 ^ 62) ≤ lo) (h2 : lo < 2 ^ 62) (h3 : -(2 ^ 62) ≤ hi) (h4 : hi < 2 ^ 62)
    (q : R (Itr lo (hi - lo).toNat) H) : wpAny (model X.prog X.w) X.A (pyIter (.ref a)) (PIE X pins σ tg R) E s := by
  obtain ⟨t, u, v, e⟩ := (show ObjOk X.prog X.w H s.heap a (.rng lo hi) from I.hok a _ ha)
  refine wpAny_pyIter_range e (small_one h1 h2 h3 h4) ?_
  refine ⟨s.heap.objs.size, [s.heap.objs.size], _, _, H, rfl, I.kept (t' := s.toks) fun b o e => Heap.get?_push_of_some _ e, turn_range _ lo (hi - lo).toNat, ?_, fun b hb => ?_, q⟩
  · have e1 : lo + ((0 : Nat) : Int) * 1 = lo := by simp
    have e2 : (((hi - lo).toNat : Nat) : Int) - ((0 : Nat) : Int) = Builtin.Range.rangeSize lo hi 1 := by rw [rangeSize_one]; split <;> omega
    show IsRangeIter _ _ (lo + ((0 : Nat) : Int) * 1) ((((hi - lo).toNat : Nat) : Int) - ((0 : Nat) : Int)) 1
    rw [e1, e2]
    exact Heap.get?_push_size _ rfl
  · have e : b = s.heap.objs.size := by simpa using hb
    subst e
    exact I.fpOk (Nat.le_refl _) (I.hok.fresh (Nat.le_refl _))
theorem pi_rngV {tg e : Expr} {te : TE} (he : PE X e te) : PI X tg e (fun σ H R => te σ H fun x H1 => ∃ (a : Addr) (lo hi : Int), x = .ref a ∧ H1 a = some (.rng lo hi) ∧ (-(2 ^ 62) ≤ lo ∧ lo < 2 ^ 62 ∧ -(2 ^ 62) ≤ hi ∧ hi < 2 ^ 62) ∧ R (Itr lo (hi - lo).toNat) H1) := by
  refine ⟨fun pins s σ H R I h => ?_⟩
  refine thn (he.run pins s σ H _ I h) fun v s1 ⟨x, H1, I1, r1, q1⟩ => ?_
  obtain ⟨a, lo, hi, e, ha, ⟨b1, b2, b3, b4⟩, q⟩ := q1
  subst e
  cases r1
  exact rng_it I1 ha b1 b2 b3 b4 q
def wRng (m : Ex) : Ax := fun env => (m env).bind fun d => match d with
  | .rng i j => if (-1000000 ≤ i ∧ i ≤ 1000000) ∧ -1000000 ≤ j ∧ j ≤ 1000000 then some (rangeD i (j - i).toNat) else none
  | _ => none
theorem ok_wRng {tg e : Expr} {m : Ex} (h : OkE X e m) : OkI X tg e (wRng m) := weakI (pi_rngV h) fun σ H R ⟨O, env, G, ds, rl, e, k⟩ => by
  obtain ⟨d, e1, e2⟩ := Option.bind_eq_some_iff.mp e
  refine ⟨O, env, G, d, rl, e1, fun v G1 H1 g1 r1 => ?_⟩
  split at e2
  · split at e2
    · rename_i hb
      cases e2
      cases r1 with
      | rng _ _ h1 => exact ⟨_, _, _, rfl, g1.gh _ _ h1, ⟨by omega, by omega, by omega, by omega⟩, k _ G1 H1 g1 (walks_range _ _)⟩
    · cases e2
  · cases e2
theorem cr_range1 : CallR X (.type "range") (fun vs H Q => ∃ j, vs = [V.int j] ∧ ∀ p, H p = none → Q (.ref p) (upd H p (.rng 0 j))) := by
  intro pins s σ H vs us Q I r h
  obtain ⟨j, rfl, q⟩ := h
  obtain ⟨u1, rfl, ri⟩ := vals1 r
  obtain ⟨t, rfl⟩ := ri
  refine PySem.call_range_1 ⟨.ref s.heap.objs.size, upd H s.heap.objs.size (.rng 0 j), I.laid (t' := s.toks + 2) (fun b o e => Heap.get?_push_of_some _ e) (Nat.le_refl _) ?_, rfl, q _ (I.hok.fresh (Nat.le_refl _))⟩
  exact ⟨_, _, _, Heap.get?_push_size _ rfl⟩
def cRange : List D → Option D
  | [.int j] => some (.rng 0 j)
  | _ => none
theorem sem_range1 {K : PySem.W.Frag} : SemC K (fun vs H Q => ∃ j, vs = [V.int j] ∧ ∀ p, H p = none → Q (.ref p) (upd H p (.rng 0 j))) cRange := by
  intro xs ds d G H Q e h q k
  unfold cRange at q
  split at q
  · obtain ⟨v, rfl, r⟩ := rps1 h
    cases q; cases r
    refine ⟨_, rfl, fun p hp => ?_⟩
    exact k _ _ _ (Gr.new (o := .rng 0 _) e hp) (.rng _ _ upd_same)
  · cases q
theorem ok_rangeV {e : Expr} {ms : Ax} {p : Pos} (hm : X.mg "range" = none) (ha : OkA X [e] ms) (hg : Gl X "range" := by rfl) (he : starEach (e :: []) X.env = (false, eval e X.env) :: starEach [] X.env := by rfl) (hpl : (backTo pos (starEach [] X.env)).any (·.1) = false := by rfl) :
    OkE X (.Call (.Name "range" p) [e] [] pos) (eCB cRange ms) := ok_ct cr_range1 sem_range1 hm (by decide +kernel) ha hg (by decide) (by decide) he hpl
end

/-! ### two for -/
def comp2Go (src1 : Ax) (tg1 : Gx) (el : Ex) (tg : Gx) (env0 : Env) (vs1 : List Nat) : List D → List D → Option (List D)
  | [], acc => some acc
  | d :: ds, acc => (tg d env0).bind fun env1 => (src1 env1).bind fun es => if acc.length + es.length ≤ 1000000 then (compGo tg1 bYes el (wipeE env1 vs1) es acc).bind fun acc' => if acc'.length ≤ 1000000 then comp2Go src1 tg1 el tg env0 vs1 ds acc' else none else none
def eComp2 (src : Ax) (vs vs1 : List Nat) (tg : Gx) (src1 : Ax) (tg1 : Gx) (el : Ex) : Ex := fun env => (src env).bind fun ds => (comp2Go src1 tg1 el tg (wipeE env vs) vs1 ds []).map .lst
section
variable {K : PySem.W.Frag}
theorem grLst {G1 H1 G' H' : Hp} {L : Addr} {xs : List V} (g : Gr G1 H1 G' H') (hD : H1 L = none) (hG : G' L = none) : Gr G1 H1 G' (upd H' L (.lst xs)) :=
  ⟨fun a u q => by rw [upd_ne (ne_of_none q hD)]; exact g.h a u q, g.g, fun a u q => by rw [upd_ne (fun z => by rw [z, hG] at q; cases q)]; exact g.gh a u q, g.nw⟩
theorem grNone {Ga Ha Gb Hb : Hp} {L : Addr} (gg : Gr Ga Ha Gb Hb) (h1 : Ga L = none) {u : HO} (h2 : Ha L = some u) : Gb L = none := by
  cases q : Gb L with
  | none => rfl
  | some o =>
    rcases gg.nw L o q with z | z
    · rw [h1] at z; cases z
    · rw [h2] at z; cases z
theorem Rl.more {O P : Addr → Prop} {env : Env} {σ : L2.St} {G H : Hp} (r : Rl K O env σ G H) (hp : ∀ a u, H a = some u → P a) : Rl K (fun a => O a ∧ P a) env σ G H where
  gh := r.gh
  len := r.len
  fr := r.fr
  ow := fun i d h => let ⟨a, q1, q2, q3, q4⟩ := r.ow i d h; ⟨a, q1, q2, ⟨q3, let ⟨u, hu⟩ := q4.there; hp a u hu⟩, q4⟩
  dj := r.dj
theorem Rl.outer {O P : Addr → Prop} {env : Env} {σ : L2.St} {G H : Hp} (r : Rl K (fun a => O a ∧ P a) env σ G H) : Rl K O env σ G H where
  gh := r.gh
  len := r.len
  fr := r.fr
  ow := fun i d h => let ⟨a, q1, q2, q3, q4⟩ := r.ow i d h; ⟨a, q1, q2, q3.1, q4⟩
  dj := r.dj
theorem stepComp2 {src : Ax} {vs vs1 : List Nat} {tgt : Gx} {src1 : Ax} {tgt1 : Gx} {el : Ex} {σ : L2.St} {H : Hp} {Q : VK} (h : tE K (eComp2 src vs vs1 tgt src1 tgt1 el) σ H Q) :
    tLc2 (tI K src) (tG K vs tgt) (tT K bYes) (tI K src1) (tG K vs1 tgt1) (tT K bYes) (tE K el) vs vs1 σ H Q := by
  obtain ⟨O, env, G, d, rl, e, k⟩ := h
  obtain ⟨ds, e1, e2⟩ := Option.bind_eq_some_iff.mp e
  obtain ⟨out, e3, e4⟩ := Option.map_eq_some_iff.mp e2
  subst e4
  refine ⟨O, env, G, ds, rl, e1, fun J G1 H1 g1 wk L hD => ?_⟩
  have rl0 : Rl K (fun a => O a ∧ a ≠ L) (wipeE env vs) (wipe σ vs) G1 H1 := ((rl.grow g1).wiped vs).more fun a u hu => ne_of_none hu hD
  have hL1 : G1 L = none := by
    cases q : G1 L with
    | none => rfl
    | some o => rw [g1.gh _ _ q] at hD; cases hD
  refine ⟨fun i m H' => m = ds.length - i ∧ i ≤ ds.length ∧ ∃ (G' : Hp) (acc : List D) (ys : List V), Gr G1 H1 G' H' ∧ G' L = none ∧ H' L = some (.lst ys) ∧ Rps K G' ys acc ∧ comp2Go src1 tgt1 el tgt (wipeE env vs) vs1 (ds.drop i) acc = some out,
    ⟨ds.length, by simp, Nat.zero_le _, G1, [], [], ?_, hL1, upd_same, .nil, by simpa using e3⟩, ?_⟩
  · exact grLst (Gr.refl g1.gh) hD hL1
  rintro i m H' ⟨rfl, hi, G', acc, ys, g, hG, hH, ra, hgo⟩
  obtain ⟨wstop, wgo⟩ := wk i G' H' g.g g.gh
  by_cases hlt : i < ds.length
  · have hd : ds[i]? = some ds[i] := by simp [hlt]
    obtain ⟨go, yl⟩ := wgo _ hd
    refine .inr ⟨go, fun H2 => i + 1 ≤ ds.length ∧ ∃ (G' : Hp) (acc : List D) (ys : List V), Gr G1 H1 G' H2 ∧ G' L = none ∧ H2 L = some (.lst ys) ∧ Rps K G' ys acc ∧ comp2Go src1 tgt1 el tgt (wipeE env vs) vs1 (ds.drop (i + 1)) acc = some out,
      fun H2 ⟨p1, p2⟩ => ⟨ds.length - (i + 1), by omega, rfl, p1, p2⟩, fun x H2 hy => ?_⟩
    obtain ⟨G2, g2, r2⟩ := yl x H2 hy
    rw [List.drop_eq_getElem_cons hlt] at hgo
    unfold comp2Go at hgo
    obtain ⟨env1, t1, hgo⟩ := Option.bind_eq_some_iff.mp hgo
    obtain ⟨es, t2, hgo⟩ := Option.bind_eq_some_iff.mp hgo
    split at hgo
    case isFalse => cases hgo
    rename_i hroom
    obtain ⟨acc', t3, hgo⟩ := Option.bind_eq_some_iff.mp hgo
    split at hgo
    case isFalse => cases hgo
    have hG2 := grNone g2 hG hH
    have hH2 := g2.h _ _ hH
    have rl2 := rl0.grow (g.trans g2)
    refine ⟨_, _, G2, _, env1, rl2, r2, t1, fun σ2 rl3 w3 => ⟨?_, _, env1, G2, true, rl3, rfl, fun G3 H3 g3 => ?_⟩⟩
    · rw [wipe_wipe] at w3; exact w3
    have hG3 := grNone g3 hG2 hH2
    have hH3 := g3.h _ _ hH2
    have rl3' := rl3.grow g3
    show tI K src1 σ2 H3 _
    refine ⟨_, env1, G3, es, rl3', t2, fun J1 G4 H4 g4 wk1 => ?_⟩
    have hG4 := grNone g4 hG3 hH3
    have hH4 := g4.h _ _ hH3
    have rl4 := (rl3'.grow g4).wiped vs1
    have gA := ((g.trans g2).trans g3).trans g4
    have ra4 := ((ra.mono g2.g _ _).mono g3.g _ _).mono g4.g _ _
    refine ⟨fun j m H' => m = es.length - j ∧ j ≤ es.length ∧ ∃ (G' : Hp) (acc1 : List D) (ys : List V), Rl K (fun a => O a ∧ a ≠ L) (wipeE env1 vs1) (wipe σ2 vs1) G' H' ∧ Same G4 G' ∧ Gr G1 H1 G' H' ∧ G' L = none ∧ H' L = some (.lst ys) ∧ Rps K G' ys acc1 ∧ acc1.length + (es.length - j) ≤ 1000000 ∧ compGo tgt1 bYes el (wipeE env1 vs1) (es.drop j) acc1 = some acc',
      ⟨es.length, by simp, Nat.zero_le _, G4, acc, ys, rl4, Same.refl G4, gA, hG4, hH4, ra4, by omega, by simpa using t3⟩, ?_⟩
    rintro j m H' ⟨rfl, hj, G', acc1, zs, rlj, s4, gj, hGj, hHj, raj, hrm, hgoj⟩
    obtain ⟨wstop1, wgo1⟩ := wk1 j G' H' s4 rlj.gh
    by_cases hlj : j < es.length
    · obtain ⟨go1, yl1⟩ := wgo1 es[j] (by simp [hlj])
      refine .inr ⟨go1, fun H' => j + 1 ≤ es.length ∧ ∃ (G' : Hp) (acc1 : List D) (ys : List V), Rl K (fun a => O a ∧ a ≠ L) (wipeE env1 vs1) (wipe σ2 vs1) G' H' ∧ Same G4 G' ∧ Gr G1 H1 G' H' ∧ G' L = none ∧ H' L = some (.lst ys) ∧ Rps K G' ys acc1 ∧ acc1.length + (es.length - (j + 1)) ≤ 1000000 ∧ compGo tgt1 bYes el (wipeE env1 vs1) (es.drop (j + 1)) acc1 = some acc',
        fun H2 ⟨p1, p2⟩ => ⟨es.length - (j + 1), by omega, rfl, p1, p2⟩, fun x H5 hy => ?_⟩
      obtain ⟨G5, g5, r5⟩ := yl1 x H5 hy
      rw [List.drop_eq_getElem_cons hlj] at hgoj
      obtain ⟨env2, t5, hgoj⟩ := Option.bind_eq_some_iff.mp (show ((tgt1 es[j] (wipeE env1 vs1)).bind fun env2 => (bYes env2).bind fun c => if c then (el env2).bind fun y => compGo tgt1 bYes el (wipeE env1 vs1) (es.drop (j + 1)) (acc1 ++ [y]) else compGo tgt1 bYes el (wipeE env1 vs1) (es.drop (j + 1)) acc1) = some acc' from hgoj)
      have hG5 := grNone g5 hGj hHj
      have hH5 := g5.h _ _ hHj
      refine ⟨_, _, G5, _, env2, rlj.grow g5, r5, t5, fun σ3 rl6 w6 => ⟨?_, _, env2, G5, true, rl6, rfl, fun G6 H6 g6 => ?_⟩⟩
      · rw [wipe_wipe] at w6; exact w6
      have hG6 := grNone g6 hG5 hH5
      have hH6 := g6.h _ _ hH5
      show tE K el σ3 H6 _
      obtain ⟨y, t7, hgoj⟩ := Option.bind_eq_some_iff.mp (show (el env2).bind (fun y => compGo tgt1 bYes el (wipeE env1 vs1) (es.drop (j + 1)) (acc1 ++ [y])) = some acc' from hgoj)
      refine ⟨_, env2, G6, y, rl6.grow g6, t7, fun v G7 H7 g7 r7 => ?_⟩
      have hG7 := grNone g7 hG6 hH6
      have hH7 := g7.h _ _ hH6
      have gg := (g5.trans g6).trans g7
      have ra7 := raj.mono gg.g _ _
      refine ⟨zs, hH7, by rw [raj.length]; exact Nat.lt_of_lt_of_le (by omega : acc1.length < 1000000) (by decide), hlj, G7, acc1 ++ [y], zs ++ [v], ?_, s4.trans gg.g, grLst (gj.trans gg) hD hG7, hG7, upd_same, ra7.snoc r7, by simp; omega, hgoj⟩
      refine (rlj.grow gg).other hG7 fun a ⟨i, d, h1, h2⟩ => ?_
      obtain ⟨b, q1, q2, q3, q4⟩ := rlj.ow i d h1
      rw [h2] at q1; cases q1
      exact q3.2
    · have hje : j = es.length := by omega
      rw [List.drop_eq_nil_of_le (by omega)] at hgoj
      cases hgoj
      exact .inl ⟨wstop1 (by omega), hlt, G', _, zs, gj, hGj, hHj, raj, hgo⟩
  · have hie : i = ds.length := by omega
    refine .inl ⟨wstop (by omega), ?_⟩
    rw [List.drop_eq_nil_of_le (by omega)] at hgo
    cases hgo
    have g3 : Gr G1 H1 (upd G' L (.lst ys)) H' := by
      refine ⟨g.h, fun a u q => ?_, fun a u q => ?_, fun a u q => ?_⟩
      · have z := g.g a u q
        rw [upd_ne (fun w => by rw [w, hG] at z; cases z)]
        exact z
      · by_cases ha : a = L
        · subst ha; rw [upd_same] at q; cases q; exact hH
        · rw [upd_ne ha] at q; exact g.gh a u q
      · by_cases ha : a = L
        · subst ha; exact .inr hD
        · rw [upd_ne ha] at q; exact g.nw a u q
    have eG : Same G' (upd G' L (.lst ys)) := fun a u q => by rw [upd_ne (fun w => by rw [w, hG] at q; cases q)]; exact q
    exact k _ _ _ (g1.trans g3) (.lst upd_same (ra.mono eG _ _))
end
section
variable {X : Cx} {pos : Pos}
theorem ok_comp2 {elt tg iter tg1 iter1 : Expr} {scope : Scope} {own : List (Str × Nat)} {vs1 : List Nat} {src src1 : Ax} {tgt tgt1 : Gx} {el : Ex} (hc : X.calm = true) (hN : X.N.Nodup) (hi : OkI X tg iter src) (ok : blkC X.N X.env.scope scope own = true) (hv : ∀ i ∈ vs1, i ∈ own.map (·.2))
    (hg : ∀ (s : Shared) (H : Hp) (C : Addr) (cl : List (Str × Addr)) (fp : List Addr), OkG (X.blk s H scope (compEnvC scope cl C X.env) fp) (own.map (·.2)) tg tgt) (hi1 : ∀ (s : Shared) (H : Hp) (C : Addr) (cl : List (Str × Addr)) (fp : List Addr), OkI (X.blk s H scope (compEnvC scope cl C X.env) fp) tg1 iter1 src1)
    (hg1 : ∀ (s : Shared) (H : Hp) (C : Addr) (cl : List (Str × Addr)) (fp : List Addr), OkG (X.blk s H scope (compEnvC scope cl C X.env) fp) vs1 tg1 tgt1) (he : ∀ (s : Shared) (H : Hp) (C : Addr) (cl : List (Str × Addr)) (fp : List Addr), OkE (X.blk s H scope (compEnvC scope cl C X.env) fp) elt el)
    (hs : ∀ x, foldedSetIterable iter X.env x = pure x := by intro _; rfl) (hs1 : ∀ env x, foldedSetIterable iter1 env x = pure x := by intro _ _; rfl) : OkE X (.ListComp elt [⟨tg, iter, [], 0⟩, ⟨tg1, iter1, [], 0⟩] scope pos) (eComp2 src (own.map (·.2)) vs1 tgt src1 tgt1 el) :=
  weakE (pe_lc2 (wi := tI X.K src) (own := own) (vs1 := vs1) (g := tG X.K (own.map (fun p : Str × Nat => p.2)) tgt) (tt := tT X.K bYes) (wi1 := tI X.K src1) (g1 := tG X.K vs1 tgt1) (tt1 := tT X.K bYes) (te := tE X.K el) hc hN hi (blkOk_by ok) hv hg (fun _ _ _ _ _ => ok_tsNil) hi1 hg1 (fun _ _ _ _ _ => ok_tsNil) he hs hs1) fun σ H Q h => stepComp2 h

/-! ### isinstance -/
def tyD : D → Option String
  | .non => some "NoneType"
  | .bl _ => some "bool"
  | .int _ => some "int"
  | .str _ => some "str"
  | .tup _ => some "tuple"
  | .lst _ => some "list"
  | _ => none
theorem Rp.ty {K : PySem.W.Frag} {H : Hp} {d : D} {v : V} {t : String} (r : Rp K H v d) (e : tyD d = some t) : TyX K H v (.type t) := by
  cases r with
  | non => cases e; exact .base .non
  | bl b => cases e; exact .base (.bl b)
  | int i => cases e; exact .base (.int i)
  | str x => cases e; exact .base (.str x)
  | tup h1 h2 =>
    cases e
    rcases h1 with (h | ⟨o, h⟩) | ⟨o, vs, n, h, c, _⟩
    · exact .base (.tup h)
    · exact .fTuple h
    · exact .kTuple h c
  | lst h1 h2 => cases e; exact .base (.lst h1)
  | _ => cases e
def eIsi (T : String) (m : Ex) : Ex := fun env => (m env).bind fun d => (tyD d).bind fun t => (kitB t T).map .bl
def eIsi2 (T U : String) (m : Ex) : Ex := fun env => (m env).bind fun d => (tyD d).bind fun t => (kitB t T).bind fun b => if b then some (.bl true) else (kitB t U).map .bl
theorem ok_isi (T : String) {e : Expr} {m : Ex} {x : Str} {p q : Pos} (hm : X.mg "isinstance" = none) (hmT : X.mg x = none) (hvT : bootBuiltins x = some (.type T)) (he : OkE X e m) (hg : Gl X "isinstance" := by rfl) (hgT : Gl X x := by rfl) (hnT : x ≠ "__name__" := by decide) (hdT : (x == ("__debug__" : Str)) = false := by decide)
    (h1 : starEach (e :: [.Name x q]) X.env = (false, eval e X.env) :: starEach [.Name x q] X.env := by rfl) (h2 : starEach (.Name x q :: []) X.env = (false, eval (.Name x q) X.env) :: starEach [] X.env := by rfl) (hpl : (backTo pos (starEach [.Name x q] X.env)).any (·.1) = false := by rfl) :
    OkE X (.Call (.Name "isinstance" p) [e, .Name x q] [] pos) (eIsi T m) :=
  weakE (pe_callB call_isi hg hm (by decide +kernel) (pa_cons he (pa_cons (pe_bltn hgT hmT hvT (show RelV (.ty T) (.type T) from rfl) hnT hdT) pa_nil h2) h1) (by decide) (by decide) h1 hpl) fun σ H Q ⟨O, env, G, d, rl, e, k⟩ => by
    obtain ⟨dx, e1, e⟩ := Option.bind_eq_some_iff.mp e
    obtain ⟨t, e2, e⟩ := Option.bind_eq_some_iff.mp e
    obtain ⟨b, e3, e4⟩ := Option.map_eq_some_iff.mp e
    subst e4
    refine ⟨O, env, G, dx, rl, e1, fun v G1 H1 g1 r1 => ?_⟩
    exact ⟨v, .ty T, .type t, .type T, b, rfl, .ty T, (r1.mono g1.gh _ _).ty e2, kit_ty e3, k _ G1 H1 g1 (.bl b)⟩
theorem ok_isi2 (T U : String) {e : Expr} {m : Ex} {x y : Str} {p q q2 q3 : Pos} {kk : Nat} (hm : X.mg "isinstance" = none) (hmT : X.mg x = none) (hvT : bootBuiltins x = some (.type T)) (hmU : X.mg y = none) (hvU : bootBuiltins y = some (.type U)) (he : OkE X e m) (hg : Gl X "isinstance" := by rfl)
    (hgT : Gl X x := by rfl) (hnT : x ≠ "__name__" := by decide) (hdT : (x == ("__debug__" : Str)) = false := by decide) (hgU : Gl X y := by rfl) (hnU : y ≠ "__name__" := by decide) (hdU : (y == ("__debug__" : Str)) = false := by decide)
    (h1 : starEach (e :: [.Tuple [.Name x q, .Name y q2] kk q3]) X.env = (false, eval e X.env) :: starEach [.Tuple [.Name x q, .Name y q2] kk q3] X.env := by rfl) (h2 : starEach (.Tuple [.Name x q, .Name y q2] kk q3 :: []) X.env = (false, eval (.Tuple [.Name x q, .Name y q2] kk q3) X.env) :: starEach [] X.env := by rfl)
    (h3 : starEach (.Name x q :: [.Name y q2]) X.env = (false, eval (.Name x q) X.env) :: starEach [.Name y q2] X.env := by rfl) (h4 : starEach (.Name y q2 :: []) X.env = (false, eval (.Name y q2) X.env) :: starEach [] X.env := by rfl) (hpl : (backTo pos (starEach [.Tuple [.Name x q, .Name y q2] kk q3] X.env)).any (·.1) = false := by rfl) :
    OkE X (.Call (.Name "isinstance" p) [e, .Tuple [.Name x q, .Name y q2] kk q3] [] pos) (eIsi2 T U m) :=
  weakE (pe_callB call_isiT hg hm (by decide +kernel) (pa_cons he (pa_cons (pe_tup (pa_cons (pe_bltn hgT hmT hvT (show RelV (.ty T) (.type T) from rfl) hnT hdT) (pa_cons (pe_bltn hgU hmU hvU (show RelV (.ty U) (.type U) from rfl) hnU hdU) pa_nil h4) h3)) pa_nil h2) h1) (by decide) (by decide) h1 hpl) fun σ H Q ⟨O, env, G, d, rl, e, k⟩ => by
    obtain ⟨dx, e1, e⟩ := Option.bind_eq_some_iff.mp e
    obtain ⟨t, e2, e⟩ := Option.bind_eq_some_iff.mp e
    obtain ⟨b, e3, e4⟩ := Option.bind_eq_some_iff.mp e
    refine ⟨O, env, G, dx, rl, e1, fun v G1 H1 g1 r1 => ⟨by show 2 ≤ sizeLine; decide, fun p hp => ?_⟩⟩
    have g2 := Gr.new (o := .tup [.ty T, .ty U]) g1.gh hp
    have r2 := (r1.mono g1.gh _ _).mono g2.h _ _
    cases b with
    | true =>
      cases e4
      exact ⟨v, p, _, .type t, [.type T, .type U], true, rfl, upd_same, .cons (.ty T) (.cons (.ty U) .nil), r2.ty e2, kitAny_cons (kit_ty e3) (fun z => by cases z) fun _ => rfl, k _ _ _ (g1.trans g2) (.bl _)⟩
    | false =>
      obtain ⟨b2, e5, e6⟩ := Option.map_eq_some_iff.mp (show (kitB t U).map D.bl = some d from e4)
      subst e6
      refine ⟨v, p, _, .type t, [.type T, .type U], b2, rfl, upd_same, .cons (.ty T) (.cons (.ty U) .nil), r2.ty e2, kitAny_cons (kit_ty e3) (fun _ => kitAny_cons (kit_ty e5) (fun z => by rw [z]; exact kitAny_nil) fun z => z) (fun z => by cases z), k _ _ _ (g1.trans g2) (.bl _)⟩

/-! ### chains -/
def eChain (s1 s2 : D → D → Option D) (a b c : Ex) : Ex := fun env => (a env).bind fun x => (b env).bind fun y => (s1 x y).bind fun z => match z with
  | .bl true => (c env).bind fun w => s2 y w
  | .bl false => some (.bl false)
  | _ => none
theorem ok_chain {a b c : Expr} {ma mb mc : Ex} {op op' : CmpOp} {r r' : R2} {s1 s2 : D → D → Option D} (ho : OpR X (compareOp op) r) (hs : SemP X.K r s1) (ho' : OpR X (compareOp op') r') (hs' : SemP X.K r' s2) (ha : OkE X a ma) (hb : OkE X b mb) (hc : OkE X c mc)
    (hm : lastMarks [op, op'] [b, c] = false := by with_unfolding_all rfl) : OkE X (.Compare a [op, op'] [b, c] pos) (eChain s1 s2 ma mb mc) :=
  weakE (pe_chain ho ho' ha hb hc hm) fun σ H Q ⟨O, env, G, d, rl, e, k⟩ => by
    obtain ⟨x, e1, e⟩ := Option.bind_eq_some_iff.mp e
    obtain ⟨y, e2, e⟩ := Option.bind_eq_some_iff.mp e
    obtain ⟨z, e3, e⟩ := Option.bind_eq_some_iff.mp e
    refine ⟨O, env, G, x, rl, e1, fun v G1 H1 g1 r1 => ⟨O, env, G1, y, rl.grow g1, e2, fun u G2 H2 g2 r2 => ?_⟩⟩
    have r1' := (r1.mono g2.g _ _).mono g2.gh _ _
    refine hs v u x y z H2 _ r1' (r2.mono g2.gh _ _) e3 fun w hw => ?_
    split at e
    · obtain ⟨c', e4, e5⟩ := Option.bind_eq_some_iff.mp e
      have hw' := hw (fun _ => none)
      cases hw'
      refine ⟨true, rfl, ?_⟩
      rw [if_pos rfl]
      refine ⟨O, env, G2, c', (rl.grow g1).grow g2, e4, fun w' G3 H3 g3 r3 => ?_⟩
      exact hs' u w' y c' d H3 Q ((r2.mono g3.g _ _).mono g3.gh _ _) (r3.mono g3.gh _ _) e5 fun q hq => k q G3 H3 ((g1.trans g2).trans g3) (hq G3)
    · cases e
      have hw' := hw (fun _ => none)
      cases hw'
      refine ⟨false, rfl, ?_⟩
      rw [if_neg (by decide)]
      exact k _ G2 H2 (g1.trans g2) (.bl _)
    · cases e
end

/-! ### a, b = x, y where one of them is a cell -/
section
variable {X : Cx} {pos : Pos}
theorem ok_parC (i j : Nat) {a b : Expr} {x y : Str} {m n : Fx} {px py pt : Pos} {kt k2 pt2} (hc : X.calm = true) (hN : X.N.Nodup) (ha : OkF X a m) (hb : OkF X b n) (hi : X.N[i]? = some x := by rfl) (hj : X.N[j]? = some y := by rfl)
    (hx : Loc X.env.scope x := by first | exact Or.inl rfl | exact Or.inr rfl) (hfx : X.fn x = true ∨ X.env.scope.names.lookup x = some .local := by first | exact .inl rfl | exact .inr rfl) (hy : Loc X.env.scope y := by first | exact Or.inl rfl | exact Or.inr rfl) (hfy : X.fn y = true ∨ X.env.scope.names.lookup y = some .local := by first | exact .inl rfl | exact .inr rfl)
    (hw : swappedStores [.Tuple [.Name x px, .Name y py] kt pt] (.Tuple [a, b] k2 pt2) X.env = pure none := by rfl)
    (hs : swapsWithSole [.Tuple [.Name x px, .Name y py] kt pt] (.Tuple [a, b] k2 pt2) pos.line X.env = pure false := by rfl)
    (h1 : (assignEach [.Tuple [.Name x px, .Name y py] kt pt] X.env).map (·.2) = [assign (.Tuple [.Name x px, .Name y py] kt pt) X.env] := by rfl)
    (hn : (assignEach [.Name x px, .Name y py] X.env).length = 2 := by rfl) (hst : (assignEach [.Name x px, .Name y py] X.env).findIdx? (·.1) = none := by rfl)
    (hp1 : (assignEach (.Name x px :: [.Name y py]) X.env).map (·.2) = assign (.Name x px) X.env :: (assignEach [.Name y py] X.env).map (·.2) := by rfl) (hp2 : (assignEach (.Name y py :: []) X.env).map (·.2) = assign (.Name y py) X.env :: (assignEach [] X.env).map (·.2) := by rfl)
    (hsa : starEach (a :: [b]) X.env = (false, eval a X.env) :: starEach [b] X.env := by rfl) (hsb : starEach (b :: []) X.env = (false, eval b X.env) :: starEach [] X.env := by rfl) :
    OkS X (.Assign [.Tuple [.Name x px, .Name y py] kt pt] (.Tuple [a, b] k2 pt2) pos) (sPar i j m n) :=
  weakS (ps_asg (pe_tup (pa_cons ha (pa_cons hb pa_nil hsb) hsa)) (pg_tup hc (pgs_cons (pg_name hN hi hx hfx) (pgs_cons (pg_name hN hj hy hfy) pgs_nil hp2) hp1) hn hst) hs hw h1) fun E σ H ⟨H0, G0, env, G, r, rs, e, k⟩ => by
    obtain ⟨f, e1, e⟩ := Option.bind_eq_some_iff.mp e
    obtain ⟨g, e2, e⟩ := Option.bind_eq_some_iff.mp e
    split at e
    · rename_i hl
      cases e
      refine ⟨_, env, G, f, rs.rl, e1, fun v G1 H1 g1 r1 => ⟨_, env, G1, g, (rs.grow g1).rl, e2, fun u G2 H2 g2 r2 => ⟨by show 2 ≤ sizeLine; decide, fun p hp => ?_⟩⟩⟩
      have a1 : Rs X.K H0 G0 (env.set i (some f)) (σ.set i (some v)) G1 H1 := rs.putF g1 r1 hl.1
      have a2 := a1.putF g2 r2 (i := j) (by simpa using hl.2)
      have g3 := Gr.own (o := .tup [v, u]) g2.gh hp
      refine ⟨p, [v, u], rfl, SqT.of upd_same, rfl, v, [u], rfl, u, [], rfl, rfl, ?_⟩
      exact k _ G2 _ (a2.grow g3) (g1.g.trans g2.g)
    · cases e
end
/-- built-in names that the text leaves as they are -/
structure Bt (mg : Str → Option Value) : Prop where
  len : mg "len" = none
  abs : mg "abs" = none
  int : mg "int" = none
  list : mg "list" = none
  tuple : mg "tuple" = none
  all : mg "all" = none
  any : mg "any" = none
  sum : mg "sum" = none
  max : mg "max" = none
  min : mg "min" = none
  range : mg "range" = none
  enumerate : mg "enumerate" = none
  zip : mg "zip" = none
  isinstance : mg "isinstance" = none
  bool : mg "bool" = none
  str : mg "str" = none
  repr : mg "repr" = none
  sorted : mg "sorted" = none
end Sh
end Part_ShH

section Part_ShR
set_option maxRecDepth 100000
set_option maxHeartbeats 2000000
/-! ShR: repr of data where no repr is under way; a law whose promise is asked at the head's own place alone. -/
namespace Sh
open PySem L2
/-! ### repr -/
def rRepr (K : PySem.W.Frag) : List V → Hp → VK → Prop := fun xs H Q => ∃ (a : Addr) (p : PyData), xs = [.ref a] ∧ Dp K H (.ref a) p ∧ p.showable = true ∧ p.hasDict = false ∧ p.depth ≤ 40 ∧ p.shown.length ≤ sizeLine ∧ Q (.str p.shown) H
theorem call_repr {X : Cx} (hg : X.A.guards = some []) (hu : X.A.units + 64 < cLine) : CallR X (.builtin "repr") (rRepr X.K) := by
  intro pins s σ H xs us Q I r h
  obtain ⟨a, p, rfl, hD, h1, h2, h3, h4, q⟩ := h
  obtain ⟨u, rfl, ru⟩ := vals1 r
  cases ru
  obtain ⟨as, hr⟩ := Dp.reads I p (.ref a) (.ref a) hD rfl
  exact repr_of_reads' (h₀ := s.heap) hr h1 (fun z => by rw [h2] at z; cases z) hg (by omega) (fun b o e => e) (fun h' u tk k => ⟨.str p.shown, H, I.kept (t' := tk) k, ⟨u, rfl⟩, q⟩) h4

/-! ### the law's own call -/
/-- what the law's def promises where the head calls it -/
def Run (P : Program) (w : World) (K : PySem.W.Frag) (mg : Str → Option Value) (base : Heap) (CX : CXT) (fa : Addr) (sp : Sp) : Prop :=
  ∀ (s : Shared) (H : Hp) (u : Value) (v : V) (Q : VK) (E : XK), Env0 P w K mg base callerA [] s H → RelV v u → sp [v] H Q E → codeAny (model P w) callerA (.call (.ref fa) ⟨[u], []⟩) (CR CX [] P w H s Q E) s
/-- the head's abstract heap: the script, if it is not the module's own; the tables -/
def H1 (K : PySem.W.Frag) (ts : List Addr) (a : Addr) (o : Obj) (xs : List V) : Hp := fun b => if b ∈ ts then some (.tbl #[]) else if b = a ∧ K.lookup a = none then some (.frz o (.lst xs)) else none
section
variable {K : PySem.W.Frag} {ts : List Addr} {a : Addr} {o : Obj} {xs : List V}
theorem H1_tab {b : Addr} (h : b ∈ ts) : H1 K ts a o xs b = some (.tbl #[]) := if_pos h
theorem H1_cases (b : Addr) : (b ∈ ts ∧ H1 K ts a o xs b = some (.tbl #[])) ∨ (b ∉ ts ∧ b = a ∧ K.lookup a = none ∧ H1 K ts a o xs b = some (.frz o (.lst xs))) ∨ (b ∉ ts ∧ (b = a → K.lookup a ≠ none) ∧ H1 K ts a o xs b = none) := by
  by_cases h : b ∈ ts
  · exact .inl ⟨h, if_pos h⟩
  · by_cases h2 : b = a ∧ K.lookup a = none
    · exact .inr (.inl ⟨h, h2.1, h2.2, by unfold H1; rw [if_neg h, if_pos h2]⟩)
    · exact .inr (.inr ⟨h, fun e z => h2 ⟨e, z⟩, by unfold H1; rw [if_neg h, if_neg h2]⟩)
end
theorem law_run {P : Program} {w : World} {K : PySem.W.Frag} {mg mb : Str → Option Value} {CX : CXT} {fa a : Addr} {cs : List (Addr × Addr)} {sp : Sp} {s : Shared} {vs : List Value} {ns : List Int}
    (KX : K.In s.heap) (hns : s.heap.Ns mainGlobals mg) (hb : s.heap.Ns builtinsNs mb) (hbb : ∀ x : Str, x ≠ "__name__" → mb x = bootBuiltins x) (hlim : s.heap.NoLimit) (hg : s.gens = #[])
    (hT : ∀ p ∈ cs, s.heap.get? p.2 = some { cls := .none, data := .fields #[] }) (nT : ∀ p ∈ cs, K.lookup p.2 = none) (C : ∀ p ∈ cs, PySem.W.CodeHd s.heap p.1 p.2)
    (hbm : ∃ (bm : Addr) (ob : Obj), mg "__builtins__" = some (.ref bm) ∧ bm ≠ builtinsNs ∧ s.heap.get? bm = some ob ∧ ob.cls = .type "module" ∧ ob.dict = some builtinsNs ∧ ob.data = .plain)
    (ha : s.heap.get? a = some { cls := .type "list", data := .seq vs.toArray }) (hi : PyProof.Rows.IntsAre vs ns) (hl : ns.length ≤ sizeLine)
    (F : ∀ base : Heap, K.In base → base.Ns mainGlobals mg → (∀ p ∈ cs, LamX.TabB base mg p.1 p.2) → Run P w K mg base CX fa sp)
    (hsp : ∀ H : Hp, (∀ p ∈ cs, H p.2 = some (.tbl #[])) → SqL K H a (ns.map V.int) → sp [.ref a] H (fun v _ => v = .bl true) fun _ _ _ => False)
    (hCX : ∀ H e s', CX [] H s (fun _ _ _ => False) e s' → False) :
    codeAny (model P w) callerA (.call (.ref fa) ⟨[.ref a], []⟩) (fun r s' => r = .ok (.ret (.bool true)) ∧ OldK s.heap s'.heap ∧ s'.os = s.os ∧ PyProof.Rows.AllBare s'.gens) s := by
  let so : Obj := { cls := .type "list", data := .seq vs.toArray }
  let H : Hp := H1 K (cs.map (·.2)) a so (ns.map V.int)
  have rv : Vals (ns.map V.int) vs := vals_ints hi
  have hlen : vs.length ≤ sizeLine := by rw [hi.length]; exact hl
  -- what stands at a tracked place
  have tabAt : ∀ b, b ∈ cs.map (·.2) → s.heap.get? b = some { cls := .none, data := .fields #[] } ∧ K.lookup b = none := fun b hb => by
    obtain ⟨p, hp, e⟩ := List.mem_map.mp hb
    rw [← e]
    exact ⟨hT p hp, nT p hp⟩
  have looks : ∀ b, (H b = none) ∨ (H b = some (.tbl #[]) ∧ s.heap.get? b = some { cls := .none, data := .fields #[] } ∧ K.lookup b = none) ∨ (H b = some (.frz so (.lst (ns.map V.int))) ∧ s.heap.get? b = some so ∧ K.lookup b = none) := fun b => by
    rcases H1_cases (K := K) (ts := cs.map (·.2)) (a := a) (o := so) (xs := ns.map V.int) b with ⟨h1, h2⟩ | ⟨_, h2, h3, h4⟩ | ⟨_, _, h3⟩
    · exact .inr (.inl ⟨h2, tabAt b h1⟩)
    · refine .inr (.inr ⟨h4, ?_, ?_⟩)
      · rw [h2]; exact ha
      · rw [h2]; exact h3
    · exact .inl h3
  -- what is neither a list nor a record is not tracked
  have untr : ∀ {b : Addr} {o : Obj}, s.heap.get? b = some o → (∀ (x : Array Value) (n : Nat), o.data ≠ .seq x n) → o.data ≠ .fields #[] → (hidT s.heap H).get? b = some o := fun {b o} e h1 h2 => by
    refine hidT_get e ?_
    rcases looks b with z | ⟨_, z, _⟩ | ⟨_, z, _⟩
    · exact z
    · rw [e] at z; cases z; exact (h2 rfl).elim
    · rw [e] at z; cases z; exact (h1 _ _ rfl).elim
  have ns' : ∀ {b : Addr} {m : Str → Option Value}, s.heap.Ns b m → (hidT s.heap H).Ns b m := fun {b m} ⟨o, es, ep, e, d, r⟩ =>
    ⟨o, es, ep, untr e (fun x n z => by rw [d] at z; cases z) (fun z => by rw [d] at z; cases z), d, r⟩
  have kin : K.In (hidT s.heap H) := fun b o e => hidT_get (KX b o e) (by
    rcases looks b with z | ⟨_, _, z⟩ | ⟨_, _, z⟩
    · exact z
    · rw [e] at z; cases z
    · rw [e] at z; cases z)
  have md : L2.Mod K mg (hidT s.heap H) := ⟨kin, ns' hns, ⟨mb, ns' hb, hbb⟩, let ⟨mc, h1, h2⟩ := hlim; ⟨mc, ns' h1, h2⟩⟩
  have tb : ∀ p ∈ cs, LamX.TabB (hidT s.heap H) mg p.1 p.2 := fun p hp => by
    have isT := hT p hp
    refine ⟨?_, ?_, fun z => ?_⟩
    · obtain ⟨o, us, file, tf, flags, tg, inF, text, tt, e1, r1, r2, r3, rest⟩ := C p hp
      exact ⟨o, us, file, tf, flags, tg, inF, text, tt, untr e1 (fun x n z => by rw [r2] at z; cases z) (fun z => by rw [r2] at z; cases z; simp at r3), r1, r2, r3, rest⟩
    · obtain ⟨bm, ob, b1, b2, b3, b4, b5, b6⟩ := hbm
      refine ⟨bm, ob, b1, b2, fun q => ?_, fun q => ?_, untr b3 (fun x n z => by rw [b6] at z; cases z) (fun z => by rw [b6] at z; cases z), b4, b5, b6⟩
      · obtain ⟨o, es, ep, e, hd, _⟩ := hns
        rw [q, e] at b3; cases b3
        rw [hd] at b6; cases b6
      · rw [q, isT] at b3; cases b3; cases b6
    · obtain ⟨o, es, ep, e, hd, _⟩ := hns
      rw [z, isT] at e; cases e; cases hd
  have hok : HOk P w H s.heap := fun b u e => by
    rcases looks b with z | ⟨z, g, _⟩ | ⟨z, g, _⟩
    · rw [z] at e; cases e
    · rw [z] at e; cases e; exact g
    · rw [z] at e; cases e
      exact ⟨g, by rw [List.length_map]; exact hl, vs, _, rv, g⟩
  have sq : SqL K H a (ns.map V.int) := by
    rcases H1_cases (K := K) (ts := cs.map (·.2)) (a := a) (o := so) (xs := ns.map V.int) a with ⟨h1, _⟩ | ⟨_, _, _, h4⟩ | ⟨_, h2, _⟩
    · have z := (tabAt a h1).1
      rw [ha] at z
      have z' : Data.seq vs.toArray _ = Data.fields #[] := congrArg Obj.data (Option.some.inj z)
      cases z'
    · exact .inl (.inr ⟨_, h4⟩)
    · cases e : K.lookup a with
      | none => exact absurd e (h2 rfl)
      | some o =>
        have g := KX a o e
        rw [ha] at g; cases g
        exact .inr ⟨_, vs.toArray, _, e, rfl, rfl, rfl, by rw [List.size_toArray]; exact hlen, by simpa using rv⟩
  have e0 : Env0 P w K mg (hidT s.heap H) callerA [] s H := ⟨rfl, md, fun b o e => of_hidT e, Nat.le_of_eq (hidT_size _ _), trivial, fun b hb => absurd (show b ∈ ([] : List Addr) from hb) (by simp), hok, .of_eq hg⟩
  refine codeAny_mono (F _ kin (ns' hns) tb s H (.ref a) (.ref a) _ _ e0 rfl (hsp H (fun p hp => H1_tab (List.mem_map.mpr ⟨p, hp, rfl⟩)) sq)) fun r s' h => ?_
  cases r with
  | error e => exact (hCX H e s' h).elim
  | ok fl =>
    cases fl with
    | next => exact False.elim h
    | brk => exact False.elim h
    | cont => exact False.elim h
    | ret u =>
      obtain ⟨v, H', os, bare, un, hok', r', q⟩ := h
      subst q
      obtain rfl : u = Value.bool true := r'
      have old : ∀ b o, s.heap.get? b = some o → s'.heap.get? b = some o ∨ (b ∈ cs.map (·.2) ∧ ∃ more : Array Value, s'.heap.get? b = some { cls := .none, data := .fields more }) := fun b o e => by
        rcases H1_cases (K := K) (ts := cs.map (·.2)) (a := a) (o := so) (xs := ns.map V.int) b with ⟨h1, h2⟩ | ⟨_, h2, h3, h4⟩ | ⟨_, _, h3⟩
        · obtain ⟨more, z⟩ := un.tbls b #[] h2
          exact .inr ⟨h1, _, hok' b _ z⟩
        · have z := un.frzs b so _ h4
          obtain ⟨e2, _⟩ := hok' b _ z
          rw [h2, ha] at e; cases e
          exact .inl e2
        · exact .inl (un.keep b o e h3 (fun z => absurd (show b ∈ ([] : List Addr) from z) (by simp)) (by simp))
      refine ⟨rfl, ⟨fun b o e => ?_, fun b o e => ?_⟩, os, bare⟩
      · rcases old b o e with z | ⟨hb, more, z⟩
        · exact .inl z
        · obtain ⟨p, hp, ep⟩ := List.mem_map.mp hb
          rw [← ep] at e z ⊢
          rw [hT p hp] at e; cases e
          exact .inr (.inl ⟨((C p hp).tab (hT p hp)).isCodeTable, rfl, #[], more, rfl, by rw [Array.empty_append]; exact z⟩)
      · rcases old b o e with z | ⟨hb, more, z⟩
        · exact ⟨o, z⟩
        · exact ⟨_, z⟩
/-- what is known of the law at the head's heap h -/
def LawG (l : PySem.W.OpenLaw) (w : World) (K : PySem.W.Frag) (CX : CXT) (n : Nat) (mg : Str → Option Value) (fa : Addr) (h : Heap) : Prop :=
  ∃ (cs : List (Addr × Addr)) (sp : Sp), (∀ p ∈ cs, h.get? p.2 = some { cls := .none, data := .fields #[] }) ∧ (∀ p ∈ cs, K.lookup p.2 = none) ∧ (∀ p ∈ cs, PySem.W.CodeHd h p.1 p.2) ∧
    (∀ (H : Hp) (a : Addr) (ns : List Int), ns.length ≤ n → (∀ z ∈ ns, Builtin.Int.intBits z ≤ 1048576) → (∀ p ∈ cs, H p.2 = some (.tbl #[])) → SqL K H a (ns.map V.int) → sp [.ref a] H (fun v _ => v = .bl true) fun _ _ _ => False) ∧
    ∀ base : Heap, K.In base → base.Ns mainGlobals mg → (∀ p ∈ cs, LamX.TabB base mg p.1 p.2) → Run l.prog w K mg base CX fa sp
theorem walk_G {l : PySem.W.OpenLaw} {n : Nat} {q : Program} {loose : List Str} {XP : (Str → Option Value) → Heap → Prop} {YP : World → Heap → Prop} {d : DefRec} {CX : World → CXT}
    (hn : l.most = some n) (hn2 : n ≤ sizeLine) (hdf : d.params.defaults = [])
    (F : ∀ (w : World) (mg : Str → Option Value) (fa : Addr) (h : Heap), YP w h → h.Ns mainGlobals mg → mg d.name = some (.ref fa) → ∃ K : PySem.W.Frag, K.In h ∧ LawG l w K (CX w) n mg fa h)
    (hCX : ∀ (w : World) (H : Hp) (s : Shared) (e : Value) (s' : Shared), CX w [] H s (fun _ _ _ => False) e s' → False) :
    PySem.W.WalkO q loose XP YP l.row.toRowW d [] (fun f vs => PySem.call f vs) := by
  refine Att.attach_callB hn hdf fun w s₀ s mg mb fa o pm cd doc a vs ns G Y ho hd hcd hmg hobj hints hlen hbits hg => ?_
  obtain ⟨K, KX, cs, sp, hT, nT, C, hsp, hF⟩ := F w mg fa _ Y G.T.g hmg
  exact law_run KX G.T.g G.T.b G.T.builtins G.T.nolimit hg hT nT C G.T.bmain hobj hints (Nat.le_trans hlen hn2) hF (fun H hH hS => hsp H a ns hlen hbits hH hS) fun H e s' => hCX w H s e s'
/-- the law's def by its body -/
theorem run_body {CX : CXT} {P : Program} {w : World} {K : PySem.W.Frag} {mg : Str → Option Value} {base : Heap} {f : Addr} {x name qual : Str} {params : Arguments} {body : List Stmt} {scope : Scope} {dvs : List V} {kws : List (Str × V)} {fd : FuncData} {N : List Str} {sp : Sp}
    (F : FunD K name qual params body scope dvs kws f fd) (S : FnScope N [x] scope) (hb : ∀ (s : Shared) (u : Value), BindsTo s fd ⟨[u], []⟩ [(x, u)]) (hr : callerA.depth < recursionLimit)
    (hbody : ∀ (cdv : Value) (s : Shared) (H : Hp) (v : V) (Q : VK) (E : XK), (PySem.W.codeIn K cdv qual = true ∧ fd.code = cdv) → sp [v] H Q E →
      ∃ t, PSs (cxOf CX P w K mg base N qual scope f cdv callerA [] s H E) body t ∧ t { nx := fun _ H' => Q .non H', rt := Q } (start N [v]) H) : Run P w K mg base CX f sp := by
  obtain ⟨oc, od, dV, kV, doc, pm, an, cdv, ct, osl, rfl, lk, hcd, _, _⟩ := F.ex
  intro s H u v Q E e0 rv hsp
  have KX : K.In s.heap := e0.mod.kin.keeps fun b o e => (e0.bs b o e).1
  have lim : s.heap.NoLimit := e0.mod.nolimit.keeps fun b o e => (e0.bs b o e).1
  have hkind : ∀ y ∈ [(x, u)], scope.names.lookup y.1 = some .local ∨ (scope.names.lookup y.1 = some .cell ∧ ((cellsFrom (s.heap.objs.size + 1) scope.names []).lookup y.1).isSome = true) := fun y hy => by
    obtain rfl := List.mem_singleton.mp hy
    rcases S.par x (by simp) with q | q
    · exact .inl q
    · exact .inr ⟨q, PySem.W.cellsFrom_some _ _ _ (.inl q)⟩
  refine codeAny_call_function hr (KX _ _ lk) rfl S.co S.gen rfl (PySem.W.codeRec_of KX hcd) (hb s u _ _ _ _ ?_)
  refine wpAny_newFunctionEnv_cells S.kind hkind fun env he s1 y => ?_
  subst he
  refine ⟨lim.keeps y.toInCall.keep, codeAny_func ?_⟩
  obtain ⟨t, ht, hq⟩ := hbody cdv s H v Q E ⟨hcd, rfl⟩ hsp
  have I : Inv (cxOf CX P w K mg base N qual scope f cdv callerA [] s H E) [] (start N [v]) H s1 := inv_start (ps := [x]) (us := [u]) S rfl e0 rfl (.cons rv .nil) y
  refine wpAny_mono (ht.run [] s1 (start N [v]) H _ I hq) (fun fl s' hs => ?_) fun e s' hs => hs
  cases fl with
  | ret z =>
    obtain ⟨v', σ', H', J, rv', q⟩ := hs
    exact ⟨v', H', J.os, J.bare, J.base, J.hok, rv', q⟩
  | next =>
    obtain ⟨σ', H', J, q⟩ := hs
    exact ⟨.non, H', J.os, J.bare, J.base, J.hok, rfl, q⟩
  | brk =>
    obtain ⟨_, _, _, q⟩ := hs
    exact False.elim q
  | cont =>
    obtain ⟨_, _, _, q⟩ := hs
    exact False.elim q
end Sh
end Part_ShR

section Part_ShX
set_option maxRecDepth 100000
set_option maxHeartbeats 2000000
/-! ShX: an exception that is caught, stored and kept: def caught(work): kept = None; try: work(); except C as e: kept = e; return kept. -/
namespace Sh
open PySem L2 PyProof.Rows
/-! ### the object of an exception, kept -/
def ExC (cls : Value) (d : Option Addr) (a : Addr) : HO := .ext fun h => ∃ (oe : Obj) (vs : Array Value), h.get? a = some oe ∧ Zc cls d oe ∧ oe.data = .fields vs
theorem exC_ok {P : Program} {w : World} {H : Hp} {h : Heap} {a : Addr} {cls : Value} {d : Option Addr} {oe : Obj} {vs : Array Value} (e : h.get? a = some oe) (z : Zc cls d oe) (hd : oe.data = .fields vs) : ObjOk P w H h a (ExC cls d a) :=
  ⟨⟨oe, vs, e, z, hd⟩, ⟨oe, e⟩, fun _ _ ⟨o, v, q, r⟩ k => ⟨o, v, k o q, r⟩⟩
section
variable {X : Cx} {pins : List (Addr × Obj)} {σ : L2.St} {H : Hp} {s : Shared}
/-- an object that stands since the entry is tracked from now on -/
theorem Inv.track {a : Addr} {cls : Value} {d : Option Addr} {oe : Obj} {vs : Array Value} (I : L2.Inv X pins σ H s) (e : s.heap.get? a = some oe) (z : Zc cls d oe) (hd : oe.data = .fields vs) (hn : H a = none) (n0 : X.s_0.heap.get? a = none)
    (hL : a ≠ X.env.locals) (hp : ∀ p ∈ X.pn ++ pins, p.1 ≠ a) : L2.Inv X pins σ (upd H a (ExC cls d a)) s := by
  have ne : ∀ b o, X.s_0.heap.get? b = some o → b ≠ a := fun b o q z => by rw [z, n0] at q; cases q
  have cne : ∀ y c, X.env.cells.lookup y = some c → c ≠ a := fun y c q z => by
    obtain ⟨v, o, ho, hdo⟩ := I.cell y c q
    rw [z, e] at ho; cases ho
    rw [hd] at hdo; cases hdo
  refine ⟨I.ok, I.os, I.bare, ⟨I.base.keep, I.base.slot, fun b o q n hx => ?_, I.base.there, fun b xs q => ?_, fun b o u q => ?_, fun b ps q => ?_⟩, I.loc, I.cell, ?_, fun y c q => ?_, fun p hp' => ?_, fun b o q => ?_, I.len⟩
  · rw [upd_ne (ne b o q)]; exact I.base.free b o q n hx
  · have q' := I.base.tups b xs q
    rw [upd_ne (ne_of_none q' hn)]; exact q'
  · have q' := I.base.frzs b o u q
    rw [upd_ne (ne_of_none q' hn)]; exact q'
  · obtain ⟨m, q'⟩ := I.base.tbls b ps q
    exact ⟨m, by rw [upd_ne (ne_of_none q' hn)]; exact q'⟩
  · rw [upd_ne hL.symm]; exact I.free
  · rw [upd_ne (cne y c q)]; exact I.freeC y c q
  · obtain ⟨q1, q2, q3⟩ := I.pin p hp'
    exact ⟨q1, by rw [upd_ne (hp p hp')]; exact q2, q3⟩
  · by_cases hb : b = a
    · subst hb
      rw [upd_same] at q; cases q
      exact exC_ok e z hd
    · rw [upd_ne hb] at q
      exact (I.hok b o q).stay (fun c v _ w => w) (fun c w => by rw [upd_ne (ne_of_none w hn)]; exact w) fun c xs w => by rw [upd_ne (ne_of_none w hn)]; exact w
end

/-- what «except c as n: y = n» wishes -/
def wKeep (K : PySem.W.Frag) (n : Nat) (c : Value) (i j : Nat) (D : Ends) : WX := fun cls d σ H =>
  ∃ b, PySem.W.exmOne K cls c = some b ∧ (b = true → σ.length = n → ∀ a, H a = none → D.nx (((σ.set i (some (.ref a))).set j (some (.ref a))).set i none) (upd H a (ExC cls d a))) ∧ (b = false → False)
section
variable {X : Cx} {x n y : Str} {c : Value} {i j : Nat} {body : List Stmt} {np ny nn npa pos pos' : Pos} {tb : WX → TS}
theorem ps_try_keep (hs : X.stack = X.env :: X.outer) (hf : X.env.frame = some X.env.locals) (hex : X.ex = []) (hN : X.N.Nodup) (hi : X.N[i]? = some n) (hj : X.N[j]? = some y) (hln : X.env.kindOf n = some .local) (hly : X.env.kindOf y = some .local) (hc : Names X x c)
    (hdn : (n == ("__debug__" : Str)) = false) (hcn : (n == ("__classdict__" : Str)) = false)
    (hb : ∀ (W : WX) (pn : List (Addr × Obj)) (xe : Value → Shared → Prop), Takes (X.tr pn xe) W → PassesOwn (model X.prog X.w) X.A X.env xe → PSs (X.tr pn xe) body (tb W))
    (hsw : swapsWith (.Name n nn) (some (.Name y ny)) npa.line X.env = pure false) :
    PS X (.Try body [.ExceptHandler (some (.Name x np)) (some n) [.Assign [.Name y ny] (.Name n nn) npa] pos'] [] [] pos) (fun D σ H => tb (wKeep X.K X.N.length c i j D) D σ H) := by
  refine ⟨fun pins s σ H D I h => ?_⟩
  have ok := I.ok
  have hfr : X.A.frames = some (X.env :: X.outer) := by rw [ok.frames, hs]
  have hloc : Loc X.env.scope n := .inl hln
  refine wpAny_Try_except ?_
  refine wpAny_mono ((hb (wKeep X.K X.N.length c i j D) (X.pn ++ pins) (fun e s₁ => wpAny (model X.prog X.w) X.A (noteFrame e X.env) (fun _ s₂ => wpAny (model X.prog X.w) X.A (setFlight e none) (fun _ s₃ =>
    wpAny (model X.prog X.w) X.A (handleBy e X.env [.ExceptHandler (some (.Name x np)) (some n) [.Assign [.Name y ny] (.Name n nn) npa] pos']) (SP X pins D) X.xe s₃) X.xe s₂) X.xe s₁) (fun u s' xx => ?_) PassesOwn.looking).run [] s σ H D (I.toTry _) h) (fun f s1 hsp => ?_) (fun e s1 he => he)
  · obtain ⟨a, B, sI, pins', σ', H', cls, d, rfl, J', nb, up, sky, na, os, ag, b, hb1, hyes, hno⟩ := xx
    have J : L2.Inv X pins σ' H' sI := J'.ofTry ok
    have sky' : Sky B (X.env :: X.outer) a (Zc cls d) X.env.locals s'.heap := by rw [← hs]; exact sky
    show wpAny (model X.prog X.w) X.A (noteFrame (.ref a) X.env) _ _ _
    refine Sky.land Zc.steady hfr hf sky' fun h3 fl3 up3 => ?_
    have J3 : L2.Inv X pins σ' H' { s' with heap := h3 } := J.landed nb fl3.1 (up.trans up3) os ag
    obtain ⟨oe3, vs3, he3, hz3, hd3⟩ := fl3.there
    have nfr : a ∉ frs (X.env :: X.outer) := fun hm => by
      obtain ⟨_, o', e', hnf⟩ := fl3.2.2.1.mem hm
      rw [he3] at e'; cases e'
      exact hnf _ hd3
    have nL : a ≠ X.env.locals := fun z => nfr (List.mem_filterMap.mpr ⟨X.env, List.mem_cons_self, by rw [hf, z]⟩)
    have nF : a ∉ X.fs := fun hm => by
      obtain ⟨e, he, q⟩ := List.mem_filterMap.mp hm
      exact nfr (List.mem_filterMap.mpr ⟨e, List.mem_cons_of_mem _ he, q⟩)
    have nI : sI.heap.get? a = none := by
      cases q : sI.heap.get? a with
      | none => rfl
      | some o =>
        have z := nb a o q (by rw [hs]; exact nfr)
        rw [fl3.2.1] at z; cases z
    have n0 : X.s_0.heap.get? a = none := by
      cases q : X.s_0.heap.get? a with
      | none => rfl
      | some o =>
        obtain ⟨o', z⟩ := J.base.there a o q (by rw [hex]; exact fun z => nomatch z)
        rw [nI] at z; cases z
    have npn : ∀ p ∈ X.pn ++ pins, p.1 ≠ a := fun p hp z => by
      obtain ⟨q, _⟩ := J.pin p hp
      rw [z, nI] at q; cases q
    have S3 := J3.suite he3 hd3 na nL nF
    refine wpAny_handleBy_cons (codeAny_handlers_test ?_) (by intro q; cases q)
    have LT : PySem.W.Looks (model X.prog X.w) h3 (typeOf (.ref a)) cls := fun A Q E s k q => wpAny_typeOf_ref (k _ _ he3) (by rw [hz3.1]; exact q)
    have LM := PySem.W.exm_one (M := model X.prog X.w) (J3.kIn) LT hb1
    have test : ∀ {Q : Value → Shared → Prop} {E : Value → Shared → Prop}, Q c { s' with heap := h3 } → wpAny (model X.prog X.w) (X.A.mark (some (.ref a))) (eval (.Name x np) X.env) Q E { s' with heap := h3 } := fun {Q E} q => by
      obtain ⟨hg, hdbg, hm | ⟨hm, hv, hnn⟩⟩ := hc
      · exact ld_glob (X := X.suite a ((a, oe3) :: (X.pn ++ pins))) S3 hg hm q hdbg
      · exact ld_blt (X := X.suite a ((a, oe3) :: (X.pn ++ pins))) S3 hg hm hv q hnn hdbg
    refine test (LM.here ?_)
    cases b with
    | false => exact (hno rfl).elim
    | true =>
      refine codeAny_handlers_suite_as ?_
      refine HandSPX.lands_againZ fl3 fun h4 fl4 up4 => ?_
      have J4 : L2.Inv X pins σ' H' { s' with heap := h4 } := J.landed nb fl4.1 ((up.trans up3).trans up4) os ag
      obtain ⟨oe4, vs4, he4, hz4, hd4⟩ := fl4.there
      have S4 := J4.suite he4 hd4 na nL nF
      refine store_ok (X := X.suite a ((a, oe4) :: (X.pn ++ pins))) (v := .ref a) S4 hN hi hloc rfl (fun s5 S5 => ?_) (.inr hln)
      have hset : PSs (X.suite a ((a, oe4) :: (X.pn ++ pins))) [.Assign [.Name y ny] (.Name n nn) npa] (tAsg (tVar i) (gName j)) :=
        pss_one (ps_set (X := X.suite a ((a, oe4) :: (X.pn ++ pins))) hN hj (.inl hly) (pe_var (X := X.suite a ((a, oe4) :: (X.pn ++ pins))) hi (.inl hln) hdn hcn) hsw (.inr hly))
      have hlt : i < (σ'.set i (some (V.ref a))).length := by
        have z := S5.len
        have z2 := (List.getElem?_eq_some_iff.mp hi).1
        rw [z]; exact z2
      refine wpAny_mono (hset.run [] s5 _ H' { nx := fun σ6 H6 => σ6 = (σ'.set i (some (.ref a))).set j (some (.ref a)) ∧ H6 = H', rt := fun _ _ => False, bk := fun _ _ => False, ct := fun _ _ => False } S5 ⟨.ref a, List.getElem?_set_self (by simpa using hlt), rfl, rfl⟩) (fun f s6 hsp => ?_) (fun _ _ z => False.elim z)
      cases f with
      | brk => obtain ⟨_, _, _, z⟩ := hsp; exact z.elim
      | cont => obtain ⟨_, _, _, z⟩ := hsp; exact z.elim
      | ret u => obtain ⟨_, _, _, _, _, z⟩ := hsp; exact z.elim
      | next =>
        obtain ⟨σ6, H6, S6, e1, e2⟩ := hsp
        subst e1 e2
        obtain ⟨g6, _⟩ := S6.pin (a, oe4) (List.mem_append_left _ List.mem_cons_self)
        have J6 := Inv.track (S6.unsuite ok) g6 hz4 hd4 na n0 nL npn
        exact gone_ok J6 hN hi hln fun s7 J7 => ⟨_, _, J7, hyes rfl J.len a na⟩
  · cases f with
    | next =>
      obtain ⟨σ', H', J', q⟩ := hsp
      exact wpAny_execs_nil ⟨σ', H', J'.ofTry ok, q⟩
    | brk =>
      obtain ⟨σ', H', J', q⟩ := hsp
      exact ⟨σ', H', J'.ofTry ok, q⟩
    | cont =>
      obtain ⟨σ', H', J', q⟩ := hsp
      exact ⟨σ', H', J'.ofTry ok, q⟩
    | ret u =>
      obtain ⟨v, σ', H', J', r, q⟩ := hsp
      exact ⟨v, σ', H', J'.ofTry ok, r, q⟩
end
/-- def caught(a): y = None; try: a(); except e as n: y = n; return y -/
def ExK (K : PySem.W.Frag) (CS : Addr) (Q : VK) : XK := fun cls d H' => ∃ b, PySem.W.exmOne K cls (.ref CS) = some b ∧ (b = true → ∀ a, H' a = none → Q (.ref a) (upd H' a (ExC cls d a))) ∧ (b = false → False)
def TTc (K : PySem.W.Frag) (CS : Addr) : (XK → Hp → VK → Prop) → Hp → VK → Prop := fun tl H Q => tl (ExK K CS Q) H fun _ H' => ∃ v : V, (some (some V.non) : Option (Option V)) = some (some v) ∧ Q v H'
theorem caught_gives {X : Cx} {x a y n e q : Str} {sg : Scope} {g CS : Addr} {cdg : Value} {j : Nat} {p1 p2 p3 p4 p5 p6 p7 p8 p9 p10 p11 p12 p13 p14 : Pos} (S : FnScope [a, y, n] [a] sg) (hge : sg.names.lookup e = some .globalImplicit) (hme : X.mg e = some (.ref CS)) (hde : (e == ("__debug__" : Str)) = false)
    (hy : sg.names.lookup y = some .local) (hn : sg.names.lookup n = some .local) (hdn : (n == ("__debug__" : Str)) = false) (hcn : (n == ("__classdict__" : Str)) = false) (hdy : (y == ("__debug__" : Str)) = false) (hcy : (y == ("__classdict__" : Str)) = false)
    (hs1 : ∀ env : PySem.Env, env.scope = sg → swapsWith (.Constant .none j p1) (some (.Name y p2)) p3.line env = pure false) (hs2 : ∀ env : PySem.Env, env.scope = sg → swapsWith (.Call (.Name a p4) [] [] p5) none p6.line env = pure false)
    (hs3 : ∀ env : PySem.Env, env.scope = sg → swapsWith (.Name n p8) (some (.Name y p9)) p10.line env = pure false) :
    LamX.GivesTo X [a, y, n] x sg g cdg [.Assign [.Name y p2] (.Constant .none j p1) p3, .Try [.Expr (.Call (.Name a p4) [] [] p5) p6] [.ExceptHandler (some (.Name e p7)) (some n) [.Assign [.Name y p9] (.Name n p8) p10] p11] [] [] p12, .Return (some (.Name y p13)) p14] a q (TTc X.K CS) := by
  intro f c' s H Q tl act hc h
  have hgl : Gl (cxOf C8.CX0 X.prog X.w X.K X.mg X.base [a, y, n] x sg g cdg X.A X.stack s H C8.E0).nox e := hge
  refine ⟨_, pss_cons (ps_set (X := (cxOf C8.CX0 X.prog X.w X.K X.mg X.base [a, y, n] x sg g cdg X.A X.stack s H C8.E0).nox) (i := 1) S.nd rfl (.inl hy) pe_non (hs1 _ rfl) (.inr hy))
    (pss_cons (ps_try_keep (X := (cxOf C8.CX0 X.prog X.w X.K X.mg X.base [a, y, n] x sg g cdg X.A X.stack s H C8.E0).nox) (c := .ref CS) (i := 2) (j := 1)
      (tb := fun W D σ H => ∃ Ech : XK, (∀ cls d σ' H', Ech cls d H' → W cls d σ' H') ∧ σ[0]? = some (some (.ref f)) ∧ H c' = some (LamX.CodeO c' q) ∧ tl Ech H fun _ H' => D.nx σ H')
      rfl rfl rfl S.nd rfl rfl hn hy ⟨hgl, hde, .inl hme⟩ hdn hcn (fun W pn xe tk _ => ?_) (hs3 _ rfl))
    (pss_one (ps_ret (pe_var (X := (cxOf C8.CX0 X.prog X.w X.K X.mg X.base [a, y, n] x sg g cdg X.A X.stack s H C8.E0).nox) (i := 1) rfl (.inl hy) hdy hcy)))), ?_⟩
  · refine ⟨fun pins s' σ H' D I h' => ?_⟩
    obtain ⟨Ech, hW, h1, h2, h3⟩ := h'
    have hp := act W pn xe Ech p4 p5 tk hW
    have hq := pss_one (ps_expr (pos := p6) hp (hs2 _ rfl))
    exact hq.run pins s' σ H' D I ⟨h1, h2, h3⟩
  · refine ⟨ExK X.K CS Q, fun cls d σ' H' ⟨b, e1, e2, e3⟩ => ⟨b, e1, fun hb hl a ha => ⟨.ref a, ?_, e2 hb a ha⟩, fun hb => e3 hb⟩, rfl, hc, ?_⟩
    · have h3 : σ'.length = 3 := hl
      match σ', h3 with
      | [u, v, w], _ => rfl
    · exact h
/-- isinstance(v, c), v a kept exception without fields, or None -/
def rIsX (K : PySem.W.Frag) : List V → Hp → VK → Prop := fun xs H Q => ∃ (a D : Addr) (c : V) (cv : Value) (b : Bool), xs = [.ref a, c] ∧ H a = some (ExC (.ref D) none a) ∧ ExcC K D ∧ (∀ u, L2.RelV c u → u = cv) ∧ PySem.W.kitOne K (.ref D) cv = some b ∧ Q (.bl b) H
theorem call_isX {X : Cx} : CallR X (.builtin "isinstance") (rIsX X.K) := by
  intro pins s σ H xs us Q I r h
  obtain ⟨a, D, c, cv, b, rfl, ha, C, hcv, e, q⟩ := h
  obtain ⟨u1, u2, rfl, rx, rt⟩ := vals2 r
  cases rx
  have ec := hcv _ rt
  subst ec
  obtain ⟨⟨oe, vs, hget, hz, hv⟩, _, _⟩ := I.hok a _ ha
  have J : PySem.W.InstAt s.heap a oe D none := by
    obtain ⟨oc, od, oda, osl⟩ := oe
    obtain ⟨h1, h2⟩ := hz
    dsimp only at h1 h2 hv
    subst h1 h2 hv
    exact ⟨hget, rfl, rfl, trivial⟩
  exact PySem.W.kia_one (PySem.W.handS_kitx_exc C.hg C.hk C.hs C.hd C.ha C.hn C.ht C.hm) I.kIn J e (fun z => nomatch z) fun tk => ⟨.bl b, H, I.kept (t' := tk) fun _ _ z => z, rfl, q⟩
/-! ### f(k = v) -/
section
variable {X : Cx} {CX : CXT} {k : Nat} {f : Addr} {fd : FuncData} {ps ks : List Str} {sp : Sp} {E : XK} {x : Str} {p pos : Pos} {kws : List Keyword} {tk : TA} {g : List Value → List Value → List Value} {gV : List V → List V → List V}
theorem pe_callK0 (F : FnOk X.prog X.w X.K X.mg X.base CX k f fd ps sp) (hr : Room k X.A) (hg : Gl X x) (hm : X.mg x = some (.ref f)) (hk : PySem.W.keepIn X.K (.ref f) = true) (hb : KBinds X.K fd ps ks g gV) (hx : Passes CX X E) (hkw : PK X kws tk)
    (hall : (backToKw pos (keywordEach kws X.env)).all (·.1.isSome) = true := by rfl) (hks : (backToKw pos (keywordEach kws X.env)).filterMap (·.1) = ks := by rfl) (hdb : (x == ("__debug__" : Str)) = false := by decide)
    (hpl : ((backTo pos (starEach [] X.env)).any (·.1) || (backToKw pos (keywordEach kws X.env)).any (·.1.isNone)) = false := by rfl) : PE X (.Call (.Name x p) [] kws pos) (tCallK sp gV E tNil tk) := by
  refine ⟨fun pins s σ H Q I h => ?_⟩
  refine wpAny_Call_Name_kw (ld_glob I hg hm ?_ hdb)
  refine PySem.W.callWith_KW0 (h₀ := X.base) I.ok.mod.kin hk hall ?_ hpl
  refine thn (hkw.run pos pins s σ H _ I h) fun ws s2 ⟨zs, H2, I2, rz, q2⟩ => ⟨I2.kIn, ?_⟩
  rw [hks]
  exact run_fnk (us := []) (vs := []) F hr hb hx I2 .nil rz q2
end
/-- a def of one parameter, called by place or by name -/
theorem kb_one {K : PySem.W.Frag} {x q n : Str} {st : Stmt} {f : Addr} {fd : FuncData} (F : L2.Fun K x q st f fd)
    (h1 : ∀ (kV doc pm : Value) (an : Option Addr) (cdv ct u : Value), bindArgs (PySem.W.fnOf x q (defArgs st) (defBody st) (defScope st) .none kV doc pm an cdv ct) ⟨[u], []⟩ = pure [(n, u)])
    (h2 : ∀ (kV doc pm : Value) (an : Option Addr) (cdv ct u : Value), bindArgs (PySem.W.fnOf x q (defArgs st) (defBody st) (defScope st) .none kV doc pm an cdv ct) ⟨[], [(n, u)]⟩ = pure [(n, u)]) :
    KBinds K fd [n] [n] (fun us ws => us ++ ws) (fun us ws => us ++ ws) := by
  obtain ⟨oc, od, kV, doc, pm, an, cdv, ct, osl, rfl, lk, hcd⟩ := F.ex
  refine ⟨fun s us ws X l => ?_, fun a b => a.append b⟩
  match us, ws, l with
  | [], [w], _ => exact .of_eq (h2 _ _ _ _ _ _ _)
  | [u], [], _ => exact .of_eq (h1 _ _ _ _ _ _ _)
  | [], [], l => simp at l
  | [], _ :: _ :: _, l => simp at l
  | _ :: _ :: _, _, l => simp at l
  | [_], _ :: _, l => simp at l
/-! ### a local name that holds one of several defs that may raise -/
def tCallX (i : Nat) (S : Addr → Option Sp) (E : XK) (t : TA) : TE := fun σ H Q => ∃ f sp, σ[i]? = some (some (.ref f)) ∧ S f = some sp ∧ t σ H fun vs H1 => sp vs H1 Q E
theorem pe_callX {X : Cx} {CX : CXT} {k i : Nat} {S : Addr → Option Sp} {E : XK} {x : Str} {p pos : Pos} {e : Expr} {es : List Expr} {t : TA}
    (A : ∀ f sp, S f = some sp → ∃ (fd : FuncData) (ps : List Str), FnOk X.prog X.w X.K X.mg X.base CX k f fd ps sp ∧ PySem.W.keepIn X.K (.ref f) = true ∧ Binds X.K fd ps []) (hr : Room k X.A) (hx : Passes CX X E) (hN : X.N[i]? = some x) (hv : Vis X.env.scope x) (ha : PA X (e :: es) t)
    (hdb : (x == ("__debug__" : Str)) = false := by decide) (hcd : (x == ("__classdict__" : Str)) = false := by decide)
    (he : starEach (e :: es) X.env = (false, eval e X.env) :: starEach es X.env := by rfl) (hpl : (backTo pos (starEach es X.env)).any (·.1) = false := by rfl) : PE X (.Call (.Name x p) (e :: es) [] pos) (tCallX i S E t) := by
  refine ⟨fun pins s σ H Q I h => ?_⟩
  obtain ⟨f, sp, hs, hS, ht⟩ := h
  obtain ⟨fd, ps, F, hk, hb⟩ := A f sp hS
  refine (pe_callL (i := i) (f := f) (sp := sp) (dvs := []) (E := E) F hr hN hv hk hb .nil hx ha hdb hcd he hpl).run pins s σ H Q I ⟨hs, ?_⟩
  have e0 : (fun (vs : List V) (H1 : Hp) => sp (vs ++ []) H1 Q E) = fun vs H1 => sp vs H1 Q E := by
    funext vs H1
    rw [List.append_nil]
  show t σ H (fun vs H1 => sp (vs ++ []) H1 Q E)
  rw [e0]
  exact ht
end Sh
end Part_ShX

section Part_ShL
set_option maxRecDepth 100000
set_option maxHeartbeats 2000000
/-! ShL: the laws' draws: the dict of a draw, what may change while it is drawn. -/
namespace Sh
open PySem L2
def kd (l c : Addr) (r t : Int) : List (Key × V) := [(.inr "large", .ref l), (.inr "rest", .int r), (.inr "cells", .ref c), (.inr "turn", .int t)]
theorem kd_large {l c : Addr} {r t : Int} : valV (kd l c r t) (.inr "large") = some (.ref l) := by
  unfold kd; rw [valV_pos rfl]
theorem ne1 : ¬ ((Sum.inr (Str.ofString "large") : Key) = .inr "rest") := by decide
theorem ne2 : ¬ ((Sum.inr (Str.ofString "large") : Key) = .inr "cells") := by decide
theorem ne3 : ¬ ((Sum.inr (Str.ofString "large") : Key) = .inr "turn") := by decide
theorem ne4 : ¬ ((Sum.inr (Str.ofString "rest") : Key) = .inr "cells") := by decide
theorem ne5 : ¬ ((Sum.inr (Str.ofString "rest") : Key) = .inr "turn") := by decide
theorem ne6 : ¬ ((Sum.inr (Str.ofString "cells") : Key) = .inr "turn") := by decide
theorem kd_rest {l c : Addr} {r t : Int} : valV (kd l c r t) (.inr "rest") = some (.int r) := by
  unfold kd; rw [valV_neg ne1, valV_pos rfl]
theorem kd_cells {l c : Addr} {r t : Int} : valV (kd l c r t) (.inr "cells") = some (.ref c) := by
  unfold kd; rw [valV_neg ne2, valV_neg ne4, valV_pos rfl]
theorem kd_turn {l c : Addr} {r t : Int} : valV (kd l c r t) (.inr "turn") = some (.int t) := by
  unfold kd; rw [valV_neg ne3, valV_neg ne5, valV_neg ne6, valV_pos rfl]
theorem kd_putRest {l c : Addr} {r t r' : Int} : putK (kd l c r t) (.inr "rest") (.int r') = kd l c r' t := by
  unfold putK kd
  rw [if_pos (by simp)]
  simp only [List.map_cons, List.map_nil]
  rw [if_neg ne1, if_pos trivial, if_neg (Ne.symm ne4), if_neg (Ne.symm ne5)]
theorem kd_putTurn {l c : Addr} {r t t' : Int} : putK (kd l c r t) (.inr "turn") (.int t') = kd l c r t' := by
  unfold putK kd
  rw [if_pos (by simp)]
  simp only [List.map_cons, List.map_nil]
  rw [if_neg ne3, if_neg ne5, if_neg ne6, if_pos trivial]
theorem kd_len {l c : Addr} {r t : Int} : (kd l c r t).length < sizeLine := by show 4 < sizeLine; decide
/-- a draw at p: l the great cells, c all cells -/
structure Dr (H : Hp) (p l c : Addr) : Prop where
  ex : ∃ (r t : Int) (ls cs : List Int), H p = some (.dK (kd l c r t)) ∧ H l = some (.lst (ls.map V.int)) ∧ H c = some (.lst (cs.map V.int))
  ne : l ≠ c
/-- the heap goes on while it is drawn -/
structure GrD (p l : Addr) (G H G' H' : Hp) : Prop where
  h : ∀ b o, H b = some o → b ≠ p → b ≠ l → H' b = some o
  g : Same G G'
  gh : Same G' H'
  nw : ∀ a o, G' a = some o → G a = some o ∨ H a = none
  nl : ∀ a, H a ≠ none → H' a ≠ none
section
variable {p l c : Addr} {G H G' H' G1 H1 : Hp}
theorem Gr.d (g : Gr G H G' H') : GrD p l G H G' H' := ⟨fun b o e _ _ => g.h b o e, g.g, g.gh, g.nw, fun a n z => by
  cases e : H a with
  | none => exact n e
  | some o => rw [g.h _ _ e] at z; cases z⟩
theorem GrD.refl (e : Same G H) : GrD p l G H G H := (Gr.refl e).d
theorem GrD.trans (a : GrD p l G H G1 H1) (b : GrD p l G1 H1 G' H') : GrD p l G H G' H' :=
  ⟨fun x o e h1 h2 => b.h x o (a.h x o e h1 h2) h1 h2, a.g.trans b.g, b.gh, fun x o q => by
    rcases b.nw x o q with q | q
    · exact a.nw x o q
    · right
      cases e : H x with
      | none => rfl
      | some u => exact absurd q (a.nl x (by rw [e]; simp)), fun x n => b.nl x (a.nl x n)⟩
theorem GrD.non (g : GrD p l G H G' H') {x : Addr} (hg : G x = none) (hh : H x ≠ none) : G' x = none := by
  cases e : G' x with
  | none => rfl
  | some o =>
    rcases g.nw x o e with z | z
    · rw [hg] at z; cases z
    · exact absurd z hh
/-- the dict of the draw, or its great cells, is written -/
theorem GrD.upd {x : Addr} {o : HO} (e : Same G H) (hx : x = p ∨ x = l) (hG : G x = none) (hH : H x ≠ none) : GrD p l G H G (upd H x o) where
  h := fun b u q h1 h2 => by
    rw [upd_ne (fun z => by rcases hx with h | h <;> rw [h] at z <;> contradiction)]
    exact q
  g := Same.refl G
  gh := fun a u q => by rw [upd_ne (fun z => by rw [z, hG] at q; cases q)]; exact e a u q
  nw := fun a u q => .inl q
  nl := fun a n => by
    by_cases h : a = x
    · rw [h, upd_same]; simp
    · rw [upd_ne h]; exact n
theorem Dr.atP (d : Dr H p l c) : H p ≠ none := by obtain ⟨r, t, ls, cs, h, _⟩ := d.ex; rw [h]; simp
theorem Dr.atL (d : Dr H p l c) : H l ≠ none := by obtain ⟨r, t, ls, cs, _, h, _⟩ := d.ex; rw [h]; simp
theorem Dr.pl (d : Dr H p l c) : p ≠ l := by
  obtain ⟨r, t, ls, cs, h1, h2, _⟩ := d.ex
  exact ne_of h1 h2 (fun z => by cases z)
theorem Dr.pc (d : Dr H p l c) : p ≠ c := by
  obtain ⟨r, t, ls, cs, h1, _, h2⟩ := d.ex
  exact ne_of h1 h2 (fun z => by cases z)
/-- what does not touch the draw keeps it -/
theorem Dr.same (d : Dr H p l c) (e : Same H H') : Dr H' p l c := by
  obtain ⟨r, t, ls, cs, h1, h2, h3⟩ := d.ex
  exact ⟨⟨r, t, ls, cs, e _ _ h1, e _ _ h2, e _ _ h3⟩, d.ne⟩
end
section
variable {p l c : Addr} {H : Hp} {r t : Int}
theorem gLarge (hp : H p = some (.dK (kd l c r t))) : DGet H p (.str "large") (some (.ref l)) := by
  have z := DGet.k (k := .inr "large") hp
  rw [kd_large] at z; exact z
theorem gRest (hp : H p = some (.dK (kd l c r t))) : DGet H p (.str "rest") (some (.int r)) := by
  have z := DGet.k (k := .inr "rest") hp
  rw [kd_rest] at z; exact z
theorem gCells (hp : H p = some (.dK (kd l c r t))) : DGet H p (.str "cells") (some (.ref c)) := by
  have z := DGet.k (k := .inr "cells") hp
  rw [kd_cells] at z; exact z
theorem gTurn (hp : H p = some (.dK (kd l c r t))) : DGet H p (.str "turn") (some (.int t)) := by
  have z := DGet.k (k := .inr "turn") hp
  rw [kd_turn] at z; exact z
theorem pRest (hp : H p = some (.dK (kd l c r t))) (r' : Int) : DPut H p (.str "rest") (.int r') (upd H p (.dK (kd l c r' t))) :=
  .inl ⟨_, .inr "rest", hp, rfl, kd_len, by rw [kd_putRest]⟩
theorem pTurn (hp : H p = some (.dK (kd l c r t))) (t' : Int) : DPut H p (.str "turn") (.int t') (upd H p (.dK (kd l c r t'))) :=
  .inl ⟨_, .inr "turn", hp, rfl, kd_len, by rw [kd_putTurn]⟩
end
/-- int(x) -/
abbrev rInt1 : List V → Hp → VK → Prop := fun xs H Q => (∃ i, xs = [.int i] ∧ Q (.int i) H) ∨ ∃ k, xs = [.bl k] ∧ Q (.int (if k then 1 else 0)) H
abbrev rModP : R2 := rI (fun _ j => 0 < j) fun i j => .int (i % j)
abbrev rFdv : R2 := rI CDivN fun i j => .int (i.fdiv j)
/-- a draw goes on: all but its own objects stand -/
def FrD (p l : Addr) (H H' : Hp) : Prop := ∀ b o, H b = some o → b ≠ p → b ≠ l → H' b = some o
theorem FrD.refl {p l : Addr} {H : Hp} : FrD p l H H := fun _ _ e _ _ => e
theorem FrD.trans {p l : Addr} {H H1 H' : Hp} (a : FrD p l H H1) (b : FrD p l H1 H') : FrD p l H H' := fun x o e h1 h2 => b x o (a x o e h1 h2) h1 h2
theorem FrD.of {p l : Addr} {H H' : Hp} (e : Same H H') : FrD p l H H' := fun x o h _ _ => e x o h
theorem FrD.put {p l x : Addr} {H : Hp} {o : HO} (hx : x = p ∨ x = l) : FrD p l H (upd H x o) := fun b u e h1 h2 => by
  rw [upd_ne (fun z => by rcases hx with h | h <;> rw [h] at z <;> contradiction)]
  exact e
theorem FrD.new {p l x : Addr} {H : Hp} {o : HO} (hx : H x = none) : FrD p l H (upd H x o) := fun b u e _ _ => by
  rw [upd_ne (ne_of_none e hx)]
  exact e
def spTake : Sp := fun vs H Q _ => ∃ (p l c : Addr) (n : Int), vs = [.ref p, .int n] ∧ Dr H p l c ∧ 0 < n ∧ n < 1073741824 ∧ ∀ (r : Int) (H' : Hp), 0 ≤ r → r < n → Dr H' p l c → FrD p l H H' → Q (.int r) H'
def t_take2 : TS := tSeq (tAsg (tOp rModP (tCB rInt1 (tCons (tDGet (tVar 0) (tC (.str "rest"))) tNil)) (tVar 1)) (gName 2))
  (tSeq (sDPut (tVar 0) (tC (.str "rest")) (tOp rFdv (tCB rInt1 (tCons (tDGet (tVar 0) (tC (.str "rest"))) tNil)) (tVar 1))) (tRet (tVar 2)))
theorem take2 {p l c : Addr} {n : Int} {H H1 : Hp} {v : Option V} {D : Ends} {r t : Int} {ls cs : List Int} (hn : 0 < n) (hn2 : n < 1073741824) (ne : l ≠ c) (hp : H1 p = some (.dK (kd l c r t))) (hl : H1 l = some (.lst (ls.map V.int))) (hc : H1 c = some (.lst (cs.map V.int))) (fr : FrD p l H H1)
    (k : ∀ (r : Int) (H' : Hp), 0 ≤ r → r < n → Dr H' p l c → FrD p l H H' → D.rt (.int r) H') : t_take2 D [some (.ref p), some (.int n), v] H1 := by
  have npl : p ≠ l := ne_of hp hl (fun z => by cases z)
  have npc : p ≠ c := ne_of hp hc (fun z => by cases z)
  refine ⟨.ref p, rfl, p, _, rfl, gRest hp, .inl ⟨r, rfl, _, rfl, r, n, rfl, rfl, hn, ?_⟩⟩
  refine ⟨.ref p, rfl, p, _, rfl, gRest hp, .inl ⟨r, rfl, _, rfl, r, n, rfl, rfl, ⟨by omega, by omega⟩, ?_⟩⟩
  refine ⟨.ref p, rfl, p, _, rfl, pRest hp _, _, rfl, ?_⟩
  refine k _ _ (Int.emod_nonneg _ (by omega)) (Int.emod_lt_of_pos _ hn) ⟨⟨_, t, ls, cs, upd_same, by rw [upd_ne npl.symm]; exact hl, by rw [upd_ne npc.symm]; exact hc⟩, ne⟩ (fr.trans (FrD.put (.inl rfl)))
theorem shaped_ints : ∀ ls : List Int, PyData.canLay0 (.list (ls.map PyData.int)) = true ∧ PyData.depth (.list (ls.map PyData.int)) ≤ 1 := by
  intro ls
  have h1 : ∀ ls : List Int, PyData.canLayAll0 (ls.map PyData.int) = true := fun ls => by
    induction ls with
    | nil => rfl
    | cons i r ih => rw [List.map_cons]; unfold PyData.canLayAll0; rw [ih]; rfl
  have h2 : ∀ ls : List Int, PyData.depthAll (ls.map PyData.int) = 0 := fun ls => by
    induction ls with
    | nil => rfl
    | cons i r ih => rw [List.map_cons]; unfold PyData.depthAll; rw [ih]; rfl
  refine ⟨?_, ?_⟩
  · unfold PyData.canLay0; exact h1 ls
  · unfold PyData.depth; rw [h2 ls]; decide
theorem dp_ints {K : PySem.W.Frag} {H : Hp} {a : Addr} {ls : List Int} (h : H a = some (.lst (ls.map V.int))) : Dp K H (.ref a) (.list (ls.map PyData.int)) := by
  refine .lst (SqL.of h) ?_
  clear h
  induction ls with
  | nil => exact .nil
  | cons i r ih => exact .cons (.int i) ih
theorem sh_ints (ls : List Int) : SeqAt.shaped (.list (ls.map PyData.int)) = true := by
  obtain ⟨h1, h2⟩ := shaped_ints ls
  unfold SeqAt.shaped
  rw [h1, decide_eq_true (by omega)]
  rfl
theorem eqv_nil (ps : List PyData) : PyData.eqv (.list ps) (.list []) = ps.isEmpty := by
  cases ps with
  | nil => rfl
  | cons p r => rfl
theorem FrD.same {p l : Addr} {G H H' : Hp} (f : FrD p l H H') (e : Same G H) (hp : G p = none) (hl : G l = none) : Same G H' := fun b o q =>
  f b o (e b o q) (fun z => by rw [z, hp] at q; cases q) (fun z => by rw [z, hl] at q; cases q)
theorem kd_merge {l c : Addr} {r t : Int} : mergeK [] (kd l c r t) = kd l c r t := by
  unfold mergeK kd
  simp only [List.foldl_cons, List.foldl_nil]
  have e1 : ∀ (k : Key) (v : V), putK [] k v = [(k, v)] := fun k v => rfl
  rw [e1]
  have e2 : ∀ (q : List (Key × V)) (k : Key) (v : V), (∀ x ∈ q, ¬ x.1 = k) → putK q k v = q ++ [(k, v)] := fun q k v h => by
    unfold putK
    rw [if_neg]
    simp only [List.any_eq_true, decide_eq_true_eq, not_exists, not_and]
    exact h
  have s1 : putK [(((Sum.inr "large" : Key), V.ref l) : Key × V)] (Sum.inr "rest" : Key) (V.int r) = [(((Sum.inr "large" : Key), V.ref l) : Key × V), ((Sum.inr "rest" : Key), V.int r)] := by
    rw [e2 _ _ _ (fun x hx => by rw [List.mem_singleton.mp hx]; exact ne1)]; rfl
  have s2 : putK [(((Sum.inr "large" : Key), V.ref l) : Key × V), ((Sum.inr "rest" : Key), V.int r)] (Sum.inr "cells" : Key) (V.ref c) = [(((Sum.inr "large" : Key), V.ref l) : Key × V), ((Sum.inr "rest" : Key), V.int r), ((Sum.inr "cells" : Key), V.ref c)] := by
    rw [e2 _ _ _ (fun x hx => by
      rcases List.mem_cons.mp hx with h | hx
      · rw [h]; exact ne2
      · rw [List.mem_singleton.mp hx]; exact ne4)]
    rfl
  have s3 : putK [(((Sum.inr "large" : Key), V.ref l) : Key × V), ((Sum.inr "rest" : Key), V.int r), ((Sum.inr "cells" : Key), V.ref c)] (Sum.inr "turn" : Key) (V.int t) = [(((Sum.inr "large" : Key), V.ref l) : Key × V), ((Sum.inr "rest" : Key), V.int r), ((Sum.inr "cells" : Key), V.ref c), ((Sum.inr "turn" : Key), V.int t)] := by
    rw [e2 _ _ _ (fun x hx => by
      rcases List.mem_cons.mp hx with h | hx
      · rw [h]; exact ne3
      · rcases List.mem_cons.mp hx with h | hx
        · rw [h]; exact ne5
        · rw [List.mem_singleton.mp hx]; exact ne6)]
    rfl
  rw [s1, s2, s3]
/-- data that may be compared -/
def okD (d : D) : Bool := match dpy d with
  | some q => q.canLay0 && decide (q.depth ≤ 60)
  | none => false
theorem okDs : ∀ (ds : List D), (∀ d ∈ ds, okD d = true) → ∃ ps, dpys ds = some ps ∧ PyData.canLayAll0 ps = true ∧ PyData.depthAll ps ≤ 60
  | [], _ => ⟨[], rfl, rfl, by decide⟩
  | d :: ds, h => by
    obtain ⟨ps, h1, h2, h3⟩ := okDs ds fun x hx => h x (List.mem_cons_of_mem _ hx)
    have hd := h d (by simp)
    unfold okD at hd
    cases e : dpy d with
    | none => rw [e] at hd; cases hd
    | some q =>
      rw [e] at hd
      obtain ⟨q1, q2⟩ := Bool.and_eq_true_iff.mp hd
      refine ⟨q :: ps, ?_, ?_, ?_⟩
      · show (dpy d).bind (fun p => (dpys ds).map (p :: ·)) = _
        rw [e, h1]; rfl
      · unfold PyData.canLayAll0; rw [q1, h2]; rfl
      · unfold PyData.depthAll; exact Nat.max_le.mpr ⟨of_decide_eq_true q2, h3⟩
theorem okDs_shaped {ds : List D} (h : ∀ d ∈ ds, okD d = true) : ∃ ps, dpys ds = some ps ∧ SeqAt.shaped (.list ps) = true := by
  obtain ⟨ps, h1, h2, h3⟩ := okDs ds h
  refine ⟨ps, h1, ?_⟩
  unfold SeqAt.shaped PyData.canLay0 PyData.depth
  rw [h2, decide_eq_true (by omega)]
  rfl
theorem dpys_nil {ds : List D} {ps : List PyData} (h : dpys ds = some ps) : ps.isEmpty = ds.isEmpty := by
  cases ds with
  | nil => cases h; rfl
  | cons d ds =>
    obtain ⟨p, e1, e⟩ := Option.bind_eq_some_iff.mp (show (dpy d).bind (fun p => (dpys ds).map (p :: ·)) = _ from h)
    obtain ⟨q, e2, e3⟩ := Option.map_eq_some_iff.mp e
    subst e3; rfl
theorem Rps.erase {K : PySem.W.Frag} {G : Hp} : ∀ (n : Nat) {vs : List V} {ds : List D}, Rps K G vs ds → Rps K G (vs.eraseIdx n) (ds.eraseIdx n)
  | _, _, [], h => by cases h; simp; exact .nil
  | 0, _, d :: ds, h => by
    cases h with
    | cons h1 h2 => simp; exact h2
  | n + 1, _, d :: ds, h => by
    cases h with
    | cons h1 h2 => simp; exact .cons h1 (Rps.erase n h2)
theorem perm_erase {α : Type} : ∀ (l : List α) (i : Nat) (x : α), l[i]? = some x → l.Perm (x :: l.eraseIdx i)
  | [], _, _, h => by simp at h
  | a :: l, 0, x, h => by simp at h; subst h; simp
  | a :: l, i + 1, x, h => by
    have q := perm_erase l i x (by simpa using h)
    simp only [List.eraseIdx_cons_succ]
    exact (q.cons a).trans (List.Perm.swap x a _)
def spPick (K : PySem.W.Frag) : Sp := fun vs H Q _ => ∃ (p l c : Addr) (s : V) (G : Hp) (d : D) (ds : List D), vs = [.ref p, s] ∧ Dr H p l c ∧ Same G H ∧ G p = none ∧ G l = none ∧ Rp K G s d ∧ itemsOf d = some ds ∧ ds ≠ [] ∧ ds.length < 1073741824 ∧
  ∀ (i : Nat) (d' : D) (v : V) (H' : Hp), ds[i]? = some d' → Rp K G v d' → Dr H' p l c → FrD p l H H' → Q v H'
def spShuf (K : PySem.W.Frag) : Sp := fun vs H Q _ => ∃ (p l c : Addr) (s : V) (G : Hp) (d : D) (ds : List D), vs = [.ref p, s] ∧ Dr H p l c ∧ Same G H ∧ G p = none ∧ G l = none ∧ Rp K G s d ∧ itemsOf d = some ds ∧ (∀ x ∈ ds, okD x = true) ∧ ds.length < 1000000 ∧
  ∀ (F : Addr) (ys : List V) (ds' : List D) (H' : Hp), ds'.Perm ds → H' F = some (.lst ys) → Rps K G ys ds' → H F = none → Dr H' p l c → FrD p l H H' → Q (.ref F) H'
def spBegun (K : PySem.W.Frag) : Sp := fun vs H Q _ => ∃ (a : Addr) (ns : List Int), vs = [.ref a] ∧ SqL K H a (ns.map V.int) ∧ ns.length ≤ 63 ∧ ∀ (p l c : Addr) (H' : Hp), Same H H' → H p = none → H l = none → Dr H' p l c → Q (.ref p) H'
/-! ### plain statements ahead of others -/
section
variable {K : PySem.W.Frag} {a b c d : Sx} {D : Ends} {u : TS} {σ : L2.St} {H : Hp} {N N' : L2.St → Hp → Prop}
theorem tS_nx (h : tS K a { D with nx := N } σ H) (w : ∀ σ H, N σ H → N' σ H) : tS K a { D with nx := N' } σ H := by
  obtain ⟨H0, G0, env, G, r, rs, e, k⟩ := h
  refine ⟨H0, G0, env, G, r, rs, e, ?_⟩
  cases r with
  | nx e2 => intro σ2 G2 H2 r2 s2; exact w _ _ (k σ2 G2 H2 r2 s2)
  | rt d => exact k
  | bk e2 => exact k
  | ct e2 => exact k
theorem seq2 (h : tS K (sSeq a b) { D with nx := u D } σ H) : tSeq (tS K a) (tSeq (tS K b) u) D σ H := stepSeq h
theorem seq3 (h : tS K (sSeq a (sSeq b c)) { D with nx := u D } σ H) : tSeq (tS K a) (tSeq (tS K b) (tSeq (tS K c) u)) D σ H :=
  tS_nx (D := D) (N := fun σ H => tS K (sSeq b c) { D with nx := u D } σ H) (stepSeq h) fun _ _ q => seq2 q
theorem seq4 (h : tS K (sSeq a (sSeq b (sSeq c d))) { D with nx := u D } σ H) : tSeq (tS K a) (tSeq (tS K b) (tSeq (tS K c) (tSeq (tS K d) u))) D σ H :=
  tS_nx (D := D) (N := fun σ H => tS K (sSeq b (sSeq c d)) { D with nx := u D } σ H) (stepSeq h) fun _ _ q => seq3 q
end
/-! ### a law's own body: calls of plain defs, plain expressions amid it -/
section
variable {X : Cx} {k j : Nat} {F : List D → Option D} {x : Str} {p pos : Pos} {e : Expr} {es : List Expr} {t : TA}
theorem pe_cl (c : Cl X.prog X.w X.K X.mg X.base k x F) (hr : Room j X.A) (hj : k ≤ j) (hg : Gl X x) (ha : PA X (e :: es) t) (hdb : (x == ("__debug__" : Str)) = false := by decide)
    (he : starEach (e :: es) X.env = (false, eval e X.env) :: starEach es X.env := by rfl) (hpl : (backTo pos (starEach es X.env)).any (·.1) = false := by rfl) : PE X (.Call (.Name x p) (e :: es) [] pos) (tCall (spF X.K F) [] E0 t) := by
  obtain ⟨f, fd, ps, h1, h2, h3, h4⟩ := c.ex
  exact pe_call h1 (hr.mono hj) hg h2 h3 h4 .nil pass0 ha hdb he hpl
theorem pe_cl0 (c : Cl X.prog X.w X.K X.mg X.base k x F) (hr : Room j X.A) (hj : k ≤ j) (hlen : F [] ≠ none) (hg : Gl X x) (hdb : (x == ("__debug__" : Str)) = false := by decide) : PE X (.Call (.Name x p) [] [] pos) (tCall (spF X.K F) [] E0 tNil) := by
  obtain ⟨f, fd, ps, h1, h2, h3, h4⟩ := c.ex
  obtain ⟨d, hd⟩ := Option.ne_none_iff_exists'.mp hlen
  have hz : ps = [] := by
    have z := h1.len [] (fun _ => none) (fun _ _ => True) (fun _ _ _ => True) ⟨fun _ => none, [], d, fun _ _ q => q, .nil, hd, fun _ _ _ _ _ => trivial⟩
    exact List.length_eq_zero_iff.mp z.symm
  subst hz
  exact pe_call0 h1 (hr.mono hj) hg h2 h3 h4 .nil pass0 hdb
end
/-- the slots that hold data -/
inductive Slots (K : PySem.W.Frag) (G : Hp) : Env → L2.St → Prop where
  | nil : Slots K G [] []
  | no {o : Option V} {env : Env} {σ : L2.St} : Slots K G env σ → Slots K G (none :: env) (o :: σ)
  | yes {v : V} {d : D} {env : Env} {σ : L2.St} : Rp K G v d → Slots K G env σ → Slots K G (some (false, d) :: env) (some v :: σ)
theorem Slots.len {K : PySem.W.Frag} {G : Hp} : ∀ {env : Env} {σ : L2.St}, Slots K G env σ → env.length = σ.length
  | _, _, .nil => rfl
  | _, _, .no h => by simp [Slots.len h]
  | _, _, .yes _ h => by simp [Slots.len h]
theorem Slots.at {K : PySem.W.Frag} {G : Hp} : ∀ {env : Env} {σ : L2.St} {i : Nat} {q : Bool × D}, Slots K G env σ → env[i]? = some (some q) → q.1 = false ∧ ∃ v, σ[i]? = some (some v) ∧ Rp K G v q.2
  | _, _, _, _, .nil, e => by simp at e
  | _, _, 0, _, .no h, e => by simp at e
  | _, _, i + 1, _, .no h, e => by
    obtain ⟨h1, v, h2, h3⟩ := Slots.at (i := i) h (by simpa using e)
    exact ⟨h1, v, by simpa using h2, h3⟩
  | _, _, 0, _, .yes r h, e => by simp at e; subst e; exact ⟨rfl, _, rfl, r⟩
  | _, _, i + 1, _, .yes r h, e => by
    obtain ⟨h1, v, h2, h3⟩ := Slots.at (i := i) h (by simpa using e)
    exact ⟨h1, v, by simpa using h2, h3⟩
theorem Slots.rl {K : PySem.W.Frag} {G H : Hp} {env : Env} {σ : L2.St} (h : Slots K G env σ) (e : Same G H) : Rl K (fun _ => True) env σ G H where
  gh := e
  len := h.len
  fr := fun i d q => let ⟨_, v, h1, h2⟩ := h.at q; ⟨v, h1, h2⟩
  ow := fun i d q => let ⟨z, _⟩ := h.at q; by cases z
  dj := fun i j d1 d2 a q => let ⟨z, _⟩ := h.at q; by cases z
/-- what may be shown -/
def rpP (p : PyData) : Bool := p.showable && (!p.hasDict && (decide (p.depth ≤ 40) && decide (p.shown.length ≤ 100000)))
def rpD (d : D) : Bool := match dpy d with
  | some p => rpP p
  | none => false
theorem repr_of {K : PySem.W.Frag} {H : Hp} {a : Addr} {p : PyData} {Q : VK} (hD : Dp K H (.ref a) p) (h : rpP p = true) (q : Q (.str p.shown) H) : rRepr K [.ref a] H Q := by
  obtain ⟨h1, h⟩ := Bool.and_eq_true_iff.mp h
  obtain ⟨h2, h⟩ := Bool.and_eq_true_iff.mp h
  obtain ⟨h3, h4⟩ := Bool.and_eq_true_iff.mp h
  exact ⟨a, p, rfl, hD, h1, by simpa using h2, of_decide_eq_true h3, Nat.le_trans (of_decide_eq_true h4) (by decide), q⟩
theorem rpD_of {d : D} (h : rpD d = true) : ∃ p, dpy d = some p ∧ rpP p = true := by
  unfold rpD at h
  cases e : dpy d with
  | none => rw [e] at h; cases h
  | some p => rw [e] at h; exact ⟨p, rfl, h⟩
theorem ExtN_same {H H' : Hp} (e : Same H H') : LamX.ExtN H H' := fun b o q _ => e b o q
theorem Dr.ext {p l c : Addr} {H H' : Hp} (d : Dr H p l c) (e : LamX.ExtN H H') : Dr H' p l c := by
  obtain ⟨r, t, ls, cs, h1, h2, h3⟩ := d.ex
  exact ⟨⟨r, t, ls, cs, e _ _ h1 (fun _ z => by cases z), e _ _ h2 (fun _ z => by cases z), e _ _ h3 (fun _ z => by cases z)⟩, d.ne⟩
theorem cutV_mem {xs : List V} {lo hi : Option Int} {x : V} (h : x ∈ cutV xs lo hi) : x ∈ xs := by
  unfold cutV at h
  exact List.mem_of_mem_drop (List.mem_of_mem_take h)
theorem Rps.mem {K : PySem.W.Frag} {G : Hp} {vs : List V} {ds : List D} {v : V} (r : Rps K G vs ds) (h : v ∈ vs) : ∃ d ∈ ds, Rp K G v d := by
  obtain ⟨i, hi⟩ := List.getElem?_of_mem h
  obtain ⟨d, h1, h2⟩ := r.get' hi
  exact ⟨d, List.mem_of_getElem? h1, h2⟩
end Sh
end Part_ShL

section Part_ShK
set_option maxRecDepth 100000
set_option maxHeartbeats 2000000
/-! ShK: the head's facts: data that the module holds; defs. -/
namespace Sh
open PySem L2
mutual
/-- the value stands for the data, in the written part -/
def kdOk (K : PySem.W.Frag) : D → Value → Bool
  | .int i, .int j _ => decide (i = j)
  | .str x, .str y _ => decide (x = y)
  | .tup ds, .ref a => (match K.lookup a with
    | some ⟨.type c, _, .seq its _, _⟩ => decide (c = "tuple") && (decide (its.size ≤ 1000) && kdsOk K ds its.toList)
    | _ => false)
  | _, _ => false
def kdsOk (K : PySem.W.Frag) : List D → List Value → Bool
  | [], [] => true
  | d :: ds, u :: us => kdOk K d u && kdsOk K ds us
  | _, _ => false
end
mutual
theorem kdOk_ok {K : PySem.W.Frag} : ∀ (d : D) (u : Value), kdOk K d u = true → ∃ v, L2.RelV v u ∧ ∀ G, Rp K G v d
  | .int i, u, h => by
    cases u with
    | int j t =>
      have e : i = j := of_decide_eq_true h
      subst e
      exact ⟨.int i, ⟨t, rfl⟩, fun _ => .int i⟩
    | _ => cases h
  | .str x, u, h => by
    cases u with
    | str y t =>
      have e : x = y := of_decide_eq_true h
      subst e
      exact ⟨.str x, ⟨t, rfl⟩, fun _ => .str x⟩
    | _ => cases h
  | .tup ds, u, h => by
    cases u with
    | ref a =>
      have h2 : (match K.lookup a with
        | some ⟨.type c, _, .seq its _, _⟩ => decide (c = "tuple") && (decide (its.size ≤ 1000) && kdsOk K ds its.toList)
        | _ => false) = true := h
      cases e : K.lookup a with
      | none => rw [e] at h2; cases h2
      | some o =>
        rw [e] at h2
        obtain ⟨oc, od, dt, sl⟩ := o
        cases oc with
        | type c =>
          cases dt with
          | seq its n =>
            obtain ⟨h3, h4⟩ := Bool.and_eq_true_iff.mp h2
            obtain ⟨h5, h6⟩ := Bool.and_eq_true_iff.mp h4
            obtain ⟨vs, r, q⟩ := kdsOk_ok ds its.toList h6
            have ec : c = "tuple" := of_decide_eq_true h3
            subst ec
            exact ⟨.ref a, rfl, fun G => .tup (.inr ⟨_, its, n, e, rfl, rfl, Nat.le_trans (of_decide_eq_true h5) (by decide), r⟩) (q G)⟩
          | _ => cases h2
        | _ => cases dt <;> cases h2
    | _ => cases h
  | .non, u, h => by cases u <;> cases h
  | .bl _, u, h => by cases u <;> cases h
  | .lst _, u, h => by cases u <;> cases h
  | .dct _, u, h => by cases u <;> cases h
  | .raw _, u, h => by cases u <;> cases h
  | .rng _ _, u, h => by cases u <;> cases h
theorem kdsOk_ok {K : PySem.W.Frag} : ∀ (ds : List D) (us : List Value), kdsOk K ds us = true → ∃ vs, L2.Vals vs us ∧ ∀ G, Rps K G vs ds
  | [], us, h => by
    cases us with
    | nil => exact ⟨[], .nil, fun _ => .nil⟩
    | cons u us => cases h
  | d :: ds, us, h => by
    cases us with
    | nil => cases h
    | cons u us =>
      obtain ⟨h1, h2⟩ := Bool.and_eq_true_iff.mp (show (kdOk K d u && kdsOk K ds us) = true from h)
      obtain ⟨v, r, q⟩ := kdOk_ok d u h1
      obtain ⟨vs, rs, qs⟩ := kdsOk_ok ds us h2
      exact ⟨v :: vs, .cons r rs, fun G => .cons (q G) (qs G)⟩
end
/-- a table of the module: text keys, data -/
def ktB (K : PySem.W.Frag) (a : Addr) (t : List (Str × D)) : Bool := t.all fun q => match PySem.W.nsIn K a q.1 with
  | some (some u) => kdOk K q.2 u
  | _ => false
theorem ktB_ok {K : PySem.W.Frag} {w : World} {a : Addr} {t : List (Str × D)} {es : Array DictEntry} {n : Nat} (h : ktB K a t = true) (D0 : KDict K w a es n) {q : Str × D} (hq : q ∈ t) : ∃ v, KDct K w a q.1 v ∧ ∀ G, Rp K G v q.2 := by
  have h1 := List.all_eq_true.mp h q hq
  cases e : PySem.W.nsIn K a q.1 with
  | none => rw [e] at h1; cases h1
  | some r =>
    rw [e] at h1
    cases r with
    | none => cases h1
    | some u =>
      obtain ⟨v, r, q⟩ := kdOk_ok _ u h1
      exact ⟨v, ⟨es, n, u, D0.at_, D0.lit, e, r⟩, q⟩
theorem fun_of {K : PySem.W.Frag} {x q : Str} {st : Stmt} {f : Addr} {fd : FuncData} (F : FunD K x q (defArgs st) (defBody st) (defScope st) [] [] f fd) : L2.Fun K x q st f fd := by
  obtain ⟨oc, od, dV, kV, doc, pm, an, cdv, ct, osl, rfl, lk, hcd, hD, hK⟩ := F.ex
  rcases hD with ⟨_, rfl⟩ | ⟨e, _⟩
  · exact ⟨⟨oc, od, kV, doc, pm, an, cdv, ct, osl, rfl, lk, hcd⟩, F.kp⟩
  · exact absurd rfl e
/-- what isinstance asks of an own exception's class, as a look -/
def excCB (K : PySem.W.Frag) (D : Addr) : Bool := decide (PySem.W.findIn K (.ref D) "__getattribute__" = some (some (.builtin "BaseException.__getattribute__"))) && (decide (PySem.W.findIn K (.ref D) "__getattr__" = some none) && (decide (PySem.W.subIn K (.ref D) (.type "BaseException") = some true) && (PySem.W.hasDictIn K D &&
  (decide (PySem.W.findIn K (.ref D) "__class__" = some (some (.builtin "object.__class__"))) && (decide (PySem.W.specialIn K (.builtin "object.__class__") "__get__" = some (some (.builtin "getset_descriptor.__get__"))) && (decide (PySem.W.takesIn K (.builtin "object.__class__") = some true) && decide (PySem.W.mroIn K D (.type "object") = some true)))))))
theorem excCB_ok {K : PySem.W.Frag} {D : Addr} (h : excCB K D = true) : ExcC K D := by
  obtain ⟨h1, h⟩ := Bool.and_eq_true_iff.mp h
  obtain ⟨h2, h⟩ := Bool.and_eq_true_iff.mp h
  obtain ⟨h3, h⟩ := Bool.and_eq_true_iff.mp h
  obtain ⟨h4, h⟩ := Bool.and_eq_true_iff.mp h
  obtain ⟨h5, h⟩ := Bool.and_eq_true_iff.mp h
  obtain ⟨h6, h⟩ := Bool.and_eq_true_iff.mp h
  obtain ⟨h7, h8⟩ := Bool.and_eq_true_iff.mp h
  exact ⟨of_decide_eq_true h1, of_decide_eq_true h2, of_decide_eq_true h3, h4, of_decide_eq_true h5, of_decide_eq_true h6, of_decide_eq_true h7, of_decide_eq_true h8⟩
def inCB (K : PySem.W.Frag) (C : Addr) : Bool := decide (PySem.W.findIn K (.ref C) "__class__" = some (some (.builtin "object.__class__"))) && (decide (PySem.W.specialIn K (.builtin "object.__class__") "__get__" = some (some (.builtin "getset_descriptor.__get__"))) && (decide (PySem.W.takesIn K (.builtin "object.__class__") = some true) && decide (PySem.W.mroIn K C (.type "object") = some true)))
end Sh
end Part_ShK

section Part_K71a
set_option maxRecDepth 100000
set_option maxHeartbeats 4000000
/-! K71a: the plain defs of k71 (written by gen_sh.py). -/
namespace Sh
open PySem L2
def top (i : Nat) : Stmt := PySem.Challenge.pw_wallscut_k71_whole_known_sets.main.body.getD i (.Pass ⟨0, 0, 0, 0⟩)
section
variable {P : Program} {w : World} {K : PySem.W.Frag} {mg : Str → Option Value} {base : Heap}

/-! ### _law_parted -/
abbrev s_law_parted : Stmt := top 28
def m_law_parted : Sx := (sSeq (sSet 1 (eC (.int 0))) (sSeq (sFor (wItems (eVar 0)) (gV 2) (sSeq (sPar 3 4 (fPl (eVar 1)) (fPl (eCB cAbs (aCons (eCB cInt (aCons (eVar 2) aNil)) aNil)))) (sSeq (sWhile 400 (bBin sNe (ePk 4) (eC (.int 0))) (sPar 3 4 (fPl (eVar 4)) (fPl (eBin (sInt fMod) (eCB cInt (aCons (eVar 3) aNil)) (eVar 4))))) (sSet 1 (eVar 3))))) (sRet (eVar 1))))
def F_law_parted : List D → Option D := fnD 1 5 m_law_parted
theorem sc_law_parted : FnScope ["numbers", "found", "number", "one", "other"] ["numbers"] (defScope s_law_parted) := ⟨rfl, rfl, rfl, by decide +kernel, rfl, by decide +kernel, by decide +kernel⟩
theorem ok_law_parted {f : Addr} {fd : FuncData} (F : L2.Fun K "_law_parted" "_law_parted" s_law_parted f fd) (T : Bt mg)  : FnOk P w K mg base CX0 1 f fd ["numbers"] (spF K F_law_parted) :=
  fn_ok (m := m_law_parted) F sc_law_parted fun cdv A outer s H E hr => (ok_bCons (ok_set 1 sc_law_parted.nd ok_int) (ok_bCons (ok_for (vs := [2]) PassesOwn.never rfl (ok_wItems (ok_var 0)) (ok_gV 2 sc_law_parted.nd) (ok_bCons (ok_par 3 4 rfl sc_law_parted.nd (OkE.f (ok_var 1)) (OkE.f (ok_abs T.abs (ok_cons (ok_intc T.int (ok_cons (ok_var 2) ok_nil)) ok_nil)))) (ok_bCons (ok_while 400 PassesOwn.never (ok_neT hr.units (ok_pk 4) (OkE.p ok_int)) (ok_bOne (ok_par 3 4 rfl sc_law_parted.nd (OkE.f (ok_var 4)) (OkE.f (ok_mod (ok_intc T.int (ok_cons (ok_var 3) ok_nil)) (ok_var 4)))))) (ok_bOne (ok_set 1 sc_law_parted.nd (ok_var 3)))))) (ok_bOne (ok_ret (ok_var 1)))))
theorem cl_law_parted {f : Addr} {fd : FuncData} (F : L2.Fun K "_law_parted" "_law_parted" s_law_parted f fd) (hm : mg "_law_parted" = some (.ref f)) (T : Bt mg)  : Cl P w K mg base 1 "_law_parted" F_law_parted :=
  ⟨f, fd, ["numbers"], ok_law_parted F T , hm, F.kp, F.binds fun _ _ _ _ _ _ us hl => match us, hl with | [_], _ => rfl⟩
/-! ### _law_lessened -/
abbrev s_law_lessened : Stmt := top 29
def m_law_lessened : Sx := (sSeq (sSet 1 (eCB F_law_parted (aCons (eVar 0) aNil))) (sRet (eIf (bBin (sCmp fGt) (eVar 1) (eC (.int 1))) (eComp (wItems (eVar 0)) [2] (gV 2) bYes (eBin (sInt fFdiv) (eVar 2) (eVar 1))) (eVar 0))))
def F_law_lessened : List D → Option D := fnD 1 3 m_law_lessened
theorem sc_law_lessened : FnScope ["line", "part", "number"] ["line"] (defScope s_law_lessened) := ⟨rfl, rfl, rfl, by decide +kernel, rfl, by decide +kernel, by decide +kernel⟩
theorem ok_law_lessened {f : Addr} {fd : FuncData} (F : L2.Fun K "_law_lessened" "_law_lessened" s_law_lessened f fd) (T : Bt mg) (C_law_parted : Cl P w K mg base 1 "_law_parted" F_law_parted) : FnOk P w K mg base CX0 2 f fd ["line"] (spF K F_law_lessened) :=
  fn_ok (m := m_law_lessened) F sc_law_lessened fun cdv A outer s H E hr => (ok_bCons (ok_set 1 sc_law_lessened.nd (ok_cl C_law_parted hr (by decide) (ok_cons (ok_var 0) ok_nil))) (ok_bOne (ok_ret (ok_ifE (ok_gtT (ok_var 1) ok_int) (ok_comp (own := [("number", 2)]) rfl sc_law_lessened.nd (ok_wItems (ok_var 0)) (by kernel_rfl) (fun _ _ _ _ _ => (ok_gV 2 sc_law_lessened.nd)) (fun _ _ _ _ _ => ok_tsNil) (fun _ _ _ _ _ => (ok_fdiv (ok_var 2) (ok_var 1)))) (ok_var 0)))))
theorem cl_law_lessened {f : Addr} {fd : FuncData} (F : L2.Fun K "_law_lessened" "_law_lessened" s_law_lessened f fd) (hm : mg "_law_lessened" = some (.ref f)) (T : Bt mg) (C_law_parted : Cl P w K mg base 1 "_law_parted" F_law_parted) : Cl P w K mg base 2 "_law_lessened" F_law_lessened :=
  ⟨f, fd, ["line"], ok_law_lessened F T C_law_parted, hm, F.kp, F.binds fun _ _ _ _ _ _ us hl => match us, hl with | [_], _ => rfl⟩
/-! ### _law_rank -/
abbrev s_law_rank : Stmt := top 30
def m_law_rank : Sx := (sSeq (sPar 1 2 (fPl (eComp (wItems (eVar 0)) [8] (gV 8) bYes (eCB cList (aCons (eVar 8) aNil)))) (fPl (eC (.int 0)))) (sSeq (sFor (wRange1 (aCons (eIf (bBin sNe (ePk 1) (eLst aNil)) (eCB cLen (aCons (eIdxV 1 (eC (.int 0))) aNil)) (eC (.int 0))) aNil)) (gV 3) (sSeq (sSet 4 (eComp (wEn (aCons (eVar 1) aNil)) [7, 8] (gT 2 (gsCons (gV 7) (gsCons (gV 8) gsNil))) (bBin sNe (eIdxV 8 (eVar 3)) (eC (.int 0))) (eVar 7))) (sIf (bBin sNe (ePk 4) (eLst aNil)) (sSeq (sPar 5 6 (fPl (eIdxV 1 (eIdxV 4 (eC (.int 0))))) (fLst aNil)) (sSeq (sFor (wEn (aCons (eVar 1) aNil)) (gT 2 (gsCons (gV 7) (gsCons (gV 8) gsNil))) (sIf (bBin sNe (ePk 7) (eIdxV 4 (eC (.int 0)))) (sApp 6 (eCB F_law_lessened (aCons (eComp (wZip (aCons (eVar 8) (aCons (eVar 5) aNil))) [9, 10] (gT 2 (gsCons (gV 9) (gsCons (gV 10) gsNil))) bYes (eBin (sInt fSub) (eBin sMul (eIdxV 5 (eVar 3)) (eVar 9)) (eBin sMul (eIdxV 8 (eVar 3)) (eVar 10)))) aNil))) sNil)) (sSeq (sFrz 6 (sSet 1 (eVar 6))) (sSet 2 (eBin sAdd (eVar 2) (eC (.int 1))))))) sNil))) (sRet (eVar 2))))
def F_law_rank : List D → Option D := fnD 1 11 m_law_rank
theorem sc_law_rank : FnScope ["table", "rows", "found", "column", "spots", "lead", "later", "spot", "row", "one", "other"] ["table"] (defScope s_law_rank) := ⟨rfl, rfl, rfl, by decide +kernel, rfl, by decide +kernel, by decide +kernel⟩
theorem ok_law_rank {f : Addr} {fd : FuncData} (F : L2.Fun K "_law_rank" "_law_rank" s_law_rank f fd) (T : Bt mg) (C_law_lessened : Cl P w K mg base 2 "_law_lessened" F_law_lessened) : FnOk P w K mg base CX0 3 f fd ["table"] (spF K F_law_rank) :=
  fn_ok (m := m_law_rank) F sc_law_rank fun cdv A outer s H E hr => (ok_bCons (ok_par 1 2 rfl sc_law_rank.nd (OkE.f (ok_comp (own := [("row", 8)]) rfl sc_law_rank.nd (ok_wItems (ok_var 0)) (by kernel_rfl) (fun _ _ _ _ _ => (ok_gV 8 sc_law_rank.nd)) (fun _ _ _ _ _ => ok_tsNil) (fun _ _ _ _ _ => (ok_list T.list (ok_cons (ok_var 8) ok_nil))))) (OkE.f ok_int)) (ok_bCons (ok_for (vs := [3]) PassesOwn.never rfl (ok_wRange1 T.range (ok_cons (ok_ifE (ok_neT hr.units (ok_pk 1) (OkE.p (ok_lst ok_nil))) (ok_len T.len (ok_cons (ok_idxV 1 ok_int) ok_nil)) ok_int) ok_nil)) (ok_gV 3 sc_law_rank.nd) (ok_bCons (ok_setLc 4 (own := [("spot", 7), ("row", 8)]) rfl sc_law_rank.nd (ok_wEn T.enumerate (ok_cons (ok_var 1) ok_nil)) (by kernel_rfl) (fun _ _ _ _ _ => (ok_gT rfl (ok_gsCons (ok_gV 7 sc_law_rank.nd) (ok_gsCons (ok_gV 8 sc_law_rank.nd) ok_gsNil)))) (fun _ _ _ _ _ => (ok_tsOne (ok_neT hr.units (OkE.p (ok_idxV 8 (ok_var 3))) (OkE.p ok_int)))) (fun _ _ _ _ _ => (ok_var 7))) (ok_bOne (ok_if (ok_neT hr.units (ok_pk 4) (OkE.p (ok_lst ok_nil))) (ok_bCons (ok_parC 5 6 rfl sc_law_rank.nd (OkE.f (ok_idxV 1 (ok_idxV 4 ok_int))) (ok_fLst ok_nil)) (ok_bCons (ok_for (vs := [7, 8]) PassesOwn.never rfl (ok_wEn T.enumerate (ok_cons (ok_var 1) ok_nil)) (ok_gT rfl (ok_gsCons (ok_gV 7 sc_law_rank.nd) (ok_gsCons (ok_gV 8 sc_law_rank.nd) ok_gsNil))) (ok_bOne (ok_if (ok_neT hr.units (ok_pk 7) (OkE.p (ok_idxV 4 ok_int))) (ok_bOne (ok_app 6 (ok_cl C_law_lessened hr (by decide) (ok_cons (ok_comp (own := [("one", 9), ("other", 10)]) rfl sc_law_rank.nd (ok_wZip T.zip (ok_cons (ok_var 8) (ok_cons (ok_var 5) ok_nil))) (by kernel_rfl) (fun _ _ _ _ _ => (ok_gT rfl (ok_gsCons (ok_gV 9 sc_law_rank.nd) (ok_gsCons (ok_gV 10 sc_law_rank.nd) ok_gsNil)))) (fun _ _ _ _ _ => ok_tsNil) (fun _ _ _ _ _ => (ok_sub (ok_mul (ok_idxV 5 (ok_var 3)) (ok_var 9)) (ok_mul (ok_idxV 8 (ok_var 3)) (ok_var 10))))) ok_nil)))) ok_bNil))) (ok_bCons (ok_sFrz 6 (ok_set 1 sc_law_rank.nd (ok_var 6))) (ok_bOne (ok_set 2 sc_law_rank.nd (ok_add (ok_var 2) ok_int)))))) ok_bNil)))) (ok_bOne (ok_ret (ok_var 2)))))
theorem cl_law_rank {f : Addr} {fd : FuncData} (F : L2.Fun K "_law_rank" "_law_rank" s_law_rank f fd) (hm : mg "_law_rank" = some (.ref f)) (T : Bt mg) (C_law_lessened : Cl P w K mg base 2 "_law_lessened" F_law_lessened) : Cl P w K mg base 3 "_law_rank" F_law_rank :=
  ⟨f, fd, ["table"], ok_law_rank F T C_law_lessened, hm, F.kp, F.binds fun _ _ _ _ _ _ us hl => match us, hl with | [_], _ => rfl⟩
/-! ### _law_at -/
abbrev s_law_at : Stmt := top 31
def m_law_at : Sx := (sRet (eComp (wEn (aCons (eVar 0) aNil)) [3, 4] (gT 2 (gsCons (gV 3) (gsCons (gV 4) gsNil))) (bBin (sIn false) (ePk 3) (ePk 1)) (eSl (eVar 4) oNone (oSome (eVar 2)))))
def F_law_at : List D → Option D := fnD 3 5 m_law_at
theorem sc_law_at : FnScope ["rows", "lot", "wide", "place", "row"] ["rows", "lot", "wide"] (defScope s_law_at) := ⟨rfl, rfl, rfl, by decide +kernel, rfl, by decide +kernel, by decide +kernel⟩
theorem ok_law_at {f : Addr} {fd : FuncData} (F : L2.Fun K "_law_at" "_law_at" s_law_at f fd) (T : Bt mg)  : FnOk P w K mg base CX0 1 f fd ["rows", "lot", "wide"] (spF K F_law_at) :=
  fn_ok (m := m_law_at) F sc_law_at fun cdv A outer s H E hr => (ok_bOne (ok_ret (ok_comp (own := [("place", 3), ("row", 4)]) rfl sc_law_at.nd (ok_wEn T.enumerate (ok_cons (ok_var 0) ok_nil)) (by kernel_rfl) (fun _ _ _ _ _ => (ok_gT rfl (ok_gsCons (ok_gV 3 sc_law_at.nd) (ok_gsCons (ok_gV 4 sc_law_at.nd) ok_gsNil)))) (fun _ _ _ _ _ => (ok_tsOne (ok_inT (ok_pk 3) (ok_pk 1)))) (fun _ _ _ _ _ => (ok_sl (ok_var 4) ok_oN (ok_oS (ok_var 2)))))))
theorem cl_law_at {f : Addr} {fd : FuncData} (F : L2.Fun K "_law_at" "_law_at" s_law_at f fd) (hm : mg "_law_at" = some (.ref f)) (T : Bt mg)  : Cl P w K mg base 1 "_law_at" F_law_at :=
  ⟨f, fd, ["rows", "lot", "wide"], ok_law_at F T , hm, F.kp, F.binds fun _ _ _ _ _ _ us hl => match us, hl with | [_, _, _], _ => rfl⟩
/-! ### _law_all_parts -/
abbrev s_law_all_parts : Stmt := top 32
def m_law_all_parts : Sx := (sSeq (sSet 1 (eLst (aCons (eTup aNil) aNil))) (sSeq (sFor (wRange1 (aCons (eVar 0) aNil)) (gV 2) (sSet 1 (eBin sAdd (eVar 1) (eComp (wItems (eVar 1)) [3] (gV 3) bYes (eBin sAdd (eVar 3) (eTup (aCons (eVar 2) aNil))))))) (sRet (eVar 1))))
def F_law_all_parts : List D → Option D := fnD 1 4 m_law_all_parts
theorem sc_law_all_parts : FnScope ["many", "found", "place", "part"] ["many"] (defScope s_law_all_parts) := ⟨rfl, rfl, rfl, by decide +kernel, rfl, by decide +kernel, by decide +kernel⟩
theorem ok_law_all_parts {f : Addr} {fd : FuncData} (F : L2.Fun K "_law_all_parts" "_law_all_parts" s_law_all_parts f fd) (T : Bt mg)  : FnOk P w K mg base CX0 1 f fd ["many"] (spF K F_law_all_parts) :=
  fn_ok (m := m_law_all_parts) F sc_law_all_parts fun cdv A outer s H E hr => (ok_bCons (ok_set 1 sc_law_all_parts.nd (ok_lst (ok_cons (ok_tup ok_nil) ok_nil))) (ok_bCons (ok_for (vs := [2]) PassesOwn.never rfl (ok_wRange1 T.range (ok_cons (ok_var 0) ok_nil)) (ok_gV 2 sc_law_all_parts.nd) (ok_bOne (ok_set 1 sc_law_all_parts.nd (ok_add (ok_var 1) (ok_comp (own := [("part", 3)]) rfl sc_law_all_parts.nd (ok_wItems (ok_var 1)) (by kernel_rfl) (fun _ _ _ _ _ => (ok_gV 3 sc_law_all_parts.nd)) (fun _ _ _ _ _ => ok_tsNil) (fun _ _ _ _ _ => (ok_add (ok_var 3) (ok_tup (ok_cons (ok_var 2) ok_nil))))))))) (ok_bOne (ok_ret (ok_var 1)))))
theorem cl_law_all_parts {f : Addr} {fd : FuncData} (F : L2.Fun K "_law_all_parts" "_law_all_parts" s_law_all_parts f fd) (hm : mg "_law_all_parts" = some (.ref f)) (T : Bt mg)  : Cl P w K mg base 1 "_law_all_parts" F_law_all_parts :=
  ⟨f, fd, ["many"], ok_law_all_parts F T , hm, F.kp, F.binds fun _ _ _ _ _ _ us hl => match us, hl with | [_], _ => rfl⟩
/-! ### _law_counts -/
abbrev s_law_counts : Stmt := top 33
def m_law_counts : Sx := (sSeq (sPar 2 3 (fRep (eLst (aCons (eC (.int 0)) aNil)) (eBin sAdd (eVar 0) (eC (.int 1)))) (fPl (eC (.int 0)))) (sSeq (sFor (wItems (eCB F_law_all_parts (aCons (eCB cLen (aCons (eVar 1) aNil)) aNil))) (gV 4) (sSeq (sSet 9 (eCB F_law_rank (aCons (eCB F_law_at (aCons (eVar 1) (aCons (eVar 4) (aCons (eVar 0) aNil)))) aNil))) (sIf (bBin sEq (eCB F_law_rank (aCons (eCB F_law_at (aCons (eVar 1) (aCons (eVar 4) (aCons (eBin sAdd (eVar 0) (eC (.int 1))) aNil)))) aNil)) (ePk 9)) (sSeq (sAugL 2 (fun i j => i + j) (eBin (sInt fSub) (eVar 0) (eVar 9)) (eIf (bBin sEq (eBin (sInt fMod) (eCB cInt (aCons (eCB cLen (aCons (eVar 4) aNil)) aNil)) (eC (.int 2))) (eC (.int 0))) (eC (.int 1)) (eNeg (eC (.int 1))))) (sSet 3 (eCB cMax (aCons (eLst (aCons (eVar 3) (aCons (eVar 9) aNil))) aNil)))) sNil))) (sSeq (sAsg (eTup (aCons (eC (.int 0)) (aCons (eC (.int 0)) aNil))) (gT 2 (gsCons (gV 5) (gsCons (gV 6) gsNil)))) (sSeq (sFrz 2 (sFor (wEn (aCons (eVar 2) aNil)) (gT 2 (gsCons (gV 7) (gsCons (gV 8) gsNil))) (sSeq (sSet 5 (eBin sAdd (eVar 5) (eIf (bBin sEq (eBin (sInt fMod) (eCB cInt (aCons (eVar 7) aNil)) (eC (.int 2))) (eC (.int 0))) (eVar 8) (eBin (sInt fSub) (eC (.int 0)) (eVar 8))))) (sSet 6 (eBin sAdd (eVar 6) (eVar 8)))))) (sFrz 2 (sRet (eTup (aCons (eCB cAbs (aCons (eVar 5) aNil)) (aCons (eIf (bBin sEq (ePk 3) (ePk 0)) (eCB cAbs (aCons (eVar 6) aNil)) (eC (.int 0))) (aCons (eCB cTup (aCons (eVar 2) aNil)) aNil))))))))))
def F_law_counts : List D → Option D := fnD 2 10 m_law_counts
theorem sc_law_counts : FnScope ["size", "rows", "found", "most", "lot", "many", "near", "place", "number", "rank"] ["size", "rows"] (defScope s_law_counts) := ⟨rfl, rfl, rfl, by decide +kernel, rfl, by decide +kernel, by decide +kernel⟩
theorem ok_law_counts {f : Addr} {fd : FuncData} (F : L2.Fun K "_law_counts" "_law_counts" s_law_counts f fd) (T : Bt mg) (C_law_all_parts : Cl P w K mg base 1 "_law_all_parts" F_law_all_parts) (C_law_rank : Cl P w K mg base 3 "_law_rank" F_law_rank) (C_law_at : Cl P w K mg base 1 "_law_at" F_law_at) : FnOk P w K mg base CX0 4 f fd ["size", "rows"] (spF K F_law_counts) :=
  fn_ok (m := m_law_counts) F sc_law_counts fun cdv A outer s H E hr => (ok_bCons (ok_par 2 3 rfl sc_law_counts.nd (ok_fRep (ok_lst (ok_cons ok_int ok_nil)) (ok_add (ok_var 0) ok_int)) (OkE.f ok_int)) (ok_bCons (ok_for (vs := [4]) PassesOwn.never rfl (ok_wItems (ok_cl C_law_all_parts hr (by decide) (ok_cons (ok_len T.len (ok_cons (ok_var 1) ok_nil)) ok_nil))) (ok_gV 4 sc_law_counts.nd) (ok_bCons (ok_set 9 sc_law_counts.nd (ok_cl C_law_rank hr (by decide) (ok_cons (ok_cl C_law_at hr (by decide) (ok_cons (ok_var 1) (ok_cons (ok_var 4) (ok_cons (ok_var 0) ok_nil)))) ok_nil))) (ok_bOne (ok_if (ok_eqT hr.units (OkE.p (ok_cl C_law_rank hr (by decide) (ok_cons (ok_cl C_law_at hr (by decide) (ok_cons (ok_var 1) (ok_cons (ok_var 4) (ok_cons (ok_add (ok_var 0) ok_int) ok_nil)))) ok_nil))) (ok_pk 9)) (ok_bCons (ok_augL 2 ip_add (ok_sub (ok_var 0) (ok_var 9)) (ok_ifE (ok_eqT hr.units (OkE.p (ok_mod (ok_intc T.int (ok_cons (ok_len T.len (ok_cons (ok_var 4) ok_nil)) ok_nil)) ok_int)) (OkE.p ok_int)) ok_int (ok_neg ok_int))) (ok_bOne (ok_set 3 sc_law_counts.nd (ok_max rfl T.max (ok_cons (ok_lst (ok_cons (ok_var 3) (ok_cons (ok_var 9) ok_nil))) ok_nil))))) ok_bNil)))) (ok_bCons (ok_asg (vs := [5, 6]) (ok_tup (ok_cons ok_int (ok_cons ok_int ok_nil))) (ok_gT rfl (ok_gsCons (ok_gV 5 sc_law_counts.nd) (ok_gsCons (ok_gV 6 sc_law_counts.nd) ok_gsNil)))) (ok_bCons (ok_sFrz 2 (ok_for (vs := [7, 8]) PassesOwn.never rfl (ok_wEn T.enumerate (ok_cons (ok_var 2) ok_nil)) (ok_gT rfl (ok_gsCons (ok_gV 7 sc_law_counts.nd) (ok_gsCons (ok_gV 8 sc_law_counts.nd) ok_gsNil))) (ok_bCons (ok_set 5 sc_law_counts.nd (ok_add (ok_var 5) (ok_ifE (ok_eqT hr.units (OkE.p (ok_mod (ok_intc T.int (ok_cons (ok_var 7) ok_nil)) ok_int)) (OkE.p ok_int)) (ok_var 8) (ok_sub ok_int (ok_var 8))))) (ok_bOne (ok_set 6 sc_law_counts.nd (ok_add (ok_var 6) (ok_var 8))))))) (ok_bOne (ok_sFrz 2 (ok_ret (ok_tup (ok_cons (ok_abs T.abs (ok_cons (ok_var 5) ok_nil)) (ok_cons (ok_ifE (ok_eqT hr.units (ok_pk 3) (ok_pk 0)) (ok_abs T.abs (ok_cons (ok_var 6) ok_nil)) ok_int) (ok_cons (ok_tuple T.tuple (ok_cons (ok_var 2) ok_nil)) ok_nil)))))))))))
theorem cl_law_counts {f : Addr} {fd : FuncData} (F : L2.Fun K "_law_counts" "_law_counts" s_law_counts f fd) (hm : mg "_law_counts" = some (.ref f)) (T : Bt mg) (C_law_all_parts : Cl P w K mg base 1 "_law_all_parts" F_law_all_parts) (C_law_rank : Cl P w K mg base 3 "_law_rank" F_law_rank) (C_law_at : Cl P w K mg base 1 "_law_at" F_law_at) : Cl P w K mg base 4 "_law_counts" F_law_counts :=
  ⟨f, fd, ["size", "rows"], ok_law_counts F T C_law_all_parts C_law_rank C_law_at, hm, F.kp, F.binds fun _ _ _ _ _ _ us hl => match us, hl with | [_, _], _ => rfl⟩
/-! ### _law_flats_many -/
abbrev s_law_flats_many : Stmt := top 34
def m_law_flats_many : Sx := (sSeq (sSetF 2 fNewD) (sSeq (sFor (wItems (eCB F_law_all_parts (aCons (eCB cLen (aCons (eVar 1) aNil)) aNil))) (gV 3) (sSeq (sSet 4 (eCB F_law_rank (aCons (eCB F_law_at (aCons (eVar 1) (aCons (eVar 3) (aCons (eVar 0) aNil)))) aNil))) (sIf (bBin sEq (eCB cLen (aCons (eVar 3) aNil)) (ePk 4)) (sPutD 2 (kTup (eComp (wRange1 (aCons (eCB cLen (aCons (eVar 1) aNil)) aNil)) [5] (gV 5) (bOr (bBin (sIn false) (ePk 5) (ePk 3)) (bBin sEq (eCB F_law_rank (aCons (eCB F_law_at (aCons (eVar 1) (aCons (eBin sAdd (eVar 3) (eTup (aCons (eVar 5) aNil))) (aCons (eBin sAdd (eVar 0) (eC (.int 1))) aNil)))) aNil)) (ePk 4))) (eVar 5))) (eC (.bl true))) sNil))) (sRet (eLenD 2))))
def F_law_flats_many : List D → Option D := fnD 2 6 m_law_flats_many
theorem sc_law_flats_many : FnScope ["size", "rows", "found", "lot", "rank", "place"] ["size", "rows"] (defScope s_law_flats_many) := ⟨rfl, rfl, rfl, by decide +kernel, rfl, by decide +kernel, by decide +kernel⟩
theorem ok_law_flats_many {f : Addr} {fd : FuncData} (F : L2.Fun K "_law_flats_many" "_law_flats_many" s_law_flats_many f fd) (T : Bt mg) (C_law_all_parts : Cl P w K mg base 1 "_law_all_parts" F_law_all_parts) (C_law_rank : Cl P w K mg base 3 "_law_rank" F_law_rank) (C_law_at : Cl P w K mg base 1 "_law_at" F_law_at) : FnOk P w K mg base CX0 4 f fd ["size", "rows"] (spF K F_law_flats_many) :=
  fn_ok (m := m_law_flats_many) F sc_law_flats_many fun cdv A outer s H E hr => (ok_bCons (ok_setF 2 sc_law_flats_many.nd ok_fNewD) (ok_bCons (ok_for (vs := [3]) PassesOwn.never rfl (ok_wItems (ok_cl C_law_all_parts hr (by decide) (ok_cons (ok_len T.len (ok_cons (ok_var 1) ok_nil)) ok_nil))) (ok_gV 3 sc_law_flats_many.nd) (ok_bCons (ok_set 4 sc_law_flats_many.nd (ok_cl C_law_rank hr (by decide) (ok_cons (ok_cl C_law_at hr (by decide) (ok_cons (ok_var 1) (ok_cons (ok_var 3) (ok_cons (ok_var 0) ok_nil)))) ok_nil))) (ok_bOne (ok_if (ok_eqT hr.units (OkE.p (ok_len T.len (ok_cons (ok_var 3) ok_nil))) (ok_pk 4)) (ok_bOne (ok_putD 2 (hu_of hr) (ok_kTup T.tuple (ok_comp (own := [("place", 5)]) rfl sc_law_flats_many.nd (ok_wRange1 T.range (ok_cons (ok_len T.len (ok_cons (ok_var 1) ok_nil)) ok_nil)) (by kernel_rfl) (fun _ _ _ _ _ => (ok_gV 5 sc_law_flats_many.nd)) (fun _ _ _ _ _ => (ok_tsOne (OkW.t (ok_orT (ok_inT (ok_pk 5) (ok_pk 3)) (ok_or1 (ok_eqT hr.units (OkE.p (ok_cl C_law_rank hr (by decide) (ok_cons (ok_cl C_law_at hr (by decide) (ok_cons (ok_var 1) (ok_cons (ok_add (ok_var 3) (ok_tup (ok_cons (ok_var 5) ok_nil))) (ok_cons (ok_add (ok_var 0) ok_int) ok_nil)))) ok_nil))) (ok_pk 4))))))) (fun _ _ _ _ _ => (ok_var 5)))) ok_bl)) ok_bNil)))) (ok_bOne (ok_ret (ok_lenD 2 T.len)))))
theorem cl_law_flats_many {f : Addr} {fd : FuncData} (F : L2.Fun K "_law_flats_many" "_law_flats_many" s_law_flats_many f fd) (hm : mg "_law_flats_many" = some (.ref f)) (T : Bt mg) (C_law_all_parts : Cl P w K mg base 1 "_law_all_parts" F_law_all_parts) (C_law_rank : Cl P w K mg base 3 "_law_rank" F_law_rank) (C_law_at : Cl P w K mg base 1 "_law_at" F_law_at) : Cl P w K mg base 4 "_law_flats_many" F_law_flats_many :=
  ⟨f, fd, ["size", "rows"], ok_law_flats_many F T C_law_all_parts C_law_rank C_law_at, hm, F.kp, F.binds fun _ _ _ _ _ _ us hl => match us, hl with | [_, _], _ => rfl⟩
/-! ### _law_known -/
abbrev s_law_known : Stmt := top 35
def m_law_known : Sx := (sSeq (sSet 0 (eLst (aCons (eTup (aCons (eC (.str "cross")) (aCons (eTup (aCons (eC (.int 2)) (aCons (eTup (aCons (eTup (aCons (eC (.int 1)) (aCons (eC (.int 0)) (aCons (eC (.int 0)) aNil)))) (aCons (eTup (aCons (eC (.int 0)) (aCons (eC (.int 1)) (aCons (eC (.int 0)) aNil)))) aNil))) aNil))) aNil))) (aCons (eTup (aCons (eC (.str "pencil")) (aCons (eTup (aCons (eC (.int 2)) (aCons (eTup (aCons (eTup (aCons (eC (.int 1)) (aCons (eC (.int 0)) (aCons (eC (.int 0)) aNil)))) (aCons (eTup (aCons (eC (.int 0)) (aCons (eC (.int 1)) (aCons (eC (.int 0)) aNil)))) (aCons (eTup (aCons (eC (.int 1)) (aCons (eC (.int 1)) (aCons (eC (.int 0)) aNil)))) aNil)))) aNil))) aNil))) aNil)))) (sSeq (sSet 0 (eBin sAdd (eVar 0) (eLst (aCons (eTup (aCons (eC (.str "triangle")) (aCons (eTup (aCons (eC (.int 2)) (aCons (eTup (aCons (eTup (aCons (eC (.int 1)) (aCons (eC (.int 0)) (aCons (eC (.int 0)) aNil)))) (aCons (eTup (aCons (eC (.int 0)) (aCons (eC (.int 1)) (aCons (eC (.int 0)) aNil)))) (aCons (eTup (aCons (eC (.int 1)) (aCons (eC (.int 1)) (aCons (eC (.int 2)) aNil)))) aNil)))) aNil))) aNil))) (aCons (eTup (aCons (eC (.str "grid")) (aCons (eTup (aCons (eC (.int 2)) (aCons (eTup (aCons (eTup (aCons (eC (.int 1)) (aCons (eC (.int 0)) (aCons (eC (.int 0)) aNil)))) (aCons (eTup (aCons (eC (.int 1)) (aCons (eC (.int 0)) (aCons (eC (.int 1)) aNil)))) (aCons (eTup (aCons (eC (.int 0)) (aCons (eC (.int 1)) (aCons (eC (.int 0)) aNil)))) (aCons (eTup (aCons (eC (.int 0)) (aCons (eC (.int 1)) (aCons (eC (.int 1)) aNil)))) aNil))))) aNil))) aNil))) aNil))))) (sSeq (sSet 0 (eBin sAdd (eVar 0) (eLst (aCons (eTup (aCons (eC (.str "apart")) (aCons (eTup (aCons (eC (.int 1)) (aCons (eTup (aCons (eTup (aCons (eC (.int 1)) (aCons (eC (.int 0)) aNil))) (aCons (eTup (aCons (eC (.int 1)) (aCons (eC (.int 1)) aNil))) (aCons (eTup (aCons (eC (.int 1)) (aCons (eC (.int 2)) aNil))) aNil)))) aNil))) aNil))) (aCons (eTup (aCons (eC (.str "mirrors")) (aCons (eTup (aCons (eC (.int 2)) (aCons (eTup (aCons (eTup (aCons (eC (.int 1)) (aCons (eC (.int 0)) (aCons (eC (.int 0)) aNil)))) (aCons (eTup (aCons (eC (.int 0)) (aCons (eC (.int 1)) (aCons (eC (.int 0)) aNil)))) (aCons (eTup (aCons (eC (.int 1)) (aCons (eC (.int 1)) (aCons (eC (.int 0)) aNil)))) (aCons (eTup (aCons (eC (.int 1)) (aCons (eNeg (eC (.int 1))) (aCons (eC (.int 0)) aNil)))) aNil))))) aNil))) aNil))) aNil))))) (sSeq (sSet 0 (eBin sAdd (eVar 0) (eLst (aCons (eTup (aCons (eC (.str "axes")) (aCons (eTup (aCons (eC (.int 3)) (aCons (eTup (aCons (eTup (aCons (eC (.int 1)) (aCons (eC (.int 0)) (aCons (eC (.int 0)) (aCons (eC (.int 0)) aNil))))) (aCons (eTup (aCons (eC (.int 0)) (aCons (eC (.int 1)) (aCons (eC (.int 0)) (aCons (eC (.int 0)) aNil))))) (aCons (eTup (aCons (eC (.int 0)) (aCons (eC (.int 0)) (aCons (eC (.int 1)) (aCons (eC (.int 0)) aNil))))) aNil)))) aNil))) aNil))) (aCons (eTup (aCons (eC (.str "braid")) (aCons (eTup (aCons (eC (.int 3)) (aCons (eTup (aCons (eTup (aCons (eC (.int 1)) (aCons (eNeg (eC (.int 1))) (aCons (eC (.int 0)) (aCons (eC (.int 0)) aNil))))) (aCons (eTup (aCons (eC (.int 1)) (aCons (eC (.int 0)) (aCons (eNeg (eC (.int 1))) (aCons (eC (.int 0)) aNil))))) (aCons (eTup (aCons (eC (.int 0)) (aCons (eC (.int 1)) (aCons (eNeg (eC (.int 1))) (aCons (eC (.int 0)) aNil))))) aNil)))) aNil))) aNil))) aNil))))) (sSeq (sPar 1 2 (fPl (eLst (aCons (eTup (aCons (eC (.int 0)) (aCons (eC (.int 1)) aNil))) (aCons (eTup (aCons (eC (.int 0)) (aCons (eC (.int 2)) aNil))) (aCons (eTup (aCons (eC (.int 1)) (aCons (eC (.int 2)) aNil))) aNil))))) (fPl (eLst aNil))) (sSeq (sFor (wItems (eVar 1)) (gT 2 (gsCons (gV 3) (gsCons (gV 4) gsNil))) (sSet 2 (eBin sAdd (eVar 2) (eComp (wItems (eLst (aCons (eC (.int 0)) (aCons (eC (.int 1)) aNil)))) [6] (gV 6) bYes (eBin sAdd (eCB cTup (aCons (eComp (wRange1 (aCons (eC (.int 3)) aNil)) [7] (gV 7) bYes (eBin (sInt fSub) (eCB cInt (aCons (eBin sEq (ePk 7) (ePk 3)) aNil)) (eCB cInt (aCons (eBin sEq (ePk 7) (ePk 4)) aNil)))) aNil)) (eTup (aCons (eVar 6) aNil))))))) (sSeq (sSet 5 (eLst aNil)) (sSeq (sFor (wRange1 (aCons (eC (.int 4)) aNil)) (gV 3) (sSet 5 (eBin sAdd (eVar 5) (eComp (wRange2 (aCons (eBin sAdd (eVar 3) (eC (.int 1))) (aCons (eC (.int 4)) aNil))) [4] (gV 4) bYes (eBin sAdd (eCB cTup (aCons (eComp (wRange1 (aCons (eC (.int 4)) aNil)) [7] (gV 7) bYes (eBin (sInt fSub) (eCB cInt (aCons (eBin sEq (ePk 7) (ePk 3)) aNil)) (eCB cInt (aCons (eBin sEq (ePk 7) (ePk 4)) aNil)))) aNil)) (eTup (aCons (eC (.int 0)) aNil))))))) (sRet (eBin sAdd (eVar 0) (eLst (aCons (eTup (aCons (eC (.str "shifts")) (aCons (eTup (aCons (eC (.int 3)) (aCons (eCB cTup (aCons (eVar 2) aNil)) aNil))) aNil))) (aCons (eTup (aCons (eC (.str "four")) (aCons (eTup (aCons (eC (.int 4)) (aCons (eCB cTup (aCons (eVar 5) aNil)) aNil))) aNil))) aNil)))))))))))))
def F_law_known : List D → Option D := fnD 0 8 m_law_known
theorem sc_law_known : FnScope ["found", "pairs", "rows", "low", "high", "four", "last", "spot"] [] (defScope s_law_known) := ⟨rfl, rfl, rfl, by decide +kernel, rfl, by decide +kernel, by decide +kernel⟩
theorem ok_law_known {f : Addr} {fd : FuncData} (F : L2.Fun K "_law_known" "_law_known" s_law_known f fd) (T : Bt mg)  : FnOk P w K mg base CX0 1 f fd [] (spF K F_law_known) :=
  fn_ok (m := m_law_known) F sc_law_known fun cdv A outer s H E hr => (ok_bCons (ok_set 0 sc_law_known.nd (ok_lst (ok_cons (ok_tup (ok_cons ok_str (ok_cons (ok_tup (ok_cons ok_int (ok_cons (ok_tup (ok_cons (ok_tup (ok_cons ok_int (ok_cons ok_int (ok_cons ok_int ok_nil)))) (ok_cons (ok_tup (ok_cons ok_int (ok_cons ok_int (ok_cons ok_int ok_nil)))) ok_nil))) ok_nil))) ok_nil))) (ok_cons (ok_tup (ok_cons ok_str (ok_cons (ok_tup (ok_cons ok_int (ok_cons (ok_tup (ok_cons (ok_tup (ok_cons ok_int (ok_cons ok_int (ok_cons ok_int ok_nil)))) (ok_cons (ok_tup (ok_cons ok_int (ok_cons ok_int (ok_cons ok_int ok_nil)))) (ok_cons (ok_tup (ok_cons ok_int (ok_cons ok_int (ok_cons ok_int ok_nil)))) ok_nil)))) ok_nil))) ok_nil))) ok_nil)))) (ok_bCons (ok_set 0 sc_law_known.nd (ok_add (ok_var 0) (ok_lst (ok_cons (ok_tup (ok_cons ok_str (ok_cons (ok_tup (ok_cons ok_int (ok_cons (ok_tup (ok_cons (ok_tup (ok_cons ok_int (ok_cons ok_int (ok_cons ok_int ok_nil)))) (ok_cons (ok_tup (ok_cons ok_int (ok_cons ok_int (ok_cons ok_int ok_nil)))) (ok_cons (ok_tup (ok_cons ok_int (ok_cons ok_int (ok_cons ok_int ok_nil)))) ok_nil)))) ok_nil))) ok_nil))) (ok_cons (ok_tup (ok_cons ok_str (ok_cons (ok_tup (ok_cons ok_int (ok_cons (ok_tup (ok_cons (ok_tup (ok_cons ok_int (ok_cons ok_int (ok_cons ok_int ok_nil)))) (ok_cons (ok_tup (ok_cons ok_int (ok_cons ok_int (ok_cons ok_int ok_nil)))) (ok_cons (ok_tup (ok_cons ok_int (ok_cons ok_int (ok_cons ok_int ok_nil)))) (ok_cons (ok_tup (ok_cons ok_int (ok_cons ok_int (ok_cons ok_int ok_nil)))) ok_nil))))) ok_nil))) ok_nil))) ok_nil))))) (ok_bCons (ok_set 0 sc_law_known.nd (ok_add (ok_var 0) (ok_lst (ok_cons (ok_tup (ok_cons ok_str (ok_cons (ok_tup (ok_cons ok_int (ok_cons (ok_tup (ok_cons (ok_tup (ok_cons ok_int (ok_cons ok_int ok_nil))) (ok_cons (ok_tup (ok_cons ok_int (ok_cons ok_int ok_nil))) (ok_cons (ok_tup (ok_cons ok_int (ok_cons ok_int ok_nil))) ok_nil)))) ok_nil))) ok_nil))) (ok_cons (ok_tup (ok_cons ok_str (ok_cons (ok_tup (ok_cons ok_int (ok_cons (ok_tup (ok_cons (ok_tup (ok_cons ok_int (ok_cons ok_int (ok_cons ok_int ok_nil)))) (ok_cons (ok_tup (ok_cons ok_int (ok_cons ok_int (ok_cons ok_int ok_nil)))) (ok_cons (ok_tup (ok_cons ok_int (ok_cons ok_int (ok_cons ok_int ok_nil)))) (ok_cons (ok_tup (ok_cons ok_int (ok_cons (ok_neg ok_int) (ok_cons ok_int ok_nil)))) ok_nil))))) ok_nil))) ok_nil))) ok_nil))))) (ok_bCons (ok_set 0 sc_law_known.nd (ok_add (ok_var 0) (ok_lst (ok_cons (ok_tup (ok_cons ok_str (ok_cons (ok_tup (ok_cons ok_int (ok_cons (ok_tup (ok_cons (ok_tup (ok_cons ok_int (ok_cons ok_int (ok_cons ok_int (ok_cons ok_int ok_nil))))) (ok_cons (ok_tup (ok_cons ok_int (ok_cons ok_int (ok_cons ok_int (ok_cons ok_int ok_nil))))) (ok_cons (ok_tup (ok_cons ok_int (ok_cons ok_int (ok_cons ok_int (ok_cons ok_int ok_nil))))) ok_nil)))) ok_nil))) ok_nil))) (ok_cons (ok_tup (ok_cons ok_str (ok_cons (ok_tup (ok_cons ok_int (ok_cons (ok_tup (ok_cons (ok_tup (ok_cons ok_int (ok_cons (ok_neg ok_int) (ok_cons ok_int (ok_cons ok_int ok_nil))))) (ok_cons (ok_tup (ok_cons ok_int (ok_cons ok_int (ok_cons (ok_neg ok_int) (ok_cons ok_int ok_nil))))) (ok_cons (ok_tup (ok_cons ok_int (ok_cons ok_int (ok_cons (ok_neg ok_int) (ok_cons ok_int ok_nil))))) ok_nil)))) ok_nil))) ok_nil))) ok_nil))))) (ok_bCons (ok_par 1 2 rfl sc_law_known.nd (OkE.f (ok_lst (ok_cons (ok_tup (ok_cons ok_int (ok_cons ok_int ok_nil))) (ok_cons (ok_tup (ok_cons ok_int (ok_cons ok_int ok_nil))) (ok_cons (ok_tup (ok_cons ok_int (ok_cons ok_int ok_nil))) ok_nil))))) (OkE.f (ok_lst ok_nil))) (ok_bCons (ok_for (vs := [3, 4]) PassesOwn.never rfl (ok_wItems (ok_var 1)) (ok_gT rfl (ok_gsCons (ok_gV 3 sc_law_known.nd) (ok_gsCons (ok_gV 4 sc_law_known.nd) ok_gsNil))) (ok_bOne (ok_set 2 sc_law_known.nd (ok_add (ok_var 2) (ok_comp (own := [("last", 6)]) rfl sc_law_known.nd (ok_wItems (ok_lst (ok_cons ok_int (ok_cons ok_int ok_nil)))) (by kernel_rfl) (fun _ _ _ _ _ => (ok_gV 6 sc_law_known.nd)) (fun _ _ _ _ _ => ok_tsNil) (fun _ _ _ _ _ => (ok_add (ok_tuple T.tuple (ok_cons (ok_comp (own := [("spot", 7)]) rfl sc_law_known.nd (ok_wRange1 T.range (ok_cons ok_int ok_nil)) (by kernel_rfl) (fun _ _ _ _ _ => (ok_gV 7 sc_law_known.nd)) (fun _ _ _ _ _ => ok_tsNil) (fun _ _ _ _ _ => (ok_sub (ok_intc T.int (ok_cons (ok_eq hr.units (ok_pk 7) (ok_pk 3)) ok_nil)) (ok_intc T.int (ok_cons (ok_eq hr.units (ok_pk 7) (ok_pk 4)) ok_nil))))) ok_nil)) (ok_tup (ok_cons (ok_var 6) ok_nil))))))))) (ok_bCons (ok_set 5 sc_law_known.nd (ok_lst ok_nil)) (ok_bCons (ok_for (vs := [3]) PassesOwn.never rfl (ok_wRange1 T.range (ok_cons ok_int ok_nil)) (ok_gV 3 sc_law_known.nd) (ok_bOne (ok_set 5 sc_law_known.nd (ok_add (ok_var 5) (ok_comp (own := [("high", 4)]) rfl sc_law_known.nd (ok_wRange2 T.range (ok_cons (ok_add (ok_var 3) ok_int) (ok_cons ok_int ok_nil))) (by kernel_rfl) (fun _ _ _ _ _ => (ok_gV 4 sc_law_known.nd)) (fun _ _ _ _ _ => ok_tsNil) (fun _ _ _ _ _ => (ok_add (ok_tuple T.tuple (ok_cons (ok_comp (own := [("spot", 7)]) rfl sc_law_known.nd (ok_wRange1 T.range (ok_cons ok_int ok_nil)) (by kernel_rfl) (fun _ _ _ _ _ => (ok_gV 7 sc_law_known.nd)) (fun _ _ _ _ _ => ok_tsNil) (fun _ _ _ _ _ => (ok_sub (ok_intc T.int (ok_cons (ok_eq hr.units (ok_pk 7) (ok_pk 3)) ok_nil)) (ok_intc T.int (ok_cons (ok_eq hr.units (ok_pk 7) (ok_pk 4)) ok_nil))))) ok_nil)) (ok_tup (ok_cons ok_int ok_nil))))))))) (ok_bOne (ok_ret (ok_add (ok_var 0) (ok_lst (ok_cons (ok_tup (ok_cons ok_str (ok_cons (ok_tup (ok_cons ok_int (ok_cons (ok_tuple T.tuple (ok_cons (ok_var 2) ok_nil)) ok_nil))) ok_nil))) (ok_cons (ok_tup (ok_cons ok_str (ok_cons (ok_tup (ok_cons ok_int (ok_cons (ok_tuple T.tuple (ok_cons (ok_var 5) ok_nil)) ok_nil))) ok_nil))) ok_nil))))))))))))))
theorem cl_law_known {f : Addr} {fd : FuncData} (F : L2.Fun K "_law_known" "_law_known" s_law_known f fd) (hm : mg "_law_known" = some (.ref f)) (T : Bt mg)  : Cl P w K mg base 1 "_law_known" F_law_known :=
  ⟨f, fd, [], ok_law_known F T , hm, F.kp, F.binds fun _ _ _ _ _ _ us hl => match us, hl with | [], _ => rfl⟩
/-! ### is_number -/
abbrev sis_number : Stmt := top 5
def mis_number : Sx := (sRet (eAnd (eIsi "int" (eVar 0)) (eNot (eIsi "bool" (eVar 0)))))
def Fis_number : List D → Option D := fnD 1 1 mis_number
theorem scis_number : FnScope ["thing"] ["thing"] (defScope sis_number) := ⟨rfl, rfl, rfl, by decide +kernel, rfl, by decide +kernel, by decide +kernel⟩
theorem okis_number {f : Addr} {fd : FuncData} (F : L2.Fun K "is_number" "is_number" sis_number f fd) (T : Bt mg)  : FnOk P w K mg base CX0 1 f fd ["thing"] (spF K Fis_number) :=
  fn_ok (m := mis_number) F scis_number fun cdv A outer s H E hr => (ok_bOne (ok_ret (ok_andE (ok_isi "int" T.isinstance T.int (by decide +kernel) (ok_var 0)) (ok_one (ok_notE (ok_isi "bool" T.isinstance T.bool (by decide +kernel) (ok_var 0)))))))
theorem clis_number {f : Addr} {fd : FuncData} (F : L2.Fun K "is_number" "is_number" sis_number f fd) (hm : mg "is_number" = some (.ref f)) (T : Bt mg)  : Cl P w K mg base 1 "is_number" Fis_number :=
  ⟨f, fd, ["thing"], okis_number F T , hm, F.kp, F.binds fun _ _ _ _ _ _ us hl => match us, hl with | [_], _ => rfl⟩
/-! ### is_between -/
abbrev sis_between : Stmt := top 6
def mis_between : Sx := (sRet (eAnd (eCB Fis_number (aCons (eVar 0) aNil)) (eChain (sCmp fLe) (sCmp fLe) (eVar 1) (eVar 0) (eVar 2))))
def Fis_between : List D → Option D := fnD 3 3 mis_between
theorem scis_between : FnScope ["thing", "low", "high"] ["thing", "low", "high"] (defScope sis_between) := ⟨rfl, rfl, rfl, by decide +kernel, rfl, by decide +kernel, by decide +kernel⟩
theorem okis_between {f : Addr} {fd : FuncData} (F : L2.Fun K "is_between" "is_between" sis_between f fd) (T : Bt mg) (Cis_number : Cl P w K mg base 1 "is_number" Fis_number) : FnOk P w K mg base CX0 2 f fd ["thing", "low", "high"] (spF K Fis_between) :=
  fn_ok (m := mis_between) F scis_between fun cdv A outer s H E hr => (ok_bOne (ok_ret (ok_andE (ok_cl Cis_number hr (by decide) (ok_cons (ok_var 0) ok_nil)) (ok_one (ok_chain op_le sem_cmp op_le sem_cmp (ok_var 1) (ok_var 0) (ok_var 2))))))
theorem clis_between {f : Addr} {fd : FuncData} (F : L2.Fun K "is_between" "is_between" sis_between f fd) (hm : mg "is_between" = some (.ref f)) (T : Bt mg) (Cis_number : Cl P w K mg base 1 "is_number" Fis_number) : Cl P w K mg base 2 "is_between" Fis_between :=
  ⟨f, fd, ["thing", "low", "high"], okis_between F T Cis_number, hm, F.kp, F.binds fun _ _ _ _ _ _ us hl => match us, hl with | [_, _, _], _ => rfl⟩
/-! ### is_list -/
abbrev sis_list : Stmt := top 7
def mis_list : Sx := (sRet (eIsi2 "list" "tuple" (eVar 0)))
def Fis_list : List D → Option D := fnD 1 1 mis_list
theorem scis_list : FnScope ["thing"] ["thing"] (defScope sis_list) := ⟨rfl, rfl, rfl, by decide +kernel, rfl, by decide +kernel, by decide +kernel⟩
theorem okis_list {f : Addr} {fd : FuncData} (F : L2.Fun K "is_list" "is_list" sis_list f fd) (T : Bt mg)  : FnOk P w K mg base CX0 1 f fd ["thing"] (spF K Fis_list) :=
  fn_ok (m := mis_list) F scis_list fun cdv A outer s H E hr => (ok_bOne (ok_ret (ok_isi2 "list" "tuple" T.isinstance T.list (by decide +kernel) T.tuple (by decide +kernel) (ok_var 0))))
theorem clis_list {f : Addr} {fd : FuncData} (F : L2.Fun K "is_list" "is_list" sis_list f fd) (hm : mg "is_list" = some (.ref f)) (T : Bt mg)  : Cl P w K mg base 1 "is_list" Fis_list :=
  ⟨f, fd, ["thing"], okis_list F T , hm, F.kp, F.binds fun _ _ _ _ _ _ us hl => match us, hl with | [_], _ => rfl⟩
/-! ### is_tuple -/
abbrev sis_tuple : Stmt := top 8
def mis_tuple : Sx := (sRet (eAnd (eIsi "tuple" (eVar 0)) (eBin sEq (eCB cLen (aCons (eVar 0) aNil)) (ePk 1))))
def Fis_tuple : List D → Option D := fnD 2 2 mis_tuple
theorem scis_tuple : FnScope ["thing", "size"] ["thing", "size"] (defScope sis_tuple) := ⟨rfl, rfl, rfl, by decide +kernel, rfl, by decide +kernel, by decide +kernel⟩
theorem okis_tuple {f : Addr} {fd : FuncData} (F : L2.Fun K "is_tuple" "is_tuple" sis_tuple f fd) (T : Bt mg)  : FnOk P w K mg base CX0 1 f fd ["thing", "size"] (spF K Fis_tuple) :=
  fn_ok (m := mis_tuple) F scis_tuple fun cdv A outer s H E hr => (ok_bOne (ok_ret (ok_andE (ok_isi "tuple" T.isinstance T.tuple (by decide +kernel) (ok_var 0)) (ok_one (ok_eq hr.units (OkE.p (ok_len T.len (ok_cons (ok_var 0) ok_nil))) (ok_pk 1))))))
theorem clis_tuple {f : Addr} {fd : FuncData} (F : L2.Fun K "is_tuple" "is_tuple" sis_tuple f fd) (hm : mg "is_tuple" = some (.ref f)) (T : Bt mg)  : Cl P w K mg base 1 "is_tuple" Fis_tuple :=
  ⟨f, fd, ["thing", "size"], okis_tuple F T , hm, F.kp, F.binds fun _ _ _ _ _ _ us hl => match us, hl with | [_, _], _ => rfl⟩
/-! ### is_row -/
abbrev sis_row : Stmt := top 10
def mis_row : Sx := (sSeq (sIf (bOr (bNot (bOf (eCB Fis_tuple (aCons (eVar 1) (aCons (eBin sAdd (eVar 0) (eC (.int 1))) aNil))))) (bNot (bOf (eCB cAll (aCons (eComp (wItems (eVar 1)) [2] (gV 2) bYes (eCB Fis_number (aCons (eVar 2) aNil))) aNil))))) (sRet (eC (.bl false))) sNil) (sRet (eCB cAny (aCons (eComp (wItems (eSl (eVar 1) oNone (oSome (eNeg (eC (.int 1)))))) [2] (gV 2) bYes (eBin sNe (ePk 2) (eC (.int 0)))) aNil))))
def Fis_row : List D → Option D := fnD 2 3 mis_row
theorem scis_row : FnScope ["size", "thing", "number"] ["size", "thing"] (defScope sis_row) := ⟨rfl, rfl, rfl, by decide +kernel, rfl, by decide +kernel, by decide +kernel⟩
theorem okis_row {f : Addr} {fd : FuncData} (F : L2.Fun K "is_row" "is_row" sis_row f fd) (T : Bt mg) (Cis_number : Cl P w K mg base 1 "is_number" Fis_number) (Cis_tuple : Cl P w K mg base 1 "is_tuple" Fis_tuple) : FnOk P w K mg base CX0 2 f fd ["size", "thing"] (spF K Fis_row) :=
  fn_ok (m := mis_row) F scis_row fun cdv A outer s H E hr => (ok_bCons (ok_if (OkW.t (ok_orT (ok_notT (ok_test (ok_cl Cis_tuple hr (by decide) (ok_cons (ok_var 1) (ok_cons (ok_add (ok_var 0) ok_int) ok_nil))))) (ok_or1 (ok_notT (ok_test (ok_all rfl T.all (ok_cons (ok_comp (own := [("number", 2)]) rfl scis_row.nd (ok_wItems (ok_var 1)) (by kernel_rfl) (fun _ _ _ _ _ => (ok_gV 2 scis_row.nd)) (fun _ _ _ _ _ => ok_tsNil) (fun _ _ _ _ _ => (ok_cl Cis_number hr (by decide) (ok_cons (ok_var 2) ok_nil)))) ok_nil))))))) (ok_bOne (ok_ret ok_bl)) ok_bNil) (ok_bOne (ok_ret (ok_any rfl T.any (ok_cons (ok_comp (own := [("number", 2)]) rfl scis_row.nd (ok_wItems (ok_sl (ok_var 1) ok_oN (ok_oS (ok_neg ok_int)))) (by kernel_rfl) (fun _ _ _ _ _ => (ok_gV 2 scis_row.nd)) (fun _ _ _ _ _ => ok_tsNil) (fun _ _ _ _ _ => (ok_ne hr.units (ok_pk 2) (OkE.p ok_int)))) ok_nil)))))
theorem clis_row {f : Addr} {fd : FuncData} (F : L2.Fun K "is_row" "is_row" sis_row f fd) (hm : mg "is_row" = some (.ref f)) (T : Bt mg) (Cis_number : Cl P w K mg base 1 "is_number" Fis_number) (Cis_tuple : Cl P w K mg base 1 "is_tuple" Fis_tuple) : Cl P w K mg base 2 "is_row" Fis_row :=
  ⟨f, fd, ["size", "thing"], okis_row F T Cis_number Cis_tuple, hm, F.kp, F.binds fun _ _ _ _ _ _ us hl => match us, hl with | [_, _], _ => rfl⟩
/-! ### is_same_row -/
abbrev sis_same_row : Stmt := top 11
def mis_same_row : Sx := (sSeq (sSet 2 (eCB cRange (aCons (eCB cLen (aCons (eVar 0) aNil)) aNil))) (sRet (eCB cAll (aCons (eComp2 (wRng (eVar 2)) [3, 4] [4] (gV 3) (wRng (eVar 2)) (gV 4) (eBin sEq (eBin sMul (eIdxV 0 (eVar 3)) (eIdxV 1 (eVar 4))) (eBin sMul (eIdxV 0 (eVar 4)) (eIdxV 1 (eVar 3))))) aNil))))
def Fis_same_row : List D → Option D := fnD 2 5 mis_same_row
theorem scis_same_row : FnScope ["one", "other", "spots", "here", "there"] ["one", "other"] (defScope sis_same_row) := ⟨rfl, rfl, rfl, by decide +kernel, rfl, by decide +kernel, by decide +kernel⟩
theorem okis_same_row {f : Addr} {fd : FuncData} (F : L2.Fun K "is_same_row" "is_same_row" sis_same_row f fd) (T : Bt mg)  : FnOk P w K mg base CX0 1 f fd ["one", "other"] (spF K Fis_same_row) :=
  fn_ok (m := mis_same_row) F scis_same_row fun cdv A outer s H E hr => (ok_bCons (ok_set 2 scis_same_row.nd (ok_rangeV T.range (ok_cons (ok_len T.len (ok_cons (ok_var 0) ok_nil)) ok_nil))) (ok_bOne (ok_ret (ok_all rfl T.all (ok_cons (ok_comp2 (own := [("here", 3), ("there", 4)]) (vs1 := [4]) rfl scis_same_row.nd (ok_wRng (ok_var 2)) (by kernel_rfl) (by decide) (fun _ _ _ _ _ => (ok_gV 3 scis_same_row.nd)) (fun _ _ _ _ _ => (ok_wRng (ok_var 2))) (fun _ _ _ _ _ => (ok_gV 4 scis_same_row.nd)) (fun _ _ _ _ _ => (ok_eq hr.units (OkE.p (ok_mul (ok_idxV 0 (ok_var 3)) (ok_idxV 1 (ok_var 4)))) (OkE.p (ok_mul (ok_idxV 0 (ok_var 4)) (ok_idxV 1 (ok_var 3))))))) ok_nil)))))
theorem clis_same_row {f : Addr} {fd : FuncData} (F : L2.Fun K "is_same_row" "is_same_row" sis_same_row f fd) (hm : mg "is_same_row" = some (.ref f)) (T : Bt mg)  : Cl P w K mg base 1 "is_same_row" Fis_same_row :=
  ⟨f, fd, ["one", "other"], okis_same_row F T , hm, F.kp, F.binds fun _ _ _ _ _ _ us hl => match us, hl with | [_, _], _ => rfl⟩
end
end Sh
end Part_K71a

section Part_K71c
set_option maxRecDepth 100000
set_option maxHeartbeats 4000000
/-! K71c: the draws of k71 (draws.tmpl by gen_draws.py). -/
namespace Sh
open PySem L2
section
variable {P : Program} {w : World} {K : PySem.W.Frag} {mg : Str → Option Value} {base : Heap}
/-! ### the draws -/
abbrev s_law_begun : Stmt := top 22
abbrev s_law_mixed : Stmt := top 23
abbrev s_law_take : Stmt := top 24
def spMixed : Sp := fun vs H Q _ => ∃ (p l c : Addr), vs = [.ref p] ∧ Dr H p l c ∧ ∀ (r : Int) (H' : Hp), Dr H' p l c → FrD p l H H' → Q (.int r) H'
theorem sc_mixed : FnScope ["draw", "turn", "found", "great", "blend", "cell"] ["draw"] (defScope s_law_mixed) := ⟨rfl, rfl, rfl, by decide +kernel, rfl, by decide +kernel, by decide +kernel⟩
theorem ok_mixed {f : Addr} {fd : FuncData} (F : L2.Fun K "_law_mixed" "_law_mixed" s_law_mixed f fd) (T : Bt mg) : FnOk P w K mg base CX0 1 f fd ["draw"] spMixed := by
  refine F.ok sc_mixed (fun vs H Q E h => ?_) (fun cdv A outer s H vs Q E hr h => ?_)
  · obtain ⟨p, l, c, rfl, _⟩ := h; rfl
  · obtain ⟨p, l, c, rfl, D, k⟩ := h
    have hu := hu_of hr
    refine ⟨_, pss_cons (ps_dput hu (pv 0) pe_str (pe_op op_add (pe_dget hu (pv 0) pe_str (fun _ _ => rfl)) pe_int) rfl)
      (pss_cons (ps_par (i := 1) (j := 2) rfl sc_mixed.nd rfl rfl (by decide) rfl rfl (pa_cons (pe_callTy call_int1 rfl T.int (by decide +kernel) (pa_cons (pe_dget hu (pv 0) pe_str (fun _ _ => rfl)) pa_nil)) (pa_cons pe_int pa_nil)) rfl)
      (pss_cons (ps_for PassesOwn.never rfl (pi_list (pe_lst (pa_cons pe_int (pa_cons pe_int (pa_cons pe_int (pa_cons pe_int pa_nil)))))) (pg_name (i := 3) sc_mixed.nd rfl (Or.inl rfl))
        (pss_cons (ps_set (i := 4) sc_mixed.nd rfl (Or.inl rfl) (pe_op op_mod (pe_op op_add (pe_op op_mul (pv 1) pe_int) (pe_op op_fdivN (pv 3) pe_int)) (pv 3)))
        (pss_cons (ps_for PassesOwn.never rfl (pi_list (pe_dget hu (pv 0) pe_str (fun _ _ => rfl))) (pg_name (i := 5) sc_mixed.nd rfl (Or.inl rfl))
          (pss_one (ps_set (i := 4) sc_mixed.nd rfl (Or.inl rfl) (pe_op op_mod (pe_op op_add (pe_op op_add (pe_op op_mul (pv 4) pe_int) (pe_callTy call_int1 rfl T.int (by decide +kernel) (pa_cons (pv 5) pa_nil))) pe_int) (pv 3)))))
        (pss_one (ps_set (i := 2) sc_mixed.nd rfl (Or.inl rfl) (pe_op op_add (pe_op op_mul (pv 2) pe_int) (pe_op op_mod (pe_op op_pow (pv 4) pe_int) (pv 3))))))))
      (pss_one (ps_ret (pv 2))))), ?_⟩
    obtain ⟨r, t, ls, cs, hp, hl, hc⟩ := D.ex
    have npl := D.pl
    have npc := D.pc
    refine ⟨.ref p, rfl, p, .int t, rfl, gTurn hp, t, 1, rfl, rfl, .ref p, rfl, p, _, rfl, pTurn hp (t + 1), ?_⟩
    refine ⟨.ref p, rfl, p, .int (t + 1), rfl, gTurn upd_same, .inl ⟨_, rfl, .int (t + 1), .int 0, rfl, ?_⟩⟩
    refine ⟨by show 4 ≤ sizeLine; decide, fun L hL => ⟨L, rfl, ⟨_, SqL.of upd_same⟩, ?_⟩⟩
    have nLp : p ≠ L := fun z => by rw [← z, upd_same] at hL; cases hL
    have hL0 : H L = none := by rw [upd_ne (Ne.symm nLp)] at hL; exact hL
    have nLl : l ≠ L := fun z => by rw [← z, hl] at hL0; cases hL0
    have nLc : c ≠ L := fun z => by rw [← z, hc] at hL0; cases hL0
    generalize hHL : upd (upd H p (.dK (kd l c r (t + 1)))) L (.lst [V.int _, V.int _, V.int _, V.int _]) = HL
    have eL : HL L = some (.lst [V.int 2147483629, V.int 2147483587, V.int 2147483579, V.int 2147483563]) := by rw [← hHL, upd_same]
    have ep : HL p = some (.dK (kd l c r (t + 1))) := by rw [← hHL, upd_ne nLp, upd_same]
    have el : HL l = some (.lst (ls.map V.int)) := by rw [← hHL, upd_ne nLl, upd_ne npl.symm]; exact hl
    have ec : HL c = some (.lst (cs.map V.int)) := by rw [← hHL, upd_ne nLc, upd_ne npc.symm]; exact hc
    refine for_list (K := K) (a := L) (xs := [V.int 2147483629, V.int 2147483587, V.int 2147483579, V.int 2147483563]) (fun i σ H' => ∃ (z : Int) (g b e : Option V), σ = [some (.ref p), some (.int (t + 1)), some (.int z), g, b, e] ∧ H' = HL)
      ⟨0, none, none, none, rfl, rfl⟩ (fun i σ H' _ ⟨_, _, _, _, _, e⟩ => by rw [e]; exact SqL.of eL) ?_ ?_
    · rintro i x σ H' hi ⟨z, g0, b0, e0, rfl, rfl⟩
      obtain ⟨g, rfl, hg1, hg2⟩ : ∃ g : Int, x = .int g ∧ 0 < g ∧ g < 4294967296 := by
        have hm := List.mem_of_getElem? hi
        simp only [List.mem_cons, List.not_mem_nil, or_false] at hm
        rcases hm with rfl | rfl | rfl | rfl <;> exact ⟨_, rfl, by decide, by decide⟩
      refine ⟨_, rfl, _, _, rfl, rfl, .inr ⟨by decide, by decide⟩, _, rfl, _, _, rfl, rfl, ⟨by decide, by decide⟩, _, _, rfl, rfl, _, rfl, _, _, rfl, rfl, hg1, ?_⟩
      refine ⟨.ref p, rfl, p, _, rfl, gCells ep, c, rfl, ⟨_, SqL.of ec⟩, ?_⟩
      refine for_list (K := K) (a := c) (xs := cs.map V.int) (fun i σ H'' => ∃ (b : Int) (e : Option V), σ = [some (.ref p), some (.int (t + 1)), some (.int z), some (.int g), some (.int b), e] ∧ H'' = H' ∧ 0 ≤ b ∧ b < g)
        ⟨_, e0, rfl, rfl, Int.emod_nonneg _ (by omega), Int.emod_lt_of_pos _ hg1⟩ (fun i σ H'' _ ⟨_, _, _, e, _⟩ => by rw [e]; exact SqL.of ec) ?_ ?_
      · rintro j y σ H'' hj ⟨b, e, rfl, rfl, hb0, hb1⟩
        obtain ⟨u, rfl⟩ : ∃ u, y = V.int u := by
          rw [List.getElem?_map] at hj
          obtain ⟨u, _, h2⟩ := Option.map_eq_some_iff.mp hj
          exact ⟨u, h2.symm⟩
        refine ⟨_, rfl, _, _, rfl, rfl, .inr ⟨by decide, by decide⟩, _, rfl, .inl ⟨_, rfl, _, _, rfl, rfl, _, _, rfl, rfl, _, rfl, _, _, rfl, rfl, hg1, ?_⟩⟩
        exact ⟨_, _, rfl, rfl, Int.emod_nonneg _ (by omega), Int.emod_lt_of_pos _ hg1⟩
      · rintro σ H'' ⟨b, e, rfl, rfl, hb0, hb1⟩
        refine ⟨_, rfl, _, _, rfl, rfl, .inr ⟨by decide, by decide⟩, _, rfl, _, _, rfl, rfl, ⟨by decide, by decide, by omega⟩, _, rfl, _, _, rfl, rfl, hg1, _, _, rfl, rfl, ?_⟩
        exact ⟨_, _, _, _, rfl, rfl⟩
    · rintro σ H' ⟨z, g0, b0, e0, rfl, rfl⟩
      refine ⟨_, rfl, k z _ ⟨⟨r, t + 1, ls, cs, ep, el, ec⟩, D.ne⟩ fun b o e h1 h2 => ?_⟩
      rw [← hHL, upd_ne (ne_of_none e hL0), upd_ne h1]
      exact e
theorem sc_take : FnScope ["draw", "amount", "found"] ["draw", "amount"] (defScope s_law_take) := ⟨rfl, rfl, rfl, by decide +kernel, rfl, by decide +kernel, by decide +kernel⟩
theorem ok_take {f fM : Addr} {fd fdM : FuncData} (F : L2.Fun K "_law_take" "_law_take" s_law_take f fd) (T : Bt mg) (FM : L2.Fun K "_law_mixed" "_law_mixed" s_law_mixed fM fdM) (mM : mg "_law_mixed" = some (.ref fM)) : FnOk P w K mg base CX0 2 f fd ["draw", "amount"] spTake := by
  have GM : FnOk P w K mg base CX0 1 fM fdM ["draw"] spMixed := ok_mixed FM T
  have bM : Binds K fdM ["draw"] [] := FM.binds fun _ _ _ _ _ _ us hl => match us, hl with | [_], _ => rfl
  refine F.ok sc_take (fun vs H Q E h => ?_) (fun cdv A outer s H vs Q E hr h => ?_)
  · obtain ⟨p, l, c, n, rfl, _⟩ := h; rfl
  · obtain ⟨p, l, c, n, rfl, D, hn, hn2, k⟩ := h
    have hu := hu_of hr
    refine ⟨tSeq _ t_take2, pss_cons (ps_if (pt_cmpR op_eq (pe_dget hu (pv 0) pe_str (fun _ _ => rfl)) pe_int (nomark _))
        (pss_one (ps_dput hu (pv 0) pe_str (pe_ifExp (pt_cmpR (op_neD hr.units) (pe_dget hu (pv 0) pe_str (fun _ _ => rfl)) (pe_lst pa_nil) (nomark _))
          (pe_bm PySem.F.plainAttrs_list PySem.F.slot_list_pop PySem.F.type_list_pop mt_popAt (pe_dget hu (pv 0) pe_str (fun _ _ => rfl)) (pa_cons pe_int pa_nil))
          (pe_call GM hr rfl mM FM.kp bM .nil pass0 (pa_cons (pv 0) pa_nil))) rfl)) pss_nil)
      (pss_cons (ps_set (i := 2) sc_take.nd rfl (Or.inl rfl) (pe_op op_mod (pe_callTy call_int1 rfl T.int (by decide +kernel) (pa_cons (pe_dget hu (pv 0) pe_str (fun _ _ => rfl)) pa_nil)) (pv 1)))
      (pss_cons (ps_dput hu (pv 0) pe_str (pe_op op_fdivN (pe_callTy call_int1 rfl T.int (by decide +kernel) (pa_cons (pe_dget hu (pv 0) pe_str (fun _ _ => rfl)) pa_nil)) (pv 1)) rfl)
      (pss_one (ps_ret (pv 2))))), ?_⟩
    obtain ⟨r, t, ls, cs, hp, hl, hc⟩ := D.ex
    have npl := D.pl
    have npc := D.pc
    refine ⟨.ref p, rfl, p, _, rfl, gRest hp, rfl, _, rfl, ?_⟩
    refine ite2 (fun _ => ?_) (fun _ => take2 hn hn2 D.ne hp hl hc FrD.refl k)
    refine ⟨.ref p, rfl, p, _, rfl, gLarge hp, by show 0 ≤ sizeLine; decide, fun e he => ?_⟩
    have fe : Same H (upd H e (.lst [])) := fun b o q => by rw [upd_ne (ne_of_none q he)]; exact q
    refine ⟨_, _, dp_ints (fe _ _ hl), .lst (SqL.of upd_same) .nil, sh_ints _, by decide, _, rfl, ?_⟩
    rw [eqv_nil]
    cases ls with
    | cons x ls =>
      refine ⟨.ref p, rfl, p, _, rfl, gLarge (fe _ _ hp), .inl ⟨rfl, _, SqL.of (fe _ _ hl)⟩, l, _, 0, 0, _, rfl, rfl, fe _ _ hl, by decide, by decide, PyProof.Rows.seqIndex?_zero (by simp), rfl, ?_⟩
      refine ⟨.ref p, rfl, p, _, rfl, pRest (by rw [upd_ne npl]; exact fe _ _ hp) x, ?_⟩
      refine take2 (ls := ls) (cs := cs) hn hn2 D.ne upd_same (by rw [upd_ne npl.symm, upd_same]; rfl) (by rw [upd_ne npc.symm, upd_ne D.ne.symm]; exact fe _ _ hc) ?_ k
      exact ((FrD.of fe).trans (FrD.put (.inr rfl))).trans (FrD.put (.inl rfl))
    | nil =>
      refine ⟨_, rfl, p, l, c, rfl, D.same fe, fun r1 H1 D1 f1 => ?_⟩
      obtain ⟨r2, t2, ls2, cs2, hp2, hl2, hc2⟩ := D1.ex
      refine ⟨.ref p, rfl, p, _, rfl, pRest hp2 r1, ?_⟩
      refine take2 (ls := ls2) (cs := cs2) hn hn2 D.ne upd_same (by rw [upd_ne npl.symm]; exact hl2) (by rw [upd_ne npc.symm]; exact hc2) ?_ k
      exact ((FrD.of fe).trans f1).trans (FrD.put (.inl rfl))
abbrev s_law_pick : Stmt := top 25
abbrev s_law_shuffled : Stmt := top 26
/-- the defs of the draws, as they stand -/
structure Dws (K : PySem.W.Frag) (mg : Str → Option Value) (fM fT : Addr) (fdM fdT : FuncData) : Prop where
  FM : L2.Fun K "_law_mixed" "_law_mixed" s_law_mixed fM fdM
  mM : mg "_law_mixed" = some (.ref fM)
  FT : L2.Fun K "_law_take" "_law_take" s_law_take fT fdT
  mT : mg "_law_take" = some (.ref fT)
theorem Dws.take {fM fT : Addr} {fdM fdT : FuncData} (W : Dws K mg fM fT fdM fdT) (T : Bt mg) : FnOk P w K mg base CX0 2 fT fdT ["draw", "amount"] spTake ∧ Binds K fdT ["draw", "amount"] [] :=
  ⟨ok_take W.FT T W.FM W.mM, W.FT.binds fun _ _ _ _ _ _ us hl => match us, hl with | [_, _], _ => rfl⟩
theorem sc_pick : FnScope ["draw", "some"] ["draw", "some"] (defScope s_law_pick) := ⟨rfl, rfl, rfl, by decide +kernel, rfl, by decide +kernel, by decide +kernel⟩
theorem ok_pick {f fM fT : Addr} {fd fdM fdT : FuncData} (F : L2.Fun K "_law_pick" "_law_pick" s_law_pick f fd) (T : Bt mg) (W : Dws K mg fM fT fdM fdT) : FnOk P w K mg base CX0 3 f fd ["draw", "some"] (spPick K) := by
  obtain ⟨GT, bT⟩ := W.take (P := P) (w := w) (base := base) T
  refine F.ok sc_pick (fun vs H Q E h => ?_) (fun cdv A outer s H vs Q E hr h => ?_)
  · obtain ⟨p, l, c, s, G, d, ds, rfl, _⟩ := h; rfl
  · obtain ⟨p, l, c, z, G, d, ds, rfl, D, e, hp, hl, rd, hd, hne, hlen, k⟩ := h
    refine ⟨_, pss_one (ps_ret (pe_ix (ix_list.or ix_tup) (pv 1) (pe_call GT hr rfl W.mT W.FT.kp bT .nil pass0 (pa_cons (pv 0) (pa_cons (pe_callB call_len_seq rfl T.len PySem.boot_len (pa_cons (pv 1) pa_nil)) pa_nil))) (fun _ _ => rfl))), ?_⟩
    have hpos : 0 < ds.length := List.length_pos_iff.mpr hne
    cases rd with
    | @lst a xs es h1 h2 =>
      cases hd
      refine ⟨.ref a, rfl, .ref p, rfl, .ref a, rfl, a, xs, rfl, .inl (SqL.of (e _ _ h1)), p, l, c, _, rfl, D, by rw [h2.length]; omega, by rw [h2.length]; omega, fun r H' r0 r1 D' fr => ?_⟩
      rw [h2.length] at r1
      have hi : r.toNat < ds.length := by omega
      obtain ⟨v, v1, v2⟩ := h2.get (i := r.toNat) (d := ds[r.toNat]) (by simp [hi])
      have ea : atI xs r = some v := by
        unfold atI ixN
        rw [if_pos r0, if_pos (by rw [h2.length]; omega)]
        exact v1
      exact .inl ⟨a, xs, r, v, rfl, rfl, SqL.of (fr.same e hp hl _ _ h1), ea, k r.toNat _ v H' (by simp [hi]) v2 D' fr⟩
    | @tup a xs es h1 h2 =>
      cases hd
      refine ⟨.ref a, rfl, .ref p, rfl, .ref a, rfl, a, xs, rfl, .inr (same_sqt e h1), p, l, c, _, rfl, D, by rw [h2.length]; omega, by rw [h2.length]; omega, fun r H' r0 r1 D' fr => ?_⟩
      rw [h2.length] at r1
      have hi : r.toNat < ds.length := by omega
      obtain ⟨v, v1, v2⟩ := h2.get (i := r.toNat) (d := ds[r.toNat]) (by simp [hi])
      have ea : atI xs r = some v := by
        unfold atI ixN
        rw [if_pos r0, if_pos (by rw [h2.length]; omega)]
        exact v1
      exact .inr ⟨a, xs, r, v, rfl, rfl, same_sqt (fr.same e hp hl) h1, ea, k r.toNat _ v H' (by simp [hi]) v2 D' fr⟩
    | _ => cases hd
theorem sc_shuf : FnScope ["draw", "some", "left", "found"] ["draw", "some"] (defScope s_law_shuffled) := ⟨rfl, rfl, rfl, by decide +kernel, rfl, by decide +kernel, by decide +kernel⟩
theorem ok_shuf {f fM fT : Addr} {fd fdM fdT : FuncData} (F : L2.Fun K "_law_shuffled" "_law_shuffled" s_law_shuffled f fd) (T : Bt mg) (W : Dws K mg fM fT fdM fdT) : FnOk P w K mg base CX0 3 f fd ["draw", "some"] (spShuf K) := by
  obtain ⟨GT, bT⟩ := W.take (P := P) (w := w) (base := base) T
  refine F.ok sc_shuf (fun vs H Q E h => ?_) (fun cdv A outer s H vs Q E hr h => ?_)
  · obtain ⟨p, l, c, s, G, d, ds, rfl, _⟩ := h; rfl
  · obtain ⟨p, l, c, z, G, d, ds, rfl, D0, e, hp, hl, rd, hd, hok, hlen, k⟩ := h
    refine ⟨_, pss_cons (ps_par (i := 2) (j := 3) rfl sc_shuf.nd rfl rfl (by decide) rfl rfl (pa_cons (pe_callTy call_list_of rfl T.list (by decide +kernel) (pa_cons (pv 1) pa_nil)) (pa_cons (pe_lst pa_nil) pa_nil)) rfl)
      (pss_cons (ps_while PassesOwn.never (pt_cmpR (op_neD hr.units) (pv 2) (pe_lst pa_nil) (nomark _))
        (pss_one (ps_expr (pe_bm PySem.F.plainAttrs_list PySem.F.slot_list_append PySem.F.type_list_append mt_append (pv 3) (pa_cons
          (pe_bm PySem.F.plainAttrs_list PySem.F.slot_list_pop PySem.F.type_list_pop mt_popAt (pv 2) (pa_cons (pe_call GT hr rfl W.mT W.FT.kp bT .nil pass0 (pa_cons (pv 0) (pa_cons (pe_callB call_len_seq rfl T.len PySem.boot_len (pa_cons (pv 2) pa_nil)) pa_nil))) pa_nil)) pa_nil)))))
      (pss_one (ps_ret (pv 3)))), ?_⟩
    obtain ⟨a, xs, rfl, hs, hr2⟩ : ∃ (a : Addr) (xs : List V), z = .ref a ∧ (SqL K H a xs ∨ SqT K H a xs) ∧ Rps K G xs ds := by
      cases rd with
      | @lst a xs es h1 h2 => cases hd; exact ⟨a, xs, rfl, .inl (SqL.of (e _ _ h1)), h2⟩
      | @tup a xs es h1 h2 => cases hd; exact ⟨a, xs, rfl, .inr (same_sqt e h1), h2⟩
      | _ => cases hd
    refine ⟨.ref a, rfl, a, xs, rfl, hs, fun L hL => ⟨by show 0 ≤ sizeLine; decide, fun F hF => ⟨_, _, rfl, ?_⟩⟩⟩
    have nLF : F ≠ L := fun z => by rw [z, upd_same] at hF; cases hF
    have hF0 : H F = none := by rw [upd_ne nLF] at hF; exact hF
    have fne : ∀ {x : Addr}, H x ≠ none → x ≠ L ∧ x ≠ F := fun n => ⟨fun z => n (by rw [z]; exact hL), fun z => n (by rw [z]; exact hF0)⟩
    obtain ⟨r0, t0, ls0, cs0, hp0, hl0, hc0⟩ := D0.ex
    have npL := fne (x := p) (by rw [hp0]; simp)
    have nlL := fne (x := l) (by rw [hl0]; simp)
    have ncL := fne (x := c) (by rw [hc0]; simp)
    have drw : ∀ {H1 : Hp} {u v : HO}, Dr H1 p l c → Dr (upd (upd H1 L u) F v) p l c := fun {H1 u v} ⟨⟨r, t, ls, cs, h1, h2, h3⟩, h4⟩ =>
      ⟨⟨r, t, ls, cs, by rw [upd_ne npL.2, upd_ne npL.1]; exact h1, by rw [upd_ne nlL.2, upd_ne nlL.1]; exact h2, by rw [upd_ne ncL.2, upd_ne ncL.1]; exact h3⟩, h4⟩
    have frw : ∀ {H1 : Hp} {u v : HO}, FrD p l H H1 → FrD p l H (upd (upd H1 L u) F v) := fun {H1 u v} f b o q h1 h2 => by
      rw [upd_ne (ne_of_none q hF0), upd_ne (ne_of_none q hL)]; exact f b o q h1 h2
    have gW : G L = none := by cases q : G L with | none => rfl | some o => rw [e _ _ q] at hL; cases hL
    have gF : G F = none := by cases q : G F with | none => rfl | some o => rw [e _ _ q] at hF0; cases hF0
    refine ⟨fun m σ H' => ∃ (x1 y1 : List V) (d1 d2 : List D), σ = [some (.ref p), some (.ref a), some (.ref L), some (.ref F)] ∧ H' L = some (.lst x1) ∧ H' F = some (.lst y1) ∧ Rps K G x1 d1 ∧ Rps K G y1 d2 ∧ (d2 ++ d1).Perm ds ∧ m = d1.length ∧ Dr H' p l c ∧ FrD p l H H',
      ⟨ds.length, xs, [], ds, [], rfl, by rw [upd_ne nLF.symm, upd_same], upd_same, hr2, .nil, .refl _, rfl, drw D0, frw FrD.refl⟩, ?_⟩
    rintro m σ H' ⟨x1, y1, d1, d2, rfl, hL1, hF1, rx, ry, pm, rfl, D1, f1⟩
    have sub : ∀ x ∈ d1, okD x = true := fun x hx => hok x (pm.mem_iff.mp (List.mem_append_right _ hx))
    obtain ⟨ps, hps, hsh⟩ := okDs_shaped sub
    have sG : Same G H' := f1.same e hp hl
    refine ⟨.ref L, rfl, by show 0 ≤ sizeLine; decide, fun N hN => ?_⟩
    have fN : Same H' (upd H' N (.lst [])) := fun b o q => by rw [upd_ne (ne_of_none q hN)]; exact q
    refine ⟨_, _, .lst (SqL.of (fN _ _ hL1)) (Rps.dp d1 x1 ps (rx.mono (sG.trans fN) _ _) hps), .lst (SqL.of upd_same) .nil, hsh, by decide, _, rfl, ?_⟩
    rw [eqv_nil, dpys_nil hps]
    have D2 := D1.same fN
    have f2 := f1.trans (FrD.of (p := p) (l := l) fN)
    have hlen1 : d2.length + d1.length = ds.length := by have := pm.length_eq; simpa using this
    cases d1 with
    | nil =>
      refine k F y1 d2 _ (by simpa using pm) (fN _ _ hF1) ry hF0 D2 f2 |> fun q => ⟨.ref F, rfl, q⟩
    | cons dx dr =>
      refine ⟨fun σ3 H3 => ∃ (x1 y1 : List V) (d1 d2 : List D), σ3 = [some (.ref p), some (.ref a), some (.ref L), some (.ref F)] ∧ H3 L = some (.lst x1) ∧ H3 F = some (.lst y1) ∧ Rps K G x1 d1 ∧ Rps K G y1 d2 ∧ (d2 ++ d1).Perm ds ∧ d1.length = dr.length ∧ Dr H3 p l c ∧ FrD p l H H3,
        fun σ3 H3 ⟨x, y, a1, a2, q1, q2, q3, q4, q5, q6, q7, q8, q9⟩ => ⟨dr.length, by simp, x, y, a1, a2, q1, q2, q3, q4, q5, q6, q7.symm, q8, q9⟩, ?_⟩
      have hx1 : x1.length = (dx :: dr).length := rx.length
      simp only [List.length_cons] at hx1 hlen1
      refine ⟨.ref F, rfl, .inl ⟨rfl, _, SqL.of (fN _ _ hF1)⟩, .ref L, rfl, .inl ⟨rfl, _, SqL.of (fN _ _ hL1)⟩, .ref p, rfl, .ref L, rfl, L, x1, rfl, .inl (SqL.of (fN _ _ hL1)), p, l, c, _, rfl, D2, by omega, by omega, fun r H3 r0' r1 D3 f3 => ?_⟩
      have hi : r.toNat < (dx :: dr).length := by simp only [List.length_cons]; omega
      obtain ⟨v, v1, v2⟩ := rx.get (i := r.toNat) (d := (dx :: dr)[r.toNat]) (by rw [List.getElem?_eq_getElem hi])
      have hL3 : H3 L = some (.lst x1) := f3 _ _ (fN _ _ hL1) npL.1.symm nlL.1.symm
      have hF3 : H3 F = some (.lst y1) := f3 _ _ (fN _ _ hF1) npL.2.symm nlL.2.symm
      refine ⟨L, x1, r, r.toNat, v, rfl, rfl, hL3, by omega, by omega, PySem.seqIndex_of r0' r1, v1, ?_⟩
      refine ⟨F, y1, v, rfl, rfl, by rw [upd_ne nLF]; exact hF3, Nat.lt_of_lt_of_le (by rw [ry.length]; omega : y1.length < 1000000) (by decide), ?_⟩
      have pe := perm_erase (dx :: dr) r.toNat _ (by rw [List.getElem?_eq_getElem hi])
      refine ⟨_, _, (dx :: dr).eraseIdx r.toNat, d2 ++ [(dx :: dr)[r.toNat]], rfl, by rw [upd_ne nLF.symm, upd_same], upd_same, rx.erase _, ry.snoc v2, ?_, ?_, drw D3, frw (f2.trans f3)⟩
      · refine List.Perm.trans ?_ pm
        rw [List.append_assoc]
        exact List.Perm.append_left d2 pe.symm
      · rw [List.length_eraseIdx, if_pos hi]; simp
theorem sc_begun : FnScope ["script", "large", "cell"] ["script"] (defScope s_law_begun) := ⟨rfl, rfl, rfl, by decide +kernel, rfl, by decide +kernel, by decide +kernel⟩
theorem same_upd {H : Hp} {x : Addr} {o : HO} (n : H x = none) : Same H (upd H x o) := fun b u q => by rw [upd_ne (ne_of_none q n)]; exact q
theorem upd_twice {H : Hp} {x : Addr} {o u : HO} : upd (upd H x o) x u = upd H x u := by
  funext b
  by_cases h : b = x
  · rw [h, upd_same, upd_same]
  · rw [upd_ne h, upd_ne h, upd_ne h]
theorem ok_begun {f : Addr} {fd : FuncData} (F : L2.Fun K "_law_begun" "_law_begun" s_law_begun f fd) (T : Bt mg) : FnOk P w K mg base CX0 1 f fd ["script"] (spBegun K) := by
  refine F.ok sc_begun (fun vs H Q E h => ?_) (fun cdv A outer s H vs Q E hr h => ?_)
  · obtain ⟨a, ns, rfl, _⟩ := h; rfl
  · obtain ⟨a, ns, rfl, hS, hlen, k⟩ := h
    refine ⟨_, pss_cons (ps_setLc (i := 1) (own := [("cell", 2)]) rfl sc_begun.nd rfl rfl (by exact sw_true rfl rfl rfl (by decide +kernel)) (pi_list (pv 0)) (blkOk_by (by kernel_rfl)) (fun _ _ _ _ _ => pg_name (i := 2) sc_begun.nd rfl (Or.inl rfl))
        (fun _ _ _ _ _ => pts_one (pt_cmpR op_ge (pe_callB call_abs rfl T.abs (by decide +kernel) (pa_cons (pv 2) pa_nil)) (pe_op op_pow pe_int pe_int) (nomark _))) (fun _ _ _ _ _ => pe_op op_sub (pe_callB call_abs rfl T.abs (by decide +kernel) (pa_cons (pv 2) pa_nil)) (pe_op op_pow pe_int pe_int)))
      (pss_one (ps_ret (pe_disp (pps_cons pe_str (pv 1) (pps_cons pe_str pe_int (pps_cons pe_str (pe_lc (own := [("cell", 2)]) rfl sc_begun.nd (pi_list (pv 0)) (blkOk_by (by kernel_rfl)) (fun _ _ _ _ _ => pg_name (i := 2) sc_begun.nd rfl (Or.inl rfl)) (fun _ _ _ _ _ => pts_nil)
          (fun _ _ _ _ _ => pe_callTy call_int1 rfl T.int (by decide +kernel) (pa_cons (pe_callB call_abs rfl T.abs (by decide +kernel) (pa_cons (pv 2) pa_nil)) pa_nil))) (pps_cons pe_str pe_int pps_nil)))) rfl rfl (by simp) (by decide)))), ?_⟩
    have int_at : ∀ {i : Nat} {x : V}, (ns.map V.int)[i]? = some x → i < ns.length ∧ ∃ u : Int, x = .int u := fun {i x} hi => by
      rw [List.getElem?_map] at hi
      obtain ⟨u, h1, h2⟩ := Option.map_eq_some_iff.mp hi
      exact ⟨(List.getElem?_eq_some_iff.mp h1).1, u, h2.symm⟩
    refine ⟨.ref a, rfl, a, rfl, ⟨_, hS⟩, fun L hL => ?_⟩
    refine lc_list (K := K) (a := a) (xs := ns.map V.int) (fun i H' => ∃ out : List Int, H' = upd H L (.lst (out.map V.int)) ∧ out.length ≤ i) ⟨[], rfl, Nat.le_refl _⟩ (fun i H' _ ⟨out, e, _⟩ => by rw [e]; exact (same_upd hL).seq hS) ?_ ?_
    · rintro i x H' hi ⟨out, rfl, ho⟩
      obtain ⟨hi2, u, rfl⟩ := int_at hi
      refine ⟨rfl, _, rfl, _, rfl, _, _, rfl, rfl, ⟨by decide, by decide, by decide⟩, _, _, rfl, rfl, _, rfl, ?_⟩
      refine ite2 (fun _ => ?_) (fun _ => ?_)
      · refine ⟨_, rfl, _, rfl, _, _, rfl, rfl, ⟨by decide, by decide, by decide⟩, _, _, rfl, rfl, _, upd_same, Nat.lt_of_lt_of_le (by rw [List.length_map]; omega : _ < 64) (by decide), out ++ [(if u < 0 then -u else u) - 10 ^ Int.toNat 18], ?_, by rw [List.length_append]; simp; omega⟩
        rw [upd_twice, List.map_append]; rfl
      · exact ⟨out, rfl, by omega⟩
    · rintro H' ⟨out, rfl, ho⟩
      rw [List.length_map] at ho
      intro p hp
      have npL : p ≠ L := fun z => by rw [z, upd_same] at hp; cases hp
      have hp0 : H p = none := by rw [upd_ne npL] at hp; exact hp
      have s1 := (same_upd (o := .lst (out.map V.int)) hL).trans (same_upd (o := .dK []) hp)
      refine ⟨_, rfl, .ref a, rfl, a, rfl, ⟨_, s1.seq hS⟩, fun C hC => ?_⟩
      have nCp : C ≠ p := fun z => by rw [z, upd_same] at hC; cases hC
      have nCL : C ≠ L := fun z => by rw [z, upd_ne npL.symm, upd_same] at hC; cases hC
      refine lc_list (K := K) (a := a) (xs := ns.map V.int) (fun i H' => ∃ o2 : List Int, H' = upd (upd (upd H L (.lst (out.map V.int))) p (.dK [])) C (.lst (o2.map V.int)) ∧ o2.length ≤ i) ⟨[], rfl, Nat.le_refl _⟩ (fun i H' _ ⟨o2, e, _⟩ => by rw [e]; exact (s1.trans (same_upd hC)).seq hS) ?_ ?_
      · rintro i x H' hi ⟨o2, rfl, ho2⟩
        obtain ⟨hi2, u, rfl⟩ := int_at hi
        refine ⟨rfl, _, rfl, _, rfl, .inl ⟨_, rfl, _, upd_same, Nat.lt_of_lt_of_le (by rw [List.length_map]; omega : _ < 64) (by decide), o2 ++ [if u < 0 then -u else u], ?_, by rw [List.length_append]; simp; omega⟩⟩
        rw [upd_twice, List.map_append]; rfl
      · rintro H' ⟨o2, rfl, ho2⟩
        refine ⟨by rw [upd_ne nCp.symm, upd_same], kd L C 0 0, rfl, by show 4 ≤ 15; decide, ?_⟩
        rw [kd_merge]
        refine k p L C _ (fun b o q => ?_) hp0 hL ⟨⟨0, 0, out, o2, upd_same, by rw [upd_ne npL.symm, upd_ne nCL.symm, upd_ne npL.symm, upd_same], by rw [upd_ne nCp, upd_same]⟩, nCL.symm⟩
        rw [upd_ne (ne_of_none q hp0), upd_ne (ne_of_none (s1 _ _ q) hC)]
        exact s1 _ _ q

end
end Sh
end Part_K71c

section Part_K71d
set_option maxRecDepth 100000
set_option maxHeartbeats 4000000
/-! K71d: Walls, the known sets. -/
namespace Sh
open PySem L2
section
variable {P : Program} {w : World} {K : PySem.W.Frag} {mg : Str → Option Value} {base : Heap}
abbrev s_init : Stmt := inClass (top 12) 0
abbrev s_eq : Stmt := inClass (top 12) 1
def mi0 : Sx := (sIf (bNot (bOf (eCB Fis_between (aCons (eVar 1) (aCons (eC (.int 1)) (aCons (eC (.int 4)) aNil)))))) sNo sNil)
def mi1 : Sx := (sIf (bOr (bNot (bOf (eCB Fis_list (aCons (eVar 2) aNil)))) (bBin (sCmp fGt) (eCB cLen (aCons (eVar 2) aNil)) (eC (.int 10)))) sNo sNil)
def mi2 : Sx := (sSet 3 (eLst aNil))
def mi3 : Sx := (sFor (wEn (aCons (eVar 2) aNil)) (gT 2 (gsCons (gV 4) (gsCons (gV 5) gsNil))) (sSeq (sIf (bOr (bNot (bOf (eCB Fis_row (aCons (eVar 1) (aCons (eVar 5) aNil))))) (bOf (eCB cAny (aCons (eComp (wItems (eVar 3)) [6] (gV 6) bYes (eCB Fis_same_row (aCons (eVar 6) (aCons (eVar 5) aNil)))) aNil)))) sNo sNil) (sSet 3 (eLst (aStar (eVar 3) (aCons (eVar 5) aNil))))))
def mi : Sx := sSeq mi0 (sSeq mi1 (sSeq mi2 mi3))
theorem sc_init : FnScope ["self", "size", "rows", "kept", "place", "row", "elder"] ["self", "size", "rows"] (defScope s_init) := ⟨rfl, rfl, rfl, by decide +kernel, rfl, by decide +kernel, by decide +kernel⟩
def wfs (s r : V) : List (Str × V) := putF "rows" r (putF "size" s [])
/-- Walls: its class -/
structure WTxt (K : PySem.W.Frag) (C : Addr) : Prop where
  cl : Cls K C
  nS : NoAttr K C "size"
  nR : NoAttr K C "rows"
/-- an object of Walls, its data -/
def WOb (K : PySem.W.Frag) (C : Addr) (G H : Hp) (x : Addr) (ds : D) (ks : List D) : Prop := ∃ (dx : Addr) (sv rv : V), H x = some (.ins C dx (wfs sv rv)) ∧ Rp K G sv ds ∧ Rp K G rv (.tup ks)
def spWinit (K : PySem.W.Frag) (C : Addr) : Sp := fun vs H Q _ => ∃ (x dx : Addr) (sv rv : V) (G : Hp) (ds dr : D) (ks : List D) (env' : Env), vs = [.ref x, sv, rv] ∧ Same G H ∧ G x = none ∧ H x = some (.ins C dx []) ∧ Rp K G sv ds ∧ Rp K G rv dr ∧
  mi (startE 7 [.raw (.ref x), ds, dr]) = some (.nx env') ∧ env'[0]? = some (some (false, .raw (.ref x))) ∧ env'[1]? = some (some (false, ds)) ∧ env'[3]? = some (some (false, .lst ks)) ∧
  ∀ (sv' rv' : V) (G' H' : Hp), Gr G H G' H' → Rp K G' sv' ds → Rp K G' rv' (.tup ks) → Q .non (upd H' x (.ins C dx (wfs sv' rv')))
def t_init2 : TS := tSeq (sFld K (tVar 0) (tVar 1) "size") (sFld K (tVar 0) (tE K (eCB cTup (aCons (eVar 3) aNil))) "rows")
theorem ok_init {f C : Addr} {fd : FuncData} (F : L2.Fun K "__init__" "Walls.__init__" s_init f fd) (T : Bt mg) (W : WTxt K C) (Cis_between : Cl P w K mg base 2 "is_between" Fis_between) (Cis_list : Cl P w K mg base 1 "is_list" Fis_list) (Cis_row : Cl P w K mg base 2 "is_row" Fis_row) (Cis_same_row : Cl P w K mg base 1 "is_same_row" Fis_same_row) :
    FnOk P w K mg base CX0 3 f fd ["self", "size", "rows"] (spWinit K C) := by
  refine F.ok sc_init (fun vs H Q E h => ?_) (fun cdv A outer s H vs Q E hr h => ?_)
  · obtain ⟨x, dx, sv, rv, G, ds, dr, ks, env', rfl, _⟩ := h; rfl
  · obtain ⟨x, dx, sv, rv, G, ds, dr, ks, env', rfl, e, gx, hx, rs, rr, hm, e0, e1, e3, k⟩ := h
    refine ⟨tSeq (tS K mi0) (tSeq (tS K mi1) (tSeq (tS K mi2) (tSeq (tS K mi3) (t_init2 (K := K))))), ?_, ?_⟩
    · exact pss_cons (ok_if (ok_notT (ok_test (ok_cl Cis_between hr (by decide) (ok_cons (ok_var 1) (ok_cons ok_int (ok_cons ok_int ok_nil)))))) (ok_bOne ok_no) ok_bNil) (pss_cons (ok_if (OkW.t (ok_orT (ok_notT (ok_test (ok_cl Cis_list hr (by decide) (ok_cons (ok_var 2) ok_nil)))) (ok_or1 (ok_gtT (ok_len T.len (ok_cons (ok_var 2) ok_nil)) ok_int)))) (ok_bOne ok_no) ok_bNil) (pss_cons (ok_set 3 sc_init.nd (ok_lst ok_nil)) (pss_cons (ok_for (vs := [4, 5]) PassesOwn.never rfl (ok_wEn T.enumerate (ok_cons (ok_var 2) ok_nil)) (ok_gT rfl (ok_gsCons (ok_gV 4 sc_init.nd) (ok_gsCons (ok_gV 5 sc_init.nd) ok_gsNil))) (ok_bCons (ok_if (OkW.t (ok_orT (ok_notT (ok_test (ok_cl Cis_row hr (by decide) (ok_cons (ok_var 1) (ok_cons (ok_var 5) ok_nil))))) (ok_or1 (ok_test (ok_any rfl T.any (ok_cons (ok_comp (own := [("elder", 6)]) rfl sc_init.nd (ok_wItems (ok_var 3)) (by kernel_rfl) (fun _ _ _ _ _ => (ok_gV 6 sc_init.nd)) (fun _ _ _ _ _ => ok_tsNil) (fun _ _ _ _ _ => (ok_cl Cis_same_row hr (by decide) (ok_cons (ok_var 6) (ok_cons (ok_var 5) ok_nil))))) ok_nil)))))) (ok_bOne ok_no) ok_bNil) (ok_bOne (ok_set 3 sc_init.nd (ok_lst (ok_star (ok_var 3) (ok_cons (ok_var 5) ok_nil))))))) (pss_cons (ps_fld (pv 0) (pv 1) rfl) (pss_one (ps_fld (pv 0) (ok_tuple T.tuple (ok_cons (ok_var 3) ok_nil)) rfl))))))
    have rs0 : Rs K H G (startE 7 [.raw (.ref x), ds, dr]) (L2.start ["self", "size", "rows", "kept", "place", "row", "elder"] [.ref x, sv, rv]) G H :=
      ⟨start_rl (N := ["self", "size", "rows", "kept", "place", "row", "elder"]) e (.cons (.raw _) (.cons rs (.cons rr .nil))) (by show 3 ≤ 7; decide), Gr.refl e⟩
    have fin : ∀ (σ1 : L2.St) (G1 H1 : Hp), Rs K H G env' σ1 G1 H1 → t_init2 (K := K) { nx := fun _ H' => Q .non H', rt := Q } σ1 H1 := by
      intro σ1 G1 H1 r1
      obtain ⟨v0, z0, q0⟩ := r1.rl.fr 0 _ e0
      cases q0
      obtain ⟨v1, z1, q1⟩ := r1.rl.fr 1 _ e1
      have hx1 : H1 x = some (.ins C dx []) := r1.g0.h _ _ hx
      have gx1 : G1 x = none := grNone r1.g0 gx hx
      refine ⟨v1, z1, _, z0, x, C, dx, [], rfl, hx1, W.cl, W.nS, by show 0 < 1000; decide, ?_⟩
      have rl2 : Rl K (fun a => H a = none) env' σ1 G1 (upd H1 x (.ins C dx (putF "size" v1 []))) := r1.rl.other gx1 fun a ⟨i, d, h1, h2⟩ z => by
        obtain ⟨b, w1, w2, w3, w4⟩ := r1.rl.ow i d h1
        rw [h2] at w1; cases w1
        rw [z] at w3
        rw [hx] at w3; cases w3
      have em : (eCB cTup (aCons (eVar 3) aNil)) env' = some (.tup ks) := by
        unfold eCB aCons aNil eVar
        rw [e3]; rfl
      refine ⟨_, env', G1, _, rl2, em, fun rv' G3 H3 g3 r3 => ⟨_, z0, x, C, dx, _, rfl, g3.h _ _ upd_same, W.cl, W.nR, by show 1 < 1000; decide, ?_⟩⟩
      have gx3 : G3 x = none := grNone g3 gx1 upd_same
      have key := k v1 rv' G3 (upd H3 x (.ins C dx [])) ⟨fun b u q => ?_, r1.g0.g.trans g3.g, fun b u q => ?_, fun b u q => ?_⟩ (q1.mono g3.g _ _) r3
      · rw [upd_twice] at key
        exact key
      · by_cases hb : b = x
        · rw [hb, upd_same]; rw [hb, hx] at q; exact q
        · rw [upd_ne hb]; exact g3.h _ _ (by rw [upd_ne hb]; exact r1.g0.h _ _ q)
      · rw [upd_ne (fun z => by rw [z, gx3] at q; cases q)]; exact g3.gh _ _ q
      · rcases g3.nw b u q with z | z
        · exact r1.g0.nw b u z
        · right
          by_cases hb : b = x
          · rw [hb, upd_same] at z; cases z
          · rw [upd_ne hb] at z; exact r1.g0.h.free z
    exact seq4 ⟨H, G, _, G, _, rs0, hm, fun σ1 G1 H1 r1 _ => fin σ1 G1 H1 r1⟩
end
end Sh
end Part_K71d

section Part_K71e
set_option maxRecDepth 100000
set_option maxHeartbeats 4000000
/-! K71e: Walls' ==, the known sets by name. -/
namespace Sh
open PySem L2
section
variable {P : Program} {w : World} {K : PySem.W.Frag} {mg : Str → Option Value} {base : Heap}
theorem wfs_size {s r : V} : (wfs s r).lookup ("size" : Str) = some s := by
  unfold wfs; rw [lookup_putF, if_neg (by decide), lookup_putF, if_pos rfl]
theorem wfs_rows {s r : V} : (wfs s r).lookup ("rows" : Str) = some r := by
  unfold wfs; rw [lookup_putF, if_pos rfl]
/-- what isinstance asks of the class -/
structure InC (K : PySem.W.Frag) (C : Addr) : Prop where
  ha : PySem.W.findIn K (.ref C) "__class__" = some (some (.builtin "object.__class__"))
  hn : PySem.W.specialIn K (.builtin "object.__class__") "__get__" = some (some (.builtin "getset_descriptor.__get__"))
  ht : PySem.W.takesIn K (.builtin "object.__class__") = some true
  hm : PySem.W.mroIn K C (.type "object") = some true
def REq (K : PySem.W.Frag) (C : Addr) (a b : Addr) (H : Hp) : Prop := ∃ (G : Hp) (ds : D) (ks : List D), Same G H ∧ WOb K C G H a ds ks ∧ WOb K C G H b ds ks ∧ sEq ds ds = some (.bl true) ∧ sEq (.tup ks) (.tup ks) = some (.bl true)
theorem sc_eq : FnScope ["self", "other"] ["self", "other"] (defScope s_eq) := ⟨rfl, rfl, rfl, by decide +kernel, rfl, by decide +kernel, by decide +kernel⟩
theorem ok_eqW {f C : Addr} {fd : FuncData} (F : L2.Fun K "__eq__" "Walls.__eq__" s_eq f fd) (T : Bt mg) (W : WTxt K C) (mC : mg "Walls" = some (.ref C)) (IC : InC K C) : FnOk P w K mg base CX0 1 f fd ["self", "other"] (spEq (REq K C)) := by
  refine F.ok sc_eq (fun vs H Q E h => ?_) (fun cdv A outer s H vs Q E hr h => ?_)
  · obtain ⟨a, b, rfl, _⟩ := h; rfl
  · obtain ⟨a, b, rfl, ⟨G, ds, ks, e, ⟨dx, sv, rv, h1, h2, h3⟩, ⟨dy, sv', rv', h4, h5, h6⟩, e1, e2⟩, k⟩ := h
    refine ⟨_, pss_cons (ps_if (pt_not (pt_val (pe_callB call_isi rfl T.isinstance (by decide +kernel) (pa_cons (pv 1) (pa_cons (pe_glob rfl mC (show RelV (.ref C) (.ref C) from rfl)) pa_nil))))) (pss_one (ps_ret pe_bl)) pss_nil)
      (pss_one (ps_ret (pe_and (pe_cmpR (op_eqR hr.units) (pe_fld (pv 0) rfl) (pe_fld (pv 1) rfl) (nomark _)) (pe_one (pe_cmpR (op_eqR hr.units) (pe_fld (pv 0) rfl) (pe_fld (pv 1) rfl) (nomark _)))))), ?_⟩
    refine ⟨.ref b, rfl, .ref b, .ref C, .ref C, .ref C, true, rfl, .own C, .base (.ins h4 W.cl IC.ha IC.hn IC.ht IC.hm), by unfold PySem.W.kitOne; simp, true, rfl, ?_⟩
    refine ⟨_, rfl, a, C, dx, _, sv, rfl, h1, W.cl, W.nS, wfs_size, _, rfl, b, C, dy, _, sv', rfl, h4, W.cl, W.nS, wfs_size, ?_⟩
    refine sem_eq sv sv' ds ds (.bl true) H _ (h2.mono e _ _) (h5.mono e _ _) e1 fun v hv => ?_
    cases hv (fun _ => none)
    refine ⟨true, rfl, ?_⟩
    refine ⟨_, rfl, a, C, dx, _, rv, rfl, h1, W.cl, W.nR, wfs_rows, _, rfl, b, C, dy, _, rv', rfl, h4, W.cl, W.nR, wfs_rows, ?_⟩
    refine sem_eq rv rv' _ _ (.bl true) H _ (h3.mono e _ _) (h6.mono e _ _) e2 fun v hv => ?_
    cases hv (fun _ => none)
    exact k H Ext.rfl'

/-! ### by name -/
abbrev s_names : Stmt := top 17
abbrev s_need : Stmt := top 18
abbrev s_kset : Stmt := top 19
abbrev s_kfacts : Stmt := top 20
/-- no name -/
def Bad (K : PySem.W.Frag) (nv : List V) (H : Hp) (v : V) : Prop := ∃ t, TyX K H v (.type t) ∧ ((kitB t "str" = some false) ∨ ∃ x, v = .str x ∧ kitB t "str" = some true ∧ inV (.str x) nv = false)
def spNeed (K : PySem.W.Frag) (nv : List V) (CB : Addr) : Sp := fun vs H Q E => ∃ v, vs = [v] ∧ ((Bad K nv H v ∧ E (.ref CB) none H) ∨ ∃ x, v = .str x ∧ inV (.str x) nv = true ∧ Q .non H)
theorem sc_need : FnScope ["name"] ["name"] (defScope s_need) := ⟨rfl, rfl, rfl, by decide +kernel, rfl, by decide +kernel, by decide +kernel⟩
/-- what stands of the names and the error -/
structure NTxt (K : PySem.W.Frag) (mg : Str → Option Value) (nv : List V) (aK CB : Addr) : Prop where
  mK : mg "KNOWN" = some (.ref aK)
  sq : ∀ H, SqT K H aK nv
  fl : nv.all flatV = true
  mB : mg "BadName" = some (.ref CB)
  ex : PySem.W.excIn K CB He.veBase "ValueError.__new__" = true
  kp : PySem.W.keepIn K (.ref CB) = true
  su : PySem.W.subIn K (.ref CB) (.type "BaseException") = some true
  ty : PySem.W.typeIn K (.ref CB) = some (.type "type")
theorem ok_need {f aK CB : Addr} {fd : FuncData} {nv : List V} (F : L2.Fun K "need_known" "need_known" s_need f fd) (T : Bt mg) (N : NTxt K mg nv aK CB) : FnOk P w K mg base (L2.CX P w) 1 f fd ["name"] (spNeed K nv CB) := by
  refine F.okX sc_need (fun vs H Q E h => ?_) (fun cdv A outer s H vs Q E hr h => ?_)
  · obtain ⟨v, rfl, _⟩ := h; rfl
  · obtain ⟨v, rfl, h⟩ := h
    refine ⟨_, pss_one (ps_if (PW.pt (pw_or (pt_not (pt_val (pe_callB call_isi rfl T.isinstance (by decide +kernel) (pa_cons (pv 0) (pa_cons (pe_bltn rfl T.str (by decide +kernel) (show RelV (.ty "str") (.type "str") from rfl)) pa_nil))))) (pw_or1 (pt_cmpR op_notIn_seq (pv 0) (pe_glob rfl N.mK (show RelV (.ref aK) (.ref aK) from rfl)) (by with_unfolding_all rfl)))))
      (pss_one (ps_raise (W := fun cls d _ H => E cls d H) rfl (takes_of rfl rfl rfl rfl) (pmk_own PySem.F.excBase_ValueError N.ex N.mB N.kp (raises_own N.su N.ty) rfl))) pss_nil), ?_⟩
    rcases h with ⟨⟨t, ht, h⟩, q⟩ | ⟨x, rfl, hx, q⟩
    · rcases h with h | ⟨x, rfl, h, hx⟩
      · refine ⟨v, rfl, v, .ty "str", .type t, .type "str", false, rfl, .ty "str", ht, kit_ty h, false, rfl, ?_⟩
        exact q
      · refine ⟨_, rfl, _, .ty "str", .type t, .type "str", true, rfl, .ty "str", ht, kit_ty h, true, rfl, ?_⟩
        refine ⟨_, rfl, aK, nv, rfl, .inr (N.sq H), rfl, N.fl, _, rfl, ?_⟩
        rw [hx]
        exact q
    · refine ⟨_, rfl, _, .ty "str", .type "str", .type "str", true, rfl, .ty "str", .base (.str x), kit_ty rfl, true, rfl, ?_⟩
      refine ⟨_, rfl, aK, nv, rfl, .inr (N.sq H), rfl, N.fl, _, rfl, ?_⟩
      rw [hx]
      exact q
/-- a table of the module: names, data -/
def Tab71 (K : PySem.W.Frag) (w : World) (a : Addr) (t : List (Str × D)) : Prop := ∀ q ∈ t, ∃ v, KDct K w a q.1 v ∧ ∀ G, Rp K G v q.2
/-- the rows are rows of a set of walls -/
def InitOk (size : Int) (rows : List D) : Prop := ∀ p : Addr, ∃ env', mi (startE 7 [.raw (.ref p), .int size, .tup rows]) = some (.nx env') ∧ env'[0]? = some (some (false, .raw (.ref p))) ∧ env'[1]? = some (some (false, .int size)) ∧ env'[3]? = some (some (false, .lst rows))
def spKset (K : PySem.W.Frag) (C : Addr) (nv : List V) (CB : Addr) (t : List (Str × D)) : Sp := fun vs H Q E => ∃ v, vs = [v] ∧ ((Bad K nv H v ∧ E (.ref CB) none H) ∨ ∃ (x : Str) (size : Int) (rows : List D) (G : Hp), v = .str x ∧ inV (.str x) nv = true ∧ (x, D.tup [.int size, .tup rows]) ∈ t ∧ InitOk size rows ∧ Same G H ∧
  ∀ (o : Addr) (G' H' : Hp), Gr G H G' H' → G' o = none → H o = none → WOb K C G' H' o (.int size) rows → Q (.ref o) H')
def spKfacts (K : PySem.W.Frag) (nv : List V) (CB : Addr) (t : List (Str × D)) : Sp := fun vs H Q E => ∃ v, vs = [v] ∧ ((Bad K nv H v ∧ E (.ref CB) none H) ∨ ∃ (x : Str) (d : D), v = .str x ∧ inV (.str x) nv = true ∧ (x, d) ∈ t ∧ ∀ u, (∀ G, Rp K G u d) → Q u H)
def spNames (aK : Addr) : Sp := fun vs H Q _ => vs = [] ∧ Q (.ref aK) H
theorem sc_names : FnScope [] [] (defScope s_names) := ⟨rfl, rfl, rfl, by decide +kernel, rfl, by decide +kernel, by decide +kernel⟩
theorem ok_names {f aK CB : Addr} {fd : FuncData} {nv : List V} (F : L2.Fun K "known_names" "known_names" s_names f fd) (N : NTxt K mg nv aK CB) : FnOk P w K mg base CX0 1 f fd [] (spNames aK) := by
  refine F.ok sc_names (fun vs H Q E h => ?_) (fun cdv A outer s H vs Q E hr h => ?_)
  · obtain ⟨rfl, _⟩ := h; rfl
  · obtain ⟨rfl, k⟩ := h
    exact ⟨_, pss_one (ps_ret (pe_glob rfl N.mK (show RelV (.ref aK) (.ref aK) from rfl))), k⟩
theorem sc_kset : FnScope ["name"] ["name"] (defScope s_kset) := ⟨rfl, rfl, rfl, by decide +kernel, rfl, by decide +kernel, by decide +kernel⟩
theorem tup2 {G : Hp} {v : V} {d0 d1 : D} (r : Rp K G v (.tup [d0, d1])) : ∃ a v0 v1, v = .ref a ∧ SqT K G a [v0, v1] ∧ Rp K G v0 d0 ∧ Rp K G v1 d1 := by
  cases r with
  | @tup a xs es h1 h2 =>
    cases h2 with
    | cons q1 q2 =>
      cases q2 with
      | cons q3 q4 => cases q4; exact ⟨a, _, _, rfl, h1, q1, q3⟩
theorem ok_kset {f fN fI C aK aR CB : Addr} {fd fdN fdI : FuncData} {nv : List V} {t : List (Str × D)} (F : L2.Fun K "known_set" "known_set" s_kset f fd) (T : Bt mg) (N : NTxt K mg nv aK CB) (FN : L2.Fun K "need_known" "need_known" s_need fN fdN) (mN : mg "need_known" = some (.ref fN))
    (mR : mg "ROWS" = some (.ref aR)) (hR : Tab71 K w aR t) (M : Mk K C fI) (mC : mg "Walls" = some (.ref C)) (FI : L2.Fun K "__init__" "Walls.__init__" s_init fI fdI) (W : WTxt K C)
    (Cis_between : Cl P w K mg base 2 "is_between" Fis_between) (Cis_list : Cl P w K mg base 1 "is_list" Fis_list) (Cis_row : Cl P w K mg base 2 "is_row" Fis_row) (Cis_same_row : Cl P w K mg base 1 "is_same_row" Fis_same_row) :
    FnOk P w K mg base (L2.CX P w) 5 f fd ["name"] (spKset K C nv CB t) := by
  have GN : FnOk P w K mg base (L2.CX P w) 1 fN fdN ["name"] (spNeed K nv CB) := ok_need FN T N
  have bN : Binds K fdN ["name"] [] := FN.binds fun _ _ _ _ _ _ us hl => match us, hl with | [_], _ => rfl
  have GI : FnOk P w K mg base CX0 3 fI fdI ["self", "size", "rows"] (spWinit K C) := ok_init FI T W Cis_between Cis_list Cis_row Cis_same_row
  have bI : Binds K fdI ["self", "size", "rows"] [] := FI.binds fun _ _ _ _ _ _ us hl => match us, hl with | [_, _, _], _ => rfl
  refine F.okX sc_kset (fun vs H Q E h => ?_) (fun cdv A outer s H vs Q E hr h => ?_)
  · obtain ⟨v, rfl, _⟩ := h; rfl
  · obtain ⟨v, rfl, h⟩ := h
    refine ⟨_, pss_cons (ps_expr (pe_call GN (hr.mono (by decide)) rfl mN FN.kp bN .nil (passes_call (E := E) (takes_of rfl rfl rfl rfl) fun _ _ _ _ h => h) (pa_cons (pv 0) pa_nil)))
      (pss_one (ps_ret (pe_make M GI hr rfl mC bI .nil pass0 (pa_cons (pe_ix (ix_list.or ix_tup) (pe_ix ix_kdict (pe_glob rfl mR (show RelV (.ref aR) (.ref aR) from rfl)) (pv 0) (fun _ _ => rfl)) pe_int (fun _ _ => rfl))
        (pa_cons (pe_ix (ix_list.or ix_tup) (pe_ix ix_kdict (pe_glob rfl mR (show RelV (.ref aR) (.ref aR) from rfl)) (pv 0) (fun _ _ => rfl)) pe_int (fun _ _ => rfl)) pa_nil))))), ?_⟩
    refine ⟨v, rfl, v, rfl, ?_⟩
    rcases h with h | ⟨x, size, rows, G, rfl, hx, ht, hi, e, k⟩
    · exact .inl h
    · refine .inr ⟨x, rfl, hx, ?_⟩
      obtain ⟨u, hk, hu⟩ := hR _ ht
      obtain ⟨a, v0, v1, rfl, hsq, r0, r1⟩ := tup2 (hu G)
      have sq : SqT K H a [v0, v1] := same_sqt e hsq
      refine ⟨_, rfl, aR, x, _, rfl, rfl, hk, .inr ⟨a, _, 0, v0, rfl, rfl, sq, rfl, _, rfl, aR, x, _, rfl, rfl, hk, .inr ⟨a, _, 1, v1, rfl, rfl, sq, rfl, ?_⟩⟩⟩
      intro o dx no ndx nxo
      obtain ⟨env', m1, m2, m3, m4⟩ := hi o
      have ne : ∀ b u, H b = some u → b ≠ o ∧ b ≠ dx := fun b u q => ⟨ne_of_none q no, ne_of_none q ndx⟩
      have s2 : Same H (upd (upd H dx (.own o)) o (.ins C dx [])) := fun b u q => by rw [upd_ne (ne b u q).1, upd_ne (ne b u q).2]; exact q
      have go : G o = none := free_of e no
      refine ⟨o, dx, v0, v1, G, .int size, .tup rows, rows, env', rfl, e.trans s2, go, upd_same, r0, r1, m1, m2, m3, m4, fun sv rv G' H' g q1 q2 => ⟨rfl, ?_⟩⟩
      have gx : G' o = none := grNone g go upd_same
      refine k o G' _ ⟨fun b u q => ?_, g.g, fun b u q => ?_, fun b u q => ?_⟩ gx no ⟨dx, sv, rv, upd_same, q1, q2⟩
      · rw [upd_ne (ne b u q).1]; exact g.h _ _ (s2 _ _ q)
      · rw [upd_ne (fun z => by rw [z, gx] at q; cases q)]; exact g.gh _ _ q
      · rcases g.nw b u q with z | z
        · exact .inl z
        · exact .inr (s2.free z)
theorem sc_kfacts : FnScope ["name"] ["name"] (defScope s_kfacts) := ⟨rfl, rfl, rfl, by decide +kernel, rfl, by decide +kernel, by decide +kernel⟩
theorem ok_kfacts {f fN aK aF CB : Addr} {fd fdN : FuncData} {nv : List V} {t : List (Str × D)} (F : L2.Fun K "known_facts" "known_facts" s_kfacts f fd) (T : Bt mg) (N : NTxt K mg nv aK CB) (FN : L2.Fun K "need_known" "need_known" s_need fN fdN) (mN : mg "need_known" = some (.ref fN))
    (mF : mg "FACTS" = some (.ref aF)) (hF : Tab71 K w aF t) : FnOk P w K mg base (L2.CX P w) 2 f fd ["name"] (spKfacts K nv CB t) := by
  have GN : FnOk P w K mg base (L2.CX P w) 1 fN fdN ["name"] (spNeed K nv CB) := ok_need FN T N
  have bN : Binds K fdN ["name"] [] := FN.binds fun _ _ _ _ _ _ us hl => match us, hl with | [_], _ => rfl
  refine F.okX sc_kfacts (fun vs H Q E h => ?_) (fun cdv A outer s H vs Q E hr h => ?_)
  · obtain ⟨v, rfl, _⟩ := h; rfl
  · obtain ⟨v, rfl, h⟩ := h
    refine ⟨_, pss_cons (ps_expr (pe_call GN hr rfl mN FN.kp bN .nil (passes_call (E := E) (takes_of rfl rfl rfl rfl) fun _ _ _ _ h => h) (pa_cons (pv 0) pa_nil)))
      (pss_one (ps_ret (pe_ix ix_kdict (pe_glob rfl mF (show RelV (.ref aF) (.ref aF) from rfl)) (pv 0) (fun _ _ => rfl)))), ?_⟩
    refine ⟨v, rfl, v, rfl, ?_⟩
    rcases h with h | ⟨x, d, rfl, hx, ht, k⟩
    · exact .inl h
    · refine .inr ⟨x, rfl, hx, ?_⟩
      obtain ⟨u, hk, hu⟩ := hF _ ht
      exact ⟨_, rfl, aF, x, u, rfl, rfl, hk, k u hu⟩
end
end Sh
end Part_K71e

section Part_K71g
set_option maxRecDepth 100000
set_option maxHeartbeats 4000000
/-! K71g: closed calls, by the kernel (written by mk71g.py). -/
namespace Sh
open PySem L2
def nm71 : List Str := ["cross", "pencil", "triangle", "grid", "apart", "mirrors", "axes", "braid", "shifts", "four"]
def nv71 : List V := nm71.map V.str
def rows71 : List (Str × D) := [("cross", .tup [.int 2, .tup [.tup [.int 1, .int 0, .int 0], .tup [.int 0, .int 1, .int 0]]]), ("pencil", .tup [.int 2, .tup [.tup [.int 1, .int 0, .int 0], .tup [.int 0, .int 1, .int 0], .tup [.int 1, .int 1, .int 0]]]), ("triangle", .tup [.int 2, .tup [.tup [.int 1, .int 0, .int 0], .tup [.int 0, .int 1, .int 0], .tup [.int 1, .int 1, .int 2]]]), ("grid", .tup [.int 2, .tup [.tup [.int 1, .int 0, .int 0], .tup [.int 1, .int 0, .int 1], .tup [.int 0, .int 1, .int 0], .tup [.int 0, .int 1, .int 1]]]), ("apart", .tup [.int 1, .tup [.tup [.int 1, .int 0], .tup [.int 1, .int 1], .tup [.int 1, .int 2]]]), ("mirrors", .tup [.int 2, .tup [.tup [.int 1, .int 0, .int 0], .tup [.int 0, .int 1, .int 0], .tup [.int 1, .int 1, .int 0], .tup [.int 1, .int (-1), .int 0]]]), ("axes", .tup [.int 3, .tup [.tup [.int 1, .int 0, .int 0, .int 0], .tup [.int 0, .int 1, .int 0, .int 0], .tup [.int 0, .int 0, .int 1, .int 0]]]), ("braid", .tup [.int 3, .tup [.tup [.int 1, .int (-1), .int 0, .int 0], .tup [.int 1, .int 0, .int (-1), .int 0], .tup [.int 0, .int 1, .int (-1), .int 0]]]), ("shifts", .tup [.int 3, .tup [.tup [.int 1, .int (-1), .int 0, .int 0], .tup [.int 1, .int (-1), .int 0, .int 1], .tup [.int 1, .int 0, .int (-1), .int 0], .tup [.int 1, .int 0, .int (-1), .int 1], .tup [.int 0, .int 1, .int (-1), .int 0], .tup [.int 0, .int 1, .int (-1), .int 1]]]), ("four", .tup [.int 4, .tup [.tup [.int 1, .int (-1), .int 0, .int 0, .int 0], .tup [.int 1, .int 0, .int (-1), .int 0, .int 0], .tup [.int 1, .int 0, .int 0, .int (-1), .int 0], .tup [.int 0, .int 1, .int (-1), .int 0, .int 0], .tup [.int 0, .int 1, .int 0, .int (-1), .int 0], .tup [.int 0, .int 0, .int 1, .int (-1), .int 0]]])]
def facts71 : List (Str × D) := [("cross", .tup [.int 2, .int 2, .int 2, .int 4, .int 4, .int 0]), ("pencil", .tup [.int 2, .int 3, .int 2, .int 5, .int 6, .int 0]), ("triangle", .tup [.int 2, .int 3, .int 2, .int 7, .int 7, .int 1]), ("grid", .tup [.int 2, .int 4, .int 2, .int 9, .int 9, .int 1]), ("apart", .tup [.int 1, .int 3, .int 1, .int 4, .int 4, .int 2]), ("mirrors", .tup [.int 2, .int 4, .int 2, .int 6, .int 8, .int 0]), ("axes", .tup [.int 3, .int 3, .int 3, .int 8, .int 8, .int 0]), ("braid", .tup [.int 3, .int 3, .int 2, .int 5, .int 6, .int 0]), ("shifts", .tup [.int 3, .int 6, .int 2, .int 13, .int 16, .int 0]), ("four", .tup [.int 4, .int 6, .int 3, .int 15, .int 24, .int 0])]
def kn71 : List D := [.tup [.str "cross", .tup [.int 2, .tup [.tup [.int 1, .int 0, .int 0], .tup [.int 0, .int 1, .int 0]]]], .tup [.str "pencil", .tup [.int 2, .tup [.tup [.int 1, .int 0, .int 0], .tup [.int 0, .int 1, .int 0], .tup [.int 1, .int 1, .int 0]]]], .tup [.str "triangle", .tup [.int 2, .tup [.tup [.int 1, .int 0, .int 0], .tup [.int 0, .int 1, .int 0], .tup [.int 1, .int 1, .int 2]]]], .tup [.str "grid", .tup [.int 2, .tup [.tup [.int 1, .int 0, .int 0], .tup [.int 1, .int 0, .int 1], .tup [.int 0, .int 1, .int 0], .tup [.int 0, .int 1, .int 1]]]], .tup [.str "apart", .tup [.int 1, .tup [.tup [.int 1, .int 0], .tup [.int 1, .int 1], .tup [.int 1, .int 2]]]], .tup [.str "mirrors", .tup [.int 2, .tup [.tup [.int 1, .int 0, .int 0], .tup [.int 0, .int 1, .int 0], .tup [.int 1, .int 1, .int 0], .tup [.int 1, .int (-1), .int 0]]]], .tup [.str "axes", .tup [.int 3, .tup [.tup [.int 1, .int 0, .int 0, .int 0], .tup [.int 0, .int 1, .int 0, .int 0], .tup [.int 0, .int 0, .int 1, .int 0]]]], .tup [.str "braid", .tup [.int 3, .tup [.tup [.int 1, .int (-1), .int 0, .int 0], .tup [.int 1, .int 0, .int (-1), .int 0], .tup [.int 0, .int 1, .int (-1), .int 0]]]], .tup [.str "shifts", .tup [.int 3, .tup [.tup [.int 1, .int (-1), .int 0, .int 0], .tup [.int 1, .int (-1), .int 0, .int 1], .tup [.int 1, .int 0, .int (-1), .int 0], .tup [.int 1, .int 0, .int (-1), .int 1], .tup [.int 0, .int 1, .int (-1), .int 0], .tup [.int 0, .int 1, .int (-1), .int 1]]]], .tup [.str "four", .tup [.int 4, .tup [.tup [.int 1, .int (-1), .int 0, .int 0, .int 0], .tup [.int 1, .int 0, .int (-1), .int 0, .int 0], .tup [.int 1, .int 0, .int 0, .int (-1), .int 0], .tup [.int 0, .int 1, .int (-1), .int 0, .int 0], .tup [.int 0, .int 1, .int 0, .int (-1), .int 0], .tup [.int 0, .int 0, .int 1, .int (-1), .int 0]]]]]
theorem known_is : F_law_known [] = some (.lst kn71) := by kernel_rfl
theorem kn_ok : ∀ x ∈ kn71, okD x = true := by decide +kernel
/-- the env of the law's comprehension over the rows -/
def envR (size : Int) (rows : List D) : Env := [none, none, none, none, some (false, .int size), some (false, .tup rows), none, none, none, none, none, none, none, none, none]
structure Good (x : Str) (size : Int) (rows : List D) : Prop where
  inn : inV (.str x) nv71 = true
  rt : (x, D.tup [.int size, .tup rows]) ∈ rows71
  ini : InitOk size rows
  eq2 : sEq (.tup rows) (.tup rows) = some (.bl true)
  rep : rpD (.lst [.int size, .tup rows]) = true
  ex : ∃ (many near chi rank flats : D) (cut : List D), F_law_counts [.int size, .tup rows] = some (.tup [many, near, chi]) ∧ F_law_flats_many [.int size, .tup rows] = some flats ∧
    eComp (wItems (eVar 5)) [14] (gV 14) bYes (eSl (eVar 14) oNone (oSome (eVar 4))) (envR size rows) = some (.lst cut) ∧ F_law_rank [.lst cut] = some rank ∧
    (x, D.tup [.int size, .int (rows.length : Nat), rank, flats, many, near]) ∈ facts71 ∧ rpD (.lst [.tup [.int size, .int (rows.length : Nat), rank, flats, many, near], .tup [.int size, .int (rows.length : Nat), rank, flats, many, near]]) = true
def kr0 : List D := [.tup [.int 1, .int 0, .int 0], .tup [.int 0, .int 1, .int 0]]
theorem counts0 : F_law_counts [.int 2, .tup kr0] = some (.tup [.int 4, .int 0, .tup [.int 1, .int (-2), .int 1]]) := by kernel_rfl
theorem flats0 : F_law_flats_many [.int 2, .tup kr0] = some (.int 4) := by kernel_rfl
theorem ini0 : InitOk 2 kr0 := fun p => ⟨[some (false, .raw (.ref p)), some (false, .int 2), some (false, .tup kr0), some (false, .lst kr0), some (false, .int 1), some (false, .tup [.int 0, .int 1, .int 0]), none], by kernel_rfl, rfl, rfl, rfl⟩
theorem good0 : Good "cross" 2 kr0 := ⟨by decide +kernel, List.mem_of_getElem? (i := 0) rfl, ini0, by kernel_rfl, by kernel_rfl, ⟨.int 4, .int 0, .tup [.int 1, .int (-2), .int 1], .int 2, .int 4, [.tup [.int 1, .int 0], .tup [.int 0, .int 1]], counts0, flats0, by kernel_rfl, by kernel_rfl, List.mem_of_getElem? (i := 0) rfl, by kernel_rfl⟩⟩
def kr1 : List D := [.tup [.int 1, .int 0, .int 0], .tup [.int 0, .int 1, .int 0], .tup [.int 1, .int 1, .int 0]]
theorem counts1 : F_law_counts [.int 2, .tup kr1] = some (.tup [.int 6, .int 0, .tup [.int 2, .int (-3), .int 1]]) := by kernel_rfl
theorem flats1 : F_law_flats_many [.int 2, .tup kr1] = some (.int 5) := by kernel_rfl
theorem ini1 : InitOk 2 kr1 := fun p => ⟨[some (false, .raw (.ref p)), some (false, .int 2), some (false, .tup kr1), some (false, .lst kr1), some (false, .int 2), some (false, .tup [.int 1, .int 1, .int 0]), none], by kernel_rfl, rfl, rfl, rfl⟩
theorem good1 : Good "pencil" 2 kr1 := ⟨by decide +kernel, List.mem_of_getElem? (i := 1) rfl, ini1, by kernel_rfl, by kernel_rfl, ⟨.int 6, .int 0, .tup [.int 2, .int (-3), .int 1], .int 2, .int 5, [.tup [.int 1, .int 0], .tup [.int 0, .int 1], .tup [.int 1, .int 1]], counts1, flats1, by kernel_rfl, by kernel_rfl, List.mem_of_getElem? (i := 1) rfl, by kernel_rfl⟩⟩
def kr2 : List D := [.tup [.int 1, .int 0, .int 0], .tup [.int 0, .int 1, .int 0], .tup [.int 1, .int 1, .int 2]]
theorem counts2 : F_law_counts [.int 2, .tup kr2] = some (.tup [.int 7, .int 1, .tup [.int 3, .int (-3), .int 1]]) := by kernel_rfl
theorem flats2 : F_law_flats_many [.int 2, .tup kr2] = some (.int 7) := by kernel_rfl
theorem ini2 : InitOk 2 kr2 := fun p => ⟨[some (false, .raw (.ref p)), some (false, .int 2), some (false, .tup kr2), some (false, .lst kr2), some (false, .int 2), some (false, .tup [.int 1, .int 1, .int 2]), none], by kernel_rfl, rfl, rfl, rfl⟩
theorem good2 : Good "triangle" 2 kr2 := ⟨by decide +kernel, List.mem_of_getElem? (i := 2) rfl, ini2, by kernel_rfl, by kernel_rfl, ⟨.int 7, .int 1, .tup [.int 3, .int (-3), .int 1], .int 2, .int 7, [.tup [.int 1, .int 0], .tup [.int 0, .int 1], .tup [.int 1, .int 1]], counts2, flats2, by kernel_rfl, by kernel_rfl, List.mem_of_getElem? (i := 2) rfl, by kernel_rfl⟩⟩
def kr3 : List D := [.tup [.int 1, .int 0, .int 0], .tup [.int 1, .int 0, .int 1], .tup [.int 0, .int 1, .int 0], .tup [.int 0, .int 1, .int 1]]
theorem counts3 : F_law_counts [.int 2, .tup kr3] = some (.tup [.int 9, .int 1, .tup [.int 4, .int (-4), .int 1]]) := by kernel_rfl
theorem flats3 : F_law_flats_many [.int 2, .tup kr3] = some (.int 9) := by kernel_rfl
theorem ini3 : InitOk 2 kr3 := fun p => ⟨[some (false, .raw (.ref p)), some (false, .int 2), some (false, .tup kr3), some (false, .lst kr3), some (false, .int 3), some (false, .tup [.int 0, .int 1, .int 1]), none], by kernel_rfl, rfl, rfl, rfl⟩
theorem good3 : Good "grid" 2 kr3 := ⟨by decide +kernel, List.mem_of_getElem? (i := 3) rfl, ini3, by kernel_rfl, by kernel_rfl, ⟨.int 9, .int 1, .tup [.int 4, .int (-4), .int 1], .int 2, .int 9, [.tup [.int 1, .int 0], .tup [.int 1, .int 0], .tup [.int 0, .int 1], .tup [.int 0, .int 1]], counts3, flats3, by kernel_rfl, by kernel_rfl, List.mem_of_getElem? (i := 3) rfl, by kernel_rfl⟩⟩
def kr4 : List D := [.tup [.int 1, .int 0], .tup [.int 1, .int 1], .tup [.int 1, .int 2]]
theorem counts4 : F_law_counts [.int 1, .tup kr4] = some (.tup [.int 4, .int 2, .tup [.int (-3), .int 1]]) := by kernel_rfl
theorem flats4 : F_law_flats_many [.int 1, .tup kr4] = some (.int 4) := by kernel_rfl
theorem ini4 : InitOk 1 kr4 := fun p => ⟨[some (false, .raw (.ref p)), some (false, .int 1), some (false, .tup kr4), some (false, .lst kr4), some (false, .int 2), some (false, .tup [.int 1, .int 2]), none], by kernel_rfl, rfl, rfl, rfl⟩
theorem good4 : Good "apart" 1 kr4 := ⟨by decide +kernel, List.mem_of_getElem? (i := 4) rfl, ini4, by kernel_rfl, by kernel_rfl, ⟨.int 4, .int 2, .tup [.int (-3), .int 1], .int 1, .int 4, [.tup [.int 1], .tup [.int 1], .tup [.int 1]], counts4, flats4, by kernel_rfl, by kernel_rfl, List.mem_of_getElem? (i := 4) rfl, by kernel_rfl⟩⟩
def kr5 : List D := [.tup [.int 1, .int 0, .int 0], .tup [.int 0, .int 1, .int 0], .tup [.int 1, .int 1, .int 0], .tup [.int 1, .int (-1), .int 0]]
theorem counts5 : F_law_counts [.int 2, .tup kr5] = some (.tup [.int 8, .int 0, .tup [.int 3, .int (-4), .int 1]]) := by kernel_rfl
theorem flats5 : F_law_flats_many [.int 2, .tup kr5] = some (.int 6) := by kernel_rfl
theorem ini5 : InitOk 2 kr5 := fun p => ⟨[some (false, .raw (.ref p)), some (false, .int 2), some (false, .tup kr5), some (false, .lst kr5), some (false, .int 3), some (false, .tup [.int 1, .int (-1), .int 0]), none], by kernel_rfl, rfl, rfl, rfl⟩
theorem good5 : Good "mirrors" 2 kr5 := ⟨by decide +kernel, List.mem_of_getElem? (i := 5) rfl, ini5, by kernel_rfl, by kernel_rfl, ⟨.int 8, .int 0, .tup [.int 3, .int (-4), .int 1], .int 2, .int 6, [.tup [.int 1, .int 0], .tup [.int 0, .int 1], .tup [.int 1, .int 1], .tup [.int 1, .int (-1)]], counts5, flats5, by kernel_rfl, by kernel_rfl, List.mem_of_getElem? (i := 5) rfl, by kernel_rfl⟩⟩
def kr6 : List D := [.tup [.int 1, .int 0, .int 0, .int 0], .tup [.int 0, .int 1, .int 0, .int 0], .tup [.int 0, .int 0, .int 1, .int 0]]
theorem counts6 : F_law_counts [.int 3, .tup kr6] = some (.tup [.int 8, .int 0, .tup [.int (-1), .int 3, .int (-3), .int 1]]) := by kernel_rfl
theorem flats6 : F_law_flats_many [.int 3, .tup kr6] = some (.int 8) := by kernel_rfl
theorem ini6 : InitOk 3 kr6 := fun p => ⟨[some (false, .raw (.ref p)), some (false, .int 3), some (false, .tup kr6), some (false, .lst kr6), some (false, .int 2), some (false, .tup [.int 0, .int 0, .int 1, .int 0]), none], by kernel_rfl, rfl, rfl, rfl⟩
theorem good6 : Good "axes" 3 kr6 := ⟨by decide +kernel, List.mem_of_getElem? (i := 6) rfl, ini6, by kernel_rfl, by kernel_rfl, ⟨.int 8, .int 0, .tup [.int (-1), .int 3, .int (-3), .int 1], .int 3, .int 8, [.tup [.int 1, .int 0, .int 0], .tup [.int 0, .int 1, .int 0], .tup [.int 0, .int 0, .int 1]], counts6, flats6, by kernel_rfl, by kernel_rfl, List.mem_of_getElem? (i := 6) rfl, by kernel_rfl⟩⟩
def kr7 : List D := [.tup [.int 1, .int (-1), .int 0, .int 0], .tup [.int 1, .int 0, .int (-1), .int 0], .tup [.int 0, .int 1, .int (-1), .int 0]]
theorem counts7 : F_law_counts [.int 3, .tup kr7] = some (.tup [.int 6, .int 0, .tup [.int 0, .int 2, .int (-3), .int 1]]) := by kernel_rfl
theorem flats7 : F_law_flats_many [.int 3, .tup kr7] = some (.int 5) := by kernel_rfl
theorem ini7 : InitOk 3 kr7 := fun p => ⟨[some (false, .raw (.ref p)), some (false, .int 3), some (false, .tup kr7), some (false, .lst kr7), some (false, .int 2), some (false, .tup [.int 0, .int 1, .int (-1), .int 0]), none], by kernel_rfl, rfl, rfl, rfl⟩
theorem good7 : Good "braid" 3 kr7 := ⟨by decide +kernel, List.mem_of_getElem? (i := 7) rfl, ini7, by kernel_rfl, by kernel_rfl, ⟨.int 6, .int 0, .tup [.int 0, .int 2, .int (-3), .int 1], .int 2, .int 5, [.tup [.int 1, .int (-1), .int 0], .tup [.int 1, .int 0, .int (-1)], .tup [.int 0, .int 1, .int (-1)]], counts7, flats7, by kernel_rfl, by kernel_rfl, List.mem_of_getElem? (i := 7) rfl, by kernel_rfl⟩⟩
def kr8 : List D := [.tup [.int 1, .int (-1), .int 0, .int 0], .tup [.int 1, .int (-1), .int 0, .int 1], .tup [.int 1, .int 0, .int (-1), .int 0], .tup [.int 1, .int 0, .int (-1), .int 1], .tup [.int 0, .int 1, .int (-1), .int 0], .tup [.int 0, .int 1, .int (-1), .int 1]]
theorem counts8 : F_law_counts [.int 3, .tup kr8] = some (.tup [.int 16, .int 0, .tup [.int 0, .int 9, .int (-6), .int 1]]) := by kernel_rfl
theorem flats8 : F_law_flats_many [.int 3, .tup kr8] = some (.int 13) := by kernel_rfl
theorem ini8 : InitOk 3 kr8 := fun p => ⟨[some (false, .raw (.ref p)), some (false, .int 3), some (false, .tup kr8), some (false, .lst kr8), some (false, .int 5), some (false, .tup [.int 0, .int 1, .int (-1), .int 1]), none], by kernel_rfl, rfl, rfl, rfl⟩
theorem good8 : Good "shifts" 3 kr8 := ⟨by decide +kernel, List.mem_of_getElem? (i := 8) rfl, ini8, by kernel_rfl, by kernel_rfl, ⟨.int 16, .int 0, .tup [.int 0, .int 9, .int (-6), .int 1], .int 2, .int 13, [.tup [.int 1, .int (-1), .int 0], .tup [.int 1, .int (-1), .int 0], .tup [.int 1, .int 0, .int (-1)], .tup [.int 1, .int 0, .int (-1)], .tup [.int 0, .int 1, .int (-1)], .tup [.int 0, .int 1, .int (-1)]], counts8, flats8, by kernel_rfl, by kernel_rfl, List.mem_of_getElem? (i := 8) rfl, by kernel_rfl⟩⟩
def kr9 : List D := [.tup [.int 1, .int (-1), .int 0, .int 0, .int 0], .tup [.int 1, .int 0, .int (-1), .int 0, .int 0], .tup [.int 1, .int 0, .int 0, .int (-1), .int 0], .tup [.int 0, .int 1, .int (-1), .int 0, .int 0], .tup [.int 0, .int 1, .int 0, .int (-1), .int 0], .tup [.int 0, .int 0, .int 1, .int (-1), .int 0]]
theorem counts9 : F_law_counts [.int 4, .tup kr9] = some (.tup [.int 24, .int 0, .tup [.int 0, .int (-6), .int 11, .int (-6), .int 1]]) := by kernel_rfl
theorem flats9 : F_law_flats_many [.int 4, .tup kr9] = some (.int 15) := by kernel_rfl
theorem ini9 : InitOk 4 kr9 := fun p => ⟨[some (false, .raw (.ref p)), some (false, .int 4), some (false, .tup kr9), some (false, .lst kr9), some (false, .int 5), some (false, .tup [.int 0, .int 0, .int 1, .int (-1), .int 0]), none], by kernel_rfl, rfl, rfl, rfl⟩
theorem good9 : Good "four" 4 kr9 := ⟨by decide +kernel, List.mem_of_getElem? (i := 9) rfl, ini9, by kernel_rfl, by kernel_rfl, ⟨.int 24, .int 0, .tup [.int 0, .int (-6), .int 11, .int (-6), .int 1], .int 3, .int 15, [.tup [.int 1, .int (-1), .int 0, .int 0], .tup [.int 1, .int 0, .int (-1), .int 0], .tup [.int 1, .int 0, .int 0, .int (-1)], .tup [.int 0, .int 1, .int (-1), .int 0], .tup [.int 0, .int 1, .int 0, .int (-1)], .tup [.int 0, .int 0, .int 1, .int (-1)]], counts9, flats9, by kernel_rfl, by kernel_rfl, List.mem_of_getElem? (i := 9) rfl, by kernel_rfl⟩⟩
theorem all_good : ∀ d ∈ kn71, ∃ (x : Str) (size : Int) (rows : List D), d = .tup [.str x, .tup [.int size, .tup rows]] ∧ Good x size rows := by
  intro d hd
  simp only [kn71, List.mem_cons, List.not_mem_nil, or_false] at hd
  rcases hd with rfl | rfl | rfl | rfl | rfl | rfl | rfl | rfl | rfl | rfl
  · exact ⟨"cross", 2, kr0, rfl, good0⟩
  · exact ⟨"pencil", 2, kr1, rfl, good1⟩
  · exact ⟨"triangle", 2, kr2, rfl, good2⟩
  · exact ⟨"grid", 2, kr3, rfl, good3⟩
  · exact ⟨"apart", 1, kr4, rfl, good4⟩
  · exact ⟨"mirrors", 2, kr5, rfl, good5⟩
  · exact ⟨"axes", 3, kr6, rfl, good6⟩
  · exact ⟨"braid", 3, kr7, rfl, good7⟩
  · exact ⟨"shifts", 3, kr8, rfl, good8⟩
  · exact ⟨"four", 4, kr9, rfl, good9⟩
theorem names_is : (nm71.map PyData.str).length ≤ 1000 ∧ rpP (.tuple (nm71.map PyData.str)) = true := ⟨by decide, by kernel_rfl⟩
end Sh
end Part_K71g

section Part_K71p
set_option maxRecDepth 100000
set_option maxHeartbeats 4000000
/-! K71p: what the law reads, and that it answers True. -/
namespace Sh
open PySem L2
abbrev s_law : Stmt := top 36
section
variable {K : PySem.W.Frag}
def qLaw : Str := (PyProof.Rows.envOfC "law" (defScope s_law) 0 0 (.ref 0)).qual
def qLam : Str := qLaw ++ "<lambda>"
abbrev scLam : Scope := { kind := .function, names := [("ask", .free), ("bad", .free)], isGenerator := false, isCoroutine := false }
def prmLam : Arguments := { posonlyargs := [], args := [], vararg := none, kwonlyargs := [], kw_defaults := [], kwarg := none, defaults := [] }
def sp71 (K : PySem.W.Frag) (PT : Addr) : Sp := fun vs H Q _ => ∃ (a : Addr) (ns : List Int), vs = [.ref a] ∧ SqL K H a (ns.map V.int) ∧ ns.length ≤ 63 ∧ H PT = some (.tbl #[]) ∧ ∀ H', Q (.bl true) H'

theorem neStr {t : Str} {A B : Prop} (h : B) : if (!decide (V.str t = V.str t)) = true then A else B := by
  rw [decide_eq_true (rfl : V.str t = V.str t)]
  exact h
theorem dp_strs {H : Hp} : ∀ l : List Str, DpAll K H (l.map V.str) (l.map PyData.str)
  | [] => .nil
  | x :: l => .cons (.str x) (dp_strs l)
theorem sq_draw {H H3 H4 : Hp} {a p l : Addr} {xs : List V} (h : SqL K H a xs) (e : Same H H3) (hp : H p = none) (hl : H l = none) (f : FrD p l H3 H4) : SqL K H4 a xs := by
  rcases h with (h | ⟨o, h⟩) | h
  · exact .inl (.inl (f _ _ (e _ _ h) (ne_of_none h hp) (ne_of_none h hl)))
  · exact .inl (.inr ⟨o, f _ _ (e _ _ h) (ne_of_none h hp) (ne_of_none h hl)⟩)
  · exact .inr h
theorem WOb.mono {C o : Addr} {G G' H H' : Hp} {d : D} {ks : List D} (h : WOb K C G H o d ks) (g : Same G G') (e : Same H H') : WOb K C G' H' o d ks := by
  obtain ⟨dx, sv, rv, h1, h2, h3⟩ := h
  exact ⟨dx, sv, rv, e _ _ h1, h2.mono g _ _, h3.mono g _ _⟩
theorem wMake {C : Addr} {G H : Hp} {v0 v1 : V} {size : Int} {rows : List D} {Q : VK} {E : XK} (hi : InitOk size rows) (e : Same G H) (r0 : Rp K G v0 (.int size)) (r1 : Rp K G v1 (.tup rows))
    (k : ∀ (o : Addr) (G' H' : Hp), Gr G H G' H' → G' o = none → H o = none → WOb K C G' H' o (.int size) rows → Q (.ref o) H') (o dx : Addr) (no : H o = none) (ndx : H dx = none) (nxo : dx ≠ o) :
    spWinit K C (.ref o :: ([v0, v1] ++ [])) (upd (upd H dx (.own o)) o (.ins C dx [])) (fun v H2 => v = .non ∧ Q (.ref o) H2) E := by
  obtain ⟨env', m1, m2, m3, m4⟩ := hi o
  have ne : ∀ b u, H b = some u → b ≠ o ∧ b ≠ dx := fun b u q => ⟨ne_of_none q no, ne_of_none q ndx⟩
  have s2 : Same H (upd (upd H dx (.own o)) o (.ins C dx [])) := fun b u q => by rw [upd_ne (ne b u q).1, upd_ne (ne b u q).2]; exact q
  have go : G o = none := free_of e no
  refine ⟨o, dx, v0, v1, G, .int size, .tup rows, rows, env', rfl, e.trans s2, go, upd_same, r0, r1, m1, m2, m3, m4, fun sv rv G' H' g q1 q2 => ⟨rfl, ?_⟩⟩
  have gx : G' o = none := grNone g go upd_same
  refine k o G' _ ⟨fun b u q => ?_, g.g, fun b u q => ?_, fun b u q => ?_⟩ gx no ⟨dx, sv, rv, upd_same, q1, q2⟩
  · rw [upd_ne (ne b u q).1]; exact g.h _ _ (s2 _ _ q)
  · rw [upd_ne (fun z => by rw [z, gx] at q; cases q)]; exact g.gh _ _ q
  · rcases g.nw b u q with z | z
    · exact .inl z
    · exact .inr (s2.free z)
theorem eq_int (i : Int) : sEq (.int i) (.int i) = some (.bl true) := by
  show (some (decide (i = i))).map D.bl = _
  rw [decide_eq_true rfl]; rfl
theorem Bad.flat {H : Hp} : Bad K nv71 H .non ∧ Bad K nv71 H (.int 5) ∧ Bad K nv71 H (.bl true) := ⟨⟨_, .base .non, .inl (by decide +kernel)⟩, ⟨_, .base (.int 5), .inl (by decide +kernel)⟩, ⟨_, .base (.bl true), .inl (by decide +kernel)⟩⟩
theorem Bad.str {H : Hp} {x : Str} (h : inV (.str x) nv71 = false) : Bad K nv71 H (.str x) := ⟨_, .base (.str x), .inr ⟨x, rfl, by decide +kernel, h⟩⟩
def strs71 : List Str := ["walls", "five", "CROSS", "grids"]
theorem bad_strs : ∀ x ∈ strs71, inV (.str x) nv71 = false := by decide +kernel

/-! ### the readings -/
abbrev rAddI : R2 := rI0 fun i j => .int (i + j)
abbrev rMin2 : List V → Hp → VK → Prop := fun xs H Q => ∃ i j, xs = [V.int i, V.int j] ∧ Q (.int (if j < i then j else i)) H
abbrev rLenS (K : PySem.W.Frag) : List V → Hp → VK → Prop := fun xs H Q => ∃ p ys, xs = [V.ref p] ∧ (SqL K H p ys ∨ SqT K H p ys) ∧ Q (.int (ys.length : Nat)) H
def t1 (K : PySem.W.Frag) : TS := tAsg (tCall (spBegun K) [] E0 (tCons (tVar 0) tNil)) (gName 1)
def t2 (K : PySem.W.Frag) : TS := tAsg (tCall (spF K F_law_known) [] E0 tNil) (gName 2)
def t3 (K : PySem.W.Frag) (aK : Addr) : TS := tIfS (tTest (tOp rNe (tCB (rRepr K) (tCons (tCall (spNames aK) [] E0 tNil) tNil)) (tCB (rRepr K) (tCons (tE K (eCB cTup (aCons (eComp (wItems (eVar 2)) [3, 13] (gT 2 (gsCons (gV 3) (gsCons (gV 13) gsNil))) bYes (eVar 3)) aNil))) tNil)))) (tRet (tC (.bl false))) tNext
def t4a (K : PySem.W.Frag) (C CB : Addr) : TS := tFor (iList K (tLst (tCons (tCall (spKset K C nv71 CB rows71) [] E0 (tCons (tVar 3) tNil)) (tCons (tCallK (spKset K C nv71 CB rows71) (fun us ws => us ++ ws) E0 tNil (tCons (tVar 3) tNil)) tNil)))) (gName 6)
  (tIfS (tOr (tTest (tOp rNe (tCB (rRepr K) (tCons (tLst (tCons (tFld K (tVar 6) "size") (tCons (tFld K (tVar 6) "rows") tNil))) tNil)) (tCB (rRepr K) (tCons (tLst (tCons (tVar 4) (tCons (tVar 5) tNil))) tNil))))
    (tTest (tOp rNotB (tOp (rEqG (DIns C (REq K C))) (tVar 6) (tMake C (spWinit K C) [] E0 (tCons (tVar 4) (tCons (tVar 5) tNil)))) (tC (.bl true))))) (tRet (tC (.bl false))) tNext)
def t4b (K : PySem.W.Frag) : TS := tAsg (tCall (spF K F_law_counts) [] E0 (tCons (tVar 4) (tCons (tVar 5) tNil))) (gTup K 3 (gCons (gName 7) (gCons (gName 8) (gCons (gName 9) gNil))))
def t4c (K : PySem.W.Frag) : TS := tAsg (tTup (tCons (tVar 4) (tCons (tCB (rLenS K) (tCons (tVar 5) tNil)) (tCons (tCall (spF K F_law_rank) [] E0 (tCons (tE K (eComp (wItems (eVar 5)) [14] (gV 14) bYes (eSl (eVar 14) oNone (oSome (eVar 4))))) tNil))
  (tCons (tCall (spF K F_law_flats_many) [] E0 (tCons (tVar 4) (tCons (tVar 5) tNil))) (tCons (tVar 7) (tCons (tVar 8) tNil))))))) (gName 10)
def t4d (K : PySem.W.Frag) (CB : Addr) : TS := tIfS (tTest (tOp rNe (tCB (rRepr K) (tCons (tLst (tCons (tCall (spKfacts K nv71 CB facts71) [] E0 (tCons (tVar 3) tNil)) (tCons (tCallK (spKfacts K nv71 CB facts71) (fun us ws => us ++ ws) E0 tNil (tCons (tVar 3) tNil)) tNil))) tNil))
  (tCB (rRepr K) (tCons (tLst (tCons (tVar 10) (tCons (tVar 10) tNil))) tNil)))) (tRet (tC (.bl false))) tNext
def t4 (K : PySem.W.Frag) (C CB : Addr) : TS := tFor (iList K (tSl (rSlL K) (tCall (spShuf K) [] E0 (tCons (tVar 1) (tCons (tVar 2) tNil))) tNoPart (tPart (tOp rAddI (tC (.int 3)) (tCB rMin2 (tCons (tCB (rLenS K) (tCons (tVar 0) tNil)) (tCons (tC (.int 7)) tNil)))))))
  (gTup K 2 (gCons (gName 3) (gCons (gTup K 2 (gCons (gName 4) (gCons (gName 5) gNil))) gNil))) (tSeq (t4a K C CB) (tSeq (t4b K) (tSeq (t4c K) (t4d K CB))))
def SA71 (K : PySem.W.Frag) (C CB fS fF : Addr) : Addr → Option Sp := fun f => if f = fS then some (spKset K C nv71 CB rows71) else if f = fF then some (spKfacts K nv71 CB facts71) else none
def t5a (K : PySem.W.Frag) (C CB CS fS fF PT : Addr) : TS := tFor (iList K (tLst (tCons (tC .non) (tCons (tC (.int 5)) (tCons (tC (.str "")) (tCons (tC (.str "Cross")) (tCons (tC (.str "cross ")) (tCons (tC (.str "triangl")) (tCons (tTup (tCons (tC (.str "cross")) tNil)) (tCons (tLst (tCons (tC (.str "cross")) tNil)) (tCons (tC (.bl true)) (tCons tDNewK
  (tCons (tCall (spPick K) [] E0 (tCons (tVar 1) (tCons (tLst (tCons (tC (.str "walls")) (tCons (tC (.str "five")) (tCons (tC (.str "CROSS")) (tCons (tC (.str "grids")) tNil))))) tNil))) tNil))))))))))))) (gName 12)
  (tIfS (tNot (tB (tCB (rIsX K) (tCons (LamX.tLam [(PT, qLam)] (TTc K CS) fun E => tCallX 11 (SA71 K C CB fS fF) E (tCons (tVar 12) tNil)) (tCons (tC (.ref CB)) tNil))))) (tRet (tC (.bl false))) tNext)
def t5 (K : PySem.W.Frag) (C CB CS fS fF PT : Addr) : TS := tFor (iList K (tLst (tCons (tC (.ref fS)) (tCons (tC (.ref fF)) tNil)))) (gName 11) (t5a K C CB CS fS fF PT)
def t_law (K : PySem.W.Frag) (C CB CS aK fS fF PT : Addr) : TS := tSeq (t1 K) (tSeq (t2 K) (tSeq (t3 K aK) (tSeq (t4 K C CB) (tSeq (t5 K C CB CS fS fF PT) (tRet (tC (.bl true)))))))
/-! ### they answer True -/
theorem repr1 {H : Hp} {a : Addr} {p : PyData} {Q : VK} {σ : L2.St} (hD : Dp K H (.ref a) p) (h : rpP p = true) (q : Q (.str p.shown) H) : tNil σ H fun xs H2 => (fun vs H1 => rRepr K vs H1 Q) (V.ref a :: xs) H2 := repr_of hD h q
section
variable {C CB : Addr} {G H : Hp} {x : Str} {size : Int} {rows : List D} {w1 : V} {a0 a1 a2 o6 o7 o8 o9 o10 o11 o12 o13 o14 : Option V} {DD : Ends}
theorem p_make {σ : L2.St} {v0 v1 : V} {Q : VK} {E : XK} (hi : InitOk size rows) (e : Same G H) (r0 : Rp K G v0 (.int size)) (r1 : Rp K G v1 (.tup rows)) (h4 : σ[4]? = some (some v0)) (h5 : σ[5]? = some (some v1))
    (k : ∀ (o : Addr) (G' H' : Hp), Gr G H G' H' → G' o = none → H o = none → WOb K C G' H' o (.int size) rows → Q (.ref o) H') : tMake C (spWinit K C) [] E (tCons (tVar 4) (tCons (tVar 5) tNil)) σ H Q :=
  ⟨v0, h4, v1, h5, fun z dz nz ndz nxz => wMake (Q := Q) hi e r0 r1 k z dz nz ndz nxz⟩
theorem p4a (W : WTxt K C) (g : Good x size rows) (e : Same G H) (rw1 : Rp K G w1 (.tup rows))
    (k : ∀ (o6' : Option V) (G' H' : Hp), Same G G' → Same G' H' → Same H H' → DD.nx [a0, a1, a2, some (.str x), some (.int size), some w1, o6', o7, o8, o9, o10, o11, o12, o13, o14] H') :
    t4a K C CB DD [a0, a1, a2, some (.str x), some (.int size), some w1, o6, o7, o8, o9, o10, o11, o12, o13, o14] H := by
  refine ⟨.str x, rfl, .str x, rfl, .inr ⟨x, size, rows, G, rfl, g.inn, g.rt, g.ini, e, fun q1 G6 H6 g6 go1 no1 W1 => ?_⟩⟩
  refine ⟨.str x, rfl, .str x, rfl, .inr ⟨x, size, rows, G6, rfl, g.inn, g.rt, g.ini, g6.gh, fun q2 G7 H7 g7 go2 no2 W2 => ⟨by show 2 ≤ sizeLine; decide, fun M hM => ⟨M, rfl, ⟨_, SqL.of upd_same⟩, ?_⟩⟩⟩⟩
  have sM : Same H7 (upd H7 M (.lst [.ref q1, .ref q2])) := same_upd hM
  have W1' := (W1.mono g7.g g7.h).mono (Same.refl _) sM
  have W2' := W2.mono (Same.refl _) sM
  have sG : Same G G7 := g6.g.trans g7.g
  have sH : Same H (upd H7 M (.lst [.ref q1, .ref q2])) := (g6.h.trans g7.h).trans sM
  have gM : Same G7 (upd H7 M (.lst [.ref q1, .ref q2])) := g7.gh.trans sM
  generalize hHM : upd H7 M (.lst [.ref q1, .ref q2]) = HM at *
  have eM : HM M = some (.lst [.ref q1, .ref q2]) := by rw [← hHM, upd_same]
  refine for_list (K := K) (a := M) (xs := [V.ref q1, V.ref q2]) (fun i σ H' => ∃ (o6' : Option V) (G' : Hp), σ = [a0, a1, a2, some (.str x), some (.int size), some w1, o6', o7, o8, o9, o10, o11, o12, o13, o14] ∧ Same G7 G' ∧ Same G' H' ∧ Same HM H')
    ⟨o6, G7, rfl, Same.refl _, gM, Same.refl _⟩ (fun i σ H' _ ⟨_, _, _, _, _, z⟩ => SqL.of (z _ _ eM)) ?_ ?_
  · rintro i y σ H' hi ⟨o6', G', rfl, s1, s2, s3⟩
    obtain ⟨o, rfl, Wo⟩ : ∃ o, y = .ref o ∧ WOb K C G7 HM o (.int size) rows := by
      have hm := List.mem_of_getElem? hi
      simp only [List.mem_cons, List.not_mem_nil, or_false] at hm
      rcases hm with rfl | rfl
      · exact ⟨_, rfl, W1'⟩
      · exact ⟨_, rfl, W2'⟩
    obtain ⟨dx, sv, rv, h1, h2, h3⟩ := Wo.mono s1 s3
    obtain ⟨p, hp, hpp⟩ := rpD_of g.rep
    have rw' : Rp K G' w1 (.tup rows) := (rw1.mono sG _ _).mono s1 _ _
    refine ⟨_, rfl, o, C, dx, _, sv, rfl, h1, W.cl, W.nS, wfs_size, _, rfl, o, C, dx, _, rv, rfl, h1, W.cl, W.nR, wfs_rows, by show 2 ≤ sizeLine; decide, fun n1 hn1 => ?_⟩
    have t1 : Same G' (upd H' n1 (.lst [sv, rv])) := s2.trans (same_upd hn1)
    refine repr1 (Rp.dp _ _ p (.lst upd_same (.cons (h2.mono t1 _ _) (.cons (h3.mono t1 _ _) .nil)) : Rp K _ (.ref n1) (.lst [.int size, .tup rows])) hp) hpp ?_
    refine ⟨_, rfl, _, rfl, by show 2 ≤ sizeLine; decide, fun n2 hn2 => ?_⟩
    have t2 : Same G' (upd (upd H' n1 (.lst [sv, rv])) n2 (.lst [.int size, w1])) := t1.trans (same_upd hn2)
    refine repr1 (Rp.dp _ _ p (.lst upd_same (.cons (.int size) (.cons (rw'.mono t2 _ _) .nil)) : Rp K _ (.ref n2) (.lst [.int size, .tup rows])) hp) hpp ?_
    refine ⟨rfl, _, rfl, neStr ?_⟩
    have u2 : Same H' (upd (upd H' n1 (.lst [sv, rv])) n2 (.lst [.int size, w1])) := (same_upd hn1).trans (same_upd hn2)
    generalize upd (upd H' n1 (.lst [sv, rv])) n2 (.lst [.int size, w1]) = HN at *
    refine ⟨.ref o, rfl, p_make g.ini t2 (.int size) rw' rfl rfl fun z G9 H9 g9 gz nz Wz => ?_⟩
    have Wo9 : WOb K C G9 H9 o (.int size) rows := ⟨dx, sv, rv, g9.h _ _ (u2 _ _ h1), h2.mono g9.g _ _, h3.mono g9.g _ _⟩
    obtain ⟨dx9, sv9, rv9, j1, j2, j3⟩ := id Wo9
    obtain ⟨dz, svz, rvz, z1, z2, z3⟩ := id Wz
    refine ⟨⟨o, z, dx9, dz, _, _, rfl, rfl, j1, z1, G9, .int size, rows, g9.gh, Wo9, Wz, eq_int size, g.eq2⟩, fun HE xE => ⟨true, true, rfl, rfl, false, rfl, ?_⟩⟩
    exact ⟨some (.ref o), G9, rfl, s1.trans g9.g, g9.gh.trans xE, s3.trans (u2.trans (g9.h.trans xE))⟩
  · rintro σ H' ⟨o6', G', rfl, s1, s2, s3⟩
    exact k o6' G' H' (sG.trans s1) s2 (sH.trans s3)
theorem p4b {σ : L2.St} {many near chi : D} (e : Same G H) (h4 : σ[4]? = some (some (.int size))) (h5 : σ[5]? = some (some w1)) (rw1 : Rp K G w1 (.tup rows)) (hc : F_law_counts [.int size, .tup rows] = some (.tup [many, near, chi]))
    (k : ∀ (v7 v8 v9 : V) (G' H' : Hp), Gr G H G' H' → Rp K G' v7 many → Rp K G' v8 near → DD.nx (((σ.set 7 (some v7)).set 8 (some v8)).set 9 (some v9)) H') : t4b K DD σ H := by
  refine ⟨_, h4, _, h5, G, [.int size, .tup rows], _, e, .cons (.int size) (.cons rw1 .nil), hc, fun v G' H' g r => ?_⟩
  cases r with
  | @tup b xs es h1 h2 =>
    cases h2 with
    | @cons v7 _ _ _ q1 q2 =>
      cases q2 with
      | @cons v8 _ _ _ q3 q4 =>
        cases q4 with
        | @cons v9 _ _ _ q5 q6 =>
          cases q6
          exact ⟨b, _, rfl, same_sqt g.gh h1, rfl, v7, [v8, v9], rfl, v8, [v9], rfl, v9, [], rfl, rfl, k v7 v8 v9 G' H' g q1 q3⟩
theorem p4c {many near rank flats : D} {cut : List D} {v7 v8 : V} (e : Same G H) (rw1 : Rp K G w1 (.tup rows)) (r7 : Rp K G v7 many) (r8 : Rp K G v8 near)
    (hf : F_law_flats_many [.int size, .tup rows] = some flats) (hc : eComp (wItems (eVar 5)) [14] (gV 14) bYes (eSl (eVar 14) oNone (oSome (eVar 4))) (envR size rows) = some (.lst cut)) (hk : F_law_rank [.lst cut] = some rank)
    (k : ∀ (q : Addr) (G' H' : Hp), Gr G H G' H' → Rp K H' (.ref q) (.tup [.int size, .int (rows.length : Nat), rank, flats, many, near]) → DD.nx [a0, a1, a2, some (.str x), some (.int size), some w1, o6, some v7, some v8, o9, some (.ref q), o11, o12, o13, o14] H') :
    t4c K DD [a0, a1, a2, some (.str x), some (.int size), some w1, o6, some v7, some v8, o9, o10, o11, o12, o13, o14] H := by
  obtain ⟨b, xs, rfl, hb, hl⟩ : ∃ b xs, w1 = V.ref b ∧ SqT K G b xs ∧ xs.length = rows.length := by
    cases rw1 with
    | @tup b xs es h1 h2 => exact ⟨b, xs, rfl, h1, h2.length⟩
  refine ⟨_, rfl, .ref b, rfl, b, xs, rfl, .inr (same_sqt e hb), ?_⟩
  refine ⟨_, envR size rows, G, .lst cut, Slots.rl (.no (.no (.no (.no (.yes (.int size) (.yes rw1 (.no (.no (.no (.no (.no (.no (.no (.no (.no .nil))))))))))))))) e, hc, fun v1 G1 H1 g1 r1 => ?_⟩
  refine ⟨G1, [.lst cut], rank, g1.gh, .cons r1 .nil, hk, fun vr G2 H2 g2 r2 => ?_⟩
  have rw2 := (rw1.mono g1.g _ _).mono g2.g _ _
  refine ⟨_, rfl, _, rfl, G2, [.int size, .tup rows], flats, g2.gh, .cons (.int size) (.cons rw2 .nil), hf, fun vf G3 H3 g3 r3 => ?_⟩
  refine ⟨v7, rfl, v8, rfl, by show 6 ≤ sizeLine; decide, fun q hq => ?_⟩
  have g13 := (g1.trans g2).trans g3
  have g23 := g2.g.trans g3.g
  have g4 := Gr.own (o := .tup [.int size, .int (xs.length : Nat), vr, vf, v7, v8]) g3.gh hq
  have sG := g4.gh
  refine k q G3 _ (g13.trans g4) (.tup (SqT.of upd_same) (.cons (.int size) (.cons ?_ (.cons ((r2.mono g3.g _ _).mono sG _ _) (.cons (r3.mono sG _ _) (.cons ((r7.mono g13.g _ _).mono sG _ _) (.cons ((r8.mono g13.g _ _).mono sG _ _) .nil)))))))
  rw [hl]
  exact .int _
theorem p4d {σ : L2.St} {q : Addr} {d : D} (g : inV (.str x) nv71 = true) (hm : (x, d) ∈ facts71) (hr : rpD (.lst [d, d]) = true) (h3 : σ[3]? = some (some (.str x))) (h10 : σ[10]? = some (some (.ref q))) (rq : Rp K H (.ref q) d)
    (k : ∀ H', Same H H' → DD.nx σ H') : t4d K CB DD σ H := by
  obtain ⟨p, hp, hpp⟩ := rpD_of hr
  refine ⟨_, h3, .str x, rfl, .inr ⟨x, d, rfl, g, hm, fun u1 r1 => ?_⟩⟩
  refine ⟨_, h3, .str x, rfl, .inr ⟨x, d, rfl, g, hm, fun u2 r2 => ⟨by show 2 ≤ sizeLine; decide, fun n1 hn1 => ?_⟩⟩⟩
  have s1 := same_upd (o := .lst [u1, u2]) hn1
  refine repr1 (Rp.dp _ _ p (.lst upd_same (.cons (r1 _) (.cons (r2 _) .nil)) : Rp K _ (.ref n1) (.lst [d, d])) hp) hpp ?_
  refine ⟨_, h10, _, h10, by show 2 ≤ sizeLine; decide, fun n2 hn2 => ?_⟩
  have s2 := s1.trans (same_upd (o := .lst [.ref q, .ref q]) hn2)
  refine repr1 (Rp.dp _ _ p (.lst upd_same (.cons (rq.mono s2 _ _) (.cons (rq.mono s2 _ _) .nil)) : Rp K _ (.ref n2) (.lst [d, d])) hp) hpp ?_
  exact ⟨rfl, _, rfl, neStr (k _ s2)⟩
/-- one set -/
theorem p4body {σx : V} {ga : Addr} {v0 v1 : V} {d : Sh.D} (W : WTxt K C) (e : Same G H) (hd : d ∈ kn71) (rd : Rp K G σx d)
    (k : ∀ (n3 n4 n5 n6 n7 n8 n9 n10 : Option V) (G' H' : Hp), Same G G' → Same G' H' → Same H H' → DD.nx [a0, a1, a2, n3, n4, n5, n6, n7, n8, n9, n10, o11, o12, o13, o14] H') (n3 n4 n5 : Option V) :
    gTup K 2 (gCons (gName 3) (gCons (gTup K 2 (gCons (gName 4) (gCons (gName 5) gNil))) gNil)) σx [a0, a1, a2, n3, n4, n5, o6, o7, o8, o9, o10, o11, o12, o13, o14] H fun σ2 H2 => tSeq (t4a K C CB) (tSeq (t4b K) (tSeq (t4c K) (t4d K CB))) DD σ2 H2 := by
  obtain ⟨x, size, rows, rfl, g⟩ := all_good d hd
  obtain ⟨b, u0, u1, rfl, hq, r0, r1⟩ := tup2 rd
  cases r0
  obtain ⟨b2, w0, w1, rfl, hq2, r2, r3⟩ := tup2 r1
  cases r2
  obtain ⟨many, near, chi, rank, flats, cut, c1, c2, c3, c4, c5, c6⟩ := g.ex
  refine ⟨b, _, rfl, same_sqt e hq, rfl, _, _, rfl, _, _, rfl, b2, _, rfl, same_sqt e hq2, rfl, _, _, rfl, _, _, rfl, rfl, rfl, ?_⟩
  refine p4a W g e r3 fun o6' G1 H1 s1 s2 s3 => ?_
  have r31 := r3.mono s1 _ _
  refine p4b s2 (by rfl) (by rfl) r31 c1 fun v7 v8 v9 G2 H2 g2 r7 r8 => ?_
  refine p4c g2.gh (r31.mono g2.g _ _) r7 r8 c2 c3 c4 fun q G3 H3 g3 rq => ?_
  refine p4d g.inn c5 c6 (by rfl) (by rfl) rq fun H4 s4 => ?_
  exact k _ _ _ _ _ _ _ _ G3 H4 (s1.trans (g2.g.trans g3.g)) (g3.gh.trans s4) (s3.trans (g2.h.trans (g3.h.trans s4)))
end
/-- the sets, one behind another -/
theorem p4 {C CB a p l c : Addr} {G H H0 : Hp} {v : V} {ns : List Int} {DD : Ends} (W : WTxt K C) (D1 : Dr H p l c) (e : Same G H) (gp : G p = none) (gl : G l = none) (rv : Rp K G v (.lst kn71)) (hS : SqL K H0 a (ns.map V.int)) (s0 : Same H0 H) (np : H0 p = none) (nl : H0 l = none) (hns : ns.length ≤ 63)
    (k : ∀ (n3 n4 n5 n6 n7 n8 n9 n10 : Option V) (H' : Hp), Dr H' p l c → FrD p l H H' → DD.nx [some (.ref a), some (.ref p), some v, n3, n4, n5, n6, n7, n8, n9, n10, none, none, none, none] H') :
    t4 K C CB DD [some (.ref a), some (.ref p), some v, none, none, none, none, none, none, none, none, none, none, none, none] H := by
  refine ⟨_, rfl, v, rfl, p, l, c, v, G, .lst kn71, kn71, rfl, D1, e, gp, gl, rv, rfl, kn_ok, by decide, fun F ys ds' H4 pm hF rF nF D4 f4 => ?_⟩
  refine ⟨.ref a, rfl, a, _, rfl, .inl (sq_draw hS s0 np nl f4), _, _, rfl, _, _, rfl, rfl, _, rfl, ?_⟩
  refine ⟨F, ys, rfl, SqL.of hF, fun L hL => ⟨L, rfl, ⟨_, SqL.of upd_same⟩, ?_⟩⟩
  generalize hcut : cutV ys none _ = cs
  have sL : Same H4 (upd H4 L (.lst cs)) := same_upd hL
  have D5 := D4.same sL
  have f5 : FrD p l H (upd H4 L (.lst cs)) := f4.trans (FrD.of sL)
  have e5 : Same G (upd H4 L (.lst cs)) := (f4.same e gp gl).trans sL
  generalize hH5 : upd H4 L (.lst cs) = H5 at *
  have eL : H5 L = some (.lst cs) := by rw [← hH5, upd_same]
  refine for_list (K := K) (a := L) (xs := cs) (fun i σ H' => ∃ (n3 n4 n5 n6 n7 n8 n9 n10 : Option V) (G' : Hp), σ = [some (.ref a), some (.ref p), some v, n3, n4, n5, n6, n7, n8, n9, n10, none, none, none, none] ∧ Same G G' ∧ Same G' H' ∧ Same H5 H')
    ⟨none, none, none, none, none, none, none, none, G, rfl, Same.refl _, e5, Same.refl _⟩ (fun i σ H' _ ⟨_, _, _, _, _, _, _, _, _, _, _, _, z⟩ => SqL.of (z _ _ eL)) ?_ ?_
  · rintro i y σ H' hi ⟨n3, n4, n5, n6, n7, n8, n9, n10, G', rfl, s1, s2, s3⟩
    have hm : y ∈ ys := cutV_mem (by rw [hcut]; exact List.mem_of_getElem? hi)
    obtain ⟨d, hd, rd⟩ := rF.mem hm
    refine p4body (v0 := .non) (v1 := .non) (ga := 0) W s2 (pm.mem_iff.mp hd) (rd.mono s1 _ _) ?_ n3 n4 n5
    exact fun m3 m4 m5 m6 m7 m8 m9 m10 G2 H2 q1 q2 q3 => ⟨m3, m4, m5, m6, m7, m8, m9, m10, G2, rfl, s1.trans q1, q2, s3.trans q3⟩
  · rintro σ H' ⟨n3, n4, n5, n6, n7, n8, n9, n10, G', rfl, s1, s2, s3⟩
    exact k n3 n4 n5 n6 n7 n8 n9 n10 H' (D5.same s3) (f5.trans (FrD.of s3))
end
section
variable {K : PySem.W.Frag}
/-- the law's wrong values at a heap -/
theorem p5lam {C CB CS fS fF f PT : Addr} {H : Hp} {y : V} {σ : L2.St} {DD : Ends} (hf : f = fS ∨ f = fF) (hne : fS ≠ fF) (h11 : σ[11]? = some (some (.ref f))) (h12 : σ[12]? = some (some y)) (hT : LamX.Tabs [(PT, qLam)] H) (hb : ∀ H', LamX.ExtN H H' → Bad K nv71 H' y)
    (ex : ExcC K CB) (em : PySem.W.exmOne K (.ref CB) (.ref CS) = some true) (k : ∀ H', LamX.ExtN H H' → LamX.Tabs [(PT, qLam)] H' → DD.nx σ H') :
    (tIfS (tNot (tB (tCB (rIsX K) (tCons (LamX.tLam [(PT, qLam)] (TTc K CS) fun E => tCallX 11 (SA71 K C CB fS fF) E (tCons (tVar 12) tNil)) (tCons (tC (.ref CB)) tNil))))) (tRet (tC (.bl false))) tNext) DD σ H := by
  have fin : ∀ (H1 : Hp), LamX.ExtN H H1 → LamX.Tabs [(PT, qLam)] H1 → ∀ Q : VK, (∀ a, H1 a = none → Q (.ref a) (upd H1 a (ExC (.ref CB) none a))) → ExK K CS Q (.ref CB) none H1 := fun H1 _ _ Q hq => ⟨true, em, fun _ a ha => hq a ha, fun z => by cases z⟩
  refine ⟨hT, fun H1 e1 T1 => ?_⟩
  have ends : ∀ a, H1 a = none → (tCons (tC (.ref CB)) tNil) σ (upd H1 a (ExC (.ref CB) none a)) fun xs H2 => rIsX K (V.ref a :: xs) H2 fun x H3 => ∃ c, x = .bl c ∧ (fun c H1 => if (!c) = true then tRet (tC (.bl false)) DD σ H1 else tNext DD σ H1) c H3 := fun a ha =>
    ⟨a, CB, .ref CB, .ref CB, true, rfl, upd_same, ex, fun u r => r, by unfold PySem.W.kitOne; simp, true, rfl, k _ (e1.trans (ExtN_same (same_upd ha))) (T1.ext fun b o q => same_upd ha b o q)⟩
  rcases hf with rfl | rfl
  · exact ⟨f, spKset K C nv71 CB rows71, h11, if_pos rfl, y, h12, y, rfl, .inl ⟨hb H1 e1, fin H1 e1 T1 _ ends⟩⟩
  · exact ⟨f, spKfacts K nv71 CB facts71, h11, (if_neg (Ne.symm hne)).trans (if_pos rfl), y, h12, y, rfl, .inl ⟨hb H1 e1, fin H1 e1 T1 _ ends⟩⟩
theorem tabs_draw {p l PT : Addr} {H H' : Hp} (t : LamX.Tabs [(PT, qLam)] H) (f : FrD p l H H') (hp : ∃ kvs, H p = some (.dK kvs)) (hl : ∃ xs, H l = some (.lst xs)) : LamX.Tabs [(PT, qLam)] H' := fun q hq => by
  obtain ⟨ps, h1, h2, h3⟩ := t q hq
  have ne : ∀ {b : Addr} {o : HO}, H b = some o → (∀ kvs, o ≠ .dK kvs) → (∀ xs, o ≠ .lst xs) → H' b = some o := fun {b o} e n1 n2 => f b o e
    (fun z => by obtain ⟨kvs, hk⟩ := hp; rw [z, hk] at e; exact n1 kvs (Option.some.inj e).symm) (fun z => by obtain ⟨xs, hk⟩ := hl; rw [z, hk] at e; exact n2 xs (Option.some.inj e).symm)
  refine ⟨ps, ne h1 (fun _ z => by cases z) (fun _ z => by cases z), h2, fun pos cv hc => ?_⟩
  obtain ⟨c, e1, e2⟩ := h3 pos cv hc
  exact ⟨c, e1, ne e2 (fun _ z => by unfold LamX.CodeO at z; cases z) (fun _ z => by unfold LamX.CodeO at z; cases z)⟩
theorem Dr.dk {H : Hp} {p l c : Addr} (d : Dr H p l c) : (∃ kvs, H p = some (.dK kvs)) ∧ ∃ xs, H l = some (.lst xs) := by
  obtain ⟨r, t, ls, cs, h1, h2, _⟩ := d.ex
  exact ⟨⟨_, h1⟩, ⟨_, h2⟩⟩
theorem p5a {C CB CS fS fF f PT a p l c : Addr} {H : Hp} {v : V} {n3 n4 n5 n6 n7 n8 n9 n10 n12 : Option V} {DD : Ends} (hf : f = fS ∨ f = fF) (hne : fS ≠ fF) (D1 : Dr H p l c) (hT : LamX.Tabs [(PT, qLam)] H) (ex : ExcC K CB) (em : PySem.W.exmOne K (.ref CB) (.ref CS) = some true)
    (k : ∀ (n12 : Option V) (H' : Hp), Dr H' p l c → FrD p l H H' ∨ True → LamX.Tabs [(PT, qLam)] H' → (∀ b o, H b = some o → b ≠ p → b ≠ l → (∀ ps, o ≠ .tbl ps) → H' b = some o) → DD.nx [some (.ref a), some (.ref p), some v, n3, n4, n5, n6, n7, n8, n9, n10, some (.ref f), n12, none, none] H') :
    t5a K C CB CS fS fF PT DD [some (.ref a), some (.ref p), some v, n3, n4, n5, n6, n7, n8, n9, n10, some (.ref f), n12, none, none] H := by
  refine ⟨by show 1 ≤ sizeLine; decide, fun q1 hq1 => ⟨by show 1 ≤ sizeLine; decide, fun q2 hq2 q3 hq3 => ?_⟩⟩
  refine ⟨_, rfl, by show 4 ≤ sizeLine; decide, fun q4 hq4 => ?_⟩
  have s1 := same_upd (o := .tup [.str "cross"]) hq1
  have s2 := same_upd (o := .lst [.str "cross"]) hq2
  have s3 := same_upd (o := .dK []) hq3
  have s4 := same_upd (o := .lst [.str "walls", .str "five", .str "CROSS", .str "grids"]) hq4
  have e1 := s4 _ _ (s3 _ _ (s2 _ _ (upd_same (H := H) (a := q1) (o := .tup [.str "cross"]))))
  have e2 := s4 _ _ (s3 _ _ (upd_same (H := upd H q1 (.tup [.str "cross"])) (a := q2) (o := .lst [.str "cross"])))
  have e3 := s4 _ _ (upd_same (H := upd (upd H q1 (.tup [.str "cross"])) q2 (.lst [.str "cross"])) (a := q3) (o := .dK []))
  have sA : Same H _ := ((s1.trans s2).trans s3).trans s4
  have e4 := upd_same (H := upd (upd (upd H q1 (.tup [.str "cross"])) q2 (.lst [.str "cross"])) q3 (.dK [])) (a := q4) (o := .lst [.str "walls", .str "five", .str "CROSS", .str "grids"])
  generalize upd (upd (upd (upd H q1 (.tup [.str "cross"])) q2 (.lst [.str "cross"])) q3 (.dK [])) q4 (.lst [.str "walls", .str "five", .str "CROSS", .str "grids"]) = H4 at *
  have D4 := D1.same sA
  have T4 := hT.ext sA
  have nl : ∀ {q : Addr}, H q = none → q ≠ l := fun {q} e z => by
    obtain ⟨r, t, ls, cs, _, h1, _⟩ := D1.ex
    rw [z, h1] at e; cases e
  have np' : ∀ {q : Addr}, H q = none → q ≠ p := fun {q} e z => by
    obtain ⟨r, t, ls, cs, h1, _⟩ := D1.ex
    rw [z, h1] at e; cases e
  have h2 : H q2 = none := s1.free hq2
  have h3 : H q3 = none := (s1.trans s2).free hq3
  have h4 : H q4 = none := ((s1.trans s2).trans s3).free hq4
  refine ⟨p, l, c, .ref q4, upd (fun _ => none) q4 (.lst [.str "walls", .str "five", .str "CROSS", .str "grids"]), .lst (strs71.map Sh.D.str), strs71.map Sh.D.str, rfl, D4, fun b o q => ?_, by rw [upd_ne (Ne.symm (np' h4))], by rw [upd_ne (Ne.symm (nl h4))],
    .lst upd_same (.cons (.str _) (.cons (.str _) (.cons (.str _) (.cons (.str _) .nil)))), rfl, by decide, by decide, fun i d' vv H5 hi r5 D5 f5 => ?_⟩
  · by_cases hb : b = q4
    · rw [hb, upd_same] at q; cases q; rw [hb]; exact e4
    · rw [upd_ne hb] at q; cases q
  obtain ⟨x, rfl, hx⟩ : ∃ x, vv = .str x ∧ inV (.str x) nv71 = false := by
    have hm := List.mem_of_getElem? hi
    obtain ⟨x, hx1, rfl⟩ := List.mem_map.mp hm
    cases r5
    exact ⟨x, rfl, bad_strs x hx1⟩
  have T5 := tabs_draw T4 f5 D4.dk.1 D4.dk.2
  have a1 := f5 _ _ e1 (np' hq1) (nl hq1)
  have a2 := f5 _ _ e2 (np' h2) (nl h2)
  have a3 := f5 _ _ e3 (np' h3) (nl h3)
  refine ⟨by show 11 ≤ sizeLine; decide, fun B hB => ⟨B, rfl, ⟨_, SqL.of upd_same⟩, ?_⟩⟩
  have sB := same_upd (o := .lst [.non, .int 5, .str "", .str "Cross", .str "cross ", .str "triangl", .ref q1, .ref q2, .bl true, .ref q3, .str x]) hB
  have eB := upd_same (H := H5) (a := B) (o := .lst [.non, .int 5, .str "", .str "Cross", .str "cross ", .str "triangl", .ref q1, .ref q2, .bl true, .ref q3, .str x])
  have D6 := D5.same sB
  have T6 := T5.ext sB
  have b1 := sB _ _ a1
  have b2 := sB _ _ a2
  have b3 := sB _ _ a3
  have fA : FrD p l H _ := ((FrD.of (p := p) (l := l) sA).trans f5).trans (FrD.of sB)
  generalize upd H5 B (.lst [.non, .int 5, .str "", .str "Cross", .str "cross ", .str "triangl", .ref q1, .ref q2, .bl true, .ref q3, .str x]) = H6 at *
  refine for_list (K := K) (a := B) (xs := [.non, .int 5, .str "", .str "Cross", .str "cross ", .str "triangl", .ref q1, .ref q2, .bl true, .ref q3, .str x]) (fun i σ H' => ∃ n12, σ = [some (.ref a), some (.ref p), some v, n3, n4, n5, n6, n7, n8, n9, n10, some (.ref f), n12, none, none] ∧ LamX.ExtN H6 H' ∧ LamX.Tabs [(PT, qLam)] H')
    ⟨n12, rfl, LamX.ExtN.refl _, T6⟩ (fun i σ H' _ ⟨_, _, z, _⟩ => SqL.of (z _ _ eB (fun _ z => by cases z))) ?_ ?_
  · rintro i y σ H' hi ⟨n12', rfl, x1, t1⟩
    have hbad : ∀ H'', LamX.ExtN H' H'' → Bad K nv71 H'' y := fun H'' x2 => by
      have x3 := x1.trans x2
      have hm := List.mem_of_getElem? hi
      simp only [List.mem_cons, List.not_mem_nil, or_false] at hm
      rcases hm with rfl | rfl | rfl | rfl | rfl | rfl | rfl | rfl | rfl | rfl | rfl
      · exact Bad.flat.1
      · exact Bad.flat.2.1
      · exact Bad.str (by decide +kernel)
      · exact Bad.str (by decide +kernel)
      · exact Bad.str (by decide +kernel)
      · exact Bad.str (by decide +kernel)
      · exact ⟨_, .base (.tup (x3 _ _ b1 (fun _ z => by cases z))), .inl (by decide +kernel)⟩
      · exact ⟨_, .base (.lst (x3 _ _ b2 (fun _ z => by cases z))), .inl (by decide +kernel)⟩
      · exact Bad.flat.2.2
      · exact ⟨_, .base (.dK (x3 _ _ b3 (fun _ z => by cases z))), .inl (by decide +kernel)⟩
      · exact Bad.str hx
    refine p5lam hf hne (by rfl) (by rfl) t1 hbad ex em ?_
    exact fun H'' x2 t2 => ⟨_, rfl, x1.trans x2, t2⟩
  · rintro σ H' ⟨n12', rfl, x1, t1⟩
    exact k n12' H' (D6.ext x1) (.inr trivial) t1 fun b o q h1 h2 h3 => x1 _ _ (fA _ _ q h1 h2) h3
theorem p5 {C CB CS fS fF PT a p l c : Addr} {H : Hp} {v : V} {n3 n4 n5 n6 n7 n8 n9 n10 : Option V} {DD : Ends} (hne : fS ≠ fF) (D1 : Dr H p l c) (hT : LamX.Tabs [(PT, qLam)] H) (ex : ExcC K CB) (em : PySem.W.exmOne K (.ref CB) (.ref CS) = some true) (k : ∀ σ H', DD.nx σ H') :
    t5 K C CB CS fS fF PT DD [some (.ref a), some (.ref p), some v, n3, n4, n5, n6, n7, n8, n9, n10, none, none, none, none] H := by
  refine ⟨by show 2 ≤ sizeLine; decide, fun B hB => ⟨B, rfl, ⟨_, SqL.of upd_same⟩, ?_⟩⟩
  have sB := same_upd (o := .lst [.ref fS, .ref fF]) hB
  have eB := upd_same (H := H) (a := B) (o := .lst [.ref fS, .ref fF])
  have D2 := D1.same sB
  have T2 := hT.ext sB
  have nBp : B ≠ p := fun z => by rw [z] at hB; exact D1.atP hB
  have nBl : B ≠ l := fun z => by rw [z] at hB; exact D1.atL hB
  generalize upd H B (.lst [.ref fS, .ref fF]) = H2 at *
  refine for_list (K := K) (a := B) (xs := [V.ref fS, V.ref fF]) (fun i σ H' => ∃ n11 n12, σ = [some (.ref a), some (.ref p), some v, n3, n4, n5, n6, n7, n8, n9, n10, n11, n12, none, none] ∧ H' B = some (.lst [.ref fS, .ref fF]) ∧ Dr H' p l c ∧ LamX.Tabs [(PT, qLam)] H')
    ⟨none, none, rfl, eB, D2, T2⟩ (fun i σ H' _ ⟨_, _, _, z, _⟩ => SqL.of z) ?_ ?_
  · rintro i y σ H' hi ⟨n11, n12, rfl, hB', D', T'⟩
    obtain ⟨f, rfl, hf⟩ : ∃ f, y = .ref f ∧ (f = fS ∨ f = fF) := by
      have hm := List.mem_of_getElem? hi
      simp only [List.mem_cons, List.not_mem_nil, or_false] at hm
      rcases hm with rfl | rfl
      · exact ⟨_, rfl, .inl rfl⟩
      · exact ⟨_, rfl, .inr rfl⟩
    refine p5a hf hne D' T' ex em ?_
    exact fun n12' H'' D'' _ T'' fr => ⟨_, _, rfl, fr _ _ hB' nBp nBl (fun _ z => by cases z), D'', T''⟩
  · rintro σ H' ⟨n11, n12, rfl, hB', D', T'⟩
    exact k _ _
theorem pure_law {C CB CS aK fS fF PT : Addr} {mg : Str → Option Value} {vs : List V} {H : Hp} {Q : VK} {E : XK} (W : WTxt K C) (N : NTxt K mg nv71 aK CB) (hne : fS ≠ fF) (ex : ExcC K CB) (em : PySem.W.exmOne K (.ref CB) (.ref CS) = some true) (h : sp71 K PT vs H Q E) :
    t_law K C CB CS aK fS fF PT { nx := fun _ H' => Q .non H', rt := Q } (L2.start ["script", "draw", "known", "name", "size", "rows", "told", "many", "near", "chi_here", "due", "ask", "bad", "pair", "row"] vs) H := by
  obtain ⟨a, ns, rfl, hS, hlen, hT, k⟩ := h
  refine ⟨.ref a, rfl, a, ns, rfl, hS, hlen, fun p l c H1 s1 np nl D1 => ?_⟩
  refine ⟨fun _ => none, [], _, fun _ _ q => (by cases q), .nil, known_is, fun v G2 H2 g2 r2 => ?_⟩
  obtain ⟨⟨kvs, hk1⟩, ⟨xs1, hk2⟩⟩ := D1.dk
  have gp2 : G2 p = none := grNone g2 rfl hk1
  have gl2 : G2 l = none := grNone g2 rfl hk2
  have D2 := D1.same g2.h
  refine ⟨rfl, repr1 (.tup (N.sq H2) (dp_strs nm71)) names_is.2 ?_⟩
  refine ⟨_, [none, none, some (false, .lst kn71), none, none, none, none, none, none, none, none, none, none, none, none], G2, .tup (nm71.map Sh.D.str), Slots.rl (.no (.no (.yes r2 (.no (.no (.no (.no (.no (.no (.no (.no (.no (.no (.no (.no .nil))))))))))))))) g2.gh, by kernel_rfl, fun v3 G3 H3 g3 r3 => ?_⟩
  cases r3 with
  | @tup b xs es q1 q2 =>
    refine repr1 (p := .tuple (nm71.map PyData.str)) (Rp.dp _ _ _ (Rp.tup (same_sqt g3.gh q1) (q2.mono g3.gh _ _)) rfl) names_is.2 ?_
    refine ⟨rfl, _, rfl, neStr ?_⟩
    have e3 : Same G2 H3 := g3.g.trans g3.gh
    have D3 := D2.same g3.h
    refine p4 W D3 e3 gp2 gl2 (r2.mono (Same.refl _) _ _) hS ((s1.trans g2.h).trans g3.h) np nl hlen ?_
    intro n3 n4 n5 n6 n7 n8 n9 n10 H4 D4 f4
    have T1 : LamX.Tabs [(PT, qLam)] H3 := fun q hq => by
      rw [List.mem_singleton.mp hq]
      exact LamX.TabS.nil (g3.h _ _ (g2.h _ _ (s1 _ _ hT)))
    refine p5 hne D4 (tabs_draw T1 f4 D3.dk.1 D3.dk.2) ex em ?_
    exact fun σ H' => k H'
end
end Sh
end Part_K71p

section Part_K71f
set_option maxRecDepth 100000
set_option maxHeartbeats 2000000
/-! K71f: the law. -/
namespace Sh
open PySem L2
abbrev s_caught : Stmt := top 27
abbrev N71 : List Str := ["script", "draw", "known", "name", "size", "rows", "told", "many", "near", "chi_here", "due", "ask", "bad", "pair", "row"]
section
variable {P : Program} {w : World} {K : PySem.W.Frag} {mg : Str → Option Value} {base : Heap}
theorem sc_law : FnScope N71 ["script"] (defScope s_law) := ⟨rfl, rfl, rfl, by decide +kernel, rfl, by decide +kernel, by decide +kernel⟩
theorem sc_caught : FnScope ["work", "caught", "error"] ["work"] (defScope s_caught) := ⟨rfl, rfl, rfl, by decide +kernel, rfl, by decide +kernel, by decide +kernel⟩
/-- all that the law finds -/
structure All71 (P : Program) (w : World) (K : PySem.W.Frag) (mg : Str → Option Value) (base : Heap) (C CB CS aK fS fF fE fI fG fP fH fN fC : Addr) (fdS fdF fdE fdI fdG fdP fdH fdN fdC : FuncData) : Prop where
  T : Bt mg
  ne : fS ≠ fF
  ks : FnOk P w K mg base (L2.CX P w) 5 fS fdS ["name"] (spKset K C nv71 CB rows71)
  kf : FnOk P w K mg base (L2.CX P w) 2 fF fdF ["name"] (spKfacts K nv71 CB facts71)
  FS : L2.Fun K "known_set" "known_set" s_kset fS fdS
  FF : L2.Fun K "known_facts" "known_facts" s_kfacts fF fdF
  mS : mg "known_set" = some (.ref fS)
  mF : mg "known_facts" = some (.ref fF)
  eq : FnOk P w K mg base CX0 1 fE fdE ["self", "other"] (spEq (REq K C))
  FE : L2.Fun K "__eq__" "Walls.__eq__" s_eq fE fdE
  eE : PySem.W.findIn K (.ref C) "__eq__" = some (some (.ref fE))
  iE : PySem.W.isFn K (.ref fE) = true
  W : WTxt K C
  M : Mk K C fI
  mC : mg "Walls" = some (.ref C)
  ini : FnOk P w K mg base CX0 3 fI fdI ["self", "size", "rows"] (spWinit K C)
  FI : L2.Fun K "__init__" "Walls.__init__" s_init fI fdI
  bg : FnOk P w K mg base CX0 1 fG fdG ["script"] (spBegun K)
  FG : L2.Fun K "_law_begun" "_law_begun" s_law_begun fG fdG
  mG : mg "_law_begun" = some (.ref fG)
  pk : FnOk P w K mg base CX0 3 fP fdP ["draw", "some"] (spPick K)
  FP : L2.Fun K "_law_pick" "_law_pick" s_law_pick fP fdP
  mP : mg "_law_pick" = some (.ref fP)
  sh : FnOk P w K mg base CX0 3 fH fdH ["draw", "some"] (spShuf K)
  FH : L2.Fun K "_law_shuffled" "_law_shuffled" s_law_shuffled fH fdH
  mH : mg "_law_shuffled" = some (.ref fH)
  nm : FnOk P w K mg base CX0 1 fN fdN [] (spNames aK)
  FN : L2.Fun K "known_names" "known_names" s_names fN fdN
  mN : mg "known_names" = some (.ref fN)
  N : NTxt K mg nv71 aK CB
  kn : Cl P w K mg base 1 "_law_known" F_law_known
  co : Cl P w K mg base 4 "_law_counts" F_law_counts
  fl : Cl P w K mg base 4 "_law_flats_many" F_law_flats_many
  rk : Cl P w K mg base 3 "_law_rank" F_law_rank
  FC : L2.Fun K "_law_caught" "_law_caught" s_caught fC fdC
  mCt : mg "_law_caught" = some (.ref fC)
  mE : mg "WallError" = some (.ref CS)
  ex : ExcC K CB
  em : PySem.W.exmOne K (.ref CB) (.ref CS) = some true
theorem pe_lam71 {X : Cx} {CS fC cL PT : Addr} {fdC : FuncData} {SA : Addr → Option Sp} {p p1 p2 p3 lpos pos : Pos} (FC : L2.Fun X.K "_law_caught" "_law_caught" s_caught fC fdC) (mCt : X.mg "_law_caught" = some (.ref fC)) (mE : X.mg "WallError" = some (.ref CS)) (TB : LamX.TabB X.base X.mg cL PT)
    (hg : Gl X "_law_caught") (hcode : X.env.code = .ref cL) (hq : X.env.qual = qLaw) (hr : Room 7 X.A) (L : LamX.LamS X.env.scope scLam) (hN : X.N = N71)
    (hSA : ∀ f sp, SA f = some sp → ∃ (fd : FuncData) (ps : List Str), FnOk X.prog X.w X.K X.mg X.base (L2.CX X.prog X.w) 5 f fd ps sp ∧ PySem.W.keepIn X.K (.ref f) = true ∧ Binds X.K fd ps []) (hdef : defaultsOf prmLam X.env = ([], [])) :
    PE X (.Call (.Name "_law_caught" p) [.Lambda prmLam (.Call (.Name "ask" p1) [.Name "bad" p2] [] p3) scLam lpos] [] pos) (LamX.tLam [(PT, qLam)] (TTc X.K CS) fun E => tCallX 11 SA E (tCons (tVar 12) tNil)) := by
  have bC : Binds X.K fdC ["work"] [] := FC.binds fun _ _ _ _ _ _ us hl => match us, hl with | [_], _ => rfl
  obtain ⟨ocC, odC, kVC, docC, pmC, anC, cdvC, ctC, oslC, rfl, lkC, hcdC⟩ := FC.ex
  have eq : X.env.qual ++ "<lambda>" = qLam := by rw [hq]; rfl
  refine LamX.pe_lamcall (k := 5) hg mCt FC.kp lkC hcdC bC sc_caught rfl (Or.inl rfl)
    (caught_gives (S := sc_caught) (e := "WallError") (CS := CS) rfl mE (by decide) rfl rfl (by decide) (by decide) (by decide) (by decide) (fun _ _ => rfl) (fun _ _ => rfl) (fun _ _ => rfl)) TB hcode (by rw [eq]; exact List.mem_singleton.mpr rfl) (fun p hp _ => by rw [List.mem_singleton.mp hp, eq]) hr L hdef (fun _ _ _ _ _ => rfl)
    (fun A' outer s' H' E' f c' hr' => pe_callX (X := LamX.lamCx X A' outer s' H' E' scLam f c') hSA hr' (passes_call (takes_of rfl rfl rfl rfl) fun _ _ _ _ h => h) (by show X.N[11]? = _; rw [hN]; rfl) (Or.inr (Or.inr rfl)) (pa_cons (pe_var (i := 12) (by show X.N[12]? = _; rw [hN]; rfl) (Or.inr (Or.inr rfl)) (by decide) (by decide)) pa_nil))
theorem run71 {C CB CS aK fS fF fE fI fG fP fH fN fC fL cL PT : Addr} {fdS fdF fdE fdI fdG fdP fdH fdN fdC fdL : FuncData} (A : All71 P w K mg base C CB CS aK fS fF fE fI fG fP fH fN fC fdS fdF fdE fdI fdG fdP fdH fdN fdC)
    (FL : FunD K "law" "law" (defArgs s_law) (defBody s_law) (defScope s_law) [] [] fL fdL) (hc : fdL.code = .ref cL) (TB : LamX.TabB base mg cL PT) : Run P w K mg base CX0 fL (sp71 K PT) := by
  refine run_body (x := "script") (N := N71) FL sc_law (fun s u => ?_) (by decide) fun cdv s H v Q E hcd h => ?_
  · exact (FunD.bindsA (ps := ["script"]) FL fun _ _ _ _ _ _ us hl => match us, hl with | [_], _ => rfl) s [u] rfl
  obtain ⟨hcd, hcd2⟩ := hcd
  obtain rfl : cdv = .ref cL := hcd2.symm.trans hc
  obtain ⟨a, ns, e0, hS, hlen, hT, k⟩ := h
  obtain rfl : v = .ref a := by simpa using e0
  have hr : Room 9 (callerA.deeper (PyProof.Rows.envOfC "law" (defScope s_law) s.heap.objs.size fL (.ref cL))) := (⟨rfl, by decide, by decide⟩ : Room 10 callerA).deeper _
  have hgd : (callerA.deeper (PyProof.Rows.envOfC "law" (defScope s_law) s.heap.objs.size fL (.ref cL))).guards = some [] := rfl
  have bS : Binds K fdS ["name"] [] := A.FS.binds fun _ _ _ _ _ _ us hl => match us, hl with | [_], _ => rfl
  have bF : Binds K fdF ["name"] [] := A.FF.binds fun _ _ _ _ _ _ us hl => match us, hl with | [_], _ => rfl
  have kS : KBinds K fdS ["name"] ["name"] (fun us ws => us ++ ws) (fun us ws => us ++ ws) := kb_one A.FS (fun _ _ _ _ _ _ _ => rfl) (fun _ _ _ _ _ _ _ => rfl)
  have kF : KBinds K fdF ["name"] ["name"] (fun us ws => us ++ ws) (fun us ws => us ++ ws) := kb_one A.FF (fun _ _ _ _ _ _ _ => rfl) (fun _ _ _ _ _ _ _ => rfl)
  have bE : Binds K fdE ["self", "other"] [] := A.FE.binds fun _ _ _ _ _ _ us hl => match us, hl with | [_, _], _ => rfl
  have bI : Binds K fdI ["self", "size", "rows"] [] := A.FI.binds fun _ _ _ _ _ _ us hl => match us, hl with | [_, _, _], _ => rfl
  have bG : Binds K fdG ["script"] [] := A.FG.binds fun _ _ _ _ _ _ us hl => match us, hl with | [_], _ => rfl
  have bP : Binds K fdP ["draw", "some"] [] := A.FP.binds fun _ _ _ _ _ _ us hl => match us, hl with | [_, _], _ => rfl
  have bH : Binds K fdH ["draw", "some"] [] := A.FH.binds fun _ _ _ _ _ _ us hl => match us, hl with | [_, _], _ => rfl
  have bN : Binds K fdN [] [] := A.FN.binds fun _ _ _ _ _ _ us hl => match us, hl with | [], _ => rfl
  have bC : Binds K fdC ["work"] [] := A.FC.binds fun _ _ _ _ _ _ us hl => match us, hl with | [_], _ => rfl
  have hr1 : Room 1 (callerA.deeper (PyProof.Rows.envOfC "law" (defScope s_law) s.heap.objs.size fL (.ref cL))) := hr.mono (by decide)
  have hr3 : Room 3 (callerA.deeper (PyProof.Rows.envOfC "law" (defScope s_law) s.heap.objs.size fL (.ref cL))) := hr.mono (by decide)
  have hr5 : Room 5 (callerA.deeper (PyProof.Rows.envOfC "law" (defScope s_law) s.heap.objs.size fL (.ref cL))) := hr.mono (by decide)
  have hr2 : Room 2 (callerA.deeper (PyProof.Rows.envOfC "law" (defScope s_law) s.heap.objs.size fL (.ref cL))) := hr.mono (by decide)
  have hr4 : Room 4 (callerA.deeper (PyProof.Rows.envOfC "law" (defScope s_law) s.heap.objs.size fL (.ref cL))) := hr.mono (by decide)
  let SA := SA71 K C CB fS fF
  have hSA : ∀ f sp, SA f = some sp → ∃ (fd : FuncData) (ps : List Str), FnOk P w K mg base (L2.CX P w) 5 f fd ps sp ∧ PySem.W.keepIn K (.ref f) = true ∧ Binds K fd ps [] := fun f sp e => by
    by_cases h1 : f = fS
    · rw [show SA f = _ from if_pos h1] at e
      cases e
      rw [h1]
      exact ⟨fdS, _, A.ks, A.FS.kp, bS⟩
    · by_cases h2 : f = fF
      · rw [show SA f = some (spKfacts K nv71 CB facts71) from (if_neg h1).trans (if_pos h2)] at e
        cases e
        rw [h2]
        exact ⟨fdF, _, A.kf.mono (by decide), A.FF.kp, bF⟩
      · rw [show SA f = none from (if_neg h1).trans (if_neg h2)] at e
        cases e
  refine ⟨t_law K C CB CS aK fS fF PT, PSs.nox (pss_cons (ps_set (i := 1) sc_law.nd rfl (Or.inl rfl) (pe_call A.bg hr1 rfl A.mG A.FG.kp bG .nil pass0 (pa_cons (pv 0) pa_nil)))
    (pss_cons (ps_set (i := 2) sc_law.nd rfl (Or.inl rfl) (pe_cl0 A.kn hr1 (by decide) (by rw [known_is]; simp) rfl))
    (pss_cons (ps_if (pt_cmpR op_ne (pe_callB (call_repr hgd hr.units) rfl A.T.repr (by decide +kernel) (pa_cons (pe_call0 A.nm hr1 rfl A.mN A.FN.kp bN .nil pass0) pa_nil))
        (pe_callB (call_repr hgd hr.units) rfl A.T.repr (by decide +kernel) (pa_cons (ok_tuple A.T.tuple (ok_cons (ok_comp (src := wItems (eVar 2)) (tgt := gT 2 (gsCons (gV 3) (gsCons (gV 13) gsNil))) (cond := bYes) (el := eVar 3) (own := [("name", 3), ("pair", 13)]) rfl sc_law.nd (ok_wItems (ok_var 2)) (by kernel_rfl) (fun _ _ _ _ _ => ok_gT rfl (ok_gsCons (ok_gV 3 sc_law.nd) (ok_gsCons (ok_gV 13 sc_law.nd) ok_gsNil))) (fun _ _ _ _ _ => ok_tsNil) (fun _ _ _ _ _ => ok_var 3)) ok_nil)) pa_nil)) (nomark _)) (pss_one (ps_ret pe_bl)) pss_nil)
    (pss_cons (ps_for PassesOwn.never rfl (pi_list (pe_slice sl_list (pe_call A.sh hr3 rfl A.mH A.FH.kp bH .nil pass0 (pa_cons (pv 1) (pa_cons (pv 2) pa_nil))) po_none (po_some (pe_op op_add pe_int (pe_callB (call_min2 rfl) rfl A.T.min (by decide +kernel) (pa_cons (pe_callB call_len_seq rfl A.T.len PySem.boot_len (pa_cons (pv 0) pa_nil)) (pa_cons pe_int pa_nil)))))))
        (pg_tup rfl (pgs_cons (pg_name (i := 3) sc_law.nd rfl (by first | exact Or.inl rfl | exact Or.inr rfl)) (pgs_cons (pg_tup rfl (pgs_cons (pg_name (i := 4) sc_law.nd rfl (by first | exact Or.inl rfl | exact Or.inr rfl)) (pgs_cons (pg_name (i := 5) sc_law.nd rfl (by first | exact Or.inl rfl | exact Or.inr rfl)) pgs_nil))) pgs_nil)))
        (pss_cons (ps_for PassesOwn.never rfl (pi_list (pe_lst (pa_cons (pe_call A.ks hr5 rfl A.mS A.FS.kp bS .nil passL (pa_cons (pv 3) pa_nil)) (pa_cons (pe_callK0 A.ks hr5 rfl A.mS A.FS.kp kS passL (pk_cons (pv 3) pk_nil)) pa_nil)))) (pg_name (i := 6) sc_law.nd rfl (by first | exact Or.inl rfl | exact Or.inr rfl))
          (pss_one (ps_if (PW.pt (pw_or (pt_cmpR op_ne (pe_callB (call_repr hgd hr.units) rfl A.T.repr (by decide +kernel) (pa_cons (pe_lst (pa_cons (pe_fld (pv 6) rfl) (pa_cons (pe_fld (pv 6) rfl) pa_nil))) pa_nil)) (pe_callB (call_repr hgd hr.units) rfl A.T.repr (by decide +kernel) (pa_cons (pe_lst (pa_cons (pv 4) (pa_cons (pv 5) pa_nil))) pa_nil)) (nomark _))
              (pw_or1 (pt_cmpR op_notBl (pe_cmpR (op_eqG (rcG_ins A.eq A.eE A.iE bE pass0) hr1) (pv 6) (pe_make A.M A.ini hr4 rfl A.mC bI .nil pass0 (pa_cons (pv 4) (pa_cons (pv 5) pa_nil))) (nomark _)) pe_bl (nomark _)))))
            (pss_one (ps_ret pe_bl)) pss_nil)))
        (pss_cons (ps_asg (pe_cl A.co hr4 (by decide) rfl (pa_cons (pv 4) (pa_cons (pv 5) pa_nil))) (pg_tup rfl (pgs_cons (pg_name (i := 7) sc_law.nd rfl (by first | exact Or.inl rfl | exact Or.inr rfl)) (pgs_cons (pg_name (i := 8) sc_law.nd rfl (by first | exact Or.inl rfl | exact Or.inr rfl)) (pgs_cons (pg_name (i := 9) sc_law.nd rfl (by first | exact Or.inl rfl | exact Or.inr rfl)) pgs_nil)))))
        (pss_cons (ps_set (i := 10) sc_law.nd rfl (by first | exact Or.inl rfl | exact Or.inr rfl) (pe_tup (pa_cons (pv 4) (pa_cons (pe_callB call_len_seq rfl A.T.len PySem.boot_len (pa_cons (pv 5) pa_nil)) (pa_cons (pe_cl A.rk hr3 (by decide) rfl (pa_cons (ok_comp (src := wItems (eVar 5)) (tgt := gV 14) (cond := bYes) (el := eSl (eVar 14) oNone (oSome (eVar 4))) (own := [("row", 14)]) rfl sc_law.nd (ok_wItems (ok_var 5)) (by kernel_rfl) (fun _ _ _ _ _ => ok_gV 14 sc_law.nd) (fun _ _ _ _ _ => ok_tsNil) (fun _ _ _ _ _ => ok_sl (ok_var 14) ok_oN (ok_oS (ok_var 4)))) pa_nil))
            (pa_cons (pe_cl A.fl hr4 (by decide) rfl (pa_cons (pv 4) (pa_cons (pv 5) pa_nil))) (pa_cons (pv 7) (pa_cons (pv 8) pa_nil))))))))
        (pss_one (ps_if (pt_cmpR op_ne (pe_callB (call_repr hgd hr.units) rfl A.T.repr (by decide +kernel) (pa_cons (pe_lst (pa_cons (pe_call A.kf hr2 rfl A.mF A.FF.kp bF .nil passL (pa_cons (pv 3) pa_nil)) (pa_cons (pe_callK0 A.kf hr2 rfl A.mF A.FF.kp kF passL (pk_cons (pv 3) pk_nil)) pa_nil))) pa_nil)) (pe_callB (call_repr hgd hr.units) rfl A.T.repr (by decide +kernel) (pa_cons (pe_lst (pa_cons (pv 10) (pa_cons (pv 10) pa_nil))) pa_nil)) (nomark _))
            (pss_one (ps_ret pe_bl)) pss_nil))))))
    (pss_cons (ps_for PassesOwn.never rfl (pi_list (pe_lst (pa_cons (pe_glob rfl A.mS (show RelV (.ref fS) (.ref fS) from rfl)) (pa_cons (pe_glob rfl A.mF (show RelV (.ref fF) (.ref fF) from rfl)) pa_nil)))) (pg_name (i := 11) sc_law.nd rfl (by first | exact Or.inl rfl | exact Or.inr rfl))
        (pss_one (ps_for PassesOwn.never rfl (pi_list (pe_lst (pa_cons pe_non (pa_cons pe_int (pa_cons pe_str (pa_cons pe_str (pa_cons pe_str (pa_cons pe_str (pa_cons (pe_tup (pa_cons pe_str pa_nil)) (pa_cons (pe_lst (pa_cons pe_str pa_nil)) (pa_cons pe_bl (pa_cons pe_dnewK (pa_cons (pe_call A.pk hr3 rfl A.mP A.FP.kp bP .nil pass0 (pa_cons (pv 1) (pa_cons (pe_lst (pa_cons pe_str (pa_cons pe_str (pa_cons pe_str (pa_cons pe_str pa_nil))))) pa_nil))) pa_nil))))))))))))) (pg_name (i := 12) sc_law.nd rfl (by first | exact Or.inl rfl | exact Or.inr rfl))
          (pss_one (ps_if (pt_not (pt_val (pe_callB call_isX rfl A.T.isinstance (by decide +kernel) (pa_cons (pe_lam71 (SA := SA) A.FC A.mCt A.mE TB rfl rfl rfl (hr.mono (by decide)) (LamX.lamS_by (by kernel_rfl)) rfl hSA rfl) (pa_cons (pe_glob rfl A.N.mB (show RelV (.ref CB) (.ref CB) from rfl)) pa_nil))))) (pss_one (ps_ret pe_bl)) pss_nil)))))
    (pss_one (ps_ret pe_bl))))))), ?_⟩
  exact pure_law (E := E) A.W A.N A.ne A.ex A.em ⟨a, ns, rfl, hS, hlen, hT, k⟩
end
end Sh
end Part_K71f

section Part_K71h
set_option maxRecDepth 100000
set_option maxHeartbeats 0
/-! K71h: the head of k71. -/
namespace Sh
open PySem L2
def d_law_begun : He.DefD := ⟨("_law_begun", none), "_law_begun", "_law_begun", defArgs s_law_begun, defBody s_law_begun, defScope s_law_begun, [], []⟩
def d_law_mixed : He.DefD := ⟨("_law_mixed", none), "_law_mixed", "_law_mixed", defArgs s_law_mixed, defBody s_law_mixed, defScope s_law_mixed, [], []⟩
def d_law_take : He.DefD := ⟨("_law_take", none), "_law_take", "_law_take", defArgs s_law_take, defBody s_law_take, defScope s_law_take, [], []⟩
def d_law_pick : He.DefD := ⟨("_law_pick", none), "_law_pick", "_law_pick", defArgs s_law_pick, defBody s_law_pick, defScope s_law_pick, [], []⟩
def d_law_shuffled : He.DefD := ⟨("_law_shuffled", none), "_law_shuffled", "_law_shuffled", defArgs s_law_shuffled, defBody s_law_shuffled, defScope s_law_shuffled, [], []⟩
def d_law_caught : He.DefD := ⟨("_law_caught", none), "_law_caught", "_law_caught", defArgs s_caught, defBody s_caught, defScope s_caught, [], []⟩
def d_law_parted : He.DefD := ⟨("_law_parted", none), "_law_parted", "_law_parted", defArgs s_law_parted, defBody s_law_parted, defScope s_law_parted, [], []⟩
def d_law_lessened : He.DefD := ⟨("_law_lessened", none), "_law_lessened", "_law_lessened", defArgs s_law_lessened, defBody s_law_lessened, defScope s_law_lessened, [], []⟩
def d_law_rank : He.DefD := ⟨("_law_rank", none), "_law_rank", "_law_rank", defArgs s_law_rank, defBody s_law_rank, defScope s_law_rank, [], []⟩
def d_law_at : He.DefD := ⟨("_law_at", none), "_law_at", "_law_at", defArgs s_law_at, defBody s_law_at, defScope s_law_at, [], []⟩
def d_law_all_parts : He.DefD := ⟨("_law_all_parts", none), "_law_all_parts", "_law_all_parts", defArgs s_law_all_parts, defBody s_law_all_parts, defScope s_law_all_parts, [], []⟩
def d_law_counts : He.DefD := ⟨("_law_counts", none), "_law_counts", "_law_counts", defArgs s_law_counts, defBody s_law_counts, defScope s_law_counts, [], []⟩
def d_law_flats_many : He.DefD := ⟨("_law_flats_many", none), "_law_flats_many", "_law_flats_many", defArgs s_law_flats_many, defBody s_law_flats_many, defScope s_law_flats_many, [], []⟩
def d_law_known : He.DefD := ⟨("_law_known", none), "_law_known", "_law_known", defArgs s_law_known, defBody s_law_known, defScope s_law_known, [], []⟩
def dis_number : He.DefD := ⟨("is_number", none), "is_number", "is_number", defArgs sis_number, defBody sis_number, defScope sis_number, [], []⟩
def dis_between : He.DefD := ⟨("is_between", none), "is_between", "is_between", defArgs sis_between, defBody sis_between, defScope sis_between, [], []⟩
def dis_list : He.DefD := ⟨("is_list", none), "is_list", "is_list", defArgs sis_list, defBody sis_list, defScope sis_list, [], []⟩
def dis_tuple : He.DefD := ⟨("is_tuple", none), "is_tuple", "is_tuple", defArgs sis_tuple, defBody sis_tuple, defScope sis_tuple, [], []⟩
def dis_row : He.DefD := ⟨("is_row", none), "is_row", "is_row", defArgs sis_row, defBody sis_row, defScope sis_row, [], []⟩
def dis_same_row : He.DefD := ⟨("is_same_row", none), "is_same_row", "is_same_row", defArgs sis_same_row, defBody sis_same_row, defScope sis_same_row, [], []⟩
def dknown_names : He.DefD := ⟨("known_names", none), "known_names", "known_names", defArgs s_names, defBody s_names, defScope s_names, [], []⟩
def dneed_known : He.DefD := ⟨("need_known", none), "need_known", "need_known", defArgs s_need, defBody s_need, defScope s_need, [], []⟩
def dknown_set : He.DefD := ⟨("known_set", none), "known_set", "known_set", defArgs s_kset, defBody s_kset, defScope s_kset, [], []⟩
def dknown_facts : He.DefD := ⟨("known_facts", none), "known_facts", "known_facts", defArgs s_kfacts, defBody s_kfacts, defScope s_kfacts, [], []⟩
def dlaw : He.DefD := ⟨("law", none), "law", "law", defArgs s_law, defBody s_law, defScope s_law, [], []⟩
def d_init : He.DefD := ⟨("Walls", some "__init__"), "__init__", "Walls.__init__", defArgs s_init, defBody s_init, defScope s_init, [], []⟩
def d_eq : He.DefD := ⟨("Walls", some "__eq__"), "__eq__", "Walls.__eq__", defArgs s_eq, defBody s_eq, defScope s_eq, [], []⟩
def fn71 : List He.DefD := [d_law_begun, d_law_mixed, d_law_take, d_law_pick, d_law_shuffled, d_law_caught, d_law_parted, d_law_lessened, d_law_rank, d_law_at, d_law_all_parts, d_law_counts, d_law_flats_many, d_law_known, dis_number, dis_between, dis_list, dis_tuple, dis_row, dis_same_row, dknown_names, dneed_known, dknown_set, dknown_facts, dlaw, d_init, d_eq]
def fa71 : List He.Fa := [.glo "_law_begun", .glo "_law_mixed", .glo "_law_take", .glo "_law_pick", .glo "_law_shuffled", .glo "_law_caught", .glo "_law_parted", .glo "_law_lessened", .glo "_law_rank", .glo "_law_at", .glo "_law_all_parts", .glo "_law_counts", .glo "_law_flats_many", .glo "_law_known", .glo "is_number", .glo "is_between", .glo "is_list", .glo "is_tuple", .glo "is_row", .glo "is_same_row", .glo "known_names", .glo "need_known", .glo "known_set", .glo "known_facts", .glo "law", .glo "Walls", .glo "BadName", .glo "WallError", .glo "KNOWN", .glo "ROWS", .glo "FACTS", .free "len", .free "abs", .free "int", .free "list", .free "tuple", .free "all", .free "any", .free "sum", .free "max", .free "min", .free "range", .free "enumerate", .free "zip", .free "isinstance", .free "bool", .free "str", .free "repr", .free "sorted", .cls "Walls", .noat "Walls" "size", .noat "Walls" "rows", .mkr "Walls", .meth "Walls" "__eq__", .exc "BadName", .exm "BadName" "WallError" true]
def ts71 : List He.Tab := [(fun K => He.ga K "ROWS", nm71), (fun K => He.ga K "FACTS", nm71)]
def tf71 : List He.Defn := [("law", none)]
def ex71 (K : PySem.W.Frag) : Bool := ktB K (He.ga K "ROWS") rows71 && (ktB K (He.ga K "FACTS") facts71 && (kdOk K (.tup (nm71.map D.str)) (.ref (He.ga K "KNOWN")) && (excCB K (He.ga K "BadName") && (inCB K (He.ga K "Walls") && decide (He.ga K "known_set" ≠ He.ga K "known_facts")))))
abbrev R71 : PySem.W.OpenRow := PySem.W.OpenLaw.row PySem.Challenge.rw_wallscut_k71_whole_known_sets
abbrev hk71 : PySem.W.Hook := He.hookX 5 fa71 fn71 ts71 tf71 ex71
def ob71 (s : PySem.W.SharedT) : He.AlX := He.obsX 5 fa71 fn71 ts71 tf71 ex71 (HandSHeadRun.getT s)
theorem ob71_eq (s : PySem.W.SharedT) : ob71 s = hk71.obs s.abs := He.obsX_eq (HandSHeadRun.getT_eq s)
def nms71 : List Str := ["WallError", "BadName", "BadWalls", "is_number", "is_between", "is_list", "is_tuple", "is_row", "is_same_row", "Walls", "KNOWN", "ROWS", "FACTS", "known_names", "need_known", "known_set", "known_facts", "_law_begun", "_law_mixed", "_law_take", "_law_pick", "_law_shuffled", "_law_caught", "_law_parted", "_law_lessened", "_law_rank", "_law_at", "_law_all_parts", "_law_counts", "_law_flats_many", "_law_known"]
theorem run_head71 (w : World) : HandSHeadRun.RunEq R71 (PySem.W.view R71.prog [36]) hk71 ob71 3500 nms71 w := by
  refine PySem.W.byRow2 "special-get-raises" (P := fun w => HandSHeadRun.RunEq R71 (PySem.W.view R71.prog [36]) hk71 ob71 3500 nms71 w) (fun w os => ?_) (fun w os => ?_) w
  · kernel_rfl
  · kernel_rfl
end Sh
end Part_K71h

section Part_K71i
set_option maxRecDepth 100000
set_option maxHeartbeats 4000000
/-! K71i: k71 holds. -/
namespace Sh
open PySem L2
section
variable {K : PySem.W.Frag} {mg : Str → Option Value} {h : Heap} {w : World}
theorem fa_in {f : He.Fa} (i : Nat) (e : fa71[i]? = some f := by rfl) : f ∈ fa71 := List.mem_of_getElem? e
theorem fn_in {f : He.DefD} (i : Nat) (e : fn71[i]? = some f := by rfl) : f ∈ fn71 := List.mem_of_getElem? e
theorem g__law_begun (X : K.In h) (G : h.Ns mainGlobals mg) (c : He.SaysD fa71 fn71 K) : mg "_law_begun" = some (.ref (He.ga K "_law_begun")) := He.glo_ok X G (c.facts (f := .glo "_law_begun") (fa_in 0))
theorem g__law_mixed (X : K.In h) (G : h.Ns mainGlobals mg) (c : He.SaysD fa71 fn71 K) : mg "_law_mixed" = some (.ref (He.ga K "_law_mixed")) := He.glo_ok X G (c.facts (f := .glo "_law_mixed") (fa_in 1))
theorem g__law_take (X : K.In h) (G : h.Ns mainGlobals mg) (c : He.SaysD fa71 fn71 K) : mg "_law_take" = some (.ref (He.ga K "_law_take")) := He.glo_ok X G (c.facts (f := .glo "_law_take") (fa_in 2))
theorem g__law_pick (X : K.In h) (G : h.Ns mainGlobals mg) (c : He.SaysD fa71 fn71 K) : mg "_law_pick" = some (.ref (He.ga K "_law_pick")) := He.glo_ok X G (c.facts (f := .glo "_law_pick") (fa_in 3))
theorem g__law_shuffled (X : K.In h) (G : h.Ns mainGlobals mg) (c : He.SaysD fa71 fn71 K) : mg "_law_shuffled" = some (.ref (He.ga K "_law_shuffled")) := He.glo_ok X G (c.facts (f := .glo "_law_shuffled") (fa_in 4))
theorem g__law_caught (X : K.In h) (G : h.Ns mainGlobals mg) (c : He.SaysD fa71 fn71 K) : mg "_law_caught" = some (.ref (He.ga K "_law_caught")) := He.glo_ok X G (c.facts (f := .glo "_law_caught") (fa_in 5))
theorem g__law_parted (X : K.In h) (G : h.Ns mainGlobals mg) (c : He.SaysD fa71 fn71 K) : mg "_law_parted" = some (.ref (He.ga K "_law_parted")) := He.glo_ok X G (c.facts (f := .glo "_law_parted") (fa_in 6))
theorem g__law_lessened (X : K.In h) (G : h.Ns mainGlobals mg) (c : He.SaysD fa71 fn71 K) : mg "_law_lessened" = some (.ref (He.ga K "_law_lessened")) := He.glo_ok X G (c.facts (f := .glo "_law_lessened") (fa_in 7))
theorem g__law_rank (X : K.In h) (G : h.Ns mainGlobals mg) (c : He.SaysD fa71 fn71 K) : mg "_law_rank" = some (.ref (He.ga K "_law_rank")) := He.glo_ok X G (c.facts (f := .glo "_law_rank") (fa_in 8))
theorem g__law_at (X : K.In h) (G : h.Ns mainGlobals mg) (c : He.SaysD fa71 fn71 K) : mg "_law_at" = some (.ref (He.ga K "_law_at")) := He.glo_ok X G (c.facts (f := .glo "_law_at") (fa_in 9))
theorem g__law_all_parts (X : K.In h) (G : h.Ns mainGlobals mg) (c : He.SaysD fa71 fn71 K) : mg "_law_all_parts" = some (.ref (He.ga K "_law_all_parts")) := He.glo_ok X G (c.facts (f := .glo "_law_all_parts") (fa_in 10))
theorem g__law_counts (X : K.In h) (G : h.Ns mainGlobals mg) (c : He.SaysD fa71 fn71 K) : mg "_law_counts" = some (.ref (He.ga K "_law_counts")) := He.glo_ok X G (c.facts (f := .glo "_law_counts") (fa_in 11))
theorem g__law_flats_many (X : K.In h) (G : h.Ns mainGlobals mg) (c : He.SaysD fa71 fn71 K) : mg "_law_flats_many" = some (.ref (He.ga K "_law_flats_many")) := He.glo_ok X G (c.facts (f := .glo "_law_flats_many") (fa_in 12))
theorem g__law_known (X : K.In h) (G : h.Ns mainGlobals mg) (c : He.SaysD fa71 fn71 K) : mg "_law_known" = some (.ref (He.ga K "_law_known")) := He.glo_ok X G (c.facts (f := .glo "_law_known") (fa_in 13))
theorem g_is_number (X : K.In h) (G : h.Ns mainGlobals mg) (c : He.SaysD fa71 fn71 K) : mg "is_number" = some (.ref (He.ga K "is_number")) := He.glo_ok X G (c.facts (f := .glo "is_number") (fa_in 14))
theorem g_is_between (X : K.In h) (G : h.Ns mainGlobals mg) (c : He.SaysD fa71 fn71 K) : mg "is_between" = some (.ref (He.ga K "is_between")) := He.glo_ok X G (c.facts (f := .glo "is_between") (fa_in 15))
theorem g_is_list (X : K.In h) (G : h.Ns mainGlobals mg) (c : He.SaysD fa71 fn71 K) : mg "is_list" = some (.ref (He.ga K "is_list")) := He.glo_ok X G (c.facts (f := .glo "is_list") (fa_in 16))
theorem g_is_tuple (X : K.In h) (G : h.Ns mainGlobals mg) (c : He.SaysD fa71 fn71 K) : mg "is_tuple" = some (.ref (He.ga K "is_tuple")) := He.glo_ok X G (c.facts (f := .glo "is_tuple") (fa_in 17))
theorem g_is_row (X : K.In h) (G : h.Ns mainGlobals mg) (c : He.SaysD fa71 fn71 K) : mg "is_row" = some (.ref (He.ga K "is_row")) := He.glo_ok X G (c.facts (f := .glo "is_row") (fa_in 18))
theorem g_is_same_row (X : K.In h) (G : h.Ns mainGlobals mg) (c : He.SaysD fa71 fn71 K) : mg "is_same_row" = some (.ref (He.ga K "is_same_row")) := He.glo_ok X G (c.facts (f := .glo "is_same_row") (fa_in 19))
theorem g_known_names (X : K.In h) (G : h.Ns mainGlobals mg) (c : He.SaysD fa71 fn71 K) : mg "known_names" = some (.ref (He.ga K "known_names")) := He.glo_ok X G (c.facts (f := .glo "known_names") (fa_in 20))
theorem g_need_known (X : K.In h) (G : h.Ns mainGlobals mg) (c : He.SaysD fa71 fn71 K) : mg "need_known" = some (.ref (He.ga K "need_known")) := He.glo_ok X G (c.facts (f := .glo "need_known") (fa_in 21))
theorem g_known_set (X : K.In h) (G : h.Ns mainGlobals mg) (c : He.SaysD fa71 fn71 K) : mg "known_set" = some (.ref (He.ga K "known_set")) := He.glo_ok X G (c.facts (f := .glo "known_set") (fa_in 22))
theorem g_known_facts (X : K.In h) (G : h.Ns mainGlobals mg) (c : He.SaysD fa71 fn71 K) : mg "known_facts" = some (.ref (He.ga K "known_facts")) := He.glo_ok X G (c.facts (f := .glo "known_facts") (fa_in 23))
theorem g_law (X : K.In h) (G : h.Ns mainGlobals mg) (c : He.SaysD fa71 fn71 K) : mg "law" = some (.ref (He.ga K "law")) := He.glo_ok X G (c.facts (f := .glo "law") (fa_in 24))
theorem g_Walls (X : K.In h) (G : h.Ns mainGlobals mg) (c : He.SaysD fa71 fn71 K) : mg "Walls" = some (.ref (He.ga K "Walls")) := He.glo_ok X G (c.facts (f := .glo "Walls") (fa_in 25))
theorem g_BadName (X : K.In h) (G : h.Ns mainGlobals mg) (c : He.SaysD fa71 fn71 K) : mg "BadName" = some (.ref (He.ga K "BadName")) := He.glo_ok X G (c.facts (f := .glo "BadName") (fa_in 26))
theorem g_WallError (X : K.In h) (G : h.Ns mainGlobals mg) (c : He.SaysD fa71 fn71 K) : mg "WallError" = some (.ref (He.ga K "WallError")) := He.glo_ok X G (c.facts (f := .glo "WallError") (fa_in 27))
theorem g_KNOWN (X : K.In h) (G : h.Ns mainGlobals mg) (c : He.SaysD fa71 fn71 K) : mg "KNOWN" = some (.ref (He.ga K "KNOWN")) := He.glo_ok X G (c.facts (f := .glo "KNOWN") (fa_in 28))
theorem g_ROWS (X : K.In h) (G : h.Ns mainGlobals mg) (c : He.SaysD fa71 fn71 K) : mg "ROWS" = some (.ref (He.ga K "ROWS")) := He.glo_ok X G (c.facts (f := .glo "ROWS") (fa_in 29))
theorem g_FACTS (X : K.In h) (G : h.Ns mainGlobals mg) (c : He.SaysD fa71 fn71 K) : mg "FACTS" = some (.ref (He.ga K "FACTS")) := He.glo_ok X G (c.facts (f := .glo "FACTS") (fa_in 30))
theorem bt71 (X : K.In h) (G : h.Ns mainGlobals mg) (c : He.SaysD fa71 fn71 K) : Bt mg := ⟨He.free_ok X G (c.facts (f := .free "len") (fa_in 31)), He.free_ok X G (c.facts (f := .free "abs") (fa_in 32)), He.free_ok X G (c.facts (f := .free "int") (fa_in 33)), He.free_ok X G (c.facts (f := .free "list") (fa_in 34)), He.free_ok X G (c.facts (f := .free "tuple") (fa_in 35)), He.free_ok X G (c.facts (f := .free "all") (fa_in 36)), He.free_ok X G (c.facts (f := .free "any") (fa_in 37)), He.free_ok X G (c.facts (f := .free "sum") (fa_in 38)), He.free_ok X G (c.facts (f := .free "max") (fa_in 39)), He.free_ok X G (c.facts (f := .free "min") (fa_in 40)), He.free_ok X G (c.facts (f := .free "range") (fa_in 41)), He.free_ok X G (c.facts (f := .free "enumerate") (fa_in 42)), He.free_ok X G (c.facts (f := .free "zip") (fa_in 43)), He.free_ok X G (c.facts (f := .free "isinstance") (fa_in 44)), He.free_ok X G (c.facts (f := .free "bool") (fa_in 45)), He.free_ok X G (c.facts (f := .free "str") (fa_in 46)), He.free_ok X G (c.facts (f := .free "repr") (fa_in 47)), He.free_ok X G (c.facts (f := .free "sorted") (fa_in 48))⟩
theorem f__law_begun (c : He.SaysD fa71 fn71 K) : ∃ fd, L2.Fun K "_law_begun" "_law_begun" s_law_begun (He.ga K "_law_begun") fd := by
  obtain ⟨fd, F⟩ := c.defs (d := d_law_begun) (fn_in 0)
  exact ⟨fd, fun_of F⟩
theorem f__law_mixed (c : He.SaysD fa71 fn71 K) : ∃ fd, L2.Fun K "_law_mixed" "_law_mixed" s_law_mixed (He.ga K "_law_mixed") fd := by
  obtain ⟨fd, F⟩ := c.defs (d := d_law_mixed) (fn_in 1)
  exact ⟨fd, fun_of F⟩
theorem f__law_take (c : He.SaysD fa71 fn71 K) : ∃ fd, L2.Fun K "_law_take" "_law_take" s_law_take (He.ga K "_law_take") fd := by
  obtain ⟨fd, F⟩ := c.defs (d := d_law_take) (fn_in 2)
  exact ⟨fd, fun_of F⟩
theorem f__law_pick (c : He.SaysD fa71 fn71 K) : ∃ fd, L2.Fun K "_law_pick" "_law_pick" s_law_pick (He.ga K "_law_pick") fd := by
  obtain ⟨fd, F⟩ := c.defs (d := d_law_pick) (fn_in 3)
  exact ⟨fd, fun_of F⟩
theorem f__law_shuffled (c : He.SaysD fa71 fn71 K) : ∃ fd, L2.Fun K "_law_shuffled" "_law_shuffled" s_law_shuffled (He.ga K "_law_shuffled") fd := by
  obtain ⟨fd, F⟩ := c.defs (d := d_law_shuffled) (fn_in 4)
  exact ⟨fd, fun_of F⟩
theorem f__law_caught (c : He.SaysD fa71 fn71 K) : ∃ fd, L2.Fun K "_law_caught" "_law_caught" s_caught (He.ga K "_law_caught") fd := by
  obtain ⟨fd, F⟩ := c.defs (d := d_law_caught) (fn_in 5)
  exact ⟨fd, fun_of F⟩
theorem f__law_parted (c : He.SaysD fa71 fn71 K) : ∃ fd, L2.Fun K "_law_parted" "_law_parted" s_law_parted (He.ga K "_law_parted") fd := by
  obtain ⟨fd, F⟩ := c.defs (d := d_law_parted) (fn_in 6)
  exact ⟨fd, fun_of F⟩
theorem f__law_lessened (c : He.SaysD fa71 fn71 K) : ∃ fd, L2.Fun K "_law_lessened" "_law_lessened" s_law_lessened (He.ga K "_law_lessened") fd := by
  obtain ⟨fd, F⟩ := c.defs (d := d_law_lessened) (fn_in 7)
  exact ⟨fd, fun_of F⟩
theorem f__law_rank (c : He.SaysD fa71 fn71 K) : ∃ fd, L2.Fun K "_law_rank" "_law_rank" s_law_rank (He.ga K "_law_rank") fd := by
  obtain ⟨fd, F⟩ := c.defs (d := d_law_rank) (fn_in 8)
  exact ⟨fd, fun_of F⟩
theorem f__law_at (c : He.SaysD fa71 fn71 K) : ∃ fd, L2.Fun K "_law_at" "_law_at" s_law_at (He.ga K "_law_at") fd := by
  obtain ⟨fd, F⟩ := c.defs (d := d_law_at) (fn_in 9)
  exact ⟨fd, fun_of F⟩
theorem f__law_all_parts (c : He.SaysD fa71 fn71 K) : ∃ fd, L2.Fun K "_law_all_parts" "_law_all_parts" s_law_all_parts (He.ga K "_law_all_parts") fd := by
  obtain ⟨fd, F⟩ := c.defs (d := d_law_all_parts) (fn_in 10)
  exact ⟨fd, fun_of F⟩
theorem f__law_counts (c : He.SaysD fa71 fn71 K) : ∃ fd, L2.Fun K "_law_counts" "_law_counts" s_law_counts (He.ga K "_law_counts") fd := by
  obtain ⟨fd, F⟩ := c.defs (d := d_law_counts) (fn_in 11)
  exact ⟨fd, fun_of F⟩
theorem f__law_flats_many (c : He.SaysD fa71 fn71 K) : ∃ fd, L2.Fun K "_law_flats_many" "_law_flats_many" s_law_flats_many (He.ga K "_law_flats_many") fd := by
  obtain ⟨fd, F⟩ := c.defs (d := d_law_flats_many) (fn_in 12)
  exact ⟨fd, fun_of F⟩
theorem f__law_known (c : He.SaysD fa71 fn71 K) : ∃ fd, L2.Fun K "_law_known" "_law_known" s_law_known (He.ga K "_law_known") fd := by
  obtain ⟨fd, F⟩ := c.defs (d := d_law_known) (fn_in 13)
  exact ⟨fd, fun_of F⟩
theorem f_is_number (c : He.SaysD fa71 fn71 K) : ∃ fd, L2.Fun K "is_number" "is_number" sis_number (He.ga K "is_number") fd := by
  obtain ⟨fd, F⟩ := c.defs (d := dis_number) (fn_in 14)
  exact ⟨fd, fun_of F⟩
theorem f_is_between (c : He.SaysD fa71 fn71 K) : ∃ fd, L2.Fun K "is_between" "is_between" sis_between (He.ga K "is_between") fd := by
  obtain ⟨fd, F⟩ := c.defs (d := dis_between) (fn_in 15)
  exact ⟨fd, fun_of F⟩
theorem f_is_list (c : He.SaysD fa71 fn71 K) : ∃ fd, L2.Fun K "is_list" "is_list" sis_list (He.ga K "is_list") fd := by
  obtain ⟨fd, F⟩ := c.defs (d := dis_list) (fn_in 16)
  exact ⟨fd, fun_of F⟩
theorem f_is_tuple (c : He.SaysD fa71 fn71 K) : ∃ fd, L2.Fun K "is_tuple" "is_tuple" sis_tuple (He.ga K "is_tuple") fd := by
  obtain ⟨fd, F⟩ := c.defs (d := dis_tuple) (fn_in 17)
  exact ⟨fd, fun_of F⟩
theorem f_is_row (c : He.SaysD fa71 fn71 K) : ∃ fd, L2.Fun K "is_row" "is_row" sis_row (He.ga K "is_row") fd := by
  obtain ⟨fd, F⟩ := c.defs (d := dis_row) (fn_in 18)
  exact ⟨fd, fun_of F⟩
theorem f_is_same_row (c : He.SaysD fa71 fn71 K) : ∃ fd, L2.Fun K "is_same_row" "is_same_row" sis_same_row (He.ga K "is_same_row") fd := by
  obtain ⟨fd, F⟩ := c.defs (d := dis_same_row) (fn_in 19)
  exact ⟨fd, fun_of F⟩
theorem f_known_names (c : He.SaysD fa71 fn71 K) : ∃ fd, L2.Fun K "known_names" "known_names" s_names (He.ga K "known_names") fd := by
  obtain ⟨fd, F⟩ := c.defs (d := dknown_names) (fn_in 20)
  exact ⟨fd, fun_of F⟩
theorem f_need_known (c : He.SaysD fa71 fn71 K) : ∃ fd, L2.Fun K "need_known" "need_known" s_need (He.ga K "need_known") fd := by
  obtain ⟨fd, F⟩ := c.defs (d := dneed_known) (fn_in 21)
  exact ⟨fd, fun_of F⟩
theorem f_known_set (c : He.SaysD fa71 fn71 K) : ∃ fd, L2.Fun K "known_set" "known_set" s_kset (He.ga K "known_set") fd := by
  obtain ⟨fd, F⟩ := c.defs (d := dknown_set) (fn_in 22)
  exact ⟨fd, fun_of F⟩
theorem f_known_facts (c : He.SaysD fa71 fn71 K) : ∃ fd, L2.Fun K "known_facts" "known_facts" s_kfacts (He.ga K "known_facts") fd := by
  obtain ⟨fd, F⟩ := c.defs (d := dknown_facts) (fn_in 23)
  exact ⟨fd, fun_of F⟩
theorem f_init (c : He.SaysD fa71 fn71 K) : ∃ fd, L2.Fun K "__init__" "Walls.__init__" s_init (He.ma K (He.ga K "Walls") "__init__") fd := by
  obtain ⟨fd, F⟩ := c.defs (d := d_init) (fn_in 25)
  exact ⟨fd, fun_of F⟩
theorem f_eq (c : He.SaysD fa71 fn71 K) : ∃ fd, L2.Fun K "__eq__" "Walls.__eq__" s_eq (He.ma K (He.ga K "Walls") "__eq__") fd := by
  obtain ⟨fd, F⟩ := c.defs (d := d_eq) (fn_in 26)
  exact ⟨fd, fun_of F⟩
theorem law71 {P : Program} (X : K.In h) (G : h.Ns mainGlobals mg) (c : He.SaysX fa71 fn71 ts71 tf71 ex71 w h K) {fa : Addr} (hfa : mg "law" = some (.ref fa)) :
    ∃ (cs : List (Addr × Addr)) (sp : Sp), (∀ p ∈ cs, h.get? p.2 = some { cls := .none, data := .fields #[] }) ∧ (∀ p ∈ cs, K.lookup p.2 = none) ∧ (∀ p ∈ cs, PySem.W.CodeHd h p.1 p.2) ∧
    (∀ (H : Hp) (a : Addr) (ns : List Int), ns.length ≤ 63 → (∀ z ∈ ns, Builtin.Int.intBits z ≤ 1048576) → (∀ p ∈ cs, H p.2 = some (.tbl #[])) → SqL K H a (ns.map V.int) → sp [.ref a] H (fun v _ => v = .bl true) fun _ _ _ => False) ∧
    ∀ base : Heap, K.In base → base.Ns mainGlobals mg → (∀ p ∈ cs, LamX.TabB base mg p.1 p.2) → Run P w K mg base CX0 fa sp := by
  have cd := c.t.d
  have T := bt71 X G cd
  obtain rfl : fa = He.ga K "law" := by
    have e := hfa.symm.trans (g_law X G cd)
    cases e; rfl
  obtain ⟨x1, x⟩ := Bool.and_eq_true_iff.mp (show ex71 K = true from c.more)
  obtain ⟨x2, x⟩ := Bool.and_eq_true_iff.mp x
  obtain ⟨x3, x⟩ := Bool.and_eq_true_iff.mp x
  obtain ⟨x4, x⟩ := Bool.and_eq_true_iff.mp x
  obtain ⟨x5, x6⟩ := Bool.and_eq_true_iff.mp x
  obtain ⟨i1, x5⟩ := Bool.and_eq_true_iff.mp x5
  obtain ⟨i2, x5⟩ := Bool.and_eq_true_iff.mp x5
  obtain ⟨i3, i4⟩ := Bool.and_eq_true_iff.mp x5
  have IC : InC K (He.ga K "Walls") := ⟨of_decide_eq_true i1, of_decide_eq_true i2, of_decide_eq_true i3, of_decide_eq_true i4⟩
  obtain ⟨es1, n1, KR⟩ := c.t.tab 0
  obtain ⟨es2, n2, KF⟩ := c.t.tab 1
  have tR : Tab71 K w (He.ga K "ROWS") rows71 := fun q hq => ktB_ok x1 KR hq
  have tF : Tab71 K w (He.ga K "FACTS") facts71 := fun q hq => ktB_ok x2 KF hq
  have W : WTxt K (He.ga K "Walls") := ⟨He.cls_ok (cd.facts (f := .cls "Walls") (fa_in 49)), He.noat_ok (cd.facts (f := .noat "Walls" "size") (fa_in 50)), He.noat_ok (cd.facts (f := .noat "Walls" "rows") (fa_in 51))⟩
  have M := He.mkr_ok (cd.facts (f := .mkr "Walls") (fa_in 52))
  have ME := He.meth_ok (cd.facts (f := .meth "Walls" "__eq__") (fa_in 53))
  obtain ⟨y1, y2, y3, y4⟩ := He.exc_ok (cd.facts (f := .exc "BadName") (fa_in 54))
  have em := He.exm_ok (cd.facts (f := .exm "BadName" "WallError" true) (fa_in 55))
  have N : NTxt K mg nv71 (He.ga K "KNOWN") (He.ga K "BadName") := by
    refine ⟨g_KNOWN X G cd, fun H => ?_, by decide +kernel, g_BadName X G cd, y1, y2, y3, y4⟩
    obtain ⟨v, r, q⟩ := kdOk_ok _ _ x3
    cases hv : q H with
    | @tup a xs es h1 h2 =>
      obtain rfl : He.ga K "KNOWN" = a := by
        have r' : Value.ref (He.ga K "KNOWN") = Value.ref a := r
        exact Value.ref.inj r'
      have ex : xs = nv71 := (flats_are (ds := nm71.map D.str) h2 (by kernel_rfl)).1
      rw [← ex]; exact h1
  obtain ⟨fd_law_begun, F_law_begun'⟩ := f__law_begun cd
  obtain ⟨fd_law_mixed, F_law_mixed'⟩ := f__law_mixed cd
  obtain ⟨fd_law_take, F_law_take'⟩ := f__law_take cd
  obtain ⟨fd_law_pick, F_law_pick'⟩ := f__law_pick cd
  obtain ⟨fd_law_shuffled, F_law_shuffled'⟩ := f__law_shuffled cd
  obtain ⟨fd_law_caught, F_law_caught'⟩ := f__law_caught cd
  obtain ⟨fd_law_parted, F_law_parted'⟩ := f__law_parted cd
  obtain ⟨fd_law_lessened, F_law_lessened'⟩ := f__law_lessened cd
  obtain ⟨fd_law_rank, F_law_rank'⟩ := f__law_rank cd
  obtain ⟨fd_law_at, F_law_at'⟩ := f__law_at cd
  obtain ⟨fd_law_all_parts, F_law_all_parts'⟩ := f__law_all_parts cd
  obtain ⟨fd_law_counts, F_law_counts'⟩ := f__law_counts cd
  obtain ⟨fd_law_flats_many, F_law_flats_many'⟩ := f__law_flats_many cd
  obtain ⟨fd_law_known, F_law_known'⟩ := f__law_known cd
  obtain ⟨fdis_number, Fis_number'⟩ := f_is_number cd
  obtain ⟨fdis_between, Fis_between'⟩ := f_is_between cd
  obtain ⟨fdis_list, Fis_list'⟩ := f_is_list cd
  obtain ⟨fdis_tuple, Fis_tuple'⟩ := f_is_tuple cd
  obtain ⟨fdis_row, Fis_row'⟩ := f_is_row cd
  obtain ⟨fdis_same_row, Fis_same_row'⟩ := f_is_same_row cd
  obtain ⟨fdknown_names, Fknown_names'⟩ := f_known_names cd
  obtain ⟨fdneed_known, Fneed_known'⟩ := f_need_known cd
  obtain ⟨fdknown_set, Fknown_set'⟩ := f_known_set cd
  obtain ⟨fdknown_facts, Fknown_facts'⟩ := f_known_facts cd
  obtain ⟨fdI, FI⟩ := f_init cd
  obtain ⟨fdE, FE⟩ := f_eq cd
  obtain ⟨fdL, FL⟩ := cd.defs (d := dlaw) (fn_in 24)
  refine ⟨[He.cT K ("law", none)], sp71 K (He.cT K ("law", none)).2, fun p hp => ?_, fun p hp => ?_, fun p hp => ?_, fun H a ns hl _ hT hS => ⟨a, ns, rfl, hS, hl, hT _ (List.mem_singleton.mpr rfl), fun _ => rfl⟩, fun base Kb Gb TB => ?_⟩
  · exact c.empty ("law", none) (by simp [tf71]) |> fun z => by rw [List.mem_singleton.mp hp]; exact z
  · rw [List.mem_singleton.mp hp]; exact c.out ("law", none) (by simp [tf71])
  · rw [List.mem_singleton.mp hp]
    exact PySem.W.codeHd_of_K X (c.hd ("law", none) (by simp [tf71]))
  have C_law_parted : Cl P w K mg base 1 "_law_parted" F_law_parted := cl_law_parted F_law_parted' (g__law_parted X G cd) T 
  have C_law_lessened : Cl P w K mg base 2 "_law_lessened" F_law_lessened := cl_law_lessened F_law_lessened' (g__law_lessened X G cd) T C_law_parted
  have C_law_rank : Cl P w K mg base 3 "_law_rank" F_law_rank := cl_law_rank F_law_rank' (g__law_rank X G cd) T C_law_lessened
  have C_law_at : Cl P w K mg base 1 "_law_at" F_law_at := cl_law_at F_law_at' (g__law_at X G cd) T 
  have C_law_all_parts : Cl P w K mg base 1 "_law_all_parts" F_law_all_parts := cl_law_all_parts F_law_all_parts' (g__law_all_parts X G cd) T 
  have C_law_counts : Cl P w K mg base 4 "_law_counts" F_law_counts := cl_law_counts F_law_counts' (g__law_counts X G cd) T C_law_all_parts C_law_rank C_law_at
  have C_law_flats_many : Cl P w K mg base 4 "_law_flats_many" F_law_flats_many := cl_law_flats_many F_law_flats_many' (g__law_flats_many X G cd) T C_law_all_parts C_law_rank C_law_at
  have C_law_known : Cl P w K mg base 1 "_law_known" F_law_known := cl_law_known F_law_known' (g__law_known X G cd) T 
  have Cis_number : Cl P w K mg base 1 "is_number" Fis_number := clis_number Fis_number' (g_is_number X G cd) T 
  have Cis_between : Cl P w K mg base 2 "is_between" Fis_between := clis_between Fis_between' (g_is_between X G cd) T Cis_number
  have Cis_list : Cl P w K mg base 1 "is_list" Fis_list := clis_list Fis_list' (g_is_list X G cd) T 
  have Cis_tuple : Cl P w K mg base 1 "is_tuple" Fis_tuple := clis_tuple Fis_tuple' (g_is_tuple X G cd) T 
  have Cis_row : Cl P w K mg base 2 "is_row" Fis_row := clis_row Fis_row' (g_is_row X G cd) T Cis_number Cis_tuple
  have Cis_same_row : Cl P w K mg base 1 "is_same_row" Fis_same_row := clis_same_row Fis_same_row' (g_is_same_row X G cd) T 
  have Dw : Dws K mg (He.ga K "_law_mixed") (He.ga K "_law_take") fd_law_mixed fd_law_take := ⟨F_law_mixed', g__law_mixed X G cd, F_law_take', g__law_take X G cd⟩
  obtain ⟨oc, od, dV, kV, doc, pm, an, cdv, ct, osl, e1, lk, hcd, _, _⟩ := FL.ex
  obtain ⟨cL, hcL⟩ := He.codeIn_ref hcd
  have hc : fdL.code = .ref cL := by rw [e1]; exact hcL
  have ec : (He.cT K ("law", none)).1 = cL := He.codeOf_eq (p := ("law", none)) lk hc
  have A : All71 P w K mg base (He.ga K "Walls") (He.ga K "BadName") (He.ga K "WallError") (He.ga K "KNOWN") (He.ga K "known_set") (He.ga K "known_facts") (He.ma K (He.ga K "Walls") "__eq__") (He.ma K (He.ga K "Walls") "__init__") (He.ga K "_law_begun") (He.ga K "_law_pick") (He.ga K "_law_shuffled") (He.ga K "known_names") (He.ga K "_law_caught")
      fdknown_set fdknown_facts fdE fdI fd_law_begun fd_law_pick fd_law_shuffled fdknown_names fd_law_caught :=
    { T := T, ne := of_decide_eq_true x6, ks := ok_kset Fknown_set' T N Fneed_known' (g_need_known X G cd) (g_ROWS X G cd) tR M (g_Walls X G cd) FI W Cis_between Cis_list Cis_row Cis_same_row,
      kf := ok_kfacts Fknown_facts' T N Fneed_known' (g_need_known X G cd) (g_FACTS X G cd) tF, FS := Fknown_set', FF := Fknown_facts', mS := g_known_set X G cd, mF := g_known_facts X G cd,
      eq := ok_eqW FE T W (g_Walls X G cd) IC, FE := FE, eE := ME.at_, iE := ME.fn, W := W, M := M, mC := g_Walls X G cd, ini := ok_init FI T W Cis_between Cis_list Cis_row Cis_same_row, FI := FI,
      bg := ok_begun F_law_begun' T, FG := F_law_begun', mG := g__law_begun X G cd, pk := ok_pick F_law_pick' T Dw, FP := F_law_pick', mP := g__law_pick X G cd, sh := ok_shuf F_law_shuffled' T Dw, FH := F_law_shuffled', mH := g__law_shuffled X G cd,
      nm := ok_names Fknown_names' N, FN := Fknown_names', mN := g_known_names X G cd, N := N, kn := C_law_known, co := C_law_counts, fl := C_law_flats_many, rk := C_law_rank, FC := F_law_caught', mCt := g__law_caught X G cd, mE := g_WallError X G cd, ex := excCB_ok x4, em := em }
  exact run71 A FL hc (by rw [← ec]; exact TB _ (List.mem_singleton.mpr rfl))
end
end Sh
open PySem PySem.W PySem.Calls PyProof.Rows
theorem PySem.Challenge.cw_wallscut_k71_whole_known_sets_holds : PySem.Challenge.rw_wallscut_k71_whole_known_sets.Holds := by
  w_on; o_law
  refine HandSHeadRun.head_any (r := OpenLaw.row PySem.Challenge.rw_wallscut_k71_whole_known_sets) (q := view (OpenLaw.row PySem.Challenge.rw_wallscut_k71_whole_known_sets).prog [36]) (H := Sh.hk71) (ob := Sh.ob71) (M := 3500) (loose := Sh.nms71) (d := HandSHeadRun.topDef (OpenLaw.row PySem.Challenge.rw_wallscut_k71_whole_known_sets).prog 36) (kwd := []) Sh.ob71_eq
    (by kernel_rfl) (fun s => by kernel_rfl) Sh.run_head71 (by kernel_rfl) (by kernel_rfl) (by kernel_rfl) (by rfl) (by first | assumption | decide +kernel) (by decide +kernel) ⟨rfl, rfl, rfl, rfl, rfl, by decide +kernel⟩ ?hw ?hc
  case hw => w_witness2
  case hc =>
    refine Sh.walk_G (l := PySem.Challenge.rw_wallscut_k71_whole_known_sets) (n := 63) (CX := fun _ => L2.CX0) rfl (by decide) (by kernel_rfl) ?F (fun _ _ _ _ _ z => z)
    intro w mg fa h Y G hmg0
    obtain ⟨K, KX, c⟩ := Y
    have hmg : mg ("law" : PySem.Str) = some (.ref fa) := by
      have e : (HandSHeadRun.topDef (OpenLaw.row PySem.Challenge.rw_wallscut_k71_whole_known_sets).prog 36).name = ("law" : PySem.Str) := by kernel_rfl
      rw [← e]
      exact hmg0
    exact ⟨K, KX, Sh.law71 (P := (PySem.Challenge.rw_wallscut_k71_whole_known_sets).prog) KX G c hmg⟩
#print axioms PySem.Challenge.cw_wallscut_k71_whole_known_sets_holds
end Part_K71i
