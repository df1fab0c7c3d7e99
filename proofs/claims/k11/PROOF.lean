import PyProof.Rows.All
import Wide.All
import OpenK.AllK
import Wide.FinOn
import HandS.ForMost
import HandS.Zip
import HandS.TupAny
import HandS.Star
import HandS.Deep
import HandS.TupLen
import HandS.Exc
import HandS.Lambda
import HandS.Style
import KE.GoesEnum
import HandS.IsInst
import PyProof.ReprRoads
import HandS.HeadWalk
import HandS.Defaults
import HandS.ExcIs
import HandS.ExcField
import HandS.ExcOwn
import HandS.CallLocal
import HandS.Wide
import KE.KStateDown
import HandS.Head0
import HandS.Head1
import HandS.Head2
import HandS.HeadEnd
import HandS.HeadHook4
import HandS.Words
import HandS.WordsExc
import HandS.ExcInit
import KE.KExcSuper
import HandS.OwnEq
import KE.KExcIs
import HandS.MakeKw
import HandS.TupMul
import HandS.Gcd
import PySem.Challenge.RW_wallscut_k11_whole_points_and_signs
import HandS.Head3
import PyProof.Rows.ReprOcc
import KE.KNestM
set_option Elab.async false
set_option linter.all false
section Part_ShA
set_option maxRecDepth 100000
set_option maxHeartbeats 2000000
/-! ShA: plain Python over data trees. D: data; Rp: a value stands for data in a heap; Gr: how heaps grow; the judgements OkE (expression), OkT (test), OkA (arguments), OkI (what is walked), OkG (targets), OkS (statements). -/
namespace Sh
open PySem L2

/-- data, without a heap -/
inductive D where
  | non | bl (b : Bool) | int (i : Int) | str (x : Str)
  | tup (ds : List D) | lst (ds : List D)
  | dct (kvs : List (List Int × D))
  | raw (v : V)
  | rng (lo hi : Int)
  | ins (C : Addr) (ns : List Str) (ds : List D)
  | exc (C : Addr) (ds : List D)
  | emp

/-- at a: an exception, kept as a value -/
def ExC (cls : Value) (d : Option Addr) (a : Addr) : HO := .ext fun h => ∃ (oe : Obj) (vs : Array Value), h.get? a = some oe ∧ Zc cls d oe ∧ oe.data = .fields vs
mutual
inductive Rp (K : PySem.W.Frag) (H : Hp) : V → D → Prop where
  | non : Rp K H .non .non
  | bl (b : Bool) : Rp K H (.bl b) (.bl b)
  | int (i : Int) : Rp K H (.int i) (.int i)
  | str (x : Str) : Rp K H (.str x) (.str x)
  | raw (v : V) : Rp K H v (.raw v)
  | rng {a : Addr} (lo hi : Int) : H a = some (.rng lo hi) → Rp K H (.ref a) (.rng lo hi)
  | tup {a : Addr} {xs : List V} {ds : List D} : SqT K H a xs → Rps K H xs ds → Rp K H (.ref a) (.tup ds)
  | lst {a : Addr} {xs : List V} {ds : List D} : H a = some (.lst xs) → Rps K H xs ds → Rp K H (.ref a) (.lst ds)
  | ins {a C dx : Addr} {fs : List (Str × V)} {ns : List Str} {xs : List V} {ds : List D} : H a = some (.ins C dx fs) → fs = ns.zip xs → ns.length = xs.length → Rps K H xs ds → Rp K H (.ref a) (.ins C ns ds)
  | exc0 {a C : Addr} : H a = some (ExC (.ref C) none a) → Rp K H (.ref a) (.exc C [])
  | exc1 {a C dx : Addr} {v : V} {xs : List V} {ds : List D} : H a = some (ExC (.ref C) (some dx) a) → H dx = some (.xd [("part", v)]) → xs = [v] → Rps K H xs ds → Rp K H (.ref a) (.exc C ds)
  | emp {a : Addr} : H a = some (.dK []) → Rp K H (.ref a) .emp
inductive Rps (K : PySem.W.Frag) (H : Hp) : List V → List D → Prop where
  | nil : Rps K H [] []
  | cons {v : V} {vs : List V} {d : D} {ds : List D} : Rp K H v d → Rps K H vs ds → Rps K H (v :: vs) (d :: ds)
end

section
variable {K : PySem.W.Frag} {G G' H H' : Hp}
theorem same_sqt (e : Same G G') {a : Addr} {xs : List V} (h : SqT K G a xs) : SqT K G' a xs := by
  rcases h with (h | ⟨o, h⟩) | h
  · exact .inl (.inl (e _ _ h))
  · exact .inl (.inr ⟨o, e _ _ h⟩)
  · exact .inr h
mutual
theorem Rp.mono (e : Same G G') : ∀ (d : D) (v : V), Rp K G v d → Rp K G' v d
  | .non, _, h => by cases h; exact .non
  | .bl _, _, h => by cases h; exact .bl _
  | .int _, _, h => by cases h; exact .int _
  | .str _, _, h => by cases h; exact .str _
  | .tup ds, _, h => by
    cases h with
    | tup h1 h2 => exact .tup (same_sqt e h1) (Rps.mono e ds _ h2)
  | .lst ds, _, h => by
    cases h with
    | lst h1 h2 => exact .lst (e _ _ h1) (Rps.mono e ds _ h2)
  | .dct _, _, h => by cases h
  | .raw _, _, h => by cases h; exact .raw _
  | .rng lo hi, _, h => by
    cases h with
    | rng _ _ h1 => exact .rng lo hi (e _ _ h1)
  | .ins _ _ ds, _, h => by
    cases h with
    | ins h1 h2 h3 h4 => exact .ins (e _ _ h1) h2 h3 (Rps.mono e ds _ h4)
  | .exc _ ds, _, h => by
    cases h with
    | exc0 h1 => exact .exc0 (e _ _ h1)
    | exc1 h1 h2 h3 h4 => exact .exc1 (e _ _ h1) (e _ _ h2) h3 (Rps.mono e ds _ h4)
  | .emp, _, h => by
    cases h with
    | emp h1 => exact .emp (e _ _ h1)
theorem Rps.mono (e : Same G G') : ∀ (ds : List D) (vs : List V), Rps K G vs ds → Rps K G' vs ds
  | [], _, h => by cases h; exact .nil
  | d :: ds, _, h => by
    cases h with
    | cons h1 h2 => exact .cons (Rp.mono e d _ h1) (Rps.mono e ds _ h2)
end
theorem Rps.length : ∀ {vs : List V} {ds : List D}, Rps K G vs ds → vs.length = ds.length
  | _, [], h => by cases h; rfl
  | _, d :: ds, h => by
    cases h with
    | cons h1 h2 => simp [Rps.length h2]
theorem Rps.get : ∀ {vs : List V} {ds : List D} {i : Nat} {d : D}, Rps K G vs ds → ds[i]? = some d → ∃ v, vs[i]? = some v ∧ Rp K G v d
  | _, [], _, _, h, e => by simp at e
  | _, d :: ds, 0, _, h, e => by
    cases h with
    | cons h1 h2 => simp at e; subst e; exact ⟨_, rfl, h1⟩
  | _, d :: ds, i + 1, d', h, e => by
    cases h with
    | cons h1 h2 =>
      obtain ⟨v, q1, q2⟩ := Rps.get (i := i) h2 (by simpa using e)
      exact ⟨v, by simpa using q1, q2⟩
theorem Rps.get' : ∀ {vs : List V} {ds : List D} {i : Nat} {v : V}, Rps K G vs ds → vs[i]? = some v → ∃ d, ds[i]? = some d ∧ Rp K G v d
  | _, [], _, _, h, e => by cases h; simp at e
  | _, d :: ds, 0, _, h, e => by
    cases h with
    | cons h1 h2 => simp at e; subst e; exact ⟨_, rfl, h1⟩
  | _, d :: ds, i + 1, v', h, e => by
    cases h with
    | cons h1 h2 =>
      obtain ⟨v, q1, q2⟩ := Rps.get' (i := i) h2 (by simpa using e)
      exact ⟨v, by simpa using q1, q2⟩
theorem Rps.append : ∀ {vs ws : List V} {ds es : List D}, Rps K G vs ds → Rps K G ws es → Rps K G (vs ++ ws) (ds ++ es)
  | _, _, [], _, h, h' => by cases h; exact h'
  | _, _, d :: ds, _, h, h' => by
    cases h with
    | cons h1 h2 => exact .cons h1 (Rps.append h2 h')
theorem Rps.snoc {vs : List V} {v : V} {ds : List D} {d : D} (h : Rps K G vs ds) (h' : Rp K G v d) : Rps K G (vs ++ [v]) (ds ++ [d]) := h.append (.cons h' .nil)
theorem Rps.take : ∀ (n : Nat) {vs : List V} {ds : List D}, Rps K G vs ds → Rps K G (vs.take n) (ds.take n)
  | 0, _, _, _ => by simp; exact .nil
  | n + 1, _, [], h => by cases h; simp; exact .nil
  | n + 1, _, d :: ds, h => by
    cases h with
    | cons h1 h2 => simp; exact .cons h1 (Rps.take n h2)
theorem Rps.drop : ∀ (n : Nat) {vs : List V} {ds : List D}, Rps K G vs ds → Rps K G (vs.drop n) (ds.drop n)
  | 0, _, _, h => by simpa using h
  | n + 1, _, [], h => by cases h; simp; exact .nil
  | n + 1, _, d :: ds, h => by
    cases h with
    | cons h1 h2 => simp; exact Rps.drop n h2
theorem Rps.set : ∀ (n : Nat) {vs : List V} {ds : List D} {v : V} {d : D}, Rps K G vs ds → Rp K G v d → Rps K G (vs.set n v) (ds.set n d)
  | _, _, [], _, _, h, _ => by cases h; simp; exact .nil
  | 0, _, d :: ds, _, _, h, q => by
    cases h with
    | cons h1 h2 => simp; exact .cons q h2
  | n + 1, _, d :: ds, _, _, h, q => by
    cases h with
    | cons h1 h2 => simp; exact .cons h1 (Rps.set n h2 q)
theorem Rps.rep {v : V} {d : D} (q : Rp K G v d) : ∀ n : Nat, Rps K G (List.replicate n v) (List.replicate n d)
  | 0 => .nil
  | n + 1 => .cons q (Rps.rep q n)
theorem Rps.flatRep {vs : List V} {ds : List D} (q : Rps K G vs ds) : ∀ n : Nat, Rps K G (List.replicate n vs).flatten (List.replicate n ds).flatten
  | 0 => .nil
  | n + 1 => by
    rw [List.replicate_succ, List.replicate_succ, List.flatten_cons, List.flatten_cons]
    exact q.append (Rps.flatRep q n)

/-- a dict's entries: keys are tuples of ints -/
inductive KR (K : PySem.W.Frag) (G : Hp) : List (List Key × V) → List (List Int × D) → Prop where
  | nil : KR K G [] []
  | cons {k : List Int} {v : V} {d : D} {r : List (List Key × V)} {s : List (List Int × D)} : Rp K G v d → KR K G r s → KR K G ((k.map Sum.inl, v) :: r) ((k, d) :: s)
theorem KR.mono (e : Same G G') : ∀ {r : List (List Key × V)} {s : List (List Int × D)}, KR K G r s → KR K G' r s
  | _, _, .nil => .nil
  | _, _, .cons h t => .cons (h.mono e _ _) (KR.mono e t)
theorem KR.length : ∀ {r : List (List Key × V)} {s : List (List Int × D)}, KR K G r s → r.length = s.length
  | _, _, .nil => rfl
  | _, _, .cons h t => by simp [KR.length t]
/-- the heaps grow: G the part that never changes, H the whole -/
structure Gr (G H G' H' : Hp) : Prop where
  h : Same H H'
  g : Same G G'
  gh : Same G' H'
  nw : ∀ a o, G' a = some o → G a = some o ∨ H a = none
theorem Gr.refl (e : Same G H) : Gr G H G H := ⟨Same.refl H, Same.refl G, e, fun _ _ q => .inl q⟩
theorem Gr.trans {G1 H1 : Hp} (a : Gr G H G1 H1) (b : Gr G1 H1 G' H') : Gr G H G' H' :=
  ⟨a.h.trans b.h, a.g.trans b.g, b.gh, fun x o q => by
    rcases b.nw x o q with q | q
    · exact a.nw x o q
    · exact .inr (a.h.free q)⟩
theorem Gr.new {p : Addr} {o : HO} (e : Same G H) (n : H p = none) : Gr G H (upd G p o) (upd H p o) := by
  have hn : ∀ a u, H a = some u → a ≠ p := fun a u q z => by rw [z, n] at q; cases q
  refine ⟨fun a u q => by rw [upd_ne (hn a u q)]; exact q, fun a u q => by rw [upd_ne (hn a u (e a u q))]; exact q, fun a u q => ?_, fun a u q => ?_⟩
  · by_cases h : a = p
    · subst h; rw [upd_same] at q ⊢; exact q
    · rw [upd_ne h] at q ⊢; exact e a u q
  · by_cases h : a = p
    · subst h; exact .inr n
    · rw [upd_ne h] at q; exact .inl q

/-! ### the slots -/
/-- a slot: (owned, data); an owned one holds a list (or dict) that nobody else knows -/
abbrev Env := List (Option (Bool × D))
def Own (K : PySem.W.Frag) (G H : Hp) (a : Addr) : D → Prop
  | .lst ds => ∃ xs, H a = some (.lst xs) ∧ Rps K G xs ds
  | .dct kvs => ∃ ys, H a = some (.dT ys) ∧ KR K G ys kvs
  | _ => False
structure Rl (K : PySem.W.Frag) (O : Addr → Prop) (env : Env) (σ : L2.St) (G H : Hp) : Prop where
  gh : Same G H
  len : env.length = σ.length
  fr : ∀ (i : Nat) (d : D), env[i]? = some (some (false, d)) → ∃ v, σ[i]? = some (some v) ∧ Rp K G v d
  ow : ∀ (i : Nat) (d : D), env[i]? = some (some (true, d)) → ∃ a, σ[i]? = some (some (.ref a)) ∧ G a = none ∧ O a ∧ Own K G H a d
  dj : ∀ (i j : Nat) (d e : D) (a : Addr), env[i]? = some (some (true, d)) → env[j]? = some (some (true, e)) → σ[i]? = some (some (.ref a)) → σ[j]? = some (some (.ref a)) → i = j
variable {O : Addr → Prop} {env : Env} {σ : L2.St}
theorem Own.grow {a : Addr} : ∀ {d : D}, Own K G H a d → Gr G H G' H' → Own K G' H' a d
  | .lst ds, ⟨xs, h1, h2⟩, g => ⟨xs, g.h _ _ h1, h2.mono g.g ds xs⟩
  | .dct _, ⟨ys, h1, h2⟩, g => ⟨ys, g.h _ _ h1, h2.mono g.g⟩
theorem Own.there {a : Addr} : ∀ {d : D}, Own K G H a d → ∃ o, H a = some o
  | .lst _, ⟨_, h1, _⟩ => ⟨_, h1⟩
  | .dct _, ⟨_, h1, _⟩ => ⟨_, h1⟩
theorem Rl.grow (r : Rl K O env σ G H) (g : Gr G H G' H') : Rl K O env σ G' H' where
  gh := g.gh
  len := r.len
  fr := fun i d e => let ⟨v, h1, h2⟩ := r.fr i d e; ⟨v, h1, h2.mono g.g d v⟩
  ow := fun i d e => by
    obtain ⟨a, h1, h2, h3, h4⟩ := r.ow i d e
    refine ⟨a, h1, ?_, h3, h4.grow g⟩
    cases q : G' a with
    | none => rfl
    | some o =>
      obtain ⟨u, hu⟩ := h4.there
      rcases g.nw a o q with z | z
      · rw [h2] at z; cases z
      · rw [hu] at z; cases z
  dj := r.dj
end
/-! ### heaps without tables of code objects -/
/-- no table of code objects (the tables grow when a lambda is made) -/
def NTb (o : HO) : Prop := ∀ ps, o ≠ .tbl ps
def NoT (G : Hp) : Prop := ∀ b o, G b = some o → NTb o
def untbl (G : Hp) : Hp := fun b => match G b with
  | some (.tbl _) => none
  | o => o
theorem untbl_of {G : Hp} {b : Addr} {o : HO} (e : G b = some o) (n : NTb o) : untbl G b = some o := by
  unfold untbl
  rw [e]
  cases o with
  | tbl ps => exact absurd rfl (n ps)
  | _ => rfl
theorem of_untbl {G : Hp} {b : Addr} {o : HO} (e : untbl G b = some o) : G b = some o ∧ NTb o := by
  unfold untbl at e
  cases q : G b with
  | none => rw [q] at e; cases e
  | some u =>
    rw [q] at e
    cases u with
    | tbl ps => cases e
    | _ => cases e; exact ⟨rfl, fun ps z => by cases z⟩
theorem noT_untbl {G : Hp} : NoT (untbl G) := fun b o e => (of_untbl e).2
theorem NoT.sub {G G' : Hp} (n : NoT G) (e : Same G G') : Same G (untbl G') := fun b o q => untbl_of (e _ _ q) (n b o q)
theorem same_untbl {G H : Hp} (e : Same G H) : Same (untbl G) H := fun b o q => e _ _ (of_untbl q).1
theorem NoT.upd {G : Hp} {a : Addr} {o : HO} (n : NoT G) (h : NTb o) : NoT (L2.upd G a o) := fun b u q => by
  by_cases hb : b = a
  · subst hb; rw [upd_same] at q; cases q; exact h
  · rw [upd_ne hb] at q; exact n b u q
section
variable {K : PySem.W.Frag} {G : Hp}
theorem sqt_untbl {a : Addr} {xs : List V} (h : SqT K G a xs) : SqT K (untbl G) a xs := by
  rcases h with (h | ⟨o, h⟩) | h
  · exact .inl (.inl (untbl_of h fun _ z => by cases z))
  · exact .inl (.inr ⟨o, untbl_of h fun _ z => by cases z⟩)
  · exact .inr h
mutual
theorem Rp.untbl : ∀ (d : D) (v : V), Rp K G v d → Rp K (untbl G) v d
  | .non, _, h => by cases h; exact .non
  | .bl _, _, h => by cases h; exact .bl _
  | .int _, _, h => by cases h; exact .int _
  | .str _, _, h => by cases h; exact .str _
  | .tup ds, _, h => by
    cases h with
    | tup h1 h2 => exact .tup (sqt_untbl h1) (Rps.untbl ds _ h2)
  | .lst ds, _, h => by
    cases h with
    | lst h1 h2 => exact .lst (untbl_of h1 fun _ z => by cases z) (Rps.untbl ds _ h2)
  | .dct _, _, h => by cases h
  | .raw _, _, h => by cases h; exact .raw _
  | .rng lo hi, _, h => by
    cases h with
    | rng _ _ h1 => exact .rng lo hi (untbl_of h1 fun _ z => by cases z)
  | .ins _ _ ds, _, h => by
    cases h with
    | ins h1 h2 h3 h4 => exact .ins (untbl_of h1 fun _ z => by cases z) h2 h3 (Rps.untbl ds _ h4)
  | .exc _ ds, _, h => by
    cases h with
    | exc0 h1 => exact .exc0 (untbl_of h1 fun _ z => by unfold ExC at z; cases z)
    | exc1 h1 h2 h3 h4 => exact .exc1 (untbl_of h1 fun _ z => by unfold ExC at z; cases z) (untbl_of h2 fun _ z => by cases z) h3 (Rps.untbl ds _ h4)
  | .emp, _, h => by
    cases h with
    | emp h1 => exact .emp (untbl_of h1 fun _ z => by cases z)
theorem Rps.untbl : ∀ (ds : List D) (vs : List V), Rps K G vs ds → Rps K (untbl G) vs ds
  | [], _, h => by cases h; exact .nil
  | d :: ds, _, h => by
    cases h with
    | cons h1 h2 => exact .cons (Rp.untbl d _ h1) (Rps.untbl ds _ h2)
end
theorem nt_lst {xs : List V} : NTb (.lst xs) := fun _ z => by cases z
theorem nt_tup {xs : List V} : NTb (.tup xs) := fun _ z => by cases z
theorem nt_dT {xs : List (List Key × V)} : NTb (.dT xs) := fun _ z => by cases z
theorem nt_ins {C dx : Addr} {fs : List (Str × V)} : NTb (.ins C dx fs) := fun _ z => by cases z
theorem nt_code {a : Addr} {q : Str} : NTb (LamX.CodeO a q) := fun _ z => by unfold LamX.CodeO at z; cases z
theorem nt_exc {cls : Value} {d : Option Addr} {a : Addr} : NTb (ExC cls d a) := fun _ z => by unfold ExC at z; cases z
end
theorem KR.untbl {K : PySem.W.Frag} {G : Hp} : ∀ {r : List (List Key × V)} {s : List (List Int × D)}, KR K G r s → KR K (Sh.untbl G) r s
  | _, _, .nil => .nil
  | _, _, .cons h t => .cons (h.untbl _ _) (KR.untbl t)
/-- all but the tables stay -/
def SameN (G G' : Hp) : Prop := ∀ b o, G b = some o → NTb o → G' b = some o
theorem Same.n {G G' : Hp} (e : Same G G') : SameN G G' := fun b o q _ => e b o q
theorem SameN.un {G G' : Hp} (e : SameN G G') : Same (untbl G) G' := fun b o q => e b o (of_untbl q).1 (of_untbl q).2
theorem SameN.of_un {G G' : Hp} (e : SameN (untbl G) G') : SameN G G' := fun b o q n => e b o (untbl_of q n) n
theorem Rp.monoN {K : PySem.W.Frag} {G G' : Hp} {d : D} {v : V} (r : Rp K G v d) (e : SameN G G') : Rp K G' v d := (r.untbl d v).mono e.un d v
theorem Rps.monoN {K : PySem.W.Frag} {G G' : Hp} {ds : List D} {vs : List V} (r : Rps K G vs ds) (e : SameN G G') : Rps K G' vs ds := (r.untbl ds vs).mono e.un ds vs
theorem sqt_n {K : PySem.W.Frag} {G G' : Hp} {a : Addr} {xs : List V} (e : SameN G G') (h : SqT K G a xs) : SqT K G' a xs := same_sqt e.un (sqt_untbl h)
end Sh
end Part_ShA

section Part_ShB
set_option maxRecDepth 100000
set_option maxHeartbeats 2000000
/-! ShB: expressions. -/
namespace Sh
open PySem L2

abbrev Ex := Env → Option D
abbrev Ax := Env → Option (List D)
abbrev Tx := Env → Option Bool

def tE (K : PySem.W.Frag) (m : Ex) : TE := fun σ H Q => ∃ (O : Addr → Prop) (env : Env) (G : Hp) (d : D), Rl K O env σ G H ∧ m env = some d ∧ ∀ v G' H', Gr G H G' H' → Rp K G' v d → Q v H'
def tT (K : PySem.W.Frag) (m : Tx) : TT := fun σ H Q => ∃ (O : Addr → Prop) (env : Env) (G : Hp) (b : Bool), Rl K O env σ G H ∧ m env = some b ∧ ∀ G' H', Gr G H G' H' → Q b H'
def tA (K : PySem.W.Frag) (m : Ax) : TA := fun σ H Q => ∃ (O : Addr → Prop) (env : Env) (G : Hp) (ds : List D), Rl K O env σ G H ∧ m env = some ds ∧ ∀ vs G' H', Gr G H G' H' → Rps K G' vs ds → Q vs H'
/-- a value that is only looked at: it stands for the data in the whole heap -/
def tP (K : PySem.W.Frag) (m : Ex) : TE := fun σ H Q => ∃ (O : Addr → Prop) (env : Env) (G : Hp) (d : D), Rl K O env σ G H ∧ m env = some d ∧ ∀ v G' H', Gr G H G' H' → Rp K H' v d → Q v H'

def OkE (X : Cx) (e : Expr) (m : Ex) : Prop := PE X e (tE X.K m)
def OkP (X : Cx) (e : Expr) (m : Ex) : Prop := PE X e (tP X.K m)
def OkT (X : Cx) (e : Expr) (m : Tx) : Prop := PT X e (tT X.K m)
def OkW (X : Cx) (e : Expr) (m : Tx) : Prop := PW X e (tT X.K m)
def OkA (X : Cx) (es : List Expr) (m : Ax) : Prop := PA X es (tA X.K m)

section
variable {X : Cx} {e : Expr} {es : List Expr}
theorem weakE {t t' : TE} (h : PE X e t) (w : ∀ σ H Q, t' σ H Q → t σ H Q) : PE X e t' := ⟨fun pins s σ H Q I q => h.run pins s σ H Q I (w _ _ _ q)⟩
theorem weakT {t t' : TT} (h : PT X e t) (w : ∀ σ H Q, t' σ H Q → t σ H Q) : PT X e t' := ⟨fun pins s σ H Q I q => h.run pins s σ H Q I (w _ _ _ q)⟩
theorem weakW {t t' : TT} (h : PW X e t) (w : ∀ σ H Q, t' σ H Q → t σ H Q) : PW X e t' := ⟨fun wh pins s σ H Q I q => h.run wh pins s σ H Q I (w _ _ _ q)⟩
theorem weakA {t t' : TA} (h : PA X es t) (w : ∀ σ H Q, t' σ H Q → t σ H Q) : PA X es t' := ⟨fun pos pins s σ H Q I q => h.run pos pins s σ H Q I (w _ _ _ q)⟩
theorem OkE.p {m : Ex} (h : OkE X e m) : OkP X e m := weakE h fun σ H Q ⟨O, env, G, d, r, e, k⟩ => ⟨O, env, G, d, r, e, fun v G' H' g q => k v G' H' g (q.mono g.gh d v)⟩
end

/-! ### names, constants -/
def eVar (i : Nat) : Ex := fun env => match env[i]? with
  | some (some (false, d)) => some d
  | _ => none
def ePk (i : Nat) : Ex := fun env => match env[i]? with
  | some (some (false, d)) => some d
  | some (some (true, .lst ds)) => some (.lst ds)
  | _ => none
def eC (d : D) : Ex := fun _ => some d
section
variable {X : Cx}
theorem ok_var (i : Nat) {x : Str} {pos : Pos} (hN : X.N[i]? = some x := by rfl) (hv : Vis X.env.scope x := by first | exact Or.inl rfl | exact Or.inr (Or.inl rfl) | exact Or.inr (Or.inr rfl)) (hd : (x == ("__debug__" : Str)) = false := by decide)
    (hcd : (x == ("__classdict__" : Str)) = false := by decide) : OkE X (.Name x pos) (eVar i) := by
  refine weakE (pe_var hN hv hd hcd) fun σ H Q ⟨O, env, G, d, r, e, k⟩ => ?_
  have e' : env[i]? = some (some (false, d)) := by
    unfold eVar at e
    split at e
    · rename_i d' h; cases e; exact h
    · cases e
  obtain ⟨v, h1, h2⟩ := r.fr i d e'
  exact ⟨v, h1, k v G H (Gr.refl r.gh) h2⟩
theorem ok_pk (i : Nat) {x : Str} {pos : Pos} (hN : X.N[i]? = some x := by rfl) (hv : Vis X.env.scope x := by first | exact Or.inl rfl | exact Or.inr (Or.inl rfl) | exact Or.inr (Or.inr rfl)) (hd : (x == ("__debug__" : Str)) = false := by decide)
    (hcd : (x == ("__classdict__" : Str)) = false := by decide) : OkP X (.Name x pos) (ePk i) := by
  refine weakE (pe_var hN hv hd hcd) fun σ H Q ⟨O, env, G, d, r, e, k⟩ => ?_
  unfold ePk at e
  split at e
  · rename_i d' h
    cases e
    obtain ⟨v, h1, h2⟩ := r.fr i d h
    exact ⟨v, h1, k v G H (Gr.refl r.gh) (h2.mono r.gh d v)⟩
  · rename_i ds h
    cases e
    obtain ⟨a, h1, h2, h3, h4⟩ := r.ow i _ h
    refine ⟨_, h1, k _ G H (Gr.refl r.gh) ?_⟩
    obtain ⟨xs, q1, q2⟩ := h4
    exact .lst q1 (q2.mono r.gh ds xs)
  · cases e
theorem ok_c {e : Expr} {v : V} {d : D} (h : PE X e (tC v)) (q : ∀ H, Rp X.K H v d) : OkE X e (eC d) :=
  weakE h fun σ H Q ⟨O, env, G, d', r, e, k⟩ => by
    cases e
    exact k v G H (Gr.refl r.gh) (q G)
theorem ok_int {i j pos} : OkE X (.Constant (.int i) j pos) (eC (.int i)) := ok_c pe_int fun _ => .int i
theorem ok_bl {i j pos} : OkE X (.Constant (.bool i) j pos) (eC (.bl i)) := ok_c pe_bl fun _ => .bl i
theorem ok_non {j pos} : OkE X (.Constant .none j pos) (eC .non) := ok_c pe_non fun _ => .non
theorem ok_str {x j pos} : OkE X (.Constant (.str x) j pos) (eC (.str x)) := ok_c pe_str fun _ => .str x
end

/-! ### two operands -/
def Sem2 (K : PySem.W.Frag) (r : R2) (sem : D → D → Option D) : Prop :=
  ∀ (x y : V) (dx dy d : D) (G H : Hp) (Q : VK), Same G H → Rp K G x dx → Rp K G y dy → sem dx dy = some d → (∀ v G' H', Gr G H G' H' → Rp K G' v d → Q v H') → r x y H Q
/-- looked at alone -/
def SemP (K : PySem.W.Frag) (r : R2) (sem : D → D → Option D) : Prop :=
  ∀ (x y : V) (dx dy d : D) (H : Hp) (Q : VK), Rp K H x dx → Rp K H y dy → sem dx dy = some d → (∀ v, (∀ G, Rp K G v d) → Q v H) → r x y H Q
def eBin (sem : D → D → Option D) (a b : Ex) : Ex := fun env => (a env).bind fun x => (b env).bind fun y => sem x y
section
variable {X : Cx} {a b : Expr} {ma mb : Ex} {r : R2} {sem : D → D → Option D} {pos : Pos}
theorem SemP.two (h : SemP X.K r sem) : Sem2 X.K r sem := fun x y dx dy d G H Q e rx ry q k =>
  h x y dx dy d H Q (rx.mono e dx x) (ry.mono e dy y) q fun v hv => k v G H (Gr.refl e) (hv G)
theorem step2 (ha : tE X.K (eBin sem ma mb) = tE X.K (eBin sem ma mb)) (hs : Sem2 X.K r sem) {σ : L2.St} {H : Hp} {Q : VK} (h : tE X.K (eBin sem ma mb) σ H Q) : tOp r (tE X.K ma) (tE X.K mb) σ H Q := by
  obtain ⟨O, env, G, d, rl, e, k⟩ := h
  obtain ⟨dx, e1, e⟩ := Option.bind_eq_some_iff.mp e
  obtain ⟨dy, e2, e3⟩ := Option.bind_eq_some_iff.mp e
  refine ⟨O, env, G, dx, rl, e1, fun v G1 H1 g1 r1 => ⟨O, env, G1, dy, rl.grow g1, e2, fun u G2 H2 g2 r2 => ?_⟩⟩
  exact hs v u dx dy d G2 H2 Q g2.gh (r1.mono g2.g dx v) r2 e3 fun w G3 H3 g3 r3 => k w G3 H3 ((g1.trans g2).trans g3) r3
theorem stepP (hs : SemP X.K r sem) {σ : L2.St} {H : Hp} {Q : VK} (h : tE X.K (eBin sem ma mb) σ H Q) : tOp r (tP X.K ma) (tP X.K mb) σ H Q := by
  obtain ⟨O, env, G, d, rl, e, k⟩ := h
  obtain ⟨dx, e1, e⟩ := Option.bind_eq_some_iff.mp e
  obtain ⟨dy, e2, e3⟩ := Option.bind_eq_some_iff.mp e
  refine ⟨O, env, G, dx, rl, e1, fun v G1 H1 g1 r1 => ⟨O, env, G1, dy, rl.grow g1, e2, fun u G2 H2 g2 r2 => ?_⟩⟩
  exact hs v u dx dy d H2 Q (r1.mono g2.h dx v) r2 e3 fun w hw => k w G2 H2 (g1.trans g2) (hw G2)
theorem ok_bin {op : Operator} (ho : OpR X (binaryOp op) r) (hs : Sem2 X.K r sem) (ha : OkE X a ma) (hb : OkE X b mb) : OkE X (.BinOp a op b pos) (eBin sem ma mb) :=
  weakE (pe_op ho ha hb) fun σ H Q h => step2 rfl hs h
theorem ok_cmp {op : CmpOp} (ho : OpR X (compareOp op) r) (hs : SemP X.K r sem) (ha : OkP X a ma) (hb : OkP X b mb) (hm : behindInMarks op b = false := by first | exact nomark _ | with_unfolding_all rfl) : OkE X (.Compare a [op] [b] pos) (eBin sem ma mb) :=
  weakE (pe_cmpR ho ha hb hm) fun σ H Q h => stepP hs h
/-- a test of two operands -/
def bBin (sem : D → D → Option D) (a b : Ex) : Tx := fun env => match eBin sem a b env with
  | some (.bl k) => some k
  | _ => none
theorem ok_cmpT {op : CmpOp} (ho : OpR X (compareOp op) r) (hs : SemP X.K r sem) (ha : OkP X a ma) (hb : OkP X b mb) (hm : behindInMarks op b = false := by first | exact nomark _ | with_unfolding_all rfl) : OkT X (.Compare a [op] [b] pos) (bBin sem ma mb) :=
  weakT (pt_cmpR ho ha hb hm) fun σ H Q ⟨O, env, G, k, rl, e, kk⟩ => by
    have e' : eBin sem ma mb env = some (.bl k) := by
      unfold bBin at e
      split at e
      · rename_i h; cases e; exact h
      · cases e
    refine stepP (Q := fun x H' => ∃ k, x = .bl k ∧ Q k H') hs ⟨O, env, G, _, rl, e', fun v G' H' g q => ?_⟩
    cases q
    exact ⟨k, rfl, kk G' H' g⟩
end

/-! ### tests -/
/-- a value that is a bool, as a test -/
def bOf (m : Ex) : Tx := fun env => match m env with
  | some (.bl k) => some k
  | _ => none
def bNot (m : Tx) : Tx := fun env => (m env).map (!·)
def bAnd (a b : Tx) : Tx := fun env => (a env).bind fun x => if x then b env else some false
def bOr (a b : Tx) : Tx := fun env => (a env).bind fun x => if x then some true else b env
def eIf (c : Tx) (a b : Ex) : Ex := fun env => (c env).bind fun x => if x then a env else b env
def eNot (m : Ex) : Ex := fun env => (bOf m env).map fun k => .bl (!k)
def eAnd (a b : Ex) : Ex := fun env => (bOf a env).bind fun x => if x then b env else some (.bl false)
def eOr (a b : Ex) : Ex := fun env => (bOf a env).bind fun x => if x then some (.bl true) else b env
theorem bOf_some {m : Ex} {env : Env} {k : Bool} (e : bOf m env = some k) : m env = some (.bl k) := by
  unfold bOf at e
  split at e
  · rename_i h; cases e; exact h
  · cases e
section
variable {X : Cx} {a b c : Expr} {rest : List Expr} {ma mb : Ex} {ta tb : Tx} {pos : Pos}
theorem ok_test (ha : OkE X a ma) (he : ∀ whole, isTrue a X.env whole = (do let v ← whole; standAt a.pos; holding [v] (truthy v)) := by intro _; rfl) : OkT X a (bOf ma) :=
  weakT (pt_val ha he) fun σ H Q ⟨O, env, G, k, rl, e, kk⟩ => by
    refine ⟨O, env, G, _, rl, bOf_some e, fun v G' H' g q => ?_⟩
    cases q
    exact ⟨k, rfl, kk G' H' g⟩
theorem ok_notT (ha : OkT X a ta) : OkT X (.UnaryOp .Not a pos) (bNot ta) :=
  weakT (pt_not ha) fun σ H Q ⟨O, env, G, k, rl, e, kk⟩ => by
    obtain ⟨x, e1, e2⟩ := Option.map_eq_some_iff.mp e
    subst e2
    exact ⟨O, env, G, x, rl, e1, fun G' H' g => kk G' H' g⟩
theorem OkW.t {e : Expr} {m : Tx} (h : OkW X e m) : OkT X e m := PW.pt h
theorem ok_and1 (ha : OkT X a ta) : OkW X (.BoolOp .And [a] pos) ta := pw_and1 ha
theorem ok_or1 (ha : OkT X a ta) : OkW X (.BoolOp .Or [a] pos) ta := pw_or1 ha
theorem ok_andT (ha : OkT X a ta) (hb : OkW X (.BoolOp .And (b :: rest) pos) tb) : OkW X (.BoolOp .And (a :: b :: rest) pos) (bAnd ta tb) :=
  weakW (pw_and ha hb) fun σ H Q ⟨O, env, G, k, rl, e, kk⟩ => by
    obtain ⟨x, e1, e2⟩ := Option.bind_eq_some_iff.mp e
    refine ⟨O, env, G, x, rl, e1, fun G' H' g => ?_⟩
    cases x with
    | true => exact ⟨O, env, G', k, rl.grow g, e2, fun G2 H2 g2 => kk G2 H2 (g.trans g2)⟩
    | false => cases e2; exact kk G' H' g
theorem ok_orT (ha : OkT X a ta) (hb : OkW X (.BoolOp .Or (b :: rest) pos) tb) : OkW X (.BoolOp .Or (a :: b :: rest) pos) (bOr ta tb) :=
  weakW (pw_or ha hb) fun σ H Q ⟨O, env, G, k, rl, e, kk⟩ => by
    obtain ⟨x, e1, e2⟩ := Option.bind_eq_some_iff.mp e
    refine ⟨O, env, G, x, rl, e1, fun G' H' g => ?_⟩
    cases x with
    | true => cases e2; exact kk G' H' g
    | false => exact ⟨O, env, G', k, rl.grow g, e2, fun G2 H2 g2 => kk G2 H2 (g.trans g2)⟩
theorem ok_ifE (hc : OkT X c ta) (ha : OkE X a ma) (hb : OkE X b mb) : OkE X (.IfExp c a b pos) (eIf ta ma mb) :=
  weakE (pe_ifExp hc ha hb) fun σ H Q ⟨O, env, G, d, rl, e, k⟩ => by
    obtain ⟨x, e1, e2⟩ := Option.bind_eq_some_iff.mp e
    refine ⟨O, env, G, x, rl, e1, fun G' H' g => ?_⟩
    cases x with
    | true => exact ⟨O, env, G', d, rl.grow g, e2, fun v G2 H2 g2 r2 => k v G2 H2 (g.trans g2) r2⟩
    | false => exact ⟨O, env, G', d, rl.grow g, e2, fun v G2 H2 g2 r2 => k v G2 H2 (g.trans g2) r2⟩
theorem ok_one {op} (ha : OkE X a ma) : OkE X (.BoolOp op [a] pos) ma := pe_one ha
theorem ok_notE (ha : OkE X a ma) : OkE X (.UnaryOp .Not a pos) (eNot ma) :=
  weakE (pe_not ha) fun σ H Q ⟨O, env, G, d, rl, e, k⟩ => by
    obtain ⟨x, e1, e2⟩ := Option.map_eq_some_iff.mp e
    subst e2
    refine ⟨O, env, G, _, rl, bOf_some e1, fun v G' H' g q => ?_⟩
    cases q
    exact ⟨x, rfl, k _ G' H' g (.bl _)⟩
theorem ok_andE (ha : OkE X a ma) (hb : OkE X (.BoolOp .And (b :: rest) pos) mb) : OkE X (.BoolOp .And (a :: b :: rest) pos) (eAnd ma mb) :=
  weakE (pe_and ha hb) fun σ H Q ⟨O, env, G, d, rl, e, k⟩ => by
    obtain ⟨x, e1, e2⟩ := Option.bind_eq_some_iff.mp e
    refine ⟨O, env, G, _, rl, bOf_some e1, fun v G' H' g q => ?_⟩
    cases q
    refine ⟨x, rfl, ?_⟩
    cases x with
    | true => exact ⟨O, env, G', d, rl.grow g, e2, fun v G2 H2 g2 r2 => k v G2 H2 (g.trans g2) r2⟩
    | false => cases e2; exact k _ G' H' g (.bl _)
theorem ok_orE (ha : OkE X a ma) (hb : OkE X (.BoolOp .Or (b :: rest) pos) mb) : OkE X (.BoolOp .Or (a :: b :: rest) pos) (eOr ma mb) :=
  weakE (pe_or ha hb) fun σ H Q ⟨O, env, G, d, rl, e, k⟩ => by
    obtain ⟨x, e1, e2⟩ := Option.bind_eq_some_iff.mp e
    refine ⟨O, env, G, _, rl, bOf_some e1, fun v G' H' g q => ?_⟩
    cases q
    refine ⟨x, rfl, ?_⟩
    cases x with
    | true => cases e2; exact k _ G' H' g (.bl _)
    | false => exact ⟨O, env, G', d, rl.grow g, e2, fun v G2 H2 g2 r2 => k v G2 H2 (g.trans g2) r2⟩
end

/-! ### argument lists, displays -/
def aNil : Ax := fun _ => some []
def aCons (a : Ex) (r : Ax) : Ax := fun env => (a env).bind fun x => (r env).bind fun xs => some (x :: xs)
def itemsOf : D → Option (List D)
  | .tup ds => some ds
  | .lst ds => some ds
  | _ => none
def aStar (a : Ex) (r : Ax) : Ax := fun env => (a env).bind fun x => (itemsOf x).bind fun ys => (r env).bind fun xs => some (ys ++ xs)
def eTup (m : Ax) : Ex := fun env => (m env).bind fun ds => if ds.length ≤ 1000000 then some (.tup ds) else none
def eLst (m : Ax) : Ex := fun env => (m env).bind fun ds => if ds.length ≤ 1000000 then some (.lst ds) else none
theorem sz6 {n : Nat} (h : n ≤ 1000000) : n ≤ sizeLine := Nat.le_trans h (by decide)
section
variable {X : Cx} {e : Expr} {es : List Expr} {me : Ex} {ms : Ax} {p pos : Pos}
theorem ok_nil : OkA X [] aNil := weakA pa_nil fun σ H Q ⟨O, env, G, ds, rl, e, k⟩ => by cases e; exact k [] G H (Gr.refl rl.gh) .nil
theorem ok_cons (ha : OkE X e me) (hr : OkA X es ms) (hs : starEach (e :: es) X.env = (false, eval e X.env) :: starEach es X.env := by rfl) : OkA X (e :: es) (aCons me ms) :=
  weakA (pa_cons ha hr hs) fun σ H Q ⟨O, env, G, ds, rl, e, k⟩ => by
    obtain ⟨x, e1, e⟩ := Option.bind_eq_some_iff.mp e
    obtain ⟨xs, e2, e3⟩ := Option.bind_eq_some_iff.mp e
    cases e3
    refine ⟨O, env, G, x, rl, e1, fun v G1 H1 g1 r1 => ⟨O, env, G1, xs, rl.grow g1, e2, fun vs G2 H2 g2 r2 => ?_⟩⟩
    exact k _ G2 H2 (g1.trans g2) (.cons (r1.mono g2.g x v) r2)
theorem ok_star (ha : OkE X e me) (hr : OkA X es ms) (hs : starEach (.Starred e p :: es) X.env = (true, eval e X.env) :: starEach es X.env := by rfl) : OkA X (.Starred e p :: es) (aStar me ms) :=
  weakA (StX.pa_star ha hr hs) fun σ H Q ⟨O, env, G, ds, rl, e, k⟩ => by
    obtain ⟨x, e1, e⟩ := Option.bind_eq_some_iff.mp e
    obtain ⟨ys, e2, e⟩ := Option.bind_eq_some_iff.mp e
    obtain ⟨xs, e3, e4⟩ := Option.bind_eq_some_iff.mp e
    cases e4
    refine ⟨O, env, G, x, rl, e1, fun v G1 H1 g1 r1 => ?_⟩
    have fin : ∀ (ws : List V), Rps X.K G1 ws ys → tA X.K ms σ H1 fun zs H2 => Q (ws ++ zs) H2 := fun ws hw =>
      ⟨O, env, G1, xs, rl.grow g1, e3, fun vs G2 H2 g2 r2 => k _ G2 H2 (g1.trans g2) ((hw.mono g2.g ys ws).append r2)⟩
    cases r1 with
    | tup h1 h2 => cases e2; exact ⟨_, _, rfl, .inl (same_sqt g1.gh h1), fin _ h2⟩
    | lst h1 h2 => cases e2; exact ⟨_, _, rfl, .inr (SqL.of (g1.gh _ _ h1)), fin _ h2⟩
    | _ => cases e2
theorem ok_tup {x1} (h : OkA X es ms) : OkE X (.Tuple es x1 pos) (eTup ms) :=
  weakE (pe_tup h) fun σ H Q ⟨O, env, G, d, rl, e, k⟩ => by
    obtain ⟨ds, e1, e2⟩ := Option.bind_eq_some_iff.mp e
    split at e2
    · rename_i hl
      cases e2
      refine ⟨O, env, G, ds, rl, e1, fun vs G1 H1 g1 r1 => ⟨sz6 (by rw [r1.length]; exact hl), fun p hp => ?_⟩⟩
      have g2 := Gr.new (o := .tup vs) g1.gh hp
      exact k _ _ _ (g1.trans g2) (.tup (SqT.of upd_same) (r1.mono g2.g ds vs))
    · cases e2
theorem ok_lst (h : OkA X es ms) : OkE X (.List es pos) (eLst ms) :=
  weakE (pe_lst h) fun σ H Q ⟨O, env, G, d, rl, e, k⟩ => by
    obtain ⟨ds, e1, e2⟩ := Option.bind_eq_some_iff.mp e
    split at e2
    · rename_i hl
      cases e2
      refine ⟨O, env, G, ds, rl, e1, fun vs G1 H1 g1 r1 => ⟨sz6 (by rw [r1.length]; exact hl), fun p hp => ?_⟩⟩
      have g2 := Gr.new (o := .lst vs) g1.gh hp
      exact k _ _ _ (g1.trans g2) (.lst upd_same (r1.mono g2.g ds vs))
    · cases e2
end
end Sh
end Part_ShB

section Part_ShC
set_option maxRecDepth 100000
set_option maxHeartbeats 2000000
/-! ShC: operators, comparisons, subscripts, slices, calls of built-ins. -/
namespace Sh
open PySem L2

section
variable {K : PySem.W.Frag}
/-! ### arithmetic -/
def sAdd : D → D → Option D
  | .int i, .int j => some (.int (i + j))
  | .lst a, .lst b => if a.length + b.length ≤ 1000000 then some (.lst (a ++ b)) else none
  | .tup a, .tup b => if a.length + b.length ≤ 1000000 then some (.tup (a ++ b)) else none
  | _, _ => none
def rAdd : PySem.W.Frag → R2 := fun K x y H Q => rI0 (fun i j => .int (i + j)) x y H Q ∨ (rCat x y H Q ∨ L2.rCatA K x y H Q)
theorem op_addR {X : Cx} : OpR X (binaryOp .Add) (rAdd X.K) := op_add.or (op_cat.or op_catA)
theorem sem_add : Sem2 K (rAdd K) sAdd := by
  intro x y dx dy d G H Q e rx ry q k
  cases rx with
  | int i =>
    cases ry with
    | int j => cases q; exact .inl ⟨i, j, rfl, rfl, k _ G H (Gr.refl e) (.int _)⟩
    | _ => cases q
  | @lst a xs ds h1 h2 =>
    cases ry with
    | @lst b ys es h3 h4 =>
      unfold sAdd at q
      dsimp only at q
      split at q
      · rename_i hl
        cases q
        refine .inr (.inl ⟨a, b, xs, ys, rfl, rfl, e _ _ h1, e _ _ h3, sz6 (by rw [h2.length, h4.length]; exact hl), fun p hp => ?_⟩)
        have g := Gr.new (o := .lst (xs ++ ys)) e hp
        exact k _ _ _ g (.lst upd_same ((h2.append h4).mono g.g _ _))
      · cases q
    | _ => cases q
  | @tup a xs ds h1 h2 =>
    cases ry with
    | @tup b ys es h3 h4 =>
      unfold sAdd at q
      dsimp only at q
      split at q
      · rename_i hl
        cases q
        refine .inr (.inr ⟨a, b, xs, ys, rfl, rfl, same_sqt e h1, same_sqt e h3, sz6 (by rw [h2.length, h4.length]; exact hl), fun hx => ?_, fun hx hy => ?_, fun hx hy p hp => ?_⟩)
        · subst hx; cases h2
          exact k _ G H (Gr.refl e) (.tup h3 h4)
        · subst hy; cases h4
          refine k _ G H (Gr.refl e) ?_
          rw [List.append_nil]
          exact .tup h1 h2
        · have g := Gr.new (o := .tup (xs ++ ys)) e hp
          exact k _ _ _ g (.tup (SqT.of upd_same) ((h2.append h4).mono g.g _ _))
      · cases q
    | _ => cases q
  | _ => cases ry <;> cases q
/-- ints alone, by a function of ints -/
def sInt (f : Int → Int → Option Int) : D → D → Option D
  | .int i, .int j => (f i j).map .int
  | _, _ => none
theorem sem_int {C : Int → Int → Prop} {g : Int → Int → Int} {f : Int → Int → Option Int} (h : ∀ i j z, f i j = some z → C i j ∧ g i j = z) : Sem2 K (rI C fun i j => .int (g i j)) (sInt f) := by
  intro x y dx dy d G H Q e rx ry q k
  cases rx with
  | int i =>
    cases ry with
    | int j =>
      obtain ⟨z, q1, q2⟩ := Option.map_eq_some_iff.mp (show (f i j).map D.int = some d from q)
      obtain ⟨h1, h2⟩ := h i j z q1
      subst h2; subst q2
      exact ⟨i, j, rfl, rfl, h1, k _ G H (Gr.refl e) (.int _)⟩
    | _ => cases q
  | _ => cases ry <;> cases q
def fSub (i j : Int) : Option Int := some (i - j)
def fFdiv (i j : Int) : Option Int := if j ≠ 0 ∧ j.natAbs < 1073741824 then some (i.fdiv j) else none
def fMod (i j : Int) : Option Int := if j ≠ 0 then some (i.fmod j) else none
def fPow (i j : Int) : Option Int := if 0 ≤ j ∧ j ≤ 1000 ∧ i.natAbs < 18446744073709551616 then some (i ^ j.toNat) else none
theorem op_subR {X : Cx} : OpR X (binaryOp .Sub) (rI (fun _ _ => True) fun i j => .int (i - j)) := by
  intro pins s σ H x y v u Q I rx ry h
  obtain ⟨i, j, e1, e2, _, q⟩ := h
  exact op_sub pins s σ H x y v u Q I rx ry ⟨i, j, e1, e2, q⟩
theorem sem_sub : Sem2 K (rI (fun _ _ => True) fun i j => .int (i - j)) (sInt fSub) := sem_int fun i j z q => by cases q; exact ⟨trivial, rfl⟩
theorem sem_fdiv : Sem2 K (rI CDivN fun i j => .int (i.fdiv j)) (sInt fFdiv) := sem_int fun i j z q => by
  unfold fFdiv at q
  split at q
  · rename_i h; cases q; exact ⟨h, rfl⟩
  · cases q
theorem sem_mod : Sem2 K (rI (fun _ j => j ≠ 0) fun i j => .int (i.fmod j)) (sInt fMod) := sem_int fun i j z q => by
  unfold fMod at q
  split at q
  · rename_i h; cases q; exact ⟨h, rfl⟩
  · cases q
theorem sem_pow : Sem2 K (rI CPow fun i j => .int (i ^ j.toNat)) (sInt fPow) := sem_int fun i j z q => by
  unfold fPow at q
  split at q
  · rename_i h; cases q; exact ⟨⟨h.1, by omega, by have := h.2.2; omega⟩, rfl⟩
  · cases q
/-- * : ints; a list so many times -/
def sMul : D → D → Option D
  | .int i, .int j => if i.natAbs < 18446744073709551616 ∨ j.natAbs < 18446744073709551616 then some (.int (i * j)) else none
  | .lst a, .int k => if -1000000 ≤ k ∧ k ≤ 1000000 ∧ a.length * k.toNat ≤ 1000000 then some (.lst (List.replicate k.toNat a).flatten) else none
  | _, _ => none
def rMul : R2 := fun x y H Q => rI CMul (fun i j => .int (i * j)) x y H Q ∨ rRep x y H Q
theorem op_mulR {X : Cx} : OpR X (binaryOp .Mult) rMul := op_mul.or op_rep
theorem sem_mul : Sem2 K rMul sMul := by
  intro x y dx dy d G H Q e rx ry q k
  cases rx with
  | int i =>
    cases ry with
    | int j =>
      unfold sMul at q
      dsimp only at q
      split at q
      · rename_i h
        cases q
        refine .inl ⟨i, j, rfl, rfl, ?_, k _ G H (Gr.refl e) (.int _)⟩
        rcases h with h | h
        · exact .inl ⟨by omega, by omega⟩
        · exact .inr ⟨by omega, by omega⟩
      · cases q
    | _ => cases q
  | @lst a xs ds h1 h2 =>
    cases ry with
    | int j =>
      unfold sMul at q
      dsimp only at q
      split at q
      · rename_i h
        cases q
        refine .inr ⟨a, j, xs, rfl, rfl, e _ _ h1, by omega, by omega, sz6 (by rw [h2.length]; exact h.2.2), fun p hp => ?_⟩
        have g := Gr.new (o := .lst (List.replicate j.toNat xs).flatten) e hp
        exact k _ _ _ g (.lst upd_same ((h2.flatRep _).mono g.g _ _))
      · cases q
    | _ => cases q
  | _ => cases ry <;> cases q

/-! ### comparisons -/
def sCmp (f : Int → Int → Bool) : D → D → Option D
  | .int i, .int j => some (.bl (f i j))
  | _, _ => none
theorem sem_cmp {f : Int → Int → Bool} : SemP K (rI0 fun i j => .bl (f i j)) (sCmp f) := by
  intro x y dx dy d H Q rx ry q k
  cases rx with
  | int i =>
    cases ry with
    | int j => cases q; exact ⟨i, j, rfl, rfl, k _ fun _ => .bl _⟩
    | _ => cases q
  | _ => cases ry <;> cases q
mutual
def dpy : D → Option PyData
  | .non => some .none
  | .bl b => some (.bool b)
  | .int i => some (.int i)
  | .str x => some (.str x)
  | .tup ds => (dpys ds).map .tuple
  | .lst ds => (dpys ds).map .list
  | .dct _ => none
  | .raw _ => none
  | .rng _ _ => none
  | .ins _ _ _ => none
  | .exc _ _ => none
  | .emp => none
def dpys : List D → Option (List PyData)
  | [] => some []
  | d :: ds => (dpy d).bind fun p => (dpys ds).map (p :: ·)
end
variable {H : Hp}
mutual
theorem Rp.dp : ∀ (d : D) (v : V) (p : PyData), Rp K H v d → dpy d = some p → Dp K H v p
  | .non, _, _, h, e => by cases h; cases e; exact .non
  | .bl _, _, _, h, e => by cases h; cases e; exact .bl _
  | .int _, _, _, h, e => by cases h; cases e; exact .int _
  | .str _, _, _, h, e => by cases h; cases e; exact .str _
  | .tup ds, _, _, h, e => by
    cases h with
    | tup h1 h2 =>
      obtain ⟨ps, e1, e2⟩ := Option.map_eq_some_iff.mp (show (dpys ds).map PyData.tuple = _ from e)
      subst e2
      exact .tup h1 (Rps.dp ds _ ps h2 e1)
  | .lst ds, _, _, h, e => by
    cases h with
    | lst h1 h2 =>
      obtain ⟨ps, e1, e2⟩ := Option.map_eq_some_iff.mp (show (dpys ds).map PyData.list = _ from e)
      subst e2
      exact .lst (SqL.of h1) (Rps.dp ds _ ps h2 e1)
  | .dct _, _, _, h, _ => by cases h
  | .raw _, _, _, _, e => by cases e
  | .rng _ _, _, _, _, e => by cases e
  | .ins _ _ _, _, _, _, e => by cases e
  | .exc _ _, _, _, _, e => by cases e
  | .emp, _, _, _, e => by cases e
theorem Rps.dp : ∀ (ds : List D) (vs : List V) (ps : List PyData), Rps K H vs ds → dpys ds = some ps → DpAll K H vs ps
  | [], _, _, h, e => by cases h; cases e; exact .nil
  | d :: ds, _, _, h, e => by
    cases h with
    | cons h1 h2 =>
      obtain ⟨p, e1, e⟩ := Option.bind_eq_some_iff.mp (show (dpy d).bind (fun p => (dpys ds).map (p :: ·)) = _ from e)
      obtain ⟨ps, e2, e3⟩ := Option.map_eq_some_iff.mp e
      subst e3
      exact .cons (Rp.dp d _ p h1 e1) (Rps.dp ds _ ps h2 e2)
end
def eqD (a b : D) : Option Bool := match a, b with
  | .int i, .int j => some (decide (i = j))
  | a, b => (dpy a).bind fun p => (dpy b).bind fun q => if SeqAt.shaped p = true ∧ SeqAt.shaped q = true then some (PyData.eqv p q) else none
def sEq (a b : D) : Option D := (eqD a b).map .bl
def sNe (a b : D) : Option D := (eqD a b).map fun k => .bl (!k)
def rEq' (K : PySem.W.Frag) : R2 := fun x y H Q => rEq x y H Q ∨ rEqD K x y H Q
def rNe' (K : PySem.W.Frag) : R2 := fun x y H Q => rNe x y H Q ∨ rNeD K x y H Q
theorem op_eqR {X : Cx} (hu : X.A.units + 64 < cLine) : OpR X (compareOp .Eq) (rEq' X.K) := op_eq.or (op_eqD hu)
theorem op_neR {X : Cx} (hu : X.A.units + 64 < cLine) : OpR X (compareOp .NotEq) (rNe' X.K) := op_ne.or (op_neD hu)
theorem eqD_cases {x y : V} {dx dy : D} {b : Bool} (rx : Rp K H x dx) (ry : Rp K H y dy) (q : eqD dx dy = some b) :
    (∃ i j, x = .int i ∧ y = .int j ∧ b = decide (i = j)) ∨ ∃ p q, Dp K H x p ∧ Dp K H y q ∧ SeqAt.shaped p = true ∧ SeqAt.shaped q = true ∧ b = PyData.eqv p q := by
  unfold eqD at q
  split at q
  · cases rx; cases ry; cases q; exact .inl ⟨_, _, rfl, rfl, rfl⟩
  · obtain ⟨p, e1, q⟩ := Option.bind_eq_some_iff.mp q
    obtain ⟨p2, e2, q⟩ := Option.bind_eq_some_iff.mp q
    split at q
    · rename_i h
      cases q
      exact .inr ⟨p, p2, rx.dp _ _ _ e1, ry.dp _ _ _ e2, h.1, h.2, rfl⟩
    · cases q
theorem dec_vint {i j : Int} : decide (V.int i = V.int j) = decide (i = j) := by simp
theorem sem_eq : SemP K (rEq' K) sEq := by
  intro x y dx dy d H Q rx ry q k
  obtain ⟨b, q1, q2⟩ := Option.map_eq_some_iff.mp q
  subst q2
  rcases eqD_cases rx ry q1 with ⟨i, j, rfl, rfl, rfl⟩ | ⟨p, p2, h1, h2, h3, h4, rfl⟩
  · exact .inl ⟨rfl, by rw [dec_vint]; exact k _ fun _ => .bl _⟩
  · exact .inr ⟨p, p2, h1, h2, h3, h4, k _ fun _ => .bl _⟩
theorem sem_ne : SemP K (rNe' K) sNe := by
  intro x y dx dy d H Q rx ry q k
  obtain ⟨b, q1, q2⟩ := Option.map_eq_some_iff.mp q
  subst q2
  rcases eqD_cases rx ry q1 with ⟨i, j, rfl, rfl, rfl⟩ | ⟨p, p2, h1, h2, h3, h4, rfl⟩
  · exact .inl ⟨rfl, by rw [dec_vint]; exact k _ fun _ => .bl _⟩
  · exact .inr ⟨p, p2, h1, h2, h3, h4, k _ fun _ => .bl _⟩
/-- flat things -/
def flatD : D → Option V
  | .non => some .non
  | .bl b => some (.bl b)
  | .int i => some (.int i)
  | .str x => some (.str x)
  | _ => none
def flatDs : List D → Option (List V)
  | [] => some []
  | d :: ds => (flatD d).bind fun v => (flatDs ds).map (v :: ·)
theorem flat_is {x v : V} {d : D} (r : Rp K H x d) (e : flatD d = some v) : x = v ∧ flatV v = true := by
  cases r <;> first | (cases e; exact ⟨rfl, rfl⟩) | cases e
theorem flats_are : ∀ {xs vs : List V} {ds : List D}, Rps K H xs ds → flatDs ds = some vs → xs = vs ∧ vs.all flatV = true
  | _, _, [], h, e => by cases h; cases e; exact ⟨rfl, rfl⟩
  | _, _, d :: ds, h, e => by
    cases h with
    | cons h1 h2 =>
      obtain ⟨v, e1, e⟩ := Option.bind_eq_some_iff.mp (show (flatD d).bind (fun v => (flatDs ds).map (v :: ·)) = _ from e)
      obtain ⟨vs, e2, e3⟩ := Option.map_eq_some_iff.mp e
      subst e3
      obtain ⟨q1, q2⟩ := flat_is h1 e1
      obtain ⟨q3, q4⟩ := flats_are h2 e2
      subst q1; subst q3
      exact ⟨rfl, by rw [List.all_cons, q2, q4]; rfl⟩
def sIn (neg : Bool) (a b : D) : Option D := (flatD a).bind fun v => (itemsOf b).bind fun ds => (flatDs ds).bind fun vs => some (.bl (if neg then !inV v vs else inV v vs))
theorem sem_in {neg : Bool} : SemP K (L2.rIn K neg) (sIn neg) := by
  intro x y dx dy d H Q rx ry q k
  obtain ⟨v, e1, q⟩ := Option.bind_eq_some_iff.mp q
  obtain ⟨ds, e2, q⟩ := Option.bind_eq_some_iff.mp q
  obtain ⟨vs, e3, q⟩ := Option.bind_eq_some_iff.mp q
  cases q
  obtain ⟨q1, q2⟩ := flat_is rx e1
  subst q1
  cases ry with
  | tup h1 h2 =>
    cases e2
    obtain ⟨q3, q4⟩ := flats_are h2 e3
    subst q3
    exact ⟨_, _, rfl, .inr h1, q2, q4, k _ fun _ => .bl _⟩
  | lst h1 h2 =>
    cases e2
    obtain ⟨q3, q4⟩ := flats_are h2 e3
    subst q3
    exact ⟨_, _, rfl, .inl (SqL.of h1), q2, q4, k _ fun _ => .bl _⟩
  | _ => cases e2

/-! ### subscripts -/
def sIdx : D → D → Option D
  | .lst ds, .int i => (ixN ds.length i).bind fun j => ds[j]?
  | .tup ds, .int i => (ixN ds.length i).bind fun j => ds[j]?
  | _, _ => none
def rIdx (K : PySem.W.Frag) : R2 := fun x y H Q => rIxL K x y H Q ∨ rIxT K x y H Q
theorem ix_R {X : Cx} : IxR X (rIdx X.K) := ix_list.or ix_tup
theorem at_of {xs : List V} {ds : List D} {i : Int} {d : D} {G : Hp} (h : Rps K G xs ds) (q : ((ixN ds.length i).bind fun j => ds[j]?) = some d) : ∃ v, atI xs i = some v ∧ Rp K G v d := by
  obtain ⟨j, q1, q2⟩ := Option.bind_eq_some_iff.mp q
  obtain ⟨v, h1, h2⟩ := h.get q2
  exact ⟨v, by unfold atI; rw [h.length, q1]; exact h1, h2⟩
theorem sem_idx : Sem2 K (rIdx K) sIdx := by
  intro x y dx dy d G H Q e rx ry q k
  cases rx with
  | @lst a xs ds h1 h2 =>
    cases ry with
    | int i =>
      obtain ⟨v, a1, a2⟩ := at_of h2 q
      exact .inl ⟨a, xs, i, v, rfl, rfl, SqL.of (e _ _ h1), a1, k v G H (Gr.refl e) a2⟩
    | _ => cases q
  | @tup a xs ds h1 h2 =>
    cases ry with
    | int i =>
      obtain ⟨v, a1, a2⟩ := at_of h2 q
      exact .inr ⟨a, xs, i, v, rfl, rfl, same_sqt e h1, a1, k v G H (Gr.refl e) a2⟩
    | _ => cases q
  | _ => cases ry <;> cases q
end

section
variable {X : Cx} {a b c : Expr} {ma mb mc : Ex} {pos : Pos}
theorem ok_add (ha : OkE X a ma) (hb : OkE X b mb) : OkE X (.BinOp a .Add b pos) (eBin sAdd ma mb) := ok_bin op_addR sem_add ha hb
theorem ok_sub (ha : OkE X a ma) (hb : OkE X b mb) : OkE X (.BinOp a .Sub b pos) (eBin (sInt fSub) ma mb) := ok_bin op_subR sem_sub ha hb
theorem ok_mul (ha : OkE X a ma) (hb : OkE X b mb) : OkE X (.BinOp a .Mult b pos) (eBin sMul ma mb) := ok_bin op_mulR sem_mul ha hb
theorem ok_fdiv (ha : OkE X a ma) (hb : OkE X b mb) : OkE X (.BinOp a .FloorDiv b pos) (eBin (sInt fFdiv) ma mb) := ok_bin op_fdivN sem_fdiv ha hb
theorem ok_mod (ha : OkE X a ma) (hb : OkE X b mb) : OkE X (.BinOp a .Mod b pos) (eBin (sInt fMod) ma mb) := ok_bin op_modN sem_mod ha hb
theorem ok_pow (ha : OkE X a ma) (hb : OkE X b mb) : OkE X (.BinOp a .Pow b pos) (eBin (sInt fPow) ma mb) := ok_bin op_pow sem_pow ha hb
def fLt (i j : Int) : Bool := decide (i < j)
def fLe (i j : Int) : Bool := decide (i ≤ j)
def fGt (i j : Int) : Bool := decide (j < i)
def fGe (i j : Int) : Bool := decide (j ≤ i)
theorem ok_lt (ha : OkE X a ma) (hb : OkE X b mb) : OkE X (.Compare a [.Lt] [b] pos) (eBin (sCmp fLt) ma mb) := ok_cmp op_lt sem_cmp ha.p hb.p
theorem ok_le (ha : OkE X a ma) (hb : OkE X b mb) : OkE X (.Compare a [.LtE] [b] pos) (eBin (sCmp fLe) ma mb) := ok_cmp op_le sem_cmp ha.p hb.p
theorem ok_gt (ha : OkE X a ma) (hb : OkE X b mb) : OkE X (.Compare a [.Gt] [b] pos) (eBin (sCmp fGt) ma mb) := ok_cmp op_gt sem_cmp ha.p hb.p
theorem ok_ge (ha : OkE X a ma) (hb : OkE X b mb) : OkE X (.Compare a [.GtE] [b] pos) (eBin (sCmp fGe) ma mb) := ok_cmp op_ge sem_cmp ha.p hb.p
theorem ok_eq (hu : X.A.units + 64 < cLine) (ha : OkP X a ma) (hb : OkP X b mb) : OkE X (.Compare a [.Eq] [b] pos) (eBin sEq ma mb) := ok_cmp (op_eqR hu) sem_eq ha hb
theorem ok_ne (hu : X.A.units + 64 < cLine) (ha : OkP X a ma) (hb : OkP X b mb) : OkE X (.Compare a [.NotEq] [b] pos) (eBin sNe ma mb) := ok_cmp (op_neR hu) sem_ne ha hb
theorem ok_in (ha : OkP X a ma) (hb : OkP X b mb) (hm : behindInMarks .In b = false := by with_unfolding_all rfl) : OkE X (.Compare a [.In] [b] pos) (eBin (sIn false) ma mb) := ok_cmp op_in_seq sem_in ha hb hm
theorem ok_nin (ha : OkP X a ma) (hb : OkP X b mb) (hm : behindInMarks .NotIn b = false := by with_unfolding_all rfl) : OkE X (.Compare a [.NotIn] [b] pos) (eBin (sIn true) ma mb) := ok_cmp op_notIn_seq sem_in ha hb hm
theorem ok_ltT (ha : OkE X a ma) (hb : OkE X b mb) : OkT X (.Compare a [.Lt] [b] pos) (bBin (sCmp fLt) ma mb) := ok_cmpT op_lt sem_cmp ha.p hb.p
theorem ok_leT (ha : OkE X a ma) (hb : OkE X b mb) : OkT X (.Compare a [.LtE] [b] pos) (bBin (sCmp fLe) ma mb) := ok_cmpT op_le sem_cmp ha.p hb.p
theorem ok_gtT (ha : OkE X a ma) (hb : OkE X b mb) : OkT X (.Compare a [.Gt] [b] pos) (bBin (sCmp fGt) ma mb) := ok_cmpT op_gt sem_cmp ha.p hb.p
theorem ok_geT (ha : OkE X a ma) (hb : OkE X b mb) : OkT X (.Compare a [.GtE] [b] pos) (bBin (sCmp fGe) ma mb) := ok_cmpT op_ge sem_cmp ha.p hb.p
theorem ok_eqT (hu : X.A.units + 64 < cLine) (ha : OkP X a ma) (hb : OkP X b mb) : OkT X (.Compare a [.Eq] [b] pos) (bBin sEq ma mb) := ok_cmpT (op_eqR hu) sem_eq ha hb
theorem ok_neT (hu : X.A.units + 64 < cLine) (ha : OkP X a ma) (hb : OkP X b mb) : OkT X (.Compare a [.NotEq] [b] pos) (bBin sNe ma mb) := ok_cmpT (op_neR hu) sem_ne ha hb
theorem ok_inT (ha : OkP X a ma) (hb : OkP X b mb) (hm : behindInMarks .In b = false := by with_unfolding_all rfl) : OkT X (.Compare a [.In] [b] pos) (bBin (sIn false) ma mb) := ok_cmpT op_in_seq sem_in ha hb hm
theorem ok_ninT (ha : OkP X a ma) (hb : OkP X b mb) (hm : behindInMarks .NotIn b = false := by with_unfolding_all rfl) : OkT X (.Compare a [.NotIn] [b] pos) (bBin (sIn true) ma mb) := ok_cmpT op_notIn_seq sem_in ha hb hm
def eNeg (m : Ex) : Ex := fun env => (m env).bind fun d => match d with
  | .int i => some (.int (-i))
  | _ => none
theorem ok_neg (ha : OkE X a ma) : OkE X (.UnaryOp .USub a pos) (eNeg ma) :=
  weakE (pe_un un_neg ha) fun σ H Q ⟨O, env, G, d, rl, e, k⟩ => by
    obtain ⟨x, e1, e2⟩ := Option.bind_eq_some_iff.mp e
    split at e2
    · cases e2
      refine ⟨O, env, G, _, rl, e1, fun v G' H' g r => ?_⟩
      cases r
      exact ⟨_, rfl, k _ G' H' g (.int _)⟩
    · cases e2
theorem ok_idx (ha : OkE X a ma) (hb : OkE X b mb) (hs : PlainIx b := by exact fun _ _ => rfl) : OkE X (.Subscript a b pos) (eBin sIdx ma mb) :=
  weakE (pe_ix ix_R ha hb hs) fun σ H Q h => step2 rfl sem_idx h
/-- a name's item, owned or not -/
def eIdxV (i : Nat) (m : Ex) : Ex := fun env => match env[i]? with
  | some (some (_, d)) => (m env).bind fun j => sIdx d j
  | _ => none
theorem ok_idxV (i : Nat) {x : Str} {p : Pos} (hb : OkE X b mb) (hs : PlainIx b := by exact fun _ _ => rfl) (hN : X.N[i]? = some x := by rfl) (hv : Vis X.env.scope x := by first | exact Or.inl rfl | exact Or.inr (Or.inl rfl) | exact Or.inr (Or.inr rfl))
    (hd : (x == ("__debug__" : Str)) = false := by decide) (hcd : (x == ("__classdict__" : Str)) = false := by decide) : OkE X (.Subscript (.Name x p) b pos) (eIdxV i mb) :=
  weakE (pe_ix ix_R (pe_var (i := i) hN hv hd hcd) hb hs) fun σ H Q ⟨O, env, G, d, rl, e, k⟩ => by
    unfold eIdxV at e
    split at e
    · rename_i w dd hh
      obtain ⟨j, e1, e2⟩ := Option.bind_eq_some_iff.mp e
      cases w with
      | false =>
        obtain ⟨v, h1, h2⟩ := rl.fr i dd hh
        refine ⟨v, h1, O, env, G, j, rl, e1, fun u G1 H1 g1 r1 => ?_⟩
        exact sem_idx v u dd j d G1 H1 Q g1.gh (h2.mono g1.g dd v) r1 e2 fun w G2 H2 g2 r2 => k w G2 H2 (g1.trans g2) r2
      | true =>
        obtain ⟨a, h1, h2, h3, h4⟩ := rl.ow i dd hh
        refine ⟨_, h1, O, env, G, j, rl, e1, fun u G1 H1 g1 r1 => ?_⟩
        cases dd with
        | lst ds =>
          obtain ⟨xs, q1, q2⟩ := h4.grow g1
          cases r1 with
          | int n =>
            obtain ⟨v, a1, a2⟩ := at_of q2 e2
            exact .inl ⟨a, xs, n, v, rfl, rfl, SqL.of q1, a1, k v G1 H1 g1 a2⟩
          | _ => cases e2
        | dct _ => cases e2
        | _ => exact h4.elim
    · cases e

/-! ### slices -/
abbrev Ox := Env → Option (Option Int)
def tO (K : PySem.W.Frag) (m : Ox) : TO := fun σ H Q => ∃ (O : Addr → Prop) (env : Env) (G : Hp) (o : Option Int), Rl K O env σ G H ∧ m env = some o ∧ ∀ G' H', Gr G H G' H' → Q o H'
def OkO (X : Cx) (e : Option Expr) (m : Ox) : Prop := PO X e (tO X.K m)
theorem weakO {e : Option Expr} {t t' : TO} (h : PO X e t) (w : ∀ σ H Q, t' σ H Q → t σ H Q) : PO X e t' := ⟨fun pins s σ H Q I q => h.run pins s σ H Q I (w _ _ _ q)⟩
def oNone : Ox := fun _ => some none
def oSome (m : Ex) : Ox := fun env => (m env).bind fun d => match d with
  | .int i => some (some i)
  | _ => none
theorem ok_oN : OkO X none oNone := weakO po_none fun σ H Q ⟨O, env, G, o, rl, e, k⟩ => by cases e; exact k G H (Gr.refl rl.gh)
theorem ok_oS (ha : OkE X a ma) : OkO X (some a) (oSome ma) := weakO (po_some ha) fun σ H Q ⟨O, env, G, o, rl, e, k⟩ => by
  obtain ⟨x, e1, e2⟩ := Option.bind_eq_some_iff.mp e
  split at e2
  · cases e2
    refine ⟨O, env, G, _, rl, e1, fun v G' H' g r => ?_⟩
    cases r
    exact ⟨_, rfl, k G' H' g⟩
  · cases e2
def cutD (ds : List D) (lo hi : Option Int) : List D := (ds.drop (HT.sIx ds.length 0 lo)).take (HT.sIx ds.length ds.length hi - HT.sIx ds.length 0 lo)
theorem cut_rps {K : PySem.W.Frag} {G : Hp} {xs : List V} {ds : List D} (h : Rps K G xs ds) (lo hi : Option Int) : Rps K G (cutV xs lo hi) (cutD ds lo hi) := by
  unfold cutV cutD
  rw [h.length]
  exact (h.drop _).take _
def sSl : D → Option Int → Option Int → Option D
  | .lst ds, lo, hi => some (.lst (cutD ds lo hi))
  | .tup ds, lo, hi => some (.tup (cutD ds lo hi))
  | _, _, _ => none
def eSl (m : Ex) (lo hi : Ox) : Ex := fun env => (m env).bind fun d => (lo env).bind fun l => (hi env).bind fun h => sSl d l h
theorem ok_sl {lo hi : Option Expr} {ml mh : Ox} {p2 : Pos} (ha : OkE X a ma) (hl : OkO X lo ml) (hh : OkO X hi mh) : OkE X (.Subscript a (.Slice lo hi none p2) pos) (eSl ma ml mh) :=
  weakE (pe_slice (sl_list.or sl_tupA) ha hl hh) fun σ H Q ⟨O, env, G, d, rl, e, k⟩ => by
    obtain ⟨x, e1, e⟩ := Option.bind_eq_some_iff.mp e
    obtain ⟨l, e2, e⟩ := Option.bind_eq_some_iff.mp e
    obtain ⟨h, e3, e4⟩ := Option.bind_eq_some_iff.mp e
    refine ⟨O, env, G, x, rl, e1, fun v G1 H1 g1 r1 => ⟨O, env, G1, l, rl.grow g1, e2, fun G2 H2 g2 => ⟨O, env, G2, h, (rl.grow g1).grow g2, e3, fun G3 H3 g3 => ?_⟩⟩⟩
    have g := (g1.trans g2).trans g3
    have r3 := (r1.mono g2.g _ _).mono g3.g _ _
    cases r3 with
    | @lst a xs ds h1 h2 =>
      cases e4
      refine .inl ⟨a, xs, rfl, SqL.of (g3.gh _ _ h1), fun p hp => ?_⟩
      have g4 := Gr.new (o := .lst (cutV xs l h)) g3.gh hp
      exact k _ _ _ (g.trans g4) (.lst upd_same ((cut_rps h2 l h).mono g4.g _ _))
    | @tup a xs ds h1 h2 =>
      cases e4
      refine .inr ⟨a, xs, rfl, same_sqt g3.gh h1, fun hw => ?_, fun hw p hp => ?_⟩
      · refine k _ _ _ g (.tup h1 ?_)
        have hc : cutD ds l h = ds := by
          unfold cutD
          rw [← h2.length, hw.1, hw.2, Nat.sub_zero, List.drop_zero, h2.length, List.take_length]
        rw [hc]
        exact h2
      · have g4 := Gr.new (o := .tup (cutV xs l h)) g3.gh hp
        exact k _ _ _ (g.trans g4) (.tup (SqT.of upd_same) ((cut_rps h2 l h).mono g4.g _ _))
    | _ => cases e4
end

/-! ### calls of built-ins -/
def SemC (K : PySem.W.Frag) (r : List V → Hp → VK → Prop) (sem : List D → Option D) : Prop :=
  ∀ (xs : List V) (ds : List D) (d : D) (G H : Hp) (Q : VK), Same G H → Rps K G xs ds → sem ds = some d → (∀ v G' H', Gr G H G' H' → Rp K G' v d → Q v H') → r xs H Q
def eCB (sem : List D → Option D) (m : Ax) : Ex := fun env => (m env).bind sem
section
variable {X : Cx} {e : Expr} {es : List Expr} {ms : Ax} {r : List V → Hp → VK → Prop} {sem : List D → Option D} {p pos : Pos} {x : Str} {id T : String}
theorem stepC (hs : SemC X.K r sem) {σ : L2.St} {H : Hp} {Q : VK} (h : tE X.K (eCB sem ms) σ H Q) : tCB r (tA X.K ms) σ H Q := by
  obtain ⟨O, env, G, d, rl, e, k⟩ := h
  obtain ⟨ds, e1, e2⟩ := Option.bind_eq_some_iff.mp e
  exact ⟨O, env, G, ds, rl, e1, fun vs G1 H1 g1 r1 => hs vs ds d G1 H1 Q g1.gh r1 e2 fun v G2 H2 g2 r2 => k v G2 H2 (g1.trans g2) r2⟩
theorem ok_cb (hc : CallR X (.builtin id) r) (hs : SemC X.K r sem) (hm : X.mg x = none) (hv : bootBuiltins x = some (.builtin id)) (ha : OkA X (e :: es) ms) (hg : Gl X x := by rfl) (hn : x ≠ "__name__" := by decide) (hdb : (x == ("__debug__" : Str)) = false := by decide)
    (he : starEach (e :: es) X.env = (false, eval e X.env) :: starEach es X.env := by rfl) (hpl : (backTo pos (starEach es X.env)).any (·.1) = false := by rfl) : OkE X (.Call (.Name x p) (e :: es) [] pos) (eCB sem ms) :=
  weakE (pe_callB hc hg hm hv ha hn hdb he hpl) fun σ H Q h => stepC hs h
theorem ok_ct (hc : CallR X (.type T) r) (hs : SemC X.K r sem) (hm : X.mg x = none) (hv : bootBuiltins x = some (.type T)) (ha : OkA X (e :: es) ms) (hg : Gl X x := by rfl) (hn : x ≠ "__name__" := by decide) (hdb : (x == ("__debug__" : Str)) = false := by decide)
    (he : starEach (e :: es) X.env = (false, eval e X.env) :: starEach es X.env := by rfl) (hpl : (backTo pos (starEach es X.env)).any (·.1) = false := by rfl) : OkE X (.Call (.Name x p) (e :: es) [] pos) (eCB sem ms) :=
  weakE (pe_callTy hc hg hm hv ha hn hdb he hpl) fun σ H Q h => stepC hs h
end
section
variable {K : PySem.W.Frag}
theorem rps1 {xs : List V} {d : D} {G : Hp} (h : Rps K G xs [d]) : ∃ v, xs = [v] ∧ Rp K G v d := by
  cases h with
  | cons h1 h2 => cases h2; exact ⟨_, rfl, h1⟩
def cLen : List D → Option D
  | [.tup ds] => some (.int (ds.length : Nat))
  | [.lst ds] => some (.int (ds.length : Nat))
  | _ => none
theorem sem_len : SemC K (fun xs H Q => ∃ p ys, xs = [.ref p] ∧ (SqL K H p ys ∨ SqT K H p ys) ∧ Q (.int (ys.length : Nat)) H) cLen := by
  intro xs ds d G H Q e h q k
  unfold cLen at q
  split at q
  · obtain ⟨v, rfl, r⟩ := rps1 h
    cases q
    cases r with
    | tup h1 h2 => exact ⟨_, _, rfl, .inr (same_sqt e h1), by rw [h2.length]; exact k _ G H (Gr.refl e) (.int _)⟩
  · obtain ⟨v, rfl, r⟩ := rps1 h
    cases q
    cases r with
    | lst h1 h2 => exact ⟨_, _, rfl, .inl (SqL.of (e _ _ h1)), by rw [h2.length]; exact k _ G H (Gr.refl e) (.int _)⟩
  · cases q
def cAbs : List D → Option D
  | [.int i] => some (.int (if i < 0 then -i else i))
  | _ => none
theorem sem_abs : SemC K (fun xs H Q => ∃ i, xs = [.int i] ∧ Q (.int (if i < 0 then -i else i)) H) cAbs := by
  intro xs ds d G H Q e h q k
  unfold cAbs at q
  split at q
  · obtain ⟨v, rfl, r⟩ := rps1 h
    cases q; cases r
    exact ⟨_, rfl, k _ G H (Gr.refl e) (.int _)⟩
  · cases q
def cInt : List D → Option D
  | [.int i] => some (.int i)
  | [.bl b] => some (.int (if b then 1 else 0))
  | _ => none
theorem sem_intc : SemC K (fun xs H Q => (∃ i, xs = [.int i] ∧ Q (.int i) H) ∨ ∃ k, xs = [.bl k] ∧ Q (.int (if k then 1 else 0)) H) cInt := by
  intro xs ds d G H Q e h q k
  unfold cInt at q
  split at q
  · obtain ⟨v, rfl, r⟩ := rps1 h
    cases q; cases r
    exact .inl ⟨_, rfl, k _ G H (Gr.refl e) (.int _)⟩
  · obtain ⟨v, rfl, r⟩ := rps1 h
    cases q; cases r
    exact .inr ⟨_, rfl, k _ G H (Gr.refl e) (.int _)⟩
  · cases q
def cList : List D → Option D
  | [.tup ds] => some (.lst ds)
  | [.lst ds] => some (.lst ds)
  | _ => none
theorem sem_list : SemC K (fun xs H Q => ∃ p ys, xs = [.ref p] ∧ (SqL K H p ys ∨ SqT K H p ys) ∧ ∀ l, H l = none → Q (.ref l) (upd H l (.lst ys))) cList := by
  intro xs ds d G H Q e h q k
  unfold cList at q
  split at q
  · obtain ⟨v, rfl, r⟩ := rps1 h
    cases q
    cases r with
    | @tup a ys es h1 h2 =>
      refine ⟨_, _, rfl, .inr (same_sqt e h1), fun p hp => ?_⟩
      have g := Gr.new (o := .lst ys) e hp
      exact k _ _ _ g (.lst upd_same (h2.mono g.g _ _))
  · obtain ⟨v, rfl, r⟩ := rps1 h
    cases q
    cases r with
    | @lst a ys es h1 h2 =>
      refine ⟨_, _, rfl, .inl (SqL.of (e _ _ h1)), fun p hp => ?_⟩
      have g := Gr.new (o := .lst ys) e hp
      exact k _ _ _ g (.lst upd_same (h2.mono g.g _ _))
  · cases q
def cTup : List D → Option D
  | [.tup ds] => some (.tup ds)
  | [.lst ds] => some (.tup ds)
  | _ => none
theorem sem_tup : SemC K (fun xs H Q => ∃ p ys, xs = [.ref p] ∧ ((SqL K H p ys ∧ ∀ l, H l = none → Q (.ref l) (upd H l (.tup ys))) ∨ (SqT K H p ys ∧ Q (.ref p) H))) cTup := by
  intro xs ds d G H Q e h q k
  unfold cTup at q
  split at q
  · obtain ⟨v, rfl, r⟩ := rps1 h
    cases q
    cases r with
    | @tup a ys es h1 h2 => exact ⟨_, _, rfl, .inr ⟨same_sqt e h1, k _ G H (Gr.refl e) (.tup h1 h2)⟩⟩
  · obtain ⟨v, rfl, r⟩ := rps1 h
    cases q
    cases r with
    | @lst a ys es h1 h2 =>
      refine ⟨_, _, rfl, .inl ⟨SqL.of (e _ _ h1), fun p hp => ?_⟩⟩
      have g := Gr.new (o := .tup ys) e hp
      exact k _ _ _ g (.tup (SqT.of upd_same) (h2.mono g.g _ _))
  · cases q
/-- ints -/
def intD : D → Option Int
  | .int i => some i
  | _ => none
def intsD : List D → Option (List Int)
  | [] => some []
  | d :: ds => (intD d).bind fun i => (intsD ds).map (i :: ·)
theorem ints_are {H : Hp} : ∀ {xs : List V} {ds : List D} {ns : List Int}, Rps K H xs ds → intsD ds = some ns → xs = ns.map V.int
  | _, [], _, h, e => by cases h; cases e; rfl
  | _, d :: ds, _, h, e => by
    cases h with
    | cons h1 h2 =>
      obtain ⟨v, e1, e⟩ := Option.bind_eq_some_iff.mp (show (intD d).bind (fun i => (intsD ds).map (i :: ·)) = _ from e)
      obtain ⟨vs, e2, e3⟩ := Option.map_eq_some_iff.mp e
      subst e3
      rw [ints_are h2 e2]
      cases h1 <;> first | (cases e1; rfl) | cases e1
def boolD : D → Option Bool
  | .bl i => some i
  | _ => none
def boolsD : List D → Option (List Bool)
  | [] => some []
  | d :: ds => (boolD d).bind fun i => (boolsD ds).map (i :: ·)
theorem bools_are {H : Hp} : ∀ {xs : List V} {ds : List D} {ns : List Bool}, Rps K H xs ds → boolsD ds = some ns → xs = ns.map V.bl
  | _, [], _, h, e => by cases h; cases e; rfl
  | _, d :: ds, _, h, e => by
    cases h with
    | cons h1 h2 =>
      obtain ⟨v, e1, e⟩ := Option.bind_eq_some_iff.mp (show (boolD d).bind (fun i => (boolsD ds).map (i :: ·)) = _ from e)
      obtain ⟨vs, e2, e3⟩ := Option.map_eq_some_iff.mp e
      subst e3
      rw [bools_are h2 e2]
      cases h1 <;> first | (cases e1; rfl) | cases e1
def cAll : List D → Option D
  | [.lst ds] => (boolsD ds).map fun bs => .bl (bs.all id)
  | _ => none
def cAny : List D → Option D
  | [.lst ds] => (boolsD ds).map fun bs => .bl (bs.any id)
  | _ => none
def cSum : List D → Option D
  | [.lst ds] => (intsD ds).map fun ns => .int ns.sum
  | _ => none
theorem sem_all : SemC K (rAll K) cAll := by
  intro xs ds d G H Q e h q k
  unfold cAll at q
  split at q
  · obtain ⟨v, rfl, r⟩ := rps1 h
    obtain ⟨bs, q1, q2⟩ := Option.map_eq_some_iff.mp q
    subst q2
    cases r with
    | @lst a ys es h1 h2 =>
      have z := bools_are h2 q1
      subst z
      exact ⟨a, bs, rfl, SqL.of (e _ _ h1), k _ G H (Gr.refl e) (.bl _)⟩
  · cases q
theorem sem_any : SemC K (rAny K) cAny := by
  intro xs ds d G H Q e h q k
  unfold cAny at q
  split at q
  · obtain ⟨v, rfl, r⟩ := rps1 h
    obtain ⟨bs, q1, q2⟩ := Option.map_eq_some_iff.mp q
    subst q2
    cases r with
    | @lst a ys es h1 h2 =>
      have z := bools_are h2 q1
      subst z
      exact ⟨a, bs, rfl, SqL.of (e _ _ h1), k _ G H (Gr.refl e) (.bl _)⟩
  · cases q
theorem sem_sum : SemC K (rSum K) cSum := by
  intro xs ds d G H Q e h q k
  unfold cSum at q
  split at q
  · obtain ⟨v, rfl, r⟩ := rps1 h
    obtain ⟨bs, q1, q2⟩ := Option.map_eq_some_iff.mp q
    subst q2
    cases r with
    | @lst a ys es h1 h2 =>
      have z := ints_are h2 q1
      subst z
      exact ⟨a, bs, rfl, SqL.of (e _ _ h1), k _ G H (Gr.refl e) (.int _)⟩
  · cases q
/-- the greatest, the least of a list of ints -/
def maxL : List Int → Option Int
  | [] => none
  | i :: r => some (r.foldl (fun a b => if a ≤ b then b else a) i)
def minL : List Int → Option Int
  | [] => none
  | i :: r => some (r.foldl (fun a b => if b ≤ a then b else a) i)
theorem maxL_is : ∀ (r : List Int) (i : Int), (r.foldl (fun a b => if a ≤ b then b else a) i) ∈ i :: r ∧ ∀ y ∈ i :: r, y ≤ r.foldl (fun a b => if a ≤ b then b else a) i
  | [], i => ⟨by simp, by simp⟩
  | j :: r, i => by
    rw [List.foldl_cons]
    by_cases h : i ≤ j
    · rw [if_pos h]
      obtain ⟨h1, h2⟩ := maxL_is r j
      refine ⟨List.mem_cons_of_mem _ h1, fun y hy => ?_⟩
      rcases List.mem_cons.mp hy with rfl | hy
      · exact Int.le_trans h (h2 j (by simp))
      · exact h2 y hy
    · rw [if_neg h]
      obtain ⟨h1, h2⟩ := maxL_is r i
      refine ⟨?_, fun y hy => ?_⟩
      · rcases List.mem_cons.mp h1 with z | z
        · rw [z]; simp
        · exact List.mem_cons_of_mem _ (List.mem_cons_of_mem _ z)
      · rcases List.mem_cons.mp hy with rfl | hy
        · exact h2 _ (by simp)
        · rcases List.mem_cons.mp hy with rfl | hy
          · exact Int.le_trans (by omega) (h2 i (by simp))
          · exact h2 y (List.mem_cons_of_mem _ hy)
theorem minL_is : ∀ (r : List Int) (i : Int), (r.foldl (fun a b => if b ≤ a then b else a) i) ∈ i :: r ∧ ∀ y ∈ i :: r, r.foldl (fun a b => if b ≤ a then b else a) i ≤ y
  | [], i => ⟨by simp, by simp⟩
  | j :: r, i => by
    rw [List.foldl_cons]
    by_cases h : j ≤ i
    · rw [if_pos h]
      obtain ⟨h1, h2⟩ := minL_is r j
      refine ⟨List.mem_cons_of_mem _ h1, fun y hy => ?_⟩
      rcases List.mem_cons.mp hy with rfl | hy
      · exact Int.le_trans (h2 j (by simp)) h
      · exact h2 y hy
    · rw [if_neg h]
      obtain ⟨h1, h2⟩ := minL_is r i
      refine ⟨?_, fun y hy => ?_⟩
      · rcases List.mem_cons.mp h1 with z | z
        · rw [z]; simp
        · exact List.mem_cons_of_mem _ (List.mem_cons_of_mem _ z)
      · rcases List.mem_cons.mp hy with rfl | hy
        · exact h2 _ (by simp)
        · rcases List.mem_cons.mp hy with rfl | hy
          · exact Int.le_trans (h2 i (by simp)) (by omega)
          · exact h2 y (List.mem_cons_of_mem _ hy)
def cMax : List D → Option D
  | [.lst ds] => (intsD ds).bind fun ns => (maxL ns).map .int
  | _ => none
def cMin : List D → Option D
  | [.lst ds] => (intsD ds).bind fun ns => (minL ns).map .int
  | _ => none
theorem sem_max : SemC K (rMax K) cMax := by
  intro xs ds d G H Q e h q k
  unfold cMax at q
  split at q
  · obtain ⟨v, rfl, r⟩ := rps1 h
    obtain ⟨ns, q1, q⟩ := Option.bind_eq_some_iff.mp q
    obtain ⟨m, q2, q3⟩ := Option.map_eq_some_iff.mp q
    subst q3
    cases r with
    | @lst a ys es h1 h2 =>
      have z := ints_are h2 q1
      subst z
      cases ns with
      | nil => cases q2
      | cons i r =>
        cases q2
        obtain ⟨m1, m2⟩ := maxL_is r i
        refine ⟨a, i :: r, rfl, SqL.of (e _ _ h1), by simp, fun m hm hle => ?_⟩
        have z : m = r.foldl (fun a b => if a ≤ b then b else a) i := Int.le_antisymm (m2 m hm) (hle _ m1)
        rw [z]
        exact k _ G H (Gr.refl e) (.int _)
  · cases q
theorem sem_min : SemC K (rMin K) cMin := by
  intro xs ds d G H Q e h q k
  unfold cMin at q
  split at q
  · obtain ⟨v, rfl, r⟩ := rps1 h
    obtain ⟨ns, q1, q⟩ := Option.bind_eq_some_iff.mp q
    obtain ⟨m, q2, q3⟩ := Option.map_eq_some_iff.mp q
    subst q3
    cases r with
    | @lst a ys es h1 h2 =>
      have z := ints_are h2 q1
      subst z
      cases ns with
      | nil => cases q2
      | cons i r =>
        cases q2
        obtain ⟨m1, m2⟩ := minL_is r i
        refine ⟨a, i :: r, rfl, SqL.of (e _ _ h1), by simp, fun m hm hle => ?_⟩
        have z : m = r.foldl (fun a b => if b ≤ a then b else a) i := Int.le_antisymm (hle _ m1) (m2 m hm)
        rw [z]
        exact k _ G H (Gr.refl e) (.int _)
  · cases q
end
section
variable {X : Cx} {e : Expr} {es : List Expr} {ms : Ax} {p pos : Pos}
theorem ok_len (hm : X.mg "len" = none) (ha : OkA X (e :: es) ms) (hg : Gl X "len" := by rfl) (he : starEach (e :: es) X.env = (false, eval e X.env) :: starEach es X.env := by rfl) (hpl : (backTo pos (starEach es X.env)).any (·.1) = false := by rfl) :
    OkE X (.Call (.Name "len" p) (e :: es) [] pos) (eCB cLen ms) := ok_cb call_len_seq sem_len hm PySem.boot_len ha hg (by decide) (by decide) he hpl
theorem ok_abs (hm : X.mg "abs" = none) (ha : OkA X (e :: es) ms) (hg : Gl X "abs" := by rfl) (he : starEach (e :: es) X.env = (false, eval e X.env) :: starEach es X.env := by rfl) (hpl : (backTo pos (starEach es X.env)).any (·.1) = false := by rfl) :
    OkE X (.Call (.Name "abs" p) (e :: es) [] pos) (eCB cAbs ms) := ok_cb call_abs sem_abs hm (by decide +kernel) ha hg (by decide) (by decide) he hpl
theorem ok_intc (hm : X.mg "int" = none) (ha : OkA X (e :: es) ms) (hg : Gl X "int" := by rfl) (he : starEach (e :: es) X.env = (false, eval e X.env) :: starEach es X.env := by rfl) (hpl : (backTo pos (starEach es X.env)).any (·.1) = false := by rfl) :
    OkE X (.Call (.Name "int" p) (e :: es) [] pos) (eCB cInt ms) := ok_ct call_int1 sem_intc hm (by decide +kernel) ha hg (by decide) (by decide) he hpl
theorem ok_list (hm : X.mg "list" = none) (ha : OkA X (e :: es) ms) (hg : Gl X "list" := by rfl) (he : starEach (e :: es) X.env = (false, eval e X.env) :: starEach es X.env := by rfl) (hpl : (backTo pos (starEach es X.env)).any (·.1) = false := by rfl) :
    OkE X (.Call (.Name "list" p) (e :: es) [] pos) (eCB cList ms) := ok_ct call_list_of sem_list hm (by decide +kernel) ha hg (by decide) (by decide) he hpl
theorem ok_tuple (hm : X.mg "tuple" = none) (ha : OkA X (e :: es) ms) (hg : Gl X "tuple" := by rfl) (he : starEach (e :: es) X.env = (false, eval e X.env) :: starEach es X.env := by rfl) (hpl : (backTo pos (starEach es X.env)).any (·.1) = false := by rfl) :
    OkE X (.Call (.Name "tuple" p) (e :: es) [] pos) (eCB cTup ms) := ok_ct call_tuple_of sem_tup hm (by decide +kernel) ha hg (by decide) (by decide) he hpl
theorem ok_all (hc : X.calm = true) (hm : X.mg "all" = none) (ha : OkA X (e :: es) ms) (hg : Gl X "all" := by rfl) (he : starEach (e :: es) X.env = (false, eval e X.env) :: starEach es X.env := by rfl) (hpl : (backTo pos (starEach es X.env)).any (·.1) = false := by rfl) :
    OkE X (.Call (.Name "all" p) (e :: es) [] pos) (eCB cAll ms) := ok_cb (cr_all hc) sem_all hm (by decide +kernel) ha hg (by decide) (by decide) he hpl
theorem ok_any (hc : X.calm = true) (hm : X.mg "any" = none) (ha : OkA X (e :: es) ms) (hg : Gl X "any" := by rfl) (he : starEach (e :: es) X.env = (false, eval e X.env) :: starEach es X.env := by rfl) (hpl : (backTo pos (starEach es X.env)).any (·.1) = false := by rfl) :
    OkE X (.Call (.Name "any" p) (e :: es) [] pos) (eCB cAny ms) := ok_cb (cr_any hc) sem_any hm (by decide +kernel) ha hg (by decide) (by decide) he hpl
theorem ok_sum (hc : X.calm = true) (hm : X.mg "sum" = none) (ha : OkA X (e :: es) ms) (hg : Gl X "sum" := by rfl) (he : starEach (e :: es) X.env = (false, eval e X.env) :: starEach es X.env := by rfl) (hpl : (backTo pos (starEach es X.env)).any (·.1) = false := by rfl) :
    OkE X (.Call (.Name "sum" p) (e :: es) [] pos) (eCB cSum ms) := ok_cb (cr_sum hc) sem_sum hm (by decide +kernel) ha hg (by decide) (by decide) he hpl
theorem ok_max (hc : X.calm = true) (hm : X.mg "max" = none) (ha : OkA X (e :: es) ms) (hg : Gl X "max" := by rfl) (he : starEach (e :: es) X.env = (false, eval e X.env) :: starEach es X.env := by rfl) (hpl : (backTo pos (starEach es X.env)).any (·.1) = false := by rfl) :
    OkE X (.Call (.Name "max" p) (e :: es) [] pos) (eCB cMax ms) := ok_cb (cr_max hc) sem_max hm (by decide +kernel) ha hg (by decide) (by decide) he hpl
theorem ok_min (hc : X.calm = true) (hm : X.mg "min" = none) (ha : OkA X (e :: es) ms) (hg : Gl X "min" := by rfl) (he : starEach (e :: es) X.env = (false, eval e X.env) :: starEach es X.env := by rfl) (hpl : (backTo pos (starEach es X.env)).any (·.1) = false := by rfl) :
    OkE X (.Call (.Name "min" p) (e :: es) [] pos) (eCB cMin ms) := ok_cb (cr_min hc) sem_min hm (by decide +kernel) ha hg (by decide) (by decide) he hpl
end

/-! ### calls of own defs -/
/-- what a def of data promises -/
def spF (K : PySem.W.Frag) (F : List D → Option D) : Sp := fun vs H Q _ => ∃ (G : Hp) (ds : List D) (d : D), Same G H ∧ Rps K G vs ds ∧ F ds = some d ∧ ∀ v G' H', Gr G H G' H' → Rp K G' v d → Q v H'
theorem ok_call {X : Cx} {k : Nat} {f : Addr} {fd : FuncData} {ps : List Str} {F : List D → Option D} {x : Str} {p pos : Pos} {e : Expr} {es : List Expr} {ms : Ax} (Fo : FnOk X.prog X.w X.K X.mg X.base CX0 k f fd ps (spF X.K F)) (hr : Room k X.A) (hm : X.mg x = some (.ref f)) (hk : PySem.W.keepIn X.K (.ref f) = true)
    (hb : Binds X.K fd ps []) (ha : OkA X (e :: es) ms) (hg : Gl X x := by rfl) (hdb : (x == ("__debug__" : Str)) = false := by decide) (he : starEach (e :: es) X.env = (false, eval e X.env) :: starEach es X.env := by rfl) (hpl : (backTo pos (starEach es X.env)).any (·.1) = false := by rfl) :
    OkE X (.Call (.Name x p) (e :: es) [] pos) (eCB F ms) :=
  weakE (pe_call Fo hr hg hm hk hb .nil pass0 ha hdb he hpl) fun σ H Q ⟨O, env, G, d, rl, e, k⟩ => by
    obtain ⟨ds, e1, e2⟩ := Option.bind_eq_some_iff.mp e
    refine ⟨O, env, G, ds, rl, e1, fun vs G1 H1 g1 r1 => ?_⟩
    show spF X.K F (vs ++ []) H1 Q E0
    rw [List.append_nil]
    exact ⟨G1, ds, d, g1.gh, r1, e2, fun v G2 H2 g2 r2 => k v G2 H2 (g1.trans g2) r2⟩
theorem ok_call0 {X : Cx} {k : Nat} {f : Addr} {fd : FuncData} {F : List D → Option D} {x : Str} {p pos : Pos} (Fo : FnOk X.prog X.w X.K X.mg X.base CX0 k f fd [] (spF X.K F)) (hr : Room k X.A) (hm : X.mg x = some (.ref f)) (hk : PySem.W.keepIn X.K (.ref f) = true)
    (hb : Binds X.K fd [] []) (hg : Gl X x := by rfl) (hdb : (x == ("__debug__" : Str)) = false := by decide) : OkE X (.Call (.Name x p) [] [] pos) (eCB F aNil) :=
  weakE (pe_call0 Fo hr hg hm hk hb .nil pass0 hdb) fun σ H Q ⟨O, env, G, d, rl, e, k⟩ => by
    exact ⟨G, [], d, rl.gh, .nil, e, fun v G2 H2 g2 r2 => k v G2 H2 g2 r2⟩
end Sh
end Part_ShC

section Part_ShD
set_option maxRecDepth 100000
set_option maxHeartbeats 2000000
/-! ShD: what is walked, targets, comprehensions. -/
namespace Sh
open PySem L2

/-! ### what is walked -/
/-- the iterator J yields the items of ds -/
def Walks (K : PySem.W.Frag) (J : It) (ds : List D) (G : Hp) : Prop := ∀ (i : Nat) (G1 H1 : Hp), SameN G G1 → Same G1 H1 →
  (ds.length ≤ i → J.stop i H1) ∧ ∀ d, ds[i]? = some d → J.go i H1 ∧ ∀ x H2, J.yld i H1 x H2 → ∃ G2, Gr G1 H1 G2 H2 ∧ Rp K G2 x d
def tI (K : PySem.W.Frag) (m : Ax) : TI := fun σ H R => ∃ (O : Addr → Prop) (env : Env) (G : Hp) (ds : List D), Rl K O env σ G H ∧ m env = some ds ∧ ∀ J G' H', Gr G H G' H' → Walks K J ds G' → R J H'
def OkI (X : Cx) (tg e : Expr) (m : Ax) : Prop := PI X tg e (tI X.K m)
section
variable {X : Cx} {tg e : Expr}
theorem weakI {t t' : TI} (h : PI X tg e t) (w : ∀ σ H Q, t' σ H Q → t σ H Q) : PI X tg e t' := ⟨fun pins s σ H Q I q => h.run pins s σ H Q I (w _ _ _ q)⟩
variable {K : PySem.W.Frag} {G : Hp}
theorem walks_list {a : Addr} {xs : List V} {ds : List D} (h : G a = some (.lst xs)) (r : Rps K G xs ds) : Walks K (Itl K a) ds G := by
  intro i G1 H1 e1 e2
  have hH : H1 a = some (.lst xs) := e2 _ _ (e1 _ _ h nt_lst)
  refine ⟨fun hi => ⟨xs, SqL.of hH, by rw [r.length]; exact hi⟩, fun d hd => ?_⟩
  obtain ⟨v, q1, q2⟩ := r.get hd
  refine ⟨⟨xs, v, SqL.of hH, q1⟩, fun x H2 y => ?_⟩
  obtain ⟨y1, y2⟩ := y
  subst y1
  have z := y2 xs (SqL.of hH)
  rw [q1] at z; cases z
  exact ⟨G1, Gr.refl e2, q2.monoN e1⟩
theorem walks_tup {a : Addr} {xs : List V} {ds : List D} (h : SqT K G a xs) (r : Rps K G xs ds) : Walks K (Itt K a) ds G := by
  intro i G1 H1 e1 e2
  have hH : SqT K H1 a xs := same_sqt e2 (sqt_n e1 h)
  refine ⟨fun hi => ⟨xs, hH, by rw [r.length]; exact hi⟩, fun d hd => ?_⟩
  obtain ⟨v, q1, q2⟩ := r.get hd
  refine ⟨⟨xs, v, hH, q1⟩, fun x H2 y => ?_⟩
  obtain ⟨y1, y2⟩ := y
  subst y1
  have z := y2 xs hH
  rw [q1] at z; cases z
  exact ⟨G1, Gr.refl e2, q2.monoN e1⟩
def rangeD (lo : Int) (n : Nat) : List D := (List.range n).map fun i => .int (lo + (i : Nat))
theorem rangeD_length (lo : Int) (n : Nat) : (rangeD lo n).length = n := by unfold rangeD; simp
theorem rangeD_get {lo : Int} {n i : Nat} {d : D} (h : (rangeD lo n)[i]? = some d) : i < n ∧ d = .int (lo + (i : Nat)) := by
  unfold rangeD at h
  rw [List.getElem?_map] at h
  obtain ⟨j, h1, h2⟩ := Option.map_eq_some_iff.mp h
  obtain ⟨h3, h4⟩ := List.getElem?_eq_some_iff.mp h1
  rw [List.length_range] at h3
  rw [List.getElem_range] at h4
  subst h4; subst h2
  exact ⟨h3, rfl⟩
theorem walks_range (lo : Int) (n : Nat) : Walks K (Itr lo n) (rangeD lo n) G := by
  intro i G1 H1 e1 e2
  refine ⟨fun hi => by rw [rangeD_length] at hi; exact hi, fun d hd => ?_⟩
  obtain ⟨h1, h2⟩ := rangeD_get hd
  refine ⟨h1, fun x H2 y => ?_⟩
  obtain ⟨y1, y2⟩ := y
  subst y1; subst y2; subst h2
  exact ⟨G1, Gr.refl e2, .int _⟩
/-- a list or a tuple -/
def wItems (m : Ex) : Ax := fun env => (m env).bind itemsOf
def wList (m : Ex) : Ax := fun env => (m env).bind fun d => match d with
  | .lst ds => some ds
  | _ => none
def wTup (m : Ex) : Ax := fun env => (m env).bind fun d => match d with
  | .tup ds => some ds
  | _ => none
theorem ok_wList {m : Ex} (h : OkE X e m) : OkI X tg e (wList m) := weakI (pi_list h) fun σ H R ⟨O, env, G, ds, rl, e, k⟩ => by
  obtain ⟨d, e1, e2⟩ := Option.bind_eq_some_iff.mp e
  refine ⟨O, env, G, d, rl, e1, fun v G1 H1 g1 r1 => ?_⟩
  cases r1 with
  | @lst a xs es h1 h2 => cases e2; exact ⟨a, rfl, ⟨xs, SqL.of (g1.gh _ _ h1)⟩, k _ G1 H1 g1 (walks_list h1 h2)⟩
  | _ => cases e2
theorem ok_wTup {m : Ex} (h : OkE X e m) : OkI X tg e (wTup m) := weakI (pi_tup h) fun σ H R ⟨O, env, G, ds, rl, e, k⟩ => by
  obtain ⟨d, e1, e2⟩ := Option.bind_eq_some_iff.mp e
  refine ⟨O, env, G, d, rl, e1, fun v G1 H1 g1 r1 => ?_⟩
  cases r1 with
  | @tup a xs es h1 h2 => cases e2; exact ⟨a, rfl, ⟨xs, same_sqt g1.gh h1⟩, k _ G1 H1 g1 (walks_tup h1 h2)⟩
  | _ => cases e2
theorem orI {wi wi' : TI} (h : PI X tg e wi) (h' : PI X tg e wi') : PI X tg e (fun σ H R => wi σ H R ∨ wi' σ H R) := ⟨fun pins s σ H R I q => by
  rcases q with q | q
  · exact h.run pins s σ H R I q
  · exact h'.run pins s σ H R I q⟩
/-- a list or a tuple, whichever it is -/
theorem ok_wItems {m : Ex} (h : OkE X e m) : OkI X tg e (wItems m) := weakI (orI (ok_wList (tg := tg) h) (ok_wTup h)) fun σ H R ⟨O, env, G, ds, rl, e, k⟩ => by
  obtain ⟨d, e1, e2⟩ := Option.bind_eq_some_iff.mp e
  cases d with
  | lst es => cases e2; exact .inl ⟨O, env, G, _, rl, by unfold wList; rw [e1]; rfl, k⟩
  | tup es => cases e2; exact .inr ⟨O, env, G, _, rl, by unfold wTup; rw [e1]; rfl, k⟩
  | _ => cases e2
def wRange1 (m : Ax) : Ax := fun env => (m env).bind fun ds => match ds with
  | [.int j] => if -1000000 ≤ j ∧ j ≤ 1000000 then some (rangeD 0 j.toNat) else none
  | _ => none
def wRange2 (m : Ax) : Ax := fun env => (m env).bind fun ds => match ds with
  | [.int i, .int j] => if (-1000000 ≤ i ∧ i ≤ 1000000) ∧ -1000000 ≤ j ∧ j ≤ 1000000 then some (rangeD i (j - i).toNat) else none
  | _ => none
theorem ok_wRange1 {a : Expr} {m : Ax} {p pos : Pos} (hm : X.mg "range" = none) (ha : OkA X [a] m) (hg : Gl X "range" := by rfl) (hs : starEach [a] X.env = [(false, eval a X.env)] := by rfl) : OkI X tg (.Call (.Name "range" p) [a] [] pos) (wRange1 m) :=
  weakI (pi_range1 hg hm ha hs) fun σ H R ⟨O, env, G, ds, rl, e, k⟩ => by
    obtain ⟨es, e1, e2⟩ := Option.bind_eq_some_iff.mp e
    refine ⟨O, env, G, es, rl, e1, fun vs G1 H1 g1 r1 => ?_⟩
    split at e2
    · split at e2
      · rename_i h
        cases e2
        obtain ⟨v, rfl, r⟩ := rps1 r1
        cases r
        exact ⟨_, rfl, by omega, by omega, k _ G1 H1 g1 (walks_range 0 _)⟩
      · cases e2
    · cases e2
theorem ok_wRange2 {a b : Expr} {m : Ax} {p pos : Pos} (hm : X.mg "range" = none) (ha : OkA X [a, b] m) (hg : Gl X "range" := by rfl) (hs : starEach [a, b] X.env = [(false, eval a X.env), (false, eval b X.env)] := by rfl) (hs2 : starEach [b] X.env = [(false, eval b X.env)] := by rfl) :
    OkI X tg (.Call (.Name "range" p) [a, b] [] pos) (wRange2 m) :=
  weakI (pi_range2 hg hm ha hs hs2) fun σ H R ⟨O, env, G, ds, rl, e, k⟩ => by
    obtain ⟨es, e1, e2⟩ := Option.bind_eq_some_iff.mp e
    refine ⟨O, env, G, es, rl, e1, fun vs G1 H1 g1 r1 => ?_⟩
    split at e2
    · split at e2
      · rename_i h
        cases e2
        cases r1 with
        | cons q1 q2 =>
          cases q2 with
          | cons q3 q4 =>
            cases q4; cases q1; cases q3
            exact ⟨_, _, rfl, ⟨by omega, by omega, by omega, by omega⟩, k _ G1 H1 g1 (walks_range _ _)⟩
      · cases e2
    · cases e2
/-- pairs of a place and an item -/
def enumD (ds : List D) : List D := ds.mapIdx fun i d => .tup [.int (i : Nat), d]
theorem enumD_get {ds : List D} {i : Nat} {d : D} (h : (enumD ds)[i]? = some d) : ∃ c, ds[i]? = some c ∧ d = .tup [.int (i : Nat), c] := by
  unfold enumD at h
  rw [List.getElem?_mapIdx] at h
  obtain ⟨c, h1, h2⟩ := Option.map_eq_some_iff.mp h
  exact ⟨c, h1, h2.symm⟩
theorem walks_enum {a : Addr} {xs : List V} {ds : List D} (h : G a = some (.lst xs)) (r : Rps K G xs ds) : Walks K (Ite K a) (enumD ds) G := by
  intro i G1 H1 e1 e2
  have hH : H1 a = some (.lst xs) := e2 _ _ (e1 _ _ h nt_lst)
  refine ⟨fun hi => ⟨xs, SqL.of hH, by rw [r.length]; unfold enumD at hi; rwa [List.length_mapIdx] at hi⟩, fun d hd => ?_⟩
  obtain ⟨c, hc, rfl⟩ := enumD_get hd
  obtain ⟨v, q1, q2⟩ := r.get hc
  refine ⟨⟨xs, v, SqL.of hH, q1⟩, fun x H2 y => ?_⟩
  obtain ⟨T, u, rfl, hT, rfl, y2⟩ := y
  have z := y2 xs (SqL.of hH)
  rw [q1] at z; cases z
  have g := Gr.new (o := .tup [.int (i : Nat), v]) e2 hT
  exact ⟨_, g, .tup (SqT.of upd_same) (.cons (.int _) (.cons ((q2.monoN e1).mono g.g _ _) .nil))⟩
/-- pairs of two lists' items -/
def zipD (as bs : List D) : List D := List.zipWith (fun a b => .tup [a, b]) as bs
theorem zipD_get {as bs : List D} {i : Nat} {d : D} (h : (zipD as bs)[i]? = some d) : ∃ a b, as[i]? = some a ∧ bs[i]? = some b ∧ d = .tup [a, b] := by
  unfold zipD at h
  rw [List.getElem?_zipWith] at h
  cases ha : as[i]? with
  | none => rw [ha] at h; cases h
  | some a =>
    cases hb : bs[i]? with
    | none => rw [ha, hb] at h; cases h
    | some b => rw [ha, hb] at h; cases h; exact ⟨a, b, rfl, rfl, rfl⟩
theorem walks_zip {a b : Addr} {xs ys : List V} {ds es : List D} (h : G a = some (.lst xs)) (r : Rps K G xs ds) (h' : G b = some (.lst ys)) (r' : Rps K G ys es) : Walks K (Itz K a b) (zipD ds es) G := by
  intro i G1 H1 e1 e2
  have hH : H1 a = some (.lst xs) := e2 _ _ (e1 _ _ h nt_lst)
  have hH' : H1 b = some (.lst ys) := e2 _ _ (e1 _ _ h' nt_lst)
  refine ⟨fun hi => ⟨xs, ys, SqL.of hH, SqL.of hH', ?_⟩, fun d hd => ?_⟩
  · unfold zipD at hi
    rw [List.length_zipWith] at hi
    rw [r.length, r'.length]
    omega
  obtain ⟨c1, c2, hc1, hc2, rfl⟩ := zipD_get hd
  obtain ⟨v, q1, q2⟩ := r.get hc1
  obtain ⟨u, q3, q4⟩ := r'.get hc2
  refine ⟨⟨xs, ys, v, u, SqL.of hH, SqL.of hH', q1, q3⟩, fun x H2 y => ?_⟩
  obtain ⟨T, x1, x2, rfl, hT, rfl, y1, y2⟩ := y
  have z := y1 xs (SqL.of hH)
  rw [q1] at z; cases z
  have z := y2 ys (SqL.of hH')
  rw [q3] at z; cases z
  have g := Gr.new (o := .tup [v, u]) e2 hT
  exact ⟨_, g, .tup (SqT.of upd_same) (.cons ((q2.monoN e1).mono g.g _ _) (.cons ((q4.monoN e1).mono g.g _ _) .nil))⟩
theorem walks_zipT {a b : Addr} {xs ys : List V} {ds es : List D} (h : SqT K G a xs) (r : Rps K G xs ds) (h' : SqT K G b ys) (r' : Rps K G ys es) : Walks K (RZ.ItzT K a b) (zipD ds es) G := by
  intro i G1 H1 e1 e2
  have hH : SqT K H1 a xs := same_sqt e2 (sqt_n e1 h)
  have hH' : SqT K H1 b ys := same_sqt e2 (sqt_n e1 h')
  refine ⟨fun hi => ⟨xs, ys, hH, hH', ?_⟩, fun d hd => ?_⟩
  · unfold zipD at hi
    rw [List.length_zipWith] at hi
    rw [r.length, r'.length]
    omega
  obtain ⟨c1, c2, hc1, hc2, rfl⟩ := zipD_get hd
  obtain ⟨v, q1, q2⟩ := r.get hc1
  obtain ⟨u, q3, q4⟩ := r'.get hc2
  refine ⟨⟨xs, ys, v, u, hH, hH', q1, q3⟩, fun x H2 y => ?_⟩
  obtain ⟨T, x1, x2, rfl, hT, rfl, y1, y2⟩ := y
  have z := y1 xs hH
  rw [q1] at z; cases z
  have z := y2 ys hH'
  rw [q3] at z; cases z
  have g := Gr.new (o := .tup [v, u]) e2 hT
  exact ⟨_, g, .tup (SqT.of upd_same) (.cons ((q2.monoN e1).mono g.g _ _) (.cons ((q4.monoN e1).mono g.g _ _) .nil))⟩
def wEnum (m : Ax) : Ax := fun env => (m env).bind fun ds => match ds with
  | [.lst es] => some (enumD es)
  | _ => none
theorem ok_wEnum {e : Expr} {m : Ax} {p pos tpos : Pos} {elts : List Expr} {kk : Nat} (hm : X.mg "enumerate" = none) (ha : OkA X [e] m) (hg : Gl X "enumerate" := by rfl) (hs : starEach [e] X.env = [(false, eval e X.env)] := by rfl) :
    OkI X (.Tuple elts kk tpos) (.Call (.Name "enumerate" p) [e] [] pos) (wEnum m) :=
  weakI (pi_enum hg hm ha hs) fun σ H R ⟨O, env, G, ds, rl, e, k⟩ => by
    obtain ⟨es, e1, e2⟩ := Option.bind_eq_some_iff.mp e
    refine ⟨O, env, G, es, rl, e1, fun vs G1 H1 g1 r1 => ?_⟩
    split at e2
    · cases e2
      obtain ⟨v, rfl, r⟩ := rps1 r1
      cases r with
      | @lst a xs es h1 h2 => exact ⟨a, xs, rfl, SqL.of (g1.gh _ _ h1), k _ G1 H1 g1 (walks_enum h1 h2)⟩
    · cases e2
def wZip (m : Ax) : Ax := fun env => (m env).bind fun ds => match ds with
  | [.lst as, .lst bs] => some (zipD as bs)
  | [.tup as, .tup bs] => some (zipD as bs)
  | _ => none
theorem ok_wZip {e e2 : Expr} {m : Ax} {p pos tpos : Pos} {elts : List Expr} {kk : Nat} (hm : X.mg "zip" = none) (ha : OkA X [e, e2] m) (hg : Gl X "zip" := by rfl)
    (hs : starEach [e, e2] X.env = (false, eval e X.env) :: starEach [e2] X.env := by rfl) (hpl : (backTo pos (starEach [e2] X.env)).any (·.1) = false := by rfl) :
    OkI X (.Tuple elts kk tpos) (.Call (.Name "zip" p) [e, e2] [] pos) (wZip m) :=
  weakI (RZ.pi_zipA hg hm ha hs hpl) fun σ H R ⟨O, env, G, ds, rl, e, k⟩ => by
    obtain ⟨es, e1, e2⟩ := Option.bind_eq_some_iff.mp e
    refine ⟨O, env, G, es, rl, e1, fun vs G1 H1 g1 r1 => ?_⟩
    split at e2
    · cases e2
      cases r1 with
      | cons q1 q2 =>
        cases q2 with
        | cons q3 q4 =>
          cases q4
          cases q1 with
          | @lst a xs es h1 h2 =>
            cases q3 with
            | @lst b ys fs h3 h4 => exact ⟨a, b, xs, ys, rfl, .inl ⟨SqL.of (g1.gh _ _ h1), SqL.of (g1.gh _ _ h3), k _ G1 H1 g1 (walks_zip h1 h2 h3 h4)⟩⟩
    · cases e2
      cases r1 with
      | cons q1 q2 =>
        cases q2 with
        | cons q3 q4 =>
          cases q4
          cases q1 with
          | @tup a xs es h1 h2 =>
            cases q3 with
            | @tup b ys fs h3 h4 => exact ⟨a, b, xs, ys, rfl, .inr ⟨same_sqt g1.gh h1, same_sqt g1.gh h3, k _ G1 H1 g1 (walks_zipT h1 h2 h3 h4)⟩⟩
    · cases e2
end

/-! ### targets -/
abbrev Gx := D → Env → Option Env
abbrev Gsx := List D → Env → Option Env
def tG (K : PySem.W.Frag) (vs : List Nat) (t : Gx) : TG := fun v σ H Q => ∃ (O : Addr → Prop) (env : Env) (G : Hp) (d : D) (env' : Env), Rl K O env σ G H ∧ Rp K G v d ∧ t d env = some env' ∧ ∀ σ', Rl K O env' σ' G H → wipe σ' vs = wipe σ vs → Q σ' H
def tGs (K : PySem.W.Frag) (vs : List Nat) (t : Gsx) : TGs := fun us σ H Q => ∃ (O : Addr → Prop) (env : Env) (G : Hp) (ds : List D) (env' : Env), Rl K O env σ G H ∧ Rps K G us ds ∧ t ds env = some env' ∧ ∀ σ', Rl K O env' σ' G H → wipe σ' vs = wipe σ vs → Q σ' H
def OkG (X : Cx) (vs : List Nat) (tg : Expr) (t : Gx) : Prop := PG X tg (tG X.K vs t)
def OkGs (X : Cx) (vs : List Nat) (tgs : List Expr) (t : Gsx) : Prop := PGs X tgs (tGs X.K vs t)
theorem weakG {X : Cx} {tg : Expr} {t t' : TG} (h : PG X tg t) (w : ∀ v σ H Q, t' v σ H Q → t v σ H Q) : PG X tg t' := ⟨fun pins s σ H v u Q I r q => h.run pins s σ H v u Q I r (w _ _ _ _ q)⟩
theorem weakGs {X : Cx} {tg : List Expr} {t t' : TGs} (h : PGs X tg t) (w : ∀ v σ H Q, t' v σ H Q → t v σ H Q) : PGs X tg t' := ⟨fun pins s σ H v u Q I r q => h.run pins s σ H v u Q I r (w _ _ _ _ q)⟩
def gV (i : Nat) : Gx := fun d env => if i < env.length then some (env.set i (some (false, d))) else none
section
variable {K : PySem.W.Frag} {O : Addr → Prop} {env : Env} {σ : L2.St} {G H : Hp}
/-- a slot is stored: what it held is forgotten -/
theorem Rl.put (r : Rl K O env σ G H) {i : Nat} {v : V} {d : D} (hi : i < env.length) (q : Rp K G v d) : Rl K O (env.set i (some (false, d))) (σ.set i (some v)) G H where
  gh := r.gh
  len := by simpa using r.len
  fr := fun j e h => by
    by_cases hj : i = j
    · subst hj
      rw [List.getElem?_set_self hi] at h
      cases h
      exact ⟨v, List.getElem?_set_self (by rw [← r.len]; exact hi), q⟩
    · rw [List.getElem?_set_ne hj] at h
      rw [List.getElem?_set_ne hj]
      exact r.fr j e h
  ow := fun j e h => by
    by_cases hj : i = j
    · subst hj
      rw [List.getElem?_set_self hi] at h
      cases h
    · rw [List.getElem?_set_ne hj] at h
      rw [List.getElem?_set_ne hj]
      exact r.ow j e h
  dj := fun j k d1 d2 a h1 h2 => by
    have hj : i ≠ j := fun z => by subst z; rw [List.getElem?_set_self hi] at h1; cases h1
    have hk : i ≠ k := fun z => by subst z; rw [List.getElem?_set_self hi] at h2; cases h2
    rw [List.getElem?_set_ne hj] at h1
    rw [List.getElem?_set_ne hk] at h2
    rw [List.getElem?_set_ne hj, List.getElem?_set_ne hk]
    exact r.dj j k d1 d2 a h1 h2
theorem wipe_set {i : Nat} {o : Option V} : ∀ {vs : List Nat}, i ∈ vs → wipe (σ.set i o) vs = wipe σ vs
  | [], h => by cases h
  | v :: vs, h => by
    unfold wipe
    by_cases hi : i ∈ vs
    · rw [wipe_set hi]
    · have e : i = v := by
        rcases List.mem_cons.mp h with z | z
        · exact z
        · exact absurd z hi
      subst e
      have : ∀ (ws : List Nat), i ∉ ws → wipe (σ.set i o) ws = (wipe σ ws).set i o := by
        intro ws
        induction ws with
        | nil => intro _; rfl
        | cons w ws ih =>
          intro hw
          have h1 : w ≠ i := fun z => hw (by simp [z])
          unfold wipe
          rw [ih fun z => hw (List.mem_cons_of_mem _ z)]
          exact List.set_comm _ _ (Ne.symm h1)
      rw [this vs hi, List.set_set]
end
section
variable {X : Cx} {pos : Pos} {vs : List Nat}
theorem ok_gV (i : Nat) (hN : X.N.Nodup) {x : Str} (hi : X.N[i]? = some x := by rfl) (hx : Loc X.env.scope x := by first | exact Or.inl rfl | exact Or.inr rfl) (hf : X.fn x = true ∨ X.env.scope.names.lookup x = some .local := by first | exact .inl rfl | exact .inr rfl)
    (hm : i ∈ vs := by decide) : OkG X vs (.Name x pos) (gV i) :=
  weakG (pg_name hN hi hx hf) fun v σ H Q ⟨O, env, G, d, env', rl, r, e, k⟩ => by
    unfold gV at e
    split at e
    · rename_i hl
      cases e
      exact k _ (rl.put hl r) (wipe_set hm)
    · cases e
def gsNil : Gsx := fun ds env => match ds with
  | [] => some env
  | _ => none
def gsCons (t : Gx) (u : Gsx) : Gsx := fun ds env => match ds with
  | d :: r => (t d env).bind fun env1 => u r env1
  | _ => none
theorem ok_gsNil : OkGs X vs [] gsNil := weakGs pgs_nil fun us σ H Q ⟨O, env, G, ds, env', rl, r, e, k⟩ => by
  unfold gsNil at e
  split at e
  · cases e; cases r; exact ⟨rfl, k σ rl rfl⟩
  · cases e
theorem ok_gsCons {e : Expr} {es : List Expr} {t : Gx} {u : Gsx} (h1 : OkG X vs e t) (h2 : OkGs X vs es u)
    (hs : (assignEach (e :: es) X.env).map (·.2) = assign e X.env :: (assignEach es X.env).map (·.2) := by rfl) : OkGs X vs (e :: es) (gsCons t u) :=
  weakGs (pgs_cons h1 h2 hs) fun us σ H Q ⟨O, env, G, ds, env', rl, r, e, k⟩ => by
    unfold gsCons at e
    split at e
    · rename_i d ds'
      obtain ⟨env1, e1, e2⟩ := Option.bind_eq_some_iff.mp e
      cases r with
      | cons q1 q2 =>
        exact ⟨_, _, rfl, O, env, G, d, env1, rl, q1, e1, fun σ1 rl1 w1 => ⟨O, env1, G, ds', env', rl1, q2, e2, fun σ2 rl2 w2 => k σ2 rl2 (w2.trans w1)⟩⟩
    · cases e
def gT (n : Nat) (u : Gsx) : Gx := fun d env => match d with
  | .tup ds => if ds.length = n then u ds env else none
  | _ => none
theorem ok_gT {es : List Expr} {k0 : Nat} {u : Gsx} {n : Nat} (hc : X.calm = true) (h : OkGs X vs es u) (hn : (assignEach es X.env).length = n := by rfl) (hst : (assignEach es X.env).findIdx? (·.1) = none := by rfl) : OkG X vs (.Tuple es k0 pos) (gT n u) :=
  weakG (pg_tup hc h hn hst) fun v σ H Q ⟨O, env, G, d, env', rl, r, e, k⟩ => by
    unfold gT at e
    split at e
    · split at e
      · rename_i hl
        cases r with
        | @tup a xs _ h1 h2 => exact ⟨a, xs, rfl, same_sqt rl.gh h1, by rw [h2.length]; exact hl, O, env, G, _, env', rl, h2, e, k⟩
      · cases e
    · cases e
end

/-! ### comprehensions -/
def wipeE (env : Env) : List Nat → Env
  | [] => env
  | v :: vs => (wipeE env vs).set v none
theorem wipeE_length (env : Env) : ∀ vs : List Nat, (wipeE env vs).length = env.length
  | [] => rfl
  | v :: vs => by unfold wipeE; rw [List.length_set, wipeE_length env vs]
theorem wipeE_get {env : Env} {i : Nat} {x : Bool × D} : ∀ {vs : List Nat}, (wipeE env vs)[i]? = some (some x) → env[i]? = some (some x) ∧ i ∉ vs
  | [], h => ⟨h, by simp⟩
  | v :: vs, h => by
    unfold wipeE at h
    by_cases hi : v = i
    · subst hi
      by_cases hv : v < (wipeE env vs).length
      · rw [List.getElem?_set_self hv] at h; cases h
      · rw [List.getElem?_eq_none (by simpa using hv)] at h; cases h
    · rw [List.getElem?_set_ne hi] at h
      obtain ⟨h1, h2⟩ := wipeE_get h
      exact ⟨h1, by simp only [List.mem_cons, not_or]; exact ⟨fun e => hi e.symm, h2⟩⟩
theorem wipe_get {σ : L2.St} {i : Nat} : ∀ {vs : List Nat}, i ∉ vs → (wipe σ vs)[i]? = σ[i]?
  | [], _ => rfl
  | v :: vs, h => by
    unfold wipe
    rw [List.getElem?_set_ne (fun z => h (by simp [z])), wipe_get fun z => h (List.mem_cons_of_mem _ z)]
theorem wipe_mem {σ : L2.St} {i : Nat} : ∀ {vs : List Nat}, i ∈ vs → (wipe σ vs)[i]? = if i < σ.length then some none else none
  | [], h => by cases h
  | v :: vs, h => by
    unfold wipe
    by_cases hi : v = i
    · subst hi
      by_cases hv : v < σ.length
      · rw [List.getElem?_set_self (by rw [wipe_length]; exact hv), if_pos hv]
      · rw [List.getElem?_eq_none (by rw [List.length_set, wipe_length]; omega), if_neg hv]
    · rw [List.getElem?_set_ne hi]
      exact wipe_mem ((List.mem_cons.mp h).resolve_left (Ne.symm hi))
theorem wipe_wipe {σ : L2.St} {vs : List Nat} : wipe (wipe σ vs) vs = wipe σ vs := by
  apply List.ext_getElem?
  intro i
  by_cases h : i ∈ vs
  · rw [wipe_mem h, wipe_mem h, wipe_length]
  · rw [wipe_get h]
section
variable {K : PySem.W.Frag} {O : Addr → Prop} {env : Env} {σ : L2.St} {G H : Hp}
theorem Rl.wiped (r : Rl K O env σ G H) (vs : List Nat) : Rl K O (wipeE env vs) (wipe σ vs) G H where
  gh := r.gh
  len := by rw [wipeE_length, wipe_length]; exact r.len
  fr := fun i d h => let ⟨h1, h2⟩ := wipeE_get h; let ⟨v, q1, q2⟩ := r.fr i d h1; ⟨v, by rw [wipe_get h2]; exact q1, q2⟩
  ow := fun i d h => let ⟨h1, h2⟩ := wipeE_get h; let ⟨a, q1, q2⟩ := r.ow i d h1; ⟨a, by rw [wipe_get h2]; exact q1, q2⟩
  dj := fun i j d e a h1 h2 h3 h4 => by
    obtain ⟨a1, a2⟩ := wipeE_get h1
    obtain ⟨b1, b2⟩ := wipeE_get h2
    rw [wipe_get a2] at h3
    rw [wipe_get b2] at h4
    exact r.dj i j d e a a1 b1 h3 h4
/-- an object that neither the frozen part nor a slot knows is changed -/
theorem Rl.other (r : Rl K O env σ G H) {L : Addr} {o : HO} (hG : G L = none) (hd : ∀ a : Addr, (∃ (i : Nat) (d : Sh.D), env[i]? = some (some (true, d)) ∧ σ[i]? = some (some (V.ref a))) → a ≠ L) : Rl K O env σ G (upd H L o) where
  gh := fun a u q => by rw [upd_ne (fun z => by rw [z, hG] at q; cases q)]; exact r.gh a u q
  len := r.len
  fr := r.fr
  ow := fun i d h => by
    obtain ⟨a, q1, q2, q3, q4⟩ := r.ow i d h
    refine ⟨a, q1, q2, q3, ?_⟩
    have ne := hd a ⟨i, d, h, q1⟩
    cases d with
    | lst ds => obtain ⟨xs, z1, z2⟩ := q4; exact ⟨xs, by rw [upd_ne ne]; exact z1, z2⟩
    | dct kvs => obtain ⟨xs, z1, z2⟩ := q4; exact ⟨xs, by rw [upd_ne ne]; exact z1, z2⟩
    | _ => exact q4
  dj := r.dj
end
abbrev CondX := Tx
def tTs (K : PySem.W.Frag) (m : Tx) : TT := tT K m
def OkTs (X : Cx) (ifs : List Expr) (m : Tx) : Prop := PTs X ifs (tT X.K m)
def bYes : Tx := fun _ => some true
theorem ok_tsNil {X : Cx} : OkTs X [] bYes := ⟨fun pins s σ H Q I ⟨O, env, G, b, rl, e, k⟩ => by
  cases e
  exact pts_nil.run pins s σ H Q I (k G H (Gr.refl rl.gh))⟩
theorem ok_tsOne {X : Cx} {c : Expr} {m : Tx} (h : OkT X c m) : OkTs X [c] m := pts_one h
/-- one turn each -/
def compGo (tgt : Gx) (cond : Tx) (el : Ex) (env0 : Env) : List D → List D → Option (List D)
  | [], acc => some acc
  | d :: ds, acc => (tgt d env0).bind fun env1 => (cond env1).bind fun c => if c then (el env1).bind fun y => compGo tgt cond el env0 ds (acc ++ [y]) else compGo tgt cond el env0 ds acc
def eComp (src : Ax) (vs : List Nat) (tgt : Gx) (cond : Tx) (el : Ex) : Ex := fun env => (src env).bind fun ds => if ds.length ≤ 1000000 then (compGo tgt cond el (wipeE env vs) ds []).map .lst else none
section
variable {K : PySem.W.Frag}
theorem stepComp {src : Ax} {vs : List Nat} {tgt : Gx} {cond : Tx} {el : Ex} {σ : L2.St} {H : Hp} {Q : VK} (h : tE K (eComp src vs tgt cond el) σ H Q) : tLc (tI K src) (tG K vs tgt) (tT K cond) (tE K el) vs σ H Q := by
  obtain ⟨O, env, G, d, rl, e, k⟩ := h
  obtain ⟨ds, e1, e2⟩ := Option.bind_eq_some_iff.mp e
  split at e2
  case isFalse => cases e2
  rename_i hlen
  obtain ⟨out, e3, e4⟩ := Option.map_eq_some_iff.mp e2
  subst e4
  refine ⟨O, env, G, ds, rl, e1, fun J G1 H1 g1 wk L hD => ?_⟩
  have rl0 := (rl.grow g1).wiped vs
  -- the invariant: behind i items the list at L stands for acc, and the rest of the items gives out
  refine ⟨fun i m H' => m = ds.length - i ∧ i ≤ ds.length ∧ ∃ (G' : Hp) (acc : List D) (ys : List V), Gr G1 H1 G' H' ∧ G' L = none ∧ H' L = some (.lst ys) ∧ Rps K G' ys acc ∧ acc.length ≤ i ∧ compGo tgt cond el (wipeE env vs) (ds.drop i) acc = some out,
    ⟨ds.length, by simp, Nat.zero_le _, G1, [], [], ?_, ?_, upd_same, .nil, Nat.le_refl _, by simpa using e3⟩, ?_⟩
  · refine ⟨fun a u q => by rw [upd_ne (ne_of_none q hD)]; exact q, Same.refl _, fun a u q => by rw [upd_ne (ne_of_none (g1.gh a u q) hD)]; exact g1.gh a u q, fun _ _ q => .inl q⟩
  · cases q : G1 L with
    | none => rfl
    | some o => rw [g1.gh _ _ q] at hD; cases hD
  rintro i m H' ⟨rfl, hi, G', acc, ys, g, hG, hH, ra, hal, hgo⟩
  obtain ⟨wstop, wgo⟩ := wk i G' H' (fun b o q _ => g.g b o q) g.gh
  by_cases hlt : i < ds.length
  · have hd : ds[i]? = some ds[i] := by simp [hlt]
    obtain ⟨go, yl⟩ := wgo _ hd
    refine .inr ⟨go, fun H2 => i + 1 ≤ ds.length ∧ ∃ (G' : Hp) (acc : List D) (ys : List V), Gr G1 H1 G' H2 ∧ G' L = none ∧ H2 L = some (.lst ys) ∧ Rps K G' ys acc ∧ acc.length ≤ i + 1 ∧ compGo tgt cond el (wipeE env vs) (ds.drop (i + 1)) acc = some out,
      fun H2 ⟨p1, p2⟩ => ⟨ds.length - (i + 1), by omega, rfl, p1, p2⟩, fun x H2 hy => ?_⟩
    obtain ⟨G2, g2, r2⟩ := yl x H2 hy
    rw [List.drop_eq_getElem_cons hlt] at hgo
    obtain ⟨env1, t1, hgo⟩ := Option.bind_eq_some_iff.mp (show ((tgt ds[i] (wipeE env vs)).bind fun env1 => (cond env1).bind fun c => if c then (el env1).bind fun y => compGo tgt cond el (wipeE env vs) (ds.drop (i + 1)) (acc ++ [y]) else compGo tgt cond el (wipeE env vs) (ds.drop (i + 1)) acc) = some out from hgo)
    obtain ⟨c, t2, hgo⟩ := Option.bind_eq_some_iff.mp hgo
    have gD : ∀ {Ga Ha Gb Hb : Hp}, Gr Ga Ha Gb Hb → Ga L = none → (∃ u, Ha L = some u) → Gb L = none := by
      intro Ga Ha Gb Hb gg h1 ⟨u, h2⟩
      cases q : Gb L with
      | none => rfl
      | some o =>
        rcases gg.nw L o q with z | z
        · rw [h1] at z; cases z
        · rw [h2] at z; cases z
    have hG2 := gD g2 hG ⟨_, hH⟩
    have hH2 := g2.h _ _ hH
    have rl2 : Rl K O (wipeE env vs) (wipe σ vs) G2 H2 := rl0.grow (g.trans g2)
    refine ⟨O, _, G2, _, env1, rl2, r2, t1, fun σ2 rl3 w3 => ⟨?_, O, env1, G2, c, rl3, t2, fun G3 H3 g3 => ?_⟩⟩
    · rw [wipe_wipe] at w3; exact w3
    · have hG3 := gD g3 hG2 ⟨_, hH2⟩
      have hH3 := g3.h _ _ hH2
      cases c with
      | true =>
        obtain ⟨y, t3, hgo⟩ := Option.bind_eq_some_iff.mp (show (el env1).bind (fun y => compGo tgt cond el (wipeE env vs) (ds.drop (i + 1)) (acc ++ [y])) = some out from hgo)
        refine ⟨O, env1, G3, y, rl3.grow g3, t3, fun v G4 H4 g4 r4 => ?_⟩
        have hG4 := gD g4 hG3 ⟨_, hH3⟩
        have hH4 := g4.h _ _ hH3
        have ra4 := ((ra.mono g2.g _ _).mono g3.g _ _).mono g4.g _ _
        refine ⟨ys, hH4, by rw [ra.length]; exact Nat.lt_of_le_of_lt hal (Nat.lt_of_lt_of_le hlt (Nat.le_trans hlen (by decide))), hlt, G4, acc ++ [y], ys ++ [v], ?_, hG4, upd_same, ra4.snoc r4, by simp; omega, hgo⟩
        have gg := ((g.trans g2).trans g3).trans g4
        exact ⟨fun a u q => by rw [upd_ne (ne_of_none q hD)]; exact gg.h a u q, gg.g, fun a u q => by rw [upd_ne (fun z => by rw [z, hG4] at q; cases q)]; exact gg.gh a u q, gg.nw⟩
      | false =>
        exact ⟨hlt, G3, acc, ys, (g.trans g2).trans g3, hG3, hH3, (ra.mono g2.g _ _).mono g3.g _ _, by omega, hgo⟩
  · have hie : i = ds.length := by omega
    refine .inl ⟨wstop (by omega), ?_⟩
    rw [List.drop_eq_nil_of_le (by omega)] at hgo
    cases hgo
    -- the list is frozen
    have g3 : Gr G1 H1 (upd G' L (.lst ys)) H' := by
      refine ⟨g.h, fun a u q => ?_, fun a u q => ?_, fun a u q => ?_⟩
      · have z := g.g a u q
        rw [upd_ne (fun w => by rw [w, hG] at z; cases z)]
        exact z
      · by_cases ha : a = L
        · subst ha; rw [upd_same] at q; cases q; exact hH
        · rw [upd_ne ha] at q; exact g.gh a u q
      · by_cases ha : a = L
        · subst ha; exact .inr hD
        · rw [upd_ne ha] at q; exact g.nw a u q
    have eG : Same G' (upd G' L (.lst ys)) := fun a u q => by rw [upd_ne (fun w => by rw [w, hG] at q; cases q)]; exact q
    exact k _ _ _ (g1.trans g3) (.lst upd_same (ra.mono eG _ _))
end
section
variable {X : Cx}
theorem ok_comp {elt tg iter : Expr} {ifs : List Expr} {scope : Scope} {own : List (Str × Nat)} {pos : Pos} {src : Ax} {tgt : Gx} {cond : Tx} {el : Ex} (hc : X.calm = true) (hN : X.N.Nodup) (hi : OkI X tg iter src) (ok : blkC X.N X.env.scope scope own = true)
    (hg : ∀ (s : Shared) (H : Hp) (C : Addr) (cl : List (Str × Addr)) (fp : List Addr), OkG (X.blk s H scope (compEnvC scope cl C X.env) fp) (own.map (·.2)) tg tgt) (ht : ∀ (s : Shared) (H : Hp) (C : Addr) (cl : List (Str × Addr)) (fp : List Addr), OkTs (X.blk s H scope (compEnvC scope cl C X.env) fp) ifs cond)
    (he : ∀ (s : Shared) (H : Hp) (C : Addr) (cl : List (Str × Addr)) (fp : List Addr), OkE (X.blk s H scope (compEnvC scope cl C X.env) fp) elt el) (hs : ∀ x, foldedSetIterable iter X.env x = pure x := by intro _; rfl) :
    OkE X (.ListComp elt [⟨tg, iter, ifs, 0⟩] scope pos) (eComp src (own.map (·.2)) tgt cond el) :=
  weakE (pe_lc (wi := tI X.K src) (own := own) (g := tG X.K (own.map (fun p : Str × Nat => p.2)) tgt) (tt := tT X.K cond) (te := tE X.K el) hc hN hi (blkOk_by ok) hg ht he hs) fun σ H Q h => stepComp h
end
end Sh
end Part_ShD

section Part_ShE
set_option maxRecDepth 100000
set_option maxHeartbeats 2000000
/-! ShE: statements, defs. -/
namespace Sh
open PySem L2

inductive Res where
  | nx (env : Env) | rt (d : D) | bk (env : Env) | ct (env : Env)
abbrev Sx := Env → Option Res

/-- at a statement: H0, G0 the heaps at the def's entry -/
structure Rs (K : PySem.W.Frag) (H0 G0 : Hp) (env : Env) (σ : L2.St) (G H : Hp) : Prop where
  rl : Rl K (fun a => H0 a = none) env σ G H
  g0 : Gr G0 H0 G H
def tS (K : PySem.W.Frag) (m : Sx) : TS := fun E σ H => ∃ (H0 G0 : Hp) (env : Env) (G : Hp) (r : Res), Rs K H0 G0 env σ G H ∧ m env = some r ∧
  match r with
  | .nx env' => ∀ σ' G' H', Rs K H0 G0 env' σ' G' H' → Same G G' → E.nx σ' H'
  | .rt d => ∀ v G' H', Gr G0 H0 G' H' → Rp K G' v d → E.rt v H'
  | .bk env' => ∀ σ' G' H', Rs K H0 G0 env' σ' G' H' → Same G G' → E.bk σ' H'
  | .ct env' => ∀ σ' G' H', Rs K H0 G0 env' σ' G' H' → Same G G' → E.ct σ' H'
def OkS (X : Cx) (st : Stmt) (m : Sx) : Prop := PS X st (tS X.K m)
def OkB (X : Cx) (sts : List Stmt) (m : Sx) : Prop := PSs X sts (tS X.K m)
section
variable {X : Cx} {st : Stmt} {sts : List Stmt}
theorem weakS {t t' : TS} (h : PS X st t) (w : ∀ E σ H, t' E σ H → t E σ H) : PS X st t' := ⟨fun pins s σ H E I q => h.run pins s σ H E I (w _ _ _ q)⟩
theorem weakB {t t' : TS} (h : PSs X sts t) (w : ∀ E σ H, t' E σ H → t E σ H) : PSs X sts t' := ⟨fun pins s σ H E I q => h.run pins s σ H E I (w _ _ _ q)⟩
end
section
variable {K : PySem.W.Frag} {H0 G0 G H G' H' : Hp} {env : Env} {σ : L2.St}
theorem Rs.grow (r : Rs K H0 G0 env σ G H) (g : Gr G H G' H') : Rs K H0 G0 env σ G' H' := ⟨r.rl.grow g, r.g0.trans g⟩
theorem Rs.put (r : Rs K H0 G0 env σ G H) {i : Nat} {v : V} {d : D} (hi : i < env.length) (q : Rp K G v d) : Rs K H0 G0 (env.set i (some (false, d))) (σ.set i (some v)) G H := ⟨r.rl.put hi q, r.g0⟩
/-- a fresh object is stored -/
theorem Rl.putO {O : Addr → Prop} (r : Rl K O env σ G H) {i : Nat} {p : Addr} {d : D} (hi : i < env.length) (hG : G p = none) (hO : O p) (ho : Own K G H p d)
    (hn : ∀ (j : Nat) (e : D), env[j]? = some (some (true, e)) → σ[j]? ≠ some (some (V.ref p))) : Rl K O (env.set i (some (true, d))) (σ.set i (some (.ref p))) G H where
  gh := r.gh
  len := by simpa using r.len
  fr := fun j e h => by
    have hj : i ≠ j := fun z => by subst z; rw [List.getElem?_set_self hi] at h; cases h
    rw [List.getElem?_set_ne hj] at h
    rw [List.getElem?_set_ne hj]
    exact r.fr j e h
  ow := fun j e h => by
    by_cases hj : i = j
    · subst hj
      rw [List.getElem?_set_self hi] at h
      cases h
      exact ⟨p, List.getElem?_set_self (by rw [← r.len]; exact hi), hG, hO, ho⟩
    · rw [List.getElem?_set_ne hj] at h
      rw [List.getElem?_set_ne hj]
      exact r.ow j e h
  dj := fun j k d1 d2 a h1 h2 h3 h4 => by
    by_cases hj : i = j
    · by_cases hk : i = k
      · exact hj.symm.trans hk
      · subst hj
        rw [List.getElem?_set_self (by rw [← r.len]; exact hi)] at h3
        cases h3
        rw [List.getElem?_set_ne hk] at h2 h4
        exact absurd h4 (hn k d2 h2)
    · by_cases hk : i = k
      · subst hk
        rw [List.getElem?_set_self (by rw [← r.len]; exact hi)] at h4
        cases h4
        rw [List.getElem?_set_ne hj] at h1 h3
        exact absurd h3 (hn j d1 h1)
      · rw [List.getElem?_set_ne hj] at h1 h3
        rw [List.getElem?_set_ne hk] at h2 h4
        exact r.dj j k d1 d2 a h1 h2 h3 h4
/-- an owned object is changed -/
theorem Rs.write (r : Rs K H0 G0 env σ G H) {i : Nat} {a : Addr} {d d' : D} {o : HO} (he : env[i]? = some (some (true, d))) (hs : σ[i]? = some (some (V.ref a))) (ho : Own K G (upd H a o) a d') : Rs K H0 G0 (env.set i (some (true, d'))) σ G (upd H a o) := by
  obtain ⟨a', q1, q2, q3, q4⟩ := r.rl.ow i d he
  rw [hs] at q1; cases q1
  have hi : i < env.length := (List.getElem?_eq_some_iff.mp he).1
  refine ⟨⟨fun b u q => ?_, by simpa using r.rl.len, fun j e h => ?_, fun j e h => ?_, fun j k d1 d2 b h1 h2 h3 h4 => ?_⟩, ⟨fun b u q => ?_, r.g0.g, fun b u q => ?_, r.g0.nw⟩⟩
  · rw [upd_ne (fun z => by rw [z, q2] at q; cases q)]
    exact r.rl.gh b u q
  · have hj : i ≠ j := fun z => by subst z; rw [List.getElem?_set_self hi] at h; cases h
    rw [List.getElem?_set_ne hj] at h
    exact r.rl.fr j e h
  · by_cases hj : i = j
    · subst hj
      rw [List.getElem?_set_self hi] at h
      cases h
      exact ⟨a, hs, q2, q3, ho⟩
    · rw [List.getElem?_set_ne hj] at h
      obtain ⟨b, z1, z2, z3, z4⟩ := r.rl.ow j e h
      refine ⟨b, z1, z2, z3, ?_⟩
      have ne : b ≠ a := fun z => hj (r.rl.dj i j d e a he h hs (by rw [← z]; exact z1))
      cases e with
      | lst ds => obtain ⟨xs, w1, w2⟩ := z4; exact ⟨xs, by rw [upd_ne ne]; exact w1, w2⟩
      | dct kvs => obtain ⟨xs, w1, w2⟩ := z4; exact ⟨xs, by rw [upd_ne ne]; exact w1, w2⟩
      | _ => exact z4.elim
  · have f : ∀ (n : Nat) (c : D), (env.set i (some (true, d')))[n]? = some (some (true, c)) → ∃ c', env[n]? = some (some (true, c')) := fun n c h => by
      by_cases hn : i = n
      · subst hn; exact ⟨d, he⟩
      · rw [List.getElem?_set_ne hn] at h; exact ⟨c, h⟩
    obtain ⟨c1, f1⟩ := f j d1 h1
    obtain ⟨c2, f2⟩ := f k d2 h2
    exact r.rl.dj j k c1 c2 b f1 f2 h3 h4
  · rw [upd_ne (fun z => by rw [z, q3] at q; cases q)]
    exact r.g0.h b u q
  · rw [upd_ne (fun z => by rw [z, q2] at q; cases q)]
    exact r.rl.gh b u q
/-- an owned object is frozen -/
def frz (i : Nat) (env : Env) : Env := match env[i]? with
  | some (some (true, .lst ds)) => env.set i (some (false, .lst ds))
  | _ => env
theorem Rs.frozen (r : Rs K H0 G0 env σ G H) (i : Nat) : ∃ G', Same G G' ∧ Rs K H0 G0 (frz i env) σ G' H := by
  unfold frz
  split
  · rename_i ds he
    obtain ⟨a, q1, q2, q3, q4⟩ := r.rl.ow i _ he
    have hi : i < env.length := (List.getElem?_eq_some_iff.mp he).1
    ·
      obtain ⟨xs, w1, w2⟩ := q4
      have eG : Same G (upd G a (.lst xs)) := fun b u q => by rw [upd_ne (fun z => by rw [z, q2] at q; cases q)]; exact q
      have ne : ∀ {j : Nat} {e : D} {b : Addr}, i ≠ j → env[j]? = some (some (true, e)) → σ[j]? = some (some (V.ref b)) → b ≠ a := fun {j e b} hj h1 h2 z => hj (r.rl.dj i j _ e a he h1 q1 (by rw [← z]; exact h2))
      refine ⟨_, eG, ⟨⟨fun b u q => ?_, by simpa using r.rl.len, fun j e h => ?_, fun j e h => ?_, fun j k d1 d2 b h1 h2 h3 h4 => ?_⟩, ⟨r.g0.h, fun b u q => eG _ _ (r.g0.g b u q), fun b u q => ?_, fun b u q => ?_⟩⟩⟩
      · by_cases hb : b = a
        · subst hb; rw [upd_same] at q; cases q; exact w1
        · rw [upd_ne hb] at q; exact r.rl.gh b u q
      · by_cases hj : i = j
        · subst hj
          rw [List.getElem?_set_self hi] at h
          cases h
          exact ⟨_, q1, .lst upd_same (w2.mono eG _ _)⟩
        · rw [List.getElem?_set_ne hj] at h
          obtain ⟨v, z1, z2⟩ := r.rl.fr j e h
          exact ⟨v, z1, z2.mono eG _ _⟩
      · have hj : i ≠ j := fun z => by subst z; rw [List.getElem?_set_self hi] at h; cases h
        rw [List.getElem?_set_ne hj] at h
        obtain ⟨b, z1, z2, z3, z4⟩ := r.rl.ow j e h
        refine ⟨b, z1, by rw [upd_ne (ne hj h z1)]; exact z2, z3, ?_⟩
        cases e with
        | lst es => obtain ⟨ys, y1, y2⟩ := z4; exact ⟨ys, y1, y2.mono eG _ _⟩
        | dct es => obtain ⟨ys, y1, y2⟩ := z4; exact ⟨ys, y1, y2.mono eG⟩
        | _ => exact z4.elim
      · have hj : i ≠ j := fun z => by subst z; rw [List.getElem?_set_self hi] at h1; cases h1
        have hk : i ≠ k := fun z => by subst z; rw [List.getElem?_set_self hi] at h2; cases h2
        rw [List.getElem?_set_ne hj] at h1
        rw [List.getElem?_set_ne hk] at h2
        exact r.rl.dj j k d1 d2 b h1 h2 h3 h4
      · by_cases hb : b = a
        · subst hb; rw [upd_same] at q; cases q; exact w1
        · rw [upd_ne hb] at q; exact r.rl.gh b u q
      · by_cases hb : b = a
        · subst hb; exact .inr q3
        · rw [upd_ne hb] at q; exact r.g0.nw b u q
  · exact ⟨G, Same.refl G, r⟩
end

/-! ### blocks -/
def sNil : Sx := fun env => some (.nx env)
def sSeq (a b : Sx) : Sx := fun env => match a env with
  | some (.nx e) => b e
  | r => r
def sFrz (i : Nat) (m : Sx) : Sx := fun env => m (frz i env)
def sIf (c : Tx) (a b : Sx) : Sx := fun env => (c env).bind fun k => if k then a env else b env
def sRet (m : Ex) : Sx := fun env => (m env).map .rt
def sBrk : Sx := fun env => some (.bk env)
def sCnt : Sx := fun env => some (.ct env)
def sDrop (m : Ex) : Sx := fun env => (m env).map fun _ => .nx env
section
variable {X : Cx} {st : Stmt} {sts : List Stmt} {a b : Sx} {pos : Pos}
theorem ok_bNil : OkB X [] sNil := weakB pss_nil fun E σ H ⟨H0, G0, env, G, r, rs, e, k⟩ => by cases e; exact k σ G H rs (Same.refl G)
theorem stepSeq {K : PySem.W.Frag} {E : Ends} {σ : L2.St} {H : Hp} (h : tS K (sSeq a b) E σ H) : tSeq (tS K a) (tS K b) E σ H := by
  obtain ⟨H0, G0, env, G, r, rs, e, k⟩ := h
  cases ha : a env with
  | none => unfold sSeq at e; rw [ha] at e; cases e
  | some ra =>
    refine ⟨H0, G0, env, G, ra, rs, ha, ?_⟩
    unfold sSeq at e
    rw [ha] at e
    cases ra with
    | nx e1 =>
      intro σ1 G1 H1 rs1 s1
      refine ⟨H0, G0, e1, G1, r, rs1, e, ?_⟩
      cases r with
      | nx e2 => intro σ2 G2 H2 rs2 s2; exact k σ2 G2 H2 rs2 (s1.trans s2)
      | rt d => exact k
      | bk e2 => intro σ2 G2 H2 rs2 s2; exact k σ2 G2 H2 rs2 (s1.trans s2)
      | ct e2 => intro σ2 G2 H2 rs2 s2; exact k σ2 G2 H2 rs2 (s1.trans s2)
    | rt d => cases e; exact k
    | bk e1 => cases e; exact k
    | ct e1 => cases e; exact k
theorem ok_bCons (h1 : OkS X st a) (h2 : OkB X sts b) : OkB X (st :: sts) (sSeq a b) := weakB (pss_cons h1 h2) fun E σ H h => stepSeq h
theorem ok_bOne (h1 : OkS X st a) : OkB X [st] a := pss_one h1
theorem ok_bFrz (i : Nat) (h : OkB X sts a) : OkB X sts (sFrz i a) := weakB h fun E σ H ⟨H0, G0, env, G, r, rs, e, k⟩ => by
  obtain ⟨G', eG, rs'⟩ := rs.frozen i
  refine ⟨H0, G0, _, G', r, rs', e, ?_⟩
  cases r with
  | nx e2 => intro σ2 G2 H2 rs2 s2; exact k σ2 G2 H2 rs2 (eG.trans s2)
  | rt d => exact k
  | bk e2 => intro σ2 G2 H2 rs2 s2; exact k σ2 G2 H2 rs2 (eG.trans s2)
  | ct e2 => intro σ2 G2 H2 rs2 s2; exact k σ2 G2 H2 rs2 (eG.trans s2)
theorem ok_sFrz (i : Nat) (h : OkS X st a) : OkS X st (sFrz i a) := weakS h fun E σ H ⟨H0, G0, env, G, r, rs, e, k⟩ => by
  obtain ⟨G', eG, rs'⟩ := rs.frozen i
  refine ⟨H0, G0, _, G', r, rs', e, ?_⟩
  cases r with
  | nx e2 => intro σ2 G2 H2 rs2 s2; exact k σ2 G2 H2 rs2 (eG.trans s2)
  | rt d => exact k
  | bk e2 => intro σ2 G2 H2 rs2 s2; exact k σ2 G2 H2 rs2 (eG.trans s2)
  | ct e2 => intro σ2 G2 H2 rs2 s2; exact k σ2 G2 H2 rs2 (eG.trans s2)
/-- what an expression asks at a statement -/
theorem atE {K : PySem.W.Frag} {H0 G0 G H : Hp} {env : Env} {σ : L2.St} {m : Ex} {d : D} {Q : VK} (rs : Rs K H0 G0 env σ G H) (e : m env = some d) (k : ∀ v G' H', Rs K H0 G0 env σ G' H' → Same G G' → Gr G0 H0 G' H' → Rp K G' v d → Q v H') : tE K m σ H Q :=
  ⟨_, env, G, d, rs.rl, e, fun v G' H' g r => k v G' H' (rs.grow g) g.g (rs.g0.trans g) r⟩
theorem ok_ret {e : Expr} {m : Ex} (h : OkE X e m) : OkS X (.Return (some e) pos) (sRet m) := weakS (ps_ret h) fun E σ H ⟨H0, G0, env, G, r, rs, e, k⟩ => by
  obtain ⟨d, e1, rfl⟩ := Option.map_eq_some_iff.mp e
  exact atE rs e1 fun v G' H' _ _ g r => k v G' H' g r
theorem ok_if {c : Expr} {s1 s2 : List Stmt} {tc : Tx} (hc : OkT X c tc) (h1 : OkB X s1 a) (h2 : OkB X s2 b) : OkS X (.If c s1 s2 pos) (sIf tc a b) := weakS (ps_if hc h1 h2) fun E σ H ⟨H0, G0, env, G, r, rs, e, k⟩ => by
  obtain ⟨x, e1, e2⟩ := Option.bind_eq_some_iff.mp e
  refine ⟨_, env, G, x, rs.rl, e1, fun G' H' g => ?_⟩
  have fin : ∀ {m : Sx}, m env = some r → tS X.K m E σ H' := fun {m} em => by
    refine ⟨H0, G0, env, G', r, rs.grow g, em, ?_⟩
    cases r with
    | nx e2 => intro σ2 G2 H2 rs2 s2; exact k σ2 G2 H2 rs2 (g.g.trans s2)
    | rt d => exact k
    | bk e2 => intro σ2 G2 H2 rs2 s2; exact k σ2 G2 H2 rs2 (g.g.trans s2)
    | ct e2 => intro σ2 G2 H2 rs2 s2; exact k σ2 G2 H2 rs2 (g.g.trans s2)
  cases x with
  | true => exact fin e2
  | false => exact fin e2
theorem ok_pass : OkS X (.Pass pos) sNil := weakS ps_pass fun E σ H ⟨H0, G0, env, G, r, rs, e, k⟩ => by cases e; exact k σ G H rs (Same.refl G)
theorem ok_brk : OkS X (.Break pos) sBrk := weakS ps_break fun E σ H ⟨H0, G0, env, G, r, rs, e, k⟩ => by cases e; exact k σ G H rs (Same.refl G)
theorem ok_cnt : OkS X (.Continue pos) sCnt := weakS ps_continue fun E σ H ⟨H0, G0, env, G, r, rs, e, k⟩ => by cases e; exact k σ G H rs (Same.refl G)
end

/-! ### stores -/
/-- a value that may be fresh: (true, its data) if nobody else knows it -/
abbrev Fx := Env → Option (Bool × D)
def Fp (K : PySem.W.Frag) (G' H' H : Hp) (v : V) : Bool × D → Prop
  | (false, d) => Rp K G' v d
  | (true, d) => ∃ p, v = .ref p ∧ H p = none ∧ G' p = none ∧ Own K G' H' p d
def tF (K : PySem.W.Frag) (m : Fx) : TE := fun σ H Q => ∃ (O : Addr → Prop) (env : Env) (G : Hp) (f : Bool × D), Rl K O env σ G H ∧ m env = some f ∧ ∀ v G' H', Gr G H G' H' → Fp K G' H' H v f → Q v H'
def OkF (X : Cx) (e : Expr) (m : Fx) : Prop := PE X e (tF X.K m)
def fPl (m : Ex) : Fx := fun env => (m env).map fun d => (false, d)
def fLst (m : Ax) : Fx := fun env => (m env).bind fun ds => if ds.length ≤ 1000000 then some (true, .lst ds) else none
def fRep (a b : Ex) : Fx := fun env => (a env).bind fun x => (b env).bind fun y => match x, y with
  | .lst c, .int k => if -1000000 ≤ k ∧ k ≤ 1000000 ∧ c.length * k.toNat ≤ 1000000 then some (true, .lst (List.replicate k.toNat c).flatten) else none
  | _, _ => none
def sSetF (i : Nat) (m : Fx) : Sx := fun env => (m env).bind fun f => if i < env.length then some (.nx (env.set i (some f))) else none
def sSet (i : Nat) (m : Ex) : Sx := fun env => (m env).bind fun d => if i < env.length then some (.nx (env.set i (some (false, d)))) else none
/-- the heap grows by an object that the frozen part does not know -/
theorem Gr.own {G H : Hp} {p : Addr} {o : HO} (e : Same G H) (n : H p = none) : Gr G H G (upd H p o) := by
  refine ⟨fun a u q => by rw [upd_ne (ne_of_none q n)]; exact q, Same.refl G, fun a u q => by rw [upd_ne (ne_of_none (e a u q) n)]; exact e a u q, fun _ _ q => .inl q⟩
theorem free_of {G H : Hp} {p : Addr} (e : Same G H) (n : H p = none) : G p = none := by
  cases q : G p with
  | none => rfl
  | some o => rw [e _ _ q] at n; cases n
section
variable {X : Cx} {e a b : Expr} {es : List Expr} {pos : Pos}
theorem OkE.f {m : Ex} (h : OkE X e m) : OkF X e (fPl m) := weakE h fun σ H Q ⟨O, env, G, f, rl, e, k⟩ => by
  obtain ⟨d, e1, rfl⟩ := Option.map_eq_some_iff.mp e
  exact ⟨O, env, G, d, rl, e1, fun v G' H' g r => k v G' H' g r⟩
theorem ok_fLst {m : Ax} (h : OkA X es m) : OkF X (.List es pos) (fLst m) := weakE (pe_lst h) fun σ H Q ⟨O, env, G, f, rl, e, k⟩ => by
  obtain ⟨ds, e1, e2⟩ := Option.bind_eq_some_iff.mp e
  split at e2
  · rename_i hl
    cases e2
    refine ⟨O, env, G, ds, rl, e1, fun vs G1 H1 g1 r1 => ⟨sz6 (by rw [r1.length]; exact hl), fun p hp => ?_⟩⟩
    exact k _ _ _ (g1.trans (Gr.own (o := .lst vs) g1.gh hp)) ⟨p, rfl, g1.h.free hp, free_of g1.gh hp, vs, upd_same, r1⟩
  · cases e2
theorem ok_fRep {ma mb : Ex} (ha : OkE X a ma) (hb : OkE X b mb) : OkF X (.BinOp a .Mult b pos) (fRep ma mb) := weakE (pe_op op_rep ha hb) fun σ H Q ⟨O, env, G, f, rl, e, k⟩ => by
  obtain ⟨x, e1, e⟩ := Option.bind_eq_some_iff.mp e
  obtain ⟨y, e2, e⟩ := Option.bind_eq_some_iff.mp e
  cases x with
  | lst c =>
    cases y with
    | int n =>
      have e : (if -1000000 ≤ n ∧ n ≤ 1000000 ∧ c.length * n.toNat ≤ 1000000 then some (true, D.lst (List.replicate n.toNat c).flatten) else none) = some f := e
      split at e
      · rename_i h
        cases e
        refine ⟨O, env, G, _, rl, e1, fun v G1 H1 g1 r1 => ⟨O, env, G1, _, rl.grow g1, e2, fun u G2 H2 g2 r2 => ?_⟩⟩
        cases r2
        have r1' := r1.mono g2.g _ _
        cases r1' with
        | @lst l xs ds h1 h2 =>
          refine ⟨l, n, xs, rfl, rfl, g2.gh _ _ h1, by omega, by omega, sz6 (by rw [h2.length]; exact h.2.2), fun p hp => ?_⟩
          have g := (g1.trans g2).trans (Gr.own (o := .lst (List.replicate n.toNat xs).flatten) g2.gh hp)
          exact k _ _ _ g ⟨p, rfl, (g1.trans g2).h.free hp, free_of g2.gh hp, _, upd_same, h2.flatRep _⟩
      · cases e
    | _ => cases e
  | _ => cases y <;> cases e
/-- what a fresh value asks at a statement: its slot may be stored -/
theorem Rs.putF {K : PySem.W.Frag} {H0 G0 G H : Hp} {env : Env} {σ : L2.St} (rs : Rs K H0 G0 env σ G H) {G' H' : Hp} (g : Gr G H G' H') {v : V} {f : Bool × D} (r : Fp K G' H' H v f) {i : Nat} (hi : i < env.length) : Rs K H0 G0 (env.set i (some f)) (σ.set i (some v)) G' H' := by
  obtain ⟨b, d⟩ := f
  cases b with
  | false => exact (rs.grow g).put hi r
  | true =>
    obtain ⟨p, rfl, hp, hG, ho⟩ := r
    refine ⟨(rs.grow g).rl.putO hi hG (rs.g0.h.free hp) ho fun j e hj hs => ?_, rs.g0.trans g⟩
    obtain ⟨a, q1, q2, q3, q4⟩ := rs.rl.ow j e hj
    rw [hs] at q1; cases q1
    obtain ⟨u, hu⟩ := q4.there
    rw [hp] at hu; cases hu
theorem ok_set (i : Nat) (hN : X.N.Nodup) {x : Str} {m : Ex} {pos' : Pos} (he : OkE X e m) (hi : X.N[i]? = some x := by rfl) (hx : Loc X.env.scope x := by first | exact Or.inl rfl | exact Or.inr rfl) (hs : swapsWith e (some (.Name x pos')) pos.line X.env = pure false := by rfl)
    (hf : X.fn x = true ∨ X.env.scope.names.lookup x = some .local := by first | exact .inl rfl | exact .inr rfl) : OkS X (.Assign [.Name x pos'] e pos) (sSet i m) :=
  weakS (ps_set hN hi hx he hs hf) fun E σ H ⟨H0, G0, env, G, r, rs, e, k⟩ => by
    obtain ⟨d, e1, e2⟩ := Option.bind_eq_some_iff.mp e
    split at e2
    · rename_i hl
      cases e2
      exact atE rs e1 fun v G' H' rs' s' _ r => k _ G' H' (rs'.put hl r) s'
    · cases e2
theorem ok_setF (i : Nat) (hN : X.N.Nodup) {x : Str} {m : Fx} {pos' : Pos} (he : OkF X e m) (hi : X.N[i]? = some x := by rfl) (hx : Loc X.env.scope x := by first | exact Or.inl rfl | exact Or.inr rfl) (hs : swapsWith e (some (.Name x pos')) pos.line X.env = pure false := by rfl)
    (hf : X.fn x = true ∨ X.env.scope.names.lookup x = some .local := by first | exact .inl rfl | exact .inr rfl) : OkS X (.Assign [.Name x pos'] e pos) (sSetF i m) :=
  weakS (ps_set hN hi hx he hs hf) fun E σ H ⟨H0, G0, env, G, r, rs, e, k⟩ => by
    obtain ⟨f, e1, e2⟩ := Option.bind_eq_some_iff.mp e
    split at e2
    · rename_i hl
      cases e2
      exact ⟨_, env, G, f, rs.rl, e1, fun v G' H' g r => k _ G' H' (rs.putF g r hl) g.g⟩
    · cases e2
theorem ok_setLc (i : Nat) {y : Str} {py : Pos} {elt tg iter : Expr} {ifs : List Expr} {scope : Scope} {own : List (Str × Nat)} {pos spos : Pos} {src : Ax} {tgt : Gx} {cond : Tx} {el : Ex} (hc : X.calm = true) (hN : X.N.Nodup) (hi : OkI X tg iter src) (ok : blkC X.N X.env.scope scope own = true)
    (hg : ∀ (s : Shared) (H : Hp) (C : Addr) (cl : List (Str × Addr)) (fp : List Addr), OkG (X.blk s H scope (compEnvC scope cl C X.env) fp) (own.map (·.2)) tg tgt) (ht : ∀ (s : Shared) (H : Hp) (C : Addr) (cl : List (Str × Addr)) (fp : List Addr), OkTs (X.blk s H scope (compEnvC scope cl C X.env) fp) ifs cond)
    (he : ∀ (s : Shared) (H : Hp) (C : Addr) (cl : List (Str × Addr)) (fp : List Addr), OkE (X.blk s H scope (compEnvC scope cl C X.env) fp) elt el) (hsw : swapsWith (.ListComp elt [⟨tg, iter, ifs, 0⟩] scope pos) (some (.Name y py)) spos.line X.env = pure true := by exact sw_true rfl rfl rfl (by decide +kernel))
    (hy : X.N[i]? = some y := by rfl) (hyl : X.env.scope.names.lookup y = some .local := by rfl) (hs : ∀ x, foldedSetIterable iter X.env x = pure x := by intro _; rfl) :
    OkS X (.Assign [.Name y py] (.ListComp elt [⟨tg, iter, ifs, 0⟩] scope pos) spos) (sSet i (eComp src (own.map (·.2)) tgt cond el)) :=
  weakS (ps_setLc (wi := tI X.K src) (own := own) (g := tG X.K (own.map (fun p : Str × Nat => p.2)) tgt) (tt := tT X.K cond) (te := tE X.K el) hc hN hy hyl hsw hi (blkOk_by ok) hg ht he hs) fun E σ H ⟨H0, G0, env, G, r, rs, e, k⟩ => by
    obtain ⟨d, e1, e2⟩ := Option.bind_eq_some_iff.mp e
    split at e2
    · rename_i hl
      cases e2
      exact stepComp (atE rs e1 fun v G' H' rs' s' _ r => k _ G' H' (rs'.put hl r) s')
    · cases e2
/-- (a, b, ..) = e -/
def sAsg (m : Ex) (t : Gx) : Sx := fun env => (m env).bind fun d => (t d env).map .nx
theorem ok_asg {tg : Expr} {m : Ex} {t : Gx} {vs : List Nat} (he : OkE X e m) (hg : OkG X vs tg t) (hs : swapsWithSole [tg] e pos.line X.env = pure false := by rfl) (hw : swappedStores [tg] e X.env = pure none := by rfl) (h1 : (assignEach [tg] X.env).map (·.2) = [assign tg X.env] := by rfl) :
    OkS X (.Assign [tg] e pos) (sAsg m t) := weakS (ps_asg he hg hs hw h1) fun E σ H ⟨H0, G0, env, G, r, rs, e, k⟩ => by
  obtain ⟨d, e1, e2⟩ := Option.bind_eq_some_iff.mp e
  obtain ⟨env', e3, rfl⟩ := Option.map_eq_some_iff.mp e2
  exact atE rs e1 fun v G' H' rs' s' g r => ⟨_, env, G', d, env', rs'.rl, r, e3, fun σ' rl' _ => k σ' G' H' ⟨rl', rs'.g0⟩ s'⟩
/-- a, b = x, y -/
def sPar (i j : Nat) (m n : Fx) : Sx := fun env => (m env).bind fun f => (n env).bind fun g => if i < env.length ∧ j < env.length then some (.nx ((env.set i (some f)).set j (some g))) else none
theorem ok_par (i j : Nat) {x y : Str} {m n : Fx} {px py pt : Pos} {kt k2 pt2} (hc : X.calm = true) (hN : X.N.Nodup) (ha : OkF X a m) (hb : OkF X b n) (hi : X.N[i]? = some x := by rfl) (hj : X.N[j]? = some y := by rfl) (hij : i ≠ j := by decide)
    (hx : X.env.scope.names.lookup x = some .local := by rfl) (hy : X.env.scope.names.lookup y = some .local := by rfl)
    (hw : swappedStores [.Tuple [.Name x px, .Name y py] kt pt] (.Tuple [a, b] k2 pt2) X.env = pure (some [x, y]) := by rfl)
    (hs : swapsWithSole [.Tuple [.Name x px, .Name y py] kt pt] (.Tuple [a, b] k2 pt2) pos.line X.env = pure false := by rfl)
    (hsa : starEach (a :: [b]) X.env = (false, eval a X.env) :: starEach [b] X.env := by rfl) (hsb : starEach (b :: []) X.env = (false, eval b X.env) :: starEach [] X.env := by rfl) :
    OkS X (.Assign [.Tuple [.Name x px, .Name y py] kt pt] (.Tuple [a, b] k2 pt2) pos) (sPar i j m n) :=
  weakS (ps_par hc hN hi hj hij hx hy (pa_cons ha (pa_cons hb pa_nil hsb) hsa) hw hs) fun E σ H ⟨H0, G0, env, G, r, rs, e, k⟩ => by
    obtain ⟨f, e1, e⟩ := Option.bind_eq_some_iff.mp e
    obtain ⟨g, e2, e⟩ := Option.bind_eq_some_iff.mp e
    split at e
    · rename_i hl
      cases e
      refine ⟨_, env, G, f, rs.rl, e1, fun v G1 H1 g1 r1 => ⟨_, env, G1, g, (rs.grow g1).rl, e2, fun u G2 H2 g2 r2 => ⟨v, u, rfl, ?_⟩⟩⟩
      have a1 : Rs X.K H0 G0 (env.set i (some f)) (σ.set i (some v)) G1 H1 := rs.putF g1 r1 hl.1
      exact k _ G2 H2 (a1.putF g2 r2 (by simpa using hl.2)) (g1.g.trans g2.g)
    · cases e
/-- name op= e, ints -/
def sAugI (i : Nat) (f : Int → Int → Int) (m : Ex) : Sx := fun env => match env[i]? with
  | some (some (false, .int x)) => (m env).bind fun d => match d with
    | .int y => some (.nx (env.set i (some (false, .int (f x y)))))
    | _ => none
  | _ => none
theorem ok_augI (i : Nat) {x : Str} {f : Int → Int → Int} {op : Operator} {m : Ex} {pos' : Pos} (hN : X.N.Nodup) (ho : PIp X op (ipI f)) (he : OkE X e m) (hi : X.N[i]? = some x := by rfl) (hx : Loc X.env.scope x := by first | exact Or.inl rfl | exact Or.inr rfl) (hf : X.fn x = true ∨ X.env.scope.names.lookup x = some .local := by first | exact .inl rfl | exact .inr rfl) :
    OkS X (.AugAssign (.Name x pos') op e pos) (sAugI i f m) := weakS (ps_aug hN hi hx he ho hf) fun E σ H ⟨H0, G0, env, G, r, rs, e, k⟩ => by
  unfold sAugI at e
  split at e
  · rename_i n hn
    obtain ⟨d, e1, e2⟩ := Option.bind_eq_some_iff.mp e
    split at e2
    · cases e2
      obtain ⟨v, h1, h2⟩ := rs.rl.fr i _ hn
      cases h2
      refine ⟨_, h1, atE rs e1 fun u G' H' rs' s' g r => ?_⟩
      cases r
      exact ⟨_, _, rfl, rfl, k _ G' H' (rs'.put (List.getElem?_eq_some_iff.mp hn).1 (.int _)) s'⟩
    · cases e2
  · cases e
/-! ### owned lists -/
def sApp (i : Nat) (m : Ex) : Sx := fun env => match env[i]? with
  | some (some (true, .lst ds)) => (m env).bind fun d => if ds.length < 1000000 then some (.nx (env.set i (some (true, .lst (ds ++ [d]))))) else none
  | _ => none
theorem ok_app (i : Nat) {x : Str} {m : Ex} {p apos cpos : Pos} (he : OkE X e m) (hi : X.N[i]? = some x := by rfl) (hv : Vis X.env.scope x := by first | exact Or.inl rfl | exact Or.inr (Or.inl rfl) | exact Or.inr (Or.inr rfl)) (hd : (x == ("__debug__" : Str)) = false := by decide)
    (hcd : (x == ("__classdict__" : Str)) = false := by decide) (hbase : attributeBase (.Name x p) "append" X.env (eval (.Name x p) X.env) = eval (.Name x p) X.env := by rfl) (hsa : starEach (e :: []) X.env = (false, eval e X.env) :: starEach [] X.env := by rfl)
    (hfew : ((backTo cpos (starEach (e :: []) X.env)).all (fun x => !x.1) && (backToKw cpos (keywordEach [] X.env)).all (fun x => x.1.isSome) && decide ((e :: ([] : List Expr)).length + ([] : List Keyword).length + (if ([] : List Keyword).isEmpty then 0 else 1) < 30)) = true := by rfl)
    (hpn : (backTo cpos (starEach ([] : List Expr) X.env)).any (·.1) = false := by rfl) (hline : (apos.endLine == cpos.line) = true := by rfl) (hsw : swapsWith (.Call (.Attribute (.Name x p) "append" apos) [e] [] cpos) none pos.line X.env = pure false := by rfl) :
    OkS X (.Expr (.Call (.Attribute (.Name x p) "append" apos) [e] [] cpos) pos) (sApp i m) :=
  weakS (ps_expr (pe_bm PySem.F.plainAttrs_list PySem.F.slot_list_append PySem.F.type_list_append mt_append (pe_var (i := i) hi hv hd hcd) (pa_cons he pa_nil hsa) hbase hfew hline hsa hpn) hsw) fun E σ H ⟨H0, G0, env, G, r, rs, e, k⟩ => by
    unfold sApp at e
    split at e
    · rename_i ds hn
      obtain ⟨d, e1, e2⟩ := Option.bind_eq_some_iff.mp e
      split at e2
      · rename_i hl
        cases e2
        obtain ⟨a, q1, q2, q3, xs, w1, w2⟩ := rs.rl.ow i _ hn
        refine ⟨_, q1, .inl ⟨rfl, xs, SqL.of w1⟩, atE rs e1 fun u G' H' rs' s' g r => ?_⟩
        obtain ⟨a', z1, z2, z3, ys, y1, y2⟩ := rs'.rl.ow i _ hn
        rw [q1] at z1; cases z1
        refine ⟨a, ys, u, rfl, rfl, y1, Nat.lt_of_lt_of_le (by rw [y2.length]; exact hl) (by decide), ?_⟩
        exact k _ G' _ (rs'.write hn q1 ⟨_, upd_same, y2.snoc r⟩) s'
      · cases e2
    · cases e
/-- name[k] = e -/
def sPut (i : Nat) (mk m : Ex) : Sx := fun env => match env[i]? with
  | some (some (true, .lst ds)) => (m env).bind fun d => (mk env).bind fun c => match c with
    | .int n => (ixN ds.length n).bind fun j => some (.nx (env.set i (some (true, .lst (ds.set j d)))))
    | _ => none
  | _ => none
/-- name[k] op= e, ints -/
def sAugL (i : Nat) (f : Int → Int → Int) (mk m : Ex) : Sx := fun env => match env[i]? with
  | some (some (true, .lst ds)) => (mk env).bind fun c => (m env).bind fun d => match c, d with
    | .int n, .int y => if 0 ≤ n ∧ n < 1000000 then (match ds[n.toNat]? with
      | some (.int x) => some (.nx (env.set i (some (true, .lst (ds.set n.toNat (.int (f x y)))))))
      | _ => none) else none
    | _, _ => none
  | _ => none
def rGetL : V → V → Hp → VK → Prop := fun x y H Q => ∃ p xs n v, x = .ref p ∧ y = .int n ∧ 0 ≤ n ∧ n < 1000000 ∧ H p = some (.lst xs) ∧ xs[n.toNat]? = some v ∧ Q v H
theorem get_list : PGet X rGetL := by
  intro pins s σ H x y v u Q I rx ry h
  obtain ⟨p, xs, n, z, rfl, rfl, h0, h1, hp, hz, q⟩ := h
  cases rx
  obtain ⟨t, rfl⟩ := ry
  obtain ⟨its, r, pl, hs⟩ := I.list (SqL.of hp)
  obtain ⟨w, ew, rw'⟩ := r.get hz
  exact wpAny_getItem_list pl.isList h0 (by omega) (by simpa using ew) ⟨z, H, I, rw', q⟩
theorem ok_augL (i : Nat) {x : Str} {f : Int → Int → Int} {op : Operator} {ei : Expr} {mk m : Ex} {p tpos : Pos} (ho : PIp X op (ipI f)) (hk : OkE X ei mk) (he : OkE X e m) (hi : X.N[i]? = some x := by rfl) (hv : Vis X.env.scope x := by first | exact Or.inl rfl | exact Or.inr (Or.inl rfl) | exact Or.inr (Or.inr rfl)) (hd : (x == ("__debug__" : Str)) = false := by decide)
    (hcd : (x == ("__classdict__" : Str)) = false := by decide) (ha : ∀ ov iv new, augStore ei ov iv new = (do holding [new, ov, iv] (setItem ov iv new); release [new, ov, iv] []; pure .next) := by intros; rfl) :
    OkS X (.AugAssign (.Subscript (.Name x p) ei tpos) op e pos) (sAugL i f mk m) :=
  weakS (ps_augS (pe_var (i := i) hi hv hd hcd) hk get_list he ho set_list ha) fun E σ H ⟨H0, G0, env, G, r, rs, e, k⟩ => by
    unfold sAugL at e
    split at e
    · rename_i ds hn
      obtain ⟨c, e1, e⟩ := Option.bind_eq_some_iff.mp e
      obtain ⟨d, e2, e⟩ := Option.bind_eq_some_iff.mp e
      cases c with
      | int n =>
       cases d with
       | int y =>
        have e : (if 0 ≤ n ∧ n < 1000000 then (match ds[n.toNat]? with
      | some (.int x) => some (Res.nx (env.set i (some (true, .lst (ds.set n.toNat (.int (f x y)))))))
      | _ => none) else none) = some r := e
        split at e
        · rename_i hb
          split at e
          · rename_i z hz
            cases e
            obtain ⟨a, q1, q2, q3, xs, w1, w2⟩ := rs.rl.ow i _ hn
            refine ⟨_, q1, atE rs e1 fun u G1 H1 rs1 s1 g1 r1 => ?_⟩
            cases r1
            obtain ⟨a', z1, z2, z3, ys, y1, y2⟩ := rs1.rl.ow i _ hn
            rw [q1] at z1; cases z1
            obtain ⟨v, v1, v2⟩ := y2.get hz
            cases v2
            refine ⟨a, ys, n, _, rfl, rfl, hb.1, hb.2, y1, v1, atE rs1 e2 fun u G2 H2 rs2 s2 g2 r2 => ?_⟩
            cases r2
            obtain ⟨a', z1, z2, z3, ys2, x1, x2⟩ := rs2.rl.ow i _ hn
            rw [q1] at z1; cases z1
            have hj : ixN ys2.length n = some n.toNat := by
              unfold ixN
              have hlt : n.toNat < ys2.length := by rw [x2.length]; exact (List.getElem?_eq_some_iff.mp hz).1
              rw [if_pos hb.1, if_pos (by omega)]
            refine ⟨_, _, rfl, rfl, a, ys2, n, n.toNat, rfl, rfl, x1, hj, ?_⟩
            exact k _ G2 _ (rs2.write hn q1 ⟨_, upd_same, x2.set _ (.int _)⟩) (s1.trans s2)
          · cases e
        · cases e
       | _ => cases e
      | _ => cases d <;> cases e
    · cases e
end

/-! ### loops -/
def forGo (t : Gx) (b : Sx) : List D → Env → Option Res
  | [], env => some (.nx env)
  | d :: ds, env => (t d env).bind fun env1 => match b env1 with
    | some (.nx e) => forGo t b ds e
    | some (.ct e) => forGo t b ds e
    | some (.bk e) => some (.nx e)
    | some (.rt d) => some (.rt d)
    | none => none
def sFor (src : Ax) (t : Gx) (b : Sx) : Sx := fun env => (src env).bind fun ds => forGo t b ds env
section
variable {X : Cx} {pos : Pos}
theorem ok_for {tg iter : Expr} {body : List Stmt} {src : Ax} {t : Gx} {b : Sx} {vs : List Nat} (hp : PassesOwn (model X.prog X.w) X.A X.env X.xe) (hc : X.calm = true) (hi : OkI X tg iter src) (hg : OkG X vs tg t) (hb : OkB X body b) (hs : ∀ x, foldedSetIterable iter X.env x = pure x := by intro _; rfl) :
    OkS X (.For tg iter body [] pos) (sFor src t b) := weakS (ps_for hp hc hi hg hb hs) fun E σ H ⟨H0, G0, env, G, r, rs, e, k⟩ => by
  obtain ⟨ds, e1, e2⟩ := Option.bind_eq_some_iff.mp e
  refine ⟨_, env, G, ds, rs.rl, e1, fun J G1 H1 g1 wk => ?_⟩
  -- behind i items: the rest gives r
  refine ⟨fun i m σ' H' => m = ds.length - i ∧ i ≤ ds.length ∧ ∃ (env' : Env) (G' : Hp), Rs X.K H0 G0 env' σ' G' H' ∧ Same G1 G' ∧ forGo t b (ds.drop i) env' = some r,
    ⟨ds.length, by simp, Nat.zero_le _, env, G1, rs.grow g1, Same.refl _, by simpa using e2⟩, ?_⟩
  rintro i m σ' H' ⟨rfl, hi, env', G', rs', s', hgo⟩
  obtain ⟨wstop, wgo⟩ := wk i G' H' (fun b o q _ => s' b o q) rs'.rl.gh
  by_cases hlt : i < ds.length
  · obtain ⟨go, yl⟩ := wgo ds[i] (by simp [hlt])
    refine .inr ⟨go, fun σ2 H2 => i + 1 ≤ ds.length ∧ ∃ (env2 : Env) (G2 : Hp), Rs X.K H0 G0 env2 σ2 G2 H2 ∧ Same G1 G2 ∧ forGo t b (ds.drop (i + 1)) env2 = some r,
      fun σ2 H2 ⟨p1, p2⟩ => ⟨ds.length - (i + 1), by omega, rfl, p1, p2⟩, fun x H2 hy => ?_⟩
    obtain ⟨G2, g2, r2⟩ := yl x H2 hy
    rw [List.drop_eq_getElem_cons hlt] at hgo
    unfold forGo at hgo
    obtain ⟨env1, t1, hgo⟩ := Option.bind_eq_some_iff.mp hgo
    have rs2 := rs'.grow g2
    refine ⟨_, env', G2, _, env1, rs2.rl, r2, t1, fun σ3 rl3 _ => ?_⟩
    have rs3 : Rs X.K H0 G0 env1 σ3 G2 H2 := ⟨rl3, rs2.g0⟩
    have s2 := s'.trans g2.g
    cases hb1 : b env1 with
    | none => rw [hb1] at hgo; cases hgo
    | some r1 =>
      rw [hb1] at hgo
      refine ⟨H0, G0, env1, G2, r1, rs3, hb1, ?_⟩
      cases r1 with
      | nx e => intro σ4 G4 H4 rs4 s4; exact ⟨hlt, e, G4, rs4, s2.trans s4, hgo⟩
      | ct e => intro σ4 G4 H4 rs4 s4; exact ⟨hlt, e, G4, rs4, s2.trans s4, hgo⟩
      | bk e => cases hgo; intro σ4 G4 H4 rs4 s4; exact k σ4 G4 H4 rs4 (g1.g.trans (s2.trans s4))
      | rt d => cases hgo; exact k
  · rw [List.drop_eq_nil_of_le (by omega)] at hgo
    cases hgo
    exact .inl ⟨wstop (by omega), k σ' G' H' rs' (g1.g.trans s')⟩
def whGo (c : Tx) (b : Sx) : Nat → Env → Option Res
  | 0, _ => none
  | n + 1, env => (c env).bind fun k => if k then (match b env with
    | some (.nx e) => whGo c b n e
    | some (.ct e) => whGo c b n e
    | some (.bk e) => some (.nx e)
    | some (.rt d) => some (.rt d)
    | none => none) else some (.nx env)
def sWhile (n : Nat) (c : Tx) (b : Sx) : Sx := whGo c b n
theorem ok_while (n : Nat) {c : Expr} {body : List Stmt} {tc : Tx} {b : Sx} (hp : PassesOwn (model X.prog X.w) X.A X.env X.xe) (hc : OkT X c tc) (hb : OkB X body b) : OkS X (.While c body [] pos) (sWhile n tc b) := weakS (ps_while hp hc hb) fun E σ H ⟨H0, G0, env, G, r, rs, e, k⟩ => by
  refine ⟨fun m σ' H' => ∃ (env' : Env) (G' : Hp), Rs X.K H0 G0 env' σ' G' H' ∧ Same G G' ∧ whGo tc b m env' = some r, ⟨n, env, G, rs, Same.refl G, e⟩, ?_⟩
  rintro m σ' H' ⟨env', G', rs', s', hgo⟩
  cases m with
  | zero => cases hgo
  | succ m =>
    unfold whGo at hgo
    obtain ⟨x, e1, e2⟩ := Option.bind_eq_some_iff.mp hgo
    refine ⟨_, env', G', x, rs'.rl, e1, fun G2 H2 g2 => ?_⟩
    have rs2 := rs'.grow g2
    have s2 := s'.trans g2.g
    cases x with
    | true =>
      refine ⟨fun σ3 H3 => ∃ (env3 : Env) (G3 : Hp), Rs X.K H0 G0 env3 σ3 G3 H3 ∧ Same G G3 ∧ whGo tc b m env3 = some r, fun σ3 H3 q => ⟨m, Nat.lt_succ_self m, q⟩, ?_⟩
      have e2 : (match b env' with
        | some (.nx e) => whGo tc b m e
        | some (.ct e) => whGo tc b m e
        | some (.bk e) => some (.nx e)
        | some (.rt d) => some (.rt d)
        | none => none) = some r := e2
      cases hb1 : b env' with
      | none => rw [hb1] at e2; cases e2
      | some r1 =>
        rw [hb1] at e2
        refine ⟨H0, G0, env', G2, r1, rs2, hb1, ?_⟩
        cases r1 with
        | nx e => intro σ4 G4 H4 rs4 s4; exact ⟨e, G4, rs4, s2.trans s4, e2⟩
        | ct e => intro σ4 G4 H4 rs4 s4; exact ⟨e, G4, rs4, s2.trans s4, e2⟩
        | bk e => cases e2; intro σ4 G4 H4 rs4 s4; exact k σ4 G4 H4 rs4 (s2.trans s4)
        | rt d => cases e2; exact k
    | false =>
      cases e2
      exact k σ' G2 H2 rs2 s2
end

/-! ### a def -/
def startE (N : Nat) (ds : List D) : Env := ds.map (fun d => some (false, d)) ++ List.replicate (N - ds.length) none
def fnD (n N : Nat) (m : Sx) (ds : List D) : Option D := if ds.length = n ∧ n ≤ N then (match m (startE N ds) with
  | some (.rt d) => some d
  | some (.nx _) => some .non
  | _ => none) else none
theorem start_rl {K : PySem.W.Frag} {G H : Hp} {N : List Str} {vs : List V} {ds : List D} (e : Same G H) (r : Rps K G vs ds) (hn : ds.length ≤ N.length) : Rl K (fun a => H a = none) (startE N.length ds) (L2.start N vs) G H where
  gh := e
  len := by
    unfold startE L2.start
    simp only [List.length_append, List.length_map, List.length_replicate, r.length]
  fr := fun i d h => by
    unfold startE at h
    by_cases hi : i < ds.length
    · rw [List.getElem?_append_left (by simpa using hi), List.getElem?_map] at h
      obtain ⟨c, h1, h2⟩ := Option.map_eq_some_iff.mp h
      cases h2
      obtain ⟨v, q1, q2⟩ := r.get h1
      refine ⟨v, ?_, q2⟩
      unfold L2.start
      rw [List.getElem?_append_left (by simpa [r.length] using hi), List.getElem?_map, q1]
      rfl
    · rw [List.getElem?_append_right (by simpa using hi), List.getElem?_replicate] at h
      split at h <;> cases h
  ow := fun i d h => by
    unfold startE at h
    by_cases hi : i < ds.length
    · rw [List.getElem?_append_left (by simpa using hi), List.getElem?_map] at h
      obtain ⟨c, h1, h2⟩ := Option.map_eq_some_iff.mp h
      cases h2
    · rw [List.getElem?_append_right (by simpa using hi), List.getElem?_replicate] at h
      split at h <;> cases h
  dj := fun i j d e a h => by
    unfold startE at h
    by_cases hi : i < ds.length
    · rw [List.getElem?_append_left (by simpa using hi), List.getElem?_map] at h
      obtain ⟨c, h1, h2⟩ := Option.map_eq_some_iff.mp h
      cases h2
    · rw [List.getElem?_append_right (by simpa using hi), List.getElem?_replicate] at h
      split at h <;> cases h
theorem fn_ok {P : Program} {w : World} {K : PySem.W.Frag} {mg : Str → Option Value} {base : Heap} {x qual : Str} {st : Stmt} {f : Addr} {fd : FuncData} {N ps : List Str} {k : Nat} {m : Sx} (Fo : Fun K x qual st f fd) (S : FnScope N ps (defScope st))
    (hbody : ∀ (cdv : Value) (A : Around) (outer : List PySem.Env) (s : Shared) (H : Hp) (E : XK), Room k (A.deeper (PyProof.Rows.envOfC qual (defScope st) s.heap.objs.size f cdv)) → OkB (cxOf CX0 P w K mg base N qual (defScope st) f cdv A outer s H E).nox (defBody st) m) :
    FnOk P w K mg base CX0 (k + 1) f fd ps (spF K (fnD ps.length N.length m)) := by
  refine Fo.ok S (fun vs H Q E h => ?_) (fun cdv A outer s H vs Q E hr h => ⟨tS K m, hbody cdv A outer s H E hr, ?_⟩)
  · obtain ⟨G, ds, d, e, r, hF, _⟩ := h
    unfold fnD at hF
    split at hF
    · rename_i hl
      rw [r.length]; exact hl.1
    · cases hF
  · obtain ⟨G, ds, d, e, r, hF, k⟩ := h
    unfold fnD at hF
    split at hF
    · rename_i hl
      have rs : Rs K H G (startE N.length ds) (L2.start N vs) G H := ⟨start_rl e r (by omega), Gr.refl e⟩
      split at hF
      · rename_i d' hm
        cases hF
        exact ⟨H, G, _, G, _, rs, hm, fun v G' H' g r' => k v G' H' g r'⟩
      · rename_i e' hm
        cases hF
        exact ⟨H, G, _, G, _, rs, hm, fun σ' G' H' rs' _ => k .non G' H' rs'.g0 .non⟩
      · cases hF
    · cases hF
end Sh
end Part_ShE

section Part_ShF
set_option maxRecDepth 100000
set_option maxHeartbeats 2000000
/-! ShF: enumerate of a tuple; dicts keyed by tuples of ints, filled by a def. -/
namespace Sh
open PySem L2

set_option maxHeartbeats 4000000 in
theorem meets_enum1 {v : Value} {o : Obj} {H : Heap → Prop} (B : Begins v o H) :
    Meets (Builtin.«enumerate.__new__» ⟨[.type "enumerate", v], []⟩) (fun _ R s => H s.heap ∧
      R (.ok (.ret (.ref (s.heap.push o).objs.size))) { s with heap := (s.heap.push o).push { cls := .type "enumerate", data := .fields #[.none, .bool false, .ref s.heap.objs.size, rawInt 0, .none, .none] } }) :=
  .of_wp fun prog w A R s h => by
    obtain ⟨hp, g, d, tk, os⟩ := s
    obtain ⟨h1, h⟩ := h
    have hsub := sub_enumerate
    have q1 : ∀ {A' : Around} {E : Value → Shared → Prop} {Q : Value → Shared → Prop}, Q (.ref hp.objs.size) ⟨hp.push o, g, d, tk, os⟩ → wpAny (model prog w) A' (pyIter v) Q E ⟨hp, g, d, tk, os⟩ :=
      fun q => B.iter prog w _ _ ⟨hp, g, d, tk, os⟩ _ h1 q
    wp_walk using q1
    refine wpAny_stack_any fun st => wpAny_pure ?_
    split
    · rename_i c _ _ _ _ _
      cases (c == Value.type "enumerate")
      · wp_walk using q1
        exact ⟨_, rfl, h⟩
      · wp_walk using q1
        exact ⟨_, rfl, h⟩
    · wp_walk using q1
      exact ⟨_, rfl, h⟩
theorem enum1 {prog : Program} {w : World} {A : Around} {E : Value → Shared → Prop} {s : Shared} {v : Value} {o : Obj} {H : Heap → Prop} {Q : Value → Shared → Prop} (B : Begins v o H) (h1 : H s.heap)
    (h : ∀ h', IsEnum h' (s.heap.objs.size + 1) s.heap.objs.size 0 .none → h'.get? s.heap.objs.size = some o → h'.objs.size = s.heap.objs.size + 2 →
      (∀ b o, s.heap.get? b = some o → h'.get? b = some o) → Q (.ref (s.heap.objs.size + 1)) { s with heap := h' }) :
    wpAny (model prog w) A (call (.type "enumerate") [v]) Q E s := by
  refine callType_new F.called_enumerate (by decide) (F.typeCall_enumerate_1 _) (F.newCall_enumerate_1 _) (fun obj => F.args_object_init_2 obj _) F.entry_enumerate_new
    (meets_enum1 B) ⟨h1, ?_⟩
  have hz : (s.heap.push o).objs.size = s.heap.objs.size + 1 := Heap.size_push ..
  show _ ∧ _
  rw [hz]
  have he : IsEnum ((s.heap.push o).push { cls := .type "enumerate", data := .fields #[.none, .bool false, .ref s.heap.objs.size, rawInt 0, .none, .none] }) (s.heap.objs.size + 1) s.heap.objs.size 0 .none := by
    have := Heap.get?_push_size (s.heap.push o) (o := { cls := .type "enumerate", data := .fields #[.none, .bool false, .ref s.heap.objs.size, rawInt 0, .none, .none] }) rfl
    rw [hz] at this; exact this
  refine ⟨⟨_, he, rfl⟩, h _ he (Heap.get?_push_of_some _ (Heap.get?_push_size _ B.free)) (by rw [Heap.size_push, hz]) fun b o x => Heap.get?_push_of_some _ (Heap.get?_push_of_some _ x)⟩

/-- the tuple at a, its items in new pairs with their places -/
def IteT (K : PySem.W.Frag) (a : Addr) : It :=
  ⟨fun i H => ∃ (xs : List V) (x : V), SqT K H a xs ∧ xs[i]? = some x, fun i H v H' => ∃ (T : Addr) (x : V), v = .ref T ∧ H T = none ∧ H' = upd H T (.tup [.int (i : Nat), x]) ∧ ∀ xs, SqT K H a xs → xs[i]? = some x, fun i H => ∃ xs : List V, SqT K H a xs ∧ xs.length ≤ i⟩
theorem turn_enumT {P : Program} {w : World} {K : PySem.W.Frag} {elts : List Expr} {kk : Nat} {tpos : Pos} (a e it : Addr) :
    Turn P w K (.Tuple elts kk tpos) (IteT K a) [e, it] e (fun i h => (∃ old, IsEnum h e it ((i : Nat) : Int) old) ∧ h.IsTupleIter it a i ∧ e ≠ it) where
  mem := by simp
  obj := fun i h st b hb => by
    obtain ⟨⟨old, he⟩, ⟨o, ho, hc, hd⟩, _⟩ := st
    have e' : b = e ∨ b = it := by simpa using hb
    rcases e' with z | z
    · rw [z]; exact ⟨_, he, fun v q => nomatch q⟩
    · rw [z]; exact ⟨o, ho, fun v q => by rw [hd] at q; cases q⟩
  keep := fun i h h' st k => let ⟨⟨old, he⟩, hi, hne⟩ := st; ⟨⟨old, k e (by simp) _ he⟩, hi.at fun o q => k it (by simp) o q, hne⟩
  item := by
    intro X hP hw hK hc i pins s σ H E I hf st hg
    subst hP hw hK
    obtain ⟨⟨old, he⟩, hit, hne⟩ := st
    obtain ⟨xs, x, hq, hx⟩ := hg
    obtain ⟨its, rv, p, hz⟩ := I.tuple hq
    obtain ⟨u, hu, ru⟩ := rv.get hx
    have hel : e < s.heap.objs.size := Heap.lt_size he
    have hil : it < s.heap.objs.size := by obtain ⟨_, q, _⟩ := hit; exact Heap.lt_size q
    have p' : s.heap.IsTuple a its.toArray := p
    have hai : a ≠ it := fun z => by
      obtain ⟨o1, q1, c1, _⟩ := id p
      obtain ⟨o2, q2, c2, _⟩ := id hit
      rw [z, q2] at q1; cases q1
      rw [c2] at c1; exact absurd c1 (by decide +kernel)
    have hea : e ≠ a := fun z => by
      obtain ⟨o1, q1, c1, _⟩ := id p
      have q2 : s.heap.get? e = _ := he
      rw [z, q1] at q2; cases q2
      have c1' : Value.type "enumerate" = Value.type "tuple" := c1
      exact absurd c1' (by decide +kernel)
    have Dr := Draws.tuple (prog := X.prog) (w := X.w) (A := X.A.in1) (I.ok.hd hc) it a hai its.toArray
    have hlt : i < its.toArray.size := by
      have := (List.getElem?_eq_some_iff.mp hu).1
      simpa using this
    refine wpAny_pyNext_enum_itemD Dr he ⟨hit, p'⟩ hlt hne (by simp [hne, hea]) fun y h' tk hy ho st' hT hsz hk => ?_
    have ey : y = u := by
      have hy' : its.toArray[i]? = some y := hy
      rw [List.getElem?_toArray, hu] at hy'
      exact (Option.some.inj hy').symm
    subst ey
    refine ⟨_, rfl, wpAny_letOwnedTupleGo_enum (s := { s with heap := h', toks := tk + 1 }) ho fun h'' he' sb => ?_⟩
    have hT2 : h''.get? s.heap.objs.size = some { cls := .type "tuple", data := .seq #[.int i tk, y] } := (sb.2 _ (Nat.ne_of_gt hel)).trans hT
    have new : ObjOk X.prog X.w (upd H s.heap.objs.size (.tup [.int (i : Nat), x])) h'' s.heap.objs.size (.tup [.int (i : Nat), x]) :=
      ⟨by show 2 ≤ sizeLine; decide, [.int i tk, y], .cons ⟨_, rfl⟩ (.cons ru .nil), ⟨_, hT2, rfl, _, rfl⟩⟩
    have I1 : Inv X pins σ (upd H s.heap.objs.size (.tup [.int (i : Nat), x])) { s with heap := h'', toks := tk + 1 } :=
      I.turnedNew (ch := [e, it]) (fun b ob hb q => (sb.2 b (fun z => hb (by simp [z]))).trans (hk b ob (fun z => hb (by simp [z])) (fun z => hb (by simp [z])) q)) hf (Nat.le_refl _) new
    refine ⟨.ref s.heap.objs.size, _, I1, rfl, ⟨_, x, rfl, I.hok.fresh (Nat.le_refl _), rfl, fun ys hy => by rw [I.tuple_inj hy hq]; exact hx⟩, ⟨⟨y, ?_⟩, st'.1.at fun o q => (sb.2 it (Ne.symm hne)).trans q, hne⟩, fun b hb => ?_⟩
    · have e1 : ((i + 1 : Nat) : Int) = (i : Int) + 1 := by omega
      rw [e1]; exact he'
    · have hb' : b < s.heap.objs.size := by
        have e' : b = e ∨ b = it := by simpa using hb
        rcases e' with z | z
        · rw [z]; exact hel
        · rw [z]; exact hil
      rw [upd_ne (Nat.ne_of_lt hb')]
      exact (hf b hb).1
  done := by
    intro X hP hw hK hc i pins s σ H E I hf st hg
    subst hP hw hK
    obtain ⟨⟨old, he⟩, hit, hne⟩ := st
    obtain ⟨xs, hq, hx⟩ := hg
    obtain ⟨its, rv, p, hz⟩ := I.tuple hq
    obtain ⟨f0, f1, f2, f3, f4, f5⟩ := hf it (by simp)
    have hl := rv.length
    have p' : s.heap.IsTuple a its.toArray := p
    have hai : a ≠ it := fun z => by
      obtain ⟨o1, q1, c1, _⟩ := id p
      obtain ⟨o2, q2, c2, _⟩ := id hit
      rw [z, q2] at q1; cases q1
      rw [c2] at c1; exact absurd c1 (by decide +kernel)
    -- the iterator stands at i, past the end
    refine enum_endT (I.ok.hd hc) he hit p' (by rw [List.getElem?_toArray, List.getElem?_eq_none_iff]; omega) fun h' eb => ⟨rfl, I.turned (t' := s.toks) (fun b o hb q => eb b o hb q) f0 f1 f3 f4 f5⟩
  self := fun A i s Q E st h => let ⟨⟨_, he⟩, _⟩ := st; wpAny_pyIter_enum he h
where
  enum_endT {prog : Program} {w : World} {A : Around} {E : Value → Shared → Prop} {s : Shared} {e it l : Addr} {i : Nat} {items : Array Value} {old : Value} {Q : Option Value → Shared → Prop} (hh : A.handled = none)
      (he : IsEnum s.heap e it i old) (hit : s.heap.IsTupleIter it l i) (hl : s.heap.IsTuple l items) (hx : items[i]? = none)
      (hQ : ∀ h', Heap.ExtBut it s.heap h' → Q none { s with heap := h' }) : wpAny (model prog w) A (pyNext (.ref e)) Q E s := by
    have hT : s.TypeIs (.ref e) "enumerate" := ⟨_, he, rfl⟩
    unfold pyNext
    refine wpAny_bind (wpAny_attempt (wpAny_callSpecial?_slot (name := Str.ofString "__next__") hT F.slot_enumerate_next
      (wpAny_call_entry F.slot_enumerate_next hT F.entry_enumerate_next ?_ (F.args_enumerate_next_1 _))))
    show wpAny _ _ (field (.ref e) 2 >>= _) _ _ _
    refine wpAny_bind (wpAny_field he rfl (x := .ref it) rfl ?_)
    refine wpAny_bind (wpAny_nextOf_tuple_end (A := A.in1) hh hit hl hx fun h' x he' hx' => ?_)
    obtain ⟨o, ho, hc⟩ := hx'
    refine wpAny_bind (wpAny_isInstance (T := "StopIteration") (b := true) ⟨o, ho, hc⟩ isSubtype_stop ?_)
    exact wpAny_pure (hQ _ he')

def iEnumT (K : PySem.W.Frag) (ta : TA) : TI := fun σ H R => ta σ H fun vs H1 => ∃ (a : Addr) (xs : List V), vs = [.ref a] ∧ SqT K H1 a xs ∧ R (IteT K a) H1
theorem pi_enumT {X : Cx} {e : Expr} {ta : TA} {p pos tpos : Pos} {elts : List Expr} {kk : Nat} (hg : Gl X "enumerate") (hm : X.mg "enumerate" = none) (ha : PA X [e] ta) (hs : starEach [e] X.env = [(false, eval e X.env)] := by rfl) :
    PI X (.Tuple elts kk tpos) (.Call (.Name "enumerate" p) [e] [] pos) (iEnumT X.K ta) := by
  refine ⟨fun pins s σ H R I h => ?_⟩
  refine PyProof.Rows.Call_ (ld_blt I hg hm PyProof.Rows.boot_enumerate (PyProof.Rows.callWith_type1 (thn (ha.run pos pins s σ H _ I h) fun us s1 ⟨vs, H1, I1, r1, q1⟩ => ?_) hs rfl))
  obtain ⟨a, xs, ex, hq, q⟩ := q1
  subst ex
  obtain ⟨u, rfl, r⟩ := vals1 r1
  cases r
  obtain ⟨its, rv, p', hz⟩ := I1.tuple hq
  have ht : s1.heap.IsTuple a its.toArray := p'
  refine enum1 (begins_tuple a its.toArray) ht fun h' he hit hsz hk => wpAny_pyIter_enum he ?_
  have I2 : Inv X pins σ H1 { s1 with heap := h' } := I1.kept (t' := s1.toks) hk
  have fin : ∀ b ∈ [s1.heap.objs.size + 1, s1.heap.objs.size], FpOk X pins H1 b := fun b hb => by
    have e' : b = s1.heap.objs.size + 1 ∨ b = s1.heap.objs.size := by simpa using hb
    have hle : s1.heap.objs.size ≤ b := by
      rcases e' with z | z
      · rw [z]; exact Nat.le_succ _
      · rw [z]; exact Nat.le_refl _
    exact I1.fpOk hle (I1.hok.fresh hle)
  exact ⟨s1.heap.objs.size + 1, [s1.heap.objs.size + 1, s1.heap.objs.size], _, _, H1, rfl, I2, turn_enumT a (s1.heap.objs.size + 1) s1.heap.objs.size, ⟨⟨.none, he⟩, ⟨_, hit, rfl, rfl⟩, Nat.succ_ne_self _⟩, fin, q⟩
theorem walks_enumT {K : PySem.W.Frag} {G : Hp} {a : Addr} {xs : List V} {ds : List D} (h : SqT K G a xs) (r : Rps K G xs ds) : Walks K (IteT K a) (enumD ds) G := by
  intro i G1 H1 e1 e2
  have hH : SqT K H1 a xs := same_sqt e2 (sqt_n e1 h)
  refine ⟨fun hi => ⟨xs, hH, by rw [r.length]; unfold enumD at hi; rwa [List.length_mapIdx] at hi⟩, fun d hd => ?_⟩
  obtain ⟨c, hc, rfl⟩ := enumD_get hd
  obtain ⟨v, q1, q2⟩ := r.get hc
  refine ⟨⟨xs, v, hH, q1⟩, fun x H2 y => ?_⟩
  obtain ⟨T, u, rfl, hT, rfl, y2⟩ := y
  have z := y2 xs hH
  rw [q1] at z; cases z
  have g := Gr.new (o := .tup [.int (i : Nat), v]) e2 hT
  exact ⟨_, g, .tup (SqT.of upd_same) (.cons (.int _) (.cons ((q2.monoN e1).mono g.g _ _) .nil))⟩
def wEn (m : Ax) : Ax := fun env => (m env).bind fun ds => match ds with
  | [.lst es] => some (enumD es)
  | [.tup es] => some (enumD es)
  | _ => none
theorem ok_wEn {X : Cx} {e : Expr} {m : Ax} {p pos tpos : Pos} {elts : List Expr} {kk : Nat} (hm : X.mg "enumerate" = none) (ha : OkA X [e] m) (hg : Gl X "enumerate" := by rfl) (hs : starEach [e] X.env = [(false, eval e X.env)] := by rfl) :
    OkI X (.Tuple elts kk tpos) (.Call (.Name "enumerate" p) [e] [] pos) (wEn m) :=
  weakI (orI (pi_enum hg hm ha hs) (pi_enumT hg hm ha hs)) fun σ H R ⟨O, env, G, ds, rl, e, k⟩ => by
    obtain ⟨es, e1, e2⟩ := Option.bind_eq_some_iff.mp e
    split at e2
    · cases e2
      refine .inl ⟨O, env, G, _, rl, e1, fun vs G1 H1 g1 r1 => ?_⟩
      obtain ⟨v, rfl, r⟩ := rps1 r1
      cases r with
      | @lst a xs es h1 h2 => exact ⟨a, xs, rfl, SqL.of (g1.gh _ _ h1), k _ G1 H1 g1 (walks_enum h1 h2)⟩
    · cases e2
      refine .inr ⟨O, env, G, _, rl, e1, fun vs G1 H1 g1 r1 => ?_⟩
      obtain ⟨v, rfl, r⟩ := rps1 r1
      cases r with
      | @tup a xs es h1 h2 => exact ⟨a, xs, rfl, same_sqt g1.gh h1, k _ G1 H1 g1 (walks_enumT h1 h2)⟩
    · cases e2
end Sh
end Part_ShF

section Part_ShG
set_option maxRecDepth 100000
set_option maxHeartbeats 2000000
/-! ShG: a dict keyed by tuples of ints, filled by the def that made it. -/
namespace Sh
open PySem L2
def dput (s : List (List Int × D)) (k : List Int) (d : D) : List (List Int × D) :=
  if (s.any fun kv => decide (kv.1 = k)) = true then s.map (fun kv => if kv.1 = k then (kv.1, d) else kv) else s ++ [(k, d)]
theorem inl_inj {k j : List Int} : (k.map (Sum.inl : Int → Key) = j.map Sum.inl) ↔ k = j := by
  constructor
  · intro h
    exact List.map_inj_right (fun a b q => Sum.inl.inj q) |>.mp h
  · rintro rfl; rfl
section
variable {K : PySem.W.Frag} {G : Hp}
theorem KR.any (k : List Int) : ∀ {r : List (List Key × V)} {s : List (List Int × D)}, KR K G r s → (r.any fun kv => decide (kv.1 = k.map Sum.inl)) = s.any fun kv => decide (kv.1 = k)
  | _, _, .nil => rfl
  | _, _, .cons (k := j) h t => by
    rw [List.any_cons, List.any_cons, KR.any k t]
    congr 1
    by_cases q : j = k
    · rw [decide_eq_true (inl_inj.mpr q), decide_eq_true q]
    · rw [decide_eq_false (fun z => q (inl_inj.mp z)), decide_eq_false q]
theorem KR.repl {k : List Int} {v : V} {d : D} (q : Rp K G v d) : ∀ {r : List (List Key × V)} {s : List (List Int × D)}, KR K G r s →
    KR K G (r.map fun kv => if kv.1 = k.map Sum.inl then (kv.1, v) else kv) (s.map fun kv => if kv.1 = k then (kv.1, d) else kv)
  | _, _, .nil => .nil
  | _, _, .cons (k := j) h t => by
    rw [List.map_cons, List.map_cons]
    by_cases z : j = k
    · rw [if_pos (inl_inj.mpr z), if_pos z]
      exact .cons q (KR.repl q t)
    · rw [if_neg (fun y => z (inl_inj.mp y)), if_neg z]
      exact .cons h (KR.repl q t)
theorem KR.snoc {k : List Int} {v : V} {d : D} (q : Rp K G v d) : ∀ {r : List (List Key × V)} {s : List (List Int × D)}, KR K G r s → KR K G (r ++ [(k.map Sum.inl, v)]) (s ++ [(k, d)])
  | _, _, .nil => .cons q .nil
  | _, _, .cons h t => .cons h (KR.snoc q t)
theorem KR.put {k : List Int} {v : V} {d : D} (q : Rp K G v d) {r : List (List Key × V)} {s : List (List Int × D)} (h : KR K G r s) : KR K G (putK r (k.map Sum.inl) v) (dput s k d) := by
  unfold putK dput
  rw [h.any k]
  split
  · exact h.repl q
  · exact h.snoc q
end
/-- a new tuple of ints -/
abbrev Kx := Env → Option (List Int)
def tK (K : PySem.W.Frag) (m : Kx) : TE := fun σ H Q => ∃ (O : Addr → Prop) (env : Env) (G : Hp) (ks : List Int), Rl K O env σ G H ∧ m env = some ks ∧ ∀ b G' H', Gr G H G' H' → H' b = some (.tup (ks.map V.int)) → Q (.ref b) H'
def OkK (X : Cx) (e : Expr) (m : Kx) : Prop := PE X e (tK X.K m)
def kTup (m : Ex) : Kx := fun env => (m env).bind fun d => match d with
  | .lst ds => intsD ds
  | _ => none
section
variable {X : Cx} {e : Expr} {pos : Pos}
theorem ok_kTup {m : Ex} {p : Pos} (hm : X.mg "tuple" = none) (ha : OkE X e m) (hg : Gl X "tuple" := by rfl) (hsa : starEach (e :: []) X.env = (false, eval e X.env) :: starEach [] X.env := by rfl) (hpl : (backTo pos (starEach ([] : List Expr) X.env)).any (·.1) = false := by rfl) :
    OkK X (.Call (.Name "tuple" p) [e] [] pos) (kTup m) :=
  weakE (pe_callTy call_tuple_of hg hm (by decide +kernel) (pa_cons ha pa_nil hsa) (by decide) (by decide) hsa hpl) fun σ H Q ⟨O, env, G, ks, rl, e, k⟩ => by
    obtain ⟨d, e1, e2⟩ := Option.bind_eq_some_iff.mp e
    split at e2
    · refine ⟨O, env, G, _, rl, e1, fun v G1 H1 g1 r1 => ?_⟩
      cases r1 with
      | @lst a xs ds h1 h2 =>
        have z := ints_are h2 e2
        subst z
        refine ⟨a, _, rfl, .inl ⟨SqL.of (g1.gh _ _ h1), fun l hl => ?_⟩⟩
        exact k l _ _ (g1.trans (Gr.new (o := .tup (ks.map V.int)) g1.gh hl)) upd_same
    · cases e2
/-- {} that the def fills -/
def fNewD : Fx := fun _ => some (true, .dct [])
theorem ok_fNewD : OkF X (.Dict [] [] pos) fNewD := weakE pe_dnewT fun σ H Q ⟨O, env, G, f, rl, e, k⟩ => by
  cases e
  intro p hp
  exact k _ _ _ (Gr.own (o := .dT []) rl.gh hp) ⟨p, rfl, hp, free_of rl.gh hp, [], upd_same, .nil⟩
/-- name[key] = e -/
def sPutD (i : Nat) (mk : Kx) (m : Ex) : Sx := fun env => match env[i]? with
  | some (some (true, .dct kvs)) => (m env).bind fun d => (mk env).bind fun ks => if kvs.length < 1000000 then some (.nx (env.set i (some (true, .dct (dput kvs ks d))))) else none
  | _ => none
theorem ok_putD (i : Nat) {x : Str} {ei : Expr} {mk : Kx} {m : Ex} {p pos' : Pos} (hu : X.A.units + 1 < cLine) (hk : OkK X ei mk) (he : OkE X e m) (hi : X.N[i]? = some x := by rfl) (hv : Vis X.env.scope x := by first | exact Or.inl rfl | exact Or.inr (Or.inl rfl) | exact Or.inr (Or.inr rfl)) (hd : (x == ("__debug__" : Str)) = false := by decide)
    (hcd : (x == ("__classdict__" : Str)) = false := by decide) (hs : swapsWith e (some (.Subscript (.Name x p) ei pos')) pos.line X.env = pure false := by rfl) : OkS X (.Assign [.Subscript (.Name x p) ei pos'] e pos) (sPutD i mk m) :=
  weakS (ps_dput hu (pe_var (i := i) hi hv hd hcd) hk he hs) fun E σ H ⟨H0, G0, env, G, r, rs, e, k⟩ => by
    unfold sPutD at e
    split at e
    · rename_i kvs hn
      obtain ⟨d, e1, e⟩ := Option.bind_eq_some_iff.mp e
      obtain ⟨ks, e2, e⟩ := Option.bind_eq_some_iff.mp e
      split at e
      · rename_i hl
        cases e
        refine atE rs e1 fun u G1 H1 rs1 s1 g1 r1 => ?_
        obtain ⟨a, q1, q2, q3, ys, w1, w2⟩ := rs1.rl.ow i _ hn
        refine ⟨_, q1, _, env, G1, ks, rs1.rl, e2, fun b G2 H2 g2 hb => ?_⟩
        have rs2 := rs1.grow g2
        obtain ⟨a', z1, z2, z3, ys2, y1, y2⟩ := rs2.rl.ow i _ hn
        rw [q1] at z1; cases z1
        have hb' : H2 b = some (.tup ((ks.map Sum.inl).map kV)) := by rw [hb, List.map_map]; rfl
        refine ⟨a, _, rfl, DPut.t y1 hb' (Nat.lt_of_lt_of_le (by rw [y2.length]; exact hl) (by decide)), ?_⟩
        exact k _ G2 _ (rs2.write hn q1 ⟨_, upd_same, y2.put (r1.mono g2.g _ _)⟩) (s1.trans g2.g)
      · cases e
    · cases e
/-- len(name), a dict that the def fills -/
def eLenD (i : Nat) : Ex := fun env => match env[i]? with
  | some (some (true, .dct kvs)) => some (.int (kvs.length : Nat))
  | _ => none
theorem ok_lenD (i : Nat) {x : Str} {p q : Pos} (hm : X.mg "len" = none) (hi : X.N[i]? = some x := by rfl) (hv : Vis X.env.scope x := by first | exact Or.inl rfl | exact Or.inr (Or.inl rfl) | exact Or.inr (Or.inr rfl)) (hd : (x == ("__debug__" : Str)) = false := by decide)
    (hcd : (x == ("__classdict__" : Str)) = false := by decide) (hg : Gl X "len" := by rfl) (hsa : starEach (.Name x p :: []) X.env = (false, eval (.Name x p) X.env) :: starEach [] X.env := by rfl) (hpl : (backTo pos (starEach ([] : List Expr) X.env)).any (·.1) = false := by rfl) :
    OkE X (.Call (.Name "len" q) [.Name x p] [] pos) (eLenD i) :=
  weakE (pe_callB call_len_dT hg hm PySem.boot_len (pa_cons (pe_var (i := i) hi hv hd hcd) pa_nil hsa) (by decide) (by decide) hsa hpl) fun σ H Q ⟨O, env, G, d, rl, e, k⟩ => by
    unfold eLenD at e
    split at e
    · rename_i kvs hn
      cases e
      obtain ⟨a, q1, q2, q3, ys, w1, w2⟩ := rl.ow i _ hn
      exact ⟨_, q1, a, ys, rfl, w1, by rw [w2.length]; exact k _ G H (Gr.refl rl.gh) (.int _)⟩
    · cases e
end
end Sh
end Part_ShG

section Part_ShH
set_option maxRecDepth 100000
set_option maxHeartbeats 2000000
/-! ShH: ranges as values, two for in a comprehension, isinstance, chains, pairs stored where a name is a cell, calls by the callee's promise. -/
namespace Sh
open PySem L2

section
variable {X : Cx} {pos : Pos}
/-! ### calls -/
/-- a def of data that may be called by its name -/
structure Cl (P : Program) (w : World) (K : PySem.W.Frag) (mg : Str → Option Value) (base : Heap) (k : Nat) (x : Str) (F : List D → Option D) : Prop where
  ex : ∃ (f : Addr) (fd : FuncData) (ps : List Str), FnOk P w K mg base CX0 k f fd ps (spF K F) ∧ mg x = some (.ref f) ∧ PySem.W.keepIn K (.ref f) = true ∧ Binds K fd ps []
theorem ok_cl {k j : Nat} {F : List D → Option D} {x : Str} {p : Pos} {e : Expr} {es : List Expr} {ms : Ax} (c : Cl X.prog X.w X.K X.mg X.base k x F) (hr : Room j X.A) (hj : k ≤ j) (ha : OkA X (e :: es) ms) (hg : Gl X x := by rfl) (hdb : (x == ("__debug__" : Str)) = false := by decide)
    (he : starEach (e :: es) X.env = (false, eval e X.env) :: starEach es X.env := by rfl) (hpl : (backTo pos (starEach es X.env)).any (·.1) = false := by rfl) : OkE X (.Call (.Name x p) (e :: es) [] pos) (eCB F ms) := by
  obtain ⟨f, fd, ps, h1, h2, h3, h4⟩ := c.ex
  exact ok_call h1 (hr.mono hj) h2 h3 h4 ha hg hdb he hpl
theorem ok_cl0 {k j : Nat} {F : List D → Option D} {x : Str} {p : Pos} (c : Cl X.prog X.w X.K X.mg X.base k x F) (hr : Room j X.A) (hj : k ≤ j) (hlen : F [] ≠ none) (hg : Gl X x := by rfl) (hdb : (x == ("__debug__" : Str)) = false := by decide) : OkE X (.Call (.Name x p) [] [] pos) (eCB F aNil) := by
  obtain ⟨f, fd, ps, h1, h2, h3, h4⟩ := c.ex
  obtain ⟨d, hd⟩ := Option.ne_none_iff_exists'.mp hlen
  have hz : ps = [] := by
    have z := h1.len [] (fun _ => none) (fun _ _ => True) (fun _ _ _ => True) ⟨fun _ => none, [], d, fun _ _ q => q, .nil, hd, fun _ _ _ _ _ => trivial⟩
    exact List.length_eq_zero_iff.mp z.symm
  subst hz
  exact ok_call0 h1 (hr.mono hj) h2 h3 h4 hg hdb
/-- what is never reached -/
theorem ok_never {st : Stmt} : PS X st (fun _ _ _ => False) := ⟨fun pins s σ H E I h => h.elim⟩
def sNo : Sx := fun _ => none
theorem ok_no {st : Stmt} : OkS X st sNo := weakS ok_never fun E σ H ⟨H0, G0, env, G, r, rs, e, k⟩ => by cases e

/-! ### ranges as values -/
theorem rng_it {tg : Expr} {pins : List (Addr × Obj)} {σ : L2.St} {H : Hp} {s : Shared} {R : It → Hp → Prop} {E : Value → Shared → Prop} {lo hi : Int} {a : Addr} (I : Inv X pins σ H s) (ha : H a = some (.rng lo hi)) (h1 : -(2 ^ 62) ≤ lo) (h2 : lo < 2 ^ 62) (h3 : -(2 ^ 62) ≤ hi) (h4 : hi < 2 ^ 62)
    (q : R (Itr lo (hi - lo).toNat) H) : wpAny (model X.prog X.w) X.A (pyIter (.ref a)) (PIE X pins σ tg R) E s := by
  obtain ⟨t, u, v, e⟩ := (show ObjOk X.prog X.w H s.heap a (.rng lo hi) from I.hok a _ ha)
  refine wpAny_pyIter_range e (small_one h1 h2 h3 h4) ?_
  refine ⟨s.heap.objs.size, [s.heap.objs.size], _, _, H, rfl, I.kept (t' := s.toks) fun b o e => Heap.get?_push_of_some _ e, turn_range _ lo (hi - lo).toNat, ?_, fun b hb => ?_, q⟩
  · have e1 : lo + ((0 : Nat) : Int) * 1 = lo := by simp
    have e2 : (((hi - lo).toNat : Nat) : Int) - ((0 : Nat) : Int) = Builtin.Range.rangeSize lo hi 1 := by rw [rangeSize_one]; split <;> omega
    show IsRangeIter _ _ (lo + ((0 : Nat) : Int) * 1) ((((hi - lo).toNat : Nat) : Int) - ((0 : Nat) : Int)) 1
    rw [e1, e2]
    exact Heap.get?_push_size _ rfl
  · have e : b = s.heap.objs.size := by simpa using hb
    subst e
    exact I.fpOk (Nat.le_refl _) (I.hok.fresh (Nat.le_refl _))
theorem pi_rngV {tg e : Expr} {te : TE} (he : PE X e te) : PI X tg e (fun σ H R => te σ H fun x H1 => ∃ (a : Addr) (lo hi : Int), x = .ref a ∧ H1 a = some (.rng lo hi) ∧ (-(2 ^ 62) ≤ lo ∧ lo < 2 ^ 62 ∧ -(2 ^ 62) ≤ hi ∧ hi < 2 ^ 62) ∧ R (Itr lo (hi - lo).toNat) H1) := by
  refine ⟨fun pins s σ H R I h => ?_⟩
  refine thn (he.run pins s σ H _ I h) fun v s1 ⟨x, H1, I1, r1, q1⟩ => ?_
  obtain ⟨a, lo, hi, e, ha, ⟨b1, b2, b3, b4⟩, q⟩ := q1
  subst e
  cases r1
  exact rng_it I1 ha b1 b2 b3 b4 q
def wRng (m : Ex) : Ax := fun env => (m env).bind fun d => match d with
  | .rng i j => if (-1000000 ≤ i ∧ i ≤ 1000000) ∧ -1000000 ≤ j ∧ j ≤ 1000000 then some (rangeD i (j - i).toNat) else none
  | _ => none
theorem ok_wRng {tg e : Expr} {m : Ex} (h : OkE X e m) : OkI X tg e (wRng m) := weakI (pi_rngV h) fun σ H R ⟨O, env, G, ds, rl, e, k⟩ => by
  obtain ⟨d, e1, e2⟩ := Option.bind_eq_some_iff.mp e
  refine ⟨O, env, G, d, rl, e1, fun v G1 H1 g1 r1 => ?_⟩
  split at e2
  · split at e2
    · rename_i hb
      cases e2
      cases r1 with
      | rng _ _ h1 => exact ⟨_, _, _, rfl, g1.gh _ _ h1, ⟨by omega, by omega, by omega, by omega⟩, k _ G1 H1 g1 (walks_range _ _)⟩
    · cases e2
  · cases e2
theorem cr_range1 : CallR X (.type "range") (fun vs H Q => ∃ j, vs = [V.int j] ∧ ∀ p, H p = none → Q (.ref p) (upd H p (.rng 0 j))) := by
  intro pins s σ H vs us Q I r h
  obtain ⟨j, rfl, q⟩ := h
  obtain ⟨u1, rfl, ri⟩ := vals1 r
  obtain ⟨t, rfl⟩ := ri
  refine PySem.call_range_1 ⟨.ref s.heap.objs.size, upd H s.heap.objs.size (.rng 0 j), I.laid (t' := s.toks + 2) (fun b o e => Heap.get?_push_of_some _ e) (Nat.le_refl _) ?_, rfl, q _ (I.hok.fresh (Nat.le_refl _))⟩
  exact ⟨_, _, _, Heap.get?_push_size _ rfl⟩
def cRange : List D → Option D
  | [.int j] => some (.rng 0 j)
  | _ => none
theorem sem_range1 {K : PySem.W.Frag} : SemC K (fun vs H Q => ∃ j, vs = [V.int j] ∧ ∀ p, H p = none → Q (.ref p) (upd H p (.rng 0 j))) cRange := by
  intro xs ds d G H Q e h q k
  unfold cRange at q
  split at q
  · obtain ⟨v, rfl, r⟩ := rps1 h
    cases q; cases r
    refine ⟨_, rfl, fun p hp => ?_⟩
    exact k _ _ _ (Gr.new (o := .rng 0 _) e hp) (.rng _ _ upd_same)
  · cases q
theorem ok_rangeV {e : Expr} {ms : Ax} {p : Pos} (hm : X.mg "range" = none) (ha : OkA X [e] ms) (hg : Gl X "range" := by rfl) (he : starEach (e :: []) X.env = (false, eval e X.env) :: starEach [] X.env := by rfl) (hpl : (backTo pos (starEach [] X.env)).any (·.1) = false := by rfl) :
    OkE X (.Call (.Name "range" p) [e] [] pos) (eCB cRange ms) := ok_ct cr_range1 sem_range1 hm (by decide +kernel) ha hg (by decide) (by decide) he hpl
end

/-! ### two for -/
def comp2Go (src1 : Ax) (tg1 : Gx) (el : Ex) (tg : Gx) (env0 : Env) (vs1 : List Nat) : List D → List D → Option (List D)
  | [], acc => some acc
  | d :: ds, acc => (tg d env0).bind fun env1 => (src1 env1).bind fun es => if acc.length + es.length ≤ 1000000 then (compGo tg1 bYes el (wipeE env1 vs1) es acc).bind fun acc' => if acc'.length ≤ 1000000 then comp2Go src1 tg1 el tg env0 vs1 ds acc' else none else none
def eComp2 (src : Ax) (vs vs1 : List Nat) (tg : Gx) (src1 : Ax) (tg1 : Gx) (el : Ex) : Ex := fun env => (src env).bind fun ds => (comp2Go src1 tg1 el tg (wipeE env vs) vs1 ds []).map .lst
section
variable {K : PySem.W.Frag}
theorem grLst {G1 H1 G' H' : Hp} {L : Addr} {xs : List V} (g : Gr G1 H1 G' H') (hD : H1 L = none) (hG : G' L = none) : Gr G1 H1 G' (upd H' L (.lst xs)) :=
  ⟨fun a u q => by rw [upd_ne (ne_of_none q hD)]; exact g.h a u q, g.g, fun a u q => by rw [upd_ne (fun z => by rw [z, hG] at q; cases q)]; exact g.gh a u q, g.nw⟩
theorem grNone {Ga Ha Gb Hb : Hp} {L : Addr} (gg : Gr Ga Ha Gb Hb) (h1 : Ga L = none) {u : HO} (h2 : Ha L = some u) : Gb L = none := by
  cases q : Gb L with
  | none => rfl
  | some o =>
    rcases gg.nw L o q with z | z
    · rw [h1] at z; cases z
    · rw [h2] at z; cases z
theorem Rl.more {O P : Addr → Prop} {env : Env} {σ : L2.St} {G H : Hp} (r : Rl K O env σ G H) (hp : ∀ a u, H a = some u → P a) : Rl K (fun a => O a ∧ P a) env σ G H where
  gh := r.gh
  len := r.len
  fr := r.fr
  ow := fun i d h => let ⟨a, q1, q2, q3, q4⟩ := r.ow i d h; ⟨a, q1, q2, ⟨q3, let ⟨u, hu⟩ := q4.there; hp a u hu⟩, q4⟩
  dj := r.dj
theorem Rl.outer {O P : Addr → Prop} {env : Env} {σ : L2.St} {G H : Hp} (r : Rl K (fun a => O a ∧ P a) env σ G H) : Rl K O env σ G H where
  gh := r.gh
  len := r.len
  fr := r.fr
  ow := fun i d h => let ⟨a, q1, q2, q3, q4⟩ := r.ow i d h; ⟨a, q1, q2, q3.1, q4⟩
  dj := r.dj
theorem stepComp2 {src : Ax} {vs vs1 : List Nat} {tgt : Gx} {src1 : Ax} {tgt1 : Gx} {el : Ex} {σ : L2.St} {H : Hp} {Q : VK} (h : tE K (eComp2 src vs vs1 tgt src1 tgt1 el) σ H Q) :
    tLc2 (tI K src) (tG K vs tgt) (tT K bYes) (tI K src1) (tG K vs1 tgt1) (tT K bYes) (tE K el) vs vs1 σ H Q := by
  obtain ⟨O, env, G, d, rl, e, k⟩ := h
  obtain ⟨ds, e1, e2⟩ := Option.bind_eq_some_iff.mp e
  obtain ⟨out, e3, e4⟩ := Option.map_eq_some_iff.mp e2
  subst e4
  refine ⟨O, env, G, ds, rl, e1, fun J G1 H1 g1 wk L hD => ?_⟩
  have rl0 : Rl K (fun a => O a ∧ a ≠ L) (wipeE env vs) (wipe σ vs) G1 H1 := ((rl.grow g1).wiped vs).more fun a u hu => ne_of_none hu hD
  have hL1 : G1 L = none := by
    cases q : G1 L with
    | none => rfl
    | some o => rw [g1.gh _ _ q] at hD; cases hD
  refine ⟨fun i m H' => m = ds.length - i ∧ i ≤ ds.length ∧ ∃ (G' : Hp) (acc : List D) (ys : List V), Gr G1 H1 G' H' ∧ G' L = none ∧ H' L = some (.lst ys) ∧ Rps K G' ys acc ∧ comp2Go src1 tgt1 el tgt (wipeE env vs) vs1 (ds.drop i) acc = some out,
    ⟨ds.length, by simp, Nat.zero_le _, G1, [], [], ?_, hL1, upd_same, .nil, by simpa using e3⟩, ?_⟩
  · exact grLst (Gr.refl g1.gh) hD hL1
  rintro i m H' ⟨rfl, hi, G', acc, ys, g, hG, hH, ra, hgo⟩
  obtain ⟨wstop, wgo⟩ := wk i G' H' (fun b o q _ => g.g b o q) g.gh
  by_cases hlt : i < ds.length
  · have hd : ds[i]? = some ds[i] := by simp [hlt]
    obtain ⟨go, yl⟩ := wgo _ hd
    refine .inr ⟨go, fun H2 => i + 1 ≤ ds.length ∧ ∃ (G' : Hp) (acc : List D) (ys : List V), Gr G1 H1 G' H2 ∧ G' L = none ∧ H2 L = some (.lst ys) ∧ Rps K G' ys acc ∧ comp2Go src1 tgt1 el tgt (wipeE env vs) vs1 (ds.drop (i + 1)) acc = some out,
      fun H2 ⟨p1, p2⟩ => ⟨ds.length - (i + 1), by omega, rfl, p1, p2⟩, fun x H2 hy => ?_⟩
    obtain ⟨G2, g2, r2⟩ := yl x H2 hy
    rw [List.drop_eq_getElem_cons hlt] at hgo
    unfold comp2Go at hgo
    obtain ⟨env1, t1, hgo⟩ := Option.bind_eq_some_iff.mp hgo
    obtain ⟨es, t2, hgo⟩ := Option.bind_eq_some_iff.mp hgo
    split at hgo
    case isFalse => cases hgo
    rename_i hroom
    obtain ⟨acc', t3, hgo⟩ := Option.bind_eq_some_iff.mp hgo
    split at hgo
    case isFalse => cases hgo
    have hG2 := grNone g2 hG hH
    have hH2 := g2.h _ _ hH
    have rl2 := rl0.grow (g.trans g2)
    refine ⟨_, _, G2, _, env1, rl2, r2, t1, fun σ2 rl3 w3 => ⟨?_, _, env1, G2, true, rl3, rfl, fun G3 H3 g3 => ?_⟩⟩
    · rw [wipe_wipe] at w3; exact w3
    have hG3 := grNone g3 hG2 hH2
    have hH3 := g3.h _ _ hH2
    have rl3' := rl3.grow g3
    show tI K src1 σ2 H3 _
    refine ⟨_, env1, G3, es, rl3', t2, fun J1 G4 H4 g4 wk1 => ?_⟩
    have hG4 := grNone g4 hG3 hH3
    have hH4 := g4.h _ _ hH3
    have rl4 := (rl3'.grow g4).wiped vs1
    have gA := ((g.trans g2).trans g3).trans g4
    have ra4 := ((ra.mono g2.g _ _).mono g3.g _ _).mono g4.g _ _
    refine ⟨fun j m H' => m = es.length - j ∧ j ≤ es.length ∧ ∃ (G' : Hp) (acc1 : List D) (ys : List V), Rl K (fun a => O a ∧ a ≠ L) (wipeE env1 vs1) (wipe σ2 vs1) G' H' ∧ Same G4 G' ∧ Gr G1 H1 G' H' ∧ G' L = none ∧ H' L = some (.lst ys) ∧ Rps K G' ys acc1 ∧ acc1.length + (es.length - j) ≤ 1000000 ∧ compGo tgt1 bYes el (wipeE env1 vs1) (es.drop j) acc1 = some acc',
      ⟨es.length, by simp, Nat.zero_le _, G4, acc, ys, rl4, Same.refl G4, gA, hG4, hH4, ra4, by omega, by simpa using t3⟩, ?_⟩
    rintro j m H' ⟨rfl, hj, G', acc1, zs, rlj, s4, gj, hGj, hHj, raj, hrm, hgoj⟩
    obtain ⟨wstop1, wgo1⟩ := wk1 j G' H' (fun b o q _ => s4 b o q) rlj.gh
    by_cases hlj : j < es.length
    · obtain ⟨go1, yl1⟩ := wgo1 es[j] (by simp [hlj])
      refine .inr ⟨go1, fun H' => j + 1 ≤ es.length ∧ ∃ (G' : Hp) (acc1 : List D) (ys : List V), Rl K (fun a => O a ∧ a ≠ L) (wipeE env1 vs1) (wipe σ2 vs1) G' H' ∧ Same G4 G' ∧ Gr G1 H1 G' H' ∧ G' L = none ∧ H' L = some (.lst ys) ∧ Rps K G' ys acc1 ∧ acc1.length + (es.length - (j + 1)) ≤ 1000000 ∧ compGo tgt1 bYes el (wipeE env1 vs1) (es.drop (j + 1)) acc1 = some acc',
        fun H2 ⟨p1, p2⟩ => ⟨es.length - (j + 1), by omega, rfl, p1, p2⟩, fun x H5 hy => ?_⟩
      obtain ⟨G5, g5, r5⟩ := yl1 x H5 hy
      rw [List.drop_eq_getElem_cons hlj] at hgoj
      obtain ⟨env2, t5, hgoj⟩ := Option.bind_eq_some_iff.mp (show ((tgt1 es[j] (wipeE env1 vs1)).bind fun env2 => (bYes env2).bind fun c => if c then (el env2).bind fun y => compGo tgt1 bYes el (wipeE env1 vs1) (es.drop (j + 1)) (acc1 ++ [y]) else compGo tgt1 bYes el (wipeE env1 vs1) (es.drop (j + 1)) acc1) = some acc' from hgoj)
      have hG5 := grNone g5 hGj hHj
      have hH5 := g5.h _ _ hHj
      refine ⟨_, _, G5, _, env2, rlj.grow g5, r5, t5, fun σ3 rl6 w6 => ⟨?_, _, env2, G5, true, rl6, rfl, fun G6 H6 g6 => ?_⟩⟩
      · rw [wipe_wipe] at w6; exact w6
      have hG6 := grNone g6 hG5 hH5
      have hH6 := g6.h _ _ hH5
      show tE K el σ3 H6 _
      obtain ⟨y, t7, hgoj⟩ := Option.bind_eq_some_iff.mp (show (el env2).bind (fun y => compGo tgt1 bYes el (wipeE env1 vs1) (es.drop (j + 1)) (acc1 ++ [y])) = some acc' from hgoj)
      refine ⟨_, env2, G6, y, rl6.grow g6, t7, fun v G7 H7 g7 r7 => ?_⟩
      have hG7 := grNone g7 hG6 hH6
      have hH7 := g7.h _ _ hH6
      have gg := (g5.trans g6).trans g7
      have ra7 := raj.mono gg.g _ _
      refine ⟨zs, hH7, by rw [raj.length]; exact Nat.lt_of_lt_of_le (by omega : acc1.length < 1000000) (by decide), hlj, G7, acc1 ++ [y], zs ++ [v], ?_, s4.trans gg.g, grLst (gj.trans gg) hD hG7, hG7, upd_same, ra7.snoc r7, by simp; omega, hgoj⟩
      refine (rlj.grow gg).other hG7 fun a ⟨i, d, h1, h2⟩ => ?_
      obtain ⟨b, q1, q2, q3, q4⟩ := rlj.ow i d h1
      rw [h2] at q1; cases q1
      exact q3.2
    · have hje : j = es.length := by omega
      rw [List.drop_eq_nil_of_le (by omega)] at hgoj
      cases hgoj
      exact .inl ⟨wstop1 (by omega), hlt, G', _, zs, gj, hGj, hHj, raj, hgo⟩
  · have hie : i = ds.length := by omega
    refine .inl ⟨wstop (by omega), ?_⟩
    rw [List.drop_eq_nil_of_le (by omega)] at hgo
    cases hgo
    have g3 : Gr G1 H1 (upd G' L (.lst ys)) H' := by
      refine ⟨g.h, fun a u q => ?_, fun a u q => ?_, fun a u q => ?_⟩
      · have z := g.g a u q
        rw [upd_ne (fun w => by rw [w, hG] at z; cases z)]
        exact z
      · by_cases ha : a = L
        · subst ha; rw [upd_same] at q; cases q; exact hH
        · rw [upd_ne ha] at q; exact g.gh a u q
      · by_cases ha : a = L
        · subst ha; exact .inr hD
        · rw [upd_ne ha] at q; exact g.nw a u q
    have eG : Same G' (upd G' L (.lst ys)) := fun a u q => by rw [upd_ne (fun w => by rw [w, hG] at q; cases q)]; exact q
    exact k _ _ _ (g1.trans g3) (.lst upd_same (ra.mono eG _ _))
end
section
variable {X : Cx} {pos : Pos}
theorem ok_comp2 {elt tg iter tg1 iter1 : Expr} {scope : Scope} {own : List (Str × Nat)} {vs1 : List Nat} {src src1 : Ax} {tgt tgt1 : Gx} {el : Ex} (hc : X.calm = true) (hN : X.N.Nodup) (hi : OkI X tg iter src) (ok : blkC X.N X.env.scope scope own = true) (hv : ∀ i ∈ vs1, i ∈ own.map (·.2))
    (hg : ∀ (s : Shared) (H : Hp) (C : Addr) (cl : List (Str × Addr)) (fp : List Addr), OkG (X.blk s H scope (compEnvC scope cl C X.env) fp) (own.map (·.2)) tg tgt) (hi1 : ∀ (s : Shared) (H : Hp) (C : Addr) (cl : List (Str × Addr)) (fp : List Addr), OkI (X.blk s H scope (compEnvC scope cl C X.env) fp) tg1 iter1 src1)
    (hg1 : ∀ (s : Shared) (H : Hp) (C : Addr) (cl : List (Str × Addr)) (fp : List Addr), OkG (X.blk s H scope (compEnvC scope cl C X.env) fp) vs1 tg1 tgt1) (he : ∀ (s : Shared) (H : Hp) (C : Addr) (cl : List (Str × Addr)) (fp : List Addr), OkE (X.blk s H scope (compEnvC scope cl C X.env) fp) elt el)
    (hs : ∀ x, foldedSetIterable iter X.env x = pure x := by intro _; rfl) (hs1 : ∀ env x, foldedSetIterable iter1 env x = pure x := by intro _ _; rfl) : OkE X (.ListComp elt [⟨tg, iter, [], 0⟩, ⟨tg1, iter1, [], 0⟩] scope pos) (eComp2 src (own.map (·.2)) vs1 tgt src1 tgt1 el) :=
  weakE (pe_lc2 (wi := tI X.K src) (own := own) (vs1 := vs1) (g := tG X.K (own.map (fun p : Str × Nat => p.2)) tgt) (tt := tT X.K bYes) (wi1 := tI X.K src1) (g1 := tG X.K vs1 tgt1) (tt1 := tT X.K bYes) (te := tE X.K el) hc hN hi (blkOk_by ok) hv hg (fun _ _ _ _ _ => ok_tsNil) hi1 hg1 (fun _ _ _ _ _ => ok_tsNil) he hs hs1) fun σ H Q h => stepComp2 h

/-! ### isinstance -/
def tyD : D → Option String
  | .non => some "NoneType"
  | .bl _ => some "bool"
  | .int _ => some "int"
  | .str _ => some "str"
  | .tup _ => some "tuple"
  | .lst _ => some "list"
  | .emp => some "dict"
  | _ => none
theorem Rp.ty {K : PySem.W.Frag} {H : Hp} {d : D} {v : V} {t : String} (r : Rp K H v d) (e : tyD d = some t) : TyX K H v (.type t) := by
  cases r with
  | non => cases e; exact .base .non
  | bl b => cases e; exact .base (.bl b)
  | int i => cases e; exact .base (.int i)
  | str x => cases e; exact .base (.str x)
  | tup h1 h2 =>
    cases e
    rcases h1 with (h | ⟨o, h⟩) | ⟨o, vs, n, h, c, _⟩
    · exact .base (.tup h)
    · exact .fTuple h
    · exact .kTuple h c
  | lst h1 h2 => cases e; exact .base (.lst h1)
  | emp h1 => cases e; exact .base (.dK h1)
  | _ => cases e
def eIsi (T : String) (m : Ex) : Ex := fun env => (m env).bind fun d => (tyD d).bind fun t => (kitB t T).map .bl
def eIsi2 (T U : String) (m : Ex) : Ex := fun env => (m env).bind fun d => (tyD d).bind fun t => (kitB t T).bind fun b => if b then some (.bl true) else (kitB t U).map .bl
theorem ok_isi (T : String) {e : Expr} {m : Ex} {x : Str} {p q : Pos} (hm : X.mg "isinstance" = none) (hmT : X.mg x = none) (hvT : bootBuiltins x = some (.type T)) (he : OkE X e m) (hg : Gl X "isinstance" := by rfl) (hgT : Gl X x := by rfl) (hnT : x ≠ "__name__" := by decide) (hdT : (x == ("__debug__" : Str)) = false := by decide)
    (h1 : starEach (e :: [.Name x q]) X.env = (false, eval e X.env) :: starEach [.Name x q] X.env := by rfl) (h2 : starEach (.Name x q :: []) X.env = (false, eval (.Name x q) X.env) :: starEach [] X.env := by rfl) (hpl : (backTo pos (starEach [.Name x q] X.env)).any (·.1) = false := by rfl) :
    OkE X (.Call (.Name "isinstance" p) [e, .Name x q] [] pos) (eIsi T m) :=
  weakE (pe_callB call_isi hg hm (by decide +kernel) (pa_cons he (pa_cons (pe_bltn hgT hmT hvT (show RelV (.ty T) (.type T) from rfl) hnT hdT) pa_nil h2) h1) (by decide) (by decide) h1 hpl) fun σ H Q ⟨O, env, G, d, rl, e, k⟩ => by
    obtain ⟨dx, e1, e⟩ := Option.bind_eq_some_iff.mp e
    obtain ⟨t, e2, e⟩ := Option.bind_eq_some_iff.mp e
    obtain ⟨b, e3, e4⟩ := Option.map_eq_some_iff.mp e
    subst e4
    refine ⟨O, env, G, dx, rl, e1, fun v G1 H1 g1 r1 => ?_⟩
    exact ⟨v, .ty T, .type t, .type T, b, rfl, .ty T, (r1.mono g1.gh _ _).ty e2, kit_ty e3, k _ G1 H1 g1 (.bl b)⟩
theorem ok_isi2 (T U : String) {e : Expr} {m : Ex} {x y : Str} {p q q2 q3 : Pos} {kk : Nat} (hm : X.mg "isinstance" = none) (hmT : X.mg x = none) (hvT : bootBuiltins x = some (.type T)) (hmU : X.mg y = none) (hvU : bootBuiltins y = some (.type U)) (he : OkE X e m) (hg : Gl X "isinstance" := by rfl)
    (hgT : Gl X x := by rfl) (hnT : x ≠ "__name__" := by decide) (hdT : (x == ("__debug__" : Str)) = false := by decide) (hgU : Gl X y := by rfl) (hnU : y ≠ "__name__" := by decide) (hdU : (y == ("__debug__" : Str)) = false := by decide)
    (h1 : starEach (e :: [.Tuple [.Name x q, .Name y q2] kk q3]) X.env = (false, eval e X.env) :: starEach [.Tuple [.Name x q, .Name y q2] kk q3] X.env := by rfl) (h2 : starEach (.Tuple [.Name x q, .Name y q2] kk q3 :: []) X.env = (false, eval (.Tuple [.Name x q, .Name y q2] kk q3) X.env) :: starEach [] X.env := by rfl)
    (h3 : starEach (.Name x q :: [.Name y q2]) X.env = (false, eval (.Name x q) X.env) :: starEach [.Name y q2] X.env := by rfl) (h4 : starEach (.Name y q2 :: []) X.env = (false, eval (.Name y q2) X.env) :: starEach [] X.env := by rfl) (hpl : (backTo pos (starEach [.Tuple [.Name x q, .Name y q2] kk q3] X.env)).any (·.1) = false := by rfl) :
    OkE X (.Call (.Name "isinstance" p) [e, .Tuple [.Name x q, .Name y q2] kk q3] [] pos) (eIsi2 T U m) :=
  weakE (pe_callB call_isiT hg hm (by decide +kernel) (pa_cons he (pa_cons (pe_tup (pa_cons (pe_bltn hgT hmT hvT (show RelV (.ty T) (.type T) from rfl) hnT hdT) (pa_cons (pe_bltn hgU hmU hvU (show RelV (.ty U) (.type U) from rfl) hnU hdU) pa_nil h4) h3)) pa_nil h2) h1) (by decide) (by decide) h1 hpl) fun σ H Q ⟨O, env, G, d, rl, e, k⟩ => by
    obtain ⟨dx, e1, e⟩ := Option.bind_eq_some_iff.mp e
    obtain ⟨t, e2, e⟩ := Option.bind_eq_some_iff.mp e
    obtain ⟨b, e3, e4⟩ := Option.bind_eq_some_iff.mp e
    refine ⟨O, env, G, dx, rl, e1, fun v G1 H1 g1 r1 => ⟨by show 2 ≤ sizeLine; decide, fun p hp => ?_⟩⟩
    have g2 := Gr.new (o := .tup [.ty T, .ty U]) g1.gh hp
    have r2 := (r1.mono g1.gh _ _).mono g2.h _ _
    cases b with
    | true =>
      cases e4
      exact ⟨v, p, _, .type t, [.type T, .type U], true, rfl, upd_same, .cons (.ty T) (.cons (.ty U) .nil), r2.ty e2, kitAny_cons (kit_ty e3) (fun z => by cases z) fun _ => rfl, k _ _ _ (g1.trans g2) (.bl _)⟩
    | false =>
      obtain ⟨b2, e5, e6⟩ := Option.map_eq_some_iff.mp (show (kitB t U).map D.bl = some d from e4)
      subst e6
      refine ⟨v, p, _, .type t, [.type T, .type U], b2, rfl, upd_same, .cons (.ty T) (.cons (.ty U) .nil), r2.ty e2, kitAny_cons (kit_ty e3) (fun _ => kitAny_cons (kit_ty e5) (fun z => by rw [z]; exact kitAny_nil) fun z => z) (fun z => by cases z), k _ _ _ (g1.trans g2) (.bl _)⟩

/-! ### chains -/
def eChain (s1 s2 : D → D → Option D) (a b c : Ex) : Ex := fun env => (a env).bind fun x => (b env).bind fun y => (s1 x y).bind fun z => match z with
  | .bl true => (c env).bind fun w => s2 y w
  | .bl false => some (.bl false)
  | _ => none
theorem ok_chain {a b c : Expr} {ma mb mc : Ex} {op op' : CmpOp} {r r' : R2} {s1 s2 : D → D → Option D} (ho : OpR X (compareOp op) r) (hs : SemP X.K r s1) (ho' : OpR X (compareOp op') r') (hs' : SemP X.K r' s2) (ha : OkE X a ma) (hb : OkE X b mb) (hc : OkE X c mc)
    (hm : lastMarks [op, op'] [b, c] = false := by with_unfolding_all rfl) : OkE X (.Compare a [op, op'] [b, c] pos) (eChain s1 s2 ma mb mc) :=
  weakE (pe_chain ho ho' ha hb hc hm) fun σ H Q ⟨O, env, G, d, rl, e, k⟩ => by
    obtain ⟨x, e1, e⟩ := Option.bind_eq_some_iff.mp e
    obtain ⟨y, e2, e⟩ := Option.bind_eq_some_iff.mp e
    obtain ⟨z, e3, e⟩ := Option.bind_eq_some_iff.mp e
    refine ⟨O, env, G, x, rl, e1, fun v G1 H1 g1 r1 => ⟨O, env, G1, y, rl.grow g1, e2, fun u G2 H2 g2 r2 => ?_⟩⟩
    have r1' := (r1.mono g2.g _ _).mono g2.gh _ _
    refine hs v u x y z H2 _ r1' (r2.mono g2.gh _ _) e3 fun w hw => ?_
    split at e
    · obtain ⟨c', e4, e5⟩ := Option.bind_eq_some_iff.mp e
      have hw' := hw (fun _ => none)
      cases hw'
      refine ⟨true, rfl, ?_⟩
      rw [if_pos rfl]
      refine ⟨O, env, G2, c', (rl.grow g1).grow g2, e4, fun w' G3 H3 g3 r3 => ?_⟩
      exact hs' u w' y c' d H3 Q ((r2.mono g3.g _ _).mono g3.gh _ _) (r3.mono g3.gh _ _) e5 fun q hq => k q G3 H3 ((g1.trans g2).trans g3) (hq G3)
    · cases e
      have hw' := hw (fun _ => none)
      cases hw'
      refine ⟨false, rfl, ?_⟩
      rw [if_neg (by decide)]
      exact k _ G2 H2 (g1.trans g2) (.bl _)
    · cases e
end

/-! ### a, b = x, y where one of them is a cell -/
section
variable {X : Cx} {pos : Pos}
theorem ok_parC (i j : Nat) {a b : Expr} {x y : Str} {m n : Fx} {px py pt : Pos} {kt k2 pt2} (hc : X.calm = true) (hN : X.N.Nodup) (ha : OkF X a m) (hb : OkF X b n) (hi : X.N[i]? = some x := by rfl) (hj : X.N[j]? = some y := by rfl)
    (hx : Loc X.env.scope x := by first | exact Or.inl rfl | exact Or.inr rfl) (hfx : X.fn x = true ∨ X.env.scope.names.lookup x = some .local := by first | exact .inl rfl | exact .inr rfl) (hy : Loc X.env.scope y := by first | exact Or.inl rfl | exact Or.inr rfl) (hfy : X.fn y = true ∨ X.env.scope.names.lookup y = some .local := by first | exact .inl rfl | exact .inr rfl)
    (hw : swappedStores [.Tuple [.Name x px, .Name y py] kt pt] (.Tuple [a, b] k2 pt2) X.env = pure none := by rfl)
    (hs : swapsWithSole [.Tuple [.Name x px, .Name y py] kt pt] (.Tuple [a, b] k2 pt2) pos.line X.env = pure false := by rfl)
    (h1 : (assignEach [.Tuple [.Name x px, .Name y py] kt pt] X.env).map (·.2) = [assign (.Tuple [.Name x px, .Name y py] kt pt) X.env] := by rfl)
    (hn : (assignEach [.Name x px, .Name y py] X.env).length = 2 := by rfl) (hst : (assignEach [.Name x px, .Name y py] X.env).findIdx? (·.1) = none := by rfl)
    (hp1 : (assignEach (.Name x px :: [.Name y py]) X.env).map (·.2) = assign (.Name x px) X.env :: (assignEach [.Name y py] X.env).map (·.2) := by rfl) (hp2 : (assignEach (.Name y py :: []) X.env).map (·.2) = assign (.Name y py) X.env :: (assignEach [] X.env).map (·.2) := by rfl)
    (hsa : starEach (a :: [b]) X.env = (false, eval a X.env) :: starEach [b] X.env := by rfl) (hsb : starEach (b :: []) X.env = (false, eval b X.env) :: starEach [] X.env := by rfl) :
    OkS X (.Assign [.Tuple [.Name x px, .Name y py] kt pt] (.Tuple [a, b] k2 pt2) pos) (sPar i j m n) :=
  weakS (ps_asg (pe_tup (pa_cons ha (pa_cons hb pa_nil hsb) hsa)) (pg_tup hc (pgs_cons (pg_name hN hi hx hfx) (pgs_cons (pg_name hN hj hy hfy) pgs_nil hp2) hp1) hn hst) hs hw h1) fun E σ H ⟨H0, G0, env, G, r, rs, e, k⟩ => by
    obtain ⟨f, e1, e⟩ := Option.bind_eq_some_iff.mp e
    obtain ⟨g, e2, e⟩ := Option.bind_eq_some_iff.mp e
    split at e
    · rename_i hl
      cases e
      refine ⟨_, env, G, f, rs.rl, e1, fun v G1 H1 g1 r1 => ⟨_, env, G1, g, (rs.grow g1).rl, e2, fun u G2 H2 g2 r2 => ⟨by show 2 ≤ sizeLine; decide, fun p hp => ?_⟩⟩⟩
      have a1 : Rs X.K H0 G0 (env.set i (some f)) (σ.set i (some v)) G1 H1 := rs.putF g1 r1 hl.1
      have a2 := a1.putF g2 r2 (i := j) (by simpa using hl.2)
      have g3 := Gr.own (o := .tup [v, u]) g2.gh hp
      refine ⟨p, [v, u], rfl, SqT.of upd_same, rfl, v, [u], rfl, u, [], rfl, rfl, ?_⟩
      exact k _ G2 _ (a2.grow g3) (g1.g.trans g2.g)
    · cases e
end
/-- built-in names that the text leaves as they are -/
structure Bt (mg : Str → Option Value) : Prop where
  len : mg "len" = none
  abs : mg "abs" = none
  int : mg "int" = none
  list : mg "list" = none
  tuple : mg "tuple" = none
  all : mg "all" = none
  any : mg "any" = none
  sum : mg "sum" = none
  max : mg "max" = none
  min : mg "min" = none
  range : mg "range" = none
  enumerate : mg "enumerate" = none
  zip : mg "zip" = none
  isinstance : mg "isinstance" = none
  bool : mg "bool" = none
  str : mg "str" = none
  repr : mg "repr" = none
  sorted : mg "sorted" = none
end Sh
end Part_ShH

section Part_ShR
set_option maxRecDepth 100000
set_option maxHeartbeats 2000000
/-! ShR: repr of data where no repr is under way; a law whose promise is asked at the head's own place alone. -/
namespace Sh
open PySem L2
/-! ### repr -/
def rRepr (K : PySem.W.Frag) : List V → Hp → VK → Prop := fun xs H Q => ∃ (a : Addr) (p : PyData), xs = [.ref a] ∧ Dp K H (.ref a) p ∧ p.showable = true ∧ p.hasDict = false ∧ p.depth ≤ 40 ∧ p.shown.length ≤ sizeLine ∧ Q (.str p.shown) H
theorem call_repr {X : Cx} (hg : X.A.guards = some []) (hu : X.A.units + 64 < cLine) : CallR X (.builtin "repr") (rRepr X.K) := by
  intro pins s σ H xs us Q I r h
  obtain ⟨a, p, rfl, hD, h1, h2, h3, h4, q⟩ := h
  obtain ⟨u, rfl, ru⟩ := vals1 r
  cases ru
  obtain ⟨as, hr⟩ := Dp.reads I p (.ref a) (.ref a) hD rfl
  exact repr_of_reads' (h₀ := s.heap) hr h1 (fun z => by rw [h2] at z; cases z) hg (by omega) (fun b o e => e) (fun h' u tk k => ⟨.str p.shown, H, I.kept (t' := tk) k, ⟨u, rfl⟩, q⟩) h4

/-! ### the law's own call -/
/-- what the law's def promises where the head calls it -/
def Run (P : Program) (w : World) (K : PySem.W.Frag) (mg : Str → Option Value) (base : Heap) (CX : CXT) (fa : Addr) (sp : Sp) : Prop :=
  ∀ (s : Shared) (H : Hp) (u : Value) (v : V) (Q : VK) (E : XK), Env0 P w K mg base callerA [] s H → RelV v u → sp [v] H Q E → codeAny (model P w) callerA (.call (.ref fa) ⟨[u], []⟩) (CR CX [] P w H s Q E) s
/-- the head's abstract heap: the script, if it is not the module's own; the tables -/
def H1 (K : PySem.W.Frag) (ts : List Addr) (a : Addr) (o : Obj) (xs : List V) : Hp := fun b => if b ∈ ts then some (.tbl #[]) else if b = a ∧ K.lookup a = none then some (.frz o (.lst xs)) else none
section
variable {K : PySem.W.Frag} {ts : List Addr} {a : Addr} {o : Obj} {xs : List V}
theorem H1_tab {b : Addr} (h : b ∈ ts) : H1 K ts a o xs b = some (.tbl #[]) := if_pos h
theorem H1_cases (b : Addr) : (b ∈ ts ∧ H1 K ts a o xs b = some (.tbl #[])) ∨ (b ∉ ts ∧ b = a ∧ K.lookup a = none ∧ H1 K ts a o xs b = some (.frz o (.lst xs))) ∨ (b ∉ ts ∧ (b = a → K.lookup a ≠ none) ∧ H1 K ts a o xs b = none) := by
  by_cases h : b ∈ ts
  · exact .inl ⟨h, if_pos h⟩
  · by_cases h2 : b = a ∧ K.lookup a = none
    · exact .inr (.inl ⟨h, h2.1, h2.2, by unfold H1; rw [if_neg h, if_pos h2]⟩)
    · exact .inr (.inr ⟨h, fun e z => h2 ⟨e, z⟩, by unfold H1; rw [if_neg h, if_neg h2]⟩)
end
theorem law_run {P : Program} {w : World} {K : PySem.W.Frag} {mg mb : Str → Option Value} {CX : CXT} {fa a : Addr} {cs : List (Addr × Addr)} {sp : Sp} {s : Shared} {vs : List Value} {ns : List Int}
    (KX : K.In s.heap) (hns : s.heap.Ns mainGlobals mg) (hb : s.heap.Ns builtinsNs mb) (hbb : ∀ x : Str, x ≠ "__name__" → mb x = bootBuiltins x) (hlim : s.heap.NoLimit) (hg : s.gens = #[])
    (hT : ∀ p ∈ cs, s.heap.get? p.2 = some { cls := .none, data := .fields #[] }) (nT : ∀ p ∈ cs, K.lookup p.2 = none) (C : ∀ p ∈ cs, PySem.W.CodeHd s.heap p.1 p.2)
    (hbm : ∃ (bm : Addr) (ob : Obj), mg "__builtins__" = some (.ref bm) ∧ bm ≠ builtinsNs ∧ s.heap.get? bm = some ob ∧ ob.cls = .type "module" ∧ ob.dict = some builtinsNs ∧ ob.data = .plain)
    (ha : s.heap.get? a = some { cls := .type "list", data := .seq vs.toArray }) (hi : PyProof.Rows.IntsAre vs ns) (hl : ns.length ≤ sizeLine)
    (F : ∀ base : Heap, K.In base → base.Ns mainGlobals mg → (∀ p ∈ cs, LamX.TabB base mg p.1 p.2) → Run P w K mg base CX fa sp)
    (hsp : ∀ H : Hp, (∀ p ∈ cs, H p.2 = some (.tbl #[])) → SqL K H a (ns.map V.int) → sp [.ref a] H (fun v _ => v = .bl true) fun _ _ _ => False)
    (hCX : ∀ H e s', CX [] H s (fun _ _ _ => False) e s' → False) :
    codeAny (model P w) callerA (.call (.ref fa) ⟨[.ref a], []⟩) (fun r s' => r = .ok (.ret (.bool true)) ∧ OldK s.heap s'.heap ∧ s'.os = s.os ∧ PyProof.Rows.AllBare s'.gens) s := by
  let so : Obj := { cls := .type "list", data := .seq vs.toArray }
  let H : Hp := H1 K (cs.map (·.2)) a so (ns.map V.int)
  have rv : Vals (ns.map V.int) vs := vals_ints hi
  have hlen : vs.length ≤ sizeLine := by rw [hi.length]; exact hl
  -- what stands at a tracked place
  have tabAt : ∀ b, b ∈ cs.map (·.2) → s.heap.get? b = some { cls := .none, data := .fields #[] } ∧ K.lookup b = none := fun b hb => by
    obtain ⟨p, hp, e⟩ := List.mem_map.mp hb
    rw [← e]
    exact ⟨hT p hp, nT p hp⟩
  have looks : ∀ b, (H b = none) ∨ (H b = some (.tbl #[]) ∧ s.heap.get? b = some { cls := .none, data := .fields #[] } ∧ K.lookup b = none) ∨ (H b = some (.frz so (.lst (ns.map V.int))) ∧ s.heap.get? b = some so ∧ K.lookup b = none) := fun b => by
    rcases H1_cases (K := K) (ts := cs.map (·.2)) (a := a) (o := so) (xs := ns.map V.int) b with ⟨h1, h2⟩ | ⟨_, h2, h3, h4⟩ | ⟨_, _, h3⟩
    · exact .inr (.inl ⟨h2, tabAt b h1⟩)
    · refine .inr (.inr ⟨h4, ?_, ?_⟩)
      · rw [h2]; exact ha
      · rw [h2]; exact h3
    · exact .inl h3
  -- what is neither a list nor a record is not tracked
  have untr : ∀ {b : Addr} {o : Obj}, s.heap.get? b = some o → (∀ (x : Array Value) (n : Nat), o.data ≠ .seq x n) → o.data ≠ .fields #[] → (hidT s.heap H).get? b = some o := fun {b o} e h1 h2 => by
    refine hidT_get e ?_
    rcases looks b with z | ⟨_, z, _⟩ | ⟨_, z, _⟩
    · exact z
    · rw [e] at z; cases z; exact (h2 rfl).elim
    · rw [e] at z; cases z; exact (h1 _ _ rfl).elim
  have ns' : ∀ {b : Addr} {m : Str → Option Value}, s.heap.Ns b m → (hidT s.heap H).Ns b m := fun {b m} ⟨o, es, ep, e, d, r⟩ =>
    ⟨o, es, ep, untr e (fun x n z => by rw [d] at z; cases z) (fun z => by rw [d] at z; cases z), d, r⟩
  have kin : K.In (hidT s.heap H) := fun b o e => hidT_get (KX b o e) (by
    rcases looks b with z | ⟨_, _, z⟩ | ⟨_, _, z⟩
    · exact z
    · rw [e] at z; cases z
    · rw [e] at z; cases z)
  have md : L2.Mod K mg (hidT s.heap H) := ⟨kin, ns' hns, ⟨mb, ns' hb, hbb⟩, let ⟨mc, h1, h2⟩ := hlim; ⟨mc, ns' h1, h2⟩⟩
  have tb : ∀ p ∈ cs, LamX.TabB (hidT s.heap H) mg p.1 p.2 := fun p hp => by
    have isT := hT p hp
    refine ⟨?_, ?_, fun z => ?_⟩
    · obtain ⟨o, us, file, tf, flags, tg, inF, text, tt, e1, r1, r2, r3, rest⟩ := C p hp
      exact ⟨o, us, file, tf, flags, tg, inF, text, tt, untr e1 (fun x n z => by rw [r2] at z; cases z) (fun z => by rw [r2] at z; cases z; simp at r3), r1, r2, r3, rest⟩
    · obtain ⟨bm, ob, b1, b2, b3, b4, b5, b6⟩ := hbm
      refine ⟨bm, ob, b1, b2, fun q => ?_, fun q => ?_, untr b3 (fun x n z => by rw [b6] at z; cases z) (fun z => by rw [b6] at z; cases z), b4, b5, b6⟩
      · obtain ⟨o, es, ep, e, hd, _⟩ := hns
        rw [q, e] at b3; cases b3
        rw [hd] at b6; cases b6
      · rw [q, isT] at b3; cases b3; cases b6
    · obtain ⟨o, es, ep, e, hd, _⟩ := hns
      rw [z, isT] at e; cases e; cases hd
  have hok : HOk P w H s.heap := fun b u e => by
    rcases looks b with z | ⟨z, g, _⟩ | ⟨z, g, _⟩
    · rw [z] at e; cases e
    · rw [z] at e; cases e; exact g
    · rw [z] at e; cases e
      exact ⟨g, by rw [List.length_map]; exact hl, vs, _, rv, g⟩
  have sq : SqL K H a (ns.map V.int) := by
    rcases H1_cases (K := K) (ts := cs.map (·.2)) (a := a) (o := so) (xs := ns.map V.int) a with ⟨h1, _⟩ | ⟨_, _, _, h4⟩ | ⟨_, h2, _⟩
    · have z := (tabAt a h1).1
      rw [ha] at z
      have z' : Data.seq vs.toArray _ = Data.fields #[] := congrArg Obj.data (Option.some.inj z)
      cases z'
    · exact .inl (.inr ⟨_, h4⟩)
    · cases e : K.lookup a with
      | none => exact absurd e (h2 rfl)
      | some o =>
        have g := KX a o e
        rw [ha] at g; cases g
        exact .inr ⟨_, vs.toArray, _, e, rfl, rfl, rfl, by rw [List.size_toArray]; exact hlen, by simpa using rv⟩
  have e0 : Env0 P w K mg (hidT s.heap H) callerA [] s H := ⟨rfl, md, fun b o e => of_hidT e, Nat.le_of_eq (hidT_size _ _), trivial, fun b hb => absurd (show b ∈ ([] : List Addr) from hb) (by simp), hok, .of_eq hg⟩
  refine codeAny_mono (F _ kin (ns' hns) tb s H (.ref a) (.ref a) _ _ e0 rfl (hsp H (fun p hp => H1_tab (List.mem_map.mpr ⟨p, hp, rfl⟩)) sq)) fun r s' h => ?_
  cases r with
  | error e => exact (hCX H e s' h).elim
  | ok fl =>
    cases fl with
    | next => exact False.elim h
    | brk => exact False.elim h
    | cont => exact False.elim h
    | ret u =>
      obtain ⟨v, H', os, bare, un, hok', r', q⟩ := h
      subst q
      obtain rfl : u = Value.bool true := r'
      have old : ∀ b o, s.heap.get? b = some o → s'.heap.get? b = some o ∨ (b ∈ cs.map (·.2) ∧ ∃ more : Array Value, s'.heap.get? b = some { cls := .none, data := .fields more }) := fun b o e => by
        rcases H1_cases (K := K) (ts := cs.map (·.2)) (a := a) (o := so) (xs := ns.map V.int) b with ⟨h1, h2⟩ | ⟨_, h2, h3, h4⟩ | ⟨_, _, h3⟩
        · obtain ⟨more, z⟩ := un.tbls b #[] h2
          exact .inr ⟨h1, _, hok' b _ z⟩
        · have z := un.frzs b so _ h4
          obtain ⟨e2, _⟩ := hok' b _ z
          rw [h2, ha] at e; cases e
          exact .inl e2
        · exact .inl (un.keep b o e h3 (fun z => absurd (show b ∈ ([] : List Addr) from z) (by simp)) (by simp))
      refine ⟨rfl, ⟨fun b o e => ?_, fun b o e => ?_⟩, os, bare⟩
      · rcases old b o e with z | ⟨hb, more, z⟩
        · exact .inl z
        · obtain ⟨p, hp, ep⟩ := List.mem_map.mp hb
          rw [← ep] at e z ⊢
          rw [hT p hp] at e; cases e
          exact .inr (.inl ⟨((C p hp).tab (hT p hp)).isCodeTable, rfl, #[], more, rfl, by rw [Array.empty_append]; exact z⟩)
      · rcases old b o e with z | ⟨hb, more, z⟩
        · exact ⟨o, z⟩
        · exact ⟨_, z⟩
/-- what is known of the law at the head's heap h -/
def LawG (l : PySem.W.OpenLaw) (w : World) (K : PySem.W.Frag) (CX : CXT) (n : Nat) (mg : Str → Option Value) (fa : Addr) (h : Heap) : Prop :=
  ∃ (cs : List (Addr × Addr)) (sp : Sp), (∀ p ∈ cs, h.get? p.2 = some { cls := .none, data := .fields #[] }) ∧ (∀ p ∈ cs, K.lookup p.2 = none) ∧ (∀ p ∈ cs, PySem.W.CodeHd h p.1 p.2) ∧
    (∀ (H : Hp) (a : Addr) (ns : List Int), ns.length ≤ n → (∀ z ∈ ns, Builtin.Int.intBits z ≤ 1048576) → (∀ p ∈ cs, H p.2 = some (.tbl #[])) → SqL K H a (ns.map V.int) → sp [.ref a] H (fun v _ => v = .bl true) fun _ _ _ => False) ∧
    ∀ base : Heap, K.In base → base.Ns mainGlobals mg → (∀ p ∈ cs, LamX.TabB base mg p.1 p.2) → Run l.prog w K mg base CX fa sp
theorem walk_G {l : PySem.W.OpenLaw} {n : Nat} {q : Program} {loose : List Str} {XP : (Str → Option Value) → Heap → Prop} {YP : World → Heap → Prop} {d : DefRec} {CX : World → CXT}
    (hn : l.most = some n) (hn2 : n ≤ sizeLine) (hdf : d.params.defaults = [])
    (F : ∀ (w : World) (mg : Str → Option Value) (fa : Addr) (h : Heap), YP w h → h.Ns mainGlobals mg → mg d.name = some (.ref fa) → ∃ K : PySem.W.Frag, K.In h ∧ LawG l w K (CX w) n mg fa h)
    (hCX : ∀ (w : World) (H : Hp) (s : Shared) (e : Value) (s' : Shared), CX w [] H s (fun _ _ _ => False) e s' → False) :
    PySem.W.WalkO q loose XP YP l.row.toRowW d [] (fun f vs => PySem.call f vs) := by
  refine Att.attach_callB hn hdf fun w s₀ s mg mb fa o pm cd doc a vs ns G Y ho hd hcd hmg hobj hints hlen hbits hg => ?_
  obtain ⟨K, KX, cs, sp, hT, nT, C, hsp, hF⟩ := F w mg fa _ Y G.T.g hmg
  exact law_run KX G.T.g G.T.b G.T.builtins G.T.nolimit hg hT nT C G.T.bmain hobj hints (Nat.le_trans hlen hn2) hF (fun H hH hS => hsp H a ns hlen hbits hH hS) fun H e s' => hCX w H s e s'
/-- the law's def by its body -/
theorem run_body {CX : CXT} {P : Program} {w : World} {K : PySem.W.Frag} {mg : Str → Option Value} {base : Heap} {f : Addr} {x name qual : Str} {params : Arguments} {body : List Stmt} {scope : Scope} {dvs : List V} {kws : List (Str × V)} {fd : FuncData} {N : List Str} {sp : Sp}
    (F : FunD K name qual params body scope dvs kws f fd) (S : FnScope N [x] scope) (hb : ∀ (s : Shared) (u : Value), BindsTo s fd ⟨[u], []⟩ [(x, u)]) (hr : callerA.depth < recursionLimit)
    (hbody : ∀ (cdv : Value) (s : Shared) (H : Hp) (v : V) (Q : VK) (E : XK), (PySem.W.codeIn K cdv qual = true ∧ fd.code = cdv) → sp [v] H Q E →
      ∃ t, PSs (cxOf CX P w K mg base N qual scope f cdv callerA [] s H E) body t ∧ t { nx := fun _ H' => Q .non H', rt := Q } (start N [v]) H) : Run P w K mg base CX f sp := by
  obtain ⟨oc, od, dV, kV, doc, pm, an, cdv, ct, osl, rfl, lk, hcd, _, _⟩ := F.ex
  intro s H u v Q E e0 rv hsp
  have KX : K.In s.heap := e0.mod.kin.keeps fun b o e => (e0.bs b o e).1
  have lim : s.heap.NoLimit := e0.mod.nolimit.keeps fun b o e => (e0.bs b o e).1
  have hkind : ∀ y ∈ [(x, u)], scope.names.lookup y.1 = some .local ∨ (scope.names.lookup y.1 = some .cell ∧ ((cellsFrom (s.heap.objs.size + 1) scope.names []).lookup y.1).isSome = true) := fun y hy => by
    obtain rfl := List.mem_singleton.mp hy
    rcases S.par x (by simp) with q | q
    · exact .inl q
    · exact .inr ⟨q, PySem.W.cellsFrom_some _ _ _ (.inl q)⟩
  refine codeAny_call_function hr (KX _ _ lk) rfl S.co S.gen rfl (PySem.W.codeRec_of KX hcd) (hb s u _ _ _ _ ?_)
  refine wpAny_newFunctionEnv_cells S.kind hkind fun env he s1 y => ?_
  subst he
  refine ⟨lim.keeps y.toInCall.keep, codeAny_func ?_⟩
  obtain ⟨t, ht, hq⟩ := hbody cdv s H v Q E ⟨hcd, rfl⟩ hsp
  have I : Inv (cxOf CX P w K mg base N qual scope f cdv callerA [] s H E) [] (start N [v]) H s1 := inv_start (ps := [x]) (us := [u]) S rfl e0 rfl (.cons rv .nil) y
  refine wpAny_mono (ht.run [] s1 (start N [v]) H _ I hq) (fun fl s' hs => ?_) fun e s' hs => hs
  cases fl with
  | ret z =>
    obtain ⟨v', σ', H', J, rv', q⟩ := hs
    exact ⟨v', H', J.os, J.bare, J.base, J.hok, rv', q⟩
  | next =>
    obtain ⟨σ', H', J, q⟩ := hs
    exact ⟨.non, H', J.os, J.bare, J.base, J.hok, rfl, q⟩
  | brk =>
    obtain ⟨_, _, _, q⟩ := hs
    exact False.elim q
  | cont =>
    obtain ⟨_, _, _, q⟩ := hs
    exact False.elim q
end Sh
end Part_ShR

section Part_ShX
set_option maxRecDepth 100000
set_option maxHeartbeats 2000000
/-! ShX: an exception that is caught, stored and kept: def caught(work): kept = None; try: work(); except C as e: kept = e; return kept. -/
namespace Sh
open PySem L2 PyProof.Rows
/-! ### the object of an exception, kept -/
theorem exC_ok {P : Program} {w : World} {H : Hp} {h : Heap} {a : Addr} {cls : Value} {d : Option Addr} {oe : Obj} {vs : Array Value} (e : h.get? a = some oe) (z : Zc cls d oe) (hd : oe.data = .fields vs) : ObjOk P w H h a (ExC cls d a) :=
  ⟨⟨oe, vs, e, z, hd⟩, ⟨oe, e⟩, fun _ _ ⟨o, v, q, r⟩ k => ⟨o, v, k o q, r⟩⟩
section
variable {X : Cx} {pins : List (Addr × Obj)} {σ : L2.St} {H : Hp} {s : Shared}
/-- an object that stands since the entry is tracked from now on -/
theorem Inv.track {a : Addr} {cls : Value} {d : Option Addr} {oe : Obj} {vs : Array Value} (I : L2.Inv X pins σ H s) (e : s.heap.get? a = some oe) (z : Zc cls d oe) (hd : oe.data = .fields vs) (hn : H a = none) (n0 : X.s_0.heap.get? a = none)
    (hL : a ≠ X.env.locals) (hp : ∀ p ∈ X.pn ++ pins, p.1 ≠ a) : L2.Inv X pins σ (upd H a (ExC cls d a)) s := by
  have ne : ∀ b o, X.s_0.heap.get? b = some o → b ≠ a := fun b o q z => by rw [z, n0] at q; cases q
  have cne : ∀ y c, X.env.cells.lookup y = some c → c ≠ a := fun y c q z => by
    obtain ⟨v, o, ho, hdo⟩ := I.cell y c q
    rw [z, e] at ho; cases ho
    rw [hd] at hdo; cases hdo
  refine ⟨I.ok, I.os, I.bare, ⟨I.base.keep, I.base.slot, fun b o q n hx => ?_, I.base.there, fun b xs q => ?_, fun b o u q => ?_, fun b ps q => ?_⟩, I.loc, I.cell, ?_, fun y c q => ?_, fun p hp' => ?_, fun b o q => ?_, I.len⟩
  · rw [upd_ne (ne b o q)]; exact I.base.free b o q n hx
  · have q' := I.base.tups b xs q
    rw [upd_ne (ne_of_none q' hn)]; exact q'
  · have q' := I.base.frzs b o u q
    rw [upd_ne (ne_of_none q' hn)]; exact q'
  · obtain ⟨m, q'⟩ := I.base.tbls b ps q
    exact ⟨m, by rw [upd_ne (ne_of_none q' hn)]; exact q'⟩
  · rw [upd_ne hL.symm]; exact I.free
  · rw [upd_ne (cne y c q)]; exact I.freeC y c q
  · obtain ⟨q1, q2, q3⟩ := I.pin p hp'
    exact ⟨q1, by rw [upd_ne (hp p hp')]; exact q2, q3⟩
  · by_cases hb : b = a
    · subst hb
      rw [upd_same] at q; cases q
      exact exC_ok e z hd
    · rw [upd_ne hb] at q
      exact (I.hok b o q).stay (fun c v _ w => w) (fun c w => by rw [upd_ne (ne_of_none w hn)]; exact w) fun c xs w => by rw [upd_ne (ne_of_none w hn)]; exact w
end

/-- what «except c as n: y = n» wishes -/
def wKeep (K : PySem.W.Frag) (n : Nat) (c : Value) (i j : Nat) (D : Ends) : WX := fun cls d σ H =>
  ∃ b, PySem.W.exmOne K cls c = some b ∧ (b = true → σ.length = n → ∀ a, H a = none → D.nx (((σ.set i (some (.ref a))).set j (some (.ref a))).set i none) (upd H a (ExC cls d a))) ∧ (b = false → False)
section
variable {X : Cx} {x n y : Str} {c : Value} {i j : Nat} {body : List Stmt} {np ny nn npa pos pos' : Pos} {tb : WX → TS}
theorem ps_try_keep (hs : X.stack = X.env :: X.outer) (hf : X.env.frame = some X.env.locals) (hex : X.ex = []) (hN : X.N.Nodup) (hi : X.N[i]? = some n) (hj : X.N[j]? = some y) (hln : X.env.kindOf n = some .local) (hly : X.env.kindOf y = some .local) (hc : Names X x c)
    (hdn : (n == ("__debug__" : Str)) = false) (hcn : (n == ("__classdict__" : Str)) = false)
    (hb : ∀ (W : WX) (pn : List (Addr × Obj)) (xe : Value → Shared → Prop), Takes (X.tr pn xe) W → PassesOwn (model X.prog X.w) X.A X.env xe → PSs (X.tr pn xe) body (tb W))
    (hsw : swapsWith (.Name n nn) (some (.Name y ny)) npa.line X.env = pure false) :
    PS X (.Try body [.ExceptHandler (some (.Name x np)) (some n) [.Assign [.Name y ny] (.Name n nn) npa] pos'] [] [] pos) (fun D σ H => tb (wKeep X.K X.N.length c i j D) D σ H) := by
  refine ⟨fun pins s σ H D I h => ?_⟩
  have ok := I.ok
  have hfr : X.A.frames = some (X.env :: X.outer) := by rw [ok.frames, hs]
  have hloc : Loc X.env.scope n := .inl hln
  refine wpAny_Try_except ?_
  refine wpAny_mono ((hb (wKeep X.K X.N.length c i j D) (X.pn ++ pins) (fun e s₁ => wpAny (model X.prog X.w) X.A (noteFrame e X.env) (fun _ s₂ => wpAny (model X.prog X.w) X.A (setFlight e none) (fun _ s₃ =>
    wpAny (model X.prog X.w) X.A (handleBy e X.env [.ExceptHandler (some (.Name x np)) (some n) [.Assign [.Name y ny] (.Name n nn) npa] pos']) (SP X pins D) X.xe s₃) X.xe s₂) X.xe s₁) (fun u s' xx => ?_) PassesOwn.looking).run [] s σ H D (I.toTry _) h) (fun f s1 hsp => ?_) (fun e s1 he => he)
  · obtain ⟨a, B, sI, pins', σ', H', cls, d, rfl, J', nb, up, sky, na, os, ag, b, hb1, hyes, hno⟩ := xx
    have J : L2.Inv X pins σ' H' sI := J'.ofTry ok
    have sky' : Sky B (X.env :: X.outer) a (Zc cls d) X.env.locals s'.heap := by rw [← hs]; exact sky
    show wpAny (model X.prog X.w) X.A (noteFrame (.ref a) X.env) _ _ _
    refine Sky.land Zc.steady hfr hf sky' fun h3 fl3 up3 => ?_
    have J3 : L2.Inv X pins σ' H' { s' with heap := h3 } := J.landed nb fl3.1 (up.trans up3) os ag
    obtain ⟨oe3, vs3, he3, hz3, hd3⟩ := fl3.there
    have nfr : a ∉ frs (X.env :: X.outer) := fun hm => by
      obtain ⟨_, o', e', hnf⟩ := fl3.2.2.1.mem hm
      rw [he3] at e'; cases e'
      exact hnf _ hd3
    have nL : a ≠ X.env.locals := fun z => nfr (List.mem_filterMap.mpr ⟨X.env, List.mem_cons_self, by rw [hf, z]⟩)
    have nF : a ∉ X.fs := fun hm => by
      obtain ⟨e, he, q⟩ := List.mem_filterMap.mp hm
      exact nfr (List.mem_filterMap.mpr ⟨e, List.mem_cons_of_mem _ he, q⟩)
    have nI : sI.heap.get? a = none := by
      cases q : sI.heap.get? a with
      | none => rfl
      | some o =>
        have z := nb a o q (by rw [hs]; exact nfr)
        rw [fl3.2.1] at z; cases z
    have n0 : X.s_0.heap.get? a = none := by
      cases q : X.s_0.heap.get? a with
      | none => rfl
      | some o =>
        obtain ⟨o', z⟩ := J.base.there a o q (by rw [hex]; exact fun z => nomatch z)
        rw [nI] at z; cases z
    have npn : ∀ p ∈ X.pn ++ pins, p.1 ≠ a := fun p hp z => by
      obtain ⟨q, _⟩ := J.pin p hp
      rw [z, nI] at q; cases q
    have S3 := J3.suite he3 hd3 na nL nF
    refine wpAny_handleBy_cons (codeAny_handlers_test ?_) (by intro q; cases q)
    have LT : PySem.W.Looks (model X.prog X.w) h3 (typeOf (.ref a)) cls := fun A Q E s k q => wpAny_typeOf_ref (k _ _ he3) (by rw [hz3.1]; exact q)
    have LM := PySem.W.exm_one (M := model X.prog X.w) (J3.kIn) LT hb1
    have test : ∀ {Q : Value → Shared → Prop} {E : Value → Shared → Prop}, Q c { s' with heap := h3 } → wpAny (model X.prog X.w) (X.A.mark (some (.ref a))) (eval (.Name x np) X.env) Q E { s' with heap := h3 } := fun {Q E} q => by
      obtain ⟨hg, hdbg, hm | ⟨hm, hv, hnn⟩⟩ := hc
      · exact ld_glob (X := X.suite a ((a, oe3) :: (X.pn ++ pins))) S3 hg hm q hdbg
      · exact ld_blt (X := X.suite a ((a, oe3) :: (X.pn ++ pins))) S3 hg hm hv q hnn hdbg
    refine test (LM.here ?_)
    cases b with
    | false => exact (hno rfl).elim
    | true =>
      refine codeAny_handlers_suite_as ?_
      refine HandSPX.lands_againZ fl3 fun h4 fl4 up4 => ?_
      have J4 : L2.Inv X pins σ' H' { s' with heap := h4 } := J.landed nb fl4.1 ((up.trans up3).trans up4) os ag
      obtain ⟨oe4, vs4, he4, hz4, hd4⟩ := fl4.there
      have S4 := J4.suite he4 hd4 na nL nF
      refine store_ok (X := X.suite a ((a, oe4) :: (X.pn ++ pins))) (v := .ref a) S4 hN hi hloc rfl (fun s5 S5 => ?_) (.inr hln)
      have hset : PSs (X.suite a ((a, oe4) :: (X.pn ++ pins))) [.Assign [.Name y ny] (.Name n nn) npa] (tAsg (tVar i) (gName j)) :=
        pss_one (ps_set (X := X.suite a ((a, oe4) :: (X.pn ++ pins))) hN hj (.inl hly) (pe_var (X := X.suite a ((a, oe4) :: (X.pn ++ pins))) hi (.inl hln) hdn hcn) hsw (.inr hly))
      have hlt : i < (σ'.set i (some (V.ref a))).length := by
        have z := S5.len
        have z2 := (List.getElem?_eq_some_iff.mp hi).1
        rw [z]; exact z2
      refine wpAny_mono (hset.run [] s5 _ H' { nx := fun σ6 H6 => σ6 = (σ'.set i (some (.ref a))).set j (some (.ref a)) ∧ H6 = H', rt := fun _ _ => False, bk := fun _ _ => False, ct := fun _ _ => False } S5 ⟨.ref a, List.getElem?_set_self (by simpa using hlt), rfl, rfl⟩) (fun f s6 hsp => ?_) (fun _ _ z => False.elim z)
      cases f with
      | brk => obtain ⟨_, _, _, z⟩ := hsp; exact z.elim
      | cont => obtain ⟨_, _, _, z⟩ := hsp; exact z.elim
      | ret u => obtain ⟨_, _, _, _, _, z⟩ := hsp; exact z.elim
      | next =>
        obtain ⟨σ6, H6, S6, e1, e2⟩ := hsp
        subst e1 e2
        obtain ⟨g6, _⟩ := S6.pin (a, oe4) (List.mem_append_left _ List.mem_cons_self)
        have J6 := Inv.track (S6.unsuite ok) g6 hz4 hd4 na n0 nL npn
        exact gone_ok J6 hN hi hln fun s7 J7 => ⟨_, _, J7, hyes rfl J.len a na⟩
  · cases f with
    | next =>
      obtain ⟨σ', H', J', q⟩ := hsp
      exact wpAny_execs_nil ⟨σ', H', J'.ofTry ok, q⟩
    | brk =>
      obtain ⟨σ', H', J', q⟩ := hsp
      exact ⟨σ', H', J'.ofTry ok, q⟩
    | cont =>
      obtain ⟨σ', H', J', q⟩ := hsp
      exact ⟨σ', H', J'.ofTry ok, q⟩
    | ret u =>
      obtain ⟨v, σ', H', J', r, q⟩ := hsp
      exact ⟨v, σ', H', J'.ofTry ok, r, q⟩
end
/-- def caught(a): y = None; try: a(); except e as n: y = n; return y -/
def ExK (K : PySem.W.Frag) (CS : Addr) (Q : VK) : XK := fun cls d H' => ∃ b, PySem.W.exmOne K cls (.ref CS) = some b ∧ (b = true → ∀ a, H' a = none → Q (.ref a) (upd H' a (ExC cls d a))) ∧ (b = false → False)
def TTc (K : PySem.W.Frag) (CS : Addr) : (XK → Hp → VK → Prop) → Hp → VK → Prop := fun tl H Q => tl (ExK K CS Q) H fun _ H' => ∃ v : V, (some (some V.non) : Option (Option V)) = some (some v) ∧ Q v H'
theorem caught_gives {X : Cx} {x a y n e q : Str} {sg : Scope} {g CS : Addr} {cdg : Value} {j : Nat} {p1 p2 p3 p4 p5 p6 p7 p8 p9 p10 p11 p12 p13 p14 : Pos} (S : FnScope [a, y, n] [a] sg) (hge : sg.names.lookup e = some .globalImplicit) (hme : X.mg e = some (.ref CS)) (hde : (e == ("__debug__" : Str)) = false)
    (hy : sg.names.lookup y = some .local) (hn : sg.names.lookup n = some .local) (hdn : (n == ("__debug__" : Str)) = false) (hcn : (n == ("__classdict__" : Str)) = false) (hdy : (y == ("__debug__" : Str)) = false) (hcy : (y == ("__classdict__" : Str)) = false)
    (hs1 : ∀ env : PySem.Env, env.scope = sg → swapsWith (.Constant .none j p1) (some (.Name y p2)) p3.line env = pure false) (hs2 : ∀ env : PySem.Env, env.scope = sg → swapsWith (.Call (.Name a p4) [] [] p5) none p6.line env = pure false)
    (hs3 : ∀ env : PySem.Env, env.scope = sg → swapsWith (.Name n p8) (some (.Name y p9)) p10.line env = pure false) :
    LamX.GivesTo X [a, y, n] x sg g cdg [.Assign [.Name y p2] (.Constant .none j p1) p3, .Try [.Expr (.Call (.Name a p4) [] [] p5) p6] [.ExceptHandler (some (.Name e p7)) (some n) [.Assign [.Name y p9] (.Name n p8) p10] p11] [] [] p12, .Return (some (.Name y p13)) p14] a q (TTc X.K CS) := by
  intro f c' s H Q tl act hc h
  have hgl : Gl (cxOf C8.CX0 X.prog X.w X.K X.mg X.base [a, y, n] x sg g cdg X.A X.stack s H C8.E0).nox e := hge
  refine ⟨_, pss_cons (ps_set (X := (cxOf C8.CX0 X.prog X.w X.K X.mg X.base [a, y, n] x sg g cdg X.A X.stack s H C8.E0).nox) (i := 1) S.nd rfl (.inl hy) pe_non (hs1 _ rfl) (.inr hy))
    (pss_cons (ps_try_keep (X := (cxOf C8.CX0 X.prog X.w X.K X.mg X.base [a, y, n] x sg g cdg X.A X.stack s H C8.E0).nox) (c := .ref CS) (i := 2) (j := 1)
      (tb := fun W D σ H => ∃ Ech : XK, (∀ cls d σ' H', Ech cls d H' → W cls d σ' H') ∧ σ[0]? = some (some (.ref f)) ∧ H c' = some (LamX.CodeO c' q) ∧ tl Ech H fun _ H' => D.nx σ H')
      rfl rfl rfl S.nd rfl rfl hn hy ⟨hgl, hde, .inl hme⟩ hdn hcn (fun W pn xe tk _ => ?_) (hs3 _ rfl))
    (pss_one (ps_ret (pe_var (X := (cxOf C8.CX0 X.prog X.w X.K X.mg X.base [a, y, n] x sg g cdg X.A X.stack s H C8.E0).nox) (i := 1) rfl (.inl hy) hdy hcy)))), ?_⟩
  · refine ⟨fun pins s' σ H' D I h' => ?_⟩
    obtain ⟨Ech, hW, h1, h2, h3⟩ := h'
    have hp := act W pn xe Ech p4 p5 tk hW
    have hq := pss_one (ps_expr (pos := p6) hp (hs2 _ rfl))
    exact hq.run pins s' σ H' D I ⟨h1, h2, h3⟩
  · refine ⟨ExK X.K CS Q, fun cls d σ' H' ⟨b, e1, e2, e3⟩ => ⟨b, e1, fun hb hl a ha => ⟨.ref a, ?_, e2 hb a ha⟩, fun hb => e3 hb⟩, rfl, hc, ?_⟩
    · have h3 : σ'.length = 3 := hl
      match σ', h3 with
      | [u, v, w], _ => rfl
    · exact h
/-- isinstance(v, c), v a kept exception without fields, or None -/
def rIsX (K : PySem.W.Frag) : List V → Hp → VK → Prop := fun xs H Q => ∃ (a D : Addr) (c : V) (cv : Value) (b : Bool), xs = [.ref a, c] ∧ H a = some (ExC (.ref D) none a) ∧ ExcC K D ∧ (∀ u, L2.RelV c u → u = cv) ∧ PySem.W.kitOne K (.ref D) cv = some b ∧ Q (.bl b) H
theorem call_isX {X : Cx} : CallR X (.builtin "isinstance") (rIsX X.K) := by
  intro pins s σ H xs us Q I r h
  obtain ⟨a, D, c, cv, b, rfl, ha, C, hcv, e, q⟩ := h
  obtain ⟨u1, u2, rfl, rx, rt⟩ := vals2 r
  cases rx
  have ec := hcv _ rt
  subst ec
  obtain ⟨⟨oe, vs, hget, hz, hv⟩, _, _⟩ := I.hok a _ ha
  have J : PySem.W.InstAt s.heap a oe D none := by
    obtain ⟨oc, od, oda, osl⟩ := oe
    obtain ⟨h1, h2⟩ := hz
    dsimp only at h1 h2 hv
    subst h1 h2 hv
    exact ⟨hget, rfl, rfl, trivial⟩
  exact PySem.W.kia_one (PySem.W.handS_kitx_exc C.hg C.hk C.hs C.hd C.ha C.hn C.ht C.hm) I.kIn J e (fun z => nomatch z) fun tk => ⟨.bl b, H, I.kept (t' := tk) fun _ _ z => z, rfl, q⟩
/-! ### f(k = v) -/
section
variable {X : Cx} {CX : CXT} {k : Nat} {f : Addr} {fd : FuncData} {ps ks : List Str} {sp : Sp} {E : XK} {x : Str} {p pos : Pos} {kws : List Keyword} {tk : TA} {g : List Value → List Value → List Value} {gV : List V → List V → List V}
theorem pe_callK0 (F : FnOk X.prog X.w X.K X.mg X.base CX k f fd ps sp) (hr : Room k X.A) (hg : Gl X x) (hm : X.mg x = some (.ref f)) (hk : PySem.W.keepIn X.K (.ref f) = true) (hb : KBinds X.K fd ps ks g gV) (hx : Passes CX X E) (hkw : PK X kws tk)
    (hall : (backToKw pos (keywordEach kws X.env)).all (·.1.isSome) = true := by rfl) (hks : (backToKw pos (keywordEach kws X.env)).filterMap (·.1) = ks := by rfl) (hdb : (x == ("__debug__" : Str)) = false := by decide)
    (hpl : ((backTo pos (starEach [] X.env)).any (·.1) || (backToKw pos (keywordEach kws X.env)).any (·.1.isNone)) = false := by rfl) : PE X (.Call (.Name x p) [] kws pos) (tCallK sp gV E tNil tk) := by
  refine ⟨fun pins s σ H Q I h => ?_⟩
  refine wpAny_Call_Name_kw (ld_glob I hg hm ?_ hdb)
  refine PySem.W.callWith_KW0 (h₀ := X.base) I.ok.mod.kin hk hall ?_ hpl
  refine thn (hkw.run pos pins s σ H _ I h) fun ws s2 ⟨zs, H2, I2, rz, q2⟩ => ⟨I2.kIn, ?_⟩
  rw [hks]
  exact run_fnk (us := []) (vs := []) F hr hb hx I2 .nil rz q2
end
/-- a def of one parameter, called by place or by name -/
theorem kb_one {K : PySem.W.Frag} {x q n : Str} {st : Stmt} {f : Addr} {fd : FuncData} (F : L2.Fun K x q st f fd)
    (h1 : ∀ (kV doc pm : Value) (an : Option Addr) (cdv ct u : Value), bindArgs (PySem.W.fnOf x q (defArgs st) (defBody st) (defScope st) .none kV doc pm an cdv ct) ⟨[u], []⟩ = pure [(n, u)])
    (h2 : ∀ (kV doc pm : Value) (an : Option Addr) (cdv ct u : Value), bindArgs (PySem.W.fnOf x q (defArgs st) (defBody st) (defScope st) .none kV doc pm an cdv ct) ⟨[], [(n, u)]⟩ = pure [(n, u)]) :
    KBinds K fd [n] [n] (fun us ws => us ++ ws) (fun us ws => us ++ ws) := by
  obtain ⟨oc, od, kV, doc, pm, an, cdv, ct, osl, rfl, lk, hcd⟩ := F.ex
  refine ⟨fun s us ws X l => ?_, fun a b => a.append b⟩
  match us, ws, l with
  | [], [w], _ => exact .of_eq (h2 _ _ _ _ _ _ _)
  | [u], [], _ => exact .of_eq (h1 _ _ _ _ _ _ _)
  | [], [], l => simp at l
  | [], _ :: _ :: _, l => simp at l
  | _ :: _ :: _, _, l => simp at l
  | [_], _ :: _, l => simp at l
/-! ### a local name that holds one of several defs that may raise -/
def tCallX (i : Nat) (S : Addr → Option Sp) (E : XK) (t : TA) : TE := fun σ H Q => ∃ f sp, σ[i]? = some (some (.ref f)) ∧ S f = some sp ∧ t σ H fun vs H1 => sp vs H1 Q E
theorem pe_callX {X : Cx} {CX : CXT} {k i : Nat} {S : Addr → Option Sp} {E : XK} {x : Str} {p pos : Pos} {e : Expr} {es : List Expr} {t : TA}
    (A : ∀ f sp, S f = some sp → ∃ (fd : FuncData) (ps : List Str), FnOk X.prog X.w X.K X.mg X.base CX k f fd ps sp ∧ PySem.W.keepIn X.K (.ref f) = true ∧ Binds X.K fd ps []) (hr : Room k X.A) (hx : Passes CX X E) (hN : X.N[i]? = some x) (hv : Vis X.env.scope x) (ha : PA X (e :: es) t)
    (hdb : (x == ("__debug__" : Str)) = false := by decide) (hcd : (x == ("__classdict__" : Str)) = false := by decide)
    (he : starEach (e :: es) X.env = (false, eval e X.env) :: starEach es X.env := by rfl) (hpl : (backTo pos (starEach es X.env)).any (·.1) = false := by rfl) : PE X (.Call (.Name x p) (e :: es) [] pos) (tCallX i S E t) := by
  refine ⟨fun pins s σ H Q I h => ?_⟩
  obtain ⟨f, sp, hs, hS, ht⟩ := h
  obtain ⟨fd, ps, F, hk, hb⟩ := A f sp hS
  refine (pe_callL (i := i) (f := f) (sp := sp) (dvs := []) (E := E) F hr hN hv hk hb .nil hx ha hdb hcd he hpl).run pins s σ H Q I ⟨hs, ?_⟩
  have e0 : (fun (vs : List V) (H1 : Hp) => sp (vs ++ []) H1 Q E) = fun vs H1 => sp vs H1 Q E := by
    funext vs H1
    rw [List.append_nil]
  show t σ H (fun vs H1 => sp (vs ++ []) H1 Q E)
  rw [e0]
  exact ht
end Sh
end Part_ShX

section Part_ShL
set_option maxRecDepth 100000
set_option maxHeartbeats 2000000
/-! ShL: the laws' draws: the dict of a draw, what may change while it is drawn. -/
namespace Sh
open PySem L2
def kd (l c : Addr) (r t : Int) : List (Key × V) := [(.inr "large", .ref l), (.inr "rest", .int r), (.inr "cells", .ref c), (.inr "turn", .int t)]
theorem kd_large {l c : Addr} {r t : Int} : valV (kd l c r t) (.inr "large") = some (.ref l) := by
  unfold kd; rw [valV_pos rfl]
theorem ne1 : ¬ ((Sum.inr (Str.ofString "large") : Key) = .inr "rest") := by decide
theorem ne2 : ¬ ((Sum.inr (Str.ofString "large") : Key) = .inr "cells") := by decide
theorem ne3 : ¬ ((Sum.inr (Str.ofString "large") : Key) = .inr "turn") := by decide
theorem ne4 : ¬ ((Sum.inr (Str.ofString "rest") : Key) = .inr "cells") := by decide
theorem ne5 : ¬ ((Sum.inr (Str.ofString "rest") : Key) = .inr "turn") := by decide
theorem ne6 : ¬ ((Sum.inr (Str.ofString "cells") : Key) = .inr "turn") := by decide
theorem kd_rest {l c : Addr} {r t : Int} : valV (kd l c r t) (.inr "rest") = some (.int r) := by
  unfold kd; rw [valV_neg ne1, valV_pos rfl]
theorem kd_cells {l c : Addr} {r t : Int} : valV (kd l c r t) (.inr "cells") = some (.ref c) := by
  unfold kd; rw [valV_neg ne2, valV_neg ne4, valV_pos rfl]
theorem kd_turn {l c : Addr} {r t : Int} : valV (kd l c r t) (.inr "turn") = some (.int t) := by
  unfold kd; rw [valV_neg ne3, valV_neg ne5, valV_neg ne6, valV_pos rfl]
theorem kd_putRest {l c : Addr} {r t r' : Int} : putK (kd l c r t) (.inr "rest") (.int r') = kd l c r' t := by
  unfold putK kd
  rw [if_pos (by simp)]
  simp only [List.map_cons, List.map_nil]
  rw [if_neg ne1, if_pos trivial, if_neg (Ne.symm ne4), if_neg (Ne.symm ne5)]
theorem kd_putTurn {l c : Addr} {r t t' : Int} : putK (kd l c r t) (.inr "turn") (.int t') = kd l c r t' := by
  unfold putK kd
  rw [if_pos (by simp)]
  simp only [List.map_cons, List.map_nil]
  rw [if_neg ne3, if_neg ne5, if_neg ne6, if_pos trivial]
theorem kd_len {l c : Addr} {r t : Int} : (kd l c r t).length < sizeLine := by show 4 < sizeLine; decide
/-- a draw at p: l the great cells, c all cells -/
structure Dr (H : Hp) (p l c : Addr) : Prop where
  ex : ∃ (r t : Int) (ls cs : List Int), H p = some (.dK (kd l c r t)) ∧ H l = some (.lst (ls.map V.int)) ∧ H c = some (.lst (cs.map V.int))
  ne : l ≠ c
/-- the heap goes on while it is drawn -/
structure GrD (p l : Addr) (G H G' H' : Hp) : Prop where
  h : ∀ b o, H b = some o → b ≠ p → b ≠ l → H' b = some o
  g : Same G G'
  gh : Same G' H'
  nw : ∀ a o, G' a = some o → G a = some o ∨ H a = none
  nl : ∀ a, H a ≠ none → H' a ≠ none
section
variable {p l c : Addr} {G H G' H' G1 H1 : Hp}
theorem Gr.d (g : Gr G H G' H') : GrD p l G H G' H' := ⟨fun b o e _ _ => g.h b o e, g.g, g.gh, g.nw, fun a n z => by
  cases e : H a with
  | none => exact n e
  | some o => rw [g.h _ _ e] at z; cases z⟩
theorem GrD.refl (e : Same G H) : GrD p l G H G H := (Gr.refl e).d
theorem GrD.trans (a : GrD p l G H G1 H1) (b : GrD p l G1 H1 G' H') : GrD p l G H G' H' :=
  ⟨fun x o e h1 h2 => b.h x o (a.h x o e h1 h2) h1 h2, a.g.trans b.g, b.gh, fun x o q => by
    rcases b.nw x o q with q | q
    · exact a.nw x o q
    · right
      cases e : H x with
      | none => rfl
      | some u => exact absurd q (a.nl x (by rw [e]; simp)), fun x n => b.nl x (a.nl x n)⟩
theorem GrD.non (g : GrD p l G H G' H') {x : Addr} (hg : G x = none) (hh : H x ≠ none) : G' x = none := by
  cases e : G' x with
  | none => rfl
  | some o =>
    rcases g.nw x o e with z | z
    · rw [hg] at z; cases z
    · exact absurd z hh
/-- the dict of the draw, or its great cells, is written -/
theorem GrD.upd {x : Addr} {o : HO} (e : Same G H) (hx : x = p ∨ x = l) (hG : G x = none) (hH : H x ≠ none) : GrD p l G H G (upd H x o) where
  h := fun b u q h1 h2 => by
    rw [upd_ne (fun z => by rcases hx with h | h <;> rw [h] at z <;> contradiction)]
    exact q
  g := Same.refl G
  gh := fun a u q => by rw [upd_ne (fun z => by rw [z, hG] at q; cases q)]; exact e a u q
  nw := fun a u q => .inl q
  nl := fun a n => by
    by_cases h : a = x
    · rw [h, upd_same]; simp
    · rw [upd_ne h]; exact n
theorem Dr.atP (d : Dr H p l c) : H p ≠ none := by obtain ⟨r, t, ls, cs, h, _⟩ := d.ex; rw [h]; simp
theorem Dr.atL (d : Dr H p l c) : H l ≠ none := by obtain ⟨r, t, ls, cs, _, h, _⟩ := d.ex; rw [h]; simp
theorem Dr.pl (d : Dr H p l c) : p ≠ l := by
  obtain ⟨r, t, ls, cs, h1, h2, _⟩ := d.ex
  exact ne_of h1 h2 (fun z => by cases z)
theorem Dr.pc (d : Dr H p l c) : p ≠ c := by
  obtain ⟨r, t, ls, cs, h1, _, h2⟩ := d.ex
  exact ne_of h1 h2 (fun z => by cases z)
/-- what does not touch the draw keeps it -/
theorem Dr.same (d : Dr H p l c) (e : Same H H') : Dr H' p l c := by
  obtain ⟨r, t, ls, cs, h1, h2, h3⟩ := d.ex
  exact ⟨⟨r, t, ls, cs, e _ _ h1, e _ _ h2, e _ _ h3⟩, d.ne⟩
end
section
variable {p l c : Addr} {H : Hp} {r t : Int}
theorem gLarge (hp : H p = some (.dK (kd l c r t))) : DGet H p (.str "large") (some (.ref l)) := by
  have z := DGet.k (k := .inr "large") hp
  rw [kd_large] at z; exact z
theorem gRest (hp : H p = some (.dK (kd l c r t))) : DGet H p (.str "rest") (some (.int r)) := by
  have z := DGet.k (k := .inr "rest") hp
  rw [kd_rest] at z; exact z
theorem gCells (hp : H p = some (.dK (kd l c r t))) : DGet H p (.str "cells") (some (.ref c)) := by
  have z := DGet.k (k := .inr "cells") hp
  rw [kd_cells] at z; exact z
theorem gTurn (hp : H p = some (.dK (kd l c r t))) : DGet H p (.str "turn") (some (.int t)) := by
  have z := DGet.k (k := .inr "turn") hp
  rw [kd_turn] at z; exact z
theorem pRest (hp : H p = some (.dK (kd l c r t))) (r' : Int) : DPut H p (.str "rest") (.int r') (upd H p (.dK (kd l c r' t))) :=
  .inl ⟨_, .inr "rest", hp, rfl, kd_len, by rw [kd_putRest]⟩
theorem pTurn (hp : H p = some (.dK (kd l c r t))) (t' : Int) : DPut H p (.str "turn") (.int t') (upd H p (.dK (kd l c r t'))) :=
  .inl ⟨_, .inr "turn", hp, rfl, kd_len, by rw [kd_putTurn]⟩
end
/-- int(x) -/
abbrev rInt1 : List V → Hp → VK → Prop := fun xs H Q => (∃ i, xs = [.int i] ∧ Q (.int i) H) ∨ ∃ k, xs = [.bl k] ∧ Q (.int (if k then 1 else 0)) H
abbrev rModP : R2 := rI (fun _ j => 0 < j) fun i j => .int (i % j)
/-- // by any number that is not 0, of less than 9000 bits -/
def _root_.L2.CDivA (_ j : Int) : Prop := j ≠ 0 ∧ j.natAbs.log2 < 9000
theorem _root_.L2.op_fdivA {X : Cx} : OpR X (binaryOp .FloorDiv) (rI L2.CDivA fun i j => .int (i.fdiv j)) := opI fun i j _ _ _ _ _ hc q => PyProof.Rows.floordiv_int hc.1 q (.inl (PyProof.noPylong_of_log2 hc.2))
theorem cdivA_of {i n : Int} (h : 0 < n) (h2 : n < 1152921504606846976) : L2.CDivA i n := by
  have e : (2 : Nat) ^ 60 = 1152921504606846976 := by decide
  have h3 : n.natAbs.log2 < 60 := (Nat.log2_lt (by omega)).mpr (by omega)
  exact ⟨by omega, by omega⟩
abbrev rFdv : R2 := rI L2.CDivA fun i j => .int (i.fdiv j)
/-- a draw goes on: all but its own objects stand -/
def FrD (p l : Addr) (H H' : Hp) : Prop := ∀ b o, H b = some o → b ≠ p → b ≠ l → H' b = some o
theorem FrD.refl {p l : Addr} {H : Hp} : FrD p l H H := fun _ _ e _ _ => e
theorem FrD.trans {p l : Addr} {H H1 H' : Hp} (a : FrD p l H H1) (b : FrD p l H1 H') : FrD p l H H' := fun x o e h1 h2 => b x o (a x o e h1 h2) h1 h2
theorem FrD.of {p l : Addr} {H H' : Hp} (e : Same H H') : FrD p l H H' := fun x o h _ _ => e x o h
theorem FrD.put {p l x : Addr} {H : Hp} {o : HO} (hx : x = p ∨ x = l) : FrD p l H (upd H x o) := fun b u e h1 h2 => by
  rw [upd_ne (fun z => by rcases hx with h | h <;> rw [h] at z <;> contradiction)]
  exact e
theorem FrD.new {p l x : Addr} {H : Hp} {o : HO} (hx : H x = none) : FrD p l H (upd H x o) := fun b u e _ _ => by
  rw [upd_ne (ne_of_none e hx)]
  exact e
def spTake : Sp := fun vs H Q _ => ∃ (p l c : Addr) (n : Int), vs = [.ref p, .int n] ∧ Dr H p l c ∧ 0 < n ∧ n < 1152921504606846976 ∧ ∀ (r : Int) (H' : Hp), 0 ≤ r → r < n → Dr H' p l c → FrD p l H H' → Q (.int r) H'
def t_take2 : TS := tSeq (tAsg (tOp rModP (tCB rInt1 (tCons (tDGet (tVar 0) (tC (.str "rest"))) tNil)) (tVar 1)) (gName 2))
  (tSeq (sDPut (tVar 0) (tC (.str "rest")) (tOp rFdv (tCB rInt1 (tCons (tDGet (tVar 0) (tC (.str "rest"))) tNil)) (tVar 1))) (tRet (tVar 2)))
theorem take2 {p l c : Addr} {n : Int} {H H1 : Hp} {v : Option V} {D : Ends} {r t : Int} {ls cs : List Int} (hn : 0 < n) (hn2 : n < 1152921504606846976) (ne : l ≠ c) (hp : H1 p = some (.dK (kd l c r t))) (hl : H1 l = some (.lst (ls.map V.int))) (hc : H1 c = some (.lst (cs.map V.int))) (fr : FrD p l H H1)
    (k : ∀ (r : Int) (H' : Hp), 0 ≤ r → r < n → Dr H' p l c → FrD p l H H' → D.rt (.int r) H') : t_take2 D [some (.ref p), some (.int n), v] H1 := by
  have npl : p ≠ l := ne_of hp hl (fun z => by cases z)
  have npc : p ≠ c := ne_of hp hc (fun z => by cases z)
  refine ⟨.ref p, rfl, p, _, rfl, gRest hp, .inl ⟨r, rfl, _, rfl, r, n, rfl, rfl, hn, ?_⟩⟩
  refine ⟨.ref p, rfl, p, _, rfl, gRest hp, .inl ⟨r, rfl, _, rfl, r, n, rfl, rfl, cdivA_of hn hn2, ?_⟩⟩
  refine ⟨.ref p, rfl, p, _, rfl, pRest hp _, _, rfl, ?_⟩
  refine k _ _ (Int.emod_nonneg _ (by omega)) (Int.emod_lt_of_pos _ hn) ⟨⟨_, t, ls, cs, upd_same, by rw [upd_ne npl.symm]; exact hl, by rw [upd_ne npc.symm]; exact hc⟩, ne⟩ (fr.trans (FrD.put (.inl rfl)))
theorem shaped_ints : ∀ ls : List Int, PyData.canLay0 (.list (ls.map PyData.int)) = true ∧ PyData.depth (.list (ls.map PyData.int)) ≤ 1 := by
  intro ls
  have h1 : ∀ ls : List Int, PyData.canLayAll0 (ls.map PyData.int) = true := fun ls => by
    induction ls with
    | nil => rfl
    | cons i r ih => rw [List.map_cons]; unfold PyData.canLayAll0; rw [ih]; rfl
  have h2 : ∀ ls : List Int, PyData.depthAll (ls.map PyData.int) = 0 := fun ls => by
    induction ls with
    | nil => rfl
    | cons i r ih => rw [List.map_cons]; unfold PyData.depthAll; rw [ih]; rfl
  refine ⟨?_, ?_⟩
  · unfold PyData.canLay0; exact h1 ls
  · unfold PyData.depth; rw [h2 ls]; decide
theorem dp_ints {K : PySem.W.Frag} {H : Hp} {a : Addr} {ls : List Int} (h : H a = some (.lst (ls.map V.int))) : Dp K H (.ref a) (.list (ls.map PyData.int)) := by
  refine .lst (SqL.of h) ?_
  clear h
  induction ls with
  | nil => exact .nil
  | cons i r ih => exact .cons (.int i) ih
theorem sh_ints (ls : List Int) : SeqAt.shaped (.list (ls.map PyData.int)) = true := by
  obtain ⟨h1, h2⟩ := shaped_ints ls
  unfold SeqAt.shaped
  rw [h1, decide_eq_true (by omega)]
  rfl
theorem eqv_nil (ps : List PyData) : PyData.eqv (.list ps) (.list []) = ps.isEmpty := by
  cases ps with
  | nil => rfl
  | cons p r => rfl
theorem FrD.same {p l : Addr} {G H H' : Hp} (f : FrD p l H H') (e : Same G H) (hp : G p = none) (hl : G l = none) : Same G H' := fun b o q =>
  f b o (e b o q) (fun z => by rw [z, hp] at q; cases q) (fun z => by rw [z, hl] at q; cases q)
theorem kd_merge {l c : Addr} {r t : Int} : mergeK [] (kd l c r t) = kd l c r t := by
  unfold mergeK kd
  simp only [List.foldl_cons, List.foldl_nil]
  have e1 : ∀ (k : Key) (v : V), putK [] k v = [(k, v)] := fun k v => rfl
  rw [e1]
  have e2 : ∀ (q : List (Key × V)) (k : Key) (v : V), (∀ x ∈ q, ¬ x.1 = k) → putK q k v = q ++ [(k, v)] := fun q k v h => by
    unfold putK
    rw [if_neg]
    simp only [List.any_eq_true, decide_eq_true_eq, not_exists, not_and]
    exact h
  have s1 : putK [(((Sum.inr "large" : Key), V.ref l) : Key × V)] (Sum.inr "rest" : Key) (V.int r) = [(((Sum.inr "large" : Key), V.ref l) : Key × V), ((Sum.inr "rest" : Key), V.int r)] := by
    rw [e2 _ _ _ (fun x hx => by rw [List.mem_singleton.mp hx]; exact ne1)]; rfl
  have s2 : putK [(((Sum.inr "large" : Key), V.ref l) : Key × V), ((Sum.inr "rest" : Key), V.int r)] (Sum.inr "cells" : Key) (V.ref c) = [(((Sum.inr "large" : Key), V.ref l) : Key × V), ((Sum.inr "rest" : Key), V.int r), ((Sum.inr "cells" : Key), V.ref c)] := by
    rw [e2 _ _ _ (fun x hx => by
      rcases List.mem_cons.mp hx with h | hx
      · rw [h]; exact ne2
      · rw [List.mem_singleton.mp hx]; exact ne4)]
    rfl
  have s3 : putK [(((Sum.inr "large" : Key), V.ref l) : Key × V), ((Sum.inr "rest" : Key), V.int r), ((Sum.inr "cells" : Key), V.ref c)] (Sum.inr "turn" : Key) (V.int t) = [(((Sum.inr "large" : Key), V.ref l) : Key × V), ((Sum.inr "rest" : Key), V.int r), ((Sum.inr "cells" : Key), V.ref c), ((Sum.inr "turn" : Key), V.int t)] := by
    rw [e2 _ _ _ (fun x hx => by
      rcases List.mem_cons.mp hx with h | hx
      · rw [h]; exact ne3
      · rcases List.mem_cons.mp hx with h | hx
        · rw [h]; exact ne5
        · rw [List.mem_singleton.mp hx]; exact ne6)]
    rfl
  rw [s1, s2, s3]
/-- data that may be compared -/
def okD (d : D) : Bool := match dpy d with
  | some q => q.canLay0 && decide (q.depth ≤ 60)
  | none => false
theorem okDs : ∀ (ds : List D), (∀ d ∈ ds, okD d = true) → ∃ ps, dpys ds = some ps ∧ PyData.canLayAll0 ps = true ∧ PyData.depthAll ps ≤ 60
  | [], _ => ⟨[], rfl, rfl, by decide⟩
  | d :: ds, h => by
    obtain ⟨ps, h1, h2, h3⟩ := okDs ds fun x hx => h x (List.mem_cons_of_mem _ hx)
    have hd := h d (by simp)
    unfold okD at hd
    cases e : dpy d with
    | none => rw [e] at hd; cases hd
    | some q =>
      rw [e] at hd
      obtain ⟨q1, q2⟩ := Bool.and_eq_true_iff.mp hd
      refine ⟨q :: ps, ?_, ?_, ?_⟩
      · show (dpy d).bind (fun p => (dpys ds).map (p :: ·)) = _
        rw [e, h1]; rfl
      · unfold PyData.canLayAll0; rw [q1, h2]; rfl
      · unfold PyData.depthAll; exact Nat.max_le.mpr ⟨of_decide_eq_true q2, h3⟩
theorem okDs_shaped {ds : List D} (h : ∀ d ∈ ds, okD d = true) : ∃ ps, dpys ds = some ps ∧ SeqAt.shaped (.list ps) = true := by
  obtain ⟨ps, h1, h2, h3⟩ := okDs ds h
  refine ⟨ps, h1, ?_⟩
  unfold SeqAt.shaped PyData.canLay0 PyData.depth
  rw [h2, decide_eq_true (by omega)]
  rfl
theorem dpys_nil {ds : List D} {ps : List PyData} (h : dpys ds = some ps) : ps.isEmpty = ds.isEmpty := by
  cases ds with
  | nil => cases h; rfl
  | cons d ds =>
    obtain ⟨p, e1, e⟩ := Option.bind_eq_some_iff.mp (show (dpy d).bind (fun p => (dpys ds).map (p :: ·)) = _ from h)
    obtain ⟨q, e2, e3⟩ := Option.map_eq_some_iff.mp e
    subst e3; rfl
theorem Rps.erase {K : PySem.W.Frag} {G : Hp} : ∀ (n : Nat) {vs : List V} {ds : List D}, Rps K G vs ds → Rps K G (vs.eraseIdx n) (ds.eraseIdx n)
  | _, _, [], h => by cases h; simp; exact .nil
  | 0, _, d :: ds, h => by
    cases h with
    | cons h1 h2 => simp; exact h2
  | n + 1, _, d :: ds, h => by
    cases h with
    | cons h1 h2 => simp; exact .cons h1 (Rps.erase n h2)
theorem perm_erase {α : Type} : ∀ (l : List α) (i : Nat) (x : α), l[i]? = some x → l.Perm (x :: l.eraseIdx i)
  | [], _, _, h => by simp at h
  | a :: l, 0, x, h => by simp at h; subst h; simp
  | a :: l, i + 1, x, h => by
    have q := perm_erase l i x (by simpa using h)
    simp only [List.eraseIdx_cons_succ]
    exact (q.cons a).trans (List.Perm.swap x a _)
def spPick (K : PySem.W.Frag) : Sp := fun vs H Q _ => ∃ (p l c : Addr) (s : V) (G : Hp) (d : D) (ds : List D), vs = [.ref p, s] ∧ Dr H p l c ∧ Same G H ∧ G p = none ∧ G l = none ∧ Rp K G s d ∧ itemsOf d = some ds ∧ ds ≠ [] ∧ ds.length < 1073741824 ∧
  ∀ (i : Nat) (d' : D) (v : V) (H' : Hp), ds[i]? = some d' → Rp K G v d' → Dr H' p l c → FrD p l H H' → Q v H'
def spShuf (K : PySem.W.Frag) : Sp := fun vs H Q _ => ∃ (p l c : Addr) (s : V) (G : Hp) (d : D) (ds : List D), vs = [.ref p, s] ∧ Dr H p l c ∧ Same G H ∧ G p = none ∧ G l = none ∧ Rp K G s d ∧ itemsOf d = some ds ∧ (∀ x ∈ ds, okD x = true) ∧ ds.length < 1000000 ∧
  ∀ (F : Addr) (ys : List V) (ds' : List D) (H' : Hp), ds'.Perm ds → H' F = some (.lst ys) → Rps K G ys ds' → H F = none → Dr H' p l c → FrD p l H H' → Q (.ref F) H'
def spBegun (K : PySem.W.Frag) : Sp := fun vs H Q _ => ∃ (a : Addr) (ns : List Int), vs = [.ref a] ∧ SqL K H a (ns.map V.int) ∧ ns.length ≤ 63 ∧ ∀ (p l c : Addr) (H' : Hp), Same H H' → H p = none → H l = none → Dr H' p l c → Q (.ref p) H'
/-! ### plain statements ahead of others -/
section
variable {K : PySem.W.Frag} {a b c d : Sx} {D : Ends} {u : TS} {σ : L2.St} {H : Hp} {N N' : L2.St → Hp → Prop}
theorem tS_nx (h : tS K a { D with nx := N } σ H) (w : ∀ σ H, N σ H → N' σ H) : tS K a { D with nx := N' } σ H := by
  obtain ⟨H0, G0, env, G, r, rs, e, k⟩ := h
  refine ⟨H0, G0, env, G, r, rs, e, ?_⟩
  cases r with
  | nx e2 => intro σ2 G2 H2 r2 s2; exact w _ _ (k σ2 G2 H2 r2 s2)
  | rt d => exact k
  | bk e2 => exact k
  | ct e2 => exact k
theorem seq2 (h : tS K (sSeq a b) { D with nx := u D } σ H) : tSeq (tS K a) (tSeq (tS K b) u) D σ H := stepSeq h
theorem seq3 (h : tS K (sSeq a (sSeq b c)) { D with nx := u D } σ H) : tSeq (tS K a) (tSeq (tS K b) (tSeq (tS K c) u)) D σ H :=
  tS_nx (D := D) (N := fun σ H => tS K (sSeq b c) { D with nx := u D } σ H) (stepSeq h) fun _ _ q => seq2 q
theorem seq4 (h : tS K (sSeq a (sSeq b (sSeq c d))) { D with nx := u D } σ H) : tSeq (tS K a) (tSeq (tS K b) (tSeq (tS K c) (tSeq (tS K d) u))) D σ H :=
  tS_nx (D := D) (N := fun σ H => tS K (sSeq b (sSeq c d)) { D with nx := u D } σ H) (stepSeq h) fun _ _ q => seq3 q
end
/-! ### a law's own body: calls of plain defs, plain expressions amid it -/
section
variable {X : Cx} {k j : Nat} {F : List D → Option D} {x : Str} {p pos : Pos} {e : Expr} {es : List Expr} {t : TA}
theorem pe_cl (c : Cl X.prog X.w X.K X.mg X.base k x F) (hr : Room j X.A) (hj : k ≤ j) (hg : Gl X x) (ha : PA X (e :: es) t) (hdb : (x == ("__debug__" : Str)) = false := by decide)
    (he : starEach (e :: es) X.env = (false, eval e X.env) :: starEach es X.env := by rfl) (hpl : (backTo pos (starEach es X.env)).any (·.1) = false := by rfl) : PE X (.Call (.Name x p) (e :: es) [] pos) (tCall (spF X.K F) [] E0 t) := by
  obtain ⟨f, fd, ps, h1, h2, h3, h4⟩ := c.ex
  exact pe_call h1 (hr.mono hj) hg h2 h3 h4 .nil pass0 ha hdb he hpl
theorem pe_cl0 (c : Cl X.prog X.w X.K X.mg X.base k x F) (hr : Room j X.A) (hj : k ≤ j) (hlen : F [] ≠ none) (hg : Gl X x) (hdb : (x == ("__debug__" : Str)) = false := by decide) : PE X (.Call (.Name x p) [] [] pos) (tCall (spF X.K F) [] E0 tNil) := by
  obtain ⟨f, fd, ps, h1, h2, h3, h4⟩ := c.ex
  obtain ⟨d, hd⟩ := Option.ne_none_iff_exists'.mp hlen
  have hz : ps = [] := by
    have z := h1.len [] (fun _ => none) (fun _ _ => True) (fun _ _ _ => True) ⟨fun _ => none, [], d, fun _ _ q => q, .nil, hd, fun _ _ _ _ _ => trivial⟩
    exact List.length_eq_zero_iff.mp z.symm
  subst hz
  exact pe_call0 h1 (hr.mono hj) hg h2 h3 h4 .nil pass0 hdb
end
/-- the slots that hold data -/
inductive Slots (K : PySem.W.Frag) (G : Hp) : Env → L2.St → Prop where
  | nil : Slots K G [] []
  | no {o : Option V} {env : Env} {σ : L2.St} : Slots K G env σ → Slots K G (none :: env) (o :: σ)
  | yes {v : V} {d : D} {env : Env} {σ : L2.St} : Rp K G v d → Slots K G env σ → Slots K G (some (false, d) :: env) (some v :: σ)
theorem Slots.len {K : PySem.W.Frag} {G : Hp} : ∀ {env : Env} {σ : L2.St}, Slots K G env σ → env.length = σ.length
  | _, _, .nil => rfl
  | _, _, .no h => by simp [Slots.len h]
  | _, _, .yes _ h => by simp [Slots.len h]
theorem Slots.at {K : PySem.W.Frag} {G : Hp} : ∀ {env : Env} {σ : L2.St} {i : Nat} {q : Bool × D}, Slots K G env σ → env[i]? = some (some q) → q.1 = false ∧ ∃ v, σ[i]? = some (some v) ∧ Rp K G v q.2
  | _, _, _, _, .nil, e => by simp at e
  | _, _, 0, _, .no h, e => by simp at e
  | _, _, i + 1, _, .no h, e => by
    obtain ⟨h1, v, h2, h3⟩ := Slots.at (i := i) h (by simpa using e)
    exact ⟨h1, v, by simpa using h2, h3⟩
  | _, _, 0, _, .yes r h, e => by simp at e; subst e; exact ⟨rfl, _, rfl, r⟩
  | _, _, i + 1, _, .yes r h, e => by
    obtain ⟨h1, v, h2, h3⟩ := Slots.at (i := i) h (by simpa using e)
    exact ⟨h1, v, by simpa using h2, h3⟩
theorem Slots.rl {K : PySem.W.Frag} {G H : Hp} {env : Env} {σ : L2.St} (h : Slots K G env σ) (e : Same G H) : Rl K (fun _ => True) env σ G H where
  gh := e
  len := h.len
  fr := fun i d q => let ⟨_, v, h1, h2⟩ := h.at q; ⟨v, h1, h2⟩
  ow := fun i d q => let ⟨z, _⟩ := h.at q; by cases z
  dj := fun i j d1 d2 a q => let ⟨z, _⟩ := h.at q; by cases z
/-- what may be shown -/
def rpP (p : PyData) : Bool := p.showable && (!p.hasDict && (decide (p.depth ≤ 40) && decide (p.shown.length ≤ 100000)))
def rpD (d : D) : Bool := match dpy d with
  | some p => rpP p
  | none => false
theorem repr_of {K : PySem.W.Frag} {H : Hp} {a : Addr} {p : PyData} {Q : VK} (hD : Dp K H (.ref a) p) (h : rpP p = true) (q : Q (.str p.shown) H) : rRepr K [.ref a] H Q := by
  obtain ⟨h1, h⟩ := Bool.and_eq_true_iff.mp h
  obtain ⟨h2, h⟩ := Bool.and_eq_true_iff.mp h
  obtain ⟨h3, h4⟩ := Bool.and_eq_true_iff.mp h
  exact ⟨a, p, rfl, hD, h1, by simpa using h2, of_decide_eq_true h3, Nat.le_trans (of_decide_eq_true h4) (by decide), q⟩
theorem rpD_of {d : D} (h : rpD d = true) : ∃ p, dpy d = some p ∧ rpP p = true := by
  unfold rpD at h
  cases e : dpy d with
  | none => rw [e] at h; cases h
  | some p => rw [e] at h; exact ⟨p, rfl, h⟩
theorem ExtN_same {H H' : Hp} (e : Same H H') : LamX.ExtN H H' := fun b o q _ => e b o q
theorem Dr.ext {p l c : Addr} {H H' : Hp} (d : Dr H p l c) (e : LamX.ExtN H H') : Dr H' p l c := by
  obtain ⟨r, t, ls, cs, h1, h2, h3⟩ := d.ex
  exact ⟨⟨r, t, ls, cs, e _ _ h1 (fun _ z => by cases z), e _ _ h2 (fun _ z => by cases z), e _ _ h3 (fun _ z => by cases z)⟩, d.ne⟩
theorem cutV_mem {xs : List V} {lo hi : Option Int} {x : V} (h : x ∈ cutV xs lo hi) : x ∈ xs := by
  unfold cutV at h
  exact List.mem_of_mem_drop (List.mem_of_mem_take h)
theorem Rps.mem {K : PySem.W.Frag} {G : Hp} {vs : List V} {ds : List D} {v : V} (r : Rps K G vs ds) (h : v ∈ vs) : ∃ d ∈ ds, Rp K G v d := by
  obtain ⟨i, hi⟩ := List.getElem?_of_mem h
  obtain ⟨d, h1, h2⟩ := r.get' hi
  exact ⟨d, List.mem_of_getElem? h1, h2⟩
end Sh
end Part_ShL

section Part_ShK
set_option maxRecDepth 100000
set_option maxHeartbeats 2000000
/-! ShK: the head's facts: data that the module holds; defs. -/
namespace Sh
open PySem L2
mutual
/-- the value stands for the data, in the written part -/
def kdOk (K : PySem.W.Frag) : D → Value → Bool
  | .int i, .int j _ => decide (i = j)
  | .str x, .str y _ => decide (x = y)
  | .tup ds, .ref a => (match K.lookup a with
    | some ⟨.type c, _, .seq its _, _⟩ => decide (c = "tuple") && (decide (its.size ≤ 1000) && kdsOk K ds its.toList)
    | _ => false)
  | _, _ => false
def kdsOk (K : PySem.W.Frag) : List D → List Value → Bool
  | [], [] => true
  | d :: ds, u :: us => kdOk K d u && kdsOk K ds us
  | _, _ => false
end
mutual
theorem kdOk_ok {K : PySem.W.Frag} : ∀ (d : D) (u : Value), kdOk K d u = true → ∃ v, L2.RelV v u ∧ ∀ G, Rp K G v d
  | .int i, u, h => by
    cases u with
    | int j t =>
      have e : i = j := of_decide_eq_true h
      subst e
      exact ⟨.int i, ⟨t, rfl⟩, fun _ => .int i⟩
    | _ => cases h
  | .str x, u, h => by
    cases u with
    | str y t =>
      have e : x = y := of_decide_eq_true h
      subst e
      exact ⟨.str x, ⟨t, rfl⟩, fun _ => .str x⟩
    | _ => cases h
  | .tup ds, u, h => by
    cases u with
    | ref a =>
      have h2 : (match K.lookup a with
        | some ⟨.type c, _, .seq its _, _⟩ => decide (c = "tuple") && (decide (its.size ≤ 1000) && kdsOk K ds its.toList)
        | _ => false) = true := h
      cases e : K.lookup a with
      | none => rw [e] at h2; cases h2
      | some o =>
        rw [e] at h2
        obtain ⟨oc, od, dt, sl⟩ := o
        cases oc with
        | type c =>
          cases dt with
          | seq its n =>
            obtain ⟨h3, h4⟩ := Bool.and_eq_true_iff.mp h2
            obtain ⟨h5, h6⟩ := Bool.and_eq_true_iff.mp h4
            obtain ⟨vs, r, q⟩ := kdsOk_ok ds its.toList h6
            have ec : c = "tuple" := of_decide_eq_true h3
            subst ec
            exact ⟨.ref a, rfl, fun G => .tup (.inr ⟨_, its, n, e, rfl, rfl, Nat.le_trans (of_decide_eq_true h5) (by decide), r⟩) (q G)⟩
          | _ => cases h2
        | _ => cases dt <;> cases h2
    | _ => cases h
  | .non, u, h => by cases u <;> cases h
  | .bl _, u, h => by cases u <;> cases h
  | .lst _, u, h => by cases u <;> cases h
  | .dct _, u, h => by cases u <;> cases h
  | .raw _, u, h => by cases u <;> cases h
  | .rng _ _, u, h => by cases u <;> cases h
theorem kdsOk_ok {K : PySem.W.Frag} : ∀ (ds : List D) (us : List Value), kdsOk K ds us = true → ∃ vs, L2.Vals vs us ∧ ∀ G, Rps K G vs ds
  | [], us, h => by
    cases us with
    | nil => exact ⟨[], .nil, fun _ => .nil⟩
    | cons u us => cases h
  | d :: ds, us, h => by
    cases us with
    | nil => cases h
    | cons u us =>
      obtain ⟨h1, h2⟩ := Bool.and_eq_true_iff.mp (show (kdOk K d u && kdsOk K ds us) = true from h)
      obtain ⟨v, r, q⟩ := kdOk_ok d u h1
      obtain ⟨vs, rs, qs⟩ := kdsOk_ok ds us h2
      exact ⟨v :: vs, .cons r rs, fun G => .cons (q G) (qs G)⟩
end
/-- a table of the module: text keys, data -/
def ktB (K : PySem.W.Frag) (a : Addr) (t : List (Str × D)) : Bool := t.all fun q => match PySem.W.nsIn K a q.1 with
  | some (some u) => kdOk K q.2 u
  | _ => false
theorem ktB_ok {K : PySem.W.Frag} {w : World} {a : Addr} {t : List (Str × D)} {es : Array DictEntry} {n : Nat} (h : ktB K a t = true) (D0 : KDict K w a es n) {q : Str × D} (hq : q ∈ t) : ∃ v, KDct K w a q.1 v ∧ ∀ G, Rp K G v q.2 := by
  have h1 := List.all_eq_true.mp h q hq
  cases e : PySem.W.nsIn K a q.1 with
  | none => rw [e] at h1; cases h1
  | some r =>
    rw [e] at h1
    cases r with
    | none => cases h1
    | some u =>
      obtain ⟨v, r, q⟩ := kdOk_ok _ u h1
      exact ⟨v, ⟨es, n, u, D0.at_, D0.lit, e, r⟩, q⟩
theorem fun_of {K : PySem.W.Frag} {x q : Str} {st : Stmt} {f : Addr} {fd : FuncData} (F : FunD K x q (defArgs st) (defBody st) (defScope st) [] [] f fd) : L2.Fun K x q st f fd := by
  obtain ⟨oc, od, dV, kV, doc, pm, an, cdv, ct, osl, rfl, lk, hcd, hD, hK⟩ := F.ex
  rcases hD with ⟨_, rfl⟩ | ⟨e, _⟩
  · exact ⟨⟨oc, od, kV, doc, pm, an, cdv, ct, osl, rfl, lk, hcd⟩, F.kp⟩
  · exact absurd rfl e
/-- what isinstance asks of an own exception's class, as a look -/
def excCB (K : PySem.W.Frag) (D : Addr) : Bool := decide (PySem.W.findIn K (.ref D) "__getattribute__" = some (some (.builtin "BaseException.__getattribute__"))) && (decide (PySem.W.findIn K (.ref D) "__getattr__" = some none) && (decide (PySem.W.subIn K (.ref D) (.type "BaseException") = some true) && (PySem.W.hasDictIn K D &&
  (decide (PySem.W.findIn K (.ref D) "__class__" = some (some (.builtin "object.__class__"))) && (decide (PySem.W.specialIn K (.builtin "object.__class__") "__get__" = some (some (.builtin "getset_descriptor.__get__"))) && (decide (PySem.W.takesIn K (.builtin "object.__class__") = some true) && decide (PySem.W.mroIn K D (.type "object") = some true)))))))
theorem excCB_ok {K : PySem.W.Frag} {D : Addr} (h : excCB K D = true) : ExcC K D := by
  obtain ⟨h1, h⟩ := Bool.and_eq_true_iff.mp h
  obtain ⟨h2, h⟩ := Bool.and_eq_true_iff.mp h
  obtain ⟨h3, h⟩ := Bool.and_eq_true_iff.mp h
  obtain ⟨h4, h⟩ := Bool.and_eq_true_iff.mp h
  obtain ⟨h5, h⟩ := Bool.and_eq_true_iff.mp h
  obtain ⟨h6, h⟩ := Bool.and_eq_true_iff.mp h
  obtain ⟨h7, h8⟩ := Bool.and_eq_true_iff.mp h
  exact ⟨of_decide_eq_true h1, of_decide_eq_true h2, of_decide_eq_true h3, h4, of_decide_eq_true h5, of_decide_eq_true h6, of_decide_eq_true h7, of_decide_eq_true h8⟩
def inCB (K : PySem.W.Frag) (C : Addr) : Bool := decide (PySem.W.findIn K (.ref C) "__class__" = some (some (.builtin "object.__class__"))) && (decide (PySem.W.specialIn K (.builtin "object.__class__") "__get__" = some (some (.builtin "getset_descriptor.__get__"))) && (decide (PySem.W.takesIn K (.builtin "object.__class__") = some true) && decide (PySem.W.mroIn K C (.type "object") = some true)))
end Sh
end Part_ShK

section Part_WA
set_option maxRecDepth 100000
set_option maxHeartbeats 2000000
/-! WA: plain Python that draws and raises. W: what may come of a piece (a tree of choices); wp: whatever is chosen, what comes is as wanted. Ct: what the draws may change. The judgements of ShB once more, over W. -/
namespace Sh
open PySem L2

/-- an exception: its class, its part (of a class with a field part) -/
structure Xn where
  C : Addr
  part : Option D
inductive W (α : Type) where
  | ret (a : α) | raise (x : Xn) | fail | any (P : D → Prop) (k : D → W α)
namespace W
def bind {α β : Type} : W α → (α → W β) → W β
  | ret a, f => f a
  | raise x, _ => raise x
  | fail, _ => fail
  | any P k, f => any P fun d => (k d).bind f
def wp {α : Type} : W α → (α → Prop) → (Xn → Prop) → Prop
  | ret a, Q, _ => Q a
  | raise x, _, E => E x
  | fail, _, _ => False
  | any P k, Q, E => ∀ d, P d → (k d).wp Q E
theorem wp_mono {α : Type} {Q Q' : α → Prop} {E E' : Xn → Prop} : ∀ {m : W α}, m.wp Q E → (∀ a, Q a → Q' a) → (∀ x, E x → E' x) → m.wp Q' E'
  | ret a, h, q, _ => q a h
  | raise x, h, _, e => e x h
  | fail, h, _, _ => h.elim
  | any P k, h, q, e => fun d hd => wp_mono (h d hd) q e
theorem wp_bind {α β : Type} {f : α → W β} {Q : β → Prop} {E : Xn → Prop} : ∀ {m : W α}, (m.bind f).wp Q E ↔ m.wp (fun a => (f a).wp Q E) E
  | ret a => Iff.rfl
  | raise x => Iff.rfl
  | fail => Iff.rfl
  | any P k => ⟨fun h d hd => wp_bind.mp (h d hd), fun h d hd => wp_bind.mpr (h d hd)⟩
def ofO {α : Type} : Option α → W α
  | some a => ret a
  | none => fail
theorem wp_ofO {α : Type} {o : Option α} {Q : α → Prop} {E : Xn → Prop} : (ofO o).wp Q E ↔ ∃ a, o = some a ∧ Q a := by
  cases o with
  | none => exact ⟨fun h => h.elim, fun ⟨_, h, _⟩ => by cases h⟩
  | some a => exact ⟨fun h => ⟨a, rfl, h⟩, fun ⟨_, h, q⟩ => by cases h; exact q⟩
def map {α β : Type} (f : α → β) (m : W α) : W β := m.bind fun a => ret (f a)
/-- where nothing may be raised -/
def calm {α : Type} : W α → W α
  | ret a => ret a
  | raise _ => fail
  | fail => fail
  | any P k => any P fun d => (k d).calm
theorem wp_calm {α : Type} {Q : α → Prop} {E : Xn → Prop} : ∀ {m : W α}, m.calm.wp Q E ↔ m.wp Q (fun _ => False)
  | ret a => Iff.rfl
  | raise x => Iff.rfl
  | fail => Iff.rfl
  | any P k => ⟨fun h d hd => wp_calm.mp (h d hd), fun h d hd => wp_calm.mpr (h d hd)⟩
end W

/-- an object of the kind that a def may own and write -/
def MutO (o : HO) : Prop := (∃ xs, o = .lst xs) ∨ (∃ ys, o = .dT ys) ∨ ∃ C dx fs, o = .ins C dx fs
/-- what may change: S the objects that a draw (or the making of a lambda) may change, F those that matter to them, I what of them always holds -/
structure Ct where
  S : Addr → Prop
  F : Addr → Prop
  I : Hp → Prop
  sf : ∀ a, S a → F a
  st : ∀ {H H' : Hp}, (∀ b o, H b = some o → (F b ∨ ¬ MutO o) → H' b = some o) → I H → I H'

/-- something is known there, and it is no table -/
def Nn (H : Hp) (a : Addr) : Prop := ∃ u, H a = some u ∧ NTb u
theorem nn_none {H : Hp} {a : Addr} (h : H a = none) : ¬ Nn H a := fun ⟨u, e, _⟩ => by rw [h] at e; cases e
/-- the heap goes on -/
structure GrW (c : Ct) (G H G' H' : Hp) : Prop where
  h : ∀ b o, H b = some o → ¬ c.S b → NTb o → H' b = some o
  g : Same G G'
  gh : Same G' H'
  nw : ∀ a o, G' a = some o → G a = some o ∨ ¬ Nn H a
  nl : ∀ a, Nn H a → Nn H' a
  i : c.I H → c.I H'
  nt : NoT G → NoT G'
structure FrW (c : Ct) (H H' : Hp) : Prop where
  h : ∀ b o, H b = some o → ¬ c.S b → NTb o → H' b = some o
  nl : ∀ a, Nn H a → Nn H' a
  i : c.I H → c.I H'
section
variable {c : Ct} {G H G' H' G1 H1 : Hp}
theorem GrW.fr (g : GrW c G H G' H') : FrW c H H' := ⟨g.h, g.nl, g.i⟩
theorem FrW.refl : FrW c H H := ⟨fun _ _ e _ _ => e, fun _ n => n, fun i => i⟩
theorem FrW.trans (a : FrW c H H1) (b : FrW c H1 H') : FrW c H H' := ⟨fun x o e n t => b.h x o (a.h x o e n t) n t, fun x n => b.nl x (a.nl x n), fun i => b.i (a.i i)⟩
theorem nl_of (e : Same H H') : ∀ a, Nn H a → Nn H' a := fun a ⟨u, e1, n⟩ => ⟨u, e _ _ e1, n⟩
theorem FrW.of (e : Same H H') : FrW c H H' := ⟨fun _ _ q _ _ => e _ _ q, nl_of e, c.st fun b o q _ => e b o q⟩
/-- a plain step: what it made is known but for tables -/
theorem Gr.w (g : Gr G H G' H') (n : NoT G) : GrW c G H (untbl G') H' :=
  ⟨fun b o e _ _ => g.h b o e, n.sub g.g, same_untbl g.gh, fun a o q => (g.nw a o (of_untbl q).1).imp id nn_none, nl_of g.h, c.st fun b o q _ => g.h b o q, fun _ => noT_untbl⟩
/-- .. where no table is made -/
theorem Gr.w' (g : Gr G H G' H') (t : NoT G → NoT G') : GrW c G H G' H' := ⟨fun b o e _ _ => g.h b o e, g.g, g.gh, fun a o q => (g.nw a o q).imp id nn_none, nl_of g.h, c.st fun b o q _ => g.h b o q, t⟩
theorem GrW.new {p : Addr} {o : HO} (e : Same G H) (hp : H p = none) (t : NTb o) : GrW c G H (upd G p o) (upd H p o) := (Gr.new e hp).w' fun n => n.upd t
theorem GrW.refl (e : Same G H) : GrW c G H G H := (Gr.refl e).w' fun n => n
theorem GrW.trans (a : GrW c G H G1 H1) (b : GrW c G1 H1 G' H') : GrW c G H G' H' :=
  ⟨fun x o e n t => b.h x o (a.h x o e n t) n t, a.g.trans b.g, b.gh, fun x o q => by
    rcases b.nw x o q with q | q
    · exact a.nw x o q
    · exact .inr fun z => q (a.nl x z), fun x n => b.nl x (a.nl x n), fun i => b.i (a.i i), fun n => b.nt (a.nt n)⟩
theorem GrW.non (g : GrW c G H G' H') {x : Addr} (hg : G x = none) (hh : Nn H x) : G' x = none := by
  cases e : G' x with
  | none => rfl
  | some o =>
    rcases g.nw x o e with z | z
    · rw [hg] at z; cases z
    · exact absurd hh z
theorem FrW.free (f : FrW c H H') {a : Addr} (n : ¬ Nn H' a) : ¬ Nn H a := fun z => n (f.nl a z)
end
/-- the slots, where something is drawn -/
structure RlW (K : PySem.W.Frag) (c : Ct) (O : Addr → Prop) (env : Env) (σ : L2.St) (G H : Hp) : Prop where
  rl : Rl K O env σ G H
  i : c.I H
  sg : ∀ a, c.S a → G a = none
  fg : ∀ a, c.F a → Nn H a
  so : ∀ a, O a → ¬ c.F a
  nt : NoT G
section
variable {K : PySem.W.Frag} {c : Ct} {O : Addr → Prop} {env : Env} {σ : L2.St} {G H G' H' : Hp}
theorem Own.growW {a : Addr} : ∀ {d : D}, Own K G H a d → GrW c G H G' H' → ¬ c.S a → Own K G' H' a d
  | .lst ds, ⟨xs, h1, h2⟩, g, n => ⟨xs, g.h _ _ h1 n nt_lst, h2.mono g.g ds xs⟩
  | .dct _, ⟨ys, h1, h2⟩, g, n => ⟨ys, g.h _ _ h1 n nt_dT, h2.mono g.g⟩
theorem Own.nn {a : Addr} : ∀ {d : D}, Own K G H a d → Nn H a
  | .lst _, ⟨xs, h, _⟩ => ⟨_, h, nt_lst⟩
  | .dct _, ⟨ys, h, _⟩ => ⟨_, h, nt_dT⟩
theorem Rl.growW (r : Rl K O env σ G H) (so : ∀ a, O a → ¬ c.F a) (g : GrW c G H G' H') : Rl K O env σ G' H' where
  gh := g.gh
  len := r.len
  fr := fun i d e => let ⟨v, h1, h2⟩ := r.fr i d e; ⟨v, h1, h2.mono g.g d v⟩
  ow := fun i d e => by
    obtain ⟨a, h1, h2, h3, h4⟩ := r.ow i d e
    refine ⟨a, h1, ?_, h3, h4.growW g fun z => so a h3 (c.sf a z)⟩
    exact g.non h2 h4.nn
  dj := r.dj
theorem RlW.grow (r : RlW K c O env σ G H) (g : GrW c G H G' H') : RlW K c O env σ G' H' :=
  ⟨r.rl.growW r.so g, g.i r.i, fun a s => g.non (r.sg a s) (r.fg a (c.sf a s)), fun a f => g.nl a (r.fg a f), r.so, g.nt r.nt⟩
/-- an exception, in a heap -/
def XcO (K : PySem.W.Frag) (H : Hp) (x : Xn) (cls : Value) (d : Option Addr) : Prop := cls = .ref x.C ∧ match x.part with
  | none => d = none
  | some p => ∃ dx v, d = some dx ∧ H dx = some (.xd [("part", v)]) ∧ ∀ G, Rp K G v p
/-- what is wanted of an exception -/
def XcK (K : PySem.W.Frag) (c : Ct) (H : Hp) (E : XK) : Xn → Prop := fun x => ∀ cls d H', FrW c H H' → XcO K H' x cls d → (∀ dx, d = some dx → ¬ Nn H dx) → E cls d H'
theorem XcK.mono {E : XK} {x : Xn} (h : XcK K c H E x) (f : FrW c H H') : XcK K c H' E x := fun cls d H2 f2 o nd => h cls d H2 (f.trans f2) o fun dx e => f.free (nd dx e)
end

/-! ### judgements -/
abbrev Ew := Env → W D
abbrev Tw := Env → W Bool
abbrev Aw := Env → W (List D)
def tEw (K : PySem.W.Frag) (c : Ct) (E : XK) (m : Ew) : TE := fun σ H Q => ∃ (O : Addr → Prop) (env : Env) (G : Hp), RlW K c O env σ G H ∧ (m env).wp (fun d => ∀ v G' H', GrW c G H G' H' → Rp K G' v d → Q v H') (XcK K c H E)
def tPw (K : PySem.W.Frag) (c : Ct) (E : XK) (m : Ew) : TE := fun σ H Q => ∃ (O : Addr → Prop) (env : Env) (G : Hp), RlW K c O env σ G H ∧ (m env).wp (fun d => ∀ v G' H', GrW c G H G' H' → Rp K H' v d → Q v H') (XcK K c H E)
def tTw (K : PySem.W.Frag) (c : Ct) (E : XK) (m : Tw) : TT := fun σ H Q => ∃ (O : Addr → Prop) (env : Env) (G : Hp), RlW K c O env σ G H ∧ (m env).wp (fun b => ∀ G' H', GrW c G H G' H' → Q b H') (XcK K c H E)
def tAw (K : PySem.W.Frag) (c : Ct) (E : XK) (m : Aw) : TA := fun σ H Q => ∃ (O : Addr → Prop) (env : Env) (G : Hp), RlW K c O env σ G H ∧ (m env).wp (fun ds => ∀ vs G' H', GrW c G H G' H' → Rps K G' vs ds → Q vs H') (XcK K c H E)
def OkEw (X : Cx) (c : Ct) (E : XK) (e : Expr) (m : Ew) : Prop := PE X e (tEw X.K c E m)
def OkPw (X : Cx) (c : Ct) (E : XK) (e : Expr) (m : Ew) : Prop := PE X e (tPw X.K c E m)
def OkTw (X : Cx) (c : Ct) (E : XK) (e : Expr) (m : Tw) : Prop := PT X e (tTw X.K c E m)
def OkWw (X : Cx) (c : Ct) (E : XK) (e : Expr) (m : Tw) : Prop := PW X e (tTw X.K c E m)
def OkAw (X : Cx) (c : Ct) (E : XK) (es : List Expr) (m : Aw) : Prop := PA X es (tAw X.K c E m)
section
variable {X : Cx} {c : Ct} {E : XK} {e : Expr} {es : List Expr}
/-- plain pieces -/
def eL (m : Ex) : Ew := fun env => W.ofO (m env)
def tL (m : Tx) : Tw := fun env => W.ofO (m env)
def aL (m : Ax) : Aw := fun env => W.ofO (m env)
theorem OkE.w {m : Ex} (h : OkE X e m) : OkEw X c E e (eL m) := weakE h fun σ H Q ⟨O, env, G, rl, w⟩ => by
  obtain ⟨d, e1, k⟩ := W.wp_ofO.mp w
  exact ⟨O, env, G, d, rl.rl, e1, fun v G' H' g r => k v _ H' (g.w rl.nt) (r.untbl d v)⟩
theorem OkP.w {m : Ex} (h : OkP X e m) : OkPw X c E e (eL m) := weakE h fun σ H Q ⟨O, env, G, rl, w⟩ => by
  obtain ⟨d, e1, k⟩ := W.wp_ofO.mp w
  exact ⟨O, env, G, d, rl.rl, e1, fun v G' H' g r => k v _ H' (g.w rl.nt) r⟩
theorem OkT.w {m : Tx} (h : OkT X e m) : OkTw X c E e (tL m) := weakT h fun σ H Q ⟨O, env, G, rl, w⟩ => by
  obtain ⟨d, e1, k⟩ := W.wp_ofO.mp w
  exact ⟨O, env, G, d, rl.rl, e1, fun G' H' g => k _ H' (g.w rl.nt)⟩
theorem OkA.w {m : Ax} (h : OkA X es m) : OkAw X c E es (aL m) := weakA h fun σ H Q ⟨O, env, G, rl, w⟩ => by
  obtain ⟨d, e1, k⟩ := W.wp_ofO.mp w
  exact ⟨O, env, G, d, rl.rl, e1, fun v G' H' g r => k v _ H' (g.w rl.nt) (r.untbl d v)⟩
theorem OkEw.p {m : Ew} (h : OkEw X c E e m) : OkPw X c E e m := weakE h fun σ H Q ⟨O, env, G, rl, w⟩ => ⟨O, env, G, rl, W.wp_mono w (fun d k v G' H' g q => k v G' H' g (q.mono g.gh d v)) fun _ x => x⟩
end

/-! ### two operands -/
def wBin (sem : D → D → Option D) (a b : Ew) : Ew := fun env => (a env).bind fun x => (b env).bind fun y => W.ofO (sem x y)
def wBinT (sem : D → D → Option D) (a b : Ew) : Tw := fun env => (a env).bind fun x => (b env).bind fun y => match sem x y with
  | some (.bl k) => .ret k
  | _ => .fail
section
variable {X : Cx} {c : Ct} {E : XK} {a b : Expr} {ma mb : Ew} {r : R2} {sem : D → D → Option D} {pos : Pos}
theorem okw_bin {op : Operator} (ho : OpR X (binaryOp op) r) (hs : Sem2 X.K r sem) (ha : OkEw X c E a ma) (hb : OkEw X c E b mb) : OkEw X c E (.BinOp a op b pos) (wBin sem ma mb) :=
  weakE (pe_op ho ha hb) fun σ H Q ⟨O, env, G, rl, w⟩ => by
    refine ⟨O, env, G, rl, W.wp_mono (W.wp_bind.mp w) (fun x hx v G1 H1 g1 r1 => ⟨O, env, G1, rl.grow g1, W.wp_mono (W.wp_bind.mp hx) (fun y hy u G2 H2 g2 r2 => ?_) fun _ z => z.mono g1.fr⟩) fun _ z => z⟩
    obtain ⟨d, e3, k⟩ := W.wp_ofO.mp hy
    exact hs v u x y d G2 H2 Q g2.gh (r1.mono g2.g x v) r2 e3 fun w G3 H3 g3 r3 => k w _ H3 ((g1.trans g2).trans (g3.w (g2.nt (g1.nt rl.nt)))) (r3.untbl d w)
/-- the first one is kept, the second one is only looked at -/
theorem stepEPw (hs : SemP X.K r sem) {σ : L2.St} {H : Hp} {Q : VK} {O : Addr → Prop} {env : Env} {G : Hp} {F : D → Prop} (rl : RlW X.K c O env σ G H)
    (w : (ma env).wp (fun x => (mb env).wp (fun y => ∃ d, sem x y = some d ∧ F d) (XcK X.K c H E)) (XcK X.K c H E)) (k : ∀ d, F d → ∀ v G' H', GrW c G H G' H' → Rp X.K G' v d → Q v H') : tOp r (tEw X.K c E ma) (tPw X.K c E mb) σ H Q := by
  refine ⟨O, env, G, rl, W.wp_mono w (fun x hx v G1 H1 g1 r1 => ⟨O, env, G1, rl.grow g1, W.wp_mono hx (fun y ⟨d, e3, hF⟩ u G2 H2 g2 r2 => ?_) fun _ z => z.mono g1.fr⟩) fun _ z => z⟩
  exact hs v u x y d H2 Q ((r1.mono g2.g x v).mono g2.gh x v) r2 e3 fun w hw => k d hF w G2 H2 (g1.trans g2) (hw G2)
/-- the first one is only looked at: the second one is plain -/
theorem stepPPw {mp : Ex} (hs : SemP X.K r sem) {σ : L2.St} {H : Hp} {Q : VK} {O : Addr → Prop} {env : Env} {G : Hp} {F : D → Prop} (rl : RlW X.K c O env σ G H)
    (w : (ma env).wp (fun x => ∃ y, mp env = some y ∧ ∃ d, sem x y = some d ∧ F d) (XcK X.K c H E)) (k : ∀ d, F d → ∀ v G' H', GrW c G H G' H' → Rp X.K G' v d → Q v H') : tOp r (tPw X.K c E ma) (tP X.K mp) σ H Q := by
  refine ⟨O, env, G, rl, W.wp_mono w (fun x ⟨y, e2, d, e3, hF⟩ v G1 H1 g1 r1 => ⟨O, env, G1, y, (rl.grow g1).rl, e2, fun u G2 H2 g2 r2 => ?_⟩) fun _ z => z⟩
  exact hs v u x y d H2 Q (r1.mono g2.h x v) r2 e3 fun w hw => k d hF w _ H2 (g1.trans (g2.w (g1.nt rl.nt))) (hw _)
theorem binO {mp : Ex} {env : Env} {x : D} {F : D → Prop} {EX : Xn → Prop} (h : ((eL mp env).bind fun y => W.ofO (sem x y)).wp F EX) : ∃ y, mp env = some y ∧ ∃ d, sem x y = some d ∧ F d := by
  obtain ⟨y, e, h⟩ := W.wp_ofO.mp (W.wp_bind.mp h)
  exact ⟨y, e, W.wp_ofO.mp h⟩
theorem okw_cmp {op : CmpOp} (ho : OpR X (compareOp op) r) (hs : SemP X.K r sem) (ha : OkEw X c E a ma) (hb : OkPw X c E b mb) (hm : behindInMarks op b = false := by first | exact nomark _ | with_unfolding_all rfl) : OkEw X c E (.Compare a [op] [b] pos) (wBin sem ma mb) :=
  weakE (pe_cmpR ho ha hb hm) fun σ H Q ⟨O, env, G, rl, w⟩ =>
    stepEPw (F := fun d => ∀ v G' H', GrW c G H G' H' → Rp X.K G' v d → Q v H') hs rl (W.wp_mono (W.wp_bind.mp w) (fun x hx => W.wp_mono (W.wp_bind.mp hx) (fun y hy => W.wp_ofO.mp hy) fun _ z => z) fun _ z => z) fun d h => h
theorem okw_cmpP {mp : Ex} {op : CmpOp} (ho : OpR X (compareOp op) r) (hs : SemP X.K r sem) (ha : OkPw X c E a ma) (hb : OkP X b mp) (hm : behindInMarks op b = false := by first | exact nomark _ | with_unfolding_all rfl) : OkEw X c E (.Compare a [op] [b] pos) (wBin sem ma (eL mp)) :=
  weakE (pe_cmpR ho ha hb hm) fun σ H Q ⟨O, env, G, rl, w⟩ =>
    stepPPw (F := fun d => ∀ v G' H', GrW c G H G' H' → Rp X.K G' v d → Q v H') hs rl (W.wp_mono (W.wp_bind.mp w) (fun x hx => binO hx) fun _ z => z) fun d h => h
theorem binT_of {m : Option D} {F : Bool → Prop} {EX : Xn → Prop} (h : (match m with | some (.bl k) => W.ret k | _ => W.fail : W Bool).wp F EX) : ∃ d, m = some d ∧ ∃ k, d = .bl k ∧ F k := by
  cases m with
  | none => exact h.elim
  | some d =>
    cases d with
    | bl k => exact ⟨.bl k, rfl, k, rfl, h⟩
    | _ => exact h.elim
theorem okw_cmpT {op : CmpOp} (ho : OpR X (compareOp op) r) (hs : SemP X.K r sem) (ha : OkEw X c E a ma) (hb : OkPw X c E b mb) (hm : behindInMarks op b = false := by first | exact nomark _ | with_unfolding_all rfl) : OkTw X c E (.Compare a [op] [b] pos) (wBinT sem ma mb) :=
  weakT (pt_cmpR ho ha hb hm) fun σ H Q ⟨O, env, G, rl, w⟩ =>
    stepEPw (Q := fun x H' => ∃ k, x = .bl k ∧ Q k H') (F := fun d => ∃ k, d = .bl k ∧ ∀ G' H', GrW c G H G' H' → Q k H') hs rl (W.wp_mono (W.wp_bind.mp w) (fun x hx => W.wp_mono (W.wp_bind.mp hx) (fun y hy => binT_of hy) fun _ z => z) fun _ z => z)
      fun d ⟨k, e, h⟩ v G' H' g q => by
        subst e
        cases q
        exact ⟨k, rfl, h G' H' g⟩
theorem okw_cmpTP {mp : Ex} {op : CmpOp} (ho : OpR X (compareOp op) r) (hs : SemP X.K r sem) (ha : OkPw X c E a ma) (hb : OkP X b mp) (hm : behindInMarks op b = false := by first | exact nomark _ | with_unfolding_all rfl) : OkTw X c E (.Compare a [op] [b] pos) (wBinT sem ma (eL mp)) :=
  weakT (pt_cmpR ho ha hb hm) fun σ H Q ⟨O, env, G, rl, w⟩ =>
    stepPPw (Q := fun x H' => ∃ k, x = .bl k ∧ Q k H') (F := fun d => ∃ k, d = .bl k ∧ ∀ G' H', GrW c G H G' H' → Q k H') hs rl (W.wp_mono (W.wp_bind.mp w) (fun x hx => by
      obtain ⟨y, e, h⟩ := W.wp_ofO.mp (W.wp_bind.mp hx)
      exact ⟨y, e, binT_of h⟩) fun _ z => z)
      fun d ⟨k, e, h⟩ v G' H' g q => by
        subst e
        cases q
        exact ⟨k, rfl, h G' H' g⟩
end

/-! ### tests -/
def wOf (m : Ew) : Tw := fun env => (m env).bind fun d => match d with
  | .bl k => .ret k
  | _ => .fail
def wNotT (m : Tw) : Tw := fun env => (m env).bind fun k => .ret (!k)
def wAndT (a b : Tw) : Tw := fun env => (a env).bind fun x => if x then b env else .ret false
def wOrT (a b : Tw) : Tw := fun env => (a env).bind fun x => if x then .ret true else b env
def wIfE (t : Tw) (a b : Ew) : Ew := fun env => (t env).bind fun x => if x then a env else b env
def wNotE (m : Ew) : Ew := fun env => (wOf m env).bind fun k => .ret (.bl (!k))
def wAndE (a b : Ew) : Ew := fun env => (wOf a env).bind fun x => if x then b env else .ret (.bl false)
def wOrE (a b : Ew) : Ew := fun env => (wOf a env).bind fun x => if x then .ret (.bl true) else b env
theorem wOf_wp {m : Ew} {env : Env} {F : Bool → Prop} {EX : Xn → Prop} (h : (wOf m env).wp F EX) : (m env).wp (fun d => ∃ k, d = .bl k ∧ F k) EX :=
  W.wp_mono (W.wp_bind.mp h) (fun d hd => by
    cases d with
    | bl k => exact ⟨k, rfl, hd⟩
    | _ => exact hd.elim) fun _ z => z
section
variable {X : Cx} {c : Ct} {E : XK} {a b tx : Expr} {rest : List Expr} {ma mb : Ew} {ta tb : Tw} {pos : Pos}
theorem okw_test (ha : OkEw X c E a ma) (he : ∀ whole, isTrue a X.env whole = (do let v ← whole; standAt a.pos; holding [v] (truthy v)) := by intro _; rfl) : OkTw X c E a (wOf ma) :=
  weakT (pt_val ha he) fun σ H Q ⟨O, env, G, rl, w⟩ => ⟨O, env, G, rl, W.wp_mono (wOf_wp w) (fun d ⟨k, e, h⟩ v G' H' g q => by
    subst e
    cases q
    exact ⟨k, rfl, h G' H' g⟩) fun _ z => z⟩
theorem okw_notT (ha : OkTw X c E a ta) : OkTw X c E (.UnaryOp .Not a pos) (wNotT ta) :=
  weakT (pt_not ha) fun σ H Q ⟨O, env, G, rl, w⟩ => ⟨O, env, G, rl, W.wp_mono (W.wp_bind.mp w) (fun k h G' H' g => h G' H' g) fun _ z => z⟩
theorem OkWw.t {e : Expr} {m : Tw} (h : OkWw X c E e m) : OkTw X c E e m := PW.pt h
theorem okw_and1 (ha : OkTw X c E a ta) : OkWw X c E (.BoolOp .And [a] pos) ta := pw_and1 ha
theorem okw_or1 (ha : OkTw X c E a ta) : OkWw X c E (.BoolOp .Or [a] pos) ta := pw_or1 ha
theorem okw_andT (ha : OkTw X c E a ta) (hb : OkWw X c E (.BoolOp .And (b :: rest) pos) tb) : OkWw X c E (.BoolOp .And (a :: b :: rest) pos) (wAndT ta tb) :=
  weakW (pw_and ha hb) fun σ H Q ⟨O, env, G, rl, w⟩ => by
    refine ⟨O, env, G, rl, W.wp_mono (W.wp_bind.mp w) (fun x hx G' H' g => ?_) fun _ z => z⟩
    cases x with
    | true => exact ⟨O, env, G', rl.grow g, W.wp_mono hx (fun k h G2 H2 g2 => h G2 H2 (g.trans g2)) fun _ z => z.mono g.fr⟩
    | false => exact hx G' H' g
theorem okw_orT (ha : OkTw X c E a ta) (hb : OkWw X c E (.BoolOp .Or (b :: rest) pos) tb) : OkWw X c E (.BoolOp .Or (a :: b :: rest) pos) (wOrT ta tb) :=
  weakW (pw_or ha hb) fun σ H Q ⟨O, env, G, rl, w⟩ => by
    refine ⟨O, env, G, rl, W.wp_mono (W.wp_bind.mp w) (fun x hx G' H' g => ?_) fun _ z => z⟩
    cases x with
    | true => exact hx G' H' g
    | false => exact ⟨O, env, G', rl.grow g, W.wp_mono hx (fun k h G2 H2 g2 => h G2 H2 (g.trans g2)) fun _ z => z.mono g.fr⟩
theorem okw_ifE (hc : OkTw X c E tx ta) (ha : OkEw X c E a ma) (hb : OkEw X c E b mb) : OkEw X c E (.IfExp tx a b pos) (wIfE ta ma mb) :=
  weakE (pe_ifExp hc ha hb) fun σ H Q ⟨O, env, G, rl, w⟩ => by
    refine ⟨O, env, G, rl, W.wp_mono (W.wp_bind.mp w) (fun x hx G' H' g => ?_) fun _ z => z⟩
    cases x with
    | true => exact ⟨O, env, G', rl.grow g, W.wp_mono hx (fun d h v G2 H2 g2 r2 => h v G2 H2 (g.trans g2) r2) fun _ z => z.mono g.fr⟩
    | false => exact ⟨O, env, G', rl.grow g, W.wp_mono hx (fun d h v G2 H2 g2 r2 => h v G2 H2 (g.trans g2) r2) fun _ z => z.mono g.fr⟩
theorem okw_one {op} (ha : OkEw X c E a ma) : OkEw X c E (.BoolOp op [a] pos) ma := pe_one ha
theorem okw_notE (ha : OkEw X c E a ma) : OkEw X c E (.UnaryOp .Not a pos) (wNotE ma) :=
  weakE (pe_not ha) fun σ H Q ⟨O, env, G, rl, w⟩ => ⟨O, env, G, rl, W.wp_mono (wOf_wp (W.wp_bind.mp w)) (fun d ⟨k, e, h⟩ v G' H' g q => by
    subst e
    cases q
    exact ⟨k, rfl, h _ G' H' g (.bl _)⟩) fun _ z => z⟩
theorem okw_andE (ha : OkEw X c E a ma) (hb : OkEw X c E (.BoolOp .And (b :: rest) pos) mb) : OkEw X c E (.BoolOp .And (a :: b :: rest) pos) (wAndE ma mb) :=
  weakE (pe_and ha hb) fun σ H Q ⟨O, env, G, rl, w⟩ => ⟨O, env, G, rl, W.wp_mono (wOf_wp (W.wp_bind.mp w)) (fun d ⟨x, e, h⟩ v G' H' g q => by
    subst e
    cases q
    refine ⟨x, rfl, ?_⟩
    cases x with
    | true => exact ⟨O, env, G', rl.grow g, W.wp_mono h (fun d h v G2 H2 g2 r2 => h v G2 H2 (g.trans g2) r2) fun _ z => z.mono g.fr⟩
    | false => exact h _ G' H' g (.bl _)) fun _ z => z⟩
theorem okw_orE (ha : OkEw X c E a ma) (hb : OkEw X c E (.BoolOp .Or (b :: rest) pos) mb) : OkEw X c E (.BoolOp .Or (a :: b :: rest) pos) (wOrE ma mb) :=
  weakE (pe_or ha hb) fun σ H Q ⟨O, env, G, rl, w⟩ => ⟨O, env, G, rl, W.wp_mono (wOf_wp (W.wp_bind.mp w)) (fun d ⟨x, e, h⟩ v G' H' g q => by
    subst e
    cases q
    refine ⟨x, rfl, ?_⟩
    cases x with
    | true => exact h _ G' H' g (.bl _)
    | false => exact ⟨O, env, G', rl.grow g, W.wp_mono h (fun d h v G2 H2 g2 r2 => h v G2 H2 (g.trans g2) r2) fun _ z => z.mono g.fr⟩) fun _ z => z⟩
end

/-! ### argument lists, displays, built-ins, subscripts, slices -/
def wNil : Aw := fun _ => .ret []
def wCons (a : Ew) (r : Aw) : Aw := fun env => (a env).bind fun x => (r env).bind fun xs => .ret (x :: xs)
def wStar (a : Ew) (r : Aw) : Aw := fun env => (a env).bind fun x => (W.ofO (itemsOf x)).bind fun ys => (r env).bind fun xs => .ret (ys ++ xs)
def tupOf (ds : List D) : Option D := if ds.length ≤ 1000000 then some (.tup ds) else none
def lstOf (ds : List D) : Option D := if ds.length ≤ 1000000 then some (.lst ds) else none
/-- what is made of the arguments -/
def wCB (sem : List D → Option D) (m : Aw) : Ew := fun env => (m env).bind fun ds => W.ofO (sem ds)
section
variable {X : Cx} {c : Ct} {E : XK} {e : Expr} {es : List Expr} {me : Ew} {ms : Aw} {p pos : Pos}
theorem okw_nil : OkAw X c E [] wNil := weakA pa_nil fun σ H Q ⟨O, env, G, rl, w⟩ => w [] G H (GrW.refl rl.rl.gh) .nil
theorem okw_cons (ha : OkEw X c E e me) (hr : OkAw X c E es ms) (hs : starEach (e :: es) X.env = (false, eval e X.env) :: starEach es X.env := by rfl) : OkAw X c E (e :: es) (wCons me ms) :=
  weakA (pa_cons ha hr hs) fun σ H Q ⟨O, env, G, rl, w⟩ =>
    ⟨O, env, G, rl, W.wp_mono (W.wp_bind.mp w) (fun x hx v G1 H1 g1 r1 => ⟨O, env, G1, rl.grow g1, W.wp_mono (W.wp_bind.mp hx) (fun xs hxs vs G2 H2 g2 r2 => hxs _ G2 H2 (g1.trans g2) (.cons (r1.mono g2.g x v) r2)) fun _ z => z.mono g1.fr⟩) fun _ z => z⟩
theorem okw_star (ha : OkEw X c E e me) (hr : OkAw X c E es ms) (hs : starEach (.Starred e p :: es) X.env = (true, eval e X.env) :: starEach es X.env := by rfl) : OkAw X c E (.Starred e p :: es) (wStar me ms) :=
  weakA (StX.pa_star ha hr hs) fun σ H Q ⟨O, env, G, rl, w⟩ => by
    refine ⟨O, env, G, rl, W.wp_mono (W.wp_bind.mp w) (fun x hx v G1 H1 g1 r1 => ?_) fun _ z => z⟩
    obtain ⟨ys, e2, hx⟩ := W.wp_ofO.mp (W.wp_bind.mp hx)
    have fin : ∀ (ws : List V), Rps X.K G1 ws ys → tAw X.K c E ms σ H1 fun zs H2 => Q (ws ++ zs) H2 := fun ws hw =>
      ⟨O, env, G1, rl.grow g1, W.wp_mono (W.wp_bind.mp hx) (fun xs hxs vs G2 H2 g2 r2 => hxs _ G2 H2 (g1.trans g2) ((hw.mono g2.g ys ws).append r2)) fun _ z => z.mono g1.fr⟩
    cases r1 with
    | tup h1 h2 => cases e2; exact ⟨_, _, rfl, .inl (same_sqt g1.gh h1), fin _ h2⟩
    | lst h1 h2 => cases e2; exact ⟨_, _, rfl, .inr (SqL.of (g1.gh _ _ h1)), fin _ h2⟩
    | _ => cases e2
theorem okw_tup {x1} (h : OkAw X c E es ms) : OkEw X c E (.Tuple es x1 pos) (wCB tupOf ms) :=
  weakE (pe_tup h) fun σ H Q ⟨O, env, G, rl, w⟩ => by
    refine ⟨O, env, G, rl, W.wp_mono (W.wp_bind.mp w) (fun ds hd vs G1 H1 g1 r1 => ?_) fun _ z => z⟩
    obtain ⟨d, e2, k⟩ := W.wp_ofO.mp hd
    unfold tupOf at e2
    split at e2
    · rename_i hl
      cases e2
      refine ⟨sz6 (by rw [r1.length]; exact hl), fun p hp => ?_⟩
      have g2 := GrW.new (c := c) (o := .tup vs) g1.gh hp nt_tup
      exact k _ _ _ (g1.trans g2) (.tup (SqT.of upd_same) (r1.mono g2.g ds vs))
    · cases e2
theorem okw_lst (h : OkAw X c E es ms) : OkEw X c E (.List es pos) (wCB lstOf ms) :=
  weakE (pe_lst h) fun σ H Q ⟨O, env, G, rl, w⟩ => by
    refine ⟨O, env, G, rl, W.wp_mono (W.wp_bind.mp w) (fun ds hd vs G1 H1 g1 r1 => ?_) fun _ z => z⟩
    obtain ⟨d, e2, k⟩ := W.wp_ofO.mp hd
    unfold lstOf at e2
    split at e2
    · rename_i hl
      cases e2
      refine ⟨sz6 (by rw [r1.length]; exact hl), fun p hp => ?_⟩
      have g2 := GrW.new (c := c) (o := .lst vs) g1.gh hp nt_lst
      exact k _ _ _ (g1.trans g2) (.lst upd_same (r1.mono g2.g ds vs))
    · cases e2
theorem stepCw {r : List V → Hp → VK → Prop} {sem : List D → Option D} (hs : SemC X.K r sem) {σ : L2.St} {H : Hp} {Q : VK} (h : tEw X.K c E (wCB sem ms) σ H Q) : tCB r (tAw X.K c E ms) σ H Q := by
  obtain ⟨O, env, G, rl, w⟩ := h
  refine ⟨O, env, G, rl, W.wp_mono (W.wp_bind.mp w) (fun ds hd vs G1 H1 g1 r1 => ?_) fun _ z => z⟩
  obtain ⟨d, e2, k⟩ := W.wp_ofO.mp hd
  exact hs vs ds d G1 H1 Q g1.gh r1 e2 fun v G2 H2 g2 r2 => k v _ H2 (g1.trans (g2.w (g1.nt rl.nt))) (r2.untbl d v)
theorem okw_cb {r : List V → Hp → VK → Prop} {sem : List D → Option D} {x : Str} {id : String} (hc : CallR X (.builtin id) r) (hs : SemC X.K r sem) (hm : X.mg x = none) (ha : OkAw X c E (e :: es) ms) (hv : bootBuiltins x = some (.builtin id) := by decide +kernel) (hg : Gl X x := by rfl) (hn : x ≠ "__name__" := by decide) (hdb : (x == ("__debug__" : Str)) = false := by decide)
    (he : starEach (e :: es) X.env = (false, eval e X.env) :: starEach es X.env := by rfl) (hpl : (backTo pos (starEach es X.env)).any (·.1) = false := by rfl) : OkEw X c E (.Call (.Name x p) (e :: es) [] pos) (wCB sem ms) :=
  weakE (pe_callB hc hg hm hv ha hn hdb he hpl) fun σ H Q h => stepCw hs h
theorem okw_ct {r : List V → Hp → VK → Prop} {sem : List D → Option D} {x : Str} {T : String} (hc : CallR X (.type T) r) (hs : SemC X.K r sem) (hm : X.mg x = none) (ha : OkAw X c E (e :: es) ms) (hv : bootBuiltins x = some (.type T) := by decide +kernel) (hg : Gl X x := by rfl) (hn : x ≠ "__name__" := by decide) (hdb : (x == ("__debug__" : Str)) = false := by decide)
    (he : starEach (e :: es) X.env = (false, eval e X.env) :: starEach es X.env := by rfl) (hpl : (backTo pos (starEach es X.env)).any (·.1) = false := by rfl) : OkEw X c E (.Call (.Name x p) (e :: es) [] pos) (wCB sem ms) :=
  weakE (pe_callTy hc hg hm hv ha hn hdb he hpl) fun σ H Q h => stepCw hs h
end
def wNeg (m : Ew) : Ew := fun env => (m env).bind fun d => match d with
  | .int i => .ret (.int (-i))
  | _ => .fail
abbrev Ow := Env → W (Option Int)
def tOw (K : PySem.W.Frag) (c : Ct) (E : XK) (m : Ow) : TO := fun σ H Q => ∃ (O : Addr → Prop) (env : Env) (G : Hp), RlW K c O env σ G H ∧ (m env).wp (fun o => ∀ G' H', GrW c G H G' H' → Q o H') (XcK K c H E)
def OkOw (X : Cx) (c : Ct) (E : XK) (e : Option Expr) (m : Ow) : Prop := PO X e (tOw X.K c E m)
def oL (m : Ox) : Ow := fun env => W.ofO (m env)
def owSome (m : Ew) : Ow := fun env => (m env).bind fun d => match d with
  | .int i => if -1000000 ≤ i ∧ i ≤ 1000000 then .ret (some i) else .fail
  | _ => .fail
def wSl (m : Ew) (lo hi : Ow) : Ew := fun env => (m env).bind fun d => (lo env).bind fun l => (hi env).bind fun h => W.ofO (sSl d l h)
section
variable {X : Cx} {c : Ct} {E : XK} {a b : Expr} {ma mb : Ew} {pos : Pos}
theorem OkO.w {e : Option Expr} {m : Ox} (h : OkO X e m) : OkOw X c E e (oL m) := weakO h fun σ H Q ⟨O, env, G, rl, w⟩ => by
  obtain ⟨d, e1, k⟩ := W.wp_ofO.mp w
  exact ⟨O, env, G, d, rl.rl, e1, fun G' H' g => k _ H' (g.w rl.nt)⟩
theorem okw_idx (ha : OkEw X c E a ma) (hb : OkEw X c E b mb) (hs : PlainIx b := by exact fun _ _ => rfl) : OkEw X c E (.Subscript a b pos) (wBin sIdx ma mb) :=
  weakE (pe_ix ix_R ha hb hs) fun σ H Q ⟨O, env, G, rl, w⟩ => by
    refine ⟨O, env, G, rl, W.wp_mono (W.wp_bind.mp w) (fun x hx v G1 H1 g1 r1 => ⟨O, env, G1, rl.grow g1, W.wp_mono (W.wp_bind.mp hx) (fun y hy u G2 H2 g2 r2 => ?_) fun _ z => z.mono g1.fr⟩) fun _ z => z⟩
    obtain ⟨d, e3, k⟩ := W.wp_ofO.mp hy
    exact sem_idx v u x y d G2 H2 Q g2.gh (r1.mono g2.g x v) r2 e3 fun w G3 H3 g3 r3 => k w _ H3 ((g1.trans g2).trans (g3.w (g2.nt (g1.nt rl.nt)))) (r3.untbl d w)
theorem okw_sl {lo hi : Option Expr} {ml mh : Ow} {p2 : Pos} (ha : OkEw X c E a ma) (hl : OkOw X c E lo ml) (hh : OkOw X c E hi mh) : OkEw X c E (.Subscript a (.Slice lo hi none p2) pos) (wSl ma ml mh) :=
  weakE (pe_slice (sl_list.or sl_tupA) ha hl hh) fun σ H Q ⟨O, env, G, rl, w⟩ => by
    refine ⟨O, env, G, rl, W.wp_mono (W.wp_bind.mp w) (fun x hx v G1 H1 g1 r1 => ⟨O, env, G1, rl.grow g1, W.wp_mono (W.wp_bind.mp hx) (fun l hl G2 H2 g2 => ⟨O, env, G2, (rl.grow g1).grow g2, W.wp_mono (W.wp_bind.mp hl) (fun h hh G3 H3 g3 => ?_) fun _ z => (z.mono g1.fr).mono g2.fr⟩) fun _ z => z.mono g1.fr⟩) fun _ z => z⟩
    obtain ⟨d, e4, k⟩ := W.wp_ofO.mp hh
    have g := (g1.trans g2).trans g3
    have r3 := (r1.mono g2.g _ _).mono g3.g _ _
    cases r3 with
    | @lst a xs ds h1 h2 =>
      cases e4
      refine .inl ⟨a, xs, rfl, SqL.of (g3.gh _ _ h1), fun p hp => ?_⟩
      have g4 := GrW.new (c := c) (o := .lst (cutV xs l h)) g3.gh hp nt_lst
      exact k _ _ _ (g.trans g4) (.lst upd_same ((cut_rps h2 l h).mono g4.g _ _))
    | @tup a xs ds h1 h2 =>
      cases e4
      refine .inr ⟨a, xs, rfl, same_sqt g3.gh h1, fun hw => ?_, fun hw p hp => ?_⟩
      · refine k _ _ _ g (.tup h1 ?_)
        have hc : cutD ds l h = ds := by
          unfold cutD
          rw [← h2.length, hw.1, hw.2, Nat.sub_zero, List.drop_zero, h2.length, List.take_length]
        rw [hc]
        exact h2
      · have g4 := GrW.new (c := c) (o := .tup (cutV xs l h)) g3.gh hp nt_tup
        exact k _ _ _ (g.trans g4) (.tup (SqT.of upd_same) ((cut_rps h2 l h).mono g4.g _ _))
    | _ => cases e4
end
end Sh
end Part_WA

section Part_WB
set_option maxRecDepth 100000
set_option maxHeartbeats 2000000
/-! WB: what is walked, comprehensions, over W. -/
namespace Sh
open PySem L2 PyProof.Rows PySem.Spec

theorem pi_seq {X : Cx} {tg l : Expr} {tl : TE} (hl : PE X l tl) : PI X tg l (fun σ H R => tl σ H fun v H1 => ∃ a, v = .ref a ∧ (((∃ xs, SqL X.K H1 a xs) ∧ R (Itl X.K a) H1) ∨ ((∃ xs, SqT X.K H1 a xs) ∧ R (Itt X.K a) H1))) := by
  refine ⟨fun pins s σ H R I h => ?_⟩
  refine thn (hl.run pins s σ H _ I h) fun v s1 ⟨x, H1, I1, r1, q1⟩ => ?_
  obtain ⟨a, e, q1⟩ := q1
  subst e
  cases r1
  rcases q1 with ⟨⟨xs, hq⟩, q⟩ | ⟨⟨xs, hq⟩, q⟩
  · obtain ⟨its, rv, p, hz⟩ := I1.list hq
    refine wpAny_pyIter_list p.isList ?_
    refine ⟨s1.heap.objs.size, [s1.heap.objs.size], _, _, H1, rfl, I1.kept (t' := s1.toks) fun b o e => Heap.get?_push_of_some _ e, turn_list a _, ⟨_, Heap.get?_push_size _ rfl, rfl, rfl⟩, fun b hb => ?_, q⟩
    have e : b = s1.heap.objs.size := by simpa using hb
    subst e
    exact I1.fpOk (Nat.le_refl _) (I1.hok.fresh (Nat.le_refl _))
  · obtain ⟨its, rv, p, hz⟩ := I1.tuple hq
    refine wpAny_pyIter_tuple (show s1.heap.IsTuple a its.toArray from p) ?_
    refine ⟨s1.heap.objs.size, [s1.heap.objs.size], _, _, H1, rfl, I1.kept (t' := s1.toks) fun b o e => Heap.get?_push_of_some _ e, turn_tuple a _, ⟨_, Heap.get?_push_size _ rfl, rfl, rfl⟩, fun b hb => ?_, q⟩
    have e : b = s1.heap.objs.size := by simpa using hb
    subst e
    exact I1.fpOk (Nat.le_refl _) (I1.hok.fresh (Nat.le_refl _))

/-- what is walked without its tables -/
theorem Walks.untbl {K : PySem.W.Frag} {J : It} {ds : List D} {G : Hp} (w : Walks K J ds G) : Walks K J ds (untbl G) := fun i G1 H1 e1 e2 => w i G1 H1 (SameN.of_un e1) e2
def tIw (K : PySem.W.Frag) (c : Ct) (E : XK) (m : Aw) : TI := fun σ H R => ∃ (O : Addr → Prop) (env : Sh.Env) (G : Hp), RlW K c O env σ G H ∧ (m env).wp (fun ds => ∀ J G' H', GrW c G H G' H' → Walks K J ds G' → R J H') (XcK K c H E)
def OkIw (X : Cx) (c : Ct) (E : XK) (tg e : Expr) (m : Aw) : Prop := PI X tg e (tIw X.K c E m)
def wwItems (m : Ew) : Aw := fun env => (m env).bind fun d => W.ofO (itemsOf d)
def wwRange1 (m : Aw) : Aw := fun env => (m env).bind fun ds => match ds with
  | [.int j] => if -1000000 ≤ j ∧ j ≤ 1000000 then .ret (rangeD 0 j.toNat) else .fail
  | _ => .fail
section
variable {X : Cx} {c : Ct} {E : XK} {tg e : Expr}
theorem OkI.w {m : Ax} (h : OkI X tg e m) : OkIw X c E tg e (aL m) := weakI h fun σ H Q ⟨O, env, G, rl, w⟩ => by
  obtain ⟨d, e1, k⟩ := W.wp_ofO.mp w
  exact ⟨O, env, G, d, rl.rl, e1, fun J G' H' g r => k J _ H' (g.w rl.nt) r.untbl⟩
theorem okw_wItems {m : Ew} (h : OkEw X c E e m) : OkIw X c E tg e (wwItems m) := weakI (pi_seq h) fun σ H R ⟨O, env, G, rl, w⟩ => by
  refine ⟨O, env, G, rl, W.wp_mono (W.wp_bind.mp w) (fun d hd v G1 H1 g1 r1 => ?_) fun _ z => z⟩
  obtain ⟨ds, e2, k⟩ := W.wp_ofO.mp hd
  cases r1 with
  | @lst a xs es h1 h2 => cases e2; exact ⟨a, rfl, .inl ⟨⟨xs, SqL.of (g1.gh _ _ h1)⟩, k _ G1 H1 g1 (walks_list h1 h2)⟩⟩
  | @tup a xs es h1 h2 => cases e2; exact ⟨a, rfl, .inr ⟨⟨xs, same_sqt g1.gh h1⟩, k _ G1 H1 g1 (walks_tup h1 h2)⟩⟩
  | _ => cases e2
theorem okw_wRange1 {a : Expr} {m : Aw} {p pos : Pos} (hm : X.mg "range" = none) (ha : OkAw X c E [a] m) (hg : Gl X "range" := by rfl) (hs : starEach [a] X.env = [(false, eval a X.env)] := by rfl) : OkIw X c E tg (.Call (.Name "range" p) [a] [] pos) (wwRange1 m) :=
  weakI (pi_range1 hg hm ha hs) fun σ H R ⟨O, env, G, rl, w⟩ => by
    refine ⟨O, env, G, rl, W.wp_mono (W.wp_bind.mp w) (fun ds hd vs G1 H1 g1 r1 => ?_) fun _ z => z⟩
    split at hd
    · split at hd
      · rename_i h
        obtain ⟨v, rfl, r⟩ := rps1 r1
        cases r
        exact ⟨_, rfl, by omega, by omega, hd _ G1 H1 g1 (walks_range 0 _)⟩
      · exact hd.elim
    · exact hd.elim
end

/-! ### comprehensions -/
def compGoW (tgt : Gx) (cond : Tw) (el : Ew) (env0 : Sh.Env) : List D → W (List D)
  | [] => .ret []
  | d :: ds => (W.ofO (tgt d env0)).bind fun env1 => (cond env1).calm.bind fun k => if k then (el env1).calm.bind fun y => (compGoW tgt cond el env0 ds).bind fun ys => .ret (y :: ys) else compGoW tgt cond el env0 ds
def wComp (src : Aw) (vs : List Nat) (tgt : Gx) (cond : Tw) (el : Ew) : Ew := fun env => (src env).bind fun ds => if ds.length ≤ 1000000 then (compGoW tgt cond el (wipeE env vs) ds).bind fun out => .ret (.lst out) else .fail
def OkTsw (X : Cx) (c : Ct) (E : XK) (ifs : List Expr) (m : Tw) : Prop := PTs X ifs (tTw X.K c E m)
theorem OkTs.w {X : Cx} {c : Ct} {E : XK} {ifs : List Expr} {m : Tx} (h : OkTs X ifs m) : OkTsw X c E ifs (tL m) := ⟨fun pins s σ H Q I ⟨O, env, G, rl, w⟩ => by
  obtain ⟨d, e1, k⟩ := W.wp_ofO.mp w
  exact h.run pins s σ H Q I ⟨O, env, G, d, rl.rl, e1, fun G' H' g => k _ H' (g.w rl.nt)⟩⟩
theorem okw_tsOne {X : Cx} {c : Ct} {E : XK} {e : Expr} {m : Tw} (h : OkTw X c E e m) : OkTsw X c E [e] m := pts_one h
section
variable {K : PySem.W.Frag} {c : Ct} {O : Addr → Prop} {env : Sh.Env} {σ : L2.St} {G H : Hp}
theorem RlW.wiped (r : RlW K c O env σ G H) (vs : List Nat) : RlW K c O (wipeE env vs) (wipe σ vs) G H := ⟨r.rl.wiped vs, r.i, r.sg, r.fg, r.so, r.nt⟩
theorem GrW.lst {G1 H1 G' H' : Hp} {L : Addr} {xs : List V} (g : GrW c G1 H1 G' H') (i1 : c.I H1) (hD : H1 L = none) (hG : G' L = none) (hF : ¬ c.F L) (hL : H' L = none ∨ ∃ ys, H' L = some (.lst ys)) : GrW c G1 H1 G' (upd H' L (.lst xs)) where
  h := fun b o e n t => by rw [upd_ne (ne_of_none e hD)]; exact g.h b o e n t
  g := g.g
  gh := fun a u q => by rw [upd_ne (fun z => by rw [z, hG] at q; cases q)]; exact g.gh a u q
  nw := g.nw
  nl := fun a n => by
    by_cases h : a = L
    · exact ⟨_, by rw [h]; exact upd_same, nt_lst⟩
    · obtain ⟨u, e, t⟩ := g.nl a n
      exact ⟨u, by rw [upd_ne h]; exact e, t⟩
  i := fun i => c.st (fun b o e z => by
    rw [upd_ne (fun q => ?_)]
    · exact e
    · subst q
      rcases hL with h | ⟨ys, h⟩
      · rw [h] at e; cases e
      · rw [h] at e; cases e
        rcases z with z | z
        · exact hF z
        · exact z (.inl ⟨ys, rfl⟩)) (g.i i)
  nt := g.nt
/-- a comprehension's list, new -/
theorem stepCompW0 {E : XK} {src : Aw} {vs : List Nat} {tgt : Gx} {cond : Tw} {el : Ew} {Q : VK} {O : Addr → Prop} {env : Sh.Env} {G : Hp} {F : List D → Prop} (rl : RlW K c O env σ G H)
    (w : (src env).wp (fun ds => ds.length ≤ 1000000 ∧ (compGoW tgt cond el (wipeE env vs) ds).wp F (XcK K c H E)) (XcK K c H E)) (fin : ∀ out, F out → ∀ (L : Addr) (ys : List V) (G' H' : Hp), ¬ Nn H L → GrW c G H G' H' → G' L = none → H' L = some (.lst ys) → Rps K G' ys out → Q (.ref L) H') :
    tLc (tIw K c E src) (tG K vs tgt) (tTw K c (fun _ _ _ => False) cond) (tEw K c (fun _ _ _ => False) el) vs σ H Q := by
  refine ⟨O, env, G, rl, W.wp_mono w (fun ds e2 => fun J G1 H1 g1 wk L hD => ?_) fun _ z => z⟩
  obtain ⟨hlen, e3⟩ := e2
  have rl1 := rl.grow g1
  have rl0 := rl1.wiped vs
  have hF : ¬ c.F L := fun z => nn_none hD (rl1.fg L z)
  have nS : ¬ c.S L := fun z => hF (c.sf L z)
  have hG1 : G1 L = none := by
    cases q : G1 L with
    | none => rfl
    | some o => rw [g1.gh _ _ q] at hD; cases hD
  -- behind i items the list at L stands for acc, the rest gives what is wanted
  refine ⟨fun i m H' => m = ds.length - i ∧ i ≤ ds.length ∧ ∃ (G' : Hp) (acc : List D) (ys : List V), GrW c G1 H1 G' H' ∧ G' L = none ∧ H' L = some (.lst ys) ∧ Rps K G' ys acc ∧ acc.length ≤ i ∧
      (compGoW tgt cond el (wipeE env vs) (ds.drop i)).wp (fun out => F (acc ++ out)) (fun _ => True),
    ⟨ds.length, by simp, Nat.zero_le _, G1, [], [], GrW.lst (GrW.refl g1.gh) rl1.i hD hG1 hF (.inl hD), hG1, upd_same, .nil, Nat.le_refl _, by rw [List.drop_zero]; exact W.wp_mono e3 (fun out h => by rw [List.nil_append]; exact h) (fun _ _ => trivial)⟩, ?_⟩
  rintro i m H' ⟨rfl, hi, G', acc, ys, g, hG, hH, ra, hal, hgo⟩
  obtain ⟨wstop, wgo⟩ := wk i G' H' (fun b o q _ => g.g b o q) g.gh
  by_cases hlt : i < ds.length
  · have hd : ds[i]? = some ds[i] := by simp [hlt]
    obtain ⟨go, yl⟩ := wgo _ hd
    refine .inr ⟨go, fun H2 => i + 1 ≤ ds.length ∧ ∃ (G' : Hp) (acc : List D) (ys : List V), GrW c G1 H1 G' H2 ∧ G' L = none ∧ H2 L = some (.lst ys) ∧ Rps K G' ys acc ∧ acc.length ≤ i + 1 ∧
        (compGoW tgt cond el (wipeE env vs) (ds.drop (i + 1))).wp (fun out => F (acc ++ out)) (fun _ => True),
      fun H2 ⟨p1, p2⟩ => ⟨ds.length - (i + 1), by omega, rfl, p1, p2⟩, fun x H2 hy => ?_⟩
    obtain ⟨G2, g2, r2⟩ := yl x H2 hy
    rw [List.drop_eq_getElem_cons hlt] at hgo
    obtain ⟨env1, t1, hgo⟩ := W.wp_ofO.mp (W.wp_bind.mp hgo)
    have hgo := W.wp_calm.mp (W.wp_bind.mp hgo)
    have n1 := g.nt rl1.nt
    have w2 := g2.w (c := c) n1
    have hG2 := w2.non hG ⟨_, hH, nt_lst⟩
    have hH2 := g2.h _ _ hH
    have rl2 : RlW K c O (wipeE env vs) (wipe σ vs) (untbl G2) H2 := rl0.grow (g.trans w2)
    refine ⟨O, _, untbl G2, _, env1, rl2.rl, r2.untbl _ _, t1, fun σ2 rl3 w3 => ⟨?_, O, env1, untbl G2, ⟨rl3, rl2.i, rl2.sg, rl2.fg, rl2.so, rl2.nt⟩, W.wp_mono hgo (fun k hk G3 H3 g3 => ?_) fun _ z => z.elim⟩⟩
    · rw [wipe_wipe] at w3; exact w3
    · have rl3' : RlW K c O env1 σ2 (untbl G2) H2 := ⟨rl3, rl2.i, rl2.sg, rl2.fg, rl2.so, rl2.nt⟩
      have hG3 := g3.non hG2 ⟨_, hH2, nt_lst⟩
      have hH3 := g3.h _ _ hH2 nS nt_lst
      cases k with
      | true =>
        have hk := W.wp_calm.mp (W.wp_bind.mp (show ((el env1).calm.bind fun y => (compGoW tgt cond el (wipeE env vs) (ds.drop (i + 1))).bind fun ys => .ret (y :: ys)).wp _ _ from hk))
        refine ⟨O, env1, G3, rl3'.grow g3, W.wp_mono hk (fun y hy v G4 H4 g4 r4 => ?_) fun _ z => z.elim⟩
        have hG4 := g4.non hG3 ⟨_, hH3, nt_lst⟩
        have hH4 := g4.h _ _ hH3 nS nt_lst
        have ra4 := ((ra.mono w2.g _ _).mono g3.g _ _).mono g4.g _ _
        have hy := W.wp_bind.mp hy
        refine ⟨ys, hH4, by rw [ra.length]; exact Nat.lt_of_le_of_lt hal (Nat.lt_of_lt_of_le hlt (Nat.le_trans hlen (by decide))), hlt, G4, acc ++ [y], ys ++ [v], GrW.lst (((g.trans w2).trans g3).trans g4) rl1.i hD hG4 hF (.inr ⟨_, hH4⟩), hG4, upd_same, ra4.snoc r4, by simp; omega, ?_⟩
        refine W.wp_mono hy (fun out h => ?_) fun _ z => z
        rw [List.append_assoc]
        exact h
      | false =>
        exact ⟨hlt, G3, acc, ys, (g.trans w2).trans g3, hG3, hH3, (ra.mono w2.g _ _).mono g3.g _ _, by omega, hk⟩
  · have hie : i = ds.length := by omega
    refine .inl ⟨wstop (by omega), ?_⟩
    rw [List.drop_eq_nil_of_le (by omega)] at hgo
    have z : F (acc ++ []) := hgo
    rw [List.append_nil] at z
    -- the list's own object is left out of what has grown
    have hHL : ¬ Nn H L := fun n => nn_none hD (g1.nl L n)
    refine fin acc z L ys G' H' hHL ⟨fun b o e n t => g.h b o (g1.h b o e n t) n t, g1.g.trans g.g, g.gh, fun a o q => ?_, fun a n => g.nl a (g1.nl a n), fun i => g.i (g1.i i), fun n => g.nt (g1.nt n)⟩ hG hH ra
    rcases g.nw a o q with q | q
    · exact g1.nw a o q
    · exact .inr fun n => q (g1.nl a n)
theorem stepCompW {E : XK} {src : Aw} {vs : List Nat} {tgt : Gx} {cond : Tw} {el : Ew} {Q : VK} (h : tEw K c E (wComp src vs tgt cond el) σ H Q) :
    tLc (tIw K c E src) (tG K vs tgt) (tTw K c (fun _ _ _ => False) cond) (tEw K c (fun _ _ _ => False) el) vs σ H Q := by
  obtain ⟨O, env, G, rl, w⟩ := h
  refine stepCompW0 (F := fun out => ∀ v G' H', GrW c G H G' H' → Rp K G' v (.lst out) → Q v H') rl (W.wp_mono (W.wp_bind.mp w) (fun ds e2 => ?_) fun _ z => z) fun out k L ys G' H' nL g gL hL r => ?_
  · split at e2
    · rename_i hlen; exact ⟨hlen, W.wp_mono (W.wp_bind.mp e2) (fun out k => k) fun _ z => z⟩
    · exact e2.elim
  · -- the list is frozen
    have eG : Same G' (upd G' L (.lst ys)) := fun a u q => by rw [upd_ne (fun w => by rw [w, gL] at q; cases q)]; exact q
    refine k (.ref L) _ H' ⟨g.h, g.g.trans eG, fun a u q => ?_, fun a u q => ?_, g.nl, g.i, fun n => (g.nt n).upd nt_lst⟩ (.lst upd_same (r.mono eG _ _))
    · by_cases ha : a = L
      · subst ha; rw [upd_same] at q; cases q; exact hL
      · rw [upd_ne ha] at q; exact g.gh a u q
    · by_cases ha : a = L
      · subst ha; exact .inr nL
      · rw [upd_ne ha] at q; exact g.nw a u q
end
section
variable {X : Cx} {c : Ct} {E : XK}
theorem okw_comp {elt tg iter : Expr} {ifs : List Expr} {scope : Scope} {own : List (Str × Nat)} {pos : Pos} {src : Aw} {tgt : Gx} {cond : Tw} {el : Ew} (hc : X.calm = true) (hN : X.N.Nodup) (hi : OkIw X c E tg iter src) (ok : blkC X.N X.env.scope scope own = true)
    (hg : ∀ (s : Shared) (H : Hp) (C : Addr) (cl : List (Str × Addr)) (fp : List Addr), OkG (X.blk s H scope (compEnvC scope cl C X.env) fp) (own.map (·.2)) tg tgt) (ht : ∀ (s : Shared) (H : Hp) (C : Addr) (cl : List (Str × Addr)) (fp : List Addr), OkTsw (X.blk s H scope (compEnvC scope cl C X.env) fp) c (fun _ _ _ => False) ifs cond)
    (he : ∀ (s : Shared) (H : Hp) (C : Addr) (cl : List (Str × Addr)) (fp : List Addr), OkEw (X.blk s H scope (compEnvC scope cl C X.env) fp) c (fun _ _ _ => False) elt el) (hs : ∀ x, foldedSetIterable iter X.env x = pure x := by intro _; rfl) :
    OkEw X c E (.ListComp elt [⟨tg, iter, ifs, 0⟩] scope pos) (wComp src (own.map (·.2)) tgt cond el) :=
  weakE (pe_lc (wi := tIw X.K c E src) (own := own) (g := tG X.K (own.map (fun p : Str × Nat => p.2)) tgt) (tt := tTw X.K c (fun _ _ _ => False) cond) (te := tEw X.K c (fun _ _ _ => False) el) hc hN hi (blkOk_by ok) hg ht he hs) fun σ H Q h => stepCompW h
end
end Sh
end Part_WB

section Part_WC
set_option maxRecDepth 100000
set_option maxHeartbeats 2000000
/-! WC: statements over W. -/
namespace Sh
open PySem L2

abbrev Sw := Env → W Res
/-- at a statement: H0, G0 the heaps at the def's entry -/
structure RsW (K : PySem.W.Frag) (c : Ct) (H0 G0 : Hp) (env : Env) (σ : L2.St) (G H : Hp) : Prop where
  rl : RlW K c (fun a => ¬ Nn H0 a) env σ G H
  g0 : GrW c G0 H0 G H
def postW (K : PySem.W.Frag) (c : Ct) (H0 G0 G : Hp) (D : Ends) : Res → Prop
  | .nx env' => ∀ σ' G' H', RsW K c H0 G0 env' σ' G' H' → Same G G' → D.nx σ' H'
  | .rt d => ∀ v G' H', GrW c G0 H0 G' H' → Rp K G' v d → D.rt v H'
  | .bk env' => ∀ σ' G' H', RsW K c H0 G0 env' σ' G' H' → Same G G' → D.bk σ' H'
  | .ct env' => ∀ σ' G' H', RsW K c H0 G0 env' σ' G' H' → Same G G' → D.ct σ' H'
def tSw (K : PySem.W.Frag) (c : Ct) (E : XK) (m : Sw) : TS := fun D σ H => ∃ (H0 G0 : Hp) (env : Env) (G : Hp), RsW K c H0 G0 env σ G H ∧ (m env).wp (postW K c H0 G0 G D) (XcK K c H0 E)
def OkSw (X : Cx) (c : Ct) (E : XK) (st : Stmt) (m : Sw) : Prop := PS X st (tSw X.K c E m)
def OkBw (X : Cx) (c : Ct) (E : XK) (sts : List Stmt) (m : Sw) : Prop := PSs X sts (tSw X.K c E m)
section
variable {K : PySem.W.Frag} {c : Ct} {H0 G0 G H G' H' : Hp} {env : Env} {σ : L2.St} {DE : Ends} {E : XK}
theorem RsW.grow (r : RsW K c H0 G0 env σ G H) (g : GrW c G H G' H') : RsW K c H0 G0 env σ G' H' := ⟨r.rl.grow g, r.g0.trans g⟩
theorem RlW.re {O : Addr → Prop} {env' : Env} {σ' : L2.St} (r : RlW K c O env σ G H) (rl : Rl K O env' σ' G H) : RlW K c O env' σ' G H := ⟨rl, r.i, r.sg, r.fg, r.so, r.nt⟩
theorem RsW.re {env' : Env} {σ' : L2.St} (r : RsW K c H0 G0 env σ G H) (rl : Rl K (fun a => ¬ Nn H0 a) env' σ' G H) : RsW K c H0 G0 env' σ' G H := ⟨r.rl.re rl, r.g0⟩
theorem RsW.put (r : RsW K c H0 G0 env σ G H) {i : Nat} {v : V} {d : D} (hi : i < env.length) (q : Rp K G v d) : RsW K c H0 G0 (env.set i (some (false, d))) (σ.set i (some v)) G H := r.re (r.rl.rl.put hi q)
theorem postW.mono {r : Res} (s : Same G G') (h : postW K c H0 G0 G DE r) : postW K c H0 G0 G' DE r := by
  cases r with
  | nx e => exact fun σ2 G2 H2 rs2 s2 => h σ2 G2 H2 rs2 (s.trans s2)
  | rt d => exact h
  | bk e => exact fun σ2 G2 H2 rs2 s2 => h σ2 G2 H2 rs2 (s.trans s2)
  | ct e => exact fun σ2 G2 H2 rs2 s2 => h σ2 G2 H2 rs2 (s.trans s2)
/-- what an expression asks at a statement -/
theorem atEw {m : Ew} {Q : VK} {F : D → Prop} (rs : RsW K c H0 G0 env σ G H) (w : (m env).wp F (XcK K c H0 E)) (k : ∀ d, F d → ∀ v G' H', RsW K c H0 G0 env σ G' H' → Same G G' → GrW c G0 H0 G' H' → Rp K G' v d → Q v H') : tEw K c E m σ H Q :=
  ⟨_, env, G, rs.rl, W.wp_mono w (fun d hF v G' H' g r => k d hF v G' H' (rs.grow g) g.g (rs.g0.trans g) r) fun _ z => z.mono rs.g0.fr⟩
/-- the addresses that a def owns -/
def Owned (env : Env) (σ : L2.St) (a : Addr) : Prop := ∃ (i : Nat) (d : D), env[i]? = some (some (true, d)) ∧ σ[i]? = some (some (V.ref a))
open Classical in
/-- the heap without what the def owns -/
noncomputable def unown (env : Env) (σ : L2.St) (H : Hp) : Hp := fun a => if Owned env σ a then none else H a
theorem unown_pos {a : Addr} (h : Owned env σ a) : unown env σ H a = none := if_pos h
theorem unown_neg {a : Addr} (h : ¬ Owned env σ a) : unown env σ H a = H a := if_neg h
theorem own_mut {a : Addr} : ∀ {d : D}, Own K G H a d → ∃ o, H a = some o ∧ MutO o
  | .lst _, ⟨xs, h, _⟩ => ⟨_, h, .inl ⟨xs, rfl⟩⟩
  | .dct _, ⟨ys, h, _⟩ => ⟨_, h, .inr (.inl ⟨ys, rfl⟩)⟩
theorem RsW.owned (r : RsW K c H0 G0 env σ G H) {a : Addr} (h : Owned env σ a) : G a = none ∧ ¬ Nn H0 a ∧ ∃ o, H a = some o ∧ MutO o := by
  obtain ⟨i, d, h1, h2⟩ := h
  obtain ⟨b, q1, q2, q3, q4⟩ := r.rl.rl.ow i d h1
  rw [h2] at q1; cases q1
  exact ⟨q2, q3, own_mut q4⟩
/-- a plain statement's view of the slots -/
theorem RsW.plain (r : RsW K c H0 G0 env σ G H) : Rs K (unown env σ H) G env σ G H := by
  refine ⟨⟨r.rl.rl.gh, r.rl.rl.len, r.rl.rl.fr, fun i d e => ?_, r.rl.rl.dj⟩, ⟨fun b o q => ?_, Same.refl G, r.rl.rl.gh, fun _ _ q => .inl q⟩⟩
  · obtain ⟨a, q1, q2, q3, q4⟩ := r.rl.rl.ow i d e
    exact ⟨a, q1, q2, unown_pos ⟨i, d, e, q1⟩, q4⟩
  · by_cases h : Owned env σ b
    · rw [unown_pos h] at q; cases q
    · rw [unown_neg h] at q; exact q
theorem RsW.back1 (r : RsW K c H0 G0 env σ G H) {env' : Env} {σ' : L2.St} (p : Rs K (unown env σ H) G env' σ' G' H') (nt : NoT G') : RsW K c H0 G0 env' σ' G' H' := by
  have n0 : ∀ a, unown env σ H a = none → ¬ Nn H0 a := fun a n => by
    by_cases h : Owned env σ a
    · exact (r.owned h).2.1
    · rw [unown_neg h] at n
      exact r.g0.fr.free (nn_none n)
  have up : ∀ b o, H b = some o → ¬ Owned env σ b → H' b = some o := fun b o e h => p.g0.h b o (by rw [unown_neg h]; exact e)
  refine ⟨⟨⟨p.rl.gh, p.rl.len, p.rl.fr, fun i d e => ?_, p.rl.dj⟩, ?_, fun a s => ?_, fun a f => ?_, r.rl.so, nt⟩, ⟨fun b o e n t => ?_, r.g0.g.trans p.g0.g, p.rl.gh, fun a o q => ?_, fun a n => ?_, fun i => ?_, fun _ => nt⟩⟩
  · obtain ⟨a, q1, q2, q3, q4⟩ := p.rl.ow i d e
    exact ⟨a, q1, q2, n0 a q3, q4⟩
  · refine c.st (fun b o e z => up b o e fun h => ?_) r.rl.i
    obtain ⟨_, h0, o', e', m⟩ := r.owned h
    rw [e] at e'; cases e'
    rcases z with z | z
    · exact r.rl.so b h0 z
    · exact z m
  · cases q : G' a with
    | none => rfl
    | some o =>
      rcases p.g0.nw a o q with z | z
      · rw [r.rl.sg a s] at z; cases z
      · exact absurd (n0 a z) fun z => r.rl.so a z (c.sf a s)
  · have hn : ¬ Owned env σ a := fun h => r.rl.so a (r.owned h).2.1 f
    obtain ⟨o, q, t⟩ := r.rl.fg a f
    exact ⟨o, up a o q hn, t⟩
  · have e1 := r.g0.h b o e n t
    refine up b o e1 fun h => ?_
    exact (r.owned h).2.1 ⟨o, e, t⟩
  · rcases p.g0.nw a o q with z | z
    · exact r.g0.nw a o z
    · exact .inr (n0 a z)
  · have hn : ¬ Owned env σ a := fun h => (r.owned h).2.1 n
    obtain ⟨o, q, t⟩ := r.g0.nl a n
    exact ⟨o, up a o q hn, t⟩
  · refine c.st (fun b o e z => up b o e fun h => ?_) r.rl.i
    obtain ⟨_, h0, o', e', m⟩ := r.owned h
    rw [e] at e'; cases e'
    rcases z with z | z
    · exact r.rl.so b h0 z
    · exact z m
theorem Own.untbl {a : Addr} : ∀ {d : D}, Own K G H a d → Own K (Sh.untbl G) H a d
  | .lst ds, ⟨xs, h1, h2⟩ => ⟨xs, h1, h2.untbl ds xs⟩
  | .dct _, ⟨ys, h1, h2⟩ => ⟨ys, h1, KR.untbl h2⟩
/-- the tables are left out of what is known -/
theorem Rs.untbl {env' : Env} {σ' : L2.St} (p : Rs K H0 G0 env' σ' G' H') (n : NoT G0) : Rs K H0 G0 env' σ' (Sh.untbl G') H' :=
  ⟨⟨same_untbl p.rl.gh, p.rl.len, fun i d e => let ⟨v, a, b⟩ := p.rl.fr i d e; ⟨v, a, b.untbl d v⟩, fun i d e => by
    obtain ⟨a, q1, q2, q3, q4⟩ := p.rl.ow i d e
    refine ⟨a, q1, ?_, q3, q4.untbl⟩
    unfold Sh.untbl
    rw [q2], p.rl.dj⟩, ⟨p.g0.h, n.sub p.g0.g, same_untbl p.rl.gh, fun a o q => p.g0.nw a o (of_untbl q).1⟩⟩
theorem RsW.back (r : RsW K c H0 G0 env σ G H) {env' : Env} {σ' : L2.St} (p : Rs K (unown env σ H) G env' σ' G' H') : RsW K c H0 G0 env' σ' (Sh.untbl G') H' := r.back1 (p.untbl r.rl.nt) noT_untbl
theorem RsW.backG (r : RsW K c H0 G0 env σ G H) (g : Gr G (unown env σ H) G' H') : GrW c G0 H0 (Sh.untbl G') H' := by
  have p : Rs K (unown env σ H) G [] [] G' H' := ⟨⟨g.gh, rfl, fun i d e => by simp at e, fun i d e => by simp at e, fun i j d e a h => by simp at h⟩, g⟩
  exact (r.back p).g0
/-- a plain statement -/
def sL (m : Sx) : Sw := fun env => W.ofO (m env)
theorem OkS.w {X : Cx} {st : Stmt} {m : Sx} (h : OkS X st m) : OkSw X c E st (sL m) := weakS h fun D σ H ⟨H0, G0, env, G, rs, w⟩ => by
  obtain ⟨r, e1, k⟩ := W.wp_ofO.mp w
  refine ⟨unown env σ H, G, env, G, r, rs.plain, e1, ?_⟩
  cases r with
  | nx e => exact fun σ' G' H' p s => k σ' _ H' (rs.back p) (rs.rl.nt.sub s)
  | rt d => exact fun v G' H' g r => k v _ H' (rs.backG g) (r.untbl d v)
  | bk e => exact fun σ' G' H' p s => k σ' _ H' (rs.back p) (rs.rl.nt.sub s)
  | ct e => exact fun σ' G' H' p s => k σ' _ H' (rs.back p) (rs.rl.nt.sub s)
theorem OkB.w {X : Cx} {st : List Stmt} {m : Sx} (h : OkB X st m) : OkBw X c E st (sL m) := weakB h fun D σ H ⟨H0, G0, env, G, rs, w⟩ => by
  obtain ⟨r, e1, k⟩ := W.wp_ofO.mp w
  refine ⟨unown env σ H, G, env, G, r, rs.plain, e1, ?_⟩
  cases r with
  | nx e => exact fun σ' G' H' p s => k σ' _ H' (rs.back p) (rs.rl.nt.sub s)
  | rt d => exact fun v G' H' g r => k v _ H' (rs.backG g) (r.untbl d v)
  | bk e => exact fun σ' G' H' p s => k σ' _ H' (rs.back p) (rs.rl.nt.sub s)
  | ct e => exact fun σ' G' H' p s => k σ' _ H' (rs.back p) (rs.rl.nt.sub s)
end

/-! ### blocks -/
def wsNil : Sw := fun env => .ret (.nx env)
def wsSeq (a b : Sw) : Sw := fun env => (a env).bind fun r => match r with
  | .nx e => b e
  | r => .ret r
def wsFrz (i : Nat) (m : Sw) : Sw := fun env => m (frz i env)
def wsIf (t : Tw) (a b : Sw) : Sw := fun env => (t env).bind fun k => if k then a env else b env
def wsRet (m : Ew) : Sw := fun env => (m env).bind fun d => .ret (.rt d)
def wsDrop (m : Ew) : Sw := fun env => (m env).bind fun _ => .ret (.nx env)
def wsSet (i : Nat) (m : Ew) : Sw := fun env => (m env).bind fun d => if i < env.length then .ret (.nx (env.set i (some (false, d)))) else .fail
def wsAsg (m : Ew) (t : Gx) : Sw := fun env => (m env).bind fun d => (W.ofO (t d env)).bind fun e => .ret (.nx e)
section
variable {X : Cx} {c : Ct} {E : XK} {st : Stmt} {sts : List Stmt} {a b : Sw} {pos : Pos}
theorem okw_bNil : OkBw X c E [] wsNil := weakB pss_nil fun D σ H ⟨H0, G0, env, G, rs, w⟩ => w σ G H rs (Same.refl G)
theorem okw_bCons (h1 : OkSw X c E st a) (h2 : OkBw X c E sts b) : OkBw X c E (st :: sts) (wsSeq a b) := weakB (pss_cons h1 h2) fun D σ H ⟨H0, G0, env, G, rs, w⟩ => by
  refine ⟨H0, G0, env, G, rs, W.wp_mono (W.wp_bind.mp w) (fun r hr => ?_) fun _ z => z⟩
  cases r with
  | nx e1 => exact fun σ1 G1 H1 rs1 s1 => ⟨H0, G0, e1, G1, rs1, W.wp_mono hr (fun r h => h.mono s1) fun _ z => z⟩
  | rt d => exact hr
  | bk e1 => exact hr
  | ct e1 => exact hr
theorem okw_bOne (h1 : OkSw X c E st a) : OkBw X c E [st] a := pss_one h1
theorem RsW.frozen {K : PySem.W.Frag} {H0 G0 : Hp} {env : Env} {σ : L2.St} {G H : Hp} (r : RsW K c H0 G0 env σ G H) (i : Nat) : ∃ G', Same G G' ∧ RsW K c H0 G0 (frz i env) σ G' H := by
  obtain ⟨G', s, p⟩ := r.plain.frozen i
  exact ⟨_, r.rl.nt.sub s, r.back p⟩
theorem okw_bFrz (i : Nat) (h : OkBw X c E sts a) : OkBw X c E sts (wsFrz i a) := weakB h fun D σ H ⟨H0, G0, env, G, rs, w⟩ => by
  obtain ⟨G', s, rs'⟩ := rs.frozen i
  exact ⟨H0, G0, _, G', rs', W.wp_mono w (fun r h => h.mono s) fun _ z => z⟩
theorem okw_sFrz (i : Nat) (h : OkSw X c E st a) : OkSw X c E st (wsFrz i a) := weakS h fun D σ H ⟨H0, G0, env, G, rs, w⟩ => by
  obtain ⟨G', s, rs'⟩ := rs.frozen i
  exact ⟨H0, G0, _, G', rs', W.wp_mono w (fun r h => h.mono s) fun _ z => z⟩
theorem okw_ret {e : Expr} {m : Ew} (h : OkEw X c E e m) : OkSw X c E (.Return (some e) pos) (wsRet m) := weakS (ps_ret h) fun D σ H ⟨H0, G0, env, G, rs, w⟩ =>
  atEw rs (W.wp_bind.mp w) fun d h v G' H' _ _ g r => h v G' H' g r
theorem okw_drop {e : Expr} {m : Ew} (h : OkEw X c E e m) (hs : swapsWith e none pos.line X.env = pure false := by rfl) : OkSw X c E (.Expr e pos) (wsDrop m) := weakS (ps_expr h hs) fun D σ H ⟨H0, G0, env, G, rs, w⟩ =>
  atEw rs (W.wp_bind.mp w) fun d h v G' H' rs' s' g r => h σ G' H' rs' s'
theorem okw_if {t : Expr} {s1 s2 : List Stmt} {tc : Tw} (hc : OkTw X c E t tc) (h1 : OkBw X c E s1 a) (h2 : OkBw X c E s2 b) : OkSw X c E (.If t s1 s2 pos) (wsIf tc a b) := weakS (ps_if hc h1 h2) fun D σ H ⟨H0, G0, env, G, rs, w⟩ => by
  refine ⟨_, env, G, rs.rl, W.wp_mono (W.wp_bind.mp w) (fun k hk G' H' g => ?_) fun _ z => z.mono rs.g0.fr⟩
  cases k with
  | true => exact ⟨H0, G0, env, G', rs.grow g, W.wp_mono hk (fun r h => h.mono g.g) fun _ z => z⟩
  | false => exact ⟨H0, G0, env, G', rs.grow g, W.wp_mono hk (fun r h => h.mono g.g) fun _ z => z⟩
theorem okw_set (i : Nat) (hN : X.N.Nodup) {e : Expr} {x : Str} {m : Ew} {pos' : Pos} (he : OkEw X c E e m) (hi : X.N[i]? = some x := by rfl) (hx : Loc X.env.scope x := by first | exact Or.inl rfl | exact Or.inr rfl) (hs : swapsWith e (some (.Name x pos')) pos.line X.env = pure false := by rfl)
    (hf : X.fn x = true ∨ X.env.scope.names.lookup x = some .local := by first | exact .inl rfl | exact .inr rfl) : OkSw X c E (.Assign [.Name x pos'] e pos) (wsSet i m) :=
  weakS (ps_set hN hi hx he hs hf) fun D σ H ⟨H0, G0, env, G, rs, w⟩ => atEw rs (W.wp_bind.mp w) fun d h v G' H' rs' s' g r => by
    split at h
    · rename_i hl
      exact h _ G' H' (rs'.put hl r) s'
    · exact h.elim
theorem okw_setLc (i : Nat) {y : Str} {py : Pos} {elt tg iter : Expr} {ifs : List Expr} {scope : Scope} {own : List (Str × Nat)} {pos spos : Pos} {src : Aw} {tgt : Gx} {cond : Tw} {el : Ew} (hc : X.calm = true) (hN : X.N.Nodup) (hi : OkIw X c E tg iter src) (ok : blkC X.N X.env.scope scope own = true)
    (hg : ∀ (s : Shared) (H : Hp) (C : Addr) (cl : List (Str × Addr)) (fp : List Addr), OkG (X.blk s H scope (compEnvC scope cl C X.env) fp) (own.map (·.2)) tg tgt) (ht : ∀ (s : Shared) (H : Hp) (C : Addr) (cl : List (Str × Addr)) (fp : List Addr), OkTsw (X.blk s H scope (compEnvC scope cl C X.env) fp) c (fun _ _ _ => False) ifs cond)
    (he : ∀ (s : Shared) (H : Hp) (C : Addr) (cl : List (Str × Addr)) (fp : List Addr), OkEw (X.blk s H scope (compEnvC scope cl C X.env) fp) c (fun _ _ _ => False) elt el) (hsw : swapsWith (.ListComp elt [⟨tg, iter, ifs, 0⟩] scope pos) (some (.Name y py)) spos.line X.env = pure true := by exact sw_true rfl rfl rfl (by decide +kernel))
    (hy : X.N[i]? = some y := by rfl) (hyl : X.env.scope.names.lookup y = some .local := by rfl) (hs : ∀ x, foldedSetIterable iter X.env x = pure x := by intro _; rfl) :
    OkSw X c E (.Assign [.Name y py] (.ListComp elt [⟨tg, iter, ifs, 0⟩] scope pos) spos) (wsSet i (wComp src (own.map (·.2)) tgt cond el)) :=
  weakS (ps_setLc (wi := tIw X.K c E src) (own := own) (g := tG X.K (own.map (fun p : Str × Nat => p.2)) tgt) (tt := tTw X.K c (fun _ _ _ => False) cond) (te := tEw X.K c (fun _ _ _ => False) el) hc hN hy hyl hsw hi (blkOk_by ok) hg ht he hs) fun D σ H ⟨H0, G0, env, G, rs, w⟩ =>
    stepCompW (atEw rs (W.wp_bind.mp w) fun d h v G' H' rs' s' g r => by
      split at h
      · rename_i hl
        exact h _ G' H' (rs'.put hl r) s'
      · exact h.elim)
theorem okw_asg {tg e : Expr} {m : Ew} {t : Gx} {vs : List Nat} (he : OkEw X c E e m) (hg : OkG X vs tg t) (hs : swapsWithSole [tg] e pos.line X.env = pure false := by rfl) (hw : swappedStores [tg] e X.env = pure none := by rfl) (h1 : (assignEach [tg] X.env).map (·.2) = [assign tg X.env] := by rfl) :
    OkSw X c E (.Assign [tg] e pos) (wsAsg m t) := weakS (ps_asg he hg hs hw h1) fun D σ H ⟨H0, G0, env, G, rs, w⟩ => atEw rs (W.wp_bind.mp w) fun d h v G' H' rs' s' g r => by
  obtain ⟨env', e3, h⟩ := W.wp_ofO.mp (W.wp_bind.mp h)
  have h : postW X.K c H0 G0 G D (.nx env') := h
  exact ⟨_, env, G', d, env', rs'.rl.rl, r, e3, fun σ' rl' _ => h σ' G' H' (rs'.re rl') s'⟩
end
end Sh
end Part_WC

section Part_WD
set_option maxRecDepth 100000
set_option maxHeartbeats 2000000
/-! WD: loops, stores of fresh lists, defs and calls over W. -/
namespace Sh
open PySem L2

/-! ### loops -/
def forGoW (t : Gx) (b : Sw) : List D → Env → W Res
  | [], env => .ret (.nx env)
  | d :: ds, env => (W.ofO (t d env)).bind fun env1 => (b env1).bind fun r => match r with
    | .nx e => forGoW t b ds e
    | .ct e => forGoW t b ds e
    | .bk e => .ret (.nx e)
    | .rt d => .ret (.rt d)
def wsFor (src : Aw) (t : Gx) (b : Sw) : Sw := fun env => (src env).bind fun ds => forGoW t b ds env
def whGoW (t : Tw) (b : Sw) : Nat → Env → W Res
  | 0, _ => .fail
  | n + 1, env => (t env).bind fun k => if k then (b env).bind fun r => match r with
    | .nx e => whGoW t b n e
    | .ct e => whGoW t b n e
    | .bk e => .ret (.nx e)
    | .rt d => .ret (.rt d) else .ret (.nx env)
def wsWhile (n : Nat) (t : Tw) (b : Sw) : Sw := whGoW t b n
section
variable {X : Cx} {c : Ct} {E : XK} {pos : Pos}
theorem okw_for {tg iter : Expr} {body : List Stmt} {src : Aw} {t : Gx} {b : Sw} {vs : List Nat} (hp : PassesOwn (model X.prog X.w) X.A X.env X.xe) (hc : X.calm = true) (hi : OkIw X c E tg iter src) (hg : OkG X vs tg t) (hb : OkBw X c E body b) (hs : ∀ x, foldedSetIterable iter X.env x = pure x := by intro _; rfl) :
    OkSw X c E (.For tg iter body [] pos) (wsFor src t b) := weakS (ps_for hp hc hi hg hb hs) fun DE σ H ⟨H0, G0, env, G, rs, w⟩ => by
  refine ⟨_, env, G, rs.rl, W.wp_mono (W.wp_bind.mp w) (fun ds e2 J G1 H1 g1 wk => ?_) fun _ z => z.mono rs.g0.fr⟩
  -- behind i items: the rest gives what is wanted
  refine ⟨fun i m σ' H' => m = ds.length - i ∧ i ≤ ds.length ∧ ∃ (env' : Env) (G' : Hp), RsW X.K c H0 G0 env' σ' G' H' ∧ Same G1 G' ∧ (forGoW t b (ds.drop i) env').wp (postW X.K c H0 G0 G' DE) (XcK X.K c H0 E),
    ⟨ds.length, by simp, Nat.zero_le _, env, G1, rs.grow g1, Same.refl _, by rw [List.drop_zero]; exact W.wp_mono e2 (fun r h => h.mono g1.g) fun _ z => z⟩, ?_⟩
  rintro i m σ' H' ⟨rfl, hi, env', G', rs', s', hgo⟩
  obtain ⟨wstop, wgo⟩ := wk i G' H' (fun b o q _ => s' b o q) rs'.rl.rl.gh
  by_cases hlt : i < ds.length
  · obtain ⟨go, yl⟩ := wgo ds[i] (by simp [hlt])
    refine .inr ⟨go, fun σ2 H2 => i + 1 ≤ ds.length ∧ ∃ (env2 : Env) (G2 : Hp), RsW X.K c H0 G0 env2 σ2 G2 H2 ∧ Same G1 G2 ∧ (forGoW t b (ds.drop (i + 1)) env2).wp (postW X.K c H0 G0 G2 DE) (XcK X.K c H0 E),
      fun σ2 H2 ⟨p1, p2⟩ => ⟨ds.length - (i + 1), by omega, rfl, p1, p2⟩, fun x H2 hy => ?_⟩
    obtain ⟨G2, g2, r2⟩ := yl x H2 hy
    rw [List.drop_eq_getElem_cons hlt] at hgo
    obtain ⟨env1, t1, hgo⟩ := W.wp_ofO.mp (W.wp_bind.mp hgo)
    have hgo := W.wp_bind.mp hgo
    have w2 := g2.w (c := c) rs'.rl.nt
    have rs2 := rs'.grow w2
    refine ⟨_, env', untbl G2, _, env1, rs2.rl.rl, r2.untbl _ _, t1, fun σ3 rl3 _ => ?_⟩
    have rs3 : RsW X.K c H0 G0 env1 σ3 (untbl G2) H2 := rs2.re rl3
    have s2 := s'.trans w2.g
    refine ⟨H0, G0, env1, untbl G2, rs3, W.wp_mono hgo (fun r hr => ?_) fun _ z => z⟩
    cases r with
    | nx e => exact fun σ4 G4 H4 rs4 s4 => ⟨hlt, e, G4, rs4, s2.trans s4, W.wp_mono hr (fun r h => h.mono (w2.g.trans s4)) fun _ z => z⟩
    | ct e => exact fun σ4 G4 H4 rs4 s4 => ⟨hlt, e, G4, rs4, s2.trans s4, W.wp_mono hr (fun r h => h.mono (w2.g.trans s4)) fun _ z => z⟩
    | bk e =>
      have hr : postW X.K c H0 G0 G' DE (.nx e) := hr
      exact fun σ4 G4 H4 rs4 s4 => hr σ4 G4 H4 rs4 (w2.g.trans s4)
    | rt d => exact hr
  · rw [List.drop_eq_nil_of_le (by omega)] at hgo
    have hgo : postW X.K c H0 G0 G' DE (.nx env') := hgo
    exact .inl ⟨wstop (by omega), hgo σ' G' H' rs' (Same.refl _)⟩
theorem okw_while (n : Nat) {t : Expr} {body : List Stmt} {tc : Tw} {b : Sw} (hp : PassesOwn (model X.prog X.w) X.A X.env X.xe) (hc : OkTw X c E t tc) (hb : OkBw X c E body b) : OkSw X c E (.While t body [] pos) (wsWhile n tc b) := weakS (ps_while hp hc hb) fun DE σ H ⟨H0, G0, env, G, rs, w⟩ => by
  refine ⟨fun m σ' H' => ∃ (env' : Env) (G' : Hp), RsW X.K c H0 G0 env' σ' G' H' ∧ Same G G' ∧ (whGoW tc b m env').wp (postW X.K c H0 G0 G' DE) (XcK X.K c H0 E), ⟨n, env, G, rs, Same.refl G, w⟩, ?_⟩
  rintro m σ' H' ⟨env', G', rs', s', hgo⟩
  cases m with
  | zero => exact hgo.elim
  | succ m =>
    have hgo := W.wp_bind.mp (show ((tc env').bind _).wp _ _ from hgo)
    refine ⟨_, env', G', rs'.rl, W.wp_mono hgo (fun x hx G2 H2 g2 => ?_) fun _ z => z.mono rs'.g0.fr⟩
    have rs2 := rs'.grow g2
    have s2 := s'.trans g2.g
    cases x with
    | true =>
      refine ⟨fun σ3 H3 => ∃ (env3 : Env) (G3 : Hp), RsW X.K c H0 G0 env3 σ3 G3 H3 ∧ Same G G3 ∧ (whGoW tc b m env3).wp (postW X.K c H0 G0 G3 DE) (XcK X.K c H0 E), fun σ3 H3 q => ⟨m, Nat.lt_succ_self m, q⟩, ?_⟩
      refine ⟨H0, G0, env', G2, rs2, W.wp_mono (W.wp_bind.mp hx) (fun r hr => ?_) fun _ z => z⟩
      cases r with
      | nx e => exact fun σ4 G4 H4 rs4 s4 => ⟨e, G4, rs4, s2.trans s4, W.wp_mono hr (fun r h => h.mono (g2.g.trans s4)) fun _ z => z⟩
      | ct e => exact fun σ4 G4 H4 rs4 s4 => ⟨e, G4, rs4, s2.trans s4, W.wp_mono hr (fun r h => h.mono (g2.g.trans s4)) fun _ z => z⟩
      | bk e =>
        have hr : postW X.K c H0 G0 G' DE (.nx e) := hr
        exact fun σ4 G4 H4 rs4 s4 => hr σ4 G4 H4 rs4 (g2.g.trans s4)
      | rt d => exact hr
    | false =>
      have hx : postW X.K c H0 G0 G' DE (.nx env') := hx
      exact hx σ' G2 H2 rs2 g2.g
end

/-! ### fresh values -/
abbrev Fw := Env → W (Bool × D)
def FpW (K : PySem.W.Frag) (G' H' H : Hp) (v : V) : Bool × D → Prop
  | (false, d) => Rp K G' v d
  | (true, d) => ∃ p, v = .ref p ∧ ¬ Nn H p ∧ G' p = none ∧ Own K G' H' p d
def tFw (K : PySem.W.Frag) (c : Ct) (E : XK) (m : Fw) : TE := fun σ H Q => ∃ (O : Addr → Prop) (env : Env) (G : Hp), RlW K c O env σ G H ∧ (m env).wp (fun f => ∀ v G' H', GrW c G H G' H' → FpW K G' H' H v f → Q v H') (XcK K c H E)
def OkFw (X : Cx) (c : Ct) (E : XK) (e : Expr) (m : Fw) : Prop := PE X e (tFw X.K c E m)
def wfPl (m : Ew) : Fw := fun env => (m env).bind fun d => .ret (false, d)
def wfLst (m : Aw) : Fw := fun env => (m env).bind fun ds => if ds.length ≤ 1000000 then .ret (true, .lst ds) else .fail
def fL (m : Fx) : Fw := fun env => W.ofO (m env)
def wsSetF (i : Nat) (m : Fw) : Sw := fun env => (m env).bind fun f => if i < env.length then .ret (.nx (env.set i (some f))) else .fail
def wsPar (i j : Nat) (m n : Fw) : Sw := fun env => (m env).bind fun f => (n env).bind fun g => if i < env.length ∧ j < env.length then .ret (.nx ((env.set i (some f)).set j (some g))) else .fail
def wsApp (i : Nat) (m : Ew) : Sw := fun env => match env[i]? with
  | some (some (true, .lst ds)) => (m env).bind fun d => if ds.length < 1000000 then .ret (.nx (env.set i (some (true, .lst (ds ++ [d]))))) else .fail
  | _ => .fail
theorem Rl.imp {K : PySem.W.Frag} {O O' : Addr → Prop} {env : Env} {σ : L2.St} {G H : Hp} (r : Rl K O env σ G H) (h : ∀ a, O a → O' a) : Rl K O' env σ G H :=
  ⟨r.gh, r.len, r.fr, fun i d e => let ⟨a, q1, q2, q3, q4⟩ := r.ow i d e; ⟨a, q1, q2, h a q3, q4⟩, r.dj⟩
theorem fp_w {K : PySem.W.Frag} {G' H' H : Hp} {v : V} {f : Bool × D} (r : Fp K G' H' H v f) : FpW K (untbl G') H' H v f := by
  obtain ⟨b, d⟩ := f
  cases b with
  | false => exact Rp.untbl d v r
  | true =>
    obtain ⟨p, h1, h2, h3, h4⟩ := r
    refine ⟨p, h1, nn_none h2, ?_, h4.untbl⟩
    unfold untbl
    rw [h3]
theorem GrW.own {c : Ct} {G H G' H' : Hp} {p : Addr} {o : HO} (g : GrW c G H G' H') (n : H' p = none) : GrW c G H G' (upd H' p o) :=
  g.trans ((Gr.own g.gh n).w' fun n => n)
section
variable {K : PySem.W.Frag} {c : Ct} {H0 G0 G H G' H' : Hp} {env : Env} {σ : L2.St}
theorem RsW.putF (rs : RsW K c H0 G0 env σ G H) (g : GrW c G H G' H') {v : V} {f : Bool × D} (r : FpW K G' H' H v f) {i : Nat} (hi : i < env.length) : RsW K c H0 G0 (env.set i (some f)) (σ.set i (some v)) G' H' := by
  obtain ⟨b, d⟩ := f
  cases b with
  | false => exact (rs.grow g).put hi r
  | true =>
    obtain ⟨p, rfl, hp, hG, ho⟩ := r
    refine (rs.grow g).re ((rs.grow g).rl.rl.putO hi hG (rs.g0.fr.free hp) ho fun j e hj hs => ?_)
    obtain ⟨a, q1, q2, q3, q4⟩ := rs.rl.rl.ow j e hj
    rw [hs] at q1; cases q1
    exact hp q4.nn
/-- an owned object is changed -/
theorem RsW.write (r : RsW K c H0 G0 env σ G H) {i : Nat} {a : Addr} {d d' : D} {o : HO} (he : env[i]? = some (some (true, d))) (hs : σ[i]? = some (some (V.ref a))) (ho : Own K G (upd H a o) a d') : RsW K c H0 G0 (env.set i (some (true, d'))) σ G (upd H a o) :=
  r.back1 (r.plain.write he hs ho) r.rl.nt
end
section
variable {X : Cx} {c : Ct} {E : XK} {e a b : Expr} {es : List Expr} {pos : Pos}
theorem OkEw.f {m : Ew} (h : OkEw X c E e m) : OkFw X c E e (wfPl m) := weakE h fun σ H Q ⟨O, env, G, rl, w⟩ => ⟨O, env, G, rl, W.wp_mono (W.wp_bind.mp w) (fun d h v G' H' g r => h v G' H' g r) fun _ z => z⟩
theorem OkF.w {m : Fx} (h : OkF X e m) : OkFw X c E e (fL m) := weakE h fun σ H Q ⟨O, env, G, rl, w⟩ => by
  obtain ⟨d, e1, k⟩ := W.wp_ofO.mp w
  exact ⟨O, env, G, d, rl.rl, e1, fun v G' H' g r => k v _ H' (g.w rl.nt) (fp_w r)⟩
theorem okw_fLst {m : Aw} (h : OkAw X c E es m) : OkFw X c E (.List es pos) (wfLst m) := weakE (pe_lst h) fun σ H Q ⟨O, env, G, rl, w⟩ => by
  refine ⟨O, env, G, rl, W.wp_mono (W.wp_bind.mp w) (fun ds hd vs G1 H1 g1 r1 => ?_) fun _ z => z⟩
  split at hd
  · rename_i hl
    refine ⟨sz6 (by rw [r1.length]; exact hl), fun p hp => ?_⟩
    exact hd _ _ _ (g1.own (o := .lst vs) hp) ⟨p, rfl, g1.fr.free (nn_none hp), free_of g1.gh hp, vs, upd_same, r1⟩
  · exact hd.elim
theorem okw_setF (i : Nat) (hN : X.N.Nodup) {x : Str} {m : Fw} {pos' : Pos} (he : OkFw X c E e m) (hi : X.N[i]? = some x := by rfl) (hx : Loc X.env.scope x := by first | exact Or.inl rfl | exact Or.inr rfl) (hs : swapsWith e (some (.Name x pos')) pos.line X.env = pure false := by rfl)
    (hf : X.fn x = true ∨ X.env.scope.names.lookup x = some .local := by first | exact .inl rfl | exact .inr rfl) : OkSw X c E (.Assign [.Name x pos'] e pos) (wsSetF i m) :=
  weakS (ps_set hN hi hx he hs hf) fun DE σ H ⟨H0, G0, env, G, rs, w⟩ => by
    refine ⟨_, env, G, rs.rl, W.wp_mono (W.wp_bind.mp w) (fun f hf v G' H' g r => ?_) fun _ z => z.mono rs.g0.fr⟩
    split at hf
    · rename_i hl
      exact hf _ G' H' (rs.putF g r hl) g.g
    · exact hf.elim
theorem okw_par (i j : Nat) {x y : Str} {m n : Fw} {px py pt : Pos} {kt k2 pt2} (hc : X.calm = true) (hN : X.N.Nodup) (ha : OkFw X c E a m) (hb : OkFw X c E b n) (hi : X.N[i]? = some x := by rfl) (hj : X.N[j]? = some y := by rfl)
    (hx : Loc X.env.scope x := by first | exact Or.inl rfl | exact Or.inr rfl) (hfx : X.fn x = true ∨ X.env.scope.names.lookup x = some .local := by first | exact .inl rfl | exact .inr rfl) (hy : Loc X.env.scope y := by first | exact Or.inl rfl | exact Or.inr rfl) (hfy : X.fn y = true ∨ X.env.scope.names.lookup y = some .local := by first | exact .inl rfl | exact .inr rfl)
    (hw : swappedStores [.Tuple [.Name x px, .Name y py] kt pt] (.Tuple [a, b] k2 pt2) X.env = pure none := by rfl)
    (hs : swapsWithSole [.Tuple [.Name x px, .Name y py] kt pt] (.Tuple [a, b] k2 pt2) pos.line X.env = pure false := by rfl)
    (h1 : (assignEach [.Tuple [.Name x px, .Name y py] kt pt] X.env).map (·.2) = [assign (.Tuple [.Name x px, .Name y py] kt pt) X.env] := by rfl)
    (hn : (assignEach [.Name x px, .Name y py] X.env).length = 2 := by rfl) (hst : (assignEach [.Name x px, .Name y py] X.env).findIdx? (·.1) = none := by rfl)
    (hp1 : (assignEach (.Name x px :: [.Name y py]) X.env).map (·.2) = assign (.Name x px) X.env :: (assignEach [.Name y py] X.env).map (·.2) := by rfl) (hp2 : (assignEach (.Name y py :: []) X.env).map (·.2) = assign (.Name y py) X.env :: (assignEach [] X.env).map (·.2) := by rfl)
    (hsa : starEach (a :: [b]) X.env = (false, eval a X.env) :: starEach [b] X.env := by rfl) (hsb : starEach (b :: []) X.env = (false, eval b X.env) :: starEach [] X.env := by rfl) :
    OkSw X c E (.Assign [.Tuple [.Name x px, .Name y py] kt pt] (.Tuple [a, b] k2 pt2) pos) (wsPar i j m n) :=
  weakS (ps_asg (pe_tup (pa_cons ha (pa_cons hb pa_nil hsb) hsa)) (pg_tup hc (pgs_cons (pg_name hN hi hx hfx) (pgs_cons (pg_name hN hj hy hfy) pgs_nil hp2) hp1) hn hst) hs hw h1) fun DE σ H ⟨H0, G0, env, G, rs, w⟩ => by
    refine ⟨_, env, G, rs.rl, W.wp_mono (W.wp_bind.mp w) (fun f hf v G1 H1 g1 r1 => ⟨_, env, G1, (rs.grow g1).rl, W.wp_mono (W.wp_bind.mp hf) (fun g hg u G2 H2 g2 r2 => ?_) fun _ z => (z.mono rs.g0.fr).mono g1.fr⟩) fun _ z => z.mono rs.g0.fr⟩
    split at hg
    · rename_i hl
      refine ⟨by show 2 ≤ sizeLine; decide, fun p hp => ?_⟩
      have a1 := rs.putF g1 r1 hl.1
      have a2 := a1.putF g2 r2 (i := j) (by simpa using hl.2)
      have g3 := Gr.own (o := .tup [v, u]) g2.gh hp
      refine ⟨p, [v, u], rfl, SqT.of upd_same, rfl, v, [u], rfl, u, [], rfl, rfl, ?_⟩
      exact hg _ G2 _ (a2.grow (g3.w' fun n => n)) (g1.g.trans g2.g)
    · exact hg.elim
/-- as okw_par, where the compiler swaps -/
theorem okw_parL (i j : Nat) {x y : Str} {m n : Fw} {px py pt : Pos} {kt k2 pt2} (hc : X.calm = true) (hN : X.N.Nodup) (ha : OkFw X c E a m) (hb : OkFw X c E b n) (hi : X.N[i]? = some x := by rfl) (hj : X.N[j]? = some y := by rfl) (hij : i ≠ j := by decide)
    (hx : X.env.scope.names.lookup x = some .local := by rfl) (hy : X.env.scope.names.lookup y = some .local := by rfl)
    (hw : swappedStores [.Tuple [.Name x px, .Name y py] kt pt] (.Tuple [a, b] k2 pt2) X.env = pure (some [x, y]) := by rfl)
    (hs : swapsWithSole [.Tuple [.Name x px, .Name y py] kt pt] (.Tuple [a, b] k2 pt2) pos.line X.env = pure false := by rfl)
    (hsa : starEach (a :: [b]) X.env = (false, eval a X.env) :: starEach [b] X.env := by rfl) (hsb : starEach (b :: []) X.env = (false, eval b X.env) :: starEach [] X.env := by rfl) :
    OkSw X c E (.Assign [.Tuple [.Name x px, .Name y py] kt pt] (.Tuple [a, b] k2 pt2) pos) (wsPar i j m n) :=
  weakS (ps_par hc hN hi hj hij hx hy (pa_cons ha (pa_cons hb pa_nil hsb) hsa) hw hs) fun DE σ H ⟨H0, G0, env, G, rs, w⟩ => by
    refine ⟨_, env, G, rs.rl, W.wp_mono (W.wp_bind.mp w) (fun f hf v G1 H1 g1 r1 => ⟨_, env, G1, (rs.grow g1).rl, W.wp_mono (W.wp_bind.mp hf) (fun g hg u G2 H2 g2 r2 => ⟨v, u, rfl, ?_⟩) fun _ z => (z.mono rs.g0.fr).mono g1.fr⟩) fun _ z => z.mono rs.g0.fr⟩
    split at hg
    · rename_i hl
      have a1 := rs.putF g1 r1 hl.1
      exact hg _ G2 H2 (a1.putF g2 r2 (by simpa using hl.2)) (g1.g.trans g2.g)
    · exact hg.elim
theorem okw_app (i : Nat) {x : Str} {m : Ew} {p apos cpos : Pos} (he : OkEw X c E e m) (hi : X.N[i]? = some x := by rfl) (hv : Vis X.env.scope x := by first | exact Or.inl rfl | exact Or.inr (Or.inl rfl) | exact Or.inr (Or.inr rfl)) (hd : (x == ("__debug__" : Str)) = false := by decide)
    (hcd : (x == ("__classdict__" : Str)) = false := by decide) (hbase : attributeBase (.Name x p) "append" X.env (eval (.Name x p) X.env) = eval (.Name x p) X.env := by rfl) (hsa : starEach (e :: []) X.env = (false, eval e X.env) :: starEach [] X.env := by rfl)
    (hfew : ((backTo cpos (starEach (e :: []) X.env)).all (fun x => !x.1) && (backToKw cpos (keywordEach [] X.env)).all (fun x => x.1.isSome) && decide ((e :: ([] : List Expr)).length + ([] : List Keyword).length + (if ([] : List Keyword).isEmpty then 0 else 1) < 30)) = true := by rfl)
    (hpn : (backTo cpos (starEach ([] : List Expr) X.env)).any (·.1) = false := by rfl) (hline : (apos.endLine == cpos.line) = true := by rfl) (hsw : swapsWith (.Call (.Attribute (.Name x p) "append" apos) [e] [] cpos) none pos.line X.env = pure false := by rfl) :
    OkSw X c E (.Expr (.Call (.Attribute (.Name x p) "append" apos) [e] [] cpos) pos) (wsApp i m) :=
  weakS (ps_expr (pe_bm PySem.F.plainAttrs_list PySem.F.slot_list_append PySem.F.type_list_append mt_append (pe_var (i := i) hi hv hd hcd) (pa_cons he pa_nil hsa) hbase hfew hline hsa hpn) hsw) fun DE σ H ⟨H0, G0, env, G, rs, w⟩ => by
    unfold wsApp at w
    split at w
    · rename_i ds hn
      obtain ⟨a, q1, q2, q3, xs, w1, w2⟩ := rs.rl.rl.ow i _ hn
      refine ⟨_, q1, .inl ⟨rfl, xs, SqL.of w1⟩, atEw rs (W.wp_bind.mp w) fun d hd u G' H' rs' s' g r => ?_⟩
      split at hd
      · rename_i hl
        obtain ⟨a', z1, z2, z3, ys, y1, y2⟩ := rs'.rl.rl.ow i _ hn
        rw [q1] at z1; cases z1
        refine ⟨a, ys, u, rfl, rfl, y1, Nat.lt_of_lt_of_le (by rw [y2.length]; exact hl) (by decide), ?_⟩
        exact hd _ G' _ (rs'.write hn q1 ⟨_, upd_same, y2.snoc r⟩) s'
      · exact hd.elim
    · exact w.elim
end

/-! ### defs -/
/-- what may be called with data: the draws' objects as they ought to be -/
structure AtW (c : Ct) (G H : Hp) : Prop where
  gh : Same G H
  i : c.I H
  sg : ∀ a, c.S a → G a = none
  fg : ∀ a, c.F a → Nn H a
  nt : NoT G
theorem RlW.at {K : PySem.W.Frag} {c : Ct} {O : Addr → Prop} {env : Env} {σ : L2.St} {G H : Hp} (r : RlW K c O env σ G H) : AtW c G H := ⟨r.rl.gh, r.i, r.sg, r.fg, r.nt⟩
theorem AtW.grow {c : Ct} {G H G' H' : Hp} (r : AtW c G H) (g : GrW c G H G' H') : AtW c G' H' := ⟨g.gh, g.i r.i, fun a s => g.non (r.sg a s) (r.fg a (c.sf a s)), fun a f => g.nl a (r.fg a f), g.nt r.nt⟩
def spW (K : PySem.W.Frag) (c : Ct) (F : List D → W D) : Sp := fun vs H Q E => ∃ (n : Nat) (G : Hp) (ds : List D), vs.length = n ∧ AtW c G H ∧ Rps K G vs ds ∧ (F ds).wp (fun d => ∀ v G' H', GrW c G H G' H' → Rp K G' v d → Q v H') (XcK K c H E)
def fnW (n N : Nat) (m : Sw) (ds : List D) : W D := if ds.length = n ∧ n ≤ N then (m (startE N ds)).bind fun r => match r with
  | .rt d => .ret d
  | .nx _ => .ret .non
  | _ => .fail else .fail
theorem fnW_start {K : PySem.W.Frag} {c : Ct} {n : Nat} {N : List Str} {m : Sw} {vs : List V} {ds : List D} {G H : Hp} {Q : VK} {E : XK} (a : AtW c G H) (r : Rps K G vs ds)
    (w : (fnW n N.length m ds).wp (fun d => ∀ v G' H', GrW c G H G' H' → Rp K G' v d → Q v H') (XcK K c H E)) : vs.length = n ∧ tSw K c E m { nx := fun _ H' => Q .non H', rt := Q } (L2.start N vs) H := by
  unfold fnW at w
  split at w
  · rename_i hl
    refine ⟨by rw [r.length]; exact hl.1, H, G, startE N.length ds, G, ⟨⟨(start_rl (N := N) a.gh r (by omega)).imp fun _ => nn_none, a.i, a.sg, a.fg, fun x n f => n (a.fg x f), a.nt⟩, GrW.refl a.gh⟩, W.wp_mono (W.wp_bind.mp w) (fun r hr => ?_) fun _ z => z⟩
    cases r with
    | nx e => exact fun σ' G' H' rs' _ => hr .non G' H' rs'.g0 .non
    | rt d => exact fun v G' H' g r' => hr v G' H' g r'
    | bk e => exact hr.elim
    | ct e => exact hr.elim
  · exact w.elim
/-- a def of data that may draw and raise -/
theorem fn_okW {P : Program} {w : World} {K : PySem.W.Frag} {mg : Str → Option Value} {base : Heap} {c : Ct} {x qual : Str} {st : Stmt} {f : Addr} {fd : FuncData} {N ps : List Str} {k : Nat} {m : Sw} (Fo : Fun K x qual st f fd) (S : FnScope N ps (defScope st))
    (hbody : ∀ (cdv : Value) (A : Around) (outer : List PySem.Env) (s : Shared) (H : Hp) (E : XK), Room k (A.deeper (PyProof.Rows.envOfC qual (defScope st) s.heap.objs.size f cdv)) → OkBw (cxOf (L2.CX P w) P w K mg base N qual (defScope st) f cdv A outer s H E) c E (defBody st) m) :
    FnOk P w K mg base (L2.CX P w) (k + 1) f fd ps (spW K c (fnW ps.length N.length m)) := by
  refine Fo.okX S (fun vs H Q E h => ?_) (fun cdv A outer s H vs Q E hr h => ⟨tSw K c E m, hbody cdv A outer s H E hr, ?_⟩)
  · obtain ⟨n, G, ds, e, a, r, hF⟩ := h
    exact (fnW_start a r hF).1
  · obtain ⟨n, G, ds, e, a, r, hF⟩ := h
    exact (fnW_start a r hF).2
/-- a def that may be called by its name -/
structure ClW (P : Program) (w : World) (K : PySem.W.Frag) (mg : Str → Option Value) (base : Heap) (c : Ct) (k : Nat) (x : Str) (st : Stmt) (ps : List Str) (F : List D → W D) : Prop where
  ex : ∃ (f : Addr) (fd : FuncData), FnOk P w K mg base (L2.CX P w) k f fd ps (spW K c F) ∧ mg x = some (.ref f) ∧ Fun K x x st f fd ∧ Binds K fd ps []
section
variable {X : Cx} {c : Ct} {E : XK} {pos : Pos}
def wCall (F : List D → W D) (m : Aw) : Ew := fun env => (m env).bind F
theorem okw_cl {k j : Nat} {F : List D → W D} {x : Str} {st : Stmt} {ps : List Str} {p : Pos} {e : Expr} {es : List Expr} {ms : Aw} (cl : ClW X.prog X.w X.K X.mg X.base c k x st ps F) (hr : Room j X.A) (hj : k ≤ j) (hx : Passes (L2.CX X.prog X.w) X E) (ha : OkAw X c E (e :: es) ms) (hg : Gl X x := by rfl) (hdb : (x == ("__debug__" : Str)) = false := by decide)
    (he : starEach (e :: es) X.env = (false, eval e X.env) :: starEach es X.env := by rfl) (hpl : (backTo pos (starEach es X.env)).any (·.1) = false := by rfl) : OkEw X c E (.Call (.Name x p) (e :: es) [] pos) (wCall F ms) := by
  obtain ⟨f, fd, h1, h2, h3, h4⟩ := cl.ex
  refine weakE (pe_call h1 (hr.mono hj) hg h2 h3.kp h4 .nil hx ha hdb he hpl) fun σ H Q ⟨O, env, G, rl, w⟩ => ?_
  refine ⟨O, env, G, rl, W.wp_mono (W.wp_bind.mp w) (fun ds hd vs G1 H1 g1 r1 => ?_) fun _ z => z⟩
  show spW X.K c F (vs ++ []) H1 Q E
  rw [List.append_nil]
  exact ⟨_, G1, ds, rfl, rl.at.grow g1, r1, W.wp_mono hd (fun d h v G2 H2 g2 r2 => h v G2 H2 (g1.trans g2) r2) fun _ z => z.mono g1.fr⟩
end
end Sh
end Part_WD

section Part_WX
set_option maxRecDepth 100000
set_option maxHeartbeats 2000000
/-! WX: raising: classes with super().__init__(text); self.part = part, and classes without an __init__. -/
namespace Sh
open PySem PySem.Spec PyProof.Rows L2

/-- the parts of such a class's text -/
structure SupT (st : Stmt) : Prop where
  body : ∃ (m : Str) (j : Nat) (p0 p1 p2 p3 p4 p5 q0 q1 q2 q3 : Pos) (pl : Sem Bool), defBody st = [.Expr (.Call (.Attribute (.Call (.Name "super" p0) [] [] p1) "__init__" p2) [.Constant (.str m) j p3] [] p4) p5, .Assign [.Attribute (.Name "self" q0) "part" q1] (.Name "part" q2) q3] ∧
    (∀ (q : Str) (L f : Addr) (cd : Value) (cc : Addr), eval (.Call (.Attribute (.Call (.Name "super" p0) [] [] p1) "__init__" p2) [.Constant (.str m) j p3] [] p4) (PySem.W.ksEnv q (defScope st) L f cd cc) = (do
      let ov ← attributeBase (.Call (.Name "super" p0) [] [] p1) "__init__" (PySem.W.ksEnv q (defScope st) L f cd cc) (eval (.Call (.Name "super" p0) [] [] p1) (PySem.W.ksEnv q (defScope st) L f cd cc))
      standAt p2.atName
      let (fn, first) ← holding [ov] (getMethod ov "__init__" pl)
      callWith p4 fn first (backTo p4 (starEach [.Constant (.str m) j p3] (PySem.W.ksEnv q (defScope st) L f cd cc))) [])) ∧
    (∀ (q : Str) (L f : Addr) (cd : Value) (cc : Addr), interactive (PySem.W.ksEnv q (defScope st) L f cd cc) = false ∧ swapsWith (.Name "part" q2) (some (.Attribute (.Name "self" q0) "part" q1)) q3.line (PySem.W.ksEnv q (defScope st) L f cd cc) = pure false ∧
      swapsWith (.Call (.Attribute (.Call (.Name "super" p0) [] [] p1) "__init__" p2) [.Constant (.str m) j p3] [] p4) none p5.line (PySem.W.ksEnv q (defScope st) L f cd cc) = pure false)
  kind : (defScope st).kind = .function
  co : (defScope st).isCoroutine = false
  gen : (defScope st).isGenerator = false
  nocell : ∀ x ∈ (defScope st).names, x.2 ≠ .cell
  self : (defScope st).names.lookup ("self" : Str) = some .local
  part : (defScope st).names.lookup ("part" : Str) = some .local
  sup : (defScope st).names.lookup ("super" : Str) = some .globalImplicit
  kls : (defScope st).names.lookup ("__class__" : Str) = some .free
  free : ∀ y ∈ (defScope st).names, y.2 = .free → y.1 = "__class__"
  args : ∃ a0 : Arg, a0.arg = "self" ∧ ((defArgs st).posonlyargs ++ (defArgs st).args).head? = some a0
/-- what the written part says of such a class -/
structure SupX (P : Program) (K : PySem.W.Frag) (mg : Str → Option Value) (C : Addr) (st : Stmt) (fI : Addr) (fd : FuncData) : Prop where
  ox : OexC K C
  xi : PySem.W.excInitIn K C He.veBase "ValueError.__new__" = true
  noP : PySem.W.findIn K (.ref C) "part" = some none
  iC : PySem.W.findIn K (.ref C) "__init__" = some (some (.ref fI))
  tI : PySem.W.typeIn K (.ref fI) = some (.type "function")
  ex : ∃ (qual : Str) (cc cda : Addr) (oc : Value) (od : Option Addr) (dV kV doc pm ct : Value) (an : Option Addr) (osl : Array (Option Value)), fd = PySem.W.ksFn "__init__" qual (defArgs st) (defBody st) (defScope st) dV kV doc pm an (.ref cda) ct cc ∧
    K.lookup fI = some ⟨oc, od, .func fd, osl⟩ ∧ PySem.W.codeIn K (.ref cda) qual = true ∧
    (∃ (cl : Value) (cld : Option Addr) (csl : Array (Option Value)), K.lookup cc = some ⟨cl, cld, .cell (some (.ref C)), csl⟩) ∧
    ∃ (ccl : Value) (cdd : Option Addr) (vs : Array Value) (ccs : Array (Option Value)) (file : Str) (tf : Tok), K.lookup cda = some ⟨ccl, cdd, .fields vs, ccs⟩ ∧ vs[2]? = some (.str file tf) ∧ ((P.main.file : Str) == file) = true
  sup : mg "super" = none
  top : (P.main.scope.names.lookup ("super" : Str)).isSome = false
  cs : PySem.W.nsIn K cStatics "thirdparty.any" = some none
  supI : PySem.W.ks_superIn K C C "__init__" = some (some (.builtin "ValueError.__init__"))
  ve : PySem.W.subIn K (.ref C) (.type "ValueError") = some true
  self : PySem.W.mroIn K C (.ref C) = some true
  bind : Binds K fd ["self", "part"] []

/-- the context of the __init__'s body: its name __class__ is a cell of the class's -/
def supCx (CX : CXT) (P : Program) (w : World) (K : PySem.W.Frag) (mg : Str → Option Value) (base : Heap) (qual : Str) (scope : Scope) (f cc : Addr) (cd : Value) (A : Around) (outer : List PySem.Env) (s : Shared) (H : Hp) (E : XK) : Cx where
  prog := P
  w := w
  K := K
  mg := mg
  base := base
  A := A.deeper (PySem.W.ksEnv qual scope s.heap.objs.size f cd cc)
  N := ["self", "part"]
  s_0 := s
  H_0 := H
  env := PySem.W.ksEnv qual scope s.heap.objs.size f cd cc
  outer := outer
  stack := PySem.W.ksEnv qual scope s.heap.objs.size f cd cc :: outer
  ex := []
  calm := true
  fn := fun _ => false
  pn := []
  xe := fun e s' => wpAny (model P w) (A.deeper (PySem.W.ksEnv qual scope s.heap.objs.size f cd cc)) (leaving (PySem.W.ksEnv qual scope s.heap.objs.size f cd cc) e) (fun _ s'' => CX outer H s E e s'') (fun e' s'' => CX outer H s E e' s'') s'

theorem sup_start {CX : CXT} {P : Program} {w : World} {K : PySem.W.Frag} {mg : Str → Option Value} {base : Heap} {qual : Str} {st : Stmt} {f cc : Addr} {cd : Value} {A : Around} {outer : List PySem.Env} {s : Shared} {H : Hp} {E : XK} {v0 v1 : V} {u0 u1 : Value} {h₁ : Heap} {tk : Nat} {cx : Option Value} {co : Obj}
    (S : SupT st) (hd : A.handled = none) (e0 : Env0 P w K mg base A outer s H) (r0 : RelV v0 u0) (r1 : RelV v1 u1) (hns : h₁.Ns s.heap.objs.size fun x => ([(("self" : Str), u0), (("part" : Str), u1)] : List (Str × Value)).reverse.lookup x) (kp : ∀ b o, s.heap.get? b = some o → h₁.get? b = some o)
    (hcb : base.get? cc = some co) (hcc : co.data = .cell cx) :
    Inv (supCx CX P w K mg base qual (defScope st) f cc cd A outer s H E) [] (L2.start ["self", "part"] [v0, v1]) H { s with heap := h₁, toks := tk } := by
  have noA : ∀ b : Addr, b ∉ (supCx CX P w K mg base qual (defScope st) f cc cd A outer s H E).ex := fun b z => absurd (show b ∈ ([] : List Addr) from z) (by simp)
  have cells : ∀ {y : Str} {c : Addr}, (supCx CX P w K mg base qual (defScope st) f cc cd A outer s H E).env.cells.lookup y = some c → y = "__class__" ∧ c = cc := fun {y c} e => by
    have e : ([(("__class__" : Str), cc)] : List (Str × Addr)).lookup y = some c := e
    by_cases hy : y = "__class__"
    · subst hy
      simp [List.lookup] at e
      exact ⟨rfl, e.symm⟩
    · have : (y == ("__class__" : Str)) = false := by simpa using hy
      simp [List.lookup, this] at e
  have cAt : h₁.get? cc = some co := kp _ _ (e0.bs _ _ hcb).1
  have hkind : ∀ {y : Str} {k : NameKind}, (defScope st).names.lookup y = some k → (y, k) ∈ (defScope st).names := fun h => PySem.mem_of_lookup h
  refine ⟨⟨e0.mod, S.kind, rfl, rfl, Nat.le_refl _, fun y z c h1 h2 => (cells h1).1.trans (cells h2).1.symm, fun y hy => ?_, fun y c z _ => absurd (show false = true from z) (by decide), fun _ => hd, Around.frames_deeper e0.frames, .inr ⟨rfl, rfl⟩, fun b z => absurd z (noA b), e0.bs, e0.bsz, fun b _ _ => noA b, fun b z => absurd z (noA b), e0.funs, e0.frf⟩,
    rfl, e0.bare, Un.kept kp, ⟨_, hns, fun i y v h1 h2 h3 => ?_⟩, fun y c h => ⟨cx, co, by rw [(cells h).2]; exact cAt, hcc⟩, e0.hok.fresh (Nat.le_refl _), fun y c h => by rw [(cells h).2]; exact (e0.bs _ _ hcb).2, fun p hp => absurd (show p ∈ ([] : List (Addr × Obj)) from hp) (by simp), e0.hok.kept kp, rfl⟩
  · rcases hy with hy | hy
    · exact absurd rfl (S.nocell _ (hkind hy))
    · have := S.free _ (hkind hy) rfl
      refine ⟨cc, ?_⟩
      show ([(("__class__" : Str), cc)] : List (Str × Addr)).lookup y = some cc
      rw [show y = "__class__" from this]
      simp [List.lookup]
  · match i, h1, h2 with
    | 0, h1, h2 =>
      cases h1; cases h2
      exact ⟨u0, r0, .inl ⟨S.self, rfl⟩⟩
    | 1, h1, h2 =>
      cases h1; cases h2
      exact ⟨u1, r1, .inl ⟨S.part, rfl⟩⟩
    | i + 2, h1, _ => cases h1
/-- the bound __init__ of ValueError is called -/
theorem bound_call {P : Program} {w : World} {A : Around} {E : Value → Shared → Prop} {K : PySem.W.Frag} {C a u t1 : Addr} {us : List Value} {Q : Value → Shared → Prop} {h : Heap} {g : Array GenState} {d : Drawn} {t : Nat} {os : OsState} (KX : K.In h) (q : PySem.W.excInitIn K C He.veBase "ValueError.__new__" = true)
    (hu : h.get? u = some (PySem.W.kxs_mw "ValueError.__init__" a)) (he : h.get? a = some (PySem.W.excObj C t1 none .none)) (hz : us.length ≤ sizeLine)
    (fin : ∀ h' t2, (∀ b o, b ≠ a → h.get? b = some o → h'.get? b = some o) → h'.get? a = some (PySem.W.excObj C t2 none .none) → Q .none ⟨h', g, d, t, os⟩) : wpAny (model P w) A (call (.ref u) us) Q E ⟨h, g, d, t, os⟩ := by
  obtain ⟨nm, N, qn, bs, bm, hdct, sn, sub, ab, col, dd, k0, k1, k2, k3, k5, hC, _⟩ := PySem.W.excInit_of KX q
  have FB := PySem.F.excBase_ValueError
  refine wpAny_call (codeAny_of_tree ?_)
  show wpAny (model P w) A.in1 (callAny (.ref u) ⟨us, []⟩) _ _ _
  have e1 : (Value.type "method-wrapper" == Value.type "method" || Value.type "method-wrapper" == Value.type "builtin_function_or_method" || Value.type "method-wrapper" == Value.type "method-wrapper") = true := by decide
  simp only [callAny]
  refine wpAny_bind (wpAny_load hu ?_)
  simp only [PySem.W.kxs_mw, e1, if_true]
  refine PySem.W.KFB.if_so (by decide) (wpAny_bind (PySem.W.check_bound_init FB.toExcCallFacts hC he rfl (wpAny_bind (wpAny_pure (wpAny_pure ⟨plainId_quiet FB.init.plain _, codeAny_builtin FB.initEntry ?_⟩)))))
  exact PySem.W.exc_init_tree (cls := .ref C) (t0 := t1) (dv := none) (c2 := .none) (c3 := .none) (b4 := .bool false) he hz fun h' k e' _ => fin h' _ k e'
/-- self: an exception just made; part: anything -/
def spSup (C : Addr) : Sp := fun vs H Q _ => ∃ (a : Addr) (v : V), vs = [.ref a, v] ∧ H a = some (exo a C none) ∧ ∀ dx, H dx = none → dx ≠ a → Q .non (upd (upd H dx (exd dx [("part", v)])) a (exo a C (some dx)))
theorem sup_ok {CX : CXT} {P : Program} {w : World} {K : PySem.W.Frag} {mg : Str → Option Value} {base : Heap} {C fI : Addr} {fd : FuncData} {st : Stmt} (S : SupT st) (F : SupX P K mg C st fI fd) : FnOk P w K mg base CX 1 fI fd ["self", "part"] (spSup C) := by
  refine ⟨fun vs H Q E ⟨a, v, e, _⟩ => by rw [e]; rfl, fun A outer s H args us vs Q E hr e0 hb hv hs => ?_⟩
  obtain ⟨a, v, rfl, ea, hq⟩ := hs
  obtain ⟨u0, u1, rfl, r0, r1⟩ : ∃ u0 u1, us = [u0, u1] ∧ RelV (.ref a) u0 ∧ RelV v u1 := by
    cases hv with
    | cons x y => cases y with
      | cons z t => cases t; exact ⟨_, _, rfl, x, z⟩
  cases r0
  obtain ⟨qual, cc, cda, oc, od, dV, kV, doc, pm, ct, an, osl, efd, lk, hcd, ⟨cl, cld, csl, hcc⟩, ccl, cdd, cvs, ccs, file, tf, hcda, hfile, hmain⟩ := F.ex
  obtain ⟨m, j, p0, p1, p2, p3, p4, p5, q0, q1, q2, q3, pl, hbody, hev, hmisc⟩ := S.body
  obtain ⟨a0, ha0, hhead⟩ := S.args
  have KX : K.In s.heap := e0.mod.kin.keeps fun b o e => (e0.bs b o e).1
  have lim : s.heap.NoLimit := e0.mod.nolimit.keeps fun b o e => (e0.bs b o e).1
  subst efd
  refine PySem.ks_codeAny_call_defAt (binds := [(("self" : Str), Value.ref a), (("part" : Str), u1)]) hr.depth (KX _ _ lk) rfl lim (PySem.W.codeRec_of KX hcd) rfl hb S.nocell (fun x hx => ?_) (fun h₁ hns kp => ?_) S.co S.gen S.kind
  · have hx : x ∈ [(("self" : Str), Value.ref a), (("part" : Str), u1)] := hx
    rcases List.mem_cons.mp hx with z | z
    · rw [z]; exact S.self
    · rw [List.mem_singleton.mp z]; exact S.part
  have I := sup_start (CX := CX) (w := w) (qual := qual) (f := fI) (cd := .ref cda) (E := E) (tk := s.toks + [(("self" : Str), Value.ref a), (("part" : Str), u1)].length) S hr.hd e0 (show RelV (.ref a) (.ref a) from rfl) r1 hns kp (e0.mod.kin _ _ hcc) rfl
  have K1 : K.In h₁ := KX.keeps kp
  obtain ⟨hh, g, d, t, os⟩ := s
  show PySem.wpAt (model P w) (A.deeper (PySem.W.ksEnv qual (defScope st) hh.objs.size fI (.ref cda) cc)) (.func (defBody st) (PySem.W.ksEnv qual (defScope st) hh.objs.size fI (.ref cda) cc)) (execs (defBody st) (PySem.W.ksEnv qual (defScope st) hh.objs.size fI (.ref cda) cc)) _ _ ⟨h₁, g, d, t + 2, os⟩
  rw [hbody]
  refine ks_wpAt_execs_cons (ks_wpAt_Expr_any (hi := (hmisc _ _ _ _ _).1) (hs := (hmisc _ _ _ _ _).2.2) (ks_wpAt_MethodCall (he := hev _ _ _ _ _) (ks_wpAt_super_base S.sup S.kls (by decide) rfl (K1 _ _ lk) rfl hhead rfl (K1 _ _ hcda) rfl hfile hmain F.top ?_)))
  obtain ⟨mb, hb1, hb2⟩ := I.mod.blt
  refine PySem.W.ks_loadName_global S.kind S.sup (PySem.Calls.loadGlobal_builtin (I.mod.glob.keeps I.bk) F.sup (hb1.keeps I.bk) ((hb2 _ (by decide)).trans (by decide +kernel)) ⟨rfl, ?_⟩)
  refine wpAny_loadName_free S.kind S.kls rfl ⟨_, K1 _ _ hcc, rfl⟩ ?_
  rw [ha0]
  refine wpAny_loadName_local S.kind S.self hns rfl ?_
  obtain ⟨nm, q, N, bs, bm, sn, sub, ab, col, dd, k0, k1, k2, k3, k5, hC, hbm⟩ := F.ox.cls
  refine ks_wpAny_isType_cls (K1 _ _ hC) rfl ⟨rfl, ?_⟩
  obtain ⟨t1, hoa⟩ := exo_at I.hok ea
  refine ks_wpAny_call_super (K1 _ _ hC) rfl hoa rfl (fun c z => by cases z) (PySem.W.looks_mroIn K1 F.self) (fun h2 e2 k2' => ?_)
  have I2 : Inv (supCx CX P w K mg base qual (defScope st) fI cc (.ref cda) A outer ⟨hh, g, d, t, os⟩ H E) [] (L2.start ["self", "part"] [V.ref a, v]) H ⟨h2, g, d, t + 2, os⟩ := I.kept k2'
  have K2 : K.In h2 := K1.keeps k2'
  have IA : PySem.W.InstAt h2 a { cls := .ref C, dict := none, data := .fields #[.ref t1, .none, .none, .none, .bool false, .none] } C none := ⟨k2' _ _ hoa, rfl, rfl, trivial⟩
  have hI : PySem.W.Looks (model P w) h2 (isInstance (.ref a) (.type "ValueError")) true := IA.type.andThen (PySem.W.looks_subIn K2 F.ve)
  have hcl : PySem.W.clsIn K C = some { name := nm, bases := bs, mro := .ref C :: bm, ns := N, qualname := q, hasDict := true, slotNames := sn, subclasses := sub, abstract := ab, collection := col, hasDel := false } := by unfold PySem.W.clsIn; rw [hC] <;> rfl
  have hsI := F.supI
  unfold PySem.W.ks_superIn at hsI
  rw [hcl] at hsI
  refine PySem.W.kxs_getMethod PySem.W.kxs_ValueError e2 (PySem.W.looks_opaque K2 F.cs) (l₀ := .ref C :: bm) (fun A Q E s k q => wpAny_bind ((PySem.W.looks_clsIn K2 hcl) A _ E s k (wpAny_pure q))) rfl K2 hsI hI (PySem.W.ks_ne K2 IA hcl) (by decide) ?_
  -- the bound __init__ is called
  have gu : (h2.push (PySem.W.kxs_mw "ValueError.__init__" a)).get? h2.objs.size = some (PySem.W.kxs_mw "ValueError.__init__" a) := Heap.get?_push_size _ rfl
  have I3 : Inv (supCx CX P w K mg base qual (defScope st) fI cc (.ref cda) A outer ⟨hh, g, d, t, os⟩ H E) [] (L2.start ["self", "part"] [V.ref a, v]) H ⟨h2.push (PySem.W.kxs_mw "ValueError.__init__" a), g, d, t + 2 + 1, os⟩ := I2.kept fun b o e => Heap.get?_push_of_some _ e
  have neL : h2.objs.size ≠ (supCx CX P w K mg base qual (defScope st) fI cc (.ref cda) A outer ⟨hh, g, d, t, os⟩ H E).env.locals := fun z => by
    have := I2.lt
    rw [← z] at this
    exact Nat.lt_irrefl _ this
  have I4 : Inv (supCx CX P w K mg base qual (defScope st) fI cc (.ref cda) A outer ⟨hh, g, d, t, os⟩ H E) [(h2.objs.size, PySem.W.kxs_mw "ValueError.__init__" a)] (L2.start ["self", "part"] [V.ref a, v]) H ⟨h2.push (PySem.W.kxs_mw "ValueError.__init__" a), g, d, t + 2 + 1, os⟩ := I3.pins_of fun p hp => by
    rw [List.mem_singleton.mp hp]
    exact ⟨gu, I2.hok.fresh (Nat.le_refl _), neL, I2.nofs (Nat.le_refl _), fun v z => by cases z⟩
  have he : starEach (.Constant (.str m) j p3 :: []) (PySem.W.ksEnv qual (defScope st) hh.objs.size fI (.ref cda) cc) = (false, eval (.Constant (.str m) j p3) (PySem.W.ksEnv qual (defScope st) hh.objs.size fI (.ref cda) cc)) :: starEach [] (PySem.W.ksEnv qual (defScope st) hh.objs.size fI (.ref cda) cc) := rfl
  show wpAny (model P w) _ (callWith p4 (.ref h2.objs.size) [] (backTo p4 (starEach (.Constant (.str m) j p3 :: []) (PySem.W.ksEnv qual (defScope st) hh.objs.size fI (.ref cda) cc))) []) _ _ _
  have pa : PA (supCx CX P w K mg base qual (defScope st) fI cc (.ref cda) A outer ⟨hh, g, d, t, os⟩ H E) [.Constant (.str m) j p3] (tCons (tC (.str m)) tNil) := pa_cons pe_str pa_nil
  rw [he]
  refine PySem.W.kxs_callWith (i := "ValueError.__init__") (x := a) rfl ?_
  rw [← he]
  refine PySem.Calls.evalArgs_plain ?_
  refine thn (pa.run p4 _ _ _ _ (fun vs H1 => vs = [V.str m] ∧ H1 = H) I4 ⟨rfl, rfl⟩) fun us3 s3 ⟨vs3, H3, I5, r5, ev, eH⟩ => ?_
  subst ev
  rw [eH] at I5
  obtain ⟨h3, g3, d3, t3, os3⟩ := s3
  have hu3 : h3.get? h2.objs.size = some (PySem.W.kxs_mw "ValueError.__init__" a) := (I5.pin (h2.objs.size, PySem.W.kxs_mw "ValueError.__init__" a) (List.mem_append_right _ (List.mem_singleton.mpr rfl))).1
  refine ⟨hu3, ?_⟩
  obtain ⟨t4, hoa3⟩ := exo_at I5.hok ea
  have hlen : us3.length ≤ sizeLine := by rw [← r5.length]; show 1 ≤ sizeLine; decide
  refine bound_call I5.kIn F.xi hu3 hoa3 hlen fun h4 t5 k4 e4 => ?_
  have J := I5.write (t' := t3) (x := a) (e := a) (o := exo a C none) (by rw [ea]; exact True.intro) (.inl rfl) k4 ⟨_, e4⟩ (exo_ok e4)
  have eu : upd H a (exo a C none) = H := by
    funext b
    by_cases hb : b = a
    · rw [hb, upd_same, ea]
    · rw [upd_ne hb]
  rw [eu] at J
  have J0 : Inv (supCx CX P w K mg base qual (defScope st) fI cc (.ref cda) A outer ⟨hh, g, d, t, os⟩ H E) [] (L2.start ["self", "part"] [V.ref a, v]) H ⟨h4, g3, d3, t3, os3⟩ := J.pins_of fun p hp => by simp at hp
  -- self.part = part
  refine wpAt_of_wpAny ?_
  have ps : PSs (supCx CX P w K mg base qual (defScope st) fI cc (.ref cda) A outer ⟨hh, g, d, t, os⟩ H E) [.Assign [.Attribute (.Name "self" q0) "part" q1] (.Name "part" q2) q3] (tOst K "part" (tVar 0) (tVar 1)) :=
    pss_one (ps_ost (X := supCx CX P w K mg base qual (defScope st) fI cc (.ref cda) A outer ⟨hh, g, d, t, os⟩ H E) (pe_var (i := 0) rfl (.inl S.self)) (pe_var (i := 1) rfl (.inl S.part)) (hmisc _ _ _ _ _).2.1)
  refine wpAny_mono (ps.run [] _ _ H { nx := fun _ H' => Q .non H', rt := fun _ _ => False } J0 ⟨v, rfl, _, rfl, a, C, rfl, F.ox, F.noP, .inl ⟨ea, fun dx n ne => hq dx n ne⟩⟩) (fun fl s' hs => ?_) fun e s' hs => hs
  cases fl with
  | next =>
    obtain ⟨σ', H', J', q⟩ := hs
    exact ⟨.non, H', J'.os, J'.bare, J'.base, J'.hok, rfl, q⟩
  | ret u => obtain ⟨_, _, _, _, _, q⟩ := hs; exact q.elim
  | brk => obtain ⟨_, _, _, q⟩ := hs; exact q.elim
  | cont => obtain ⟨_, _, _, q⟩ := hs; exact q.elim
end Sh
end Part_WX

section Part_WY
set_option maxRecDepth 100000
set_option maxHeartbeats 2000000
/-! WY: raise; isinstance, fields, ==, is of instances and kept exceptions. -/
namespace Sh
open PySem PySem.Spec PyProof.Rows L2

/-! ### raise -/
def scalD : D → Bool
  | .non => true
  | .bl _ => true
  | .int _ => true
  | .str _ => true
  | _ => false
theorem scal_rp {K : PySem.W.Frag} {H : Hp} {v : V} {d : D} (r : Rp K H v d) (h : scalD d = true) : ∀ G, Rp K G v d := fun G => by
  cases r with
  | non => exact .non
  | bl b => exact .bl b
  | int i => exact .int i
  | str x => exact .str x
  | _ => cases h
def wsRaise (C : Addr) (m : Ew) : Sw := fun env => (m env).bind fun d => if scalD d then .raise ⟨C, some d⟩ else .fail
def wsRaise0 (C : Addr) : Sw := fun _ => .raise ⟨C, none⟩
section
variable {X : Cx} {c : Ct} {E : XK} {pos : Pos}
theorem okw_raise {C fI : Addr} {fd : FuncData} {st : Stmt} {x : Str} {p pos' : Pos} {e : Expr} {m : Ew} (hc : X.calm = true) (tk : Takes X (fun cls d _ H => E cls d H)) (S : SupT st) (F : SupX X.prog X.K X.mg C st fI fd) (hr : Room 2 X.A) (hm : X.mg x = some (.ref C)) (he : OkEw X c E e m) (hg : Gl X x := by rfl)
    (hdb : (x == ("__debug__" : Str)) = false := by decide) (hs : starEach (e :: []) X.env = (false, eval e X.env) :: starEach [] X.env := by rfl) (hpl : (backTo pos' (starEach ([] : List Expr) X.env)).any (·.1) = false := by rfl) :
    OkSw X c E (.Raise (some (.Call (.Name x p) [e] [] pos')) none pos) (wsRaise C m) := by
  have pm : PMk X (.Call (.Name x p) [e] [] pos') (tMkO C (spSup C) [] (tCons (tEw X.K c E m) tNil)) :=
    pmk_oex (CX := CX0) F.ox F.iC F.tI (sup_ok S F) hr F.bind .nil pass0 hg hm (pa_cons he pa_nil hs) hdb hs hpl
  refine weakS (ps_raise hc tk pm) fun DE σ H ⟨H0, G0, env, G, rs, w⟩ => ?_
  refine ⟨_, env, G, rs.rl, W.wp_mono (W.wp_bind.mp w) (fun d hd v G1 H1 g1 r1 => ?_) fun _ z => z.mono rs.g0.fr⟩
  split at hd
  · rename_i hsc
    refine ⟨by show 1 ≤ 1000; decide, fun a ha => ⟨a, v, rfl, upd_same, fun dx hdx ne => ?_⟩⟩
    have h1 : H1 dx = none := by rw [upd_ne ne] at hdx; exact hdx
    have hd : XcK X.K c H0 E ⟨C, some d⟩ := hd
    refine ⟨rfl, dx, [("part", v)], upd_same, by rw [upd_ne ne]; exact upd_same, h1, hd _ _ _ ?_ ⟨rfl, dx, v, rfl, upd_same, scal_rp r1 hsc⟩ (fun dy ey => by cases ey; exact (rs.g0.fr.trans g1.fr).free (nn_none h1))⟩
    refine (rs.g0.fr.trans g1.fr).trans (FrW.of fun b o q => ?_)
    rw [upd_ne (ne_of_none q h1), del_ne (ne_of_none q ha), upd_ne (ne_of_none q ha), upd_ne (ne_of_none q h1), upd_ne (ne_of_none q ha)]
    exact q
  · exact hd.elim
theorem okw_raise0 {C : Addr} {x mt : Str} {j : Nat} {p p2 pos' : Pos} (hc : X.calm = true) (tk : Takes X (fun cls d _ H => E cls d H)) (q : PySem.W.excIn X.K C He.veBase "ValueError.__new__" = true) (hm : X.mg x = some (.ref C)) (kC : PySem.W.keepIn X.K (.ref C) = true)
    (h1 : PySem.W.subIn X.K (.ref C) (.type "BaseException") = some true) (h2 : PySem.W.typeIn X.K (.ref C) = some (.type "type")) (hg : Gl X x := by rfl) (hdb : (x == ("__debug__" : Str)) = false := by decide) :
    OkSw X c E (.Raise (some (.Call (.Name x p) [.Constant (.str mt) j p2] [] pos')) none pos) (wsRaise0 C) :=
  weakS (ps_raise hc tk (pmk_own PySem.F.excBase_ValueError q hm kC (raises_own h1 h2) hg hdb)) fun DE σ H ⟨H0, G0, env, G, rs, w⟩ => by
    have w : XcK X.K c H0 E ⟨C, none⟩ := w
    exact w _ _ _ rs.g0.fr ⟨rfl, rfl⟩ (fun dx e => by cases e)
end

/-! ### isinstance with an own class -/
/-- what isinstance asks of an instance's class -/
structure InC (K : PySem.W.Frag) (C : Addr) : Prop where
  cl : Cls K C
  ha : PySem.W.findIn K (.ref C) "__class__" = some (some (.builtin "object.__class__"))
  hn : PySem.W.specialIn K (.builtin "object.__class__") "__get__" = some (some (.builtin "getset_descriptor.__get__"))
  ht : PySem.W.takesIn K (.builtin "object.__class__") = some true
  hm : PySem.W.mroIn K C (.type "object") = some true
/-- WC: the class of the instances, XS: the exceptions' classes -/
structure Own1 (K : PySem.W.Frag) (WC : Addr) (XS : List Addr) : Prop where
  w : InC K WC
  x : ∀ C ∈ XS, ExcC K C
/-- the type of a value, as a value of the model -/
def tyV (WC : Addr) (XS : List Addr) : D → Option Value
  | .ins C _ _ => if C = WC then some (.ref WC) else none
  | .exc C _ => if C ∈ XS then some (.ref C) else none
  | d => (tyD d).map Value.type
def isD (K : PySem.W.Frag) (WC : Addr) (XS : List Addr) (C : Addr) (d : D) : Option D := (tyV WC XS d).bind fun t => (PySem.W.kitOne K t (.ref C)).map .bl
/-- what the rules of the library ask of such a value -/
theorem kit_rp {X : Cx} {pins : List (Addr × Obj)} {σ : L2.St} {H : Hp} {s : Shared} {v : V} {u : Value} {d : D} {t : Value} {WC : Addr} {XS : List Addr} (O : Own1 X.K WC XS) (I : Inv X pins σ H s) (rv : RelV v u) (r : Rp X.K H v d) (e : tyV WC XS d = some t) :
    ∃ P : Heap → Prop, PySem.W.KitX X.K u t P ∧ P s.heap ∧ u ≠ .builtin "__main__.__loader__#opaque" := by
  have base : ∀ {T : String}, tyD d = some T → t = .type T → ∃ P : Heap → Prop, PySem.W.KitX X.K u t P ∧ P s.heap ∧ u ≠ .builtin "__main__.__loader__#opaque" := fun h1 h2 => by
    subst h2
    exact kit_of I rv (r.ty h1)
  cases d with
  | ins C ns ds =>
    have e : (if C = WC then some (Value.ref WC) else none) = some t := e
    split at e
    · rename_i hC
      cases e
      cases r with
      | ins h1 h2 h3 h4 =>
        subst hC
        exact kit_of I rv (.base (.ins h1 O.w.cl O.w.ha O.w.hn O.w.ht O.w.hm))
    · cases e
  | exc C ds =>
    have e : (if C ∈ XS then some (Value.ref C) else none) = some t := e
    split at e
    · rename_i hC
      cases e
      have F := O.x C hC
      obtain ⟨cdD, hcD, _⟩ := PySem.W.any_some F.hd
      have hcl : (PySem.W.clsIn X.K C).isSome = true := by rw [hcD]; rfl
      cases r with
      | @exc0 a _ h1 =>
        cases rv
        obtain ⟨⟨oe, vs, hget, hz, hv⟩, _, _⟩ := I.hok a _ h1
        have J : PySem.W.InstAt s.heap a oe C none := ⟨hget, hz.1, by unfold PySem.W.notCls; rw [hv] <;> rfl, by rw [hz.2]; trivial⟩
        exact ⟨_, PySem.W.kitx_exc (od := none) hcl F.hg F.hk F.hs F.ha F.hn F.ht F.hm, J, fun z => nomatch z⟩
      | @exc1 a _ dx v xs ds h1 h2 h3 h4 =>
        cases rv
        obtain ⟨⟨oe, vs, hget, hz, hv⟩, _, _⟩ := I.hok a _ h1
        have hx : ObjOk X.prog X.w H s.heap dx (.xd [("part", v)]) := I.hok dx _ h2
        obtain ⟨mA, hns, hr⟩ := hx
        obtain ⟨od, ho, hl⟩ := lookIn_ns hns
        have J : PySem.W.InstAt s.heap a oe C (some od) := ⟨hget, hz.1, by unfold PySem.W.notCls; rw [hv] <;> rfl, by rw [hz.2]; exact ho⟩
        exact ⟨_, PySem.W.kitx_exc (od := some od) hcl F.hg F.hk F.hs F.ha F.hn F.ht F.hm, J, fun z => nomatch z⟩
    · cases e
  | _ =>
    simp only [tyV] at e
    obtain ⟨T, h1, h2⟩ := Option.map_eq_some_iff.mp e
    exact base h1 h2.symm
def rIsD (K : PySem.W.Frag) (WC : Addr) (XS : List Addr) (C : Addr) : List V → Hp → VK → Prop := fun xs H Q => ∃ (v : V) (d : D) (t : Value) (b : Bool), xs = [v, .ref C] ∧ Rp K H v d ∧ tyV WC XS d = some t ∧ PySem.W.kitOne K t (.ref C) = some b ∧ Q (.bl b) H
theorem call_isD {X : Cx} {WC : Addr} {XS : List Addr} {C : Addr} (O : Own1 X.K WC XS) : CallR X (.builtin "isinstance") (rIsD X.K WC XS C) := by
  intro pins s σ H xs us Q I r h
  obtain ⟨v, d, t, b, rfl, rv, et, e, q⟩ := h
  obtain ⟨u1, u2, rfl, r1, r2⟩ := vals2 r
  cases r2
  obtain ⟨P, Z, p, hx⟩ := kit_rp O I r1 rv et
  exact PySem.W.kia_one Z I.kIn p e hx fun tk => ⟨.bl b, H, I.tok tk, rfl, q⟩
section
variable {X : Cx} {pos : Pos} {e : Expr} {m : Ex}
theorem ok_isD {WC : Addr} {XS : List Addr} (C : Addr) (O : Own1 X.K WC XS) {x : Str} {p q : Pos} (hm : X.mg "isinstance" = none) (hx : X.mg x = some (.ref C)) (he : OkE X e m) (hg : Gl X "isinstance" := by rfl) (hgx : Gl X x := by rfl) (hdx : (x == ("__debug__" : Str)) = false := by decide)
    (h1 : starEach (e :: [.Name x q]) X.env = (false, eval e X.env) :: starEach [.Name x q] X.env := by rfl) (h2 : starEach (.Name x q :: []) X.env = (false, eval (.Name x q) X.env) :: starEach [] X.env := by rfl) (hpl : (backTo pos (starEach [.Name x q] X.env)).any (·.1) = false := by rfl) :
    OkE X (.Call (.Name "isinstance" p) [e, .Name x q] [] pos) (fun env => (m env).bind (isD X.K WC XS C)) :=
  weakE (pe_callB (call_isD O) hg hm (by decide +kernel) (pa_cons he (pa_cons (pe_glob hgx hx (show RelV (.ref C) (.ref C) from rfl) hdx) pa_nil h2) h1) (by decide) (by decide) h1 hpl) fun σ H Q ⟨O, env, G, d, rl, e, k⟩ => by
    obtain ⟨dx, e1, e⟩ := Option.bind_eq_some_iff.mp e
    obtain ⟨t, e2, e⟩ := Option.bind_eq_some_iff.mp e
    obtain ⟨b, e3, e4⟩ := Option.map_eq_some_iff.mp e
    subst e4
    exact ⟨O, env, G, dx, rl, e1, fun v G1 H1 g1 r1 => ⟨v, dx, t, b, rfl, r1.mono g1.gh _ _, e2, e3, k _ G1 H1 g1 (.bl b)⟩⟩
end

/-! ### fields -/
def lookD (f : Str) : List Str → List D → Option D
  | n :: ns, d :: ds => if n = f then some d else lookD f ns ds
  | _, _ => none
theorem look_rps {K : PySem.W.Frag} {H : Hp} {f : Str} : ∀ {ns : List Str} {xs : List V} {ds : List D} {d : D}, ns.length = xs.length → Rps K H xs ds → lookD f ns ds = some d → ∃ v, (ns.zip xs).lookup f = some v ∧ Rp K H v d
  | [], _, _, _, _, _, h => by cases h
  | n :: ns, [], _, _, e, _, _ => by cases e
  | n :: ns, x :: xs, _, _, e, r, h => by
    cases r with
    | cons r1 r2 =>
      unfold lookD at h
      by_cases hn : n = f
      · rw [if_pos hn] at h
        cases h
        exact ⟨x, by simp [List.zip_cons_cons, List.lookup, hn], r1⟩
      · rw [if_neg hn] at h
        obtain ⟨v, q1, q2⟩ := look_rps (by simpa using e) r2 h
        have hb : (f == n) = false := by simpa using fun z : f = n => hn z.symm
        exact ⟨v, by simp [List.zip_cons_cons, List.lookup, hb]; exact q1, q2⟩
def fldD (WC : Addr) (f : Str) : D → Option D
  | .ins C ns ds => if C = WC then lookD f ns ds else none
  | _ => none
def partD (XS : List Addr) : D → Option D
  | .exc C [d] => if C ∈ XS then some d else none
  | _ => none
section
variable {X : Cx} {pos : Pos} {e : Expr} {m : Ex}
theorem ok_fld {WC : Addr} (f : Str) (c : Cls X.K WC) (n : NoAttr X.K WC f) (he : OkE X e m) (hb : attributeBase e f X.env (eval e X.env) = eval e X.env := by rfl) : OkE X (.Attribute e f pos) (fun env => (m env).bind (fldD WC f)) :=
  weakE (pe_fld he hb) fun σ H Q ⟨O, env, G, d, rl, e, k⟩ => by
    obtain ⟨dx, e1, e2⟩ := Option.bind_eq_some_iff.mp e
    refine ⟨O, env, G, dx, rl, e1, fun v G1 H1 g1 r1 => ?_⟩
    cases r1 with
    | @ins a C dd fs ns xs ds h1 h2 h3 h4 =>
      by_cases hC : C = WC
      · subst hC
        have e3 : lookD f ns ds = some d := by simpa [fldD] using e2
        obtain ⟨w, q1, q2⟩ := look_rps h3 h4 e3
        exact ⟨a, C, dd, fs, w, rfl, g1.gh _ _ h1, c, n, by rw [h2]; exact q1, k _ G1 H1 g1 q2⟩
      · simp [fldD, hC] at e2
    | _ => cases e2
/-- the reading: the field part of a kept exception -/
def tXk (K : PySem.W.Frag) (XS : List Addr) (te : TE) : TE := fun σ H Q => te σ H fun x H1 => ∃ (a C dd : Addr) (v : V), x = .ref a ∧ C ∈ XS ∧ H1 a = some (ExC (.ref C) (some dd) a) ∧ H1 dd = some (.xd [("part", v)]) ∧ Q v H1
theorem pe_xk {XS : List Addr} {te : TE} (T : ∀ C ∈ XS, XfC X.K C ∧ PySem.W.findIn X.K (.ref C) "part" = some none) (he : PE X e te) (hb : attributeBase e "part" X.env (eval e X.env) = eval e X.env := by rfl) : PE X (.Attribute e "part" pos) (tXk X.K XS te) := by
  refine ⟨fun pins s σ H Q I h => attr_of hb (thn (he.run pins s σ H _ I h) fun u s1 ⟨x, H1, I1, rx, a, C, dd, v, ex, hC, ha, hd, q⟩ => ?_)⟩
  subst ex
  obtain rfl : u = Value.ref a := rx
  obtain ⟨⟨oe, vs, hget, hz, hv⟩, _, _⟩ := I1.hok a _ ha
  have hx : ObjOk X.prog X.w H1 s1.heap dd (.xd [("part", v)]) := I1.hok dd _ hd
  obtain ⟨mA, hns, hr⟩ := hx
  obtain ⟨od, ho, hl⟩ := lookIn_ns hns
  obtain ⟨u, hu, ru⟩ := RelO.some_of (v := v) (o := mA "part") (by
    have z := hr "part"
    have e1 : List.lookup ("part" : Str) ([(("part" : Str), v)] : List (Str × V)) = some v := by simp [List.lookup]
    rw [e1] at z
    exact z)
  have J : PySem.W.InstAt s1.heap a oe C (some od) := ⟨hget, hz.1, by unfold PySem.W.notCls; rw [hv] <;> rfl, by rw [hz.2]; exact ho⟩
  have TC := (T C hC).1
  exact HandSPX.exc_get I1.kIn J TC.ga TC.gg TC.exC (PySem.W.findObj_own TC.hdC (T C hC).2 rfl (by rw [hl, hu])) (handed_of ru) ⟨v, H1, I1.tok _, ru, q⟩
theorem ok_part {XS : List Addr} (T : ∀ C ∈ XS, XfC X.K C ∧ PySem.W.findIn X.K (.ref C) "part" = some none) (he : OkE X e m) (hb : attributeBase e "part" X.env (eval e X.env) = eval e X.env := by rfl) : OkE X (.Attribute e "part" pos) (fun env => (m env).bind (partD XS)) :=
  weakE (pe_xk T he hb) fun σ H Q ⟨O, env, G, d, rl, e, k⟩ => by
    obtain ⟨dx, e1, e2⟩ := Option.bind_eq_some_iff.mp e
    refine ⟨O, env, G, dx, rl, e1, fun v G1 H1 g1 r1 => ?_⟩
    unfold partD at e2
    split at e2
    · rename_i C d'
      split at e2
      · rename_i hC
        cases e2
        cases r1 with
        | @exc1 a _ dd w xs ds h1 h2 h3 h4 =>
          subst h3
          cases h4 with
          | cons q1 q2 => exact ⟨a, C, dd, w, rfl, hC, g1.gh _ _ h1, g1.gh _ _ h2, k _ G1 H1 g1 q1⟩
      · cases e2
    · cases e2
end

/-! ### is -/
def sIs (neg : Bool) : D → D → Option D
  | .bl a, .bl b => some (.bl (if neg then !decide (a = b) else decide (a = b)))
  | .raw _, .non => none
  | .non, .non => some (.bl (!neg))
  | _, .non => some (.bl neg)
  | _, _ => none
abbrev rIsN : R2 := fun x y H Q => y = .non ∧ Q (.bl (decide (x = .non))) H
abbrev rNotN : R2 := fun x y H Q => y = .non ∧ Q (.bl (!decide (x = .non))) H
theorem rp_non {K : PySem.W.Frag} {H : Hp} {v : V} {d : D} (r : Rp K H v d) (h1 : ∀ w, d ≠ .raw w) : decide (v = V.non) = (match d with | .non => true | _ => false) := by
  cases r with
  | raw v => exact absurd rfl (h1 v)
  | _ => first | rfl | exact decide_eq_false (fun z => by cases z)
theorem sem_is {K : PySem.W.Frag} : SemP K (fun x y H Q => rIsB x y H Q ∨ rIsN x y H Q) (sIs false) := fun x y dx dy d H Q rx ry e k => by
  cases dy with
  | bl b =>
    cases dx with
    | bl a =>
      cases e
      cases rx; cases ry
      exact .inl ⟨a, b, rfl, rfl, k _ fun _ => .bl _⟩
    | _ => cases e
  | non =>
    cases ry
    refine .inr ⟨rfl, ?_⟩
    rw [rp_non rx (fun w z => by subst z; cases e)]
    cases dx <;> first | (cases e; exact k _ fun _ => .bl _) | cases e
  | _ => cases dx <;> cases e
theorem sem_isnot {K : PySem.W.Frag} : SemP K (fun x y H Q => rNotB x y H Q ∨ rNotN x y H Q) (sIs true) := fun x y dx dy d H Q rx ry e k => by
  cases dy with
  | bl b =>
    cases dx with
    | bl a =>
      cases e
      cases rx; cases ry
      exact .inl ⟨a, b, rfl, rfl, k _ fun _ => .bl _⟩
    | _ => cases e
  | non =>
    cases ry
    refine .inr ⟨rfl, ?_⟩
    rw [rp_non rx (fun w z => by subst z; cases e)]
    cases dx <;> first | (cases e; exact k _ fun _ => .bl _) | cases e
  | _ => cases dx <;> cases e
section
variable {X : Cx} {pos : Pos} {a b : Expr} {ma mb : Ex} {c : Ct} {E : XK} {na nb : Ew}
theorem ok_is (ha : OkE X a ma) (hb : OkE X b mb) : OkE X (.Compare a [.Is] [b] pos) (eBin (sIs false) ma mb) := ok_cmp (op_isBl.or op_isN) sem_is ha.p hb.p
theorem ok_isnot (ha : OkE X a ma) (hb : OkE X b mb) : OkE X (.Compare a [.IsNot] [b] pos) (eBin (sIs true) ma mb) := ok_cmp (op_notBl.or op_notN) sem_isnot ha.p hb.p
theorem ok_isT (ha : OkE X a ma) (hb : OkE X b mb) : OkT X (.Compare a [.Is] [b] pos) (bBin (sIs false) ma mb) := ok_cmpT (op_isBl.or op_isN) sem_is ha.p hb.p
theorem ok_isnotT (ha : OkE X a ma) (hb : OkE X b mb) : OkT X (.Compare a [.IsNot] [b] pos) (bBin (sIs true) ma mb) := ok_cmpT (op_notBl.or op_notN) sem_isnot ha.p hb.p
theorem okw_is (ha : OkEw X c E a na) (hb : OkEw X c E b nb) : OkEw X c E (.Compare a [.Is] [b] pos) (wBin (sIs false) na nb) := okw_cmp (op_isBl.or op_isN) sem_is ha hb.p
theorem okw_isnot (ha : OkEw X c E a na) (hb : OkEw X c E b nb) : OkEw X c E (.Compare a [.IsNot] [b] pos) (wBin (sIs true) na nb) := okw_cmp (op_notBl.or op_notN) sem_isnot ha hb.p
theorem okw_isT (ha : OkEw X c E a na) (hb : OkEw X c E b nb) : OkTw X c E (.Compare a [.Is] [b] pos) (wBinT (sIs false) na nb) := okw_cmpT (op_isBl.or op_isN) sem_is ha hb.p
theorem okw_isnotT (ha : OkEw X c E a na) (hb : OkEw X c E b nb) : OkTw X c E (.Compare a [.IsNot] [b] pos) (wBinT (sIs true) na nb) := okw_cmpT (op_notBl.or op_notN) sem_isnot ha hb.p
/-- the empty dict as a value -/
theorem ok_emp : OkE X (.Dict [] [] pos) (eC .emp) := weakE pe_dnewK fun σ H Q ⟨O, env, G, d, rl, e, k⟩ => by
  cases e
  exact fun p hp => k _ _ _ (Gr.new (o := .dK []) rl.gh hp) (.emp upd_same)
end
end Sh
end Part_WY

section Part_WI
set_option maxRecDepth 100000
set_option maxHeartbeats 2000000
/-! WI: a class with two fields that its __init__ stores last; instances made; ==. -/
namespace Sh
open PySem PySem.Spec PyProof.Rows L2

/-- the first slot still holds the instance -/
def selfIs (self : D) (o : Option (Option (Bool × D))) : Bool := match self, o with
  | .raw v, some (some (false, .raw u)) => decide (v = u)
  | _, _ => false
theorem selfIs_eq {v : V} {o : Option (Option (Bool × D))} (h : selfIs (.raw v) o = true) : o = some (some (false, .raw v)) := by
  unfold selfIs at h
  split at h
  · rename_i e
    cases e
    rw [of_decide_eq_true h]
  · cases h
/-- C(a, b): the statements m ahead of self.n0 = m0; self.n1 = m1 -/
def fnI (C : Addr) (n0 n1 : Str) (n N : Nat) (m : Sw) (m0 m1 : Ex) (ds : List D) : W D := .any (fun d => ∃ a : Addr, d = .raw (.ref a)) fun self => if ds.length = n ∧ n + 1 ≤ N then (m (startE N (self :: ds))).bind fun r => match r with
  | .nx env => if selfIs self env[0]? then (W.ofO (m0 env)).bind fun d0 => (W.ofO (m1 env)).bind fun d1 => .ret (.ins C [n0, n1] [d0, d1]) else .fail
  | _ => .fail else .fail
/-- what the __init__ promises -/
def spI (K : PySem.W.Frag) (c : Ct) (C : Addr) (n0 n1 : Str) (n N : Nat) (m : Sw) (m0 m1 : Ex) : Sp := fun vs H Q E => ∃ (x dx : Addr) (us : List V) (G : Hp) (ds : List D), vs = .ref x :: us ∧ AtW c G H ∧ G x = none ∧ ¬ c.F x ∧ H x = some (.ins C dx []) ∧ Rps K G us ds ∧ ds.length = n ∧ n + 1 ≤ N ∧
  (m (startE N (.raw (.ref x) :: ds))).wp (fun r => ∃ (env : Sh.Env) (d0 d1 : D), r = .nx env ∧ env[0]? = some (some (false, .raw (.ref x))) ∧ m0 env = some d0 ∧ m1 env = some d1 ∧ ∀ (v0 v1 : V) (G' H' : Hp), GrW c G H G' H' → Rp K G' v0 d0 → Rp K G' v1 d1 → Q .non (upd H' x (.ins C dx (putF n1 v1 (putF n0 v0 []))))) (XcK K c H E)
theorem own_kind {K : PySem.W.Frag} {G H : Hp} {a : Addr} : ∀ {d : D}, Own K G H a d → (∃ xs, H a = some (.lst xs)) ∨ ∃ ys, H a = some (.dT ys)
  | .lst _, ⟨xs, h, _⟩ => .inl ⟨xs, h⟩
  | .dct _, ⟨ys, h, _⟩ => .inr ⟨ys, h⟩
theorem rl_other {K : PySem.W.Frag} {O : Addr → Prop} {env : Sh.Env} {σ : L2.St} {G H : Hp} (r : Rl K O env σ G H) {L C dx : Addr} {fs : List (Str × V)} {o : HO} (hG : G L = none) (hL : H L = some (.ins C dx fs)) : Rl K O env σ G (upd H L o) :=
  r.other hG fun a ⟨i, d, h1, h2⟩ z => by
    obtain ⟨b, q1, q2, q3, q4⟩ := r.ow i d h1
    rw [h2] at q1; cases q1
    rcases own_kind q4 with ⟨xs, h⟩ | ⟨ys, h⟩ <;> (rw [z, hL] at h; cases h)
theorem upd2 {H : Hp} {a : Addr} {o o' : HO} : upd (upd H a o) a o' = upd H a o' := by
  funext b
  by_cases h : b = a
  · rw [h, upd_same, upd_same]
  · rw [upd_ne h, upd_ne h, upd_ne h]
/-- the two stores -/
theorem init_tail {X : Cx} {n0 n1 : Str} {e0 e1 : Expr} {m0 m1 : Ex} {f0 f1 p0 p1 q0 q1 : Pos} {x0 x1 : Str} {C : Addr} (cl : Cls X.K C) (a0 : NoAttr X.K C n0) (a1 : NoAttr X.K C n1) (h0 : OkE X e0 m0) (h1 : OkE X e1 m1) (hs : PE X (.Name x0 f0) (tVar 0)) (hs1 : PE X (.Name x1 f1) (tVar 0))
    (w0 : swapsWith e0 (some (.Attribute (.Name x0 f0) n0 p0)) q0.line X.env = pure false) (w1 : swapsWith e1 (some (.Attribute (.Name x1 f1) n1 p1)) q1.line X.env = pure false) :
    PSs X [.Assign [.Attribute (.Name x0 f0) n0 p0] e0 q0, .Assign [.Attribute (.Name x1 f1) n1 p1] e1 q1] (tSeq (sFld X.K (tVar 0) (tE X.K m0) n0) (sFld X.K (tVar 0) (tE X.K m1) n1)) :=
  pss_cons (ps_fld hs h0 w0) (pss_one (ps_fld hs1 h1 w1))
theorem init_okW {P : Program} {w : World} {K : PySem.W.Frag} {mg : Str → Option Value} {base : Heap} {c : Ct} {qual : Str} {st : Stmt} {f C : Addr} {fd : FuncData} {N ps : List Str} {k : Nat} {m : Sw} {m0 m1 : Ex} {n0 n1 : Str} {s1 s2 : List Stmt} {self : Str} (Fo : Fun K "__init__" qual st f fd) (S : FnScope N (self :: ps) (defScope st))
    (hd : defBody st = s1 ++ s2) (cl : Cls K C) (a0 : NoAttr K C n0) (a1 : NoAttr K C n1)
    (hbody : ∀ (cdv : Value) (A : Around) (outer : List PySem.Env) (s : Shared) (H : Hp) (E : XK), Room k (A.deeper (PyProof.Rows.envOfC qual (defScope st) s.heap.objs.size f cdv)) →
      OkBw (cxOf (L2.CX P w) P w K mg base N qual (defScope st) f cdv A outer s H E) c E s1 m ∧ PSs (cxOf (L2.CX P w) P w K mg base N qual (defScope st) f cdv A outer s H E) s2 (tSeq (sFld K (tVar 0) (tE K m0) n0) (sFld K (tVar 0) (tE K m1) n1)))
    (happ : ∀ (X : Cx) (t1 t2 : TS), PSs X s1 t1 → PSs X s2 t2 → PSs X (s1 ++ s2) (tSeq t1 t2)) :
    FnOk P w K mg base (L2.CX P w) (k + 1) f fd (self :: ps) (spI K c C n0 n1 ps.length N.length m m0 m1) := by
  refine Fo.okX S (fun vs H Q E h => ?_) (fun cdv A outer s H vs Q E hr h => ⟨tSeq (tSw K c E m) (tSeq (sFld K (tVar 0) (tE K m0) n0) (sFld K (tVar 0) (tE K m1) n1)), ?_, ?_⟩)
  · obtain ⟨x, dx, us, G, ds, rfl, at_, gx, fx, hx, r, hl, hN, w⟩ := h
    simp [r.length, hl]
  · rw [hd]
    obtain ⟨b1, b2⟩ := hbody cdv A outer s H E hr
    exact happ _ _ _ b1 b2
  · obtain ⟨x, dx, us, G, ds, rfl, at_, gx, fx, hx, r, hl, hN, w⟩ := h
    have rs0 : RsW K c H G (startE N.length (.raw (.ref x) :: ds)) (L2.start N (.ref x :: us)) G H :=
      ⟨⟨(start_rl (N := N) at_.gh (.cons (.raw _) r) (by simpa [hl] using hN)).imp fun _ => nn_none, at_.i, at_.sg, at_.fg, fun a n z => n (at_.fg a z), at_.nt⟩, GrW.refl at_.gh⟩
    refine ⟨H, G, _, G, rs0, W.wp_mono w (fun r hr => ?_) fun _ z => z⟩
    obtain ⟨env, d0, d1, rfl, he0, e0, e1, kk⟩ := hr
    intro σ1 G1 H1 r1 s1'
    have nS : ¬ c.S x := fun z => fx (c.sf x z)
    have hx1 : H1 x = some (.ins C dx []) := r1.g0.h _ _ hx nS nt_ins
    have gx1 : G1 x = none := r1.g0.non gx ⟨_, hx, nt_ins⟩
    obtain ⟨sv, z0, q0⟩ := r1.rl.rl.fr 0 _ he0
    cases q0
    refine ⟨_, env, G1, d0, r1.rl.rl, e0, fun v0 G2 H2 g2 r2 => ⟨_, z0, x, C, dx, [], rfl, g2.h _ _ hx1, cl, a0, by show 0 < 1000; decide, ?_⟩⟩
    have gx2 : G2 x = none := grNone g2 gx1 hx1
    have hx2 := g2.h _ _ hx1
    have rl2 : Rl K (fun a => ¬ Nn H a) env σ1 G2 (upd H2 x (.ins C dx (putF n0 v0 []))) := rl_other (r1.rl.rl.grow g2) gx2 hx2
    refine ⟨_, env, G2, d1, rl2, e1, fun v1 G3 H3 g3 r3 => ⟨_, z0, x, C, dx, _, rfl, g3.h _ _ upd_same, cl, a1, by show 1 < 1000; decide, ?_⟩⟩
    have gx3 : G3 x = none := grNone g3 gx2 upd_same
    -- the heap before the stores, with what was made meanwhile
    have key := kk v0 v1 (untbl G3) (upd H3 x (.ins C dx [])) ⟨fun b o e n t => ?_, at_.nt.sub ((r1.g0.g.trans g2.g).trans g3.g), fun b o e => ?_, fun b o e => ?_, fun b n => ?_, fun i => ?_, fun _ => noT_untbl⟩ ((r2.mono g3.g _ _).untbl _ _) (r3.untbl _ _)
    · rw [upd2] at key
      exact key
    · by_cases hb : b = x
      · rw [hb, upd_same]; rw [hb, hx] at e; exact e
      · rw [upd_ne hb]; exact g3.h _ _ (by rw [upd_ne hb]; exact g2.h _ _ (r1.g0.h _ _ e n t))
    · have e := (of_untbl e).1
      rw [upd_ne (fun z => by rw [z, gx3] at e; cases e)]; exact g3.gh _ _ e
    · rcases g3.nw b o (of_untbl e).1 with z | z
      · rcases g2.nw b o z with y | y
        · exact r1.g0.nw b o y
        · exact .inr (r1.g0.fr.free (nn_none y))
      · right
        by_cases hb : b = x
        · rw [hb, upd_same] at z; cases z
        · rw [upd_ne hb] at z; exact r1.g0.fr.free (nn_none (g2.h.free z))
    · by_cases hb : b = x
      · exact ⟨_, by rw [hb]; exact upd_same, nt_ins⟩
      · obtain ⟨u, e, t⟩ := nl_of g2.h b (r1.g0.nl b n)
        exact ⟨u, by rw [upd_ne hb]; exact g3.h _ _ (by rw [upd_ne hb]; exact e), t⟩
    · refine c.st (fun b o e z => ?_) (r1.g0.i i)
      by_cases hb : b = x
      · rw [hb, upd_same]; rw [hb, hx1] at e; exact e
      · rw [upd_ne hb]; exact g3.h _ _ (by rw [upd_ne hb]; exact g2.h _ _ e)
section
variable {X : Cx} {c : Ct} {E : XK} {pos : Pos}
theorem make_step {K : PySem.W.Frag} {C : Addr} {n0 n1 : Str} {n N : Nat} {m : Sw} {m0 m1 : Ex} {vs : List V} {ds : List D} {G H : Hp} {Q : VK} (ne : n0 ≠ n1) (a : AtW c G H) (r : Rps K G vs ds)
    (w : (fnI C n0 n1 n N m m0 m1 ds).wp (fun d => ∀ v G' H', GrW c G H G' H' → Rp K G' v d → Q v H') (XcK K c H E)) (x dx : Addr) (hx : H x = none) (hdx : H dx = none) (nxd : dx ≠ x) :
    spI K c C n0 n1 n N m m0 m1 (.ref x :: vs) (upd (upd H dx (.own x)) x (.ins C dx [])) (fun v H2 => v = .non ∧ Q (.ref x) H2) E := by
  have nb : ∀ b u, H b = some u → b ≠ x ∧ b ≠ dx := fun b u q => ⟨ne_of_none q hx, ne_of_none q hdx⟩
  have s2 : Same H (upd (upd H dx (.own x)) x (.ins C dx [])) := fun b u q => by rw [upd_ne (nb b u q).1, upd_ne (nb b u q).2]; exact q
  have gx : G x = none := free_of a.gh hx
  have fx : ¬ c.F x := fun z => nn_none hx (a.fg x z)
  have w := w (.raw (.ref x)) ⟨x, rfl⟩
  split at w
  case isFalse => exact w.elim
  rename_i hl
  have g0 : GrW c G H G (upd (upd H dx (.own x)) x (.ins C dx [])) := ⟨fun b o q _ _ => s2 _ _ q, Same.refl G, a.gh.trans s2, fun _ _ q => .inl q, nl_of s2, c.st fun b o q _ => s2 _ _ q, fun n => n⟩
  have at2 := a.grow g0
  refine ⟨x, dx, vs, G, ds, rfl, at2, gx, fx, upd_same, r, hl.1, hl.2, W.wp_mono (W.wp_bind.mp w) (fun r hr => ?_) fun _ z => z.mono g0.fr⟩
  cases r with
  | nx env =>
    have hr : (if selfIs (.raw (.ref x)) env[0]? = true then (W.ofO (m0 env)).bind fun d0 => (W.ofO (m1 env)).bind fun d1 => .ret (.ins C [n0, n1] [d0, d1]) else .fail : W D).wp (fun d => ∀ v G' H', GrW c G H G' H' → Rp K G' v d → Q v H') (XcK K c H E) := hr
    split at hr
    · rename_i he
      have he := selfIs_eq he
      obtain ⟨d0, e0, hr⟩ := W.wp_ofO.mp (W.wp_bind.mp hr)
      obtain ⟨d1, e1, hr⟩ := W.wp_ofO.mp (W.wp_bind.mp hr)
      refine ⟨env, d0, d1, rfl, he, e0, e1, fun v0 v1 G' H' g q0 q1 => ⟨rfl, ?_⟩⟩
      have hr : ∀ v G' H', GrW c G H G' H' → Rp K G' v (.ins C [n0, n1] [d0, d1]) → Q v H' := hr
      have nS : ¬ c.S x := fun z => fx (c.sf x z)
      have hx' : H' x = some (.ins C dx []) := g.h _ _ upd_same nS nt_ins
      have gx' : G' x = none := g.non gx ⟨_, upd_same, nt_ins⟩
      have eG : Same G' (upd G' x (.ins C dx (putF n1 v1 (putF n0 v0 [])))) := fun b u q => by rw [upd_ne (fun z => by rw [z, gx'] at q; cases q)]; exact q
      have hp : putF n1 v1 (putF n0 v0 []) = [n0, n1].zip [v0, v1] := by
        show putF n1 v1 [(n0, v0)] = [(n0, v0), (n1, v1)]
        unfold putF
        rw [if_neg ne]
        rfl
      refine hr (.ref x) (upd G' x (.ins C dx (putF n1 v1 (putF n0 v0 [])))) _ ⟨fun b o q n t => ?_, (g0.trans g).g.trans eG, fun b u q => ?_, fun b u q => ?_, fun b n => ?_, fun i => ?_, fun n => ((g0.trans g).nt n).upd nt_ins⟩ (.ins upd_same hp rfl (.cons (q0.mono eG _ _) (.cons (q1.mono eG _ _) .nil)))
      · rw [upd_ne (nb b o q).1]
        exact g.h _ _ (s2 _ _ q) n t
      · by_cases hb : b = x
        · subst hb; rw [upd_same] at q ⊢; exact q
        · rw [upd_ne hb] at q ⊢; exact g.gh _ _ q
      · by_cases hb : b = x
        · exact .inr (by rw [hb]; exact nn_none hx)
        · rw [upd_ne hb] at q
          exact (g0.trans g).nw b u q
      · by_cases hb : b = x
        · exact ⟨_, by rw [hb]; exact upd_same, nt_ins⟩
        · obtain ⟨u, e, t⟩ := (g0.trans g).nl b n
          exact ⟨u, by rw [upd_ne hb]; exact e, t⟩
      · refine c.st (fun b o q z => ?_) ((g0.trans g).i i)
        by_cases hb : b = x
        · subst hb
          rw [hx'] at q; cases q
          rcases z with z | z
          · exact absurd z fx
          · exact absurd (.inr (.inr ⟨_, _, _, rfl⟩)) z
        · rw [upd_ne hb]; exact q
    · exact hr.elim
  | _ => exact hr.elim
end
end Sh
end Part_WI

section Part_WK
set_option maxRecDepth 100000
set_option maxHeartbeats 2000000
/-! WK: calls of defs and classes, by place and by keyword. -/
namespace Sh
open PySem PySem.Spec PyProof.Rows L2

def permL {α : Type} (ix : List Nat) (ws : List α) : List α := ix.filterMap fun i => ws[i]?
def gP {α : Type} (n : Nat) (ix : List Nat) (us ws : List α) : List α := if us.length = 0 ∧ ws.length = n then permL ix ws else []
theorem perm_vals {vs : List V} {us : List Value} (r : Vals vs us) : ∀ ix : List Nat, Vals (permL ix vs) (permL ix us)
  | [] => .nil
  | i :: ix => by
    unfold permL
    cases e : vs[i]? with
    | none =>
      have e2 : us[i]? = none := by
        rw [List.getElem?_eq_none_iff] at e ⊢
        rw [← r.length]; exact e
      rw [List.filterMap_cons_none e, List.filterMap_cons_none e2]
      exact perm_vals r ix
    | some v =>
      obtain ⟨u, hu, ru⟩ := r.get e
      rw [List.filterMap_cons_some e, List.filterMap_cons_some hu]
      exact .cons ru (perm_vals r ix)
theorem perm_rps {K : PySem.W.Frag} {G : Hp} {vs : List V} {ds : List D} (r : Rps K G vs ds) : ∀ ix : List Nat, Rps K G (permL ix vs) (permL ix ds)
  | [] => .nil
  | i :: ix => by
    unfold permL
    cases e : ds[i]? with
    | none =>
      have e2 : vs[i]? = none := by
        rw [List.getElem?_eq_none_iff] at e ⊢
        rw [r.length]; exact e
      rw [List.filterMap_cons_none e, List.filterMap_cons_none e2]
      exact perm_rps r ix
    | some d =>
      obtain ⟨v, hv, rv⟩ := r.get e
      rw [List.filterMap_cons_some e, List.filterMap_cons_some hv]
      exact .cons rv (perm_rps r ix)
theorem gP_vals {n : Nat} {ix : List Nat} {vs : List V} {us : List Value} {zs : List V} {ws : List Value} (a : Vals vs us) (b : Vals zs ws) : Vals (gP n ix vs zs) (gP n ix us ws) := by
  unfold gP
  rw [a.length, b.length]
  split
  · exact perm_vals b ix
  · exact .nil
theorem kb_perm {K : PySem.W.Frag} {x q : Str} {st : Stmt} {f : Addr} {fd : FuncData} {ps ks : List Str} {ix : List Nat} (F : L2.Fun K x q st f fd) (hp : 0 < ps.length)
    (h : ∀ (kV doc pm : Value) (an : Option Addr) (cdv ct : Value) (ws : List Value), ws.length = ks.length → bindArgs (PySem.W.fnOf x q (defArgs st) (defBody st) (defScope st) .none kV doc pm an cdv ct) ⟨[], ks.zip ws⟩ = pure (ps.zip (permL ix ws))) :
    KBinds K fd ps ks (gP ks.length ix) (gP ks.length ix) := by
  obtain ⟨oc, od, kV, doc, pm, an, cdv, ct, osl, rfl, lk, hcd⟩ := F.ex
  refine ⟨fun s us ws X l => ?_, gP_vals⟩
  unfold gP at l ⊢
  split at l
  · rename_i hc
    rw [if_pos hc]
    obtain rfl : us = [] := List.length_eq_zero_iff.mp hc.1
    exact .of_eq (h _ _ _ _ _ _ _ hc.2)
  · simp at l
    omega
section
variable {X : Cx} {c : Ct} {E : XK} {pos : Pos} {x : Str} {p : Pos} {kws : List Keyword}
/-- the keywords' values -/
def OkKw (X : Cx) (c : Ct) (E : XK) (kws : List Keyword) (m : Aw) : Prop := PK X kws (tAw X.K c E m)
theorem weakK {t t' : TA} (h : PK X kws t) (w : ∀ σ H Q, t' σ H Q → t σ H Q) : PK X kws t' := ⟨fun pos pins s σ H Q I q => h.run pos pins s σ H Q I (w _ _ _ q)⟩
theorem okw_kwNil : OkKw X c E [] wNil := weakK pk_nil fun σ H Q ⟨O, env, G, rl, w⟩ => w [] G H (GrW.refl rl.rl.gh) .nil
theorem okw_kwCons {nm : Option Str} {kpos : Pos} {e : Expr} {me : Ew} {ms : Aw} (ha : OkEw X c E e me) (hr : OkKw X c E kws ms) : OkKw X c E (⟨nm, e, kpos⟩ :: kws) (wCons me ms) :=
  weakK (pk_cons ha hr) fun σ H Q ⟨O, env, G, rl, w⟩ =>
    ⟨O, env, G, rl, W.wp_mono (W.wp_bind.mp w) (fun x hx v G1 H1 g1 r1 => ⟨O, env, G1, rl.grow g1, W.wp_mono (W.wp_bind.mp hx) (fun xs hxs vs G2 H2 g2 r2 => hxs _ G2 H2 (g1.trans g2) (.cons (r1.mono g2.g x v) r2)) fun _ z => z.mono g1.fr⟩) fun _ z => z⟩
theorem okw_cl0 {k j : Nat} {F : List D → W D} {st : Stmt} (cl : ClW X.prog X.w X.K X.mg X.base c k x st [] F) (hr : Room j X.A) (hj : k ≤ j) (hx : Passes (L2.CX X.prog X.w) X E) (hg : Gl X x := by rfl) (hdb : (x == ("__debug__" : Str)) = false := by decide) : OkEw X c E (.Call (.Name x p) [] [] pos) (wCall F wNil) := by
  obtain ⟨f, fd, h1, h2, h3, h4⟩ := cl.ex
  refine weakE (pe_call0 h1 (hr.mono hj) hg h2 h3.kp h4 .nil hx hdb) fun σ H Q h => ?_
  obtain ⟨O, env, G, rl, w⟩ := h
  exact ⟨0, G, [], rfl, rl.at, .nil, w⟩
/-- so many values come -/
def KwLen (n : Nat) (m : Aw) : Prop := ∀ (env : Sh.Env) (Q : List D → Prop) (EX : Xn → Prop), (m env).wp Q EX → (m env).wp (fun ds => ds.length = n ∧ Q ds) EX
theorem kwl_nil : KwLen 0 wNil := fun env Q EX w => ⟨rfl, w⟩
theorem kwl_cons {n : Nat} {a : Ew} {r : Aw} (h : KwLen n r) : KwLen (n + 1) (wCons a r) := fun env Q EX w => W.wp_bind.mpr (W.wp_mono (W.wp_bind.mp w) (fun x hx => W.wp_bind.mpr (W.wp_mono (h _ _ _ (W.wp_bind.mp hx)) (fun xs hxs => ⟨by simp [hxs.1], hxs.2⟩) fun _ z => z)) fun _ z => z)
def wCallK (F : List D → W D) (ix : List Nat) (m : Aw) : Ew := fun env => (m env).bind fun ds => F (permL ix ds)
theorem okw_clK {k j : Nat} {F : List D → W D} {ps : List Str} {st : Stmt} (ks : List Str) (ix : List Nat) {ms : Aw} (cl : ClW X.prog X.w X.K X.mg X.base c k x st ps F) (hp : 0 < ps.length)
    (h : ∀ (kV doc pm : Value) (an : Option Addr) (cdv ct : Value) (ws : List Value), ws.length = ks.length → bindArgs (PySem.W.fnOf x x (defArgs st) (defBody st) (defScope st) .none kV doc pm an cdv ct) ⟨[], ks.zip ws⟩ = pure (ps.zip (permL ix ws)))
    (hr : Room j X.A) (hj : k ≤ j) (hx : Passes (L2.CX X.prog X.w) X E) (hkw : OkKw X c E kws ms) (hl : KwLen ks.length ms) (hg : Gl X x := by rfl)
    (hall : (backToKw pos (keywordEach kws X.env)).all (·.1.isSome) = true := by rfl) (hks : (backToKw pos (keywordEach kws X.env)).filterMap (·.1) = ks := by rfl) (hdb : (x == ("__debug__" : Str)) = false := by decide)
    (hpl : ((backTo pos (starEach [] X.env)).any (·.1) || (backToKw pos (keywordEach kws X.env)).any (·.1.isNone)) = false := by rfl) : OkEw X c E (.Call (.Name x p) [] kws pos) (wCallK F ix ms) := by
  obtain ⟨f, fd, h1, h2, h3, h4⟩ := cl.ex
  refine weakE (pe_callK0 h1 (hr.mono hj) hg h2 h3.kp (kb_perm h3 hp h) hx hkw hall hks hdb hpl) fun σ H Q ⟨O, env, G, rl, w⟩ => ?_
  refine ⟨O, env, G, rl, W.wp_mono (hl env _ _ (W.wp_bind.mp w)) (fun ds ⟨hlen, hd⟩ vs G1 H1 g1 r1 => ?_) fun _ z => z⟩
  show spW X.K c F (gP ks.length ix [] vs) H1 Q E
  have e : gP ks.length ix [] vs = permL ix vs := if_pos ⟨rfl, by rw [r1.length]; exact hlen⟩
  rw [e]
  exact ⟨_, G1, permL ix ds, rfl, rl.at.grow g1, perm_rps r1 ix, W.wp_mono hd (fun d h v G2 H2 g2 r2 => h v G2 H2 (g1.trans g2) r2) fun _ z => z.mono g1.fr⟩
/-- a class whose instances may be made -/
structure MkC (P : Program) (w : World) (K : PySem.W.Frag) (mg : Str → Option Value) (base : Heap) (c : Ct) (k : Nat) (x qual : Str) (st : Stmt) (C : Addr) (F : List D → W D) (slf : Str) (ps : List Str) (sp : Sp) : Prop where
  ex : ∃ (f : Addr) (fd : FuncData), FnOk P w K mg base (L2.CX P w) k f fd (slf :: ps) sp ∧ mg x = some (.ref C) ∧ Mk K C f ∧ Fun K "__init__" qual st f fd ∧ Binds K fd (slf :: ps) []
  step : ∀ {vs : List V} {ds : List D} {G H : Hp} {Q : VK} {E : XK}, AtW c G H → Rps K G vs ds → (F ds).wp (fun d => ∀ v G' H', GrW c G H G' H' → Rp K G' v d → Q v H') (XcK K c H E) →
    ∀ (x dx : Addr), H x = none → H dx = none → dx ≠ x → sp (.ref x :: vs) (upd (upd H dx (.own x)) x (.ins C dx [])) (fun v H2 => v = .non ∧ Q (.ref x) H2) E
theorem okw_mk {k j : Nat} {C : Addr} {F : List D → W D} {slf qual : Str} {st : Stmt} {ps : List Str} {sp : Sp} {e : Expr} {es : List Expr} {ms : Aw} (cl : MkC X.prog X.w X.K X.mg X.base c k x qual st C F slf ps sp) (hr : Room j X.A) (hj : k + 1 ≤ j) (hx : Passes (L2.CX X.prog X.w) X E) (ha : OkAw X c E (e :: es) ms)
    (hg : Gl X x := by rfl) (hdb : (x == ("__debug__" : Str)) = false := by decide) (he : starEach (e :: es) X.env = (false, eval e X.env) :: starEach es X.env := by rfl) (hpl : (backTo pos (starEach es X.env)).any (·.1) = false := by rfl) : OkEw X c E (.Call (.Name x p) (e :: es) [] pos) (wCall F ms) := by
  obtain ⟨f, fd, h1, h2, h3, _, h4⟩ := cl.ex
  refine weakE (pe_make h3 h1 (hr.mono hj) hg h2 h4 .nil hx ha hdb he hpl) fun σ H Q ⟨O, env, G, rl, w⟩ => ?_
  refine ⟨O, env, G, rl, W.wp_mono (W.wp_bind.mp w) (fun ds hd vs G1 H1 g1 r1 a dx n1 n2 n3 => ?_) fun _ z => z⟩
  rw [List.append_nil]
  exact cl.step (rl.at.grow g1) r1 (W.wp_mono hd (fun d h v G2 H2 g2 r2 => h v G2 H2 (g1.trans g2) r2) fun _ z => z.mono g1.fr) a dx n1 n2 n3
theorem kbn_perm {K : PySem.W.Frag} {q slf : Str} {st : Stmt} {f : Addr} {fd : FuncData} {ps ks : List Str} {ix : List Nat} (F : L2.Fun K "__init__" q st f fd)
    (h : ∀ (kV doc pm : Value) (an : Option Addr) (cdv ct u : Value) (ws : List Value), ws.length = ks.length → bindArgs (PySem.W.fnOf "__init__" q (defArgs st) (defBody st) (defScope st) .none kV doc pm an cdv ct) ⟨[u], ks.zip ws⟩ = pure ((slf :: ps).zip (u :: permL ix ws))) :
    KBn K fd (slf :: ps) 1 ks (fun us ws => us ++ permL ix ws) (fun us ws => us ++ permL ix ws) := by
  obtain ⟨oc, od, kV, doc, pm, an, cdv, ct, osl, rfl, lk, hcd⟩ := F.ex
  refine ⟨fun s us ws X l1 l2 => ?_, fun a b => a.append (perm_vals b ix)⟩
  match us, l1 with
  | [u], _ => exact .of_eq (h _ _ _ _ _ _ _ _ l2)
/-- C(k = v, ..) -/
theorem okw_mkK {k j : Nat} {C : Addr} {F : List D → W D} {slf qual : Str} {st : Stmt} {ps : List Str} {sp : Sp} {ms : Aw} (ks : List Str) (ix : List Nat) (cl : MkC X.prog X.w X.K X.mg X.base c k x qual st C F slf ps sp)
    (h : ∀ (kV doc pm : Value) (an : Option Addr) (cdv ct u : Value) (ws : List Value), ws.length = ks.length → bindArgs (PySem.W.fnOf "__init__" qual (defArgs st) (defBody st) (defScope st) .none kV doc pm an cdv ct) ⟨[u], ks.zip ws⟩ = pure ((slf :: ps).zip (u :: permL ix ws)))
    (hr : Room j X.A) (hj : k + 1 ≤ j) (hx : Passes (L2.CX X.prog X.w) X E) (hkw : OkKw X c E kws ms) (hl : KwLen ks.length ms)
    (hg : Gl X x := by rfl) (hall : (backToKw pos (keywordEach kws X.env)).all (·.1.isSome) = true := by rfl) (hks : (backToKw pos (keywordEach kws X.env)).filterMap (·.1) = ks := by rfl) (hdb : (x == ("__debug__" : Str)) = false := by decide)
    (hpl : ((backTo pos (starEach [] X.env)).any (·.1) || (backToKw pos (keywordEach kws X.env)).any (·.1.isNone)) = false := by rfl) : OkEw X c E (.Call (.Name x p) [] kws pos) (wCallK F ix ms) := by
  obtain ⟨f, fd, h1, h2, h3, h5, h4⟩ := cl.ex
  have hb := kbn_perm (ix := ix) h5 h
  have pe : PE X (.Call (.Name x p) [] kws pos) (fun σ H Q => tAw X.K c E ms σ H fun zs H2 => zs.length = ks.length ∧ ∀ a dx, H2 a = none → H2 dx = none → dx ≠ a → sp (.ref a :: permL ix zs) (upd (upd H2 dx (.own a)) a (.ins C dx [])) (fun v H3 => v = .non ∧ Q (.ref a) H3) E) := by
    refine ⟨fun pins s σ H Q I h => ?_⟩
    refine wpAny_Call_Name_kw (ld_glob I hg h2 ?_ hdb)
    refine PySem.W.callWith_KW0 (h₀ := X.base) I.ok.mod.kin h3.kp hall ?_ hpl
    refine thn (hkw.run pos pins s σ H _ I h) fun ws s2 ⟨zs, H2, I2, rz, l2, q2⟩ => ⟨I2.kIn, ?_⟩
    rw [hks]
    exact run_makeN (us := []) (vs := []) h3 h1 (hr.mono hj) hb hx I2 .nil rz rfl l2 q2
  refine weakE pe fun σ H Q ⟨O, env, G, rl, w⟩ => ?_
  refine ⟨O, env, G, rl, W.wp_mono (hl env _ _ (W.wp_bind.mp w)) (fun ds ⟨hlen, hd⟩ vs G1 H1 g1 r1 => ⟨by rw [r1.length]; exact hlen, fun a dx n1 n2 n3 => ?_⟩) fun _ z => z⟩
  exact cl.step (rl.at.grow g1) (perm_rps r1 ix) (W.wp_mono hd (fun d h v G2 H2 g2 r2 => h v G2 H2 (g1.trans g2) r2) fun _ z => z.mono g1.fr) a dx n1 n2 n3
/-- a plain def by keyword -/
theorem ok_clK {k j : Nat} {F : List D → Option D} {ps : List Str} {st : Stmt} {f : Addr} {fd : FuncData} (ks : List Str) (ix : List Nat) {ms : Aw} (h1 : FnOk X.prog X.w X.K X.mg X.base CX0 k f fd ps (spF X.K F)) (h2 : X.mg x = some (.ref f)) (h3 : Fun X.K x x st f fd) (hp : 0 < ps.length)
    (h : ∀ (kV doc pm : Value) (an : Option Addr) (cdv ct : Value) (ws : List Value), ws.length = ks.length → bindArgs (PySem.W.fnOf x x (defArgs st) (defBody st) (defScope st) .none kV doc pm an cdv ct) ⟨[], ks.zip ws⟩ = pure (ps.zip (permL ix ws)))
    (hr : Room j X.A) (hj : k ≤ j) (hkw : OkKw X c E kws ms) (hl : KwLen ks.length ms) (hg : Gl X x := by rfl)
    (hall : (backToKw pos (keywordEach kws X.env)).all (·.1.isSome) = true := by rfl) (hks : (backToKw pos (keywordEach kws X.env)).filterMap (·.1) = ks := by rfl) (hdb : (x == ("__debug__" : Str)) = false := by decide)
    (hpl : ((backTo pos (starEach [] X.env)).any (·.1) || (backToKw pos (keywordEach kws X.env)).any (·.1.isNone)) = false := by rfl) : OkEw X c E (.Call (.Name x p) [] kws pos) (fun env => (ms env).bind fun ds => W.ofO (F (permL ix ds))) := by
  refine weakE (pe_callK0 h1 (hr.mono hj) hg h2 h3.kp (kb_perm h3 hp h) pass0 hkw hall hks hdb hpl) fun σ H Q ⟨O, env, G, rl, w⟩ => ?_
  refine ⟨O, env, G, rl, W.wp_mono (hl env _ _ (W.wp_bind.mp w)) (fun ds ⟨hlen, hd⟩ vs G1 H1 g1 r1 => ?_) fun _ z => z⟩
  show spF X.K F (gP ks.length ix [] vs) H1 Q E0
  have e : gP ks.length ix [] vs = permL ix vs := if_pos ⟨rfl, by rw [r1.length]; exact hlen⟩
  rw [e]
  obtain ⟨d, ed, kd⟩ := W.wp_ofO.mp hd
  exact ⟨G1, permL ix ds, d, g1.gh, perm_rps r1 ix, ed, fun v G2 H2 g2 r2 => kd v _ H2 (g1.trans (g2.w (g1.nt rl.nt))) (r2.untbl d v)⟩
end
end Sh
end Part_WK

section Part_WL
set_option maxRecDepth 100000
set_option maxHeartbeats 2000000
/-! WL: the draws over W. -/
namespace Sh
open PySem PySem.Spec PyProof.Rows L2

theorem fn_cx {P : Program} {w : World} {K : PySem.W.Frag} {mg : Str → Option Value} {base : Heap} {CX : CXT} {k : Nat} {f : Addr} {fd : FuncData} {ps : List Str} {sp : Sp} (F : FnOk P w K mg base CX0 k f fd ps sp) : FnOk P w K mg base CX k f fd ps sp :=
  ⟨F.len, fun A outer s H args us vs Q E hr e0 hb hv hs => codeAny_mono (F.run A outer s H args us vs Q E hr e0 hb hv hs) fun r s' hq => by
    cases r with
    | error e => exact (show False from hq).elim
    | ok fl => cases fl <;> exact hq⟩
/-- the draws' objects: p the dict, l the great cells, q all cells; T: the tables of code objects -/
def ctD (p l q : Addr) (T : List (Addr × Str)) : Ct where
  S := fun a => a = p ∨ a = l
  F := fun a => a = p ∨ a = l ∨ a = q
  I := fun H => Dr H p l q ∧ LamX.Tabs T H
  sf := fun a h => h.elim .inl fun h => .inr (.inl h)
  st := fun {H H'} e ⟨d, t⟩ => by
    refine ⟨?_, fun x hx => ?_⟩
    · obtain ⟨r, tt, ls, cs, h1, h2, h3⟩ := d.ex
      exact ⟨⟨r, tt, ls, cs, e _ _ h1 (.inl (.inl rfl)), e _ _ h2 (.inl (.inr (.inl rfl))), e _ _ h3 (.inl (.inr (.inr rfl)))⟩, d.ne⟩
    · obtain ⟨ps, h1, h2, h3⟩ := t x hx
      refine ⟨ps, e _ _ h1 (.inr fun z => by rcases z with ⟨_, z⟩ | ⟨_, z⟩ | ⟨_, _, _, z⟩ <;> cases z), h2, fun pos cv hc => ?_⟩
      obtain ⟨cc, e1, e2⟩ := h3 pos cv hc
      refine ⟨cc, e1, e _ _ e2 (.inr fun z => ?_)⟩
      rcases z with ⟨_, z⟩ | ⟨_, z⟩ | ⟨_, _, _, z⟩ <;> (unfold LamX.CodeO at z; cases z)
section
variable {p l q : Addr} {T : List (Addr × Str)} {G H H' : Hp}
/-- a draw: what it leaves -/
theorem grw_draw (a : AtW (ctD p l q T) G H) (d : Dr H' p l q) (f : FrD p l H H') : GrW (ctD p l q T) G H G H' := by
  have gp : G p = none := a.sg p (.inl rfl)
  have gl : G l = none := a.sg l (.inr rfl)
  refine ⟨fun b o e n _ => f b o e (fun z => n (.inl z)) (fun z => n (.inr z)), Same.refl G, fun b o e => f b o (a.gh b o e) (fun z => by rw [z, gp] at e; cases e) (fun z => by rw [z, gl] at e; cases e), fun _ _ e => .inl e, fun b n => ?_, fun i => ⟨d, fun x hx => ?_⟩, fun n => n⟩
  · obtain ⟨r, tt, ls, cs, k1, k2, k3⟩ := d.ex
    by_cases h1 : b = p
    · exact ⟨_, by rw [h1]; exact k1, fun _ z => by cases z⟩
    · by_cases h2 : b = l
      · exact ⟨_, by rw [h2]; exact k2, nt_lst⟩
      · obtain ⟨u, e, t⟩ := n
        exact ⟨u, f b u e h1 h2, t⟩
  · obtain ⟨ps, h1, h2, h3⟩ := i.2 x hx
    obtain ⟨r, tt, ls, cs, k1, k2, k3⟩ := i.1.ex
    have ne : ∀ {b : Addr} {o : HO}, H b = some o → (∀ kvs, o ≠ .dK kvs) → (∀ xs, o ≠ .lst xs) → H' b = some o := fun {b o} e n1 n2 => f b o e
      (fun z => by rw [z, k1] at e; cases e; exact n1 _ rfl) (fun z => by rw [z, k2] at e; cases e; exact n2 _ rfl)
    refine ⟨ps, ne h1 (fun _ z => by cases z) (fun _ z => by cases z), h2, fun pos cv hc => ?_⟩
    obtain ⟨cc, e1, e2⟩ := h3 pos cv hc
    exact ⟨cc, e1, ne e2 (fun _ z => by unfold LamX.CodeO at z; cases z) (fun _ z => by unfold LamX.CodeO at z; cases z)⟩
end
def F_take (p : Addr) : List D → W D
  | [.raw (.ref a), .int n] => if a = p ∧ 0 < n ∧ n < 1152921504606846976 then .any (fun d => ∃ r : Int, d = .int r ∧ 0 ≤ r ∧ r < n) .ret else .fail
  | _ => .fail
def F_pick (p : Addr) : List D → W D
  | [.raw (.ref a), s] => (match itemsOf s with
    | some xs => if a = p ∧ xs ≠ [] ∧ xs.length < 1073741824 then .any (fun d => d ∈ xs) .ret else .fail
    | none => .fail)
  | _ => .fail
def F_shuf (p : Addr) : List D → W D
  | [.raw (.ref a), s] => (match itemsOf s with
    | some xs => if a = p ∧ xs.all okD = true ∧ xs.length < 1000000 then .any (fun d => ∃ ys : List D, d = .lst ys ∧ ys.Perm xs) .ret else .fail
    | none => .fail)
  | _ => .fail
section
variable {P : Program} {w : World} {K : PySem.W.Frag} {mg : Str → Option Value} {base : Heap} {p l q : Addr} {T : List (Addr × Str)} {f : Addr} {fd : FuncData} {k : Nat}
theorem spW_take {vs : List V} {H : Hp} {Q : VK} {E : XK} (h : spW K (ctD p l q T) (F_take p) vs H Q E) : spTake vs H Q E := by
  obtain ⟨n, G, ds, _, a, r, w⟩ := h
  unfold F_take at w
  split at w
  · split at w
    · rename_i i hc
      obtain ⟨rfl, h1, h2⟩ := hc
      cases r with
      | cons r1 r2 =>
        cases r2 with
        | cons r3 r4 =>
          cases r4; cases r1; cases r3
          refine ⟨_, l, q, _, rfl, a.i.1, h1, h2, fun x H' x0 x1 d f => ?_⟩
          have w := w (.int x) ⟨x, rfl, x0, x1⟩
          exact w _ G H' (grw_draw a d f) (.int x)
    · exact w.elim
  · exact w.elim
theorem spW_pick {vs : List V} {H : Hp} {Q : VK} {E : XK} (h : spW K (ctD p l q T) (F_pick p) vs H Q E) : spPick K vs H Q E := by
  obtain ⟨n, G, ds, _, a, r, w⟩ := h
  unfold F_pick at w
  split at w
  · rename_i b s
    split at w
    · rename_i xs hx
      split at w
      · rename_i hc
        obtain ⟨rfl, h1, h2⟩ := hc
        cases r with
        | cons r1 r2 =>
          cases r2 with
          | cons r3 r4 =>
            cases r4; cases r1
            refine ⟨_, l, q, _, G, s, xs, rfl, a.i.1, a.gh, a.sg _ (.inl rfl), a.sg _ (.inr rfl), r3, hx, h1, h2, fun i d' v H' e rv d f => ?_⟩
            have w := w d' (List.mem_of_getElem? e)
            exact w v G H' (grw_draw a d f) rv
      · exact w.elim
    · exact w.elim
  · exact w.elim
theorem spW_shuf {vs : List V} {H : Hp} {Q : VK} {E : XK} (h : spW K (ctD p l q T) (F_shuf p) vs H Q E) : spShuf K vs H Q E := by
  obtain ⟨n, G, ds, _, a, r, w⟩ := h
  unfold F_shuf at w
  split at w
  · rename_i b s
    split at w
    · rename_i xs hx
      split at w
      · rename_i hc
        obtain ⟨rfl, h1, h2⟩ := hc
        cases r with
        | cons r1 r2 =>
          cases r2 with
          | cons r3 r4 =>
            cases r4; cases r1
            refine ⟨_, l, q, _, G, s, xs, rfl, a.i.1, a.gh, a.sg _ (.inl rfl), a.sg _ (.inr rfl), r3, hx, fun x hm => List.all_eq_true.mp h1 x hm, h2, fun F ys ds' H' pm hF rv nF d f => ?_⟩
            have w := w (.lst ds') ⟨ds', rfl, pm⟩
            have g := grw_draw a d f
            have gF : G F = none := free_of a.gh nF
            have eG : Same G (upd G F (.lst ys)) := fun b u e => by rw [upd_ne (fun z => by rw [z, gF] at e; cases e)]; exact e
            refine w (.ref F) (upd G F (.lst ys)) H' ⟨g.h, eG, fun b o e => ?_, fun b o e => ?_, g.nl, g.i, fun n => n.upd nt_lst⟩ (.lst upd_same (rv.mono eG _ _))
            · by_cases hb : b = F
              · subst hb; rw [upd_same] at e; cases e; exact hF
              · rw [upd_ne hb] at e; exact g.gh _ _ e
            · by_cases hb : b = F
              · subst hb; exact .inr (nn_none nF)
              · rw [upd_ne hb] at e; exact .inl e
      · exact w.elim
    · exact w.elim
  · exact w.elim
theorem okw_take (F : FnOk P w K mg base CX0 k f fd ["draw", "amount"] spTake) : FnOk P w K mg base (L2.CX P w) k f fd ["draw", "amount"] (spW K (ctD p l q T) (F_take p)) := (fn_cx F).imp fun _ _ _ _ h => spW_take h
theorem okw_pick (F : FnOk P w K mg base CX0 k f fd ["draw", "some"] (spPick K)) : FnOk P w K mg base (L2.CX P w) k f fd ["draw", "some"] (spW K (ctD p l q T) (F_pick p)) := (fn_cx F).imp fun _ _ _ _ h => spW_pick h
theorem okw_shuf (F : FnOk P w K mg base CX0 k f fd ["draw", "some"] (spShuf K)) : FnOk P w K mg base (L2.CX P w) k f fd ["draw", "some"] (spW K (ctD p l q T) (F_shuf p)) := (fn_cx F).imp fun _ _ _ _ h => spW_shuf h
/-- a plain def among those that draw -/
theorem cl_w {x : Str} {st : Stmt} {c : Ct} {F : List D → Option D} {ps : List Str} (h1 : FnOk P w K mg base CX0 k f fd ps (spF K F)) (h2 : mg x = some (.ref f)) (h3 : Fun K x x st f fd) (h4 : Binds K fd ps []) : ClW P w K mg base c k x st ps (fun ds => W.ofO (F ds)) := by
  refine ⟨f, fd, (fn_cx h1).imp fun vs H Q E h => ?_, h2, h3, h4⟩
  obtain ⟨n, G, ds, _, a, r, w⟩ := h
  obtain ⟨d, e, kk⟩ := W.wp_ofO.mp w
  exact ⟨G, ds, d, a.gh, r, e, fun v G' H' g r' => kk v _ H' (g.w a.nt) (r'.untbl d v)⟩
end
end Sh
end Part_WL

section Part_WG
set_option maxRecDepth 100000
set_option maxHeartbeats 2000000
/-! WG: defs where no repr is under way; caught(lambda: e) over W. -/
namespace Sh
open PySem PySem.Spec PyProof.Rows L2

/-! ### defs that repr -/
structure FnOkG (P : Program) (w : World) (K : PySem.W.Frag) (mg : Str → Option Value) (base : Heap) (CX : CXT) (k : Nat) (f : Addr) (fd : FuncData) (ps : List Str) (sp : Sp) : Prop where
  len : ∀ vs H Q E, sp vs H Q E → vs.length = ps.length
  run : ∀ (A : Around) (outer : List PySem.Env) (s : Shared) (H : Hp) (us : List Value) (vs : List V) (Q : VK) (E : XK), A.guards = some [] → Room k A → Env0 P w K mg base A outer s H → BindsTo s fd ⟨us, []⟩ (ps.zip us) → Vals vs us → sp vs H Q E →
    codeAny (model P w) A (.call (.ref f) ⟨us, []⟩) (CR CX outer P w H s Q E) s
theorem guards_deeper {A : Around} {e : PySem.Env} (h : A.guards = some []) : (A.deeper e).guards = some [] := h
theorem pe_callG {X : Cx} {CX : CXT} {k : Nat} {f : Addr} {fd : FuncData} {ps : List Str} {sp : Sp} {E : XK} {x : Str} {p pos : Pos} {e : Expr} {es : List Expr} {t : TA} (F : FnOkG X.prog X.w X.K X.mg X.base CX k f fd ps sp) (hgd : X.A.guards = some []) (hr : Room k X.A) (hg : Gl X x) (hm : X.mg x = some (.ref f))
    (hk : PySem.W.keepIn X.K (.ref f) = true) (hb : Binds X.K fd ps []) (hx : Passes CX X E) (ha : PA X (e :: es) t) (hdb : (x == ("__debug__" : Str)) = false := by decide) (he : starEach (e :: es) X.env = (false, eval e X.env) :: starEach es X.env := by rfl)
    (hpl : (backTo pos (starEach es X.env)).any (·.1) = false := by rfl) : PE X (.Call (.Name x p) (e :: es) [] pos) (fun σ H Q => t σ H fun vs H1 => sp vs H1 Q E) := by
  refine ⟨fun pins s σ H Q I h => wpAny_Call_Name_kw (ld_glob I hg hm (PySem.W.callWith_K (h₀ := X.base) I.ok.mod.kin hk (thn (ha.run pos pins s σ H _ I h) fun us s1 ⟨vs, H1, I1, r, q⟩ => ⟨I1.kIn, ?_⟩) he hpl) hdb)⟩
  have hl : us.length = ps.length := r.length.symm.trans (F.len _ _ _ _ q)
  have hbs := hb s1 us I1.kIn (by rw [List.append_nil]; exact hl)
  rw [List.append_nil] at hbs
  refine wpAny_call (codeAny_mono (F.run X.A X.stack s1 H1 us vs Q E hgd hr I1.env0 hbs r q) fun rs s' hq => ?_)
  match rs, hq with
  | .error er, hq => exact hx pins σ H1 s1 er s' I1 hq
  | .ok (.ret u), hq => exact I1.after hq
/-- a def of data that may draw, raise, repr and make lambdas -/
theorem fn_okG {P : Program} {w : World} {K : PySem.W.Frag} {mg : Str → Option Value} {base : Heap} {c : Ct} {x qual : Str} {st : Stmt} {f : Addr} {fd : FuncData} {N ps : List Str} {k : Nat} {m : Sw} (Fo : Fun K x qual st f fd) (S : FnScope N ps (defScope st))
    (hbody : ∀ (cdv : Value) (A : Around) (outer : List PySem.Env) (s : Shared) (H : Hp) (E : XK), A.guards = some [] → fd.code = cdv → Room k (A.deeper (PyProof.Rows.envOfC qual (defScope st) s.heap.objs.size f cdv)) → OkBw (cxOf (L2.CX P w) P w K mg base N qual (defScope st) f cdv A outer s H E) c E (defBody st) m) :
    FnOkG P w K mg base (L2.CX P w) (k + 1) f fd ps (spW K c (fnW ps.length N.length m)) := by
  refine ⟨fun vs H Q E h => ?_, fun A outer s H us vs Q E hgd hr e0 hb hv h => ?_⟩
  · obtain ⟨n, G, ds, e, a, r, hF⟩ := h
    exact (fnW_start a r hF).1
  · obtain ⟨oc, od, kV, doc, pm, an, cdv, ct, osl, efd, lk, hcd⟩ := Fo.ex
    subst efd
    obtain ⟨n, G, ds, e, a, r, hF⟩ := h
    obtain ⟨hl, ht⟩ := fnW_start (N := N) a r hF
    exact LamX.run_ofS lk hcd S hr e0 hb hv hl fun hr' => ⟨tSw K c E m, hbody cdv A outer s H E hgd rfl hr', ht⟩
structure ClG (P : Program) (w : World) (K : PySem.W.Frag) (mg : Str → Option Value) (base : Heap) (c : Ct) (k : Nat) (x : Str) (st : Stmt) (ps : List Str) (F : List D → W D) : Prop where
  ex : ∃ (f : Addr) (fd : FuncData), FnOkG P w K mg base (L2.CX P w) k f fd ps (spW K c F) ∧ mg x = some (.ref f) ∧ Fun K x x st f fd ∧ Binds K fd ps []
section
variable {X : Cx} {c : Ct} {E : XK} {pos : Pos}
theorem okw_clG {k j : Nat} {F : List D → W D} {x : Str} {st : Stmt} {ps : List Str} {p : Pos} {e : Expr} {es : List Expr} {ms : Aw} (cl : ClG X.prog X.w X.K X.mg X.base c k x st ps F) (hgd : X.A.guards = some []) (hr : Room j X.A) (hj : k ≤ j) (hx : Passes (L2.CX X.prog X.w) X E) (ha : OkAw X c E (e :: es) ms) (hg : Gl X x := by rfl)
    (hdb : (x == ("__debug__" : Str)) = false := by decide) (he : starEach (e :: es) X.env = (false, eval e X.env) :: starEach es X.env := by rfl) (hpl : (backTo pos (starEach es X.env)).any (·.1) = false := by rfl) : OkEw X c E (.Call (.Name x p) (e :: es) [] pos) (wCall F ms) := by
  obtain ⟨f, fd, h1, h2, h3, h4⟩ := cl.ex
  refine weakE (pe_callG h1 hgd (hr.mono hj) hg h2 h3.kp h4 hx ha hdb he hpl) fun σ H Q ⟨O, env, G, rl, w⟩ => ?_
  exact ⟨O, env, G, rl, W.wp_mono (W.wp_bind.mp w) (fun ds hd vs G1 H1 g1 r1 => ⟨_, G1, ds, rfl, rl.at.grow g1, r1, W.wp_mono hd (fun d h v G2 H2 g2 r2 => h v G2 H2 (g1.trans g2) r2) fun _ z => z.mono g1.fr⟩) fun _ z => z⟩
end

/-! ### what is caught -/
def caughtW (XS : List Addr) : W D → W D
  | .ret _ => .ret .non
  | .raise x => if x.C ∈ XS then .ret (.exc x.C x.part.toList) else .fail
  | .fail => .fail
  | .any P k => .any P fun d => caughtW XS (k d)
theorem caught_wp {XS : List Addr} {Q : D → Prop} {E : Xn → Prop} : ∀ {m : W D}, (caughtW XS m).wp Q E → m.wp (fun _ => Q .non) (fun x => x.C ∈ XS ∧ Q (.exc x.C x.part.toList))
  | .ret _, h => h
  | .raise x, h => by
    unfold caughtW at h
    split at h
    · rename_i hx; exact ⟨hx, h⟩
    · exact h.elim
  | .fail, h => h.elim
  | .any P k, h => fun d hd => caught_wp (h d hd)
def wCaught (XS : List Addr) (m : Ew) : Ew := fun env => caughtW XS (m env)
section
variable {p l q : Addr} {T : List (Addr × Str)} {G H H1 : Hp} {K : PySem.W.Frag}
theorem grw_ext (a : AtW (ctD p l q T) G H) (e : LamX.ExtN H H1) (t : LamX.Tabs T H1) : GrW (ctD p l q T) G H G H1 :=
  ⟨fun b o h _ n => e b o h n, Same.refl G, fun b o h => e b o (a.gh b o h) (a.nt b o h), fun _ _ h => .inl h, fun b ⟨u, h, n⟩ => ⟨u, e b u h n, n⟩, fun i => by
    obtain ⟨r, tt, ls, cs, k1, k2, k3⟩ := i.1.ex
    exact ⟨⟨⟨r, tt, ls, cs, e _ _ k1 (fun _ z => by cases z), e _ _ k2 (fun _ z => by cases z), e _ _ k3 (fun _ z => by cases z)⟩, i.1.ne⟩, t⟩, fun n => n⟩
/-- an exception that came is kept as a value -/
theorem keep_exc {c : Ct} {x : Xn} {cls : Value} {d : Option Addr} {H' : Hp} (at_ : AtW c G H) (f : FrW c H H') (o : XcO K H' x cls d) (nd : ∀ dx, d = some dx → ¬ Nn H dx) {a : Addr} (ha : H' a = none) :
    ∃ G', GrW c G H G' (upd H' a (ExC cls d a)) ∧ Rp K G' (.ref a) (.exc x.C x.part.toList) := by
  have up : ∀ b u, G b = some u → H' b = some u := fun b u e => f.h b u (at_.gh b u e) (fun z => by rw [at_.sg b z] at e; cases e) (at_.nt b u e)
  have ga : G a = none := by
    cases e : G a with
    | none => rfl
    | some u => rw [up a u e] at ha; cases ha
  have na : ¬ Nn H a := fun z => nn_none ha (f.nl a z)
  have keep : ∀ b u, H b = some u → ¬ c.S b → NTb u → upd H' a (ExC cls d a) b = some u := fun b u e n t => by
    have e' := f.h b u e n t
    rw [upd_ne (ne_of_none e' ha)]
    exact e'
  have nl : ∀ b, Nn H b → Nn (upd H' a (ExC cls d a)) b := fun b n => by
    obtain ⟨u, e, t⟩ := f.nl b n
    exact ⟨u, by rw [upd_ne (ne_of_none e ha)]; exact e, t⟩
  have ii : c.I H → c.I (upd H' a (ExC cls d a)) := fun i => c.st (fun b u e _ => by rw [upd_ne (ne_of_none e ha)]; exact e) (f.i i)
  obtain ⟨rfl, o⟩ := o
  cases hp : x.part with
  | none =>
    rw [hp] at o
    have o : d = none := o
    subst o
    refine ⟨upd G a (ExC (.ref x.C) none a), ⟨keep, fun b u e => by rw [upd_ne (ne_of_none e ga)]; exact e, fun b u e => ?_, fun b u e => ?_, nl, ii, fun n => n.upd nt_exc⟩, .exc0 upd_same⟩
    · by_cases hb : b = a
      · subst hb; rw [upd_same] at e ⊢; exact e
      · rw [upd_ne hb] at e ⊢; exact up b u e
    · by_cases hb : b = a
      · subst hb; exact .inr na
      · rw [upd_ne hb] at e; exact .inl e
  | some pd =>
    rw [hp] at o
    obtain ⟨dx, v, rfl, hx, rv⟩ := o
    have nx : dx ≠ a := ne_of_none hx ha
    have gd : G dx = none := by
      cases e : G dx with
      | none => rfl
      | some u => exact absurd ⟨u, at_.gh dx u e, at_.nt dx u e⟩ (nd dx rfl)
    have ntx : NTb (.xd [("part", v)]) := fun _ z => by cases z
    refine ⟨upd (upd G dx (.xd [("part", v)])) a (ExC (.ref x.C) (some dx) a), ⟨keep, fun b u e => by rw [upd_ne (ne_of_none e ga), upd_ne (ne_of_none e gd)]; exact e, fun b u e => ?_, fun b u e => ?_, nl, ii, fun n => (n.upd ntx).upd nt_exc⟩,
      .exc1 upd_same (by rw [upd_ne nx]; exact upd_same) rfl (.cons (rv _) .nil)⟩
    · by_cases hb : b = a
      · subst hb; rw [upd_same] at e ⊢; exact e
      · rw [upd_ne hb] at e ⊢
        by_cases hd : b = dx
        · subst hd; rw [upd_same] at e; cases e; exact hx
        · rw [upd_ne hd] at e; exact up b u e
    · by_cases hb : b = a
      · subst hb; exact .inr na
      · rw [upd_ne hb] at e
        by_cases hd : b = dx
        · subst hd; exact .inr (nd _ rfl)
        · rw [upd_ne hd] at e; exact .inl e
/-- what comes of the def that catches -/
theorem step_caught {XS : List Addr} {CS : Addr} {m : Ew} {E : XK} {σ : L2.St} {Q : VK} (hX : ∀ C ∈ XS, PySem.W.exmOne K (.ref C) (.ref CS) = some true) (h : tEw K (ctD p l q T) E (wCaught XS m) σ H Q) : LamX.tLam T (TTc K CS) (fun E' => tEw K (ctD p l q T) E' m) σ H Q := by
  obtain ⟨O, env, G, rl, w⟩ := h
  refine ⟨rl.i.2, fun H1 e t => ?_⟩
  have g0 := grw_ext rl.at e t
  have rl1 := rl.grow g0
  refine ⟨O, env, G, rl1, W.wp_mono (caught_wp w) (fun d hd v G' H' g r => ⟨.non, rfl, hd .non G' H' (g0.trans g) .non⟩) (fun x hx => ?_)⟩
  intro cls d H' f o nd
  refine ⟨true, by rw [o.1]; exact hX _ hx.1, fun _ a ha => ?_, fun z => by cases z⟩
  obtain ⟨G', g, r⟩ := keep_exc rl1.at f o nd ha
  exact hx.2 (.ref a) G' _ (g0.trans g) r
end
end Sh
end Part_WG

section Part_WM
set_option maxRecDepth 100000
set_option maxHeartbeats 2000000
/-! WM: lambdas: caught(lambda: e); a list of lambdas that a loop goes over, each handed to caught by name. -/
namespace Sh
open PySem PySem.Spec PyProof.Rows L2

/-- a lambda of the text: parameters, body, scope, place -/
structure LamT where
  prm : Arguments
  body : Expr
  scope : Scope
  pos : Pos
abbrev LamT.expr (l : LamT) : Expr := .Lambda l.prm l.body l.scope l.pos
/-- the function object at f that a lambda made in X's frame is; its code object at c -/
def lamObj (X : Cx) (l : LamT) (c : Addr) (pm ctv : Value) : Obj := PySem.W.kla_obj "<lambda>" (X.env.qual ++ "<lambda>") l.prm l.body l.scope (cloFrom X.env.cells l.scope.names []) pm c ctv
def LamO (X : Cx) (l : LamT) (f c : Addr) : HO := .ext fun h => ∃ pm ctv, h.get? f = some (lamObj X l c pm ctv)
theorem nt_lam {X : Cx} {l : LamT} {f c : Addr} : NTb (LamO X l f c) := fun _ z => by unfold LamO at z; cases z
theorem lamO_ok {P : Program} {w : World} {X : Cx} {l : LamT} {f c : Addr} {pm ctv : Value} {H : Hp} {h : Heap} (e : h.get? f = some (lamObj X l c pm ctv)) : ObjOk P w H h f (LamO X l f c) :=
  ⟨⟨pm, ctv, e⟩, ⟨_, e⟩, fun _ _ ⟨p, t, q⟩ k => ⟨p, t, k _ q⟩⟩
/-- what is asked of the text -/
structure LamOk (X : Cx) (l : LamT) : Prop where
  sc : LamX.LamS X.env.scope l.scope
  df : defaultsOf l.prm X.env = ([], [])
  bd : ∀ (q : Str) (cl : List (Str × Addr)) (pm cv ctv : Value), bindArgs (PySem.W.kla_fn "<lambda>" q l.prm l.body l.scope cl pm cv ctv) ⟨[], []⟩ = pure []
abbrev lamQ (X : Cx) : Str := X.env.qual ++ "<lambda>"
section
variable {X : Cx} {T : List (Addr × Str)} {cM PT : Addr}
/-- a lambda is made: its function object is told from then on -/
def tLamV (X : Cx) (T : List (Addr × Str)) (l : LamT) : TE := fun σ H Q => LamX.Tabs T H ∧ ∀ (f c : Addr) (H1 : Hp), LamX.ExtN H H1 → LamX.Tabs T H1 → H f = none → H1 f = some (LamO X l f c) → H1 c = some (LamX.CodeO c (lamQ X)) → Q (.ref f) H1
theorem pe_lamV {l : LamT} (TB : LamX.TabB X.base X.mg cM PT) (hcode : X.env.code = .ref cM) (hm : (PT, lamQ X) ∈ T) (hu : ∀ p ∈ T, p.1 = PT → p.2 = lamQ X) (L : LamOk X l) : PE X l.expr (tLamV X T l) := by
  refine ⟨fun pins s σ H Q I h => ?_⟩
  obtain ⟨hT, h⟩ := h
  obtain ⟨tb, hP, t3, known⟩ := hT _ hm
  have bP : s.heap.BuiltinsAt X.mg PT := TB.bm.keeps I.bk
  have oP : s.heap.get? PT = some { cls := .none, data := .fields tb } := I.hok PT _ hP
  have hclo := closure_ok (L.sc.has I.ok)
  -- the function object is laid last
  have last : ∀ {H1 : Hp} {s1 : Shared} {c : Addr} {pm ctv : Value} {tk : Nat}, Inv X pins σ H1 s1 → LamX.ExtN H H1 → LamX.Tabs T H1 → H1 c = some (LamX.CodeO c (lamQ X)) → s.heap.objs.size ≤ s1.heap.objs.size →
      ∃ v H2, Inv X pins σ H2 { s1 with heap := s1.heap.push (lamObj X l c pm ctv), toks := tk } ∧ L2.RelV v (.ref s1.heap.objs.size) ∧ Q v H2 := fun {H1 s1 c pm ctv tk} J eN T1 hc hle => by
    have kp : ∀ b o, s1.heap.get? b = some o → (s1.heap.push (lamObj X l c pm ctv)).get? b = some o := fun b o e => Heap.get?_push_of_some _ e
    have nf : H1 s1.heap.objs.size = none := J.hok.fresh (Nat.le_refl _)
    have up : ∀ b o, H1 b = some o → upd H1 s1.heap.objs.size (LamO X l s1.heap.objs.size c) b = some o := fun b o e => by rw [upd_ne (ne_of_none e nf)]; exact e
    have J2 := J.laid (t' := tk) (o := LamO X l s1.heap.objs.size c) kp (Nat.le_refl _) (lamO_ok (pm := pm) (ctv := ctv) (Heap.get?_push_size _ rfl))
    exact ⟨.ref _, _, J2, rfl, h _ c _ (eN.trans (LamX.ExtN.of up)) (T1.ext up) (I.hok.fresh hle) upd_same (up _ _ hc)⟩
  refine PySem.W.kla_eval L.df ?_
  cases hc : codeAmong l.pos tb.toList with
  | some cv =>
    obtain ⟨c, rfl, hco⟩ := known l.pos cv hc
    refine PySem.W.kla_makeFunctionHit (mg := X.mg) (c := cM) (P := PT) (ps := tb) hclo I.ok.glob (I.mod.glob.keeps I.bk) hcode (TB.code.keeps I.bk) oP t3 hc bP fun ctv h' tk hx hsz => ?_
    exact last (s1 := { s with heap := h' }) (I.kept hx) (LamX.ExtN.refl H) hT hco hsz
  | none =>
    refine PySem.W.kla_makeFunction (mg := X.mg) (c := cM) (P := PT) (ps := tb) hclo I.ok.glob (I.mod.glob.keeps I.bk) hcode (TB.code.keeps I.bk) oP t3 hc TB.gP bP fun c ctv h' tk hx hge hlt hrec htb => ?_
    obtain ⟨c2, oc, vs, tq, e2, hoc, hd, hv⟩ := hrec
    cases e2
    have nC : H c = none := I.hok.fresh hge
    have nPc : PT ≠ c := ne_of_none hP nC
    have J := LamX.inv_table (t' := tk) (more := #[rawInt l.pos.line, rawInt l.pos.col, .ref c]) (h' := h') I hP (fun b o hb e => hx b o hb e) htb hge ⟨oc, vs, tq, hoc, hd, hv⟩
    have eN : LamX.ExtN H (upd (upd H PT (.tbl (tb ++ #[rawInt l.pos.line, rawInt l.pos.col, .ref c]))) c (LamX.CodeO c (lamQ X))) := fun b o e n => by
      have n1 : b ≠ PT := fun z => by rw [z, hP] at e; cases e; exact n _ rfl
      rw [upd_ne (ne_of_none e nC), upd_ne n1]
      exact e
    have eL : (tb ++ #[rawInt l.pos.line, rawInt l.pos.col, .ref c]).toList = tb.toList ++ [rawInt l.pos.line, rawInt l.pos.col, .ref c] := by simp
    refine last (s1 := { s with heap := h', toks := tk }) J eN (fun p hp => ?_) upd_same (Nat.le_trans hge (Nat.le_of_lt hlt))
    by_cases hb : p.1 = PT
    · rw [hu p hp hb, hb]
      refine ⟨_, by rw [upd_ne nPc, upd_same], by rw [eL]; exact PySem.TriplesOk_snoc _ _ _ _ t3, fun p2 cv hcv => ?_⟩
      rw [eL] at hcv
      rcases LamX.among_app _ t3 hcv with z | z
      · obtain ⟨c0, a1, a2⟩ := known p2 cv z
        exact ⟨c0, a1, eN _ _ a2 LamX.codeO_ne⟩
      · exact ⟨c, z, upd_same⟩
    · obtain ⟨tb2, a1, a2, a3⟩ := hT p hp
      refine ⟨tb2, by rw [upd_ne (ne_of_none a1 nC), upd_ne hb]; exact a1, a2, fun p2 cv hcv => ?_⟩
      obtain ⟨c0, b1, b2⟩ := a3 p2 cv hcv
      exact ⟨c0, b1, eN _ _ b2 LamX.codeO_ne⟩
end
end Sh
namespace Sh
open PySem PySem.Spec PyProof.Rows L2

/-- a def caught(work) of the law -/
structure CtD (st : Stmt) : Prop where
  sc : FnScope ["work", "caught", "error"] ["work"] (defScope st)
  vw : (defScope st).names.lookup ("work" : Str) = some .local
  gv : ∀ (X : Cx) (g CS : Addr) (cdv : Value) (q : Str), X.mg "WallError" = some (.ref CS) → LamX.GivesTo X ["work", "caught", "error"] "_law_caught" (defScope st) g cdv (defBody st) "work" q (TTc X.K CS)
  bd : ∀ (kV doc pm : Value) (an : Option Addr) (cdv ct : Value) (us : List Value), us.length = 1 → bindArgs (PySem.W.fnOf "_law_caught" "_law_caught" (defArgs st) (defBody st) (defScope st) .none kV doc pm an cdv ct) ⟨us, []⟩ = pure ((["work"] : List Str).zip us)
/-- the law's caught, where it is found -/
structure CtF (K : PySem.W.Frag) (mg : Str → Option Value) (st : Stmt) (XS : List Addr) : Prop where
  d : CtD st
  ex : ∃ (fC CS : Addr) (fd : FuncData), L2.Fun K "_law_caught" "_law_caught" st fC fd ∧ mg "_law_caught" = some (.ref fC) ∧ mg "WallError" = some (.ref CS) ∧ ∀ C ∈ XS, PySem.W.exmOne K (.ref C) (.ref CS) = some true
/-- the tables of the def that makes lambdas -/
structure TbF (X : Cx) (T : List (Addr × Str)) : Prop where
  ex : ∃ cM PT : Addr, LamX.TabB X.base X.mg cM PT ∧ X.env.code = .ref cM ∧ (PT, lamQ X) ∈ T ∧ ∀ p ∈ T, p.1 = PT → p.2 = lamQ X
section
variable {X : Cx} {E : XK} {T : List (Addr × Str)} {XS : List Addr} {st : Stmt}
/-- caught(lambda: body) -/
theorem okw_caughtLam {p l q : Addr} {k : Nat} {prm : Arguments} {body : Expr} {scope : Scope} {p1 lpos pos : Pos} {m : Ew} (C : CtF X.K X.mg st XS) (B : TbF X T) (hr : Room (k + 2) X.A) (L : LamOk X ⟨prm, body, scope, lpos⟩)
    (hbody : ∀ (A : Around) (outer : List PySem.Env) (s : Shared) (H : Hp) (E : XK) (f c : Addr), Room k (A.deeper (LamX.lamEnv X scope s.heap.objs.size f c)) → OkEw (LamX.lamCx X A outer s H E scope f c) (ctD p l q T) E body m) (hg : Gl X "_law_caught" := by rfl) :
    OkEw X (ctD p l q T) E (.Call (.Name "_law_caught" p1) [.Lambda prm body scope lpos] [] pos) (wCaught XS m) := by
  obtain ⟨fC, CS, fd, FC, mC, mE, hX⟩ := C.ex
  obtain ⟨cM, PT, TB, hcode, hm, hu⟩ := B.ex
  have bC : Binds X.K fd ["work"] [] := FC.binds fun _ _ _ _ _ _ us hl => C.d.bd _ _ _ _ _ _ us hl
  obtain ⟨oc, od, kV, doc, pm, an, cdv, ct, osl, rfl, lk, hcd⟩ := FC.ex
  exact weakE (LamX.pe_lamcall (T := T) (t := fun E => tEw X.K (ctD p l q T) E m) hg mC FC.kp lk hcd bC C.d.sc rfl (.inl C.d.vw) (C.d.gv X fC CS cdv _ mE) TB hcode hm hu hr L.sc L.df (fun q cl pm cv ctv => L.bd q cl pm cv ctv) hbody) fun σ H Q h => step_caught hX h
end

/-! ### a lambda that is held -/
/-- what is known besides: it stays -/
structure StJ (c : Ct) (J : Hp → Prop) : Prop where
  g : ∀ {H H' : Hp}, (∀ b o, H b = some o → ¬ c.S b → NTb o → H' b = some o) → J H → J H'
  s : ∀ {H H' : Hp}, (∀ b o, H b = some o → (c.F b ∨ ¬ MutO o) → H' b = some o) → J H → J H'
def cJ (c : Ct) (J : Hp → Prop) (S : StJ c J) : Ct where
  S := c.S
  F := c.F
  I := fun H => c.I H ∧ J H
  sf := c.sf
  st := fun {H H'} e ⟨i, j⟩ => ⟨c.st e i, S.s e j⟩
section
variable {c : Ct} {J : Hp → Prop} {S : StJ c J} {G H G' H' : Hp}
theorem GrW.toJ (g : GrW c G H G' H') : GrW (cJ c J S) G H G' H' := ⟨g.h, g.g, g.gh, g.nw, g.nl, fun ⟨i, j⟩ => ⟨g.i i, S.g g.h j⟩, g.nt⟩
theorem GrW.unJ (g : GrW (cJ c J S) G H G' H') (i : c.I H → c.I H') : GrW c G H G' H' := ⟨g.h, g.g, g.gh, g.nw, g.nl, i, g.nt⟩
theorem FrW.toJ (g : FrW c H H') : FrW (cJ c J S) H H' := ⟨g.h, g.nl, fun ⟨i, j⟩ => ⟨g.i i, S.g g.h j⟩⟩
theorem XcK.ofJ {K : PySem.W.Frag} {E : XK} {x : Xn} (h : XcK K (cJ c J S) H E x) : XcK K c H E x := fun cls d H' fr o nd => h cls d H' fr.toJ o nd
theorem AtW.ofJ (a : AtW (cJ c J S) G H) : AtW c G H := ⟨a.gh, a.i.1, a.sg, a.fg, a.nt⟩
theorem RlW.ofJ {K : PySem.W.Frag} {O : Addr → Prop} {env : Sh.Env} {σ : L2.St} (a : RlW K (cJ c J S) O env σ G H) : RlW K c O env σ G H := ⟨a.rl, a.i.1, a.sg, a.fg, a.so, a.nt⟩
theorem RlW.toJ {K : PySem.W.Frag} {O : Addr → Prop} {env : Sh.Env} {σ : L2.St} (a : RlW K c O env σ G H) (j : J H) : RlW K (cJ c J S) O env σ G H := ⟨a.rl, ⟨a.i, j⟩, a.sg, a.fg, a.so, a.nt⟩
theorem RsW.ofJ {K : PySem.W.Frag} {H0 G0 : Hp} {env : Sh.Env} {σ : L2.St} (a : RsW K (cJ c J S) H0 G0 env σ G H) : RsW K c H0 G0 env σ G H := ⟨a.rl.ofJ, a.g0.unJ fun _ => a.rl.i.1⟩
theorem RsW.toJ {K : PySem.W.Frag} {H0 G0 : Hp} {env : Sh.Env} {σ : L2.St} (a : RsW K c H0 G0 env σ G H) (j : J H) : RsW K (cJ c J S) H0 G0 env σ G H := ⟨a.rl.toJ j, a.g0.toJ⟩
theorem spW_toJ {K : PySem.W.Frag} {F : List D → W D} {vs : List V} {Q : VK} {E : XK} (h : spW K (cJ c J S) F vs H Q E) : spW K c F vs H Q E := by
  obtain ⟨n, G, ds, e, a, r, w⟩ := h
  exact ⟨n, G, ds, e, a.ofJ, r, W.wp_mono w (fun d h v G' H' g r' => h v G' H' g.toJ r') fun _ z => z.ofJ⟩
theorem ClW.toJ {P : Program} {w : World} {K : PySem.W.Frag} {mg : Str → Option Value} {base : Heap} {k : Nat} {x : Str} {st : Stmt} {ps : List Str} {F : List D → W D} (C : ClW P w K mg base c k x st ps F) : ClW P w K mg base (cJ c J S) k x st ps F := by
  obtain ⟨g, fd, h1, h2, h3, h4⟩ := C.ex
  exact ⟨g, fd, h1.imp fun vs H Q E h => spW_toJ h, h2, h3, h4⟩
theorem ClG.toJ {P : Program} {w : World} {K : PySem.W.Frag} {mg : Str → Option Value} {base : Heap} {k : Nat} {x : Str} {st : Stmt} {ps : List Str} {F : List D → W D} (C : ClG P w K mg base c k x st ps F) : ClG P w K mg base (cJ c J S) k x st ps F := by
  obtain ⟨g, fd, h1, h2, h3, h4⟩ := C.ex
  exact ⟨g, fd, ⟨fun vs H Q E h => h1.len vs H Q E (spW_toJ h), fun A outer s H us vs Q E hg hr e0 hb hv h => h1.run A outer s H us vs Q E hg hr e0 hb hv (spW_toJ h)⟩, h2, h3, h4⟩
end
/-- what comes of the lambda in the slot i -/
def wLamC (XS : List Addr) (i : Nat) (d : D) (m : Ew) : Ew := fun env => if selfIs d env[i]? then caughtW XS (m env) else .fail
section
variable {X : Cx} {E : XK} {XS : List Addr} {st : Stmt} {c : Ct} {l : LamT} {f cc : Addr}
/-- work(), where work holds the lambda: within the def caught, whose frame is begun at s -/
theorem pe_actV {pins : List (Addr × Obj)} {σ : L2.St} {H : Hp} {s : Shared} {sg : Scope} {g : Addr} {cdg : Value} {k : Nat} {pn : List (Addr × Obj)} {xe : Value → Shared → Prop} {V : WX} {tb : TE} {p1 p2 : Pos} {E0 : XK} (I : Inv X pins σ H s) (L : LamOk X l)
    (tk : Takes ((cxOf CX0 X.prog X.w X.K X.mg X.base ["work", "caught", "error"] "_law_caught" sg g cdg X.A X.stack s H E0).tr pn xe) V) (hV : ∀ cls d σ' H', E cls d H' → V cls d σ' H') (hr : Room (k + 1) (X.A.deeper (envOfC "_law_caught" sg s.heap.objs.size g cdg)))
    (hbody : ∀ (A : Around) (outer : List PySem.Env) (s : Shared) (H : Hp), Room k (A.deeper (LamX.lamEnv X l.scope s.heap.objs.size f cc)) → PE (LamX.lamCx X A outer s H E l.scope f cc) l.body tb) (hv : sg.names.lookup ("work" : Str) = some .local) :
    PE ((cxOf CX0 X.prog X.w X.K X.mg X.base ["work", "caught", "error"] "_law_caught" sg g cdg X.A X.stack s H E0).tr pn xe) (.Call (.Name "work" p1) [] [] p2) (fun σZ HZ Q => σZ[0]? = some (some (.ref f)) ∧ HZ cc = some (LamX.CodeO cc (lamQ X)) ∧ (HZ f = some (LamO X l f cc) ∧ tb σ HZ Q)) := by
  refine ⟨fun pinsZ sZ σZ HZ Q IZ h => ?_⟩
  obtain ⟨hs, hc, hf, ht⟩ := h
  have pv0 := pe_var (X := (cxOf CX0 X.prog X.w X.K X.mg X.base ["work", "caught", "error"] "_law_caught" sg g cdg X.A X.stack s H E0).tr pn xe) (pos := p1) (i := 0) (x := "work") rfl (.inl hv) (by decide) (by decide)
  refine wpAny_Call_Name_kw (thn (pv0.run pinsZ sZ σZ HZ (fun v H1 => v = .ref f ∧ H1 = HZ) IZ ⟨.ref f, hs, rfl, rfl⟩) fun u s1 q => ?_)
  obtain ⟨v, H1, I1, r1, rfl, rfl⟩ := q
  obtain rfl : u = Value.ref f := r1
  obtain ⟨⟨pm, ctv, ho⟩, _, _⟩ := I1.hok f _ hf
  obtain ⟨⟨oc, vs, tq, hoc, hdc, hvc⟩, _, _⟩ := I1.hok cc _ hc
  refine PySem.W.callWith_F0 ⟨_, _, _, _, ho⟩ ?_
  have un : Un (frs X.stack) [] H H1 s.heap s1.heap := I1.base
  have hcode : s1.heap.CodeRec (.ref cc) (lamQ X) := ⟨cc, oc, vs, tq, rfl, hoc, hdc, hvc⟩
  have rc : codeAny (model X.prog X.w) (X.A.deeper (envOfC "_law_caught" sg s.heap.objs.size g cdg)) (.call (.ref f) ⟨[], []⟩) (CR (L2.CX X.prog X.w) (envOfC "_law_caught" sg s.heap.objs.size g cdg :: X.stack) X.prog X.w H1 s1 Q E) s1 := by
    refine PySem.W.kla_callFunE hr.depth ho rfl L.sc.co L.sc.gen rfl hcode ?_
    rw [L.bd]
    refine wpAny_pure (wpAny_newFunctionEnv (fun y hy => (L.sc.own y hy).2) (fun y hy => absurd hy (by simp)) (fun h1 hns hsb => ⟨I1.nolimit.fresh _ hsb, ?_⟩) L.sc.kind)
    have kp : ∀ b o, s1.heap.get? b = some o → h1.get? b = some o := fun b o e => hsb.extBut b o (Nat.ne_of_lt (Heap.lt_size e)) (Heap.get?_push_of_some _ e)
    have J := LamX.lam_start2 (A := X.A.deeper (envOfC "_law_caught" sg s.heap.objs.size g cdg)) (outer := envOfC "_law_caught" sg s.heap.objs.size g cdg :: X.stack) (E := E) (f := f) (c' := cc) (tk := s1.toks + ([] : List (Str × Value)).length) I L.sc I1.env0 hr.hd un hns kp
    refine PySem.W.kla_codeExpr (wpAny_mono ((hbody _ _ s1 H1 (hr.deeper _)).run [] _ _ H1 Q J ht) (fun v s' hq => ?_) fun e s' hq => hq)
    obtain ⟨w', H', J', rv, q⟩ := hq
    exact ⟨w', H', J'.os, J'.bare, J'.base, J'.hok, rv, q⟩
  have hx := passes_call tk hV
  refine wpAny_call (codeAny_mono rc fun r s' hq => ?_)
  match r, hq with
  | .error e, hq => exact hx pinsZ σZ H1 s1 e s' I1 hq
  | .ok (.ret u), hq => exact I1.after hq
/-- caught(work), work a name that holds the lambda -/
theorem okw_caughtV {k : Nat} {x : Str} {p1 p2 pos : Pos} {m : Ew} {J : Hp → Prop} {S : StJ c J} (i : Nat) (C : CtF X.K X.mg st XS) (hJ : ∀ H, J H → H f = some (LamO X l f cc) ∧ H cc = some (LamX.CodeO cc (lamQ X))) (hr : Room (k + 2) X.A) (L : LamOk X l)
    (hbody : ∀ (A : Around) (outer : List PySem.Env) (s : Shared) (H : Hp) (E : XK), Room k (A.deeper (LamX.lamEnv X l.scope s.heap.objs.size f cc)) → OkEw (LamX.lamCx X A outer s H E l.scope f cc) c E l.body m)
    (hN : X.N[i]? = some x := by rfl) (hv : Vis X.env.scope x := by first | exact Or.inl rfl | exact Or.inr (Or.inl rfl) | exact Or.inr (Or.inr rfl)) (hg : Gl X "_law_caught" := by rfl) (hd : (x == ("__debug__" : Str)) = false := by decide) (hcd : (x == ("__classdict__" : Str)) = false := by decide)
    (he : starEach (.Name x p2 :: []) X.env = (false, eval (.Name x p2) X.env) :: starEach [] X.env := by rfl) (hpl : (backTo pos (starEach ([] : List Expr) X.env)).any (·.1) = false := by rfl) :
    OkEw X (cJ c J S) E (.Call (.Name "_law_caught" p1) [.Name x p2] [] pos) (wLamC XS i (.raw (.ref f)) m) := by
  obtain ⟨fC, CS, fd, FC, mC, mE, hX⟩ := C.ex
  have bC : Binds X.K fd ["work"] [] := FC.binds fun _ _ _ _ _ _ us hl => C.d.bd _ _ _ _ _ _ us hl
  obtain ⟨oc, od, kV, doc, pm, an, cdv, ct, osl, rfl, lk, hcdv⟩ := FC.ex
  refine ⟨fun pins s σ H Q I ⟨O, env, G, rl, w⟩ => ?_⟩
  unfold wLamC at w
  split at w
  case isFalse => exact w.elim
  rename_i hs
  obtain ⟨v0, hσ, r0⟩ := rl.rl.fr i _ (selfIs_eq hs)
  cases r0
  refine wpAny_Call_Name_kw (ld_glob I hg mC (PySem.W.callWith_K (h₀ := X.base) I.ok.mod.kin FC.kp ?_ he hpl) (by decide))
  refine thn ((pa_cons (pe_var (pos := p2) (i := i) hN hv hd hcd) pa_nil he).run pos pins s σ H (fun vs H1 => vs = [.ref f] ∧ H1 = H) I ⟨.ref f, hσ, rfl, rfl⟩) fun us s1 ⟨vs, H1, I1, r, ev, eH⟩ => ⟨I1.kIn, ?_⟩
  subst ev eH
  obtain ⟨u1, rfl, r1⟩ : ∃ u, us = [u] ∧ L2.RelV (.ref f) u := by cases r with | cons a b => cases b; exact ⟨_, rfl, a⟩
  obtain rfl : u1 = Value.ref f := r1
  have w := caught_wp w
  have hi := hJ _ rl.i.2
  have rlc := rl.ofJ
  have goal : H1 f = some (LamO X l f cc) ∧ tEw X.K c (ExK X.K CS Q) m σ H1 (fun _ H' => ∃ v : V, (some (some V.non) : Option (Option V)) = some (some v) ∧ Q v H') := by
    refine ⟨hi.1, O, env, G, rlc, W.wp_mono w (fun d hd v G' H' g r => ⟨.non, rfl, hd .non G' H' g.toJ .non⟩) fun x hx => ?_⟩
    intro cls d H' fr o nd
    refine ⟨true, by rw [o.1]; exact hX _ hx.1, fun _ a ha => ?_, fun z => by cases z⟩
    obtain ⟨G', g, r⟩ := keep_exc rlc.at fr o nd ha
    exact hx.2 (.ref a) G' _ g.toJ r
  have rc : codeAny (model X.prog X.w) X.A (.call (.ref fC) ⟨[.ref f], []⟩) (CR CX0 X.stack X.prog X.w H1 s1 Q (fun _ _ _ => False)) s1 := by
    refine LamX.run_ofS (N := ["work", "caught", "error"]) (ps := ["work"]) (us := [.ref f]) (vs := [.ref f]) lk hcdv C.d.sc hr I1.env0 (bC s1 [.ref f] I1.kIn rfl) (.cons rfl .nil) rfl fun hr' => ?_
    obtain ⟨t', ht', hq'⟩ := C.d.gv X fC CS cdv (lamQ X) mE f cc s1 H1 Q (fun E' H' Q' => H' f = some (LamO X l f cc) ∧ tEw X.K c E' m σ H' Q')
      (fun V pn xe E' q1 q2 tk hV => pe_actV (tb := tEw X.K c E' m) I1 L tk hV hr' (fun A outer s H hr2 => hbody A outer s H E' hr2) C.d.vw) hi.2 goal
    exact ⟨t', ht'.nox, hq'⟩
  refine wpAny_call (codeAny_mono rc fun r s2 hq => ?_)
  match r, hq with
  | .error e, hq => exact (show False from hq).elim
  | .ok (.ret u), hq => exact I1.after hq
end
end Sh
end Part_WM

section Part_WN
set_option maxRecDepth 100000
set_option maxHeartbeats 2000000
/-! WN: for work in [lambda: .., lambda: ..]: body. -/
namespace Sh
open PySem PySem.Spec PyProof.Rows L2

/-- the lambdas of a list, each at its place -/
def LamsAt (c : Ct) (X : Cx) (LL : List LamT) (fs : List (Addr × Addr)) (H : Hp) : Prop := fs.length = LL.length ∧ ∀ (i : Nat) (l : LamT) (x : Addr × Addr), LL[i]? = some l → fs[i]? = some x → H x.1 = some (LamO X l x.1 x.2) ∧ H x.2 = some (LamX.CodeO x.2 (lamQ X)) ∧ ¬ c.S x.1 ∧ ¬ c.S x.2
theorem not_mut_ext {φ : Heap → Prop} : ¬ MutO (.ext φ) := fun z => by rcases z with ⟨_, z⟩ | ⟨_, z⟩ | ⟨_, _, _, z⟩ <;> cases z
theorem lamsAt_st {c : Ct} {X : Cx} {LL : List LamT} {fs : List (Addr × Addr)} : StJ c (LamsAt c X LL fs) :=
  ⟨fun g ⟨n, h⟩ => ⟨n, fun i l x e1 e2 => let ⟨a, b, n1, n2⟩ := h i l x e1 e2; ⟨g _ _ a n1 nt_lam, g _ _ b n2 nt_code, n1, n2⟩⟩,
   fun s ⟨n, h⟩ => ⟨n, fun i l x e1 e2 => let ⟨a, b, n1, n2⟩ := h i l x e1 e2; ⟨s _ _ a (.inr not_mut_ext), s _ _ b (.inr not_mut_ext), n1, n2⟩⟩⟩
theorem draw_noext {p l q : Addr} {T : List (Addr × Str)} {H : Hp} (i : (ctD p l q T).I H) {a : Addr} {φ : Heap → Prop} (h : H a = some (.ext φ)) : ¬ (ctD p l q T).S a := fun z => by
  obtain ⟨r, tt, ls, cs, k1, k2, k3⟩ := i.1.ex
  rcases z with z | z
  · rw [z, k1] at h; cases h
  · rw [z, k2] at h; cases h
def tLams (X : Cx) (T : List (Addr × Str)) : List LamT → TA
  | [] => tNil
  | l :: ls => tCons (tLamV X T l) (tLams X T ls)
section
variable {X : Cx} {T : List (Addr × Str)} {p l q : Addr} {E : XK}
theorem pa_lams (B : TbF X T) : ∀ {LL : List LamT}, (∀ l ∈ LL, LamOk X l) → PA X (LL.map LamT.expr) (tLams X T LL)
  | [], _ => pa_nil
  | l :: ls, h => by
    obtain ⟨cM, PT, TB, hcode, hm, hu⟩ := B.ex
    exact pa_cons (pe_lamV TB hcode hm hu (h l List.mem_cons_self)) (pa_lams B fun x hx => h x (List.mem_cons_of_mem _ hx))
/-- the lambdas are made, one after the other -/
theorem lams_made {O : Addr → Prop} {env : Sh.Env} {σ : L2.St} {G : Hp} : ∀ {LL : List LamT} {H : Hp} {Q : List V → Hp → Prop}, RlW X.K (ctD p l q T) O env σ G H →
    (∀ (fs : List (Addr × Addr)) (H1 : Hp), GrW (ctD p l q T) G H G H1 → LamsAt (ctD p l q T) X LL fs H1 → Q (fs.map fun x => .ref x.1) H1) → tLams X T LL σ H Q
  | [], H, Q, rl, h => h [] H (GrW.refl rl.rl.gh) ⟨rfl, fun i l x e => by simp at e⟩
  | lm :: ls, H, Q, rl, h => by
    refine ⟨rl.i.2, fun f c H1 eN t1 hf h1 h2 => ?_⟩
    have g1 := grw_ext rl.at eN t1
    have rl1 := rl.grow g1
    refine lams_made (LL := ls) rl1 fun fs H2 g2 hL => ?_
    have n1 := draw_noext rl1.i h1
    have n2 := draw_noext rl1.i h2
    refine h ((f, c) :: fs) H2 (g1.trans g2) ⟨by simp [hL.1], fun i l x e1 e2 => ?_⟩
    cases i with
    | zero =>
      cases e1; cases e2
      exact ⟨g2.h _ _ h1 n1 nt_lam, g2.h _ _ h2 n2 nt_code, n1, n2⟩
    | succ i => exact hL.2 i l x e1 e2
end
/-- the parts of a lambda -/
def lamT : Expr → LamT
  | .Lambda p b s pos => ⟨p, b, s, pos⟩
  | e => ⟨default, e, default, default⟩
def lamGo (XS : List Addr) (iw : Nat) (t : Gx) (mb : Ew → Sw) : List Ew → Sh.Env → W Res
  | [], env => .ret (.nx env)
  | m :: ms, env => .any (fun d => ∃ a : Addr, d = .raw (.ref a)) fun d => (W.ofO (t d env)).bind fun env1 => (mb (wLamC XS iw d m) env1).calm.bind fun r => match r with
    | .nx e => lamGo XS iw t mb ms e
    | _ => .fail
/-- what is asked of each lambda -/
def LamsB (X : Cx) (c : Ct) (k : Nat) : List LamT → List Ew → Prop
  | [], [] => True
  | l :: ls, m :: ms => (LamOk X l ∧ ∀ (A : Around) (outer : List PySem.Env) (s : Shared) (H : Hp) (E : XK) (f c' : Addr), Room k (A.deeper (LamX.lamEnv X l.scope s.heap.objs.size f c')) → OkEw (LamX.lamCx X A outer s H E l.scope f c') c E l.body m) ∧ LamsB X c k ls ms
  | _, _ => False
section
variable {X : Cx} {c : Ct} {k : Nat}
theorem LamsB.ok : ∀ {LL : List LamT} {ms : List Ew}, LamsB X c k LL ms → ∀ l ∈ LL, LamOk X l
  | [], [], _, l, h => by simp at h
  | x :: ls, m :: ms, h, l, hl => by
    rcases List.mem_cons.mp hl with rfl | hl
    · exact h.1.1
    · exact LamsB.ok h.2 l hl
  | [], _ :: _, h, _, _ => h.elim
  | _ :: _, [], h, _, _ => h.elim
theorem LamsB.len : ∀ {LL : List LamT} {ms : List Ew}, LamsB X c k LL ms → LL.length = ms.length
  | [], [], _ => rfl
  | _ :: _, _ :: _, h => by simp [LamsB.len h.2]
  | [], _ :: _, h => h.elim
  | _ :: _, [], h => h.elim
theorem LamsB.at_ : ∀ {LL : List LamT} {ms : List Ew}, LamsB X c k LL ms → ∀ {i : Nat} {l : LamT} {m : Ew}, LL[i]? = some l → ms[i]? = some m →
    LamOk X l ∧ ∀ (A : Around) (outer : List PySem.Env) (s : Shared) (H : Hp) (E : XK) (f c' : Addr), Room k (A.deeper (LamX.lamEnv X l.scope s.heap.objs.size f c')) → OkEw (LamX.lamCx X A outer s H E l.scope f c') c E l.body m
  | [], [], _, i, l, m, e, _ => by simp at e
  | x :: ls, y :: ms, h, 0, l, m, e1, e2 => by cases e1; cases e2; exact h.1
  | x :: ls, y :: ms, h, i + 1, l, m, e1, e2 => LamsB.at_ h.2 e1 e2
  | [], _ :: _, h, _, _, _, _, _ => h.elim
  | _ :: _, [], h, _, _, _, _, _ => h.elim
end
section
variable {X : Cx} {E : XK} {T : List (Addr × Str)} {XS : List Addr} {st : Stmt} {p l q : Addr} {pos pl : Pos}
theorem okw_forLams {k iw : Nat} {tg : Expr} {t : Gx} {vs : List Nat} {ms : List Ew} {elts : List Expr} {body : List Stmt} {mb : Ew → Sw} (hp : PassesOwn (model X.prog X.w) X.A X.env X.xe) (hc : X.calm = true) (B : TbF X T) (hL : LamsB X (ctD p l q T) k (elts.map lamT) ms) (hg : OkG X vs tg t)
    (hb : ∀ (J : Hp → Prop) (S : StJ (ctD p l q T) J) (f cc : Addr) (lm : LamT) (m : Ew), (∀ H, J H → H f = some (LamO X lm f cc) ∧ H cc = some (LamX.CodeO cc (lamQ X))) → LamOk X lm →
      (∀ (A : Around) (outer : List PySem.Env) (s : Shared) (H : Hp) (E : XK), Room k (A.deeper (LamX.lamEnv X lm.scope s.heap.objs.size f cc)) → OkEw (LamX.lamCx X A outer s H E lm.scope f cc) (ctD p l q T) E lm.body m) → OkBw X (cJ (ctD p l q T) J S) E body (mb (wLamC XS iw (.raw (.ref f)) m)))
    (he : (elts.map lamT).map LamT.expr = elts := by rfl) (hlen : elts.length ≤ 1000000 := by decide) (hs : ∀ x, foldedSetIterable (.List elts pl) X.env x = pure x := by intro _; rfl) : OkSw X (ctD p l q T) E (.For tg (.List elts pl) body [] pos) (lamGo XS iw t mb ms) := by
  rw [← he]
  generalize elts.map lamT = LL at *
  have hlen : LL.length ≤ 1000000 := by rw [← he, List.length_map] at hlen; exact hlen
  have hs : ∀ x, foldedSetIterable (.List (LL.map LamT.expr) pl) X.env x = pure x := by rw [he]; exact hs
  have hbody : PSs X body (fun DE σ H => ∃ (J : Hp → Prop) (S : StJ (ctD p l q T) J) (f cc : Addr) (lm : LamT) (m : Ew), (∀ H, J H → H f = some (LamO X lm f cc) ∧ H cc = some (LamX.CodeO cc (lamQ X))) ∧ (LamOk X lm ∧
      ∀ (A : Around) (outer : List PySem.Env) (s : Shared) (H : Hp) (E : XK), Room k (A.deeper (LamX.lamEnv X lm.scope s.heap.objs.size f cc)) → OkEw (LamX.lamCx X A outer s H E lm.scope f cc) (ctD p l q T) E lm.body m) ∧ tSw X.K (cJ (ctD p l q T) J S) E (mb (wLamC XS iw (.raw (.ref f)) m)) DE σ H) :=
    ⟨fun pins s σ H DE I ⟨J, S, f, cc, lm, m, h1, h2, h3⟩ => (hb J S f cc lm m h1 h2.1 h2.2).run pins s σ H DE I h3⟩
  refine weakS (ps_for hp hc (pi_seq (pe_lst (pa_lams B hL.ok))) hg hbody hs) fun DE σ H ⟨H0, G0, env, G, rs, w⟩ => ?_
  refine lams_made rs.rl fun fs H1 g1 hJ => ?_
  refine ⟨sz6 (by rw [List.length_map, hJ.1]; exact hlen), fun a ha => ⟨a, rfl, .inl ⟨⟨_, SqL.of upd_same⟩, ?_⟩⟩⟩
  have g2 := GrW.new (c := ctD p l q T) (o := .lst (fs.map fun x => V.ref x.1)) g1.gh ha nt_lst
  have g12 := g1.trans g2
  -- the list stands for the functions as raw values
  have hraw : ∀ (G : Hp) (zs : List (Addr × Addr)), Rps X.K G (zs.map fun x => V.ref x.1) (zs.map fun x => D.raw (.ref x.1)) := fun G zs => by
    induction zs with
    | nil => exact .nil
    | cons z zs ih => exact .cons (.raw _) ih
  have wk := walks_list (K := X.K) (G := upd G a (.lst (fs.map fun x => V.ref x.1))) upd_same (hraw _ fs)
  have S0 : StJ (ctD p l q T) (LamsAt (ctD p l q T) X LL fs) := lamsAt_st
  have rsJ : RsW X.K (cJ (ctD p l q T) _ S0) H0 G0 env σ _ _ := (rs.grow g12).toJ (S0.g g2.h hJ)
  have hfl : fs.length = ms.length := hJ.1.trans hL.len
  refine ⟨fun i n σ' H' => n = ms.length - i ∧ i ≤ ms.length ∧ ∃ (env' : Sh.Env) (G' : Hp), RsW X.K (cJ (ctD p l q T) _ S0) H0 G0 env' σ' G' H' ∧ Same (upd G a (.lst (fs.map fun x => V.ref x.1))) G' ∧ (lamGo XS iw t mb (ms.drop i) env').wp (postW X.K (ctD p l q T) H0 G0 G' DE) (XcK X.K (ctD p l q T) H0 E),
    ⟨ms.length, by simp, Nat.zero_le _, env, _, rsJ, Same.refl _, by rw [List.drop_zero]; exact W.wp_mono w (fun r h => h.mono g12.g) fun _ z => z⟩, ?_⟩
  rintro i n σ' H' ⟨rfl, hi, env', G', rs', s', hgo⟩
  obtain ⟨wstop, wgo⟩ := wk i G' H' (fun b o q _ => s' b o q) rs'.rl.rl.gh
  by_cases hlt : i < ms.length
  · have hfi : i < fs.length := by omega
    have hli : i < LL.length := by rw [← hJ.1]; exact hfi
    obtain ⟨go, yl⟩ := wgo (.raw (.ref fs[i].1)) (by simp [hfi])
    refine .inr ⟨go, fun σ2 H2 => i + 1 ≤ ms.length ∧ ∃ (env2 : Sh.Env) (G2 : Hp), RsW X.K (cJ (ctD p l q T) _ S0) H0 G0 env2 σ2 G2 H2 ∧ Same (upd G a (.lst (fs.map fun x => V.ref x.1))) G2 ∧ (lamGo XS iw t mb (ms.drop (i + 1)) env2).wp (postW X.K (ctD p l q T) H0 G0 G2 DE) (XcK X.K (ctD p l q T) H0 E),
      fun σ2 H2 ⟨p1, p2⟩ => ⟨ms.length - (i + 1), by omega, rfl, p1, p2⟩, fun x H2 hy => ?_⟩
    obtain ⟨G2, gr2, r2⟩ := yl x H2 hy
    rw [List.drop_eq_getElem_cons hlt] at hgo
    have hgo := hgo (.raw (.ref fs[i].1)) ⟨_, rfl⟩
    obtain ⟨env1, t1, hgo⟩ := W.wp_ofO.mp (W.wp_bind.mp hgo)
    have hgo := W.wp_calm.mp (W.wp_bind.mp hgo)
    have w2 := gr2.w (c := cJ (ctD p l q T) _ S0) rs'.rl.nt
    have rs2 := rs'.grow w2
    refine ⟨_, env', untbl G2, _, env1, rs2.rl.rl, r2.untbl _ _, t1, fun σ3 rl3 _ => ?_⟩
    have rs3 : RsW X.K (cJ (ctD p l q T) _ S0) H0 G0 env1 σ3 (untbl G2) H2 := rs2.re rl3
    have s2 := s'.trans w2.g
    have fact : ∀ H, LamsAt (ctD p l q T) X LL fs H → H fs[i].1 = some (LamO X LL[i] fs[i].1 fs[i].2) ∧ H fs[i].2 = some (LamX.CodeO fs[i].2 (lamQ X)) := fun H h =>
      let z := h.2 i LL[i] fs[i] (by simp [hli]) (by simp [hfi])
      ⟨z.1, z.2.1⟩
    obtain ⟨lo, lb⟩ := hL.at_ (i := i) (l := LL[i]) (m := ms[i]) (by simp [hli]) (by simp [hlt])
    refine ⟨_, S0, fs[i].1, fs[i].2, LL[i], ms[i], fact, ⟨lo, fun A outer s H E => lb A outer s H E _ _⟩, H0, G0, env1, untbl G2, rs3, W.wp_mono hgo (fun r hr => ?_) fun _ z => z.elim⟩
    cases r with
    | nx e => exact fun σ4 G4 H4 rs4 s4 => ⟨hlt, e, G4, rs4, s2.trans s4, W.wp_mono hr (fun r h => h.mono (w2.g.trans s4)) fun _ z => z⟩
    | _ => exact hr.elim
  · rw [List.drop_eq_nil_of_le (by omega)] at hgo
    have hgo : postW X.K (ctD p l q T) H0 G0 G' DE (.nx env') := hgo
    exact .inl ⟨wstop (by simp; omega), hgo σ' G' H' rs'.ofJ (Same.refl _)⟩
end
end Sh
end Part_WN

section Part_WO
set_option maxRecDepth 100000
set_option maxHeartbeats 4000000
/-! WO: data rules: great ints, math.gcd, tuple * int, text + text, in over deep data, repr; names that a piece only looks at. -/
namespace L2
open PySem PySem.Spec PyProof.Rows
/-- t * 1 is t -/
theorem tuple_mul1 (l : Addr) (items : Array Value) (n : Nat) (u : Tok) :
    Meets (Builtin.«tuple.__mul__» ⟨[.ref l, .int 1 u], []⟩) (fun _ R s => (∃ dd sl, s.heap.get? l = some { cls := .type "tuple", dict := dd, data := .seq items n, slots := sl }) ∧ R (.ok (.ret (Value.ref l))) s) :=
  .of_wp fun prog w A R s h => by
    obtain ⟨hp, g, d, tk, os⟩ := s
    obtain ⟨⟨dd, sl, hl⟩, h⟩ := h
    have f1 := AutoSeq1.idx_int
    have c1 : (items.isEmpty || (1 : Int) == 1) = true := by simp
    wp_walk using wpAny_loadPart' hl
    repeat (first
      | (refine wpAny_ite_true (decide_eq_true c1) ?_; wp_walk using wpAny_loadPart' hl)
      | (refine wpAny_ite_false (by decide) ?_; wp_walk using wpAny_loadPart' hl))
    exact ⟨_, rfl, h⟩
def rRepT1 (K : PySem.W.Frag) : R2 := fun x y H Q => ∃ l xs, x = .ref l ∧ y = .int 1 ∧ SqT K H l xs ∧ Q (.ref l) H
section
variable {X : Cx}
theorem op_repT1 : OpR X (binaryOp .Mult) (rRepT1 X.K) := by
  intro pins s σ H x y v u Q I rx ry h
  obtain ⟨l, xs, rfl, rfl, hT, q⟩ := h
  cases rx
  obtain ⟨t, rfl⟩ := ry
  obtain ⟨its, r, ⟨⟨cls, dd, data, sl⟩, ho, hc, n, hd⟩, hs⟩ := I.tuple hT
  simp only at hc hd
  subst hc hd
  exact wpAny_binaryOp_repeat_ref (T := "tuple") (U := "int") (by decide) ⟨_, ho, rfl⟩ (fun s' => typeIs_int s' 1 t) noFill_tuple_mul F.fills_int_mul F.slot_int_rmul repeat_tuple F.slot_int_index.lookup
    (call_meets F.slot_int_rmul (typeIs_int s 1 t) F.entry_int_rmul (F.args_int_rmul_2 _ _) (int_rmul_tuple 1 t l its.toArray n dd sl)
      ⟨ho, rfl, ⟨_, ho, rfl⟩, call_meets F.slot_tuple_mul ⟨_, ho, rfl⟩ F.entry_tuple_mul (F.args_tuple_mul_2 _ _) (tuple_mul1 l its.toArray n t) ⟨⟨dd, sl, ho⟩, .ref l, H, I, rfl, q⟩⟩)
end
end L2
namespace Sh
open PySem L2 PySem.Spec PyProof.Rows
def fFdivA (i j : Int) : Option Int := if j ≠ 0 ∧ j.natAbs.log2 < 9000 then some (i.fdiv j) else none
def sMulA : D → D → Option D
  | .int i, .int j => if i.natAbs.log2 + j.natAbs.log2 < 1000000 then some (.int (i * j)) else none
  | .lst a, .int k => if -1000000 ≤ k ∧ k ≤ 1000000 ∧ a.length * k.toNat ≤ 1000000 then some (.lst (List.replicate k.toNat a).flatten) else none
  | .tup a, .int k => if a ≠ [] ∧ 1 ≤ k ∧ k ≤ 1000 ∧ a.length ≤ 1000 then some (.tup (List.replicate k.toNat a).flatten) else none
  | _, _ => none
abbrev rMulA (K : PySem.W.Frag) : R2 := fun x y H Q => (rI CMulW (fun i j => .int (i * j)) x y H Q ∨ rRep x y H Q) ∨ (rRepT K x y H Q ∨ rRepT1 K x y H Q)
section
variable {K : PySem.W.Frag}
theorem sem_fdivA : Sem2 K (rI CDivA fun i j => .int (i.fdiv j)) (sInt fFdivA) := sem_int fun i j z q => by
  unfold fFdivA at q
  split at q
  · rename_i h; cases q; exact ⟨h, rfl⟩
  · cases q
theorem sem_mulA : Sem2 K (rMulA K) sMulA := by
  intro x y dx dy d G H Q e rx ry q k
  cases rx with
  | int i =>
    cases ry with
    | int j =>
      unfold sMulA at q
      dsimp only at q
      split at q
      · rename_i h
        cases q
        exact .inl (.inl ⟨i, j, rfl, rfl, h, k _ G H (Gr.refl e) (.int _)⟩)
      · cases q
    | _ => cases q
  | @lst a xs ds h1 h2 =>
    cases ry with
    | int j =>
      unfold sMulA at q
      dsimp only at q
      split at q
      · rename_i h
        cases q
        refine .inl (.inr ⟨a, j, xs, rfl, rfl, e _ _ h1, by omega, by omega, sz6 (by rw [h2.length]; exact h.2.2), fun p hp => ?_⟩)
        have g := Gr.new (o := .lst (List.replicate j.toNat xs).flatten) e hp
        exact k _ _ _ g (.lst upd_same ((h2.flatRep _).mono g.g _ _))
      · cases q
    | _ => cases q
  | @tup a xs ds h1 h2 =>
    cases ry with
    | int j =>
      unfold sMulA at q
      dsimp only at q
      split at q
      · rename_i h
        cases q
        obtain ⟨hne, hj1, hj2, hl⟩ := h
        have hl2 := h2.length
        by_cases hj : j = 1
        · subst hj
          refine .inr (.inr ⟨a, xs, rfl, rfl, same_sqt e h1, ?_⟩)
          have e1 : (List.replicate (1 : Int).toNat ds).flatten = ds := by simp
          exact k _ G H (Gr.refl e) (by rw [e1]; exact .tup h1 h2)
        · refine .inr (.inl ⟨a, j, xs, rfl, rfl, same_sqt e h1, fun z => hne (by rw [z] at hl2; exact List.length_eq_zero_iff.mp hl2.symm), by omega, hj2, by omega, fun p hp => ?_⟩)
          have g := Gr.new (o := .tup (List.replicate j.toNat xs).flatten) e hp
          exact k _ _ _ g (.tup (SqT.of upd_same) ((h2.flatRep _).mono g.g _ _))
      · cases q
    | _ => cases q
  | _ => cases ry <;> cases q
/-- + : as sAdd, and texts -/
def sAddA : D → D → Option D
  | .str a, .str b => if a.length + b.length ≤ 1000000 then some (.str (a ++ b)) else none
  | x, y => sAdd x y
abbrev rAddA (K : PySem.W.Frag) : R2 := fun x y H Q => rAdd K x y H Q ∨ ∃ i j, x = .str i ∧ y = .str j ∧ i.length + j.length ≤ sizeLine ∧ Q (.str (i ++ j)) H
theorem sem_addA : Sem2 K (rAddA K) sAddA := by
  intro x y dx dy d G H Q e rx ry q k
  unfold sAddA at q
  split at q
  · split at q
    · rename_i h
      cases q
      cases rx
      cases ry
      exact .inr ⟨_, _, rfl, rfl, sz6 h, k _ G H (Gr.refl e) (.str _)⟩
    · cases q
  · exact .inl (sem_add x y _ _ d G H Q e rx ry q k)
/-- in, not in: items of any depth -/
def sInA (neg : Bool) (a b : D) : Option D := match dpy a, dpy b with
  | some p, some (.list ps) => if SeqAt.shaped p = true ∧ SeqAt.shaped (.list ps) = true then some (.bl (if neg then !(ps.any fun z => PyData.eqv z p) else ps.any fun z => PyData.eqv z p)) else none
  | _, _ => none
abbrev rInA (K : PySem.W.Frag) (neg : Bool) : R2 := fun x y H Q => ∃ d ds, Dp K H x d ∧ Dp K H y (.list ds) ∧ SeqAt.shaped d = true ∧ SeqAt.shaped (.list ds) = true ∧ Q (.bl (if neg then !(ds.any fun z => PyData.eqv z d) else ds.any fun z => PyData.eqv z d)) H
theorem sem_inA {neg : Bool} : SemP K (rInA K neg) (sInA neg) := by
  intro x y dx dy d H Q rx ry q k
  unfold sInA at q
  split at q
  · rename_i p ps e1 e2
    split at q
    · rename_i h
      cases q
      exact ⟨p, ps, rx.dp _ _ _ e1, ry.dp _ _ _ e2, h.1, h.2, k _ fun _ => .bl _⟩
    · cases q
  · cases q
def cGcd : List D → Option D
  | [.int i, .int j] => some (.int (Nat.gcd i.natAbs j.natAbs : Nat))
  | _ => none
theorem sem_gcd : SemC K rGcd cGcd := by
  intro xs ds d G H Q e h q k
  unfold cGcd at q
  split at q
  · obtain ⟨v, u, rfl, r1, r2⟩ : ∃ v u, xs = [v, u] ∧ Rp K G v (.int _) ∧ Rp K G u (.int _) := by
      cases h with
      | cons a b => cases b with
        | cons a2 b2 => cases b2; exact ⟨_, _, rfl, a, a2⟩
    cases q; cases r1; cases r2
    exact ⟨_, _, rfl, k _ G H (Gr.refl e) (.int _)⟩
  · cases q
/-- repr, also of None, texts, ints, bools -/
abbrev rReprA (K : PySem.W.Frag) : List V → Hp → VK → Prop := fun xs H Q => rRepr K xs H Q ∨ (xs = [.non] ∧ Q (.str "None") H) ∨ (∃ x, xs = [.str x] ∧ (PySem.reprText x).length ≤ sizeLine ∧ Q (.str (PySem.reprText x)) H) ∨
  (∃ i : Int, xs = [.int i] ∧ i.natAbs.log2 < 1920 ∧ Q (.str (toString i)) H)
theorem call_reprA {X : Cx} (hg : X.A.guards = some []) (hu : X.A.units + 64 < cLine) : CallR X (.builtin "repr") (rReprA X.K) := by
  intro pins s σ H xs us Q I r h
  rcases h with h | ⟨rfl, q⟩ | ⟨x, rfl, hz, q⟩ | ⟨i, rfl, hz, q⟩
  · exact call_repr hg hu pins s σ H xs us Q I r h
  · obtain ⟨u, rfl, ru⟩ := vals1 r
    cases ru
    exact PySem.P.repr_of_none ⟨.str _, H, I.tok _, ⟨_, rfl⟩, q⟩
  · obtain ⟨u, rfl, t, rfl⟩ := vals1 r
    exact PySem.P.repr_of_str ⟨.str _, H, I.tok _, ⟨_, rfl⟩, q⟩ hz
  · obtain ⟨u, rfl, t, rfl⟩ := vals1 r
    exact PySem.P.repr_of_int hz ⟨.str _, H, I.tok _, ⟨_, rfl⟩, q⟩
def cReprD (d : D) : Option D := match dpy d, d with
  | some p, .tup _ => if p.showable = true ∧ p.hasDict = false ∧ p.depth ≤ 40 ∧ p.shown.length ≤ 1000000 then some (.str p.shown) else none
  | some p, .lst _ => if p.showable = true ∧ p.hasDict = false ∧ p.depth ≤ 40 ∧ p.shown.length ≤ 1000000 then some (.str p.shown) else none
  | _, _ => none
def cRepr : List D → Option D
  | [.non] => some (.str "None")
  | [.str x] => if (PySem.reprText x).length ≤ 1000000 then some (.str (PySem.reprText x)) else none
  | [.int i] => if i.natAbs.log2 < 1920 then some (.str (toString i)) else none
  | [d] => cReprD d
  | _ => none
theorem sem_repr : SemC K (rReprA K) cRepr := by
  intro xs ds d G H Q e h q k
  unfold cRepr at q
  split at q
  · obtain ⟨v, rfl, r⟩ := rps1 h
    cases q; cases r
    exact .inr (.inl ⟨rfl, k _ G H (Gr.refl e) (.str _)⟩)
  · obtain ⟨v, rfl, r⟩ := rps1 h
    split at q
    · rename_i hz
      cases q; cases r
      exact .inr (.inr (.inl ⟨_, rfl, sz6 hz, k _ G H (Gr.refl e) (.str _)⟩))
    · cases q
  · obtain ⟨v, rfl, r⟩ := rps1 h
    split at q
    · rename_i hz
      cases q; cases r
      exact .inr (.inr (.inr ⟨_, rfl, hz, k _ G H (Gr.refl e) (.str _)⟩))
    · cases q
  · rename_i n1 n2 n3
    clear n1 n2 n3
    obtain ⟨v, rfl, r⟩ := rps1 h
    unfold cReprD at q
    split at q
    · rename_i p _ ep
      split at q
      · rename_i hc
        cases q
        have rp := (r.mono e _ _).dp _ _ _ ep
        cases r with
        | tup h1 h2 => exact .inl ⟨_, p, rfl, rp, hc.1, hc.2.1, hc.2.2.1, sz6 hc.2.2.2, k _ G H (Gr.refl e) (.str _)⟩
      · cases q
    · rename_i p _ ep
      split at q
      · rename_i hc
        cases q
        have rp := (r.mono e _ _).dp _ _ _ ep
        cases r with
        | lst h1 h2 => exact .inl ⟨_, p, rfl, rp, hc.1, hc.2.1, hc.2.2.1, sz6 hc.2.2.2, k _ G H (Gr.refl e) (.str _)⟩
      · cases q
    · cases q
  · cases q
end
section
variable {X : Cx} {a b : Expr} {ma mb : Ex} {pos p : Pos} {c : Ct} {E : XK} {na nb : Ew} {e : Expr} {es : List Expr}
theorem ok_addA (ha : OkE X a ma) (hb : OkE X b mb) : OkE X (.BinOp a .Add b pos) (eBin sAddA ma mb) := ok_bin (op_addR.or op_add_str) sem_addA ha hb
theorem ok_mulA (ha : OkE X a ma) (hb : OkE X b mb) : OkE X (.BinOp a .Mult b pos) (eBin sMulA ma mb) := ok_bin ((op_mulW.or op_rep).or (op_repT.or op_repT1)) sem_mulA ha hb
theorem ok_fdivA (ha : OkE X a ma) (hb : OkE X b mb) : OkE X (.BinOp a .FloorDiv b pos) (eBin (sInt fFdivA) ma mb) := ok_bin op_fdivA sem_fdivA ha hb
theorem okw_add (ha : OkEw X c E a na) (hb : OkEw X c E b nb) : OkEw X c E (.BinOp a .Add b pos) (wBin sAddA na nb) := okw_bin (op_addR.or op_add_str) sem_addA ha hb
theorem okw_sub (ha : OkEw X c E a na) (hb : OkEw X c E b nb) : OkEw X c E (.BinOp a .Sub b pos) (wBin (sInt fSub) na nb) := okw_bin op_subR sem_sub ha hb
theorem okw_mul (ha : OkEw X c E a na) (hb : OkEw X c E b nb) : OkEw X c E (.BinOp a .Mult b pos) (wBin sMulA na nb) := okw_bin ((op_mulW.or op_rep).or (op_repT.or op_repT1)) sem_mulA ha hb
theorem okw_fdiv (ha : OkEw X c E a na) (hb : OkEw X c E b nb) : OkEw X c E (.BinOp a .FloorDiv b pos) (wBin (sInt fFdivA) na nb) := okw_bin op_fdivA sem_fdivA ha hb
theorem okw_mod (ha : OkEw X c E a na) (hb : OkEw X c E b nb) : OkEw X c E (.BinOp a .Mod b pos) (wBin (sInt fMod) na nb) := okw_bin op_modN sem_mod ha hb
theorem op_inA (hu : X.A.units + 65 < cLine) : OpR X (compareOp .In) (rInA X.K false) := fun pins s σ H x y v u Q I rx ry h => op_inD hu pins s σ H x y v u Q I rx ry h
theorem op_ninA (hu : X.A.units + 65 < cLine) : OpR X (compareOp .NotIn) (rInA X.K true) := fun pins s σ H x y v u Q I rx ry h => op_notInD hu pins s σ H x y v u Q I rx ry h
theorem ok_inA (hu : X.A.units + 65 < cLine) (ha : OkP X a ma) (hb : OkP X b mb) (hm : behindInMarks .In b = false := by with_unfolding_all rfl) : OkE X (.Compare a [.In] [b] pos) (eBin (sInA false) ma mb) := ok_cmp (op_inA hu) sem_inA ha hb hm
theorem ok_ninA (hu : X.A.units + 65 < cLine) (ha : OkP X a ma) (hb : OkP X b mb) (hm : behindInMarks .NotIn b = false := by with_unfolding_all rfl) : OkE X (.Compare a [.NotIn] [b] pos) (eBin (sInA true) ma mb) := ok_cmp (op_ninA hu) sem_inA ha hb hm
theorem ok_inAT (hu : X.A.units + 65 < cLine) (ha : OkP X a ma) (hb : OkP X b mb) (hm : behindInMarks .In b = false := by with_unfolding_all rfl) : OkT X (.Compare a [.In] [b] pos) (bBin (sInA false) ma mb) := ok_cmpT (op_inA hu) sem_inA ha hb hm
theorem ok_ninAT (hu : X.A.units + 65 < cLine) (ha : OkP X a ma) (hb : OkP X b mb) (hm : behindInMarks .NotIn b = false := by with_unfolding_all rfl) : OkT X (.Compare a [.NotIn] [b] pos) (bBin (sInA true) ma mb) := ok_cmpT (op_ninA hu) sem_inA ha hb hm
/-- gcd(a, b) -/
theorem ok_gcd {x : Str} {ms : Ax} (hm : X.mg x = some (.builtin "math.gcd")) (ha : OkA X (e :: es) ms) (hg : Gl X x := by rfl) (hdb : (x == ("__debug__" : Str)) = false := by decide)
    (he : starEach (e :: es) X.env = (false, eval e X.env) :: starEach es X.env := by rfl) (hpl : (backTo pos (starEach es X.env)).any (·.1) = false := by rfl) : OkE X (.Call (.Name x p) (e :: es) [] pos) (eCB cGcd ms) :=
  weakE (pe_callBfun cr_gcd hg hm ha hdb he hpl) fun σ H Q h => stepC sem_gcd h
/-- repr(e), where no repr is under way -/
theorem okw_repr {ms : Aw} (hgd : X.A.guards = some []) (hu : X.A.units + 64 < cLine) (hm : X.mg "repr" = none) (ha : OkAw X c E (e :: es) ms) (hg : Gl X "repr" := by rfl)
    (he : starEach (e :: es) X.env = (false, eval e X.env) :: starEach es X.env := by rfl) (hpl : (backTo pos (starEach es X.env)).any (·.1) = false := by rfl) : OkEw X c E (.Call (.Name "repr" p) (e :: es) [] pos) (wCB cRepr ms) :=
  okw_cb (call_reprA hgd hu) sem_repr hm ha (by decide +kernel) hg (by decide) (by decide) he hpl
end
end Sh
end Part_WO

section Part_WQ
set_option maxRecDepth 100000
set_option maxHeartbeats 2000000
/-! WQ: owned lists: pieces that only look at them; l[k] = e; list(..) and comprehensions as owned lists. -/
namespace Sh
open PySem L2 PySem.Spec PyProof.Rows

/-! ### looking -/
mutual
/-- no list within -/
def noL : D → Bool
  | .lst _ => false
  | .dct _ => false
  | .tup ds => noLs ds
  | .ins _ _ ds => noLs ds
  | .exc _ ds => noLs ds
  | .non => true
  | .bl _ => true
  | .int _ => true
  | .str _ => true
  | .raw _ => true
  | .rng _ _ => true
  | .emp => true
def noLs : List D → Bool
  | [] => true
  | d :: ds => noL d && noLs ds
end
section
variable {K : PySem.W.Frag} {G : Hp} {a : Addr} {zs : List V}
theorem del_at {b : Addr} {o : HO} (h : G b = some o) (hn : ∀ ys, o ≠ .lst ys) (ha : G a = some (.lst zs)) : del G a b = some o := by
  rw [del_ne (fun z => by rw [z, ha] at h; cases h; exact hn _ rfl)]; exact h
mutual
theorem Rp.del (ha : G a = some (.lst zs)) : ∀ (d : D) (v : V), noL d = true → Rp K G v d → Rp K (L2.del G a) v d
  | .non, _, _, h => by cases h; exact .non
  | .bl _, _, _, h => by cases h; exact .bl _
  | .int _, _, _, h => by cases h; exact .int _
  | .str _, _, _, h => by cases h; exact .str _
  | .raw _, _, _, h => by cases h; exact .raw _
  | .rng _ _, _, _, h => by
    cases h with
    | rng _ _ h1 => exact .rng _ _ (del_at h1 (fun _ z => by cases z) ha)
  | .tup ds, _, n, h => by
    cases h with
    | tup h1 h2 =>
      refine .tup ?_ (Rps.del ha ds _ n h2)
      rcases h1 with (h1 | ⟨o, h1⟩) | h1
      · exact .inl (.inl (del_at h1 (fun _ z => by cases z) ha))
      · exact .inl (.inr ⟨o, del_at h1 (fun _ z => by cases z) ha⟩)
      · exact .inr h1
  | .ins _ _ ds, _, n, h => by
    cases h with
    | ins h1 h2 h3 h4 => exact .ins (del_at h1 (fun _ z => by cases z) ha) h2 h3 (Rps.del ha ds _ n h4)
  | .exc _ ds, _, n, h => by
    cases h with
    | exc0 h1 => exact .exc0 (del_at h1 (fun _ z => by unfold ExC at z; cases z) ha)
    | exc1 h1 h2 h3 h4 => exact .exc1 (del_at h1 (fun _ z => by unfold ExC at z; cases z) ha) (del_at h2 (fun _ z => by cases z) ha) h3 (Rps.del ha ds _ n h4)
  | .emp, _, _, h => by
    cases h with
    | emp h1 => exact .emp (del_at h1 (fun _ z => by cases z) ha)
  | .lst _, _, n, _ => by cases n
  | .dct _, _, n, _ => by cases n
theorem Rps.del (ha : G a = some (.lst zs)) : ∀ (ds : List D) (vs : List V), noLs ds = true → Rps K G vs ds → Rps K (L2.del G a) vs ds
  | [], _, _, h => by cases h; exact .nil
  | d :: ds, _, n, h => by
    cases h with
    | cons h1 h2 =>
      obtain ⟨n1, n2⟩ := Bool.and_eq_true_iff.mp (show (noL d && noLs ds) = true from n)
      exact .cons (Rp.del ha d _ n1 h1) (Rps.del ha ds _ n2 h2)
end
end
section
variable {K : PySem.W.Frag} {c : Ct} {O : Addr → Prop} {env : Env} {σ : L2.St} {G H : Hp}
theorem Rl.frz_own (r : Rl K O env σ G H) {i : Nat} {ds : List D} (he : env[i]? = some (some (true, .lst ds))) : ∃ a xs, G a = none ∧ H a = some (.lst xs) ∧ Rl K O (env.set i (some (false, .lst ds))) σ (upd G a (.lst xs)) H := by
  obtain ⟨a, q1, q2, q3, xs, w1, w2⟩ := r.ow i _ he
  have hi : i < env.length := (List.getElem?_eq_some_iff.mp he).1
  have eG : Same G (upd G a (.lst xs)) := fun b u q => by rw [upd_ne (ne_of_none q q2)]; exact q
  refine ⟨a, xs, q2, w1, fun b u q => ?_, by simpa using r.len, fun j e h => ?_, fun j e h => ?_, fun j k d1 d2 b h1 h2 h3 h4 => ?_⟩
  · by_cases hb : b = a
    · rw [hb, upd_same] at q; cases q; rw [hb]; exact w1
    · rw [upd_ne hb] at q; exact r.gh b u q
  · by_cases hj : i = j
    · subst hj
      rw [List.getElem?_set_self hi] at h
      cases h
      exact ⟨_, q1, .lst upd_same (w2.mono eG _ _)⟩
    · rw [List.getElem?_set_ne hj] at h
      obtain ⟨v, z1, z2⟩ := r.fr j e h
      exact ⟨v, z1, z2.mono eG _ _⟩
  · have hj : i ≠ j := fun z => by subst z; rw [List.getElem?_set_self hi] at h; cases h
    rw [List.getElem?_set_ne hj] at h
    obtain ⟨b, z1, z2, z3, z4⟩ := r.ow j e h
    have hb : b ≠ a := fun z => hj (r.dj i j _ e a he h q1 (by rw [← z]; exact z1))
    refine ⟨b, z1, by rw [upd_ne hb]; exact z2, z3, ?_⟩
    cases e with
    | lst es => obtain ⟨ys, y1, y2⟩ := z4; exact ⟨ys, y1, y2.mono eG _ _⟩
    | dct es => obtain ⟨ys, y1, y2⟩ := z4; exact ⟨ys, y1, y2.mono eG⟩
    | _ => exact z4.elim
  · have hj : i ≠ j := fun z => by subst z; rw [List.getElem?_set_self hi] at h1; cases h1
    have hk : i ≠ k := fun z => by subst z; rw [List.getElem?_set_self hi] at h2; cases h2
    rw [List.getElem?_set_ne hj] at h1
    rw [List.getElem?_set_ne hk] at h2
    exact r.dj j k d1 d2 b h1 h2 h3 h4
/-- looked at through a piece, an owned list stays owned -/
theorem RlW.look (r : RlW K c O env σ G H) (i : Nat) : ∃ Gp, RlW K c O (frz i env) σ Gp H ∧ ∀ G' H', GrW c Gp H G' H' → ∃ G2, GrW c G H G2 H' ∧ ∀ v d, noL d = true → Rp K G' v d → Rp K G2 v d := by
  unfold frz
  split
  · rename_i ds he
    obtain ⟨a, xs, ga, ha, rl⟩ := r.rl.frz_own he
    obtain ⟨a2, q1, q2, q3, q4⟩ := r.rl.ow i _ he
    refine ⟨upd G a (.lst xs), ⟨rl, r.i, fun b s => ?_, r.fg, r.so, r.nt.upd nt_lst⟩, fun G' H' g => ?_⟩
    · by_cases hb : b = a
      · exfalso
        rw [hb] at s
        obtain ⟨v, w1, w2⟩ := rl.fr i _ (by rw [List.getElem?_set_self (List.getElem?_eq_some_iff.mp he).1])
        cases w2 with
        | lst h1 h2 =>
          rw [q1] at w1; cases w1
          by_cases hz : a2 = a
          · rw [hz] at q3; exact r.so a q3 (c.sf a s)
          · rw [upd_ne hz, q2] at h1; cases h1
      · rw [upd_ne hb]; exact r.sg b s
    · have ga' : G' a = some (.lst xs) := g.g _ _ upd_same
      have sub : ∀ b o, del G' a b = some o → b ≠ a ∧ G' b = some o := fun b o q => by
        by_cases hb : b = a
        · unfold del at q; rw [if_pos hb] at q; cases q
        · rw [del_ne hb] at q; exact ⟨hb, q⟩
      refine ⟨del G' a, ⟨g.h, fun b o q => ?_, fun b o q => g.gh b o (sub b o q).2, fun b o q => ?_, g.nl, g.i, fun n b o q => g.nt (n.upd nt_lst) b o (sub b o q).2⟩, fun v d n h => h.del ga' d v n⟩
      · have hb : b ≠ a := ne_of_none q ga
        rw [del_ne hb]
        exact g.g b o (by rw [upd_ne hb]; exact q)
      · obtain ⟨hb, q⟩ := sub b o q
        rcases g.nw b o q with z | z
        · rw [upd_ne hb] at z; exact .inl z
        · exact .inr z
  · exact ⟨G, r, fun G' H' g => ⟨G', g, fun v d _ h => h⟩⟩
end
def wLook (i : Nat) (m : Ew) : Ew := fun env => (m (frz i env)).bind fun d => if noL d then .ret d else .fail
def wLookT (i : Nat) (m : Tw) : Tw := fun env => m (frz i env)
section
variable {X : Cx} {c : Ct} {E : XK} {e : Expr}
theorem okw_look (i : Nat) {m : Ew} (h : OkEw X c E e m) : OkEw X c E e (wLook i m) := weakE h fun σ H Q ⟨O, env, G, rl, w⟩ => by
  obtain ⟨Gp, rp, k⟩ := rl.look i
  refine ⟨O, _, Gp, rp, W.wp_mono (W.wp_bind.mp w) (fun d hd v G' H' g r => ?_) fun _ z => z⟩
  split at hd
  · rename_i hn
    obtain ⟨G2, g2, q⟩ := k G' H' g
    exact hd v G2 H' g2 (q v d hn r)
  · exact hd.elim
theorem okw_lookT (i : Nat) {m : Tw} (h : OkTw X c E e m) : OkTw X c E e (wLookT i m) := weakT h fun σ H Q ⟨O, env, G, rl, w⟩ => by
  obtain ⟨Gp, rp, k⟩ := rl.look i
  exact ⟨O, _, Gp, rp, W.wp_mono w (fun d hd G' H' g => let ⟨G2, g2, _⟩ := k G' H' g; hd G2 H' g2) fun _ z => z⟩
end

/-! ### stores and new lists -/
def wsPut (i : Nat) (mk m : Ew) : Sw := fun env => match env[i]? with
  | some (some (true, .lst ds)) => (m env).bind fun d => (mk env).bind fun k => match k with
    | .int n => match ixN ds.length n with
      | some j => .ret (.nx (env.set i (some (true, .lst (ds.set j d)))))
      | none => .fail
    | _ => .fail
  | _ => .fail
def wfList (m : Aw) : Fw := fun env => (m env).bind fun ds => match cList ds with
  | some (.lst xs) => .ret (true, .lst xs)
  | _ => .fail
def wfComp (src : Aw) (vs : List Nat) (tgt : Gx) (cond : Tw) (el : Ew) : Fw := fun env => (src env).bind fun ds => if ds.length ≤ 1000000 then (compGoW tgt cond el (wipeE env vs) ds).bind fun out => .ret (true, .lst out) else .fail
section
variable {X : Cx} {c : Ct} {E : XK} {e : Expr} {es : List Expr} {pos : Pos}
theorem okw_put (i : Nat) {x : Str} {ei : Expr} {mk m : Ew} {p pos' : Pos} (hk : OkEw X c E ei mk) (he : OkEw X c E e m) (hi : X.N[i]? = some x := by rfl) (hv : Vis X.env.scope x := by first | exact Or.inl rfl | exact Or.inr (Or.inl rfl) | exact Or.inr (Or.inr rfl)) (hd : (x == ("__debug__" : Str)) = false := by decide)
    (hcd : (x == ("__classdict__" : Str)) = false := by decide) (ha : ∀ v, assign (.Subscript (.Name x p) ei pos') X.env v = (do
      let ov ← holding [v] (eval (.Name x p) X.env)
      let iv ← holding [v, ov] (eval ei X.env)
      standAt pos'
      holding [v, ov, iv] (setItem ov iv v)
      release [v, ov, iv] []) := by intro _; rfl) (hs : swapsWithSole [.Subscript (.Name x p) ei pos'] e pos.line X.env = pure false := by rfl) (hw : swappedStores [.Subscript (.Name x p) ei pos'] e X.env = pure none := by rfl)
    (h1 : (assignEach [.Subscript (.Name x p) ei pos'] X.env).map (·.2) = [assign (.Subscript (.Name x p) ei pos') X.env] := by rfl) : OkSw X c E (.Assign [.Subscript (.Name x p) ei pos'] e pos) (wsPut i mk m) :=
  weakS (ps_asg he (pg_sub (pe_var (i := i) hi hv hd hcd) hk set_list ha) hs hw h1) fun DE σ H ⟨H0, G0, env, G, rs, w⟩ => by
    unfold wsPut at w
    split at w
    · rename_i ds hn
      refine atEw rs (W.wp_bind.mp w) fun d hd u G1 H1 rs1 s1 g1 r1 => ?_
      obtain ⟨a, q1, _⟩ := rs1.rl.rl.ow i _ hn
      refine ⟨_, q1, atEw rs1 (W.wp_bind.mp hd) fun k hk y G2 H2 rs2 s2 g2 r2 => ?_⟩
      cases k with
      | int n =>
        have hk : (match ixN ds.length n with | some j => W.ret (Res.nx (env.set i (some (true, .lst (ds.set j d))))) | none => .fail : W Res).wp _ _ := hk
        split at hk
        · rename_i j hj
          cases r2
          obtain ⟨a', z1, z2, z3, ys, y1, y2⟩ := rs2.rl.rl.ow i _ hn
          rw [q1] at z1; cases z1
          refine ⟨a, ys, n, j, rfl, rfl, y1, by rw [y2.length]; exact hj, ?_⟩
          exact hk _ G2 _ (rs2.write hn q1 ⟨_, upd_same, y2.set _ (r1.mono s2 _ _)⟩) (s1.trans s2)
        · exact hk.elim
      | _ => exact hk.elim
    · exact w.elim
theorem okw_fList {p : Pos} {m : Aw} (hm : X.mg "list" = none) (ha : OkAw X c E (e :: es) m) (hg : Gl X "list" := by rfl) (he : starEach (e :: es) X.env = (false, eval e X.env) :: starEach es X.env := by rfl) (hpl : (backTo pos (starEach es X.env)).any (·.1) = false := by rfl) :
    OkFw X c E (.Call (.Name "list" p) (e :: es) [] pos) (wfList m) :=
  weakE (pe_callTy call_list_of hg hm (by decide +kernel) ha (by decide) (by decide) he hpl) fun σ H Q ⟨O, env, G, rl, w⟩ => by
    refine ⟨O, env, G, rl, W.wp_mono (W.wp_bind.mp w) (fun ds hd vs G1 H1 g1 r1 => ?_) fun _ z => z⟩
    split at hd
    · rename_i xs hx
      have fin : ∀ (ys : List V), Rps X.K G1 ys xs → ∀ l, H1 l = none → Q (.ref l) (upd H1 l (.lst ys)) := fun ys hy l hl =>
        hd (.ref l) _ _ (g1.own (o := .lst ys) hl) ⟨l, rfl, g1.fr.free (nn_none hl), free_of g1.gh hl, ys, upd_same, hy⟩
      unfold cList at hx
      split at hx
      · cases hx
        obtain ⟨v, rfl, r⟩ := rps1 r1
        cases r with
        | @tup a ys es h1 h2 => exact ⟨_, _, rfl, .inr (same_sqt g1.gh h1), fin _ h2⟩
      · cases hx
        obtain ⟨v, rfl, r⟩ := rps1 r1
        cases r with
        | @lst a ys es h1 h2 => exact ⟨_, _, rfl, .inl (SqL.of (g1.gh _ _ h1)), fin _ h2⟩
      · cases hx
    · exact hd.elim
theorem okw_fComp {elt tg iter : Expr} {ifs : List Expr} {scope : Scope} {own : List (Str × Nat)} {src : Aw} {tgt : Gx} {cond : Tw} {el : Ew} (hc : X.calm = true) (hN : X.N.Nodup) (hi : OkIw X c E tg iter src) (ok : blkC X.N X.env.scope scope own = true)
    (hg : ∀ (s : Shared) (H : Hp) (C : Addr) (cl : List (Str × Addr)) (fp : List Addr), OkG (X.blk s H scope (compEnvC scope cl C X.env) fp) (own.map (·.2)) tg tgt) (ht : ∀ (s : Shared) (H : Hp) (C : Addr) (cl : List (Str × Addr)) (fp : List Addr), OkTsw (X.blk s H scope (compEnvC scope cl C X.env) fp) c (fun _ _ _ => False) ifs cond)
    (he : ∀ (s : Shared) (H : Hp) (C : Addr) (cl : List (Str × Addr)) (fp : List Addr), OkEw (X.blk s H scope (compEnvC scope cl C X.env) fp) c (fun _ _ _ => False) elt el) (hs : ∀ x, foldedSetIterable iter X.env x = pure x := by intro _; rfl) :
    OkFw X c E (.ListComp elt [⟨tg, iter, ifs, 0⟩] scope pos) (wfComp src (own.map (·.2)) tgt cond el) :=
  weakE (pe_lc (wi := tIw X.K c E src) (own := own) (g := tG X.K (own.map (fun p : Str × Nat => p.2)) tgt) (tt := tTw X.K c (fun _ _ _ => False) cond) (te := tEw X.K c (fun _ _ _ => False) el) hc hN hi (blkOk_by ok) hg ht he hs) fun σ H Q ⟨O, env, G, rl, w⟩ => by
    refine stepCompW0 (F := fun out => ∀ v G' H', GrW c G H G' H' → FpW X.K G' H' H v (true, .lst out) → Q v H') rl (W.wp_mono (W.wp_bind.mp w) (fun ds e2 => ?_) fun _ z => z) fun out k L ys G' H' nL g gL hL r => k (.ref L) G' H' g ⟨L, rfl, nL, gL, ys, hL, r⟩
    split at e2
    · rename_i hlen; exact ⟨hlen, W.wp_mono (W.wp_bind.mp e2) (fun out k => k) fun _ z => z⟩
    · exact e2.elim
theorem okw_setFLc (i : Nat) {y : Str} {py : Pos} {elt tg iter : Expr} {ifs : List Expr} {scope : Scope} {own : List (Str × Nat)} {spos : Pos} {src : Aw} {tgt : Gx} {cond : Tw} {el : Ew} (hc : X.calm = true) (hN : X.N.Nodup) (hi : OkIw X c E tg iter src) (ok : blkC X.N X.env.scope scope own = true)
    (hg : ∀ (s : Shared) (H : Hp) (C : Addr) (cl : List (Str × Addr)) (fp : List Addr), OkG (X.blk s H scope (compEnvC scope cl C X.env) fp) (own.map (·.2)) tg tgt) (ht : ∀ (s : Shared) (H : Hp) (C : Addr) (cl : List (Str × Addr)) (fp : List Addr), OkTsw (X.blk s H scope (compEnvC scope cl C X.env) fp) c (fun _ _ _ => False) ifs cond)
    (he : ∀ (s : Shared) (H : Hp) (C : Addr) (cl : List (Str × Addr)) (fp : List Addr), OkEw (X.blk s H scope (compEnvC scope cl C X.env) fp) c (fun _ _ _ => False) elt el) (hsw : swapsWith (.ListComp elt [⟨tg, iter, ifs, 0⟩] scope pos) (some (.Name y py)) spos.line X.env = pure true := by exact sw_true rfl rfl rfl (by decide +kernel))
    (hy : X.N[i]? = some y := by rfl) (hyl : X.env.scope.names.lookup y = some .local := by rfl) (hs : ∀ x, foldedSetIterable iter X.env x = pure x := by intro _; rfl) :
    OkSw X c E (.Assign [.Name y py] (.ListComp elt [⟨tg, iter, ifs, 0⟩] scope pos) spos) (wsSetF i (wfComp src (own.map (·.2)) tgt cond el)) :=
  weakS (ps_setLc (wi := tIw X.K c E src) (own := own) (g := tG X.K (own.map (fun p : Str × Nat => p.2)) tgt) (tt := tTw X.K c (fun _ _ _ => False) cond) (te := tEw X.K c (fun _ _ _ => False) el) hc hN hy hyl hsw hi (blkOk_by ok) hg ht he hs) fun DE σ H ⟨H0, G0, env, G, rs, w⟩ => by
    refine stepCompW0 (F := fun out => (if i < env.length then W.ret (Res.nx (env.set i (some (true, .lst out)))) else .fail : W Res).wp (postW X.K c H0 G0 G DE) (XcK X.K c H0 E)) rs.rl
      (W.wp_mono (W.wp_bind.mp (W.wp_bind.mp w)) (fun ds e2 => ?_) fun _ z => z.mono rs.g0.fr) fun out k L ys G' H' nL g gL hL r => ?_
    · have e2 : ((if ds.length ≤ 1000000 then (compGoW tgt cond el (wipeE env (own.map (·.2))) ds).bind fun out => .ret (true, .lst out) else .fail : W (Bool × D))).wp _ _ := e2
      split at e2
      · rename_i hlen; exact ⟨hlen, W.wp_mono (W.wp_bind.mp e2) (fun out k => k) fun _ z => z.mono rs.g0.fr⟩
      · exact e2.elim
    · split at k
      · rename_i hl
        exact k _ G' H' (rs.putF g (f := (true, .lst out)) ⟨L, rfl, nL, gL, ys, hL, r⟩ hl) g.g
      · exact k.elim
end
end Sh
end Part_WQ

section Part_WR
set_option maxRecDepth 100000
set_option maxHeartbeats 2000000
/-! WR: what is left: plain defs with arguments that draw, == over W, min of two, isinstance with own classes by a table. -/
namespace Sh
open PySem L2 PySem.Spec PyProof.Rows

section
variable {X : Cx} {c : Ct} {E : XK} {e a b : Expr} {es : List Expr} {pos p : Pos} {ma mb : Ew}
/-- a plain def -/
def wCallP (F : List D → Option D) (m : Aw) : Ew := fun env => (m env).bind fun ds => W.ofO (F ds)
theorem okw_clP {k j : Nat} {F : List D → Option D} {x : Str} {ms : Aw} (C : Cl X.prog X.w X.K X.mg X.base k x F) (hr : Room j X.A) (hj : k ≤ j) (ha : OkAw X c E (e :: es) ms) (hg : Gl X x := by rfl) (hdb : (x == ("__debug__" : Str)) = false := by decide)
    (he : starEach (e :: es) X.env = (false, eval e X.env) :: starEach es X.env := by rfl) (hpl : (backTo pos (starEach es X.env)).any (·.1) = false := by rfl) : OkEw X c E (.Call (.Name x p) (e :: es) [] pos) (wCallP F ms) := by
  obtain ⟨f, fd, ps, h1, h2, h3, h4⟩ := C.ex
  refine weakE (pe_call h1 (hr.mono hj) hg h2 h3 h4 .nil pass0 ha hdb he hpl) fun σ H Q ⟨O, env, G, rl, w⟩ => ?_
  refine ⟨O, env, G, rl, W.wp_mono (W.wp_bind.mp w) (fun ds hd vs G1 H1 g1 r1 => ?_) fun _ z => z⟩
  obtain ⟨d, ed, kd⟩ := W.wp_ofO.mp hd
  show spF X.K F (vs ++ []) H1 Q E0
  rw [List.append_nil]
  exact ⟨G1, ds, d, g1.gh, r1, ed, fun v G2 H2 g2 r2 => kd v _ H2 (g1.trans (g2.w (g1.nt rl.nt))) (r2.untbl d v)⟩
theorem okw_eq (hu : X.A.units + 64 < cLine) (ha : OkEw X c E a ma) (hb : OkEw X c E b mb) (hm : behindInMarks .Eq b = false := by first | exact nomark _ | with_unfolding_all rfl) : OkEw X c E (.Compare a [.Eq] [b] pos) (wBin sEq ma mb) := okw_cmp (op_eqR hu) sem_eq ha hb.p hm
theorem okw_ne (hu : X.A.units + 64 < cLine) (ha : OkEw X c E a ma) (hb : OkEw X c E b mb) (hm : behindInMarks .NotEq b = false := by first | exact nomark _ | with_unfolding_all rfl) : OkEw X c E (.Compare a [.NotEq] [b] pos) (wBin sNe ma mb) := okw_cmp (op_neR hu) sem_ne ha hb.p hm
theorem okw_eqT (hu : X.A.units + 64 < cLine) (ha : OkEw X c E a ma) (hb : OkEw X c E b mb) (hm : behindInMarks .Eq b = false := by first | exact nomark _ | with_unfolding_all rfl) : OkTw X c E (.Compare a [.Eq] [b] pos) (wBinT sEq ma mb) := okw_cmpT (op_eqR hu) sem_eq ha hb.p hm
theorem okw_neT (hu : X.A.units + 64 < cLine) (ha : OkEw X c E a ma) (hb : OkEw X c E b mb) (hm : behindInMarks .NotEq b = false := by first | exact nomark _ | with_unfolding_all rfl) : OkTw X c E (.Compare a [.NotEq] [b] pos) (wBinT sNe ma mb) := okw_cmpT (op_neR hu) sem_ne ha hb.p hm
theorem okw_gtT (ha : OkEw X c E a ma) (hb : OkEw X c E b mb) : OkTw X c E (.Compare a [.Gt] [b] pos) (wBinT (sCmp fGt) ma mb) := okw_cmpT op_gt sem_cmp ha hb.p
/-- a reading that tells less -/
theorem ok_weak {m m' : Ex} (h : OkE X e m) (w : ∀ env d, m' env = some d → m env = some d) : OkE X e m' := weakE h fun σ H Q ⟨O, env, G, d, rl, e, k⟩ => ⟨O, env, G, d, rl, w env d e, k⟩
def cMin2 : List D → Option D
  | [.int i, .int j] => some (.int (if j < i then j else i))
  | _ => none
end
/-! ### isinstance, told by a table -/
/-- is it an instance of the own class W -/
def isWd (WC : Addr) : D → Option D
  | .ins C _ _ => if C = WC then some (.bl true) else none
  | d => (tyD d).map fun _ => .bl false
/-- is it an exception of the class C -/
def isXd (XS : List Addr) (C : Addr) : D → Option D
  | .exc C' _ => if C' ∈ XS then some (.bl (decide (C' = C))) else none
  | .non => some (.bl false)
  | _ => none
def tyNames : List String := ["NoneType", "bool", "int", "str", "tuple", "list", "dict"]
theorem tyD_mem {d : D} {t : String} (h : tyD d = some t) : t ∈ tyNames := by
  cases d <;> first | (cases h; decide) | cases h
structure IsT (K : PySem.W.Frag) (WC : Addr) (XS : List Addr) : Prop where
  ww : PySem.W.kitOne K (.ref WC) (.ref WC) = some true
  wt : ∀ t ∈ tyNames, PySem.W.kitOne K (.type t) (.ref WC) = some false
  xx : ∀ C ∈ XS, ∀ C' ∈ XS, PySem.W.kitOne K (.ref C') (.ref C) = some (decide (C' = C))
  xn : ∀ C ∈ XS, PySem.W.kitOne K (.type "NoneType") (.ref C) = some false
def isTB (K : PySem.W.Frag) (WC : Addr) (XS : List Addr) : Bool := decide (PySem.W.kitOne K (.ref WC) (.ref WC) = some true) && (tyNames.all fun t => decide (PySem.W.kitOne K (.type t) (.ref WC) = some false)) && (XS.all fun C => XS.all fun C' => decide (PySem.W.kitOne K (.ref C') (.ref C) = some (decide (C' = C)))) && XS.all fun C => decide (PySem.W.kitOne K (.type "NoneType") (.ref C) = some false)
theorem isT_of {K : PySem.W.Frag} {WC : Addr} {XS : List Addr} (h : isTB K WC XS = true) : IsT K WC XS := by
  unfold isTB at h
  simp only [Bool.and_eq_true, List.all_eq_true, decide_eq_true_eq] at h
  exact ⟨h.1.1.1, h.1.1.2, h.1.2, h.2⟩
theorem isW_ok {K : PySem.W.Frag} {WC : Addr} {XS : List Addr} (T : IsT K WC XS) {d r : D} (h : isWd WC d = some r) : isD K WC XS WC d = some r := by
  unfold isWd at h
  split at h
  · split at h
    · rename_i hC
      cases h
      subst hC
      show ((if _ = _ then some _ else none : Option Value).bind _) = _
      rw [if_pos rfl]
      show (PySem.W.kitOne K _ _).map _ = _
      rw [T.ww]; rfl
    · cases h
  · obtain ⟨t, e1, e2⟩ := Option.map_eq_some_iff.mp h
    subst e2
    have e3 : tyV WC XS d = some (.type t) := by
      cases d <;> (cases e1; try rfl)
    show (tyV WC XS d).bind _ = _
    rw [e3]
    show (PySem.W.kitOne K (.type t) _).map _ = _
    rw [T.wt t (tyD_mem e1)]; rfl
theorem isX_ok {K : PySem.W.Frag} {WC C : Addr} {XS : List Addr} (T : IsT K WC XS) (hC : C ∈ XS) {d r : D} (h : isXd XS C d = some r) : isD K WC XS C d = some r := by
  unfold isXd at h
  split at h
  · rename_i C' ds
    split at h
    · rename_i hm
      cases h
      show ((if C' ∈ XS then some (Value.ref C') else none : Option Value).bind _) = _
      rw [if_pos hm]
      show (PySem.W.kitOne K (.ref C') _).map _ = _
      rw [T.xx C hC C' hm]; rfl
    · cases h
  · cases h
    show (PySem.W.kitOne K (.type "NoneType") _).map _ = _
    rw [T.xn C hC]; rfl
  · cases h
section
variable {X : Cx} {pos : Pos} {e : Expr} {m : Ex}
theorem ok_isW {WC : Addr} {XS : List Addr} (O : Own1 X.K WC XS) (T : IsT X.K WC XS) {x : Str} {p q : Pos} (hm : X.mg "isinstance" = none) (hx : X.mg x = some (.ref WC)) (he : OkE X e m) (hg : Gl X "isinstance" := by rfl) (hgx : Gl X x := by rfl) (hdx : (x == ("__debug__" : Str)) = false := by decide)
    (h1 : starEach (e :: [.Name x q]) X.env = (false, eval e X.env) :: starEach [.Name x q] X.env := by rfl) (h2 : starEach (.Name x q :: []) X.env = (false, eval (.Name x q) X.env) :: starEach [] X.env := by rfl) (hpl : (backTo pos (starEach [.Name x q] X.env)).any (·.1) = false := by rfl) :
    OkE X (.Call (.Name "isinstance" p) [e, .Name x q] [] pos) (fun env => (m env).bind (isWd WC)) :=
  ok_weak (ok_isD WC O hm hx he hg hgx hdx h1 h2 hpl) fun env d h => by
    obtain ⟨y, e1, e2⟩ := Option.bind_eq_some_iff.mp h
    exact Option.bind_eq_some_iff.mpr ⟨y, e1, isW_ok T e2⟩
theorem ok_isX {WC : Addr} {XS : List Addr} (C : Addr) (O : Own1 X.K WC XS) (T : IsT X.K WC XS) (hC : C ∈ XS) {x : Str} {p q : Pos} (hm : X.mg "isinstance" = none) (hx : X.mg x = some (.ref C)) (he : OkE X e m) (hg : Gl X "isinstance" := by rfl) (hgx : Gl X x := by rfl) (hdx : (x == ("__debug__" : Str)) = false := by decide)
    (h1 : starEach (e :: [.Name x q]) X.env = (false, eval e X.env) :: starEach [.Name x q] X.env := by rfl) (h2 : starEach (.Name x q :: []) X.env = (false, eval (.Name x q) X.env) :: starEach [] X.env := by rfl) (hpl : (backTo pos (starEach [.Name x q] X.env)).any (·.1) = false := by rfl) :
    OkE X (.Call (.Name "isinstance" p) [e, .Name x q] [] pos) (fun env => (m env).bind (isXd XS C)) :=
  ok_weak (ok_isD C O hm hx he hg hgx hdx h1 h2 hpl) fun env d h => by
    obtain ⟨y, e1, e2⟩ := Option.bind_eq_some_iff.mp h
    exact Option.bind_eq_some_iff.mpr ⟨y, e1, isX_ok T hC e2⟩
theorem ok_min2 {a b : Expr} {ms : Ax} {p : Pos} (hc : X.calm = true) (hm : X.mg "min" = none) (ha : OkA X [a, b] ms) (hg : Gl X "min" := by rfl) (he : starEach (a :: [b]) X.env = (false, eval a X.env) :: starEach [b] X.env := by rfl) (hpl : (backTo pos (starEach [b] X.env)).any (·.1) = false := by rfl) :
    OkE X (.Call (.Name "min" p) [a, b] [] pos) (eCB cMin2 ms) := weakE (pe_callB (call_min2 hc) hg hm (by decide +kernel) ha (by decide) (by decide) he hpl) fun σ H Q ⟨O, env, G, d, rl, e, k⟩ => by
    obtain ⟨ds, e1, e2⟩ := Option.bind_eq_some_iff.mp e
    refine ⟨O, env, G, ds, rl, e1, fun vs G1 H1 g1 r1 => ?_⟩
    unfold cMin2 at e2
    split at e2
    · rename_i i j
      cases e2
      cases r1 with
      | cons ra rb =>
        cases rb with
        | cons rb rc =>
          cases rc; cases ra; cases rb
          exact ⟨i, j, rfl, k _ G1 H1 g1 (.int _)⟩
    · cases e2
end
end Sh
end Part_WR

section Part_WV
set_option maxRecDepth 100000
set_option maxHeartbeats 2000000
/-! WV: what a law's own text asks: raise with facts in one, three stored at once, room. -/
namespace Sh
open PySem L2 PySem.Spec PyProof.Rows
/-- blocks one behind the other -/
theorem execs_app {M : Model} {A : Around} {env : PySem.Env} {s2 : List Stmt} {Q : Flow → Shared → Prop} {E : Value → Shared → Prop} : ∀ (s1 : List Stmt) (Γ : PySem.Ctx) (p : Pos) (s : Shared), Γ.In A →
    Sem.wp M Γ (execs s1 env) (fun f _ s' => match f with | .next => wpAny M A (execs s2 env) Q E s' | f => Q f s') (fun e _ s' => E e s') p s → Sem.wp M Γ (execs (s1 ++ s2) env) (fun f _ s' => Q f s') (fun e _ s' => E e s') p s
  | [], Γ, p, s, hΓ, h => (show wpAny M A (execs s2 env) Q E s from h) Γ p hΓ
  | st :: r, Γ, p, s, hΓ, h => by
    rw [execs_cons, Sem.wp_bind'] at h
    show Sem.wp M Γ (execs (st :: (r ++ s2)) env) _ _ p s
    rw [execs_cons, Sem.wp_bind']
    refine Sem.wp_mono M Γ _ (fun f p' s' h' => ?_) (fun _ _ _ h' => h') _ _ h
    cases f with
    | next => exact execs_app r Γ p' s' hΓ h'
    | _ => exact h'
theorem pss_app {X : Cx} {s1 s2 : List Stmt} {t1 t2 : TS} (h1 : PSs X s1 t1) (h2 : PSs X s2 t2) : PSs X (s1 ++ s2) (tSeq t1 t2) := by
  refine ⟨fun pins s σ H D I h Γ p hΓ => ?_⟩
  refine execs_app s1 Γ p s hΓ ?_
  refine Sem.wp_mono _ Γ _ (fun f p' s' hf => ?_) (fun _ _ _ h' => h') _ _ (h1.run pins s σ H { D with nx := t2 D } I h Γ p hΓ)
  cases f with
  | next =>
    obtain ⟨σ', H', I', q⟩ := hf
    exact h2.run pins s' σ' H' D I' q
  | _ => exact hf
theorem u65 {k : Nat} {A : Around} (r : Room k A) : A.units + 65 < cLine := by have := r.un; omega
/-- what raising a class without an __init__ asks -/
structure R0 (K : PySem.W.Frag) (C : Addr) : Prop where
  q : PySem.W.excIn K C He.veBase "ValueError.__new__" = true
  k : PySem.W.keepIn K (.ref C) = true
  s : PySem.W.subIn K (.ref C) (.type "BaseException") = some true
  t : PySem.W.typeIn K (.ref C) = some (.type "type")
def r0B (K : PySem.W.Frag) (C : Addr) : Bool := PySem.W.excIn K C He.veBase "ValueError.__new__" && (PySem.W.keepIn K (.ref C) && (decide (PySem.W.subIn K (.ref C) (.type "BaseException") = some true) && decide (PySem.W.typeIn K (.ref C) = some (.type "type"))))
theorem r0_of {K : PySem.W.Frag} {C : Addr} (h : r0B K C = true) : R0 K C := by
  unfold r0B at h
  simp only [Bool.and_eq_true, decide_eq_true_eq] at h
  exact ⟨h.1, h.2.1, h.2.2.1, h.2.2.2⟩
def wsPar3 (i j k : Nat) (m n o : Fw) : Sw := fun env => (m env).bind fun f => (n env).bind fun g => (o env).bind fun h => if i < env.length ∧ j < env.length ∧ k < env.length then .ret (.nx (((env.set i (some f)).set j (some g)).set k (some h))) else .fail
section
variable {X : Cx} {c : Ct} {E : XK} {pos : Pos}
theorem okw_raiseE {C : Addr} {st : Stmt} {x : Str} {p pos' : Pos} {e : Expr} {m : Ew} (hc : X.calm = true) (tk : Takes X (fun cls d _ H => E cls d H)) (S : SupT st) (F : ∃ fI fd, SupX X.prog X.K X.mg C st fI fd) (hr : Room 2 X.A) (hm : X.mg x = some (.ref C)) (he : OkEw X c E e m) (hg : Gl X x := by rfl)
    (hdb : (x == ("__debug__" : Str)) = false := by decide) (hs : starEach (e :: []) X.env = (false, eval e X.env) :: starEach [] X.env := by rfl) (hpl : (backTo pos' (starEach ([] : List Expr) X.env)).any (·.1) = false := by rfl) :
    OkSw X c E (.Raise (some (.Call (.Name x p) [e] [] pos')) none pos) (wsRaise C m) := by
  obtain ⟨fI, fd, F⟩ := F
  exact okw_raise hc tk S F hr hm he hg hdb hs hpl
theorem okw_gt {a b : Expr} {ma mb : Ew} (ha : OkEw X c E a ma) (hb : OkEw X c E b mb) : OkEw X c E (.Compare a [.Gt] [b] pos) (wBin (sCmp fGt) ma mb) := okw_cmp op_gt sem_cmp ha hb.p
/-- three at once, where one is a cell -/
theorem okw_par3 (i j k : Nat) {x y z : Str} {a b d : Expr} {m n o : Fw} {px py pz pt : Pos} {kt k2 pt2} (hc : X.calm = true) (hN : X.N.Nodup) (ha : OkFw X c E a m) (hb : OkFw X c E b n) (hd : OkFw X c E d o) (hi : X.N[i]? = some x := by rfl) (hj : X.N[j]? = some y := by rfl) (hk : X.N[k]? = some z := by rfl)
    (hx : Loc X.env.scope x := by first | exact Or.inl rfl | exact Or.inr rfl) (hfx : X.fn x = true ∨ X.env.scope.names.lookup x = some .local := by first | exact .inl rfl | exact .inr rfl) (hy : Loc X.env.scope y := by first | exact Or.inl rfl | exact Or.inr rfl) (hfy : X.fn y = true ∨ X.env.scope.names.lookup y = some .local := by first | exact .inl rfl | exact .inr rfl)
    (hz : Loc X.env.scope z := by first | exact Or.inl rfl | exact Or.inr rfl) (hfz : X.fn z = true ∨ X.env.scope.names.lookup z = some .local := by first | exact .inl rfl | exact .inr rfl)
    (hw : swappedStores [.Tuple [.Name x px, .Name y py, .Name z pz] kt pt] (.Tuple [a, b, d] k2 pt2) X.env = pure none := by rfl)
    (hs : swapsWithSole [.Tuple [.Name x px, .Name y py, .Name z pz] kt pt] (.Tuple [a, b, d] k2 pt2) pos.line X.env = pure false := by rfl)
    (h1 : (assignEach [.Tuple [.Name x px, .Name y py, .Name z pz] kt pt] X.env).map (·.2) = [assign (.Tuple [.Name x px, .Name y py, .Name z pz] kt pt) X.env] := by rfl)
    (hn : (assignEach [.Name x px, .Name y py, .Name z pz] X.env).length = 3 := by rfl) (hst : (assignEach [.Name x px, .Name y py, .Name z pz] X.env).findIdx? (·.1) = none := by rfl)
    (hp1 : (assignEach (.Name x px :: [.Name y py, .Name z pz]) X.env).map (·.2) = assign (.Name x px) X.env :: (assignEach [.Name y py, .Name z pz] X.env).map (·.2) := by rfl) (hp2 : (assignEach (.Name y py :: [.Name z pz]) X.env).map (·.2) = assign (.Name y py) X.env :: (assignEach [.Name z pz] X.env).map (·.2) := by rfl)
    (hp3 : (assignEach (.Name z pz :: []) X.env).map (·.2) = assign (.Name z pz) X.env :: (assignEach [] X.env).map (·.2) := by rfl)
    (hsa : starEach (a :: [b, d]) X.env = (false, eval a X.env) :: starEach [b, d] X.env := by rfl) (hsb : starEach (b :: [d]) X.env = (false, eval b X.env) :: starEach [d] X.env := by rfl) (hsd : starEach (d :: []) X.env = (false, eval d X.env) :: starEach [] X.env := by rfl) :
    OkSw X c E (.Assign [.Tuple [.Name x px, .Name y py, .Name z pz] kt pt] (.Tuple [a, b, d] k2 pt2) pos) (wsPar3 i j k m n o) :=
  weakS (ps_asg (pe_tup (pa_cons ha (pa_cons hb (pa_cons hd pa_nil hsd) hsb) hsa)) (pg_tup hc (pgs_cons (pg_name hN hi hx hfx) (pgs_cons (pg_name hN hj hy hfy) (pgs_cons (pg_name hN hk hz hfz) pgs_nil hp3) hp2) hp1) hn hst) hs hw h1) fun DE σ H ⟨H0, G0, env, G, rs, w⟩ => by
    refine ⟨_, env, G, rs.rl, W.wp_mono (W.wp_bind.mp w) (fun f hf v G1 H1 g1 r1 => ⟨_, env, G1, (rs.grow g1).rl, W.wp_mono (W.wp_bind.mp hf) (fun g hg u G2 H2 g2 r2 => ⟨_, env, G2, ((rs.grow g1).grow g2).rl, W.wp_mono (W.wp_bind.mp hg) (fun h hh t G3 H3 g3 r3 => ?_) fun _ z => ((z.mono rs.g0.fr).mono g1.fr).mono g2.fr⟩) fun _ z => (z.mono rs.g0.fr).mono g1.fr⟩) fun _ z => z.mono rs.g0.fr⟩
    split at hh
    · rename_i hl
      refine ⟨by show 3 ≤ sizeLine; decide, fun p hp => ?_⟩
      have a1 := rs.putF g1 r1 hl.1
      have a2 := a1.putF g2 r2 (i := j) (by simpa using hl.2.1)
      have a3 := a2.putF g3 r3 (i := k) (by simpa using hl.2.2)
      have g4 := Gr.own (o := .tup [v, u, t]) g3.gh hp
      refine ⟨p, [v, u, t], rfl, SqT.of upd_same, rfl, v, [u, t], rfl, u, [t], rfl, t, [], rfl, rfl, ?_⟩
      exact hh _ G3 _ (a3.grow (g4.w' fun n => n)) ((g1.g.trans g2.g).trans g3.g)
    · exact hh.elim
end
end Sh
end Part_WV

section Part_WZ
set_option maxRecDepth 100000
set_option maxHeartbeats 4000000
/-! WZ: zip of three tuples. -/
namespace Sh
open PySem PySem.Spec PyProof.Rows L2
abbrev IsTri (h : Heap) (T : Addr) (a b c : Value) : Prop := h.get? T = some { cls := .type "tuple", data := .seq #[a, b, c] }
/-- the zip's own objects and the three tuples lie apart -/
structure Ap3 (z TI TO i1 i2 i3 l1 l2 l3 : Addr) : Prop where
  a1 : TI ≠ z
  a2 : TO ≠ z
  a3 : i1 ≠ z
  a4 : i2 ≠ z
  a5 : i3 ≠ z
  b1 : TI ≠ TO
  b2 : i1 ≠ TO
  b3 : i2 ≠ TO
  b4 : i3 ≠ TO
  c1 : TI ≠ i1
  c2 : TI ≠ i2
  c3 : TI ≠ i3
  d1 : i1 ≠ i2
  d2 : i1 ≠ i3
  d3 : i2 ≠ i3
  e1 : l1 ≠ z
  e2 : l2 ≠ z
  e3 : l3 ≠ z
  f1 : l2 ≠ TO
  f2 : l3 ≠ TO
  g1 : l2 ≠ i1
  g2 : l3 ≠ i1
  g3 : l3 ≠ i2
theorem ap3 (I l1 l2 l3 : Nat) (h1 : l1 < I) (h2 : l2 < I) (h3 : l3 < I) : Ap3 (I + 5) (I + 3) (I + 4) I (I + 1) (I + 2) l1 l2 l3 := by
  constructor <;> (refine PySem.W.neN ?_; omega)
section
variable {prog : Program} {w : World} {A : Around} {E : Value → Shared → Prop} {s : Shared}
theorem upd_tri {T : Addr} {a b c x : Value} {k : Nat} {Q : Unit → Shared → Prop} (hT : IsTri s.heap T a b c)
    (h : ∀ h', h'.get? T = some { cls := .type "tuple", data := .seq ((#[a, b, c] : Array Value).setIfInBounds k x) } → Heap.SameBut T s.heap h' → Q () { s with heap := h' }) : wpAny (model prog w) A (updateSeq T (·.setIfInBounds k x)) Q E s := by
  refine wpAny_updateSeq hT rfl (h _ ?_ (Heap.SameBut.update ..))
  rw [Heap.get?_update_self _ hT rfl]
  simp [Obj.mapSeq]
variable {z TI TO i1 i2 i3 l1 l2 l3 : Addr} {k1 k2 k3 : Nat} {xs ys ws : Array Value} {x y v a b c : Value}
theorem zip3_item {Q : Value → Shared → Prop} (D : Ap3 z TI TO i1 i2 i3 l1 l2 l3) (hz : IsZip s.heap z TI TO .none) (hTI : IsTri s.heap TI (.ref i1) (.ref i2) (.ref i3)) (hTO : IsTri s.heap TO a b c)
    (h1 : s.heap.IsTupleIter i1 l1 k1) (h2 : s.heap.IsTupleIter i2 l2 k2) (h3 : s.heap.IsTupleIter i3 l3 k3) (t1 : s.heap.IsTuple l1 xs) (t2 : s.heap.IsTuple l2 ys) (t3 : s.heap.IsTuple l3 ws) (hx : xs[k1]? = some x) (hy : ys[k2]? = some y) (hv : ws[k3]? = some v)
    (hQ : ∀ h', IsZip h' z TI TO (rawInt s.heap.objs.size) → IsTri h' TO x y v → h'.IsTupleIter i1 l1 (k1 + 1) → h'.IsTupleIter i2 l2 (k2 + 1) → h'.IsTupleIter i3 l3 (k3 + 1) → IsTri h' s.heap.objs.size x y v →
      (∀ d o, d ≠ z → d ≠ TO → d ≠ i1 → d ≠ i2 → d ≠ i3 → s.heap.get? d = some o → h'.get? d = some o) → Q (.ref s.heap.objs.size) { s with heap := h' }) :
    wpAny (model prog w) A (Builtin.«zip.__next__» ⟨[.ref z], []⟩) (fun fin s' => ∃ r, fin = .done (.ret r) ∧ Q r s') E s := by
  refine wpAny_bind (m := field (.ref z) 2) (wpAny_field hz rfl (x := .bool false) rfl ?_)
  refine wpAny_bind (m := field (.ref z) 3) (wpAny_field hz rfl (x := .ref TI) rfl ?_)
  refine wpAny_bind (wpAny_seqItems hTI rfl (wpAny_bind (m := Builtin.SmallTypes.ownedTupleIsFree (.ref z)) ?_))
  unfold Builtin.SmallTypes.ownedTupleIsFree
  refine wpAny_bind (wpAny_field hz rfl (x := .none) rfl (wpAny_pure ?_))
  simp only [if_true]
  refine wpAny_bind (wpAny_rule (wpAny_bind (wpAny_field hz rfl (x := .ref TO) rfl (wpAny_bind (wpAny_setField_rec hz (by simp) fun p1 hz1 s1 => ?_)))))
  replace hz1 : IsZip p1 z TI TO .ellipsis := hz1
  refine wpAny_bind ?_
  simp only [List.zipIdx_cons, List.zipIdx_nil, List.forIn_cons, List.forIn_nil]
  -- the first
  refine wpAny_bind (wpAny_bind (wpAny_onRaise ?_))
  refine wpAny_bind (m := Builtin.SmallTypes.nextOf (.ref i1)) (RZ.nextOf_tuple_item (h1.extBut s1.extBut D.a3) (t1.extBut s1.extBut D.e1) hx fun p2 q1 s2 => wpAny_pure ?_)
  have o2 : IsTri p2 TO a b c := s2.extBut _ _ D.b2.symm (s1.extBut _ _ D.a2 hTO)
  refine wpAny_bind (wpAny_seqItems o2 rfl (wpAny_bind (upd_tri o2 fun p3 o3 s3 => ?_)))
  replace o3 : IsTri p3 TO x b c := o3
  refine wpAny_bind (wpAny_letGo (wpAny_pure ?_))
  -- the second
  refine wpAny_bind (wpAny_bind (wpAny_onRaise ?_))
  refine wpAny_bind (m := Builtin.SmallTypes.nextOf (.ref i2)) (RZ.nextOf_tuple_item (((h2.extBut s1.extBut D.a4).extBut s2.extBut D.d1.symm).extBut s3.extBut D.b3) (((t2.extBut s1.extBut D.e2).extBut s2.extBut D.g1).extBut s3.extBut D.f1) hy fun p4 q2 s4 => wpAny_pure ?_)
  have o4 : IsTri p4 TO x b c := s4.extBut _ _ D.b3.symm o3
  refine wpAny_bind (wpAny_seqItems o4 rfl (wpAny_bind (upd_tri o4 fun p5 o5 s5 => ?_)))
  replace o5 : IsTri p5 TO x y c := o5
  refine wpAny_bind (wpAny_letGo (wpAny_pure ?_))
  -- the third
  refine wpAny_bind (wpAny_bind (wpAny_onRaise ?_))
  refine wpAny_bind (m := Builtin.SmallTypes.nextOf (.ref i3)) (RZ.nextOf_tuple_item (((((h3.extBut s1.extBut D.a5).extBut s2.extBut D.d2.symm).extBut s3.extBut D.b4).extBut s4.extBut D.d3.symm).extBut s5.extBut D.b4)
    (((((t3.extBut s1.extBut D.e3).extBut s2.extBut D.g2).extBut s3.extBut D.f2).extBut s4.extBut D.g3).extBut s5.extBut D.f2) hv fun p6 q3 s6 => wpAny_pure ?_)
  have o6 : IsTri p6 TO x y c := s6.extBut _ _ D.b4.symm o5
  refine wpAny_bind (wpAny_seqItems o6 rfl (wpAny_bind (upd_tri o6 fun p7 o7 s7 => ?_)))
  replace o7 : IsTri p7 TO x y v := o7
  refine wpAny_bind (wpAny_letGo (wpAny_pure (wpAny_pure ?_)))
  -- the tuple that is handed out
  refine wpAny_bind (wpAny_seqItems o7 rfl (wpAny_bind (wpAny_newTuple ?_)))
  have size : p7.objs.size = s.heap.objs.size := by rw [s7.1, s6.1, s5.1, s4.1, s3.1, s2.1, s1.1]
  have z7 : IsZip p7 z TI TO .ellipsis := s7.extBut _ _ D.a2.symm (s6.extBut _ _ D.a5.symm (s5.extBut _ _ D.a2.symm (s4.extBut _ _ D.a4.symm (s3.extBut _ _ D.a2.symm (s2.extBut _ _ D.a3.symm hz1)))))
  have keep7 : ∀ d o, d ≠ z → d ≠ TO → d ≠ i1 → d ≠ i2 → d ≠ i3 → s.heap.get? d = some o → p7.get? d = some o := fun d o m1 m2 m3 m4 m5 e =>
    s7.extBut _ _ m2 (s6.extBut _ _ m5 (s5.extBut _ _ m2 (s4.extBut _ _ m4 (s3.extBut _ _ m2 (s2.extBut _ _ m3 (s1.extBut _ _ m1 e))))))
  have j1 : p7.IsTupleIter i1 l1 (k1 + 1) := ((((q1.extBut s3.extBut D.b2).extBut s4.extBut D.d1).extBut s5.extBut D.b2).extBut s6.extBut D.d2).extBut s7.extBut D.b2
  have j2 : p7.IsTupleIter i2 l2 (k2 + 1) := ((q2.extBut s5.extBut D.b3).extBut s6.extBut D.d3).extBut s7.extBut D.b3
  have j3 : p7.IsTupleIter i3 l3 (k3 + 1) := q3.extBut s7.extBut D.b4
  have zlt : z < p7.objs.size := Heap.lt_size z7
  refine wpAny_bind (m := Builtin.SmallTypes.ownedTupleHandOut (.ref z) (.ref p7.objs.size)) ?_
  unfold Builtin.SmallTypes.ownedTupleHandOut
  have z8 : IsZip (p7.push { cls := .type "tuple", data := .seq #[x, y, v] }) z TI TO .ellipsis := Heap.get?_push_of_some _ z7
  refine wpAny_bind (wpAny_setField_rec z8 (by simp) fun p9 z9 s9 => ?_)
  replace z9 : IsZip p9 z TI TO (rawInt p7.objs.size) := z9
  refine wpAny_setField_rec z9 (by simp) fun pa za sa => ?_
  replace za : IsZip pa z TI TO (rawInt p7.objs.size) := za
  have up : ∀ d o, d ≠ z → p7.get? d = some o → pa.get? d = some o := fun d o m e => sa.extBut _ _ m (s9.extBut _ _ m (Heap.get?_push_of_some _ e))
  have ta : IsTri pa p7.objs.size x y v := sa.extBut _ _ (Nat.ne_of_gt zlt) (s9.extBut _ _ (Nat.ne_of_gt zlt) (Heap.get?_push_size _ rfl))
  rw [size] at za ta
  refine wpAny_pure ⟨_, rfl, ?_⟩
  show Q (.ref p7.objs.size) _
  rw [size]
  exact hQ pa za (up _ _ D.a2 o7) (j1.at fun o e => up _ o D.a3 e) (j2.at fun o e => up _ o D.a4 e) (j3.at fun o e => up _ o D.a5 e) ta fun d o m1 m2 m3 m4 m5 e => up d o m1 (keep7 d o m1 m2 m3 m4 m5 e)
theorem zip3_end {Q : Fin → Shared → Prop} (hh : A.handled = none) (D : Ap3 z TI TO i1 i2 i3 l1 l2 l3) (hz : IsZip s.heap z TI TO .none) (hTI : IsTri s.heap TI (.ref i1) (.ref i2) (.ref i3)) (hTO : IsTri s.heap TO a b c)
    (h1 : s.heap.IsTupleIter i1 l1 k1) (h2 : s.heap.IsTupleIter i2 l2 k2) (h3 : s.heap.IsTupleIter i3 l3 k3) (t1 : s.heap.IsTuple l1 xs) (t2 : s.heap.IsTuple l2 ys) (t3 : s.heap.IsTuple l3 ws) (hend : xs[k1]? = none ∨ ys[k2]? = none ∨ ws[k3]? = none)
    (hE : ∀ h' e, (∀ d o, d ≠ z → d ≠ TO → d ≠ i1 → d ≠ i2 → d ≠ i3 → s.heap.get? d = some o → h'.get? d = some o) → (∃ o, h'.get? e = some o ∧ o.cls = .type "StopIteration") → E (.ref e) { s with heap := h' }) :
    wpAny (model prog w) A (Builtin.«zip.__next__» ⟨[.ref z], []⟩) Q E s := by
  refine wpAny_bind (m := field (.ref z) 2) (wpAny_field hz rfl (x := .bool false) rfl ?_)
  refine wpAny_bind (m := field (.ref z) 3) (wpAny_field hz rfl (x := .ref TI) rfl ?_)
  refine wpAny_bind (wpAny_seqItems hTI rfl (wpAny_bind (m := Builtin.SmallTypes.ownedTupleIsFree (.ref z)) ?_))
  unfold Builtin.SmallTypes.ownedTupleIsFree
  refine wpAny_bind (wpAny_field hz rfl (x := .none) rfl (wpAny_pure ?_))
  simp only [if_true]
  refine wpAny_bind (wpAny_rule (wpAny_bind (wpAny_field hz rfl (x := .ref TO) rfl (wpAny_bind (wpAny_setField_rec hz (by simp) fun p1 hz1 s1 => ?_)))))
  replace hz1 : IsZip p1 z TI TO .ellipsis := hz1
  refine wpAny_bind ?_
  simp only [List.zipIdx_cons, List.zipIdx_nil, List.forIn_cons, List.forIn_nil]
  -- the flag is set back, the exception goes on
  have out : ∀ (h : Heap) (e : Addr), IsZip h z TI TO .ellipsis → (∀ d o, d ≠ z → d ≠ TO → d ≠ i1 → d ≠ i2 → d ≠ i3 → s.heap.get? d = some o → h.get? d = some o) → (∃ o, h.get? e = some o ∧ o.cls = .type "StopIteration") →
      ∀ (h' : Heap), Heap.SameBut z h h' → E (.ref e) { s with heap := h' } := fun h e hzz hk ⟨oe, hoe, hce⟩ h' sb => by
    have hez : e ≠ z := fun q => by rw [q, hzz] at hoe; cases hoe; simp at hce
    exact hE h' e (fun d o m1 m2 m3 m4 m5 q => sb.extBut _ _ m1 (hk d o m1 m2 m3 m4 m5 q)) ⟨oe, sb.extBut _ _ hez hoe, hce⟩
  refine wpAny_bind (wpAny_bind (wpAny_onRaise ?_))
  cases hx : xs[k1]? with
  | none =>
    refine wpAny_bind (m := Builtin.SmallTypes.nextOf (.ref i1)) (RZ.nextOf_tuple_end hh (h1.extBut s1.extBut D.a3) (t1.extBut s1.extBut D.e1) hx fun p2 e s2 he => ?_)
    have z2 : IsZip p2 z TI TO .ellipsis := s2 _ _ D.a3.symm hz1
    exact wpAny_setField_rec z2 (by simp) fun p3 _ s3 => out p2 e z2 (fun d o m1 m2 m3 m4 m5 q => s2 _ _ m3 (s1.extBut _ _ m1 q)) he p3 s3
  | some x =>
    refine wpAny_bind (m := Builtin.SmallTypes.nextOf (.ref i1)) (RZ.nextOf_tuple_item (h1.extBut s1.extBut D.a3) (t1.extBut s1.extBut D.e1) hx fun p2 q1 s2 => wpAny_pure ?_)
    have o2 : IsTri p2 TO a b c := s2.extBut _ _ D.b2.symm (s1.extBut _ _ D.a2 hTO)
    refine wpAny_bind (wpAny_seqItems o2 rfl (wpAny_bind (upd_tri o2 fun p3 o3 s3 => ?_)))
    replace o3 : IsTri p3 TO x b c := o3
    refine wpAny_bind (wpAny_letGo (wpAny_pure ?_))
    refine wpAny_bind (wpAny_bind (wpAny_onRaise ?_))
    have it2 := ((h2.extBut s1.extBut D.a4).extBut s2.extBut D.d1.symm).extBut s3.extBut D.b3
    have tp2 := ((t2.extBut s1.extBut D.e2).extBut s2.extBut D.g1).extBut s3.extBut D.f1
    have z3 : IsZip p3 z TI TO .ellipsis := s3.extBut _ _ D.a2.symm (s2.extBut _ _ D.a3.symm hz1)
    cases hy : ys[k2]? with
    | none =>
      refine wpAny_bind (m := Builtin.SmallTypes.nextOf (.ref i2)) (RZ.nextOf_tuple_end hh it2 tp2 hy fun p4 e s4 he => ?_)
      have z4 : IsZip p4 z TI TO .ellipsis := s4 _ _ D.a4.symm z3
      exact wpAny_setField_rec z4 (by simp) fun p5 _ s5 => out p4 e z4 (fun d o m1 m2 m3 m4 m5 q => s4 _ _ m4 (s3.extBut _ _ m2 (s2.extBut _ _ m3 (s1.extBut _ _ m1 q)))) he p5 s5
    | some y =>
      have hv : ws[k3]? = none := by
        rcases hend with q | q | q
        · rw [hx] at q; cases q
        · rw [hy] at q; cases q
        · exact q
      refine wpAny_bind (m := Builtin.SmallTypes.nextOf (.ref i2)) (RZ.nextOf_tuple_item it2 tp2 hy fun p4 q2 s4 => wpAny_pure ?_)
      have o4 : IsTri p4 TO x b c := s4.extBut _ _ D.b3.symm o3
      refine wpAny_bind (wpAny_seqItems o4 rfl (wpAny_bind (upd_tri o4 fun p5 o5 s5 => ?_)))
      refine wpAny_bind (wpAny_letGo (wpAny_pure ?_))
      refine wpAny_bind (wpAny_bind (wpAny_onRaise ?_))
      refine wpAny_bind (m := Builtin.SmallTypes.nextOf (.ref i3)) (RZ.nextOf_tuple_end hh (((((h3.extBut s1.extBut D.a5).extBut s2.extBut D.d2.symm).extBut s3.extBut D.b4).extBut s4.extBut D.d3.symm).extBut s5.extBut D.b4)
        (((((t3.extBut s1.extBut D.e3).extBut s2.extBut D.g2).extBut s3.extBut D.f2).extBut s4.extBut D.g3).extBut s5.extBut D.f2) hv fun p6 e s6 he => ?_)
      have z6 : IsZip p6 z TI TO .ellipsis := s6 _ _ D.a5.symm (s5.extBut _ _ D.a2.symm (s4.extBut _ _ D.a4.symm z3))
      exact wpAny_setField_rec z6 (by simp) fun p7 _ s7 => out p6 e z6 (fun d o m1 m2 m3 m4 m5 q => s6 _ _ m5 (s5.extBut _ _ m2 (s4.extBut _ _ m4 (s3.extBut _ _ m2 (s2.extBut _ _ m3 (s1.extBut _ _ m1 q)))))) he p7 s7
theorem next3_item {Q : Option Value → Shared → Prop} (D : Ap3 z TI TO i1 i2 i3 l1 l2 l3) (hz : IsZip s.heap z TI TO .none) (hTI : IsTri s.heap TI (.ref i1) (.ref i2) (.ref i3)) (hTO : IsTri s.heap TO a b c)
    (h1 : s.heap.IsTupleIter i1 l1 k1) (h2 : s.heap.IsTupleIter i2 l2 k2) (h3 : s.heap.IsTupleIter i3 l3 k3) (t1 : s.heap.IsTuple l1 xs) (t2 : s.heap.IsTuple l2 ys) (t3 : s.heap.IsTuple l3 ws) (hx : xs[k1]? = some x) (hy : ys[k2]? = some y) (hv : ws[k3]? = some v)
    (hQ : ∀ h', IsZip h' z TI TO (rawInt s.heap.objs.size) → IsTri h' TO x y v → h'.IsTupleIter i1 l1 (k1 + 1) → h'.IsTupleIter i2 l2 (k2 + 1) → h'.IsTupleIter i3 l3 (k3 + 1) → IsTri h' s.heap.objs.size x y v →
      (∀ d o, d ≠ z → d ≠ TO → d ≠ i1 → d ≠ i2 → d ≠ i3 → s.heap.get? d = some o → h'.get? d = some o) → Q (some (.ref s.heap.objs.size)) { s with heap := h' }) : wpAny (model prog w) A (pyNext (.ref z)) Q E s := by
  have ty : s.TypeIs (.ref z) "zip" := ⟨_, hz, rfl⟩
  unfold pyNext
  exact wpAny_bind (wpAny_attempt (wpAny_callSpecial?_slot (name := Str.ofString "__next__") ty F.slot_zip_next (wpAny_call_entry F.slot_zip_next ty F.entry_zip_next
    (zip3_item D hz hTI hTO h1 h2 h3 t1 t2 t3 hx hy hv fun h' a1 a2 a3 a4 a5 a6 a7 => wpAny_pure (hQ h' a1 a2 a3 a4 a5 a6 a7)) (F.args_zip_next_1 _))))
theorem next3_end {Q : Option Value → Shared → Prop} (hh : A.handled = none) (D : Ap3 z TI TO i1 i2 i3 l1 l2 l3) (hz : IsZip s.heap z TI TO .none) (hTI : IsTri s.heap TI (.ref i1) (.ref i2) (.ref i3)) (hTO : IsTri s.heap TO a b c)
    (h1 : s.heap.IsTupleIter i1 l1 k1) (h2 : s.heap.IsTupleIter i2 l2 k2) (h3 : s.heap.IsTupleIter i3 l3 k3) (t1 : s.heap.IsTuple l1 xs) (t2 : s.heap.IsTuple l2 ys) (t3 : s.heap.IsTuple l3 ws) (hend : xs[k1]? = none ∨ ys[k2]? = none ∨ ws[k3]? = none)
    (hQ : ∀ h', (∀ d o, d ≠ z → d ≠ TO → d ≠ i1 → d ≠ i2 → d ≠ i3 → s.heap.get? d = some o → h'.get? d = some o) → Q none { s with heap := h' }) : wpAny (model prog w) A (pyNext (.ref z)) Q E s := by
  have ty : s.TypeIs (.ref z) "zip" := ⟨_, hz, rfl⟩
  unfold pyNext
  refine wpAny_bind (wpAny_attempt (wpAny_callSpecial?_slot (name := Str.ofString "__next__") ty F.slot_zip_next (wpAny_call_entry F.slot_zip_next ty F.entry_zip_next (zip3_end hh D hz hTI hTO h1 h2 h3 t1 t2 t3 hend fun h' e hk he => ?_) (F.args_zip_next_1 _))))
  obtain ⟨o, ho, hc⟩ := he
  exact wpAny_bind (wpAny_isInstance (T := "StopIteration") (b := true) ⟨o, ho, hc⟩ isSubtype_stop (wpAny_pure (hQ _ hk)))
/-! ### zip(a, b, c) -/
theorem typeCall3 (a b c : Value) : checkTypeCall "zip" ⟨[a, b, c], []⟩ = pure () := by kernel_rfl
theorem newCall3 (a b c : Value) : checkBuiltinCall "zip.__new__" ⟨[.type "zip", a, b, c], []⟩ = pure () := by kernel_rfl
theorem initArgs4 (a b c d : Value) : argsOk "object.__init__" ⟨[a, b, c, d], []⟩ := by
  unfold argsOk; rw [signature?_of (id := "object.__init__") (n := ['_', '_', 't', 'i', 'n', 'i', '_', '_']) (o := ['t', 'c', 'e', 'j', 'b', 'o']) (by kernel_rfl) PySem.F.owner_object]; kernel_rfl
def tIt (l : Addr) : Obj := { cls := .type "tuple_iterator", data := .fields #[.ref l, .int 0 0] }
def z3H (h : Heap) (l1 l2 l3 : Addr) : Heap := (((((h.push (tIt l1)).push (tIt l2)).push (tIt l3)).push { cls := .type "tuple", data := .seq #[.ref h.objs.size, .ref (h.objs.size + 1), .ref (h.objs.size + 2)] }).push { cls := .type "tuple", data := .seq #[.none, .none, .none] }).push
  { cls := .type "zip", data := .fields #[.none, .bool false, .bool false, .ref (h.objs.size + 3), .ref (h.objs.size + 4)] }
theorem meets_zip3 (l1 l2 l3 : Addr) (xs ys ws : Array Value) : Meets (Builtin.«zip.__new__» ⟨[.type "zip", .ref l1, .ref l2, .ref l3], []⟩) (fun _ R s => s.heap.IsTuple l1 xs ∧ s.heap.IsTuple l2 ys ∧ s.heap.IsTuple l3 ws ∧
    R (.ok (.ret (.ref (s.heap.objs.size + 5)))) { s with heap := z3H s.heap l1 l2 l3 }) :=
  .of_wp fun prog w A R s h => by
    obtain ⟨hp, g, d, tk, os⟩ := s
    obtain ⟨t1, t2, t3, h⟩ := h
    have hsub := sub_zip
    have u1 : Heap.IsTuple (Shared.heap ⟨hp, g, d, tk, os⟩) l1 xs := t1
    have u2 : Heap.IsTuple (Shared.heap ⟨hp.push { cls := .type "tuple_iterator", data := .fields #[.ref l1, .int 0 0] }, g, d, tk, os⟩) l2 ys := Heap.IsTuple.push t2 _
    have u3 : Heap.IsTuple (Shared.heap ⟨(hp.push { cls := .type "tuple_iterator", data := .fields #[.ref l1, .int 0 0] }).push { cls := .type "tuple_iterator", data := .fields #[.ref l2, .int 0 0] }, g, d, tk, os⟩) l3 ws := Heap.IsTuple.push (Heap.IsTuple.push t3 _) _
    wp_walk using wpAny_pyIter_tuple u1, wpAny_pyIter_tuple u2, wpAny_pyIter_tuple u3
    unfold z3H tIt at h
    simp only [Heap.size_push] at *
    exact ⟨_, rfl, h⟩
end
end Sh
end Part_WZ

section Part_WZ2
set_option maxRecDepth 100000
set_option maxHeartbeats 4000000
/-! WZ2: for x, y, z in zip(a, b, c), three tuples. -/
namespace Sh
open PySem PySem.Spec PyProof.Rows L2
section
variable {prog : Program} {w : World} {A : Around} {E : Value → Shared → Prop} {s : Shared}
theorem call_zip3 {l1 l2 l3 : Addr} {xs ys ws : Array Value} {Q : Value → Shared → Prop} (t1 : s.heap.IsTuple l1 xs) (t2 : s.heap.IsTuple l2 ys) (t3 : s.heap.IsTuple l3 ws)
    (h : ∀ h', IsZip h' (s.heap.objs.size + 5) (s.heap.objs.size + 3) (s.heap.objs.size + 4) .none → IsTri h' (s.heap.objs.size + 3) (.ref s.heap.objs.size) (.ref (s.heap.objs.size + 1)) (.ref (s.heap.objs.size + 2)) →
      IsTri h' (s.heap.objs.size + 4) .none .none .none → h'.IsTupleIter s.heap.objs.size l1 0 → h'.IsTupleIter (s.heap.objs.size + 1) l2 0 → h'.IsTupleIter (s.heap.objs.size + 2) l3 0 →
      (∀ c o, s.heap.get? c = some o → h'.get? c = some o) → Q (.ref (s.heap.objs.size + 5)) { s with heap := h' }) :
    wpAny (model prog w) A (call (.type "zip") [.ref l1, .ref l2, .ref l3]) Q E s := by
  refine callType_new F.called_zip (by decide) (typeCall3 _ _ _) (newCall3 _ _ _) (fun obj => initArgs4 obj _ _ _) F.entry_zip_new (meets_zip3 l1 l2 l3 xs ys ws) ⟨t1, t2, t3, ?_⟩
  have n1 : ∀ (h : Heap) (o : Obj) {k : Nat}, h.objs.size = k → (h.push o).objs.size = k + 1 := fun h o k e => by rw [Heap.size_push, e]
  have z0 : s.heap.objs.size = s.heap.objs.size := rfl
  have z1 := n1 s.heap (tIt l1) z0
  have z2 := n1 _ (tIt l2) z1
  have z3 := n1 _ (tIt l3) z2
  have z4 := n1 _ { cls := .type "tuple", data := .seq #[.ref s.heap.objs.size, .ref (s.heap.objs.size + 1), .ref (s.heap.objs.size + 2)] } z3
  have z5 := n1 _ { cls := .type "tuple", data := .seq #[.none, .none, .none] } z4
  have at_ : ∀ (h : Heap) (o : Obj) {k : Nat}, h.objs.size = k → o.isFreed = false → (h.push o).get? k = some o := fun h o k e f => by rw [← e]; exact Heap.get?_push_size _ f
  have up : ∀ (h : Heap) (o : Obj) {k : Addr} {u : Obj}, h.get? k = some u → (h.push o).get? k = some u := fun h o k u e => Heap.get?_push_of_some _ e
  unfold z3H
  refine ⟨⟨_, at_ _ _ z5 rfl, rfl⟩, h _ (at_ _ _ z5 rfl) (up _ _ (up _ _ (at_ _ _ z3 rfl))) (up _ _ (at_ _ _ z4 rfl)) ⟨tIt l1, up _ _ (up _ _ (up _ _ (up _ _ (up _ _ (at_ _ _ z0 rfl))))), rfl, rfl⟩
    ⟨tIt l2, up _ _ (up _ _ (up _ _ (up _ _ (at_ _ _ z1 rfl)))), rfl, rfl⟩ ⟨tIt l3, up _ _ (up _ _ (up _ _ (at_ _ _ z2 rfl))), rfl, rfl⟩ fun c o q => up _ _ (up _ _ (up _ _ (up _ _ (up _ _ (up _ _ q)))))⟩
end
/-- three tuples, their items in new triples -/
def Itz3 (K : PySem.W.Frag) (a b c : Addr) : It :=
  ⟨fun i H => ∃ (xs ys ws : List V) (x y v : V), SqT K H a xs ∧ SqT K H b ys ∧ SqT K H c ws ∧ xs[i]? = some x ∧ ys[i]? = some y ∧ ws[i]? = some v,
    fun i H r H' => ∃ T x y v, r = .ref T ∧ H T = none ∧ H' = upd H T (.tup [x, y, v]) ∧ (∀ xs, SqT K H a xs → xs[i]? = some x) ∧ (∀ ys, SqT K H b ys → ys[i]? = some y) ∧ ∀ ws, SqT K H c ws → ws[i]? = some v,
    fun i H => ∃ xs ys ws : List V, SqT K H a xs ∧ SqT K H b ys ∧ SqT K H c ws ∧ (xs.length ≤ i ∨ ys.length ≤ i ∨ ws.length ≤ i)⟩
theorem six {c z TI TO i1 i2 i3 : Addr} (h : c ∈ [z, TI, TO, i1, i2, i3]) : c = z ∨ c = TI ∨ c = TO ∨ c = i1 ∨ c = i2 ∨ c = i3 := by simpa using h
theorem turn_zip3 {P : Program} {w : World} {K : PySem.W.Frag} {elts : List Expr} {kk : Nat} {tpos : Pos} {a b c z TI TO i1 i2 i3 : Addr} (D : Ap3 z TI TO i1 i2 i3 a b c) :
    Turn P w K (.Tuple elts kk tpos) (Itz3 K a b c) [z, TI, TO, i1, i2, i3] z (fun i h => IsZip h z TI TO .none ∧ IsTri h TI (.ref i1) (.ref i2) (.ref i3) ∧ (∃ x y v, IsTri h TO x y v) ∧ h.IsTupleIter i1 a i ∧ h.IsTupleIter i2 b i ∧ h.IsTupleIter i3 c i) where
  mem := by simp
  obj := fun i h st d hd => by
    obtain ⟨hz, hTI, ⟨x, y, v, hTO⟩, ⟨o1, e1, _, d1⟩, ⟨o2, e2, _, d2⟩, ⟨o3, e3, _, d3⟩⟩ := st
    rcases six hd with q | q | q | q | q | q <;> rw [q]
    · exact ⟨_, hz, fun v q => nomatch q⟩
    · exact ⟨_, hTI, fun v q => nomatch q⟩
    · exact ⟨_, hTO, fun v q => nomatch q⟩
    · exact ⟨o1, e1, fun v q => by rw [d1] at q; cases q⟩
    · exact ⟨o2, e2, fun v q => by rw [d2] at q; cases q⟩
    · exact ⟨o3, e3, fun v q => by rw [d3] at q; cases q⟩
  keep := fun i h h' st k => by
    obtain ⟨hz, hTI, ⟨x, y, v, hTO⟩, h1, h2, h3⟩ := st
    exact ⟨k z (by simp) _ hz, k TI (by simp) _ hTI, ⟨x, y, v, k TO (by simp) _ hTO⟩, h1.at fun o q => k i1 (by simp) o q, h2.at fun o q => k i2 (by simp) o q, h3.at fun o q => k i3 (by simp) o q⟩
  item := by
    intro X hP hw hK hc i pins s σ H E I hf st hg
    subst hP hw hK
    obtain ⟨hz, hTI, ⟨x0, y0, v0, hTO⟩, h1, h2, h3⟩ := st
    obtain ⟨xs, ys, ws, x, y, v, hqx, hqy, hqv, hx, hy, hv⟩ := hg
    obtain ⟨its, rv, p, _⟩ := I.tuple hqx
    obtain ⟨its2, rv2, p2, _⟩ := I.tuple hqy
    obtain ⟨its3, rv3, p3, _⟩ := I.tuple hqv
    obtain ⟨u, hu, ru⟩ := rv.get hx
    obtain ⟨u2, hu2, ru2⟩ := rv2.get hy
    obtain ⟨u3, hu3, ru3⟩ := rv3.get hv
    have hzl : z < s.heap.objs.size := Heap.lt_size hz
    refine next3_item D hz hTI hTO h1 h2 h3 p p2 p3 (x := u) (y := u2) (v := u3) (by simpa using hu) (by simpa using hu2) (by simpa using hu3) fun h' z' TO' h1' h2' h3' hT hk => ?_
    refine ⟨_, rfl, wpAny_letOwnedTupleGo_zip (s := { s with heap := h' }) z' fun h'' z'' sb => ?_⟩
    have hT2 : h''.get? s.heap.objs.size = some { cls := .type "tuple", data := .seq #[u, u2, u3] } := (sb.2 _ (Nat.ne_of_gt hzl)).trans hT
    have new : ObjOk X.prog X.w (upd H s.heap.objs.size (.tup [x, y, v])) h'' s.heap.objs.size (.tup [x, y, v]) := ⟨by show 3 ≤ sizeLine; decide, [u, u2, u3], .cons ru (.cons ru2 (.cons ru3 .nil)), ⟨_, hT2, rfl, _, rfl⟩⟩
    have keeps : ∀ d o, d ∉ [z, TI, TO, i1, i2, i3] → s.heap.get? d = some o → h''.get? d = some o := fun d o hb q => by
      simp only [List.mem_cons, List.not_mem_nil, or_false, not_or] at hb
      obtain ⟨m1, m2, m3, m4, m5, m6⟩ := hb
      exact (sb.2 d m1).trans (hk d o m1 m3 m4 m5 m6 q)
    have I1 := I.turnedNew (t' := s.toks) (ch := [z, TI, TO, i1, i2, i3]) (T := s.heap.objs.size) (ob := .tup [x, y, v]) keeps hf (Nat.le_refl _) new
    refine ⟨.ref s.heap.objs.size, _, I1, rfl, ⟨_, x, y, v, rfl, I.hok.fresh (Nat.le_refl _), rfl, fun l hl => by rw [I.tuple_inj hl hqx]; exact hx, fun l hl => by rw [I.tuple_inj hl hqy]; exact hy, fun l hl => by rw [I.tuple_inj hl hqv]; exact hv⟩, ⟨z'', ?_, ⟨u, u2, u3, ?_⟩, ?_, ?_, ?_⟩, fun d hdm => ?_⟩
    · exact (sb.2 _ D.a1).trans (hk _ _ D.a1 D.b1 D.c1 D.c2 D.c3 hTI)
    · exact (sb.2 _ D.a2).trans TO'
    · exact h1'.at fun o q => (sb.2 _ D.a3).trans q
    · exact h2'.at fun o q => (sb.2 _ D.a4).trans q
    · exact h3'.at fun o q => (sb.2 _ D.a5).trans q
    · have hlt : d < s.heap.objs.size := by
        rcases six hdm with q | q | q | q | q | q <;> rw [q]
        · exact hzl
        · exact Heap.lt_size hTI
        · exact Heap.lt_size hTO
        · obtain ⟨_, e1, _⟩ := h1; exact Heap.lt_size e1
        · obtain ⟨_, e2, _⟩ := h2; exact Heap.lt_size e2
        · obtain ⟨_, e3, _⟩ := h3; exact Heap.lt_size e3
      rw [upd_ne (Nat.ne_of_lt hlt)]
      exact (hf d hdm).1
  done := by
    intro X hP hw hK hc i pins s σ H E I hf st hg
    subst hP hw hK
    obtain ⟨hz, hTI, ⟨x0, y0, v0, hTO⟩, h1, h2, h3⟩ := st
    obtain ⟨xs, ys, ws, hqx, hqy, hqv, hend⟩ := hg
    obtain ⟨its, rv, p, _⟩ := I.tuple hqx
    obtain ⟨its2, rv2, p2, _⟩ := I.tuple hqy
    obtain ⟨its3, rv3, p3, _⟩ := I.tuple hqv
    have n1 := rv.length
    have n2 := rv2.length
    have n3 := rv3.length
    have he : its.toArray[i]? = none ∨ its2.toArray[i]? = none ∨ its3.toArray[i]? = none := by
      rcases hend with q | q | q
      · exact .inl (by simp; omega)
      · exact .inr (.inl (by simp; omega))
      · exact .inr (.inr (by simp; omega))
    refine next3_end (I.ok.hd hc) D hz hTI hTO h1 h2 h3 p p2 p3 he fun h' hk => ⟨rfl, I.turnedL (t' := s.toks) (ch := [z, TI, TO, i1, i2, i3]) (fun d o hb q => ?_) hf⟩
    simp only [List.mem_cons, List.not_mem_nil, or_false, not_or] at hb
    obtain ⟨m1, m2, m3, m4, m5, m6⟩ := hb
    exact hk d o m1 m3 m4 m5 m6 q
  self := fun A i s Q E st h => wpAny_pyIter_zip st.1 h
def iZip3 (K : PySem.W.Frag) (ta : TA) : TI := fun σ H R => ta σ H fun vs H1 => ∃ a b c xs ys ws, vs = [.ref a, .ref b, .ref c] ∧ SqT K H1 a xs ∧ SqT K H1 b ys ∧ SqT K H1 c ws ∧ R (Itz3 K a b c) H1
theorem pi_zip3 {X : Cx} {e e2 e3 : Expr} {ta : TA} {p pos tpos : Pos} {elts : List Expr} {kk : Nat} (hg : Gl X "zip") (hm : X.mg "zip" = none) (ha : PA X [e, e2, e3] ta)
    (hs : starEach [e, e2, e3] X.env = (false, eval e X.env) :: starEach [e2, e3] X.env := by rfl) (hpl : (backTo pos (starEach [e2, e3] X.env)).any (·.1) = false := by rfl) : PI X (.Tuple elts kk tpos) (.Call (.Name "zip" p) [e, e2, e3] [] pos) (iZip3 X.K ta) := by
  refine ⟨fun pins s σ H R I h => ?_⟩
  refine Call_ (ld_blt I hg hm PyProof.Rows.boot_zip (PyProof.Rows.callWith_type1 (thn (ha.run pos pins s σ H _ I h) fun us s1 ⟨vs, H1, I1, r1, q1⟩ => ?_) hs hpl))
  obtain ⟨a, b, c, xs, ys, ws, ex, hqx, hqy, hqv, q⟩ := q1
  subst ex
  obtain ⟨u1, u2, u3, rfl, e1, e2, e3⟩ : ∃ u1 u2 u3, us = [u1, u2, u3] ∧ L2.RelV (.ref a) u1 ∧ L2.RelV (.ref b) u2 ∧ L2.RelV (.ref c) u3 := by
    cases r1 with
    | cons ra r1 => cases r1 with
      | cons rb r1 => cases r1 with
        | cons rc r1 => cases r1; exact ⟨_, _, _, rfl, ra, rb, rc⟩
  obtain rfl : u1 = Value.ref a := e1
  obtain rfl : u2 = Value.ref b := e2
  obtain rfl : u3 = Value.ref c := e3
  obtain ⟨its, rv, p1, _⟩ := I1.tuple hqx
  obtain ⟨its2, rv2, p2, _⟩ := I1.tuple hqy
  obtain ⟨its3, rv3, p3, _⟩ := I1.tuple hqv
  obtain ⟨o1, ho1, _⟩ := id p1
  obtain ⟨o2, ho2, _⟩ := id p2
  obtain ⟨o3, ho3, _⟩ := id p3
  have fresh : ∀ d, d ∈ [s1.heap.objs.size + 5, s1.heap.objs.size + 3, s1.heap.objs.size + 4, s1.heap.objs.size, s1.heap.objs.size + 1, s1.heap.objs.size + 2] → FpOk X pins H1 d := fun d hd => by
    have hle : s1.heap.objs.size ≤ d := by
      rcases six hd with z | z | z | z | z | z <;> rw [z]
      · exact Nat.le_add_right _ _
      · exact Nat.le_add_right _ _
      · exact Nat.le_add_right _ _
      · exact Nat.le_refl _
      · exact Nat.le_add_right _ _
      · exact Nat.le_add_right _ _
    exact I1.fpOk hle (I1.hok.fresh hle)
  refine call_zip3 (show s1.heap.IsTuple a its.toArray from p1) (show s1.heap.IsTuple b its2.toArray from p2) (show s1.heap.IsTuple c its3.toArray from p3) fun h' hz hTI hTO h1 h2 h3 hk => wpAny_pyIter_zip hz ?_
  have I2 : Inv X pins σ H1 { s1 with heap := h' } := I1.kept (t' := s1.toks) hk
  exact ⟨s1.heap.objs.size + 5, [s1.heap.objs.size + 5, s1.heap.objs.size + 3, s1.heap.objs.size + 4, s1.heap.objs.size, s1.heap.objs.size + 1, s1.heap.objs.size + 2], _, _, H1, rfl, I2,
    turn_zip3 (ap3 s1.heap.objs.size a b c (Heap.lt_size ho1) (Heap.lt_size ho2) (Heap.lt_size ho3)), ⟨hz, hTI, ⟨_, _, _, hTO⟩, h1, h2, h3⟩, fresh, q⟩
/-! ### over data -/
def zip3D : List D → List D → List D → List D
  | a :: as, b :: bs, c :: cs => .tup [a, b, c] :: zip3D as bs cs
  | _, _, _ => []
theorem zip3_get : ∀ {as bs cs : List D} {i : Nat} {d : D}, (zip3D as bs cs)[i]? = some d → ∃ a b c, as[i]? = some a ∧ bs[i]? = some b ∧ cs[i]? = some c ∧ d = .tup [a, b, c]
  | a :: as, b :: bs, c :: cs, 0, d, h => ⟨a, b, c, rfl, rfl, rfl, (Option.some.inj h).symm⟩
  | a :: as, b :: bs, c :: cs, i + 1, d, h => zip3_get (as := as) (bs := bs) (cs := cs) h
  | [], _, _, _, _, h => by simp [zip3D] at h
  | _ :: _, [], _, _, _, h => by simp [zip3D] at h
  | _ :: _, _ :: _, [], _, _, h => by simp [zip3D] at h
theorem zip3_end' : ∀ {as bs cs : List D} {i : Nat}, (zip3D as bs cs).length ≤ i → as.length ≤ i ∨ bs.length ≤ i ∨ cs.length ≤ i
  | a :: as, b :: bs, c :: cs, 0, h => by simp [zip3D] at h
  | a :: as, b :: bs, c :: cs, i + 1, h => by
    have := zip3_end' (as := as) (bs := bs) (cs := cs) (i := i) (by simpa [zip3D] using h)
    simpa using this
  | [], _, _, _, _ => .inl (by simp)
  | _ :: _, [], _, _, _ => .inr (.inl (by simp))
  | _ :: _, _ :: _, [], _, _ => .inr (.inr (by simp))
def wZip3 (m : Ax) : Ax := fun env => (m env).bind fun ds => match ds with
  | [.tup as, .tup bs, .tup cs] => some (zip3D as bs cs)
  | _ => none
section
variable {X : Cx} {K : PySem.W.Frag} {G : Hp}
theorem walks_zip3 {a b c : Addr} {xs ys ws : List V} {ds es fs : List D} (h : SqT K G a xs) (r : Rps K G xs ds) (h' : SqT K G b ys) (r' : Rps K G ys es) (h'' : SqT K G c ws) (r'' : Rps K G ws fs) : Walks K (Itz3 K a b c) (zip3D ds es fs) G := by
  intro i G1 H1 e1 e2
  have q1 : SqT K H1 a xs := same_sqt e2 (sqt_n e1 h)
  have q2 : SqT K H1 b ys := same_sqt e2 (sqt_n e1 h')
  have q3 : SqT K H1 c ws := same_sqt e2 (sqt_n e1 h'')
  refine ⟨fun hi => ⟨xs, ys, ws, q1, q2, q3, ?_⟩, fun d hd => ?_⟩
  · rw [r.length, r'.length, r''.length]
    exact zip3_end' hi
  obtain ⟨d1, d2, d3, g1, g2, g3, rfl⟩ := zip3_get hd
  obtain ⟨v1, a1, b1⟩ := r.get g1
  obtain ⟨v2, a2, b2⟩ := r'.get g2
  obtain ⟨v3, a3, b3⟩ := r''.get g3
  refine ⟨⟨xs, ys, ws, v1, v2, v3, q1, q2, q3, a1, a2, a3⟩, fun x H2 y => ?_⟩
  obtain ⟨T, x1, x2, x3, rfl, hT, rfl, y1, y2, y3⟩ := y
  have z := y1 xs q1
  rw [a1] at z; cases z
  have z := y2 ys q2
  rw [a2] at z; cases z
  have z := y3 ws q3
  rw [a3] at z; cases z
  have g := Gr.new (o := .tup [v1, v2, v3]) e2 hT
  exact ⟨_, g, .tup (SqT.of upd_same) (.cons ((b1.monoN e1).mono g.g _ _) (.cons ((b2.monoN e1).mono g.g _ _) (.cons ((b3.monoN e1).mono g.g _ _) .nil)))⟩
theorem ok_wZip3 {e e2 e3 : Expr} {m : Ax} {p pos tpos : Pos} {elts : List Expr} {kk : Nat} (hm : X.mg "zip" = none) (ha : OkA X [e, e2, e3] m) (hg : Gl X "zip" := by rfl)
    (hs : starEach [e, e2, e3] X.env = (false, eval e X.env) :: starEach [e2, e3] X.env := by rfl) (hpl : (backTo pos (starEach [e2, e3] X.env)).any (·.1) = false := by rfl) : OkI X (.Tuple elts kk tpos) (.Call (.Name "zip" p) [e, e2, e3] [] pos) (wZip3 m) :=
  weakI (pi_zip3 hg hm ha hs hpl) fun σ H R ⟨O, env, G, ds, rl, e, k⟩ => by
    obtain ⟨es, e1, e2⟩ := Option.bind_eq_some_iff.mp e
    refine ⟨O, env, G, es, rl, e1, fun vs G1 H1 g1 r1 => ?_⟩
    split at e2
    · cases e2
      cases r1 with
      | cons ra r1 => cases r1 with
        | cons rb r1 => cases r1 with
          | cons rc r1 =>
            cases r1
            cases ra with
            | @tup a xs es h1 h2 =>
              cases rb with
              | @tup b ys fs h3 h4 =>
                cases rc with
                | @tup c ws gs h5 h6 => exact ⟨a, b, c, xs, ys, ws, rfl, same_sqt g1.gh h1, same_sqt g1.gh h3, same_sqt g1.gh h5, k _ G1 H1 g1 (walks_zip3 h1 h2 h3 h4 h5 h6)⟩
    · cases e2
end
end Sh
end Part_WZ2

section Part_WH
set_option maxRecDepth 100000
set_option maxHeartbeats 2000000
/-! WH: what the head tells besides: classes with super().__init__ of their own. -/
namespace Sh
open PySem PySem.Spec PyProof.Rows L2
/-- an exception's class with an __init__ of the text -/
structure InitD where
  cls : Str
  qual : Str
  st : Stmt
abbrev FnC : Type := Option (Str × Str × Arguments × FuncBody × Scope × Addr × Addr)
def fnC (K : PySem.W.Frag) (x : Str) : FnC := match K.lookup (He.ma K (He.ga K x) "__init__") with
  | some ⟨_, _, .func fd, _⟩ => some (fd.name, fd.qualname, fd.params, fd.body, fd.scope, fd.globals, fd.builtins)
  | _ => none
def InitD.val (d : InitD) : FnC := some ("__init__", d.qual, defArgs d.st, .stmts (defBody d.st), defScope d.st, mainGlobals, builtinsNs)
/-- its class -/
def oexB (K : PySem.W.Frag) (C : Addr) : Bool := (match K.lookup C with
    | some ⟨.type t, _, .cls cd, sl⟩ => decide (t = "type") && (match cd.mro, sl.toList with
      | .ref C' :: bm, [_, _, _, _, some (.builtin n), _] => decide (C' = C) && (decide (n = "ValueError.__new__") && (!cd.hasDel && (cd.hasDict && PySem.HandSPX.refsVE bm)))
      | _, _ => false)
    | _ => false) && (decide (PySem.W.findIn K (.ref C) "__setattr__" = some (some (.builtin "object.__setattr__"))) && (decide (PySem.W.subIn K (.ref C) (.type "BaseException") = some true) && (decide (PySem.W.typeIn K (.ref C) = some (.type "type")) && PySem.W.keepIn K (.ref C))))
theorem oex_of {K : PySem.W.Frag} {C : Addr} (h : oexB K C = true) : OexC K C := by
  obtain ⟨h1, h⟩ := Bool.and_eq_true_iff.mp h
  obtain ⟨h2, h⟩ := Bool.and_eq_true_iff.mp h
  obtain ⟨h3, h⟩ := Bool.and_eq_true_iff.mp h
  obtain ⟨h4, h5⟩ := Bool.and_eq_true_iff.mp h
  refine ⟨?_, of_decide_eq_true h2, of_decide_eq_true h3, of_decide_eq_true h4, h5⟩
  split at h1
  · rename_i t dd cd sl ho
    obtain ⟨e1, h1⟩ := Bool.and_eq_true_iff.mp h1
    have e1 : t = "type" := of_decide_eq_true e1
    rw [e1] at ho
    split at h1
    · rename_i C' bm k0 k1 k2 k3 n k5 hm hs
      obtain ⟨a1, h1⟩ := Bool.and_eq_true_iff.mp h1
      obtain ⟨a2, h1⟩ := Bool.and_eq_true_iff.mp h1
      obtain ⟨a3, h1⟩ := Bool.and_eq_true_iff.mp h1
      obtain ⟨a4, a5⟩ := Bool.and_eq_true_iff.mp h1
      have a1 := of_decide_eq_true a1
      have a2 := of_decide_eq_true a2
      subst a1 a2
      obtain ⟨nm, bs, mro, ns, qn, hd, sn, sub, ab, col, del⟩ := cd
      have a3 : (!del) = true := a3
      have a4 : hd = true := a4
      have hm : mro = .ref C' :: bm := hm
      subst a4 hm
      have a3 : del = false := by simpa using a3
      subst a3
      have hsl : sl = #[k0, k1, k2, k3, some (.builtin "ValueError.__new__"), k5] := by
        obtain ⟨l⟩ := sl
        have hs : l = _ := hs
        rw [hs]
      subst hsl
      exact ⟨nm, qn, ns, bs, bm, sn, sub, ab, col, dd, k0, k1, k2, k3, k5, ho, a5⟩
    · cases h1
  · cases h1
/-- its __init__'s closure, code object -/
def supFB (P : Program) (K : PySem.W.Frag) (C : Addr) : Bool := match K.lookup (He.ma K C "__init__") with
  | some ⟨_, _, .func fd, _⟩ => (match fd.closure, fd.code, fd.defaults with
    | [(n, cc)], .ref cda, .none => decide (n = "__class__") && (PySem.W.codeIn K (.ref cda) fd.qualname && ((match K.lookup cc with
        | some ⟨_, _, .cell (some (.ref C')), _⟩ => decide (C' = C)
        | _ => false) && (match K.lookup cda with
        | some ⟨_, _, .fields vs, _⟩ => (match (vs[2]? : Option Value) with
          | some (.str file _) => (P.main.file : Str) == file
          | _ => false)
        | _ => false)))
    | _, _, _ => false)
  | _ => false
def supB (P : Program) (K : PySem.W.Frag) (C : Addr) : Bool := oexB K C && (PySem.W.excInitIn K C He.veBase "ValueError.__new__" && (decide (PySem.W.findIn K (.ref C) "part" = some none) && (decide (PySem.W.findIn K (.ref C) "__init__" = some (some (.ref (He.ma K C "__init__")))) &&
  (decide (PySem.W.typeIn K (.ref (He.ma K C "__init__")) = some (.type "function")) && (supFB P K C && (decide (PySem.W.nsIn K mainGlobals "super" = some none) && (!(P.main.scope.names.lookup ("super" : Str)).isSome && (decide (PySem.W.nsIn K cStatics "thirdparty.any" = some none) &&
  (decide (PySem.W.ks_superIn K C C "__init__" = some (some (.builtin "ValueError.__init__"))) && (decide (PySem.W.subIn K (.ref C) (.type "ValueError") = some true) && decide (PySem.W.mroIn K C (.ref C) = some true)))))))))))
theorem sup_of {P : Program} {K : PySem.W.Frag} {h : Heap} {mg : Str → Option Value} {d : InitD} (X : K.In h) (G : h.Ns mainGlobals mg) (hb : supB P K (He.ga K d.cls) = true) (hv : fnC K d.cls = d.val)
    (bd : ∀ (cl : List (Str × Addr)) (kV doc pm : Value) (an : Option Addr) (cdv ct : Value) (us : List Value), us.length = 2 → bindArgs (PySem.W.fnX "__init__" d.qual (defArgs d.st) (defBody d.st) (defScope d.st) cl .none kV doc pm an cdv ct) ⟨us, []⟩ = pure ((["self", "part"] : List Str).zip us)) :
    ∃ fI fd, SupX P K mg (He.ga K d.cls) d.st fI fd := by
  generalize hC : He.ga K d.cls = C at *
  unfold supB at hb
  simp only [Bool.and_eq_true, decide_eq_true_eq, Bool.not_eq_true'] at hb
  obtain ⟨b1, b2, b3, b4, b5, b6, b7, b8, b9, b10, b11, b12⟩ := hb
  unfold supFB at b6
  unfold fnC at hv
  rw [hC] at hv
  split at b6
  · rename_i oc od fd osl ho
    rw [ho] at hv
    split at b6
    · rename_i n cc cda e1 e2 e3
      simp only [Bool.and_eq_true, decide_eq_true_eq] at b6
      obtain ⟨c1, c2, c3, c4⟩ := b6
      subst c1
      obtain ⟨m1, m2, m3, m4, m5, m6, m7, m8, m9, m10, m11, m12, m13, m14, m15⟩ := fd
      have hv : (some (m1, m2, m3, m4, m5, m6, m15) : FnC) = some (("__init__" : Str), d.qual, defArgs d.st, FuncBody.stmts (defBody d.st), defScope d.st, mainGlobals, builtinsNs) := hv
      simp only [Option.some.injEq, Prod.mk.injEq] at hv
      obtain ⟨h1, h2, h3, h4, h5, h6, h8⟩ := hv
      have e1 : m7 = [(("__class__" : Str), cc)] := e1
      have e2 : m13 = .ref cda := e2
      have e3 : m8 = .none := e3
      subst h1 h2 h3 h4 h5 h6 h8 e1 e2 e3
      refine ⟨He.ma K C "__init__", _, ⟨oex_of b1, b2, b3, b4, b5, ⟨d.qual, cc, cda, oc, od, .none, m9, m10, m11, m14, m12, osl, rfl, ho, c2, ?_, ?_⟩, PySem.W.mg_none_of X G b7, by simpa using b8, b9, b10, b11, b12, .all fun us hl => bd _ _ _ _ _ _ _ us hl⟩⟩
      · split at c3
        · rename_i a1 a2 C' a3 hcc
          have c3 := of_decide_eq_true c3
          subst c3
          exact ⟨a1, a2, a3, hcc⟩
        · cases c3
      · split at c4
        · rename_i a1 a2 vs a3 hcd
          split at c4
          · rename_i file tf hvs
            exact ⟨a1, a2, vs, a3, file, tf, hcd, hvs, c4⟩
          · cases c4
        · cases c4
    · cases b6
  · cases b6
/-! ### the Hook -/
def asY (g : Addr → Option Obj) (n : Nat) : List Addr := cStatics :: He.asD g n
structure SaysY (fa : List He.Fa) (fn : List He.DefD) (ds : List InitD) (tf : List He.Defn) (ex : PySem.W.Frag → Bool) (w : World) (h : Heap) (K : PySem.W.Frag) : Prop where
  x : He.SaysX fa fn [] tf ex w h K
  c : ds.map (fun d => fnC K d.cls) = ds.map InitD.val
abbrev AlY : Type := He.AlX × List FnC
def obsY (n : Nat) (fa : List He.Fa) (fn : List He.DefD) (ds : List InitD) (tf : List He.Defn) (ex : PySem.W.Frag → Bool) (g : Addr → Option Obj) : AlY :=
  ((He.obsT fa fn [] (He.frT g (asY g n)), ex (He.frT g (asY g n)) && He.tabsB g tf (He.frT g (asY g n))), ds.map fun d => fnC (He.frT g (asY g n)) d.cls)
def valY (fn : List He.DefD) (ds : List InitD) (w : World) : AlY := (He.valX fn [] w, ds.map InitD.val)
theorem saysY_of {n : Nat} {fa : List He.Fa} {fn : List He.DefD} {ds : List InitD} {tf : List He.Defn} {ex : PySem.W.Frag → Bool} {w : World} {h : Heap} (e : obsY n fa fn ds tf ex h.get? = valY fn ds w) : SaysY fa fn ds tf ex w h (He.frT h.get? (asY h.get? n)) := by
  have c1 : He.obsT fa fn [] (He.frT h.get? (asY h.get? n)) = He.valT fn [] w := congrArg (fun z : AlY => z.1.1) e
  have c2 : (ex (He.frT h.get? (asY h.get? n)) && He.tabsB h.get? tf (He.frT h.get? (asY h.get? n))) = true := congrArg (fun z : AlY => z.1.2) e
  have c3 : ds.map (fun d => fnC (He.frT h.get? (asY h.get? n)) d.cls) = ds.map InitD.val := congrArg (fun z : AlY => z.2) e
  obtain ⟨h1, h2⟩ := Bool.and_eq_true_iff.mp c2
  have at_ : ∀ p ∈ tf, PySem.W.codeHdIn (He.frT h.get? (asY h.get? n)) (He.cT (He.frT h.get? (asY h.get? n)) p).1 (He.cT (He.frT h.get? (asY h.get? n)) p).2 = true ∧ ∃ o, h.get? (He.cT (He.frT h.get? (asY h.get? n)) p).2 = some o ∧ He.emptyTab o = true := fun p hp => by
    obtain ⟨h3, h4⟩ := Bool.and_eq_true_iff.mp (List.all_eq_true.mp h2 p hp)
    cases q : h.get? (He.cT (He.frT h.get? (asY h.get? n)) p).2 with
    | none => rw [q] at h4; cases h4
    | some o => rw [q] at h4; exact ⟨h3, o, rfl, h4⟩
  refine ⟨⟨c1, h1, fun p hp => (at_ p hp).1, fun p hp => ?_, fun p hp => ?_⟩, c3⟩
  · obtain ⟨_, o, q, z⟩ := at_ p hp
    exact He.frT_none q z
  · obtain ⟨_, o, q, z⟩ := at_ p hp
    rw [q, He.emptyTab_eq z]
def hookY (n : Nat) (fa : List He.Fa) (fn : List He.DefD) (ds : List InitD) (tf : List He.Defn) (ex : PySem.W.Frag → Bool) : PySem.W.Hook where
  α := AlY
  obs := fun s => obsY n fa fn ds tf ex s.heap.get?
  val := fun w => valY fn ds w
  says := fun w h => ∃ K : PySem.W.Frag, K.In h ∧ SaysY fa fn ds tf ex w h K
  of := fun _ _ e => ⟨_, He.frT_in, saysY_of e⟩
  keeps := fun _ _ _ ⟨K, hK, c⟩ k => ⟨K, PySem.W.Frag.In.keeps hK k, ⟨⟨c.x.t, c.x.more, c.x.hd, c.x.out, fun p hp => k _ _ (c.x.empty p hp)⟩, c.c⟩⟩
theorem obsY_eq {n : Nat} {fa : List He.Fa} {fn : List He.DefD} {ds : List InitD} {tf : List He.Defn} {ex : PySem.W.Frag → Bool} {g : Addr → Option Obj} {s : Shared} (h : ∀ a, g a = s.heap.get? a) : obsY n fa fn ds tf ex g = (hookY n fa fn ds tf ex).obs s := by
  have e : g = s.heap.get? := funext h
  rw [e]; rfl
theorem SaysY.at_ {fa : List He.Fa} {fn : List He.DefD} {ds : List InitD} {tf : List He.Defn} {ex : PySem.W.Frag → Bool} {w : World} {h : Heap} {K : PySem.W.Frag} (c : SaysY fa fn ds tf ex w h K) (i : Nat) {d : InitD} (e : ds[i]? = some d := by rfl) : fnC K d.cls = d.val := by
  have z : (ds.map fun d => fnC K d.cls)[i]? = (ds.map InitD.val)[i]? := by rw [c.c]
  rw [List.getElem?_map, List.getElem?_map, e] at z
  exact Option.some.inj z
/-- what isinstance asks of an exception's class -/
theorem own1_of {K : PySem.W.Frag} {WC : Addr} {XS : List Addr} (cl : Cls K WC) (h1 : inCB K WC = true) (h2 : (XS.all fun C => excCB K C) = true) : Own1 K WC XS := by
  obtain ⟨i1, h1⟩ := Bool.and_eq_true_iff.mp h1
  obtain ⟨i2, h1⟩ := Bool.and_eq_true_iff.mp h1
  obtain ⟨i3, i4⟩ := Bool.and_eq_true_iff.mp h1
  exact ⟨⟨cl, of_decide_eq_true i1, of_decide_eq_true i2, of_decide_eq_true i3, of_decide_eq_true i4⟩, fun C hC => excCB_ok (List.all_eq_true.mp h2 C hC)⟩
end Sh
end Part_WH

section Part_E11a0
set_option maxRecDepth 100000
set_option maxHeartbeats 4000000
/-! E11a: the plain defs of k11 (written by mk11.py). -/
namespace Sh
open PySem L2
def top (i : Nat) : Stmt := PySem.Challenge.pw_wallscut_k11_whole_points_and_signs.main.body.getD i (.Pass ⟨0, 0, 0, 0⟩)
def inClass (st : Stmt) (j : Nat) : Stmt := match st with
  | .ClassDef (body := b) .. => b.getD j (.Pass ⟨0, 0, 0, 0⟩)
  | _ => .Pass ⟨0, 0, 0, 0⟩
/-- the addresses that the law's data tell: the class Walls, the exceptions' classes, the draws' dict -/
structure Zc where
  WC : Addr
  xa : Str → Addr
  p : Addr
def xNames : List Str := ["BadNumber", "BadSigns", "BadRoom", "BadPoint", "BadForm", "NotNear", "BadFace", "BadWay", "NotFull", "BadWalls"]
def XS (Z : Zc) : List Addr := xNames.map Z.xa
def XP (Z : Zc) : List Addr := (["BadNumber", "BadWalls"] : List Str).map Z.xa
def eFld (Z : Zc) (f : Str) (m : Ex) : Ex := fun env => (m env).bind (fldD Z.WC f)
def ePart (Z : Zc) (m : Ex) : Ex := fun env => (m env).bind (partD (XP Z))
def eIsW (Z : Zc) (m : Ex) : Ex := fun env => (m env).bind (isWd Z.WC)
def eIsX (Z : Zc) (n : Str) (m : Ex) : Ex := fun env => (m env).bind (isXd (XS Z) (Z.xa n))
abbrev s_caught : Stmt := top 48
abbrev s_bn : Stmt := inClass (top 3) 0
abbrev s_bw : Stmt := inClass (top 12) 0
abbrev sis_number : Stmt := top 14
abbrev sis_between : Stmt := top 15
abbrev sis_list : Stmt := top 16
abbrev sis_tuple : Stmt := top 17
abbrev sis_row : Stmt := top 20
abbrev sis_same_row : Stmt := top 21
abbrev scommon_part : Stmt := top 22
abbrev sis_set : Stmt := top 24
abbrev srow_times : Stmt := top 27
abbrev sis_over_row : Stmt := top 28
abbrev sfraction_told : Stmt := top 30
abbrev spoint_told : Stmt := top 31
abbrev ssign_of : Stmt := top 32
abbrev spoint_signs : Stmt := top 34
abbrev svalue_told : Stmt := top 39
abbrev s_law_says : Stmt := top 49
abbrev s_law_is_number : Stmt := top 50
abbrev s_law_is_row : Stmt := top 51
abbrev s_law_common : Stmt := top 52
abbrev s_law_times : Stmt := top 53
abbrev s_law_sign : Stmt := top 54
abbrev s_law_first : Stmt := top 55
abbrev s_law_least : Stmt := top 56
abbrev s_law_point : Stmt := top 57
abbrev s_law_value : Stmt := top 60
abbrev s_law_at : Stmt := top 61
abbrev s_law_is_point : Stmt := top 65
abbrev s_law_on_row : Stmt := top 66
abbrev s_law_fraction : Stmt := top 68
abbrev s_law_half : Stmt := top 69
abbrev s_law_between : Stmt := top 70
abbrev s_law_begun : Stmt := top 44
abbrev s_law_mixed : Stmt := top 45
abbrev s_law_take : Stmt := top 46
abbrev s_law_pick : Stmt := top 47
abbrev s_init : Stmt := inClass (top 23) 0
abbrev sneed_between : Stmt := top 18
abbrev sneed_set : Stmt := top 25
abbrev sneed_point : Stmt := top 36
abbrev sneed_place : Stmt := top 40
abbrev sis_point : Stmt := top 37
abbrev ssigns_at : Stmt := top 38
abbrev svalue_at : Stmt := top 41
abbrev shalf_way : Stmt := top 42
abbrev s_law_row : Stmt := top 58
abbrev s_law_drawn_set : Stmt := top 59
abbrev s_law_some_point : Stmt := top 63
abbrev s_law_no_set : Stmt := top 64
abbrev s_law_near_point : Stmt := top 67
abbrev s_law_told : Stmt := top 62
abbrev s_law_right : Stmt := top 71
abbrev slaw : Stmt := top 72
end Sh
end Part_E11a0

section Part_E11h
set_option maxRecDepth 100000
set_option maxHeartbeats 0
/-! E11h: the head of k11 (written by mkh11.py). -/
namespace Sh
open PySem L2
def dis_number : He.DefD := ⟨("is_number", none), "is_number", "is_number", defArgs sis_number, defBody sis_number, defScope sis_number, [], []⟩
def dis_between : He.DefD := ⟨("is_between", none), "is_between", "is_between", defArgs sis_between, defBody sis_between, defScope sis_between, [], []⟩
def dis_list : He.DefD := ⟨("is_list", none), "is_list", "is_list", defArgs sis_list, defBody sis_list, defScope sis_list, [], []⟩
def dis_tuple : He.DefD := ⟨("is_tuple", none), "is_tuple", "is_tuple", defArgs sis_tuple, defBody sis_tuple, defScope sis_tuple, [], []⟩
def dis_row : He.DefD := ⟨("is_row", none), "is_row", "is_row", defArgs sis_row, defBody sis_row, defScope sis_row, [], []⟩
def dis_same_row : He.DefD := ⟨("is_same_row", none), "is_same_row", "is_same_row", defArgs sis_same_row, defBody sis_same_row, defScope sis_same_row, [], []⟩
def dcommon_part : He.DefD := ⟨("common_part", none), "common_part", "common_part", defArgs scommon_part, defBody scommon_part, defScope scommon_part, [], []⟩
def dis_set : He.DefD := ⟨("is_set", none), "is_set", "is_set", defArgs sis_set, defBody sis_set, defScope sis_set, [], []⟩
def drow_times : He.DefD := ⟨("row_times", none), "row_times", "row_times", defArgs srow_times, defBody srow_times, defScope srow_times, [], []⟩
def dis_over_row : He.DefD := ⟨("is_over_row", none), "is_over_row", "is_over_row", defArgs sis_over_row, defBody sis_over_row, defScope sis_over_row, [], []⟩
def dfraction_told : He.DefD := ⟨("fraction_told", none), "fraction_told", "fraction_told", defArgs sfraction_told, defBody sfraction_told, defScope sfraction_told, [], []⟩
def dpoint_told : He.DefD := ⟨("point_told", none), "point_told", "point_told", defArgs spoint_told, defBody spoint_told, defScope spoint_told, [], []⟩
def dsign_of : He.DefD := ⟨("sign_of", none), "sign_of", "sign_of", defArgs ssign_of, defBody ssign_of, defScope ssign_of, [], []⟩
def dpoint_signs : He.DefD := ⟨("point_signs", none), "point_signs", "point_signs", defArgs spoint_signs, defBody spoint_signs, defScope spoint_signs, [], []⟩
def dvalue_told : He.DefD := ⟨("value_told", none), "value_told", "value_told", defArgs svalue_told, defBody svalue_told, defScope svalue_told, [], []⟩
def d_law_says : He.DefD := ⟨("_law_says", none), "_law_says", "_law_says", defArgs s_law_says, defBody s_law_says, defScope s_law_says, [], []⟩
def d_law_is_number : He.DefD := ⟨("_law_is_number", none), "_law_is_number", "_law_is_number", defArgs s_law_is_number, defBody s_law_is_number, defScope s_law_is_number, [], []⟩
def d_law_is_row : He.DefD := ⟨("_law_is_row", none), "_law_is_row", "_law_is_row", defArgs s_law_is_row, defBody s_law_is_row, defScope s_law_is_row, [], []⟩
def d_law_common : He.DefD := ⟨("_law_common", none), "_law_common", "_law_common", defArgs s_law_common, defBody s_law_common, defScope s_law_common, [], []⟩
def d_law_times : He.DefD := ⟨("_law_times", none), "_law_times", "_law_times", defArgs s_law_times, defBody s_law_times, defScope s_law_times, [], []⟩
def d_law_sign : He.DefD := ⟨("_law_sign", none), "_law_sign", "_law_sign", defArgs s_law_sign, defBody s_law_sign, defScope s_law_sign, [], []⟩
def d_law_first : He.DefD := ⟨("_law_first", none), "_law_first", "_law_first", defArgs s_law_first, defBody s_law_first, defScope s_law_first, [], []⟩
def d_law_least : He.DefD := ⟨("_law_least", none), "_law_least", "_law_least", defArgs s_law_least, defBody s_law_least, defScope s_law_least, [], []⟩
def d_law_point : He.DefD := ⟨("_law_point", none), "_law_point", "_law_point", defArgs s_law_point, defBody s_law_point, defScope s_law_point, [], []⟩
def d_law_value : He.DefD := ⟨("_law_value", none), "_law_value", "_law_value", defArgs s_law_value, defBody s_law_value, defScope s_law_value, [], []⟩
def d_law_at : He.DefD := ⟨("_law_at", none), "_law_at", "_law_at", defArgs s_law_at, defBody s_law_at, defScope s_law_at, [], []⟩
def d_law_is_point : He.DefD := ⟨("_law_is_point", none), "_law_is_point", "_law_is_point", defArgs s_law_is_point, defBody s_law_is_point, defScope s_law_is_point, [], []⟩
def d_law_on_row : He.DefD := ⟨("_law_on_row", none), "_law_on_row", "_law_on_row", defArgs s_law_on_row, defBody s_law_on_row, defScope s_law_on_row, [], []⟩
def d_law_fraction : He.DefD := ⟨("_law_fraction", none), "_law_fraction", "_law_fraction", defArgs s_law_fraction, defBody s_law_fraction, defScope s_law_fraction, [], []⟩
def d_law_half : He.DefD := ⟨("_law_half", none), "_law_half", "_law_half", defArgs s_law_half, defBody s_law_half, defScope s_law_half, [], []⟩
def d_law_between : He.DefD := ⟨("_law_between", none), "_law_between", "_law_between", defArgs s_law_between, defBody s_law_between, defScope s_law_between, [], []⟩
def dneed_between : He.DefD := ⟨("need_between", none), "need_between", "need_between", defArgs sneed_between, defBody sneed_between, defScope sneed_between, [], []⟩
def dneed_set : He.DefD := ⟨("need_set", none), "need_set", "need_set", defArgs sneed_set, defBody sneed_set, defScope sneed_set, [], []⟩
def dneed_point : He.DefD := ⟨("need_point", none), "need_point", "need_point", defArgs sneed_point, defBody sneed_point, defScope sneed_point, [], []⟩
def dneed_place : He.DefD := ⟨("need_place", none), "need_place", "need_place", defArgs sneed_place, defBody sneed_place, defScope sneed_place, [], []⟩
def dis_point : He.DefD := ⟨("is_point", none), "is_point", "is_point", defArgs sis_point, defBody sis_point, defScope sis_point, [], []⟩
def dsigns_at : He.DefD := ⟨("signs_at", none), "signs_at", "signs_at", defArgs ssigns_at, defBody ssigns_at, defScope ssigns_at, [], []⟩
def dvalue_at : He.DefD := ⟨("value_at", none), "value_at", "value_at", defArgs svalue_at, defBody svalue_at, defScope svalue_at, [], []⟩
def dhalf_way : He.DefD := ⟨("half_way", none), "half_way", "half_way", defArgs shalf_way, defBody shalf_way, defScope shalf_way, [], []⟩
def d_law_row : He.DefD := ⟨("_law_row", none), "_law_row", "_law_row", defArgs s_law_row, defBody s_law_row, defScope s_law_row, [], []⟩
def d_law_drawn_set : He.DefD := ⟨("_law_drawn_set", none), "_law_drawn_set", "_law_drawn_set", defArgs s_law_drawn_set, defBody s_law_drawn_set, defScope s_law_drawn_set, [], []⟩
def d_law_some_point : He.DefD := ⟨("_law_some_point", none), "_law_some_point", "_law_some_point", defArgs s_law_some_point, defBody s_law_some_point, defScope s_law_some_point, [], []⟩
def d_law_no_set : He.DefD := ⟨("_law_no_set", none), "_law_no_set", "_law_no_set", defArgs s_law_no_set, defBody s_law_no_set, defScope s_law_no_set, [], []⟩
def d_law_near_point : He.DefD := ⟨("_law_near_point", none), "_law_near_point", "_law_near_point", defArgs s_law_near_point, defBody s_law_near_point, defScope s_law_near_point, [], []⟩
def d_law_told : He.DefD := ⟨("_law_told", none), "_law_told", "_law_told", defArgs s_law_told, defBody s_law_told, defScope s_law_told, [], []⟩
def d_law_right : He.DefD := ⟨("_law_right", none), "_law_right", "_law_right", defArgs s_law_right, defBody s_law_right, defScope s_law_right, [], []⟩
def d_law_begun : He.DefD := ⟨("_law_begun", none), "_law_begun", "_law_begun", defArgs s_law_begun, defBody s_law_begun, defScope s_law_begun, [], []⟩
def d_law_mixed : He.DefD := ⟨("_law_mixed", none), "_law_mixed", "_law_mixed", defArgs s_law_mixed, defBody s_law_mixed, defScope s_law_mixed, [], []⟩
def d_law_take : He.DefD := ⟨("_law_take", none), "_law_take", "_law_take", defArgs s_law_take, defBody s_law_take, defScope s_law_take, [], []⟩
def d_law_pick : He.DefD := ⟨("_law_pick", none), "_law_pick", "_law_pick", defArgs s_law_pick, defBody s_law_pick, defScope s_law_pick, [], []⟩
def d_law_caught : He.DefD := ⟨("_law_caught", none), "_law_caught", "_law_caught", defArgs s_caught, defBody s_caught, defScope s_caught, [], []⟩
def dlaw : He.DefD := ⟨("law", none), "law", "law", defArgs slaw, defBody slaw, defScope slaw, [], []⟩
def d_init : He.DefD := ⟨("Walls", some "__init__"), "__init__", "Walls.__init__", defArgs s_init, defBody s_init, defScope s_init, [], []⟩
def fn11 : List He.DefD := [dis_number, dis_between, dis_list, dis_tuple, dis_row, dis_same_row, dcommon_part, dis_set, drow_times, dis_over_row, dfraction_told, dpoint_told, dsign_of, dpoint_signs, dvalue_told, d_law_says, d_law_is_number, d_law_is_row, d_law_common, d_law_times, d_law_sign, d_law_first, d_law_least, d_law_point, d_law_value, d_law_at, d_law_is_point, d_law_on_row, d_law_fraction, d_law_half, d_law_between, dneed_between, dneed_set, dneed_point, dneed_place, dis_point, dsigns_at, dvalue_at, dhalf_way, d_law_row, d_law_drawn_set, d_law_some_point, d_law_no_set, d_law_near_point, d_law_told, d_law_right, d_law_begun, d_law_mixed, d_law_take, d_law_pick, d_law_caught, dlaw, d_init]
def fa11 : List He.Fa := [.glo "is_number", .glo "is_between", .glo "is_list", .glo "is_tuple", .glo "is_row", .glo "is_same_row", .glo "common_part", .glo "is_set", .glo "row_times", .glo "is_over_row", .glo "fraction_told", .glo "point_told", .glo "sign_of", .glo "point_signs", .glo "value_told", .glo "_law_says", .glo "_law_is_number", .glo "_law_is_row", .glo "_law_common", .glo "_law_times", .glo "_law_sign", .glo "_law_first", .glo "_law_least", .glo "_law_point", .glo "_law_value", .glo "_law_at", .glo "_law_is_point", .glo "_law_on_row", .glo "_law_fraction", .glo "_law_half", .glo "_law_between", .glo "need_between", .glo "need_set", .glo "need_point", .glo "need_place", .glo "is_point", .glo "signs_at", .glo "value_at", .glo "half_way", .glo "_law_row", .glo "_law_drawn_set", .glo "_law_some_point", .glo "_law_no_set", .glo "_law_near_point", .glo "_law_told", .glo "_law_right", .glo "_law_begun", .glo "_law_mixed", .glo "_law_take", .glo "_law_pick", .glo "_law_caught", .glo "law", .glo "Walls", .glo "WallError", .glo "BadNumber", .glo "BadSigns", .glo "BadRoom", .glo "BadPoint", .glo "BadForm", .glo "NotNear", .glo "BadFace", .glo "BadWay", .glo "NotFull", .glo "BadWalls", .free "len", .free "abs", .free "int", .free "list", .free "tuple", .free "all", .free "any", .free "sum", .free "max", .free "min", .free "range", .free "enumerate", .free "zip", .free "isinstance", .free "bool", .free "str", .free "repr", .free "sorted", .cls "Walls", .noat "Walls" "size", .noat "Walls" "rows", .mkr "Walls", .exm "BadNumber" "WallError" true, .exm "BadSigns" "WallError" true, .exm "BadRoom" "WallError" true, .exm "BadPoint" "WallError" true, .exm "BadForm" "WallError" true, .exm "NotNear" "WallError" true, .exm "BadFace" "WallError" true, .exm "BadWay" "WallError" true, .exm "NotFull" "WallError" true, .exm "BadWalls" "WallError" true]
def tf11 : List He.Defn := [("law", none), ("_law_right", none)]
def ds11 : List InitD := [⟨"BadNumber", "BadNumber.__init__", s_bn⟩, ⟨"BadWalls", "BadWalls.__init__", s_bw⟩]
abbrev R11 : PySem.W.OpenRow := PySem.W.OpenLaw.row PySem.Challenge.rw_wallscut_k11_whole_points_and_signs
def xsK (K : PySem.W.Frag) : List Addr := xNames.map fun n => He.ga K n
def ex11 (K : PySem.W.Frag) : Bool := isTB K (He.ga K "Walls") (xsK K) && (inCB K (He.ga K "Walls") && ((xsK K).all (fun C => excCB K C) && (supB R11.prog K (He.ga K "BadNumber") && (supB R11.prog K (He.ga K "BadWalls") && (xfB K (He.ga K "BadNumber") && (xfB K (He.ga K "BadWalls") &&
  (r0B K (He.ga K "BadPoint") && (decide (xsK K).Nodup && (decide (PySem.W.nsIn K mainGlobals "gcd" = some (some (.builtin "math.gcd"))) && decide ((He.cT K ("law", none)).2 ≠ (He.cT K ("_law_right", none)).2))))))))))
abbrev hk11 : PySem.W.Hook := hookY 5 fa11 fn11 ds11 tf11 ex11
def ob11 (s : PySem.W.SharedT) : AlY := obsY 5 fa11 fn11 ds11 tf11 ex11 (HandSHeadRun.getT s)
theorem ob11_eq (s : PySem.W.SharedT) : ob11 s = hk11.obs s.abs := obsY_eq (HandSHeadRun.getT_eq s)
def nms11_0 : List Str := ["WallError", "BadNumber", "BadSigns", "BadRoom", "BadPoint", "BadForm", "NotNear", "BadFace", "BadWay", "NotFull", "BadWalls", "is_number"]
def nms11_1 : List Str := ["is_between", "is_list", "is_tuple", "need_between", "is_row", "is_same_row", "common_part", "Walls", "is_set", "need_set", "row_times", "is_over_row"]
def nms11_2 : List Str := ["fraction_told", "point_told", "sign_of", "point_signs", "need_point", "is_point", "signs_at", "value_told", "need_place", "value_at", "half_way", "_law_begun"]
def nms11_3 : List Str := ["_law_mixed", "_law_take", "_law_pick", "_law_caught", "_law_says", "_law_is_number", "_law_is_row", "_law_common", "_law_times", "_law_sign", "_law_first", "_law_least"]
def nms11_4 : List Str := ["_law_point", "_law_row", "_law_drawn_set", "_law_value", "_law_at", "_law_told", "_law_some_point", "_law_no_set", "_law_is_point", "_law_on_row", "_law_near_point", "_law_fraction"]
def nms11_5 : List Str := ["_law_half", "_law_between", "_law_right"]
def nms11 : List Str := nms11_0 ++ nms11_1 ++ nms11_2 ++ nms11_3 ++ nms11_4 ++ nms11_5
theorem run_head11 (w : World) : HandSHeadRun.RunEqI R11 (PySem.W.view R11.prog [0, 72]) hk11 ob11 20000 nms11 w := by
  unfold HandSHeadRun.RunEqI
  kernel_rfl
end Sh
end Part_E11h

section Part_E11a
set_option maxRecDepth 100000
set_option maxHeartbeats 4000000
namespace Sh
open PySem L2
/-- what the head says of the classes -/
structure Xok (P : Program) (K : PySem.W.Frag) (mg : Str → Option Value) (Z : Zc) : Prop where
  own : Own1 K Z.WC (XS Z)
  ist : IsT K Z.WC (XS Z)
  mW : mg "Walls" = some (.ref Z.WC)
  mx : ∀ n ∈ xNames, mg n = some (.ref (Z.xa n))
  fsize : Cls K Z.WC ∧ NoAttr K Z.WC "size"
  frows : Cls K Z.WC ∧ NoAttr K Z.WC "rows"
  pt : ∀ C ∈ XP Z, XfC K C ∧ PySem.W.findIn K (.ref C) "part" = some none
  gcd : mg "gcd" = some (.builtin "math.gcd")
  ct : CtF K mg s_caught (XS Z)
  sBadNumber : SupT s_bn
  rBadNumber : ∃ fI fd, SupX P K mg (Z.xa "BadNumber") s_bn fI fd
  sBadWalls : SupT s_bw
  rBadWalls : ∃ fI fd, SupX P K mg (Z.xa "BadWalls") s_bw fI fd
  r0 : ∀ n ∈ (["BadPoint"] : List Str), R0 K (Z.xa n)
section
variable {X : Cx} {pos : Pos} {e : Expr} {m : Ex} {Z : Zc}
theorem ok_fldZ {f : Str} (h : Cls X.K Z.WC ∧ NoAttr X.K Z.WC f) (he : OkE X e m) (hb : attributeBase e f X.env (eval e X.env) = eval e X.env := by rfl) : OkE X (.Attribute e f pos) (eFld Z f m) := ok_fld f h.1 h.2 he hb
theorem ok_partZ (F : Xok X.prog X.K X.mg Z) (he : OkE X e m) (hb : attributeBase e "part" X.env (eval e X.env) = eval e X.env := by rfl) : OkE X (.Attribute e "part" pos) (ePart Z m) := ok_part F.pt he hb
theorem ok_isWZ {p q : Pos} (F : Xok X.prog X.K X.mg Z) (hm : X.mg "isinstance" = none) (he : OkE X e m) (hg : Gl X "isinstance" := by rfl) (hgx : Gl X "Walls" := by rfl)
    (h1 : starEach (e :: [.Name "Walls" q]) X.env = (false, eval e X.env) :: starEach [.Name "Walls" q] X.env := by rfl) (h2 : starEach (.Name "Walls" q :: []) X.env = (false, eval (.Name "Walls" q) X.env) :: starEach [] X.env := by rfl) (hpl : (backTo pos (starEach [.Name "Walls" q] X.env)).any (·.1) = false := by rfl) :
    OkE X (.Call (.Name "isinstance" p) [e, .Name "Walls" q] [] pos) (eIsW Z m) := ok_isW F.own F.ist hm F.mW he hg hgx (by decide) h1 h2 hpl
theorem ok_isXZ {p q : Pos} (n : Str) (F : Xok X.prog X.K X.mg Z) (hm : X.mg "isinstance" = none) (hn : n ∈ xNames) (he : OkE X e m) (hg : Gl X "isinstance" := by rfl) (hgx : Gl X n := by rfl) (hdx : (n == ("__debug__" : Str)) = false := by decide)
    (h1 : starEach (e :: [.Name n q]) X.env = (false, eval e X.env) :: starEach [.Name n q] X.env := by rfl) (h2 : starEach (.Name n q :: []) X.env = (false, eval (.Name n q) X.env) :: starEach [] X.env := by rfl) (hpl : (backTo pos (starEach [.Name n q] X.env)).any (·.1) = false := by rfl) :
    OkE X (.Call (.Name "isinstance" p) [e, .Name n q] [] pos) (eIsX Z n m) := ok_isX (Z.xa n) F.own F.ist (List.mem_map.mpr ⟨n, hn, rfl⟩) hm (F.mx n hn) he hg hgx hdx h1 h2 hpl
end
section
variable {P : Program} {w : World} {K : PySem.W.Frag} {mg : Str → Option Value} {base : Heap} {Z : Zc}
/-! ### is_number -/
theorem scis_number : FnScope ["thing"] ["thing"] (defScope sis_number) := ⟨rfl, rfl, rfl, by decide +kernel, rfl, by decide +kernel, by decide +kernel⟩
def mis_number (Z : Zc) : Sx := (sRet (eAnd (eIsi "int" (eVar 0)) (eNot (eIsi "bool" (eVar 0)))))
def Fis_number (Z : Zc) : List D → Option D := fnD 1 1 (mis_number Z)
theorem okis_number {f : Addr} {fd : FuncData} (F : L2.Fun K "is_number" "is_number" sis_number f fd) (T : Bt mg) (X : Xok P K mg Z)  : FnOk P w K mg base CX0 1 f fd ["thing"] (spF K (Fis_number Z)) :=
  fn_ok (m := mis_number Z) F scis_number fun cdv A outer s H E hr => (ok_bOne (ok_ret (ok_andE (ok_isi "int" T.isinstance T.int (by decide +kernel) (ok_var 0)) (ok_one (ok_notE (ok_isi "bool" T.isinstance T.bool (by decide +kernel) (ok_var 0)))))))
theorem clis_number {f : Addr} {fd : FuncData} (F : L2.Fun K "is_number" "is_number" sis_number f fd) (hm : mg "is_number" = some (.ref f)) (T : Bt mg) (X : Xok P K mg Z)  : Cl P w K mg base 1 "is_number" (Fis_number Z) :=
  ⟨f, fd, ["thing"], okis_number F T X , hm, F.kp, F.binds fun _ _ _ _ _ _ us hl => match us, hl with | [_], _ => rfl⟩
/-! ### is_between -/
theorem scis_between : FnScope ["thing", "low", "high"] ["thing", "low", "high"] (defScope sis_between) := ⟨rfl, rfl, rfl, by decide +kernel, rfl, by decide +kernel, by decide +kernel⟩
def mis_between (Z : Zc) : Sx := (sRet (eAnd (eCB (Fis_number Z) (aCons (eVar 0) aNil)) (eChain (sCmp fLe) (sCmp fLe) (eVar 1) (eVar 0) (eVar 2))))
def Fis_between (Z : Zc) : List D → Option D := fnD 3 3 (mis_between Z)
theorem okis_between {f : Addr} {fd : FuncData} (F : L2.Fun K "is_between" "is_between" sis_between f fd) (T : Bt mg) (X : Xok P K mg Z) (Cis_number : Cl P w K mg base 1 "is_number" (Fis_number Z)) : FnOk P w K mg base CX0 2 f fd ["thing", "low", "high"] (spF K (Fis_between Z)) :=
  fn_ok (m := mis_between Z) F scis_between fun cdv A outer s H E hr => (ok_bOne (ok_ret (ok_andE (ok_cl Cis_number hr (by decide) (ok_cons (ok_var 0) ok_nil)) (ok_one (ok_chain op_le sem_cmp op_le sem_cmp (ok_var 1) (ok_var 0) (ok_var 2))))))
theorem clis_between {f : Addr} {fd : FuncData} (F : L2.Fun K "is_between" "is_between" sis_between f fd) (hm : mg "is_between" = some (.ref f)) (T : Bt mg) (X : Xok P K mg Z) (Cis_number : Cl P w K mg base 1 "is_number" (Fis_number Z)) : Cl P w K mg base 2 "is_between" (Fis_between Z) :=
  ⟨f, fd, ["thing", "low", "high"], okis_between F T X Cis_number, hm, F.kp, F.binds fun _ _ _ _ _ _ us hl => match us, hl with | [_, _, _], _ => rfl⟩
/-! ### is_list -/
theorem scis_list : FnScope ["thing"] ["thing"] (defScope sis_list) := ⟨rfl, rfl, rfl, by decide +kernel, rfl, by decide +kernel, by decide +kernel⟩
def mis_list (Z : Zc) : Sx := (sRet (eIsi2 "list" "tuple" (eVar 0)))
def Fis_list (Z : Zc) : List D → Option D := fnD 1 1 (mis_list Z)
theorem okis_list {f : Addr} {fd : FuncData} (F : L2.Fun K "is_list" "is_list" sis_list f fd) (T : Bt mg) (X : Xok P K mg Z)  : FnOk P w K mg base CX0 1 f fd ["thing"] (spF K (Fis_list Z)) :=
  fn_ok (m := mis_list Z) F scis_list fun cdv A outer s H E hr => (ok_bOne (ok_ret (ok_isi2 "list" "tuple" T.isinstance T.list (by decide +kernel) T.tuple (by decide +kernel) (ok_var 0))))
theorem clis_list {f : Addr} {fd : FuncData} (F : L2.Fun K "is_list" "is_list" sis_list f fd) (hm : mg "is_list" = some (.ref f)) (T : Bt mg) (X : Xok P K mg Z)  : Cl P w K mg base 1 "is_list" (Fis_list Z) :=
  ⟨f, fd, ["thing"], okis_list F T X , hm, F.kp, F.binds fun _ _ _ _ _ _ us hl => match us, hl with | [_], _ => rfl⟩
/-! ### is_tuple -/
theorem scis_tuple : FnScope ["thing", "size"] ["thing", "size"] (defScope sis_tuple) := ⟨rfl, rfl, rfl, by decide +kernel, rfl, by decide +kernel, by decide +kernel⟩
def mis_tuple (Z : Zc) : Sx := (sRet (eAnd (eIsi "tuple" (eVar 0)) (eBin sEq (eCB cLen (aCons (eVar 0) aNil)) (ePk 1))))
def Fis_tuple (Z : Zc) : List D → Option D := fnD 2 2 (mis_tuple Z)
theorem okis_tuple {f : Addr} {fd : FuncData} (F : L2.Fun K "is_tuple" "is_tuple" sis_tuple f fd) (T : Bt mg) (X : Xok P K mg Z)  : FnOk P w K mg base CX0 1 f fd ["thing", "size"] (spF K (Fis_tuple Z)) :=
  fn_ok (m := mis_tuple Z) F scis_tuple fun cdv A outer s H E hr => (ok_bOne (ok_ret (ok_andE (ok_isi "tuple" T.isinstance T.tuple (by decide +kernel) (ok_var 0)) (ok_one (ok_eq hr.units (OkE.p (ok_len T.len (ok_cons (ok_var 0) ok_nil))) (ok_pk 1))))))
theorem clis_tuple {f : Addr} {fd : FuncData} (F : L2.Fun K "is_tuple" "is_tuple" sis_tuple f fd) (hm : mg "is_tuple" = some (.ref f)) (T : Bt mg) (X : Xok P K mg Z)  : Cl P w K mg base 1 "is_tuple" (Fis_tuple Z) :=
  ⟨f, fd, ["thing", "size"], okis_tuple F T X , hm, F.kp, F.binds fun _ _ _ _ _ _ us hl => match us, hl with | [_, _], _ => rfl⟩
/-! ### is_row -/
theorem scis_row : FnScope ["size", "thing", "number"] ["size", "thing"] (defScope sis_row) := ⟨rfl, rfl, rfl, by decide +kernel, rfl, by decide +kernel, by decide +kernel⟩
def mis_row (Z : Zc) : Sx := (sSeq (sIf (bOr (bNot (bOf (eCB (Fis_tuple Z) (aCons (eVar 1) (aCons (eBin sAddA (eVar 0) (eC (.int 1))) aNil))))) (bNot (bOf (eCB cAll (aCons (eComp (wItems (eVar 1)) [2] (gV 2) bYes (eCB (Fis_number Z) (aCons (eVar 2) aNil))) aNil))))) (sRet (eC (.bl false))) sNil) (sRet (eCB cAny (aCons (eComp (wItems (eSl (eVar 1) oNone (oSome (eNeg (eC (.int 1)))))) [2] (gV 2) bYes (eBin sNe (ePk 2) (eC (.int 0)))) aNil))))
def Fis_row (Z : Zc) : List D → Option D := fnD 2 3 (mis_row Z)
theorem okis_row {f : Addr} {fd : FuncData} (F : L2.Fun K "is_row" "is_row" sis_row f fd) (T : Bt mg) (X : Xok P K mg Z) (Cis_number : Cl P w K mg base 1 "is_number" (Fis_number Z)) (Cis_tuple : Cl P w K mg base 1 "is_tuple" (Fis_tuple Z)) : FnOk P w K mg base CX0 2 f fd ["size", "thing"] (spF K (Fis_row Z)) :=
  fn_ok (m := mis_row Z) F scis_row fun cdv A outer s H E hr => (ok_bCons (ok_if (OkW.t (ok_orT (ok_notT (ok_test (ok_cl Cis_tuple hr (by decide) (ok_cons (ok_var 1) (ok_cons (ok_addA (ok_var 0) ok_int) ok_nil))))) (ok_or1 (ok_notT (ok_test (ok_all rfl T.all (ok_cons (ok_comp (own := [("number", 2)]) rfl scis_row.nd (ok_wItems (ok_var 1)) (by kernel_rfl) (fun _ _ _ _ _ => (ok_gV 2 scis_row.nd)) (fun _ _ _ _ _ => ok_tsNil) (fun _ _ _ _ _ => (ok_cl Cis_number hr (by decide) (ok_cons (ok_var 2) ok_nil)))) ok_nil))))))) (ok_bOne (ok_ret ok_bl)) ok_bNil) (ok_bOne (ok_ret (ok_any rfl T.any (ok_cons (ok_comp (own := [("number", 2)]) rfl scis_row.nd (ok_wItems (ok_sl (ok_var 1) ok_oN (ok_oS (ok_neg ok_int)))) (by kernel_rfl) (fun _ _ _ _ _ => (ok_gV 2 scis_row.nd)) (fun _ _ _ _ _ => ok_tsNil) (fun _ _ _ _ _ => (ok_ne hr.units (ok_pk 2) (OkE.p ok_int)))) ok_nil)))))
theorem clis_row {f : Addr} {fd : FuncData} (F : L2.Fun K "is_row" "is_row" sis_row f fd) (hm : mg "is_row" = some (.ref f)) (T : Bt mg) (X : Xok P K mg Z) (Cis_number : Cl P w K mg base 1 "is_number" (Fis_number Z)) (Cis_tuple : Cl P w K mg base 1 "is_tuple" (Fis_tuple Z)) : Cl P w K mg base 2 "is_row" (Fis_row Z) :=
  ⟨f, fd, ["size", "thing"], okis_row F T X Cis_number Cis_tuple, hm, F.kp, F.binds fun _ _ _ _ _ _ us hl => match us, hl with | [_, _], _ => rfl⟩
/-! ### is_same_row -/
theorem scis_same_row : FnScope ["one", "other", "spots", "here", "there"] ["one", "other"] (defScope sis_same_row) := ⟨rfl, rfl, rfl, by decide +kernel, rfl, by decide +kernel, by decide +kernel⟩
def mis_same_row (Z : Zc) : Sx := (sSeq (sSet 2 (eCB cRange (aCons (eCB cLen (aCons (eVar 0) aNil)) aNil))) (sRet (eCB cAll (aCons (eComp2 (wRng (eVar 2)) [3, 4] [4] (gV 3) (wRng (eVar 2)) (gV 4) (eBin sEq (eBin sMulA (eIdxV 0 (eVar 3)) (eIdxV 1 (eVar 4))) (eBin sMulA (eIdxV 0 (eVar 4)) (eIdxV 1 (eVar 3))))) aNil))))
def Fis_same_row (Z : Zc) : List D → Option D := fnD 2 5 (mis_same_row Z)
theorem okis_same_row {f : Addr} {fd : FuncData} (F : L2.Fun K "is_same_row" "is_same_row" sis_same_row f fd) (T : Bt mg) (X : Xok P K mg Z)  : FnOk P w K mg base CX0 1 f fd ["one", "other"] (spF K (Fis_same_row Z)) :=
  fn_ok (m := mis_same_row Z) F scis_same_row fun cdv A outer s H E hr => (ok_bCons (ok_set 2 scis_same_row.nd (ok_rangeV T.range (ok_cons (ok_len T.len (ok_cons (ok_var 0) ok_nil)) ok_nil))) (ok_bOne (ok_ret (ok_all rfl T.all (ok_cons (ok_comp2 (own := [("here", 3), ("there", 4)]) (vs1 := [4]) rfl scis_same_row.nd (ok_wRng (ok_var 2)) (by kernel_rfl) (by decide) (fun _ _ _ _ _ => (ok_gV 3 scis_same_row.nd)) (fun _ _ _ _ _ => (ok_wRng (ok_var 2))) (fun _ _ _ _ _ => (ok_gV 4 scis_same_row.nd)) (fun _ _ _ _ _ => (ok_eq hr.units (OkE.p (ok_mulA (ok_idxV 0 (ok_var 3)) (ok_idxV 1 (ok_var 4)))) (OkE.p (ok_mulA (ok_idxV 0 (ok_var 4)) (ok_idxV 1 (ok_var 3))))))) ok_nil)))))
theorem clis_same_row {f : Addr} {fd : FuncData} (F : L2.Fun K "is_same_row" "is_same_row" sis_same_row f fd) (hm : mg "is_same_row" = some (.ref f)) (T : Bt mg) (X : Xok P K mg Z)  : Cl P w K mg base 1 "is_same_row" (Fis_same_row Z) :=
  ⟨f, fd, ["one", "other"], okis_same_row F T X , hm, F.kp, F.binds fun _ _ _ _ _ _ us hl => match us, hl with | [_, _], _ => rfl⟩
/-! ### common_part -/
theorem sccommon_part : FnScope ["numbers", "found", "number"] ["numbers"] (defScope scommon_part) := ⟨rfl, rfl, rfl, by decide +kernel, rfl, by decide +kernel, by decide +kernel⟩
def mcommon_part (Z : Zc) : Sx := (sSeq (sSet 1 (eC (.int 0))) (sSeq (sFor (wItems (eVar 0)) (gV 2) (sSet 1 (eCB cGcd (aCons (eVar 1) (aCons (eVar 2) aNil))))) (sRet (eVar 1))))
def Fcommon_part (Z : Zc) : List D → Option D := fnD 1 3 (mcommon_part Z)
theorem okcommon_part {f : Addr} {fd : FuncData} (F : L2.Fun K "common_part" "common_part" scommon_part f fd) (T : Bt mg) (X : Xok P K mg Z)  : FnOk P w K mg base CX0 1 f fd ["numbers"] (spF K (Fcommon_part Z)) :=
  fn_ok (m := mcommon_part Z) F sccommon_part fun cdv A outer s H E hr => (ok_bCons (ok_set 1 sccommon_part.nd ok_int) (ok_bCons (ok_for (vs := [2]) PassesOwn.never rfl (ok_wItems (ok_var 0)) (ok_gV 2 sccommon_part.nd) (ok_bOne (ok_set 1 sccommon_part.nd (ok_gcd X.gcd (ok_cons (ok_var 1) (ok_cons (ok_var 2) ok_nil)))))) (ok_bOne (ok_ret (ok_var 1)))))
theorem clcommon_part {f : Addr} {fd : FuncData} (F : L2.Fun K "common_part" "common_part" scommon_part f fd) (hm : mg "common_part" = some (.ref f)) (T : Bt mg) (X : Xok P K mg Z)  : Cl P w K mg base 1 "common_part" (Fcommon_part Z) :=
  ⟨f, fd, ["numbers"], okcommon_part F T X , hm, F.kp, F.binds fun _ _ _ _ _ _ us hl => match us, hl with | [_], _ => rfl⟩
/-! ### is_set -/
theorem scis_set : FnScope ["thing"] ["thing"] (defScope sis_set) := ⟨rfl, rfl, rfl, by decide +kernel, rfl, by decide +kernel, by decide +kernel⟩
def mis_set (Z : Zc) : Sx := (sRet (eIsW Z (eVar 0)))
def Fis_set (Z : Zc) : List D → Option D := fnD 1 1 (mis_set Z)
theorem okis_set {f : Addr} {fd : FuncData} (F : L2.Fun K "is_set" "is_set" sis_set f fd) (T : Bt mg) (X : Xok P K mg Z)  : FnOk P w K mg base CX0 1 f fd ["thing"] (spF K (Fis_set Z)) :=
  fn_ok (m := mis_set Z) F scis_set fun cdv A outer s H E hr => (ok_bOne (ok_ret (ok_isWZ X T.isinstance (ok_var 0))))
theorem clis_set {f : Addr} {fd : FuncData} (F : L2.Fun K "is_set" "is_set" sis_set f fd) (hm : mg "is_set" = some (.ref f)) (T : Bt mg) (X : Xok P K mg Z)  : Cl P w K mg base 1 "is_set" (Fis_set Z) :=
  ⟨f, fd, ["thing"], okis_set F T X , hm, F.kp, F.binds fun _ _ _ _ _ _ us hl => match us, hl with | [_], _ => rfl⟩
/-! ### row_times -/
theorem scrow_times : FnScope ["one", "other", "here", "there"] ["one", "other"] (defScope srow_times) := ⟨rfl, rfl, rfl, by decide +kernel, rfl, by decide +kernel, by decide +kernel⟩
def mrow_times (Z : Zc) : Sx := (sRet (eCB cSum (aCons (eComp (wZip (aCons (eVar 0) (aCons (eVar 1) aNil))) [2, 3] (gT 2 (gsCons (gV 2) (gsCons (gV 3) gsNil))) bYes (eBin sMulA (eVar 2) (eVar 3))) aNil)))
def Frow_times (Z : Zc) : List D → Option D := fnD 2 4 (mrow_times Z)
theorem okrow_times {f : Addr} {fd : FuncData} (F : L2.Fun K "row_times" "row_times" srow_times f fd) (T : Bt mg) (X : Xok P K mg Z)  : FnOk P w K mg base CX0 1 f fd ["one", "other"] (spF K (Frow_times Z)) :=
  fn_ok (m := mrow_times Z) F scrow_times fun cdv A outer s H E hr => (ok_bOne (ok_ret (ok_sum rfl T.sum (ok_cons (ok_comp (own := [("here", 2), ("there", 3)]) rfl scrow_times.nd (ok_wZip T.zip (ok_cons (ok_var 0) (ok_cons (ok_var 1) ok_nil))) (by kernel_rfl) (fun _ _ _ _ _ => (ok_gT rfl (ok_gsCons (ok_gV 2 scrow_times.nd) (ok_gsCons (ok_gV 3 scrow_times.nd) ok_gsNil)))) (fun _ _ _ _ _ => ok_tsNil) (fun _ _ _ _ _ => (ok_mulA (ok_var 2) (ok_var 3)))) ok_nil))))
theorem clrow_times {f : Addr} {fd : FuncData} (F : L2.Fun K "row_times" "row_times" srow_times f fd) (hm : mg "row_times" = some (.ref f)) (T : Bt mg) (X : Xok P K mg Z)  : Cl P w K mg base 1 "row_times" (Frow_times Z) :=
  ⟨f, fd, ["one", "other"], okrow_times F T X , hm, F.kp, F.binds fun _ _ _ _ _ _ us hl => match us, hl with | [_, _], _ => rfl⟩
/-! ### is_over_row -/
theorem scis_over_row : FnScope ["size", "thing", "number"] ["size", "thing"] (defScope sis_over_row) := ⟨rfl, rfl, rfl, by decide +kernel, rfl, by decide +kernel, by decide +kernel⟩
def mis_over_row (Z : Zc) : Sx := (sSeq (sIf (bOr (bNot (bOf (eCB (Fis_tuple Z) (aCons (eVar 1) (aCons (eC (.int 2)) aNil))))) (bOr (bNot (bOf (eCB (Fis_tuple Z) (aCons (eIdxV 1 (eC (.int 0))) (aCons (eVar 0) aNil))))) (bOr (bNot (bOf (eCB (Fis_number Z) (aCons (eIdxV 1 (eC (.int 1))) aNil)))) (bBin (sCmp fLt) (eIdxV 1 (eC (.int 1))) (eC (.int 1)))))) (sRet (eC (.bl false))) sNil) (sRet (eAnd (eCB cAll (aCons (eComp (wItems (eIdxV 1 (eC (.int 0)))) [2] (gV 2) bYes (eCB (Fis_number Z) (aCons (eVar 2) aNil))) aNil)) (eBin sEq (eCB (Fcommon_part Z) (aCons (eLst (aStar (eIdxV 1 (eC (.int 0))) (aCons (eIdxV 1 (eC (.int 1))) aNil))) aNil)) (eC (.int 1))))))
def Fis_over_row (Z : Zc) : List D → Option D := fnD 2 3 (mis_over_row Z)
theorem okis_over_row {f : Addr} {fd : FuncData} (F : L2.Fun K "is_over_row" "is_over_row" sis_over_row f fd) (T : Bt mg) (X : Xok P K mg Z) (Cis_number : Cl P w K mg base 1 "is_number" (Fis_number Z)) (Cis_tuple : Cl P w K mg base 1 "is_tuple" (Fis_tuple Z)) (Ccommon_part : Cl P w K mg base 1 "common_part" (Fcommon_part Z)) : FnOk P w K mg base CX0 2 f fd ["size", "thing"] (spF K (Fis_over_row Z)) :=
  fn_ok (m := mis_over_row Z) F scis_over_row fun cdv A outer s H E hr => (ok_bCons (ok_if (OkW.t (ok_orT (ok_notT (ok_test (ok_cl Cis_tuple hr (by decide) (ok_cons (ok_var 1) (ok_cons ok_int ok_nil))))) (ok_orT (ok_notT (ok_test (ok_cl Cis_tuple hr (by decide) (ok_cons (ok_idxV 1 ok_int) (ok_cons (ok_var 0) ok_nil))))) (ok_orT (ok_notT (ok_test (ok_cl Cis_number hr (by decide) (ok_cons (ok_idxV 1 ok_int) ok_nil)))) (ok_or1 (ok_ltT (ok_idxV 1 ok_int) ok_int)))))) (ok_bOne (ok_ret ok_bl)) ok_bNil) (ok_bOne (ok_ret (ok_andE (ok_all rfl T.all (ok_cons (ok_comp (own := [("number", 2)]) rfl scis_over_row.nd (ok_wItems (ok_idxV 1 ok_int)) (by kernel_rfl) (fun _ _ _ _ _ => (ok_gV 2 scis_over_row.nd)) (fun _ _ _ _ _ => ok_tsNil) (fun _ _ _ _ _ => (ok_cl Cis_number hr (by decide) (ok_cons (ok_var 2) ok_nil)))) ok_nil)) (ok_one (ok_eq hr.units (OkE.p (ok_cl Ccommon_part hr (by decide) (ok_cons (ok_lst (ok_star (ok_idxV 1 ok_int) (ok_cons (ok_idxV 1 ok_int) ok_nil))) ok_nil))) (OkE.p ok_int)))))))
theorem clis_over_row {f : Addr} {fd : FuncData} (F : L2.Fun K "is_over_row" "is_over_row" sis_over_row f fd) (hm : mg "is_over_row" = some (.ref f)) (T : Bt mg) (X : Xok P K mg Z) (Cis_number : Cl P w K mg base 1 "is_number" (Fis_number Z)) (Cis_tuple : Cl P w K mg base 1 "is_tuple" (Fis_tuple Z)) (Ccommon_part : Cl P w K mg base 1 "common_part" (Fcommon_part Z)) : Cl P w K mg base 2 "is_over_row" (Fis_over_row Z) :=
  ⟨f, fd, ["size", "thing"], okis_over_row F T X Cis_number Cis_tuple Ccommon_part, hm, F.kp, F.binds fun _ _ _ _ _ _ us hl => match us, hl with | [_, _], _ => rfl⟩
/-! ### fraction_told -/
theorem scfraction_told : FnScope ["above", "below", "part"] ["above", "below"] (defScope sfraction_told) := ⟨rfl, rfl, rfl, by decide +kernel, rfl, by decide +kernel, by decide +kernel⟩
def mfraction_told (Z : Zc) : Sx := (sSeq (sSet 2 (eIf (bBin (sCmp fGt) (eVar 1) (eC (.int 0))) (eCB cGcd (aCons (eVar 0) (aCons (eVar 1) aNil))) (eBin (sInt fSub) (eC (.int 0)) (eCB cGcd (aCons (eVar 0) (aCons (eVar 1) aNil)))))) (sRet (eTup (aCons (eBin (sInt fFdivA) (eVar 0) (eVar 2)) (aCons (eBin (sInt fFdivA) (eVar 1) (eVar 2)) aNil)))))
def Ffraction_told (Z : Zc) : List D → Option D := fnD 2 3 (mfraction_told Z)
theorem okfraction_told {f : Addr} {fd : FuncData} (F : L2.Fun K "fraction_told" "fraction_told" sfraction_told f fd) (T : Bt mg) (X : Xok P K mg Z)  : FnOk P w K mg base CX0 1 f fd ["above", "below"] (spF K (Ffraction_told Z)) :=
  fn_ok (m := mfraction_told Z) F scfraction_told fun cdv A outer s H E hr => (ok_bCons (ok_set 2 scfraction_told.nd (ok_ifE (ok_gtT (ok_var 1) ok_int) (ok_gcd X.gcd (ok_cons (ok_var 0) (ok_cons (ok_var 1) ok_nil))) (ok_sub ok_int (ok_gcd X.gcd (ok_cons (ok_var 0) (ok_cons (ok_var 1) ok_nil)))))) (ok_bOne (ok_ret (ok_tup (ok_cons (ok_fdivA (ok_var 0) (ok_var 2)) (ok_cons (ok_fdivA (ok_var 1) (ok_var 2)) ok_nil))))))
theorem clfraction_told {f : Addr} {fd : FuncData} (F : L2.Fun K "fraction_told" "fraction_told" sfraction_told f fd) (hm : mg "fraction_told" = some (.ref f)) (T : Bt mg) (X : Xok P K mg Z)  : Cl P w K mg base 1 "fraction_told" (Ffraction_told Z) :=
  ⟨f, fd, ["above", "below"], okfraction_told F T X , hm, F.kp, F.binds fun _ _ _ _ _ _ us hl => match us, hl with | [_, _], _ => rfl⟩
/-! ### point_told -/
theorem scpoint_told : FnScope ["numbers", "below", "part", "number"] ["numbers", "below"] (defScope spoint_told) := ⟨rfl, rfl, rfl, by decide +kernel, rfl, by decide +kernel, by decide +kernel⟩
def mpoint_told (Z : Zc) : Sx := (sSeq (sSet 2 (eCB (Fcommon_part Z) (aCons (eLst (aStar (eVar 0) (aCons (eVar 1) aNil))) aNil))) (sSeq (sSet 2 (eIf (bBin (sCmp fGt) (eVar 1) (eC (.int 0))) (eVar 2) (eBin (sInt fSub) (eC (.int 0)) (eVar 2)))) (sRet (eTup (aCons (eCB cTup (aCons (eComp (wItems (eVar 0)) [3] (gV 3) bYes (eBin (sInt fFdivA) (eVar 3) (eVar 2))) aNil)) (aCons (eBin (sInt fFdivA) (eVar 1) (eVar 2)) aNil))))))
def Fpoint_told (Z : Zc) : List D → Option D := fnD 2 4 (mpoint_told Z)
theorem okpoint_told {f : Addr} {fd : FuncData} (F : L2.Fun K "point_told" "point_told" spoint_told f fd) (T : Bt mg) (X : Xok P K mg Z) (Ccommon_part : Cl P w K mg base 1 "common_part" (Fcommon_part Z)) : FnOk P w K mg base CX0 2 f fd ["numbers", "below"] (spF K (Fpoint_told Z)) :=
  fn_ok (m := mpoint_told Z) F scpoint_told fun cdv A outer s H E hr => (ok_bCons (ok_set 2 scpoint_told.nd (ok_cl Ccommon_part hr (by decide) (ok_cons (ok_lst (ok_star (ok_var 0) (ok_cons (ok_var 1) ok_nil))) ok_nil))) (ok_bCons (ok_set 2 scpoint_told.nd (ok_ifE (ok_gtT (ok_var 1) ok_int) (ok_var 2) (ok_sub ok_int (ok_var 2)))) (ok_bOne (ok_ret (ok_tup (ok_cons (ok_tuple T.tuple (ok_cons (ok_comp (own := [("number", 3)]) rfl scpoint_told.nd (ok_wItems (ok_var 0)) (by kernel_rfl) (fun _ _ _ _ _ => (ok_gV 3 scpoint_told.nd)) (fun _ _ _ _ _ => ok_tsNil) (fun _ _ _ _ _ => (ok_fdivA (ok_var 3) (ok_var 2)))) ok_nil)) (ok_cons (ok_fdivA (ok_var 1) (ok_var 2)) ok_nil)))))))
theorem clpoint_told {f : Addr} {fd : FuncData} (F : L2.Fun K "point_told" "point_told" spoint_told f fd) (hm : mg "point_told" = some (.ref f)) (T : Bt mg) (X : Xok P K mg Z) (Ccommon_part : Cl P w K mg base 1 "common_part" (Fcommon_part Z)) : Cl P w K mg base 2 "point_told" (Fpoint_told Z) :=
  ⟨f, fd, ["numbers", "below"], okpoint_told F T X Ccommon_part, hm, F.kp, F.binds fun _ _ _ _ _ _ us hl => match us, hl with | [_, _], _ => rfl⟩
/-! ### sign_of -/
theorem scsign_of : FnScope ["number"] ["number"] (defScope ssign_of) := ⟨rfl, rfl, rfl, by decide +kernel, rfl, by decide +kernel, by decide +kernel⟩
def msign_of (Z : Zc) : Sx := (sRet (eBin (sInt fSub) (eCB cInt (aCons (eBin (sCmp fGt) (eVar 0) (eC (.int 0))) aNil)) (eCB cInt (aCons (eBin (sCmp fLt) (eVar 0) (eC (.int 0))) aNil))))
def Fsign_of (Z : Zc) : List D → Option D := fnD 1 1 (msign_of Z)
theorem oksign_of {f : Addr} {fd : FuncData} (F : L2.Fun K "sign_of" "sign_of" ssign_of f fd) (T : Bt mg) (X : Xok P K mg Z)  : FnOk P w K mg base CX0 1 f fd ["number"] (spF K (Fsign_of Z)) :=
  fn_ok (m := msign_of Z) F scsign_of fun cdv A outer s H E hr => (ok_bOne (ok_ret (ok_sub (ok_intc T.int (ok_cons (ok_gt (ok_var 0) ok_int) ok_nil)) (ok_intc T.int (ok_cons (ok_lt (ok_var 0) ok_int) ok_nil)))))
theorem clsign_of {f : Addr} {fd : FuncData} (F : L2.Fun K "sign_of" "sign_of" ssign_of f fd) (hm : mg "sign_of" = some (.ref f)) (T : Bt mg) (X : Xok P K mg Z)  : Cl P w K mg base 1 "sign_of" (Fsign_of Z) :=
  ⟨f, fd, ["number"], oksign_of F T X , hm, F.kp, F.binds fun _ _ _ _ _ _ us hl => match us, hl with | [_], _ => rfl⟩
/-! ### point_signs -/
theorem scpoint_signs : FnScope ["walls", "point", "numbers", "below", "row"] ["walls", "point"] (defScope spoint_signs) := ⟨rfl, rfl, rfl, by decide +kernel, rfl, by decide +kernel, by decide +kernel⟩
def mpoint_signs (Z : Zc) : Sx := (sSeq (sAsg (eVar 1) (gT 2 (gsCons (gV 2) (gsCons (gV 3) gsNil)))) (sRet (eCB cTup (aCons (eComp (wItems (eFld Z "rows" (eVar 0))) [4] (gV 4) bYes (eCB (Fsign_of Z) (aCons (eBin (sInt fSub) (eCB (Frow_times Z) (aCons (eVar 4) (aCons (eVar 2) aNil))) (eBin sMulA (eIdxV 4 (eNeg (eC (.int 1)))) (eVar 3))) aNil))) aNil))))
def Fpoint_signs (Z : Zc) : List D → Option D := fnD 2 5 (mpoint_signs Z)
theorem okpoint_signs {f : Addr} {fd : FuncData} (F : L2.Fun K "point_signs" "point_signs" spoint_signs f fd) (T : Bt mg) (X : Xok P K mg Z) (Csign_of : Cl P w K mg base 1 "sign_of" (Fsign_of Z)) (Crow_times : Cl P w K mg base 1 "row_times" (Frow_times Z)) : FnOk P w K mg base CX0 2 f fd ["walls", "point"] (spF K (Fpoint_signs Z)) :=
  fn_ok (m := mpoint_signs Z) F scpoint_signs fun cdv A outer s H E hr => (ok_bCons (ok_asg (vs := [2, 3]) (ok_var 1) (ok_gT rfl (ok_gsCons (ok_gV 2 scpoint_signs.nd) (ok_gsCons (ok_gV 3 scpoint_signs.nd) ok_gsNil)))) (ok_bOne (ok_ret (ok_tuple T.tuple (ok_cons (ok_comp (own := [("row", 4)]) rfl scpoint_signs.nd (ok_wItems (ok_fldZ X.frows (ok_var 0))) (by kernel_rfl) (fun _ _ _ _ _ => (ok_gV 4 scpoint_signs.nd)) (fun _ _ _ _ _ => ok_tsNil) (fun _ _ _ _ _ => (ok_cl Csign_of hr (by decide) (ok_cons (ok_sub (ok_cl Crow_times hr (by decide) (ok_cons (ok_var 4) (ok_cons (ok_var 2) ok_nil))) (ok_mulA (ok_idxV 4 (ok_neg ok_int)) (ok_var 3))) ok_nil)))) ok_nil)))))
theorem clpoint_signs {f : Addr} {fd : FuncData} (F : L2.Fun K "point_signs" "point_signs" spoint_signs f fd) (hm : mg "point_signs" = some (.ref f)) (T : Bt mg) (X : Xok P K mg Z) (Csign_of : Cl P w K mg base 1 "sign_of" (Fsign_of Z)) (Crow_times : Cl P w K mg base 1 "row_times" (Frow_times Z)) : Cl P w K mg base 2 "point_signs" (Fpoint_signs Z) :=
  ⟨f, fd, ["walls", "point"], okpoint_signs F T X Csign_of Crow_times, hm, F.kp, F.binds fun _ _ _ _ _ _ us hl => match us, hl with | [_, _], _ => rfl⟩
/-! ### value_told -/
theorem scvalue_told : FnScope ["walls", "place", "point", "numbers", "below", "row"] ["walls", "place", "point"] (defScope svalue_told) := ⟨rfl, rfl, rfl, by decide +kernel, rfl, by decide +kernel, by decide +kernel⟩
def mvalue_told (Z : Zc) : Sx := (sSeq (sAsg (eVar 2) (gT 2 (gsCons (gV 3) (gsCons (gV 4) gsNil)))) (sSeq (sSet 5 (eBin sIdx (eFld Z "rows" (eVar 0)) (eVar 1))) (sRet (eCB (Ffraction_told Z) (aCons (eBin (sInt fSub) (eCB (Frow_times Z) (aCons (eVar 5) (aCons (eVar 3) aNil))) (eBin sMulA (eIdxV 5 (eNeg (eC (.int 1)))) (eVar 4))) (aCons (eVar 4) aNil))))))
def Fvalue_told (Z : Zc) : List D → Option D := fnD 3 6 (mvalue_told Z)
theorem okvalue_told {f : Addr} {fd : FuncData} (F : L2.Fun K "value_told" "value_told" svalue_told f fd) (T : Bt mg) (X : Xok P K mg Z) (Cfraction_told : Cl P w K mg base 1 "fraction_told" (Ffraction_told Z)) (Crow_times : Cl P w K mg base 1 "row_times" (Frow_times Z)) : FnOk P w K mg base CX0 2 f fd ["walls", "place", "point"] (spF K (Fvalue_told Z)) :=
  fn_ok (m := mvalue_told Z) F scvalue_told fun cdv A outer s H E hr => (ok_bCons (ok_asg (vs := [3, 4]) (ok_var 2) (ok_gT rfl (ok_gsCons (ok_gV 3 scvalue_told.nd) (ok_gsCons (ok_gV 4 scvalue_told.nd) ok_gsNil)))) (ok_bCons (ok_set 5 scvalue_told.nd (ok_idx (ok_fldZ X.frows (ok_var 0)) (ok_var 1))) (ok_bOne (ok_ret (ok_cl Cfraction_told hr (by decide) (ok_cons (ok_sub (ok_cl Crow_times hr (by decide) (ok_cons (ok_var 5) (ok_cons (ok_var 3) ok_nil))) (ok_mulA (ok_idxV 5 (ok_neg ok_int)) (ok_var 4))) (ok_cons (ok_var 4) ok_nil)))))))
theorem clvalue_told {f : Addr} {fd : FuncData} (F : L2.Fun K "value_told" "value_told" svalue_told f fd) (hm : mg "value_told" = some (.ref f)) (T : Bt mg) (X : Xok P K mg Z) (Cfraction_told : Cl P w K mg base 1 "fraction_told" (Ffraction_told Z)) (Crow_times : Cl P w K mg base 1 "row_times" (Frow_times Z)) : Cl P w K mg base 2 "value_told" (Fvalue_told Z) :=
  ⟨f, fd, ["walls", "place", "point"], okvalue_told F T X Cfraction_told Crow_times, hm, F.kp, F.binds fun _ _ _ _ _ _ us hl => match us, hl with | [_, _, _], _ => rfl⟩
/-! ### _law_says -/
theorem sc_law_says : FnScope ["found", "due"] ["found", "due"] (defScope s_law_says) := ⟨rfl, rfl, rfl, by decide +kernel, rfl, by decide +kernel, by decide +kernel⟩
def m_law_says (Z : Zc) : Sx := (sRet (eIf (bOf (eVar 1)) (eBin (sIs false) (eVar 0) (eC (.bl true))) (eBin (sIs false) (eVar 0) (eC (.bl false)))))
def F_law_says (Z : Zc) : List D → Option D := fnD 2 2 (m_law_says Z)
theorem ok_law_says {f : Addr} {fd : FuncData} (F : L2.Fun K "_law_says" "_law_says" s_law_says f fd) (T : Bt mg) (X : Xok P K mg Z)  : FnOk P w K mg base CX0 1 f fd ["found", "due"] (spF K (F_law_says Z)) :=
  fn_ok (m := m_law_says Z) F sc_law_says fun cdv A outer s H E hr => (ok_bOne (ok_ret (ok_ifE (ok_test (ok_var 1)) (ok_is (ok_var 0) ok_bl) (ok_is (ok_var 0) ok_bl))))
theorem cl_law_says {f : Addr} {fd : FuncData} (F : L2.Fun K "_law_says" "_law_says" s_law_says f fd) (hm : mg "_law_says" = some (.ref f)) (T : Bt mg) (X : Xok P K mg Z)  : Cl P w K mg base 1 "_law_says" (F_law_says Z) :=
  ⟨f, fd, ["found", "due"], ok_law_says F T X , hm, F.kp, F.binds fun _ _ _ _ _ _ us hl => match us, hl with | [_, _], _ => rfl⟩
/-! ### _law_is_number -/
theorem sc_law_is_number : FnScope ["thing"] ["thing"] (defScope s_law_is_number) := ⟨rfl, rfl, rfl, by decide +kernel, rfl, by decide +kernel, by decide +kernel⟩
def m_law_is_number (Z : Zc) : Sx := (sRet (eAnd (eIsi "int" (eVar 0)) (eNot (eIsi "bool" (eVar 0)))))
def F_law_is_number (Z : Zc) : List D → Option D := fnD 1 1 (m_law_is_number Z)
theorem ok_law_is_number {f : Addr} {fd : FuncData} (F : L2.Fun K "_law_is_number" "_law_is_number" s_law_is_number f fd) (T : Bt mg) (X : Xok P K mg Z)  : FnOk P w K mg base CX0 1 f fd ["thing"] (spF K (F_law_is_number Z)) :=
  fn_ok (m := m_law_is_number Z) F sc_law_is_number fun cdv A outer s H E hr => (ok_bOne (ok_ret (ok_andE (ok_isi "int" T.isinstance T.int (by decide +kernel) (ok_var 0)) (ok_one (ok_notE (ok_isi "bool" T.isinstance T.bool (by decide +kernel) (ok_var 0)))))))
theorem cl_law_is_number {f : Addr} {fd : FuncData} (F : L2.Fun K "_law_is_number" "_law_is_number" s_law_is_number f fd) (hm : mg "_law_is_number" = some (.ref f)) (T : Bt mg) (X : Xok P K mg Z)  : Cl P w K mg base 1 "_law_is_number" (F_law_is_number Z) :=
  ⟨f, fd, ["thing"], ok_law_is_number F T X , hm, F.kp, F.binds fun _ _ _ _ _ _ us hl => match us, hl with | [_], _ => rfl⟩
/-! ### _law_is_row -/
theorem sc_law_is_row : FnScope ["thing", "many", "number"] ["thing", "many"] (defScope s_law_is_row) := ⟨rfl, rfl, rfl, by decide +kernel, rfl, by decide +kernel, by decide +kernel⟩
def m_law_is_row (Z : Zc) : Sx := (sRet (eAnd (eIsi "tuple" (eVar 0)) (eAnd (eBin sEq (eCB cLen (aCons (eVar 0) aNil)) (ePk 1)) (eBin sEq (eComp (wItems (eVar 0)) [2] (gV 2) (bNot (bOf (eCB (F_law_is_number Z) (aCons (eVar 2) aNil)))) (eC (.int 1))) (eLst aNil)))))
def F_law_is_row (Z : Zc) : List D → Option D := fnD 2 3 (m_law_is_row Z)
theorem ok_law_is_row {f : Addr} {fd : FuncData} (F : L2.Fun K "_law_is_row" "_law_is_row" s_law_is_row f fd) (T : Bt mg) (X : Xok P K mg Z) (C_law_is_number : Cl P w K mg base 1 "_law_is_number" (F_law_is_number Z)) : FnOk P w K mg base CX0 2 f fd ["thing", "many"] (spF K (F_law_is_row Z)) :=
  fn_ok (m := m_law_is_row Z) F sc_law_is_row fun cdv A outer s H E hr => (ok_bOne (ok_ret (ok_andE (ok_isi "tuple" T.isinstance T.tuple (by decide +kernel) (ok_var 0)) (ok_andE (ok_eq hr.units (OkE.p (ok_len T.len (ok_cons (ok_var 0) ok_nil))) (ok_pk 1)) (ok_one (ok_eq hr.units (OkE.p (ok_comp (own := [("number", 2)]) rfl sc_law_is_row.nd (ok_wItems (ok_var 0)) (by kernel_rfl) (fun _ _ _ _ _ => (ok_gV 2 sc_law_is_row.nd)) (fun _ _ _ _ _ => (ok_tsOne (ok_notT (ok_test (ok_cl C_law_is_number hr (by decide) (ok_cons (ok_var 2) ok_nil)))))) (fun _ _ _ _ _ => ok_int))) (OkE.p (ok_lst ok_nil))))))))
theorem cl_law_is_row {f : Addr} {fd : FuncData} (F : L2.Fun K "_law_is_row" "_law_is_row" s_law_is_row f fd) (hm : mg "_law_is_row" = some (.ref f)) (T : Bt mg) (X : Xok P K mg Z) (C_law_is_number : Cl P w K mg base 1 "_law_is_number" (F_law_is_number Z)) : Cl P w K mg base 2 "_law_is_row" (F_law_is_row Z) :=
  ⟨f, fd, ["thing", "many"], ok_law_is_row F T X C_law_is_number, hm, F.kp, F.binds fun _ _ _ _ _ _ us hl => match us, hl with | [_, _], _ => rfl⟩
/-! ### _law_common -/
theorem sc_law_common : FnScope ["numbers", "found", "number", "one", "other"] ["numbers"] (defScope s_law_common) := ⟨rfl, rfl, rfl, by decide +kernel, rfl, by decide +kernel, by decide +kernel⟩
def m_law_common (Z : Zc) : Sx := (sSeq (sSet 1 (eC (.int 0))) (sSeq (sFor (wItems (eVar 0)) (gV 2) (sSeq (sPar 3 4 (fPl (eCB cAbs (aCons (eCB cInt (aCons (eVar 1) aNil)) aNil))) (fPl (eCB cAbs (aCons (eCB cInt (aCons (eVar 2) aNil)) aNil)))) (sSeq (sWhile 4000 (bBin sNe (ePk 4) (eC (.int 0))) (sPar 3 4 (fPl (eVar 4)) (fPl (eBin (sInt fMod) (eCB cInt (aCons (eVar 3) aNil)) (eCB cInt (aCons (eVar 4) aNil)))))) (sSet 1 (eVar 3))))) (sRet (eVar 1))))
def F_law_common (Z : Zc) : List D → Option D := fnD 1 5 (m_law_common Z)
theorem ok_law_common {f : Addr} {fd : FuncData} (F : L2.Fun K "_law_common" "_law_common" s_law_common f fd) (T : Bt mg) (X : Xok P K mg Z)  : FnOk P w K mg base CX0 1 f fd ["numbers"] (spF K (F_law_common Z)) :=
  fn_ok (m := m_law_common Z) F sc_law_common fun cdv A outer s H E hr => (ok_bCons (ok_set 1 sc_law_common.nd ok_int) (ok_bCons (ok_for (vs := [2]) PassesOwn.never rfl (ok_wItems (ok_var 0)) (ok_gV 2 sc_law_common.nd) (ok_bCons (ok_par 3 4 rfl sc_law_common.nd (OkE.f (ok_abs T.abs (ok_cons (ok_intc T.int (ok_cons (ok_var 1) ok_nil)) ok_nil))) (OkE.f (ok_abs T.abs (ok_cons (ok_intc T.int (ok_cons (ok_var 2) ok_nil)) ok_nil)))) (ok_bCons (ok_while 4000 PassesOwn.never (ok_neT hr.units (ok_pk 4) (OkE.p ok_int)) (ok_bOne (ok_par 3 4 rfl sc_law_common.nd (OkE.f (ok_var 4)) (OkE.f (ok_mod (ok_intc T.int (ok_cons (ok_var 3) ok_nil)) (ok_intc T.int (ok_cons (ok_var 4) ok_nil))))))) (ok_bOne (ok_set 1 sc_law_common.nd (ok_var 3)))))) (ok_bOne (ok_ret (ok_var 1)))))
theorem cl_law_common {f : Addr} {fd : FuncData} (F : L2.Fun K "_law_common" "_law_common" s_law_common f fd) (hm : mg "_law_common" = some (.ref f)) (T : Bt mg) (X : Xok P K mg Z)  : Cl P w K mg base 1 "_law_common" (F_law_common Z) :=
  ⟨f, fd, ["numbers"], ok_law_common F T X , hm, F.kp, F.binds fun _ _ _ _ _ _ us hl => match us, hl with | [_], _ => rfl⟩
/-! ### _law_times -/
theorem sc_law_times : FnScope ["one", "other", "here", "there"] ["one", "other"] (defScope s_law_times) := ⟨rfl, rfl, rfl, by decide +kernel, rfl, by decide +kernel, by decide +kernel⟩
def m_law_times (Z : Zc) : Sx := (sRet (eCB cSum (aCons (eComp (wZip (aCons (eVar 0) (aCons (eVar 1) aNil))) [2, 3] (gT 2 (gsCons (gV 2) (gsCons (gV 3) gsNil))) bYes (eBin sMulA (eVar 2) (eVar 3))) aNil)))
def F_law_times (Z : Zc) : List D → Option D := fnD 2 4 (m_law_times Z)
theorem ok_law_times {f : Addr} {fd : FuncData} (F : L2.Fun K "_law_times" "_law_times" s_law_times f fd) (T : Bt mg) (X : Xok P K mg Z)  : FnOk P w K mg base CX0 1 f fd ["one", "other"] (spF K (F_law_times Z)) :=
  fn_ok (m := m_law_times Z) F sc_law_times fun cdv A outer s H E hr => (ok_bOne (ok_ret (ok_sum rfl T.sum (ok_cons (ok_comp (own := [("here", 2), ("there", 3)]) rfl sc_law_times.nd (ok_wZip T.zip (ok_cons (ok_var 0) (ok_cons (ok_var 1) ok_nil))) (by kernel_rfl) (fun _ _ _ _ _ => (ok_gT rfl (ok_gsCons (ok_gV 2 sc_law_times.nd) (ok_gsCons (ok_gV 3 sc_law_times.nd) ok_gsNil)))) (fun _ _ _ _ _ => ok_tsNil) (fun _ _ _ _ _ => (ok_mulA (ok_var 2) (ok_var 3)))) ok_nil))))
theorem cl_law_times {f : Addr} {fd : FuncData} (F : L2.Fun K "_law_times" "_law_times" s_law_times f fd) (hm : mg "_law_times" = some (.ref f)) (T : Bt mg) (X : Xok P K mg Z)  : Cl P w K mg base 1 "_law_times" (F_law_times Z) :=
  ⟨f, fd, ["one", "other"], ok_law_times F T X , hm, F.kp, F.binds fun _ _ _ _ _ _ us hl => match us, hl with | [_, _], _ => rfl⟩
/-! ### _law_sign -/
theorem sc_law_sign : FnScope ["number"] ["number"] (defScope s_law_sign) := ⟨rfl, rfl, rfl, by decide +kernel, rfl, by decide +kernel, by decide +kernel⟩
def m_law_sign (Z : Zc) : Sx := (sRet (eBin (sInt fSub) (eCB cInt (aCons (eBin (sCmp fGt) (eVar 0) (eC (.int 0))) aNil)) (eCB cInt (aCons (eBin (sCmp fLt) (eVar 0) (eC (.int 0))) aNil))))
def F_law_sign (Z : Zc) : List D → Option D := fnD 1 1 (m_law_sign Z)
theorem ok_law_sign {f : Addr} {fd : FuncData} (F : L2.Fun K "_law_sign" "_law_sign" s_law_sign f fd) (T : Bt mg) (X : Xok P K mg Z)  : FnOk P w K mg base CX0 1 f fd ["number"] (spF K (F_law_sign Z)) :=
  fn_ok (m := m_law_sign Z) F sc_law_sign fun cdv A outer s H E hr => (ok_bOne (ok_ret (ok_sub (ok_intc T.int (ok_cons (ok_gt (ok_var 0) ok_int) ok_nil)) (ok_intc T.int (ok_cons (ok_lt (ok_var 0) ok_int) ok_nil)))))
theorem cl_law_sign {f : Addr} {fd : FuncData} (F : L2.Fun K "_law_sign" "_law_sign" s_law_sign f fd) (hm : mg "_law_sign" = some (.ref f)) (T : Bt mg) (X : Xok P K mg Z)  : Cl P w K mg base 1 "_law_sign" (F_law_sign Z) :=
  ⟨f, fd, ["number"], ok_law_sign F T X , hm, F.kp, F.binds fun _ _ _ _ _ _ us hl => match us, hl with | [_], _ => rfl⟩
/-! ### _law_first -/
theorem sc_law_first : FnScope ["row", "number"] ["row"] (defScope s_law_first) := ⟨rfl, rfl, rfl, by decide +kernel, rfl, by decide +kernel, by decide +kernel⟩
def m_law_first (Z : Zc) : Sx := (sSeq (sFor (wItems (eVar 0)) (gV 1) (sIf (bBin sNe (ePk 1) (eC (.int 0))) (sRet (eCB (F_law_sign Z) (aCons (eVar 1) aNil))) sNil)) (sRet (eC (.int 0))))
def F_law_first (Z : Zc) : List D → Option D := fnD 1 2 (m_law_first Z)
theorem ok_law_first {f : Addr} {fd : FuncData} (F : L2.Fun K "_law_first" "_law_first" s_law_first f fd) (T : Bt mg) (X : Xok P K mg Z) (C_law_sign : Cl P w K mg base 1 "_law_sign" (F_law_sign Z)) : FnOk P w K mg base CX0 2 f fd ["row"] (spF K (F_law_first Z)) :=
  fn_ok (m := m_law_first Z) F sc_law_first fun cdv A outer s H E hr => (ok_bCons (ok_for (vs := [1]) PassesOwn.never rfl (ok_wItems (ok_var 0)) (ok_gV 1 sc_law_first.nd) (ok_bOne (ok_if (ok_neT hr.units (ok_pk 1) (OkE.p ok_int)) (ok_bOne (ok_ret (ok_cl C_law_sign hr (by decide) (ok_cons (ok_var 1) ok_nil)))) ok_bNil))) (ok_bOne (ok_ret ok_int)))
theorem cl_law_first {f : Addr} {fd : FuncData} (F : L2.Fun K "_law_first" "_law_first" s_law_first f fd) (hm : mg "_law_first" = some (.ref f)) (T : Bt mg) (X : Xok P K mg Z) (C_law_sign : Cl P w K mg base 1 "_law_sign" (F_law_sign Z)) : Cl P w K mg base 2 "_law_first" (F_law_first Z) :=
  ⟨f, fd, ["row"], ok_law_first F T X C_law_sign, hm, F.kp, F.binds fun _ _ _ _ _ _ us hl => match us, hl with | [_], _ => rfl⟩
/-! ### _law_least -/
theorem sc_law_least : FnScope ["row", "part", "number"] ["row"] (defScope s_law_least) := ⟨rfl, rfl, rfl, by decide +kernel, rfl, by decide +kernel, by decide +kernel⟩
def m_law_least (Z : Zc) : Sx := (sSeq (sSet 1 (eBin sMulA (eCB (F_law_common Z) (aCons (eVar 0) aNil)) (eCB (F_law_first Z) (aCons (eVar 0) aNil)))) (sRet (eCB cTup (aCons (eComp (wItems (eVar 0)) [2] (gV 2) bYes (eBin (sInt fFdivA) (eVar 2) (eVar 1))) aNil))))
def F_law_least (Z : Zc) : List D → Option D := fnD 1 3 (m_law_least Z)
theorem ok_law_least {f : Addr} {fd : FuncData} (F : L2.Fun K "_law_least" "_law_least" s_law_least f fd) (T : Bt mg) (X : Xok P K mg Z) (C_law_common : Cl P w K mg base 1 "_law_common" (F_law_common Z)) (C_law_first : Cl P w K mg base 2 "_law_first" (F_law_first Z)) : FnOk P w K mg base CX0 3 f fd ["row"] (spF K (F_law_least Z)) :=
  fn_ok (m := m_law_least Z) F sc_law_least fun cdv A outer s H E hr => (ok_bCons (ok_set 1 sc_law_least.nd (ok_mulA (ok_cl C_law_common hr (by decide) (ok_cons (ok_var 0) ok_nil)) (ok_cl C_law_first hr (by decide) (ok_cons (ok_var 0) ok_nil)))) (ok_bOne (ok_ret (ok_tuple T.tuple (ok_cons (ok_comp (own := [("number", 2)]) rfl sc_law_least.nd (ok_wItems (ok_var 0)) (by kernel_rfl) (fun _ _ _ _ _ => (ok_gV 2 sc_law_least.nd)) (fun _ _ _ _ _ => ok_tsNil) (fun _ _ _ _ _ => (ok_fdivA (ok_var 2) (ok_var 1)))) ok_nil)))))
theorem cl_law_least {f : Addr} {fd : FuncData} (F : L2.Fun K "_law_least" "_law_least" s_law_least f fd) (hm : mg "_law_least" = some (.ref f)) (T : Bt mg) (X : Xok P K mg Z) (C_law_common : Cl P w K mg base 1 "_law_common" (F_law_common Z)) (C_law_first : Cl P w K mg base 2 "_law_first" (F_law_first Z)) : Cl P w K mg base 3 "_law_least" (F_law_least Z) :=
  ⟨f, fd, ["row"], ok_law_least F T X C_law_common C_law_first, hm, F.kp, F.binds fun _ _ _ _ _ _ us hl => match us, hl with | [_], _ => rfl⟩
/-! ### _law_point -/
theorem sc_law_point : FnScope ["numbers", "below", "part", "number"] ["numbers", "below"] (defScope s_law_point) := ⟨rfl, rfl, rfl, by decide +kernel, rfl, by decide +kernel, by decide +kernel⟩
def m_law_point (Z : Zc) : Sx := (sSeq (sSet 2 (eBin sMulA (eCB (F_law_common Z) (aCons (eBin sAddA (eCB cList (aCons (eVar 0) aNil)) (eLst (aCons (eVar 1) aNil))) aNil)) (eCB (F_law_sign Z) (aCons (eVar 1) aNil)))) (sRet (eTup (aCons (eCB cTup (aCons (eComp (wItems (eVar 0)) [3] (gV 3) bYes (eBin (sInt fFdivA) (eVar 3) (eVar 2))) aNil)) (aCons (eBin (sInt fFdivA) (eVar 1) (eVar 2)) aNil)))))
def F_law_point (Z : Zc) : List D → Option D := fnD 2 4 (m_law_point Z)
theorem ok_law_point {f : Addr} {fd : FuncData} (F : L2.Fun K "_law_point" "_law_point" s_law_point f fd) (T : Bt mg) (X : Xok P K mg Z) (C_law_common : Cl P w K mg base 1 "_law_common" (F_law_common Z)) (C_law_sign : Cl P w K mg base 1 "_law_sign" (F_law_sign Z)) : FnOk P w K mg base CX0 2 f fd ["numbers", "below"] (spF K (F_law_point Z)) :=
  fn_ok (m := m_law_point Z) F sc_law_point fun cdv A outer s H E hr => (ok_bCons (ok_set 2 sc_law_point.nd (ok_mulA (ok_cl C_law_common hr (by decide) (ok_cons (ok_addA (ok_list T.list (ok_cons (ok_var 0) ok_nil)) (ok_lst (ok_cons (ok_var 1) ok_nil))) ok_nil)) (ok_cl C_law_sign hr (by decide) (ok_cons (ok_var 1) ok_nil)))) (ok_bOne (ok_ret (ok_tup (ok_cons (ok_tuple T.tuple (ok_cons (ok_comp (own := [("number", 3)]) rfl sc_law_point.nd (ok_wItems (ok_var 0)) (by kernel_rfl) (fun _ _ _ _ _ => (ok_gV 3 sc_law_point.nd)) (fun _ _ _ _ _ => ok_tsNil) (fun _ _ _ _ _ => (ok_fdivA (ok_var 3) (ok_var 2)))) ok_nil)) (ok_cons (ok_fdivA (ok_var 1) (ok_var 2)) ok_nil))))))
theorem cl_law_point {f : Addr} {fd : FuncData} (F : L2.Fun K "_law_point" "_law_point" s_law_point f fd) (hm : mg "_law_point" = some (.ref f)) (T : Bt mg) (X : Xok P K mg Z) (C_law_common : Cl P w K mg base 1 "_law_common" (F_law_common Z)) (C_law_sign : Cl P w K mg base 1 "_law_sign" (F_law_sign Z)) : Cl P w K mg base 2 "_law_point" (F_law_point Z) :=
  ⟨f, fd, ["numbers", "below"], ok_law_point F T X C_law_common C_law_sign, hm, F.kp, F.binds fun _ _ _ _ _ _ us hl => match us, hl with | [_, _], _ => rfl⟩
/-! ### _law_value -/
theorem sc_law_value : FnScope ["row", "point"] ["row", "point"] (defScope s_law_value) := ⟨rfl, rfl, rfl, by decide +kernel, rfl, by decide +kernel, by decide +kernel⟩
def m_law_value (Z : Zc) : Sx := (sRet (eBin (sInt fSub) (eCB (F_law_times Z) (aCons (eVar 0) (aCons (eIdxV 1 (eC (.int 0))) aNil))) (eBin sMulA (eIdxV 0 (eNeg (eC (.int 1)))) (eIdxV 1 (eC (.int 1))))))
def F_law_value (Z : Zc) : List D → Option D := fnD 2 2 (m_law_value Z)
theorem ok_law_value {f : Addr} {fd : FuncData} (F : L2.Fun K "_law_value" "_law_value" s_law_value f fd) (T : Bt mg) (X : Xok P K mg Z) (C_law_times : Cl P w K mg base 1 "_law_times" (F_law_times Z)) : FnOk P w K mg base CX0 2 f fd ["row", "point"] (spF K (F_law_value Z)) :=
  fn_ok (m := m_law_value Z) F sc_law_value fun cdv A outer s H E hr => (ok_bOne (ok_ret (ok_sub (ok_cl C_law_times hr (by decide) (ok_cons (ok_var 0) (ok_cons (ok_idxV 1 ok_int) ok_nil))) (ok_mulA (ok_idxV 0 (ok_neg ok_int)) (ok_idxV 1 ok_int)))))
theorem cl_law_value {f : Addr} {fd : FuncData} (F : L2.Fun K "_law_value" "_law_value" s_law_value f fd) (hm : mg "_law_value" = some (.ref f)) (T : Bt mg) (X : Xok P K mg Z) (C_law_times : Cl P w K mg base 1 "_law_times" (F_law_times Z)) : Cl P w K mg base 2 "_law_value" (F_law_value Z) :=
  ⟨f, fd, ["row", "point"], ok_law_value F T X C_law_times, hm, F.kp, F.binds fun _ _ _ _ _ _ us hl => match us, hl with | [_, _], _ => rfl⟩
/-! ### _law_at -/
theorem sc_law_at : FnScope ["rows", "point", "row"] ["rows", "point"] (defScope s_law_at) := ⟨rfl, rfl, rfl, by decide +kernel, rfl, by decide +kernel, by decide +kernel⟩
def m_law_at (Z : Zc) : Sx := (sRet (eCB cTup (aCons (eComp (wItems (eVar 0)) [2] (gV 2) bYes (eCB (F_law_sign Z) (aCons (eCB (F_law_value Z) (aCons (eVar 2) (aCons (eVar 1) aNil))) aNil))) aNil)))
def F_law_at (Z : Zc) : List D → Option D := fnD 2 3 (m_law_at Z)
theorem ok_law_at {f : Addr} {fd : FuncData} (F : L2.Fun K "_law_at" "_law_at" s_law_at f fd) (T : Bt mg) (X : Xok P K mg Z) (C_law_sign : Cl P w K mg base 1 "_law_sign" (F_law_sign Z)) (C_law_value : Cl P w K mg base 2 "_law_value" (F_law_value Z)) : FnOk P w K mg base CX0 3 f fd ["rows", "point"] (spF K (F_law_at Z)) :=
  fn_ok (m := m_law_at Z) F sc_law_at fun cdv A outer s H E hr => (ok_bOne (ok_ret (ok_tuple T.tuple (ok_cons (ok_comp (own := [("row", 2)]) rfl sc_law_at.nd (ok_wItems (ok_var 0)) (by kernel_rfl) (fun _ _ _ _ _ => (ok_gV 2 sc_law_at.nd)) (fun _ _ _ _ _ => ok_tsNil) (fun _ _ _ _ _ => (ok_cl C_law_sign hr (by decide) (ok_cons (ok_cl C_law_value hr (by decide) (ok_cons (ok_var 2) (ok_cons (ok_var 1) ok_nil))) ok_nil)))) ok_nil))))
theorem cl_law_at {f : Addr} {fd : FuncData} (F : L2.Fun K "_law_at" "_law_at" s_law_at f fd) (hm : mg "_law_at" = some (.ref f)) (T : Bt mg) (X : Xok P K mg Z) (C_law_sign : Cl P w K mg base 1 "_law_sign" (F_law_sign Z)) (C_law_value : Cl P w K mg base 2 "_law_value" (F_law_value Z)) : Cl P w K mg base 3 "_law_at" (F_law_at Z) :=
  ⟨f, fd, ["rows", "point"], ok_law_at F T X C_law_sign C_law_value, hm, F.kp, F.binds fun _ _ _ _ _ _ us hl => match us, hl with | [_, _], _ => rfl⟩
/-! ### _law_is_point -/
theorem sc_law_is_point : FnScope ["size", "thing"] ["size", "thing"] (defScope s_law_is_point) := ⟨rfl, rfl, rfl, by decide +kernel, rfl, by decide +kernel, by decide +kernel⟩
def m_law_is_point (Z : Zc) : Sx := (sSeq (sIf (bOr (bNot (bOf (eIsi "tuple" (eVar 1)))) (bOr (bBin sNe (eCB cLen (aCons (eVar 1) aNil)) (eC (.int 2))) (bOr (bNot (bOf (eCB (F_law_is_row Z) (aCons (eIdxV 1 (eC (.int 0))) (aCons (eVar 0) aNil))))) (bOr (bNot (bOf (eCB (F_law_is_number Z) (aCons (eIdxV 1 (eC (.int 1))) aNil)))) (bBin (sCmp fLt) (eIdxV 1 (eC (.int 1))) (eC (.int 1))))))) (sRet (eC (.bl false))) sNil) (sRet (eBin sEq (eCB (F_law_common Z) (aCons (eBin sAddA (eCB cList (aCons (eIdxV 1 (eC (.int 0))) aNil)) (eLst (aCons (eIdxV 1 (eC (.int 1))) aNil))) aNil)) (eC (.int 1)))))
def F_law_is_point (Z : Zc) : List D → Option D := fnD 2 2 (m_law_is_point Z)
theorem ok_law_is_point {f : Addr} {fd : FuncData} (F : L2.Fun K "_law_is_point" "_law_is_point" s_law_is_point f fd) (T : Bt mg) (X : Xok P K mg Z) (C_law_is_number : Cl P w K mg base 1 "_law_is_number" (F_law_is_number Z)) (C_law_is_row : Cl P w K mg base 2 "_law_is_row" (F_law_is_row Z)) (C_law_common : Cl P w K mg base 1 "_law_common" (F_law_common Z)) : FnOk P w K mg base CX0 3 f fd ["size", "thing"] (spF K (F_law_is_point Z)) :=
  fn_ok (m := m_law_is_point Z) F sc_law_is_point fun cdv A outer s H E hr => (ok_bCons (ok_if (OkW.t (ok_orT (ok_notT (ok_test (ok_isi "tuple" T.isinstance T.tuple (by decide +kernel) (ok_var 1)))) (ok_orT (ok_neT hr.units (OkE.p (ok_len T.len (ok_cons (ok_var 1) ok_nil))) (OkE.p ok_int)) (ok_orT (ok_notT (ok_test (ok_cl C_law_is_row hr (by decide) (ok_cons (ok_idxV 1 ok_int) (ok_cons (ok_var 0) ok_nil))))) (ok_orT (ok_notT (ok_test (ok_cl C_law_is_number hr (by decide) (ok_cons (ok_idxV 1 ok_int) ok_nil)))) (ok_or1 (ok_ltT (ok_idxV 1 ok_int) ok_int))))))) (ok_bOne (ok_ret ok_bl)) ok_bNil) (ok_bOne (ok_ret (ok_eq hr.units (OkE.p (ok_cl C_law_common hr (by decide) (ok_cons (ok_addA (ok_list T.list (ok_cons (ok_idxV 1 ok_int) ok_nil)) (ok_lst (ok_cons (ok_idxV 1 ok_int) ok_nil))) ok_nil))) (OkE.p ok_int)))))
theorem cl_law_is_point {f : Addr} {fd : FuncData} (F : L2.Fun K "_law_is_point" "_law_is_point" s_law_is_point f fd) (hm : mg "_law_is_point" = some (.ref f)) (T : Bt mg) (X : Xok P K mg Z) (C_law_is_number : Cl P w K mg base 1 "_law_is_number" (F_law_is_number Z)) (C_law_is_row : Cl P w K mg base 2 "_law_is_row" (F_law_is_row Z)) (C_law_common : Cl P w K mg base 1 "_law_common" (F_law_common Z)) : Cl P w K mg base 3 "_law_is_point" (F_law_is_point Z) :=
  ⟨f, fd, ["size", "thing"], ok_law_is_point F T X C_law_is_number C_law_is_row C_law_common, hm, F.kp, F.binds fun _ _ _ _ _ _ us hl => match us, hl with | [_, _], _ => rfl⟩
/-! ### _law_on_row -/
theorem sc_law_on_row : FnScope ["row", "number"] ["row"] (defScope s_law_on_row) := ⟨rfl, rfl, rfl, by decide +kernel, rfl, by decide +kernel, by decide +kernel⟩
def m_law_on_row (Z : Zc) : Sx := (sRet (eCB (F_law_point Z) (aCons (eComp (wItems (eSl (eVar 0) oNone (oSome (eNeg (eC (.int 1)))))) [1] (gV 1) bYes (eBin sMulA (eIdxV 0 (eNeg (eC (.int 1)))) (eVar 1))) (aCons (eCB (F_law_times Z) (aCons (eSl (eVar 0) oNone (oSome (eNeg (eC (.int 1))))) (aCons (eSl (eVar 0) oNone (oSome (eNeg (eC (.int 1))))) aNil))) aNil))))
def F_law_on_row (Z : Zc) : List D → Option D := fnD 1 2 (m_law_on_row Z)
theorem ok_law_on_row {f : Addr} {fd : FuncData} (F : L2.Fun K "_law_on_row" "_law_on_row" s_law_on_row f fd) (T : Bt mg) (X : Xok P K mg Z) (C_law_point : Cl P w K mg base 2 "_law_point" (F_law_point Z)) (C_law_times : Cl P w K mg base 1 "_law_times" (F_law_times Z)) : FnOk P w K mg base CX0 3 f fd ["row"] (spF K (F_law_on_row Z)) :=
  fn_ok (m := m_law_on_row Z) F sc_law_on_row fun cdv A outer s H E hr => (ok_bOne (ok_ret (ok_cl C_law_point hr (by decide) (ok_cons (ok_comp (own := [("number", 1)]) rfl sc_law_on_row.nd (ok_wItems (ok_sl (ok_var 0) ok_oN (ok_oS (ok_neg ok_int)))) (by kernel_rfl) (fun _ _ _ _ _ => (ok_gV 1 sc_law_on_row.nd)) (fun _ _ _ _ _ => ok_tsNil) (fun _ _ _ _ _ => (ok_mulA (ok_idxV 0 (ok_neg ok_int)) (ok_var 1)))) (ok_cons (ok_cl C_law_times hr (by decide) (ok_cons (ok_sl (ok_var 0) ok_oN (ok_oS (ok_neg ok_int))) (ok_cons (ok_sl (ok_var 0) ok_oN (ok_oS (ok_neg ok_int))) ok_nil))) ok_nil)))))
theorem cl_law_on_row {f : Addr} {fd : FuncData} (F : L2.Fun K "_law_on_row" "_law_on_row" s_law_on_row f fd) (hm : mg "_law_on_row" = some (.ref f)) (T : Bt mg) (X : Xok P K mg Z) (C_law_point : Cl P w K mg base 2 "_law_point" (F_law_point Z)) (C_law_times : Cl P w K mg base 1 "_law_times" (F_law_times Z)) : Cl P w K mg base 3 "_law_on_row" (F_law_on_row Z) :=
  ⟨f, fd, ["row"], ok_law_on_row F T X C_law_point C_law_times, hm, F.kp, F.binds fun _ _ _ _ _ _ us hl => match us, hl with | [_], _ => rfl⟩
/-! ### _law_fraction -/
theorem sc_law_fraction : FnScope ["number", "below", "part"] ["number", "below"] (defScope s_law_fraction) := ⟨rfl, rfl, rfl, by decide +kernel, rfl, by decide +kernel, by decide +kernel⟩
def m_law_fraction (Z : Zc) : Sx := (sSeq (sSet 2 (eCB (F_law_common Z) (aCons (eLst (aCons (eVar 0) (aCons (eVar 1) aNil))) aNil))) (sRet (eTup (aCons (eBin (sInt fFdivA) (eVar 0) (eVar 2)) (aCons (eBin (sInt fFdivA) (eVar 1) (eVar 2)) aNil)))))
def F_law_fraction (Z : Zc) : List D → Option D := fnD 2 3 (m_law_fraction Z)
theorem ok_law_fraction {f : Addr} {fd : FuncData} (F : L2.Fun K "_law_fraction" "_law_fraction" s_law_fraction f fd) (T : Bt mg) (X : Xok P K mg Z) (C_law_common : Cl P w K mg base 1 "_law_common" (F_law_common Z)) : FnOk P w K mg base CX0 2 f fd ["number", "below"] (spF K (F_law_fraction Z)) :=
  fn_ok (m := m_law_fraction Z) F sc_law_fraction fun cdv A outer s H E hr => (ok_bCons (ok_set 2 sc_law_fraction.nd (ok_cl C_law_common hr (by decide) (ok_cons (ok_lst (ok_cons (ok_var 0) (ok_cons (ok_var 1) ok_nil))) ok_nil))) (ok_bOne (ok_ret (ok_tup (ok_cons (ok_fdivA (ok_var 0) (ok_var 2)) (ok_cons (ok_fdivA (ok_var 1) (ok_var 2)) ok_nil))))))
theorem cl_law_fraction {f : Addr} {fd : FuncData} (F : L2.Fun K "_law_fraction" "_law_fraction" s_law_fraction f fd) (hm : mg "_law_fraction" = some (.ref f)) (T : Bt mg) (X : Xok P K mg Z) (C_law_common : Cl P w K mg base 1 "_law_common" (F_law_common Z)) : Cl P w K mg base 2 "_law_fraction" (F_law_fraction Z) :=
  ⟨f, fd, ["number", "below"], ok_law_fraction F T X C_law_common, hm, F.kp, F.binds fun _ _ _ _ _ _ us hl => match us, hl with | [_, _], _ => rfl⟩
/-! ### _law_half -/
theorem sc_law_half : FnScope ["one", "other", "here", "there"] ["one", "other"] (defScope s_law_half) := ⟨rfl, rfl, rfl, by decide +kernel, rfl, by decide +kernel, by decide +kernel⟩
def m_law_half (Z : Zc) : Sx := (sRet (eCB (F_law_point Z) (aCons (eComp (wZip (aCons (eIdxV 0 (eC (.int 0))) (aCons (eIdxV 1 (eC (.int 0))) aNil))) [2, 3] (gT 2 (gsCons (gV 2) (gsCons (gV 3) gsNil))) bYes (eBin sAddA (eBin sMulA (eVar 2) (eIdxV 1 (eC (.int 1)))) (eBin sMulA (eVar 3) (eIdxV 0 (eC (.int 1)))))) (aCons (eBin sMulA (eBin sMulA (eC (.int 2)) (eIdxV 0 (eC (.int 1)))) (eIdxV 1 (eC (.int 1)))) aNil))))
def F_law_half (Z : Zc) : List D → Option D := fnD 2 4 (m_law_half Z)
theorem ok_law_half {f : Addr} {fd : FuncData} (F : L2.Fun K "_law_half" "_law_half" s_law_half f fd) (T : Bt mg) (X : Xok P K mg Z) (C_law_point : Cl P w K mg base 2 "_law_point" (F_law_point Z)) : FnOk P w K mg base CX0 3 f fd ["one", "other"] (spF K (F_law_half Z)) :=
  fn_ok (m := m_law_half Z) F sc_law_half fun cdv A outer s H E hr => (ok_bOne (ok_ret (ok_cl C_law_point hr (by decide) (ok_cons (ok_comp (own := [("here", 2), ("there", 3)]) rfl sc_law_half.nd (ok_wZip T.zip (ok_cons (ok_idxV 0 ok_int) (ok_cons (ok_idxV 1 ok_int) ok_nil))) (by kernel_rfl) (fun _ _ _ _ _ => (ok_gT rfl (ok_gsCons (ok_gV 2 sc_law_half.nd) (ok_gsCons (ok_gV 3 sc_law_half.nd) ok_gsNil)))) (fun _ _ _ _ _ => ok_tsNil) (fun _ _ _ _ _ => (ok_addA (ok_mulA (ok_var 2) (ok_idxV 1 ok_int)) (ok_mulA (ok_var 3) (ok_idxV 0 ok_int))))) (ok_cons (ok_mulA (ok_mulA ok_int (ok_idxV 0 ok_int)) (ok_idxV 1 ok_int)) ok_nil)))))
theorem cl_law_half {f : Addr} {fd : FuncData} (F : L2.Fun K "_law_half" "_law_half" s_law_half f fd) (hm : mg "_law_half" = some (.ref f)) (T : Bt mg) (X : Xok P K mg Z) (C_law_point : Cl P w K mg base 2 "_law_point" (F_law_point Z)) : Cl P w K mg base 3 "_law_half" (F_law_half Z) :=
  ⟨f, fd, ["one", "other"], ok_law_half F T X C_law_point, hm, F.kp, F.binds fun _ _ _ _ _ _ us hl => match us, hl with | [_, _], _ => rfl⟩
/-! ### _law_between -/
theorem sc_law_between : FnScope ["signs", "one", "other", "sign", "here", "there"] ["signs", "one", "other"] (defScope s_law_between) := ⟨rfl, rfl, rfl, by decide +kernel, rfl, by decide +kernel, by decide +kernel⟩
def m_law_between (Z : Zc) : Sx := (sSeq (sFor (wZip3 (aCons (eVar 0) (aCons (eVar 1) (aCons (eVar 2) aNil)))) (gT 3 (gsCons (gV 3) (gsCons (gV 4) (gsCons (gV 5) gsNil)))) (sIf (bAnd (bBin (sCmp fGe) (eBin sMulA (eVar 4) (eVar 5)) (eC (.int 0))) (bBin sNe (ePk 3) (eCB (F_law_sign Z) (aCons (eBin sAddA (eVar 4) (eVar 5)) aNil)))) (sRet (eC (.bl false))) sNil)) (sRet (eC (.bl true))))
def F_law_between (Z : Zc) : List D → Option D := fnD 3 6 (m_law_between Z)
theorem ok_law_between {f : Addr} {fd : FuncData} (F : L2.Fun K "_law_between" "_law_between" s_law_between f fd) (T : Bt mg) (X : Xok P K mg Z) (C_law_sign : Cl P w K mg base 1 "_law_sign" (F_law_sign Z)) : FnOk P w K mg base CX0 2 f fd ["signs", "one", "other"] (spF K (F_law_between Z)) :=
  fn_ok (m := m_law_between Z) F sc_law_between fun cdv A outer s H E hr => (ok_bCons (ok_for (vs := [3, 4, 5]) PassesOwn.never rfl (ok_wZip3 T.zip (ok_cons (ok_var 0) (ok_cons (ok_var 1) (ok_cons (ok_var 2) ok_nil)))) (ok_gT rfl (ok_gsCons (ok_gV 3 sc_law_between.nd) (ok_gsCons (ok_gV 4 sc_law_between.nd) (ok_gsCons (ok_gV 5 sc_law_between.nd) ok_gsNil)))) (ok_bOne (ok_if (OkW.t (ok_andT (ok_geT (ok_mulA (ok_var 4) (ok_var 5)) ok_int) (ok_and1 (ok_neT hr.units (ok_pk 3) (OkE.p (ok_cl C_law_sign hr (by decide) (ok_cons (ok_addA (ok_var 4) (ok_var 5)) ok_nil))))))) (ok_bOne (ok_ret ok_bl)) ok_bNil))) (ok_bOne (ok_ret ok_bl)))
theorem cl_law_between {f : Addr} {fd : FuncData} (F : L2.Fun K "_law_between" "_law_between" s_law_between f fd) (hm : mg "_law_between" = some (.ref f)) (T : Bt mg) (X : Xok P K mg Z) (C_law_sign : Cl P w K mg base 1 "_law_sign" (F_law_sign Z)) : Cl P w K mg base 2 "_law_between" (F_law_between Z) :=
  ⟨f, fd, ["signs", "one", "other"], ok_law_between F T X C_law_sign, hm, F.kp, F.binds fun _ _ _ _ _ _ us hl => match us, hl with | [_, _, _], _ => rfl⟩
end
end Sh
end Part_E11a

section Part_E11b
set_option maxRecDepth 100000
set_option maxHeartbeats 4000000
/-! E11b: the draws of k11 (draws.tmpl by mk11b.py). -/
namespace Sh
open PySem L2
section
variable {P : Program} {w : World} {K : PySem.W.Frag} {mg : Str → Option Value} {base : Heap}
/-! ### the draws -/
def spMixed : Sp := fun vs H Q _ => ∃ (p l c : Addr), vs = [.ref p] ∧ Dr H p l c ∧ ∀ (r : Int) (H' : Hp), Dr H' p l c → FrD p l H H' → Q (.int r) H'
theorem sc_mixed : FnScope ["draw", "turn", "found", "great", "blend", "cell"] ["draw"] (defScope s_law_mixed) := ⟨rfl, rfl, rfl, by decide +kernel, rfl, by decide +kernel, by decide +kernel⟩
theorem ok_mixed {f : Addr} {fd : FuncData} (F : L2.Fun K "_law_mixed" "_law_mixed" s_law_mixed f fd) (T : Bt mg) : FnOk P w K mg base CX0 1 f fd ["draw"] spMixed := by
  refine F.ok sc_mixed (fun vs H Q E h => ?_) (fun cdv A outer s H vs Q E hr h => ?_)
  · obtain ⟨p, l, c, rfl, _⟩ := h; rfl
  · obtain ⟨p, l, c, rfl, D, k⟩ := h
    have hu := hu_of hr
    refine ⟨_, pss_cons (ps_dput hu (pv 0) pe_str (pe_op op_add (pe_dget hu (pv 0) pe_str (fun _ _ => rfl)) pe_int) rfl)
      (pss_cons (ps_par (i := 1) (j := 2) rfl sc_mixed.nd rfl rfl (by decide) rfl rfl (pa_cons (pe_callTy call_int1 rfl T.int (by decide +kernel) (pa_cons (pe_dget hu (pv 0) pe_str (fun _ _ => rfl)) pa_nil)) (pa_cons pe_int pa_nil)) rfl)
      (pss_cons (ps_for PassesOwn.never rfl (pi_list (pe_lst (pa_cons pe_int (pa_cons pe_int (pa_cons pe_int (pa_cons pe_int pa_nil)))))) (pg_name (i := 3) sc_mixed.nd rfl (Or.inl rfl))
        (pss_cons (ps_set (i := 4) sc_mixed.nd rfl (Or.inl rfl) (pe_op op_mod (pe_op op_add (pe_op op_mul (pv 1) pe_int) (pe_op op_fdivN (pv 3) pe_int)) (pv 3)))
        (pss_cons (ps_for PassesOwn.never rfl (pi_list (pe_dget hu (pv 0) pe_str (fun _ _ => rfl))) (pg_name (i := 5) sc_mixed.nd rfl (Or.inl rfl))
          (pss_one (ps_set (i := 4) sc_mixed.nd rfl (Or.inl rfl) (pe_op op_mod (pe_op op_add (pe_op op_add (pe_op op_mul (pv 4) pe_int) (pe_callTy call_int1 rfl T.int (by decide +kernel) (pa_cons (pv 5) pa_nil))) pe_int) (pv 3)))))
        (pss_one (ps_set (i := 2) sc_mixed.nd rfl (Or.inl rfl) (pe_op op_add (pe_op op_mul (pv 2) pe_int) (pe_op op_mod (pe_op op_pow (pv 4) pe_int) (pv 3))))))))
      (pss_one (ps_ret (pv 2))))), ?_⟩
    obtain ⟨r, t, ls, cs, hp, hl, hc⟩ := D.ex
    have npl := D.pl
    have npc := D.pc
    refine ⟨.ref p, rfl, p, .int t, rfl, gTurn hp, t, 1, rfl, rfl, .ref p, rfl, p, _, rfl, pTurn hp (t + 1), ?_⟩
    refine ⟨.ref p, rfl, p, .int (t + 1), rfl, gTurn upd_same, .inl ⟨_, rfl, .int (t + 1), .int 0, rfl, ?_⟩⟩
    refine ⟨by show 4 ≤ sizeLine; decide, fun L hL => ⟨L, rfl, ⟨_, SqL.of upd_same⟩, ?_⟩⟩
    have nLp : p ≠ L := fun z => by rw [← z, upd_same] at hL; cases hL
    have hL0 : H L = none := by rw [upd_ne (Ne.symm nLp)] at hL; exact hL
    have nLl : l ≠ L := fun z => by rw [← z, hl] at hL0; cases hL0
    have nLc : c ≠ L := fun z => by rw [← z, hc] at hL0; cases hL0
    generalize hHL : upd (upd H p (.dK (kd l c r (t + 1)))) L (.lst [V.int _, V.int _, V.int _, V.int _]) = HL
    have eL : HL L = some (.lst [V.int 2147483629, V.int 2147483587, V.int 2147483579, V.int 2147483563]) := by rw [← hHL, upd_same]
    have ep : HL p = some (.dK (kd l c r (t + 1))) := by rw [← hHL, upd_ne nLp, upd_same]
    have el : HL l = some (.lst (ls.map V.int)) := by rw [← hHL, upd_ne nLl, upd_ne npl.symm]; exact hl
    have ec : HL c = some (.lst (cs.map V.int)) := by rw [← hHL, upd_ne nLc, upd_ne npc.symm]; exact hc
    refine for_list (K := K) (a := L) (xs := [V.int 2147483629, V.int 2147483587, V.int 2147483579, V.int 2147483563]) (fun i σ H' => ∃ (z : Int) (g b e : Option V), σ = [some (.ref p), some (.int (t + 1)), some (.int z), g, b, e] ∧ H' = HL)
      ⟨0, none, none, none, rfl, rfl⟩ (fun i σ H' _ ⟨_, _, _, _, _, e⟩ => by rw [e]; exact SqL.of eL) ?_ ?_
    · rintro i x σ H' hi ⟨z, g0, b0, e0, rfl, rfl⟩
      obtain ⟨g, rfl, hg1, hg2⟩ : ∃ g : Int, x = .int g ∧ 0 < g ∧ g < 4294967296 := by
        have hm := List.mem_of_getElem? hi
        simp only [List.mem_cons, List.not_mem_nil, or_false] at hm
        rcases hm with rfl | rfl | rfl | rfl <;> exact ⟨_, rfl, by decide, by decide⟩
      refine ⟨_, rfl, _, _, rfl, rfl, .inr ⟨by decide, by decide⟩, _, rfl, _, _, rfl, rfl, ⟨by decide, by decide⟩, _, _, rfl, rfl, _, rfl, _, _, rfl, rfl, hg1, ?_⟩
      refine ⟨.ref p, rfl, p, _, rfl, gCells ep, c, rfl, ⟨_, SqL.of ec⟩, ?_⟩
      refine for_list (K := K) (a := c) (xs := cs.map V.int) (fun i σ H'' => ∃ (b : Int) (e : Option V), σ = [some (.ref p), some (.int (t + 1)), some (.int z), some (.int g), some (.int b), e] ∧ H'' = H' ∧ 0 ≤ b ∧ b < g)
        ⟨_, e0, rfl, rfl, Int.emod_nonneg _ (by omega), Int.emod_lt_of_pos _ hg1⟩ (fun i σ H'' _ ⟨_, _, _, e, _⟩ => by rw [e]; exact SqL.of ec) ?_ ?_
      · rintro j y σ H'' hj ⟨b, e, rfl, rfl, hb0, hb1⟩
        obtain ⟨u, rfl⟩ : ∃ u, y = V.int u := by
          rw [List.getElem?_map] at hj
          obtain ⟨u, _, h2⟩ := Option.map_eq_some_iff.mp hj
          exact ⟨u, h2.symm⟩
        refine ⟨_, rfl, _, _, rfl, rfl, .inr ⟨by decide, by decide⟩, _, rfl, .inl ⟨_, rfl, _, _, rfl, rfl, _, _, rfl, rfl, _, rfl, _, _, rfl, rfl, hg1, ?_⟩⟩
        exact ⟨_, _, rfl, rfl, Int.emod_nonneg _ (by omega), Int.emod_lt_of_pos _ hg1⟩
      · rintro σ H'' ⟨b, e, rfl, rfl, hb0, hb1⟩
        refine ⟨_, rfl, _, _, rfl, rfl, .inr ⟨by decide, by decide⟩, _, rfl, _, _, rfl, rfl, ⟨by decide, by decide, by omega⟩, _, rfl, _, _, rfl, rfl, hg1, _, _, rfl, rfl, ?_⟩
        exact ⟨_, _, _, _, rfl, rfl⟩
    · rintro σ H' ⟨z, g0, b0, e0, rfl, rfl⟩
      refine ⟨_, rfl, k z _ ⟨⟨r, t + 1, ls, cs, ep, el, ec⟩, D.ne⟩ fun b o e h1 h2 => ?_⟩
      rw [← hHL, upd_ne (ne_of_none e hL0), upd_ne h1]
      exact e
theorem sc_take : FnScope ["draw", "amount", "found"] ["draw", "amount"] (defScope s_law_take) := ⟨rfl, rfl, rfl, by decide +kernel, rfl, by decide +kernel, by decide +kernel⟩
theorem ok_take {f fM : Addr} {fd fdM : FuncData} (F : L2.Fun K "_law_take" "_law_take" s_law_take f fd) (T : Bt mg) (FM : L2.Fun K "_law_mixed" "_law_mixed" s_law_mixed fM fdM) (mM : mg "_law_mixed" = some (.ref fM)) : FnOk P w K mg base CX0 2 f fd ["draw", "amount"] spTake := by
  have GM : FnOk P w K mg base CX0 1 fM fdM ["draw"] spMixed := ok_mixed FM T
  have bM : Binds K fdM ["draw"] [] := FM.binds fun _ _ _ _ _ _ us hl => match us, hl with | [_], _ => rfl
  refine F.ok sc_take (fun vs H Q E h => ?_) (fun cdv A outer s H vs Q E hr h => ?_)
  · obtain ⟨p, l, c, n, rfl, _⟩ := h; rfl
  · obtain ⟨p, l, c, n, rfl, D, hn, hn2, k⟩ := h
    have hu := hu_of hr
    refine ⟨tSeq _ t_take2, pss_cons (ps_if (pt_cmpR op_eq (pe_dget hu (pv 0) pe_str (fun _ _ => rfl)) pe_int (nomark _))
        (pss_one (ps_dput hu (pv 0) pe_str (pe_ifExp (pt_cmpR (op_neD hr.units) (pe_dget hu (pv 0) pe_str (fun _ _ => rfl)) (pe_lst pa_nil) (nomark _))
          (pe_bm PySem.F.plainAttrs_list PySem.F.slot_list_pop PySem.F.type_list_pop mt_popAt (pe_dget hu (pv 0) pe_str (fun _ _ => rfl)) (pa_cons pe_int pa_nil))
          (pe_call GM hr rfl mM FM.kp bM .nil pass0 (pa_cons (pv 0) pa_nil))) rfl)) pss_nil)
      (pss_cons (ps_set (i := 2) sc_take.nd rfl (Or.inl rfl) (pe_op op_mod (pe_callTy call_int1 rfl T.int (by decide +kernel) (pa_cons (pe_dget hu (pv 0) pe_str (fun _ _ => rfl)) pa_nil)) (pv 1)))
      (pss_cons (ps_dput hu (pv 0) pe_str (pe_op op_fdivA (pe_callTy call_int1 rfl T.int (by decide +kernel) (pa_cons (pe_dget hu (pv 0) pe_str (fun _ _ => rfl)) pa_nil)) (pv 1)) rfl)
      (pss_one (ps_ret (pv 2))))), ?_⟩
    obtain ⟨r, t, ls, cs, hp, hl, hc⟩ := D.ex
    have npl := D.pl
    have npc := D.pc
    refine ⟨.ref p, rfl, p, _, rfl, gRest hp, rfl, _, rfl, ?_⟩
    refine ite2 (fun _ => ?_) (fun _ => take2 hn hn2 D.ne hp hl hc FrD.refl k)
    refine ⟨.ref p, rfl, p, _, rfl, gLarge hp, by show 0 ≤ sizeLine; decide, fun e he => ?_⟩
    have fe : Same H (upd H e (.lst [])) := fun b o q => by rw [upd_ne (ne_of_none q he)]; exact q
    refine ⟨_, _, dp_ints (fe _ _ hl), .lst (SqL.of upd_same) .nil, sh_ints _, by decide, _, rfl, ?_⟩
    rw [eqv_nil]
    cases ls with
    | cons x ls =>
      refine ⟨.ref p, rfl, p, _, rfl, gLarge (fe _ _ hp), .inl ⟨rfl, _, SqL.of (fe _ _ hl)⟩, l, _, 0, 0, _, rfl, rfl, fe _ _ hl, by decide, by decide, PyProof.Rows.seqIndex?_zero (by simp), rfl, ?_⟩
      refine ⟨.ref p, rfl, p, _, rfl, pRest (by rw [upd_ne npl]; exact fe _ _ hp) x, ?_⟩
      refine take2 (ls := ls) (cs := cs) hn hn2 D.ne upd_same (by rw [upd_ne npl.symm, upd_same]; rfl) (by rw [upd_ne npc.symm, upd_ne D.ne.symm]; exact fe _ _ hc) ?_ k
      exact ((FrD.of fe).trans (FrD.put (.inr rfl))).trans (FrD.put (.inl rfl))
    | nil =>
      refine ⟨_, rfl, p, l, c, rfl, D.same fe, fun r1 H1 D1 f1 => ?_⟩
      obtain ⟨r2, t2, ls2, cs2, hp2, hl2, hc2⟩ := D1.ex
      refine ⟨.ref p, rfl, p, _, rfl, pRest hp2 r1, ?_⟩
      refine take2 (ls := ls2) (cs := cs2) hn hn2 D.ne upd_same (by rw [upd_ne npl.symm]; exact hl2) (by rw [upd_ne npc.symm]; exact hc2) ?_ k
      exact ((FrD.of fe).trans f1).trans (FrD.put (.inl rfl))
/-- the defs of the draws, as they stand -/
structure Dws (K : PySem.W.Frag) (mg : Str → Option Value) (fM fT : Addr) (fdM fdT : FuncData) : Prop where
  FM : L2.Fun K "_law_mixed" "_law_mixed" s_law_mixed fM fdM
  mM : mg "_law_mixed" = some (.ref fM)
  FT : L2.Fun K "_law_take" "_law_take" s_law_take fT fdT
  mT : mg "_law_take" = some (.ref fT)
theorem Dws.take {fM fT : Addr} {fdM fdT : FuncData} (W : Dws K mg fM fT fdM fdT) (T : Bt mg) : FnOk P w K mg base CX0 2 fT fdT ["draw", "amount"] spTake ∧ Binds K fdT ["draw", "amount"] [] :=
  ⟨ok_take W.FT T W.FM W.mM, W.FT.binds fun _ _ _ _ _ _ us hl => match us, hl with | [_, _], _ => rfl⟩
theorem sc_pick : FnScope ["draw", "some"] ["draw", "some"] (defScope s_law_pick) := ⟨rfl, rfl, rfl, by decide +kernel, rfl, by decide +kernel, by decide +kernel⟩
theorem ok_pick {f fM fT : Addr} {fd fdM fdT : FuncData} (F : L2.Fun K "_law_pick" "_law_pick" s_law_pick f fd) (T : Bt mg) (W : Dws K mg fM fT fdM fdT) : FnOk P w K mg base CX0 3 f fd ["draw", "some"] (spPick K) := by
  obtain ⟨GT, bT⟩ := W.take (P := P) (w := w) (base := base) T
  refine F.ok sc_pick (fun vs H Q E h => ?_) (fun cdv A outer s H vs Q E hr h => ?_)
  · obtain ⟨p, l, c, s, G, d, ds, rfl, _⟩ := h; rfl
  · obtain ⟨p, l, c, z, G, d, ds, rfl, D, e, hp, hl, rd, hd, hne, hlen, k⟩ := h
    refine ⟨_, pss_one (ps_ret (pe_ix (ix_list.or ix_tup) (pv 1) (pe_call GT hr rfl W.mT W.FT.kp bT .nil pass0 (pa_cons (pv 0) (pa_cons (pe_callB call_len_seq rfl T.len PySem.boot_len (pa_cons (pv 1) pa_nil)) pa_nil))) (fun _ _ => rfl))), ?_⟩
    have hpos : 0 < ds.length := List.length_pos_iff.mpr hne
    cases rd with
    | @lst a xs es h1 h2 =>
      cases hd
      refine ⟨.ref a, rfl, .ref p, rfl, .ref a, rfl, a, xs, rfl, .inl (SqL.of (e _ _ h1)), p, l, c, _, rfl, D, by rw [h2.length]; omega, by rw [h2.length]; omega, fun r H' r0 r1 D' fr => ?_⟩
      rw [h2.length] at r1
      have hi : r.toNat < ds.length := by omega
      obtain ⟨v, v1, v2⟩ := h2.get (i := r.toNat) (d := ds[r.toNat]) (by simp [hi])
      have ea : atI xs r = some v := by
        unfold atI ixN
        rw [if_pos r0, if_pos (by rw [h2.length]; omega)]
        exact v1
      exact .inl ⟨a, xs, r, v, rfl, rfl, SqL.of (fr.same e hp hl _ _ h1), ea, k r.toNat _ v H' (by simp [hi]) v2 D' fr⟩
    | @tup a xs es h1 h2 =>
      cases hd
      refine ⟨.ref a, rfl, .ref p, rfl, .ref a, rfl, a, xs, rfl, .inr (same_sqt e h1), p, l, c, _, rfl, D, by rw [h2.length]; omega, by rw [h2.length]; omega, fun r H' r0 r1 D' fr => ?_⟩
      rw [h2.length] at r1
      have hi : r.toNat < ds.length := by omega
      obtain ⟨v, v1, v2⟩ := h2.get (i := r.toNat) (d := ds[r.toNat]) (by simp [hi])
      have ea : atI xs r = some v := by
        unfold atI ixN
        rw [if_pos r0, if_pos (by rw [h2.length]; omega)]
        exact v1
      exact .inr ⟨a, xs, r, v, rfl, rfl, same_sqt (fr.same e hp hl) h1, ea, k r.toNat _ v H' (by simp [hi]) v2 D' fr⟩
    | _ => cases hd
theorem sc_begun : FnScope ["script", "large", "cell"] ["script"] (defScope s_law_begun) := ⟨rfl, rfl, rfl, by decide +kernel, rfl, by decide +kernel, by decide +kernel⟩
theorem same_upd {H : Hp} {x : Addr} {o : HO} (n : H x = none) : Same H (upd H x o) := fun b u q => by rw [upd_ne (ne_of_none q n)]; exact q
theorem upd_twice {H : Hp} {x : Addr} {o u : HO} : upd (upd H x o) x u = upd H x u := by
  funext b
  by_cases h : b = x
  · rw [h, upd_same, upd_same]
  · rw [upd_ne h, upd_ne h, upd_ne h]
theorem ok_begun {f : Addr} {fd : FuncData} (F : L2.Fun K "_law_begun" "_law_begun" s_law_begun f fd) (T : Bt mg) : FnOk P w K mg base CX0 1 f fd ["script"] (spBegun K) := by
  refine F.ok sc_begun (fun vs H Q E h => ?_) (fun cdv A outer s H vs Q E hr h => ?_)
  · obtain ⟨a, ns, rfl, _⟩ := h; rfl
  · obtain ⟨a, ns, rfl, hS, hlen, k⟩ := h
    refine ⟨_, pss_cons (ps_setLc (i := 1) (own := [("cell", 2)]) rfl sc_begun.nd rfl rfl (by exact sw_true rfl rfl rfl (by decide +kernel)) (pi_list (pv 0)) (blkOk_by (by kernel_rfl)) (fun _ _ _ _ _ => pg_name (i := 2) sc_begun.nd rfl (Or.inl rfl))
        (fun _ _ _ _ _ => pts_one (pt_cmpR op_ge (pe_callB call_abs rfl T.abs (by decide +kernel) (pa_cons (pv 2) pa_nil)) (pe_op op_pow pe_int pe_int) (nomark _))) (fun _ _ _ _ _ => pe_op op_sub (pe_callB call_abs rfl T.abs (by decide +kernel) (pa_cons (pv 2) pa_nil)) (pe_op op_pow pe_int pe_int)))
      (pss_one (ps_ret (pe_disp (pps_cons pe_str (pv 1) (pps_cons pe_str pe_int (pps_cons pe_str (pe_lc (own := [("cell", 2)]) rfl sc_begun.nd (pi_list (pv 0)) (blkOk_by (by kernel_rfl)) (fun _ _ _ _ _ => pg_name (i := 2) sc_begun.nd rfl (Or.inl rfl)) (fun _ _ _ _ _ => pts_nil)
          (fun _ _ _ _ _ => pe_callTy call_int1 rfl T.int (by decide +kernel) (pa_cons (pe_callB call_abs rfl T.abs (by decide +kernel) (pa_cons (pv 2) pa_nil)) pa_nil))) (pps_cons pe_str pe_int pps_nil)))) rfl rfl (by simp) (by decide)))), ?_⟩
    have int_at : ∀ {i : Nat} {x : V}, (ns.map V.int)[i]? = some x → i < ns.length ∧ ∃ u : Int, x = .int u := fun {i x} hi => by
      rw [List.getElem?_map] at hi
      obtain ⟨u, h1, h2⟩ := Option.map_eq_some_iff.mp hi
      exact ⟨(List.getElem?_eq_some_iff.mp h1).1, u, h2.symm⟩
    refine ⟨.ref a, rfl, a, rfl, ⟨_, hS⟩, fun L hL => ?_⟩
    refine lc_list (K := K) (a := a) (xs := ns.map V.int) (fun i H' => ∃ out : List Int, H' = upd H L (.lst (out.map V.int)) ∧ out.length ≤ i) ⟨[], rfl, Nat.le_refl _⟩ (fun i H' _ ⟨out, e, _⟩ => by rw [e]; exact (same_upd hL).seq hS) ?_ ?_
    · rintro i x H' hi ⟨out, rfl, ho⟩
      obtain ⟨hi2, u, rfl⟩ := int_at hi
      refine ⟨rfl, _, rfl, _, rfl, _, _, rfl, rfl, ⟨by decide, by decide, by decide⟩, _, _, rfl, rfl, _, rfl, ?_⟩
      refine ite2 (fun _ => ?_) (fun _ => ?_)
      · refine ⟨_, rfl, _, rfl, _, _, rfl, rfl, ⟨by decide, by decide, by decide⟩, _, _, rfl, rfl, _, upd_same, Nat.lt_of_lt_of_le (by rw [List.length_map]; omega : _ < 64) (by decide), out ++ [(if u < 0 then -u else u) - 10 ^ Int.toNat 18], ?_, by rw [List.length_append]; simp; omega⟩
        rw [upd_twice, List.map_append]; rfl
      · exact ⟨out, rfl, by omega⟩
    · rintro H' ⟨out, rfl, ho⟩
      rw [List.length_map] at ho
      intro p hp
      have npL : p ≠ L := fun z => by rw [z, upd_same] at hp; cases hp
      have hp0 : H p = none := by rw [upd_ne npL] at hp; exact hp
      have s1 := (same_upd (o := .lst (out.map V.int)) hL).trans (same_upd (o := .dK []) hp)
      refine ⟨_, rfl, .ref a, rfl, a, rfl, ⟨_, s1.seq hS⟩, fun C hC => ?_⟩
      have nCp : C ≠ p := fun z => by rw [z, upd_same] at hC; cases hC
      have nCL : C ≠ L := fun z => by rw [z, upd_ne npL.symm, upd_same] at hC; cases hC
      refine lc_list (K := K) (a := a) (xs := ns.map V.int) (fun i H' => ∃ o2 : List Int, H' = upd (upd (upd H L (.lst (out.map V.int))) p (.dK [])) C (.lst (o2.map V.int)) ∧ o2.length ≤ i) ⟨[], rfl, Nat.le_refl _⟩ (fun i H' _ ⟨o2, e, _⟩ => by rw [e]; exact (s1.trans (same_upd hC)).seq hS) ?_ ?_
      · rintro i x H' hi ⟨o2, rfl, ho2⟩
        obtain ⟨hi2, u, rfl⟩ := int_at hi
        refine ⟨rfl, _, rfl, _, rfl, .inl ⟨_, rfl, _, upd_same, Nat.lt_of_lt_of_le (by rw [List.length_map]; omega : _ < 64) (by decide), o2 ++ [if u < 0 then -u else u], ?_, by rw [List.length_append]; simp; omega⟩⟩
        rw [upd_twice, List.map_append]; rfl
      · rintro H' ⟨o2, rfl, ho2⟩
        refine ⟨by rw [upd_ne nCp.symm, upd_same], kd L C 0 0, rfl, by show 4 ≤ 15; decide, ?_⟩
        rw [kd_merge]
        refine k p L C _ (fun b o q => ?_) hp0 hL ⟨⟨0, 0, out, o2, upd_same, by rw [upd_ne npL.symm, upd_ne nCL.symm, upd_ne npL.symm, upd_same], by rw [upd_ne nCp, upd_same]⟩, nCL.symm⟩
        rw [upd_ne (ne_of_none q hp0), upd_ne (ne_of_none (s1 _ _ q) hC)]
        exact s1 _ _ q
end
end Sh
end Part_E11b

section Part_E11c
set_option maxRecDepth 100000
set_option maxHeartbeats 4000000
/-! E11c: Walls, the defs of k11 that draw or raise (written by mk11i.py). -/
namespace Sh
open PySem L2
section
variable {P : Program} {w : World} {K : PySem.W.Frag} {mg : Str → Option Value} {base : Heap} {Z : Zc} {c : Ct}
def forBody : Stmt → List Stmt
  | .For _ _ b _ _ => b
  | _ => []
/-! ### Walls -/
theorem sc_init : FnScope ["self", "size", "rows", "kept", "place", "row", "elder"] ["self", "size", "rows"] (defScope s_init) := ⟨rfl, rfl, rfl, by decide +kernel, rfl, by decide +kernel, by decide +kernel⟩
def mWalls (Z : Zc) : Sw := (wsSeq (wsIf (tL (bNot (bOf (eCB (Fis_between Z) (aCons (eVar 1) (aCons (eC (.int 1)) (aCons (eC (.int 4)) aNil))))))) (wsRaise (Z.xa "BadWalls") (eL (eC (.str "size")))) wsNil) (wsSeq (wsIf (tL (bOr (bNot (bOf (eCB (Fis_list Z) (aCons (eVar 2) aNil)))) (bBin (sCmp fGt) (eCB cLen (aCons (eVar 2) aNil)) (eC (.int 10))))) (wsRaise (Z.xa "BadWalls") (eL (eC (.str "rows")))) wsNil) (wsSeq (wsSet 3 (eL (eLst aNil))) (wsFor (aL (wEn (aCons (eVar 2) aNil))) (gT 2 (gsCons (gV 4) (gsCons (gV 5) gsNil))) (wsSeq (wsIf (tL (bOr (bNot (bOf (eCB (Fis_row Z) (aCons (eVar 1) (aCons (eVar 5) aNil))))) (bOf (eCB cAny (aCons (eComp (wItems (eVar 3)) [6] (gV 6) bYes (eCB (Fis_same_row Z) (aCons (eVar 6) (aCons (eVar 5) aNil)))) aNil))))) (wsRaise (Z.xa "BadWalls") (eL (eVar 4))) wsNil) (wsSet 3 (eL (eLst (aStar (eVar 3) (aCons (eVar 5) aNil))))))))))
def mW0 : Ex := eVar 1
def mW1 : Ex := eCB cTup (aCons (eVar 3) aNil)
def FWalls (Z : Zc) : List D → W D := fnI Z.WC "size" "rows" 2 7 (mWalls Z) mW0 mW1
def spWalls (K : PySem.W.Frag) (c : Ct) (Z : Zc) : Sp := spI K c Z.WC "size" "rows" 2 7 (mWalls Z) mW0 mW1
theorem okWalls {f : Addr} {fd : FuncData} (F : L2.Fun K "__init__" "Walls.__init__" s_init f fd) (T : Bt mg) (X : Xok P K mg Z) (Cis_between : Cl P w K mg base 2 "is_between" (Fis_between Z)) (Cis_list : Cl P w K mg base 1 "is_list" (Fis_list Z)) (Cis_same_row : Cl P w K mg base 1 "is_same_row" (Fis_same_row Z)) (Cis_row : Cl P w K mg base 2 "is_row" (Fis_row Z)) : FnOk P w K mg base (L2.CX P w) 3 f fd ["self", "size", "rows"] (spWalls K c Z) :=
  init_okW (k := 2) (c := c) (m := mWalls Z) (m0 := mW0) (m1 := mW1) (s1 := (defBody s_init).take 4) (s2 := (defBody s_init).drop 4) F sc_init rfl X.fsize.1 X.fsize.2 X.frows.2
    (fun cdv A outer s H E hr => ⟨(okw_bCons (okw_if (OkT.w (ok_notT (ok_test (ok_cl Cis_between hr (by decide) (ok_cons (ok_var 1) (ok_cons ok_int (ok_cons ok_int ok_nil))))))) (okw_bOne (okw_raiseE rfl (takes_of rfl rfl rfl rfl) X.sBadWalls X.rBadWalls (hr.mono (by decide)) (X.mx "BadWalls" (by decide)) (OkE.w ok_str))) okw_bNil) (okw_bCons (okw_if (OkT.w (OkW.t (ok_orT (ok_notT (ok_test (ok_cl Cis_list hr (by decide) (ok_cons (ok_var 2) ok_nil)))) (ok_or1 (ok_gtT (ok_len T.len (ok_cons (ok_var 2) ok_nil)) ok_int))))) (okw_bOne (okw_raiseE rfl (takes_of rfl rfl rfl rfl) X.sBadWalls X.rBadWalls (hr.mono (by decide)) (X.mx "BadWalls" (by decide)) (OkE.w ok_str))) okw_bNil) (okw_bCons (okw_set 3 sc_init.nd (OkE.w (ok_lst ok_nil))) (okw_bOne (okw_for (vs := [4, 5]) (passes_of rfl) rfl (OkI.w (ok_wEn T.enumerate (ok_cons (ok_var 2) ok_nil))) (ok_gT rfl (ok_gsCons (ok_gV 4 sc_init.nd) (ok_gsCons (ok_gV 5 sc_init.nd) ok_gsNil))) (okw_bCons (okw_if (OkT.w (OkW.t (ok_orT (ok_notT (ok_test (ok_cl Cis_row hr (by decide) (ok_cons (ok_var 1) (ok_cons (ok_var 5) ok_nil))))) (ok_or1 (ok_test (ok_any rfl T.any (ok_cons (ok_comp (own := [("elder", 6)]) rfl sc_init.nd (ok_wItems (ok_var 3)) (by kernel_rfl) (fun _ _ _ _ _ => (ok_gV 6 sc_init.nd)) (fun _ _ _ _ _ => ok_tsNil) (fun _ _ _ _ _ => (ok_cl Cis_same_row hr (by decide) (ok_cons (ok_var 6) (ok_cons (ok_var 5) ok_nil))))) ok_nil))))))) (okw_bOne (okw_raiseE rfl (takes_of rfl rfl rfl rfl) X.sBadWalls X.rBadWalls (hr.mono (by decide)) (X.mx "BadWalls" (by decide)) (OkE.w (ok_var 4)))) okw_bNil) (okw_bOne (okw_set 3 sc_init.nd (OkE.w (ok_lst (ok_star (ok_var 3) (ok_cons (ok_var 5) ok_nil)))))))))))),
      init_tail X.fsize.1 X.fsize.2 X.frows.2 (ok_var 1) (ok_tuple T.tuple (ok_cons (ok_var 3) ok_nil)) (pv 0) (pv 0) rfl rfl⟩) fun X t1 t2 h1 h2 => pss_app h1 h2
theorem clWalls {f : Addr} {fd : FuncData} (F : L2.Fun K "__init__" "Walls.__init__" s_init f fd) (M : Mk K Z.WC f) (T : Bt mg) (X : Xok P K mg Z) (Cis_between : Cl P w K mg base 2 "is_between" (Fis_between Z)) (Cis_list : Cl P w K mg base 1 "is_list" (Fis_list Z)) (Cis_same_row : Cl P w K mg base 1 "is_same_row" (Fis_same_row Z)) (Cis_row : Cl P w K mg base 2 "is_row" (Fis_row Z)) : MkC P w K mg base c 3 "Walls" "Walls.__init__" s_init Z.WC (FWalls Z) "self" ["size", "rows"] (spWalls K c Z) :=
  ⟨⟨f, fd, okWalls F T X Cis_between Cis_list Cis_same_row Cis_row, X.mW, M, F, F.binds fun _ _ _ _ _ _ us hl => match us, hl with | [_, _, _], _ => rfl⟩, fun a r w x dx h1 h2 h3 => make_step (by decide) a r w x dx h1 h2 h3⟩
/-! ### draws -/
def F_law_take (Z : Zc) : List D → W D := F_take Z.p
def F_law_pick (Z : Zc) : List D → W D := F_pick Z.p
/-! ### need_between -/
theorem scneed_between : FnScope ["number", "low", "high", "part"] ["number", "low", "high", "part"] (defScope sneed_between) := ⟨rfl, rfl, rfl, by decide +kernel, rfl, by decide +kernel, by decide +kernel⟩
def mneed_between (Z : Zc) : Sw := (wsIf (tL (bNot (bOf (eCB (Fis_between Z) (aCons (eVar 0) (aCons (eVar 1) (aCons (eVar 2) aNil))))))) (wsRaise (Z.xa "BadNumber") (eL (eVar 3))) wsNil)
def Fneed_between (Z : Zc) : List D → W D := fnW 4 4 (mneed_between Z)
theorem okneed_between {f : Addr} {fd : FuncData} (F : L2.Fun K "need_between" "need_between" sneed_between f fd) (T : Bt mg) (X : Xok P K mg Z) (Cis_between : Cl P w K mg base 2 "is_between" (Fis_between Z)) : FnOk P w K mg base (L2.CX P w) 3 f fd ["number", "low", "high", "part"] (spW K c (Fneed_between Z)) :=
  fn_okW (c := c) (m := mneed_between Z) F scneed_between fun cdv A outer s H E hr => (okw_bOne (okw_if (OkT.w (ok_notT (ok_test (ok_cl Cis_between hr (by decide) (ok_cons (ok_var 0) (ok_cons (ok_var 1) (ok_cons (ok_var 2) ok_nil))))))) (okw_bOne (okw_raiseE rfl (takes_of rfl rfl rfl rfl) X.sBadNumber X.rBadNumber (hr.mono (by decide)) (X.mx "BadNumber" (by decide)) (OkE.w (ok_var 3)))) okw_bNil))
theorem clneed_between {f : Addr} {fd : FuncData} (F : L2.Fun K "need_between" "need_between" sneed_between f fd) (hm : mg "need_between" = some (.ref f)) (T : Bt mg) (X : Xok P K mg Z) (Cis_between : Cl P w K mg base 2 "is_between" (Fis_between Z)) : ClW P w K mg base c 3 "need_between" sneed_between ["number", "low", "high", "part"] (Fneed_between Z) :=
  ⟨f, fd, okneed_between F T X Cis_between, hm, F, F.binds fun _ _ _ _ _ _ us hl => match us, hl with | [_, _, _, _], _ => rfl⟩
/-! ### need_set -/
theorem scneed_set : FnScope ["walls"] ["walls"] (defScope sneed_set) := ⟨rfl, rfl, rfl, by decide +kernel, rfl, by decide +kernel, by decide +kernel⟩
def mneed_set (Z : Zc) : Sw := (wsIf (tL (bNot (bOf (eCB (Fis_set Z) (aCons (eVar 0) aNil))))) (wsRaise (Z.xa "BadWalls") (eL (eC .non))) wsNil)
def Fneed_set (Z : Zc) : List D → W D := fnW 1 1 (mneed_set Z)
theorem okneed_set {f : Addr} {fd : FuncData} (F : L2.Fun K "need_set" "need_set" sneed_set f fd) (T : Bt mg) (X : Xok P K mg Z) (Cis_set : Cl P w K mg base 1 "is_set" (Fis_set Z)) : FnOk P w K mg base (L2.CX P w) 3 f fd ["walls"] (spW K c (Fneed_set Z)) :=
  fn_okW (c := c) (m := mneed_set Z) F scneed_set fun cdv A outer s H E hr => (okw_bOne (okw_if (OkT.w (ok_notT (ok_test (ok_cl Cis_set hr (by decide) (ok_cons (ok_var 0) ok_nil))))) (okw_bOne (okw_raiseE rfl (takes_of rfl rfl rfl rfl) X.sBadWalls X.rBadWalls (hr.mono (by decide)) (X.mx "BadWalls" (by decide)) (OkE.w ok_non))) okw_bNil))
theorem clneed_set {f : Addr} {fd : FuncData} (F : L2.Fun K "need_set" "need_set" sneed_set f fd) (hm : mg "need_set" = some (.ref f)) (T : Bt mg) (X : Xok P K mg Z) (Cis_set : Cl P w K mg base 1 "is_set" (Fis_set Z)) : ClW P w K mg base c 3 "need_set" sneed_set ["walls"] (Fneed_set Z) :=
  ⟨f, fd, okneed_set F T X Cis_set, hm, F, F.binds fun _ _ _ _ _ _ us hl => match us, hl with | [_], _ => rfl⟩
/-! ### need_point -/
theorem scneed_point : FnScope ["walls", "point"] ["walls", "point"] (defScope sneed_point) := ⟨rfl, rfl, rfl, by decide +kernel, rfl, by decide +kernel, by decide +kernel⟩
def mneed_point (Z : Zc) : Sw := (wsIf (tL (bNot (bOf (eCB (Fis_over_row Z) (aCons (eFld Z "size" (eVar 0)) (aCons (eVar 1) aNil)))))) (wsRaise0 (Z.xa "BadPoint")) wsNil)
def Fneed_point (Z : Zc) : List D → W D := fnW 2 2 (mneed_point Z)
theorem okneed_point {f : Addr} {fd : FuncData} (F : L2.Fun K "need_point" "need_point" sneed_point f fd) (T : Bt mg) (X : Xok P K mg Z) (Cis_over_row : Cl P w K mg base 2 "is_over_row" (Fis_over_row Z)) : FnOk P w K mg base (L2.CX P w) 3 f fd ["walls", "point"] (spW K c (Fneed_point Z)) :=
  fn_okW (c := c) (m := mneed_point Z) F scneed_point fun cdv A outer s H E hr => (okw_bOne (okw_if (OkT.w (ok_notT (ok_test (ok_cl Cis_over_row hr (by decide) (ok_cons (ok_fldZ X.fsize (ok_var 0)) (ok_cons (ok_var 1) ok_nil)))))) (okw_bOne (okw_raise0 rfl (takes_of rfl rfl rfl rfl) (X.r0 "BadPoint" (by decide)).q (X.mx "BadPoint" (by decide)) (X.r0 "BadPoint" (by decide)).k (X.r0 "BadPoint" (by decide)).s (X.r0 "BadPoint" (by decide)).t)) okw_bNil))
theorem clneed_point {f : Addr} {fd : FuncData} (F : L2.Fun K "need_point" "need_point" sneed_point f fd) (hm : mg "need_point" = some (.ref f)) (T : Bt mg) (X : Xok P K mg Z) (Cis_over_row : Cl P w K mg base 2 "is_over_row" (Fis_over_row Z)) : ClW P w K mg base c 3 "need_point" sneed_point ["walls", "point"] (Fneed_point Z) :=
  ⟨f, fd, okneed_point F T X Cis_over_row, hm, F, F.binds fun _ _ _ _ _ _ us hl => match us, hl with | [_, _], _ => rfl⟩
/-! ### need_place -/
theorem scneed_place : FnScope ["walls", "place"] ["walls", "place"] (defScope sneed_place) := ⟨rfl, rfl, rfl, by decide +kernel, rfl, by decide +kernel, by decide +kernel⟩
def mneed_place (Z : Zc) : Sw := (wsDrop (wCall (Fneed_between Z) (aL (aCons (eVar 1) (aCons (eC (.int 0)) (aCons (eBin (sInt fSub) (eCB cLen (aCons (eFld Z "rows" (eVar 0)) aNil)) (eC (.int 1))) (aCons (eC (.str "place")) aNil)))))))
def Fneed_place (Z : Zc) : List D → W D := fnW 2 2 (mneed_place Z)
theorem okneed_place {f : Addr} {fd : FuncData} (F : L2.Fun K "need_place" "need_place" sneed_place f fd) (T : Bt mg) (X : Xok P K mg Z) (Cneed_between : ClW P w K mg base c 3 "need_between" sneed_between ["number", "low", "high", "part"] (Fneed_between Z)) : FnOk P w K mg base (L2.CX P w) 4 f fd ["walls", "place"] (spW K c (Fneed_place Z)) :=
  fn_okW (c := c) (m := mneed_place Z) F scneed_place fun cdv A outer s H E hr => (okw_bOne (okw_drop (okw_cl Cneed_between hr (by decide) (passes_call (takes_of rfl rfl rfl rfl) fun _ _ _ _ h => h) (OkA.w (ok_cons (ok_var 1) (ok_cons ok_int (ok_cons (ok_sub (ok_len T.len (ok_cons (ok_fldZ X.frows (ok_var 0)) ok_nil)) ok_int) (ok_cons ok_str ok_nil))))))))
theorem clneed_place {f : Addr} {fd : FuncData} (F : L2.Fun K "need_place" "need_place" sneed_place f fd) (hm : mg "need_place" = some (.ref f)) (T : Bt mg) (X : Xok P K mg Z) (Cneed_between : ClW P w K mg base c 3 "need_between" sneed_between ["number", "low", "high", "part"] (Fneed_between Z)) : ClW P w K mg base c 4 "need_place" sneed_place ["walls", "place"] (Fneed_place Z) :=
  ⟨f, fd, okneed_place F T X Cneed_between, hm, F, F.binds fun _ _ _ _ _ _ us hl => match us, hl with | [_, _], _ => rfl⟩
/-! ### is_point -/
theorem scis_point : FnScope ["walls", "thing"] ["walls", "thing"] (defScope sis_point) := ⟨rfl, rfl, rfl, by decide +kernel, rfl, by decide +kernel, by decide +kernel⟩
def mis_point (Z : Zc) : Sw := (wsSeq (wsDrop (wCall (Fneed_set Z) (aL (aCons (eVar 0) aNil)))) (wsRet (eL (eCB (Fis_over_row Z) (aCons (eFld Z "size" (eVar 0)) (aCons (eVar 1) aNil))))))
def Fis_point (Z : Zc) : List D → W D := fnW 2 2 (mis_point Z)
theorem okis_point {f : Addr} {fd : FuncData} (F : L2.Fun K "is_point" "is_point" sis_point f fd) (T : Bt mg) (X : Xok P K mg Z) (Cneed_set : ClW P w K mg base c 3 "need_set" sneed_set ["walls"] (Fneed_set Z)) (Cis_over_row : Cl P w K mg base 2 "is_over_row" (Fis_over_row Z)) : FnOk P w K mg base (L2.CX P w) 4 f fd ["walls", "thing"] (spW K c (Fis_point Z)) :=
  fn_okW (c := c) (m := mis_point Z) F scis_point fun cdv A outer s H E hr => (okw_bCons (okw_drop (okw_cl Cneed_set hr (by decide) (passes_call (takes_of rfl rfl rfl rfl) fun _ _ _ _ h => h) (OkA.w (ok_cons (ok_var 0) ok_nil)))) (okw_bOne (okw_ret (OkE.w (ok_cl Cis_over_row hr (by decide) (ok_cons (ok_fldZ X.fsize (ok_var 0)) (ok_cons (ok_var 1) ok_nil)))))))
theorem clis_point {f : Addr} {fd : FuncData} (F : L2.Fun K "is_point" "is_point" sis_point f fd) (hm : mg "is_point" = some (.ref f)) (T : Bt mg) (X : Xok P K mg Z) (Cneed_set : ClW P w K mg base c 3 "need_set" sneed_set ["walls"] (Fneed_set Z)) (Cis_over_row : Cl P w K mg base 2 "is_over_row" (Fis_over_row Z)) : ClW P w K mg base c 4 "is_point" sis_point ["walls", "thing"] (Fis_point Z) :=
  ⟨f, fd, okis_point F T X Cneed_set Cis_over_row, hm, F, F.binds fun _ _ _ _ _ _ us hl => match us, hl with | [_, _], _ => rfl⟩
/-! ### signs_at -/
theorem scsigns_at : FnScope ["walls", "point"] ["walls", "point"] (defScope ssigns_at) := ⟨rfl, rfl, rfl, by decide +kernel, rfl, by decide +kernel, by decide +kernel⟩
def msigns_at (Z : Zc) : Sw := (wsSeq (wsDrop (wCall (Fneed_set Z) (aL (aCons (eVar 0) aNil)))) (wsSeq (wsDrop (wCall (Fneed_point Z) (aL (aCons (eVar 0) (aCons (eVar 1) aNil))))) (wsRet (eL (eCB (Fpoint_signs Z) (aCons (eVar 0) (aCons (eVar 1) aNil)))))))
def Fsigns_at (Z : Zc) : List D → W D := fnW 2 2 (msigns_at Z)
theorem oksigns_at {f : Addr} {fd : FuncData} (F : L2.Fun K "signs_at" "signs_at" ssigns_at f fd) (T : Bt mg) (X : Xok P K mg Z) (Cneed_set : ClW P w K mg base c 3 "need_set" sneed_set ["walls"] (Fneed_set Z)) (Cneed_point : ClW P w K mg base c 3 "need_point" sneed_point ["walls", "point"] (Fneed_point Z)) (Cpoint_signs : Cl P w K mg base 2 "point_signs" (Fpoint_signs Z)) : FnOk P w K mg base (L2.CX P w) 4 f fd ["walls", "point"] (spW K c (Fsigns_at Z)) :=
  fn_okW (c := c) (m := msigns_at Z) F scsigns_at fun cdv A outer s H E hr => (okw_bCons (okw_drop (okw_cl Cneed_set hr (by decide) (passes_call (takes_of rfl rfl rfl rfl) fun _ _ _ _ h => h) (OkA.w (ok_cons (ok_var 0) ok_nil)))) (okw_bCons (okw_drop (okw_cl Cneed_point hr (by decide) (passes_call (takes_of rfl rfl rfl rfl) fun _ _ _ _ h => h) (OkA.w (ok_cons (ok_var 0) (ok_cons (ok_var 1) ok_nil))))) (okw_bOne (okw_ret (OkE.w (ok_cl Cpoint_signs hr (by decide) (ok_cons (ok_var 0) (ok_cons (ok_var 1) ok_nil))))))))
theorem clsigns_at {f : Addr} {fd : FuncData} (F : L2.Fun K "signs_at" "signs_at" ssigns_at f fd) (hm : mg "signs_at" = some (.ref f)) (T : Bt mg) (X : Xok P K mg Z) (Cneed_set : ClW P w K mg base c 3 "need_set" sneed_set ["walls"] (Fneed_set Z)) (Cneed_point : ClW P w K mg base c 3 "need_point" sneed_point ["walls", "point"] (Fneed_point Z)) (Cpoint_signs : Cl P w K mg base 2 "point_signs" (Fpoint_signs Z)) : ClW P w K mg base c 4 "signs_at" ssigns_at ["walls", "point"] (Fsigns_at Z) :=
  ⟨f, fd, oksigns_at F T X Cneed_set Cneed_point Cpoint_signs, hm, F, F.binds fun _ _ _ _ _ _ us hl => match us, hl with | [_, _], _ => rfl⟩
/-! ### value_at -/
theorem scvalue_at : FnScope ["walls", "place", "point"] ["walls", "place", "point"] (defScope svalue_at) := ⟨rfl, rfl, rfl, by decide +kernel, rfl, by decide +kernel, by decide +kernel⟩
def mvalue_at (Z : Zc) : Sw := (wsSeq (wsDrop (wCall (Fneed_set Z) (aL (aCons (eVar 0) aNil)))) (wsSeq (wsDrop (wCall (Fneed_place Z) (aL (aCons (eVar 0) (aCons (eVar 1) aNil))))) (wsSeq (wsDrop (wCall (Fneed_point Z) (aL (aCons (eVar 0) (aCons (eVar 2) aNil))))) (wsRet (eL (eCB (Fvalue_told Z) (aCons (eVar 0) (aCons (eVar 1) (aCons (eVar 2) aNil)))))))))
def Fvalue_at (Z : Zc) : List D → W D := fnW 3 3 (mvalue_at Z)
theorem okvalue_at {f : Addr} {fd : FuncData} (F : L2.Fun K "value_at" "value_at" svalue_at f fd) (T : Bt mg) (X : Xok P K mg Z) (Cneed_set : ClW P w K mg base c 3 "need_set" sneed_set ["walls"] (Fneed_set Z)) (Cneed_place : ClW P w K mg base c 4 "need_place" sneed_place ["walls", "place"] (Fneed_place Z)) (Cneed_point : ClW P w K mg base c 3 "need_point" sneed_point ["walls", "point"] (Fneed_point Z)) (Cvalue_told : Cl P w K mg base 2 "value_told" (Fvalue_told Z)) : FnOk P w K mg base (L2.CX P w) 5 f fd ["walls", "place", "point"] (spW K c (Fvalue_at Z)) :=
  fn_okW (c := c) (m := mvalue_at Z) F scvalue_at fun cdv A outer s H E hr => (okw_bCons (okw_drop (okw_cl Cneed_set hr (by decide) (passes_call (takes_of rfl rfl rfl rfl) fun _ _ _ _ h => h) (OkA.w (ok_cons (ok_var 0) ok_nil)))) (okw_bCons (okw_drop (okw_cl Cneed_place hr (by decide) (passes_call (takes_of rfl rfl rfl rfl) fun _ _ _ _ h => h) (OkA.w (ok_cons (ok_var 0) (ok_cons (ok_var 1) ok_nil))))) (okw_bCons (okw_drop (okw_cl Cneed_point hr (by decide) (passes_call (takes_of rfl rfl rfl rfl) fun _ _ _ _ h => h) (OkA.w (ok_cons (ok_var 0) (ok_cons (ok_var 2) ok_nil))))) (okw_bOne (okw_ret (OkE.w (ok_cl Cvalue_told hr (by decide) (ok_cons (ok_var 0) (ok_cons (ok_var 1) (ok_cons (ok_var 2) ok_nil))))))))))
theorem clvalue_at {f : Addr} {fd : FuncData} (F : L2.Fun K "value_at" "value_at" svalue_at f fd) (hm : mg "value_at" = some (.ref f)) (T : Bt mg) (X : Xok P K mg Z) (Cneed_set : ClW P w K mg base c 3 "need_set" sneed_set ["walls"] (Fneed_set Z)) (Cneed_place : ClW P w K mg base c 4 "need_place" sneed_place ["walls", "place"] (Fneed_place Z)) (Cneed_point : ClW P w K mg base c 3 "need_point" sneed_point ["walls", "point"] (Fneed_point Z)) (Cvalue_told : Cl P w K mg base 2 "value_told" (Fvalue_told Z)) : ClW P w K mg base c 5 "value_at" svalue_at ["walls", "place", "point"] (Fvalue_at Z) :=
  ⟨f, fd, okvalue_at F T X Cneed_set Cneed_place Cneed_point Cvalue_told, hm, F, F.binds fun _ _ _ _ _ _ us hl => match us, hl with | [_, _, _], _ => rfl⟩
/-! ### half_way -/
theorem schalf_way : FnScope ["walls", "one", "other", "numbers", "here", "there"] ["walls", "one", "other"] (defScope shalf_way) := ⟨rfl, rfl, rfl, by decide +kernel, rfl, by decide +kernel, by decide +kernel⟩
def mhalf_way (Z : Zc) : Sw := (wsSeq (wsDrop (wCall (Fneed_set Z) (aL (aCons (eVar 0) aNil)))) (wsSeq (wsDrop (wCall (Fneed_point Z) (aL (aCons (eVar 0) (aCons (eVar 1) aNil))))) (wsSeq (wsDrop (wCall (Fneed_point Z) (aL (aCons (eVar 0) (aCons (eVar 2) aNil))))) (wsSeq (wsSet 3 (wComp (aL (wZip (aCons (eIdxV 1 (eC (.int 0))) (aCons (eIdxV 2 (eC (.int 0))) aNil)))) [4, 5] (gT 2 (gsCons (gV 4) (gsCons (gV 5) gsNil))) (tL bYes) (eL (eBin sAddA (eBin sMulA (eVar 4) (eIdxV 2 (eC (.int 1)))) (eBin sMulA (eVar 5) (eIdxV 1 (eC (.int 1)))))))) (wsRet (eL (eCB (Fpoint_told Z) (aCons (eVar 3) (aCons (eBin sMulA (eBin sMulA (eC (.int 2)) (eIdxV 1 (eC (.int 1)))) (eIdxV 2 (eC (.int 1)))) aNil)))))))))
def Fhalf_way (Z : Zc) : List D → W D := fnW 3 6 (mhalf_way Z)
theorem okhalf_way {f : Addr} {fd : FuncData} (F : L2.Fun K "half_way" "half_way" shalf_way f fd) (T : Bt mg) (X : Xok P K mg Z) (Cneed_set : ClW P w K mg base c 3 "need_set" sneed_set ["walls"] (Fneed_set Z)) (Cneed_point : ClW P w K mg base c 3 "need_point" sneed_point ["walls", "point"] (Fneed_point Z)) (Cpoint_told : Cl P w K mg base 2 "point_told" (Fpoint_told Z)) : FnOk P w K mg base (L2.CX P w) 4 f fd ["walls", "one", "other"] (spW K c (Fhalf_way Z)) :=
  fn_okW (c := c) (m := mhalf_way Z) F schalf_way fun cdv A outer s H E hr => (okw_bCons (okw_drop (okw_cl Cneed_set hr (by decide) (passes_call (takes_of rfl rfl rfl rfl) fun _ _ _ _ h => h) (OkA.w (ok_cons (ok_var 0) ok_nil)))) (okw_bCons (okw_drop (okw_cl Cneed_point hr (by decide) (passes_call (takes_of rfl rfl rfl rfl) fun _ _ _ _ h => h) (OkA.w (ok_cons (ok_var 0) (ok_cons (ok_var 1) ok_nil))))) (okw_bCons (okw_drop (okw_cl Cneed_point hr (by decide) (passes_call (takes_of rfl rfl rfl rfl) fun _ _ _ _ h => h) (OkA.w (ok_cons (ok_var 0) (ok_cons (ok_var 2) ok_nil))))) (okw_bCons (okw_setLc 3 (own := [("here", 4), ("there", 5)]) rfl schalf_way.nd (OkI.w (ok_wZip T.zip (ok_cons (ok_idxV 1 ok_int) (ok_cons (ok_idxV 2 ok_int) ok_nil)))) (by kernel_rfl) (fun _ _ _ _ _ => (ok_gT rfl (ok_gsCons (ok_gV 4 schalf_way.nd) (ok_gsCons (ok_gV 5 schalf_way.nd) ok_gsNil)))) (fun _ _ _ _ _ => (OkTs.w ok_tsNil)) (fun _ _ _ _ _ => (OkE.w (ok_addA (ok_mulA (ok_var 4) (ok_idxV 2 ok_int)) (ok_mulA (ok_var 5) (ok_idxV 1 ok_int)))))) (okw_bOne (okw_ret (OkE.w (ok_cl Cpoint_told hr (by decide) (ok_cons (ok_var 3) (ok_cons (ok_mulA (ok_mulA ok_int (ok_idxV 1 ok_int)) (ok_idxV 2 ok_int)) ok_nil))))))))))
theorem clhalf_way {f : Addr} {fd : FuncData} (F : L2.Fun K "half_way" "half_way" shalf_way f fd) (hm : mg "half_way" = some (.ref f)) (T : Bt mg) (X : Xok P K mg Z) (Cneed_set : ClW P w K mg base c 3 "need_set" sneed_set ["walls"] (Fneed_set Z)) (Cneed_point : ClW P w K mg base c 3 "need_point" sneed_point ["walls", "point"] (Fneed_point Z)) (Cpoint_told : Cl P w K mg base 2 "point_told" (Fpoint_told Z)) : ClW P w K mg base c 4 "half_way" shalf_way ["walls", "one", "other"] (Fhalf_way Z) :=
  ⟨f, fd, okhalf_way F T X Cneed_set Cneed_point Cpoint_told, hm, F, F.binds fun _ _ _ _ _ _ us hl => match us, hl with | [_, _, _], _ => rfl⟩
/-! ### _law_row -/
theorem sc_law_row : FnScope ["draw", "size", "way", "top", "numbers", "last", "here", "there", "lap", "spot", "number"] ["draw", "size", "way"] (defScope s_law_row) := ⟨rfl, rfl, rfl, by decide +kernel, rfl, by decide +kernel, by decide +kernel⟩
def m_law_row (Z : Zc) : Sw := (wsSeq (wsSet 3 (eL (eIf (bBin sEq (ePk 2) (eC (.int 3))) (eC (.int 100)) (eIf (bBin sEq (ePk 2) (eC (.int 4))) (eBin (sInt fPow) (eC (.int 10)) (eC (.int 12))) (eC (.int 2)))))) (wsSeq (wsSetF 4 (wfComp (aL (wRange1 (aCons (eVar 1) aNil))) [8] (gV 8) (tL bYes) (wBin (sInt fSub) (wCall (F_law_take Z) (aL (aCons (eVar 0) (aCons (eBin sAddA (eBin sMulA (eC (.int 2)) (eVar 3)) (eC (.int 1))) aNil)))) (eL (eVar 3))))) (wsSeq (wsIf (tL (bBin sEq (ePk 2) (eC (.int 2)))) (wsSeq (wsPar 6 7 (wfPl (wCall (F_law_take Z) (aL (aCons (eVar 0) (aCons (eVar 1) aNil))))) (wfPl (wCall (F_law_take Z) (aL (aCons (eVar 0) (aCons (eBin sAddA (eVar 1) (eC (.int 1))) aNil)))))) (wsSetF 4 (wfComp (aL (wRange1 (aCons (eVar 1) aNil))) [9] (gV 9) (tL bYes) (eL (eBin (sInt fSub) (eCB cInt (aCons (eBin sEq (ePk 9) (ePk 6)) aNil)) (eCB cInt (aCons (eBin sEq (ePk 9) (ePk 7)) aNil))))))) wsNil) (wsSeq (wsIf (tL (bAnd (bBin sEq (ePk 2) (eC (.int 1))) (bBin (sCmp fGt) (eVar 1) (eC (.int 1))))) (wsPut 4 (eL (eNeg (eC (.int 1)))) (eL (eC (.int 0)))) wsNil) (wsSeq (wsIf (wLookT 4 (tL (bBin sEq (eComp (wItems (eVar 4)) [10] (gV 10) (bBin sNe (ePk 10) (eC (.int 0))) (eVar 10)) (eLst aNil)))) (wsPut 4 (eL (eC (.int 0))) (eL (eC (.int 1)))) wsNil) (wsSeq (wsSet 5 (wIfE (tL (bBin sEq (ePk 2) (eC (.int 0)))) (eL (eC (.int 0))) (wCall (F_law_pick Z) (wCons (eL (eVar 0)) (wCons (wCB lstOf (wCons (eL (eC (.int 0))) (wCons (eL (eC (.int 0))) (wCons (eL (eC (.int 1))) (wCons (eL (eNeg (eC (.int 1)))) (wCons (eL (eC (.int 2))) (wCons (eL (eNeg (eC (.int 3)))) (wCons (wBin (sInt fSub) (wCall (F_law_take Z) (aL (aCons (eVar 0) (aCons (eBin sAddA (eBin sMulA (eC (.int 2)) (eVar 3)) (eC (.int 1))) aNil)))) (eL (eVar 3))) wNil)))))))) wNil))))) (wsFrz 4 (wsRet (eL (eBin sAddA (eCB cTup (aCons (eVar 4) aNil)) (eTup (aCons (eVar 5) aNil))))))))))))
def F_law_row (Z : Zc) : List D → W D := fnW 3 11 (m_law_row Z)
theorem ok_law_row {f : Addr} {fd : FuncData} (F : L2.Fun K "_law_row" "_law_row" s_law_row f fd) (T : Bt mg) (X : Xok P K mg Z) (C_law_take : ClW P w K mg base c 2 "_law_take" s_law_take ["draw", "amount"] (F_law_take Z)) (C_law_pick : ClW P w K mg base c 3 "_law_pick" s_law_pick ["draw", "some"] (F_law_pick Z)) : FnOk P w K mg base (L2.CX P w) 4 f fd ["draw", "size", "way"] (spW K c (F_law_row Z)) :=
  fn_okW (c := c) (m := m_law_row Z) F sc_law_row fun cdv A outer s H E hr => (okw_bCons (okw_set 3 sc_law_row.nd (OkE.w (ok_ifE (ok_eqT hr.units (ok_pk 2) (OkE.p ok_int)) ok_int (ok_ifE (ok_eqT hr.units (ok_pk 2) (OkE.p ok_int)) (ok_pow ok_int ok_int) ok_int)))) (okw_bCons (okw_setFLc 4 (own := [("lap", 8)]) rfl sc_law_row.nd (OkI.w (ok_wRange1 T.range (ok_cons (ok_var 1) ok_nil))) (by kernel_rfl) (fun _ _ _ _ _ => (ok_gV 8 sc_law_row.nd)) (fun _ _ _ _ _ => (OkTs.w ok_tsNil)) (fun _ _ _ _ _ => (okw_sub (okw_cl C_law_take hr (by decide) passL (OkA.w (ok_cons (ok_var 0) (ok_cons (ok_addA (ok_mulA ok_int (ok_var 3)) ok_int) ok_nil)))) (OkE.w (ok_var 3))))) (okw_bCons (okw_if (OkT.w (ok_eqT hr.units (ok_pk 2) (OkE.p ok_int))) (okw_bCons (okw_par 6 7 rfl sc_law_row.nd (OkEw.f (okw_cl C_law_take hr (by decide) (passes_call (takes_of rfl rfl rfl rfl) fun _ _ _ _ h => h) (OkA.w (ok_cons (ok_var 0) (ok_cons (ok_var 1) ok_nil))))) (OkEw.f (okw_cl C_law_take hr (by decide) (passes_call (takes_of rfl rfl rfl rfl) fun _ _ _ _ h => h) (OkA.w (ok_cons (ok_var 0) (ok_cons (ok_addA (ok_var 1) ok_int) ok_nil)))))) (okw_bOne (okw_setFLc 4 (own := [("spot", 9)]) rfl sc_law_row.nd (OkI.w (ok_wRange1 T.range (ok_cons (ok_var 1) ok_nil))) (by kernel_rfl) (fun _ _ _ _ _ => (ok_gV 9 sc_law_row.nd)) (fun _ _ _ _ _ => (OkTs.w ok_tsNil)) (fun _ _ _ _ _ => (OkE.w (ok_sub (ok_intc T.int (ok_cons (ok_eq hr.units (ok_pk 9) (ok_pk 6)) ok_nil)) (ok_intc T.int (ok_cons (ok_eq hr.units (ok_pk 9) (ok_pk 7)) ok_nil)))))))) okw_bNil) (okw_bCons (okw_if (OkT.w (OkW.t (ok_andT (ok_eqT hr.units (ok_pk 2) (OkE.p ok_int)) (ok_and1 (ok_gtT (ok_var 1) ok_int))))) (okw_bOne (okw_put 4 (OkE.w (ok_neg ok_int)) (OkE.w ok_int))) okw_bNil) (okw_bCons (okw_if (okw_lookT 4 (OkT.w (ok_eqT hr.units (OkE.p (ok_comp (own := [("number", 10)]) rfl sc_law_row.nd (ok_wItems (ok_var 4)) (by kernel_rfl) (fun _ _ _ _ _ => (ok_gV 10 sc_law_row.nd)) (fun _ _ _ _ _ => (ok_tsOne (ok_neT hr.units (ok_pk 10) (OkE.p ok_int)))) (fun _ _ _ _ _ => (ok_var 10)))) (OkE.p (ok_lst ok_nil))))) (okw_bOne (okw_put 4 (OkE.w ok_int) (OkE.w ok_int))) okw_bNil) (okw_bCons (okw_set 5 sc_law_row.nd (okw_ifE (OkT.w (ok_eqT hr.units (ok_pk 2) (OkE.p ok_int))) (OkE.w ok_int) (okw_cl C_law_pick hr (by decide) (passes_call (takes_of rfl rfl rfl rfl) fun _ _ _ _ h => h) (okw_cons (OkE.w (ok_var 0)) (okw_cons (okw_lst (okw_cons (OkE.w ok_int) (okw_cons (OkE.w ok_int) (okw_cons (OkE.w ok_int) (okw_cons (OkE.w (ok_neg ok_int)) (okw_cons (OkE.w ok_int) (okw_cons (OkE.w (ok_neg ok_int)) (okw_cons (okw_sub (okw_cl C_law_take hr (by decide) (passes_call (takes_of rfl rfl rfl rfl) fun _ _ _ _ h => h) (OkA.w (ok_cons (ok_var 0) (ok_cons (ok_addA (ok_mulA ok_int (ok_var 3)) ok_int) ok_nil)))) (OkE.w (ok_var 3))) okw_nil)))))))) okw_nil))))) (okw_bOne (okw_sFrz 4 (okw_ret (OkE.w (ok_addA (ok_tuple T.tuple (ok_cons (ok_var 4) ok_nil)) (ok_tup (ok_cons (ok_var 5) ok_nil)))))))))))))
theorem cl_law_row {f : Addr} {fd : FuncData} (F : L2.Fun K "_law_row" "_law_row" s_law_row f fd) (hm : mg "_law_row" = some (.ref f)) (T : Bt mg) (X : Xok P K mg Z) (C_law_take : ClW P w K mg base c 2 "_law_take" s_law_take ["draw", "amount"] (F_law_take Z)) (C_law_pick : ClW P w K mg base c 3 "_law_pick" s_law_pick ["draw", "some"] (F_law_pick Z)) : ClW P w K mg base c 4 "_law_row" s_law_row ["draw", "size", "way"] (F_law_row Z) :=
  ⟨f, fd, ok_law_row F T X C_law_take C_law_pick, hm, F, F.binds fun _ _ _ _ _ _ us hl => match us, hl with | [_, _, _], _ => rfl⟩
/-! ### _law_drawn_set -/
theorem sc_law_drawn_set : FnScope ["draw", "most", "size", "way", "rows", "least", "lap", "row"] ["draw", "most"] (defScope s_law_drawn_set) := ⟨rfl, rfl, rfl, by decide +kernel, rfl, by decide +kernel, by decide +kernel⟩
def m_law_drawn_set (Z : Zc) : Sw := (wsSeq (wsPar 2 3 (wfPl (wBin sAddA (eL (eC (.int 1))) (wCall (F_law_take Z) (aL (aCons (eVar 0) (aCons (eC (.int 4)) aNil)))))) (wfPl (wCall (F_law_take Z) (aL (aCons (eVar 0) (aCons (eC (.int 8)) aNil)))))) (wsSeq (wsPar 4 5 (wfPl (eL (eLst aNil))) (wfPl (eL (eLst aNil)))) (wsSeq (wsFor (wwRange1 (wCons (wCall (F_law_take Z) (aL (aCons (eVar 0) (aCons (eBin sAddA (eIdxV 1 (eBin (sInt fSub) (eVar 2) (eC (.int 1)))) (eC (.int 1))) aNil)))) wNil)) (gV 6) (wsSeq (wsSet 7 (wCall (F_law_row Z) (aL (aCons (eVar 0) (aCons (eVar 2) (aCons (eVar 3) aNil)))))) (wsIf (tL (bBin (sInA true) (eCB (F_law_least Z) (aCons (eVar 7) aNil)) (ePk 5))) (wsPar 4 5 (wfPl (eL (eBin sAddA (eVar 4) (eLst (aCons (eVar 7) aNil))))) (wfPl (eL (eBin sAddA (eVar 5) (eLst (aCons (eCB (F_law_least Z) (aCons (eVar 7) aNil)) aNil)))))) wsNil))) (wsRet (eL (eTup (aCons (eVar 2) (aCons (eCB cTup (aCons (eVar 4) aNil)) aNil))))))))
def F_law_drawn_set (Z : Zc) : List D → W D := fnW 2 8 (m_law_drawn_set Z)
theorem ok_law_drawn_set {f : Addr} {fd : FuncData} (F : L2.Fun K "_law_drawn_set" "_law_drawn_set" s_law_drawn_set f fd) (T : Bt mg) (X : Xok P K mg Z) (C_law_take : ClW P w K mg base c 2 "_law_take" s_law_take ["draw", "amount"] (F_law_take Z)) (C_law_row : ClW P w K mg base c 4 "_law_row" s_law_row ["draw", "size", "way"] (F_law_row Z)) (C_law_least : Cl P w K mg base 3 "_law_least" (F_law_least Z)) : FnOk P w K mg base (L2.CX P w) 5 f fd ["draw", "most"] (spW K c (F_law_drawn_set Z)) :=
  fn_okW (c := c) (m := m_law_drawn_set Z) F sc_law_drawn_set fun cdv A outer s H E hr => (okw_bCons (okw_parL 2 3 rfl sc_law_drawn_set.nd (OkEw.f (okw_add (OkE.w ok_int) (okw_cl C_law_take hr (by decide) (passes_call (takes_of rfl rfl rfl rfl) fun _ _ _ _ h => h) (OkA.w (ok_cons (ok_var 0) (ok_cons ok_int ok_nil)))))) (OkEw.f (okw_cl C_law_take hr (by decide) (passes_call (takes_of rfl rfl rfl rfl) fun _ _ _ _ h => h) (OkA.w (ok_cons (ok_var 0) (ok_cons ok_int ok_nil)))))) (okw_bCons (okw_parL 4 5 rfl sc_law_drawn_set.nd (OkEw.f (OkE.w (ok_lst ok_nil))) (OkEw.f (OkE.w (ok_lst ok_nil)))) (okw_bCons (okw_for (vs := [6]) (passes_of rfl) rfl (okw_wRange1 T.range (okw_cons (okw_cl C_law_take hr (by decide) (passes_call (takes_of rfl rfl rfl rfl) fun _ _ _ _ h => h) (OkA.w (ok_cons (ok_var 0) (ok_cons (ok_addA (ok_idxV 1 (ok_sub (ok_var 2) ok_int)) ok_int) ok_nil)))) okw_nil)) (ok_gV 6 sc_law_drawn_set.nd) (okw_bCons (okw_set 7 sc_law_drawn_set.nd (okw_cl C_law_row hr (by decide) (passes_call (takes_of rfl rfl rfl rfl) fun _ _ _ _ h => h) (OkA.w (ok_cons (ok_var 0) (ok_cons (ok_var 2) (ok_cons (ok_var 3) ok_nil)))))) (okw_bOne (okw_if (OkT.w (ok_ninAT (u65 hr) (OkE.p (ok_cl C_law_least hr (by decide) (ok_cons (ok_var 7) ok_nil))) (ok_pk 5))) (okw_bOne (okw_parL 4 5 rfl sc_law_drawn_set.nd (OkEw.f (OkE.w (ok_addA (ok_var 4) (ok_lst (ok_cons (ok_var 7) ok_nil))))) (OkEw.f (OkE.w (ok_addA (ok_var 5) (ok_lst (ok_cons (ok_cl C_law_least hr (by decide) (ok_cons (ok_var 7) ok_nil)) ok_nil))))))) okw_bNil)))) (okw_bOne (okw_ret (OkE.w (ok_tup (ok_cons (ok_var 2) (ok_cons (ok_tuple T.tuple (ok_cons (ok_var 4) ok_nil)) ok_nil)))))))))
theorem cl_law_drawn_set {f : Addr} {fd : FuncData} (F : L2.Fun K "_law_drawn_set" "_law_drawn_set" s_law_drawn_set f fd) (hm : mg "_law_drawn_set" = some (.ref f)) (T : Bt mg) (X : Xok P K mg Z) (C_law_take : ClW P w K mg base c 2 "_law_take" s_law_take ["draw", "amount"] (F_law_take Z)) (C_law_row : ClW P w K mg base c 4 "_law_row" s_law_row ["draw", "size", "way"] (F_law_row Z)) (C_law_least : Cl P w K mg base 3 "_law_least" (F_law_least Z)) : ClW P w K mg base c 5 "_law_drawn_set" s_law_drawn_set ["draw", "most"] (F_law_drawn_set Z) :=
  ⟨f, fd, ok_law_drawn_set F T X C_law_take C_law_row C_law_least, hm, F, F.binds fun _ _ _ _ _ _ us hl => match us, hl with | [_, _], _ => rfl⟩
/-! ### _law_some_point -/
theorem sc_law_some_point : FnScope ["draw", "size", "top", "lap"] ["draw", "size"] (defScope s_law_some_point) := ⟨rfl, rfl, rfl, by decide +kernel, rfl, by decide +kernel, by decide +kernel⟩
def m_law_some_point (Z : Zc) : Sw := (wsSeq (wsSet 2 (wCall (F_law_pick Z) (aL (aCons (eVar 0) (aCons (eLst (aCons (eC (.int 2)) (aCons (eC (.int 3)) (aCons (eC (.int 9)) (aCons (eC (.int 100)) (aCons (eBin (sInt fPow) (eC (.int 10)) (eC (.int 9))) aNil)))))) aNil))))) (wsRet (wCallP (F_law_point Z) (wCons (wComp (aL (wRange1 (aCons (eVar 1) aNil))) [3] (gV 3) (tL bYes) (wBin (sInt fSub) (wCall (F_law_take Z) (aL (aCons (eVar 0) (aCons (eBin sAddA (eBin sMulA (eC (.int 2)) (eVar 2)) (eC (.int 1))) aNil)))) (eL (eVar 2)))) (wCons (wBin sAddA (eL (eC (.int 1))) (wCall (F_law_take Z) (wCons (eL (eVar 0)) (wCons (wCall (F_law_pick Z) (aL (aCons (eVar 0) (aCons (eLst (aCons (eC (.int 1)) (aCons (eC (.int 2)) (aCons (eC (.int 3)) (aCons (eC (.int 7)) aNil))))) aNil)))) wNil)))) wNil)))))
def F_law_some_point (Z : Zc) : List D → W D := fnW 2 4 (m_law_some_point Z)
theorem ok_law_some_point {f : Addr} {fd : FuncData} (F : L2.Fun K "_law_some_point" "_law_some_point" s_law_some_point f fd) (T : Bt mg) (X : Xok P K mg Z) (C_law_pick : ClW P w K mg base c 3 "_law_pick" s_law_pick ["draw", "some"] (F_law_pick Z)) (C_law_point : Cl P w K mg base 2 "_law_point" (F_law_point Z)) (C_law_take : ClW P w K mg base c 2 "_law_take" s_law_take ["draw", "amount"] (F_law_take Z)) : FnOk P w K mg base (L2.CX P w) 4 f fd ["draw", "size"] (spW K c (F_law_some_point Z)) :=
  fn_okW (c := c) (m := m_law_some_point Z) F sc_law_some_point fun cdv A outer s H E hr => (okw_bCons (okw_set 2 sc_law_some_point.nd (okw_cl C_law_pick hr (by decide) (passes_call (takes_of rfl rfl rfl rfl) fun _ _ _ _ h => h) (OkA.w (ok_cons (ok_var 0) (ok_cons (ok_lst (ok_cons ok_int (ok_cons ok_int (ok_cons ok_int (ok_cons ok_int (ok_cons (ok_pow ok_int ok_int) ok_nil)))))) ok_nil))))) (okw_bOne (okw_ret (okw_clP C_law_point hr (by decide) (okw_cons (okw_comp (own := [("lap", 3)]) rfl sc_law_some_point.nd (OkI.w (ok_wRange1 T.range (ok_cons (ok_var 1) ok_nil))) (by kernel_rfl) (fun _ _ _ _ _ => (ok_gV 3 sc_law_some_point.nd)) (fun _ _ _ _ _ => (OkTs.w ok_tsNil)) (fun _ _ _ _ _ => (okw_sub (okw_cl C_law_take hr (by decide) passL (OkA.w (ok_cons (ok_var 0) (ok_cons (ok_addA (ok_mulA ok_int (ok_var 2)) ok_int) ok_nil)))) (OkE.w (ok_var 2))))) (okw_cons (okw_add (OkE.w ok_int) (okw_cl C_law_take hr (by decide) (passes_call (takes_of rfl rfl rfl rfl) fun _ _ _ _ h => h) (okw_cons (OkE.w (ok_var 0)) (okw_cons (okw_cl C_law_pick hr (by decide) (passes_call (takes_of rfl rfl rfl rfl) fun _ _ _ _ h => h) (OkA.w (ok_cons (ok_var 0) (ok_cons (ok_lst (ok_cons ok_int (ok_cons ok_int (ok_cons ok_int (ok_cons ok_int ok_nil))))) ok_nil)))) okw_nil)))) okw_nil))))))
theorem cl_law_some_point {f : Addr} {fd : FuncData} (F : L2.Fun K "_law_some_point" "_law_some_point" s_law_some_point f fd) (hm : mg "_law_some_point" = some (.ref f)) (T : Bt mg) (X : Xok P K mg Z) (C_law_pick : ClW P w K mg base c 3 "_law_pick" s_law_pick ["draw", "some"] (F_law_pick Z)) (C_law_point : Cl P w K mg base 2 "_law_point" (F_law_point Z)) (C_law_take : ClW P w K mg base c 2 "_law_take" s_law_take ["draw", "amount"] (F_law_take Z)) : ClW P w K mg base c 4 "_law_some_point" s_law_some_point ["draw", "size"] (F_law_some_point Z) :=
  ⟨f, fd, ok_law_some_point F T X C_law_pick C_law_point C_law_take, hm, F, F.binds fun _ _ _ _ _ _ us hl => match us, hl with | [_, _], _ => rfl⟩
/-! ### _law_no_set -/
theorem sc_law_no_set : FnScope ["draw"] ["draw"] (defScope s_law_no_set) := ⟨rfl, rfl, rfl, by decide +kernel, rfl, by decide +kernel, by decide +kernel⟩
def m_law_no_set (Z : Zc) : Sw := (wsRet (wCall (F_law_pick Z) (aL (aCons (eVar 0) (aCons (eLst (aCons (eC .non) (aCons (eC (.int 5)) (aCons (eTup aNil) (aCons (eTup (aCons (eTup (aCons (eC (.int 1)) (aCons (eC (.int 0)) aNil))) aNil)) (aCons (eTup (aCons (eC (.int 1)) (aCons (eTup (aCons (eTup (aCons (eC (.int 1)) (aCons (eC (.int 0)) aNil))) aNil)) aNil))) (aCons (eC (.str "set")) (aCons (eC .emp) (aCons (eC (.bl true)) aNil))))))))) aNil)))))
def F_law_no_set (Z : Zc) : List D → W D := fnW 1 1 (m_law_no_set Z)
theorem ok_law_no_set {f : Addr} {fd : FuncData} (F : L2.Fun K "_law_no_set" "_law_no_set" s_law_no_set f fd) (T : Bt mg) (X : Xok P K mg Z) (C_law_pick : ClW P w K mg base c 3 "_law_pick" s_law_pick ["draw", "some"] (F_law_pick Z)) : FnOk P w K mg base (L2.CX P w) 4 f fd ["draw"] (spW K c (F_law_no_set Z)) :=
  fn_okW (c := c) (m := m_law_no_set Z) F sc_law_no_set fun cdv A outer s H E hr => (okw_bOne (okw_ret (okw_cl C_law_pick hr (by decide) (passes_call (takes_of rfl rfl rfl rfl) fun _ _ _ _ h => h) (OkA.w (ok_cons (ok_var 0) (ok_cons (ok_lst (ok_cons ok_non (ok_cons ok_int (ok_cons (ok_tup ok_nil) (ok_cons (ok_tup (ok_cons (ok_tup (ok_cons ok_int (ok_cons ok_int ok_nil))) ok_nil)) (ok_cons (ok_tup (ok_cons ok_int (ok_cons (ok_tup (ok_cons (ok_tup (ok_cons ok_int (ok_cons ok_int ok_nil))) ok_nil)) ok_nil))) (ok_cons ok_str (ok_cons ok_emp (ok_cons ok_bl ok_nil))))))))) ok_nil))))))
theorem cl_law_no_set {f : Addr} {fd : FuncData} (F : L2.Fun K "_law_no_set" "_law_no_set" s_law_no_set f fd) (hm : mg "_law_no_set" = some (.ref f)) (T : Bt mg) (X : Xok P K mg Z) (C_law_pick : ClW P w K mg base c 3 "_law_pick" s_law_pick ["draw", "some"] (F_law_pick Z)) : ClW P w K mg base c 4 "_law_no_set" s_law_no_set ["draw"] (F_law_no_set Z) :=
  ⟨f, fd, ok_law_no_set F T X C_law_pick, hm, F, F.binds fun _ _ _ _ _ _ us hl => match us, hl with | [_], _ => rfl⟩
/-! ### _law_near_point -/
theorem sc_law_near_point : FnScope ["draw", "point", "numbers", "below", "row", "twice", "some", "number"] ["draw", "point"] (defScope s_law_near_point) := ⟨rfl, rfl, rfl, by decide +kernel, rfl, by decide +kernel, by decide +kernel⟩
def m_law_near_point (Z : Zc) : Sw := (wsSeq (wsAsg (eL (eVar 1)) (gT 2 (gsCons (gV 2) (gsCons (gV 3) gsNil)))) (wsSeq (wsSetF 4 (wfList (aL (aCons (eVar 2) aNil)))) (wsSeq (wsPut 4 (wLook 4 (wCall (F_law_take Z) (aL (aCons (eVar 0) (aCons (eCB cLen (aCons (eVar 4) aNil)) aNil))))) (wCall (F_law_pick Z) (aL (aCons (eVar 0) (aCons (eLst (aCons (eC .non) (aCons (eC (.bl true)) (aCons (eC (.str "1")) (aCons (eBin (sInt fPow) (eC (.int 10)) (eC (.int 30))) (aCons (eC (.int 0)) aNil)))))) aNil))))) (wsSeq (wsSet 5 (eL (eTup (aCons (eCB cTup (aCons (eComp (wItems (eVar 2)) [7] (gV 7) bYes (eBin sMulA (eC (.int 2)) (eVar 7))) aNil)) (aCons (eBin sMulA (eC (.int 2)) (eVar 3)) aNil))))) (wsSeq (wsSet 6 (eL (eLst (aCons (eVar 5) (aCons (eVar 5) (aCons (eTup (aCons (eVar 2) (aCons (eBin (sInt fSub) (eC (.int 0)) (eVar 3)) aNil))) (aCons (eTup (aCons (eVar 2) (aCons (eC (.int 0)) aNil))) (aCons (eTup (aCons (eCB cList (aCons (eVar 2) aNil)) (aCons (eVar 3) aNil))) (aCons (eLst (aCons (eVar 2) (aCons (eVar 3) aNil))) aNil))))))))) (wsSeq (wsFrz 4 (wsSet 6 (eL (eBin sAddA (eVar 6) (eLst (aCons (eTup (aCons (eCB cTup (aCons (eVar 4) aNil)) (aCons (eVar 3) aNil))) (aCons (eTup (aCons (eCB cTup (aCons (eVar 4) aNil)) (aCons (eVar 3) aNil))) (aCons (eTup (aCons (eBin sAddA (eVar 2) (eTup (aCons (eC (.int 0)) aNil))) (aCons (eVar 3) aNil))) (aCons (eTup (aCons (eSl (eVar 2) (oSome (eC (.int 1))) oNone) (aCons (eVar 3) aNil))) (aCons (eTup (aCons (eVar 2) (aCons (eC (.bl true)) aNil))) aNil)))))))))) (wsRet (wCall (F_law_pick Z) (aL (aCons (eVar 0) (aCons (eBin sAddA (eVar 6) (eLst (aCons (eTup (aCons (eVar 2) aNil)) (aCons (eVar 2) (aCons (eC .non) (aCons (eC (.int 5)) (aCons (eBin sAddA (eVar 1) (eTup (aCons (eC (.int 1)) aNil))) aNil))))))) aNil)))))))))))
def F_law_near_point (Z : Zc) : List D → W D := fnW 2 8 (m_law_near_point Z)
theorem ok_law_near_point {f : Addr} {fd : FuncData} (F : L2.Fun K "_law_near_point" "_law_near_point" s_law_near_point f fd) (T : Bt mg) (X : Xok P K mg Z) (C_law_take : ClW P w K mg base c 2 "_law_take" s_law_take ["draw", "amount"] (F_law_take Z)) (C_law_pick : ClW P w K mg base c 3 "_law_pick" s_law_pick ["draw", "some"] (F_law_pick Z)) : FnOk P w K mg base (L2.CX P w) 4 f fd ["draw", "point"] (spW K c (F_law_near_point Z)) :=
  fn_okW (c := c) (m := m_law_near_point Z) F sc_law_near_point fun cdv A outer s H E hr => (okw_bCons (okw_asg (vs := [2, 3]) (OkE.w (ok_var 1)) (ok_gT rfl (ok_gsCons (ok_gV 2 sc_law_near_point.nd) (ok_gsCons (ok_gV 3 sc_law_near_point.nd) ok_gsNil)))) (okw_bCons (okw_setF 4 sc_law_near_point.nd (okw_fList T.list (OkA.w (ok_cons (ok_var 2) ok_nil)))) (okw_bCons (okw_put 4 (okw_look 4 (okw_cl C_law_take hr (by decide) (passes_call (takes_of rfl rfl rfl rfl) fun _ _ _ _ h => h) (OkA.w (ok_cons (ok_var 0) (ok_cons (ok_len T.len (ok_cons (ok_var 4) ok_nil)) ok_nil))))) (okw_cl C_law_pick hr (by decide) (passes_call (takes_of rfl rfl rfl rfl) fun _ _ _ _ h => h) (OkA.w (ok_cons (ok_var 0) (ok_cons (ok_lst (ok_cons ok_non (ok_cons ok_bl (ok_cons ok_str (ok_cons (ok_pow ok_int ok_int) (ok_cons ok_int ok_nil)))))) ok_nil))))) (okw_bCons (okw_set 5 sc_law_near_point.nd (OkE.w (ok_tup (ok_cons (ok_tuple T.tuple (ok_cons (ok_comp (own := [("number", 7)]) rfl sc_law_near_point.nd (ok_wItems (ok_var 2)) (by kernel_rfl) (fun _ _ _ _ _ => (ok_gV 7 sc_law_near_point.nd)) (fun _ _ _ _ _ => ok_tsNil) (fun _ _ _ _ _ => (ok_mulA ok_int (ok_var 7)))) ok_nil)) (ok_cons (ok_mulA ok_int (ok_var 3)) ok_nil))))) (okw_bCons (okw_set 6 sc_law_near_point.nd (OkE.w (ok_lst (ok_cons (ok_var 5) (ok_cons (ok_var 5) (ok_cons (ok_tup (ok_cons (ok_var 2) (ok_cons (ok_sub ok_int (ok_var 3)) ok_nil))) (ok_cons (ok_tup (ok_cons (ok_var 2) (ok_cons ok_int ok_nil))) (ok_cons (ok_tup (ok_cons (ok_list T.list (ok_cons (ok_var 2) ok_nil)) (ok_cons (ok_var 3) ok_nil))) (ok_cons (ok_lst (ok_cons (ok_var 2) (ok_cons (ok_var 3) ok_nil))) ok_nil))))))))) (okw_bCons (okw_sFrz 4 (okw_set 6 sc_law_near_point.nd (OkE.w (ok_addA (ok_var 6) (ok_lst (ok_cons (ok_tup (ok_cons (ok_tuple T.tuple (ok_cons (ok_var 4) ok_nil)) (ok_cons (ok_var 3) ok_nil))) (ok_cons (ok_tup (ok_cons (ok_tuple T.tuple (ok_cons (ok_var 4) ok_nil)) (ok_cons (ok_var 3) ok_nil))) (ok_cons (ok_tup (ok_cons (ok_addA (ok_var 2) (ok_tup (ok_cons ok_int ok_nil))) (ok_cons (ok_var 3) ok_nil))) (ok_cons (ok_tup (ok_cons (ok_sl (ok_var 2) (ok_oS ok_int) ok_oN) (ok_cons (ok_var 3) ok_nil))) (ok_cons (ok_tup (ok_cons (ok_var 2) (ok_cons ok_bl ok_nil))) ok_nil)))))))))) (okw_bOne (okw_ret (okw_cl C_law_pick hr (by decide) (passes_call (takes_of rfl rfl rfl rfl) fun _ _ _ _ h => h) (OkA.w (ok_cons (ok_var 0) (ok_cons (ok_addA (ok_var 6) (ok_lst (ok_cons (ok_tup (ok_cons (ok_var 2) ok_nil)) (ok_cons (ok_var 2) (ok_cons ok_non (ok_cons ok_int (ok_cons (ok_addA (ok_var 1) (ok_tup (ok_cons ok_int ok_nil))) ok_nil))))))) ok_nil))))))))))))
theorem cl_law_near_point {f : Addr} {fd : FuncData} (F : L2.Fun K "_law_near_point" "_law_near_point" s_law_near_point f fd) (hm : mg "_law_near_point" = some (.ref f)) (T : Bt mg) (X : Xok P K mg Z) (C_law_take : ClW P w K mg base c 2 "_law_take" s_law_take ["draw", "amount"] (F_law_take Z)) (C_law_pick : ClW P w K mg base c 3 "_law_pick" s_law_pick ["draw", "some"] (F_law_pick Z)) : ClW P w K mg base c 4 "_law_near_point" s_law_near_point ["draw", "point"] (F_law_near_point Z) :=
  ⟨f, fd, ok_law_near_point F T X C_law_take C_law_pick, hm, F, F.binds fun _ _ _ _ _ _ us hl => match us, hl with | [_, _], _ => rfl⟩
/-! ### _law_told -/
theorem sc_law_told : FnScope ["error", "some", "name", "own"] ["error"] (defScope s_law_told) := ⟨rfl, rfl, rfl, by decide +kernel, rfl, by decide +kernel, by decide +kernel⟩
def m_law_told (Z : Zc) : Sw := (wsSeq (wsIf (tL (bOf (eIsX Z "BadWalls" (eVar 0)))) (wsRet (wBin sAddA (eL (eC (.str "walls "))) (wCB cRepr (aL (aCons (ePart Z (eVar 0)) aNil))))) wsNil) (wsSeq (wsIf (tL (bOf (eIsX Z "BadNumber" (eVar 0)))) (wsRet (wBin sAddA (eL (eC (.str "number "))) (wCB cRepr (aL (aCons (ePart Z (eVar 0)) aNil))))) wsNil) (wsSeq (wsSet 1 (eL (eLst (aCons (eTup (aCons (eC (.str "signs")) (aCons (eIsX Z "BadSigns" (eVar 0)) aNil))) (aCons (eTup (aCons (eC (.str "room")) (aCons (eIsX Z "BadRoom" (eVar 0)) aNil))) (aCons (eTup (aCons (eC (.str "point")) (aCons (eIsX Z "BadPoint" (eVar 0)) aNil))) aNil)))))) (wsSeq (wsSet 1 (eL (eBin sAddA (eVar 1) (eLst (aCons (eTup (aCons (eC (.str "face")) (aCons (eIsX Z "BadFace" (eVar 0)) aNil))) (aCons (eTup (aCons (eC (.str "way")) (aCons (eIsX Z "BadWay" (eVar 0)) aNil))) (aCons (eTup (aCons (eC (.str "form")) (aCons (eIsX Z "BadForm" (eVar 0)) aNil))) aNil))))))) (wsSeq (wsSet 1 (eL (eBin sAddA (eVar 1) (eLst (aCons (eTup (aCons (eC (.str "not near")) (aCons (eIsX Z "NotNear" (eVar 0)) aNil))) (aCons (eTup (aCons (eC (.str "not full")) (aCons (eIsX Z "NotFull" (eVar 0)) aNil))) aNil)))))) (wsRet (eL (eBin sIdx (eBin sAddA (eComp (wItems (eVar 1)) [2, 3] (gT 2 (gsCons (gV 2) (gsCons (gV 3) gsNil))) (bOf (eVar 3)) (eVar 2)) (eLst (aCons (eC (.str "none")) aNil))) (eC (.int 0))))))))))
def F_law_told (Z : Zc) : List D → W D := fnW 1 4 (m_law_told Z)
theorem ok_law_told {f : Addr} {fd : FuncData} (F : L2.Fun K "_law_told" "_law_told" s_law_told f fd) (T : Bt mg) (X : Xok P K mg Z)  : FnOkG P w K mg base (L2.CX P w) 1 f fd ["error"] (spW K c (F_law_told Z)) :=
  fn_okG (c := c) (m := m_law_told Z) F sc_law_told fun cdv A outer s H E hgd hc hr => (okw_bCons (okw_if (OkT.w (ok_test (ok_isXZ "BadWalls" X T.isinstance (by decide) (ok_var 0)))) (okw_bOne (okw_ret (okw_add (OkE.w ok_str) (okw_repr hgd hr.units T.repr (OkA.w (ok_cons (ok_partZ X (ok_var 0)) ok_nil)))))) okw_bNil) (okw_bCons (okw_if (OkT.w (ok_test (ok_isXZ "BadNumber" X T.isinstance (by decide) (ok_var 0)))) (okw_bOne (okw_ret (okw_add (OkE.w ok_str) (okw_repr hgd hr.units T.repr (OkA.w (ok_cons (ok_partZ X (ok_var 0)) ok_nil)))))) okw_bNil) (okw_bCons (okw_set 1 sc_law_told.nd (OkE.w (ok_lst (ok_cons (ok_tup (ok_cons ok_str (ok_cons (ok_isXZ "BadSigns" X T.isinstance (by decide) (ok_var 0)) ok_nil))) (ok_cons (ok_tup (ok_cons ok_str (ok_cons (ok_isXZ "BadRoom" X T.isinstance (by decide) (ok_var 0)) ok_nil))) (ok_cons (ok_tup (ok_cons ok_str (ok_cons (ok_isXZ "BadPoint" X T.isinstance (by decide) (ok_var 0)) ok_nil))) ok_nil)))))) (okw_bCons (okw_set 1 sc_law_told.nd (OkE.w (ok_addA (ok_var 1) (ok_lst (ok_cons (ok_tup (ok_cons ok_str (ok_cons (ok_isXZ "BadFace" X T.isinstance (by decide) (ok_var 0)) ok_nil))) (ok_cons (ok_tup (ok_cons ok_str (ok_cons (ok_isXZ "BadWay" X T.isinstance (by decide) (ok_var 0)) ok_nil))) (ok_cons (ok_tup (ok_cons ok_str (ok_cons (ok_isXZ "BadForm" X T.isinstance (by decide) (ok_var 0)) ok_nil))) ok_nil))))))) (okw_bCons (okw_set 1 sc_law_told.nd (OkE.w (ok_addA (ok_var 1) (ok_lst (ok_cons (ok_tup (ok_cons ok_str (ok_cons (ok_isXZ "NotNear" X T.isinstance (by decide) (ok_var 0)) ok_nil))) (ok_cons (ok_tup (ok_cons ok_str (ok_cons (ok_isXZ "NotFull" X T.isinstance (by decide) (ok_var 0)) ok_nil))) ok_nil)))))) (okw_bOne (okw_ret (OkE.w (ok_idx (ok_addA (ok_comp (own := [("name", 2), ("own", 3)]) rfl sc_law_told.nd (ok_wItems (ok_var 1)) (by kernel_rfl) (fun _ _ _ _ _ => (ok_gT rfl (ok_gsCons (ok_gV 2 sc_law_told.nd) (ok_gsCons (ok_gV 3 sc_law_told.nd) ok_gsNil)))) (fun _ _ _ _ _ => (ok_tsOne (ok_test (ok_var 3)))) (fun _ _ _ _ _ => (ok_var 2))) (ok_lst (ok_cons ok_str ok_nil))) ok_int)))))))))
theorem cl_law_told {f : Addr} {fd : FuncData} (F : L2.Fun K "_law_told" "_law_told" s_law_told f fd) (hm : mg "_law_told" = some (.ref f)) (T : Bt mg) (X : Xok P K mg Z)  : ClG P w K mg base c 1 "_law_told" s_law_told ["error"] (F_law_told Z) :=
  ⟨f, fd, ok_law_told F T X , hm, F, F.binds fun _ _ _ _ _ _ us hl => match us, hl with | [_], _ => rfl⟩
variable {l q : Addr} {TT : List (Addr × Str)}
/-! ### _law_right -/
theorem sc_law_right : FnScope ["draw", "size", "rows", "walls", "some", "point", "thing", "signs", "place", "row", "other", "half", "due", "lap"] ["draw", "size", "rows"] (defScope s_law_right) := ⟨rfl, rfl, rfl, by decide +kernel, rfl, by decide +kernel, by decide +kernel⟩
def m_law_right (Z : Zc) : Sw := (wsSeq (wsSet 3 (wCall (FWalls Z) (aL (aCons (eVar 1) (aCons (eVar 2) aNil))))) (wsSeq (wsSet 4 (wBin sAddA (wComp (aL (wRange1 (aCons (eC (.int 3)) aNil))) [13] (gV 13) (tL bYes) (wCall (F_law_some_point Z) (aL (aCons (eVar 0) (aCons (eVar 1) aNil))))) (eL (eComp (wItems (eSl (eVar 2) oNone (oSome (eC (.int 3))))) [9] (gV 9) bYes (eCB (F_law_on_row Z) (aCons (eVar 9) aNil)))))) (wsSeq (wsFor (aL (wItems (eVar 4))) (gV 5) (wsSeq (wsFor (wwItems (wCB lstOf (wCons (eL (eVar 5)) (wCons (wCall (F_law_near_point Z) (aL (aCons (eVar 0) (aCons (eVar 5) aNil)))) (wCons (wCall (F_law_near_point Z) (aL (aCons (eVar 0) (aCons (eVar 5) aNil)))) wNil))))) (gV 6) (wsSeq (wsSet 12 (eL (eCB (F_law_is_point Z) (aCons (eVar 1) (aCons (eVar 6) aNil))))) (wsSeq (wsIf (wOrT (wNotT (wOf (wCallP (F_law_says Z) (wCons (wCall (Fis_point Z) (aL (aCons (eVar 3) (aCons (eVar 6) aNil)))) (wCons (eL (eVar 12)) wNil))))) (wNotT (wOf (wCallP (F_law_says Z) (wCons (wCallK (Fis_point Z) [1, 0] (wCons (eL (eVar 6)) (wCons (eL (eVar 3)) wNil))) (wCons (eL (eVar 12)) wNil)))))) (wsRet (eL (eC (.bl false)))) wsNil) (wsSeq (wsIf (wAndT (tL (bNot (bOf (eVar 12)))) (wBinT sNe (wCall (F_law_told Z) (wCons (wCaught (XS Z) (wCall (Fsigns_at Z) (aL (aCons (eVar 3) (aCons (eVar 6) aNil))))) wNil)) (eL (eC (.str "point"))))) (wsRet (eL (eC (.bl false)))) wsNil) (wsIf (wAndT (tL (bNot (bOf (eVar 12)))) (wBinT sNe (wCall (F_law_told Z) (wCons (wCaught (XS Z) (wCall (Fhalf_way Z) (aL (aCons (eVar 3) (aCons (eVar 5) (aCons (eVar 6) aNil)))))) wNil)) (eL (eC (.str "point"))))) (wsRet (eL (eC (.bl false)))) wsNil))))) (wsSeq (wsSet 7 (eL (eCB (F_law_at Z) (aCons (eVar 2) (aCons (eVar 5) aNil))))) (wsSeq (wsIf (wBinT sNe (wCB cRepr (wCons (wCB lstOf (wCons (wCall (Fsigns_at Z) (aL (aCons (eVar 3) (aCons (eVar 5) aNil)))) (wCons (wCallK (Fsigns_at Z) [1, 0] (wCons (eL (eVar 5)) (wCons (eL (eVar 3)) wNil))) wNil))) wNil)) (wCB cRepr (aL (aCons (eLst (aCons (eVar 7) (aCons (eVar 7) aNil))) aNil)))) (wsRet (eL (eC (.bl false)))) wsNil) (wsSeq (wsFor (aL (wEn (aCons (eVar 2) aNil))) (gT 2 (gsCons (gV 8) (gsCons (gV 9) gsNil))) (wsSeq (wsSet 12 (eL (eCB (F_law_fraction Z) (aCons (eCB (F_law_value Z) (aCons (eVar 9) (aCons (eVar 5) aNil))) (aCons (eIdxV 5 (eC (.int 1))) aNil))))) (wsIf (wBinT sNe (wCB cRepr (wCons (wCB lstOf (wCons (wCall (Fvalue_at Z) (aL (aCons (eVar 3) (aCons (eVar 8) (aCons (eVar 5) aNil))))) (wCons (wCallK (Fvalue_at Z) [2, 1, 0] (wCons (eL (eVar 5)) (wCons (eL (eVar 8)) (wCons (eL (eVar 3)) wNil)))) wNil))) wNil)) (wCB cRepr (aL (aCons (eLst (aCons (eVar 12) (aCons (eVar 12) aNil))) aNil)))) (wsRet (eL (eC (.bl false)))) wsNil))) (wsSeq (wsSet 10 (wCall (F_law_pick Z) (aL (aCons (eVar 0) (aCons (eVar 4) aNil))))) (wsSeq (wsSet 11 (eL (eCB (F_law_half Z) (aCons (eVar 5) (aCons (eVar 10) aNil))))) (wsSeq (wsIf (wBinT sNe (wCB cRepr (wCons (wCB lstOf (wCons (wCall (Fhalf_way Z) (aL (aCons (eVar 3) (aCons (eVar 5) (aCons (eVar 10) aNil))))) (wCons (wCallK (Fhalf_way Z) [2, 1, 0] (wCons (eL (eVar 5)) (wCons (eL (eVar 10)) (wCons (eL (eVar 3)) wNil)))) wNil))) wNil)) (wCB cRepr (aL (aCons (eLst (aCons (eVar 11) (aCons (eVar 11) aNil))) aNil)))) (wsRet (eL (eC (.bl false)))) wsNil) (wsIf (wNotT (wOf (wCallP (F_law_between Z) (wCons (wCall (Fsigns_at Z) (aL (aCons (eVar 3) (aCons (eVar 11) aNil)))) (wCons (eL (eVar 7)) (wCons (wCall (Fsigns_at Z) (aL (aCons (eVar 3) (aCons (eVar 10) aNil)))) wNil)))))) (wsRet (eL (eC (.bl false)))) wsNil))))))))) (wsRet (eL (eC (.bl true)))))))
def F_law_right (Z : Zc) : List D → W D := fnW 3 14 (m_law_right Z)
theorem ok_law_right {f : Addr} {fd : FuncData} {cM PT : Addr} (F : L2.Fun K "_law_right" "_law_right" s_law_right f fd) (T : Bt mg) (X : Xok P K mg Z) (hcode : fd.code = .ref cM) (hT : LamX.TabB base mg cM PT) (hm1 : (PT, ("_law_right" : Str) ++ ".<locals>." ++ "<lambda>") ∈ TT) (hm2 : ∀ p ∈ TT, p.1 = PT → p.2 = ("_law_right" : Str) ++ ".<locals>." ++ "<lambda>") (CWalls : MkC P w K mg base (ctD Z.p l q TT) 3 "Walls" "Walls.__init__" s_init Z.WC (FWalls Z) "self" ["size", "rows"] (spWalls K (ctD Z.p l q TT) Z)) (C_law_some_point : ClW P w K mg base (ctD Z.p l q TT) 4 "_law_some_point" s_law_some_point ["draw", "size"] (F_law_some_point Z)) (C_law_on_row : Cl P w K mg base 3 "_law_on_row" (F_law_on_row Z)) (C_law_near_point : ClW P w K mg base (ctD Z.p l q TT) 4 "_law_near_point" s_law_near_point ["draw", "point"] (F_law_near_point Z)) (C_law_is_point : Cl P w K mg base 3 "_law_is_point" (F_law_is_point Z)) (C_law_says : Cl P w K mg base 1 "_law_says" (F_law_says Z)) (Cis_point : ClW P w K mg base (ctD Z.p l q TT) 4 "is_point" sis_point ["walls", "thing"] (Fis_point Z)) (C_law_told : ClG P w K mg base (ctD Z.p l q TT) 1 "_law_told" s_law_told ["error"] (F_law_told Z)) (Csigns_at : ClW P w K mg base (ctD Z.p l q TT) 4 "signs_at" ssigns_at ["walls", "point"] (Fsigns_at Z)) (Chalf_way : ClW P w K mg base (ctD Z.p l q TT) 4 "half_way" shalf_way ["walls", "one", "other"] (Fhalf_way Z)) (C_law_at : Cl P w K mg base 3 "_law_at" (F_law_at Z)) (C_law_fraction : Cl P w K mg base 2 "_law_fraction" (F_law_fraction Z)) (C_law_value : Cl P w K mg base 2 "_law_value" (F_law_value Z)) (Cvalue_at : ClW P w K mg base (ctD Z.p l q TT) 5 "value_at" svalue_at ["walls", "place", "point"] (Fvalue_at Z)) (C_law_pick : ClW P w K mg base (ctD Z.p l q TT) 3 "_law_pick" s_law_pick ["draw", "some"] (F_law_pick Z)) (C_law_half : Cl P w K mg base 3 "_law_half" (F_law_half Z)) (C_law_between : Cl P w K mg base 2 "_law_between" (F_law_between Z)) : FnOkG P w K mg base (L2.CX P w) 9 f fd ["draw", "size", "rows"] (spW K (ctD Z.p l q TT) (F_law_right Z)) :=
  fn_okG (c := (ctD Z.p l q TT)) (m := m_law_right Z) F sc_law_right fun cdv A outer s H E hgd hc hr => have TB : TbF (cxOf (L2.CX P w) P w K mg base ["draw", "size", "rows", "walls", "some", "point", "thing", "signs", "place", "row", "other", "half", "due", "lap"] "_law_right" (defScope s_law_right) f cdv A outer s H E) TT := ⟨cM, PT, hT, hc.symm.trans hcode, hm1, hm2⟩; (okw_bCons (okw_set 3 sc_law_right.nd (okw_mk CWalls hr (by decide) (passes_call (takes_of rfl rfl rfl rfl) fun _ _ _ _ h => h) (OkA.w (ok_cons (ok_var 1) (ok_cons (ok_var 2) ok_nil))))) (okw_bCons (okw_set 4 sc_law_right.nd (okw_add (okw_comp (own := [("lap", 13)]) rfl sc_law_right.nd (OkI.w (ok_wRange1 T.range (ok_cons ok_int ok_nil))) (by kernel_rfl) (fun _ _ _ _ _ => (ok_gV 13 sc_law_right.nd)) (fun _ _ _ _ _ => (OkTs.w ok_tsNil)) (fun _ _ _ _ _ => (okw_cl C_law_some_point hr (by decide) passL (OkA.w (ok_cons (ok_var 0) (ok_cons (ok_var 1) ok_nil)))))) (OkE.w (ok_comp (own := [("row", 9)]) rfl sc_law_right.nd (ok_wItems (ok_sl (ok_var 2) ok_oN (ok_oS ok_int))) (by kernel_rfl) (fun _ _ _ _ _ => (ok_gV 9 sc_law_right.nd)) (fun _ _ _ _ _ => ok_tsNil) (fun _ _ _ _ _ => (ok_cl C_law_on_row hr (by decide) (ok_cons (ok_var 9) ok_nil))))))) (okw_bCons (okw_for (vs := [5]) (passes_of rfl) rfl (OkI.w (ok_wItems (ok_var 4))) (ok_gV 5 sc_law_right.nd) (okw_bCons (okw_for (vs := [6]) (passes_of rfl) rfl (okw_wItems (okw_lst (okw_cons (OkE.w (ok_var 5)) (okw_cons (okw_cl C_law_near_point hr (by decide) (passes_call (takes_of rfl rfl rfl rfl) fun _ _ _ _ h => h) (OkA.w (ok_cons (ok_var 0) (ok_cons (ok_var 5) ok_nil)))) (okw_cons (okw_cl C_law_near_point hr (by decide) (passes_call (takes_of rfl rfl rfl rfl) fun _ _ _ _ h => h) (OkA.w (ok_cons (ok_var 0) (ok_cons (ok_var 5) ok_nil)))) okw_nil))))) (ok_gV 6 sc_law_right.nd) (okw_bCons (okw_set 12 sc_law_right.nd (OkE.w (ok_cl C_law_is_point hr (by decide) (ok_cons (ok_var 1) (ok_cons (ok_var 6) ok_nil))))) (okw_bCons (okw_if (OkWw.t (okw_orT (okw_notT (okw_test (okw_clP C_law_says hr (by decide) (okw_cons (okw_cl Cis_point hr (by decide) (passes_call (takes_of rfl rfl rfl rfl) fun _ _ _ _ h => h) (OkA.w (ok_cons (ok_var 3) (ok_cons (ok_var 6) ok_nil)))) (okw_cons (OkE.w (ok_var 12)) okw_nil))))) (okw_or1 (okw_notT (okw_test (okw_clP C_law_says hr (by decide) (okw_cons (okw_clK ["thing", "walls"] [1, 0] Cis_point (by decide) (fun _ _ _ _ _ _ ws hl => match ws, hl with | [_, _], _ => rfl) hr (by decide) (passes_call (takes_of rfl rfl rfl rfl) fun _ _ _ _ h => h) (okw_kwCons (OkE.w (ok_var 6)) (okw_kwCons (OkE.w (ok_var 3)) okw_kwNil)) (kwl_cons (kwl_cons kwl_nil))) (okw_cons (OkE.w (ok_var 12)) okw_nil)))))))) (okw_bOne (okw_ret (OkE.w ok_bl))) okw_bNil) (okw_bCons (okw_if (OkWw.t (okw_andT (OkT.w (ok_notT (ok_test (ok_var 12)))) (okw_and1 (okw_neT hr.units (okw_clG C_law_told hgd hr (by decide) (passes_call (takes_of rfl rfl rfl rfl) fun _ _ _ _ h => h) (okw_cons (okw_caughtLam (k := 6) X.ct TB (hr.mono (by decide)) ⟨LamX.lamS_by (by kernel_rfl), rfl, fun _ _ _ _ _ => rfl⟩ (fun A2 outer2 s2 H2 E2 f2 c2 hr2 => (okw_cl Csigns_at hr2 (by decide) (passes_call (takes_of rfl rfl rfl rfl) fun _ _ _ _ h => h) (OkA.w (ok_cons (ok_var 3) (ok_cons (ok_var 6) ok_nil)))))) okw_nil)) (OkE.w ok_str))))) (okw_bOne (okw_ret (OkE.w ok_bl))) okw_bNil) (okw_bOne (okw_if (OkWw.t (okw_andT (OkT.w (ok_notT (ok_test (ok_var 12)))) (okw_and1 (okw_neT hr.units (okw_clG C_law_told hgd hr (by decide) (passes_call (takes_of rfl rfl rfl rfl) fun _ _ _ _ h => h) (okw_cons (okw_caughtLam (k := 6) X.ct TB (hr.mono (by decide)) ⟨LamX.lamS_by (by kernel_rfl), rfl, fun _ _ _ _ _ => rfl⟩ (fun A2 outer2 s2 H2 E2 f2 c2 hr2 => (okw_cl Chalf_way hr2 (by decide) (passes_call (takes_of rfl rfl rfl rfl) fun _ _ _ _ h => h) (OkA.w (ok_cons (ok_var 3) (ok_cons (ok_var 5) (ok_cons (ok_var 6) ok_nil))))))) okw_nil)) (OkE.w ok_str))))) (okw_bOne (okw_ret (OkE.w ok_bl))) okw_bNil)))))) (okw_bCons (okw_set 7 sc_law_right.nd (OkE.w (ok_cl C_law_at hr (by decide) (ok_cons (ok_var 2) (ok_cons (ok_var 5) ok_nil))))) (okw_bCons (okw_if (okw_neT hr.units (okw_repr hgd hr.units T.repr (okw_cons (okw_lst (okw_cons (okw_cl Csigns_at hr (by decide) (passes_call (takes_of rfl rfl rfl rfl) fun _ _ _ _ h => h) (OkA.w (ok_cons (ok_var 3) (ok_cons (ok_var 5) ok_nil)))) (okw_cons (okw_clK ["point", "walls"] [1, 0] Csigns_at (by decide) (fun _ _ _ _ _ _ ws hl => match ws, hl with | [_, _], _ => rfl) hr (by decide) (passes_call (takes_of rfl rfl rfl rfl) fun _ _ _ _ h => h) (okw_kwCons (OkE.w (ok_var 5)) (okw_kwCons (OkE.w (ok_var 3)) okw_kwNil)) (kwl_cons (kwl_cons kwl_nil))) okw_nil))) okw_nil)) (okw_repr hgd hr.units T.repr (OkA.w (ok_cons (ok_lst (ok_cons (ok_var 7) (ok_cons (ok_var 7) ok_nil))) ok_nil)))) (okw_bOne (okw_ret (OkE.w ok_bl))) okw_bNil) (okw_bCons (okw_for (vs := [8, 9]) (passes_of rfl) rfl (OkI.w (ok_wEn T.enumerate (ok_cons (ok_var 2) ok_nil))) (ok_gT rfl (ok_gsCons (ok_gV 8 sc_law_right.nd) (ok_gsCons (ok_gV 9 sc_law_right.nd) ok_gsNil))) (okw_bCons (okw_set 12 sc_law_right.nd (OkE.w (ok_cl C_law_fraction hr (by decide) (ok_cons (ok_cl C_law_value hr (by decide) (ok_cons (ok_var 9) (ok_cons (ok_var 5) ok_nil))) (ok_cons (ok_idxV 5 ok_int) ok_nil))))) (okw_bOne (okw_if (okw_neT hr.units (okw_repr hgd hr.units T.repr (okw_cons (okw_lst (okw_cons (okw_cl Cvalue_at hr (by decide) (passes_call (takes_of rfl rfl rfl rfl) fun _ _ _ _ h => h) (OkA.w (ok_cons (ok_var 3) (ok_cons (ok_var 8) (ok_cons (ok_var 5) ok_nil))))) (okw_cons (okw_clK ["point", "place", "walls"] [2, 1, 0] Cvalue_at (by decide) (fun _ _ _ _ _ _ ws hl => match ws, hl with | [_, _, _], _ => rfl) hr (by decide) (passes_call (takes_of rfl rfl rfl rfl) fun _ _ _ _ h => h) (okw_kwCons (OkE.w (ok_var 5)) (okw_kwCons (OkE.w (ok_var 8)) (okw_kwCons (OkE.w (ok_var 3)) okw_kwNil))) (kwl_cons (kwl_cons (kwl_cons kwl_nil)))) okw_nil))) okw_nil)) (okw_repr hgd hr.units T.repr (OkA.w (ok_cons (ok_lst (ok_cons (ok_var 12) (ok_cons (ok_var 12) ok_nil))) ok_nil)))) (okw_bOne (okw_ret (OkE.w ok_bl))) okw_bNil)))) (okw_bCons (okw_set 10 sc_law_right.nd (okw_cl C_law_pick hr (by decide) (passes_call (takes_of rfl rfl rfl rfl) fun _ _ _ _ h => h) (OkA.w (ok_cons (ok_var 0) (ok_cons (ok_var 4) ok_nil))))) (okw_bCons (okw_set 11 sc_law_right.nd (OkE.w (ok_cl C_law_half hr (by decide) (ok_cons (ok_var 5) (ok_cons (ok_var 10) ok_nil))))) (okw_bCons (okw_if (okw_neT hr.units (okw_repr hgd hr.units T.repr (okw_cons (okw_lst (okw_cons (okw_cl Chalf_way hr (by decide) (passes_call (takes_of rfl rfl rfl rfl) fun _ _ _ _ h => h) (OkA.w (ok_cons (ok_var 3) (ok_cons (ok_var 5) (ok_cons (ok_var 10) ok_nil))))) (okw_cons (okw_clK ["other", "one", "walls"] [2, 1, 0] Chalf_way (by decide) (fun _ _ _ _ _ _ ws hl => match ws, hl with | [_, _, _], _ => rfl) hr (by decide) (passes_call (takes_of rfl rfl rfl rfl) fun _ _ _ _ h => h) (okw_kwCons (OkE.w (ok_var 5)) (okw_kwCons (OkE.w (ok_var 10)) (okw_kwCons (OkE.w (ok_var 3)) okw_kwNil))) (kwl_cons (kwl_cons (kwl_cons kwl_nil)))) okw_nil))) okw_nil)) (okw_repr hgd hr.units T.repr (OkA.w (ok_cons (ok_lst (ok_cons (ok_var 11) (ok_cons (ok_var 11) ok_nil))) ok_nil)))) (okw_bOne (okw_ret (OkE.w ok_bl))) okw_bNil) (okw_bOne (okw_if (okw_notT (okw_test (okw_clP C_law_between hr (by decide) (okw_cons (okw_cl Csigns_at hr (by decide) (passes_call (takes_of rfl rfl rfl rfl) fun _ _ _ _ h => h) (OkA.w (ok_cons (ok_var 3) (ok_cons (ok_var 11) ok_nil)))) (okw_cons (OkE.w (ok_var 7)) (okw_cons (okw_cl Csigns_at hr (by decide) (passes_call (takes_of rfl rfl rfl rfl) fun _ _ _ _ h => h) (OkA.w (ok_cons (ok_var 3) (ok_cons (ok_var 10) ok_nil)))) okw_nil)))))) (okw_bOne (okw_ret (OkE.w ok_bl))) okw_bNil)))))))))) (okw_bOne (okw_ret (OkE.w ok_bl))))))
theorem cl_law_right {f : Addr} {fd : FuncData} {cM PT : Addr} (F : L2.Fun K "_law_right" "_law_right" s_law_right f fd) (hm : mg "_law_right" = some (.ref f)) (T : Bt mg) (X : Xok P K mg Z) (hcode : fd.code = .ref cM) (hT : LamX.TabB base mg cM PT) (hm1 : (PT, ("_law_right" : Str) ++ ".<locals>." ++ "<lambda>") ∈ TT) (hm2 : ∀ p ∈ TT, p.1 = PT → p.2 = ("_law_right" : Str) ++ ".<locals>." ++ "<lambda>") (CWalls : MkC P w K mg base (ctD Z.p l q TT) 3 "Walls" "Walls.__init__" s_init Z.WC (FWalls Z) "self" ["size", "rows"] (spWalls K (ctD Z.p l q TT) Z)) (C_law_some_point : ClW P w K mg base (ctD Z.p l q TT) 4 "_law_some_point" s_law_some_point ["draw", "size"] (F_law_some_point Z)) (C_law_on_row : Cl P w K mg base 3 "_law_on_row" (F_law_on_row Z)) (C_law_near_point : ClW P w K mg base (ctD Z.p l q TT) 4 "_law_near_point" s_law_near_point ["draw", "point"] (F_law_near_point Z)) (C_law_is_point : Cl P w K mg base 3 "_law_is_point" (F_law_is_point Z)) (C_law_says : Cl P w K mg base 1 "_law_says" (F_law_says Z)) (Cis_point : ClW P w K mg base (ctD Z.p l q TT) 4 "is_point" sis_point ["walls", "thing"] (Fis_point Z)) (C_law_told : ClG P w K mg base (ctD Z.p l q TT) 1 "_law_told" s_law_told ["error"] (F_law_told Z)) (Csigns_at : ClW P w K mg base (ctD Z.p l q TT) 4 "signs_at" ssigns_at ["walls", "point"] (Fsigns_at Z)) (Chalf_way : ClW P w K mg base (ctD Z.p l q TT) 4 "half_way" shalf_way ["walls", "one", "other"] (Fhalf_way Z)) (C_law_at : Cl P w K mg base 3 "_law_at" (F_law_at Z)) (C_law_fraction : Cl P w K mg base 2 "_law_fraction" (F_law_fraction Z)) (C_law_value : Cl P w K mg base 2 "_law_value" (F_law_value Z)) (Cvalue_at : ClW P w K mg base (ctD Z.p l q TT) 5 "value_at" svalue_at ["walls", "place", "point"] (Fvalue_at Z)) (C_law_pick : ClW P w K mg base (ctD Z.p l q TT) 3 "_law_pick" s_law_pick ["draw", "some"] (F_law_pick Z)) (C_law_half : Cl P w K mg base 3 "_law_half" (F_law_half Z)) (C_law_between : Cl P w K mg base 2 "_law_between" (F_law_between Z)) : ClG P w K mg base (ctD Z.p l q TT) 9 "_law_right" s_law_right ["draw", "size", "rows"] (F_law_right Z) :=
  ⟨f, fd, ok_law_right F T X hcode hT hm1 hm2 CWalls C_law_some_point C_law_on_row C_law_near_point C_law_is_point C_law_says Cis_point C_law_told Csigns_at Chalf_way C_law_at C_law_fraction C_law_value Cvalue_at C_law_pick C_law_half C_law_between, hm, F, F.binds fun _ _ _ _ _ _ us hl => match us, hl with | [_, _, _], _ => rfl⟩
/-! ### law -/
theorem sclaw : FnScope ["script", "draw", "turn", "size", "rows", "none", "walls", "words", "bad", "work"] ["script"] (defScope slaw) := ⟨rfl, rfl, rfl, by decide +kernel, rfl, by decide +kernel, by decide +kernel⟩
def mlawB (Z : Zc) : Sw := (wsSeq (wsAsg (wCall (F_law_drawn_set Z) (aL (aCons (eVar 1) (aCons (eLst (aCons (eC (.int 10)) (aCons (eC (.int 10)) (aCons (eC (.int 10)) (aCons (eC (.int 10)) aNil))))) aNil)))) (gT 2 (gsCons (gV 3) (gsCons (gV 4) gsNil)))) (wsSeq (wsIf (wNotT (wOf (wCall (F_law_right Z) (aL (aCons (eVar 1) (aCons (eVar 3) (aCons (eVar 4) aNil))))))) (wsRet (eL (eC (.bl false)))) wsNil) (wsSeq (wsPar3 5 6 7 (wfPl (wCall (F_law_no_set Z) (aL (aCons (eVar 1) aNil)))) (wfPl (wCall (FWalls Z) (aL (aCons (eVar 3) (aCons (eVar 4) aNil))))) (wfLst (aL aNil))) (wsSeq (wsSet 8 (wCall (F_law_pick Z) (aL (aCons (eVar 1) (aCons (eLst (aCons (eC .non) (aCons (eNeg (eC (.int 1))) (aCons (eCB cLen (aCons (eVar 4) aNil)) (aCons (eC (.bl true)) (aCons (eC (.str "0")) (aCons (eBin sAddA (eCB cLen (aCons (eVar 4) aNil)) (eC (.int 5))) aNil))))))) aNil))))) (wsSeq (lamGo (XS Z) 9 (gV 9) (fun c => wsApp 7 (wCall (F_law_told Z) (wCons c wNil))) [(wCall (Fis_point Z) (aL (aCons (eVar 5) (aCons (eC .non) aNil)))), (wCall (Fsigns_at Z) (aL (aCons (eVar 5) (aCons (eC .non) aNil)))), (wCall (Fvalue_at Z) (aL (aCons (eVar 5) (aCons (eC .non) (aCons (eC .non) aNil))))), (wCall (Fhalf_way Z) (aL (aCons (eVar 5) (aCons (eC .non) (aCons (eC .non) aNil))))), (wCall (Fvalue_at Z) (aL (aCons (eVar 6) (aCons (eVar 8) (aCons (eC .non) aNil))))), (wCall (Fhalf_way Z) (aL (aCons (eVar 6) (aCons (eTup (aCons (eBin sMulA (eTup (aCons (eC (.int 0)) aNil)) (eVar 3)) (aCons (eC (.int 1)) aNil))) (aCons (eC .non) aNil))))), (wCall (Fhalf_way Z) (aL (aCons (eVar 6) (aCons (eC .non) (aCons (eTup (aCons (eBin sMulA (eTup (aCons (eC (.int 0)) aNil)) (eVar 3)) (aCons (eC (.int 1)) aNil))) aNil)))))]) (wsSeq (wsIf (tL (bBin sNe (ePk 7) (eBin sAddA (eBin sMulA (eLst (aCons (eC (.str "walls None")) aNil)) (eC (.int 4))) (eLst (aCons (eC (.str "number 'place'")) (aCons (eC (.str "point")) (aCons (eC (.str "point")) aNil))))))) (wsRet (eL (eC (.bl false)))) wsNil) (wsIf (wAndT (tL (bBin sNe (ePk 4) (eTup aNil))) (wBinT sNe (wCall (F_law_told Z) (wCons (wCaught (XS Z) (wCall (Fvalue_at Z) (aL (aCons (eVar 6) (aCons (eBin (sInt fSub) (eCB cLen (aCons (eVar 4) aNil)) (eC (.int 1))) (aCons (eC .non) aNil)))))) wNil)) (eL (eC (.str "point"))))) (wsRet (eL (eC (.bl false)))) wsNil)))))))
def mlawR (Z : Zc) : Sw := (wsRet (wBin sEq (wCall (Fvalue_at Z) (wCons (wCall (FWalls Z) (aL (aCons (eC (.int 2)) (aCons (eTup (aCons (eTup (aCons (eC (.int 1)) (aCons (eC (.int 0)) (aCons (eC (.int 0)) aNil)))) (aCons (eTup (aCons (eC (.int 0)) (aCons (eC (.int 1)) (aCons (eC (.int 0)) aNil)))) (aCons (eTup (aCons (eC (.int 1)) (aCons (eC (.int 1)) (aCons (eC (.int 2)) aNil)))) aNil)))) aNil)))) (wCons (eL (eC (.int 2))) (wCons (eL (eTup (aCons (eTup (aCons (eC (.int 1)) (aCons (eC (.int 1)) aNil))) (aCons (eC (.int 2)) aNil)))) wNil)))) (eL (eTup (aCons (eNeg (eC (.int 1))) (aCons (eC (.int 1)) aNil))))))
theorem oklaw {f : Addr} (T : Bt mg) (X : Xok P K mg Z) (C_law_drawn_set : ClW P w K mg base (ctD Z.p l q TT) 5 "_law_drawn_set" s_law_drawn_set ["draw", "most"] (F_law_drawn_set Z)) (C_law_right : ClG P w K mg base (ctD Z.p l q TT) 9 "_law_right" s_law_right ["draw", "size", "rows"] (F_law_right Z)) (C_law_no_set : ClW P w K mg base (ctD Z.p l q TT) 4 "_law_no_set" s_law_no_set ["draw"] (F_law_no_set Z)) (CWalls : MkC P w K mg base (ctD Z.p l q TT) 3 "Walls" "Walls.__init__" s_init Z.WC (FWalls Z) "self" ["size", "rows"] (spWalls K (ctD Z.p l q TT) Z)) (C_law_pick : ClW P w K mg base (ctD Z.p l q TT) 3 "_law_pick" s_law_pick ["draw", "some"] (F_law_pick Z)) (C_law_told : ClG P w K mg base (ctD Z.p l q TT) 1 "_law_told" s_law_told ["error"] (F_law_told Z)) (Cis_point : ClW P w K mg base (ctD Z.p l q TT) 4 "is_point" sis_point ["walls", "thing"] (Fis_point Z)) (Csigns_at : ClW P w K mg base (ctD Z.p l q TT) 4 "signs_at" ssigns_at ["walls", "point"] (Fsigns_at Z)) (Cvalue_at : ClW P w K mg base (ctD Z.p l q TT) 5 "value_at" svalue_at ["walls", "place", "point"] (Fvalue_at Z)) (Chalf_way : ClW P w K mg base (ctD Z.p l q TT) 4 "half_way" shalf_way ["walls", "one", "other"] (Fhalf_way Z)) (cdv : Value) (A : Around) (outer : List PySem.Env) (s : Shared) (H : Hp) (E : XK) (hgd : A.guards = some []) (TB : TbF (cxOf (L2.CX P w) P w K mg base ["script", "draw", "turn", "size", "rows", "none", "walls", "words", "bad", "work"] "law" (defScope slaw) f cdv A outer s H E) TT) (hr : Room 9 (A.deeper (PyProof.Rows.envOfC "law" (defScope slaw) s.heap.objs.size f cdv))) :
    OkBw (cxOf (L2.CX P w) P w K mg base ["script", "draw", "turn", "size", "rows", "none", "walls", "words", "bad", "work"] "law" (defScope slaw) f cdv A outer s H E) (ctD Z.p l q TT) E (forBody ((defBody slaw).getD 1 (.Pass ⟨0, 0, 0, 0⟩))) (mlawB Z) ∧ OkSw (cxOf (L2.CX P w) P w K mg base ["script", "draw", "turn", "size", "rows", "none", "walls", "words", "bad", "work"] "law" (defScope slaw) f cdv A outer s H E) (ctD Z.p l q TT) E ((defBody slaw).getD 2 (.Pass ⟨0, 0, 0, 0⟩)) (mlawR Z) := ⟨(okw_bCons (okw_asg (vs := [3, 4]) (okw_cl C_law_drawn_set hr (by decide) (passes_call (takes_of rfl rfl rfl rfl) fun _ _ _ _ h => h) (OkA.w (ok_cons (ok_var 1) (ok_cons (ok_lst (ok_cons ok_int (ok_cons ok_int (ok_cons ok_int (ok_cons ok_int ok_nil))))) ok_nil)))) (ok_gT rfl (ok_gsCons (ok_gV 3 sclaw.nd) (ok_gsCons (ok_gV 4 sclaw.nd) ok_gsNil)))) (okw_bCons (okw_if (okw_notT (okw_test (okw_clG C_law_right hgd hr (by decide) (passes_call (takes_of rfl rfl rfl rfl) fun _ _ _ _ h => h) (OkA.w (ok_cons (ok_var 1) (ok_cons (ok_var 3) (ok_cons (ok_var 4) ok_nil))))))) (okw_bOne (okw_ret (OkE.w ok_bl))) okw_bNil) (okw_bCons (okw_par3 5 6 7 rfl sclaw.nd (OkEw.f (okw_cl C_law_no_set hr (by decide) (passes_call (takes_of rfl rfl rfl rfl) fun _ _ _ _ h => h) (OkA.w (ok_cons (ok_var 1) ok_nil)))) (OkEw.f (okw_mk CWalls hr (by decide) (passes_call (takes_of rfl rfl rfl rfl) fun _ _ _ _ h => h) (OkA.w (ok_cons (ok_var 3) (ok_cons (ok_var 4) ok_nil))))) (okw_fLst (OkA.w ok_nil))) (okw_bCons (okw_set 8 sclaw.nd (okw_cl C_law_pick hr (by decide) (passes_call (takes_of rfl rfl rfl rfl) fun _ _ _ _ h => h) (OkA.w (ok_cons (ok_var 1) (ok_cons (ok_lst (ok_cons ok_non (ok_cons (ok_neg ok_int) (ok_cons (ok_len T.len (ok_cons (ok_var 4) ok_nil)) (ok_cons ok_bl (ok_cons ok_str (ok_cons (ok_addA (ok_len T.len (ok_cons (ok_var 4) ok_nil)) ok_int) ok_nil))))))) ok_nil))))) (okw_bCons (okw_forLams (vs := [9]) (XS := XS Z) (k := 6) (passes_of rfl) rfl TB ⟨⟨⟨LamX.lamS_by (by kernel_rfl), rfl, fun _ _ _ _ _ => rfl⟩, fun A2 outer2 s2 H2 E2 f2 c2 hr2 => (okw_cl Cis_point hr2 (by decide) (passes_call (takes_of rfl rfl rfl rfl) fun _ _ _ _ h => h) (OkA.w (ok_cons (ok_var 5) (ok_cons ok_non ok_nil))))⟩, ⟨⟨⟨LamX.lamS_by (by kernel_rfl), rfl, fun _ _ _ _ _ => rfl⟩, fun A2 outer2 s2 H2 E2 f2 c2 hr2 => (okw_cl Csigns_at hr2 (by decide) (passes_call (takes_of rfl rfl rfl rfl) fun _ _ _ _ h => h) (OkA.w (ok_cons (ok_var 5) (ok_cons ok_non ok_nil))))⟩, ⟨⟨⟨LamX.lamS_by (by kernel_rfl), rfl, fun _ _ _ _ _ => rfl⟩, fun A2 outer2 s2 H2 E2 f2 c2 hr2 => (okw_cl Cvalue_at hr2 (by decide) (passes_call (takes_of rfl rfl rfl rfl) fun _ _ _ _ h => h) (OkA.w (ok_cons (ok_var 5) (ok_cons ok_non (ok_cons ok_non ok_nil)))))⟩, ⟨⟨⟨LamX.lamS_by (by kernel_rfl), rfl, fun _ _ _ _ _ => rfl⟩, fun A2 outer2 s2 H2 E2 f2 c2 hr2 => (okw_cl Chalf_way hr2 (by decide) (passes_call (takes_of rfl rfl rfl rfl) fun _ _ _ _ h => h) (OkA.w (ok_cons (ok_var 5) (ok_cons ok_non (ok_cons ok_non ok_nil)))))⟩, ⟨⟨⟨LamX.lamS_by (by kernel_rfl), rfl, fun _ _ _ _ _ => rfl⟩, fun A2 outer2 s2 H2 E2 f2 c2 hr2 => (okw_cl Cvalue_at hr2 (by decide) (passes_call (takes_of rfl rfl rfl rfl) fun _ _ _ _ h => h) (OkA.w (ok_cons (ok_var 6) (ok_cons (ok_var 8) (ok_cons ok_non ok_nil)))))⟩, ⟨⟨⟨LamX.lamS_by (by kernel_rfl), rfl, fun _ _ _ _ _ => rfl⟩, fun A2 outer2 s2 H2 E2 f2 c2 hr2 => (okw_cl Chalf_way hr2 (by decide) (passes_call (takes_of rfl rfl rfl rfl) fun _ _ _ _ h => h) (OkA.w (ok_cons (ok_var 6) (ok_cons (ok_tup (ok_cons (ok_mulA (ok_tup (ok_cons ok_int ok_nil)) (ok_var 3)) (ok_cons ok_int ok_nil))) (ok_cons ok_non ok_nil)))))⟩, ⟨⟨⟨LamX.lamS_by (by kernel_rfl), rfl, fun _ _ _ _ _ => rfl⟩, fun A2 outer2 s2 H2 E2 f2 c2 hr2 => (okw_cl Chalf_way hr2 (by decide) (passes_call (takes_of rfl rfl rfl rfl) fun _ _ _ _ h => h) (OkA.w (ok_cons (ok_var 6) (ok_cons ok_non (ok_cons (ok_tup (ok_cons (ok_mulA (ok_tup (ok_cons ok_int ok_nil)) (ok_var 3)) (ok_cons ok_int ok_nil))) ok_nil)))))⟩, trivial⟩⟩⟩⟩⟩⟩⟩ (ok_gV 9 sclaw.nd) (fun J S f cc lm m hJ lo lb => okw_bOne (okw_app 7 (okw_clG C_law_told.toJ hgd hr (by decide) (passes_call (takes_of rfl rfl rfl rfl) fun _ _ _ _ h => h) (okw_cons (okw_caughtV 9 X.ct hJ (hr.mono (by decide)) lo lb) okw_nil))))) (okw_bCons (okw_if (OkT.w (ok_neT hr.units (ok_pk 7) (OkE.p (ok_addA (ok_mulA (ok_lst (ok_cons ok_str ok_nil)) ok_int) (ok_lst (ok_cons ok_str (ok_cons ok_str (ok_cons ok_str ok_nil)))))))) (okw_bOne (okw_ret (OkE.w ok_bl))) okw_bNil) (okw_bOne (okw_if (OkWw.t (okw_andT (OkT.w (ok_neT hr.units (ok_pk 4) (OkE.p (ok_tup ok_nil)))) (okw_and1 (okw_neT hr.units (okw_clG C_law_told hgd hr (by decide) (passes_call (takes_of rfl rfl rfl rfl) fun _ _ _ _ h => h) (okw_cons (okw_caughtLam (k := 6) X.ct TB (hr.mono (by decide)) ⟨LamX.lamS_by (by kernel_rfl), rfl, fun _ _ _ _ _ => rfl⟩ (fun A2 outer2 s2 H2 E2 f2 c2 hr2 => (okw_cl Cvalue_at hr2 (by decide) (passes_call (takes_of rfl rfl rfl rfl) fun _ _ _ _ h => h) (OkA.w (ok_cons (ok_var 6) (ok_cons (ok_sub (ok_len T.len (ok_cons (ok_var 4) ok_nil)) ok_int) (ok_cons ok_non ok_nil))))))) okw_nil)) (OkE.w ok_str))))) (okw_bOne (okw_ret (OkE.w ok_bl))) okw_bNil)))))))),
    (okw_ret (okw_eq hr.units (okw_cl Cvalue_at hr (by decide) (passes_call (takes_of rfl rfl rfl rfl) fun _ _ _ _ h => h) (okw_cons (okw_mk CWalls hr (by decide) (passes_call (takes_of rfl rfl rfl rfl) fun _ _ _ _ h => h) (OkA.w (ok_cons ok_int (ok_cons (ok_tup (ok_cons (ok_tup (ok_cons ok_int (ok_cons ok_int (ok_cons ok_int ok_nil)))) (ok_cons (ok_tup (ok_cons ok_int (ok_cons ok_int (ok_cons ok_int ok_nil)))) (ok_cons (ok_tup (ok_cons ok_int (ok_cons ok_int (ok_cons ok_int ok_nil)))) ok_nil)))) ok_nil)))) (okw_cons (OkE.w ok_int) (okw_cons (OkE.w (ok_tup (ok_cons (ok_tup (ok_cons ok_int (ok_cons ok_int ok_nil))) (ok_cons ok_int ok_nil)))) okw_nil)))) (OkE.w (ok_tup (ok_cons (ok_neg ok_int) (ok_cons ok_int ok_nil))))))⟩
end
end Sh
end Part_E11c

section Part_E11s
set_option maxRecDepth 100000
set_option maxHeartbeats 400000
/-! E11s: what k11's plain defs answer. -/
namespace Sh
open PySem L2
def isNum : D → Bool
  | .int _ => true
  | _ => false
def isTup : D → Bool
  | .tup _ => true
  | _ => false
/-- data of the plain kinds -/
def basic (d : D) : Bool := (tyD d).isSome
theorem v_is_number {Z : Zc} {d : D} (h : basic d = true) : Fis_number Z [d] = some (.bl (isNum d)) := by
  cases d <;> first | rfl | cases h
theorem v_law_is_number {Z : Zc} {d : D} (h : basic d = true) : F_law_is_number Z [d] = some (.bl (isNum d)) := by
  cases d <;> first | rfl | cases h
theorem v_is_list {Z : Zc} {ds : List D} : Fis_list Z [.tup ds] = some (.bl true) := rfl
theorem v_is_tuple {Z : Zc} {ds : List D} {n : Int} : Fis_tuple Z [.tup ds, .int n] = some (.bl (decide ((ds.length : Int) = n))) := rfl
theorem v_is_tuple0 {Z : Zc} {d : D} {n : Int} (h : basic d = true) (h2 : isTup d = false) : Fis_tuple Z [d, .int n] = some (.bl false) := by
  cases d <;> first | rfl | (simp [isTup] at h2; done) | (simp [basic, tyD] at h; done)
theorem v_says {Z : Zc} {a b : Bool} : F_law_says Z [.bl a, .bl b] = some (.bl (decide (a = b))) := by
  cases a <;> cases b <;> rfl
theorem v_sign {Z : Zc} {i : Int} : Fsign_of Z [.int i] = some (.int i.sign) := by
  rcases Int.lt_trichotomy i 0 with h | h | h
  · have a : ¬ 0 < i := by omega
    simp [Fsign_of, msign_of, fnD, startE, sRet, eBin, eCB, aCons, aNil, eVar, eC, sCmp, fGt, fLt, cInt, sInt, fSub, a, h, Int.sign_eq_neg_one_of_neg h]
  · subst h; rfl
  · have a : ¬ i < 0 := by omega
    simp [Fsign_of, msign_of, fnD, startE, sRet, eBin, eCB, aCons, aNil, eVar, eC, sCmp, fGt, fLt, cInt, sInt, fSub, a, h, Int.sign_eq_one_of_pos h]

/-! ### steps -/
section
variable {env e : Env} {a b : Sx} {m : Ex} {d : D} {i n N : Nat} {src : Ax} {tg : Gx} {ds : List D} {r : Res} {c : Tx} {k : Bool}
theorem seq_nx (h : a env = some (.nx e)) : sSeq a b env = b e := by unfold sSeq; rw [h]
theorem seq_rt (h : a env = some (.rt d)) : sSeq a b env = some (.rt d) := by unfold sSeq; rw [h]
theorem set_eq (h : m env = some d) (hi : i < env.length) : sSet i m env = some (.nx (env.set i (some (false, d)))) := by unfold sSet; rw [h]; simp [hi]
theorem ret_eq (h : m env = some d) : sRet m env = some (.rt d) := by unfold sRet; rw [h]; rfl
theorem if_eq (h : c env = some k) : sIf c a b env = if k then a env else b env := by unfold sIf; rw [h]; rfl
theorem for_eq (h : src env = some ds) : sFor src tg b env = forGo tg b ds env := by unfold sFor; rw [h]; rfl
theorem forGo_cons {env1 : Env} (ht : tg d env = some env1) (hb : b env1 = some (.nx e)) : forGo tg b (d :: ds) env = forGo tg b ds e := by rw [forGo, ht]; simp [hb]
theorem forGo_rt {env1 : Env} {x : D} (ht : tg d env = some env1) (hb : b env1 = some (.rt x)) : forGo tg b (d :: ds) env = some (.rt x) := by rw [forGo, ht]; simp [hb]
theorem fnD_rt (hl : ds.length = n ∧ n ≤ N) (h : a (startE N ds) = some (.rt d)) : fnD n N a ds = some d := by unfold fnD; rw [if_pos hl, h]
theorem eCB_eq {sem : List D → Option D} {ms : Ax} {xs : List D} (h : ms env = some xs) : eCB sem ms env = sem xs := by unfold eCB; rw [h]; rfl
theorem a1_eq (h : m env = some d) : aCons m aNil env = some [d] := by unfold aCons aNil; rw [h]; rfl
theorem a2_eq {m2 : Ex} {d2 : D} (h : m env = some d) (h2 : m2 env = some d2) : aCons m (aCons m2 aNil) env = some [d, d2] := by show (m env).bind _ = _; rw [h]; show ((aCons m2 aNil env).bind _) = _; rw [a1_eq h2]; rfl
theorem bin_eq {sem : D → D → Option D} {m2 : Ex} {d2 : D} (h : m env = some d) (h2 : m2 env = some d2) : eBin sem m m2 env = sem d d2 := by unfold eBin; rw [h, h2]; rfl
theorem bbin_eq {sem : D → D → Option D} {m2 : Ex} {d2 : D} (h : m env = some d) (h2 : m2 env = some d2) (h3 : sem d d2 = some (.bl k)) : bBin sem m m2 env = some k := by unfold bBin; rw [bin_eq h h2, h3]
theorem bof_eq (h : m env = some (.bl k)) : bOf m env = some k := by unfold bOf; rw [h]
end
/-! ### comprehensions -/
theorem compGo_eq {tgt : Gx} {cond : Tx} {el : Ex} {env0 : Env} (f : D → D) (p : D → Bool) : ∀ (ds acc : List D), (∀ d ∈ ds, ∃ e1, tgt d env0 = some e1 ∧ cond e1 = some (p d) ∧ (p d = true → el e1 = some (f d))) → compGo tgt cond el env0 ds acc = some (acc ++ (ds.filter p).map f)
  | [], acc, _ => by simp [compGo]
  | d :: ds, acc, h => by
    obtain ⟨e1, h1, h2, h3⟩ := h d List.mem_cons_self
    have ih := fun acc => compGo_eq f p ds acc fun x hx => h x (List.mem_cons_of_mem _ hx)
    unfold compGo
    cases hp : p d with
    | true => simp [h1, h2, hp, h3 hp, ih]
    | false => simp [h1, h2, hp, ih]
theorem comp_eq {src : Ax} {vs : List Nat} {tgt : Gx} {cond : Tx} {el : Ex} {env : Env} {ds : List D} (f : D → D) (p : D → Bool) (hs : src env = some ds) (hl : ds.length ≤ 1000000) (h : ∀ d ∈ ds, ∃ e1, tgt d (wipeE env vs) = some e1 ∧ cond e1 = some (p d) ∧ (p d = true → el e1 = some (f d))) :
    eComp src vs tgt cond el env = some (.lst ((ds.filter p).map f)) := by
  unfold eComp
  simp [hs, hl, compGo_eq f p ds [] h]
theorem comp_map {src : Ax} {vs : List Nat} {tgt : Gx} {el : Ex} {env : Env} {ds : List D} (f : D → D) (hs : src env = some ds) (hl : ds.length ≤ 1000000) (h : ∀ d ∈ ds, ∃ e1, tgt d (wipeE env vs) = some e1 ∧ el e1 = some (f d)) :
    eComp src vs tgt bYes el env = some (.lst (ds.map f)) := by
  have z := comp_eq (vs := vs) (tgt := tgt) (cond := bYes) (el := el) f (fun _ => true) hs hl fun d hd => let ⟨e1, a, b⟩ := h d hd; ⟨e1, a, rfl, fun _ => b⟩
  rw [z, List.filter_eq_self.mpr (fun _ _ => rfl)]
/-! ### rows of ints -/
def I (ns : List Int) : List D := ns.map D.int
theorem I_len {ns : List Int} : (I ns).length = ns.length := List.length_map ..
theorem boolsD_map {α : Type} (f : α → Bool) : ∀ l : List α, boolsD (l.map fun x => D.bl (f x)) = some (l.map f)
  | [] => rfl
  | x :: l => by
    have ih := boolsD_map f l
    simp only [List.map_cons, boolsD, boolD, ih]
    rfl
theorem intsD_map {α : Type} (f : α → Int) : ∀ l : List α, intsD (l.map fun x => D.int (f x)) = some (l.map f)
  | [] => rfl
  | x :: l => by
    have ih := intsD_map f l
    simp only [List.map_cons, intsD, intD, ih]
    rfl
theorem mem_I {ns : List Int} {d : D} (h : d ∈ I ns) : ∃ n ∈ ns, d = .int n := by
  obtain ⟨n, hn, e⟩ := List.mem_map.mp h
  exact ⟨n, hn, e.symm⟩
/-! ### common parts -/
def gcdF (g : Nat) (ns : List Int) : Nat := ns.foldl (fun g n => Nat.gcd g n.natAbs) g
abbrev gcdL (ns : List Int) : Nat := gcdF 0 ns
theorem v_common_loop {x0 : Option (Bool × D)} : ∀ (ns : List Int) (g : Nat) (x2 : Option (Bool × D)), ∃ y, forGo (gV 2) (sSet 1 (eCB cGcd (aCons (eVar 1) (aCons (eVar 2) aNil)))) (I ns) [x0, some (false, .int g), x2] = some (.nx [x0, some (false, .int (gcdF g ns)), y])
  | [], g, x2 => ⟨x2, rfl⟩
  | n :: ns, g, x2 => by
    obtain ⟨y, hy⟩ := v_common_loop (x0 := x0) ns (Nat.gcd g n.natAbs) (some (false, .int n))
    refine ⟨y, ?_⟩
    rw [show gcdF g (n :: ns) = gcdF (Nat.gcd g n.natAbs) ns from rfl, ← hy]
    rfl
theorem v_common_part {Z : Zc} {d : D} {ns : List Int} (h : itemsOf d = some (I ns)) : Fcommon_part Z [d] = some (.int (gcdL ns)) := by
  obtain ⟨y, hy⟩ := v_common_loop (x0 := some (false, d)) ns 0 none
  have hy : forGo (gV 2) (sSet 1 (eCB cGcd (aCons (eVar 1) (aCons (eVar 2) aNil)))) (I ns) [some (false, d), some (false, .int 0), none] = some (.nx [some (false, d), some (false, .int (gcdF 0 ns)), y]) := hy
  simp [Fcommon_part, mcommon_part, fnD, startE, sSeq, sSet, eC, sFor, wItems, eVar, h, hy, sRet]
theorem gstep (a b : Nat) : Nat.gcd a b = Nat.gcd b (a % b) := by rw [Nat.gcd_comm a b, Nat.gcd_rec b a, Nat.gcd_comm]
/-- Euclid's steps -/
theorem v_euclid {x0 x1 x2 : Option (Bool × D)} : ∀ (k a b n : Nat), b < 2 ^ k → 2 * k + 1 ≤ n → ∃ y, whGo (bBin sNe (ePk 4) (eC (.int 0))) (sPar 3 4 (fPl (eVar 4)) (fPl (eBin (sInt fMod) (eCB cInt (aCons (eVar 3) aNil)) (eCB cInt (aCons (eVar 4) aNil))))) n
    [x0, x1, x2, some (false, .int a), some (false, .int b)] = some (.nx [x0, x1, x2, some (false, .int (Nat.gcd a b : Nat)), y]) := by
  have stop : ∀ (a n : Nat), 1 ≤ n → ∃ y, whGo (bBin sNe (ePk 4) (eC (.int 0))) (sPar 3 4 (fPl (eVar 4)) (fPl (eBin (sInt fMod) (eCB cInt (aCons (eVar 3) aNil)) (eCB cInt (aCons (eVar 4) aNil))))) n
      [x0, x1, x2, some (false, .int a), some (false, .int (0 : Nat))] = some (.nx [x0, x1, x2, some (false, .int (Nat.gcd a 0 : Nat)), y]) := fun a n hn => by
    obtain ⟨m, rfl⟩ : ∃ m, n = m + 1 := ⟨n - 1, by omega⟩
    exact ⟨some (false, .int (0 : Nat)), by rw [Nat.gcd_zero_right]; rfl⟩
  have step : ∀ (a b n : Nat), b ≠ 0 → whGo (bBin sNe (ePk 4) (eC (.int 0))) (sPar 3 4 (fPl (eVar 4)) (fPl (eBin (sInt fMod) (eCB cInt (aCons (eVar 3) aNil)) (eCB cInt (aCons (eVar 4) aNil))))) (n + 1)
      [x0, x1, x2, some (false, .int a), some (false, .int b)] = whGo (bBin sNe (ePk 4) (eC (.int 0))) (sPar 3 4 (fPl (eVar 4)) (fPl (eBin (sInt fMod) (eCB cInt (aCons (eVar 3) aNil)) (eCB cInt (aCons (eVar 4) aNil))))) n
      [x0, x1, x2, some (false, .int b), some (false, .int (a % b : Nat))] := fun a b n hb => by
    have h0 : ((b : Nat) : Int) ≠ 0 := by omega
    have hm : Int.fmod (a : Int) (b : Int) = ((a % b : Nat) : Int) := by
      rw [Int.fmod_eq_emod_of_nonneg _ (by omega)]; rfl
    have hc : bBin sNe (ePk 4) (eC (.int 0)) [x0, x1, x2, some (false, .int a), some (false, .int b)] = some true := by
      simp [bBin, eBin, ePk, eC, sNe, eqD, hb]
    have hb' : sPar 3 4 (fPl (eVar 4)) (fPl (eBin (sInt fMod) (eCB cInt (aCons (eVar 3) aNil)) (eCB cInt (aCons (eVar 4) aNil)))) [x0, x1, x2, some (false, .int a), some (false, .int b)] = some (.nx [x0, x1, x2, some (false, .int b), some (false, .int (a % b : Nat))]) := by
      simp [sPar, fPl, eVar, eBin, eCB, aCons, aNil, cInt, sInt, fMod, hb, hm]
    rw [whGo, hc]
    simp only [Option.bind_some, if_true, hb']
  intro k
  induction k with
  | zero =>
    intro a b n hb hn
    have e : b = 0 := by simpa using hb
    subst e
    exact stop a n (by omega)
  | succ k ih =>
    intro a b n hb hn
    by_cases h0 : b = 0
    · subst h0; exact stop a n (by omega)
    · obtain ⟨m, rfl⟩ : ∃ m, n = m + 2 := ⟨n - 2, by omega⟩
      rw [step a b (m + 1) h0, gstep a b]
      have hlt : a % b < b := Nat.mod_lt _ (by omega)
      by_cases hr : a % b = 0
      · rw [hr]; exact stop b (m + 1) (by omega)
      · rw [step b (a % b) m hr, gstep b (a % b)]
        refine ih (a % b) (b % (a % b)) m ?_ (by omega)
        have h1 : b % (a % b) < a % b := Nat.mod_lt _ (by omega)
        have h2 : b = (a % b) * (b / (a % b)) + b % (a % b) := (Nat.div_add_mod b (a % b)).symm
        have h3 : 1 ≤ b / (a % b) := Nat.div_pos (by omega) (by omega)
        have h4 : (a % b) * 1 ≤ (a % b) * (b / (a % b)) := Nat.mul_le_mul_left _ h3
        rw [Nat.pow_succ] at hb
        omega
/-- so many bits -/
def Bd (k : Nat) (n : Int) : Prop := n.natAbs < 2 ^ k
theorem abs_nat (n : Int) : (if n < 0 then -n else n) = (n.natAbs : Int) := by split <;> omega
theorem v_law_common_loop {x0 : Option (Bool × D)} : ∀ (ns : List Int) (g : Nat) (x2 x3 x4 : Option (Bool × D)), (∀ n ∈ ns, Bd 1900 n) → ∃ y2 y3 y4, forGo (gV 2) (sSeq (sPar 3 4 (fPl (eCB cAbs (aCons (eCB cInt (aCons (eVar 1) aNil)) aNil))) (fPl (eCB cAbs (aCons (eCB cInt (aCons (eVar 2) aNil)) aNil))))
    (sSeq (sWhile 4000 (bBin sNe (ePk 4) (eC (.int 0))) (sPar 3 4 (fPl (eVar 4)) (fPl (eBin (sInt fMod) (eCB cInt (aCons (eVar 3) aNil)) (eCB cInt (aCons (eVar 4) aNil)))))) (sSet 1 (eVar 3)))) (I ns) [x0, some (false, .int g), x2, x3, x4] = some (.nx [x0, some (false, .int (gcdF g ns)), y2, y3, y4])
  | [], g, x2, x3, x4, _ => ⟨x2, x3, x4, rfl⟩
  | n :: ns, g, x2, x3, x4, h => by
    obtain ⟨y, hy⟩ := v_euclid (x0 := x0) (x1 := some (false, .int g)) (x2 := some (false, .int n)) 1900 g n.natAbs 4000 (h n List.mem_cons_self) (by omega)
    obtain ⟨y2, y3, y4, hz⟩ := v_law_common_loop (x0 := x0) ns (Nat.gcd g n.natAbs) (some (false, .int n)) (some (false, .int (Nat.gcd g n.natAbs : Nat))) y fun m hm => h m (List.mem_cons_of_mem _ hm)
    refine ⟨y2, y3, y4, ?_⟩
    rw [show gcdF g (n :: ns) = gcdF (Nat.gcd g n.natAbs) ns from rfl, ← hz]
    have hg : ¬ ((g : Nat) : Int) < 0 := by omega
    have h1 : sPar 3 4 (fPl (eCB cAbs (aCons (eCB cInt (aCons (eVar 1) aNil)) aNil))) (fPl (eCB cAbs (aCons (eCB cInt (aCons (eVar 2) aNil)) aNil))) [x0, some (false, .int g), some (false, .int n), x3, x4] = some (.nx [x0, some (false, .int g), some (false, .int n), some (false, .int g), some (false, .int n.natAbs)]) := by
      simp [sPar, fPl, eVar, eCB, aCons, aNil, cInt, cAbs, abs_nat]
    exact forGo_cons rfl ((seq_nx h1).trans ((seq_nx hy).trans rfl))
theorem v_law_common {Z : Zc} {d : D} {ns : List Int} (h : itemsOf d = some (I ns)) (hb : ∀ n ∈ ns, Bd 1900 n) : F_law_common Z [d] = some (.int (gcdL ns)) := by
  obtain ⟨y2, y3, y4, hy⟩ := v_law_common_loop (x0 := some (false, d)) ns 0 none none none hb
  have hs : wItems (eVar 0) [some (false, d), some (false, .int (0 : Nat)), none, none, none] = some (I ns) := h
  exact fnD_rt ⟨rfl, by decide⟩ ((seq_nx rfl).trans ((seq_nx ((for_eq hs).trans hy)).trans rfl))
/-! ### bounds -/
theorem Bd.log {k : Nat} {n : Int} (h : Bd k n) (hk : 0 < k) : n.natAbs.log2 < k := PySem.Flt.log2_lt_of hk h
theorem Bd.mono {k j : Nat} {n : Int} (h : Bd k n) (hj : k ≤ j) : Bd j n := Nat.lt_of_lt_of_le h (Nat.pow_le_pow_right (by decide) hj)
theorem Bd.mul {a b : Nat} {x y : Int} (h : Bd a x) (h2 : Bd b y) : Bd (a + b) (x * y) := wide_lt h h2
theorem Bd.add {a : Nat} {x y : Int} (h : Bd a x) (h2 : Bd a y) : Bd (a + 1) (x + y) := by
  unfold Bd at *
  rw [Nat.pow_succ]
  omega
theorem Bd.sub {a : Nat} {x y : Int} (h : Bd a x) (h2 : Bd a y) : Bd (a + 1) (x - y) := by
  unfold Bd at *
  rw [Nat.pow_succ]
  omega
theorem Bd.neg {a : Nat} {x : Int} (h : Bd a x) : Bd a (-x) := by unfold Bd at *; omega
theorem mulA {a b : Int} (ha : Bd 400000 a) (hb : Bd 400000 b) : sMulA (.int a) (.int b) = some (.int (a * b)) := by
  have h1 := ha.log (by decide)
  have h2 := hb.log (by decide)
  show (if _ then _ else _) = _
  exact if_pos (by omega)
theorem fdivA {a b : Int} (h0 : b ≠ 0) (hb : Bd 8000 b) : sInt fFdivA (.int a) (.int b) = some (.int (a.fdiv b)) := by
  have h2 := hb.log (by decide)
  show Option.map D.int (fFdivA a b) = _
  unfold fFdivA
  rw [if_pos ⟨h0, by omega⟩]; rfl
/-! ### sums of products -/
def dot (as bs : List Int) : Int := (List.zipWith (fun a b => a * b) as bs).sum
def mulT : D → D
  | .tup [.int a, .int b] => .int (a * b)
  | d => d
theorem zipD_I : ∀ as bs : List Int, zipD (I as) (I bs) = List.zipWith (fun a b => D.tup [.int a, .int b]) as bs
  | [], _ => rfl
  | _ :: _, [] => rfl
  | a :: as, b :: bs => by
    have ih := zipD_I as bs
    show D.tup [.int a, .int b] :: zipD (I as) (I bs) = _
    rw [ih]; rfl
theorem map_mulT : ∀ as bs : List Int, (List.zipWith (fun a b => D.tup [.int a, .int b]) as bs).map mulT = (List.zipWith (fun a b => a * b) as bs).map D.int
  | [], _ => rfl
  | _ :: _, [] => rfl
  | a :: as, b :: bs => by
    have ih := map_mulT as bs
    show mulT (.tup [.int a, .int b]) :: _ = _
    rw [List.zipWith_cons_cons, List.map_cons, ih]; rfl
theorem mem_zip : ∀ {as bs : List Int} {d : D}, d ∈ List.zipWith (fun a b => D.tup [.int a, .int b]) as bs → ∃ a ∈ as, ∃ b ∈ bs, d = .tup [.int a, .int b]
  | a :: as, b :: bs, d, h => by
    rcases List.mem_cons.mp (show d ∈ D.tup [.int a, .int b] :: List.zipWith (fun a b => D.tup [.int a, .int b]) as bs from h) with h | h
    · exact ⟨a, List.mem_cons_self, b, List.mem_cons_self, h⟩
    · obtain ⟨x, hx, y, hy, e⟩ := mem_zip h
      exact ⟨x, List.mem_cons_of_mem _ hx, y, List.mem_cons_of_mem _ hy, e⟩
  | [], _, _, h => by simp at h
  | _ :: _, [], _, h => by simp at h
theorem dot_comp {as bs : List Int} {env : Env} (h0 : env = [some (false, .tup (I as)), some (false, .tup (I bs)), none, none]) (hl : as.length ≤ 1000000) (ha : ∀ a ∈ as, Bd 400000 a) (hb : ∀ b ∈ bs, Bd 400000 b) :
    eComp (wZip (aCons (eVar 0) (aCons (eVar 1) aNil))) [2, 3] (gT 2 (gsCons (gV 2) (gsCons (gV 3) gsNil))) bYes (eBin sMulA (eVar 2) (eVar 3)) env = some (.lst ((List.zipWith (fun a b => a * b) as bs).map D.int)) := by
  subst h0
  rw [comp_map mulT (ds := zipD (I as) (I bs)) rfl (by unfold zipD; rw [List.length_zipWith, I_len]; omega) fun d hd => ?_]
  · rw [zipD_I, map_mulT]
  · rw [zipD_I] at hd
    obtain ⟨a, h1, b, h2, rfl⟩ := mem_zip hd
    exact ⟨_, rfl, mulA (ha a h1) (hb b h2)⟩
theorem sum_ints (l : List Int) : cSum [.lst (l.map D.int)] = some (.int l.sum) := by
  have z := intsD_map (fun x : Int => x) l
  simp only [cSum]
  rw [show l.map D.int = l.map fun x => D.int x from rfl, z]
  simp
theorem v_row_times {Z : Zc} {as bs : List Int} (hl : as.length ≤ 1000000) (ha : ∀ a ∈ as, Bd 400000 a) (hb : ∀ b ∈ bs, Bd 400000 b) : Frow_times Z [.tup (I as), .tup (I bs)] = some (.int (dot as bs)) := by
  refine fnD_rt ⟨rfl, by decide⟩ (ret_eq ((eCB_eq (a1_eq (dot_comp rfl hl ha hb))).trans (sum_ints _)))
theorem v_law_times {Z : Zc} {as bs : List Int} (hl : as.length ≤ 1000000) (ha : ∀ a ∈ as, Bd 400000 a) (hb : ∀ b ∈ bs, Bd 400000 b) : F_law_times Z [.tup (I as), .tup (I bs)] = some (.int (dot as bs)) := by
  refine fnD_rt ⟨rfl, by decide⟩ (ret_eq ((eCB_eq (a1_eq (dot_comp rfl hl ha hb))).trans (sum_ints _)))
theorem v_law_sign {Z : Zc} {i : Int} : F_law_sign Z [.int i] = some (.int i.sign) := v_sign (Z := Z)
/-! ### least rows -/
def firstS : List Int → Int
  | [] => 0
  | n :: ns => if n ≠ 0 then n.sign else firstS ns
theorem v_law_first_loop {Z : Zc} {x0 : Option (Bool × D)} : ∀ (ns : List Int) (x1 : Option (Bool × D)), (∃ y, forGo (gV 1) (sIf (bBin sNe (ePk 1) (eC (.int 0))) (sRet (eCB (F_law_sign Z) (aCons (eVar 1) aNil))) sNil) (I ns) [x0, x1] = some (.nx [x0, y]) ∧ firstS ns = 0) ∨
    forGo (gV 1) (sIf (bBin sNe (ePk 1) (eC (.int 0))) (sRet (eCB (F_law_sign Z) (aCons (eVar 1) aNil))) sNil) (I ns) [x0, x1] = some (.rt (.int (firstS ns)))
  | [], x1 => .inl ⟨x1, rfl, rfl⟩
  | n :: ns, x1 => by
    have ht : bBin sNe (ePk 1) (eC (.int 0)) [x0, some (false, .int n)] = some (decide (n ≠ 0)) := by
      simp [bBin, eBin, ePk, eC, sNe, eqD]
    by_cases h : n = 0
    · subst h
      have hb : sIf (bBin sNe (ePk 1) (eC (.int 0))) (sRet (eCB (F_law_sign Z) (aCons (eVar 1) aNil))) sNil [x0, some (false, .int 0)] = some (.nx [x0, some (false, .int 0)]) := by
        rw [if_eq ht]; rfl
      rcases v_law_first_loop (Z := Z) (x0 := x0) ns (some (false, .int 0)) with ⟨y, h1, h2⟩ | h1
      · exact .inl ⟨y, (forGo_cons (d := .int 0) (ds := I ns) rfl hb).trans h1, by simp [firstS, h2]⟩
      · exact .inr ((forGo_cons (d := .int 0) (ds := I ns) rfl hb).trans (by rw [h1]; simp [firstS]))
    · refine .inr ((forGo_rt (d := .int n) (ds := I ns) (x := .int n.sign) (env1 := [x0, some (false, .int n)]) rfl ?_).trans (by simp [firstS, h]))
      rw [if_eq ht]
      simp only [h, ne_eq, not_false_eq_true, decide_true, if_true]
      exact ret_eq ((eCB_eq (a1_eq rfl)).trans v_law_sign)
theorem v_law_first {Z : Zc} {d : D} {ns : List Int} (h : itemsOf d = some (I ns)) : F_law_first Z [d] = some (.int (firstS ns)) := by
  have hs : wItems (eVar 0) [some (false, d), none] = some (I ns) := h
  rcases v_law_first_loop (Z := Z) (x0 := some (false, d)) ns none with ⟨y, h1, h2⟩ | h1
  · refine fnD_rt ⟨rfl, by decide⟩ ((seq_nx ((for_eq hs).trans h1)).trans ?_)
    rw [h2]; rfl
  · exact fnD_rt ⟨rfl, by decide⟩ (seq_rt ((for_eq hs).trans h1))
theorem gcdF_dvd : ∀ (ns : List Int) (g : Nat), gcdF g ns ∣ g ∧ ∀ n ∈ ns, (gcdF g ns : Int) ∣ n
  | [], g => ⟨Nat.dvd_refl g, fun n h => by simp at h⟩
  | n :: ns, g => by
    obtain ⟨h1, h2⟩ := gcdF_dvd ns (Nat.gcd g n.natAbs)
    have e : gcdF g (n :: ns) = gcdF (Nat.gcd g n.natAbs) ns := rfl
    rw [e]
    refine ⟨Nat.dvd_trans h1 (Nat.gcd_dvd_left _ _), fun m hm => ?_⟩
    rcases List.mem_cons.mp hm with rfl | hm
    · exact Int.ofNat_dvd_left.mpr (Nat.dvd_trans h1 (Nat.gcd_dvd_right _ _))
    · exact h2 m hm
theorem dvd_gcdF : ∀ (ns : List Int) (g k : Nat), k ∣ g → (∀ n ∈ ns, (k : Int) ∣ n) → k ∣ gcdF g ns
  | [], g, k, h, _ => h
  | n :: ns, g, k, h, h2 => dvd_gcdF ns (Nat.gcd g n.natAbs) k (Nat.dvd_gcd h (Int.ofNat_dvd_left.mp (h2 n List.mem_cons_self))) fun m hm => h2 m (List.mem_cons_of_mem _ hm)
theorem gcdL_dvd {ns : List Int} {n : Int} (h : n ∈ ns) : (gcdL ns : Int) ∣ n := (gcdF_dvd ns 0).2 n h
theorem gcdL_pos {ns : List Int} {n : Int} (h : n ∈ ns) (h0 : n ≠ 0) : 0 < gcdL ns := by
  refine Nat.pos_of_ne_zero fun z => h0 ?_
  have := gcdL_dvd h
  rw [z] at this
  simpa using this
theorem gcdL_bd {ns : List Int} {n : Int} {k : Nat} (h : n ∈ ns) (h0 : n ≠ 0) (hb : Bd k n) : Bd k (gcdL ns : Int) := by
  have h1 : gcdL ns ∣ n.natAbs := Int.ofNat_dvd_left.mp (gcdL_dvd h)
  have h2 := Nat.le_of_dvd (by omega) h1
  unfold Bd at *
  simp only [Int.natAbs_natCast]
  omega
theorem firstS_spec : ∀ {ns : List Int}, (∃ n ∈ ns, n ≠ 0) → firstS ns = 1 ∨ firstS ns = -1
  | [], ⟨n, h, _⟩ => by simp at h
  | n :: ns, ⟨m, hm, h0⟩ => by
    unfold firstS
    by_cases h : n = 0
    · subst h
      simp only [ne_eq, not_true_eq_false, if_false]
      rcases List.mem_cons.mp hm with e | hm
      · exact absurd e h0
      · exact firstS_spec ⟨m, hm, h0⟩
    · rw [if_pos h]
      rcases Int.lt_trichotomy n 0 with q | q | q
      · exact .inr (Int.sign_eq_neg_one_of_neg q)
      · exact absurd q h
      · exact .inl (Int.sign_eq_one_of_pos q)
/-- the least row that tells the same wall -/
def leastL (ns : List Int) : List Int := ns.map fun n => n.fdiv (gcdL ns * firstS ns)
def fdT (k : Int) : D → D
  | .int n => .int (n.fdiv k)
  | d => d
theorem map_fdT (k : Int) (ns : List Int) : (I ns).map (fdT k) = I (ns.map fun n => n.fdiv k) := by
  unfold I
  rw [List.map_map, List.map_map]
  exact List.map_congr_left fun n _ => rfl
theorem v_law_least {Z : Zc} {ns : List Int} (hl : ns.length ≤ 1000000) (hb : ∀ n ∈ ns, Bd 1900 n) (hn : ∃ n ∈ ns, n ≠ 0) : F_law_least Z [.tup (I ns)] = some (.tup (I (leastL ns))) := by
  obtain ⟨n, hn1, hn2⟩ := hn
  have hg := gcdL_pos hn1 hn2
  have hgb := gcdL_bd hn1 hn2 (hb n hn1)
  have hs := firstS_spec ⟨n, hn1, hn2⟩
  have hm : eBin sMulA (eCB (F_law_common Z) (aCons (eVar 0) aNil)) (eCB (F_law_first Z) (aCons (eVar 0) aNil)) [some (false, .tup (I ns)), none, none] = some (.int (gcdL ns * firstS ns)) := by
    refine (bin_eq ((eCB_eq (a1_eq rfl)).trans (v_law_common rfl hb)) ((eCB_eq (a1_eq rfl)).trans (v_law_first rfl))).trans (mulA (hgb.mono (by decide)) ?_)
    rcases hs with e | e <;> rw [e] <;> (unfold Bd; simp)
  have h0 : (gcdL ns : Int) * firstS ns ≠ 0 := by
    rcases hs with e | e <;> rw [e] <;> omega
  have hB : Bd 8000 ((gcdL ns : Int) * firstS ns) := by
    unfold Bd at *
    have : ((gcdL ns : Int) * firstS ns).natAbs = gcdL ns := by rcases hs with e | e <;> rw [e] <;> omega
    rw [this]
    simp only [Int.natAbs_natCast] at hgb
    exact Nat.lt_of_lt_of_le hgb (Nat.pow_le_pow_right (by decide) (by decide))
  refine fnD_rt ⟨rfl, by decide⟩ ((seq_nx (set_eq hm (by simp))).trans (ret_eq ((eCB_eq (a1_eq (comp_map (fdT (gcdL ns * firstS ns)) (ds := I ns) rfl (by rw [I_len]; exact hl) fun d hd => ?_))).trans ?_)))
  · obtain ⟨m, _, rfl⟩ := mem_I hd
    exact ⟨_, rfl, fdivA h0 hB⟩
  · rw [map_fdT]; rfl
end Sh
end Part_E11s

section Part_E11n
set_option maxRecDepth 100000
set_option maxHeartbeats 400000
/-! E11n: rows that tell one wall have one least row. -/
namespace Sh
open PySem L2
/-- |k| out of a common part -/
theorem gcdF_mul (k : Nat) : ∀ (ns : List Int) (g : Nat), gcdF (k * g) (ns.map fun n => (k : Int) * n) = k * gcdF g ns
  | [], g => rfl
  | n :: ns, g => by
    have ih := gcdF_mul k ns (Nat.gcd g n.natAbs)
    show gcdF (Nat.gcd (k * g) ((k : Int) * n).natAbs) _ = k * gcdF (Nat.gcd g n.natAbs) ns
    rw [← ih, Int.natAbs_mul, Int.natAbs_natCast, Nat.gcd_mul_left]
theorem gcdF_abs : ∀ (as bs : List Int) (g : Nat), as.map Int.natAbs = bs.map Int.natAbs → gcdF g as = gcdF g bs
  | [], [], g, _ => rfl
  | a :: as, b :: bs, g, h => by
    simp only [List.map_cons, List.cons.injEq] at h
    show gcdF (Nat.gcd g a.natAbs) as = gcdF (Nat.gcd g b.natAbs) bs
    rw [h.1]
    exact gcdF_abs as bs _ h.2
  | [], _ :: _, g, h => by simp at h
  | _ :: _, [], g, h => by simp at h
theorem gcdL_mul (k : Int) (ns : List Int) : gcdL (ns.map fun n => k * n) = k.natAbs * gcdL ns := by
  have h := gcdF_mul k.natAbs ns 0
  rw [Nat.mul_zero] at h
  rw [← h]
  refine gcdF_abs _ _ 0 ?_
  rw [List.map_map, List.map_map]
  refine List.map_congr_left fun n _ => ?_
  simp [Int.natAbs_mul]
/-- all products crosswise are alike -/
def Cross (a b : List Int) : Prop := a.length = b.length ∧ ∀ i j : Nat, i < a.length → j < a.length → a.getD i 0 * b.getD j 0 = a.getD j 0 * b.getD i 0
theorem map_getD (a : List Int) : (List.range a.length).map (fun i => a.getD i 0) = a := by
  apply List.ext_getElem
  · simp
  · intro i h1 h2
    simp [h2]
theorem cross_abs {a b : List Int} (h : Cross a b) {i : Nat} (hi : i < a.length) : (a.getD i 0).natAbs * gcdL b = gcdL a * (b.getD i 0).natAbs := by
  have e : (List.range b.length).map (fun j => a.getD i 0 * b.getD j 0) = (List.range a.length).map fun j => b.getD i 0 * a.getD j 0 := by
    rw [← h.1]
    refine List.map_congr_left fun j hj => ?_
    rw [h.2 i j hi (List.mem_range.mp hj), Int.mul_comm]
  have e1 := gcdL_mul (a.getD i 0) b
  have e2 := gcdL_mul (b.getD i 0) a
  rw [Nat.mul_comm (gcdL a), ← e1, ← e2]
  congr 1
  conv => lhs; rw [← map_getD b, List.map_map]
  conv => rhs; rw [← map_getD a, List.map_map]
  exact e
theorem firstS_at : ∀ {a : List Int}, (∃ n ∈ a, n ≠ 0) → ∃ f, f < a.length ∧ a.getD f 0 ≠ 0 ∧ firstS a = (a.getD f 0).sign ∧ ∀ j, j < f → a.getD j 0 = 0
  | [], ⟨n, h, _⟩ => by simp at h
  | n :: ns, ⟨m, hm, h0⟩ => by
    by_cases h : n = 0
    · subst h
      have hm : m ∈ ns := by
        rcases List.mem_cons.mp hm with e | hm
        · exact absurd e h0
        · exact hm
      obtain ⟨f, h1, h2, h3, h4⟩ := firstS_at ⟨m, hm, h0⟩
      refine ⟨f + 1, by simpa using h1, by simpa using h2, by simpa [firstS] using h3, fun j hj => ?_⟩
      cases j with
      | zero => rfl
      | succ j => simpa using h4 j (by omega)
    · exact ⟨0, by simp, by simpa using h, by simp [firstS, h], fun j hj => by omega⟩
theorem sign_mul_abs (n : Int) : n.sign * n.natAbs = n := Int.sign_mul_natAbs n
theorem cross_least {a b : List Int} (h : Cross a b) (ha : ∃ n ∈ a, n ≠ 0) (hb : ∃ n ∈ b, n ≠ 0) : leastL a = leastL b := by
  obtain ⟨f, f1, f2, f3, f4⟩ := firstS_at ha
  obtain ⟨f', f1', f2', f3', f4'⟩ := firstS_at hb
  have pa : 0 < gcdL a := let ⟨n, h1, h2⟩ := ha; gcdL_pos h1 h2
  have pb : 0 < gcdL b := let ⟨n, h1, h2⟩ := hb; gcdL_pos h1 h2
  have zero : ∀ i, i < a.length → (a.getD i 0 = 0 ↔ b.getD i 0 = 0) := fun i hi => by
    have e := cross_abs h hi
    constructor
    · intro z
      rw [z] at e
      simp only [Int.natAbs_zero, Nat.zero_mul] at e
      rcases Nat.mul_eq_zero.mp e.symm with z | z <;> omega
    · intro z
      rw [z] at e
      simp only [Int.natAbs_zero, Nat.mul_zero] at e
      rcases Nat.mul_eq_zero.mp e with z | z <;> omega
  have ef : f = f' := by
    rcases Nat.lt_trichotomy f f' with q | q | q
    · exact absurd ((zero f f1).mpr (f4' f q)) f2
    · exact q
    · exact absurd ((zero f' (by rw [h.1]; exact f1')).mp (f4 f' q)) f2'
  subst ef
  have sa : firstS a = 1 ∨ firstS a = -1 := firstS_spec ha
  have sb : firstS b = 1 ∨ firstS b = -1 := firstS_spec hb
  have key : ∀ i, i < a.length → a.getD i 0 * ((gcdL b : Int) * firstS b) = b.getD i 0 * ((gcdL a : Int) * firstS a) := fun i hi => by
    have e1 : (((a.getD i 0).natAbs * gcdL b : Nat) : Int) = ((gcdL a * (b.getD i 0).natAbs : Nat) : Int) := congrArg _ (cross_abs h hi)
    simp only [Int.natCast_mul] at e1
    have e2 : (a.getD f 0).sign * (b.getD i 0).sign = (a.getD i 0).sign * (b.getD f 0).sign := by
      rw [← Int.sign_mul, ← Int.sign_mul, h.2 f i f1 hi]
    rw [f3, f3']
    calc a.getD i 0 * ((gcdL b : Int) * (b.getD f 0).sign) = ((a.getD i 0).sign * (b.getD f 0).sign) * ((a.getD i 0).natAbs * (gcdL b : Int)) := by
          conv => lhs; rw [← sign_mul_abs (a.getD i 0)]
          simp only [Int.mul_assoc, Int.mul_left_comm, Int.mul_comm]
      _ = ((a.getD f 0).sign * (b.getD i 0).sign) * ((gcdL a : Int) * (b.getD i 0).natAbs) := by rw [e1, e2]
      _ = b.getD i 0 * ((gcdL a : Int) * (a.getD f 0).sign) := by
          conv => rhs; rw [← sign_mul_abs (b.getD i 0)]
          simp only [Int.mul_assoc, Int.mul_left_comm, Int.mul_comm]
  unfold leastL
  refine List.ext_getElem (by simp [h.1]) fun i h1 h2 => ?_
  simp only [List.length_map] at h1 h2
  simp only [List.getElem_map]
  have k := key i h1
  have g1 : a.getD i 0 = a[i] := by simp [h1]
  have g2 : b.getD i 0 = b[i] := by simp [h2]
  rw [g1, g2] at k
  have hA : (gcdL a : Int) * firstS a ≠ 0 := by rcases sa with e | e <;> rw [e] <;> omega
  have hB : (gcdL b : Int) * firstS b ≠ 0 := by rcases sb with e | e <;> rw [e] <;> omega
  have d1 : (gcdL a : Int) * firstS a ∣ a[i] := by
    have d := gcdL_dvd (List.getElem_mem h1)
    rcases sa with e | e <;> rw [e]
    · simpa using d
    · rw [Int.mul_neg, Int.mul_one]; exact Int.neg_dvd.mpr d
  have d2 : (gcdL b : Int) * firstS b ∣ b[i] := by
    have d := gcdL_dvd (List.getElem_mem h2)
    rcases sb with e | e <;> rw [e]
    · simpa using d
    · rw [Int.mul_neg, Int.mul_one]; exact Int.neg_dvd.mpr d
  obtain ⟨x, hx⟩ := d1
  obtain ⟨y, hy⟩ := d2
  rw [hx, hy] at k ⊢
  rw [Int.mul_fdiv_cancel_left _ hA, Int.mul_fdiv_cancel_left _ hB]
  generalize (gcdL a : Int) * firstS a = A at *
  generalize (gcdL b : Int) * firstS b = B at *
  have k2 : A * B * x = A * B * y := by rw [Int.mul_right_comm A B x, k, Int.mul_comm (B * y) A, Int.mul_assoc]
  exact Int.eq_of_mul_eq_mul_left (Int.mul_ne_zero hA hB) k2
/-! ### is_same_row -/
theorem comp2_eq {src1 : Ax} {tg1 : Gx} {el : Ex} {tg : Gx} {env0 : Env} {vs1 : List Nat} (f : D → D → D) (es : List D) : ∀ (ds acc : List D), acc.length + ds.length * es.length ≤ 1000000 →
    (∀ d ∈ ds, ∃ e1, tg d env0 = some e1 ∧ src1 e1 = some es ∧ ∀ x ∈ es, ∃ e2, tg1 x (wipeE e1 vs1) = some e2 ∧ el e2 = some (f d x)) → comp2Go src1 tg1 el tg env0 vs1 ds acc = some (acc ++ ds.flatMap fun d => es.map (f d))
  | [], acc, _, _ => by simp [comp2Go]
  | d :: ds, acc, hl, h => by
    obtain ⟨e1, h1, h2, h3⟩ := h d List.mem_cons_self
    simp only [List.length_cons, Nat.add_mul, Nat.one_mul] at hl
    have z := compGo_eq (tgt := tg1) (cond := bYes) (el := el) (env0 := wipeE e1 vs1) (f d) (fun _ => true) es acc fun x hx => let ⟨e2, a, b⟩ := h3 x hx; ⟨e2, a, rfl, fun _ => b⟩
    rw [List.filter_eq_self.mpr (fun _ _ => rfl)] at z
    have ih := comp2_eq (src1 := src1) (tg1 := tg1) (el := el) (tg := tg) (env0 := env0) (vs1 := vs1) f es ds (acc ++ es.map (f d)) (by rw [List.length_append, List.length_map]; omega) fun x hx => h x (List.mem_cons_of_mem _ hx)
    rw [comp2Go, h1]
    simp only [Option.bind_some, h2]
    rw [if_pos (by omega), z]
    simp only [Option.bind_some]
    rw [if_pos (by rw [List.length_append, List.length_map]; omega), ih]
    simp
theorem boolsD_iff : ∀ {l : List D}, (∀ d ∈ l, ∃ b, d = .bl b) → ∃ bs, boolsD l = some bs ∧ (bs.all id = true ↔ ∀ d ∈ l, d = .bl true) ∧ (bs.any id = true ↔ ∃ d ∈ l, d = .bl true)
  | [], _ => ⟨[], rfl, by simp, by simp⟩
  | d :: l, h => by
    obtain ⟨b, rfl⟩ := h d List.mem_cons_self
    obtain ⟨bs, h1, h2, h3⟩ := boolsD_iff fun x hx => h x (List.mem_cons_of_mem _ hx)
    refine ⟨b :: bs, by simp [boolsD, boolD, h1], ?_, ?_⟩
    · simp only [List.all_cons, id_eq, Bool.and_eq_true, h2, List.mem_cons, forall_eq_or_imp, D.bl.injEq]
    · simp only [List.any_cons, id_eq, Bool.or_eq_true, h3, List.mem_cons, exists_eq_or_imp, D.bl.injEq]
def sameT (a b : List Int) : D → D → D
  | .int i, .int j => .bl (decide (a.getD i.toNat 0 * b.getD j.toNat 0 = a.getD j.toNat 0 * b.getD i.toNat 0))
  | d, _ => d
theorem idx_I {ns : List Int} {i : Nat} (h : i < ns.length) : sIdx (.tup (I ns)) (.int (i : Nat)) = some (.int (ns.getD i 0)) := by
  show (ixN (I ns).length (i : Nat)).bind _ = _
  have e : ixN (I ns).length ((i : Nat) : Int) = some i := by
    unfold ixN
    rw [if_pos (by omega), if_pos (by rw [I_len]; omega)]
    simp
  rw [e]
  show (I ns)[i]? = _
  unfold I
  rw [List.getElem?_map]
  simp [h]
theorem v_is_same_row {Z : Zc} {a b : List Int} (h : a.length = b.length) (hl : a.length ≤ 1000) (ha : ∀ n ∈ a, Bd 400000 n) (hb : ∀ n ∈ b, Bd 400000 n) : ∃ k, Fis_same_row Z [.tup (I a), .tup (I b)] = some (.bl k) ∧ (k = true → Cross a b) := by
  have inA : ∀ i, i < a.length → Bd 400000 (a.getD i 0) := fun i hi => by
    have : a.getD i 0 = a[i] := by simp [hi]
    rw [this]; exact ha _ (List.getElem_mem hi)
  have inB : ∀ i, i < a.length → Bd 400000 (b.getD i 0) := fun i hi => by
    have hi' : i < b.length := by omega
    have : b.getD i 0 = b[i] := by simp [hi']
    rw [this]; exact hb _ (List.getElem_mem hi')
  have mem : ∀ {d : D}, d ∈ rangeD 0 a.length → ∃ i : Nat, i < a.length ∧ d = .int (i : Nat) := fun {d} hd => by
    unfold rangeD at hd
    obtain ⟨i, h1, h2⟩ := List.mem_map.mp hd
    exact ⟨i, List.mem_range.mp h1, by rw [← h2, Int.zero_add]⟩
  have hrng : wRng (eVar 2) [some (false, .tup (I a)), some (false, .tup (I b)), some (false, .rng 0 (a.length : Nat)), none, none] = some (rangeD 0 a.length) := by
    show (if _ then _ else _) = _
    rw [if_pos ⟨by omega, by omega⟩]
    simp
  have comp : eComp2 (wRng (eVar 2)) [3, 4] [4] (gV 3) (wRng (eVar 2)) (gV 4) (eBin sEq (eBin sMulA (eIdxV 0 (eVar 3)) (eIdxV 1 (eVar 4))) (eBin sMulA (eIdxV 0 (eVar 4)) (eIdxV 1 (eVar 3))))
      [some (false, .tup (I a)), some (false, .tup (I b)), some (false, .rng 0 (a.length : Nat)), none, none] = some (.lst ((rangeD 0 a.length).flatMap fun d => (rangeD 0 a.length).map (sameT a b d))) := by
    unfold eComp2
    rw [hrng]
    have hz := comp2_eq (src1 := wRng (eVar 2)) (tg1 := gV 4) (el := eBin sEq (eBin sMulA (eIdxV 0 (eVar 3)) (eIdxV 1 (eVar 4))) (eBin sMulA (eIdxV 0 (eVar 4)) (eIdxV 1 (eVar 3)))) (tg := gV 3)
      (env0 := wipeE [some (false, .tup (I a)), some (false, .tup (I b)), some (false, .rng 0 (a.length : Nat)), none, none] [3, 4]) (vs1 := [4]) (sameT a b) (rangeD 0 a.length) (rangeD 0 a.length) [] (by
        rw [rangeD_length]
        have := Nat.mul_le_mul hl hl
        simp only [List.length_nil]
        omega) fun d hd => by
        obtain ⟨i, hi, rfl⟩ := mem hd
        refine ⟨[some (false, .tup (I a)), some (false, .tup (I b)), some (false, .rng 0 (a.length : Nat)), some (false, .int i), none], rfl, ?_, fun x hx => ?_⟩
        · show (if _ then _ else _) = _
          rw [if_pos ⟨by omega, by omega⟩]
          simp
        · obtain ⟨j, hj, rfl⟩ := mem hx
          refine ⟨_, rfl, ?_⟩
          have m1 : eBin sMulA (eIdxV 0 (eVar 3)) (eIdxV 1 (eVar 4)) [some (false, .tup (I a)), some (false, .tup (I b)), some (false, .rng 0 (a.length : Nat)), some (false, .int i), some (false, .int j)] = some (.int (a.getD i 0 * b.getD j 0)) :=
            (bin_eq (idx_I hi) (idx_I (by omega))).trans (mulA (inA i hi) (inB j hj))
          have m2 : eBin sMulA (eIdxV 0 (eVar 4)) (eIdxV 1 (eVar 3)) [some (false, .tup (I a)), some (false, .tup (I b)), some (false, .rng 0 (a.length : Nat)), some (false, .int i), some (false, .int j)] = some (.int (a.getD j 0 * b.getD i 0)) :=
            (bin_eq (idx_I hj) (idx_I (by omega))).trans (mulA (inA j hj) (inB i hi))
          exact (bin_eq m1 m2).trans (by simp [sEq, eqD, sameT])
    rw [show (some (rangeD 0 a.length)).bind (fun ds => (comp2Go (wRng (eVar 2)) (gV 4) (eBin sEq (eBin sMulA (eIdxV 0 (eVar 3)) (eIdxV 1 (eVar 4))) (eBin sMulA (eIdxV 0 (eVar 4)) (eIdxV 1 (eVar 3)))) (gV 3) (wipeE [some (false, .tup (I a)), some (false, .tup (I b)), some (false, .rng 0 (a.length : Nat)), none, none] [3, 4]) [4] ds []).map D.lst) = _ from congrArg (Option.map D.lst) hz]
    simp
  obtain ⟨bs, h1, h2, _⟩ := boolsD_iff (l := (rangeD 0 a.length).flatMap fun d => (rangeD 0 a.length).map (sameT a b d)) fun d hd => by
    obtain ⟨x, hx, hd⟩ := List.mem_flatMap.mp hd
    obtain ⟨y, hy, rfl⟩ := List.mem_map.mp hd
    obtain ⟨i, _, rfl⟩ := mem hx
    obtain ⟨j, _, rfl⟩ := mem hy
    exact ⟨_, rfl⟩
  refine ⟨bs.all id, ?_, fun hk => ⟨h, fun i j hi hj => ?_⟩⟩
  · have e0 : eCB cRange (aCons (eCB cLen (aCons (eVar 0) aNil)) aNil) [some (false, .tup (I a)), some (false, .tup (I b)), none, none, none] = some (.rng 0 (a.length : Nat)) := by
      refine (eCB_eq (a1_eq ((eCB_eq (a1_eq rfl)).trans rfl))).trans ?_
      rw [I_len]; rfl
    refine fnD_rt ⟨rfl, by decide⟩ ((seq_nx (set_eq e0 (by simp))).trans (ret_eq ((eCB_eq (a1_eq comp)).trans ?_)))
    show (boolsD _).map _ = _
    rw [h1]; rfl
  · have z := h2.mp hk (sameT a b (.int (i : Nat)) (.int (j : Nat))) (List.mem_flatMap.mpr ⟨.int (i : Nat), ?_, List.mem_map.mpr ⟨.int (j : Nat), ?_, rfl⟩⟩)
    · simpa [sameT] using z
    · unfold rangeD; exact List.mem_map.mpr ⟨i, List.mem_range.mpr hi, by rw [Int.zero_add]⟩
    · unfold rangeD; exact List.mem_map.mpr ⟨j, List.mem_range.mpr hj, by rw [Int.zero_add]⟩
end Sh
end Part_E11n

section Part_E11v
set_option maxRecDepth 100000
set_option maxHeartbeats 400000
/-! E11v: walls, points: what k11's defs answer. -/
namespace Sh
open PySem L2
/-! ### steps over W -/
section
variable {env e : Env} {a b : Sw} {m : Ew} {d : D} {i : Nat} {src : Aw} {tg : Gx} {ds : List D} {c : Tw} {k : Bool}
theorem wseq_nx (h : a env = .ret (.nx e)) : wsSeq a b env = b e := by unfold wsSeq; rw [h]; rfl
theorem wseq_rt (h : a env = .ret (.rt d)) : wsSeq a b env = .ret (.rt d) := by unfold wsSeq; rw [h]; rfl
theorem wset_eq (h : m env = .ret d) (hi : i < env.length) : wsSet i m env = .ret (.nx (env.set i (some (false, d)))) := by unfold wsSet; rw [h]; show (if _ then _ else _) = _; rw [if_pos hi]
theorem wret_eq (h : m env = .ret d) : wsRet m env = .ret (.rt d) := by unfold wsRet; rw [h]; rfl
theorem wif_eq (h : c env = .ret k) : wsIf c a b env = if k then a env else b env := by unfold wsIf; rw [h]; rfl
theorem wif_f (h : c env = .ret false) : wsIf c a b env = b env := wif_eq h
theorem wif_t (h : c env = .ret true) : wsIf c a b env = a env := wif_eq h
theorem wfor_eq (h : src env = .ret ds) : wsFor src tg b env = forGoW tg b ds env := by unfold wsFor; rw [h]; rfl
theorem forGoW_cons {env1 : Env} (ht : tg d env = some env1) (hb : b env1 = .ret (.nx e)) : forGoW tg b (d :: ds) env = forGoW tg b ds e := by rw [forGoW, ht]; show (b env1).bind _ = _; rw [hb]; rfl
theorem eL_eq {m : Ex} (h : m env = some d) : eL m env = .ret d := by unfold eL; rw [h]; rfl
theorem tL_eq {m : Tx} (h : m env = some k) : tL m env = .ret k := by unfold tL; rw [h]; rfl
theorem aL_eq {m : Ax} (h : m env = some ds) : aL m env = .ret ds := by unfold aL; rw [h]; rfl
end
/-! ### walls -/
def R (rows : List (List Int)) : List D := rows.map fun ns => D.tup (I ns)
def wallsD (Z : Zc) (size : Nat) (rows : List (List Int)) : D := .ins Z.WC ["size", "rows"] [.int size, .tup (R rows)]
structure RowOk (size : Nat) (ns : List Int) : Prop where
  len : ns.length = size + 1
  some_ : ∃ n ∈ ns.dropLast, n ≠ 0
  bd : ∀ n ∈ ns, Bd 41 n
structure SetOk (size : Nat) (rows : List (List Int)) : Prop where
  lo : 1 ≤ size
  hi : size ≤ 4
  many : rows.length ≤ 10
  row : ∀ ns ∈ rows, RowOk size ns
  un : rows.Pairwise fun a b => leastL a ≠ leastL b
theorem RowOk.nz {size : Nat} {ns : List Int} (h : RowOk size ns) : ∃ n ∈ ns, n ≠ 0 := let ⟨n, h1, h2⟩ := h.some_; ⟨n, List.dropLast_subset _ h1, h2⟩
theorem cut_init (ds : List D) : cutD ds none (some (-1)) = ds.dropLast := by
  rw [List.dropLast_eq_take]
  show (ds.drop 0).take ((if (-1 : Int) < 0 then ((-1 : Int) + (ds.length : Int)).toNat else min (-1 : Int).toNat ds.length) - 0) = _
  rw [if_pos (by decide), List.drop_zero]
  congr 1
  omega
theorem slI {ns : List Int} {env : Env} {i : Nat} (h : env[i]? = some (some (false, .tup (I ns)))) : eSl (eVar i) oNone (oSome (eNeg (eC (.int 1)))) env = some (.tup (I ns.dropLast)) := by
  have e : eVar i env = some (.tup (I ns)) := by unfold eVar; rw [h]
  unfold eSl
  rw [e]
  show some (D.tup (cutD (I ns) none (some (-1)))) = _
  rw [cut_init]
  unfold I
  rw [List.map_dropLast]
def neT : D → D
  | .int n => .bl (decide (n ≠ 0))
  | d => d
theorem all_true {l : List D} (h : ∀ d ∈ l, d = .bl true) : cAll [.lst l] = some (.bl true) := by
  obtain ⟨bs, h1, h2, _⟩ := boolsD_iff (l := l) fun d hd => ⟨true, h d hd⟩
  show (boolsD l).map _ = _
  rw [h1]
  simp [h2.mpr h]
theorem any_true {l : List D} (h : ∀ d ∈ l, ∃ b, d = .bl b) (h2 : ∃ d ∈ l, d = .bl true) : cAny [.lst l] = some (.bl true) := by
  obtain ⟨bs, h1, _, h3⟩ := boolsD_iff h
  show (boolsD l).map _ = _
  rw [h1]
  simp [h3.mpr h2]
theorem any_false {l : List D} (h : ∀ d ∈ l, d = .bl false) : cAny [.lst l] = some (.bl false) := by
  obtain ⟨bs, h1, _, h3⟩ := boolsD_iff (l := l) fun d hd => ⟨false, h d hd⟩
  show (boolsD l).map _ = _
  rw [h1]
  have : bs.any id = false := by
    cases q : bs.any id with
    | false => rfl
    | true =>
      obtain ⟨d, hd, e⟩ := h3.mp q
      rw [h d hd] at e; cases e
  simp [this]
theorem v_is_row {Z : Zc} {size : Nat} {ns : List Int} (hl : ns.length = size + 1) (h : ∃ n ∈ ns.dropLast, n ≠ 0) (hz : size ≤ 1000) : Fis_row Z [.int size, .tup (I ns)] = some (.bl true) := by
  have t1 : bOf (eCB (Fis_tuple Z) (aCons (eVar 1) (aCons (eBin sAddA (eVar 0) (eC (.int 1))) aNil))) [some (false, .int size), some (false, .tup (I ns)), none] = some true := by
    refine bof_eq ((eCB_eq (a2_eq rfl ((bin_eq rfl rfl).trans rfl))).trans (v_is_tuple.trans ?_))
    rw [I_len, hl]
    simp
  have t2 : eComp (wItems (eVar 1)) [2] (gV 2) bYes (eCB (Fis_number Z) (aCons (eVar 2) aNil)) [some (false, .int size), some (false, .tup (I ns)), none] = some (.lst ((I ns).map fun _ => .bl true)) :=
    comp_map (fun _ => .bl true) rfl (by rw [I_len]; omega) fun d hd => by
      obtain ⟨n, _, rfl⟩ := mem_I hd
      exact ⟨_, rfl, (eCB_eq (a1_eq rfl)).trans (v_is_number rfl)⟩
  have t3 : bOr (bNot (bOf (eCB (Fis_tuple Z) (aCons (eVar 1) (aCons (eBin sAddA (eVar 0) (eC (.int 1))) aNil))))) (bNot (bOf (eCB cAll (aCons (eComp (wItems (eVar 1)) [2] (gV 2) bYes (eCB (Fis_number Z) (aCons (eVar 2) aNil))) aNil)))) [some (false, .int size), some (false, .tup (I ns)), none] = some false := by
    unfold bOr bNot
    rw [t1, bof_eq ((eCB_eq (a1_eq t2)).trans (all_true fun d hd => by
      obtain ⟨_, _, e⟩ := List.mem_map.mp hd
      exact e.symm))]
    rfl
  have t4 : eComp (wItems (eSl (eVar 1) oNone (oSome (eNeg (eC (.int 1)))))) [2] (gV 2) bYes (eBin sNe (ePk 2) (eC (.int 0))) [some (false, .int size), some (false, .tup (I ns)), none] = some (.lst ((I ns.dropLast).map neT)) := by
    refine comp_map neT (ds := I ns.dropLast) ?_ (by rw [I_len, List.length_dropLast]; omega) fun d hd => ?_
    · unfold wItems
      rw [slI rfl]; rfl
    · obtain ⟨n, _, rfl⟩ := mem_I hd
      exact ⟨[some (false, .int size), some (false, .tup (I ns)), some (false, .int n)], rfl, by simp [eBin, ePk, eC, sNe, eqD, neT]⟩
  refine fnD_rt ⟨rfl, by decide⟩ ((seq_nx ((if_eq t3).trans rfl)).trans (ret_eq ((eCB_eq (a1_eq t4)).trans (any_true (fun d hd => ?_) ?_))))
  · obtain ⟨x, hx, rfl⟩ := List.mem_map.mp hd
    obtain ⟨n, _, rfl⟩ := mem_I hx
    exact ⟨_, rfl⟩
  · obtain ⟨n, hn, h0⟩ := h
    exact ⟨_, List.mem_map.mpr ⟨.int n, List.mem_map.mpr ⟨n, hn, rfl⟩, rfl⟩, by simp [neT, h0]⟩
theorem v_is_between {Z : Zc} {i lo hi : Int} (h1 : lo ≤ i) (h2 : i ≤ hi) : Fis_between Z [.int i, .int lo, .int hi] = some (.bl true) := by
  have t : eCB (Fis_number Z) (aCons (eVar 0) aNil) [some (false, .int i), some (false, .int lo), some (false, .int hi)] = some (.bl true) := (eCB_eq (a1_eq rfl)).trans (v_is_number rfl)
  refine fnD_rt ⟨rfl, by decide⟩ (ret_eq (show eAnd _ _ [some (false, .int i), some (false, .int lo), some (false, .int hi)] = _ from ?_))
  unfold eAnd
  rw [bof_eq t]
  simp [eChain, eVar, sCmp, fLe, h1, h2]
/-- the loop that takes the rows -/
theorem walls_loop {Z : Zc} {size : Nat} {self rs : D} (hz : size ≤ 4) : ∀ (rows kept : List (List Int)) (k : Nat) (p4 p5 : Option (Bool × D)), (kept ++ rows).length ≤ 10 → (∀ ns ∈ kept ++ rows, RowOk size ns) → (kept ++ rows).Pairwise (fun a b => leastL a ≠ leastL b) →
    ∃ y4 y5, forGoW (gT 2 (gsCons (gV 4) (gsCons (gV 5) gsNil))) (wsSeq (wsIf (tL (bOr (bNot (bOf (eCB (Fis_row Z) (aCons (eVar 1) (aCons (eVar 5) aNil))))) (bOf (eCB cAny (aCons (eComp (wItems (eVar 3)) [6] (gV 6) bYes (eCB (Fis_same_row Z) (aCons (eVar 6) (aCons (eVar 5) aNil)))) aNil))))) (wsRaise (Z.xa "BadWalls") (eL (eVar 4))) wsNil) (wsSet 3 (eL (eLst (aStar (eVar 3) (aCons (eVar 5) aNil))))))
      ((R rows).mapIdx fun i d => .tup [.int ((i + k : Nat) : Int), d]) [some (false, self), some (false, .int size), some (false, rs), some (false, .lst (R kept)), p4, p5, none] = .ret (.nx [some (false, self), some (false, .int size), some (false, rs), some (false, .lst (R (kept ++ rows))), y4, y5, none])
  | [], kept, k, p4, p5, _, _, _ => ⟨p4, p5, by rw [List.append_nil]; rfl⟩
  | ns :: rows, kept, k, p4, p5, hl, hr, hp => by
    have hns := hr ns (by simp)
    have hkept : ∀ m ∈ kept, RowOk size m := fun m hm => hr m (by simp [hm])
    have hun : ∀ m ∈ kept, leastL m ≠ leastL ns := fun m hm => (List.pairwise_append.mp hp).2.2 m hm ns (by simp)
    obtain ⟨y4, y5, hy⟩ := walls_loop (Z := Z) (self := self) (rs := rs) hz rows (kept ++ [ns]) (k + 1) (some (false, .int (k : Nat))) (some (false, .tup (I ns))) (by simpa using hl) (by simpa using hr) (by simpa using hp)
    refine ⟨y4, y5, ?_⟩
    have e2 : (R (ns :: rows)).mapIdx (fun i d => D.tup [.int ((i + k : Nat) : Int), d]) = .tup [.int ((0 + k : Nat) : Int), .tup (I ns)] :: (R rows).mapIdx fun i d => .tup [.int ((i + (k + 1) : Nat) : Int), d] := by
      show List.mapIdx _ (D.tup (I ns) :: R rows) = _
      rw [List.mapIdx_cons]
      congr 1
      congr 1
      funext i d
      rw [Nat.add_right_comm, Nat.add_assoc]
    rw [e2]
    have t1 : bOf (eCB (Fis_row Z) (aCons (eVar 1) (aCons (eVar 5) aNil))) [some (false, self), some (false, .int size), some (false, rs), some (false, .lst (R kept)), some (false, .int ((0 + k : Nat) : Int)), some (false, .tup (I ns)), none] = some true :=
      bof_eq ((eCB_eq (a2_eq rfl rfl)).trans (v_is_row hns.len hns.some_ (by omega)))
    have t2 : eComp (wItems (eVar 3)) [6] (gV 6) bYes (eCB (Fis_same_row Z) (aCons (eVar 6) (aCons (eVar 5) aNil))) [some (false, self), some (false, .int size), some (false, rs), some (false, .lst (R kept)), some (false, .int ((0 + k : Nat) : Int)), some (false, .tup (I ns)), none] = some (.lst ((R kept).map fun _ => .bl false)) := by
      refine comp_map (fun _ => .bl false) (ds := R kept) rfl (by unfold R; rw [List.length_map]; simp at hl; omega) fun d hd => ?_
      obtain ⟨m, hm, rfl⟩ := List.mem_map.mp hd
      have hmk := hkept m hm
      obtain ⟨kk, h1, h2⟩ := v_is_same_row (Z := Z) (a := m) (b := ns) (by rw [hmk.len, hns.len]) (by rw [hmk.len]; omega) (fun n hn => (hmk.bd n hn).mono (by decide)) fun n hn => (hns.bd n hn).mono (by decide)
      have hk : kk = false := by
        cases kk with
        | false => rfl
        | true => exact absurd (cross_least (h2 rfl) hmk.nz hns.nz) (hun m hm)
      refine ⟨_, rfl, (eCB_eq (a2_eq rfl rfl)).trans ?_⟩
      rw [h1, hk]
    have t3 : tL (bOr (bNot (bOf (eCB (Fis_row Z) (aCons (eVar 1) (aCons (eVar 5) aNil))))) (bOf (eCB cAny (aCons (eComp (wItems (eVar 3)) [6] (gV 6) bYes (eCB (Fis_same_row Z) (aCons (eVar 6) (aCons (eVar 5) aNil)))) aNil))))
        [some (false, self), some (false, .int size), some (false, rs), some (false, .lst (R kept)), some (false, .int ((0 + k : Nat) : Int)), some (false, .tup (I ns)), none] = .ret false := by
      refine tL_eq ?_
      unfold bOr bNot
      rw [t1, bof_eq ((eCB_eq (a1_eq t2)).trans (any_false fun d hd => by
        obtain ⟨_, _, e⟩ := List.mem_map.mp hd
        exact e.symm))]
      rfl
    have t4 : eLst (aStar (eVar 3) (aCons (eVar 5) aNil)) [some (false, self), some (false, .int size), some (false, rs), some (false, .lst (R kept)), some (false, .int ((0 + k : Nat) : Int)), some (false, .tup (I ns)), none] = some (.lst (R (kept ++ [ns]))) := by
      show (if (R kept ++ [D.tup (I ns)]).length ≤ 1000000 then some (D.lst (R kept ++ [D.tup (I ns)])) else none) = _
      rw [if_pos (by unfold R; simp at hl ⊢; omega)]
      unfold R
      simp
    have hstep := (wseq_nx ((wif_f (a := wsRaise (Z.xa "BadWalls") (eL (eVar 4))) (b := wsNil) t3).trans rfl)).trans (wset_eq (i := 3) (eL_eq t4) (by simp))
    refine (forGoW_cons (env1 := [some (false, self), some (false, .int size), some (false, rs), some (false, .lst (R kept)), some (false, .int ((0 + k : Nat) : Int)), some (false, .tup (I ns)), none]) rfl hstep).trans ?_
    rw [show kept ++ ns :: rows = (kept ++ [ns]) ++ rows by simp, ← hy, Nat.zero_add]
    rfl
theorem ret_wp {α : Type} {a : α} {Q : α → Prop} {E : Xn → Prop} (h : Q a) : (W.ret a).wp Q E := h
/-- Walls(size, rows) -/
theorem v_walls {Z : Zc} {size : Nat} {rows : List (List Int)} (h : SetOk size rows) {Q : D → Prop} {E : Xn → Prop} (q : Q (wallsD Z size rows)) : (FWalls Z [.int size, .tup (R rows)]).wp Q E := by
  intro self hself
  obtain ⟨y4, y5, hy⟩ := walls_loop (Z := Z) (self := self) (rs := .tup (R rows)) (size := size) h.hi rows [] 0 none none (by simpa using h.many) (by simpa using h.row) (by simpa using h.un)
  have hm : mWalls Z (startE 7 [self, .int size, .tup (R rows)]) = .ret (.nx [some (false, self), some (false, .int size), some (false, .tup (R rows)), some (false, .lst (R rows)), y4, y5, none]) := by
    have t1 : tL (bNot (bOf (eCB (Fis_between Z) (aCons (eVar 1) (aCons (eC (.int 1)) (aCons (eC (.int 4)) aNil)))))) [some (false, self), some (false, .int size), some (false, .tup (R rows)), none, none, none, none] = .ret false := by
      have hlo := h.lo
      have hhi := h.hi
      refine tL_eq ?_
      unfold bNot
      rw [bof_eq (k := true) (show eCB (Fis_between Z) _ [some (false, self), some (false, .int size), some (false, .tup (R rows)), none, none, none, none] = _ from (eCB_eq (xs := [.int size, .int 1, .int 4]) rfl).trans (v_is_between (by omega) (by omega)))]
      rfl
    have t2 : tL (bOr (bNot (bOf (eCB (Fis_list Z) (aCons (eVar 2) aNil)))) (bBin (sCmp fGt) (eCB cLen (aCons (eVar 2) aNil)) (eC (.int 10)))) [some (false, self), some (false, .int size), some (false, .tup (R rows)), none, none, none, none] = .ret false := by
      refine tL_eq ?_
      unfold bOr bNot
      rw [bof_eq (k := true) (show eCB (Fis_list Z) _ [some (false, self), some (false, .int size), some (false, .tup (R rows)), none, none, none, none] = _ from (eCB_eq (a1_eq rfl)).trans v_is_list)]
      have hm := h.many
      have hm2 : ¬ ((10 : Int) < ((R rows).length : Nat)) := by unfold R; rw [List.length_map]; omega
      have hz : bBin (sCmp fGt) (eCB cLen (aCons (eVar 2) aNil)) (eC (.int 10)) [some (false, self), some (false, .int size), some (false, .tup (R rows)), none, none, none, none] = some false := by
        refine bbin_eq (d := .int ((R rows).length : Nat)) (d2 := .int 10) ((eCB_eq (a1_eq rfl)).trans rfl) rfl ?_
        simp [sCmp, fGt, hm2]
      simp only [Option.map_some, Bool.not_true, Option.bind_some, Bool.false_eq_true, if_false]
      exact hz
    refine (wseq_nx (e := [some (false, self), some (false, .int size), some (false, .tup (R rows)), none, none, none, none]) ((wif_f t1).trans rfl)).trans ?_
    refine (wseq_nx (e := [some (false, self), some (false, .int size), some (false, .tup (R rows)), none, none, none, none]) ((wif_f t2).trans rfl)).trans ?_
    refine (wseq_nx (wset_eq (i := 3) (d := .lst []) (eL_eq rfl) (by simp))).trans ?_
    exact (wfor_eq (ds := enumD (R rows)) (aL_eq rfl)).trans hy
  have hl : ([D.int size, .tup (R rows)].length = 2 ∧ 2 + 1 ≤ 7) := ⟨rfl, by decide⟩
  obtain ⟨a, rfl⟩ := hself
  show ((if [D.int size, .tup (R rows)].length = 2 ∧ 2 + 1 ≤ 7 then (mWalls Z (startE 7 [.raw (.ref a), .int size, .tup (R rows)])).bind _ else .fail : W D)).wp Q E
  rw [if_pos hl, hm]
  show ((if selfIs (.raw (.ref a)) _ = true then _ else _ : W D)).wp Q E
  have hs : selfIs (.raw (.ref a)) [some (false, .raw (.ref a)), some (false, .int size), some (false, .tup (R rows)), some (false, .lst (R rows)), y4, y5, none][0]? = true := by
    show decide (V.ref a = V.ref a) = true
    simp
  rw [if_pos hs]
  exact q
end Sh
end Part_E11v

section Part_E11w
set_option maxRecDepth 100000
set_option maxHeartbeats 400000
/-! E11w: points: k11's judges of any value. -/
namespace Sh
open PySem L2
section
variable {env : Env} {a b : Tx} {m n : Ex} {k : Bool} {d : D}
theorem or_t (h : a env = some true) : bOr a b env = some true := by unfold bOr; rw [h]; rfl
theorem or_f (h : a env = some false) : bOr a b env = b env := by unfold bOr; rw [h]; rfl
theorem and_t (h : a env = some true) : bAnd a b env = b env := by unfold bAnd; rw [h]; rfl
theorem and_f (h : a env = some false) : bAnd a b env = some false := by unfold bAnd; rw [h]; rfl
theorem not_eq (h : a env = some k) : bNot a env = some (!k) := by unfold bNot; rw [h]; rfl
theorem eand_f (h : m env = some (.bl false)) : eAnd m n env = some (.bl false) := by unfold eAnd; rw [bof_eq h]; rfl
theorem eand_t (h : m env = some (.bl true)) : eAnd m n env = n env := by unfold eAnd; rw [bof_eq h]; rfl
end
theorem eqvAll_ones : ∀ k : Nat, PyData.eqvAll (List.replicate (k + 1) (.int 1)) [] = false := fun k => rfl
theorem dpys_ones : ∀ k : Nat, dpys (List.replicate k (.int 1)) = some (List.replicate k (.int 1))
  | 0 => rfl
  | k + 1 => by
    have ih := dpys_ones k
    show (dpy (.int 1)).bind (fun p => (dpys (List.replicate k (.int 1))).map (p :: ·)) = _
    rw [ih]; rfl
theorem lay_ones : ∀ k : Nat, PyData.canLayAll0 (List.replicate k (.int 1)) = true
  | 0 => by simp [PyData.canLayAll0]
  | k + 1 => by
    have ih := lay_ones k
    rw [List.replicate_succ]
    simp [PyData.canLayAll0, PyData.canLay0, ih]
theorem depth_ones : ∀ k : Nat, PyData.depthAll (List.replicate k (.int 1)) ≤ 1
  | 0 => by decide
  | k + 1 => by
    have ih := depth_ones k
    rw [List.replicate_succ]
    simp only [PyData.depthAll, PyData.depth]
    omega
theorem eq_ones (k : Nat) : sEq (.lst (List.replicate k (.int 1))) (.lst []) = some (.bl (decide (k = 0))) := by
  have h1 : dpy (.lst (List.replicate k (.int 1))) = some (.list (List.replicate k (.int 1))) := by
    show (dpys _).map _ = _
    rw [dpys_ones]; rfl
  have h2 : SeqAt.shaped (.list (List.replicate k (.int 1))) = true := by
    unfold SeqAt.shaped
    have hd := depth_ones k
    simp [PyData.canLay0, lay_ones, PyData.depth]
    omega
  have h3 : SeqAt.shaped (.list []) = true := by decide
  show (eqD _ _).map _ = _
  unfold eqD
  show ((dpy (.lst (List.replicate k (.int 1)))).bind _).map _ = _
  rw [h1]
  show ((if SeqAt.shaped _ = true ∧ SeqAt.shaped (.list []) = true then some (PyData.eqv _ (.list [])) else none : Option Bool)).map D.bl = _
  rw [if_pos ⟨h2, h3⟩]
  cases k with
  | zero => rfl
  | succ k => simp [PyData.eqv, PyData.eqvAll, List.replicate_succ]
/-- a point: the numbers above, the number below -/
def ptD (ns : List Int) (b : Int) : D := .tup [.tup (I ns), .int b]
structure PtOk (size : Nat) (k : Nat) (ns : List Int) (b : Int) : Prop where
  len : ns.length = size
  pos : 1 ≤ b
  gcd : gcdL (ns ++ [b]) = 1
  bd : ∀ n ∈ ns, Bd k n
  bb : Bd k b
/-- a value that the judges can look at -/
structure Nice (d : D) : Prop where
  b : basic d = true
  two : ∀ x y, d = .tup [x, y] → basic x = true ∧ basic y = true ∧ (∀ n, y = .int n → Bd 1800 n) ∧ ∀ es, x = .tup es → es.length ≤ 1000 ∧ ∀ e ∈ es, basic e = true ∧ ∀ n, e = .int n → Bd 1800 n
theorem all_nums : ∀ {es : List D}, es.all isNum = true → ∃ ns, es = I ns
  | [], _ => ⟨[], rfl⟩
  | e :: es, h => by
    obtain ⟨h1, h2⟩ := Bool.and_eq_true_iff.mp (show (isNum e && es.all isNum) = true from h)
    obtain ⟨ns, rfl⟩ := all_nums h2
    cases e with
    | int n => exact ⟨n :: ns, rfl⟩
    | _ => cases h1
theorem cAll_map {es : List D} : cAll [.lst (es.map fun d => .bl (isNum d))] = some (.bl (es.all isNum)) := by
  show (boolsD _).map _ = _
  rw [boolsD_map]
  simp [List.all_map, Function.comp_def]
theorem v_law_is_row {Z : Zc} {es : List D} {size : Nat} (hl : es.length ≤ 1000) (h : ∀ e ∈ es, basic e = true) : F_law_is_row Z [.tup es, .int size] = some (.bl (decide (es.length = size) && es.all isNum)) := by
  have t1 : eIsi "tuple" (eVar 0) [some (false, .tup es), some (false, .int size), none] = some (.bl true) := rfl
  have t2 : eBin sEq (eCB cLen (aCons (eVar 0) aNil)) (ePk 1) [some (false, .tup es), some (false, .int size), none] = some (.bl (decide (es.length = size))) := by
    refine (bin_eq (d := .int (es.length : Nat)) ((eCB_eq (a1_eq rfl)).trans rfl) rfl).trans ?_
    simp [sEq, eqD]
    omega
  have t3 : eComp (wItems (eVar 0)) [2] (gV 2) (bNot (bOf (eCB (F_law_is_number Z) (aCons (eVar 2) aNil)))) (eC (.int 1)) [some (false, .tup es), some (false, .int size), none] = some (.lst ((es.filter fun d => !isNum d).map fun _ => .int 1)) :=
    comp_eq (fun _ => .int 1) (fun d => !isNum d) rfl (by omega) fun d hd => ⟨[some (false, .tup es), some (false, .int size), some (false, d)], rfl, not_eq (bof_eq ((eCB_eq (a1_eq rfl)).trans (v_law_is_number (h d hd)))), fun _ => rfl⟩
  have t4 : eBin sEq (eComp (wItems (eVar 0)) [2] (gV 2) (bNot (bOf (eCB (F_law_is_number Z) (aCons (eVar 2) aNil)))) (eC (.int 1))) (eLst aNil) [some (false, .tup es), some (false, .int size), none] = some (.bl (es.all isNum)) := by
    refine (bin_eq t3 rfl).trans ?_
    rw [List.map_const', eq_ones]
    congr 2
    rw [Bool.eq_iff_iff]
    simp [List.filter_eq_nil_iff]
  refine fnD_rt ⟨rfl, by decide⟩ (ret_eq ((eand_t t1).trans ?_))
  cases hs : decide (es.length = size) with
  | false =>
    rw [hs] at t2
    exact (eand_f t2).trans (by simp)
  | true =>
    rw [hs] at t2
    exact (eand_t t2).trans (t4.trans (by simp))
theorem v_law_is_row0 {Z : Zc} {d : D} {n : D} (h : basic d = true) (h2 : isTup d = false) : F_law_is_row Z [d, n] = some (.bl false) := by
  cases d <;> first | rfl | (simp [isTup] at h2; done) | (simp [basic, tyD] at h; done)
abbrev cO (Z : Zc) : Tx := (bOr (bNot (bOf (eCB (Fis_tuple Z) (aCons (eVar 1) (aCons (eC (.int 2)) aNil))))) (bOr (bNot (bOf (eCB (Fis_tuple Z) (aCons (eIdxV 1 (eC (.int 0))) (aCons (eVar 0) aNil))))) (bOr (bNot (bOf (eCB (Fis_number Z) (aCons (eIdxV 1 (eC (.int 1))) aNil)))) (bBin (sCmp fLt) (eIdxV 1 (eC (.int 1))) (eC (.int 1))))))
abbrev cL (Z : Zc) : Tx := (bOr (bNot (bOf (eIsi "tuple" (eVar 1)))) (bOr (bBin sNe (eCB cLen (aCons (eVar 1) aNil)) (eC (.int 2))) (bOr (bNot (bOf (eCB (F_law_is_row Z) (aCons (eIdxV 1 (eC (.int 0))) (aCons (eVar 0) aNil))))) (bOr (bNot (bOf (eCB (F_law_is_number Z) (aCons (eIdxV 1 (eC (.int 1))) aNil)))) (bBin (sCmp fLt) (eIdxV 1 (eC (.int 1))) (eC (.int 1)))))))
theorem if_t {env : Env} {c : Tx} {a b : Sx} (h : c env = some true) : sIf c a b env = a env := if_eq h
theorem if_f {env : Env} {c : Tx} {a b : Sx} (h : c env = some false) : sIf c a b env = b env := if_eq h
theorem over_f {Z : Zc} {s d : D} (h : cO Z [some (false, s), some (false, d), none] = some true) : Fis_over_row Z [s, d] = some (.bl false) := fnD_rt ⟨rfl, by decide⟩ (seq_rt ((if_t h).trans rfl))
theorem lawp_f {Z : Zc} {s d : D} (h : cL Z [some (false, s), some (false, d)] = some true) : F_law_is_point Z [s, d] = some (.bl false) := fnD_rt ⟨rfl, by decide⟩ (seq_rt ((if_t h).trans rfl))
theorem over_t {Z : Zc} {s d r : D} (h : cO Z [some (false, s), some (false, d), none] = some false) (h2 : eAnd (eCB cAll (aCons (eComp (wItems (eIdxV 1 (eC (.int 0)))) [2] (gV 2) bYes (eCB (Fis_number Z) (aCons (eVar 2) aNil))) aNil)) (eBin sEq (eCB (Fcommon_part Z) (aCons (eLst (aStar (eIdxV 1 (eC (.int 0))) (aCons (eIdxV 1 (eC (.int 1))) aNil))) aNil)) (eC (.int 1)))
    [some (false, s), some (false, d), none] = some r) : Fis_over_row Z [s, d] = some r := fnD_rt ⟨rfl, by decide⟩ ((seq_nx ((if_f h).trans rfl)).trans (ret_eq h2))
theorem lawp_t {Z : Zc} {s d r : D} (h : cL Z [some (false, s), some (false, d)] = some false) (h2 : eBin sEq (eCB (F_law_common Z) (aCons (eBin sAddA (eCB cList (aCons (eIdxV 1 (eC (.int 0))) aNil)) (eLst (aCons (eIdxV 1 (eC (.int 1))) aNil))) aNil)) (eC (.int 1)) [some (false, s), some (false, d)] = some r) : F_law_is_point Z [s, d] = some r :=
  fnD_rt ⟨rfl, by decide⟩ ((seq_nx ((if_f h).trans rfl)).trans (ret_eq h2))
theorem I_inj : ∀ {a b : List Int}, I a = I b → a = b
  | [], [], _ => rfl
  | x :: a, y :: b, h => by
    have h : D.int x :: I a = D.int y :: I b := h
    simp only [List.cons.injEq, D.int.injEq] at h
    rw [h.1, I_inj h.2]
  | [], _ :: _, h => by cases h
  | _ :: _, [], h => by cases h
theorem v_judge {Z : Zc} {size : Nat} {d : D} (hn : Nice d) : ∃ k, Fis_over_row Z [.int size, d] = some (.bl k) ∧ F_law_is_point Z [.int size, d] = some (.bl k) ∧ (k = true → ∃ ns b, d = ptD ns b ∧ PtOk size 1800 ns b) ∧ ∀ ns b, d = ptD ns b → PtOk size 1800 ns b → k = true := by
  by_cases ht : isTup d = true
  case neg =>
    have ht : isTup d = false := by simpa using ht
    refine ⟨false, over_f (or_t (not_eq (k := false) (bof_eq ((eCB_eq (a2_eq rfl rfl)).trans (v_is_tuple0 hn.b ht))))), lawp_f (or_t (not_eq (k := false) (bof_eq ?_))), (fun h => by cases h), fun ns b e => ?_⟩
    · have hb := hn.b
      cases d <;> first | rfl | (simp [isTup] at ht; done) | (simp [basic, tyD] at hb; done)
    · subst e; cases ht
  cases d with
  | tup ds =>
    by_cases hl : ds.length = 2
    case neg =>
      refine ⟨false, over_f (or_t ?_), lawp_f ((or_f (not_eq (k := true) (bof_eq rfl))).trans (or_t ?_)), (fun h => by cases h), fun ns b e => ?_⟩
      · refine not_eq (k := false) (bof_eq ((eCB_eq (a2_eq rfl rfl)).trans (v_is_tuple.trans ?_)))
        have : ¬ ((ds.length : Int) = 2) := by omega
        simp [this]
      · refine bbin_eq (d := .int (ds.length : Nat)) (d2 := .int 2) ((eCB_eq (a1_eq rfl)).trans rfl) rfl ?_
        have : ¬ ((ds.length : Int) = 2) := by omega
        simp [sNe, eqD, this]
      · have e : ds = [.tup (I ns), .int b] := by unfold ptD at e; cases e; rfl
        rw [e] at hl; simp at hl
    obtain ⟨x, y, rfl⟩ : ∃ x y, ds = [x, y] := by
      match ds, hl with
      | [x, y], _ => exact ⟨x, y, rfl⟩
    obtain ⟨bx, by_, bn, bes⟩ := hn.two x y rfl
    have o1 : bNot (bOf (eCB (Fis_tuple Z) (aCons (eVar 1) (aCons (eC (.int 2)) aNil)))) [some (false, .int size), some (false, .tup [x, y]), none] = some false := not_eq (k := true) (bof_eq ((eCB_eq (a2_eq rfl rfl)).trans v_is_tuple))
    have l1 : bNot (bOf (eIsi "tuple" (eVar 1))) [some (false, .int size), some (false, .tup [x, y])] = some false := not_eq (k := true) (bof_eq rfl)
    have l2 : bBin sNe (eCB cLen (aCons (eVar 1) aNil)) (eC (.int 2)) [some (false, .int size), some (false, .tup [x, y])] = some false := bbin_eq (d := .int 2) (d2 := .int 2) rfl rfl rfl
    have ix : eIdxV 1 (eC (.int 0)) [some (false, .int size), some (false, .tup [x, y]), none] = some x := rfl
    have iy : eIdxV 1 (eC (.int 1)) [some (false, .int size), some (false, .tup [x, y]), none] = some y := rfl
    have jx : eIdxV 1 (eC (.int 0)) [some (false, .int size), some (false, .tup [x, y])] = some x := rfl
    have jy : eIdxV 1 (eC (.int 1)) [some (false, .int size), some (false, .tup [x, y])] = some y := rfl
    by_cases hx : isTup x = true
    case neg =>
      have hx : isTup x = false := by simpa using hx
      refine ⟨false, over_f ((or_f o1).trans (or_t (not_eq (k := false) (bof_eq ((eCB_eq (a2_eq ix rfl)).trans (v_is_tuple0 bx hx)))))), lawp_f ((or_f l1).trans ((or_f l2).trans (or_t (not_eq (k := false) (bof_eq ((eCB_eq (a2_eq jx rfl)).trans (v_law_is_row0 bx hx))))))), (fun h => by cases h), fun ns b e => ?_⟩
      unfold ptD at e
      cases e
      cases hx
    cases x with
    | tup es =>
      obtain ⟨hes, hel⟩ := bes es rfl
      have hrow := v_law_is_row (Z := Z) (size := size) hes fun e he => (hel e he).1
      have htup : Fis_tuple Z [.tup es, .int size] = some (.bl (decide (es.length = size))) := by
        rw [v_is_tuple]
        congr 2
        rw [decide_eq_decide]
        omega
      by_cases hs : es.length = size
      case neg =>
        have hs' : decide (es.length = size) = false := by simpa using hs
        rw [hs'] at htup hrow
        refine ⟨false, over_f ((or_f o1).trans (or_t (not_eq (k := false) (bof_eq ((eCB_eq (a2_eq ix rfl)).trans htup))))), lawp_f ((or_f l1).trans ((or_f l2).trans (or_t (not_eq (k := false) (bof_eq ((eCB_eq (a2_eq jx rfl)).trans hrow)))))), (fun h => by cases h), fun ns b e p => ?_⟩
        unfold ptD at e
        cases e
        exact absurd (by rw [I_len]; exact p.len) hs
      have hs' : decide (es.length = size) = true := by simpa using hs
      rw [hs'] at htup
      rw [hs', Bool.true_and] at hrow
      have o2 : bNot (bOf (eCB (Fis_tuple Z) (aCons (eIdxV 1 (eC (.int 0))) (aCons (eVar 0) aNil)))) [some (false, .int size), some (false, .tup [.tup es, y]), none] = some false := not_eq (k := true) (bof_eq ((eCB_eq (a2_eq ix rfl)).trans htup))
      have l3 : bNot (bOf (eCB (F_law_is_row Z) (aCons (eIdxV 1 (eC (.int 0))) (aCons (eVar 0) aNil)))) [some (false, .int size), some (false, .tup [.tup es, y])] = some (!es.all isNum) := not_eq (bof_eq ((eCB_eq (a2_eq jx rfl)).trans hrow))
      have o3 : bNot (bOf (eCB (Fis_number Z) (aCons (eIdxV 1 (eC (.int 1))) aNil))) [some (false, .int size), some (false, .tup [.tup es, y]), none] = some (!isNum y) := not_eq (bof_eq ((eCB_eq (a1_eq iy)).trans (v_is_number by_)))
      have l4 : bNot (bOf (eCB (F_law_is_number Z) (aCons (eIdxV 1 (eC (.int 1))) aNil))) [some (false, .int size), some (false, .tup [.tup es, y])] = some (!isNum y) := not_eq (bof_eq ((eCB_eq (a1_eq jy)).trans (v_law_is_number by_)))
      have oall : eCB cAll (aCons (eComp (wItems (eIdxV 1 (eC (.int 0)))) [2] (gV 2) bYes (eCB (Fis_number Z) (aCons (eVar 2) aNil))) aNil) [some (false, .int size), some (false, .tup [.tup es, y]), none] = some (.bl (es.all isNum)) :=
        (eCB_eq (a1_eq (comp_map (fun d => .bl (isNum d)) (ds := es) rfl (by omega) fun d hd => ⟨[some (false, .int size), some (false, .tup [.tup es, y]), some (false, d)], rfl, (eCB_eq (a1_eq rfl)).trans (v_is_number (hel d hd).1)⟩))).trans cAll_map
      by_cases hy : isNum y = true
      case neg =>
        have hy : isNum y = false := by simpa using hy
        rw [hy] at o3 l4
        refine ⟨false, over_f ((or_f o1).trans ((or_f o2).trans (or_t o3))), ?_, (fun h => by cases h), fun ns b e => ?_⟩
        · cases ha : es.all isNum with
          | false => rw [ha] at l3; exact lawp_f ((or_f l1).trans ((or_f l2).trans (or_t l3)))
          | true => rw [ha] at l3; exact lawp_f ((or_f l1).trans ((or_f l2).trans ((or_f l3).trans (or_t l4))))
        · unfold ptD at e
          cases e
          cases hy
      rw [hy] at o3 l4
      cases y with
      | int b =>
        have o4 : bBin (sCmp fLt) (eIdxV 1 (eC (.int 1))) (eC (.int 1)) [some (false, .int size), some (false, .tup [.tup es, .int b]), none] = some (decide (b < 1)) := bbin_eq iy rfl rfl
        have l5 : bBin (sCmp fLt) (eIdxV 1 (eC (.int 1))) (eC (.int 1)) [some (false, .int size), some (false, .tup [.tup es, .int b])] = some (decide (b < 1)) := bbin_eq jy rfl rfl
        by_cases hb : b < 1
        · have hb' : decide (b < 1) = true := by simpa using hb
          rw [hb'] at o4 l5
          refine ⟨false, over_f ((or_f o1).trans ((or_f o2).trans ((or_f o3).trans o4))), ?_, (fun h => by cases h), fun ns b' e p => ?_⟩
          · cases ha : es.all isNum with
            | false => rw [ha] at l3; exact lawp_f ((or_f l1).trans ((or_f l2).trans (or_t l3)))
            | true => rw [ha] at l3; exact lawp_f ((or_f l1).trans ((or_f l2).trans ((or_f l3).trans ((or_f l4).trans l5))))
          · unfold ptD at e
            cases e
            have := p.pos
            omega
        have hb' : decide (b < 1) = false := by simpa using hb
        rw [hb'] at o4 l5
        cases ha : es.all isNum with
        | false =>
          rw [ha] at l3 oall
          refine ⟨false, over_t ((or_f o1).trans ((or_f o2).trans ((or_f o3).trans o4))) (eand_f oall), lawp_f ((or_f l1).trans ((or_f l2).trans (or_t l3))), (fun h => by cases h), fun ns b' e p => ?_⟩
          unfold ptD at e
          cases e
          have : (I ns).all isNum = true := by simp [I, isNum]
          rw [this] at ha; cases ha
        | true =>
          rw [ha] at l3 oall
          obtain ⟨ns, rfl⟩ := all_nums ha
          have hbn : ∀ n ∈ ns, Bd 1800 n := fun n hn => (hel (.int n) (List.mem_map.mpr ⟨n, hn, rfl⟩)).2 n rfl
          have hI : I ns ++ [D.int b] = I (ns ++ [b]) := by simp [I]
          have hlen : (I ns ++ [D.int b]).length ≤ 1000000 := by simp; rw [I_len] at *; omega
          have e1 : eLst (aStar (eIdxV 1 (eC (.int 0))) (aCons (eIdxV 1 (eC (.int 1))) aNil)) [some (false, .int size), some (false, .tup [.tup (I ns), .int b]), none] = some (.lst (I (ns ++ [b]))) := by
            show (if (I ns ++ [D.int b]).length ≤ 1000000 then some (D.lst (I ns ++ [D.int b])) else none) = _
            rw [if_pos hlen, hI]
          have e2 : eBin sAddA (eCB cList (aCons (eIdxV 1 (eC (.int 0))) aNil)) (eLst (aCons (eIdxV 1 (eC (.int 1))) aNil)) [some (false, .int size), some (false, .tup [.tup (I ns), .int b])] = some (.lst (I (ns ++ [b]))) := by
            refine (bin_eq (d := .lst (I ns)) (d2 := .lst [.int b]) ((eCB_eq (a1_eq jx)).trans rfl) rfl).trans ?_
            show (if (I ns).length + 1 ≤ 1000000 then some (D.lst (I ns ++ [D.int b])) else none) = _
            rw [if_pos (by simpa using hlen), hI]
          refine ⟨decide (gcdL (ns ++ [b]) = 1), over_t ((or_f o1).trans ((or_f o2).trans ((or_f o3).trans o4))) ((eand_t oall).trans ?_), lawp_t ((or_f l1).trans ((or_f l2).trans ((or_f l3).trans ((or_f l4).trans l5)))) ?_, fun hk => ⟨ns, b, rfl, by rw [← hs, I_len], by omega, by simpa using hk, hbn, bn b rfl⟩, fun ns' b' e p => ?_⟩
          · refine (bin_eq ((eCB_eq (a1_eq e1)).trans (v_common_part rfl)) rfl).trans ?_
            simp [sEq, eqD]
            omega
          · refine (bin_eq ((eCB_eq (a1_eq e2)).trans (v_law_common rfl fun n hn => ?_)) rfl).trans ?_
            · rcases List.mem_append.mp hn with h | h
              · exact (hbn n h).mono (by decide)
              · rw [List.mem_singleton.mp h]; exact (bn b rfl).mono (by decide)
            · simp [sEq, eqD]
              omega
          · have e0 : ns = ns' ∧ b = b' := by
              unfold ptD at e
              simp only [D.tup.injEq, List.cons.injEq, D.int.injEq, and_true] at e
              refine ⟨?_, e.2⟩
              have := e.1
              exact I_inj this
            obtain ⟨rfl, rfl⟩ := e0
            simpa using p.gcd
      | _ => cases hy
    | _ => cases hx
  | _ => cases ht
end Sh
end Part_E11w

section Part_E11x
set_option maxRecDepth 100000
set_option maxHeartbeats 400000
/-! E11x: points made, signs, values, half ways. -/
namespace Sh
open PySem L2
theorem a3_eq {env : Env} {m m2 m3 : Ex} {d d2 d3 : D} (h : m env = some d) (h2 : m2 env = some d2) (h3 : m3 env = some d3) : aCons m (aCons m2 (aCons m3 aNil)) env = some [d, d2, d3] := by
  show (m env).bind _ = _
  rw [h]
  show ((aCons m2 (aCons m3 aNil) env).bind _) = _
  rw [a2_eq h2 h3]; rfl
theorem tup2_eq {env : Env} {m m2 : Ex} {d d2 : D} (h : m env = some d) (h2 : m2 env = some d2) : eTup (aCons m (aCons m2 aNil)) env = some (.tup [d, d2]) := by
  unfold eTup
  rw [a2_eq h h2]; rfl
/-! ### points made -/
def ptN (ns : List Int) (b : Int) : List Int := ns.map fun n => n.fdiv (gcdL (ns ++ [b]))
def ptB (ns : List Int) (b : Int) : Int := b.fdiv (gcdL (ns ++ [b]))
theorem fdiv_le {a : Int} {g : Nat} (hg : 0 < g) (hd : (g : Int) ∣ a) : (a.fdiv g).natAbs ≤ a.natAbs := by
  obtain ⟨x, rfl⟩ := hd
  rw [Int.mul_fdiv_cancel_left _ (by omega), Int.natAbs_mul, Int.natAbs_natCast]
  exact Nat.le_mul_of_pos_left _ hg
theorem gcdL_self {l : List Int} (h : 0 < gcdL l) : gcdL (l.map fun n => n.fdiv (gcdL l)) = 1 := by
  have e : l = (l.map fun n => n.fdiv (gcdL l)).map fun n => (gcdL l : Int) * n := by
    rw [List.map_map]
    conv => lhs; rw [← List.map_id l]
    refine List.map_congr_left fun n hn => ?_
    obtain ⟨x, hx⟩ := gcdL_dvd hn
    show n = (gcdL l : Int) * (n.fdiv (gcdL l))
    rw [show n.fdiv (gcdL l) = x by conv => lhs; rw [hx]
                                    exact Int.mul_fdiv_cancel_left _ (by omega)]
    exact hx
  have z := gcdL_mul (gcdL l) (l.map fun n => n.fdiv (gcdL l))
  rw [← e, Int.natAbs_natCast] at z
  have z : gcdL l * 1 = gcdL l * gcdL (l.map fun n => n.fdiv (gcdL l)) := by rw [Nat.mul_one]; exact z
  exact (Nat.eq_of_mul_eq_mul_left h z).symm
theorem pt_ok {ns : List Int} {b : Int} {k : Nat} (hb : 1 ≤ b) (hn : ∀ n ∈ ns, Bd k n) (hbb : Bd k b) : PtOk ns.length k (ptN ns b) (ptB ns b) := by
  have hm : b ∈ ns ++ [b] := by simp
  have hg : 0 < gcdL (ns ++ [b]) := gcdL_pos hm (by omega)
  have le : ∀ n ∈ ns ++ [b], (n.fdiv (gcdL (ns ++ [b]))).natAbs ≤ n.natAbs := fun n h => fdiv_le hg (gcdL_dvd h)
  refine ⟨by simp [ptN], ?_, ?_, fun n h => ?_, Nat.lt_of_le_of_lt (le b hm) hbb⟩
  · obtain ⟨x, hx⟩ := gcdL_dvd hm
    unfold ptB
    have e : b.fdiv (gcdL (ns ++ [b])) = x := by
      conv => lhs; arg 1; rw [hx]
      exact Int.mul_fdiv_cancel_left _ (by omega)
    rw [e]
    have hx' : 0 < (gcdL (ns ++ [b]) : Int) * x := by rw [← hx]; omega
    have := Int.pos_of_mul_pos_right hx' (by omega) |> fun z => z
    omega
  · have z := gcdL_self hg
    rw [List.map_append] at z
    exact z
  · obtain ⟨m, hm', rfl⟩ := List.mem_map.mp h
    exact Nat.lt_of_le_of_lt (le m (by simp [hm'])) (hn m hm')
theorem g_bd {ns : List Int} {b : Int} {k : Nat} (hb : 1 ≤ b) (hbb : Bd k b) : 0 < gcdL (ns ++ [b]) ∧ Bd k (gcdL (ns ++ [b]) : Int) := ⟨gcdL_pos (n := b) (by simp) (by omega), gcdL_bd (n := b) (by simp) (by omega) hbb⟩
theorem v_law_point {Z : Zc} {d : D} {ns : List Int} {b : Int} (h1 : itemsOf d = some (I ns)) (h2 : cList [d] = some (.lst (I ns))) (hl : ns.length ≤ 1000) (hb : 1 ≤ b) (hn : ∀ n ∈ ns, Bd 1800 n) (hbb : Bd 1800 b) : F_law_point Z [d, .int b] = some (ptD (ptN ns b) (ptB ns b)) := by
  obtain ⟨hg, hgb⟩ := g_bd (ns := ns) hb hbb
  have hI : I ns ++ [D.int b] = I (ns ++ [b]) := by simp [I]
  have e1 : eCB (F_law_common Z) (aCons (eBin sAddA (eCB cList (aCons (eVar 0) aNil)) (eLst (aCons (eVar 1) aNil))) aNil) [some (false, d), some (false, .int b), none, none] = some (.int (gcdL (ns ++ [b]))) := by
    have e2 : eBin sAddA (eCB cList (aCons (eVar 0) aNil)) (eLst (aCons (eVar 1) aNil)) [some (false, d), some (false, .int b), none, none] = some (.lst (I (ns ++ [b]))) := by
      refine (bin_eq (d2 := .lst [.int b]) ((eCB_eq (a1_eq rfl)).trans h2) rfl).trans ?_
      show (if (I ns).length + 1 ≤ 1000000 then some (D.lst (I ns ++ [D.int b])) else none) = _
      rw [if_pos (by rw [I_len]; omega), hI]
    refine (eCB_eq (a1_eq e2)).trans (v_law_common rfl fun n h => ?_)
    rcases List.mem_append.mp h with h | h
    · exact (hn n h).mono (by decide)
    · rw [List.mem_singleton.mp h]; exact hbb.mono (by decide)
  have e3 : eCB (F_law_sign Z) (aCons (eVar 1) aNil) [some (false, d), some (false, .int b), none, none] = some (.int 1) := by
    refine (eCB_eq (a1_eq rfl)).trans (v_law_sign.trans ?_)
    rw [Int.sign_eq_one_of_pos (by omega)]
  have e4 : eBin sMulA (eCB (F_law_common Z) (aCons (eBin sAddA (eCB cList (aCons (eVar 0) aNil)) (eLst (aCons (eVar 1) aNil))) aNil)) (eCB (F_law_sign Z) (aCons (eVar 1) aNil)) [some (false, d), some (false, .int b), none, none] = some (.int (gcdL (ns ++ [b]))) := by
    refine (bin_eq e1 e3).trans ((mulA (hgb.mono (by decide)) (by unfold Bd; simp)).trans ?_)
    rw [Int.mul_one]
  have hz : (gcdL (ns ++ [b]) : Int) ≠ 0 := by omega
  have e5 : eCB cTup (aCons (eComp (wItems (eVar 0)) [3] (gV 3) bYes (eBin (sInt fFdivA) (eVar 3) (eVar 2))) aNil) [some (false, d), some (false, .int b), some (false, .int (gcdL (ns ++ [b]))), none] = some (.tup (I (ptN ns b))) := by
    refine (eCB_eq (a1_eq (comp_map (fdT (gcdL (ns ++ [b]))) (ds := I ns) h1 (by rw [I_len]; omega) fun x hx => ?_))).trans ?_
    · obtain ⟨n, _, rfl⟩ := mem_I hx
      exact ⟨_, rfl, fdivA hz (hgb.mono (by decide))⟩
    · rw [map_fdT]; rfl
  exact fnD_rt ⟨rfl, by decide⟩ ((seq_nx (set_eq e4 (by simp))).trans (ret_eq (tup2_eq e5 (fdivA hz (hgb.mono (by decide))))))
theorem v_point_told {Z : Zc} {ns : List Int} {b : Int} (hl : ns.length ≤ 1000) (hb : 1 ≤ b) (hn : ∀ n ∈ ns, Bd 1800 n) (hbb : Bd 1800 b) : Fpoint_told Z [.lst (I ns), .int b] = some (ptD (ptN ns b) (ptB ns b)) := by
  obtain ⟨hg, hgb⟩ := g_bd (ns := ns) hb hbb
  have hI : I ns ++ [D.int b] = I (ns ++ [b]) := by simp [I]
  have hz : (gcdL (ns ++ [b]) : Int) ≠ 0 := by omega
  have e1 : eCB (Fcommon_part Z) (aCons (eLst (aStar (eVar 0) (aCons (eVar 1) aNil))) aNil) [some (false, .lst (I ns)), some (false, .int b), none, none] = some (.int (gcdL (ns ++ [b]))) := by
    have e2 : eLst (aStar (eVar 0) (aCons (eVar 1) aNil)) [some (false, .lst (I ns)), some (false, .int b), none, none] = some (.lst (I (ns ++ [b]))) := by
      show (if (I ns ++ [D.int b]).length ≤ 1000000 then some (D.lst (I ns ++ [D.int b])) else none) = _
      rw [if_pos (by simp; rw [I_len]; omega), hI]
    exact (eCB_eq (a1_eq e2)).trans (v_common_part rfl)
  have e3 : eIf (bBin (sCmp fGt) (eVar 1) (eC (.int 0))) (eVar 2) (eBin (sInt fSub) (eC (.int 0)) (eVar 2)) [some (false, .lst (I ns)), some (false, .int b), some (false, .int (gcdL (ns ++ [b]))), none] = some (.int (gcdL (ns ++ [b]))) := by
    have t : bBin (sCmp fGt) (eVar 1) (eC (.int 0)) [some (false, .lst (I ns)), some (false, .int b), some (false, .int (gcdL (ns ++ [b]))), none] = some true := by
      refine bbin_eq (d := .int b) (d2 := .int 0) rfl rfl ?_
      have : (0 : Int) < b := by omega
      simp [sCmp, fGt, this]
    unfold eIf
    rw [t]; rfl
  have e5 : eCB cTup (aCons (eComp (wItems (eVar 0)) [3] (gV 3) bYes (eBin (sInt fFdivA) (eVar 3) (eVar 2))) aNil) [some (false, .lst (I ns)), some (false, .int b), some (false, .int (gcdL (ns ++ [b]))), none] = some (.tup (I (ptN ns b))) := by
    refine (eCB_eq (a1_eq (comp_map (fdT (gcdL (ns ++ [b]))) (ds := I ns) rfl (by rw [I_len]; omega) fun x hx => ?_))).trans ?_
    · obtain ⟨n, _, rfl⟩ := mem_I hx
      exact ⟨_, rfl, fdivA hz (hgb.mono (by decide))⟩
    · rw [map_fdT]; rfl
  exact fnD_rt ⟨rfl, by decide⟩ ((seq_nx (set_eq e1 (by simp))).trans ((seq_nx (set_eq e3 (by simp))).trans (ret_eq (tup2_eq e5 (fdivA hz (hgb.mono (by decide)))))))
/-! ### fractions -/
def frD (a b : Int) : D := .tup [.int (a.fdiv (gcdL [a, b])), .int (b.fdiv (gcdL [a, b]))]
theorem v_law_fraction {Z : Zc} {a b : Int} (hb : 1 ≤ b) (ha : Bd 1800 a) (hbb : Bd 1800 b) : F_law_fraction Z [.int a, .int b] = some (frD a b) := by
  obtain ⟨hg, hgb⟩ := g_bd (ns := [a]) hb hbb
  have hz : (gcdL [a, b] : Int) ≠ 0 := by have : 0 < gcdL [a, b] := hg; omega
  have e1 : eCB (F_law_common Z) (aCons (eLst (aCons (eVar 0) (aCons (eVar 1) aNil))) aNil) [some (false, .int a), some (false, .int b), none] = some (.int (gcdL [a, b])) := by
    refine (eCB_eq (a1_eq (d := .lst (I [a, b])) rfl)).trans (v_law_common rfl fun n h => ?_)
    simp only [List.mem_cons, List.not_mem_nil, or_false] at h
    rcases h with rfl | rfl
    · exact ha.mono (by decide)
    · exact hbb.mono (by decide)
  exact fnD_rt ⟨rfl, by decide⟩ ((seq_nx (set_eq e1 (by simp))).trans (ret_eq (tup2_eq (fdivA hz (hgb.mono (by decide))) (fdivA hz (hgb.mono (by decide))))))
theorem v_fraction_told {Z : Zc} {a b : Int} (hb : 1 ≤ b) (hbb : Bd 1800 b) : Ffraction_told Z [.int a, .int b] = some (frD a b) := by
  obtain ⟨hg, hgb⟩ := g_bd (ns := [a]) hb hbb
  have hz : (gcdL [a, b] : Int) ≠ 0 := by have : 0 < gcdL [a, b] := hg; omega
  have e0 : gcdL [a, b] = Nat.gcd a.natAbs b.natAbs := by
    show Nat.gcd (Nat.gcd 0 a.natAbs) b.natAbs = _
    rw [Nat.gcd_zero_left]
  have e1 : eIf (bBin (sCmp fGt) (eVar 1) (eC (.int 0))) (eCB cGcd (aCons (eVar 0) (aCons (eVar 1) aNil))) (eBin (sInt fSub) (eC (.int 0)) (eCB cGcd (aCons (eVar 0) (aCons (eVar 1) aNil)))) [some (false, .int a), some (false, .int b), none] = some (.int (gcdL [a, b])) := by
    have t : bBin (sCmp fGt) (eVar 1) (eC (.int 0)) [some (false, .int a), some (false, .int b), none] = some true := by
      refine bbin_eq (d := .int b) (d2 := .int 0) rfl rfl ?_
      have : (0 : Int) < b := by omega
      simp [sCmp, fGt, this]
    unfold eIf
    rw [t, e0]; rfl
  exact fnD_rt ⟨rfl, by decide⟩ ((seq_nx (set_eq e1 (by simp))).trans (ret_eq (tup2_eq (fdivA hz (hgb.mono (by decide))) (fdivA hz (hgb.mono (by decide))))))
end Sh
end Part_E11x

section Part_E11y
set_option maxRecDepth 100000
set_option maxHeartbeats 400000
/-! E11y: signs, values, half ways. -/
namespace Sh
open PySem L2
def val (row ns : List Int) (b : Int) : Int := dot row ns - row.getLastD 0 * b
def sgn (row ns : List Int) (b : Int) : Int := (val row ns b).sign
theorem idx_last {ns : List Int} (h : ns ≠ []) : sIdx (.tup (I ns)) (.int (-1)) = some (.int (ns.getLastD 0)) := by
  have hp : 0 < ns.length := List.length_pos_iff.mpr h
  show (ixN (I ns).length (-1)).bind _ = _
  have e : ixN (I ns).length (-1) = some (ns.length - 1) := by
    unfold ixN
    rw [if_neg (by decide), if_pos (by rw [I_len]; omega), I_len]
    congr 1
    omega
  rw [e]
  show (I ns)[ns.length - 1]? = _
  unfold I
  rw [List.getElem?_map, ← List.getLast?_eq_getElem?, List.getLastD_eq_getLast?]
  cases q : ns.getLast? with
  | none => exact absurd (List.getLast?_eq_none_iff.mp q) h
  | some x => rfl
theorem fld_rows {Z : Zc} {size : Nat} {rows : List (List Int)} : fldD Z.WC "rows" (wallsD Z size rows) = some (.tup (R rows)) := by
  show (if Z.WC = Z.WC then lookD "rows" ["size", "rows"] [D.int size, .tup (R rows)] else none) = _
  rw [if_pos rfl]
  show (if ("size" : Str) = "rows" then _ else lookD "rows" ["rows"] [D.tup (R rows)]) = _
  rw [if_neg (by decide)]
  show (if ("rows" : Str) = "rows" then _ else _) = _
  rw [if_pos rfl]
theorem fld_size {Z : Zc} {size : Nat} {rows : List (List Int)} : fldD Z.WC "size" (wallsD Z size rows) = some (.int size) := by
  show (if Z.WC = Z.WC then lookD "size" ["size", "rows"] [D.int size, .tup (R rows)] else none) = _
  rw [if_pos rfl]
  show (if ("size" : Str) = "size" then _ else _) = _
  rw [if_pos rfl]
theorem idxv_last {env : Env} {i : Nat} {w : Bool} {row : List Int} (h : env[i]? = some (some (w, .tup (I row)))) (h0 : row ≠ []) : eIdxV i (eNeg (eC (.int 1))) env = some (.int (row.getLastD 0)) := by
  unfold eIdxV
  rw [h]
  exact idx_last h0
theorem dot_bd {p q : Nat} : ∀ {as bs : List Int}, (∀ a ∈ as, Bd p a) → (∀ b ∈ bs, Bd q b) → (dot as bs).natAbs ≤ as.length * 2 ^ (p + q)
  | [], bs, _, _ => by simp [dot]
  | a :: as, [], _, _ => by simp [dot]
  | a :: as, b :: bs, ha, hb => by
    have ih := dot_bd (as := as) (bs := bs) (fun x hx => ha x (List.mem_cons_of_mem _ hx)) fun x hx => hb x (List.mem_cons_of_mem _ hx)
    have h1 : Bd (p + q) (a * b) := (ha a List.mem_cons_self).mul (hb b List.mem_cons_self)
    unfold Bd at h1
    have e : dot (a :: as) (b :: bs) = a * b + dot as bs := rfl
    rw [e, List.length_cons, Nat.add_mul, Nat.one_mul]
    omega
theorem last_mem {ns : List Int} (h : ns ≠ []) : ns.getLastD 0 ∈ ns := by
  rw [List.getLastD_eq_getLast?, List.getLast?_eq_some_getLast h]
  exact List.getLast_mem h
theorem val_bd {p q : Nat} {row ns : List Int} {b : Int} (hl : row.length ≤ 7) (h0 : row ≠ []) (hr : ∀ a ∈ row, Bd p a) (hn : ∀ n ∈ ns, Bd q n) (hb : Bd q b) : Bd (p + q + 4) (val row ns b) := by
  have h1 := dot_bd hr hn
  have h2 : Bd (p + q) (row.getLastD 0 * b) := (hr _ (last_mem h0)).mul hb
  unfold val Bd at *
  have h3 := Nat.mul_le_mul_right (2 ^ (p + q)) hl
  rw [Nat.pow_add 2 (p + q) 4]
  omega
theorem v_law_value {Z : Zc} {row ns : List Int} {b : Int} (hl : row.length ≤ 1000) (h0 : row ≠ []) (hr : ∀ a ∈ row, Bd 41 a) (hn : ∀ n ∈ ns, Bd 1800 n) (hb : Bd 1800 b) : F_law_value Z [.tup (I row), ptD ns b] = some (.int (val row ns b)) := by
  have e1 : eCB (F_law_times Z) (aCons (eVar 0) (aCons (eIdxV 1 (eC (.int 0))) aNil)) [some (false, .tup (I row)), some (false, ptD ns b)] = some (.int (dot row ns)) := (eCB_eq (a2_eq rfl rfl)).trans (v_law_times (by omega) (fun a h => (hr a h).mono (by decide)) fun n h => (hn n h).mono (by decide))
  have e2 : eBin sMulA (eIdxV 0 (eNeg (eC (.int 1)))) (eIdxV 1 (eC (.int 1))) [some (false, .tup (I row)), some (false, ptD ns b)] = some (.int (row.getLastD 0 * b)) := Eq.trans (bin_eq (idxv_last rfl h0) rfl) <| (mulA ((hr _ (last_mem h0)).mono (by decide)) (hb.mono (by decide)))
  exact fnD_rt ⟨rfl, by decide⟩ (ret_eq ((bin_eq e1 e2).trans rfl))
def sgT (ns : List Int) (b : Int) : D → D
  | .tup ds => match ds.mapM (fun d => match d with | .int n => some n | _ => none) with
    | some row => .int (sgn row ns b)
    | none => .non
  | d => d
theorem mapM_I : ∀ row : List Int, (I row).mapM (fun d => match d with | D.int n => some n | _ => none) = some row
  | [] => rfl
  | n :: row => by
    have ih := mapM_I row
    show (D.int n :: I row).mapM _ = _
    rw [List.mapM_cons, ih]; rfl
theorem sgT_I {row ns : List Int} {b : Int} : sgT ns b (.tup (I row)) = .int (sgn row ns b) := by
  unfold sgT
  simp only [mapM_I]
theorem map_sgT {rows : List (List Int)} {ns : List Int} {b : Int} : (R rows).map (sgT ns b) = I (rows.map fun row => sgn row ns b) := by
  unfold R I
  rw [List.map_map, List.map_map]
  exact List.map_congr_left fun row _ => sgT_I
theorem mem_R {rows : List (List Int)} {d : D} (h : d ∈ R rows) : ∃ row ∈ rows, d = .tup (I row) := by
  obtain ⟨row, h1, h2⟩ := List.mem_map.mp h
  exact ⟨row, h1, h2.symm⟩
theorem RowOk.ne {size : Nat} {row : List Int} (h : RowOk size row) : row ≠ [] := fun e => by have := h.len; rw [e] at this; simp at this
theorem v_law_at {Z : Zc} {size : Nat} {rows : List (List Int)} {ns : List Int} {b : Int} (h : SetOk size rows) (hn : ∀ n ∈ ns, Bd 1800 n) (hb : Bd 1800 b) : F_law_at Z [.tup (R rows), ptD ns b] = some (.tup (I (rows.map fun row => sgn row ns b))) := by
  have hm := h.many
  refine fnD_rt ⟨rfl, by decide⟩ (ret_eq ((eCB_eq (a1_eq (comp_map (sgT ns b) (ds := R rows) rfl (by unfold R; rw [List.length_map]; omega) fun d hd => ?_))).trans ?_))
  · obtain ⟨row, hr, rfl⟩ := mem_R hd
    have hrow := h.row row hr
    have hs := h.hi
    refine ⟨[some (false, .tup (R rows)), some (false, ptD ns b), some (false, .tup (I row))], rfl, ?_⟩
    rw [sgT_I]
    exact (eCB_eq (a1_eq ((eCB_eq (a2_eq rfl rfl)).trans (v_law_value (by rw [hrow.len]; omega) hrow.ne hrow.bd hn hb)))).trans v_law_sign
  · rw [map_sgT]; rfl
theorem v_point_signs {Z : Zc} {size : Nat} {rows : List (List Int)} {ns : List Int} {b : Int} (h : SetOk size rows) (hn : ∀ n ∈ ns, Bd 1800 n) (hb : Bd 1800 b) : Fpoint_signs Z [wallsD Z size rows, ptD ns b] = some (.tup (I (rows.map fun row => sgn row ns b))) := by
  have hm := h.many
  have hs := h.hi
  have e0 : sAsg (eVar 1) (gT 2 (gsCons (gV 2) (gsCons (gV 3) gsNil))) [some (false, wallsD Z size rows), some (false, ptD ns b), none, none, none] = some (.nx [some (false, wallsD Z size rows), some (false, ptD ns b), some (false, .tup (I ns)), some (false, .int b), none]) := rfl
  have ef : wItems (eFld Z "rows" (eVar 0)) [some (false, wallsD Z size rows), some (false, ptD ns b), some (false, .tup (I ns)), some (false, .int b), none] = some (R rows) := by
    show (fldD Z.WC "rows" (wallsD Z size rows)).bind itemsOf = _
    rw [fld_rows]; rfl
  refine fnD_rt ⟨rfl, by decide⟩ ((seq_nx e0).trans (ret_eq ((eCB_eq (a1_eq (comp_map (sgT ns b) ef (by unfold R; rw [List.length_map]; omega) fun d hd => ?_))).trans ?_)))
  · obtain ⟨row, hr, rfl⟩ := mem_R hd
    have hrow := h.row row hr
    refine ⟨[some (false, wallsD Z size rows), some (false, ptD ns b), some (false, .tup (I ns)), some (false, .int b), some (false, .tup (I row))], rfl, ?_⟩
    rw [sgT_I]
    have e1 : eCB (Frow_times Z) (aCons (eVar 4) (aCons (eVar 2) aNil)) [some (false, wallsD Z size rows), some (false, ptD ns b), some (false, .tup (I ns)), some (false, .int b), some (false, .tup (I row))] = some (.int (dot row ns)) := (eCB_eq (a2_eq rfl rfl)).trans (v_row_times (by rw [hrow.len]; omega) (fun a h => (hrow.bd a h).mono (by decide)) fun n h => (hn n h).mono (by decide))
    have e2 : eBin sMulA (eIdxV 4 (eNeg (eC (.int 1)))) (eVar 3) [some (false, wallsD Z size rows), some (false, ptD ns b), some (false, .tup (I ns)), some (false, .int b), some (false, .tup (I row))] = some (.int (row.getLastD 0 * b)) := Eq.trans (bin_eq (idxv_last rfl hrow.ne) rfl) <| (mulA ((hrow.bd _ (last_mem hrow.ne)).mono (by decide)) (hb.mono (by decide)))
    exact (eCB_eq (a1_eq ((bin_eq e1 e2).trans rfl))).trans v_sign
  · rw [map_sgT]; rfl
theorem v_value_told {Z : Zc} {size k : Nat} {rows : List (List Int)} {row ns : List Int} {b : Int} (h : SetOk size rows) (hk : rows[k]? = some row) (h1 : 1 ≤ b) (hn : ∀ n ∈ ns, Bd 1700 n) (hb : Bd 1700 b) : Fvalue_told Z [wallsD Z size rows, .int k, ptD ns b] = some (frD (val row ns b) b) := by
  have hm := h.many
  have hs := h.hi
  have hr : row ∈ rows := List.mem_of_getElem? hk
  have hrow := h.row row hr
  have hkl : k < rows.length := (List.getElem?_eq_some_iff.mp hk).1
  have e0 : sAsg (eVar 2) (gT 2 (gsCons (gV 3) (gsCons (gV 4) gsNil))) [some (false, wallsD Z size rows), some (false, .int k), some (false, ptD ns b), none, none, none] = some (.nx [some (false, wallsD Z size rows), some (false, .int k), some (false, ptD ns b), some (false, .tup (I ns)), some (false, .int b), none]) := rfl
  have e1 : eBin sIdx (eFld Z "rows" (eVar 0)) (eVar 1) [some (false, wallsD Z size rows), some (false, .int k), some (false, ptD ns b), some (false, .tup (I ns)), some (false, .int b), none] = some (.tup (I row)) := by
    refine (bin_eq (d := .tup (R rows)) (d2 := .int k) fld_rows rfl).trans ?_
    show (ixN (R rows).length (k : Nat)).bind _ = _
    have e : ixN (R rows).length ((k : Nat) : Int) = some k := by
      unfold ixN
      rw [if_pos (by omega), if_pos (by unfold R; rw [List.length_map]; omega)]
      simp
    rw [e]
    show (R rows)[k]? = _
    unfold R
    rw [List.getElem?_map, hk]; rfl
  have e2 : eCB (Frow_times Z) (aCons (eVar 5) (aCons (eVar 3) aNil)) [some (false, wallsD Z size rows), some (false, .int k), some (false, ptD ns b), some (false, .tup (I ns)), some (false, .int b), some (false, .tup (I row))] = some (.int (dot row ns)) := (eCB_eq (a2_eq rfl rfl)).trans (v_row_times (by rw [hrow.len]; omega) (fun a h => (hrow.bd a h).mono (by decide)) fun n h => (hn n h).mono (by decide))
  have e3 : eBin sMulA (eIdxV 5 (eNeg (eC (.int 1)))) (eVar 4) [some (false, wallsD Z size rows), some (false, .int k), some (false, ptD ns b), some (false, .tup (I ns)), some (false, .int b), some (false, .tup (I row))] = some (.int (row.getLastD 0 * b)) := Eq.trans (bin_eq (idxv_last rfl hrow.ne) rfl) <| (mulA ((hrow.bd _ (last_mem hrow.ne)).mono (by decide)) (hb.mono (by decide)))
  exact fnD_rt ⟨rfl, by decide⟩ ((seq_nx e0).trans ((seq_nx (set_eq e1 (by simp))).trans (ret_eq ((eCB_eq (a2_eq ((bin_eq e2 e3).trans rfl) rfl)).trans (v_fraction_told h1 (hb.mono (by decide)))))))
/-! ### half ways -/
def hfN (n1 n2 : List Int) (b1 b2 : Int) : List Int := List.zipWith (fun x y => x * b2 + y * b1) n1 n2
def hfT (b1 b2 : Int) : D → D
  | .tup [.int x, .int y] => .int (x * b2 + y * b1)
  | d => d
theorem map_hfT (b1 b2 : Int) : ∀ n1 n2 : List Int, (List.zipWith (fun a b => D.tup [.int a, .int b]) n1 n2).map (hfT b1 b2) = I (hfN n1 n2 b1 b2)
  | [], _ => rfl
  | _ :: _, [] => rfl
  | a :: as, b :: bs => by
    have ih := map_hfT b1 b2 as bs
    show hfT b1 b2 (.tup [.int a, .int b]) :: (List.zipWith _ as bs).map _ = _
    rw [ih]; rfl
theorem hf_mem {b1 b2 : Int} : ∀ {n1 n2 : List Int} {x : Int}, x ∈ hfN n1 n2 b1 b2 → ∃ a ∈ n1, ∃ b ∈ n2, x = a * b2 + b * b1
  | a :: as, b :: bs, x, h => by
    rcases List.mem_cons.mp (show x ∈ (a * b2 + b * b1) :: hfN as bs b1 b2 from h) with h | h
    · exact ⟨a, List.mem_cons_self, b, List.mem_cons_self, h⟩
    · obtain ⟨u, h1, v, h2, e⟩ := hf_mem h
      exact ⟨u, List.mem_cons_of_mem _ h1, v, List.mem_cons_of_mem _ h2, e⟩
  | [], _, _, h => by simp [hfN] at h
  | _ :: _, [], _, h => by simp [hfN] at h
theorem hf_bd {k : Nat} {n1 n2 : List Int} {b1 b2 : Int} (h1 : ∀ n ∈ n1, Bd k n) (h2 : ∀ n ∈ n2, Bd k n) (hb1 : Bd k b1) (hb2 : Bd k b2) : (∀ n ∈ hfN n1 n2 b1 b2, Bd (k + k + 2) n) ∧ Bd (k + k + 2) (2 * b1 * b2) := by
  refine ⟨fun n hn => ?_, ?_⟩
  · obtain ⟨a, ha, b, hb, rfl⟩ := hf_mem hn
    exact (((h1 a ha).mul hb2).add ((h2 b hb).mul hb1)).mono (by omega)
  · have h := hb1.mul hb2
    rw [Int.mul_assoc]
    unfold Bd at *
    rw [Nat.pow_add 2 (k + k) 2]
    omega
theorem half_pos {b1 b2 : Int} (h1 : 1 ≤ b1) (h2 : 1 ≤ b2) : 1 ≤ 2 * b1 * b2 := by
  have := Int.mul_pos (show (0 : Int) < 2 * b1 by omega) (show (0 : Int) < b2 by omega)
  omega
end Sh
end Part_E11y

section Part_E11o
set_option maxRecDepth 100000
set_option maxHeartbeats 400000
/-! E11o: half ways, between. -/
namespace Sh
open PySem L2
theorem dot_lin {b1 b2 : Int} : ∀ {row n1 n2 : List Int}, n1.length = n2.length → dot row (hfN n1 n2 b1 b2) = b2 * dot row n1 + b1 * dot row n2
  | [], n1, n2, _ => by simp [dot]
  | r :: row, [], [], _ => by simp [dot, hfN]
  | r :: row, a :: n1, b :: n2, h => by
    have ih := dot_lin (b1 := b1) (b2 := b2) (row := row) (n1 := n1) (n2 := n2) (by simpa using h)
    have e1 : dot (r :: row) (hfN (a :: n1) (b :: n2) b1 b2) = r * (a * b2 + b * b1) + dot row (hfN n1 n2 b1 b2) := rfl
    have e2 : dot (r :: row) (a :: n1) = r * a + dot row n1 := rfl
    have e3 : dot (r :: row) (b :: n2) = r * b + dot row n2 := rfl
    rw [e1, e2, e3, ih]
    simp only [Int.mul_add]
    rw [show r * (a * b2) = b2 * (r * a) by rw [Int.mul_comm a b2, Int.mul_left_comm], show r * (b * b1) = b1 * (r * b) by rw [Int.mul_comm b b1, Int.mul_left_comm]]
    omega
  | _ :: _, [], _ :: _, h => by simp at h
  | _ :: _, _ :: _, [], h => by simp at h
theorem val_half {row n1 n2 : List Int} {b1 b2 : Int} (h : n1.length = n2.length) : val row (hfN n1 n2 b1 b2) (2 * b1 * b2) = b2 * val row n1 b1 + b1 * val row n2 b2 := by
  unfold val
  rw [dot_lin h]
  generalize row.getLastD 0 = l
  have e1 : l * (2 * b1 * b2) = b2 * (l * b1) + b1 * (l * b2) := by
    rw [show b2 * (l * b1) = l * (b1 * b2) by rw [Int.mul_left_comm, Int.mul_comm b2 b1], show b1 * (l * b2) = l * (b1 * b2) by rw [Int.mul_left_comm], ← Int.mul_add, Int.mul_assoc 2]
    congr 1
    omega
  rw [e1, Int.mul_sub, Int.mul_sub]
  omega
theorem dot_scale (k : Int) : ∀ (row ns : List Int), dot row (ns.map fun n => k * n) = k * dot row ns
  | [], _ => by simp [dot]
  | _ :: _, [] => by simp [dot]
  | r :: row, n :: ns => by
    have ih := dot_scale k row ns
    have e1 : dot (r :: row) ((n :: ns).map fun n => k * n) = r * (k * n) + dot row (ns.map fun n => k * n) := rfl
    have e2 : dot (r :: row) (n :: ns) = r * n + dot row ns := rfl
    rw [e1, e2, ih, Int.mul_add, Int.mul_left_comm]
theorem val_scale {row ns : List Int} {b : Int} (hb : 1 ≤ b) : val row ns b = (gcdL (ns ++ [b]) : Int) * val row (ptN ns b) (ptB ns b) := by
  have hg : 0 < gcdL (ns ++ [b]) := gcdL_pos (n := b) (by simp) (by omega)
  have ex : ∀ n ∈ ns ++ [b], n = (gcdL (ns ++ [b]) : Int) * n.fdiv (gcdL (ns ++ [b])) := fun n hn => by
    obtain ⟨x, hx⟩ := gcdL_dvd hn
    have e : n.fdiv (gcdL (ns ++ [b])) = x := by
      conv => lhs; arg 1; rw [hx]
      exact Int.mul_fdiv_cancel_left _ (by omega)
    rw [e]; exact hx
  have e1 : ns = (ptN ns b).map fun n => (gcdL (ns ++ [b]) : Int) * n := by
    unfold ptN
    rw [List.map_map]
    conv => lhs; rw [← List.map_id ns]
    exact List.map_congr_left fun n hn => ex n (by simp [hn])
  have e2 : b = (gcdL (ns ++ [b]) : Int) * ptB ns b := ex b (by simp)
  unfold val
  have z := dot_scale (gcdL (ns ++ [b])) row (ptN ns b)
  rw [← e1] at z
  rw [z, Int.mul_sub]
  congr 1
  rw [Int.mul_left_comm, ← e2]
theorem sgn_scale {row ns : List Int} {b : Int} (hb : 1 ≤ b) : sgn row (ptN ns b) (ptB ns b) = sgn row ns b := by
  have hg : 0 < gcdL (ns ++ [b]) := gcdL_pos (n := b) (by simp) (by omega)
  unfold sgn
  rw [val_scale hb, Int.sign_mul, Int.sign_eq_one_of_pos (show (0 : Int) < (gcdL (ns ++ [b]) : Int) by omega), Int.one_mul]
/-- at a half way each wall has the sign that both points have -/
theorem sgn_half {row n1 n2 : List Int} {b1 b2 : Int} (h : n1.length = n2.length) (h1 : 1 ≤ b1) (h2 : 1 ≤ b2) (hs : 0 ≤ sgn row n1 b1 * sgn row n2 b2) : sgn row (ptN (hfN n1 n2 b1 b2) (2 * b1 * b2)) (ptB (hfN n1 n2 b1 b2) (2 * b1 * b2)) = (sgn row n1 b1 + sgn row n2 b2).sign := by
  rw [sgn_scale (half_pos h1 h2)]
  unfold sgn at *
  rw [val_half h]
  generalize val row n1 b1 = v1 at *
  generalize val row n2 b2 = v2 at *
  have p1 : ∀ v : Int, 0 < v → 0 < b1 * v := fun v hv => Int.mul_pos (by omega) hv
  have p2 : ∀ v : Int, 0 < v → 0 < b2 * v := fun v hv => Int.mul_pos (by omega) hv
  have q1 : ∀ v : Int, v < 0 → b1 * v < 0 := fun v hv => Int.mul_neg_of_pos_of_neg (by omega) hv
  have q2 : ∀ v : Int, v < 0 → b2 * v < 0 := fun v hv => Int.mul_neg_of_pos_of_neg (by omega) hv
  rcases Int.lt_trichotomy v1 0 with a | a | a <;> rcases Int.lt_trichotomy v2 0 with c | c | c
  · have x := q2 v1 a; have y := q1 v2 c
    rw [Int.sign_eq_neg_one_of_neg a, Int.sign_eq_neg_one_of_neg c, Int.sign_eq_neg_one_of_neg (by omega)]; rfl
  · have x := q2 v1 a
    subst c
    rw [Int.sign_eq_neg_one_of_neg a, Int.mul_zero, Int.add_zero, Int.sign_eq_neg_one_of_neg x]; rfl
  · rw [Int.sign_eq_neg_one_of_neg a, Int.sign_eq_one_of_pos c] at hs
    exact absurd hs (by decide)
  · have y := q1 v2 c
    subst a
    rw [Int.sign_eq_neg_one_of_neg c, Int.mul_zero, Int.zero_add, Int.sign_eq_neg_one_of_neg y]; rfl
  · subst a; subst c
    simp
  · have y := p1 v2 c
    subst a
    rw [Int.sign_eq_one_of_pos c, Int.mul_zero, Int.zero_add, Int.sign_eq_one_of_pos y]; rfl
  · rw [Int.sign_eq_one_of_pos a, Int.sign_eq_neg_one_of_neg c] at hs
    exact absurd hs (by decide)
  · have x := p2 v1 a
    subst c
    rw [Int.sign_eq_one_of_pos a, Int.mul_zero, Int.add_zero, Int.sign_eq_one_of_pos x]; rfl
  · have x := p2 v1 a; have y := p1 v2 c
    rw [Int.sign_eq_one_of_pos a, Int.sign_eq_one_of_pos c, Int.sign_eq_one_of_pos (by omega)]; rfl
theorem v_law_half {Z : Zc} {n1 n2 : List Int} {b1 b2 : Int} {k : Nat} (hk : k ≤ 800) (hl : n1.length ≤ 1000) (h1 : ∀ n ∈ n1, Bd k n) (h2 : ∀ n ∈ n2, Bd k n) (hb1 : Bd k b1) (hb2 : Bd k b2) (p1 : 1 ≤ b1) (p2 : 1 ≤ b2) :
    F_law_half Z [ptD n1 b1, ptD n2 b2] = some (ptD (ptN (hfN n1 n2 b1 b2) (2 * b1 * b2)) (ptB (hfN n1 n2 b1 b2) (2 * b1 * b2))) := by
  obtain ⟨q1, q2⟩ := hf_bd h1 h2 hb1 hb2
  have big : ∀ {n : Int}, Bd k n → Bd 400000 n := fun h => h.mono (by omega)
  have hlen : (hfN n1 n2 b1 b2).length ≤ 1000 := by unfold hfN; rw [List.length_zipWith]; omega
  have e1 : eComp (wZip (aCons (eIdxV 0 (eC (.int 0))) (aCons (eIdxV 1 (eC (.int 0))) aNil))) [2, 3] (gT 2 (gsCons (gV 2) (gsCons (gV 3) gsNil))) bYes (eBin sAddA (eBin sMulA (eVar 2) (eIdxV 1 (eC (.int 1)))) (eBin sMulA (eVar 3) (eIdxV 0 (eC (.int 1))))) [some (false, ptD n1 b1), some (false, ptD n2 b2), none, none] = some (.lst (I (hfN n1 n2 b1 b2))) := by
    rw [comp_map (hfT b1 b2) (ds := zipD (I n1) (I n2)) rfl (by unfold zipD; rw [List.length_zipWith, I_len]; omega) fun d hd => ?_]
    · rw [zipD_I, map_hfT]
    · rw [zipD_I] at hd
      obtain ⟨a, ha, b, hb, rfl⟩ := mem_zip hd
      refine ⟨[some (false, ptD n1 b1), some (false, ptD n2 b2), some (false, .int a), some (false, .int b)], rfl, ?_⟩
      have m1 : eBin sMulA (eVar 2) (eIdxV 1 (eC (.int 1))) [some (false, ptD n1 b1), some (false, ptD n2 b2), some (false, .int a), some (false, .int b)] = some (.int (a * b2)) := (bin_eq rfl rfl).trans (mulA (big (h1 a ha)) (big hb2))
      have m2 : eBin sMulA (eVar 3) (eIdxV 0 (eC (.int 1))) [some (false, ptD n1 b1), some (false, ptD n2 b2), some (false, .int a), some (false, .int b)] = some (.int (b * b1)) := (bin_eq rfl rfl).trans (mulA (big (h2 b hb)) (big hb1))
      exact (bin_eq m1 m2).trans rfl
  have e2 : eBin sMulA (eBin sMulA (eC (.int 2)) (eIdxV 0 (eC (.int 1)))) (eIdxV 1 (eC (.int 1))) [some (false, ptD n1 b1), some (false, ptD n2 b2), none, none] = some (.int (2 * b1 * b2)) := by
    have m : eBin sMulA (eC (.int 2)) (eIdxV 0 (eC (.int 1))) [some (false, ptD n1 b1), some (false, ptD n2 b2), none, none] = some (.int (2 * b1)) := (bin_eq rfl rfl).trans (mulA (show Bd 400000 2 from (show Bd 2 2 by unfold Bd; decide).mono (by decide)) (big hb1))
    have hb : Bd 400000 (2 * b1) := ((show Bd 2 2 by unfold Bd; decide).mul hb1).mono (by omega)
    exact (bin_eq m rfl).trans (mulA hb (big hb2))
  exact fnD_rt ⟨rfl, by decide⟩ (ret_eq ((eCB_eq (a2_eq e1 e2)).trans (v_law_point rfl rfl hlen (half_pos p1 p2) (fun n h => (q1 n h).mono (by omega)) (q2.mono (by omega)))))
/-! ### between -/
theorem v_between_loop {Z : Zc} {α : Type} {f g h : α → Int} {x0 x1 x2 : Option (Bool × D)} : ∀ (l : List α) (x3 x4 x5 : Option (Bool × D)), (∀ r ∈ l, Bd 2 (g r) ∧ Bd 2 (h r) ∧ (0 ≤ g r * h r → f r = (g r + h r).sign)) → ∃ y3 y4 y5,
    forGo (gT 3 (gsCons (gV 3) (gsCons (gV 4) (gsCons (gV 5) gsNil)))) (sIf (bAnd (bBin (sCmp fGe) (eBin sMulA (eVar 4) (eVar 5)) (eC (.int 0))) (bBin sNe (ePk 3) (eCB (F_law_sign Z) (aCons (eBin sAddA (eVar 4) (eVar 5)) aNil)))) (sRet (eC (.bl false))) sNil)
      (zip3D (I (l.map f)) (I (l.map g)) (I (l.map h))) [x0, x1, x2, x3, x4, x5] = some (.nx [x0, x1, x2, y3, y4, y5])
  | [], x3, x4, x5, _ => ⟨x3, x4, x5, rfl⟩
  | r :: l, x3, x4, x5, hh => by
    obtain ⟨h1, h2, h3⟩ := hh r List.mem_cons_self
    obtain ⟨y3, y4, y5, hy⟩ := v_between_loop (Z := Z) (x0 := x0) (x1 := x1) (x2 := x2) l (some (false, .int (f r))) (some (false, .int (g r))) (some (false, .int (h r))) fun x hx => hh x (List.mem_cons_of_mem _ hx)
    refine ⟨y3, y4, y5, Eq.trans (forGo_cons (d := .tup [.int (f r), .int (g r), .int (h r)]) (env1 := [x0, x1, x2, some (false, .int (f r)), some (false, .int (g r)), some (false, .int (h r))]) (e := [x0, x1, x2, some (false, .int (f r)), some (false, .int (g r)), some (false, .int (h r))]) rfl ?_) hy⟩
    have c1 : bBin (sCmp fGe) (eBin sMulA (eVar 4) (eVar 5)) (eC (.int 0)) [x0, x1, x2, some (false, .int (f r)), some (false, .int (g r)), some (false, .int (h r))] = some (decide (0 ≤ g r * h r)) := by
      have m : eBin sMulA (eVar 4) (eVar 5) [x0, x1, x2, some (false, .int (f r)), some (false, .int (g r)), some (false, .int (h r))] = some (.int (g r * h r)) := (bin_eq rfl rfl).trans (mulA (h1.mono (by decide)) (h2.mono (by decide)))
      exact bbin_eq m rfl rfl
    have c2 : bBin sNe (ePk 3) (eCB (F_law_sign Z) (aCons (eBin sAddA (eVar 4) (eVar 5)) aNil)) [x0, x1, x2, some (false, .int (f r)), some (false, .int (g r)), some (false, .int (h r))] = some (decide (f r ≠ (g r + h r).sign)) := by
      have m : eCB (F_law_sign Z) (aCons (eBin sAddA (eVar 4) (eVar 5)) aNil) [x0, x1, x2, some (false, .int (f r)), some (false, .int (g r)), some (false, .int (h r))] = some (.int (g r + h r).sign) := (eCB_eq (a1_eq ((bin_eq rfl rfl).trans rfl))).trans v_law_sign
      refine bbin_eq rfl m ?_
      simp [sNe, eqD]
    have c : bAnd (bBin (sCmp fGe) (eBin sMulA (eVar 4) (eVar 5)) (eC (.int 0))) (bBin sNe (ePk 3) (eCB (F_law_sign Z) (aCons (eBin sAddA (eVar 4) (eVar 5)) aNil))) [x0, x1, x2, some (false, .int (f r)), some (false, .int (g r)), some (false, .int (h r))] = some false := by
      by_cases hz : 0 ≤ g r * h r
      · rw [decide_eq_true hz] at c1
        rw [and_t c1, c2, h3 hz]
        simp
      · rw [decide_eq_false hz] at c1
        exact and_f c1
    exact (if_f c).trans rfl
theorem v_between {Z : Zc} {α : Type} {f g h : α → Int} {l : List α} (hh : ∀ r ∈ l, Bd 2 (g r) ∧ Bd 2 (h r) ∧ (0 ≤ g r * h r → f r = (g r + h r).sign)) : F_law_between Z [.tup (I (l.map f)), .tup (I (l.map g)), .tup (I (l.map h))] = some (.bl true) := by
  obtain ⟨y3, y4, y5, hy⟩ := v_between_loop (Z := Z) (x0 := some (false, .tup (I (l.map f)))) (x1 := some (false, .tup (I (l.map g)))) (x2 := some (false, .tup (I (l.map h)))) l none none none hh
  have hs : wZip3 (aCons (eVar 0) (aCons (eVar 1) (aCons (eVar 2) aNil))) [some (false, .tup (I (l.map f))), some (false, .tup (I (l.map g))), some (false, .tup (I (l.map h))), none, none, none] = some (zip3D (I (l.map f)) (I (l.map g)) (I (l.map h))) := rfl
  exact fnD_rt ⟨rfl, by decide⟩ ((seq_nx ((for_eq hs).trans hy)).trans rfl)
end Sh
end Part_E11o

section Part_E11f
set_option maxRecDepth 100000
set_option maxHeartbeats 400000
/-! E11f: the program's defs that raise. -/
namespace Sh
open PySem L2
section
variable {env e : Env} {a b : Sw} {m : Ew} {d : D} {ds : List D} {x : Xn} {C : Addr} {F : List D → W D} {ms : Aw} {n N : Nat}
theorem a4m_eq {m1 m2 m3 m4 : Ex} {d1 d2 d3 d4 : D} (h1 : m1 env = some d1) (h2 : m2 env = some d2) (h3 : m3 env = some d3) (h4 : m4 env = some d4) : aCons m1 (aCons m2 (aCons m3 (aCons m4 aNil))) env = some [d1, d2, d3, d4] := by
  show (m1 env).bind _ = _
  rw [h1]
  show ((aCons m2 (aCons m3 (aCons m4 aNil)) env).bind _) = _
  rw [a3_eq h2 h3 h4]; rfl
theorem wdrop_eq (h : m env = .ret d) : wsDrop m env = .ret (.nx env) := by unfold wsDrop; rw [h]; rfl
theorem wdrop_ra (h : m env = .raise x) : wsDrop m env = .raise x := by unfold wsDrop; rw [h]; rfl
theorem wseq_ra (h : a env = .raise x) : wsSeq a b env = .raise x := by unfold wsSeq; rw [h]; rfl
theorem wcall_eq (h : ms env = .ret ds) : wCall F ms env = F ds := by unfold wCall; rw [h]; rfl
theorem wraise_eq (h : m env = .ret d) (hs : scalD d = true) : wsRaise C m env = .raise ⟨C, some d⟩ := by unfold wsRaise; rw [h]; show (if _ then _ else _) = _; rw [if_pos hs]
theorem fnW_rt (hl : ds.length = n ∧ n ≤ N) (h : a (startE N ds) = .ret (.rt d)) : fnW n N a ds = .ret d := by unfold fnW; rw [if_pos hl, h]; rfl
theorem fnW_nx (hl : ds.length = n ∧ n ≤ N) (h : a (startE N ds) = .ret (.nx e)) : fnW n N a ds = .ret .non := by unfold fnW; rw [if_pos hl, h]; rfl
theorem fnW_ra (hl : ds.length = n ∧ n ≤ N) (h : a (startE N ds) = .raise x) : fnW n N a ds = .raise x := by unfold fnW; rw [if_pos hl, h]; rfl
end
/-! ### comprehensions over W -/
theorem compGoW_map {tgt : Gx} {el : Ex} {env0 : Env} (f : D → D) : ∀ (ds : List D), (∀ d ∈ ds, ∃ e1, tgt d env0 = some e1 ∧ el e1 = some (f d)) → compGoW tgt (tL bYes) (eL el) env0 ds = .ret (ds.map f)
  | [], _ => rfl
  | d :: ds, h => by
    obtain ⟨e1, h1, h2⟩ := h d List.mem_cons_self
    have ih := compGoW_map (tgt := tgt) (el := el) (env0 := env0) f ds fun x hx => h x (List.mem_cons_of_mem _ hx)
    unfold compGoW
    rw [h1]
    show ((eL el e1).calm.bind _) = _
    rw [eL_eq h2]
    show ((compGoW tgt (tL bYes) (eL el) env0 ds).bind _) = _
    rw [ih]; rfl
theorem wcomp_map {src : Aw} {vs : List Nat} {tgt : Gx} {el : Ex} {env : Env} {ds : List D} (f : D → D) (hs : src env = .ret ds) (hl : ds.length ≤ 1000000) (h : ∀ d ∈ ds, ∃ e1, tgt d (wipeE env vs) = some e1 ∧ el e1 = some (f d)) :
    wComp src vs tgt (tL bYes) (eL el) env = .ret (.lst (ds.map f)) := by
  unfold wComp
  rw [hs]
  show (if ds.length ≤ 1000000 then _ else _) = _
  rw [if_pos hl, compGoW_map f ds h]; rfl
theorem compGoW_wp {tgt : Gx} {el : Ew} {env0 : Env} (P : D → Prop) : ∀ (ds : List D), (∀ d ∈ ds, ∃ e1, tgt d env0 = some e1 ∧ (el e1).wp P (fun _ => False)) → (compGoW tgt (tL bYes) el env0 ds).wp (fun out => out.length = ds.length ∧ ∀ x ∈ out, P x) (fun _ => False)
  | [], _ => ⟨rfl, fun _ h => by cases h⟩
  | d :: ds, h => by
    obtain ⟨e1, h1, h2⟩ := h d List.mem_cons_self
    have ih := compGoW_wp (tgt := tgt) (el := el) (env0 := env0) P ds fun x hx => h x (List.mem_cons_of_mem _ hx)
    unfold compGoW
    rw [h1]
    show ((el e1).calm.bind fun y => (compGoW tgt (tL bYes) el env0 ds).bind fun ys => .ret (y :: ys)).wp _ _
    refine W.wp_bind.mpr (W.wp_calm.mpr (W.wp_mono h2 (fun y hy => W.wp_bind.mpr (W.wp_mono ih (fun ys ⟨a, b⟩ => ?_) fun _ z => z)) fun _ z => z))
    exact ⟨by simp [a], fun x hx => by
      rcases List.mem_cons.mp hx with rfl | hx
      · exact hy
      · exact b x hx⟩
theorem wcomp_wp {src : Aw} {vs : List Nat} {tgt : Gx} {el : Ew} {env : Env} {ds : List D} (P : D → Prop) (hs : src env = .ret ds) (hl : ds.length ≤ 1000000) (h : ∀ d ∈ ds, ∃ e1, tgt d (wipeE env vs) = some e1 ∧ (el e1).wp P (fun _ => False)) :
    (wComp src vs tgt (tL bYes) el env).wp (fun d => ∃ out, d = .lst out ∧ out.length = ds.length ∧ ∀ x ∈ out, P x) (fun _ => False) := by
  unfold wComp
  rw [hs]
  show (if ds.length ≤ 1000000 then _ else _ : W D).wp _ _
  rw [if_pos hl]
  exact W.wp_bind.mpr (W.wp_mono (compGoW_wp P ds h) (fun out ho => ⟨out, rfl, ho⟩) fun _ z => z)
theorem wfcomp_wp {src : Aw} {vs : List Nat} {tgt : Gx} {el : Ew} {env : Env} {ds : List D} (P : D → Prop) (hs : src env = .ret ds) (hl : ds.length ≤ 1000000) (h : ∀ d ∈ ds, ∃ e1, tgt d (wipeE env vs) = some e1 ∧ (el e1).wp P (fun _ => False)) :
    (wfComp src vs tgt (tL bYes) el env).wp (fun d => ∃ out, d = (true, .lst out) ∧ out.length = ds.length ∧ ∀ x ∈ out, P x) (fun _ => False) := by
  unfold wfComp
  rw [hs]
  show (if ds.length ≤ 1000000 then _ else _ : W (Bool × D)).wp _ _
  rw [if_pos hl]
  exact W.wp_bind.mpr (W.wp_mono (compGoW_wp P ds h) (fun out ho => ⟨out, rfl, ho⟩) fun _ z => z)
abbrev xW (Z : Zc) : Xn := ⟨Z.xa "BadWalls", some .non⟩
abbrev xN (Z : Zc) : Xn := ⟨Z.xa "BadNumber", some (.str "place")⟩
abbrev xP (Z : Zc) : Xn := ⟨Z.xa "BadPoint", none⟩
theorem v_is_set {Z : Zc} {d : D} {k : Bool} (h : isWd Z.WC d = some (.bl k)) : Fis_set Z [d] = some (.bl k) := fnD_rt ⟨rfl, by decide⟩ (ret_eq h)
theorem isW_walls {Z : Zc} {size : Nat} {rows : List (List Int)} : isWd Z.WC (wallsD Z size rows) = some (.bl true) := if_pos rfl
theorem v_need_set {Z : Zc} {size : Nat} {rows : List (List Int)} : Fneed_set Z [wallsD Z size rows] = .ret .non :=
  fnW_nx ⟨rfl, by decide⟩ ((wif_f (tL_eq (not_eq (k := true) (bof_eq ((eCB_eq (a1_eq rfl)).trans (v_is_set isW_walls)))))).trans rfl)
theorem v_need_set0 {Z : Zc} {d : D} (h : isWd Z.WC d = some (.bl false)) : Fneed_set Z [d] = .raise (xW Z) :=
  fnW_ra ⟨rfl, by decide⟩ ((wif_t (tL_eq (not_eq (k := false) (bof_eq ((eCB_eq (a1_eq rfl)).trans (v_is_set h)))))).trans (wraise_eq rfl rfl))
theorem v_need_point {Z : Zc} {size : Nat} {rows : List (List Int)} {d : D} (h : Fis_over_row Z [.int size, d] = some (.bl true)) : Fneed_point Z [wallsD Z size rows, d] = .ret .non :=
  fnW_nx ⟨rfl, by decide⟩ ((wif_f (tL_eq (not_eq (k := true) (bof_eq ((eCB_eq (a2_eq fld_size rfl)).trans h))))).trans rfl)
theorem v_need_point0 {Z : Zc} {size : Nat} {rows : List (List Int)} {d : D} (h : Fis_over_row Z [.int size, d] = some (.bl false)) : Fneed_point Z [wallsD Z size rows, d] = .raise (xP Z) :=
  fnW_ra ⟨rfl, by decide⟩ ((wif_t (tL_eq (not_eq (k := false) (bof_eq ((eCB_eq (a2_eq fld_size rfl)).trans h))))).trans rfl)
theorem v_need_between {Z : Zc} {d lo hi p : D} (h : Fis_between Z [d, lo, hi] = some (.bl true)) : Fneed_between Z [d, lo, hi, p] = .ret .non :=
  fnW_nx ⟨rfl, by decide⟩ ((wif_f (tL_eq (not_eq (k := true) (bof_eq ((eCB_eq (a3_eq rfl rfl rfl)).trans h))))).trans rfl)
theorem v_need_between0 {Z : Zc} {d lo hi p : D} (hp : scalD p = true) (h : Fis_between Z [d, lo, hi] = some (.bl false)) : Fneed_between Z [d, lo, hi, p] = .raise ⟨Z.xa "BadNumber", some p⟩ :=
  fnW_ra ⟨rfl, by decide⟩ ((wif_t (tL_eq (not_eq (k := false) (bof_eq ((eCB_eq (a3_eq rfl rfl rfl)).trans h))))).trans (wraise_eq rfl hp))
theorem place_args {Z : Zc} {size : Nat} {rows : List (List Int)} {d : D} : aL (aCons (eVar 1) (aCons (eC (.int 0)) (aCons (eBin (sInt fSub) (eCB cLen (aCons (eFld Z "rows" (eVar 0)) aNil)) (eC (.int 1))) (aCons (eC (.str "place")) aNil)))) [some (false, wallsD Z size rows), some (false, d)] = .ret [d, .int 0, .int ((rows.length : Int) - 1), .str "place"] := by
  have e : eBin (sInt fSub) (eCB cLen (aCons (eFld Z "rows" (eVar 0)) aNil)) (eC (.int 1)) [some (false, wallsD Z size rows), some (false, d)] = some (.int ((rows.length : Int) - 1)) := by
    refine (bin_eq (d := .int ((R rows).length : Nat)) ((eCB_eq (a1_eq fld_rows)).trans rfl) rfl).trans ?_
    unfold R
    rw [List.length_map]
    rfl
  exact aL_eq (a4m_eq rfl rfl e rfl)
theorem v_need_place {Z : Zc} {size : Nat} {rows : List (List Int)} {d : D} (h : Fis_between Z [d, .int 0, .int ((rows.length : Int) - 1)] = some (.bl true)) : Fneed_place Z [wallsD Z size rows, d] = .ret .non :=
  fnW_nx ⟨rfl, by decide⟩ (wdrop_eq ((wcall_eq place_args).trans (v_need_between h)))
theorem v_need_place0 {Z : Zc} {size : Nat} {rows : List (List Int)} {d : D} (h : Fis_between Z [d, .int 0, .int ((rows.length : Int) - 1)] = some (.bl false)) : Fneed_place Z [wallsD Z size rows, d] = .raise (xN Z) :=
  fnW_ra ⟨rfl, by decide⟩ (wdrop_ra ((wcall_eq place_args).trans (v_need_between0 rfl h)))
theorem v_is_between0 {Z : Zc} {d : D} {lo hi : Int} (hb : basic d = true) (h : isNum d = false) : Fis_between Z [d, .int lo, .int hi] = some (.bl false) :=
  fnD_rt ⟨rfl, by decide⟩ (ret_eq (eand_f ((eCB_eq (a1_eq rfl)).trans ((v_is_number hb).trans (by rw [h])))))
theorem v_is_betweenN {Z : Zc} {i lo hi : Int} : Fis_between Z [.int i, .int lo, .int hi] = some (.bl (decide (lo ≤ i ∧ i ≤ hi))) := by
  refine fnD_rt ⟨rfl, by decide⟩ (ret_eq ((eand_t ((eCB_eq (a1_eq rfl)).trans (v_is_number rfl))).trans ?_))
  by_cases h1 : lo ≤ i <;> by_cases h2 : i ≤ hi <;> simp [eChain, eVar, sCmp, fLe, h1, h2, startE]
/-! ### the defs -/
section
variable {Z : Zc} {size : Nat} {rows : List (List Int)} {d d1 d2 : D}
theorem v_is_point0 (h : isWd Z.WC d = some (.bl false)) : Fis_point Z [d, d1] = .raise (xW Z) := fnW_ra ⟨rfl, by decide⟩ (wseq_ra (wdrop_ra ((wcall_eq (aL_eq rfl)).trans (v_need_set0 h))))
theorem v_is_point {k : Bool} (h : Fis_over_row Z [.int size, d] = some (.bl k)) : Fis_point Z [wallsD Z size rows, d] = .ret (.bl k) :=
  fnW_rt ⟨rfl, by decide⟩ ((wseq_nx (wdrop_eq ((wcall_eq (aL_eq rfl)).trans v_need_set))).trans (wret_eq (eL_eq ((eCB_eq (a2_eq fld_size rfl)).trans h))))
theorem v_signs_at0 (h : isWd Z.WC d = some (.bl false)) : Fsigns_at Z [d, d1] = .raise (xW Z) := fnW_ra ⟨rfl, by decide⟩ (wseq_ra (wdrop_ra ((wcall_eq (aL_eq rfl)).trans (v_need_set0 h))))
theorem v_signs_at1 (h : Fis_over_row Z [.int size, d] = some (.bl false)) : Fsigns_at Z [wallsD Z size rows, d] = .raise (xP Z) :=
  fnW_ra ⟨rfl, by decide⟩ ((wseq_nx (wdrop_eq ((wcall_eq (aL_eq rfl)).trans v_need_set))).trans (wseq_ra (wdrop_ra ((wcall_eq (aL_eq rfl)).trans (v_need_point0 h)))))
theorem v_signs_at {r : D} (h : Fis_over_row Z [.int size, d] = some (.bl true)) (h2 : Fpoint_signs Z [wallsD Z size rows, d] = some r) : Fsigns_at Z [wallsD Z size rows, d] = .ret r :=
  fnW_rt ⟨rfl, by decide⟩ ((wseq_nx (wdrop_eq ((wcall_eq (aL_eq rfl)).trans v_need_set))).trans ((wseq_nx (wdrop_eq ((wcall_eq (aL_eq rfl)).trans (v_need_point h)))).trans (wret_eq (eL_eq ((eCB_eq (a2_eq rfl rfl)).trans h2)))))
theorem v_value_at0 (h : isWd Z.WC d = some (.bl false)) : Fvalue_at Z [d, d1, d2] = .raise (xW Z) := fnW_ra ⟨rfl, by decide⟩ (wseq_ra (wdrop_ra ((wcall_eq (aL_eq rfl)).trans (v_need_set0 h))))
theorem v_value_at1 (h : Fis_between Z [d, .int 0, .int ((rows.length : Int) - 1)] = some (.bl false)) : Fvalue_at Z [wallsD Z size rows, d, d1] = .raise (xN Z) :=
  fnW_ra ⟨rfl, by decide⟩ ((wseq_nx (wdrop_eq ((wcall_eq (aL_eq rfl)).trans v_need_set))).trans (wseq_ra (wdrop_ra ((wcall_eq (aL_eq rfl)).trans (v_need_place0 h)))))
theorem v_value_at2 (h : Fis_between Z [d, .int 0, .int ((rows.length : Int) - 1)] = some (.bl true)) (h2 : Fis_over_row Z [.int size, d1] = some (.bl false)) : Fvalue_at Z [wallsD Z size rows, d, d1] = .raise (xP Z) :=
  fnW_ra ⟨rfl, by decide⟩ ((wseq_nx (wdrop_eq ((wcall_eq (aL_eq rfl)).trans v_need_set))).trans ((wseq_nx (wdrop_eq ((wcall_eq (aL_eq rfl)).trans (v_need_place h)))).trans (wseq_ra (wdrop_ra ((wcall_eq (aL_eq rfl)).trans (v_need_point0 h2))))))
theorem v_value_at {r : D} (h : Fis_between Z [d, .int 0, .int ((rows.length : Int) - 1)] = some (.bl true)) (h2 : Fis_over_row Z [.int size, d1] = some (.bl true)) (h3 : Fvalue_told Z [wallsD Z size rows, d, d1] = some r) : Fvalue_at Z [wallsD Z size rows, d, d1] = .ret r :=
  fnW_rt ⟨rfl, by decide⟩ ((wseq_nx (wdrop_eq ((wcall_eq (aL_eq rfl)).trans v_need_set))).trans ((wseq_nx (wdrop_eq ((wcall_eq (aL_eq rfl)).trans (v_need_place h)))).trans ((wseq_nx (wdrop_eq ((wcall_eq (aL_eq rfl)).trans (v_need_point h2)))).trans (wret_eq (eL_eq ((eCB_eq (a3_eq rfl rfl rfl)).trans h3))))))
theorem v_half_way0 (h : isWd Z.WC d = some (.bl false)) : Fhalf_way Z [d, d1, d2] = .raise (xW Z) := fnW_ra ⟨rfl, by decide⟩ (wseq_ra (wdrop_ra ((wcall_eq (aL_eq rfl)).trans (v_need_set0 h))))
theorem v_half_way1 (h : Fis_over_row Z [.int size, d1] = some (.bl false)) : Fhalf_way Z [wallsD Z size rows, d1, d2] = .raise (xP Z) :=
  fnW_ra ⟨rfl, by decide⟩ ((wseq_nx (wdrop_eq ((wcall_eq (aL_eq rfl)).trans v_need_set))).trans (wseq_ra (wdrop_ra ((wcall_eq (aL_eq rfl)).trans (v_need_point0 h)))))
theorem v_half_way2 (h1 : Fis_over_row Z [.int size, d1] = some (.bl true)) (h : Fis_over_row Z [.int size, d2] = some (.bl false)) : Fhalf_way Z [wallsD Z size rows, d1, d2] = .raise (xP Z) :=
  fnW_ra ⟨rfl, by decide⟩ ((wseq_nx (wdrop_eq ((wcall_eq (aL_eq rfl)).trans v_need_set))).trans ((wseq_nx (wdrop_eq ((wcall_eq (aL_eq rfl)).trans (v_need_point h1)))).trans (wseq_ra (wdrop_ra ((wcall_eq (aL_eq rfl)).trans (v_need_point0 h))))))
theorem v_half_way {n1 n2 : List Int} {b1 b2 : Int} {k : Nat} (hk : k ≤ 800) (hl : n1.length ≤ 1000) (h1 : ∀ n ∈ n1, Bd k n) (h2 : ∀ n ∈ n2, Bd k n) (hb1 : Bd k b1) (hb2 : Bd k b2) (p1 : 1 ≤ b1) (p2 : 1 ≤ b2)
    (o1 : Fis_over_row Z [.int size, ptD n1 b1] = some (.bl true)) (o2 : Fis_over_row Z [.int size, ptD n2 b2] = some (.bl true)) :
    Fhalf_way Z [wallsD Z size rows, ptD n1 b1, ptD n2 b2] = .ret (ptD (ptN (hfN n1 n2 b1 b2) (2 * b1 * b2)) (ptB (hfN n1 n2 b1 b2) (2 * b1 * b2))) := by
  obtain ⟨q1, q2⟩ := hf_bd h1 h2 hb1 hb2
  have big : ∀ {n : Int}, Bd k n → Bd 400000 n := fun h => h.mono (by omega)
  have hlen : (hfN n1 n2 b1 b2).length ≤ 1000 := by unfold hfN; rw [List.length_zipWith]; omega
  have e1 : wComp (aL (wZip (aCons (eIdxV 1 (eC (.int 0))) (aCons (eIdxV 2 (eC (.int 0))) aNil)))) [4, 5] (gT 2 (gsCons (gV 4) (gsCons (gV 5) gsNil))) (tL bYes) (eL (eBin sAddA (eBin sMulA (eVar 4) (eIdxV 2 (eC (.int 1)))) (eBin sMulA (eVar 5) (eIdxV 1 (eC (.int 1)))))) [some (false, wallsD Z size rows), some (false, ptD n1 b1), some (false, ptD n2 b2), none, none, none] = .ret (.lst (I (hfN n1 n2 b1 b2))) := by
    rw [wcomp_map (hfT b1 b2) (ds := zipD (I n1) (I n2)) (aL_eq rfl) (by unfold zipD; rw [List.length_zipWith, I_len]; omega) fun d hd => ?_]
    · rw [zipD_I, map_hfT]
    · rw [zipD_I] at hd
      obtain ⟨a, ha, b, hb, rfl⟩ := mem_zip hd
      refine ⟨[some (false, wallsD Z size rows), some (false, ptD n1 b1), some (false, ptD n2 b2), none, some (false, .int a), some (false, .int b)], rfl, ?_⟩
      have m1 : eBin sMulA (eVar 4) (eIdxV 2 (eC (.int 1))) [some (false, wallsD Z size rows), some (false, ptD n1 b1), some (false, ptD n2 b2), none, some (false, .int a), some (false, .int b)] = some (.int (a * b2)) := (bin_eq rfl rfl).trans (mulA (big (h1 a ha)) (big hb2))
      have m2 : eBin sMulA (eVar 5) (eIdxV 1 (eC (.int 1))) [some (false, wallsD Z size rows), some (false, ptD n1 b1), some (false, ptD n2 b2), none, some (false, .int a), some (false, .int b)] = some (.int (b * b1)) := (bin_eq rfl rfl).trans (mulA (big (h2 b hb)) (big hb1))
      exact (bin_eq m1 m2).trans rfl
  have e2 : eBin sMulA (eBin sMulA (eC (.int 2)) (eIdxV 1 (eC (.int 1)))) (eIdxV 2 (eC (.int 1))) [some (false, wallsD Z size rows), some (false, ptD n1 b1), some (false, ptD n2 b2), some (false, .lst (I (hfN n1 n2 b1 b2))), none, none] = some (.int (2 * b1 * b2)) := by
    have m : eBin sMulA (eC (.int 2)) (eIdxV 1 (eC (.int 1))) [some (false, wallsD Z size rows), some (false, ptD n1 b1), some (false, ptD n2 b2), some (false, .lst (I (hfN n1 n2 b1 b2))), none, none] = some (.int (2 * b1)) := (bin_eq rfl rfl).trans (mulA (show Bd 400000 2 from (show Bd 2 2 by unfold Bd; decide).mono (by decide)) (big hb1))
    have hb : Bd 400000 (2 * b1) := ((show Bd 2 2 by unfold Bd; decide).mul hb1).mono (by omega)
    exact (bin_eq m rfl).trans (mulA hb (big hb2))
  exact fnW_rt ⟨rfl, by decide⟩ ((wseq_nx (wdrop_eq ((wcall_eq (aL_eq rfl)).trans v_need_set))).trans ((wseq_nx (wdrop_eq ((wcall_eq (aL_eq rfl)).trans (v_need_point o1)))).trans ((wseq_nx (wdrop_eq ((wcall_eq (aL_eq rfl)).trans (v_need_point o2)))).trans
    ((wseq_nx (wset_eq e1 (by show 3 < 6; decide))).trans (wret_eq (eL_eq ((eCB_eq (a2_eq rfl e2)).trans (v_point_told hlen (half_pos p1 p2) (fun n h => (q1 n h).mono (by omega)) (q2.mono (by omega))))))))))
end
end Sh
end Part_E11f

section Part_E11g
set_option maxRecDepth 100000
set_option maxHeartbeats 400000
/-! E11g: what is caught, what is told of it. -/
namespace Sh
open PySem L2
theorem map_inj_of {α β : Type} {f : α → β} : ∀ {l : List α}, (l.map f).Nodup → ∀ {a b : α}, a ∈ l → b ∈ l → f a = f b → a = b
  | [], _, _, _, h, _, _ => by cases h
  | x :: l, hn, a, b, ha, hb, e => by
    rw [List.map_cons, List.nodup_cons] at hn
    rcases List.mem_cons.mp ha with ea | ha
    · rcases List.mem_cons.mp hb with eb | hb
      · rw [ea, eb]
      · exact absurd (List.mem_map.mpr ⟨b, hb, by rw [← e, ea]⟩) hn.1
    · rcases List.mem_cons.mp hb with eb | hb
      · exact absurd (List.mem_map.mpr ⟨a, ha, by rw [e, eb]⟩) hn.1
      · exact map_inj_of hn.2 ha hb e
section
variable {Z : Zc} {env : Env} {i : Nat} {a b : Str} {ps : List D}
theorem xa_mem (h : a ∈ xNames) : Z.xa a ∈ XS Z := List.mem_map.mpr ⟨a, h, rfl⟩
theorem isX_eq (hn : (XS Z).Nodup) (ha : a ∈ xNames) (hb : b ∈ xNames) (k : Bool) (hk : decide (a = b) = k) (he : env[i]? = some (some (false, .exc (Z.xa a) ps))) : eIsX Z b (eVar i) env = some (.bl k) := by
  have e : eVar i env = some (.exc (Z.xa a) ps) := by unfold eVar; rw [he]
  unfold eIsX
  rw [e]
  show (if Z.xa a ∈ XS Z then some (D.bl (decide (Z.xa a = Z.xa b))) else none) = _
  rw [if_pos (xa_mem ha)]
  congr 2
  rw [← hk, decide_eq_decide]
  exact ⟨fun h => map_inj_of hn ha hb h, fun h => by rw [h]⟩
theorem caught_ra {x : Xn} (ha : a ∈ xNames) (hx : x.C = Z.xa a) : caughtW (XS Z) (.raise x) = .ret (.exc x.C x.part.toList) := by
  unfold caughtW
  rw [if_pos (by rw [hx]; exact xa_mem ha)]
theorem part_eq (ha : Z.xa a ∈ XP Z) {d : D} (he : env[i]? = some (some (false, .exc (Z.xa a) [d]))) : ePart Z (eVar i) env = some d := by
  have e : eVar i env = some (.exc (Z.xa a) [d]) := by unfold eVar; rw [he]
  unfold ePart
  rw [e]
  exact if_pos ha
end
section
variable {Z : Zc}
theorem wcb_eq {sem : List D → Option D} {m : Aw} {ds : List D} {d : D} {env : Env} (h : m env = .ret ds) (h2 : sem ds = some d) : wCB sem m env = .ret d := by unfold wCB; rw [h]; show W.ofO (sem ds) = _; rw [h2]; rfl
theorem wbin_eq {sem : D → D → Option D} {m n : Ew} {d e f : D} {env : Env} (h : m env = .ret d) (h2 : n env = .ret e) (h3 : sem d e = some f) : wBin sem m n env = .ret f := by unfold wBin; rw [h, ]; show ((n env).bind _) = _; rw [h2]; show W.ofO (sem d e) = _; rw [h3]; rfl
theorem str_add {a b c : Str} (h : a.length + b.length ≤ 1000000) (e : a ++ b = c) : sAddA (.str a) (.str b) = some (.str c) := by
  show (if a.length + b.length ≤ 1000000 then some (D.str (a ++ b)) else none) = _
  rw [if_pos h, e]
theorem repr_place : cRepr [.str "place"] = some (.str "'place'") := by
  have e : PySem.reprText "place" = ("'place'" : Str) := by decide +kernel
  show (if (PySem.reprText "place").length ≤ 1000000 then some (D.str (PySem.reprText "place")) else none) = _
  rw [e, if_pos (by decide +kernel)]
theorem v_told_walls (hn : (XS Z).Nodup) : F_law_told Z [.exc (Z.xa "BadWalls") [.non]] = .ret (.str "walls None") := by
  have m : ("BadWalls" : Str) ∈ xNames := by decide
  refine fnW_rt ⟨rfl, by decide⟩ (wseq_rt ((wif_t (tL_eq (bof_eq (isX_eq hn m m true (by decide) rfl)))).trans (wret_eq (wbin_eq (d := .str "walls ") (e := .str "None") rfl (wcb_eq (ds := [.non]) (aL_eq (a1_eq (part_eq (by simp [XP]) rfl))) rfl) ?_))))
  exact str_add (by decide +kernel) (by decide +kernel)
theorem v_told_number (hn : (XS Z).Nodup) : F_law_told Z [.exc (Z.xa "BadNumber") [.str "place"]] = .ret (.str "number 'place'") := by
  have m : ("BadNumber" : Str) ∈ xNames := by decide
  have m2 : ("BadWalls" : Str) ∈ xNames := by decide
  refine fnW_rt ⟨rfl, by decide⟩ ((wseq_nx ((wif_f (tL_eq (bof_eq (isX_eq hn m m2 false (by decide) rfl)))).trans rfl)).trans (wseq_rt ((wif_t (tL_eq (bof_eq (isX_eq hn m m true (by decide) rfl)))).trans (wret_eq (wbin_eq (d := .str "number ") (e := .str "'place'") rfl (wcb_eq (ds := [.str "place"]) (aL_eq (a1_eq (part_eq (by simp [XP]) rfl))) repr_place) ?_)))))
  exact str_add (by decide +kernel) (by decide +kernel)
theorem lst3_eq {env : Env} {m m2 m3 : Ex} {d d2 d3 : D} (h : m env = some d) (h2 : m2 env = some d2) (h3 : m3 env = some d3) : eLst (aCons m (aCons m2 (aCons m3 aNil))) env = some (.lst [d, d2, d3]) := by
  unfold eLst
  rw [a3_eq h h2 h3]; rfl
theorem lst2_eq {env : Env} {m m2 : Ex} {d d2 : D} (h : m env = some d) (h2 : m2 env = some d2) : eLst (aCons m (aCons m2 aNil)) env = some (.lst [d, d2]) := by
  unfold eLst
  rw [a2_eq h h2]; rfl
theorem v_told_point (hn : (XS Z).Nodup) : F_law_told Z [.exc (Z.xa "BadPoint") []] = .ret (.str "point") := by
  have m : ("BadPoint" : Str) ∈ xNames := by decide
  have ne : ∀ {b : Str} {e1 e2 e3 : Option (Bool × D)}, b ∈ xNames → decide (("BadPoint" : Str) = b) = false → eIsX Z b (eVar 0) [some (false, .exc (Z.xa "BadPoint") []), e1, e2, e3] = some (.bl false) := fun hb hk => isX_eq hn m hb false hk rfl
  have eq : ∀ {e1 e2 e3 : Option (Bool × D)}, eIsX Z "BadPoint" (eVar 0) [some (false, .exc (Z.xa "BadPoint") []), e1, e2, e3] = some (.bl true) := isX_eq hn m m true (by decide) rfl
  refine fnW_rt ⟨rfl, by decide⟩ ((wseq_nx ((wif_f (tL_eq (bof_eq (ne (by decide) (by decide))))).trans rfl)).trans ((wseq_nx ((wif_f (tL_eq (bof_eq (ne (by decide) (by decide))))).trans rfl)).trans ?_))
  refine (wseq_nx (wset_eq (eL_eq (lst3_eq (tup2_eq rfl (ne (by decide) (by decide))) (tup2_eq rfl (ne (by decide) (by decide))) (tup2_eq rfl eq))) (by show 1 < 4; decide))).trans ?_
  refine (wseq_nx (wset_eq (eL_eq ((bin_eq rfl (lst3_eq (tup2_eq rfl (ne (by decide) (by decide))) (tup2_eq rfl (ne (by decide) (by decide))) (tup2_eq rfl (ne (by decide) (by decide))))).trans rfl)) (by show 1 < 4; decide))).trans ?_
  refine (wseq_nx (wset_eq (eL_eq ((bin_eq rfl (lst2_eq (tup2_eq rfl (ne (by decide) (by decide))) (tup2_eq rfl (ne (by decide) (by decide))))).trans rfl)) (by show 1 < 4; decide))).trans ?_
  exact wret_eq (eL_eq rfl)
end
end Sh
end Part_E11g

section Part_E11i
set_option maxRecDepth 100000
set_option maxHeartbeats 400000
/-! E11i: what is drawn: rows. -/
namespace Sh
open PySem L2
/-! ### what comes of a piece that draws -/
structure NxW (m : Sw) (env : Env) (I : Env → Prop) : Prop where
  h : (m env).wp (fun r => ∃ e, r = .nx e ∧ I e) (fun _ => False)
structure RtW (m : Sw) (env : Env) (P : D → Prop) : Prop where
  h : (m env).wp (fun r => ∃ d, r = .rt d ∧ P d) (fun _ => False)
structure EvW (m : Ew) (env : Env) (P : D → Prop) : Prop where
  h : (m env).wp P (fun _ => False)
structure VaW (m : W D) (P : D → Prop) : Prop where
  h : m.wp P (fun _ => False)
structure FvW (m : Fw) (env : Env) (P : Bool × D → Prop) : Prop where
  h : (m env).wp P (fun _ => False)
structure AvW (m : Aw) (env : Env) (P : List D → Prop) : Prop where
  h : (m env).wp P (fun _ => False)
structure TvW (m : Tw) (env : Env) (P : Bool → Prop) : Prop where
  h : (m env).wp P (fun _ => False)
section
variable {env : Env} {a b : Sw} {m n : Ew} {I J : Env → Prop} {P Q : D → Prop} {i : Nat} {F : List D → W D} {ms : Aw} {t : Tw}
theorem nw_seq (h : NxW a env I) (k : ∀ e, I e → NxW b e J) : NxW (wsSeq a b) env J := ⟨W.wp_bind.mpr (W.wp_mono h.h (fun r ⟨e, hr, he⟩ => by subst hr; exact (k e he).h) fun _ z => z)⟩
theorem rw_seq (h : NxW a env I) (k : ∀ e, I e → RtW b e P) : RtW (wsSeq a b) env P := ⟨W.wp_bind.mpr (W.wp_mono h.h (fun r ⟨e, hr, he⟩ => by subst hr; exact (k e he).h) fun _ z => z)⟩
theorem nw_of {e : Env} (h : a env = .ret (.nx e)) (k : I e) : NxW a env I := ⟨by rw [h]; exact ⟨e, rfl, k⟩⟩
theorem NxW.mono (h : NxW a env I) (k : ∀ e, I e → J e) : NxW a env J := ⟨W.wp_mono h.h (fun r ⟨e, hr, he⟩ => ⟨e, hr, k e he⟩) fun _ z => z⟩
theorem RtW.mono (h : RtW a env P) (k : ∀ e, P e → Q e) : RtW a env Q := ⟨W.wp_mono h.h (fun r ⟨e, hr, he⟩ => ⟨e, hr, k e he⟩) fun _ z => z⟩
theorem EvW.mono (h : EvW m env P) (k : ∀ d, P d → Q d) : EvW m env Q := ⟨W.wp_mono h.h k fun _ z => z⟩
theorem VaW.mono {w : W D} (h : VaW w P) (k : ∀ d, P d → Q d) : VaW w Q := ⟨W.wp_mono h.h k fun _ z => z⟩
theorem ev_of {d : D} (h : m env = .ret d) (k : P d) : EvW m env P := ⟨by rw [h]; exact k⟩
theorem av_of {ds : List D} {P : List D → Prop} (h : ms env = .ret ds) (k : P ds) : AvW ms env P := ⟨by rw [h]; exact k⟩
theorem va_of {w : W D} {d : D} (h : w = .ret d) (k : P d) : VaW w P := ⟨by rw [h]; exact k⟩
theorem nw_set (h : EvW m env P) (hi : i < env.length) : NxW (wsSet i m) env (fun e => ∃ d, P d ∧ e = env.set i (some (false, d))) :=
  ⟨W.wp_bind.mpr (W.wp_mono h.h (fun d hd => by rw [if_pos hi]; exact ⟨_, rfl, d, hd, rfl⟩) fun _ z => z)⟩
theorem rw_ret (h : EvW m env P) : RtW (wsRet m) env P := ⟨W.wp_bind.mpr (W.wp_mono h.h (fun d hd => ⟨d, rfl, hd⟩) fun _ z => z)⟩
theorem ev_call {R : List D → Prop} (h : AvW ms env R) (k : ∀ ds, R ds → VaW (F ds) P) : EvW (wCall F ms) env P := ⟨W.wp_bind.mpr (W.wp_mono h.h (fun ds hd => (k ds hd).h) fun _ z => z)⟩
theorem ev_call1 {ds : List D} (h : ms env = .ret ds) (k : VaW (F ds) P) : EvW (wCall F ms) env P := ev_call (av_of (P := fun x => x = ds) h rfl) fun x hx => by rw [hx]; exact k
theorem ev_bin {sem : D → D → Option D} {R : D → Prop} (h : EvW m env P) (h2 : EvW n env Q) (k : ∀ x y, P x → Q y → ∃ d, sem x y = some d ∧ R d) : EvW (wBin sem m n) env R :=
  ⟨W.wp_bind.mpr (W.wp_mono h.h (fun x hx => W.wp_bind.mpr (W.wp_mono h2.h (fun y hy => W.wp_ofO.mpr (k x y hx hy)) fun _ z => z)) fun _ z => z)⟩
theorem ev_cb {sem : List D → Option D} {R : List D → Prop} (h : AvW ms env R) (k : ∀ ds, R ds → ∃ d, sem ds = some d ∧ P d) : EvW (wCB sem ms) env P := ⟨W.wp_bind.mpr (W.wp_mono h.h (fun ds hd => W.wp_ofO.mpr (k ds hd)) fun _ z => z)⟩
theorem av_nil : AvW wNil env (fun ds => ds = []) := ⟨rfl⟩
theorem av_cons {R : List D → Prop} (h : EvW m env P) (h2 : AvW ms env R) : AvW (wCons m ms) env (fun ds => ∃ x xs, ds = x :: xs ∧ P x ∧ R xs) :=
  ⟨W.wp_bind.mpr (W.wp_mono h.h (fun x hx => W.wp_bind.mpr (W.wp_mono h2.h (fun xs hxs => ⟨x, xs, rfl, hx, hxs⟩) fun _ z => z)) fun _ z => z)⟩
theorem va_fn {n N : Nat} {ds : List D} (hl : ds.length = n ∧ n ≤ N) (h : RtW a (startE N ds) P) : VaW (fnW n N a ds) P := ⟨by
  unfold fnW
  rw [if_pos hl]
  exact W.wp_bind.mpr (W.wp_mono h.h (fun r ⟨d, hr, hd⟩ => by subst hr; exact hd) fun _ z => z)⟩
theorem nw_if {k : Bool} (h : t env = .ret k) (h1 : k = true → NxW a env I) (h2 : k = false → NxW b env I) : NxW (wsIf t a b) env I := ⟨by
  rw [show wsIf t a b env = if k then a env else b env from wif_eq h]
  cases k with
  | true => exact (h1 rfl).h
  | false => exact (h2 rfl).h⟩
theorem rw_if {k : Bool} (h : t env = .ret k) (h1 : k = true → RtW a env P) (h2 : k = false → RtW b env P) : RtW (wsIf t a b) env P := ⟨by
  rw [show wsIf t a b env = if k then a env else b env from wif_eq h]
  cases k with
  | true => exact (h1 rfl).h
  | false => exact (h2 rfl).h⟩
theorem nw_nil (k : I env) : NxW wsNil env I := nw_of rfl k
theorem nw_setF {f : Fw} {R : Bool × D → Prop} (h : FvW f env R) (hi : i < env.length) : NxW (wsSetF i f) env (fun e => ∃ d, R d ∧ e = env.set i (some d)) :=
  ⟨W.wp_bind.mpr (W.wp_mono h.h (fun d hd => by rw [if_pos hi]; exact ⟨_, rfl, d, hd, rfl⟩) fun _ z => z)⟩
theorem fv_pl (h : EvW m env P) : FvW (wfPl m) env (fun x => ∃ d, P d ∧ x = (false, d)) := ⟨W.wp_bind.mpr (W.wp_mono h.h (fun d hd => ⟨d, hd, rfl⟩) fun _ z => z)⟩
theorem nw_par {f g : Fw} {j : Nat} {R S : Bool × D → Prop} (h : FvW f env R) (h2 : FvW g env S) (hi : i < env.length ∧ j < env.length) : NxW (wsPar i j f g) env (fun e => ∃ x y, R x ∧ S y ∧ e = (env.set i (some x)).set j (some y)) :=
  ⟨W.wp_bind.mpr (W.wp_mono h.h (fun x hx => W.wp_bind.mpr (W.wp_mono h2.h (fun y hy => by rw [if_pos hi]; exact ⟨_, rfl, x, y, hx, hy, rfl⟩) fun _ z => z)) fun _ z => z)⟩
theorem rw_asg {g : Gx} {Q : D → Prop} (h : EvW m env Q) (k : ∀ d, Q d → ∃ e, g d env = some e ∧ I e) : NxW (wsAsg m g) env I :=
  ⟨W.wp_bind.mpr (W.wp_mono h.h (fun d hd => by
    obtain ⟨e, h1, h2⟩ := k d hd
    exact W.wp_bind.mpr (W.wp_ofO.mpr ⟨e, h1, ⟨e, rfl, h2⟩⟩)) fun _ z => z)⟩
theorem nw_put {mk : Ew} {ds : List D} {R : D → Prop} (he : env[i]? = some (some (true, .lst ds))) (h : EvW m env P) (h2 : EvW mk env R) (k : ∀ d x, P d → R x → ∃ z j, x = .int z ∧ ixN ds.length z = some j ∧ I (env.set i (some (true, .lst (ds.set j d))))) : NxW (wsPut i mk m) env I := ⟨by
  unfold wsPut
  rw [he]
  refine W.wp_bind.mpr (W.wp_mono h.h (fun d hd => W.wp_bind.mpr (W.wp_mono h2.h (fun x hx => ?_) fun _ z => z)) fun _ z => z)
  obtain ⟨z, j, rfl, h3, h4⟩ := k d x hd hx
  show (match ixN ds.length z with | some j => _ | none => _ : W Res).wp _ _
  rw [h3]
  exact ⟨_, rfl, h4⟩⟩
end
def IntB (k : Nat) (d : D) : Prop := ∃ n : Int, d = .int n ∧ Bd k n
theorem ints_of {k : Nat} : ∀ {out : List D}, (∀ x ∈ out, IntB k x) → ∃ ns, out = I ns ∧ ∀ n ∈ ns, Bd k n
  | [], _ => ⟨[], rfl, fun _ h => by cases h⟩
  | x :: out, h => by
    obtain ⟨n, rfl, hn⟩ := h x List.mem_cons_self
    obtain ⟨ns, rfl, hs⟩ := ints_of fun y hy => h y (List.mem_cons_of_mem _ hy)
    exact ⟨n :: ns, rfl, fun m hm => by
      rcases List.mem_cons.mp hm with rfl | hm
      · exact hn
      · exact hs m hm⟩
theorem va_take {Z : Zc} {n : Int} (h : 0 < n) (h2 : n < 1152921504606846976) : VaW (F_law_take Z [.raw (.ref Z.p), .int n]) (fun d => ∃ r : Int, d = .int r ∧ 0 ≤ r ∧ r < n) := ⟨by
  show (if Z.p = Z.p ∧ 0 < n ∧ n < 1152921504606846976 then _ else _ : W D).wp _ _
  rw [if_pos ⟨rfl, h, h2⟩]
  exact fun d hd => hd⟩
theorem va_pick {Z : Zc} {s : D} {xs : List D} (h : itemsOf s = some xs) (h0 : xs ≠ []) (h2 : xs.length < 1073741824) : VaW (F_law_pick Z [.raw (.ref Z.p), s]) (fun d => d ∈ xs) := ⟨by
  show (match itemsOf s with | some xs => (if Z.p = Z.p ∧ xs ≠ [] ∧ xs.length < 1073741824 then _ else _ : W D) | none => _ : W D).wp _ _
  rw [h]
  show (if Z.p = Z.p ∧ xs ≠ [] ∧ xs.length < 1073741824 then _ else _ : W D).wp _ _
  rw [if_pos ⟨rfl, h0, h2⟩]
  exact fun d hd => hd⟩
/-- a list of ints with nothing in it -/
theorem dpys_I : ∀ l : List Int, dpys (I l) = some (l.map PyData.int)
  | [] => rfl
  | n :: l => by
    have ih := dpys_I l
    show (dpy (.int n)).bind (fun p => (dpys (I l)).map (p :: ·)) = _
    rw [ih]; rfl
theorem eq_I_nil (l : List Int) : sEq (.lst (I l)) (.lst []) = some (.bl (decide (l = []))) := by
  have h1 : dpy (.lst (I l)) = some (.list (l.map PyData.int)) := by
    show (dpys _).map _ = _
    rw [dpys_I]; rfl
  obtain ⟨s1, s2⟩ := shaped_ints l
  have h2 : SeqAt.shaped (.list (l.map PyData.int)) = true := by
    unfold SeqAt.shaped
    simp [s1]
    omega
  have h3 : SeqAt.shaped (.list []) = true := by decide
  show (eqD _ _).map _ = _
  unfold eqD
  show ((dpy (.lst (I l))).bind _).map _ = _
  rw [h1]
  show ((if SeqAt.shaped _ = true ∧ SeqAt.shaped (.list []) = true then some (PyData.eqv _ (.list [])) else none : Option Bool)).map D.bl = _
  rw [if_pos ⟨h2, h3⟩]
  cases l with
  | nil => rfl
  | cons k l => simp [PyData.eqv, PyData.eqvAll]
end Sh
end Part_E11i

section Part_E11j
set_option maxRecDepth 100000
set_option maxHeartbeats 400000
/-! E11j: a drawn row. -/
namespace Sh
open PySem L2
theorem sEq_int {a b : Int} : sEq (.int a) (.int b) = some (.bl (decide (a = b))) := rfl
theorem eif_t {c : Tx} {a b : Ex} {env : Env} (h : c env = some true) : eIf c a b env = a env := by unfold eIf; rw [h]; rfl
theorem eif_f {c : Tx} {a b : Ex} {env : Env} (h : c env = some false) : eIf c a b env = b env := by unfold eIf; rw [h]; rfl
theorem bd_of {n : Int} {k : Nat} (m : Nat) (hm : m < 2 ^ k) (h1 : -(m : Int) ≤ n) (h2 : n ≤ (m : Int)) : Bd k n := by unfold Bd; omega
abbrev RE (Z : Zc) (size : Nat) (way : Int) (a3 a4 a5 a6 a7 : Option (Bool × D)) : Env := [some (false, .raw (.ref Z.p)), some (false, .int size), some (false, .int way), a3, a4, a5, a6, a7, none, none, none]
theorem range_eq {env : Env} {i : Nat} {n : Nat} (h : env[i]? = some (some (false, .int (n : Nat)))) (hn : n ≤ 1000000) : wRange1 (aCons (eVar i) aNil) env = some (rangeD 0 n) := by
  have e : eVar i env = some (.int (n : Nat)) := by unfold eVar; rw [h]
  unfold wRange1
  rw [a1_eq e]
  show (if -1000000 ≤ ((n : Nat) : Int) ∧ ((n : Nat) : Int) ≤ 1000000 then some (rangeD 0 ((n : Nat) : Int).toNat) else none) = _
  rw [if_pos (by omega)]; rfl
/-- an amount about 0 -/
theorem ev_about {Z : Zc} {env : Env} {T : Int} {i : Nat} (h0 : env[0]? = some (some (false, .raw (.ref Z.p)))) (hi : env[i]? = some (some (false, .int T))) (h1 : 1 ≤ T) (h2 : T ≤ 1000000000000) :
    EvW (wBin (sInt fSub) (wCall (F_law_take Z) (aL (aCons (eVar 0) (aCons (eBin sAddA (eBin sMulA (eC (.int 2)) (eVar i)) (eC (.int 1))) aNil)))) (eL (eVar i))) env (IntB 41) := by
  have e0 : eVar 0 env = some (.raw (.ref Z.p)) := by unfold eVar; rw [h0]
  have ei : eVar i env = some (.int T) := by unfold eVar; rw [hi]
  have hT : Bd 400000 T := (bd_of (k := 41) 1000000000000 (by decide) (by omega) (by omega)).mono (by decide)
  have m : eBin sMulA (eC (.int 2)) (eVar i) env = some (.int (2 * T)) := (bin_eq rfl ei).trans (mulA (show Bd 400000 2 from (show Bd 2 2 by unfold Bd; decide).mono (by decide)) hT)
  refine ev_bin (ev_call1 (aL_eq (a2_eq e0 ((bin_eq m rfl).trans rfl))) (va_take (by omega) (by omega))) (ev_of (P := fun d => d = .int T) (eL_eq ei) rfl) fun x y ⟨r, hx, r0, r1⟩ hy => ?_
  subst hx; subst hy
  exact ⟨.int (r - T), rfl, _, rfl, bd_of 1000000000000 (by decide) (by omega) (by omega)⟩
theorem va_law_row {Z : Zc} {size : Nat} {way : Int} (h1 : 1 ≤ size) (h4 : size ≤ 4) : VaW (F_law_row Z [.raw (.ref Z.p), .int size, .int way]) (fun d => ∃ ns, d = .tup (I ns) ∧ RowOk size ns) := by
  have top : ∃ T : Int, 1 ≤ T ∧ T ≤ 1000000000000 ∧ eIf (bBin sEq (ePk 2) (eC (.int 3))) (eC (.int 100)) (eIf (bBin sEq (ePk 2) (eC (.int 4))) (eBin (sInt fPow) (eC (.int 10)) (eC (.int 12))) (eC (.int 2))) (RE Z size way none none none none none) = some (.int T) := by
    have c1 : bBin sEq (ePk 2) (eC (.int 3)) (RE Z size way none none none none none) = some (decide (way = 3)) := bbin_eq rfl rfl sEq_int
    have c2 : bBin sEq (ePk 2) (eC (.int 4)) (RE Z size way none none none none none) = some (decide (way = 4)) := bbin_eq rfl rfl sEq_int
    by_cases w3 : way = 3
    · rw [decide_eq_true w3] at c1
      exact ⟨100, by decide, by decide, (eif_t c1).trans rfl⟩
    · rw [decide_eq_false w3] at c1
      by_cases w4 : way = 4
      · rw [decide_eq_true w4] at c2
        exact ⟨1000000000000, by decide, by decide, (eif_f c1).trans ((eif_t c2).trans rfl)⟩
      · rw [decide_eq_false w4] at c2
        exact ⟨2, by decide, by decide, (eif_f c1).trans ((eif_f c2).trans rfl)⟩
  obtain ⟨T, t1, t2, top⟩ := top
  have hsz : size ≤ 1000000 := by omega
  have rlen : (rangeD 0 size).length ≤ 1000000 := by rw [rangeD_length]; exact hsz
  refine va_fn ⟨rfl, by decide⟩ (rw_seq (I := fun e => e = RE Z size way (some (false, .int T)) none none none none) (nw_of (wset_eq (eL_eq top) (by show 3 < 11; decide)) rfl) fun e he => ?_)
  subst he
  -- the numbers
  refine rw_seq (I := fun e => ∃ ns : List Int, ns.length = size ∧ (∀ n ∈ ns, Bd 41 n) ∧ e = RE Z size way (some (false, .int T)) (some (true, .lst (I ns))) none none none)
    (NxW.mono (nw_setF (R := fun d => ∃ out, d = (true, .lst out) ∧ out.length = (rangeD 0 size).length ∧ ∀ x ∈ out, IntB 41 x) ⟨wfcomp_wp (IntB 41) (aL_eq (range_eq rfl hsz)) rlen fun d _ => ⟨_, rfl, (ev_about rfl rfl t1 t2).h⟩⟩ (by show 4 < 11; decide)) fun e ⟨d, ⟨out, hd, hl, hx⟩, he⟩ => ?_) fun e ⟨ns, hl, hb, he⟩ => ?_
  · obtain ⟨ns, rfl, hs⟩ := ints_of hx
    rw [I_len, rangeD_length] at hl
    subst hd
    exact ⟨ns, hl, hs, he⟩
  subst he
  -- two places
  have c2 : bBin sEq (ePk 2) (eC (.int 2)) (RE Z size way (some (false, .int T)) (some (true, .lst (I ns))) none none none) = some (decide (way = 2)) := bbin_eq rfl rfl sEq_int
  refine rw_seq (I := fun e => ∃ (ns : List Int) (x6 x7 : Option (Bool × D)), ns.length = size ∧ (∀ n ∈ ns, Bd 41 n) ∧ e = RE Z size way (some (false, .int T)) (some (true, .lst (I ns))) none x6 x7) (nw_if (tL_eq c2) (fun _ => ?_) fun _ => nw_nil ⟨ns, none, none, hl, hb, rfl⟩) fun e ⟨ns, x6, x7, hl, hb, he⟩ => ?_
  · have a1 : aL (aCons (eVar 0) (aCons (eVar 1) aNil)) (RE Z size way (some (false, .int T)) (some (true, .lst (I ns))) none none none) = .ret [.raw (.ref Z.p), .int size] := rfl
    have a2 : aL (aCons (eVar 0) (aCons (eBin sAddA (eVar 1) (eC (.int 1))) aNil)) (RE Z size way (some (false, .int T)) (some (true, .lst (I ns))) none none none) = .ret [.raw (.ref Z.p), .int (size + 1)] := rfl
    refine nw_seq (I := fun e => ∃ h t : Int, e = RE Z size way (some (false, .int T)) (some (true, .lst (I ns))) none (some (false, .int h)) (some (false, .int t))) (NxW.mono (nw_par (fv_pl (ev_call1 a1 (va_take (by omega) (by omega)))) (fv_pl (ev_call1 a2 (va_take (by omega) (by omega)))) ⟨by show 6 < 11; decide, by show 7 < 11; decide⟩) fun e ⟨x, y, ⟨dx, ⟨r, hdx, _⟩, hx⟩, ⟨dy, ⟨r2, hdy, _⟩, hy⟩, he⟩ => ?_) fun e ⟨h, t, he⟩ => ?_
    · subst hdx; subst hx; subst hdy; subst hy
      exact ⟨r, r2, he⟩
    subst he
    refine NxW.mono (nw_setF (R := fun d => ∃ out, d = (true, .lst out) ∧ out.length = (rangeD 0 size).length ∧ ∀ x ∈ out, IntB 41 x) ⟨wfcomp_wp (IntB 41) (aL_eq (range_eq rfl hsz)) rlen fun d hd => ?_⟩ (by show 4 < 11; decide)) fun e ⟨d, ⟨out, hd, hl, hx⟩, he⟩ => ?_
    · obtain ⟨j, hj⟩ := List.mem_iff_getElem?.mp hd
      obtain ⟨_, rfl⟩ := rangeD_get hj
      refine ⟨_, rfl, (ev_of (eL_eq (d := .int ((if decide ((0 : Int) + (j : Nat) = h) then 1 else 0) - (if decide ((0 : Int) + (j : Nat) = t) then 1 else 0))) ?_) ⟨_, rfl, ?_⟩ : EvW _ _ (IntB 41)).h⟩
      · have q1 : eBin sEq (ePk 9) (ePk 6) [some (false, .raw (.ref Z.p)), some (false, .int size), some (false, .int way), some (false, .int T), some (true, .lst (I ns)), none, some (false, .int h), some (false, .int t), none, some (false, .int ((0 : Int) + (j : Nat))), none] = some (.bl (decide ((0 : Int) + (j : Nat) = h))) := rfl
        have q2 : eBin sEq (ePk 9) (ePk 7) [some (false, .raw (.ref Z.p)), some (false, .int size), some (false, .int way), some (false, .int T), some (true, .lst (I ns)), none, some (false, .int h), some (false, .int t), none, some (false, .int ((0 : Int) + (j : Nat))), none] = some (.bl (decide ((0 : Int) + (j : Nat) = t))) := rfl
        exact (bin_eq ((eCB_eq (a1_eq q1)).trans rfl) ((eCB_eq (a1_eq q2)).trans rfl)).trans rfl
      · refine bd_of 1 (by decide) ?_ ?_ <;> split <;> split <;> decide
    · obtain ⟨ns, rfl, hs⟩ := ints_of hx
      rw [I_len, rangeD_length] at hl
      subst hd
      exact ⟨ns, _, _, hl, hs, he⟩
  subst he
  -- a last number 0
  have c1 : ∃ k, bAnd (bBin sEq (ePk 2) (eC (.int 1))) (bBin (sCmp fGt) (eVar 1) (eC (.int 1))) (RE Z size way (some (false, .int T)) (some (true, .lst (I ns))) none x6 x7) = some k := by
    have c1 : bBin sEq (ePk 2) (eC (.int 1)) (RE Z size way (some (false, .int T)) (some (true, .lst (I ns))) none x6 x7) = some (decide (way = 1)) := bbin_eq rfl rfl sEq_int
    by_cases w1 : way = 1
    · rw [decide_eq_true w1] at c1
      exact ⟨_, (and_t c1).trans (bbin_eq rfl rfl rfl)⟩
    · rw [decide_eq_false w1] at c1
      exact ⟨_, and_f c1⟩
  obtain ⟨k, c1⟩ := c1
  have setI : ∀ (ns : List Int) (j : Nat) (n : Int), (I ns).set j (.int n) = I (ns.set j n) := fun ns j n => by unfold I; rw [List.map_set]
  have memset : ∀ {ns : List Int} {j : Nat} {n : Int}, (∀ m ∈ ns, Bd 41 m) → Bd 41 n → ∀ m ∈ ns.set j n, Bd 41 m := fun h h2 m hm => by
    rcases List.mem_or_eq_of_mem_set hm with h3 | rfl
    · exact h m h3
    · exact h2
  refine rw_seq (I := fun e => ∃ (ns : List Int), ns.length = size ∧ (∀ n ∈ ns, Bd 41 n) ∧ e = RE Z size way (some (false, .int T)) (some (true, .lst (I ns))) none x6 x7) (nw_if (tL_eq c1) (fun _ => ?_) fun _ => nw_nil ⟨ns, hl, hb, rfl⟩) fun e ⟨ns, hl, hb, he⟩ => ?_
  · refine nw_put (P := fun d => d = .int 0) (R := fun d => d = .int (-1)) rfl (ev_of rfl rfl) (ev_of rfl rfl) fun d x hd hx => ?_
    subst hd; subst hx
    refine ⟨-1, size - 1, rfl, ?_, ns.set (size - 1) 0, by simpa using hl, memset hb (by unfold Bd; decide), ?_⟩
    · unfold ixN
      rw [I_len, if_neg (by decide), if_pos (by omega)]
      congr 1; omega
    · rw [setI]; rfl
  subst he
  -- not all 0
  have c3 : wLookT 4 (tL (bBin sEq (eComp (wItems (eVar 4)) [10] (gV 10) (bBin sNe (ePk 10) (eC (.int 0))) (eVar 10)) (eLst aNil))) (RE Z size way (some (false, .int T)) (some (true, .lst (I ns))) none x6 x7) = .ret (decide (ns.filter (fun n => decide (n ≠ 0)) = [])) := by
    refine tL_eq (env := RE Z size way (some (false, .int T)) (some (false, .lst (I ns))) none x6 x7) ?_
    have e := comp_eq (src := wItems (eVar 4)) (vs := [10]) (tgt := gV 10) (cond := bBin sNe (ePk 10) (eC (.int 0))) (el := eVar 10) (env := RE Z size way (some (false, .int T)) (some (false, .lst (I ns))) none x6 x7) (ds := I ns) id (fun d => match d with | .int n => decide (n ≠ 0) | _ => false) rfl (by rw [I_len]; omega) fun d hd => by
      obtain ⟨n, _, rfl⟩ := mem_I hd
      exact ⟨RE Z size way (some (false, .int T)) (some (false, .lst (I ns))) none x6 x7 |>.set 10 (some (false, .int n)), rfl, bbin_eq rfl rfl (by simp [sNe, eqD]), fun _ => rfl⟩
    have e2 : ((I ns).filter fun d => match d with | .int n => decide (n ≠ 0) | _ => false).map id = I (ns.filter fun n => decide (n ≠ 0)) := by
      unfold I
      rw [List.filter_map, List.map_id]; rfl
    rw [e2] at e
    exact bbin_eq e rfl (eq_I_nil _)
  refine rw_seq (I := fun e => ∃ (ns : List Int), ns.length = size ∧ (∃ n ∈ ns, n ≠ 0) ∧ (∀ n ∈ ns, Bd 41 n) ∧ e = RE Z size way (some (false, .int T)) (some (true, .lst (I ns))) none x6 x7) (nw_if c3 (fun _ => ?_) fun hf => nw_nil ⟨ns, hl, ?_, hb, rfl⟩) fun e ⟨ns, hl, h0, hb, he⟩ => ?_
  · refine nw_put (P := fun d => d = .int 1) (R := fun d => d = .int 0) rfl (ev_of rfl rfl) (ev_of rfl rfl) fun d x hd hx => ?_
    subst hd; subst hx
    refine ⟨0, 0, rfl, ?_, ns.set 0 1, by simpa using hl, ⟨1, List.mem_iff_getElem?.mpr ⟨0, by rw [List.getElem?_set_self (by omega)]⟩, by decide⟩, memset hb (by unfold Bd; decide), ?_⟩
    · unfold ixN
      rw [I_len, if_pos (by decide), if_pos (by omega)]; rfl
    · rw [setI]; rfl
  · have hf := of_decide_eq_false hf
    obtain ⟨n, hn⟩ := List.exists_mem_of_ne_nil _ hf
    obtain ⟨h1, h2⟩ := List.mem_filter.mp hn
    exact ⟨n, h1, by simpa using h2⟩
  subst he
  -- the last one
  have c0 : bBin sEq (ePk 2) (eC (.int 0)) (RE Z size way (some (false, .int T)) (some (true, .lst (I ns))) none x6 x7) = some (decide (way = 0)) := bbin_eq rfl rfl sEq_int
  have small : ∀ z : Int, -3 ≤ z → z ≤ 2 → IntB 41 (.int z) := fun z a b => ⟨z, rfl, bd_of 3 (by decide) (by omega) (by omega)⟩
  have last : EvW (wIfE (tL (bBin sEq (ePk 2) (eC (.int 0)))) (eL (eC (.int 0))) (wCall (F_law_pick Z) (wCons (eL (eVar 0)) (wCons (wCB lstOf (wCons (eL (eC (.int 0))) (wCons (eL (eC (.int 0))) (wCons (eL (eC (.int 1))) (wCons (eL (eNeg (eC (.int 1)))) (wCons (eL (eC (.int 2))) (wCons (eL (eNeg (eC (.int 3)))) (wCons (wBin (sInt fSub) (wCall (F_law_take Z) (aL (aCons (eVar 0) (aCons (eBin sAddA (eBin sMulA (eC (.int 2)) (eVar 3)) (eC (.int 1))) aNil)))) (eL (eVar 3))) wNil)))))))) wNil)))) (RE Z size way (some (false, .int T)) (some (true, .lst (I ns))) none x6 x7) (IntB 41) := ⟨by
    unfold wIfE
    rw [tL_eq c0]
    show (if decide (way = 0) then _ else _ : W D).wp _ _
    by_cases w0 : way = 0
    · rw [if_pos (by simpa using w0)]
      exact small 0 (by decide) (by decide)
    · rw [if_neg (by simpa using w0)]
      have k1 : ∀ (z : Int) (m : Ew), m (RE Z size way (some (false, .int T)) (some (true, .lst (I ns))) none x6 x7) = .ret (.int z) → -3 ≤ z → z ≤ 2 → EvW m (RE Z size way (some (false, .int T)) (some (true, .lst (I ns))) none x6 x7) (IntB 41) := fun z m h a b => ev_of h (small z a b)
      refine (ev_call (R := fun ds => ∃ xs, ds = [.raw (.ref Z.p), .lst xs] ∧ xs.length = 7 ∧ ∀ x ∈ xs, IntB 41 x) ⟨W.wp_mono (av_cons (ev_of (P := fun d => d = .raw (.ref Z.p)) rfl rfl) (av_cons (ev_cb (P := fun d => ∃ xs, d = .lst xs ∧ xs.length = 7 ∧ ∀ x ∈ xs, IntB 41 x)
          (av_cons (k1 0 _ rfl (by decide) (by decide)) (av_cons (k1 0 _ rfl (by decide) (by decide)) (av_cons (k1 1 _ rfl (by decide) (by decide)) (av_cons (k1 (-1) _ rfl (by decide) (by decide)) (av_cons (k1 2 _ rfl (by decide) (by decide)) (av_cons (k1 (-3) _ rfl (by decide) (by decide)) (av_cons (ev_about rfl rfl t1 t2) av_nil)))))))
          fun ds hds => ?_) av_nil)).h (fun ds hds => ?_) fun _ z => z⟩ fun ds hds => ?_).h
      · obtain ⟨y1, _, rfl, g1, y2, _, rfl, g2, y3, _, rfl, g3, y4, _, rfl, g4, y5, _, rfl, g5, y6, _, rfl, g6, y7, _, rfl, g7, rfl⟩ := hds
        refine ⟨_, rfl, _, rfl, rfl, fun x hx => ?_⟩
        simp only [List.mem_cons, List.not_mem_nil, or_false] at hx
        rcases hx with rfl | rfl | rfl | rfl | rfl | rfl | rfl <;> assumption
      · obtain ⟨x, _, rfl, rfl, y, _, rfl, ⟨xs, rfl, h7, hx⟩, rfl⟩ := hds
        exact ⟨xs, rfl, h7, hx⟩
      · obtain ⟨xs, rfl, h7, hx⟩ := hds
        exact (va_pick (xs := xs) rfl (fun z => by rw [z] at h7; cases h7) (by omega)).mono fun d hd => hx d hd⟩
  refine rw_seq ((nw_set last (by show 5 < 11; decide))) fun e ⟨d, ⟨z, hd, hz⟩, he⟩ => ?_
  subst hd; subst he
  have fin : eBin sAddA (eCB cTup (aCons (eVar 4) aNil)) (eTup (aCons (eVar 5) aNil)) (RE Z size way (some (false, .int T)) (some (false, .lst (I ns))) (some (false, .int z)) x6 x7) = some (.tup (I (ns ++ [z]))) := by
    have h1 : eCB cTup (aCons (eVar 4) aNil) (RE Z size way (some (false, .int T)) (some (false, .lst (I ns))) (some (false, .int z)) x6 x7) = some (.tup (I ns)) := (eCB_eq (a1_eq rfl)).trans rfl
    refine (bin_eq h1 (d2 := .tup [.int z]) rfl).trans ?_
    have hI : I ns ++ [D.int z] = I (ns ++ [z]) := by simp [I]
    rw [← hI]
    have hlen : (I ns).length + 1 ≤ 1000000 := by rw [I_len]; omega
    have hlen2 : (I ns).length + [D.int z].length ≤ 1000000 := hlen
    simp [sAddA, sAdd, I_len] at *
    omega
  have fz : wsFrz 4 (wsRet (eL (eBin sAddA (eCB cTup (aCons (eVar 4) aNil)) (eTup (aCons (eVar 5) aNil))))) (RE Z size way (some (false, .int T)) (some (true, .lst (I ns))) (some (false, .int z)) x6 x7) = .ret (.rt (.tup (I (ns ++ [z])))) := wret_eq (env := RE Z size way (some (false, .int T)) (some (false, .lst (I ns))) (some (false, .int z)) x6 x7) (eL_eq fin)
  refine ⟨?_⟩
  show W.wp (wsFrz 4 _ (RE Z size way (some (false, .int T)) (some (true, .lst (I ns))) (some (false, .int z)) x6 x7)) _ _
  rw [fz]
  exact ⟨_, rfl, _, rfl, by simp [hl], by simpa using h0, fun n hn => by
    rcases List.mem_append.mp hn with h | h
    · exact hb n h
    · rw [List.mem_singleton.mp h]; exact hz⟩
end Sh
end Part_E11j

section Part_E11k
set_option maxRecDepth 100000
set_option maxHeartbeats 400000
/-! E11k: a drawn set. -/
namespace Sh
open PySem L2
theorem nw_forGo {tg : Gx} {b : Sw} {I : Nat → Env → Prop} : ∀ (ds : List D) (k : Nat) (env : Env), I k env → (∀ j env d, j < k + ds.length → I j env → d ∈ ds → ∃ e1, tg d env = some e1 ∧ NxW b e1 (I (j + 1))) → (forGoW tg b ds env).wp (fun r => ∃ e, r = .nx e ∧ I (k + ds.length) e) (fun _ => False)
  | [], k, env, h, _ => ⟨env, rfl, h⟩
  | d :: ds, k, env, h, hb => by
    obtain ⟨e1, h1, h2⟩ := hb k env d (by simp) h List.mem_cons_self
    unfold forGoW
    rw [h1]
    show ((b e1).bind _).wp _ _
    refine W.wp_bind.mpr (W.wp_mono h2.h (fun r ⟨e, hr, he⟩ => ?_) fun _ z => z)
    subst hr
    have ih := nw_forGo (tg := tg) (b := b) (I := I) ds (k + 1) e he fun k env d hj hi hd => hb k env d (by simp at hj ⊢; omega) hi (List.mem_cons_of_mem _ hd)
    rw [show k + (d :: ds).length = k + 1 + ds.length by simp; omega]
    exact ih
theorem nw_for {src : Aw} {tg : Gx} {b : Sw} {env : Env} {I : Nat → Env → Prop} {R : List D → Prop} {J : Env → Prop} (hs : AvW src env R) (h0 : I 0 env) (hb : ∀ ds, R ds → ∀ k env d, k < ds.length → I k env → d ∈ ds → ∃ e1, tg d env = some e1 ∧ NxW b e1 (I (k + 1))) (hk : ∀ ds, R ds → ∀ e, I ds.length e → J e) : NxW (wsFor src tg b) env J :=
  ⟨W.wp_bind.mpr (W.wp_mono hs.h (fun ds hd => W.wp_mono (nw_forGo ds 0 env h0 (fun j env d hj => hb ds hd j env d (by omega))) (fun r ⟨e, hr, he⟩ => ⟨e, hr, hk ds hd e (by rw [Nat.zero_add] at he; exact he)⟩) fun _ z => z) fun _ z => z)⟩
/-! ### rows as plain data -/
def rowP (ns : List Int) : PyData := .tuple (ns.map PyData.int)
theorem dpy_row (ns : List Int) : dpy (.tup (I ns)) = some (rowP ns) := by
  show (dpys _).map _ = _
  rw [dpys_I]; rfl
theorem dpys_R : ∀ rows : List (List Int), dpys (R rows) = some (rows.map rowP)
  | [] => rfl
  | r :: rows => by
    have ih := dpys_R rows
    show (dpy (.tup (I r))).bind (fun p => (dpys (R rows)).map (p :: ·)) = _
    rw [dpy_row, ih]; rfl
theorem eqvAll_ints : ∀ a b : List Int, PyData.eqvAll (a.map PyData.int) (b.map PyData.int) = decide (a = b)
  | [], [] => rfl
  | [], _ :: _ => rfl
  | _ :: _, [] => rfl
  | x :: a, y :: b => by
    have ih := eqvAll_ints a b
    show (PyData.eqv (.int x) (.int y) && PyData.eqvAll (a.map PyData.int) (b.map PyData.int)) = _
    rw [ih]
    show ((x == y) && decide (a = b)) = _
    by_cases h : x = y <;> by_cases h2 : a = b <;> simp [h, h2]
theorem eqv_row (a b : List Int) : PyData.eqv (rowP a) (rowP b) = decide (a = b) := eqvAll_ints a b
theorem lay_row (ns : List Int) : PyData.canLay0 (rowP ns) = true := (shaped_ints ns).1
theorem dep_row (ns : List Int) : PyData.depth (rowP ns) ≤ 1 := (shaped_ints ns).2
theorem lay_rows : ∀ rows : List (List Int), PyData.canLayAll0 (rows.map rowP) = true
  | [] => rfl
  | r :: rows => by
    show (PyData.canLay0 (rowP r) && PyData.canLayAll0 (rows.map rowP)) = true
    rw [lay_row, lay_rows rows]; rfl
theorem dep_rows : ∀ rows : List (List Int), PyData.depthAll (rows.map rowP) ≤ 1
  | [] => by decide
  | r :: rows => by
    have h1 := dep_row r
    have h2 := dep_rows rows
    show Nat.max (PyData.depth (rowP r)) (PyData.depthAll (rows.map rowP)) ≤ 1
    exact Nat.max_le.mpr ⟨h1, h2⟩
theorem shaped_row (ns : List Int) : SeqAt.shaped (rowP ns) = true := by
  have h := dep_row ns
  unfold SeqAt.shaped
  rw [lay_row]
  simp; omega
theorem shaped_rows (rows : List (List Int)) : SeqAt.shaped (.list (rows.map rowP)) = true := by
  have h := dep_rows rows
  have h2 : PyData.canLay0 (.list (rows.map rowP)) = true := lay_rows rows
  have h3 : PyData.depth (.list (rows.map rowP)) ≤ 2 := by unfold PyData.depth; omega
  unfold SeqAt.shaped
  rw [h2]
  simp; omega
theorem shaped_rowsT (rows : List (List Int)) : SeqAt.shaped (.tuple (rows.map rowP)) = true := by
  have h := dep_rows rows
  have h2 : PyData.canLay0 (.tuple (rows.map rowP)) = true := lay_rows rows
  have h3 : PyData.depth (.tuple (rows.map rowP)) ≤ 2 := by unfold PyData.depth; omega
  unfold SeqAt.shaped
  rw [h2]
  simp; omega
theorem notin_eq {ns : List Int} {rows : List (List Int)} : sInA true (.tup (I ns)) (.lst (R rows)) = some (.bl (decide (ns ∉ rows))) := by
  have h1 : dpy (.lst (R rows)) = some (.list (rows.map rowP)) := by
    show (dpys _).map _ = _
    rw [dpys_R]; rfl
  unfold sInA
  rw [dpy_row, h1]
  show (if SeqAt.shaped (rowP ns) = true ∧ SeqAt.shaped (.list (rows.map rowP)) = true then some (D.bl (!((rows.map rowP).any fun z => PyData.eqv z (rowP ns)))) else none) = _
  rw [if_pos ⟨shaped_row ns, shaped_rows rows⟩]
  congr 2
  rw [Bool.eq_iff_iff]
  simp [eqv_row, Function.comp_def]
  exact ⟨fun h hm => h ns hm rfl, fun h x hx e => h (e ▸ hx)⟩
theorem ne_rows_nil {rows : List (List Int)} : sNe (.tup (R rows)) (.tup []) = some (.bl (decide (rows ≠ []))) := by
  have h1 : dpy (.tup (R rows)) = some (.tuple (rows.map rowP)) := by
    show (dpys _).map _ = _
    rw [dpys_R]; rfl
  have h3 : SeqAt.shaped (.tuple []) = true := by decide
  show (eqD _ _).map _ = _
  unfold eqD
  show ((dpy (.tup (R rows))).bind _).map _ = _
  rw [h1]
  show ((if SeqAt.shaped _ = true ∧ SeqAt.shaped (.tuple []) = true then some (PyData.eqv _ (.tuple [])) else none : Option Bool)).map _ = _
  rw [if_pos ⟨shaped_rowsT rows, h3⟩]
  cases rows with
  | nil => rfl
  | cons k l => simp [PyData.eqv, PyData.eqvAll]
theorem lst1_eq {env : Env} {m : Ex} {d : D} (h : m env = some d) : eLst (aCons m aNil) env = some (.lst [d]) := by
  unfold eLst
  rw [a1_eq h]; rfl
/-! ### a set -/
abbrev SE (Z : Zc) (size : Nat) (way : Int) (a4 a5 a6 a7 : Option (Bool × D)) : Env := [some (false, .raw (.ref Z.p)), some (false, .lst [.int 10, .int 10, .int 10, .int 10]), some (false, .int size), some (false, .int way), a4, a5, a6, a7]
theorem va_drawn_set {Z : Zc} : VaW (F_law_drawn_set Z [.raw (.ref Z.p), .lst [.int 10, .int 10, .int 10, .int 10]]) (fun d => ∃ size rows, d = .tup [.int (size : Nat), .tup (R rows)] ∧ SetOk size rows) := by
  refine va_fn ⟨rfl, by decide⟩ (rw_seq (I := fun e => ∃ (size : Nat) (way : Int), 1 ≤ size ∧ size ≤ 4 ∧ e = SE Z size way none none none none)
    (NxW.mono (nw_par (fv_pl (ev_bin (R := fun d => ∃ size : Nat, 1 ≤ size ∧ size ≤ 4 ∧ d = .int size) (ev_of (P := fun d => d = .int 1) rfl rfl) (ev_call1 (ds := [.raw (.ref Z.p), .int 4]) rfl (va_take (by decide) (by decide))) fun x y hx ⟨r, hy, r0, r1⟩ => ?_)) (fv_pl (ev_call1 (ds := [.raw (.ref Z.p), .int 8]) rfl (va_take (by decide) (by decide)))) ⟨by show 2 < 8; decide, by show 3 < 8; decide⟩) fun e he => ?_) fun e ⟨size, way, s1, s4, he⟩ => ?_)
  · subst hx; subst hy
    exact ⟨.int (1 + r), rfl, (1 + r).toNat, by omega, by omega, by congr 1; omega⟩
  · obtain ⟨x, y, ⟨dx, ⟨size, s1, s4, hdx⟩, hx⟩, ⟨dy, ⟨way, hdy, _⟩, hy⟩, he⟩ := he
    subst hdx; subst hx; subst hdy; subst hy
    exact ⟨size, way, s1, s4, he⟩
  subst he
  refine rw_seq (I := fun e => e = SE Z size way (some (false, .lst [])) (some (false, .lst [])) none none) (NxW.mono (nw_par (fv_pl (ev_of (P := fun d => d = .lst []) rfl rfl)) (fv_pl (ev_of (P := fun d => d = .lst []) rfl rfl)) ⟨by show 4 < 8; decide, by show 5 < 8; decide⟩) fun e ⟨x, y, ⟨dx, hdx, hx⟩, ⟨dy, hdy, hy⟩, he⟩ => ?_) fun e he => ?_
  · subst hdx; subst hx; subst hdy; subst hy
    exact he
  subst he
  have ten : eIdxV 1 (eBin (sInt fSub) (eVar 2) (eC (.int 1))) (SE Z size way (some (false, .lst [])) (some (false, .lst [])) none none) = some (.int 10) := by
    have : size = 1 ∨ size = 2 ∨ size = 3 ∨ size = 4 := by omega
    rcases this with rfl | rfl | rfl | rfl <;> rfl
  have am : aL (aCons (eVar 0) (aCons (eBin sAddA (eIdxV 1 (eBin (sInt fSub) (eVar 2) (eC (.int 1)))) (eC (.int 1))) aNil)) (SE Z size way (some (false, .lst [])) (some (false, .lst [])) none none) = .ret [.raw (.ref Z.p), .int 11] := aL_eq (a2_eq rfl ((bin_eq ten rfl).trans rfl))
  refine rw_seq (I := fun e => ∃ rows e6 e7, SetOk size rows ∧ e = SE Z size way (some (false, .lst (R rows))) (some (false, .lst (R (rows.map leastL)))) e6 e7)
    (nw_for (R := fun ds => ds.length ≤ 10) (I := fun k e => ∃ rows e6 e7, rows.length ≤ k ∧ (∀ ns ∈ rows, RowOk size ns) ∧ rows.Pairwise (fun a b => leastL a ≠ leastL b) ∧ e = SE Z size way (some (false, .lst (R rows))) (some (false, .lst (R (rows.map leastL)))) e6 e7) ⟨?_⟩ ⟨[], none, none, Nat.le_refl _, (fun _ h => nomatch h), List.Pairwise.nil, rfl⟩ (fun ds hds k e d hk ⟨rows, e6, e7, g1, g2, g3, he⟩ _ => ?_) fun ds hds e ⟨rows, e6, e7, g1, g2, g3, he⟩ => ⟨rows, e6, e7, ⟨s1, s4, by omega, g2, g3⟩, he⟩) fun e ⟨rows, e6, e7, ok, he⟩ => ?_
  · refine W.wp_bind.mpr (W.wp_mono (av_cons (ev_call1 am (va_take (by decide) (by decide))) av_nil).h (fun ds hds => ?_) fun _ z => z)
    obtain ⟨x, xs, rfl, ⟨r, rfl, r0, r1⟩, rfl⟩ := hds
    show (if -1000000 ≤ r ∧ r ≤ 1000000 then _ else _ : W (List D)).wp _ _
    rw [if_pos (by omega)]
    show (rangeD 0 r.toNat).length ≤ 10
    rw [rangeD_length]; omega
  · subst he
    refine ⟨SE Z size way (some (false, .lst (R rows))) (some (false, .lst (R (rows.map leastL)))) (some (false, d)) e7, rfl, ?_⟩
    refine nw_seq (nw_set (ev_call1 (ds := [.raw (.ref Z.p), .int size, .int way]) rfl (va_law_row s1 s4)) (by show 7 < 8; decide)) fun e ⟨x, ⟨ns, hx, hns⟩, he⟩ => ?_
    subst hx; subst he
    have hlen := hns.len
    have least : eCB (F_law_least Z) (aCons (eVar 7) aNil) (SE Z size way (some (false, .lst (R rows))) (some (false, .lst (R (rows.map leastL)))) (some (false, d)) (some (false, .tup (I ns)))) = some (.tup (I (leastL ns))) :=
      (eCB_eq (a1_eq rfl)).trans (v_law_least (by omega) (fun n hn => (hns.bd n hn).mono (by decide)) hns.nz)
    have c : bBin (sInA true) (eCB (F_law_least Z) (aCons (eVar 7) aNil)) (ePk 5) (SE Z size way (some (false, .lst (R rows))) (some (false, .lst (R (rows.map leastL)))) (some (false, d)) (some (false, .tup (I ns)))) = some (decide (leastL ns ∉ rows.map leastL)) := bbin_eq least rfl notin_eq
    have RI : ∀ (l : List (List Int)) (m : List Int), R l ++ [D.tup (I m)] = R (l ++ [m]) := fun l m => by simp [R]
    have sz : ∀ (l : List (List Int)) (m : List Int), l.length ≤ 100 → sAddA (.lst (R l)) (.lst [.tup (I m)]) = some (.lst (R (l ++ [m]))) := fun l m hl => by
      have h1 : (R l).length + [D.tup (I m)].length ≤ 1000000 := by unfold R; rw [List.length_map]; simp; omega
      show (if (R l).length + [D.tup (I m)].length ≤ 1000000 then some (D.lst (R l ++ [D.tup (I m)])) else none) = _
      rw [if_pos h1, RI]
    refine nw_if (tL_eq c) (fun hc => ?_) fun _ => nw_nil ⟨rows, _, _, by omega, g2, g3, rfl⟩
    have hc := of_decide_eq_true hc
    have hd : ds.length ≤ 10 := hds
    refine NxW.mono (nw_par (fv_pl (ev_of (P := fun d => d = .lst (R (rows ++ [ns]))) (eL_eq ((bin_eq rfl rfl).trans (sz rows ns (by omega)))) rfl)) (fv_pl (ev_of (P := fun d => d = .lst (R (rows.map leastL ++ [leastL ns]))) (eL_eq ((bin_eq rfl (lst1_eq least)).trans (sz _ _ (by simp; omega)))) rfl)) ⟨by show 4 < 8; decide, by show 5 < 8; decide⟩) fun e ⟨x, y, ⟨dx, hdx, hx⟩, ⟨dy, hdy, hy⟩, he⟩ => ?_
    subst hdx; subst hx; subst hdy; subst hy
    refine ⟨rows ++ [ns], _, _, by simp; omega, fun m hm => ?_, List.pairwise_append.mpr ⟨g3, List.pairwise_singleton _ _, fun a ha b hb => ?_⟩, by rw [List.map_append]; exact he⟩
    · rcases List.mem_append.mp hm with h | h
      · exact g2 m h
      · rw [List.mem_singleton.mp h]; exact hns
    · rw [List.mem_singleton.mp hb]
      exact fun e => hc (List.mem_map.mpr ⟨a, ha, e⟩)
  subst he
  have tt : eTup (aCons (eVar 2) (aCons (eCB cTup (aCons (eVar 4) aNil)) aNil)) (SE Z size way (some (false, .lst (R rows))) (some (false, .lst (R (rows.map leastL)))) e6 e7) = some (.tup [.int size, .tup (R rows)]) := tup2_eq rfl ((eCB_eq (a1_eq rfl)).trans rfl)
  exact rw_ret (ev_of (eL_eq tt) ⟨size, rows, rfl, ok⟩)
end Sh
end Part_E11k

section Part_E11l
set_option maxRecDepth 100000
set_option maxHeartbeats 400000
/-! E11l: drawn points, what is no set. -/
namespace Sh
open PySem L2
theorem ev_callP {F : List D → Option D} {ms : Aw} {env : Env} {R : List D → Prop} {P : D → Prop} (h : AvW ms env R) (k : ∀ ds, R ds → ∃ d, F ds = some d ∧ P d) : EvW (wCallP F ms) env P := ⟨W.wp_bind.mpr (W.wp_mono h.h (fun ds hd => W.wp_ofO.mpr (k ds hd)) fun _ z => z)⟩
theorem va_some_point {Z : Zc} {size : Nat} (h4 : size ≤ 4) : VaW (F_law_some_point Z [.raw (.ref Z.p), .int size]) (fun d => ∃ ns b, d = ptD ns b ∧ PtOk size 41 ns b) := by
  have hsz : size ≤ 1000000 := by omega
  have rlen : (rangeD 0 size).length ≤ 1000000 := by rw [rangeD_length]; exact hsz
  refine va_fn ⟨rfl, by decide⟩ (rw_seq (nw_set (ev_call1 (ds := [.raw (.ref Z.p), .lst [.int 2, .int 3, .int 9, .int 100, .int 1000000000]]) rfl (va_pick rfl (by decide) (by decide))) (by show 2 < 4; decide)) fun e ⟨x, hx, he⟩ => ?_)
  obtain ⟨T, hT, t1, t2⟩ : ∃ T : Int, x = .int T ∧ 1 ≤ T ∧ T ≤ 1000000000000 := by
    simp only [List.mem_cons, List.not_mem_nil, or_false] at hx
    rcases hx with rfl | rfl | rfl | rfl | rfl <;> exact ⟨_, rfl, by decide, by decide⟩
  subst hT; subst he
  have below : EvW (wBin sAddA (eL (eC (.int 1))) (wCall (F_law_take Z) (wCons (eL (eVar 0)) (wCons (wCall (F_law_pick Z) (aL (aCons (eVar 0) (aCons (eLst (aCons (eC (.int 1)) (aCons (eC (.int 2)) (aCons (eC (.int 3)) (aCons (eC (.int 7)) aNil))))) aNil)))) wNil)))) [some (false, .raw (.ref Z.p)), some (false, .int size), some (false, .int T), none] (fun d => ∃ b : Int, d = .int b ∧ 1 ≤ b ∧ b ≤ 8) := by
    refine ev_bin (ev_of (P := fun d => d = .int 1) rfl rfl) (ev_call (R := fun ds => ∃ n : Int, ds = [.raw (.ref Z.p), .int n] ∧ 1 ≤ n ∧ n ≤ 7) ⟨W.wp_mono (av_cons (ev_of (P := fun d => d = .raw (.ref Z.p)) rfl rfl) (av_cons (ev_call1 (ds := [.raw (.ref Z.p), .lst [.int 1, .int 2, .int 3, .int 7]]) rfl (va_pick rfl (by decide) (by decide))) av_nil)).h (fun ds hds => ?_) fun _ z => z⟩ (P := fun d => ∃ r : Int, d = .int r ∧ 0 ≤ r ∧ r < 7) fun ds hds => ?_) fun x y hx ⟨r, hy, r0, r1⟩ => ?_
    · obtain ⟨x, _, rfl, rfl, y, _, rfl, hy, rfl⟩ := hds
      simp only [List.mem_cons, List.not_mem_nil, or_false] at hy
      rcases hy with rfl | rfl | rfl | rfl <;> exact ⟨_, rfl, by decide, by decide⟩
    · obtain ⟨n, rfl, n1, n7⟩ := hds
      exact (va_take (by omega) (by omega)).mono fun d ⟨r, h1, h2, h3⟩ => ⟨r, h1, h2, by omega⟩
    · subst hx; subst hy
      exact ⟨.int (1 + r), rfl, _, rfl, by omega, by omega⟩
  have nums : EvW (wComp (aL (wRange1 (aCons (eVar 1) aNil))) [3] (gV 3) (tL bYes) (wBin (sInt fSub) (wCall (F_law_take Z) (aL (aCons (eVar 0) (aCons (eBin sAddA (eBin sMulA (eC (.int 2)) (eVar 2)) (eC (.int 1))) aNil)))) (eL (eVar 2)))) [some (false, .raw (.ref Z.p)), some (false, .int size), some (false, .int T), none] (fun d => ∃ out, d = .lst out ∧ out.length = (rangeD 0 size).length ∧ ∀ x ∈ out, IntB 41 x) :=
    ⟨wcomp_wp (IntB 41) (aL_eq (range_eq rfl hsz)) rlen fun d _ => ⟨_, rfl, (ev_about rfl rfl t1 t2).h⟩⟩
  refine rw_ret (ev_callP (av_cons nums (av_cons below av_nil)) fun ds hds => ?_)
  obtain ⟨x, _, rfl, ⟨out, rfl, hl, hout⟩, y, _, rfl, ⟨b, rfl, b1, b8⟩, rfl⟩ := hds
  obtain ⟨ns, rfl, hns⟩ := ints_of hout
  rw [I_len, rangeD_length] at hl
  have hb : Bd 41 b := bd_of 8 (by decide) (by omega) (by omega)
  exact ⟨_, v_law_point rfl rfl (by omega) b1 (fun n h => (hns n h).mono (by decide)) (hb.mono (by decide)), _, _, rfl, hl ▸ pt_ok b1 hns hb⟩
/-! ### the foot on a row -/
theorem dot_self_nn : ∀ ns : List Int, 0 ≤ dot ns ns
  | [] => Int.le_refl _
  | n :: ns => by
    have ih := dot_self_nn ns
    have e : dot (n :: ns) (n :: ns) = n * n + dot ns ns := rfl
    have h : 0 ≤ n * n := by
      rcases Int.le_total 0 n with h | h
      · exact Int.mul_nonneg h h
      · exact Int.mul_nonneg_of_nonpos_of_nonpos h h
    omega
theorem dot_self_pos : ∀ {ns : List Int}, (∃ n ∈ ns, n ≠ 0) → 1 ≤ dot ns ns
  | [], ⟨_, h, _⟩ => nomatch h
  | n :: ns, ⟨m, hm, h0⟩ => by
    have e : dot (n :: ns) (n :: ns) = n * n + dot ns ns := rfl
    have nn : 0 ≤ n * n := by
      rcases Int.le_total 0 n with h | h
      · exact Int.mul_nonneg h h
      · exact Int.mul_nonneg_of_nonpos_of_nonpos h h
    rcases List.mem_cons.mp hm with rfl | hm
    · have h1 := dot_self_nn ns
      have h2 : m * m ≠ 0 := fun z => by
        rcases Int.mul_eq_zero.mp z with h | h <;> exact h0 h
      omega
    · have ih := dot_self_pos ⟨m, hm, h0⟩
      omega
def ftN (row : List Int) : List Int := row.dropLast.map fun n => row.getLastD 0 * n
def mulTk (k : Int) : D → D
  | .int n => .int (k * n)
  | d => d
theorem v_law_on_row {Z : Zc} {size : Nat} {row : List Int} (h : RowOk size row) (h4 : size ≤ 4) : ∃ ns b, F_law_on_row Z [.tup (I row)] = some (ptD ns b) ∧ PtOk size 90 ns b := by
  have hl := h.len
  have h0 : row ≠ [] := h.ne
  have hb := h.bd
  have hd : ∀ n ∈ row.dropLast, Bd 41 n := fun n hn => hb n (List.dropLast_subset _ hn)
  have dl : row.dropLast.length = size := by rw [List.length_dropLast]; omega
  have lst := hb _ (last_mem h0)
  have e1 : eComp (wItems (eSl (eVar 0) oNone (oSome (eNeg (eC (.int 1)))))) [1] (gV 1) bYes (eBin sMulA (eIdxV 0 (eNeg (eC (.int 1)))) (eVar 1)) [some (false, .tup (I row)), none] = some (.lst (I (ftN row))) := by
    rw [comp_map (mulTk (row.getLastD 0)) (ds := I row.dropLast) (by unfold wItems; rw [slI rfl]; rfl) (by rw [I_len]; omega) fun d hd2 => ?_]
    · unfold ftN I
      simp [List.map_map, Function.comp_def, mulTk]
    · obtain ⟨n, hn, rfl⟩ := mem_I hd2
      exact ⟨[some (false, .tup (I row)), some (false, .int n)], rfl, (bin_eq (idxv_last rfl h0) rfl).trans (mulA (lst.mono (by decide)) ((hd n hn).mono (by decide)))⟩
  have e2 : eCB (F_law_times Z) (aCons (eSl (eVar 0) oNone (oSome (eNeg (eC (.int 1))))) (aCons (eSl (eVar 0) oNone (oSome (eNeg (eC (.int 1))))) aNil)) [some (false, .tup (I row)), none] = some (.int (dot row.dropLast row.dropLast)) :=
    (eCB_eq (a2_eq (slI rfl) (slI rfl))).trans (v_law_times (by omega) (fun n h => (hd n h).mono (by decide)) fun n h => (hd n h).mono (by decide))
  have p1 := dot_self_pos h.some_
  have q1 : ∀ n ∈ ftN row, Bd 90 n := fun n hn => by
    obtain ⟨m, hm, rfl⟩ := List.mem_map.mp hn
    exact (lst.mul (hd m hm)).mono (by decide)
  have q2 : Bd 90 (dot row.dropLast row.dropLast) := by
    have := dot_bd hd hd
    rw [dl] at this
    unfold Bd
    have e : (2 : Nat) ^ 90 = 256 * 2 ^ (41 + 41) := by decide
    have e3 : size * 2 ^ (41 + 41) ≤ 4 * 2 ^ (41 + 41) := Nat.mul_le_mul_right _ h4
    have e4 : 0 < 2 ^ (41 + 41) := by decide
    omega
  have fl : (ftN row).length = size := by unfold ftN; rw [List.length_map]; exact dl
  exact ⟨_, _, fnD_rt ⟨rfl, by decide⟩ (ret_eq ((eCB_eq (a2_eq e1 e2)).trans (v_law_point rfl rfl (by omega) p1 (fun n h => (q1 n h).mono (by decide)) (q2.mono (by decide))))), fl ▸ pt_ok p1 q1 q2⟩
theorem va_no_set {Z : Zc} : VaW (F_law_no_set Z [.raw (.ref Z.p)]) (fun d => isWd Z.WC d = some (.bl false)) := by
  refine va_fn ⟨rfl, by decide⟩ (rw_ret (ev_call1 (ds := [.raw (.ref Z.p), .lst [.non, .int 5, .tup [], .tup [.tup [.int 1, .int 0]], .tup [.int 1, .tup [.tup [.int 1, .int 0]]], .str "set", .emp, .bl true]]) rfl ((va_pick rfl (by simp) (by simp)).mono fun d hd => ?_)))
  simp only [List.mem_cons, List.not_mem_nil, or_false] at hd
  rcases hd with rfl | rfl | rfl | rfl | rfl | rfl | rfl | rfl <;> rfl
end Sh
end Part_E11l

section Part_E11m
set_option maxRecDepth 100000
set_option maxHeartbeats 400000
/-! E11m: values near to a point. -/
namespace Sh
open PySem L2
/-- a number, or another small thing -/
def Scal (d : D) : Prop := basic d = true ∧ ∀ n, d = .int n → Bd 1800 n
theorem scal_int {n : Int} (h : Bd 1800 n) : Scal (.int n) := ⟨rfl, fun m e => by cases e; exact h⟩
theorem nice_pair {es : List D} {y : D} (hl : es.length ≤ 1000) (he : ∀ e ∈ es, Scal e) (hy : Scal y) : Nice (.tup [.tup es, y]) :=
  ⟨rfl, fun x y2 e => by
    simp only [D.tup.injEq, List.cons.injEq, and_true] at e
    obtain ⟨rfl, rfl⟩ := e
    exact ⟨rfl, hy.1, hy.2, fun es2 e2 => by
      simp only [D.tup.injEq] at e2
      subst e2
      exact ⟨hl, fun x hx => he x hx⟩⟩⟩
theorem nice_pairL {es : List D} {y : D} (hy : Scal y) : Nice (.tup [.lst es, y]) :=
  ⟨rfl, fun x y2 e => by
    simp only [D.tup.injEq, List.cons.injEq, and_true] at e
    obtain ⟨rfl, rfl⟩ := e
    exact ⟨rfl, hy.1, hy.2, fun es2 e2 => by cases e2⟩⟩
theorem nice_other {d : D} (h : basic d = true) (h2 : ∀ x y, d ≠ .tup [x, y]) : Nice d := ⟨h, fun x y e => absurd e (h2 x y)⟩
theorem nice_row {ns : List Int} (h : ∀ n ∈ ns, Bd 1800 n) : Nice (.tup (I ns)) :=
  ⟨rfl, fun x y e => by
    simp only [D.tup.injEq] at e
    obtain ⟨n, hn, rfl⟩ := mem_I (ns := ns) (d := x) (by rw [e]; simp)
    obtain ⟨m, hm, rfl⟩ := mem_I (ns := ns) (d := y) (by rw [e]; simp)
    exact ⟨rfl, rfl, fun k ek => by cases ek; exact h _ hm, fun es ee => by cases ee⟩⟩
theorem ev_look {i : Nat} {m : Ew} {env : Env} {P : D → Prop} (h : EvW m (frz i env) (fun d => noL d = true ∧ P d)) : EvW (wLook i m) env P := ⟨by
  unfold wLook
  exact W.wp_bind.mpr (W.wp_mono h.h (fun d hd => by rw [if_pos hd.1]; exact hd.2) fun _ z => z)⟩
theorem acons_eq {m : Ex} {ms : Ax} {env : Env} {d : D} {ds : List D} (h : m env = some d) (h2 : ms env = some ds) : aCons m ms env = some (d :: ds) := by
  show (m env).bind _ = _
  rw [h]
  show (ms env).bind _ = _
  rw [h2]; rfl
theorem elst_eq {ms : Ax} {env : Env} {ds : List D} (h : ms env = some ds) (hl : ds.length ≤ 1000000) : eLst ms env = some (.lst ds) := by
  unfold eLst
  rw [h]
  exact if_pos hl
abbrev NE (Z : Zc) (ns : List Int) (b : Int) (a4 a5 a6 : Option (Bool × D)) : Env := [some (false, .raw (.ref Z.p)), some (false, ptD ns b), some (false, .tup (I ns)), some (false, .int b), a4, a5, a6, none]
theorem va_near {Z : Zc} {size : Nat} {ns : List Int} {b : Int} (h1 : 1 ≤ size) (h4 : size ≤ 4) (h : PtOk size 90 ns b) : VaW (F_law_near_point Z [.raw (.ref Z.p), ptD ns b]) Nice := by
  have hl := h.len
  have hb := h.bd
  have hbb := h.bb
  have big : ∀ {n : Int}, Bd 90 n → Bd 1800 n := fun h => h.mono (by decide)
  have sI : ∀ e ∈ I ns, Scal e := fun e he => by
    obtain ⟨n, hn, rfl⟩ := mem_I he
    exact scal_int (big (hb n hn))
  have lI : (I ns).length ≤ 1000 := by rw [I_len]; omega
  refine va_fn ⟨rfl, by decide⟩ (rw_seq (I := fun e => e = NE Z ns b none none none) (nw_of rfl rfl) fun e he => ?_)
  subst he
  refine rw_seq (I := fun e => e = NE Z ns b (some (true, .lst (I ns))) none none) (nw_of (e := NE Z ns b (some (true, .lst (I ns))) none none) rfl rfl) fun e he => ?_
  subst he
  have hlen : aL (aCons (eVar 0) (aCons (eCB cLen (aCons (eVar 4) aNil)) aNil)) (NE Z ns b (some (false, .lst (I ns))) none none) = .ret [.raw (.ref Z.p), .int ((I ns).length : Nat)] := rfl
  refine rw_seq (I := fun e => ∃ es : List D, es.length ≤ 1000 ∧ (∀ x ∈ es, Scal x) ∧ e = NE Z ns b (some (true, .lst es)) none none)
    (nw_put (P := Scal) (R := fun d => ∃ r : Int, d = .int r ∧ 0 ≤ r ∧ r < (I ns).length) rfl
      (EvW.mono (ev_call1 (ds := [.raw (.ref Z.p), .lst [.non, .bl true, .str "1", .int (10 ^ 30), .int 0]]) rfl (va_pick rfl (by simp) (by simp))) fun d hd => ?_)
      (ev_look (EvW.mono (ev_call1 hlen (va_take (by rw [I_len]; omega) (by rw [I_len]; omega))) fun d ⟨r, hd, r0, r1⟩ => ?_)) fun d x hd ⟨r, hx, r0, r1⟩ => ?_) fun e ⟨es, el, hes, he⟩ => ?_
  · simp only [List.mem_cons, List.not_mem_nil, or_false] at hd
    rcases hd with rfl | rfl | rfl | rfl | rfl
    · exact ⟨rfl, fun n e => by cases e⟩
    · exact ⟨rfl, fun n e => by cases e⟩
    · exact ⟨rfl, fun n e => by cases e⟩
    · exact scal_int ((show Bd 100 (10 ^ 30) by unfold Bd; decide).mono (by decide))
    · exact scal_int ((show Bd 1 0 by unfold Bd; decide).mono (by decide))
  · subst hd
    exact ⟨rfl, r, rfl, r0, r1⟩
  · refine ⟨r, r.toNat, hx, ?_, (I ns).set r.toNat d, by rw [List.length_set]; exact lI, fun x hx => ?_, rfl⟩
    · unfold ixN
      rw [if_pos r0, if_pos r1]
    · rcases List.mem_or_eq_of_mem_set hx with h3 | rfl
      · exact sI x h3
      · exact hd
  subst he
  -- twice
  have tw : eTup (aCons (eCB cTup (aCons (eComp (wItems (eVar 2)) [7] (gV 7) bYes (eBin sMulA (eC (.int 2)) (eVar 7))) aNil)) (aCons (eBin sMulA (eC (.int 2)) (eVar 3)) aNil)) (NE Z ns b (some (true, .lst es)) none none) = some (.tup [.tup ((I ns).map (mulTk 2)), .int (2 * b)]) := by
    have two : Bd 400000 2 := (show Bd 2 2 by unfold Bd; decide).mono (by decide)
    refine tup2_eq ((eCB_eq (a1_eq (comp_map (mulTk 2) (ds := I ns) rfl (by omega) fun d hd => ?_))).trans rfl) ((bin_eq rfl rfl).trans (mulA two (hbb.mono (by decide))))
    obtain ⟨n, hn, rfl⟩ := mem_I hd
    exact ⟨(NE Z ns b (some (true, .lst es)) none none).set 7 (some (false, .int n)), rfl, (bin_eq rfl rfl).trans (mulA two ((hb n hn).mono (by decide)))⟩
  generalize htw : D.tup [.tup ((I ns).map (mulTk 2)), .int (2 * b)] = TW at tw
  have nTW : Nice TW := by
    rw [← htw]
    have two : Bd 2 2 := by unfold Bd; decide
    refine nice_pair (by rw [List.length_map]; exact lI) (fun e he => ?_) (scal_int ((two.mul hbb).mono (by decide)))
    obtain ⟨d, hd, rfl⟩ := List.mem_map.mp he
    obtain ⟨n, hn, rfl⟩ := mem_I hd
    exact scal_int ((two.mul (hb n hn)).mono (by decide))
  refine rw_seq (I := fun e => e = NE Z ns b (some (true, .lst es)) (some (false, TW)) none) (nw_of (wset_eq (eL_eq tw) (by show 5 < 8; decide)) rfl) fun e he => ?_
  subst he
  refine rw_seq (I := fun e => e = NE Z ns b (some (true, .lst es)) (some (false, TW)) (some (false, .lst [TW, TW, .tup [.tup (I ns), .int (0 - b)], .tup [.tup (I ns), .int 0], .tup [.lst (I ns), .int b], .lst [.tup (I ns), .int b]]))) (nw_of (wset_eq (eL_eq rfl) (by show 6 < 8; decide)) rfl) fun e he => ?_
  subst he
  have plus : eBin sAddA (eVar 2) (eTup (aCons (eC (.int 0)) aNil)) (NE Z ns b (some (false, .lst es)) (some (false, TW)) (some (false, .lst [TW, TW, .tup [.tup (I ns), .int (0 - b)], .tup [.tup (I ns), .int 0], .tup [.lst (I ns), .int b], .lst [.tup (I ns), .int b]]))) = some (.tup (I ns ++ [.int 0])) := by
    refine (bin_eq (d := .tup (I ns)) (d2 := .tup [.int 0]) rfl rfl).trans ?_
    simp [sAddA, sAdd]
    omega
  have slc : eSl (eVar 2) (oSome (eC (.int 1))) oNone (NE Z ns b (some (false, .lst es)) (some (false, TW)) (some (false, .lst [TW, TW, .tup [.tup (I ns), .int (0 - b)], .tup [.tup (I ns), .int 0], .tup [.lst (I ns), .int b], .lst [.tup (I ns), .int b]]))) = some (.tup (cutD (I ns) (some 1) none)) := rfl
  have nb : Scal (.int b) := scal_int (big hbb)
  have n0 : Scal (.int 0) := scal_int ((show Bd 1 0 by unfold Bd; decide).mono (by decide))
  have ncut : ∀ e ∈ cutD (I ns) (some 1) none, Scal e := fun e he => sI e (List.mem_of_mem_drop (List.mem_of_mem_take he))
  have lcut : (cutD (I ns) (some 1) none).length ≤ 1000 := by unfold cutD; rw [List.length_take, List.length_drop]; omega
  have five : eLst (aCons (eTup (aCons (eCB cTup (aCons (eVar 4) aNil)) (aCons (eVar 3) aNil))) (aCons (eTup (aCons (eCB cTup (aCons (eVar 4) aNil)) (aCons (eVar 3) aNil))) (aCons (eTup (aCons (eBin sAddA (eVar 2) (eTup (aCons (eC (.int 0)) aNil))) (aCons (eVar 3) aNil))) (aCons (eTup (aCons (eSl (eVar 2) (oSome (eC (.int 1))) oNone) (aCons (eVar 3) aNil))) (aCons (eTup (aCons (eVar 2) (aCons (eC (.bl true)) aNil))) aNil)))))
      (NE Z ns b (some (false, .lst es)) (some (false, TW)) (some (false, .lst [TW, TW, .tup [.tup (I ns), .int (0 - b)], .tup [.tup (I ns), .int 0], .tup [.lst (I ns), .int b], .lst [.tup (I ns), .int b]]))) = some (.lst [.tup [.tup es, .int b], .tup [.tup es, .int b], .tup [.tup (I ns ++ [.int 0]), .int b], .tup [.tup (cutD (I ns) (some 1) none), .int b], .tup [.tup (I ns), .bl true]]) :=
    elst_eq (acons_eq rfl (acons_eq rfl (acons_eq (tup2_eq plus rfl) (acons_eq (tup2_eq slc rfl) (acons_eq rfl rfl))))) (by simp)
  refine rw_seq (I := fun e => e = NE Z ns b (some (false, .lst es)) (some (false, TW)) (some (false, .lst [TW, TW, .tup [.tup (I ns), .int (0 - b)], .tup [.tup (I ns), .int 0], .tup [.lst (I ns), .int b], .lst [.tup (I ns), .int b], .tup [.tup es, .int b], .tup [.tup es, .int b], .tup [.tup (I ns ++ [.int 0]), .int b], .tup [.tup (cutD (I ns) (some 1) none), .int b], .tup [.tup (I ns), .bl true]])))
    (nw_of (a := wsFrz 4 _) (e := NE Z ns b (some (false, .lst es)) (some (false, TW)) (some (false, .lst [TW, TW, .tup [.tup (I ns), .int (0 - b)], .tup [.tup (I ns), .int 0], .tup [.lst (I ns), .int b], .lst [.tup (I ns), .int b], .tup [.tup es, .int b], .tup [.tup es, .int b], .tup [.tup (I ns ++ [.int 0]), .int b], .tup [.tup (cutD (I ns) (some 1) none), .int b], .tup [.tup (I ns), .bl true]])))
      (wset_eq (env := NE Z ns b (some (false, .lst es)) (some (false, TW)) (some (false, .lst [TW, TW, .tup [.tup (I ns), .int (0 - b)], .tup [.tup (I ns), .int 0], .tup [.lst (I ns), .int b], .lst [.tup (I ns), .int b]]))) (eL_eq ((bin_eq rfl five).trans rfl)) (by show 6 < 8; decide)) rfl) fun e he => ?_
  subst he
  refine rw_ret (ev_call1 (ds := [.raw (.ref Z.p), .lst [TW, TW, .tup [.tup (I ns), .int (0 - b)], .tup [.tup (I ns), .int 0], .tup [.lst (I ns), .int b], .lst [.tup (I ns), .int b], .tup [.tup es, .int b], .tup [.tup es, .int b], .tup [.tup (I ns ++ [.int 0]), .int b], .tup [.tup (cutD (I ns) (some 1) none), .int b], .tup [.tup (I ns), .bl true],
    .tup [.tup (I ns)], .tup (I ns), .non, .int 5, .tup [.tup (I ns), .int b, .int 1]]]) rfl ((va_pick rfl (by simp) (by simp)).mono fun d hd => ?_))
  simp only [List.mem_cons, List.not_mem_nil, or_false] at hd
  rcases hd with rfl | rfl | rfl | rfl | rfl | rfl | rfl | rfl | rfl | rfl | rfl | rfl | rfl | rfl | rfl | rfl
  · exact nTW
  · exact nTW
  · exact nice_pair lI sI (scal_int (by unfold Bd at *; rw [Int.zero_sub, Int.natAbs_neg]; exact big hbb))
  · exact nice_pair lI sI n0
  · exact nice_pairL nb
  · exact nice_other rfl fun x y => by simp
  · exact nice_pair el hes nb
  · exact nice_pair el hes nb
  · exact nice_pair (by rw [List.length_append, I_len]; simp; omega) (fun e he => by
      rcases List.mem_append.mp he with h | h
      · exact sI e h
      · rw [List.mem_singleton.mp h]; exact n0) nb
  · exact nice_pair lcut ncut nb
  · exact nice_pair lI sI ⟨rfl, fun n e => by cases e⟩
  · exact nice_other rfl fun x y => by simp
  · exact nice_row fun n hn => big (hb n hn)
  · exact nice_other rfl fun x y => by simp
  · exact nice_other rfl fun x y => by simp
  · exact nice_other rfl fun x y => by simp
end Sh
end Part_E11m

section Part_E11p
set_option maxRecDepth 100000
set_option maxHeartbeats 400000
set_option exponentiation.threshold 600
/-! E11p: repr is defined on what is told. -/
namespace Sh
open PySem L2
structure Fine (k w : Nat) (p : PyData) : Prop where
  s : PyData.showable p = true
  h : PyData.hasDict p = false
  d : PyData.depth p ≤ k
  l : PyData.leavesShort 81 p = true
  w : PyData.weight p ≤ w
structure FineA (k w : Nat) (ps : List PyData) : Prop where
  s : PyData.showableAll ps = true
  h : PyData.hasDictAll ps = false
  d : PyData.depthAll ps ≤ k
  l : PyData.leavesShortAll 81 ps = true
  w : PyData.weightAll ps ≤ w
theorem fine_int {n : Int} (h : Bd 250 n) : Fine 0 251 (.int n) := by
  have e : (2 : Nat) ^ 250 < 10 ^ 80 := by decide
  have h80 : n.natAbs < 10 ^ 80 := Nat.lt_trans h e
  have hlog : n.natAbs.log2 < 250 := by
    by_cases h0 : n.natAbs = 0
    · rw [h0]; decide
    · exact (Nat.log2_lt h0).mpr h
  refine ⟨?_, rfl, Nat.le_refl _, ?_, by unfold PyData.weight; split <;> omega⟩
  · unfold PyData.showable
    exact decide_eq_true (by omega)
  · unfold PyData.leavesShort
    refine decide_eq_true ?_
    show (Str.ofString (toString n)).length ≤ 81
    rw [ofString_length]
    exact PySem.int_text_length_le10 (by decide) h80
theorem fineA_nil {k : Nat} : FineA k 0 [] := ⟨rfl, rfl, Nat.zero_le _, rfl, Nat.le_refl _⟩
theorem fineA_cons {k w v : Nat} {p : PyData} {ps : List PyData} (h1 : Fine k w p) (h2 : FineA k v ps) : FineA k (w + 1 + v) (p :: ps) := by
  obtain ⟨a1, a2, a3, a4, a5⟩ := h1
  obtain ⟨b1, b2, b3, b4, b5⟩ := h2
  refine ⟨?_, ?_, ?_, ?_, ?_⟩
  · unfold PyData.showableAll; rw [a1, b1]; rfl
  · unfold PyData.hasDictAll; rw [a2, b2]; rfl
  · unfold PyData.depthAll; exact Nat.max_le.mpr ⟨a3, b3⟩
  · unfold PyData.leavesShortAll; rw [a4, b4]; rfl
  · unfold PyData.weightAll; omega
theorem fineA_ints {ns : List Int} (h : ∀ n ∈ ns, Bd 250 n) : FineA 0 (252 * ns.length) (ns.map PyData.int) := by
  induction ns with
  | nil => exact fineA_nil
  | cons n ns ih =>
    have z := fineA_cons (fine_int (h n List.mem_cons_self)) (ih fun m hm => h m (List.mem_cons_of_mem _ hm))
    rw [show 252 * (n :: ns).length = 251 + 1 + 252 * ns.length by simp; omega]
    exact z
theorem fine_tup {k w : Nat} {ps : List PyData} (h : FineA k w ps) : Fine (k + 1) (w + 1) (.tuple ps) := by
  obtain ⟨b1, b2, b3, b4, b5⟩ := h
  refine ⟨?_, ?_, ?_, ?_, ?_⟩
  · unfold PyData.showable; exact b1
  · unfold PyData.hasDict; exact b2
  · unfold PyData.depth; omega
  · unfold PyData.leavesShort; exact b4
  · unfold PyData.weight; omega
theorem fine_lst {k w : Nat} {ps : List PyData} (h : FineA k w ps) : Fine (k + 1) (w + 1) (.list ps) := by
  obtain ⟨b1, b2, b3, b4, b5⟩ := h
  refine ⟨?_, ?_, ?_, ?_, ?_⟩
  · unfold PyData.showable; exact b1
  · unfold PyData.hasDict; exact b2
  · unfold PyData.depth; omega
  · unfold PyData.leavesShort; exact b4
  · unfold PyData.weight; omega
theorem Fine.mono {k w k2 w2 : Nat} {p : PyData} (h : Fine k w p) (hk : k ≤ k2) (hw : w ≤ w2) : Fine k2 w2 p := ⟨h.s, h.h, Nat.le_trans h.d hk, h.l, Nat.le_trans h.w hw⟩
theorem repr_two {x : D} {p : PyData} (e : dpy x = some p) (h : Fine 3 4000 p) : cRepr [.lst [x, x]] = some (.str (PyData.shown (.list [p, p]))) := by
  have z := fine_lst (fineA_cons h (fineA_cons h (fineA_nil (k := 3))))
  have e2 : dpy (.lst [x, x]) = some (.list [p, p]) := by
    show ((dpy x).bind fun p => ((dpy x).bind fun p => (some []).map (p :: ·)).map (p :: ·)).map PyData.list = _
    rw [e]; rfl
  have hs := PyData.shown_le 81 (by decide) _ z.l
  have hd := z.d
  have hw := z.w
  show cReprD (.lst [x, x]) = _
  unfold cReprD
  rw [e2]
  exact if_pos ⟨z.s, z.h, by omega, by omega⟩
end Sh
end Part_E11p

section Part_E11t
set_option maxRecDepth 100000
set_option maxHeartbeats 400000
/-! E11t: texts told are equal to themselves. -/
namespace Sh
open PySem L2 PyProof.Rows
def okT (x : Str) : Prop := ∀ c ∈ x.cps.toList, c < 0x110000
theorem okT_join {ts : List Str} (h : ∀ t ∈ ts, okT t) : okT (Str.join ", " ts) := by
  intro c hc
  rw [mem_join] at hc
  rcases hc with ⟨t, ht, hc⟩ | ⟨_, hc⟩
  · exact h t ht c hc
  · rw [signs_sep] at hc
    simp only [List.mem_cons, List.not_mem_nil, or_false] at hc
    omega
theorem okT_app {a b : Str} (h : okT a) (h2 : okT b) : okT (a ++ b) := fun c hc => by
  rw [mem_cps_append] at hc
  rcases hc with hc | hc
  · exact h c hc
  · exact h2 c hc
theorem okT_lit (s : String) (h : (Str.ofString s).cps.toList.all (fun c => decide (c < 0x110000)) = true) : okT (Str.ofString s) := fun c hc => by
  simpa using List.all_eq_true.mp h c hc
theorem okT_shown : ∀ (xs : List PyData), (∀ x ∈ xs, okT (PyData.shown x)) → ∀ t ∈ PyData.shownAll xs, okT t
  | [], _, t, ht => by rw [PyData.shownAll_nil] at ht; exact absurd ht (by simp)
  | x :: r, h, t, ht => by
    rw [PyData.shownAll_cons, List.mem_cons] at ht
    rcases ht with e | ht
    · rw [e]; exact h x (List.mem_cons_self ..)
    · exact okT_shown r (fun y hy => h y (List.mem_cons_of_mem _ hy)) t ht
theorem okT_int (i : Int) : okT (PyData.shown (.int i)) := fun c hc => by
  rcases Nat.lt_or_ge c 0x110000 with h | h
  · exact h
  · exact absurd hc (shown_int_free' ⟨by omega, by omega⟩ i)
theorem okT_tup {xs : List PyData} (h : ∀ x ∈ xs, okT (PyData.shown x)) : okT (PyData.shown (.tuple xs)) := by
  rw [PyData.shown_tuple]
  refine okT_app (okT_app (okT_lit "(" (by decide)) (okT_join (okT_shown xs h))) ?_
  split
  · exact okT_lit ",)" (by decide)
  · exact okT_lit ")" (by decide)
theorem okT_lst {xs : List PyData} (h : ∀ x ∈ xs, okT (PyData.shown x)) : okT (PyData.shown (.list xs)) := by
  rw [PyData.shown_list]
  exact okT_app (okT_app (okT_lit "[" (by decide)) (okT_join (okT_shown xs h))) (okT_lit "]" (by decide))
theorem okT_row (ns : List Int) : okT (PyData.shown (rowP ns)) := okT_tup fun x hx => by
  obtain ⟨n, _, rfl⟩ := List.mem_map.mp hx
  exact okT_int n
theorem ne_str {s : Str} (h : okT s) : sNe (.str s) (.str s) = some (.bl false) := by
  have h1 : SeqAt.shaped (.str s) = true := by
    have : PyData.canLay0 (.str s) = true := by
      unfold PyData.canLay0 PyData.strOk
      rw [Array.all_eq_true_iff_forall_mem]
      intro c hc
      exact decide_eq_true (h c (Array.mem_toList_iff.mpr hc))
    unfold SeqAt.shaped
    rw [this]
    simp [PyData.depth]
  show (((if SeqAt.shaped (.str s) = true ∧ SeqAt.shaped (.str s) = true then some (PyData.eqv (.str s) (.str s)) else none : Option Bool)).map _) = _
  rw [if_pos ⟨h1, h1⟩]
  simp [PyData.eqv]
theorem repr_two2 {x : D} {p : PyData} (e : dpy x = some p) (o : okT (PyData.shown p)) (h : Fine 3 4000 p) : ∃ s, okT s ∧ cRepr [.lst [x, x]] = some (.str s) :=
  ⟨_, okT_lst fun y hy => by
    simp only [List.mem_cons, List.not_mem_nil, or_false] at hy
    rcases hy with rfl | rfl <;> exact o, repr_two e h⟩
theorem repr_row {l : List Int} (hl : l.length ≤ 11) (h : ∀ n ∈ l, Bd 250 n) : ∃ s, okT s ∧ cRepr [.lst [.tup (I l), .tup (I l)]] = some (.str s) :=
  repr_two2 (dpy_row l) (okT_row l) ((fine_tup (fineA_ints h)).mono (by decide) (by omega))
theorem repr_fr {a b : Int} (ha : Bd 250 a) (hb : Bd 250 b) : ∃ s, okT s ∧ cRepr [.lst [.tup [.int a, .int b], .tup [.int a, .int b]]] = some (.str s) :=
  repr_row (l := [a, b]) (by simp) fun n hn => by
    simp only [List.mem_cons, List.not_mem_nil, or_false] at hn
    rcases hn with rfl | rfl <;> assumption
theorem repr_pt {ns : List Int} {b : Int} (hl : ns.length ≤ 11) (h : ∀ n ∈ ns, Bd 250 n) (hb : Bd 250 b) : ∃ s, okT s ∧ cRepr [.lst [ptD ns b, ptD ns b]] = some (.str s) := by
  have e : dpy (ptD ns b) = some (.tuple [rowP ns, .int b]) := by
    show ((dpy (.tup (I ns))).bind fun p => (dpys [.int b]).map (p :: ·)).map PyData.tuple = _
    rw [dpy_row]; rfl
  have h1 : Fine 1 2773 (rowP ns) := (fine_tup (fineA_ints h)).mono (by decide) (by omega)
  have h2 : Fine 1 251 (.int b) := (fine_int hb).mono (by decide) (by decide)
  exact repr_two2 e (okT_tup fun x hx => by
    simp only [List.mem_cons, List.not_mem_nil, or_false] at hx
    rcases hx with rfl | rfl
    · exact okT_row ns
    · exact okT_int b) ((fine_tup (fineA_cons h1 (fineA_cons h2 fineA_nil))).mono (by decide) (by decide))
theorem repr_ne {A B : Ew} {L : Aw} {x : D} {env : Env} (hA : A env = .ret x) (hB : B env = .ret x) (hL : L env = .ret [.lst [x, x]]) (hr : ∃ s, okT s ∧ cRepr [.lst [x, x]] = some (.str s)) : wBinT sNe (wCB cRepr (wCons (wCB lstOf (wCons A (wCons B wNil))) wNil)) (wCB cRepr L) env = .ret false := by
  obtain ⟨s, ho, hr⟩ := hr
  have e1 : wCons A (wCons B wNil) env = .ret [x, x] := by
    unfold wCons
    rw [hA]
    show ((wCons B wNil env).bind _) = _
    unfold wCons
    rw [hB]; rfl
  have e2 : wCons (wCB lstOf (wCons A (wCons B wNil))) wNil env = .ret [.lst [x, x]] := by
    have e : wCB lstOf (wCons A (wCons B wNil)) env = .ret (.lst [x, x]) := wcb_eq e1 rfl
    generalize wCB lstOf (wCons A (wCons B wNil)) = m at e
    unfold wCons
    rw [e]; rfl
  have e3 : wCB cRepr (wCons (wCB lstOf (wCons A (wCons B wNil))) wNil) env = .ret (.str s) := wcb_eq e2 hr
  have e4 : wCB cRepr L env = .ret (.str s) := wcb_eq hL hr
  generalize wCB cRepr (wCons (wCB lstOf (wCons A (wCons B wNil))) wNil) = m at e3
  generalize wCB cRepr L = n at e4
  unfold wBinT
  rw [e3]
  show ((n env).bind _) = _
  rw [e4]
  show (match sNe (.str s) (.str s) with | some (.bl k) => .ret k | _ => .fail : W Bool) = _
  rw [ne_str ho]
end Sh
end Part_E11t

section Part_E11u
set_option maxRecDepth 100000
set_option maxHeartbeats 400000
/-! E11u: what the law says of a drawn set (parts). -/
namespace Sh
open PySem L2
section
variable {env : Env} {A B : Ew} {d x y : D} {ds : List D} {ms : Aw} {t u : Tw} {k : Bool}
theorem wc2_eq (h : A env = .ret x) (h2 : B env = .ret y) : wCons A (wCons B wNil) env = .ret [x, y] := by
  have e : wCons B wNil env = .ret [y] := by unfold wCons; rw [h2]; rfl
  generalize wCons B wNil = m at e
  unfold wCons
  rw [h]
  show ((m env).bind _) = _
  rw [e]; rfl
theorem wc1_eq (h : A env = .ret x) : wCons A wNil env = .ret [x] := by unfold wCons; rw [h]; rfl
theorem wc3_eq {C : Ew} {z : D} (h : A env = .ret x) (h2 : B env = .ret y) (h3 : C env = .ret z) : wCons A (wCons B (wCons C wNil)) env = .ret [x, y, z] := by
  have e : wCons B (wCons C wNil) env = .ret [y, z] := wc2_eq h2 h3
  generalize wCons B (wCons C wNil) = m at e
  unfold wCons
  rw [h]
  show ((m env).bind _) = _
  rw [e]; rfl
theorem wcallp_eq {F : List D → Option D} (h : ms env = .ret ds) (h2 : F ds = some d) : wCallP F ms env = .ret d := by unfold wCallP; rw [h]; show W.ofO (F ds) = _; rw [h2]; rfl
theorem wcallk_eq {F : List D → W D} {ix : List Nat} (h : ms env = .ret ds) : wCallK F ix ms env = F (permL ix ds) := by unfold wCallK; rw [h]; rfl
theorem wof_eq (h : A env = .ret (.bl k)) : wOf A env = .ret k := by unfold wOf; rw [h]; rfl
theorem wnot_eq (h : t env = .ret k) : wNotT t env = .ret (!k) := by unfold wNotT; rw [h]; rfl
theorem wor_f (h : t env = .ret false) : wOrT t u env = u env := by unfold wOrT; rw [h]; rfl
theorem wand_f (h : t env = .ret false) : wAndT t u env = .ret false := by unfold wAndT; rw [h]; rfl
theorem wand_t (h : t env = .ret true) : wAndT t u env = u env := by unfold wAndT; rw [h]; rfl
theorem wcaught_ra {XS : List Addr} {x : Xn} (h : A env = .raise x) : wCaught XS A env = caughtW XS (.raise x) := by unfold wCaught; rw [h]
theorem wbint_str {s : Str} (ho : okT s) (h : A env = .ret (.str s)) (h2 : B env = .ret (.str s)) : wBinT sNe A B env = .ret false := by
  unfold wBinT
  rw [h]
  show ((B env).bind _) = _
  rw [h2]
  show (match sNe (.str s) (.str s) with | some (.bl k) => .ret k | _ => .fail : W Bool) = _
  rw [ne_str ho]
theorem wcall_va {F : List D → W D} {r : W D} (h : ms env = .ret ds) (h2 : F ds = r) : wCall F ms env = r := by unfold wCall; rw [h]; exact h2
end
abbrev RG (Z : Zc) (size : Nat) (rows : List (List Int)) (e4 e5 e6 e7 e8 e9 e10 e11 e12 e13 : Option (Bool × D)) : Env := [some (false, .raw (.ref Z.p)), some (false, .int size), some (false, .tup (R rows)), some (false, wallsD Z size rows), e4, e5, e6, e7, e8, e9, e10, e11, e12, e13]
theorem told_point {Z : Zc} (hn : (XS Z).Nodup) {A : Ew} {env : Env} (h : A env = .raise (xP Z)) : wBinT sNe (wCall (F_law_told Z) (wCons (wCaught (XS Z) A) wNil)) (eL (eC (.str "point"))) env = .ret false := by
  have e1 : wCaught (XS Z) A env = .ret (.exc (Z.xa "BadPoint") []) := (wcaught_ra h).trans (caught_ra (a := "BadPoint") (by decide) rfl)
  exact wbint_str (s := "point") (okT_lit "point" (by decide)) (wcall_va (wc1_eq e1) (v_told_point hn)) rfl
/-- one thing: all that is said of it is so -/
theorem right_thing {Z : Zc} (hn : (XS Z).Nodup) {size : Nat} {rows : List (List Int)} {ns : List Int} {b : Int} {d : D} {e4 e7 e8 e9 e10 e11 e12 e13 : Option (Bool × D)} (h4 : size ≤ 4) (hp : PtOk size 1800 ns b) (hN : Nice d) :
    ∃ k : Bool, (wsSeq (wsSet 12 (eL (eCB (F_law_is_point Z) (aCons (eVar 1) (aCons (eVar 6) aNil))))) (wsSeq (wsIf (wOrT (wNotT (wOf (wCallP (F_law_says Z) (wCons (wCall (Fis_point Z) (aL (aCons (eVar 3) (aCons (eVar 6) aNil)))) (wCons (eL (eVar 12)) wNil))))) (wNotT (wOf (wCallP (F_law_says Z) (wCons (wCallK (Fis_point Z) [1, 0] (wCons (eL (eVar 6)) (wCons (eL (eVar 3)) wNil))) (wCons (eL (eVar 12)) wNil)))))) (wsRet (eL (eC (.bl false)))) wsNil) (wsSeq (wsIf (wAndT (tL (bNot (bOf (eVar 12)))) (wBinT sNe (wCall (F_law_told Z) (wCons (wCaught (XS Z) (wCall (Fsigns_at Z) (aL (aCons (eVar 3) (aCons (eVar 6) aNil))))) wNil)) (eL (eC (.str "point"))))) (wsRet (eL (eC (.bl false)))) wsNil) (wsIf (wAndT (tL (bNot (bOf (eVar 12)))) (wBinT sNe (wCall (F_law_told Z) (wCons (wCaught (XS Z) (wCall (Fhalf_way Z) (aL (aCons (eVar 3) (aCons (eVar 5) (aCons (eVar 6) aNil)))))) wNil)) (eL (eC (.str "point"))))) (wsRet (eL (eC (.bl false)))) wsNil))))
      (RG Z size rows e4 (some (false, ptD ns b)) (some (false, d)) e7 e8 e9 e10 e11 e12 e13) = .ret (.nx (RG Z size rows e4 (some (false, ptD ns b)) (some (false, d)) e7 e8 e9 e10 e11 (some (false, .bl k)) e13)) := by
  obtain ⟨k, h1, h2, h3, h4⟩ := v_judge (Z := Z) (size := size) hN
  obtain ⟨kp, p1, _, _, p4⟩ := v_judge (Z := Z) (size := size) (d := ptD ns b) (nice_pair (by rw [I_len, hp.len]; omega) (fun e he => by
    obtain ⟨n, hn, rfl⟩ := mem_I he
    exact scal_int (hp.bd n hn)) (scal_int hp.bb))
  obtain rfl := p4 ns b rfl hp
  refine ⟨k, (wseq_nx (wset_eq (eL_eq ((eCB_eq (a2_eq rfl rfl)).trans h2)) (by show 12 < 14; decide))).trans ?_⟩
  have says : F_law_says Z [.bl k, .bl k] = some (.bl true) := v_says.trans (by simp)
  refine (wseq_nx ((wif_f ((wor_f (wnot_eq (k := true) (wof_eq (wcallp_eq (wc2_eq (wcall_va (aL_eq rfl) (v_is_point h1)) rfl) says)))).trans (wnot_eq (k := true) (wof_eq (wcallp_eq (wc2_eq ((wcallk_eq (wc2_eq rfl rfl)).trans (v_is_point h1)) rfl) says))))).trans rfl)).trans ?_
  cases k with
  | true =>
    exact (wseq_nx ((wif_f (wand_f (tL_eq (not_eq (k := true) rfl)))).trans rfl)).trans ((wif_f (wand_f (tL_eq (not_eq (k := true) rfl)))).trans rfl)
  | false =>
    exact (wseq_nx ((wif_f ((wand_t (tL_eq (not_eq (k := false) rfl))).trans (told_point hn (wcall_va (aL_eq rfl) (v_signs_at1 h1))))).trans rfl)).trans ((wif_f ((wand_t (tL_eq (not_eq (k := false) rfl))).trans (told_point hn (wcall_va (aL_eq rfl) (v_half_way2 p1 h1))))).trans rfl)
end Sh
end Part_E11u

section Part_E11ua
set_option maxRecDepth 100000
set_option maxHeartbeats 400000
/-! E11ua: the signs and the values of one point. -/
namespace Sh
open PySem L2
theorem over_pt {Z : Zc} {size : Nat} {ns : List Int} {b : Int} (h4 : size ≤ 4) (hp : PtOk size 1800 ns b) : Fis_over_row Z [.int size, ptD ns b] = some (.bl true) := by
  obtain ⟨kp, p1, _, _, p4⟩ := v_judge (Z := Z) (size := size) (d := ptD ns b) (nice_pair (by rw [I_len, hp.len]; omega) (fun e he => by
    obtain ⟨n, hn, rfl⟩ := mem_I he
    exact scal_int (hp.bd n hn)) (scal_int hp.bb))
  obtain rfl := p4 ns b rfl hp
  exact p1
theorem PtOk.mono {size k j : Nat} {ns : List Int} {b : Int} (h : PtOk size k ns b) (hj : k ≤ j) : PtOk size j ns b := ⟨h.len, h.pos, h.gcd, fun n hn => (h.bd n hn).mono hj, h.bb.mono hj⟩
theorem sgn_bd {row ns : List Int} {b : Int} : Bd 2 (sgn row ns b) := by
  unfold sgn
  rcases Int.lt_trichotomy (val row ns b) 0 with h | h | h
  · rw [Int.sign_eq_neg_one_of_neg h]; unfold Bd; decide
  · rw [h]; unfold Bd; decide
  · rw [Int.sign_eq_one_of_pos h]; unfold Bd; decide
def sgD (rows : List (List Int)) (ns : List Int) (b : Int) : D := .tup (I (rows.map fun row => sgn row ns b))
theorem right_signs {Z : Zc} {size : Nat} {rows : List (List Int)} {ns : List Int} {b : Int} {e4 e6 e8 e9 e10 e11 e12 e13 : Option (Bool × D)} (hs : SetOk size rows) (hp : PtOk size 1800 ns b) :
    wsIf (wBinT sNe (wCB cRepr (wCons (wCB lstOf (wCons (wCall (Fsigns_at Z) (aL (aCons (eVar 3) (aCons (eVar 5) aNil)))) (wCons (wCallK (Fsigns_at Z) [1, 0] (wCons (eL (eVar 5)) (wCons (eL (eVar 3)) wNil))) wNil))) wNil)) (wCB cRepr (aL (aCons (eLst (aCons (eVar 7) (aCons (eVar 7) aNil))) aNil)))) (wsRet (eL (eC (.bl false)))) wsNil
      (RG Z size rows e4 (some (false, ptD ns b)) e6 (some (false, sgD rows ns b)) e8 e9 e10 e11 e12 e13) = .ret (.nx (RG Z size rows e4 (some (false, ptD ns b)) e6 (some (false, sgD rows ns b)) e8 e9 e10 e11 e12 e13)) := by
  have sg := v_signs_at (Z := Z) (rows := rows) (over_pt hs.hi hp) (v_point_signs hs hp.bd hp.bb)
  have hm := hs.many
  refine (wif_f (repr_ne (x := sgD rows ns b) ((wcall_va (aL_eq rfl) sg)) ((wcallk_eq (wc2_eq rfl rfl)).trans sg) (aL_eq rfl) (repr_row (by rw [List.length_map]; omega) fun n hn => ?_))).trans rfl
  obtain ⟨row, _, rfl⟩ := List.mem_map.mp hn
  exact sgn_bd.mono (by decide)
theorem fr_bd {a b : Int} (hb : 1 ≤ b) (ha : Bd 250 a) (hbb : Bd 250 b) : ∃ x y, frD a b = .tup [.int x, .int y] ∧ Bd 250 x ∧ Bd 250 y := by
  have hg : 0 < gcdL [a, b] := gcdL_pos (n := b) (by simp) (by omega)
  exact ⟨_, _, rfl, Nat.lt_of_le_of_lt (fdiv_le hg (gcdL_dvd (by simp))) ha, Nat.lt_of_le_of_lt (fdiv_le hg (gcdL_dvd (by simp))) hbb⟩
theorem right_values {Z : Zc} {size : Nat} {rows : List (List Int)} {ns : List Int} {b : Int} {e4 e6 e7 e8 e9 e10 e11 e12 e13 : Option (Bool × D)} (hs : SetOk size rows) (hp : PtOk size 90 ns b) :
    NxW (wsFor (aL (wEn (aCons (eVar 2) aNil))) (gT 2 (gsCons (gV 8) (gsCons (gV 9) gsNil))) (wsSeq (wsSet 12 (eL (eCB (F_law_fraction Z) (aCons (eCB (F_law_value Z) (aCons (eVar 9) (aCons (eVar 5) aNil))) (aCons (eIdxV 5 (eC (.int 1))) aNil))))) (wsIf (wBinT sNe (wCB cRepr (wCons (wCB lstOf (wCons (wCall (Fvalue_at Z) (aL (aCons (eVar 3) (aCons (eVar 8) (aCons (eVar 5) aNil))))) (wCons (wCallK (Fvalue_at Z) [2, 1, 0] (wCons (eL (eVar 5)) (wCons (eL (eVar 8)) (wCons (eL (eVar 3)) wNil)))) wNil))) wNil)) (wCB cRepr (aL (aCons (eLst (aCons (eVar 12) (aCons (eVar 12) aNil))) aNil)))) (wsRet (eL (eC (.bl false)))) wsNil)))
      (RG Z size rows e4 (some (false, ptD ns b)) e6 e7 e8 e9 e10 e11 e12 e13) (fun e => ∃ e8 e9 e12, e = RG Z size rows e4 (some (false, ptD ns b)) e6 e7 e8 e9 e10 e11 e12 e13) := by
  have hp2 := hp.mono (show 90 ≤ 1800 by decide)
  refine nw_for (R := fun ds => ∀ d ∈ ds, ∃ (i : Nat) (row : List Int), d = .tup [.int i, .tup (I row)] ∧ rows[i]? = some row) (I := fun _ e => ∃ e8 e9 e12, e = RG Z size rows e4 (some (false, ptD ns b)) e6 e7 e8 e9 e10 e11 e12 e13) (av_of (ds := (R rows).mapIdx fun i d => .tup [.int ((i : Nat) : Int), d]) (aL_eq rfl) fun d hd => ?_) ⟨e8, e9, e12, rfl⟩ (fun ds hds k e d _ ⟨e8, e9, e12, he⟩ hd => ?_) fun ds _ e h => h
  · obtain ⟨i, hi, rfl⟩ := List.mem_mapIdx.mp hd
    have hi2 : i < rows.length := by unfold R at hi; rw [List.length_map] at hi; exact hi
    exact ⟨i, rows[i], by simp [R], by simp [hi2]⟩
  subst he
  obtain ⟨i, row, rfl, hr⟩ := hds d hd
  have hrow := hs.row row (List.mem_of_getElem? hr)
  have hi : i < rows.length := (List.getElem?_eq_some_iff.mp hr).1
  have hlen := hrow.len
  have h4 := hs.hi
  have hv : Bd 250 (val row ns b) := (val_bd (p := 41) (q := 90) (by omega) hrow.ne hrow.bd hp.bd hp.bb).mono (by decide)
  obtain ⟨x, y, hfr, hx, hy⟩ := fr_bd hp.pos hv (hp.bb.mono (by decide))
  have due : eCB (F_law_fraction Z) (aCons (eCB (F_law_value Z) (aCons (eVar 9) (aCons (eVar 5) aNil))) (aCons (eIdxV 5 (eC (.int 1))) aNil)) (RG Z size rows e4 (some (false, ptD ns b)) e6 e7 (some (false, .int i)) (some (false, .tup (I row))) e10 e11 e12 e13) = some (frD (val row ns b) b) :=
    (eCB_eq (a2_eq ((eCB_eq (a2_eq rfl rfl)).trans (v_law_value (by omega) hrow.ne hrow.bd hp2.bd hp2.bb)) rfl)).trans (v_law_fraction hp.pos (hv.mono (by decide)) hp2.bb)
  have va := v_value_at (Z := Z) (rows := rows) (d := .int i) (v_is_between (by omega) (by omega)) (over_pt hs.hi hp2) (v_value_told hs hr hp.pos (fun n hn => (hp.bd n hn).mono (by decide)) (hp.bb.mono (by decide)))
  refine ⟨RG Z size rows e4 (some (false, ptD ns b)) e6 e7 (some (false, .int i)) (some (false, .tup (I row))) e10 e11 e12 e13, rfl, nw_of ((wseq_nx (wset_eq (eL_eq due) (by show 12 < 14; decide))).trans ((wif_f (repr_ne (x := frD (val row ns b) b) (wcall_va (aL_eq rfl) va) ((wcallk_eq (wc3_eq rfl rfl rfl)).trans va) (aL_eq rfl) (by rw [hfr]; exact repr_fr hx hy))).trans rfl)) ⟨_, _, _, rfl⟩⟩
end Sh
end Part_E11ua

section Part_E11ub
set_option maxRecDepth 100000
set_option maxHeartbeats 400000
/-! E11ub: half ways of one point. -/
namespace Sh
open PySem L2
def hfD (n1 n2 : List Int) (b1 b2 : Int) : D := ptD (ptN (hfN n1 n2 b1 b2) (2 * b1 * b2)) (ptB (hfN n1 n2 b1 b2) (2 * b1 * b2))
theorem half_ok {size : Nat} {n1 n2 : List Int} {b1 b2 : Int} (h1 : PtOk size 90 n1 b1) (h2 : PtOk size 90 n2 b2) : PtOk size 182 (ptN (hfN n1 n2 b1 b2) (2 * b1 * b2)) (ptB (hfN n1 n2 b1 b2) (2 * b1 * b2)) := by
  obtain ⟨q1, q2⟩ := hf_bd h1.bd h2.bd h1.bb h2.bb
  have e : (hfN n1 n2 b1 b2).length = size := by unfold hfN; rw [List.length_zipWith, h1.len, h2.len]; omega
  exact e ▸ pt_ok (half_pos h1.pos h2.pos) q1 q2
theorem hfN_comm : ∀ (n1 n2 : List Int) (b1 b2 : Int), hfN n2 n1 b2 b1 = hfN n1 n2 b1 b2
  | [], [], _, _ => rfl
  | [], _ :: _, _, _ => rfl
  | _ :: _, [], _, _ => rfl
  | x :: n1, y :: n2, b1, b2 => by
    have ih := hfN_comm n1 n2 b1 b2
    show (y * b1 + x * b2) :: hfN n2 n1 b2 b1 = (x * b2 + y * b1) :: hfN n1 n2 b1 b2
    rw [ih, Int.add_comm]
theorem hfD_comm (n1 n2 : List Int) (b1 b2 : Int) : hfD n2 n1 b2 b1 = hfD n1 n2 b1 b2 := by
  unfold hfD
  rw [hfN_comm, show 2 * b2 * b1 = 2 * b1 * b2 by rw [Int.mul_assoc, Int.mul_comm b2, ← Int.mul_assoc]]
theorem right_half {Z : Zc} {size : Nat} {rows : List (List Int)} {n1 n2 : List Int} {b1 b2 : Int} {e4 e6 e8 e9 e12 e13 : Option (Bool × D)} (hs : SetOk size rows) (h1 : PtOk size 90 n1 b1) (h2 : PtOk size 90 n2 b2) :
    (wsSeq (wsIf (wBinT sNe (wCB cRepr (wCons (wCB lstOf (wCons (wCall (Fhalf_way Z) (aL (aCons (eVar 3) (aCons (eVar 5) (aCons (eVar 10) aNil))))) (wCons (wCallK (Fhalf_way Z) [2, 1, 0] (wCons (eL (eVar 5)) (wCons (eL (eVar 10)) (wCons (eL (eVar 3)) wNil)))) wNil))) wNil)) (wCB cRepr (aL (aCons (eLst (aCons (eVar 11) (aCons (eVar 11) aNil))) aNil)))) (wsRet (eL (eC (.bl false)))) wsNil) (wsIf (wNotT (wOf (wCallP (F_law_between Z) (wCons (wCall (Fsigns_at Z) (aL (aCons (eVar 3) (aCons (eVar 11) aNil)))) (wCons (eL (eVar 7)) (wCons (wCall (Fsigns_at Z) (aL (aCons (eVar 3) (aCons (eVar 10) aNil)))) wNil)))))) (wsRet (eL (eC (.bl false)))) wsNil))
      (RG Z size rows e4 (some (false, ptD n1 b1)) e6 (some (false, sgD rows n1 b1)) e8 e9 (some (false, ptD n2 b2)) (some (false, hfD n1 n2 b1 b2)) e12 e13) = .ret (.nx (RG Z size rows e4 (some (false, ptD n1 b1)) e6 (some (false, sgD rows n1 b1)) e8 e9 (some (false, ptD n2 b2)) (some (false, hfD n1 n2 b1 b2)) e12 e13)) := by
  have h4 := hs.hi
  have ho := half_ok h1 h2
  have l1 := h1.len
  have g1 := h1.mono (show 90 ≤ 1800 by decide)
  have g2 := h2.mono (show 90 ≤ 1800 by decide)
  have g3 := ho.mono (show 182 ≤ 1800 by decide)
  have hw : Fhalf_way Z [wallsD Z size rows, ptD n1 b1, ptD n2 b2] = .ret (hfD n1 n2 b1 b2) := v_half_way (k := 90) (by decide) (by omega) h1.bd h2.bd h1.bb h2.bb h1.pos h2.pos (over_pt hs.hi g1) (over_pt hs.hi g2)
  have hw2 : Fhalf_way Z [wallsD Z size rows, ptD n2 b2, ptD n1 b1] = .ret (hfD n1 n2 b1 b2) := (v_half_way (k := 90) (by decide) (by have := h2.len; omega) h2.bd h1.bd h2.bb h1.bb h2.pos h1.pos (over_pt hs.hi g2) (over_pt hs.hi g1)).trans (congrArg W.ret (hfD_comm n1 n2 b1 b2))
  refine (wseq_nx ((wif_f (repr_ne (x := hfD n1 n2 b1 b2) (wcall_va (aL_eq rfl) hw) ((wcallk_eq (wc3_eq rfl rfl rfl)).trans hw2) (aL_eq rfl) (repr_pt (by rw [ho.len]; omega) (fun n hn => (ho.bd n hn).mono (by decide)) (ho.bb.mono (by decide))))).trans rfl)).trans ?_
  have s3 : Fsigns_at Z [wallsD Z size rows, hfD n1 n2 b1 b2] = .ret (sgD rows (ptN (hfN n1 n2 b1 b2) (2 * b1 * b2)) (ptB (hfN n1 n2 b1 b2) (2 * b1 * b2))) := v_signs_at (over_pt hs.hi g3) (v_point_signs hs g3.bd g3.bb)
  have s2 : Fsigns_at Z [wallsD Z size rows, ptD n2 b2] = .ret (sgD rows n2 b2) := v_signs_at (over_pt hs.hi g2) (v_point_signs hs g2.bd g2.bb)
  have bt : F_law_between Z [sgD rows (ptN (hfN n1 n2 b1 b2) (2 * b1 * b2)) (ptB (hfN n1 n2 b1 b2) (2 * b1 * b2)), sgD rows n1 b1, sgD rows n2 b2] = some (.bl true) :=
    v_between fun row _ => ⟨sgn_bd, sgn_bd, fun h => sgn_half (by rw [h1.len, h2.len]) h1.pos h2.pos h⟩
  exact (wif_f (wnot_eq (k := true) (wof_eq (wcallp_eq (wc3_eq (wcall_va (aL_eq rfl) s3) rfl (wcall_va (aL_eq rfl) s2)) bt)))).trans rfl
end Sh
end Part_E11ub

section Part_E11uc
set_option maxRecDepth 100000
set_option maxHeartbeats 400000
/-! E11uc: _law_right answers True. -/
namespace Sh
open PySem L2
def IsPt (size : Nat) (d : D) : Prop := ∃ ns b, d = ptD ns b ∧ PtOk size 90 ns b
theorem av_items {m : Ew} {env : Env} {P : D → Prop} {R : List D → Prop} (h : EvW m env P) (k : ∀ d, P d → ∃ ds, itemsOf d = some ds ∧ R ds) : AvW (wwItems m) env R := ⟨W.wp_bind.mpr (W.wp_mono h.h (fun d hd => W.wp_ofO.mpr (k d hd)) fun _ z => z)⟩
theorem nice_pt {size : Nat} {ns : List Int} {b : Int} (h4 : size ≤ 4) (hp : PtOk size 1800 ns b) : Nice (ptD ns b) := nice_pair (by rw [I_len, hp.len]; omega) (fun e he => by
    obtain ⟨n, hn, rfl⟩ := mem_I he
    exact scal_int (hp.bd n hn)) (scal_int hp.bb)
theorem va_law_right {Z : Zc} (hn : (XS Z).Nodup) {size : Nat} {rows : List (List Int)} (hs : SetOk size rows) : VaW (F_law_right Z [.raw (.ref Z.p), .int size, .tup (R rows)]) (fun d => d = .bl true) := by
  have h4 := hs.hi
  have h1 := hs.lo
  refine va_fn ⟨rfl, by decide⟩ (rw_seq (I := fun e => e = RG Z size rows none none none none none none none none none none) (NxW.mono (nw_set (P := fun d => d = wallsD Z size rows) (ev_call1 rfl ⟨v_walls hs rfl⟩) (by show 3 < 14; decide)) fun e ⟨d, hd, he⟩ => by rw [he, hd]; rfl) fun e he => ?_)
  subst he
  refine rw_seq (I := fun e => ∃ some_ : List D, some_ ≠ [] ∧ some_.length ≤ 20 ∧ (∀ d ∈ some_, IsPt size d) ∧ e = RG Z size rows (some (false, .lst some_)) none none none none none none none none none) ?_ fun e ⟨some_, s0, s6, hsm, he⟩ => ?_
  · have hm := hs.many
    have cl : (cutD (R rows) none (some 3)).length ≤ 10 := by
      unfold cutD
      rw [List.length_take, List.length_drop]
      unfold R
      rw [List.length_map]
      omega
    have f1 : EvW (wComp (aL (wRange1 (aCons (eC (.int 3)) aNil))) [13] (gV 13) (tL bYes) (wCall (F_law_some_point Z) (aL (aCons (eVar 0) (aCons (eVar 1) aNil))))) (RG Z size rows none none none none none none none none none none) (fun d => ∃ out, d = .lst out ∧ out.length = (rangeD 0 3).length ∧ ∀ x ∈ out, IsPt size x) :=
      ⟨wcomp_wp (IsPt size) (ds := rangeD 0 3) (aL_eq rfl) (by decide) fun d _ => ⟨_, rfl, (ev_call1 (ds := [.raw (.ref Z.p), .int size]) rfl ((va_some_point h4).mono fun d ⟨ns, b, hd, hp⟩ => ⟨ns, b, hd, hp.mono (by decide)⟩)).h⟩⟩
    have onr : ∀ d ∈ cutD (R rows) none (some 3), ∃ ns b, F_law_on_row Z [d] = some (ptD ns b) ∧ PtOk size 90 ns b := fun d hd => by
      obtain ⟨row, hr, rfl⟩ := mem_R (List.mem_of_mem_drop (List.mem_of_mem_take hd))
      exact v_law_on_row (hs.row row hr) h4
    have f2 : eComp (wItems (eSl (eVar 2) oNone (oSome (eC (.int 3))))) [9] (gV 9) bYes (eCB (F_law_on_row Z) (aCons (eVar 9) aNil)) (RG Z size rows none none none none none none none none none none) = some (.lst ((cutD (R rows) none (some 3)).map fun d => (F_law_on_row Z [d]).getD .non)) :=
      comp_map (fun d => (F_law_on_row Z [d]).getD .non) (ds := cutD (R rows) none (some 3)) rfl (by omega) fun d hd => ⟨_, rfl, by
        obtain ⟨ns, b, e, _⟩ := onr d hd
        refine (eCB_eq (a1_eq (d := d) rfl)).trans ?_
        rw [e]; rfl⟩
    refine NxW.mono (nw_set (ev_bin f1 (ev_of (P := fun d => d = .lst ((cutD (R rows) none (some 3)).map fun d => (F_law_on_row Z [d]).getD .non)) (eL_eq f2) rfl) (R := fun d => ∃ xs, d = .lst xs ∧ xs ≠ [] ∧ xs.length ≤ 20 ∧ ∀ x ∈ xs, IsPt size x) fun x y ⟨out, hx, hl, ho⟩ hy => ?_) (by show 4 < 14; decide)) fun e ⟨d, ⟨xs, hd, x0, x6, hx⟩, he⟩ => ⟨xs, x0, x6, hx, by rw [he, hd]; rfl⟩
    subst hx; subst hy
    have hl3 : out.length = 3 := hl
    have hlen : out.length + ((cutD (R rows) none (some 3)).map fun d => (F_law_on_row Z [d]).getD .non).length ≤ 1000000 := by rw [List.length_map]; omega
    refine ⟨.lst (out ++ ((cutD (R rows) none (some 3)).map fun d => (F_law_on_row Z [d]).getD .non)), if_pos hlen, _, rfl, (fun z => by rw [List.append_eq_nil_iff] at z; rw [z.1] at hl3; cases hl3), by rw [List.length_append, List.length_map]; omega, fun w hw => ?_⟩
    rcases List.mem_append.mp hw with h | h
    · exact ho w h
    · obtain ⟨d, hd, rfl⟩ := List.mem_map.mp h
      obtain ⟨ns, b, e, hp⟩ := onr d hd
      rw [e]
      exact ⟨ns, b, rfl, hp⟩
  subst he
  refine rw_seq (I := fun e => True) (nw_for (R := fun ds => ds = some_) (I := fun _ e => ∃ e5 e6 e7 e8 e9 e10 e11 e12 e13, e = RG Z size rows (some (false, .lst some_)) e5 e6 e7 e8 e9 e10 e11 e12 e13) (av_of (ds := some_) rfl rfl) ⟨none, none, none, none, none, none, none, none, none, rfl⟩ (fun ds hds k e d _ ⟨e5, e6, e7, e8, e9, e10, e11, e12, e13, he⟩ hd => ?_) fun _ _ _ _ => trivial) fun e _ => rw_ret (ev_of rfl rfl)
  subst he; subst hds
  obtain ⟨ns, b, rfl, hp⟩ := hsm d hd
  have hp2 := hp.mono (show 90 ≤ 1800 by decide)
  refine ⟨RG Z size rows (some (false, .lst ds)) (some (false, ptD ns b)) e6 e7 e8 e9 e10 e11 e12 e13, rfl, ?_⟩
  refine nw_seq (I := fun e => ∃ e6 e12, e = RG Z size rows (some (false, .lst ds)) (some (false, ptD ns b)) e6 e7 e8 e9 e10 e11 e12 e13) (nw_for (R := fun ds => ∀ d ∈ ds, Nice d) (I := fun _ e => ∃ e6 e12, e = RG Z size rows (some (false, .lst ds)) (some (false, ptD ns b)) e6 e7 e8 e9 e10 e11 e12 e13) ?_ ⟨e6, e12, rfl⟩ (fun ts hts k e t _ ⟨e6, e12, he⟩ ht => ?_) fun _ _ _ h => h) fun e ⟨e6, e12, he⟩ => ?_
  · refine av_items (P := fun d => ∃ xs, d = .lst xs ∧ ∀ x ∈ xs, Nice x) (ev_cb (av_cons (ev_of (P := fun d => d = ptD ns b) rfl rfl) (av_cons (ev_call1 (ds := [.raw (.ref Z.p), ptD ns b]) rfl (va_near h1 h4 hp)) (av_cons (ev_call1 (ds := [.raw (.ref Z.p), ptD ns b]) rfl (va_near h1 h4 hp)) av_nil))) fun ts hts => ?_) fun d ⟨xs, hd, hx⟩ => by rw [hd]; exact ⟨xs, rfl, hx⟩
    obtain ⟨x, _, rfl, rfl, y, _, rfl, hy, z, _, rfl, hz, rfl⟩ := hts
    refine ⟨_, rfl, _, rfl, fun w hw => ?_⟩
    simp only [List.mem_cons, List.not_mem_nil, or_false] at hw
    rcases hw with rfl | rfl | rfl
    · exact nice_pt h4 hp2
    · exact hy
    · exact hz
  · subst he
    obtain ⟨k, hk⟩ := right_thing hn (rows := rows) (e4 := some (false, .lst ds)) (e7 := e7) (e8 := e8) (e9 := e9) (e10 := e10) (e11 := e11) (e12 := e12) (e13 := e13) h4 hp2 (hts t ht)
    exact ⟨_, rfl, nw_of hk ⟨_, _, rfl⟩⟩
  subst he
  refine nw_seq (I := fun e => e = RG Z size rows (some (false, .lst ds)) (some (false, ptD ns b)) e6 (some (false, sgD rows ns b)) e8 e9 e10 e11 e12 e13) (nw_of (wset_eq (eL_eq ((eCB_eq (a2_eq rfl rfl)).trans (v_law_at hs hp2.bd hp2.bb))) (by show 7 < 14; decide)) rfl) fun e he => ?_
  subst he
  refine nw_seq (I := fun e => e = RG Z size rows (some (false, .lst ds)) (some (false, ptD ns b)) e6 (some (false, sgD rows ns b)) e8 e9 e10 e11 e12 e13) (nw_of (right_signs hs hp2) rfl) fun e he => ?_
  subst he
  refine nw_seq (right_values hs hp) fun e ⟨e8, e9, e12, he⟩ => ?_
  subst he
  refine nw_seq (nw_set (ev_call1 (ds := [.raw (.ref Z.p), .lst ds]) rfl (va_pick rfl s0 (by omega))) (by show 10 < 14; decide)) fun e ⟨o, ho, he⟩ => ?_
  subst he
  obtain ⟨n2, b2, rfl, hp3⟩ := hsm o ho
  have l1 := hp.len
  refine nw_seq (I := fun e => e = RG Z size rows (some (false, .lst ds)) (some (false, ptD ns b)) e6 (some (false, sgD rows ns b)) e8 e9 (some (false, ptD n2 b2)) (some (false, hfD ns n2 b b2)) e12 e13) (nw_of (wset_eq (eL_eq ((eCB_eq (a2_eq rfl rfl)).trans (v_law_half (k := 90) (by decide) (by omega) hp.bd hp3.bd hp.bb hp3.bb hp.pos hp3.pos))) (by show 11 < 14; decide)) rfl) fun e he => ?_
  subst he
  exact nw_of (right_half hs hp hp3) ⟨_, _, _, _, _, _, _, _, _, rfl⟩
end Sh
end Part_E11uc

section Part_E11ud
set_option maxRecDepth 100000
set_option maxHeartbeats 400000
/-! E11ud: the law's last line. -/
namespace Sh
open PySem L2
theorem AvW.mono {ms : Aw} {env : Env} {P Q : List D → Prop} (h : AvW ms env P) (k : ∀ d, P d → Q d) : AvW ms env Q := ⟨W.wp_mono h.h k fun _ z => z⟩
theorem va_walls {Z : Zc} {size : Nat} {rows : List (List Int)} (hs : SetOk size rows) : VaW (FWalls Z [.int size, .tup (R rows)]) (fun d => d = wallsD Z size rows) := ⟨v_walls hs rfl⟩
theorem setR : SetOk 2 [[1, 0, 0], [0, 1, 0], [1, 1, 2]] where
  lo := by decide
  hi := by decide
  many := by decide
  row := fun ns h => by
    simp only [List.mem_cons, List.not_mem_nil, or_false] at h
    have bd : ∀ n ∈ ([0, 1, 2] : List Int), Bd 41 n := fun n hn => by
      simp only [List.mem_cons, List.not_mem_nil, or_false] at hn
      rcases hn with rfl | rfl | rfl <;> (unfold Bd; decide)
    rcases h with rfl | rfl | rfl
    · exact ⟨rfl, ⟨1, by decide, by decide⟩, fun n hn => bd n (by simp at hn ⊢; omega)⟩
    · exact ⟨rfl, ⟨1, by decide, by decide⟩, fun n hn => bd n (by simp at hn ⊢; omega)⟩
    · exact ⟨rfl, ⟨1, by decide, by decide⟩, fun n hn => bd n (by simp at hn ⊢; omega)⟩
  un := by decide
theorem ptR : PtOk 2 1700 [1, 1] 2 where
  len := rfl
  pos := by decide
  gcd := by decide
  bd := fun n hn => by
    simp only [List.mem_cons, List.not_mem_nil, or_false] at hn
    rcases hn with rfl | rfl <;> exact (show Bd 2 1 by unfold Bd; decide).mono (by decide)
  bb := (show Bd 2 2 by unfold Bd; decide).mono (by decide)
theorem lawR {Z : Zc} (env : Env) : RtW (mlawR Z) env (fun d => d = .bl true) := by
  refine rw_ret (ev_bin (P := fun d => d = .tup [.int (-1), .int 1]) (Q := fun d => d = .tup [.int (-1), .int 1]) ?_ (ev_of (eL_eq rfl) rfl) fun x y hx hy => ?_)
  · refine ev_call (R := fun ds => ds = [wallsD Z 2 [[1, 0, 0], [0, 1, 0], [1, 1, 2]], .int 2, ptD [1, 1] 2]) (AvW.mono (av_cons (P := fun d => d = wallsD Z 2 [[1, 0, 0], [0, 1, 0], [1, 1, 2]]) (ev_call1 (ds := [.int (2 : Nat), .tup (R [[1, 0, 0], [0, 1, 0], [1, 1, 2]])]) rfl (va_walls (Z := Z) setR)) (av_cons (ev_of (P := fun d => d = .int 2) rfl rfl) (av_cons (ev_of (P := fun d => d = ptD [1, 1] 2) rfl rfl) av_nil))) (fun ds hds => ?_)) fun ds hds => ?_
    · obtain ⟨x, _, rfl, rfl, y, _, rfl, rfl, z, _, rfl, rfl, rfl⟩ := hds
      rfl
    · subst hds
      have p2 := ptR.mono (show 1700 ≤ 1800 by decide)
      refine va_of (v_value_at (d := .int 2) (v_is_between (by decide) (by decide)) (over_pt (by decide) p2) (v_value_told (k := 2) setR (row := [1, 1, 2]) rfl (by decide) ptR.bd ptR.bb)) ?_
      rfl
  · subst hx; subst hy
    exact ⟨.bl true, rfl, rfl⟩
end Sh
end Part_E11ud

section Part_E11ue
set_option maxRecDepth 100000
set_option maxHeartbeats 400000
/-! E11ue: the works in a loop. -/
namespace Sh
open PySem L2
theorem nw_lam {XS : List Addr} {iw : Nat} {t : Gx} {mb : Ew → Sw} {m : Ew} {ms : List Ew} {env : Env} {J K : Env → Prop} (h : ∀ a : Addr, ∃ env1, t (.raw (.ref a)) env = some env1 ∧ NxW (mb (wLamC XS iw (.raw (.ref a)) m)) env1 J) (k : ∀ e, J e → NxW (lamGo XS iw t mb ms) e K) : NxW (lamGo XS iw t mb (m :: ms)) env K := ⟨by
  unfold lamGo
  rintro d ⟨a, rfl⟩
  obtain ⟨env1, h1, h2⟩ := h a
  show ((W.ofO (t (.raw (.ref a)) env)).bind _).wp _ _
  refine W.wp_bind.mpr (W.wp_ofO.mpr ⟨env1, h1, ?_⟩)
  refine W.wp_bind.mpr (W.wp_calm.mpr (W.wp_mono h2.h (fun r ⟨e, hr, he⟩ => ?_) fun _ z => z))
  subst hr
  exact (k e he).h⟩
theorem nw_lam0 {XS : List Addr} {iw : Nat} {t : Gx} {mb : Ew → Sw} {env : Env} {K : Env → Prop} (h : K env) : NxW (lamGo XS iw t mb []) env K := ⟨⟨env, rfl, h⟩⟩
end Sh
end Part_E11ue

section Part_E11uf
set_option maxRecDepth 100000
set_option maxHeartbeats 400000
/-! E11uf: one turn of the law. -/
namespace Sh
open PySem L2
theorem nw_ifn {A : Ew} {a b : Sw} {env : Env} {I : Env → Prop} (h : EvW A env (fun d => d = .bl true)) (h2 : NxW b env I) : NxW (wsIf (wNotT (wOf A)) a b) env I := ⟨by
  unfold wsIf wNotT wOf
  refine W.wp_bind.mpr (W.wp_bind.mpr (W.wp_bind.mpr (W.wp_mono h.h (fun d hd => ?_) fun _ z => z)))
  subst hd
  exact h2.h⟩
theorem nw_par3 {f g o : Fw} {i j k : Nat} {env : Env} {R S T : Bool × D → Prop} (h : FvW f env R) (h2 : FvW g env S) (h3 : FvW o env T) (hi : i < env.length ∧ j < env.length ∧ k < env.length) : NxW (wsPar3 i j k f g o) env (fun e => ∃ x y z, R x ∧ S y ∧ T z ∧ e = ((env.set i (some x)).set j (some y)).set k (some z)) :=
  ⟨W.wp_bind.mpr (W.wp_mono h.h (fun x hx => W.wp_bind.mpr (W.wp_mono h2.h (fun y hy => W.wp_bind.mpr (W.wp_mono h3.h (fun z hz => by rw [if_pos hi]; exact ⟨_, rfl, x, y, z, hx, hy, hz, rfl⟩) fun _ z => z)) fun _ z => z)) fun _ z => z)⟩
abbrev LE (Z : Zc) (x0 x2 x3 x4 x5 x6 x7 x8 x9 : Option (Bool × D)) : Env := [x0, some (false, .raw (.ref Z.p)), x2, x3, x4, x5, x6, x7, x8, x9]
theorem turn_word {Z : Zc} {a : Addr} {m : Ew} {x0 x2 x3 x4 x5 x6 x8 : Option (Bool × D)} {ws : List D} {x : Xn} {n t : Str} (hm : m (LE Z x0 x2 x3 x4 x5 x6 (some (true, .lst ws)) x8 (some (false, .raw (.ref a)))) = .raise x) (hn : n ∈ xNames) (hx : x.C = Z.xa n) (ht : F_law_told Z [.exc x.C x.part.toList] = .ret (.str t)) (hl : ws.length < 1000000) :
    wsApp 7 (wCall (F_law_told Z) (wCons (wLamC (XS Z) 9 (.raw (.ref a)) m) wNil)) (LE Z x0 x2 x3 x4 x5 x6 (some (true, .lst ws)) x8 (some (false, .raw (.ref a)))) = .ret (.nx (LE Z x0 x2 x3 x4 x5 x6 (some (true, .lst (ws ++ [.str t]))) x8 (some (false, .raw (.ref a))))) := by
  have e1 : wLamC (XS Z) 9 (.raw (.ref a)) m (LE Z x0 x2 x3 x4 x5 x6 (some (true, .lst ws)) x8 (some (false, .raw (.ref a)))) = .ret (.exc x.C x.part.toList) := by
    unfold wLamC
    rw [hm]
    show (if selfIs (.raw (.ref a)) (some (some (false, .raw (.ref a)))) = true then _ else _) = _
    rw [if_pos (by simp [selfIs])]
    exact caught_ra hn hx
  have e2 := (wcall_va (F := F_law_told Z) (wc1_eq e1) ht)
  generalize wCall (F_law_told Z) (wCons (wLamC (XS Z) 9 (.raw (.ref a)) m) wNil) = A at e2
  show ((A _).bind fun d => if ws.length < 1000000 then _ else _) = _
  rw [e2]
  show (if ws.length < 1000000 then _ else _) = _
  rw [if_pos hl]; rfl
end Sh
end Part_E11uf

section Part_E11ug
set_option maxRecDepth 100000
set_option maxHeartbeats 400000
/-! E11ug: one turn of the law, put together. -/
namespace Sh
open PySem L2
def IL (Z : Zc) (env : Env) : Prop := ∃ x0 x2 x3 x4 x5 x6 x7 x8 x9, env = LE Z x0 x2 x3 x4 x5 x6 x7 x8 x9
theorem over_non {Z : Zc} {size : Nat} : Fis_over_row Z [.int size, .non] = some (.bl false) := by
  obtain ⟨k, h1, _, h3, _⟩ := v_judge (Z := Z) (size := size) (d := .non) (nice_other rfl fun x y => by simp)
  cases k with
  | false => exact h1
  | true =>
    obtain ⟨ns, b, e, _⟩ := h3 rfl
    cases e
theorem pt_zero {size : Nat} (h1 : 1 ≤ size) (h4 : size ≤ 4) : PtOk size 1800 (List.replicate size 0) 1 where
  len := by simp
  pos := by decide
  gcd := by
    have : size = 1 ∨ size = 2 ∨ size = 3 ∨ size = 4 := by omega
    rcases this with rfl | rfl | rfl | rfl <;> decide
  bd := fun n hn => by
    rw [List.eq_of_mem_replicate hn]
    exact (show Bd 1 0 by unfold Bd; decide).mono (by decide)
  bb := (show Bd 2 1 by unfold Bd; decide).mono (by decide)
theorem zero_eq {size : Nat} {env : Env} (h1 : 1 ≤ size) (h4 : size ≤ 4) (h : eVar 3 env = some (.int size)) : eTup (aCons (eBin sMulA (eTup (aCons (eC (.int 0)) aNil)) (eVar 3)) (aCons (eC (.int 1)) aNil)) env = some (ptD (List.replicate size 0) 1) := by
  refine tup2_eq ((bin_eq (d := .tup [.int 0]) rfl h).trans ?_) rfl
  have : size = 1 ∨ size = 2 ∨ size = 3 ∨ size = 4 := by omega
  rcases this with rfl | rfl | rfl | rfl <;> rfl
theorem lawB {Z : Zc} (hn : (XS Z).Nodup) {env : Env} (h : IL Z env) : NxW (mlawB Z) env (IL Z) := by
  obtain ⟨x0, x2, x3, x4, x5, x6, x7, x8, x9, rfl⟩ := h
  refine nw_seq (I := fun e => ∃ size rows, SetOk size rows ∧ e = LE Z x0 x2 (some (false, .int (size : Nat))) (some (false, .tup (R rows))) x5 x6 x7 x8 x9) (rw_asg (ev_call1 (ds := [.raw (.ref Z.p), .lst [.int 10, .int 10, .int 10, .int 10]]) rfl va_drawn_set) fun d ⟨size, rows, hd, ok⟩ => ?_) fun e ⟨size, rows, ok, he⟩ => ?_
  · subst hd
    exact ⟨_, rfl, size, rows, ok, rfl⟩
  subst he
  refine nw_seq (I := fun e => e = LE Z x0 x2 (some (false, .int (size : Nat))) (some (false, .tup (R rows))) x5 x6 x7 x8 x9) (nw_ifn (ev_call1 (ds := [.raw (.ref Z.p), .int size, .tup (R rows)]) rfl (va_law_right hn ok)) (nw_nil rfl)) fun e he => ?_
  subst he
  refine nw_seq (I := fun e => ∃ d, isWd Z.WC d = some (.bl false) ∧ e = LE Z x0 x2 (some (false, .int (size : Nat))) (some (false, .tup (R rows))) (some (false, d)) (some (false, wallsD Z size rows)) (some (true, .lst [])) x8 x9)
    (NxW.mono (nw_par3 (T := fun x => x = (true, .lst [])) (fv_pl (ev_call1 (ds := [.raw (.ref Z.p)]) rfl va_no_set)) (fv_pl (ev_call1 (ds := [.int size, .tup (R rows)]) rfl (va_walls ok))) ⟨rfl⟩ ⟨by show 5 < 10; decide, by show 6 < 10; decide, by show 7 < 10; decide⟩) fun e ⟨x, y, z, ⟨d, hd, hx⟩, ⟨w, hw, hy⟩, hz, he⟩ => ?_) fun e ⟨d, hd, he⟩ => ?_
  · subst hx; subst hw; subst hy; subst hz
    exact ⟨d, hd, he⟩
  subst he
  have hm := ok.many
  have lR : (R rows).length = rows.length := by unfold R; rw [List.length_map]
  refine nw_seq (I := fun e => ∃ bad, Fis_between Z [bad, .int 0, .int ((rows.length : Int) - 1)] = some (.bl false) ∧ e = LE Z x0 x2 (some (false, .int (size : Nat))) (some (false, .tup (R rows))) (some (false, d)) (some (false, wallsD Z size rows)) (some (true, .lst [])) (some (false, bad)) x9)
    (NxW.mono (nw_set (ev_call1 (ds := [.raw (.ref Z.p), .lst [.non, .int (-1), .int ((R rows).length : Nat), .bl true, .str "0", .int ((((R rows).length : Nat) : Int) + 5)]]) rfl (va_pick rfl (by simp) (by simp))) (by show 8 < 10; decide)) fun e ⟨bad, hb, he⟩ => ⟨bad, ?_, he⟩) fun e ⟨bad, hb, he⟩ => ?_
  · rw [lR] at hb
    simp only [List.mem_cons, List.not_mem_nil, or_false] at hb
    rcases hb with rfl | rfl | rfl | rfl | rfl | rfl
    · exact v_is_between0 rfl rfl
    · exact v_is_betweenN.trans (by simp)
    · exact v_is_betweenN.trans (by simp; omega)
    · exact v_is_between0 rfl rfl
    · exact v_is_between0 rfl rfl
    · exact v_is_betweenN.trans (by simp; omega)
  subst he
  have oz := over_pt (Z := Z) ok.hi (pt_zero ok.lo ok.hi)
  refine nw_seq (I := fun e => ∃ x9, e = LE Z x0 x2 (some (false, .int (size : Nat))) (some (false, .tup (R rows))) (some (false, d)) (some (false, wallsD Z size rows)) (some (true, .lst [.str "walls None", .str "walls None", .str "walls None", .str "walls None", .str "number 'place'", .str "point", .str "point"])) (some (false, bad)) x9) ?_ fun e ⟨x9, he⟩ => ?_
  · refine nw_lam (J := fun e => ∃ x9, e = LE Z x0 x2 (some (false, .int (size : Nat))) (some (false, .tup (R rows))) (some (false, d)) (some (false, wallsD Z size rows)) (some (true, .lst [.str "walls None"])) (some (false, bad)) x9) (fun a => ⟨_, rfl, nw_of (turn_word (n := "BadWalls") (t := "walls None") (wcall_va (aL_eq rfl) (v_is_point0 hd)) (by decide) rfl (v_told_walls hn) (by decide)) ⟨_, rfl⟩⟩) fun e ⟨x9, he⟩ => ?_
    subst he
    refine nw_lam (J := fun e => ∃ x9, e = LE Z x0 x2 (some (false, .int (size : Nat))) (some (false, .tup (R rows))) (some (false, d)) (some (false, wallsD Z size rows)) (some (true, .lst [.str "walls None", .str "walls None"])) (some (false, bad)) x9) (fun a => ⟨_, rfl, nw_of (turn_word (n := "BadWalls") (t := "walls None") (wcall_va (aL_eq rfl) (v_signs_at0 hd)) (by decide) rfl (v_told_walls hn) (by decide)) ⟨_, rfl⟩⟩) fun e ⟨x9, he⟩ => ?_
    subst he
    refine nw_lam (J := fun e => ∃ x9, e = LE Z x0 x2 (some (false, .int (size : Nat))) (some (false, .tup (R rows))) (some (false, d)) (some (false, wallsD Z size rows)) (some (true, .lst [.str "walls None", .str "walls None", .str "walls None"])) (some (false, bad)) x9) (fun a => ⟨_, rfl, nw_of (turn_word (n := "BadWalls") (t := "walls None") (wcall_va (aL_eq rfl) (v_value_at0 hd)) (by decide) rfl (v_told_walls hn) (by decide)) ⟨_, rfl⟩⟩) fun e ⟨x9, he⟩ => ?_
    subst he
    refine nw_lam (J := fun e => ∃ x9, e = LE Z x0 x2 (some (false, .int (size : Nat))) (some (false, .tup (R rows))) (some (false, d)) (some (false, wallsD Z size rows)) (some (true, .lst [.str "walls None", .str "walls None", .str "walls None", .str "walls None"])) (some (false, bad)) x9) (fun a => ⟨_, rfl, nw_of (turn_word (n := "BadWalls") (t := "walls None") (wcall_va (aL_eq rfl) (v_half_way0 hd)) (by decide) rfl (v_told_walls hn) (by decide)) ⟨_, rfl⟩⟩) fun e ⟨x9, he⟩ => ?_
    subst he
    refine nw_lam (J := fun e => ∃ x9, e = LE Z x0 x2 (some (false, .int (size : Nat))) (some (false, .tup (R rows))) (some (false, d)) (some (false, wallsD Z size rows)) (some (true, .lst [.str "walls None", .str "walls None", .str "walls None", .str "walls None", .str "number 'place'"])) (some (false, bad)) x9) (fun a => ⟨_, rfl, nw_of (turn_word (n := "BadNumber") (t := "number 'place'") (wcall_va (aL_eq rfl) (v_value_at1 hb)) (by decide) rfl (v_told_number hn) (by decide)) ⟨_, rfl⟩⟩) fun e ⟨x9, he⟩ => ?_
    subst he
    refine nw_lam (J := fun e => ∃ x9, e = LE Z x0 x2 (some (false, .int (size : Nat))) (some (false, .tup (R rows))) (some (false, d)) (some (false, wallsD Z size rows)) (some (true, .lst [.str "walls None", .str "walls None", .str "walls None", .str "walls None", .str "number 'place'", .str "point"])) (some (false, bad)) x9) (fun a => ⟨_, rfl, nw_of (turn_word (n := "BadPoint") (t := "point") (wcall_va (aL_eq (a3_eq rfl (zero_eq ok.lo ok.hi rfl) rfl)) (v_half_way2 oz over_non)) (by decide) rfl (v_told_point hn) (by decide)) ⟨_, rfl⟩⟩) fun e ⟨x9, he⟩ => ?_
    subst he
    refine nw_lam (J := fun e => ∃ x9, e = LE Z x0 x2 (some (false, .int (size : Nat))) (some (false, .tup (R rows))) (some (false, d)) (some (false, wallsD Z size rows)) (some (true, .lst [.str "walls None", .str "walls None", .str "walls None", .str "walls None", .str "number 'place'", .str "point", .str "point"])) (some (false, bad)) x9) (fun a => ⟨_, rfl, nw_of (turn_word (n := "BadPoint") (t := "point") (wcall_va (aL_eq (a3_eq rfl rfl (zero_eq ok.lo ok.hi rfl))) (v_half_way1 over_non)) (by decide) rfl (v_told_point hn) (by decide)) ⟨_, rfl⟩⟩) fun e ⟨x9, he⟩ => ?_
    subst he
    exact nw_lam0 ⟨_, rfl⟩
  subst he
  have words : sNe (.lst [.str "walls None", .str "walls None", .str "walls None", .str "walls None", .str "number 'place'", .str "point", .str "point"]) (.lst [.str "walls None", .str "walls None", .str "walls None", .str "walls None", .str "number 'place'", .str "point", .str "point"]) = some (.bl false) := by kernel_rfl
  refine nw_seq (I := fun e => e = LE Z x0 x2 (some (false, .int (size : Nat))) (some (false, .tup (R rows))) (some (false, d)) (some (false, wallsD Z size rows)) (some (true, .lst [.str "walls None", .str "walls None", .str "walls None", .str "walls None", .str "number 'place'", .str "point", .str "point"])) (some (false, bad)) x9) (nw_of ((wif_f (tL_eq (bbin_eq rfl rfl words))).trans rfl) rfl) fun e he => ?_
  subst he
  have c : tL (bBin sNe (ePk 4) (eTup aNil)) (LE Z x0 x2 (some (false, .int (size : Nat))) (some (false, .tup (R rows))) (some (false, d)) (some (false, wallsD Z size rows)) (some (true, .lst [.str "walls None", .str "walls None", .str "walls None", .str "walls None", .str "number 'place'", .str "point", .str "point"])) (some (false, bad)) x9) = .ret (decide (rows ≠ [])) := tL_eq (bbin_eq rfl rfl ne_rows_nil)
  have fin : IL Z (LE Z x0 x2 (some (false, .int (size : Nat))) (some (false, .tup (R rows))) (some (false, d)) (some (false, wallsD Z size rows)) (some (true, .lst [.str "walls None", .str "walls None", .str "walls None", .str "walls None", .str "number 'place'", .str "point", .str "point"])) (some (false, bad)) x9) := ⟨_, _, _, _, _, _, _, _, _, rfl⟩
  by_cases h0 : rows = []
  · rw [decide_eq_false (by simpa using h0)] at c
    exact nw_of ((wif_f (wand_f c)).trans rfl) fin
  · rw [decide_eq_true h0] at c
    have hl : 1 ≤ rows.length := List.length_pos_iff.mpr h0
    have e1 : eBin (sInt fSub) (eCB cLen (aCons (eVar 4) aNil)) (eC (.int 1)) (LE Z x0 x2 (some (false, .int (size : Nat))) (some (false, .tup (R rows))) (some (false, d)) (some (false, wallsD Z size rows)) (some (true, .lst [.str "walls None", .str "walls None", .str "walls None", .str "walls None", .str "number 'place'", .str "point", .str "point"])) (some (false, bad)) x9) = some (.int ((rows.length : Int) - 1)) := by
      refine (bin_eq (d := .int ((R rows).length : Nat)) rfl rfl).trans ?_
      rw [lR]; rfl
    exact nw_of ((wif_f ((wand_t c).trans (told_point hn (wcall_va (aL_eq (a3_eq rfl e1 rfl)) (v_value_at2 (v_is_between (by omega) (Int.le_refl _)) over_non))))).trans rfl) fin
end Sh
end Part_E11ug

section Part_WT
set_option maxRecDepth 100000
set_option maxHeartbeats 2000000
/-! WT: a for loop behind its iterator; the law's own body. -/
namespace Sh
open PySem PySem.Spec PyProof.Rows L2
theorem forW_tail {K : PySem.W.Frag} {c : Ct} {E : XK} {H0 G0 G1 H1 : Hp} {env : Env} {σ : L2.St} {J : It} {ds : List D} {t : Gx} {b : Sw} {vs : List Nat} {DE : Ends} (rs : RsW K c H0 G0 env σ G1 H1) (wk : Walks K J ds G1) (w : (forGoW t b ds env).wp (postW K c H0 G0 G1 DE) (XcK K c H0 E)) :
    ∃ W : Nat → Nat → L2.St → Hp → Prop, (∃ m, W 0 m σ H1) ∧ ∀ i m σ H, W i m σ H → (J.stop i H ∧ DE.nx σ H) ∨ (J.go i H ∧ ∃ N : L2.St → Hp → Prop, (∀ σ' H', N σ' H' → ∃ m', m' < m ∧ W (i + 1) m' σ' H') ∧
      ∀ x H', J.yld i H x H' → tG K vs t x σ H' fun σ2 H2 => tSw K c E b { DE with nx := N, ct := N, bk := DE.nx } σ2 H2) := by
  refine ⟨fun i m σ' H' => m = ds.length - i ∧ i ≤ ds.length ∧ ∃ (env' : Env) (G' : Hp), RsW K c H0 G0 env' σ' G' H' ∧ Same G1 G' ∧ (forGoW t b (ds.drop i) env').wp (postW K c H0 G0 G' DE) (XcK K c H0 E),
    ⟨ds.length, by simp, Nat.zero_le _, env, G1, rs, Same.refl _, by rw [List.drop_zero]; exact w⟩, ?_⟩
  rintro i m σ' H' ⟨rfl, hi, env', G', rs', s', hgo⟩
  obtain ⟨wstop, wgo⟩ := wk i G' H' (fun b o q _ => s' b o q) rs'.rl.rl.gh
  by_cases hlt : i < ds.length
  · obtain ⟨go, yl⟩ := wgo ds[i] (by simp [hlt])
    refine .inr ⟨go, fun σ2 H2 => i + 1 ≤ ds.length ∧ ∃ (env2 : Env) (G2 : Hp), RsW K c H0 G0 env2 σ2 G2 H2 ∧ Same G1 G2 ∧ (forGoW t b (ds.drop (i + 1)) env2).wp (postW K c H0 G0 G2 DE) (XcK K c H0 E),
      fun σ2 H2 ⟨p1, p2⟩ => ⟨ds.length - (i + 1), by omega, rfl, p1, p2⟩, fun x H2 hy => ?_⟩
    obtain ⟨G2, g2, r2⟩ := yl x H2 hy
    rw [List.drop_eq_getElem_cons hlt] at hgo
    obtain ⟨env1, t1, hgo⟩ := W.wp_ofO.mp (W.wp_bind.mp hgo)
    have hgo := W.wp_bind.mp hgo
    have w2 := g2.w (c := c) rs'.rl.nt
    have rs2 := rs'.grow w2
    refine ⟨_, env', untbl G2, _, env1, rs2.rl.rl, r2.untbl _ _, t1, fun σ3 rl3 _ => ?_⟩
    have rs3 : RsW K c H0 G0 env1 σ3 (untbl G2) H2 := rs2.re rl3
    have s2 := s'.trans w2.g
    refine ⟨H0, G0, env1, untbl G2, rs3, W.wp_mono hgo (fun r hr => ?_) fun _ z => z⟩
    cases r with
    | nx e => exact fun σ4 G4 H4 rs4 s4 => ⟨hlt, e, G4, rs4, s2.trans s4, W.wp_mono hr (fun r h => h.mono (w2.g.trans s4)) fun _ z => z⟩
    | ct e => exact fun σ4 G4 H4 rs4 s4 => ⟨hlt, e, G4, rs4, s2.trans s4, W.wp_mono hr (fun r h => h.mono (w2.g.trans s4)) fun _ z => z⟩
    | bk e =>
      have hr : postW K c H0 G0 G' DE (.nx e) := hr
      exact fun σ4 G4 H4 rs4 s4 => hr σ4 G4 H4 rs4 (w2.g.trans s4)
    | rt d => exact hr
  · rw [List.drop_eq_nil_of_le (by omega)] at hgo
    have hgo : postW K c H0 G0 G' DE (.nx env') := hgo
    exact .inl ⟨wstop (by omega), hgo σ' G' H' rs' (Same.refl _)⟩
/-- what is known where a law's body begins to draw: its script, the draws' dict -/
theorem law_start {K : PySem.W.Frag} {p l q a : Addr} {T : List (Addr × Str)} {H : Hp} {N : Nat} (d : Dr H p l q) (t : LamX.Tabs T H) (hN : 2 ≤ N) :
    RsW K (ctD p l q T) H (fun _ => none) ((some (false, .raw (.ref a))) :: (some (false, .raw (.ref p))) :: List.replicate (N - 2) none) (some (.ref a) :: some (.ref p) :: List.replicate (N - 2) none) (fun _ => none) H := by
  have sm : Same (fun _ => none : Hp) H := fun b o e => by cases e
  obtain ⟨r, tt, ls, cs, k1, k2, k3⟩ := d.ex
  refine ⟨⟨⟨sm, by simp, fun i e he => ?_, fun i e he => ?_, fun i j e1 e2 b he _ _ _ => ?_⟩, ⟨d, t⟩, fun _ _ => rfl, fun b hb => ?_, fun b hb hf => ?_, fun b o e => by cases e⟩, GrW.refl sm⟩
  · match i, he with
    | 0, he => cases he; exact ⟨_, rfl, .raw _⟩
    | 1, he => cases he; exact ⟨_, rfl, .raw _⟩
    | i + 2, he =>
      have he : (List.replicate (N - 2) (none : Option (Bool × D)))[i]? = some (some (false, e)) := he
      rw [List.getElem?_replicate] at he
      split at he <;> cases he
  · match i, he with
    | 0, he => cases he
    | 1, he => cases he
    | i + 2, he =>
      have he : (List.replicate (N - 2) (none : Option (Bool × D)))[i]? = some (some (true, e)) := he
      rw [List.getElem?_replicate] at he
      split at he <;> cases he
  · match i, he with
    | 0, he => cases he
    | 1, he => cases he
    | i + 2, he =>
      have he : (List.replicate (N - 2) (none : Option (Bool × D)))[i]? = some (some (true, e1)) := he
      rw [List.getElem?_replicate] at he
      split at he <;> cases he
  · rcases hb with hb | hb | hb
    · exact ⟨_, by rw [hb]; exact k1, fun _ z => by cases z⟩
    · exact ⟨_, by rw [hb]; exact k2, nt_lst⟩
    · exact ⟨_, by rw [hb]; exact k3, nt_lst⟩
  · refine hb ?_
    rcases hf with hb | hb | hb
    · exact ⟨_, by rw [hb]; exact k1, fun _ z => by cases z⟩
    · exact ⟨_, by rw [hb]; exact k2, nt_lst⟩
    · exact ⟨_, by rw [hb]; exact k3, nt_lst⟩
end Sh
end Part_WT

section Part_E11r
set_option maxRecDepth 100000
set_option maxHeartbeats 4000000
/-! E11r: k11's facts gathered, the law's own run (written by mk11r.py). -/
namespace Sh
open PySem L2
section
variable {K : PySem.W.Frag} {mg : Str → Option Value} {h : Heap} {w : World}
theorem fa_in {f : He.Fa} (i : Nat) (e : fa11[i]? = some f := by rfl) : f ∈ fa11 := List.mem_of_getElem? e
theorem fn_in {f : He.DefD} (i : Nat) (e : fn11[i]? = some f := by rfl) : f ∈ fn11 := List.mem_of_getElem? e
theorem g_is_number (Y : K.In h) (G : h.Ns mainGlobals mg) (c : He.SaysD fa11 fn11 K) : mg "is_number" = some (.ref (He.ga K "is_number")) := He.glo_ok Y G (c.facts (f := .glo "is_number") (fa_in 0))
theorem g_is_between (Y : K.In h) (G : h.Ns mainGlobals mg) (c : He.SaysD fa11 fn11 K) : mg "is_between" = some (.ref (He.ga K "is_between")) := He.glo_ok Y G (c.facts (f := .glo "is_between") (fa_in 1))
theorem g_is_list (Y : K.In h) (G : h.Ns mainGlobals mg) (c : He.SaysD fa11 fn11 K) : mg "is_list" = some (.ref (He.ga K "is_list")) := He.glo_ok Y G (c.facts (f := .glo "is_list") (fa_in 2))
theorem g_is_tuple (Y : K.In h) (G : h.Ns mainGlobals mg) (c : He.SaysD fa11 fn11 K) : mg "is_tuple" = some (.ref (He.ga K "is_tuple")) := He.glo_ok Y G (c.facts (f := .glo "is_tuple") (fa_in 3))
theorem g_is_row (Y : K.In h) (G : h.Ns mainGlobals mg) (c : He.SaysD fa11 fn11 K) : mg "is_row" = some (.ref (He.ga K "is_row")) := He.glo_ok Y G (c.facts (f := .glo "is_row") (fa_in 4))
theorem g_is_same_row (Y : K.In h) (G : h.Ns mainGlobals mg) (c : He.SaysD fa11 fn11 K) : mg "is_same_row" = some (.ref (He.ga K "is_same_row")) := He.glo_ok Y G (c.facts (f := .glo "is_same_row") (fa_in 5))
theorem g_common_part (Y : K.In h) (G : h.Ns mainGlobals mg) (c : He.SaysD fa11 fn11 K) : mg "common_part" = some (.ref (He.ga K "common_part")) := He.glo_ok Y G (c.facts (f := .glo "common_part") (fa_in 6))
theorem g_is_set (Y : K.In h) (G : h.Ns mainGlobals mg) (c : He.SaysD fa11 fn11 K) : mg "is_set" = some (.ref (He.ga K "is_set")) := He.glo_ok Y G (c.facts (f := .glo "is_set") (fa_in 7))
theorem g_row_times (Y : K.In h) (G : h.Ns mainGlobals mg) (c : He.SaysD fa11 fn11 K) : mg "row_times" = some (.ref (He.ga K "row_times")) := He.glo_ok Y G (c.facts (f := .glo "row_times") (fa_in 8))
theorem g_is_over_row (Y : K.In h) (G : h.Ns mainGlobals mg) (c : He.SaysD fa11 fn11 K) : mg "is_over_row" = some (.ref (He.ga K "is_over_row")) := He.glo_ok Y G (c.facts (f := .glo "is_over_row") (fa_in 9))
theorem g_fraction_told (Y : K.In h) (G : h.Ns mainGlobals mg) (c : He.SaysD fa11 fn11 K) : mg "fraction_told" = some (.ref (He.ga K "fraction_told")) := He.glo_ok Y G (c.facts (f := .glo "fraction_told") (fa_in 10))
theorem g_point_told (Y : K.In h) (G : h.Ns mainGlobals mg) (c : He.SaysD fa11 fn11 K) : mg "point_told" = some (.ref (He.ga K "point_told")) := He.glo_ok Y G (c.facts (f := .glo "point_told") (fa_in 11))
theorem g_sign_of (Y : K.In h) (G : h.Ns mainGlobals mg) (c : He.SaysD fa11 fn11 K) : mg "sign_of" = some (.ref (He.ga K "sign_of")) := He.glo_ok Y G (c.facts (f := .glo "sign_of") (fa_in 12))
theorem g_point_signs (Y : K.In h) (G : h.Ns mainGlobals mg) (c : He.SaysD fa11 fn11 K) : mg "point_signs" = some (.ref (He.ga K "point_signs")) := He.glo_ok Y G (c.facts (f := .glo "point_signs") (fa_in 13))
theorem g_value_told (Y : K.In h) (G : h.Ns mainGlobals mg) (c : He.SaysD fa11 fn11 K) : mg "value_told" = some (.ref (He.ga K "value_told")) := He.glo_ok Y G (c.facts (f := .glo "value_told") (fa_in 14))
theorem g__law_says (Y : K.In h) (G : h.Ns mainGlobals mg) (c : He.SaysD fa11 fn11 K) : mg "_law_says" = some (.ref (He.ga K "_law_says")) := He.glo_ok Y G (c.facts (f := .glo "_law_says") (fa_in 15))
theorem g__law_is_number (Y : K.In h) (G : h.Ns mainGlobals mg) (c : He.SaysD fa11 fn11 K) : mg "_law_is_number" = some (.ref (He.ga K "_law_is_number")) := He.glo_ok Y G (c.facts (f := .glo "_law_is_number") (fa_in 16))
theorem g__law_is_row (Y : K.In h) (G : h.Ns mainGlobals mg) (c : He.SaysD fa11 fn11 K) : mg "_law_is_row" = some (.ref (He.ga K "_law_is_row")) := He.glo_ok Y G (c.facts (f := .glo "_law_is_row") (fa_in 17))
theorem g__law_common (Y : K.In h) (G : h.Ns mainGlobals mg) (c : He.SaysD fa11 fn11 K) : mg "_law_common" = some (.ref (He.ga K "_law_common")) := He.glo_ok Y G (c.facts (f := .glo "_law_common") (fa_in 18))
theorem g__law_times (Y : K.In h) (G : h.Ns mainGlobals mg) (c : He.SaysD fa11 fn11 K) : mg "_law_times" = some (.ref (He.ga K "_law_times")) := He.glo_ok Y G (c.facts (f := .glo "_law_times") (fa_in 19))
theorem g__law_sign (Y : K.In h) (G : h.Ns mainGlobals mg) (c : He.SaysD fa11 fn11 K) : mg "_law_sign" = some (.ref (He.ga K "_law_sign")) := He.glo_ok Y G (c.facts (f := .glo "_law_sign") (fa_in 20))
theorem g__law_first (Y : K.In h) (G : h.Ns mainGlobals mg) (c : He.SaysD fa11 fn11 K) : mg "_law_first" = some (.ref (He.ga K "_law_first")) := He.glo_ok Y G (c.facts (f := .glo "_law_first") (fa_in 21))
theorem g__law_least (Y : K.In h) (G : h.Ns mainGlobals mg) (c : He.SaysD fa11 fn11 K) : mg "_law_least" = some (.ref (He.ga K "_law_least")) := He.glo_ok Y G (c.facts (f := .glo "_law_least") (fa_in 22))
theorem g__law_point (Y : K.In h) (G : h.Ns mainGlobals mg) (c : He.SaysD fa11 fn11 K) : mg "_law_point" = some (.ref (He.ga K "_law_point")) := He.glo_ok Y G (c.facts (f := .glo "_law_point") (fa_in 23))
theorem g__law_value (Y : K.In h) (G : h.Ns mainGlobals mg) (c : He.SaysD fa11 fn11 K) : mg "_law_value" = some (.ref (He.ga K "_law_value")) := He.glo_ok Y G (c.facts (f := .glo "_law_value") (fa_in 24))
theorem g__law_at (Y : K.In h) (G : h.Ns mainGlobals mg) (c : He.SaysD fa11 fn11 K) : mg "_law_at" = some (.ref (He.ga K "_law_at")) := He.glo_ok Y G (c.facts (f := .glo "_law_at") (fa_in 25))
theorem g__law_is_point (Y : K.In h) (G : h.Ns mainGlobals mg) (c : He.SaysD fa11 fn11 K) : mg "_law_is_point" = some (.ref (He.ga K "_law_is_point")) := He.glo_ok Y G (c.facts (f := .glo "_law_is_point") (fa_in 26))
theorem g__law_on_row (Y : K.In h) (G : h.Ns mainGlobals mg) (c : He.SaysD fa11 fn11 K) : mg "_law_on_row" = some (.ref (He.ga K "_law_on_row")) := He.glo_ok Y G (c.facts (f := .glo "_law_on_row") (fa_in 27))
theorem g__law_fraction (Y : K.In h) (G : h.Ns mainGlobals mg) (c : He.SaysD fa11 fn11 K) : mg "_law_fraction" = some (.ref (He.ga K "_law_fraction")) := He.glo_ok Y G (c.facts (f := .glo "_law_fraction") (fa_in 28))
theorem g__law_half (Y : K.In h) (G : h.Ns mainGlobals mg) (c : He.SaysD fa11 fn11 K) : mg "_law_half" = some (.ref (He.ga K "_law_half")) := He.glo_ok Y G (c.facts (f := .glo "_law_half") (fa_in 29))
theorem g__law_between (Y : K.In h) (G : h.Ns mainGlobals mg) (c : He.SaysD fa11 fn11 K) : mg "_law_between" = some (.ref (He.ga K "_law_between")) := He.glo_ok Y G (c.facts (f := .glo "_law_between") (fa_in 30))
theorem g_need_between (Y : K.In h) (G : h.Ns mainGlobals mg) (c : He.SaysD fa11 fn11 K) : mg "need_between" = some (.ref (He.ga K "need_between")) := He.glo_ok Y G (c.facts (f := .glo "need_between") (fa_in 31))
theorem g_need_set (Y : K.In h) (G : h.Ns mainGlobals mg) (c : He.SaysD fa11 fn11 K) : mg "need_set" = some (.ref (He.ga K "need_set")) := He.glo_ok Y G (c.facts (f := .glo "need_set") (fa_in 32))
theorem g_need_point (Y : K.In h) (G : h.Ns mainGlobals mg) (c : He.SaysD fa11 fn11 K) : mg "need_point" = some (.ref (He.ga K "need_point")) := He.glo_ok Y G (c.facts (f := .glo "need_point") (fa_in 33))
theorem g_need_place (Y : K.In h) (G : h.Ns mainGlobals mg) (c : He.SaysD fa11 fn11 K) : mg "need_place" = some (.ref (He.ga K "need_place")) := He.glo_ok Y G (c.facts (f := .glo "need_place") (fa_in 34))
theorem g_is_point (Y : K.In h) (G : h.Ns mainGlobals mg) (c : He.SaysD fa11 fn11 K) : mg "is_point" = some (.ref (He.ga K "is_point")) := He.glo_ok Y G (c.facts (f := .glo "is_point") (fa_in 35))
theorem g_signs_at (Y : K.In h) (G : h.Ns mainGlobals mg) (c : He.SaysD fa11 fn11 K) : mg "signs_at" = some (.ref (He.ga K "signs_at")) := He.glo_ok Y G (c.facts (f := .glo "signs_at") (fa_in 36))
theorem g_value_at (Y : K.In h) (G : h.Ns mainGlobals mg) (c : He.SaysD fa11 fn11 K) : mg "value_at" = some (.ref (He.ga K "value_at")) := He.glo_ok Y G (c.facts (f := .glo "value_at") (fa_in 37))
theorem g_half_way (Y : K.In h) (G : h.Ns mainGlobals mg) (c : He.SaysD fa11 fn11 K) : mg "half_way" = some (.ref (He.ga K "half_way")) := He.glo_ok Y G (c.facts (f := .glo "half_way") (fa_in 38))
theorem g__law_row (Y : K.In h) (G : h.Ns mainGlobals mg) (c : He.SaysD fa11 fn11 K) : mg "_law_row" = some (.ref (He.ga K "_law_row")) := He.glo_ok Y G (c.facts (f := .glo "_law_row") (fa_in 39))
theorem g__law_drawn_set (Y : K.In h) (G : h.Ns mainGlobals mg) (c : He.SaysD fa11 fn11 K) : mg "_law_drawn_set" = some (.ref (He.ga K "_law_drawn_set")) := He.glo_ok Y G (c.facts (f := .glo "_law_drawn_set") (fa_in 40))
theorem g__law_some_point (Y : K.In h) (G : h.Ns mainGlobals mg) (c : He.SaysD fa11 fn11 K) : mg "_law_some_point" = some (.ref (He.ga K "_law_some_point")) := He.glo_ok Y G (c.facts (f := .glo "_law_some_point") (fa_in 41))
theorem g__law_no_set (Y : K.In h) (G : h.Ns mainGlobals mg) (c : He.SaysD fa11 fn11 K) : mg "_law_no_set" = some (.ref (He.ga K "_law_no_set")) := He.glo_ok Y G (c.facts (f := .glo "_law_no_set") (fa_in 42))
theorem g__law_near_point (Y : K.In h) (G : h.Ns mainGlobals mg) (c : He.SaysD fa11 fn11 K) : mg "_law_near_point" = some (.ref (He.ga K "_law_near_point")) := He.glo_ok Y G (c.facts (f := .glo "_law_near_point") (fa_in 43))
theorem g__law_told (Y : K.In h) (G : h.Ns mainGlobals mg) (c : He.SaysD fa11 fn11 K) : mg "_law_told" = some (.ref (He.ga K "_law_told")) := He.glo_ok Y G (c.facts (f := .glo "_law_told") (fa_in 44))
theorem g__law_right (Y : K.In h) (G : h.Ns mainGlobals mg) (c : He.SaysD fa11 fn11 K) : mg "_law_right" = some (.ref (He.ga K "_law_right")) := He.glo_ok Y G (c.facts (f := .glo "_law_right") (fa_in 45))
theorem g__law_begun (Y : K.In h) (G : h.Ns mainGlobals mg) (c : He.SaysD fa11 fn11 K) : mg "_law_begun" = some (.ref (He.ga K "_law_begun")) := He.glo_ok Y G (c.facts (f := .glo "_law_begun") (fa_in 46))
theorem g__law_mixed (Y : K.In h) (G : h.Ns mainGlobals mg) (c : He.SaysD fa11 fn11 K) : mg "_law_mixed" = some (.ref (He.ga K "_law_mixed")) := He.glo_ok Y G (c.facts (f := .glo "_law_mixed") (fa_in 47))
theorem g__law_take (Y : K.In h) (G : h.Ns mainGlobals mg) (c : He.SaysD fa11 fn11 K) : mg "_law_take" = some (.ref (He.ga K "_law_take")) := He.glo_ok Y G (c.facts (f := .glo "_law_take") (fa_in 48))
theorem g__law_pick (Y : K.In h) (G : h.Ns mainGlobals mg) (c : He.SaysD fa11 fn11 K) : mg "_law_pick" = some (.ref (He.ga K "_law_pick")) := He.glo_ok Y G (c.facts (f := .glo "_law_pick") (fa_in 49))
theorem g__law_caught (Y : K.In h) (G : h.Ns mainGlobals mg) (c : He.SaysD fa11 fn11 K) : mg "_law_caught" = some (.ref (He.ga K "_law_caught")) := He.glo_ok Y G (c.facts (f := .glo "_law_caught") (fa_in 50))
theorem g_law (Y : K.In h) (G : h.Ns mainGlobals mg) (c : He.SaysD fa11 fn11 K) : mg "law" = some (.ref (He.ga K "law")) := He.glo_ok Y G (c.facts (f := .glo "law") (fa_in 51))
theorem g_Walls (Y : K.In h) (G : h.Ns mainGlobals mg) (c : He.SaysD fa11 fn11 K) : mg "Walls" = some (.ref (He.ga K "Walls")) := He.glo_ok Y G (c.facts (f := .glo "Walls") (fa_in 52))
theorem g_WallError (Y : K.In h) (G : h.Ns mainGlobals mg) (c : He.SaysD fa11 fn11 K) : mg "WallError" = some (.ref (He.ga K "WallError")) := He.glo_ok Y G (c.facts (f := .glo "WallError") (fa_in 53))
theorem g_BadNumber (Y : K.In h) (G : h.Ns mainGlobals mg) (c : He.SaysD fa11 fn11 K) : mg "BadNumber" = some (.ref (He.ga K "BadNumber")) := He.glo_ok Y G (c.facts (f := .glo "BadNumber") (fa_in 54))
theorem g_BadSigns (Y : K.In h) (G : h.Ns mainGlobals mg) (c : He.SaysD fa11 fn11 K) : mg "BadSigns" = some (.ref (He.ga K "BadSigns")) := He.glo_ok Y G (c.facts (f := .glo "BadSigns") (fa_in 55))
theorem g_BadRoom (Y : K.In h) (G : h.Ns mainGlobals mg) (c : He.SaysD fa11 fn11 K) : mg "BadRoom" = some (.ref (He.ga K "BadRoom")) := He.glo_ok Y G (c.facts (f := .glo "BadRoom") (fa_in 56))
theorem g_BadPoint (Y : K.In h) (G : h.Ns mainGlobals mg) (c : He.SaysD fa11 fn11 K) : mg "BadPoint" = some (.ref (He.ga K "BadPoint")) := He.glo_ok Y G (c.facts (f := .glo "BadPoint") (fa_in 57))
theorem g_BadForm (Y : K.In h) (G : h.Ns mainGlobals mg) (c : He.SaysD fa11 fn11 K) : mg "BadForm" = some (.ref (He.ga K "BadForm")) := He.glo_ok Y G (c.facts (f := .glo "BadForm") (fa_in 58))
theorem g_NotNear (Y : K.In h) (G : h.Ns mainGlobals mg) (c : He.SaysD fa11 fn11 K) : mg "NotNear" = some (.ref (He.ga K "NotNear")) := He.glo_ok Y G (c.facts (f := .glo "NotNear") (fa_in 59))
theorem g_BadFace (Y : K.In h) (G : h.Ns mainGlobals mg) (c : He.SaysD fa11 fn11 K) : mg "BadFace" = some (.ref (He.ga K "BadFace")) := He.glo_ok Y G (c.facts (f := .glo "BadFace") (fa_in 60))
theorem g_BadWay (Y : K.In h) (G : h.Ns mainGlobals mg) (c : He.SaysD fa11 fn11 K) : mg "BadWay" = some (.ref (He.ga K "BadWay")) := He.glo_ok Y G (c.facts (f := .glo "BadWay") (fa_in 61))
theorem g_NotFull (Y : K.In h) (G : h.Ns mainGlobals mg) (c : He.SaysD fa11 fn11 K) : mg "NotFull" = some (.ref (He.ga K "NotFull")) := He.glo_ok Y G (c.facts (f := .glo "NotFull") (fa_in 62))
theorem g_BadWalls (Y : K.In h) (G : h.Ns mainGlobals mg) (c : He.SaysD fa11 fn11 K) : mg "BadWalls" = some (.ref (He.ga K "BadWalls")) := He.glo_ok Y G (c.facts (f := .glo "BadWalls") (fa_in 63))
theorem bt11 (Y : K.In h) (G : h.Ns mainGlobals mg) (c : He.SaysD fa11 fn11 K) : Bt mg := ⟨He.free_ok Y G (c.facts (f := .free "len") (fa_in 64)), He.free_ok Y G (c.facts (f := .free "abs") (fa_in 65)), He.free_ok Y G (c.facts (f := .free "int") (fa_in 66)), He.free_ok Y G (c.facts (f := .free "list") (fa_in 67)), He.free_ok Y G (c.facts (f := .free "tuple") (fa_in 68)), He.free_ok Y G (c.facts (f := .free "all") (fa_in 69)), He.free_ok Y G (c.facts (f := .free "any") (fa_in 70)), He.free_ok Y G (c.facts (f := .free "sum") (fa_in 71)), He.free_ok Y G (c.facts (f := .free "max") (fa_in 72)), He.free_ok Y G (c.facts (f := .free "min") (fa_in 73)), He.free_ok Y G (c.facts (f := .free "range") (fa_in 74)), He.free_ok Y G (c.facts (f := .free "enumerate") (fa_in 75)), He.free_ok Y G (c.facts (f := .free "zip") (fa_in 76)), He.free_ok Y G (c.facts (f := .free "isinstance") (fa_in 77)), He.free_ok Y G (c.facts (f := .free "bool") (fa_in 78)), He.free_ok Y G (c.facts (f := .free "str") (fa_in 79)), He.free_ok Y G (c.facts (f := .free "repr") (fa_in 80)), He.free_ok Y G (c.facts (f := .free "sorted") (fa_in 81))⟩
theorem f_is_number (c : He.SaysD fa11 fn11 K) : ∃ fd, L2.Fun K "is_number" "is_number" sis_number (He.ga K "is_number") fd := by
  obtain ⟨fd, F⟩ := c.defs (d := dis_number) (fn_in 0)
  exact ⟨fd, fun_of F⟩
theorem f_is_between (c : He.SaysD fa11 fn11 K) : ∃ fd, L2.Fun K "is_between" "is_between" sis_between (He.ga K "is_between") fd := by
  obtain ⟨fd, F⟩ := c.defs (d := dis_between) (fn_in 1)
  exact ⟨fd, fun_of F⟩
theorem f_is_list (c : He.SaysD fa11 fn11 K) : ∃ fd, L2.Fun K "is_list" "is_list" sis_list (He.ga K "is_list") fd := by
  obtain ⟨fd, F⟩ := c.defs (d := dis_list) (fn_in 2)
  exact ⟨fd, fun_of F⟩
theorem f_is_tuple (c : He.SaysD fa11 fn11 K) : ∃ fd, L2.Fun K "is_tuple" "is_tuple" sis_tuple (He.ga K "is_tuple") fd := by
  obtain ⟨fd, F⟩ := c.defs (d := dis_tuple) (fn_in 3)
  exact ⟨fd, fun_of F⟩
theorem f_is_row (c : He.SaysD fa11 fn11 K) : ∃ fd, L2.Fun K "is_row" "is_row" sis_row (He.ga K "is_row") fd := by
  obtain ⟨fd, F⟩ := c.defs (d := dis_row) (fn_in 4)
  exact ⟨fd, fun_of F⟩
theorem f_is_same_row (c : He.SaysD fa11 fn11 K) : ∃ fd, L2.Fun K "is_same_row" "is_same_row" sis_same_row (He.ga K "is_same_row") fd := by
  obtain ⟨fd, F⟩ := c.defs (d := dis_same_row) (fn_in 5)
  exact ⟨fd, fun_of F⟩
theorem f_common_part (c : He.SaysD fa11 fn11 K) : ∃ fd, L2.Fun K "common_part" "common_part" scommon_part (He.ga K "common_part") fd := by
  obtain ⟨fd, F⟩ := c.defs (d := dcommon_part) (fn_in 6)
  exact ⟨fd, fun_of F⟩
theorem f_is_set (c : He.SaysD fa11 fn11 K) : ∃ fd, L2.Fun K "is_set" "is_set" sis_set (He.ga K "is_set") fd := by
  obtain ⟨fd, F⟩ := c.defs (d := dis_set) (fn_in 7)
  exact ⟨fd, fun_of F⟩
theorem f_row_times (c : He.SaysD fa11 fn11 K) : ∃ fd, L2.Fun K "row_times" "row_times" srow_times (He.ga K "row_times") fd := by
  obtain ⟨fd, F⟩ := c.defs (d := drow_times) (fn_in 8)
  exact ⟨fd, fun_of F⟩
theorem f_is_over_row (c : He.SaysD fa11 fn11 K) : ∃ fd, L2.Fun K "is_over_row" "is_over_row" sis_over_row (He.ga K "is_over_row") fd := by
  obtain ⟨fd, F⟩ := c.defs (d := dis_over_row) (fn_in 9)
  exact ⟨fd, fun_of F⟩
theorem f_fraction_told (c : He.SaysD fa11 fn11 K) : ∃ fd, L2.Fun K "fraction_told" "fraction_told" sfraction_told (He.ga K "fraction_told") fd := by
  obtain ⟨fd, F⟩ := c.defs (d := dfraction_told) (fn_in 10)
  exact ⟨fd, fun_of F⟩
theorem f_point_told (c : He.SaysD fa11 fn11 K) : ∃ fd, L2.Fun K "point_told" "point_told" spoint_told (He.ga K "point_told") fd := by
  obtain ⟨fd, F⟩ := c.defs (d := dpoint_told) (fn_in 11)
  exact ⟨fd, fun_of F⟩
theorem f_sign_of (c : He.SaysD fa11 fn11 K) : ∃ fd, L2.Fun K "sign_of" "sign_of" ssign_of (He.ga K "sign_of") fd := by
  obtain ⟨fd, F⟩ := c.defs (d := dsign_of) (fn_in 12)
  exact ⟨fd, fun_of F⟩
theorem f_point_signs (c : He.SaysD fa11 fn11 K) : ∃ fd, L2.Fun K "point_signs" "point_signs" spoint_signs (He.ga K "point_signs") fd := by
  obtain ⟨fd, F⟩ := c.defs (d := dpoint_signs) (fn_in 13)
  exact ⟨fd, fun_of F⟩
theorem f_value_told (c : He.SaysD fa11 fn11 K) : ∃ fd, L2.Fun K "value_told" "value_told" svalue_told (He.ga K "value_told") fd := by
  obtain ⟨fd, F⟩ := c.defs (d := dvalue_told) (fn_in 14)
  exact ⟨fd, fun_of F⟩
theorem f__law_says (c : He.SaysD fa11 fn11 K) : ∃ fd, L2.Fun K "_law_says" "_law_says" s_law_says (He.ga K "_law_says") fd := by
  obtain ⟨fd, F⟩ := c.defs (d := d_law_says) (fn_in 15)
  exact ⟨fd, fun_of F⟩
theorem f__law_is_number (c : He.SaysD fa11 fn11 K) : ∃ fd, L2.Fun K "_law_is_number" "_law_is_number" s_law_is_number (He.ga K "_law_is_number") fd := by
  obtain ⟨fd, F⟩ := c.defs (d := d_law_is_number) (fn_in 16)
  exact ⟨fd, fun_of F⟩
theorem f__law_is_row (c : He.SaysD fa11 fn11 K) : ∃ fd, L2.Fun K "_law_is_row" "_law_is_row" s_law_is_row (He.ga K "_law_is_row") fd := by
  obtain ⟨fd, F⟩ := c.defs (d := d_law_is_row) (fn_in 17)
  exact ⟨fd, fun_of F⟩
theorem f__law_common (c : He.SaysD fa11 fn11 K) : ∃ fd, L2.Fun K "_law_common" "_law_common" s_law_common (He.ga K "_law_common") fd := by
  obtain ⟨fd, F⟩ := c.defs (d := d_law_common) (fn_in 18)
  exact ⟨fd, fun_of F⟩
theorem f__law_times (c : He.SaysD fa11 fn11 K) : ∃ fd, L2.Fun K "_law_times" "_law_times" s_law_times (He.ga K "_law_times") fd := by
  obtain ⟨fd, F⟩ := c.defs (d := d_law_times) (fn_in 19)
  exact ⟨fd, fun_of F⟩
theorem f__law_sign (c : He.SaysD fa11 fn11 K) : ∃ fd, L2.Fun K "_law_sign" "_law_sign" s_law_sign (He.ga K "_law_sign") fd := by
  obtain ⟨fd, F⟩ := c.defs (d := d_law_sign) (fn_in 20)
  exact ⟨fd, fun_of F⟩
theorem f__law_first (c : He.SaysD fa11 fn11 K) : ∃ fd, L2.Fun K "_law_first" "_law_first" s_law_first (He.ga K "_law_first") fd := by
  obtain ⟨fd, F⟩ := c.defs (d := d_law_first) (fn_in 21)
  exact ⟨fd, fun_of F⟩
theorem f__law_least (c : He.SaysD fa11 fn11 K) : ∃ fd, L2.Fun K "_law_least" "_law_least" s_law_least (He.ga K "_law_least") fd := by
  obtain ⟨fd, F⟩ := c.defs (d := d_law_least) (fn_in 22)
  exact ⟨fd, fun_of F⟩
theorem f__law_point (c : He.SaysD fa11 fn11 K) : ∃ fd, L2.Fun K "_law_point" "_law_point" s_law_point (He.ga K "_law_point") fd := by
  obtain ⟨fd, F⟩ := c.defs (d := d_law_point) (fn_in 23)
  exact ⟨fd, fun_of F⟩
theorem f__law_value (c : He.SaysD fa11 fn11 K) : ∃ fd, L2.Fun K "_law_value" "_law_value" s_law_value (He.ga K "_law_value") fd := by
  obtain ⟨fd, F⟩ := c.defs (d := d_law_value) (fn_in 24)
  exact ⟨fd, fun_of F⟩
theorem f__law_at (c : He.SaysD fa11 fn11 K) : ∃ fd, L2.Fun K "_law_at" "_law_at" s_law_at (He.ga K "_law_at") fd := by
  obtain ⟨fd, F⟩ := c.defs (d := d_law_at) (fn_in 25)
  exact ⟨fd, fun_of F⟩
theorem f__law_is_point (c : He.SaysD fa11 fn11 K) : ∃ fd, L2.Fun K "_law_is_point" "_law_is_point" s_law_is_point (He.ga K "_law_is_point") fd := by
  obtain ⟨fd, F⟩ := c.defs (d := d_law_is_point) (fn_in 26)
  exact ⟨fd, fun_of F⟩
theorem f__law_on_row (c : He.SaysD fa11 fn11 K) : ∃ fd, L2.Fun K "_law_on_row" "_law_on_row" s_law_on_row (He.ga K "_law_on_row") fd := by
  obtain ⟨fd, F⟩ := c.defs (d := d_law_on_row) (fn_in 27)
  exact ⟨fd, fun_of F⟩
theorem f__law_fraction (c : He.SaysD fa11 fn11 K) : ∃ fd, L2.Fun K "_law_fraction" "_law_fraction" s_law_fraction (He.ga K "_law_fraction") fd := by
  obtain ⟨fd, F⟩ := c.defs (d := d_law_fraction) (fn_in 28)
  exact ⟨fd, fun_of F⟩
theorem f__law_half (c : He.SaysD fa11 fn11 K) : ∃ fd, L2.Fun K "_law_half" "_law_half" s_law_half (He.ga K "_law_half") fd := by
  obtain ⟨fd, F⟩ := c.defs (d := d_law_half) (fn_in 29)
  exact ⟨fd, fun_of F⟩
theorem f__law_between (c : He.SaysD fa11 fn11 K) : ∃ fd, L2.Fun K "_law_between" "_law_between" s_law_between (He.ga K "_law_between") fd := by
  obtain ⟨fd, F⟩ := c.defs (d := d_law_between) (fn_in 30)
  exact ⟨fd, fun_of F⟩
theorem f_need_between (c : He.SaysD fa11 fn11 K) : ∃ fd, L2.Fun K "need_between" "need_between" sneed_between (He.ga K "need_between") fd := by
  obtain ⟨fd, F⟩ := c.defs (d := dneed_between) (fn_in 31)
  exact ⟨fd, fun_of F⟩
theorem f_need_set (c : He.SaysD fa11 fn11 K) : ∃ fd, L2.Fun K "need_set" "need_set" sneed_set (He.ga K "need_set") fd := by
  obtain ⟨fd, F⟩ := c.defs (d := dneed_set) (fn_in 32)
  exact ⟨fd, fun_of F⟩
theorem f_need_point (c : He.SaysD fa11 fn11 K) : ∃ fd, L2.Fun K "need_point" "need_point" sneed_point (He.ga K "need_point") fd := by
  obtain ⟨fd, F⟩ := c.defs (d := dneed_point) (fn_in 33)
  exact ⟨fd, fun_of F⟩
theorem f_need_place (c : He.SaysD fa11 fn11 K) : ∃ fd, L2.Fun K "need_place" "need_place" sneed_place (He.ga K "need_place") fd := by
  obtain ⟨fd, F⟩ := c.defs (d := dneed_place) (fn_in 34)
  exact ⟨fd, fun_of F⟩
theorem f_is_point (c : He.SaysD fa11 fn11 K) : ∃ fd, L2.Fun K "is_point" "is_point" sis_point (He.ga K "is_point") fd := by
  obtain ⟨fd, F⟩ := c.defs (d := dis_point) (fn_in 35)
  exact ⟨fd, fun_of F⟩
theorem f_signs_at (c : He.SaysD fa11 fn11 K) : ∃ fd, L2.Fun K "signs_at" "signs_at" ssigns_at (He.ga K "signs_at") fd := by
  obtain ⟨fd, F⟩ := c.defs (d := dsigns_at) (fn_in 36)
  exact ⟨fd, fun_of F⟩
theorem f_value_at (c : He.SaysD fa11 fn11 K) : ∃ fd, L2.Fun K "value_at" "value_at" svalue_at (He.ga K "value_at") fd := by
  obtain ⟨fd, F⟩ := c.defs (d := dvalue_at) (fn_in 37)
  exact ⟨fd, fun_of F⟩
theorem f_half_way (c : He.SaysD fa11 fn11 K) : ∃ fd, L2.Fun K "half_way" "half_way" shalf_way (He.ga K "half_way") fd := by
  obtain ⟨fd, F⟩ := c.defs (d := dhalf_way) (fn_in 38)
  exact ⟨fd, fun_of F⟩
theorem f__law_row (c : He.SaysD fa11 fn11 K) : ∃ fd, L2.Fun K "_law_row" "_law_row" s_law_row (He.ga K "_law_row") fd := by
  obtain ⟨fd, F⟩ := c.defs (d := d_law_row) (fn_in 39)
  exact ⟨fd, fun_of F⟩
theorem f__law_drawn_set (c : He.SaysD fa11 fn11 K) : ∃ fd, L2.Fun K "_law_drawn_set" "_law_drawn_set" s_law_drawn_set (He.ga K "_law_drawn_set") fd := by
  obtain ⟨fd, F⟩ := c.defs (d := d_law_drawn_set) (fn_in 40)
  exact ⟨fd, fun_of F⟩
theorem f__law_some_point (c : He.SaysD fa11 fn11 K) : ∃ fd, L2.Fun K "_law_some_point" "_law_some_point" s_law_some_point (He.ga K "_law_some_point") fd := by
  obtain ⟨fd, F⟩ := c.defs (d := d_law_some_point) (fn_in 41)
  exact ⟨fd, fun_of F⟩
theorem f__law_no_set (c : He.SaysD fa11 fn11 K) : ∃ fd, L2.Fun K "_law_no_set" "_law_no_set" s_law_no_set (He.ga K "_law_no_set") fd := by
  obtain ⟨fd, F⟩ := c.defs (d := d_law_no_set) (fn_in 42)
  exact ⟨fd, fun_of F⟩
theorem f__law_near_point (c : He.SaysD fa11 fn11 K) : ∃ fd, L2.Fun K "_law_near_point" "_law_near_point" s_law_near_point (He.ga K "_law_near_point") fd := by
  obtain ⟨fd, F⟩ := c.defs (d := d_law_near_point) (fn_in 43)
  exact ⟨fd, fun_of F⟩
theorem f__law_told (c : He.SaysD fa11 fn11 K) : ∃ fd, L2.Fun K "_law_told" "_law_told" s_law_told (He.ga K "_law_told") fd := by
  obtain ⟨fd, F⟩ := c.defs (d := d_law_told) (fn_in 44)
  exact ⟨fd, fun_of F⟩
theorem f__law_right (c : He.SaysD fa11 fn11 K) : ∃ fd, L2.Fun K "_law_right" "_law_right" s_law_right (He.ga K "_law_right") fd := by
  obtain ⟨fd, F⟩ := c.defs (d := d_law_right) (fn_in 45)
  exact ⟨fd, fun_of F⟩
theorem f__law_begun (c : He.SaysD fa11 fn11 K) : ∃ fd, L2.Fun K "_law_begun" "_law_begun" s_law_begun (He.ga K "_law_begun") fd := by
  obtain ⟨fd, F⟩ := c.defs (d := d_law_begun) (fn_in 46)
  exact ⟨fd, fun_of F⟩
theorem f__law_mixed (c : He.SaysD fa11 fn11 K) : ∃ fd, L2.Fun K "_law_mixed" "_law_mixed" s_law_mixed (He.ga K "_law_mixed") fd := by
  obtain ⟨fd, F⟩ := c.defs (d := d_law_mixed) (fn_in 47)
  exact ⟨fd, fun_of F⟩
theorem f__law_take (c : He.SaysD fa11 fn11 K) : ∃ fd, L2.Fun K "_law_take" "_law_take" s_law_take (He.ga K "_law_take") fd := by
  obtain ⟨fd, F⟩ := c.defs (d := d_law_take) (fn_in 48)
  exact ⟨fd, fun_of F⟩
theorem f__law_pick (c : He.SaysD fa11 fn11 K) : ∃ fd, L2.Fun K "_law_pick" "_law_pick" s_law_pick (He.ga K "_law_pick") fd := by
  obtain ⟨fd, F⟩ := c.defs (d := d_law_pick) (fn_in 49)
  exact ⟨fd, fun_of F⟩
theorem f__law_caught (c : He.SaysD fa11 fn11 K) : ∃ fd, L2.Fun K "_law_caught" "_law_caught" s_caught (He.ga K "_law_caught") fd := by
  obtain ⟨fd, F⟩ := c.defs (d := d_law_caught) (fn_in 50)
  exact ⟨fd, fun_of F⟩
theorem f_init (c : He.SaysD fa11 fn11 K) : ∃ fd, L2.Fun K "__init__" "Walls.__init__" s_init (He.ma K (He.ga K "Walls") "__init__") fd := by
  obtain ⟨fd, F⟩ := c.defs (d := d_init) (fn_in 52)
  exact ⟨fd, fun_of F⟩
theorem mx11 (Y : K.In h) (G : h.Ns mainGlobals mg) (c : He.SaysD fa11 fn11 K) : ∀ n ∈ xNames, mg n = some (.ref (He.ga K n)) := fun n hn => by
  simp only [xNames, List.mem_cons, List.not_mem_nil, or_false] at hn
  rcases hn with rfl | rfl | rfl | rfl | rfl | rfl | rfl | rfl | rfl | rfl
  · exact g_BadNumber Y G c
  · exact g_BadSigns Y G c
  · exact g_BadRoom Y G c
  · exact g_BadPoint Y G c
  · exact g_BadForm Y G c
  · exact g_NotNear Y G c
  · exact g_BadFace Y G c
  · exact g_BadWay Y G c
  · exact g_NotFull Y G c
  · exact g_BadWalls Y G c
theorem xm11 (c : He.SaysD fa11 fn11 K) : ∀ n ∈ xNames, PySem.W.exmOne K (.ref (He.ga K n)) (.ref (He.ga K "WallError")) = some true := fun n hn => by
  simp only [xNames, List.mem_cons, List.not_mem_nil, or_false] at hn
  rcases hn with rfl | rfl | rfl | rfl | rfl | rfl | rfl | rfl | rfl | rfl
  · exact He.exm_ok (c.facts (f := .exm "BadNumber" "WallError" true) (fa_in 86))
  · exact He.exm_ok (c.facts (f := .exm "BadSigns" "WallError" true) (fa_in 87))
  · exact He.exm_ok (c.facts (f := .exm "BadRoom" "WallError" true) (fa_in 88))
  · exact He.exm_ok (c.facts (f := .exm "BadPoint" "WallError" true) (fa_in 89))
  · exact He.exm_ok (c.facts (f := .exm "BadForm" "WallError" true) (fa_in 90))
  · exact He.exm_ok (c.facts (f := .exm "NotNear" "WallError" true) (fa_in 91))
  · exact He.exm_ok (c.facts (f := .exm "BadFace" "WallError" true) (fa_in 92))
  · exact He.exm_ok (c.facts (f := .exm "BadWay" "WallError" true) (fa_in 93))
  · exact He.exm_ok (c.facts (f := .exm "NotFull" "WallError" true) (fa_in 94))
  · exact He.exm_ok (c.facts (f := .exm "BadWalls" "WallError" true) (fa_in 95))
abbrev P11 : Program := R11.prog
def Zf (K : PySem.W.Frag) (p : Addr) : Zc := ⟨He.ga K "Walls", fun n => He.ga K n, p⟩
theorem sc_caught : FnScope ["work", "caught", "error"] ["work"] (defScope s_caught) := ⟨rfl, rfl, rfl, by decide +kernel, rfl, by decide +kernel, by decide +kernel⟩
theorem ctd11 : CtD s_caught := ⟨sc_caught, rfl, fun X g CS cdv q mE => caught_gives (S := sc_caught) (e := "WallError") (CS := CS) rfl mE (by decide) rfl rfl (by decide) (by decide) (by decide) (by decide) (fun _ _ => rfl) (fun _ _ => rfl) (fun _ _ => rfl),
  fun _ _ _ _ _ _ us hl => match us, hl with | [_], _ => rfl⟩
theorem supT_bn : SupT s_bn := ⟨⟨_, _, _, _, _, _, _, _, _, _, _, _, _, rfl, fun _ _ _ _ _ => rfl, fun _ _ _ _ _ => ⟨rfl, rfl, rfl⟩⟩, rfl, rfl, rfl, by decide +kernel, rfl, rfl, rfl, rfl, by decide +kernel, ⟨_, rfl, rfl⟩⟩
theorem supT_bw : SupT s_bw := ⟨⟨_, _, _, _, _, _, _, _, _, _, _, _, _, rfl, fun _ _ _ _ _ => rfl, fun _ _ _ _ _ => ⟨rfl, rfl, rfl⟩⟩, rfl, rfl, rfl, by decide +kernel, rfl, rfl, rfl, rfl, by decide +kernel, ⟨_, rfl, rfl⟩⟩
theorem x11_parts (x : ex11 K = true) : isTB K (He.ga K "Walls") (xsK K) = true ∧ inCB K (He.ga K "Walls") = true ∧ ((xsK K).all fun C => excCB K C) = true ∧ supB P11 K (He.ga K "BadNumber") = true ∧ supB P11 K (He.ga K "BadWalls") = true ∧ xfB K (He.ga K "BadNumber") = true ∧ xfB K (He.ga K "BadWalls") = true ∧
    r0B K (He.ga K "BadPoint") = true ∧ (xsK K).Nodup ∧ PySem.W.nsIn K mainGlobals "gcd" = some (some (.builtin "math.gcd")) ∧ (He.cT K ("law", none)).2 ≠ (He.cT K ("_law_right", none)).2 := by
  unfold ex11 at x
  simp only [Bool.and_eq_true] at x
  obtain ⟨a, b, c, d, e, f, g, i, n, j, k⟩ := x
  exact ⟨a, b, c, d, e, f, g, i, of_decide_eq_true n, of_decide_eq_true j, of_decide_eq_true k⟩
theorem noP_of {P : Program} {C : Addr} (x : supB P K C = true) : PySem.W.findIn K (.ref C) "part" = some none := by
  unfold supB at x
  simp only [Bool.and_eq_true, decide_eq_true_eq] at x
  exact x.2.2.1
theorem xok11 (Y : K.In h) (G : h.Ns mainGlobals mg) (c : SaysY fa11 fn11 ds11 tf11 ex11 w h K) (p : Addr) : Xok P11 K mg (Zf K p) := by
  have cd := c.x.t.d
  obtain ⟨x1, x2, x3, x4, x5, x6, x7, x8, xn, x9, x10⟩ := x11_parts c.x.more
  have cl := He.cls_ok (cd.facts (f := .cls "Walls") (fa_in 82))
  obtain ⟨fdC, FC⟩ := f__law_caught cd
  exact
    { own := own1_of cl x2 x3, ist := isT_of x1, mW := g_Walls Y G cd, mx := mx11 Y G cd,
      fsize := ⟨cl, He.noat_ok (cd.facts (f := .noat "Walls" "size") (fa_in 83))⟩, frows := ⟨cl, He.noat_ok (cd.facts (f := .noat "Walls" "rows") (fa_in 84))⟩,
      pt := fun C hC => by
        simp only [XP, List.map_cons, List.map_nil, List.mem_cons, List.not_mem_nil, or_false] at hC
        rcases hC with rfl | rfl
        · exact ⟨xfB_ok x6, noP_of x4⟩
        · exact ⟨xfB_ok x7, noP_of x5⟩
      gcd := PySem.W.mg_of Y G x9,
      ct := ⟨ctd11, _, _, fdC, FC, g__law_caught Y G cd, g_WallError Y G cd, fun C hC => by
        obtain ⟨n, hn, rfl⟩ := List.mem_map.mp hC
        exact xm11 cd n hn⟩,
      sBadNumber := supT_bn, rBadNumber := sup_of (d := ⟨"BadNumber", "BadNumber.__init__", s_bn⟩) Y G x4 (c.at_ 0) fun _ _ _ _ _ _ _ us hl => (match us, hl with | [_, _], _ => rfl),
      sBadWalls := supT_bw, rBadWalls := sup_of (d := ⟨"BadWalls", "BadWalls.__init__", s_bw⟩) Y G x5 (c.at_ 1) fun _ _ _ _ _ _ _ us hl => (match us, hl with | [_, _], _ => rfl),
      r0 := fun n hn => by
        obtain rfl := List.mem_singleton.mp hn
        exact r0_of x8 }
abbrev N11 : List Str := ["script", "draw", "turn", "size", "rows", "none", "walls", "words", "bad", "work"]
def T11 (K : PySem.W.Frag) : List (Addr × Str) := [((He.cT K ("law", none)).2, ("law" : Str) ++ ".<locals>." ++ "<lambda>"), ((He.cT K ("_law_right", none)).2, ("_law_right" : Str) ++ ".<locals>." ++ "<lambda>")]
theorem cT_code (c : SaysY fa11 fn11 ds11 tf11 ex11 w h K) {x : Str} {f : Addr} {fd : FuncData} {st : Stmt} (F : L2.Fun K x x st (He.ga K x) fd) : fd.code = .ref (He.cT K (x, none)).1 := by
  obtain ⟨oc, od, kV, doc, pm, an, cdv, ct, osl, e1, lk, hcd⟩ := F.ex
  obtain ⟨cL, hcL⟩ := He.codeIn_ref hcd
  have hc : fd.code = .ref cL := by rw [e1]; exact hcL
  have ec : (He.cT K (x, none)).1 = cL := He.codeOf_eq (p := (x, none)) lk hc
  rw [ec]; exact hc
theorem body11 {base : Heap} {l q : Addr} (Y : K.In h) (G : h.Ns mainGlobals mg) (c : SaysY fa11 fn11 ds11 tf11 ex11 w h K) (TB : ∀ p ∈ [He.cT K ("law", none), He.cT K ("_law_right", none)], LamX.TabB base mg p.1 p.2) {fdL : FuncData} (FL : L2.Fun K "law" "law" slaw (He.ga K "law") fdL)
    (p : Addr) (cdv : Value) (A : Around) (outer : List PySem.Env) (s : Shared) (H : Hp) (E : XK) (hgd : A.guards = some []) (hc : fdL.code = cdv) (hr : Room 12 (A.deeper (PyProof.Rows.envOfC "law" (defScope slaw) s.heap.objs.size (He.ga K "law") cdv))) :
    OkBw (cxOf (L2.CX P11 w) P11 w K mg base N11 "law" (defScope slaw) (He.ga K "law") cdv A outer s H E) (ctD p l q (T11 K)) E (forBody ((defBody slaw).getD 1 (.Pass ⟨0, 0, 0, 0⟩))) (mlawB (Zf K p)) ∧
    OkSw (cxOf (L2.CX P11 w) P11 w K mg base N11 "law" (defScope slaw) (He.ga K "law") cdv A outer s H E) (ctD p l q (T11 K)) E ((defBody slaw).getD 2 (.Pass ⟨0, 0, 0, 0⟩)) (mlawR (Zf K p)) := by
  have cd := c.x.t.d
  have T := bt11 Y G cd
  have X := xok11 Y G c p
  obtain ⟨x1, x2, x3, x4, x5, x6, x7, x8, xn, x9, x10⟩ := x11_parts c.x.more
  have M := He.mkr_ok (cd.facts (f := .mkr "Walls") (fa_in 85))
  obtain ⟨fdis_number, Fis_number'⟩ := f_is_number cd
  obtain ⟨fdis_between, Fis_between'⟩ := f_is_between cd
  obtain ⟨fdis_list, Fis_list'⟩ := f_is_list cd
  obtain ⟨fdis_tuple, Fis_tuple'⟩ := f_is_tuple cd
  obtain ⟨fdis_row, Fis_row'⟩ := f_is_row cd
  obtain ⟨fdis_same_row, Fis_same_row'⟩ := f_is_same_row cd
  obtain ⟨fdcommon_part, Fcommon_part'⟩ := f_common_part cd
  obtain ⟨fdis_set, Fis_set'⟩ := f_is_set cd
  obtain ⟨fdrow_times, Frow_times'⟩ := f_row_times cd
  obtain ⟨fdis_over_row, Fis_over_row'⟩ := f_is_over_row cd
  obtain ⟨fdfraction_told, Ffraction_told'⟩ := f_fraction_told cd
  obtain ⟨fdpoint_told, Fpoint_told'⟩ := f_point_told cd
  obtain ⟨fdsign_of, Fsign_of'⟩ := f_sign_of cd
  obtain ⟨fdpoint_signs, Fpoint_signs'⟩ := f_point_signs cd
  obtain ⟨fdvalue_told, Fvalue_told'⟩ := f_value_told cd
  obtain ⟨fd_law_says, F_law_says'⟩ := f__law_says cd
  obtain ⟨fd_law_is_number, F_law_is_number'⟩ := f__law_is_number cd
  obtain ⟨fd_law_is_row, F_law_is_row'⟩ := f__law_is_row cd
  obtain ⟨fd_law_common, F_law_common'⟩ := f__law_common cd
  obtain ⟨fd_law_times, F_law_times'⟩ := f__law_times cd
  obtain ⟨fd_law_sign, F_law_sign'⟩ := f__law_sign cd
  obtain ⟨fd_law_first, F_law_first'⟩ := f__law_first cd
  obtain ⟨fd_law_least, F_law_least'⟩ := f__law_least cd
  obtain ⟨fd_law_point, F_law_point'⟩ := f__law_point cd
  obtain ⟨fd_law_value, F_law_value'⟩ := f__law_value cd
  obtain ⟨fd_law_at, F_law_at'⟩ := f__law_at cd
  obtain ⟨fd_law_is_point, F_law_is_point'⟩ := f__law_is_point cd
  obtain ⟨fd_law_on_row, F_law_on_row'⟩ := f__law_on_row cd
  obtain ⟨fd_law_fraction, F_law_fraction'⟩ := f__law_fraction cd
  obtain ⟨fd_law_half, F_law_half'⟩ := f__law_half cd
  obtain ⟨fd_law_between, F_law_between'⟩ := f__law_between cd
  obtain ⟨fdneed_between, Fneed_between'⟩ := f_need_between cd
  obtain ⟨fdneed_set, Fneed_set'⟩ := f_need_set cd
  obtain ⟨fdneed_point, Fneed_point'⟩ := f_need_point cd
  obtain ⟨fdneed_place, Fneed_place'⟩ := f_need_place cd
  obtain ⟨fdis_point, Fis_point'⟩ := f_is_point cd
  obtain ⟨fdsigns_at, Fsigns_at'⟩ := f_signs_at cd
  obtain ⟨fdvalue_at, Fvalue_at'⟩ := f_value_at cd
  obtain ⟨fdhalf_way, Fhalf_way'⟩ := f_half_way cd
  obtain ⟨fd_law_row, F_law_row'⟩ := f__law_row cd
  obtain ⟨fd_law_drawn_set, F_law_drawn_set'⟩ := f__law_drawn_set cd
  obtain ⟨fd_law_some_point, F_law_some_point'⟩ := f__law_some_point cd
  obtain ⟨fd_law_no_set, F_law_no_set'⟩ := f__law_no_set cd
  obtain ⟨fd_law_near_point, F_law_near_point'⟩ := f__law_near_point cd
  obtain ⟨fd_law_told, F_law_told'⟩ := f__law_told cd
  obtain ⟨fd_law_right, F_law_right'⟩ := f__law_right cd
  obtain ⟨fd_law_begun, F_law_begun'⟩ := f__law_begun cd
  obtain ⟨fd_law_mixed, F_law_mixed'⟩ := f__law_mixed cd
  obtain ⟨fd_law_take, F_law_take'⟩ := f__law_take cd
  obtain ⟨fd_law_pick, F_law_pick'⟩ := f__law_pick cd
  obtain ⟨fdI, FI⟩ := f_init cd
  have Dw : Dws K mg (He.ga K "_law_mixed") (He.ga K "_law_take") fd_law_mixed fd_law_take := ⟨F_law_mixed', g__law_mixed Y G cd, F_law_take', g__law_take Y G cd⟩
  have Cis_number : Cl P11 w K mg base 1 "is_number" (Fis_number (Zf K p)) := clis_number Fis_number' (g_is_number Y G cd) T X 
  have Cis_between : Cl P11 w K mg base 2 "is_between" (Fis_between (Zf K p)) := clis_between Fis_between' (g_is_between Y G cd) T X Cis_number
  have Cis_list : Cl P11 w K mg base 1 "is_list" (Fis_list (Zf K p)) := clis_list Fis_list' (g_is_list Y G cd) T X 
  have Cis_tuple : Cl P11 w K mg base 1 "is_tuple" (Fis_tuple (Zf K p)) := clis_tuple Fis_tuple' (g_is_tuple Y G cd) T X 
  have Cis_row : Cl P11 w K mg base 2 "is_row" (Fis_row (Zf K p)) := clis_row Fis_row' (g_is_row Y G cd) T X Cis_number Cis_tuple
  have Cis_same_row : Cl P11 w K mg base 1 "is_same_row" (Fis_same_row (Zf K p)) := clis_same_row Fis_same_row' (g_is_same_row Y G cd) T X 
  have Ccommon_part : Cl P11 w K mg base 1 "common_part" (Fcommon_part (Zf K p)) := clcommon_part Fcommon_part' (g_common_part Y G cd) T X 
  have Cis_set : Cl P11 w K mg base 1 "is_set" (Fis_set (Zf K p)) := clis_set Fis_set' (g_is_set Y G cd) T X 
  have Crow_times : Cl P11 w K mg base 1 "row_times" (Frow_times (Zf K p)) := clrow_times Frow_times' (g_row_times Y G cd) T X 
  have Cis_over_row : Cl P11 w K mg base 2 "is_over_row" (Fis_over_row (Zf K p)) := clis_over_row Fis_over_row' (g_is_over_row Y G cd) T X Cis_number Cis_tuple Ccommon_part
  have Cfraction_told : Cl P11 w K mg base 1 "fraction_told" (Ffraction_told (Zf K p)) := clfraction_told Ffraction_told' (g_fraction_told Y G cd) T X 
  have Cpoint_told : Cl P11 w K mg base 2 "point_told" (Fpoint_told (Zf K p)) := clpoint_told Fpoint_told' (g_point_told Y G cd) T X Ccommon_part
  have Csign_of : Cl P11 w K mg base 1 "sign_of" (Fsign_of (Zf K p)) := clsign_of Fsign_of' (g_sign_of Y G cd) T X 
  have Cpoint_signs : Cl P11 w K mg base 2 "point_signs" (Fpoint_signs (Zf K p)) := clpoint_signs Fpoint_signs' (g_point_signs Y G cd) T X Csign_of Crow_times
  have Cvalue_told : Cl P11 w K mg base 2 "value_told" (Fvalue_told (Zf K p)) := clvalue_told Fvalue_told' (g_value_told Y G cd) T X Cfraction_told Crow_times
  have C_law_says : Cl P11 w K mg base 1 "_law_says" (F_law_says (Zf K p)) := cl_law_says F_law_says' (g__law_says Y G cd) T X 
  have C_law_is_number : Cl P11 w K mg base 1 "_law_is_number" (F_law_is_number (Zf K p)) := cl_law_is_number F_law_is_number' (g__law_is_number Y G cd) T X 
  have C_law_is_row : Cl P11 w K mg base 2 "_law_is_row" (F_law_is_row (Zf K p)) := cl_law_is_row F_law_is_row' (g__law_is_row Y G cd) T X C_law_is_number
  have C_law_common : Cl P11 w K mg base 1 "_law_common" (F_law_common (Zf K p)) := cl_law_common F_law_common' (g__law_common Y G cd) T X 
  have C_law_times : Cl P11 w K mg base 1 "_law_times" (F_law_times (Zf K p)) := cl_law_times F_law_times' (g__law_times Y G cd) T X 
  have C_law_sign : Cl P11 w K mg base 1 "_law_sign" (F_law_sign (Zf K p)) := cl_law_sign F_law_sign' (g__law_sign Y G cd) T X 
  have C_law_first : Cl P11 w K mg base 2 "_law_first" (F_law_first (Zf K p)) := cl_law_first F_law_first' (g__law_first Y G cd) T X C_law_sign
  have C_law_least : Cl P11 w K mg base 3 "_law_least" (F_law_least (Zf K p)) := cl_law_least F_law_least' (g__law_least Y G cd) T X C_law_common C_law_first
  have C_law_point : Cl P11 w K mg base 2 "_law_point" (F_law_point (Zf K p)) := cl_law_point F_law_point' (g__law_point Y G cd) T X C_law_common C_law_sign
  have C_law_value : Cl P11 w K mg base 2 "_law_value" (F_law_value (Zf K p)) := cl_law_value F_law_value' (g__law_value Y G cd) T X C_law_times
  have C_law_at : Cl P11 w K mg base 3 "_law_at" (F_law_at (Zf K p)) := cl_law_at F_law_at' (g__law_at Y G cd) T X C_law_sign C_law_value
  have C_law_is_point : Cl P11 w K mg base 3 "_law_is_point" (F_law_is_point (Zf K p)) := cl_law_is_point F_law_is_point' (g__law_is_point Y G cd) T X C_law_is_number C_law_is_row C_law_common
  have C_law_on_row : Cl P11 w K mg base 3 "_law_on_row" (F_law_on_row (Zf K p)) := cl_law_on_row F_law_on_row' (g__law_on_row Y G cd) T X C_law_point C_law_times
  have C_law_fraction : Cl P11 w K mg base 2 "_law_fraction" (F_law_fraction (Zf K p)) := cl_law_fraction F_law_fraction' (g__law_fraction Y G cd) T X C_law_common
  have C_law_half : Cl P11 w K mg base 3 "_law_half" (F_law_half (Zf K p)) := cl_law_half F_law_half' (g__law_half Y G cd) T X C_law_point
  have C_law_between : Cl P11 w K mg base 2 "_law_between" (F_law_between (Zf K p)) := cl_law_between F_law_between' (g__law_between Y G cd) T X C_law_sign
  have CWalls : MkC P11 w K mg base (ctD p l q (T11 K)) 3 "Walls" "Walls.__init__" s_init (Zf K p).WC (FWalls (Zf K p)) "self" ["size", "rows"] (spWalls K (ctD p l q (T11 K)) (Zf K p)) := clWalls FI M T X Cis_between Cis_list Cis_same_row Cis_row
  have C_law_take : ClW P11 w K mg base (ctD p l q (T11 K)) 2 "_law_take" s_law_take ["draw", "amount"] (F_law_take (Zf K p)) := ⟨_, _, okw_take (Dw.take T).1, g__law_take Y G cd, F_law_take', F_law_take'.binds fun _ _ _ _ _ _ us hl => match us, hl with | [_, _], _ => rfl⟩
  have C_law_pick : ClW P11 w K mg base (ctD p l q (T11 K)) 3 "_law_pick" s_law_pick ["draw", "some"] (F_law_pick (Zf K p)) := ⟨_, _, okw_pick (ok_pick F_law_pick' T Dw), g__law_pick Y G cd, F_law_pick', F_law_pick'.binds fun _ _ _ _ _ _ us hl => match us, hl with | [_, _], _ => rfl⟩
  have Cneed_between : ClW P11 w K mg base (ctD p l q (T11 K)) 3 "need_between" sneed_between ["number", "low", "high", "part"] (Fneed_between (Zf K p)) := clneed_between Fneed_between' (g_need_between Y G cd) T X Cis_between
  have Cneed_set : ClW P11 w K mg base (ctD p l q (T11 K)) 3 "need_set" sneed_set ["walls"] (Fneed_set (Zf K p)) := clneed_set Fneed_set' (g_need_set Y G cd) T X Cis_set
  have Cneed_point : ClW P11 w K mg base (ctD p l q (T11 K)) 3 "need_point" sneed_point ["walls", "point"] (Fneed_point (Zf K p)) := clneed_point Fneed_point' (g_need_point Y G cd) T X Cis_over_row
  have Cneed_place : ClW P11 w K mg base (ctD p l q (T11 K)) 4 "need_place" sneed_place ["walls", "place"] (Fneed_place (Zf K p)) := clneed_place Fneed_place' (g_need_place Y G cd) T X Cneed_between
  have Cis_point : ClW P11 w K mg base (ctD p l q (T11 K)) 4 "is_point" sis_point ["walls", "thing"] (Fis_point (Zf K p)) := clis_point Fis_point' (g_is_point Y G cd) T X Cneed_set Cis_over_row
  have Csigns_at : ClW P11 w K mg base (ctD p l q (T11 K)) 4 "signs_at" ssigns_at ["walls", "point"] (Fsigns_at (Zf K p)) := clsigns_at Fsigns_at' (g_signs_at Y G cd) T X Cneed_set Cneed_point Cpoint_signs
  have Cvalue_at : ClW P11 w K mg base (ctD p l q (T11 K)) 5 "value_at" svalue_at ["walls", "place", "point"] (Fvalue_at (Zf K p)) := clvalue_at Fvalue_at' (g_value_at Y G cd) T X Cneed_set Cneed_place Cneed_point Cvalue_told
  have Chalf_way : ClW P11 w K mg base (ctD p l q (T11 K)) 4 "half_way" shalf_way ["walls", "one", "other"] (Fhalf_way (Zf K p)) := clhalf_way Fhalf_way' (g_half_way Y G cd) T X Cneed_set Cneed_point Cpoint_told
  have C_law_row : ClW P11 w K mg base (ctD p l q (T11 K)) 4 "_law_row" s_law_row ["draw", "size", "way"] (F_law_row (Zf K p)) := cl_law_row F_law_row' (g__law_row Y G cd) T X C_law_take C_law_pick
  have C_law_drawn_set : ClW P11 w K mg base (ctD p l q (T11 K)) 5 "_law_drawn_set" s_law_drawn_set ["draw", "most"] (F_law_drawn_set (Zf K p)) := cl_law_drawn_set F_law_drawn_set' (g__law_drawn_set Y G cd) T X C_law_take C_law_row C_law_least
  have C_law_some_point : ClW P11 w K mg base (ctD p l q (T11 K)) 4 "_law_some_point" s_law_some_point ["draw", "size"] (F_law_some_point (Zf K p)) := cl_law_some_point F_law_some_point' (g__law_some_point Y G cd) T X C_law_pick C_law_point C_law_take
  have C_law_no_set : ClW P11 w K mg base (ctD p l q (T11 K)) 4 "_law_no_set" s_law_no_set ["draw"] (F_law_no_set (Zf K p)) := cl_law_no_set F_law_no_set' (g__law_no_set Y G cd) T X C_law_pick
  have C_law_near_point : ClW P11 w K mg base (ctD p l q (T11 K)) 4 "_law_near_point" s_law_near_point ["draw", "point"] (F_law_near_point (Zf K p)) := cl_law_near_point F_law_near_point' (g__law_near_point Y G cd) T X C_law_take C_law_pick
  have C_law_told : ClG P11 w K mg base (ctD p l q (T11 K)) 1 "_law_told" s_law_told ["error"] (F_law_told (Zf K p)) := cl_law_told F_law_told' (g__law_told Y G cd) T X 
  have hm2 : ∀ z ∈ T11 K, z.1 = (He.cT K ("_law_right", none)).2 → z.2 = ("_law_right" : Str) ++ ".<locals>." ++ "<lambda>" := fun z hz e => by
    simp only [T11, List.mem_cons, List.not_mem_nil, or_false] at hz
    rcases hz with rfl | rfl
    · exact absurd e x10
    · rfl
  have C_law_right : ClG P11 w K mg base (ctD p l q (T11 K)) 9 "_law_right" s_law_right ["draw", "size", "rows"] (F_law_right (Zf K p)) := cl_law_right F_law_right' (g__law_right Y G cd) T X (cT_code (f := 0) c F_law_right') (TB _ (by simp)) (List.mem_cons_of_mem _ List.mem_cons_self) hm2 CWalls C_law_some_point C_law_on_row C_law_near_point C_law_is_point C_law_says Cis_point C_law_told Csigns_at Chalf_way C_law_at C_law_fraction C_law_value Cvalue_at C_law_pick C_law_half C_law_between
  have TBl : TbF (cxOf (L2.CX P11 w) P11 w K mg base N11 "law" (defScope slaw) (He.ga K "law") cdv A outer s H E) (T11 K) := ⟨(He.cT K ("law", none)).1, (He.cT K ("law", none)).2, TB _ (by simp), hc.symm.trans (cT_code (f := 0) c FL), List.mem_cons_self, fun z hz e => ?_⟩
  · exact oklaw (l := l) (q := q) (TT := T11 K) T X C_law_drawn_set C_law_right C_law_no_set CWalls C_law_pick C_law_told Cis_point Csigns_at Cvalue_at Chalf_way cdv A outer s H E hgd TBl (hr.mono (by decide))
  · simp only [T11, List.mem_cons, List.not_mem_nil, or_false] at hz
    rcases hz with rfl | rfl
    · rfl
    · exact absurd e.symm x10
end
end Sh
end Part_E11r

section Part_E11q
set_option maxRecDepth 100000
set_option maxHeartbeats 400000
/-! E11q: k11's own run, the plain law left open. -/
namespace Sh
open PySem L2
/-- the law's slots between two turns -/
def InvL (Z : Zc) (env : Env) : Prop := env.length = 10 ∧ env[1]? = some (some (false, .raw (.ref Z.p)))
/-- what comes goes on, in a slot's state that is as it ought to be -/
structure NxOk (I : Env → Prop) (m : W Res) : Prop where
  h : m.wp (fun r => ∃ e, r = .nx e ∧ I e) (fun _ => False)
/-- what comes is True -/
structure RtOk (m : W Res) : Prop where
  h : m.wp (fun r => r = .rt (.bl true)) (fun _ => False)
/-- the plain law -/
structure Pure11 (Z : Zc) : Prop where
  b : ∀ env, InvL Z env → NxOk (InvL Z) (mlawB Z env)
  r : ∀ env, InvL Z env → RtOk (mlawR Z env)
theorem loop11 {Z : Zc} (p : Pure11 Z) : ∀ (ds : List D) (env : Env), InvL Z env → (forGoW (gV 2) (mlawB Z) ds env).wp (fun r => ∃ e, r = .nx e ∧ InvL Z e) (fun _ => False)
  | [], env, h => ⟨env, rfl, h⟩
  | d :: ds, env, h => by
    have h2 : gV 2 d env = some (env.set 2 (some (false, d))) := if_pos (by rw [h.1]; decide)
    refine W.wp_bind.mpr (W.wp_ofO.mpr ⟨_, h2, W.wp_bind.mpr (W.wp_mono (p.b _ ⟨by simpa using h.1, ?_⟩).h (fun r hr => ?_) fun _ z => z)⟩)
    · rw [List.getElem?_set_ne (by decide)]; exact h.2
    · obtain ⟨e, rfl, he⟩ := hr
      exact loop11 p ds e he
theorem inv0 {Z : Zc} {a : Addr} : InvL Z ((some (false, .raw (.ref a))) :: (some (false, .raw (.ref Z.p))) :: List.replicate 8 none) := ⟨by simp, rfl⟩
theorem ret_post {K : PySem.W.Frag} {c : Ct} {H0 G0 G : Hp} {DE : Ends} {E : Xn → Prop} {m : W Res} (h : RtOk m) (k : ∀ H', DE.rt (.bl true) H') : m.wp (postW K c H0 G0 G DE) E :=
  W.wp_mono h.h (fun r hr => by
    subst hr
    intro v G2 H2 _ rv
    cases rv
    exact k H2) fun _ z => z.elim
theorem loop_post {K : PySem.W.Frag} {c : Ct} {H0 G0 G : Hp} {DE : Ends} {E : Xn → Prop} {m : W Res} {I : Env → Prop} (h : m.wp (fun r => ∃ e, r = .nx e ∧ I e) (fun _ => False)) (k : ∀ e, I e → ∀ σ' G' H', RsW K c H0 G0 e σ' G' H' → DE.nx σ' H') : m.wp (postW K c H0 G0 G DE) E :=
  W.wp_mono h (fun r hr => by
    obtain ⟨e, rfl, he⟩ := hr
    exact fun σ' G' H' rs' _ => k e he σ' G' H' rs') fun _ z => z.elim
def sp11 (K : PySem.W.Frag) : Sp := fun vs H Q _ => ∃ (a : Addr) (ns : List Int), vs = [.ref a] ∧ SqL K H a (ns.map V.int) ∧ ns.length ≤ 63 ∧ (∀ x ∈ T11 K, H x.1 = some (.tbl #[])) ∧ ∀ H', Q (.bl true) H'
theorem bn11 {P : Program} {w : World} {K : PySem.W.Frag} {mg : Str → Option Value} {base : Heap} {h : Heap} (Y : K.In h) (G : h.Ns mainGlobals mg) (c : SaysY fa11 fn11 ds11 tf11 ex11 w h K) : ∃ fd, FnOk P w K mg base CX0 1 (He.ga K "_law_begun") fd ["script"] (spBegun K) ∧ L2.Fun K "_law_begun" "_law_begun" s_law_begun (He.ga K "_law_begun") fd := by
  obtain ⟨fd, F⟩ := f__law_begun c.x.t.d
  exact ⟨fd, ok_begun F (bt11 Y G c.x.t.d), F⟩
theorem t1 {K : PySem.W.Frag} {p : Addr} {e : Env} (pu : ∀ p, Pure11 (Zf K p)) (he : InvL (Zf K p) e) : RtOk (mlawR (Zf K p) e) := (pu p).r e he
theorem t2 {K : PySem.W.Frag} {c : Ct} {E : XK} {H0 G0 G H : Hp} {DE : Ends} {m : Sw} {e : Env} {σ : L2.St} (rs : RsW K c H0 G0 e σ G H) (h : RtOk (m e)) (k : ∀ H', DE.rt (.bl true) H') : tSw K c E m DE σ H := ⟨H0, G0, e, G, rs, ret_post h k⟩
theorem run11 {w : World} {K : PySem.W.Frag} {mg : Str → Option Value} {base h : Heap} (Y : K.In h) (G : h.Ns mainGlobals mg) (c : SaysY fa11 fn11 ds11 tf11 ex11 w h K) (TB : ∀ p ∈ [He.cT K ("law", none), He.cT K ("_law_right", none)], LamX.TabB base mg p.1 p.2) (pure : ∀ p, Pure11 (Zf K p)) :
    Run P11 w K mg base (L2.CX P11 w) (He.ga K "law") (sp11 K) := by
  have cd := c.x.t.d
  have T := bt11 Y G cd
  obtain ⟨fdL, FL⟩ := cd.defs (d := dlaw) (fn_in 51)
  obtain ⟨fdB, OB, FB⟩ := bn11 (P := P11) (base := base) Y G c
  have bB : Binds K fdB ["script"] [] := FB.binds fun _ _ _ _ _ _ us hl => match us, hl with | [_], _ => rfl
  refine run_body (x := "script") (N := N11) FL sclaw (fun s u => ?_) (by decide) fun cdv s H v Q E hcd hsp => ?_
  · exact (FunD.bindsA (ps := ["script"]) FL fun _ _ _ _ _ _ us hl => match us, hl with | [_], _ => rfl) s [u] rfl
  obtain ⟨hcd, hcd2⟩ := hcd
  obtain ⟨a, ns, e0, hS, hlen, hT, k⟩ := hsp
  obtain rfl : v = .ref a := by simpa using e0
  have hr : Room 12 (callerA.deeper (PyProof.Rows.envOfC "law" (defScope slaw) s.heap.objs.size (He.ga K "law") cdv)) := (⟨rfl, by decide, by decide⟩ : Room 13 callerA).deeper _
  have hr1 := hr.mono (show 1 ≤ 12 by decide)
  -- the draws begin, then all turns
  have body := fun (p l q : Addr) => body11 (l := l) (q := q) Y G c TB (fun_of FL) p cdv callerA [] s H E rfl hcd2 hr
  let X := cxOf (L2.CX P11 w) P11 w K mg base N11 "law" (defScope slaw) (He.ga K "law") cdv callerA [] s H E
  have hfor : PSs X (forBody ((defBody slaw).getD 1 (.Pass ⟨0, 0, 0, 0⟩))) (fun D σ H => ∃ p l q : Addr, tSw K (ctD p l q (T11 K)) E (mlawB (Zf K p)) D σ H) := ⟨fun pins s σ H D I ⟨p, l, q, h⟩ => (body p l q).1.run pins s σ H D I h⟩
  have hret : PS X ((defBody slaw).getD 2 (.Pass ⟨0, 0, 0, 0⟩)) (fun D σ H => ∃ p l q : Addr, tSw K (ctD p l q (T11 K)) E (mlawR (Zf K p)) D σ H) := ⟨fun pins s σ H D I ⟨p, l, q, h⟩ => (body p l q).2.run pins s σ H D I h⟩
  refine ⟨_, pss_cons (ps_set (i := 1) sclaw.nd rfl (Or.inl rfl) (pe_call OB hr1 rfl (g__law_begun Y G cd) FB.kp bB .nil pass0 (pa_cons (pv 0) pa_nil)))
    (pss_cons (ps_for (X := X) (passes_of rfl) rfl (pi_range1 rfl T.range (pa_cons (pe_op op_add pe_int (pe_callB (call_min2 rfl) rfl T.min (by decide +kernel) (pa_cons (pe_callB call_len_seq rfl T.len PySem.boot_len (pa_cons (pv 0) pa_nil)) (pa_cons pe_int pa_nil)))) pa_nil)) (ok_gV (vs := [2]) 2 sclaw.nd) hfor)
    (pss_one hret)), ?_⟩
  refine ⟨.ref a, rfl, a, ns, rfl, hS, hlen, fun p l q H1 sm hp hl hD => ?_⟩
  have tabs1 : LamX.Tabs (T11 K) H1 := fun x hx => LamX.TabS.nil (sm _ _ (hT x hx))
  refine ⟨.ref a, rfl, ?_⟩
  refine ⟨a, ns.map V.int, rfl, .inl (sm.seq hS), ?_⟩
  refine ⟨_, _, rfl, _, _, rfl, rfl, ?_⟩
  generalize hj : (3 + if (9 : Int) < ((ns.map V.int).length : Nat) then (9 : Int) else ((ns.map V.int).length : Nat)) = j
  have hj1 : 0 ≤ j ∧ j ≤ 12 := by
    rw [← hj]
    split <;> omega
  refine ⟨j, by rw [← hj], by omega, by omega, ?_⟩
  have rs := law_start (K := K) (T := T11 K) (a := a) (N := 10) hD tabs1 (by decide)
  have hw : (forGoW (gV 2) (mlawB (Zf K p)) (rangeD 0 j.toNat) ((some (false, .raw (.ref a))) :: (some (false, .raw (.ref p))) :: List.replicate 8 none)).wp
      (postW K (ctD p l q (T11 K)) H1 (fun _ => none) (fun _ => none) { nx := fun σ H => ∃ p l q : Addr, tSw K (ctD p l q (T11 K)) E (mlawR (Zf K p)) { nx := fun _ H' => Q .non H', rt := Q } σ H, rt := Q }) (XcK K (ctD p l q (T11 K)) H1 E) := by
    refine loop_post (I := InvL (Zf K p)) (loop11 (Z := Zf K p) (pure p) (rangeD 0 j.toNat) _ (inv0 (Z := Zf K p) (a := a))) fun e he σ' G' H' rs' => ?_
    exact ⟨p, l, q, t2 (m := mlawR (Zf K p)) rs' (t1 pure he) k⟩
  obtain ⟨W, w0, wk⟩ := forW_tail (vs := [2]) (J := Itr 0 j.toNat) rs (walks_range 0 j.toNat) hw
  refine ⟨W, w0, fun i m σ H2 hW => ?_⟩
  rcases wk i m σ H2 hW with h | ⟨h1, N, h2, h3⟩
  · exact .inl h
  · refine .inr ⟨h1, N, h2, fun x H3 hy => ?_⟩
    obtain ⟨O, env, G2, d, env', a1, a2, a3, a4⟩ := h3 x H3 hy
    exact ⟨O, env, G2, d, env', a1, a2, a3, fun σ2 b1 b2 => ⟨p, l, q, a4 σ2 b1 b2⟩⟩
theorem law11 {w : World} {K : PySem.W.Frag} {mg : Str → Option Value} {h : Heap} (Y : K.In h) (G : h.Ns mainGlobals mg) (c : SaysY fa11 fn11 ds11 tf11 ex11 w h K) (pure : ∀ p, Pure11 (Zf K p)) {fa : Addr} (hfa : mg "law" = some (.ref fa)) :
    ∃ (cs : List (Addr × Addr)) (sp : Sp), (∀ p ∈ cs, h.get? p.2 = some { cls := .none, data := .fields #[] }) ∧ (∀ p ∈ cs, K.lookup p.2 = none) ∧ (∀ p ∈ cs, PySem.W.CodeHd h p.1 p.2) ∧
    (∀ (H : Hp) (a : Addr) (ns : List Int), ns.length ≤ 63 → (∀ z ∈ ns, Builtin.Int.intBits z ≤ 1048576) → (∀ p ∈ cs, H p.2 = some (.tbl #[])) → SqL K H a (ns.map V.int) → sp [.ref a] H (fun v _ => v = .bl true) fun _ _ _ => False) ∧
    ∀ base : Heap, K.In base → base.Ns mainGlobals mg → (∀ p ∈ cs, LamX.TabB base mg p.1 p.2) → Run P11 w K mg base (L2.CX P11 w) fa sp := by
  have cd := c.x.t.d
  obtain rfl : fa = He.ga K "law" := by
    have e := hfa.symm.trans (g_law Y G cd)
    cases e; rfl
  have two : ∀ p ∈ [He.cT K ("law", none), He.cT K ("_law_right", none)], ∃ d ∈ tf11, p = He.cT K d := fun p hp => by
    simp only [List.mem_cons, List.not_mem_nil, or_false] at hp
    rcases hp with rfl | rfl
    · exact ⟨_, List.mem_cons_self, rfl⟩
    · exact ⟨_, List.mem_cons_of_mem _ List.mem_cons_self, rfl⟩
  refine ⟨[He.cT K ("law", none), He.cT K ("_law_right", none)], sp11 K, fun p hp => ?_, fun p hp => ?_, fun p hp => ?_, fun H a ns hl _ hT hS => ⟨a, ns, rfl, hS, hl, fun x hx => ?_, fun _ => rfl⟩, fun base Kb Gb TB => run11 Y G c TB pure⟩
  · obtain ⟨d, hd, rfl⟩ := two p hp
    exact c.x.empty d hd
  · obtain ⟨d, hd, rfl⟩ := two p hp
    exact c.x.out d hd
  · obtain ⟨d, hd, rfl⟩ := two p hp
    exact PySem.W.codeHd_of_K Y (c.x.hd d hd)
  · simp only [T11, List.mem_cons, List.not_mem_nil, or_false] at hx
    rcases hx with rfl | rfl
    · exact hT _ (by simp)
    · exact hT _ (by simp)
end Sh
end Part_E11q

section Part_E11z
set_option maxRecDepth 100000
set_option maxHeartbeats 4000000
/-! E11z: k11 holds. -/
namespace Sh
theorem nx_conv {m : Sw} {env : Env} {I J : Env → Prop} (h : NxW m env I) (k : ∀ e, I e → J e) : NxOk J (m env) := ⟨(h.mono k).h⟩
theorem rt_conv {m : Sw} {env : Env} (h : RtW m env (fun d => d = .bl true)) : RtOk (m env) := ⟨W.wp_mono h.h (fun r ⟨d, hr, hd⟩ => by subst hd; exact hr) fun _ z => z⟩
theorem il_of {Z : Zc} {env : Env} (h : InvL Z env) : IL Z env := by
  obtain ⟨h1, h2⟩ := h
  match env, h1, h2 with
  | [x0, x1, x2, x3, x4, x5, x6, x7, x8, x9], _, h2 =>
    have e : x1 = some (false, .raw (.ref Z.p)) := by simpa using h2
    subst e
    exact ⟨x0, x2, x3, x4, x5, x6, x7, x8, x9, rfl⟩
theorem pure11 {Z : Zc} (h : (XS Z).Nodup) : Pure11 Z where
  b := fun env hi => nx_conv (lawB h (il_of hi)) fun e ⟨x0, x2, x3, x4, x5, x6, x7, x8, x9, he⟩ => by subst he; exact ⟨rfl, rfl⟩
  r := fun env hi => rt_conv (lawR env)
end Sh
open PySem PySem.W PySem.Calls PyProof.Rows
theorem PySem.Challenge.cw_wallscut_k11_whole_points_and_signs_holds : PySem.Challenge.rw_wallscut_k11_whole_points_and_signs.Holds := by
  w_on; o_law
  refine HandSHeadRun.head_imp (r := OpenLaw.row PySem.Challenge.rw_wallscut_k11_whole_points_and_signs) (q := view (OpenLaw.row PySem.Challenge.rw_wallscut_k11_whole_points_and_signs).prog [0, 72]) (H := Sh.hk11) (ob := Sh.ob11) (M := 20000) (loose := Sh.nms11) (d := HandSHeadRun.topDef (OpenLaw.row PySem.Challenge.rw_wallscut_k11_whole_points_and_signs).prog 72) (kwd := []) Sh.ob11_eq
    Sh.run_head11 (by kernel_rfl) (by kernel_rfl) (by kernel_rfl) (by rfl) (by first | assumption | decide +kernel) (by decide +kernel) ⟨rfl, rfl, rfl, rfl, rfl, by decide +kernel⟩ ?hw ?hc
  case hw => w_witness2
  case hc =>
    refine Sh.walk_G (l := PySem.Challenge.rw_wallscut_k11_whole_points_and_signs) (n := 63) (CX := fun w => L2.CX Sh.P11 w) rfl (by decide) (by kernel_rfl) ?F (fun _ _ _ _ _ z => ?e)
    case e =>
      obtain ⟨_, _, _, _, _, _, _, _, _, _, _, _, z⟩ := z
      exact z
    intro w mg fa h Y G hmg0
    obtain ⟨K, KX, c⟩ := Y
    have hmg : mg ("law" : PySem.Str) = some (.ref fa) := by
      have e : (HandSHeadRun.topDef (OpenLaw.row PySem.Challenge.rw_wallscut_k11_whole_points_and_signs).prog 72).name = ("law" : PySem.Str) := by kernel_rfl
      rw [← e]
      exact hmg0
    have nd := (Sh.x11_parts c.x.more).2.2.2.2.2.2.2.2.1
    exact ⟨K, KX, Sh.law11 KX G c (fun p => Sh.pure11 (Z := Sh.Zf K p) nd) hmg⟩
#print axioms PySem.Challenge.cw_wallscut_k11_whole_points_and_signs_holds
end Part_E11z
