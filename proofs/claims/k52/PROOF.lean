import PyProof.Rows.All
import Wide.All
import OpenK.AllK
import Wide.FinOn
import HandS.ForMost
import HandS.Flow
import HandS.IsInst
import HandS.Walk
import HandS.Zip
import HandS.Defaults
import HandS.MakeKwOnly
import HandS.More
import HandS.Style
import KE.GoesNew
import HandS.Strs
import PySem.Challenge.RW_leastimage_k52_values_added_and_taken
set_option Elab.async false
set_option linter.all false
set_option maxRecDepth 100000
set_option maxHeartbeats 4000000
/-! Y1: data, and a logic over data alone: environments of data, expressions that give data, statements. -/
namespace Y
open PySem L2

/-- a datum: what a value means, without addresses -/
inductive Dt where
  | non
  | bl (b : Bool)
  | int (i : Int)
  | str (s : Str)
  | lst (xs : List Dt)
  | tup (xs : List Dt)
  | obj (C : Addr) (ns : List Str) (xs : List Dt)
  | dct (ks : List Key) (xs : List Dt)
  | ali (a : Addr)

mutual
inductive Rp (K : PySem.W.Frag) (F : Hp) : V → Dt → Prop
  | non : Rp K F .non .non
  | bl (b : Bool) : Rp K F (.bl b) (.bl b)
  | int (i : Int) : Rp K F (.int i) (.int i)
  | str (x : Str) : Rp K F (.str x) (.str x)
  | lst {a : Addr} {xs : List V} {ds : List Dt} : F a = some (.lst xs) → RpAll K F xs ds → Rp K F (.ref a) (.lst ds)
  | tup {a : Addr} {xs : List V} {ds : List Dt} : SqT K F a xs → RpAll K F xs ds → Rp K F (.ref a) (.tup ds)
  | obj {a C dx : Addr} {ns : List Str} {fs : List (Str × V)} {xs : List V} {ds : List Dt} : F a = some (.ins C dx fs) → fs.map (·.1) = ns → fs.map (·.2) = xs → RpAll K F xs ds → Rp K F (.ref a) (.obj C ns ds)
  | dct {a : Addr} {ks : List Key} {kvs : List (Key × V)} {xs : List V} {ds : List Dt} : F a = some (.dK kvs) → kvs.map (·.1) = ks → kvs.map (·.2) = xs → RpAll K F xs ds → Rp K F (.ref a) (.dct ks ds)
  | ali (a : Addr) : Rp K F (.ref a) (.ali a)
inductive RpAll (K : PySem.W.Frag) (F : Hp) : List V → List Dt → Prop
  | nil : RpAll K F [] []
  | cons {v : V} {vs : List V} {d : Dt} {ds : List Dt} : Rp K F v d → RpAll K F vs ds → RpAll K F (v :: vs) (d :: ds)
end

section mono
variable {K : PySem.W.Frag} {F F' : Hp}
theorem sqL_mono {a : Addr} {xs : List V} (e : Same F F') (h : SqL K F a xs) : SqL K F' a xs := e.seq h
theorem sqT_mono {a : Addr} {xs : List V} (e : Same F F') (h : SqT K F a xs) : SqT K F' a xs := by
  rcases h with (h | ⟨o, h⟩) | h
  · exact .inl (.inl (e _ _ h))
  · exact .inl (.inr ⟨o, e _ _ h⟩)
  · exact .inr h
mutual
theorem Rp.mono (e : Same F F') : ∀ {v : V} {d : Dt}, Rp K F v d → Rp K F' v d
  | _, _, .non => .non
  | _, _, .bl b => .bl b
  | _, _, .int i => .int i
  | _, _, .str x => .str x
  | _, _, .lst h r => .lst (e _ _ h) (RpAll.mono e r)
  | _, _, .tup h r => .tup (sqT_mono e h) (RpAll.mono e r)
  | _, _, .obj h h1 h2 r => .obj (e _ _ h) h1 h2 (RpAll.mono e r)
  | _, _, .dct h h1 h2 r => .dct (e _ _ h) h1 h2 (RpAll.mono e r)
  | _, _, .ali a => .ali a
theorem RpAll.mono (e : Same F F') : ∀ {vs : List V} {ds : List Dt}, RpAll K F vs ds → RpAll K F' vs ds
  | _, _, .nil => .nil
  | _, _, .cons h t => .cons (Rp.mono e h) (RpAll.mono e t)
end
theorem RpAll.length : ∀ {vs : List V} {ds : List Dt}, RpAll K F vs ds → vs.length = ds.length
  | _, _, .nil => rfl
  | _, _, .cons _ t => congrArg (· + 1) (RpAll.length t)
theorem RpAll.get : ∀ {vs : List V} {ds : List Dt} {i : Nat} {d : Dt}, RpAll K F vs ds → ds[i]? = some d → ∃ v, vs[i]? = some v ∧ Rp K F v d
  | _, _, _, _, .nil, e => by simp at e
  | _, _, 0, _, .cons r _, e => by simp at e; subst e; exact ⟨_, rfl, r⟩
  | _, _, i + 1, d, .cons _ t, e => by
    obtain ⟨v, h1, h2⟩ := RpAll.get (i := i) (d := d) t (by simpa using e)
    exact ⟨v, by simpa using h1, h2⟩
theorem RpAll.getV : ∀ {vs : List V} {ds : List Dt} {i : Nat} {v : V}, RpAll K F vs ds → vs[i]? = some v → ∃ d, ds[i]? = some d ∧ Rp K F v d
  | _, _, _, _, .nil, e => by simp at e
  | _, _, 0, _, .cons r _, e => by simp at e; subst e; exact ⟨_, rfl, r⟩
  | _, _, i + 1, v, .cons _ t, e => by
    obtain ⟨d, h1, h2⟩ := RpAll.getV (i := i) (v := v) t (by simpa using e)
    exact ⟨d, by simpa using h1, h2⟩
theorem RpAll.app : ∀ {vs ws : List V} {ds es : List Dt}, RpAll K F vs ds → RpAll K F ws es → RpAll K F (vs ++ ws) (ds ++ es)
  | _, _, _, _, .nil, s => s
  | _, _, _, _, .cons r t, s => .cons r (RpAll.app t s)
theorem RpAll.take : ∀ {vs : List V} {ds : List Dt} (n : Nat), RpAll K F vs ds → RpAll K F (vs.take n) (ds.take n)
  | _, _, 0, _ => by simp; exact .nil
  | _, _, _ + 1, .nil => .nil
  | _, _, n + 1, .cons r t => .cons r (RpAll.take n t)
theorem RpAll.drop : ∀ {vs : List V} {ds : List Dt} (n : Nat), RpAll K F vs ds → RpAll K F (vs.drop n) (ds.drop n)
  | _, _, 0, r => r
  | _, _, _ + 1, .nil => .nil
  | _, _, n + 1, .cons _ t => RpAll.drop n t
theorem RpAll.set {d : Dt} {v : V} (r : Rp K F v d) : ∀ {vs : List V} {ds : List Dt} (i : Nat), RpAll K F vs ds → RpAll K F (vs.set i v) (ds.set i d)
  | _, _, _, .nil => .nil
  | _, _, 0, .cons _ t => .cons r t
  | _, _, i + 1, .cons q t => .cons q (RpAll.set r i t)
theorem RpAll.ints : ∀ {vs : List V} {ns : List Int}, RpAll K F vs (ns.map Dt.int) → vs = ns.map V.int
  | _, [], h => by cases h; rfl
  | _, n :: ns, h => by
    cases h with
    | cons r t => cases r; rw [RpAll.ints t]; rfl
theorem RpAll.bls : ∀ {vs : List V} {ns : List Bool}, RpAll K F vs (ns.map Dt.bl) → vs = ns.map V.bl
  | _, [], h => by cases h; rfl
  | _, n :: ns, h => by
    cases h with
    | cons r t => cases r; rw [RpAll.bls t]; rfl
theorem RpAll.texts : ∀ {vs : List V} {ns : List Str}, RpAll K F vs (ns.map Dt.str) → vs = ns.map V.str
  | _, [], h => by cases h; rfl
  | _, n :: ns, h => by
    cases h with
    | cons r t => cases r; rw [RpAll.texts t]; rfl
theorem RpAll.of_ints : ∀ {ns : List Int}, RpAll K F (ns.map V.int) (ns.map Dt.int)
  | [] => .nil
  | n :: ns => .cons (.int n) RpAll.of_ints
end mono

/-- the state of the drawing: a list of five, its ints, what was taken, a rest, a mixed number, a count -/
def BagD (xs : List Dt) : Prop := ∃ (ns : List Int) (i r m k : Int), xs = [.lst (ns.map Dt.int), .int i, .int r, .int m, .int k] ∧ 0 ≤ i ∧ 0 ≤ r ∧ 0 ≤ m ∧ m < 2147483648
def BagAt (K : PySem.W.Frag) (F H : Hp) (b : Addr) : Prop := F b = none ∧ ∃ vs xs, H b = some (.lst vs) ∧ RpAll K F vs xs ∧ BagD xs

/-- what a slot of a frame is known to hold -/
inductive Sl where
  | no
  | any
  | d (x : Dt)
  | r (v : V)
  | own (a : Addr) (xs : List Dt)

def SlOk (K : PySem.W.Frag) (F H : Hp) : Option V → Sl → Prop
  | _, .any => True
  | o, .no => o = none
  | o, .d x => ∃ v, o = some v ∧ Rp K F v x
  | o, .r v => o = some v
  | o, .own a xs => ∃ vs, o = some (.ref a) ∧ F a = none ∧ H a = some (.lst vs) ∧ RpAll K F vs xs

/-- what a body of a def stands on: the written part, what is known and the heap at its start, the address of the drawing -/
structure Bs where
  K : PySem.W.Frag
  F0 : Hp
  H0 : Hp
  bag : Option Addr

structure Stt (B : Bs) (es : List Sl) (σ : St) (F H : Hp) : Prop where
  sub : Same F H
  s0 : Same B.F0 F
  ou : ∀ c, B.H0 c ≠ none → B.F0 c = none → F c = none
  fr : ∀ c o, B.H0 c = some o → B.bag ≠ some c → H c = some o
  bg : ∀ b, B.bag = some b → BagAt B.K F H b
  len : σ.length = es.length
  ok : ∀ (i : Nat) e o, es[i]? = some e → σ[i]? = some o → SlOk B.K F H o e
  ow : ∀ (i : Nat) a xs, es[i]? = some (.own a xs) → B.H0 a = none ∧ B.bag ≠ some a
  dis : ∀ (i j : Nat) a b xs ys, i ≠ j → es[i]? = some (.own a xs) → es[j]? = some (.own b ys) → a ≠ b

/-- the heap goes on: all stays but the drawing; what was outside F stays outside -/
structure Go (B : Bs) (F H F' H' : Hp) : Prop where
  s1 : Same F F'
  s2 : Same F' H'
  nw : ∀ c, H c ≠ none → F c = none → F' c = none
  kp : ∀ c o, B.bag ≠ some c → H c = some o → H' c = some o
  bg : ∀ b, B.bag = some b → BagAt B.K F' H' b

theorem same_upd {H : Hp} {p : Addr} {o : HO} (h : H p = none) : Same H (upd H p o) := fun b u e => by
  rw [upd_ne (ne_of_none e h)]
  exact e
theorem same_updF {F H : Hp} {p : Addr} {o : HO} (s : Same F H) : Same (upd F p o) (upd H p o) := fun b u e => by
  by_cases hb : b = p
  · subst hb; rw [upd_same] at e ⊢; exact e
  · rw [upd_ne hb] at e ⊢; exact s b u e
theorem same_none {F H : Hp} {p : Addr} (s : Same F H) (h : H p = none) : F p = none := s.free h

section
variable {B : Bs} {es : List Sl} {σ : St} {F H F1 H1 F2 H2 : Hp}
theorem Go.trans (a : Go B F H F1 H1) (b : Go B F1 H1 F2 H2) : Go B F H F2 H2 where
  s1 := a.s1.trans b.s1
  s2 := b.s2
  nw := fun c h1 h2 => by
    refine b.nw c ?_ (a.nw c h1 h2)
    by_cases hb : B.bag = some c
    · obtain ⟨_, vs, _, k, _⟩ := a.bg c hb
      rw [k]; simp
    · cases e : H c with
      | none => exact absurd e h1
      | some o => rw [a.kp c o hb e]; simp
  kp := fun c o h1 h2 => b.kp c o h1 (a.kp c o h1 h2)
  bg := b.bg
theorem Stt.refl (S : Stt B es σ F H) : Go B F H F H := ⟨Same.refl F, S.sub, fun _ _ h => h, fun _ _ _ h => h, S.bg⟩
theorem Stt.slot {i : Nat} {e : Sl} (S : Stt B es σ F H) (h : es[i]? = some e) : ∃ o, σ[i]? = some o ∧ SlOk B.K F H o e := by
  have hl : i < es.length := (List.getElem?_eq_some_iff.mp h).1
  rw [← S.len] at hl
  exact ⟨σ[i], by simp [hl], S.ok i e _ h (by simp [hl])⟩
theorem Stt.dat {i : Nat} {x : Dt} (S : Stt B es σ F H) (h : es[i]? = some (.d x)) : ∃ v, σ[i]? = some (some v) ∧ Rp B.K F v x := by
  obtain ⟨o, h1, v, rfl, h2⟩ := S.slot h
  exact ⟨v, h1, h2⟩
theorem Stt.raw {i : Nat} {v : V} (S : Stt B es σ F H) (h : es[i]? = some (.r v)) : σ[i]? = some (some v) := by
  obtain ⟨o, h1, h2⟩ := S.slot h
  rw [h1, h2]
theorem Stt.live (S : Stt B es σ F H) {c : Addr} (h : B.H0 c ≠ none) : H c ≠ none := by
  by_cases hb : B.bag = some c
  · obtain ⟨_, vs, _, k, _⟩ := S.bg c hb
    rw [k]; simp
  · cases e : B.H0 c with
    | none => exact absurd e h
    | some o => rw [S.fr c o e hb]; simp
theorem Stt.go {F' H' : Hp} (S : Stt B es σ F H) (g : Go B F H F' H') : Stt B es σ F' H' where
  sub := g.s2
  s0 := S.s0.trans g.s1
  ou := fun c h1 h2 => g.nw c (S.live h1) (S.ou c h1 h2)
  fr := fun c o h1 h2 => g.kp c o h2 (S.fr c o h1 h2)
  bg := g.bg
  len := S.len
  ok := fun i e o h1 h2 => by
    have h := S.ok i e o h1 h2
    cases e with
    | no => exact h
    | any => trivial
    | d x => obtain ⟨v, k1, k2⟩ := h; exact ⟨v, k1, k2.mono g.s1⟩
    | r v => exact h
    | own a xs =>
      obtain ⟨vs, k1, k2, k3, k4⟩ := h
      exact ⟨vs, k1, g.nw a (by rw [k3]; simp) k2, g.kp a _ (S.ow i a xs h1).2 k3, k4.mono g.s1⟩
  ow := S.ow
  dis := S.dis
/-- nothing that stood changes -/
theorem Stt.pure {F' H' : Hp} (S : Stt B es σ F H) (s1 : Same F F') (s2 : Same F' H') (hn : ∀ c, H c ≠ none → F c = none → F' c = none) (s3 : Same H H') : Go B F H F' H' :=
  ⟨s1, s2, hn, fun c o _ h => s3 c o h, fun b hb => by
    obtain ⟨h1, vs, xs, h2, h3, h4⟩ := S.bg b hb
    exact ⟨hn b (by rw [h2]; simp) h1, vs, xs, s3 _ _ h2, h3.mono s1, h4⟩⟩
/-- a new object, known as a datum -/
theorem Stt.alloc {p : Addr} {o : HO} (S : Stt B es σ F H) (h : H p = none) : Go B F H (upd F p o) (upd H p o) :=
  S.pure (same_upd (same_none S.sub h)) (same_updF S.sub) (fun c hc hf => by
    rw [upd_ne (fun e => hc (by rw [e]; exact h))]
    exact hf) (same_upd h)
/-- a new object that is not yet known as a datum -/
theorem Stt.allocO {p : Addr} {o : HO} (S : Stt B es σ F H) (h : H p = none) : Go B F H F (upd H p o) :=
  S.pure (Same.refl F) (S.sub.trans (same_upd h)) (fun _ _ hf => hf) (same_upd h)
theorem Stt.new0 {p : Addr} (S : Stt B es σ F H) (h : H p = none) : B.H0 p = none := by
  cases e : B.H0 p with
  | none => rfl
  | some o => exact absurd h (S.live (by rw [e]; simp))
theorem Stt.newB {p : Addr} (S : Stt B es σ F H) (h : H p = none) : B.bag ≠ some p := fun hb => by
  obtain ⟨_, vs, _, k, _⟩ := S.bg p hb
  rw [h] at k; cases k
theorem Stt.newS {p a : Addr} (S : Stt B es σ F H) (h : H p = none) (i : Nat) (ys : List Dt) (hi : es[i]? = some (.own a ys)) : a ≠ p := fun hs => by
  obtain ⟨o, _, ws, z1, z2, z3, z4⟩ := S.slot hi
  rw [hs, h] at z3; cases z3
end

/-! ### what an expression gives: backwards, from what is wanted of its datum -/
def Ev (B : Bs) (te : TE) (es : List Sl) (P : Dt → Prop) : Prop := ∀ σ F H, Stt B es σ F H → ∀ Q : VK,
  (∀ v d F' H', Go B F H F' H' → Rp B.K F' v d → P d → Q v H') → te σ H Q
def EvT (B : Bs) (tt : TT) (es : List Sl) (P : Bool → Prop) : Prop := ∀ σ F H, Stt B es σ F H → ∀ Q : Bool → Hp → Prop,
  (∀ b F' H', Go B F H F' H' → P b → Q b H') → tt σ H Q
def EvA (B : Bs) (ta : TA) (es : List Sl) (P : List Dt → Prop) : Prop := ∀ σ F H, Stt B es σ F H → ∀ Q : List V → Hp → Prop,
  (∀ vs ds F' H', Go B F H F' H' → RpAll B.K F' vs ds → P ds → Q vs H') → ta σ H Q
def EvO (B : Bs) (te : TE) (es : List Sl) (P : List Dt → Prop) : Prop := ∀ σ F H, Stt B es σ F H → ∀ Q : VK,
  (∀ a vs xs F' H', Go B F H F' H' → H a = none → F' a = none → H' a = some (.lst vs) → RpAll B.K F' vs xs → P xs → Q (.ref a) H') → te σ H Q

section
variable {B : Bs} {es : List Sl} {σ : St} {F H : Hp}
theorem Ev.imp {te : TE} {P P' : Dt → Prop} (h : Ev B te es P) (hp : ∀ d, P d → P' d) : Ev B te es P' := fun σ F H S Q q => h σ F H S Q fun v d F' H' a b c => q v d F' H' a b (hp d c)
theorem EvT.imp {te : TT} {P P' : Bool → Prop} (h : EvT B te es P) (hp : ∀ d, P d → P' d) : EvT B te es P' := fun σ F H S Q q => h σ F H S Q fun d F' H' a b => q d F' H' a (hp d b)
theorem EvO.imp {te : TE} {P P' : List Dt → Prop} (h : EvO B te es P) (hp : ∀ d, P d → P' d) : EvO B te es P' := fun σ F H S Q q => h σ F H S Q fun a vs d F' H' g n f l r c => q a vs d F' H' g n f l r (hp d c)
theorem EvA.imp {te : TA} {P P' : List Dt → Prop} (h : EvA B te es P) (hp : ∀ d, P d → P' d) : EvA B te es P' := fun σ F H S Q q => h σ F H S Q fun v d F' H' a b c => q v d F' H' a b (hp d c)
/-- a new list at a, outside what is known, becomes known -/
theorem Go.freeze {F' H' : Hp} {a : Addr} {vs : List V} (g : Go B F H F' H') (S : Stt B es σ F H) (h0 : H a = none) (h1 : F' a = none) (h2 : H' a = some (.lst vs)) : Go B F H (upd F' a (.lst vs)) H' where
  s1 := g.s1.trans (same_upd h1)
  s2 := fun c o e => by
    by_cases hc : c = a
    · subst hc; rw [upd_same] at e; rw [h2, e]
    · rw [upd_ne hc] at e; exact g.s2 c o e
  nw := fun c hc hf => by
    rw [upd_ne (fun e => hc (by rw [e]; exact h0))]
    exact g.nw c hc hf
  kp := g.kp
  bg := fun b hb => by
    obtain ⟨k1, ws, ys, k2, k3, k4⟩ := g.bg b hb
    have hba : b ≠ a := fun q => S.newB h0 (by rw [hb, q])
    exact ⟨by rw [upd_ne hba]; exact k1, ws, ys, k2, k3.mono (same_upd h1), k4⟩
theorem EvO.ev {te : TE} {P : Dt → Prop} (h : EvO B te es fun xs => P (.lst xs)) : Ev B te es P := fun σ F H S Q q =>
  h σ F H S Q fun a vs xs F' H' g h0 h1 h2 r p => q (.ref a) (.lst xs) (upd F' a (.lst vs)) H' (g.freeze S h0 h1 h2) (.lst upd_same (r.mono (same_upd h1))) p
theorem ev_var {i : Nat} {x : Dt} {P : Dt → Prop} (h : es[i]? = some (.d x)) (hp : P x) : Ev B (tVar i) es P := fun σ F H S Q q => by
  obtain ⟨v, h1, h2⟩ := S.dat h
  exact ⟨v, h1, q v x F H S.refl h2 hp⟩
/-- a list of one's own that is not changed any more in this expression: read as a datum of a copy -/
theorem ev_int {i : Int} {P : Dt → Prop} (hp : P (.int i)) : Ev B (tC (.int i)) es P := fun σ F H S Q q => q _ _ F H S.refl (.int i) hp
theorem ev_str {i : Str} {P : Dt → Prop} (hp : P (.str i)) : Ev B (tC (.str i)) es P := fun σ F H S Q q => q _ _ F H S.refl (.str i) hp
theorem ev_bl {i : Bool} {P : Dt → Prop} (hp : P (.bl i)) : Ev B (tC (.bl i)) es P := fun σ F H S Q q => q _ _ F H S.refl (.bl i) hp
theorem ev_non {P : Dt → Prop} (hp : P .non) : Ev B (tC .non) es P := fun σ F H S Q q => q _ _ F H S.refl .non hp
/-- a datum of the written part -/
def KD (K : PySem.W.Frag) (v : V) (d : Dt) : Prop := ∀ F, Rp K F v d
theorem ev_k {v : V} {d : Dt} {P : Dt → Prop} (k : KD B.K v d) (hp : P d) : Ev B (tC v) es P := fun σ F H S Q q => q _ _ F H S.refl (k F) hp
theorem ea_nil {P : List Dt → Prop} (hp : P []) : EvA B tNil es P := fun σ F H S Q q => q _ _ F H S.refl .nil hp
theorem ea_cons {te : TE} {tr : TA} {P : List Dt → Prop} (h : Ev B te es fun d => EvA B tr es fun ds => P (d :: ds)) : EvA B (tCons te tr) es P := fun σ F H S Q q =>
  h σ F H S _ fun v d F1 H1 g1 r1 p1 => p1 σ F1 H1 (S.go g1) _ fun vs ds F2 H2 g2 r2 p2 => q _ _ F2 H2 (g1.trans g2) (.cons (r1.mono g2.s1) r2) p2
theorem size_of {n : Nat} (h : n ≤ 100000) : n ≤ sizeLine := Nat.le_trans h (by decide)
theorem size_lt {n : Nat} (h : n < 100000) : n < sizeLine := Nat.lt_of_lt_of_le h (by decide)
theorem eo_lst {ta : TA} {P : List Dt → Prop} (h : EvA B ta es fun ds => ds.length ≤ 100000 ∧ P ds) : EvO B (tLst ta) es P := fun σ F H S Q q =>
  h σ F H S _ fun vs ds F1 H1 g1 r1 p1 => ⟨size_of (by rw [r1.length]; exact p1.1), fun p hp => by
    have S1 := S.go g1
    have h0 : H p = none := by
      cases e : H p with
      | none => rfl
      | some o => have := g1.kp p o (S1.newB hp) e; rw [hp] at this; cases this
    exact q p vs ds F1 (upd H1 p (.lst vs)) (g1.trans (S1.allocO hp)) h0 (same_none S1.sub hp) upd_same r1 p1.2⟩
theorem ev_lst {ta : TA} {P : Dt → Prop} (h : EvA B ta es fun ds => ds.length ≤ 100000 ∧ P (.lst ds)) : Ev B (tLst ta) es P := (eo_lst (P := fun ds => P (.lst ds)) h).ev
theorem ev_tup {ta : TA} {P : Dt → Prop} (h : EvA B ta es fun ds => ds.length ≤ 100000 ∧ P (.tup ds)) : Ev B (tTup ta) es P := fun σ F H S Q q =>
  h σ F H S _ fun vs ds F1 H1 g1 r1 p1 => ⟨size_of (by rw [r1.length]; exact p1.1), fun p hp => by
    have S1 := S.go g1
    have hF : F1 p = none := same_none S1.sub hp
    exact q (.ref p) (.tup ds) (upd F1 p (.tup vs)) (upd H1 p (.tup vs)) (g1.trans (S1.alloc hp)) (.tup (SqT.of upd_same) (r1.mono (same_upd hF))) p1.2⟩
theorem Go.new {F' H' : Hp} {p : Addr} (g : Go B F H F' H') (hb : B.bag ≠ some p) (h : H' p = none) : H p = none := by
  cases e : H p with
  | none => rfl
  | some o => have := g.kp p o hb e; rw [h] at this; cases this
end
end Y
/-! Y2: operators, tests, calls, statements, loops over data. -/
namespace Y
open PySem L2

section
variable {B : Bs} {es : List Sl}

/-! ### alternatives: one rule or another -/
theorem pe_alt {X : Cx} {e : Expr} {t u : TE} (h1 : PE X e t) (h2 : PE X e u) : PE X e (fun σ H Q => t σ H Q ∨ u σ H Q) :=
  ⟨fun pins s σ H Q I h => h.elim (h1.run pins s σ H Q I) (h2.run pins s σ H Q I)⟩
theorem pi_alt {X : Cx} {tg e : Expr} {t u : TI} (h1 : PI X tg e t) (h2 : PI X tg e u) : PI X tg e (fun σ H Q => t σ H Q ∨ u σ H Q) :=
  ⟨fun pins s σ H Q I h => h.elim (h1.run pins s σ H Q I) (h2.run pins s σ H Q I)⟩
def rAlt (r q : R2) : R2 := fun x y H Q => r x y H Q ∨ q x y H Q
theorem op_alt {X : Cx} {f : Value → Value → Sem Value} {r q : R2} (h1 : OpR X f r) (h2 : OpR X f q) : OpR X f (rAlt r q) := fun pins s σ H x y u v Q I rx ry h =>
  h.elim (h1 pins s σ H x y u v Q I rx ry) (h2 pins s σ H x y u v Q I rx ry)
def cAlt (r q : List V → Hp → VK → Prop) : List V → Hp → VK → Prop := fun xs H Q => r xs H Q ∨ q xs H Q
theorem call_alt {X : Cx} {f : Value} {r q : List V → Hp → VK → Prop} (h1 : CallR X f r) (h2 : CallR X f q) : CallR X f (cAlt r q) := fun pins s σ H xs us Q I rx h =>
  h.elim (h1 pins s σ H xs us Q I rx) (h2 pins s σ H xs us Q I rx)

/-! ### a two-place operation -/
def Op2 (B : Bs) (r : R2) (es : List Sl) (x y : Dt) (P : Dt → Prop) : Prop := ∀ σ F H v w, Stt B es σ F H → Rp B.K F v x → Rp B.K F w y → ∀ Q : VK,
  (∀ v d F' H', Go B F H F' H' → Rp B.K F' v d → P d → Q v H') → r v w H Q
theorem ev_op {r : R2} {ta tb : TE} {P : Dt → Prop} (h : Ev B ta es fun x => Ev B tb es fun y => Op2 B r es x y P) : Ev B (tOp r ta tb) es P := fun σ F H S Q q =>
  h σ F H S _ fun v x F1 H1 g1 r1 p1 => p1 σ F1 H1 (S.go g1) _ fun w y F2 H2 g2 r2 p2 => p2 σ F2 H2 v w ((S.go g1).go g2) (r1.mono g2.s1) r2 Q fun u d F3 H3 g3 r3 p3 => q u d F3 H3 ((g1.trans g2).trans g3) r3 p3
theorem o_altL {r q : R2} {x y : Dt} {P : Dt → Prop} (h : Op2 B r es x y P) : Op2 B (rAlt r q) es x y P := fun σ F H v w S a b Q k => .inl (h σ F H v w S a b Q k)
theorem o_altR {r q : R2} {x y : Dt} {P : Dt → Prop} (h : Op2 B q es x y P) : Op2 B (rAlt r q) es x y P := fun σ F H v w S a b Q k => .inr (h σ F H v w S a b Q k)
theorem o_i0 {g : Int → Int → Int} {i j : Int} {P : Dt → Prop} (hp : P (.int (g i j))) : Op2 B (rI0 fun i j => .int (g i j)) es (.int i) (.int j) P := fun σ F H v w S a b Q k => by
  cases a; cases b; exact ⟨i, j, rfl, rfl, k _ _ F H S.refl (.int _) hp⟩
theorem o_b0 {g : Int → Int → Bool} {i j : Int} {P : Dt → Prop} (hp : P (.bl (g i j))) : Op2 B (rI0 fun i j => .bl (g i j)) es (.int i) (.int j) P := fun σ F H v w S a b Q k => by
  cases a; cases b; exact ⟨i, j, rfl, rfl, k _ _ F H S.refl (.bl _) hp⟩
theorem o_i {C : Int → Int → Prop} {g : Int → Int → Int} {i j : Int} {P : Dt → Prop} (hc : C i j) (hp : P (.int (g i j))) : Op2 B (rI C fun i j => .int (g i j)) es (.int i) (.int j) P := fun σ F H v w S a b Q k => by
  cases a; cases b; exact ⟨i, j, rfl, rfl, hc, k _ _ F H S.refl (.int _) hp⟩
/-- == and != of scalars (no bool beside an int) -/
def dScal : Dt → Dt → Bool
  | .non, .non => true | .non, .int _ => true | .int _, .non => true | .non, .bl _ => true | .bl _, .non => true | .non, .str _ => true | .str _, .non => true
  | .int _, .int _ => true | .bl _, .bl _ => true | .str _, .str _ => true
  | .int _, .str _ => true | .str _, .int _ => true | .bl _, .str _ => true | .str _, .bl _ => true
  | _, _ => false
def dEq : Dt → Dt → Bool
  | .non, .non => true
  | .int i, .int j => decide (i = j)
  | .bl i, .bl j => decide (i = j)
  | .str i, .str j => decide (i = j)
  | _, _ => false
theorem scal_of {K : PySem.W.Frag} {F : Hp} {v w : V} {x y : Dt} (a : Rp K F v x) (b : Rp K F w y) (h : dScal x y = true) : scal v w = true ∧ decide (v = w) = dEq x y := by
  cases a <;> cases b <;> first | (cases h; done) | (refine ⟨rfl, ?_⟩; first | rfl | (simp [dEq]; done))
theorem o_eq {x y : Dt} {P : Dt → Prop} (hs : dScal x y = true) (hp : P (.bl (dEq x y))) : Op2 B rEq es x y P := fun σ F H v w S a b Q k => by
  obtain ⟨h1, h2⟩ := scal_of a b hs
  refine ⟨h1, ?_⟩
  rw [h2]
  exact k _ _ F H S.refl (.bl _) hp
theorem o_ne {x y : Dt} {P : Dt → Prop} (hs : dScal x y = true) (hp : P (.bl (!dEq x y))) : Op2 B rNe es x y P := fun σ F H v w S a b Q k => by
  obtain ⟨h1, h2⟩ := scal_of a b hs
  refine ⟨h1, ?_⟩
  rw [h2]
  exact k _ _ F H S.refl (.bl _) hp
/-- is None -/
def dNon : Dt → Bool
  | .non => true
  | _ => false
theorem non_of {K : PySem.W.Frag} {F : Hp} {v : V} {x : Dt} (a : Rp K F v x) : decide (v = V.non) = dNon x := by
  cases a <;> rfl
theorem o_isN {x : Dt} {P : Dt → Prop} (hp : P (.bl (dNon x))) : Op2 B (fun x y H Q => y = .non ∧ Q (.bl (decide (x = .non))) H) es x .non P := fun σ F H v w S a b Q k => by
  cases b
  refine ⟨rfl, ?_⟩
  rw [non_of a]
  exact k _ _ F H S.refl (.bl _) hp
theorem o_notN {x : Dt} {P : Dt → Prop} (hp : P (.bl (!dNon x))) : Op2 B (fun x y H Q => y = .non ∧ Q (.bl (!decide (x = .non))) H) es x .non P := fun σ F H v w S a b Q k => by
  cases b
  refine ⟨rfl, ?_⟩
  rw [non_of a]
  exact k _ _ F H S.refl (.bl _) hp
/-- x in (a, b, ..): flat things -/
def flatD : Dt → Bool
  | .non => true | .bl _ => true | .int _ => true | .str _ => true
  | _ => false
def eqD : Dt → Dt → Bool
  | .non, .non => true
  | .bl a, .bl b => a == b
  | .bl a, .int b => (if a then 1 else 0) == b
  | .int a, .bl b => a == (if b then 1 else 0)
  | .int a, .int b => a == b
  | .str a, .str b => a == b
  | _, _ => false
def inD (x : Dt) (ys : List Dt) : Bool := ys.any fun y => eqD y x
theorem flat_of {K : PySem.W.Frag} {F : Hp} {v : V} {x : Dt} (a : Rp K F v x) : flatV v = flatD x := by cases a <;> rfl
theorem eq_of {K : PySem.W.Frag} {F : Hp} {v w : V} {x y : Dt} (a : Rp K F v x) (b : Rp K F w y) (hx : flatD x = true) (hy : flatD y = true) : eqV v w = eqD x y := by
  cases a <;> cases b <;> first | rfl | (cases hx; done) | (cases hy; done)
theorem in_of {K : PySem.W.Frag} {F : Hp} {v : V} {x : Dt} (a : Rp K F v x) (hx : flatD x = true) : ∀ {ws : List V} {ys : List Dt}, RpAll K F ws ys → ys.all flatD = true → inV v ws = inD x ys ∧ ws.all flatV = true
  | _, _, .nil, _ => ⟨rfl, rfl⟩
  | _, _, .cons r t, h => by
    simp only [List.all_cons, Bool.and_eq_true] at h
    obtain ⟨h1, h2⟩ := in_of a hx t h.2
    refine ⟨?_, ?_⟩
    · unfold inV inD at *
      rw [List.any_cons, List.any_cons, h1, eq_of r a h.1 hx]
    · rw [List.all_cons, h2, flat_of r, h.1]; rfl
theorem o_inL {x : Dt} {ys : List Dt} {neg : Bool} {P : Dt → Prop} (hx : flatD x = true) (hy : ys.all flatD = true) (hp : P (.bl (if neg then !inD x ys else inD x ys))) : Op2 B (rIn B.K neg) es x (.lst ys) P := fun σ F H v w S a b Q k => by
  cases b with
  | lst hl hr =>
    obtain ⟨h1, h2⟩ := in_of a hx hr hy
    refine ⟨_, _, rfl, .inl (SqL.of (S.sub _ _ hl)), by rw [flat_of a]; exact hx, h2, ?_⟩
    rw [h1]
    exact k _ _ F H S.refl (.bl _) hp
theorem o_inT {x : Dt} {ys : List Dt} {neg : Bool} {P : Dt → Prop} (hx : flatD x = true) (hy : ys.all flatD = true) (hp : P (.bl (if neg then !inD x ys else inD x ys))) : Op2 B (rIn B.K neg) es x (.tup ys) P := fun σ F H v w S a b Q k => by
  cases b with
  | tup hl hr =>
    obtain ⟨h1, h2⟩ := in_of a hx hr hy
    refine ⟨_, _, rfl, .inr (sqT_mono S.sub hl), by rw [flat_of a]; exact hx, h2, ?_⟩
    rw [h1]
    exact k _ _ F H S.refl (.bl _) hp
/-- one sign in a text -/
theorem o_inS {c : Nat} {z : Str} {P : Dt → Prop} (hp : P (.bl (decide (c ∈ z.cps.toList)))) : Op2 B (fun x y H Q => ∃ (c : Nat) (z : Str), x = .str ⟨#[c]⟩ ∧ y = .str z ∧ Q (.bl (decide (c ∈ z.cps.toList))) H) es (.str ⟨#[c]⟩) (.str z) P := fun σ F H v w S a b Q k => by
  cases a; cases b; exact ⟨c, z, rfl, rfl, k _ _ F H S.refl (.bl _) hp⟩
theorem o_niS {c : Nat} {z : Str} {P : Dt → Prop} (hp : P (.bl (!decide (c ∈ z.cps.toList)))) : Op2 B (fun x y H Q => ∃ (c : Nat) (z : Str), x = .str ⟨#[c]⟩ ∧ y = .str z ∧ Q (.bl (!decide (c ∈ z.cps.toList))) H) es (.str ⟨#[c]⟩) (.str z) P := fun σ F H v w S a b Q k => by
  cases a; cases b; exact ⟨c, z, rfl, rfl, k _ _ F H S.refl (.bl _) hp⟩
/-- items -/
theorem o_ixL {xs : List Dt} {i : Int} {x : Dt} {P : Dt → Prop} (hi : atI xs i = some x) (hp : P x) : Op2 B (rIxL B.K) es (.lst xs) (.int i) P := fun σ F H v w S a b Q k => by
  cases b
  cases a with
  | lst hl hr =>
    unfold atI at hi
    cases e : ixN xs.length i with
    | none => rw [e] at hi; cases hi
    | some j =>
      rw [e] at hi
      obtain ⟨u, h1, h2⟩ := hr.get (show xs[j]? = some x from hi)
      refine ⟨_, _, i, u, rfl, rfl, SqL.of (S.sub _ _ hl), ?_, k _ _ F H S.refl h2 hp⟩
      unfold atI
      rw [hr.length, e]
      exact h1
theorem o_ixT {xs : List Dt} {i : Int} {x : Dt} {P : Dt → Prop} (hi : atI xs i = some x) (hp : P x) : Op2 B (rIxT B.K) es (.tup xs) (.int i) P := fun σ F H v w S a b Q k => by
  cases b
  cases a with
  | tup hl hr =>
    unfold atI at hi
    cases e : ixN xs.length i with
    | none => rw [e] at hi; cases hi
    | some j =>
      rw [e] at hi
      obtain ⟨u, h1, h2⟩ := hr.get (show xs[j]? = some x from hi)
      refine ⟨_, _, i, u, rfl, rfl, sqT_mono S.sub hl, ?_, k _ _ F H S.refl h2 hp⟩
      unfold atI
      rw [hr.length, e]
      exact h1
theorem o_ixS {z : Str} {i : Int} {c : Nat} {P : Dt → Prop} (hl : z.length ≤ 100000) (hi : atI z.cps.toList i = some c) (hp : P (.str ⟨#[c]⟩)) : Op2 B rIxS es (.str z) (.int i) P := fun σ F H v w S a b Q k => by
  cases b; cases a; exact ⟨z, i, c, rfl, rfl, size_of hl, hi, k _ _ F H S.refl (.str _) hp⟩
theorem o_ixAL {xs : List Dt} {i : Int} {x : Dt} {P : Dt → Prop} (hi : atI xs i = some x) (hp : P x) : Op2 B (rIx B.K) es (.lst xs) (.int i) P := fun σ F H v w S a b Q k => .inl (o_ixL hi hp σ F H v w S a b Q k)
theorem o_ixAT {xs : List Dt} {i : Int} {x : Dt} {P : Dt → Prop} (hi : atI xs i = some x) (hp : P x) : Op2 B (rIx B.K) es (.tup xs) (.int i) P := fun σ F H v w S a b Q k => .inr (.inl (o_ixT hi hp σ F H v w S a b Q k))
theorem o_ixAS {z : Str} {i : Int} {c : Nat} {P : Dt → Prop} (hl : z.length ≤ 100000) (hi : atI z.cps.toList i = some c) (hp : P (.str ⟨#[c]⟩)) : Op2 B (rIx B.K) es (.str z) (.int i) P := fun σ F H v w S a b Q k => .inr (.inr (o_ixS hl hi hp σ F H v w S a b Q k))
/-- xs + ys; s + t -/
theorem o_catO {r : R2} (hr : r = rCat) {xs ys : List Dt} {σ : St} {F H : Hp} {v w : V} (S : Stt B es σ F H) (a : Rp B.K F v (.lst xs)) (b : Rp B.K F w (.lst ys)) (hl : xs.length + ys.length ≤ 100000) {Q : VK}
    (k : ∀ a vs F' H', Go B F H F' H' → H a = none → F' a = none → H' a = some (.lst vs) → RpAll B.K F' vs (xs ++ ys) → Q (.ref a) H') : r v w H Q := by
  subst hr
  cases a with
  | lst h1 r1 =>
    cases b with
    | lst h2 r2 =>
      refine ⟨_, _, _, _, rfl, rfl, S.sub _ _ h1, S.sub _ _ h2, size_of (by rw [r1.length, r2.length]; exact hl), fun p hp => ?_⟩
      exact k p _ F _ (S.allocO hp) hp (same_none S.sub hp) upd_same (r1.app r2)
theorem o_cat {xs ys : List Dt} {P : Dt → Prop} (hl : xs.length + ys.length ≤ 100000) (hp : P (.lst (xs ++ ys))) : Op2 B rCat es (.lst xs) (.lst ys) P := fun σ F H v w S a b Q k =>
  o_catO rfl S a b hl fun p vs F' H' g h0 h1 h2 r => k _ _ (upd F' p (.lst vs)) H' (g.freeze S h0 h1 h2) (.lst upd_same (r.mono (same_upd h1))) hp
theorem o_catS {x y : Str} {P : Dt → Prop} (hl : x.length + y.length ≤ 100000) (hp : P (.str (x ++ y))) : Op2 B (fun x y H Q => ∃ i j, x = .str i ∧ y = .str j ∧ i.length + j.length ≤ sizeLine ∧ Q (.str (i ++ j)) H) es (.str x) (.str y) P := fun σ F H v w S a b Q k => by
  cases a; cases b; exact ⟨x, y, rfl, rfl, size_of hl, k _ _ F H S.refl (.str _) hp⟩
/-- a one-place operation -/
theorem ev_neg {ta : TE} {P : Dt → Prop} (h : Ev B ta es fun x => ∃ i, x = .int i ∧ P (.int (-i))) : Ev B (tUn (rU fun i => .int (-i)) ta) es P := fun σ F H S Q q =>
  h σ F H S _ fun v x F1 H1 g1 r1 ⟨i, e, p1⟩ => by
    subst e
    cases r1
    exact ⟨i, rfl, q _ _ F1 H1 g1 (.int _) p1⟩

/-! ### tests -/
theorem et_B {te : TE} {P : Bool → Prop} (h : Ev B te es fun d => ∃ b, d = .bl b ∧ P b) : EvT B (tB te) es P := fun σ F H S Q q =>
  h σ F H S _ fun v x F1 H1 g1 r1 ⟨b, e, p1⟩ => by subst e; cases r1; exact ⟨b, rfl, q b F1 H1 g1 p1⟩
theorem et_test {te : TE} {P : Bool → Prop} (h : Ev B te es fun d => ∃ b, d = .bl b ∧ P b) : EvT B (tTest te) es P := fun σ F H S Q q =>
  h σ F H S _ fun v x F1 H1 g1 r1 ⟨b, e, p1⟩ => by subst e; cases r1; exact ⟨b, rfl, q b F1 H1 g1 p1⟩
theorem et_not {t : TT} {P : Bool → Prop} (h : EvT B t es fun b => P (!b)) : EvT B (tNot t) es P := fun σ F H S Q q => h σ F H S _ fun b F1 H1 g1 p1 => q _ F1 H1 g1 p1
theorem et_and {t u : TT} {P : Bool → Prop} (h : EvT B t es fun b => (b = true → EvT B u es P) ∧ (b = false → P false)) : EvT B (tAnd t u) es P := fun σ F H S Q q => h σ F H S _ fun b F1 H1 g1 p1 => by
  cases b with
  | true =>
    show u σ H1 Q
    exact p1.1 rfl σ F1 H1 (S.go g1) Q fun c F2 H2 g2 p2 => q c F2 H2 (g1.trans g2) p2
  | false =>
    show Q false H1
    exact q false F1 H1 g1 (p1.2 rfl)
theorem et_or {t u : TT} {P : Bool → Prop} (h : EvT B t es fun b => (b = true → P true) ∧ (b = false → EvT B u es P)) : EvT B (tOr t u) es P := fun σ F H S Q q => h σ F H S _ fun b F1 H1 g1 p1 => by
  cases b with
  | false =>
    show u σ H1 Q
    exact p1.2 rfl σ F1 H1 (S.go g1) Q fun c F2 H2 g2 p2 => q c F2 H2 (g1.trans g2) p2
  | true =>
    show Q true H1
    exact q true F1 H1 g1 (p1.1 rfl)
theorem ev_and {ta tb : TE} {P : Dt → Prop} (h : Ev B ta es fun d => ∃ b, d = .bl b ∧ (b = true → Ev B tb es P) ∧ (b = false → P (.bl false))) : Ev B (tAndV ta tb) es P := fun σ F H S Q q => h σ F H S _ fun v d F1 H1 g1 r1 ⟨b, e, p1⟩ => by
  subst e
  cases r1
  refine ⟨b, rfl, ?_⟩
  cases b with
  | true =>
    show tb σ H1 Q
    exact p1.1 rfl σ F1 H1 (S.go g1) Q fun w c F2 H2 g2 r2 p2 => q w c F2 H2 (g1.trans g2) r2 p2
  | false =>
    show Q (.bl false) H1
    exact q _ _ F1 H1 g1 (.bl false) (p1.2 rfl)
theorem ev_or {ta tb : TE} {P : Dt → Prop} (h : Ev B ta es fun d => ∃ b, d = .bl b ∧ (b = true → P (.bl true)) ∧ (b = false → Ev B tb es P)) : Ev B (tOrV ta tb) es P := fun σ F H S Q q => h σ F H S _ fun v d F1 H1 g1 r1 ⟨b, e, p1⟩ => by
  subst e
  cases r1
  refine ⟨b, rfl, ?_⟩
  cases b with
  | false =>
    show tb σ H1 Q
    exact p1.2 rfl σ F1 H1 (S.go g1) Q fun w c F2 H2 g2 r2 p2 => q w c F2 H2 (g1.trans g2) r2 p2
  | true =>
    show Q (.bl true) H1
    exact q _ _ F1 H1 g1 (.bl true) (p1.1 rfl)
theorem ev_not {ta : TE} {P : Dt → Prop} (h : Ev B ta es fun d => ∃ b, d = .bl b ∧ P (.bl (!b))) : Ev B (tNotV ta) es P := fun σ F H S Q q => h σ F H S _ fun v d F1 H1 g1 r1 ⟨b, e, p1⟩ => by
  subst e; cases r1; exact ⟨b, rfl, q _ _ F1 H1 g1 (.bl _) p1⟩
theorem ev_if {t : TT} {ta tb : TE} {P : Dt → Prop} (h : EvT B t es fun b => (b = true → Ev B ta es P) ∧ (b = false → Ev B tb es P)) : Ev B (tIf t ta tb) es P := fun σ F H S Q q => h σ F H S _ fun b F1 H1 g1 p1 => by
  cases b with
  | true =>
    show ta σ H1 Q
    exact p1.1 rfl σ F1 H1 (S.go g1) Q fun w c F2 H2 g2 r2 p2 => q w c F2 H2 (g1.trans g2) r2 p2
  | false =>
    show tb σ H1 Q
    exact p1.2 rfl σ F1 H1 (S.go g1) Q fun w c F2 H2 g2 r2 p2 => q w c F2 H2 (g1.trans g2) r2 p2
theorem ev_chain {r r' : R2} {ta tb tc : TE} {P : Dt → Prop} (h : Ev B ta es fun x => Ev B tb es fun y => Op2 B r es x y fun z => ∃ k, z = .bl k ∧ (k = true → Ev B tc es fun w => Op2 B r' es y w P) ∧ (k = false → P (.bl false))) : Ev B (tChain r r' ta tb tc) es P := fun σ F H S Q q =>
  h σ F H S _ fun v x F1 H1 g1 r1 p1 => p1 σ F1 H1 (S.go g1) _ fun w y F2 H2 g2 r2 p2 => p2 σ F2 H2 v w ((S.go g1).go g2) (r1.mono g2.s1) r2 _ fun u z F3 H3 g3 r3 ⟨b, e, p3⟩ => by
    subst e
    cases r3
    refine ⟨b, rfl, ?_⟩
    have S3 := ((S.go g1).go g2).go g3
    cases b with
    | true =>
      show tc σ H3 _
      exact p3.1 rfl σ F3 H3 S3 _ fun a d F4 H4 g4 r4 p4 => p4 σ F4 H4 w a (S3.go g4) (r2.mono (g3.s1.trans g4.s1)) r4 Q fun b' d' F5 H5 g5 r5 p5 => q b' d' F5 H5 ((((g1.trans g2).trans g3).trans g4).trans g5) r5 p5
    | false =>
      show Q (.bl false) H3
      exact q _ _ F3 H3 ((g1.trans g2).trans g3) (.bl false) (p3.2 rfl)

/-! ### calls of built-ins -/
def Cal (B : Bs) (r : List V → Hp → VK → Prop) (es : List Sl) (ds : List Dt) (P : Dt → Prop) : Prop := ∀ σ F H vs, Stt B es σ F H → RpAll B.K F vs ds → ∀ Q : VK,
  (∀ v d F' H', Go B F H F' H' → Rp B.K F' v d → P d → Q v H') → r vs H Q
theorem ev_cb {r : List V → Hp → VK → Prop} {ta : TA} {P : Dt → Prop} (h : EvA B ta es fun ds => Cal B r es ds P) : Ev B (tCB r ta) es P := fun σ F H S Q q =>
  h σ F H S _ fun vs ds F1 H1 g1 r1 p1 => p1 σ F1 H1 vs (S.go g1) r1 Q fun v d F2 H2 g2 r2 p2 => q v d F2 H2 (g1.trans g2) r2 p2
theorem c_altL {r q : List V → Hp → VK → Prop} {ds : List Dt} {P : Dt → Prop} (h : Cal B r es ds P) : Cal B (cAlt r q) es ds P := fun σ F H vs S a Q k => .inl (h σ F H vs S a Q k)
theorem c_altR {r q : List V → Hp → VK → Prop} {ds : List Dt} {P : Dt → Prop} (h : Cal B q es ds P) : Cal B (cAlt r q) es ds P := fun σ F H vs S a Q k => .inr (h σ F H vs S a Q k)
theorem rp1 {K : PySem.W.Frag} {F : Hp} {vs : List V} {d : Dt} (h : RpAll K F vs [d]) : ∃ v, vs = [v] ∧ Rp K F v d := by
  cases h with
  | cons r t => cases t; exact ⟨_, rfl, r⟩
theorem rp2 {K : PySem.W.Frag} {F : Hp} {vs : List V} {d e : Dt} (h : RpAll K F vs [d, e]) : ∃ v w, vs = [v, w] ∧ Rp K F v d ∧ Rp K F w e := by
  cases h with
  | cons r t =>
    obtain ⟨w, rfl, q⟩ := rp1 t
    exact ⟨_, _, rfl, r, q⟩
/-- len -/
def lenD : Dt → Option Nat
  | .str z => if z.length ≤ 100000 then some z.length else none
  | .lst xs => some xs.length
  | .tup xs => some xs.length
  | _ => none
def rLenA (K : PySem.W.Frag) : List V → Hp → VK → Prop := fun xs H Q => ∃ x n, xs = [x] ∧ LenV K x H n ∧ Q (.int n) H
theorem c_len {x : Dt} {n : Nat} {P : Dt → Prop} (hn : lenD x = some n) (hp : P (.int n)) : Cal B (rLenA B.K) es [x] P := fun σ F H vs S a Q k => by
  obtain ⟨v, rfl, r⟩ := rp1 a
  refine ⟨v, n, rfl, ?_, k _ _ F H S.refl (.int _) hp⟩
  cases r with
  | str z =>
    have hn' : (if z.length ≤ 100000 then some z.length else none) = some n := hn
    split at hn'
    · cases hn'; exact ⟨size_of (by assumption), rfl⟩
    · cases hn'
  | lst h1 h2 => cases hn; exact .inl ⟨_, SqL.of (S.sub _ _ h1), h2.length.symm⟩
  | tup h1 h2 => cases hn; exact .inr ⟨_, sqT_mono S.sub h1, h2.length.symm⟩
  | _ => cases hn
theorem c_int {i : Int} {P : Dt → Prop} (hp : P (.int i)) : Cal B (fun xs H Q => (∃ i, xs = [.int i] ∧ Q (.int i) H) ∨ ∃ k, xs = [.bl k] ∧ Q (.int (if k then 1 else 0)) H) es [.int i] P := fun σ F H vs S a Q k => by
  obtain ⟨v, rfl, r⟩ := rp1 a
  cases r
  exact .inl ⟨i, rfl, k _ _ F H S.refl (.int _) hp⟩
theorem c_intB {b : Bool} {P : Dt → Prop} (hp : P (.int (if b then 1 else 0))) : Cal B (fun xs H Q => (∃ i, xs = [.int i] ∧ Q (.int i) H) ∨ ∃ k, xs = [.bl k] ∧ Q (.int (if k then 1 else 0)) H) es [.bl b] P := fun σ F H vs S a Q k => by
  obtain ⟨v, rfl, r⟩ := rp1 a
  cases r
  exact .inr ⟨b, rfl, k _ _ F H S.refl (.int _) hp⟩
theorem c_abs {i : Int} {P : Dt → Prop} (hp : P (.int (if i < 0 then -i else i))) : Cal B (fun xs H Q => ∃ i, xs = [.int i] ∧ Q (.int (if i < 0 then -i else i)) H) es [.int i] P := fun σ F H vs S a Q k => by
  obtain ⟨v, rfl, r⟩ := rp1 a
  cases r
  exact ⟨i, rfl, k _ _ F H S.refl (.int _) hp⟩
theorem c_all {bs : List Bool} {P : Dt → Prop} (hp : P (.bl (bs.all id))) : Cal B (rAll B.K) es [.lst (bs.map Dt.bl)] P := fun σ F H vs S a Q k => by
  obtain ⟨v, rfl, r⟩ := rp1 a
  cases r with
  | lst h1 h2 =>
    have e := h2.bls
    subst e
    exact ⟨_, bs, rfl, SqL.of (S.sub _ _ h1), k _ _ F H S.refl (.bl _) hp⟩
/-- isinstance(x, T) -/
def dTy : Dt → String
  | .non => "NoneType" | .bl _ => "bool" | .int _ => "int" | .str _ => "str" | .lst _ => "list" | .tup _ => "tuple"
  | .dct _ _ => "dict"
  | .obj _ _ _ => ""
  | .ali _ => ""
def plainD : Dt → Bool
  | .obj _ _ _ => false
  | .ali _ => false
  | _ => true
theorem ty_of {K : PySem.W.Frag} {F H : Hp} {v : V} {x : Dt} (a : Rp K F v x) (s : Same F H) (h : plainD x = true) : TyX K H v (.type (dTy x)) := by
  cases a with
  | non => exact .base .non
  | bl b => exact .base (.bl b)
  | int i => exact .base (.int i)
  | str z => exact .base (.str z)
  | lst h1 _ => exact .base (.lst (s _ _ h1))
  | tup h1 _ =>
    rcases h1 with (h1 | ⟨o, h1⟩) | ⟨o, its, n, k1, k2, k3⟩
    · exact .base (.tup (s _ _ h1))
    · exact .fTuple (s _ _ h1)
    · exact .kTuple k1 k2
  | dct h1 _ _ _ => exact .base (.dK (s _ _ h1))
  | obj _ _ _ _ => cases h
  | ali _ => cases h
def isiD (T : String) : Dt → Option Bool
  | .obj _ _ _ => none
  | .ali _ => none
  | x => kitB (dTy x) T
theorem ev_isi {te : TE} {T : String} {P : Dt → Prop} (h : Ev B te es fun d => ∃ b, isiD T d = some b ∧ P (.bl b)) : Ev B (tCB (rIsi B.K) (tCons te (tCons (tC (.ty T)) tNil))) es P := fun σ F H S Q q =>
  h σ F H S _ fun v x F1 H1 g1 r1 ⟨b, e, p1⟩ => by
    have hx : plainD x = true := by cases x <;> first | rfl | (cases e; done)
    have hk : kitB (dTy x) T = some b := by cases x <;> first | exact e | (cases hx; done)
    exact ⟨v, .ty T, _, _, b, rfl, .ty T, ty_of r1 g1.s2 hx, kit_ty hk, q _ _ F1 H1 g1 (.bl b) p1⟩
def anyIsi (x : String) : List String → Option Bool
  | [] => some false
  | T :: Ts => match kitB x T with
    | some true => some true
    | some false => anyIsi x Ts
    | none => none
theorem kitAny_of {K : PySem.W.Frag} {x : String} : ∀ {Ts : List String} {b : Bool}, anyIsi x Ts = some b → PySem.W.kitAny K (.type x) (Ts.map Value.type) = some b
  | [], b, h => by cases h; rfl
  | T :: Ts, b, h => by
    unfold anyIsi at h
    cases e : kitB x T with
    | none => rw [e] at h; cases h
    | some c =>
      rw [e] at h
      cases c with
      | true => cases h; exact kitAny_cons (kit_ty e) (fun z => nomatch z) fun _ => rfl
      | false => exact kitAny_cons (kit_ty e) (fun _ => kitAny_of h) fun z => nomatch z
def isiDs (Ts : List String) : Dt → Option Bool
  | .obj _ _ _ => none
  | .ali _ => none
  | x => anyIsi (dTy x) Ts
/-- isinstance(x, (T, U)) -/
theorem ev_isi2 {te : TE} {T U : String} {P : Dt → Prop} (h : Ev B te es fun d => ∃ b, isiDs [T, U] d = some b ∧ P (.bl b)) : Ev B (tCB (rIsiT B.K) (tCons te (tCons (tTup (tCons (tC (.ty T)) (tCons (tC (.ty U)) tNil))) tNil))) es P := fun σ F H S Q q =>
  h σ F H S _ fun v x F1 H1 g1 r1 ⟨b, e, p1⟩ => by
    have S1 := S.go g1
    have hx : plainD x = true := by cases x <;> first | rfl | (cases e; done)
    have hk : anyIsi (dTy x) [T, U] = some b := by cases x <;> first | exact e | (cases hx; done)
    refine ⟨by show 2 ≤ sizeLine; decide, fun p hp => ?_⟩
    have g2 := S1.allocO (o := .tup [.ty T, .ty U]) hp
    exact ⟨v, p, [.ty T, .ty U], _, [.type T, .type U], b, rfl, upd_same, .cons (.ty T) (.cons (.ty U) .nil), ty_of r1 (g1.s2.trans (same_upd hp)) hx, kitAny_of hk, q _ _ F1 _ (g1.trans g2) (.bl b) p1⟩

/-! ### calls of defs -/
/-- the promise of a def over data: Pre of the arguments, Post of arguments and result -/
def spD (K : PySem.W.Frag) (Pre : List Dt → Prop) (Post : List Dt → Dt → Prop) : Sp := fun vs H Q _ => ∃ F ds, Same F H ∧ RpAll K F vs ds ∧ Pre ds ∧
  ∀ v d F' H', Same F F' → (∀ c, H c ≠ none → F c = none → F' c = none) → Same F' H' → Same H H' → Rp K F' v d → Post ds d → Q v H'
theorem ev_call {Pre : List Dt → Prop} {Post : List Dt → Dt → Prop} {E : XK} {ta : TA} {P : Dt → Prop} (h : EvA B ta es fun ds => Pre ds ∧ ∀ d, Post ds d → P d) : Ev B (tCall (spD B.K Pre Post) [] E ta) es P := fun σ F H S Q q =>
  h σ F H S _ fun vs ds F1 H1 g1 r1 ⟨p1, p2⟩ => by
    rw [List.append_nil]
    exact ⟨F1, ds, g1.s2, r1, p1, fun v d F2 H2 s1 s2 s3 s4 r2 p3 => q v d F2 H2 (g1.trans ((S.go g1).pure s1 s3 s2 s4)) r2 (p2 d p3)⟩
/-- the same with defaults behind -/
theorem ev_callD {Pre : List Dt → Prop} {Post : List Dt → Dt → Prop} {E : XK} {ta : TA} {P : Dt → Prop} {dvs : List V} {dds : List Dt} (hd : ∀ F, RpAll B.K F dvs dds) (h : EvA B ta es fun ds => Pre (ds ++ dds) ∧ ∀ d, Post (ds ++ dds) d → P d) : Ev B (tCall (spD B.K Pre Post) dvs E ta) es P := fun σ F H S Q q =>
  h σ F H S _ fun vs ds F1 H1 g1 r1 ⟨p1, p2⟩ => ⟨F1, ds ++ dds, g1.s2, r1.app (hd F1), p1, fun v d F2 H2 s1 s2 s3 s4 r2 p3 => q v d F2 H2 (g1.trans ((S.go g1).pure s1 s3 s2 s4)) r2 (p2 d p3)⟩
/-- f(k = v, ..) -/
theorem ev_callN {Pre : List Dt → Prop} {Post : List Dt → Dt → Prop} {E : XK} {ta tk : TA} {P : Dt → Prop} {n m : Nat} {gV : List V → List V → List V} {gD : List Dt → List Dt → List Dt}
    (hg : ∀ F vs ds zs as, RpAll B.K F vs ds → RpAll B.K F zs as → RpAll B.K F (gV vs zs) (gD ds as))
    (h : EvA B ta es fun ds => EvA B tk es fun as => ds.length = n ∧ as.length = m ∧ Pre (gD ds as) ∧ ∀ d, Post (gD ds as) d → P d) : Ev B (tCallN n m (spD B.K Pre Post) gV E ta tk) es P := fun σ F H S Q q =>
  h σ F H S _ fun vs ds F1 H1 g1 r1 p0 => p0 σ F1 H1 (S.go g1) _ fun zs as F2 H2 g2 r2 ⟨l1, l2, p1, p2⟩ => by
    have g := g1.trans g2
    exact ⟨by rw [r1.length]; exact l1, by rw [r2.length]; exact l2, F2, gD ds as, g2.s2, hg F2 _ _ _ _ (r1.mono g2.s1) r2, p1, fun v d F3 H3 s1 s2 s3 s4 r3 p3 => q v d F3 H3 (g.trans ((S.go g).pure s1 s3 s2 s4)) r3 (p2 d p3)⟩
/-- a def that draws: the drawing's list first -/
def spB (K : PySem.W.Frag) (Pre : List Dt → Prop) (Post : List Dt → Dt → Prop) : Sp := fun vs H Q _ => ∃ b ws F ds, vs = .ref b :: ws ∧ Same F H ∧ BagAt K F H b ∧ RpAll K F ws ds ∧ Pre ds ∧
  ∀ v d F' H', Same F F' → (∀ c, H c ≠ none → F c = none → F' c = none) → Same F' H' → (∀ c o, c ≠ b → H c = some o → H' c = some o) → BagAt K F' H' b → Rp K F' v d → Post ds d → Q v H'
theorem ev_callB {Pre : List Dt → Prop} {Post : List Dt → Dt → Prop} {E : XK} {ta : TA} {P : Dt → Prop} {i : Nat} {b : Addr} (hb : B.bag = some b) (hi : es[i]? = some (.r (.ref b))) (h : EvA B ta es fun ds => Pre ds ∧ ∀ d, Post ds d → P d) :
    Ev B (tCall (spB B.K Pre Post) [] E (tCons (tVar i) ta)) es P := fun σ F H S Q q => ⟨_, S.raw hi, h σ F H S _ fun vs ds F1 H1 g1 r1 ⟨p1, p2⟩ => by
    show spB B.K Pre Post ((V.ref b :: vs) ++ []) H1 Q E
    rw [List.append_nil]
    refine ⟨b, vs, F1, ds, rfl, g1.s2, g1.bg b hb, r1, p1, fun v d F2 H2 s1 s2 s3 s4 s5 r2 p3 => q v d F2 H2 (g1.trans ⟨s1, s3, s2, fun c o hc ho => s4 c o (fun e => hc (by rw [e]; exact hb)) ho, fun b' hb' => ?_⟩) r2 (p2 d p3)⟩
    rw [hb] at hb'
    cases hb'
    exact s5⟩
end
end Y
/-! Y3: statements, loops, comprehensions, the promise of a def. -/
namespace Y
open PySem L2

structure Po where
  nx : List Sl → Prop
  bk : List Sl → Prop
  ct : List Sl → Prop
  rt : List Sl → Dt → Prop
  ro : List Dt → Prop := fun _ => False
def Sm (B : Bs) (t : TS) (es : List Sl) (p : Po) : Prop := ∀ σ F H (D : Ends), Stt B es σ F H →
  (∀ es' σ' F' H', Stt B es' σ' F' H' → Same F F' → p.nx es' → D.nx σ' H') →
  (∀ es' σ' F' H', Stt B es' σ' F' H' → Same F F' → p.bk es' → D.bk σ' H') →
  (∀ es' σ' F' H', Stt B es' σ' F' H' → Same F F' → p.ct es' → D.ct σ' H') →
  (∀ v d es' σ' F' H', Stt B es' σ' F' H' → Same F F' → Rp B.K F' v d → p.rt es' d → D.rt v H') →
  (∀ a vs xs es' σ' F' H', Stt B es' σ' F' H' → Same F F' → F' a = none → H' a = some (.lst vs) → RpAll B.K F' vs xs → B.H0 a = none → B.bag ≠ some a → p.ro xs → D.rt (.ref a) H') → t D σ H

section
variable {B : Bs} {es : List Sl} {p : Po}
theorem Stt.set {σ : St} {F H : Hp} {i : Nat} {e : Sl} {o : Option V} (S : Stt B es σ F H) (h : SlOk B.K F H o e) (hw : ∀ a xs, e = .own a xs → B.H0 a = none ∧ B.bag ≠ some a ∧ ∀ (j : Nat) c ys, es[j]? = some (.own c ys) → c ≠ a) : Stt B (es.set i e) (σ.set i o) F H where
  sub := S.sub
  s0 := S.s0
  ou := S.ou
  fr := S.fr
  bg := S.bg
  len := by rw [List.length_set, List.length_set]; exact S.len
  ok := fun j e' o' h1 h2 => by
    by_cases hj : i = j
    · subst hj
      have l1 : i < es.length := by
        have := (List.getElem?_eq_some_iff.mp h1).1
        rwa [List.length_set] at this
      rw [List.getElem?_set_self l1] at h1
      rw [List.getElem?_set_self (by rw [S.len]; exact l1)] at h2
      cases h1; cases h2; exact h
    · rw [List.getElem?_set_ne hj] at h1 h2
      exact S.ok j e' o' h1 h2
  ow := fun j a xs h1 => by
    by_cases hj : i = j
    · subst hj
      have l1 : i < es.length := by
        have := (List.getElem?_eq_some_iff.mp h1).1
        rwa [List.length_set] at this
      rw [List.getElem?_set_self l1] at h1
      cases h1
      obtain ⟨k1, k2, _⟩ := hw a xs rfl
      exact ⟨k1, k2⟩
    · rw [List.getElem?_set_ne hj] at h1
      exact S.ow j a xs h1
  dis := fun j l a b xs ys hjl h1 h2 => by
    by_cases hj : i = j
    · subst hj
      have l1 : i < es.length := by
        have := (List.getElem?_eq_some_iff.mp h1).1
        rwa [List.length_set] at this
      rw [List.getElem?_set_self l1] at h1
      rw [List.getElem?_set_ne hjl] at h2
      cases h1
      exact ((hw a xs rfl).2.2 l b ys h2).symm
    · rw [List.getElem?_set_ne hj] at h1
      by_cases hl : i = l
      · subst hl
        have l1 : i < es.length := by
          have := (List.getElem?_eq_some_iff.mp h2).1
          rwa [List.length_set] at this
        rw [List.getElem?_set_self l1] at h2
        cases h2
        exact (hw b ys rfl).2.2 j a xs h1
      · rw [List.getElem?_set_ne hl] at h2
        exact S.dis j l a b xs ys hjl h1 h2
theorem Stt.setD {σ : St} {F H : Hp} {i : Nat} {v : V} {x : Dt} (S : Stt B es σ F H) (r : Rp B.K F v x) : Stt B (es.set i (.d x)) (σ.set i (some v)) F H := S.set ⟨v, rfl, r⟩ fun _ _ e => nomatch e
theorem Stt.setO {σ : St} {F H : Hp} {i : Nat} {a : Addr} {vs : List V} {xs : List Dt} (S : Stt B es σ F H) (h1 : F a = none) (h2 : H a = some (.lst vs)) (r : RpAll B.K F vs xs) (h3 : B.H0 a = none) (h4 : B.bag ≠ some a) (h5 : ∀ (j : Nat) c ys, es[j]? = some (.own c ys) → c ≠ a) :
    Stt B (es.set i (.own a xs)) (σ.set i (some (.ref a))) F H := S.set ⟨vs, rfl, h1, h2, r⟩ fun _ _ e => by cases e; exact ⟨h3, h4, h5⟩

theorem sm_seq {t u : TS} (h : Sm B t es { p with nx := fun es' => Sm B u es' p }) : Sm B (tSeq t u) es p := fun σ F H D S n b c r ro =>
  h σ F H { D with nx := u D } S (fun es' σ' F' H' S' s' q => q σ' F' H' D S' (fun e2 a2 F2 H2 S2 s2 q2 => n e2 a2 F2 H2 S2 (s'.trans s2) q2) (fun e2 a2 F2 H2 S2 s2 q2 => b e2 a2 F2 H2 S2 (s'.trans s2) q2)
    (fun e2 a2 F2 H2 S2 s2 q2 => c e2 a2 F2 H2 S2 (s'.trans s2) q2) (fun v d e2 a2 F2 H2 S2 s2 q2 => r v d e2 a2 F2 H2 S2 (s'.trans s2) q2) (fun a vs xs e2 a2 F2 H2 S2 s2 => ro a vs xs e2 a2 F2 H2 S2 (s'.trans s2))) b c r ro
theorem sm_next (h : p.nx es) : Sm B tNext es p := fun σ F H D S n _ _ _ _ => n es σ F H S (Same.refl F) h
theorem sm_brk (h : p.bk es) : Sm B tBreak es p := fun σ F H D S _ n _ _ _ => n es σ F H S (Same.refl F) h
theorem sm_cont (h : p.ct es) : Sm B tCont es p := fun σ F H D S _ _ n _ _ => n es σ F H S (Same.refl F) h
theorem sm_imp {t : TS} {p' : Po} (h : Sm B t es p') (h1 : ∀ e, p'.nx e → p.nx e) (h2 : ∀ e, p'.bk e → p.bk e) (h3 : ∀ e, p'.ct e → p.ct e) (h4 : ∀ e d, p'.rt e d → p.rt e d) (h5 : ∀ d, p'.ro d → p.ro d) : Sm B t es p := fun σ F H D S n b c r ro =>
  h σ F H D S (fun e a F' H' S' s q => n e a F' H' S' s (h1 e q)) (fun e a F' H' S' s q => b e a F' H' S' s (h2 e q)) (fun e a F' H' S' s q => c e a F' H' S' s (h3 e q)) (fun v d e a F' H' S' s q z => r v d e a F' H' S' s q (h4 e d z)) fun a vs xs e2 a2 F2 H2 S2 s2 k1 k2 k3 k4 k5 z => ro a vs xs e2 a2 F2 H2 S2 s2 k1 k2 k3 k4 k5 (h5 xs z)
theorem sm_retO {te : TE} (h : EvO B te es p.ro) : Sm B (tRet te) es p := fun σ F H D S _ _ _ _ ro => h σ F H S _ fun a vs xs F1 H1 g1 h0 h1 h2 r1 p1 => ro a vs xs es σ F1 H1 (S.go g1) g1.s1 h1 h2 r1 (S.new0 h0) (S.newB h0) p1
theorem sm_ret {te : TE} (h : Ev B te es (p.rt es)) : Sm B (tRet te) es p := fun σ F H D S _ _ _ r _ => h σ F H S _ fun v d F1 H1 g1 r1 p1 => r v d es σ F1 H1 (S.go g1) g1.s1 r1 p1
theorem sm_if {tc : TT} {t u : TS} (h : EvT B tc es fun b => (b = true → Sm B t es p) ∧ (b = false → Sm B u es p)) : Sm B (tIfS tc t u) es p := fun σ F H D S n b c r ro => h σ F H S _ fun k F1 H1 g1 p1 => by
  have S1 := S.go g1
  cases k with
  | true =>
    show t D σ H1
    exact p1.1 rfl σ F1 H1 D S1 (fun e2 a2 F2 H2 S2 s2 q2 => n e2 a2 F2 H2 S2 (g1.s1.trans s2) q2) (fun e2 a2 F2 H2 S2 s2 q2 => b e2 a2 F2 H2 S2 (g1.s1.trans s2) q2)
      (fun e2 a2 F2 H2 S2 s2 q2 => c e2 a2 F2 H2 S2 (g1.s1.trans s2) q2) (fun v d e2 a2 F2 H2 S2 s2 q2 => r v d e2 a2 F2 H2 S2 (g1.s1.trans s2) q2) (fun a vs xs e2 a2 F2 H2 S2 s2 => ro a vs xs e2 a2 F2 H2 S2 (g1.s1.trans s2))
  | false =>
    show u D σ H1
    exact p1.2 rfl σ F1 H1 D S1 (fun e2 a2 F2 H2 S2 s2 q2 => n e2 a2 F2 H2 S2 (g1.s1.trans s2) q2) (fun e2 a2 F2 H2 S2 s2 q2 => b e2 a2 F2 H2 S2 (g1.s1.trans s2) q2)
      (fun e2 a2 F2 H2 S2 s2 q2 => c e2 a2 F2 H2 S2 (g1.s1.trans s2) q2) (fun v d e2 a2 F2 H2 S2 s2 q2 => r v d e2 a2 F2 H2 S2 (g1.s1.trans s2) q2) (fun a vs xs e2 a2 F2 H2 S2 s2 => ro a vs xs e2 a2 F2 H2 S2 (g1.s1.trans s2))
theorem sm_drop {te : TE} (h : Ev B te es fun _ => p.nx es) : Sm B (tDrop te) es p := fun σ F H D S n _ _ _ _ => h σ F H S _ fun v d F1 H1 g1 r1 p1 => n es σ F1 H1 (S.go g1) g1.s1 p1
/-! ### targets -/
def Tg (B : Bs) (g : TG) (es : List Sl) (x : Dt) (P : List Sl → Prop) : Prop := ∀ σ F H v, Stt B es σ F H → Rp B.K F v x → ∀ Q : St → Hp → Prop, (∀ es' σ' F' H', Stt B es' σ' F' H' → Same F F' → P es' → Q σ' H') → g v σ H Q
def Tgs (B : Bs) (g : TGs) (es : List Sl) (xs : List Dt) (P : List Sl → Prop) : Prop := ∀ σ F H vs, Stt B es σ F H → RpAll B.K F vs xs → ∀ Q : St → Hp → Prop, (∀ es' σ' F' H', Stt B es' σ' F' H' → Same F F' → P es' → Q σ' H') → g vs σ H Q
theorem tg_name {i : Nat} {x : Dt} {P : List Sl → Prop} (h : P (es.set i (.d x))) : Tg B (gName i) es x P := fun σ F H v S r Q q => q _ _ F H (S.setD r) (Same.refl F) h
theorem tgs_nil {P : List Sl → Prop} (h : P es) : Tgs B gNil es [] P := fun σ F H vs S r Q q => by
  cases r
  exact ⟨rfl, q es σ F H S (Same.refl F) h⟩
theorem tgs_cons {t : TG} {u : TGs} {x : Dt} {xs : List Dt} {P : List Sl → Prop} (h : Tg B t es x fun es' => Tgs B u es' xs P) : Tgs B (gCons t u) es (x :: xs) P := fun σ F H vs S r Q q => by
  cases r with
  | cons r1 r2 =>
    exact ⟨_, _, rfl, h σ F H _ S r1 _ fun es' σ' F' H' S' s' p1 => p1 σ' F' H' _ S' (r2.mono s') Q fun e2 a2 F2 H2 S2 s2 p2 => q e2 a2 F2 H2 S2 (s'.trans s2) p2⟩
theorem tg_tup {n : Nat} {t : TGs} {xs : List Dt} {P : List Sl → Prop} (hn : xs.length = n) (h : Tgs B t es xs P) : Tg B (gTup B.K n t) es (.tup xs) P := fun σ F H v S r Q q => by
  cases r with
  | tup h1 h2 => exact ⟨_, _, rfl, sqT_mono S.sub h1, by rw [h2.length]; exact hn, h σ F H _ S h2 Q q⟩
theorem sm_asg {te : TE} {g : TG} (h : Ev B te es fun d => Tg B g es d p.nx) : Sm B (tAsg te g) es p := fun σ F H D S n _ _ _ _ => h σ F H S _ fun v d F1 H1 g1 r1 p1 => p1 σ F1 H1 v (S.go g1) r1 _ fun e2 a2 F2 H2 S2 s2 q2 => n e2 a2 F2 H2 S2 (g1.s1.trans s2) q2
theorem sm_set {te : TE} {i : Nat} (h : Ev B te es fun d => p.nx (es.set i (.d d))) : Sm B (tAsg te (gName i)) es p := sm_asg (h.imp fun d q => tg_name q)
theorem sm_setO {te : TE} {i : Nat} (h : EvO B te es fun xs => ∀ a, p.nx (es.set i (.own a xs))) : Sm B (tAsg te (gName i)) es p := fun σ F H D S n _ _ _ _ => h σ F H S _ fun a vs xs F1 H1 g1 h0 h1 h2 r1 p1 => by
  have S1 := S.go g1
  exact n _ _ F1 H1 (S1.setO h1 h2 r1 (S.new0 h0) (S.newB h0) fun j c ys hj => S.newS h0 j ys hj) g1.s1 (p1 a)
theorem sm_par {i j : Nat} {ta : TA} (h : EvA B ta es fun ds => ∃ x y, ds = [x, y] ∧ p.nx ((es.set i (.d x)).set j (.d y))) : Sm B (tPar i j ta) es p := fun σ F H D S n _ _ _ _ => h σ F H S _ fun vs ds F1 H1 g1 r1 ⟨x, y, e, p1⟩ => by
  subst e
  obtain ⟨v, w, rfl, a, b⟩ := rp2 r1
  exact ⟨v, w, rfl, n _ _ F1 H1 (((S.go g1).setD a).setD b) g1.s1 p1⟩
theorem sm_aug {i : Nat} {te : TE} {f : Int → Int → Int} {a : Int} (hi : es[i]? = some (.d (.int a))) (h : Ev B te es fun d => ∃ b, d = .int b ∧ p.nx (es.set i (.d (.int (f a b))))) : Sm B (tAug i te (ipI f)) es p := fun σ F H D S n _ _ _ _ => by
  obtain ⟨v, h1, h2⟩ := S.dat hi
  cases h2
  exact ⟨_, h1, h σ F H S _ fun w d F1 H1 g1 r1 ⟨b, e, p1⟩ => by
    subst e; cases r1; exact ⟨a, b, rfl, rfl, n _ _ F1 H1 ((S.go g1).setD (.int _)) g1.s1 p1⟩⟩

/-! ### a list of one's own -/
theorem Stt.own {σ : St} {F H : Hp} {i : Nat} {a : Addr} {xs : List Dt} (S : Stt B es σ F H) (h : es[i]? = some (.own a xs)) : ∃ vs, σ[i]? = some (some (.ref a)) ∧ F a = none ∧ H a = some (.lst vs) ∧ RpAll B.K F vs xs := by
  obtain ⟨o, h1, vs, rfl, k⟩ := S.slot h
  exact ⟨vs, h1, k⟩
theorem Stt.freeze {σ : St} {F H : Hp} {i : Nat} {xs : List Dt} {a : Addr} {vs : List V} (S : Stt B es σ F H) (h : es[i]? = some (.own a xs)) (hs : σ[i]? = some (some (.ref a))) (h1 : F a = none) (h2 : H a = some (.lst vs)) (h3 : RpAll B.K F vs xs) :
    Stt B (es.set i (.d (.lst xs))) σ (upd F a (.lst vs)) H where
  sub := fun c o e => by
    by_cases hc : c = a
    · subst hc; rw [upd_same] at e; rw [h2, e]
    · rw [upd_ne hc] at e; exact S.sub c o e
  s0 := S.s0.trans (same_upd h1)
  ou := fun c k1 k2 => by
    have hc : c ≠ a := fun e => k1 (by rw [e]; exact (S.ow i a xs h).1)
    rw [upd_ne hc]; exact S.ou c k1 k2
  fr := S.fr
  bg := fun b hb => by
    obtain ⟨k1, ws, ys, k2, k3, k4⟩ := S.bg b hb
    have hba : b ≠ a := fun q => (S.ow i a xs h).2 (by rw [hb, q])
    exact ⟨by rw [upd_ne hba]; exact k1, ws, ys, k2, k3.mono (same_upd h1), k4⟩
  len := by rw [List.length_set]; exact S.len
  ok := fun j e o k1 k2 => by
    by_cases hj : i = j
    · subst hj
      have l1 : i < es.length := (List.getElem?_eq_some_iff.mp h).1
      rw [List.getElem?_set_self l1] at k1
      cases k1
      rw [hs] at k2
      cases k2
      exact ⟨_, rfl, .lst upd_same (h3.mono (same_upd h1))⟩
    · rw [List.getElem?_set_ne hj] at k1
      have q := S.ok j e o k1 k2
      cases e with
      | no => exact q
      | any => trivial
      | d x => obtain ⟨v, z1, z2⟩ := q; exact ⟨v, z1, z2.mono (same_upd h1)⟩
      | r v => exact q
      | own c ys =>
        obtain ⟨ws, z1, z2, z3, z4⟩ := q
        have hca : c ≠ a := (S.dis i j a c xs ys hj h k1).symm
        exact ⟨ws, z1, by rw [upd_ne hca]; exact z2, z3, z4.mono (same_upd h1)⟩
  ow := fun j c ys k1 => by
    by_cases hj : i = j
    · subst hj
      have l1 : i < es.length := (List.getElem?_eq_some_iff.mp h).1
      rw [List.getElem?_set_self l1] at k1; cases k1
    · rw [List.getElem?_set_ne hj] at k1
      exact S.ow j c ys k1
  dis := fun j l c e ys zs hjl k1 k2 => by
    have l1 : i < es.length := (List.getElem?_eq_some_iff.mp h).1
    by_cases hj : i = j
    · subst hj; rw [List.getElem?_set_self l1] at k1; cases k1
    · by_cases hl : i = l
      · subst hl; rw [List.getElem?_set_self l1] at k2; cases k2
      · rw [List.getElem?_set_ne hj] at k1
        rw [List.getElem?_set_ne hl] at k2
        exact S.dis j l c e ys zs hjl k1 k2
theorem sm_freeze {t : TS} (i : Nat) {a : Addr} {xs : List Dt} (h : es[i]? = some (.own a xs)) (k : Sm B t (es.set i (.d (.lst xs))) p) : Sm B t es p := fun σ F H D S n b c r ro => by
  obtain ⟨vs, h1, h2, h3, h4⟩ := S.own h
  have s : Same F (upd F a (.lst vs)) := same_upd h2
  exact k σ _ H D (S.freeze h h1 h2 h3 h4) (fun e2 a2 F2 H2 S2 s2 q2 => n e2 a2 F2 H2 S2 (s.trans s2) q2) (fun e2 a2 F2 H2 S2 s2 q2 => b e2 a2 F2 H2 S2 (s.trans s2) q2)
    (fun e2 a2 F2 H2 S2 s2 q2 => c e2 a2 F2 H2 S2 (s.trans s2) q2) (fun v d e2 a2 F2 H2 S2 s2 q2 => r v d e2 a2 F2 H2 S2 (s.trans s2) q2) (fun a vs xs e2 a2 F2 H2 S2 s2 => ro a vs xs e2 a2 F2 H2 S2 (s.trans s2))
/-- the list at an own slot is changed -/
theorem Stt.change {σ : St} {F H : Hp} {i : Nat} {xs ys : List Dt} {a : Addr} {ws : List V} (S : Stt B es σ F H) (h : es[i]? = some (.own a xs)) (hs : σ[i]? = some (some (.ref a))) (h1 : F a = none) (h3 : RpAll B.K F ws ys) :
    Stt B (es.set i (.own a ys)) σ F (upd H a (.lst ws)) where
  sub := fun c o e => by
    rw [upd_ne (ne_of_none e h1)]; exact S.sub c o e
  s0 := S.s0
  ou := S.ou
  fr := fun c o k1 k2 => by
    have hc : c ≠ a := fun e => by
      have := (S.ow i a xs h).1
      rw [← e, k1] at this; cases this
    rw [upd_ne hc]; exact S.fr c o k1 k2
  bg := fun b hb => by
    obtain ⟨k1, ws, ys, k2, k3, k4⟩ := S.bg b hb
    have hba : b ≠ a := fun q => (S.ow i a xs h).2 (by rw [hb, q])
    exact ⟨k1, ws, ys, by rw [upd_ne hba]; exact k2, k3, k4⟩
  len := by rw [List.length_set]; exact S.len
  ok := fun j e o k1 k2 => by
    by_cases hj : i = j
    · subst hj
      have l1 : i < es.length := (List.getElem?_eq_some_iff.mp h).1
      rw [List.getElem?_set_self l1] at k1
      cases k1
      rw [hs] at k2
      cases k2
      exact ⟨ws, rfl, h1, upd_same, h3⟩
    · rw [List.getElem?_set_ne hj] at k1
      have q := S.ok j e o k1 k2
      cases e with
      | no => exact q
      | any => trivial
      | d x => exact q
      | r v => exact q
      | own c zs =>
        obtain ⟨us, z1, z2, z3, z4⟩ := q
        have hca : c ≠ a := (S.dis i j a c xs zs hj h k1).symm
        exact ⟨us, z1, z2, by rw [upd_ne hca]; exact z3, z4⟩
  ow := fun j c zs k1 => by
    by_cases hj : i = j
    · subst hj
      have l1 : i < es.length := (List.getElem?_eq_some_iff.mp h).1
      rw [List.getElem?_set_self l1] at k1
      cases k1
      exact S.ow i a xs h
    · rw [List.getElem?_set_ne hj] at k1
      exact S.ow j c zs k1
  dis := fun j l c e ys' zs hjl k1 k2 => by
    have l1 : i < es.length := (List.getElem?_eq_some_iff.mp h).1
    by_cases hj : i = j
    · subst hj
      rw [List.getElem?_set_self l1] at k1
      cases k1
      rw [List.getElem?_set_ne hjl] at k2
      exact S.dis i l a e xs zs hjl h k2
    · rw [List.getElem?_set_ne hj] at k1
      by_cases hl : i = l
      · subst hl
        rw [List.getElem?_set_self l1] at k2
        cases k2
        exact S.dis j i c a ys' xs hjl k1 h
      · rw [List.getElem?_set_ne hl] at k2
        exact S.dis j l c e ys' zs hjl k1 k2
theorem sm_append {i : Nat} {te : TE} {a : Addr} {xs : List Dt} (hi : es[i]? = some (.own a xs)) (h : Ev B te es fun d => xs.length < 100000 ∧ p.nx (es.set i (.own a (xs ++ [d])))) : Sm B (tDrop (tBM B.K "list" rAppend (tVar i) (tCons te tNil))) es p := fun σ F H D S n _ _ _ _ => by
  obtain ⟨vs, h1, h2, h3, h4⟩ := S.own hi
  refine ⟨_, h1, .inl ⟨rfl, _, SqL.of h3⟩, h σ F H S _ fun v d F1 H1 g1 r1 ⟨p1, p2⟩ => ?_⟩
  have S1 := S.go g1
  obtain ⟨vs', k1, k2, k3, k4⟩ := S1.own hi
  refine ⟨a, vs', v, rfl, rfl, k3, size_lt (by rw [k4.length]; exact p1), n _ _ F1 _ (S1.change hi h1 k2 (k4.app (.cons r1 .nil))) g1.s1 p2⟩

/-- an item of an own list is read; is stored; its length -/
theorem ev_ixOwn {i : Nat} {a : Addr} {xs : List Dt} {tb : TE} {P : Dt → Prop} (hi : es[i]? = some (.own a xs)) (h : Ev B tb es fun y => ∃ j, y = .int j ∧ ∃ x, atI xs j = some x ∧ P x) : Ev B (tOp (rIx B.K) (tVar i) tb) es P := fun σ F H S Q q => by
  obtain ⟨vs, h1, h2, h3, h4⟩ := S.own hi
  refine ⟨_, h1, h σ F H S _ fun w y F1 H1 g1 r1 ⟨j, e, x, hx, p1⟩ => ?_⟩
  subst e
  cases r1
  have S1 := S.go g1
  obtain ⟨vs', k1, k2, k3, k4⟩ := S1.own hi
  unfold atI at hx
  cases e : ixN xs.length j with
  | none => rw [e] at hx; cases hx
  | some n =>
    rw [e] at hx
    obtain ⟨u, z1, z2⟩ := k4.get (show xs[n]? = some x from hx)
    refine .inl ⟨a, vs', j, u, rfl, rfl, SqL.of k3, ?_, q _ _ F1 H1 g1 z2 p1⟩
    unfold atI
    rw [k4.length, e]
    exact z1
theorem sm_setItem {i : Nat} {a : Addr} {xs : List Dt} {te tj : TE} (hi : es[i]? = some (.own a xs)) (h : Ev B te es fun d => Ev B tj es fun y => ∃ j, y = .int j ∧ ∃ k, ixN xs.length j = some k ∧ p.nx (es.set i (.own a (xs.set k d)))) : Sm B (tAsg te (gSub (tVar i) tj rSetL)) es p := fun σ F H D S n _ _ _ _ =>
  h σ F H S _ fun v d F1 H1 g1 r1 p1 => by
    have S1 := S.go g1
    obtain ⟨vs, h1, h2, h3, h4⟩ := S1.own hi
    refine ⟨_, h1, p1 σ F1 H1 S1 _ fun w y F2 H2 g2 r2 ⟨j, e, k, hk, p2⟩ => ?_⟩
    subst e
    cases r2
    have S2 := S1.go g2
    obtain ⟨vs', k1, k2, k3, k4⟩ := S2.own hi
    exact ⟨a, vs', j, k, rfl, rfl, k3, by rw [k4.length]; exact hk, n _ _ F2 _ (S2.change hi h1 k2 (k4.set (r1.mono g2.s1) k)) (g1.s1.trans g2.s1) p2⟩
theorem ev_lenOwn {i : Nat} {a : Addr} {xs : List Dt} {P : Dt → Prop} (hi : es[i]? = some (.own a xs)) (h : P (.int xs.length)) : Ev B (tCB (rLenA B.K) (tCons (tVar i) tNil)) es P := fun σ F H S Q q => by
  obtain ⟨vs, h1, h2, h3, h4⟩ := S.own hi
  exact ⟨_, h1, _, xs.length, rfl, .inl ⟨vs, SqL.of h3, h4.length.symm⟩, q _ _ F H S.refl (.int _) h⟩

/-! ### walks -/
def Yl (K : PySem.W.Frag) (F : Hp) (H : Hp) (v : V) (x : Dt) (H' : Hp) : Prop := (H' = H ∧ Rp K F v x) ∨ ∃ T a b x1 x2, v = .ref T ∧ H T = none ∧ H' = upd H T (.tup [a, b]) ∧ Rp K F a x1 ∧ Rp K F b x2 ∧ x = .tup [x1, x2]
structure ItD (K : PySem.W.Frag) (J : It) (F : Hp) (xs : List Dt) : Prop where
  goes : ∀ (i : Nat) H, i < xs.length → Same F H → J.go i H
  stops : ∀ H, Same F H → J.stop xs.length H
  yields : ∀ (i : Nat) H v H', i < xs.length → Same F H → J.yld i H v H' → ∃ x, xs[i]? = some x ∧ Yl K F H v x H'
def EvI (B : Bs) (wi : TI) (es : List Sl) (P : List Dt → Prop) : Prop := ∀ σ F H, Stt B es σ F H → ∀ R : It → Hp → Prop, (∀ J xs F' H', Go B F H F' H' → ItD B.K J F' xs → P xs → R J H') → wi σ H R
theorem Yl.go {σ : St} {F F1 H H' : Hp} {v : V} {x : Dt} (y : Yl B.K F H v x H') (S : Stt B es σ F1 H) (s : Same F F1) : ∃ F2, Go B F1 H F2 H' ∧ Rp B.K F2 v x := by
  rcases y with ⟨rfl, r⟩ | ⟨T, a, b, x1, x2, rfl, h1, rfl, r1, r2, rfl⟩
  · exact ⟨F1, S.refl, r.mono s⟩
  · have hF : F1 T = none := same_none S.sub h1
    have s2 : Same F (upd F1 T (.tup [a, b])) := s.trans (same_upd hF)
    exact ⟨upd F1 T (.tup [a, b]), S.alloc h1, .tup (SqT.of upd_same) (.cons (r1.mono s2) (.cons (r2.mono s2) .nil))⟩
theorem sm_for {wi : TI} {g : TG} {tb : TS} (h : EvI B wi es fun xs => ∃ I : Nat → List Sl → Prop, I 0 es ∧
    (∀ (i : Nat) x es', xs[i]? = some x → I i es' → Tg B g es' x fun e2 => Sm B tb e2 { p with nx := I (i + 1), bk := p.nx, ct := I (i + 1) }) ∧ ∀ es', I xs.length es' → p.nx es') : Sm B (tFor wi g tb) es p := fun σ F H D S n b c r ro =>
  h σ F H S _ fun J xs F1 H1 g1 it ⟨I, i0, is, id⟩ => by
    have S1 := S.go g1
    refine ⟨fun i m σ' H' => m = xs.length - i ∧ i ≤ xs.length ∧ ∃ es' F', Stt B es' σ' F' H' ∧ Same F1 F' ∧ I i es', ⟨xs.length, by simp, Nat.zero_le _, es, F1, S1, Same.refl F1, i0⟩, ?_⟩
    rintro i m σ' H' ⟨rfl, hi, es', F', S', s', hI⟩
    by_cases hlt : i < xs.length
    · refine .inr ⟨it.goes i H' hlt (s'.trans S'.sub), fun σ2 H2 => ∃ es2 F2, Stt B es2 σ2 F2 H2 ∧ Same F1 F2 ∧ I (i + 1) es2, fun σ2 H2 ⟨es2, F2, a1, a2, a3⟩ => ⟨xs.length - (i + 1), by omega, rfl, hlt, es2, F2, a1, a2, a3⟩, fun v H2 y => ?_⟩
      obtain ⟨x, hx, hy⟩ := it.yields i H' v H2 hlt (s'.trans S'.sub) y
      obtain ⟨F2, g2, rx⟩ := hy.go S' s'
      refine is i x es' hx hI σ' F2 H2 v (S'.go g2) rx _ fun es3 σ3 F3 H3 S3 s3 hm => ?_
      have s03 : Same F1 F3 := (s'.trans g2.s1).trans s3
      refine hm σ3 F3 H3 _ S3 (fun e4 a4 F4 H4 S4 s4 q4 => ⟨e4, F4, S4, s03.trans s4, q4⟩) (fun e4 a4 F4 H4 S4 s4 q4 => n e4 a4 F4 H4 S4 ((g1.s1.trans s03).trans s4) q4)
        (fun e4 a4 F4 H4 S4 s4 q4 => ⟨e4, F4, S4, s03.trans s4, q4⟩) (fun v d e4 a4 F4 H4 S4 s4 q4 => r v d e4 a4 F4 H4 S4 ((g1.s1.trans s03).trans s4) q4) (fun a vs xs e2 a2 F2 H2 S2 s2 => ro a vs xs e2 a2 F2 H2 S2 ((g1.s1.trans s03).trans s2))
    · have e : i = xs.length := by omega
      subst e
      exact .inl ⟨it.stops H' (s'.trans S'.sub), n es' σ' F' H' S' (g1.s1.trans s') (id es' hI)⟩
theorem itd_list {K : PySem.W.Frag} {F : Hp} {a : Addr} {vs : List V} {xs : List Dt} (h : F a = some (.lst vs)) (r : RpAll K F vs xs) : ItD K (Itl K a) F xs where
  goes := fun i H hi s => ⟨vs, vs[i]'(by rw [r.length]; exact hi), SqL.of (s _ _ h), by simp⟩
  stops := fun H s => ⟨vs, SqL.of (s _ _ h), by rw [r.length]; exact Nat.le_refl _⟩
  yields := fun i H v H' hi s y => by
    obtain ⟨e, y2⟩ := y
    obtain ⟨d, h1, h2⟩ := r.getV (y2 vs (SqL.of (s _ _ h)))
    exact ⟨d, h1, .inl ⟨e, h2⟩⟩
theorem itd_tup {K : PySem.W.Frag} {F : Hp} {a : Addr} {vs : List V} {xs : List Dt} (h : SqT K F a vs) (r : RpAll K F vs xs) : ItD K (Itt K a) F xs where
  goes := fun i H hi s => ⟨vs, vs[i]'(by rw [r.length]; exact hi), sqT_mono s h, by simp⟩
  stops := fun H s => ⟨vs, sqT_mono s h, by rw [r.length]; exact Nat.le_refl _⟩
  yields := fun i H v H' hi s y => by
    obtain ⟨e, y2⟩ := y
    obtain ⟨d, h1, h2⟩ := r.getV (y2 vs (sqT_mono s h))
    exact ⟨d, h1, .inl ⟨e, h2⟩⟩
def rangeD (lo : Int) (n : Nat) : List Dt := (List.range n).map fun (i : Nat) => Dt.int (lo + (i : Int))
theorem rangeD_len (lo : Int) (n : Nat) : (rangeD lo n).length = n := by simp [rangeD]
theorem rangeD_get {lo : Int} {n i : Nat} {x : Dt} (h : (rangeD lo n)[i]? = some x) : i < n ∧ x = .int (lo + (i : Int)) := by
  have hl := (List.getElem?_eq_some_iff.mp h).1
  rw [rangeD_len] at hl
  refine ⟨hl, ?_⟩
  simp [rangeD, hl] at h
  exact h.symm
theorem itd_range {K : PySem.W.Frag} {F : Hp} {lo : Int} {n : Nat} : ItD K (Itr lo n) F (rangeD lo n) where
  goes := fun i H hi _ => by rw [rangeD_len] at hi; exact hi
  stops := fun H _ => by rw [rangeD_len]; exact Nat.le_refl _
  yields := fun i H v H' hi _ y => by
    rw [rangeD_len] at hi
    obtain ⟨rfl, rfl⟩ := y
    exact ⟨_, by simp [rangeD, hi], .inl ⟨rfl, .int _⟩⟩
def signsD (z : Str) : List Dt := z.cps.toList.map fun c => Dt.str ⟨#[c]⟩
theorem signsD_len (z : Str) : (signsD z).length = z.cps.size := by simp [signsD]
theorem itd_str {K : PySem.W.Frag} {F : Hp} {z : Str} : ItD K (Its z) F (signsD z) where
  goes := fun i H hi _ => by rw [signsD_len] at hi; exact hi
  stops := fun H _ => by rw [signsD_len]; exact Nat.le_refl _
  yields := fun i H v H' hi _ y => by
    obtain ⟨rfl, c, h1, rfl⟩ := y
    refine ⟨.str ⟨#[c]⟩, ?_, .inl ⟨rfl, .str _⟩⟩
    rw [signsD, List.getElem?_map, Array.getElem?_toList, h1]; rfl
def pairD : List Dt → List Dt → List Dt
  | x :: xs, y :: ys => .tup [x, y] :: pairD xs ys
  | _, _ => []
theorem pairD_len : ∀ (xs ys : List Dt), (pairD xs ys).length = min xs.length ys.length
  | [], ys => by simp [pairD]
  | x :: xs, [] => by simp [pairD]
  | x :: xs, y :: ys => by simp only [pairD, List.length_cons, pairD_len xs ys]; omega
theorem pairD_get : ∀ {xs ys : List Dt} {i : Nat} {x y : Dt}, xs[i]? = some x → ys[i]? = some y → (pairD xs ys)[i]? = some (.tup [x, y])
  | [], _, i, _, _, h, _ => by simp at h
  | _ :: _, [], i, _, _, _, h => by simp at h
  | a :: xs, b :: ys, 0, x, y, h1, h2 => by simp at h1 h2; subst h1 h2; rfl
  | a :: xs, b :: ys, i + 1, x, y, h1, h2 => by
    have := pairD_get (i := i) (xs := xs) (ys := ys) (x := x) (y := y) (by simpa using h1) (by simpa using h2)
    simpa [pairD] using this
theorem itd_zip {K : PySem.W.Frag} {F : Hp} {a b : Addr} {vs ws : List V} {xs ys : List Dt} (h : F a = some (.lst vs)) (r : RpAll K F vs xs) (h' : F b = some (.lst ws)) (r' : RpAll K F ws ys) : ItD K (Itz K a b) F (pairD xs ys) where
  goes := fun i H hi s => by
    rw [pairD_len] at hi
    have l1 := r.length
    have l2 := r'.length
    have w := walk_zip (K := K) (a := a) (b := b) (xs := vs) (ys := ws) (n := min vs.length ws.length) rfl
    exact w.goes i H (by omega) ⟨SqL.of (s _ _ h), SqL.of (s _ _ h')⟩
  stops := fun H s => by
    have l1 := r.length
    have l2 := r'.length
    have w := walk_zip (K := K) (a := a) (b := b) (xs := vs) (ys := ws) (n := min vs.length ws.length) rfl
    have q := w.stops H ⟨SqL.of (s _ _ h), SqL.of (s _ _ h')⟩
    rw [pairD_len, ← l1, ← l2]
    exact q
  yields := fun i H v H' hi s y => by
    rw [pairD_len] at hi
    have l1 := r.length
    have l2 := r'.length
    have w := walk_zip (K := K) (a := a) (b := b) (xs := vs) (ys := ws) (n := min vs.length ws.length) rfl
    obtain ⟨T, x, z, e1, e2, e3, e4, e5⟩ := w.yields i H v H' (by omega) ⟨SqL.of (s _ _ h), SqL.of (s _ _ h')⟩ y
    obtain ⟨d1, k1, k2⟩ := r.getV e4
    obtain ⟨d2, k3, k4⟩ := r'.getV e5
    exact ⟨_, pairD_get k1 k3, .inr ⟨T, x, z, d1, d2, e1, e2, e3, k2, k4, rfl⟩⟩
theorem itd_zipT {K : PySem.W.Frag} {F : Hp} {a b : Addr} {vs ws : List V} {xs ys : List Dt} (h : SqT K F a vs) (r : RpAll K F vs xs) (h' : SqT K F b ws) (r' : RpAll K F ws ys) : ItD K (RZ.ItzT K a b) F (pairD xs ys) where
  goes := fun i H hi s => by
    rw [pairD_len] at hi
    have l1 := r.length
    have l2 := r'.length
    have i1 : i < vs.length := by omega
    have i2 : i < ws.length := by omega
    exact ⟨vs, ws, vs[i], ws[i], sqT_mono s h, sqT_mono s h', by simp [i1], by simp [i2]⟩
  stops := fun H s => by
    have l1 := r.length
    have l2 := r'.length
    exact ⟨vs, ws, sqT_mono s h, sqT_mono s h', by rw [pairD_len]; omega⟩
  yields := fun i H v H' hi s y => by
    rw [pairD_len] at hi
    obtain ⟨T, x, z, e1, e2, e3, e4, e5⟩ := y
    obtain ⟨d1, k1, k2⟩ := r.getV (e4 vs (sqT_mono s h))
    obtain ⟨d2, k3, k4⟩ := r'.getV (e5 ws (sqT_mono s h'))
    exact ⟨_, pairD_get k1 k3, .inr ⟨T, x, z, d1, d2, e1, e2, e3, k2, k4, rfl⟩⟩
theorem ei_list {te : TE} {P : List Dt → Prop} (h : Ev B te es fun d => ∃ xs, d = .lst xs ∧ P xs) : EvI B (iList B.K te) es P := fun σ F H S R q => h σ F H S _ fun v d F1 H1 g1 r1 ⟨xs, e, p1⟩ => by
  subst e
  cases r1 with
  | lst h1 h2 => exact ⟨_, rfl, ⟨_, SqL.of (g1.s2 _ _ h1)⟩, q _ xs F1 H1 g1 (itd_list h1 h2) p1⟩
theorem ei_tup {te : TE} {P : List Dt → Prop} (h : Ev B te es fun d => ∃ xs, d = .tup xs ∧ P xs) : EvI B (iTup B.K te) es P := fun σ F H S R q => h σ F H S _ fun v d F1 H1 g1 r1 ⟨xs, e, p1⟩ => by
  subst e
  cases r1 with
  | tup h1 h2 => exact ⟨_, rfl, ⟨_, sqT_mono g1.s2 h1⟩, q _ xs F1 H1 g1 (itd_tup h1 h2) p1⟩
theorem ei_rng1 {ta : TA} {P : List Dt → Prop} (h : EvA B ta es fun ds => ∃ n : Int, ds = [.int n] ∧ -(2 ^ 62) ≤ n ∧ n < 2 ^ 62 ∧ P (rangeD 0 n.toNat)) : EvI B (iRng1 ta) es P := fun σ F H S R q => h σ F H S _ fun vs ds F1 H1 g1 r1 ⟨n, e, l1, l2, p1⟩ => by
  subst e
  obtain ⟨v, rfl, r⟩ := rp1 r1
  cases r
  exact ⟨n, rfl, l1, l2, q _ _ F1 H1 g1 itd_range p1⟩
theorem ei_rng2 {ta : TA} {P : List Dt → Prop} (h : EvA B ta es fun ds => ∃ m n : Int, ds = [.int m, .int n] ∧ (-(2 ^ 62) ≤ m ∧ m < 2 ^ 62 ∧ -(2 ^ 62) ≤ n ∧ n < 2 ^ 62) ∧ P (rangeD m (n - m).toNat)) : EvI B (iRng2 ta) es P := fun σ F H S R q => h σ F H S _ fun vs ds F1 H1 g1 r1 ⟨m, n, e, l1, p1⟩ => by
  subst e
  obtain ⟨v, w, rfl, r, r'⟩ := rp2 r1
  cases r; cases r'
  exact ⟨m, n, rfl, l1, q _ _ F1 H1 g1 itd_range p1⟩
theorem ei_str {te : TE} {P : List Dt → Prop} (h : Ev B te es fun d => ∃ z, d = .str z ∧ P (signsD z)) : EvI B (iStr te) es P := fun σ F H S R q => h σ F H S _ fun v d F1 H1 g1 r1 ⟨z, e, p1⟩ => by
  subst e
  cases r1
  exact ⟨z, rfl, q _ _ F1 H1 g1 itd_str p1⟩
theorem ei_zip {ta : TA} {P : List Dt → Prop} (h : EvA B ta es fun ds => ∃ xs ys, (ds = [.lst xs, .lst ys] ∨ ds = [.tup xs, .tup ys]) ∧ P (pairD xs ys)) : EvI B (RZ.iZipA B.K ta) es P := fun σ F H S R q => h σ F H S _ fun vs ds F1 H1 g1 r1 ⟨xs, ys, e, p1⟩ => by
  rcases e with e | e
  · subst e
    obtain ⟨v, w, rfl, r, r'⟩ := rp2 r1
    cases r with
    | lst h1 h2 =>
      cases r' with
      | lst h3 h4 => exact ⟨_, _, _, _, rfl, .inl ⟨SqL.of (g1.s2 _ _ h1), SqL.of (g1.s2 _ _ h3), q _ _ F1 H1 g1 (itd_zip h1 h2 h3 h4) p1⟩⟩
  · subst e
    obtain ⟨v, w, rfl, r, r'⟩ := rp2 r1
    cases r with
    | tup h1 h2 =>
      cases r' with
      | tup h3 h4 => exact ⟨_, _, _, _, rfl, .inr ⟨sqT_mono g1.s2 h1, sqT_mono g1.s2 h3, q _ _ F1 H1 g1 (itd_zipT h1 h2 h3 h4) p1⟩⟩
/-! ### comprehensions -/
def wipeE (es : List Sl) : List Nat → List Sl
  | [] => es
  | v :: vs => (wipeE es vs).set v .no
theorem Stt.wipe {σ : St} {F H : Hp} (S : Stt B es σ F H) : ∀ vs : List Nat, Stt B (wipeE es vs) (wipe σ vs) F H
  | [] => S
  | v :: vs => (S.wipe vs).set (i := v) (e := .no) (o := none) rfl fun _ _ e => nomatch e
/-- what a target that stores into slots of vs alone does -/
def TgC (B : Bs) (g : TG) (es : List Sl) (vs : List Nat) (x : Dt) (P : List Sl → Prop) : Prop := ∀ σ F H v, Stt B es σ F H → Rp B.K F v x → ∀ Q : St → Hp → Prop, (∀ es' σ', Stt B es' σ' F H → wipe σ' vs = wipe σ vs → P es' → Q σ' H) → g v σ H Q
theorem tc_name {j : Nat} {x : Dt} {P : List Sl → Prop} (h : P (es.set j (.d x))) : TgC B (gName j) es [j] x P := fun σ F H v S r Q q => q _ _ (S.setD r) (by simp [wipe]) h
theorem tc_tup2 {i j : Nat} {x y : Dt} {P : List Sl → Prop} (hij : i ≠ j) (h : P ((es.set i (.d x)).set j (.d y))) : TgC B (gTup B.K 2 (gCons (gName i) (gCons (gName j) gNil))) es [i, j] (.tup [x, y]) P := fun σ F H v S r Q q => by
  cases r with
  | tup h1 h2 =>
    obtain ⟨a, b, rfl, r1, r2⟩ := rp2 h2
    refine ⟨_, _, rfl, sqT_mono S.sub h1, rfl, a, [b], rfl, b, [], rfl, rfl, q _ _ ((S.setD r1).setD r2) ?_ h⟩
    simp only [wipe]
    apply List.ext_getElem?
    intro k
    simp only [List.getElem?_set, List.length_set]
    by_cases h1 : i = k <;> by_cases h2 : j = k <;> simp [h1, h2]
theorem tc_tup2' {i j : Nat} {x y : Dt} {P : List Sl → Prop} (hij : i ≠ j) (h : P ((es.set i (.d x)).set j (.d y))) : TgC B (gTup B.K 2 (gCons (gName i) (gCons (gName j) gNil))) es [j, i] (.tup [x, y]) P := fun σ F H v S r Q q => by
  cases r with
  | tup h1 h2 =>
    obtain ⟨a, b, rfl, r1, r2⟩ := rp2 h2
    refine ⟨_, _, rfl, sqT_mono S.sub h1, rfl, a, [b], rfl, b, [], rfl, rfl, q _ _ ((S.setD r1).setD r2) ?_ h⟩
    simp only [wipe]
    apply List.ext_getElem?
    intro k
    simp only [List.getElem?_set, List.length_set]
    by_cases h1 : i = k <;> by_cases h2 : j = k <;> simp [h1, h2]
theorem wipe_wipe (σ : St) (vs : List Nat) : wipe (wipe σ vs) vs = wipe σ vs := by
  have key : ∀ (us : List Nat) (τ : St) (k : Nat), (wipe τ us)[k]? = if k ∈ us then (τ[k]?).map (fun _ => none) else τ[k]? := by
    intro us
    induction us with
    | nil => intro τ k; simp [wipe]
    | cons u us ih =>
      intro τ k
      rw [wipe, List.getElem?_set, wipe_length]
      by_cases h : u = k
      · subst h
        by_cases hl : u < τ.length
        · simp [hl]
        · simp [hl, ih]
      · rw [if_neg h, ih]
        by_cases h2 : k ∈ us
        · simp [h2]
        · have : ¬ k = u := fun e => h e.symm
          simp [h2, this]
  apply List.ext_getElem?
  intro k
  rw [key, key]
  by_cases h : k ∈ vs
  · simp only [h, if_true]
    cases σ[k]? <;> rfl
  · simp [h]
theorem eo_lc {wi : TI} {g : TG} {tt : TT} {te : TE} {vs : List Nat} {P : List Dt → Prop} (h : EvI B wi es fun xs => xs.length < 100000 ∧ ∃ I : Nat → List Dt → Prop, I 0 [] ∧
    (∀ (i : Nat) x acc, xs[i]? = some x → I i acc → TgC B g (wipeE es vs) vs x fun e2 => EvT B tt e2 fun b => (b = true → Ev B te e2 fun y => I (i + 1) (acc ++ [y])) ∧ (b = false → I (i + 1) acc)) ∧ ∀ acc, I xs.length acc → P acc) : EvO B (tLc wi g tt te vs) es P := fun σ F H S Q q =>
  h σ F H S _ fun J xs F1 H1 g1 it ⟨hlen, I, i0, is, id⟩ => by
    intro Dl hD
    have S1 := S.go g1
    have hH : H Dl = none := g1.new (S1.newB hD) hD
    have gD := S1.allocO (o := .lst []) hD
    refine ⟨fun i m H' => m = xs.length - i ∧ i ≤ xs.length ∧ ∃ F' ws acc, Go B F1 (upd H1 Dl (.lst [])) F' (upd H' Dl (.lst [])) ∧ F' Dl = none ∧ Same F' H' ∧ (∀ b, B.bag = some b → BagAt B.K F' H' b) ∧ H' Dl = some (.lst ws) ∧ RpAll B.K F' ws acc ∧ acc.length ≤ i ∧ I i acc,
      ⟨xs.length, by simp, Nat.zero_le _, F1, [], [], ?_, same_none S1.sub hD, gD.s2, gD.bg, upd_same, .nil, Nat.zero_le _, i0⟩, ?_⟩
    · rw [upd_upd]
      exact (S1.go gD).refl
    rintro i m H' ⟨rfl, hi, F', ws, acc, g', hF', s', b', hw, hr, hal, hI⟩
    have gAll : Go B F1 H1 F' H' := by
      refine ⟨g'.s1, s', fun c h1 h2 => ?_, fun c o h1 h2 => ?_, b'⟩
      · refine g'.nw c ?_ h2
        rw [upd_ne (fun e => h1 (by rw [e]; exact hD))]
        exact h1
      · have hc : c ≠ Dl := ne_of_none h2 hD
        have k := g'.kp c o h1 (by rw [upd_ne hc]; exact h2)
        rw [upd_ne hc] at k
        exact k
    have S' := S1.go gAll
    by_cases hlt : i < xs.length
    · refine .inr ⟨it.goes i H' hlt (g'.s1.trans s'), fun H2 => ∃ F2 ws2 acc2, Go B F1 (upd H1 Dl (.lst [])) F2 (upd H2 Dl (.lst [])) ∧ F2 Dl = none ∧ Same F2 H2 ∧ (∀ b, B.bag = some b → BagAt B.K F2 H2 b) ∧ H2 Dl = some (.lst ws2) ∧ RpAll B.K F2 ws2 acc2 ∧ acc2.length ≤ i + 1 ∧ I (i + 1) acc2,
        fun H2 q2 => ⟨xs.length - (i + 1), by omega, rfl, hlt, q2⟩, fun v H2 y => ?_⟩
      obtain ⟨x, hx, hy⟩ := it.yields i H' v H2 hlt (g'.s1.trans s') y
      obtain ⟨F2, g2, rx⟩ := hy.go S' g'.s1
      have S2 := (S'.go g2).wipe vs
      have hD' : B.bag ≠ some Dl := S1.newB hD
      refine is i x acc hx hI _ F2 H2 v S2 rx _ fun es3 σ3 S3 hw3 p3 => ?_
      rw [wipe_wipe] at hw3
      refine ⟨hw3, p3 σ3 F2 H2 S3 _ fun b F3 H3 g3 p4 => ?_⟩
      -- from (F', H') to (F3, H3): the new list stays
      have g23 : Go B F' H' F3 H3 := g2.trans g3
      have hl3 : H3 Dl = some (.lst ws) := g23.kp Dl _ hD' hw
      have hF3 : F3 Dl = none := g23.nw Dl (by rw [hw]; simp) hF'
      have fin : ∀ F4 H4, Go B F' H' F4 H4 → F4 Dl = none → ∀ o, Go B F1 (upd H1 Dl (.lst [])) F4 (upd (upd H4 Dl o) Dl (.lst [])) := fun F4 H4 g4 hn o => by
        rw [upd_upd]
        refine ⟨g'.s1.trans g4.s1, fun c u e => ?_, fun c h1 h2 => ?_, fun c u h1 h2 => ?_, fun b hb => ?_⟩
        · rw [upd_ne (ne_of_none e hn)]; exact g4.s2 c u e
        · by_cases hc : c = Dl
          · rw [hc]; exact hn
          · rw [upd_ne hc] at h1
            have := gAll.nw c h1 h2
            refine g4.nw c ?_ this
            by_cases hb : B.bag = some c
            · obtain ⟨_, z, _, k, _⟩ := b' c hb; rw [k]; simp
            · cases e : H1 c with
              | none => exact absurd e h1
              | some u => rw [gAll.kp c u hb e]; simp
        · by_cases hc : c = Dl
          · rw [hc, upd_same] at h2 ⊢; exact h2
          · rw [upd_ne hc] at h2 ⊢; exact g4.kp c u h1 (gAll.kp c u h1 h2)
        · obtain ⟨k1, z, zs, k2, k3, k4⟩ := g4.bg b hb
          have hbd : b ≠ Dl := fun e => hD' (by rw [hb, e])
          exact ⟨k1, z, zs, by rw [upd_ne hbd]; exact k2, k3, k4⟩
      cases b with
      | true =>
        show te σ3 H3 _
        refine p4.1 rfl σ3 F3 H3 (S3.go g3) _ fun w y' F4 H4 g4 r4 p5 => ?_
        have g24 := g23.trans g4
        have hl4 : H4 Dl = some (.lst ws) := g24.kp Dl _ hD' hw
        have hF4 : F4 Dl = none := g24.nw Dl (by rw [hw]; simp) hF'
        have hb4 : ∀ b, B.bag = some b → BagAt B.K F4 (upd H4 Dl (.lst (ws ++ [w]))) b := fun b hb => by
          obtain ⟨k1, z, zs, k2, k3, k4⟩ := g4.bg b hb
          have hbd : b ≠ Dl := fun e => hD' (by rw [hb, e])
          exact ⟨k1, z, zs, by rw [upd_ne hbd]; exact k2, k3, k4⟩
        refine ⟨ws, hl4, size_lt (by rw [hr.length]; omega), F4, ws ++ [w], acc ++ [y'], fin F4 H4 g24 hF4 _, hF4, fun c u e => by rw [upd_ne (ne_of_none e hF4)]; exact g4.s2 c u e, hb4, upd_same, (hr.mono g24.s1).app (.cons r4 .nil), by simp; omega, p5⟩
      | false =>
        have e3 : upd H3 Dl (.lst ws) = H3 := by
          funext c
          by_cases hc : c = Dl
          · rw [hc, upd_same, hl3]
          · rw [upd_ne hc]
        refine ⟨F3, ws, acc, ?_, hF3, g3.s2, g3.bg, hl3, hr.mono g23.s1, by omega, p4.2 rfl⟩
        have := fin F3 H3 g23 hF3 (.lst ws)
        rw [e3] at this
        exact this
    · have e : i = xs.length := by omega
      subst e
      exact .inl ⟨it.stops H' (g'.s1.trans s'), q Dl ws acc F' H' (g1.trans gAll) hH hF' hw hr (id acc hI)⟩
theorem et_yes {P : Bool → Prop} (h : P true) : EvT B tYes es P := fun σ F H S Q q => q true F H S.refl h
/-- [f(x) for x in xs] where each item is told -/
theorem eo_map {wi : TI} {g : TG} {te : TE} {vs : List Nat} {P : List Dt → Prop} (h : EvI B wi es fun xs => xs.length < 100000 ∧ ∃ R : Dt → Dt → Prop,
    (∀ (i : Nat) x, xs[i]? = some x → TgC B g (wipeE es vs) vs x fun e2 => Ev B te e2 fun y => R x y) ∧ ∀ ys : List Dt, ys.length = xs.length → (∀ (i : Nat) x y, xs[i]? = some x → ys[i]? = some y → R x y) → P ys) : EvO B (tLc wi g tYes te vs) es P :=
  eo_lc fun σ F H S Q q => h σ F H S Q fun J xs F1 H1 g1 it ⟨hl, R, h1, h2⟩ => q J xs F1 H1 g1 it ⟨hl, fun i acc => i ≤ xs.length ∧ acc.length = i ∧ ∀ (k : Nat) x y, xs[k]? = some x → acc[k]? = some y → R x y, ⟨Nat.zero_le _, rfl, fun k x y _ e => by simp at e⟩,
    fun i x acc hx ⟨hi, ha, hR⟩ σ F H v S r Q q => h1 i x hx σ F H v S r Q fun es' σ' S' hw p => q es' σ' S' hw (et_yes ⟨fun _ => p.imp fun y hy => ⟨(List.getElem?_eq_some_iff.mp hx).1, by rw [List.length_append, ha]; rfl, fun k a b ka kb => by
      by_cases hk : k < acc.length
      · rw [List.getElem?_append_left hk] at kb; exact hR k a b ka kb
      · rw [List.getElem?_append_right (by omega)] at kb
        have hk2 : k = i := by
          have := (List.getElem?_eq_some_iff.mp kb).1
          simp at this; omega
        subst hk2
        rw [hx] at ka
        cases ka
        rw [ha] at kb
        simp at kb
        rw [← kb]
        exact hy⟩, fun z => nomatch z⟩), fun acc ⟨_, ha, hR⟩ => h2 acc ha hR⟩
end

/-! ### the promise of a def -/
/-- a def that hands back a new list -/
def spO (K : PySem.W.Frag) (Pre : List Dt → Prop) (Post : List Dt → List Dt → Prop) : Sp := fun vs H Q _ => ∃ F ds, Same F H ∧ RpAll K F vs ds ∧ Pre ds ∧
  ∀ a ws xs F' H', Same F F' → (∀ c, H c ≠ none → F c = none → F' c = none) → Same F' H' → Same H H' → H a = none → F' a = none → H' a = some (.lst ws) → RpAll K F' ws xs → Post ds xs → Q (.ref a) H'
theorem eo_call {B : Bs} {es : List Sl} {Pre : List Dt → Prop} {Post : List Dt → List Dt → Prop} {E : XK} {ta : TA} {P : List Dt → Prop} (h : EvA B ta es fun ds => Pre ds ∧ ∀ d, Post ds d → P d) : EvO B (tCall (spO B.K Pre Post) [] E ta) es P := fun σ F H S Q q =>
  h σ F H S _ fun vs ds F1 H1 g1 r1 ⟨p1, p2⟩ => by
    rw [List.append_nil]
    exact ⟨F1, ds, g1.s2, r1, p1, fun a ws xs F2 H2 s1 s2 s3 s4 h1 h2 h3 r2 p3 => q a ws xs F2 H2 (g1.trans ((S.go g1).pure s1 s3 s2 s4)) (g1.new ((S.go g1).newB h1) h1) h2 h3 r2 (p2 xs p3)⟩
theorem eo_callD {B : Bs} {es : List Sl} {Pre : List Dt → Prop} {Post : List Dt → List Dt → Prop} {E : XK} {ta : TA} {P : List Dt → Prop} {dvs : List V} {dds : List Dt} (hd : ∀ F, RpAll B.K F dvs dds) (h : EvA B ta es fun ds => Pre (ds ++ dds) ∧ ∀ d, Post (ds ++ dds) d → P d) : EvO B (tCall (spO B.K Pre Post) dvs E ta) es P := fun σ F H S Q q =>
  h σ F H S _ fun vs ds F1 H1 g1 r1 ⟨p1, p2⟩ => ⟨F1, ds ++ dds, g1.s2, r1.app (hd F1), p1, fun a ws xs F2 H2 s1 s2 s3 s4 h1 h2 h3 r2 p3 => q a ws xs F2 H2 (g1.trans ((S.go g1).pure s1 s3 s2 s4)) (g1.new ((S.go g1).newB h1) h1) h2 h3 r2 (p2 xs p3)⟩
theorem eo_callN {B : Bs} {es : List Sl} {Pre : List Dt → Prop} {Post : List Dt → List Dt → Prop} {E : XK} {ta tk : TA} {P : List Dt → Prop} {n m : Nat} {gV : List V → List V → List V} {gD : List Dt → List Dt → List Dt}
    (hg : ∀ F vs ds zs as, RpAll B.K F vs ds → RpAll B.K F zs as → RpAll B.K F (gV vs zs) (gD ds as))
    (h : EvA B ta es fun ds => EvA B tk es fun as => ds.length = n ∧ as.length = m ∧ Pre (gD ds as) ∧ ∀ d, Post (gD ds as) d → P d) : EvO B (tCallN n m (spO B.K Pre Post) gV E ta tk) es P := fun σ F H S Q q =>
  h σ F H S _ fun vs ds F1 H1 g1 r1 p0 => p0 σ F1 H1 (S.go g1) _ fun zs as F2 H2 g2 r2 ⟨l1, l2, p1, p2⟩ => by
    have g := g1.trans g2
    exact ⟨by rw [r1.length]; exact l1, by rw [r2.length]; exact l2, F2, gD ds as, g2.s2, hg F2 _ _ _ _ (r1.mono g2.s1) r2, p1, fun a ws xs F3 H3 s1 s2 s3 s4 h1 h2 h3 r3 p3 => q a ws xs F3 H3 (g.trans ((S.go g).pure s1 s3 s2 s4)) (g.new ((S.go g).newB h1) h1) h2 h3 r3 (p2 xs p3)⟩
theorem start_stt {K : PySem.W.Frag} {F H : Hp} {vs : List V} {ds : List Dt} {N : List Str} {bag : Option Addr} (s : Same F H) (r : RpAll K F vs ds) (hb : ∀ b, bag = some b → BagAt K F H b) :
    Stt ⟨K, F, H, bag⟩ (ds.map Sl.d ++ List.replicate (N.length - ds.length) Sl.no) (L2.start N vs) F H where
  sub := s
  s0 := Same.refl F
  ou := fun c _ h => h
  fr := fun c o h _ => h
  bg := hb
  len := by simp [L2.start, r.length]
  ok := fun i e o h1 h2 => by
    unfold L2.start at h2
    by_cases hi : i < ds.length
    · rw [List.getElem?_append_left (by simpa using hi)] at h1
      rw [List.getElem?_append_left (by simp [r.length]; exact hi)] at h2
      rw [List.getElem?_map] at h1 h2
      cases e1 : ds[i]? with
      | none => rw [e1] at h1; cases h1
      | some d =>
        obtain ⟨v, k1, k2⟩ := r.get e1
        rw [e1] at h1
        rw [k1] at h2
        cases h1; cases h2
        exact ⟨v, rfl, k2⟩
    · rw [List.getElem?_append_right (by simpa using hi)] at h1
      rw [List.getElem?_append_right (by simp [r.length]; omega)] at h2
      have q1 := List.mem_of_getElem? h1
      have q2 := List.mem_of_getElem? h2
      rw [List.eq_of_mem_replicate q1, List.eq_of_mem_replicate q2]
      rfl
  ow := fun i a xs h1 => by
    have hm := List.mem_of_getElem? h1
    rcases List.mem_append.mp hm with h | h
    · obtain ⟨d, _, e⟩ := List.mem_map.mp h; cases e
    · cases List.eq_of_mem_replicate h
  dis := fun i j a b xs ys _ h1 => by
    have hm := List.mem_of_getElem? h1
    rcases List.mem_append.mp hm with h | h
    · obtain ⟨d, _, e⟩ := List.mem_map.mp h; cases e
    · cases List.eq_of_mem_replicate h
abbrev env0 (N : List Str) (ds : List Dt) : List Sl := ds.map Sl.d ++ List.replicate (N.length - ds.length) Sl.no
abbrev env1 (N : List Str) (b : Addr) (ds : List Dt) : List Sl := .r (.ref b) :: (ds.map Sl.d ++ List.replicate (N.length - (ds.length + 1)) Sl.no)
section
variable {P : Program} {w : World} {K : PySem.W.Frag} {mg : Str → Option Value} {base : Heap} {x qual : Str} {st : Stmt} {f : Addr} {fd : FuncData} {N ps : List Str} {k : Nat} {Pre : List Dt → Prop} {Post : List Dt → Dt → Prop}
theorem fn_data (G : Fun K x qual st f fd) (S : FnScope N ps (defScope st)) (hl : ∀ ds, Pre ds → ds.length = ps.length)
    (hb : ∀ (cdv : Value) (A : Around) (outer : List Env) (s : Shared) (H : Hp) (E : XK), Room k (A.deeper (PyProof.Rows.envOfC qual (defScope st) s.heap.objs.size f cdv)) →
      ∃ t, PSs (cxOf CX0 P w K mg base N qual (defScope st) f cdv A outer s H E).nox (defBody st) t ∧ ∀ F0 H0 ds, Pre ds → Sm ⟨K, F0, H0, none⟩ t (env0 N ds) { nx := fun _ => Post ds .non, bk := fun _ => False, ct := fun _ => False, rt := fun _ => Post ds }) :
    FnOk P w K mg base CX0 (k + 1) f fd ps (spD K Pre Post) := by
  refine G.ok S (fun vs H Q E h => ?_) (fun cdv A outer s H vs Q E hr h => ?_)
  · obtain ⟨F, ds, _, r, hp, _⟩ := h
    rw [r.length]; exact hl ds hp
  · obtain ⟨F, ds, hs, r, hp, q⟩ := h
    obtain ⟨t, hd, hm⟩ := hb cdv A outer s H E hr
    refine ⟨t, hd, hm F H ds hp _ F H _ (start_stt hs r (fun _ z => nomatch z)) (fun es' σ' F' H' S' s' p => ?_) (fun _ _ _ _ _ _ z => z.elim) (fun _ _ _ _ _ _ z => z.elim) (fun v d es' σ' F' H' S' s' rv p => ?_) (fun _ _ _ _ _ _ _ _ _ _ _ _ _ _ z => z.elim)⟩
    · exact q _ _ F' H' s' S'.ou S'.sub (fun c o e => S'.fr c o e (fun z => nomatch z)) .non p
    · exact q _ _ F' H' s' S'.ou S'.sub (fun c o e => S'.fr c o e (fun z => nomatch z)) rv p
/-- a def whose first argument is the drawing's list, changed within -/
theorem fn_draw (G : Fun K x qual st f fd) (S : FnScope N ps (defScope st)) (hl : ∀ ds, Pre ds → ds.length + 1 = ps.length)
    (hb : ∀ (cdv : Value) (A : Around) (outer : List Env) (s : Shared) (H : Hp) (E : XK), Room k (A.deeper (PyProof.Rows.envOfC qual (defScope st) s.heap.objs.size f cdv)) →
      ∃ t, PSs (cxOf CX0 P w K mg base N qual (defScope st) f cdv A outer s H E).nox (defBody st) t ∧ ∀ F0 H0 b xs ds, BagD xs → Pre ds →
        Sm ⟨K, F0, H0, none⟩ t (.own b xs :: (ds.map Sl.d ++ List.replicate (N.length - (ds.length + 1)) Sl.no)) { nx := fun _ => False, bk := fun _ => False, ct := fun _ => False, rt := fun es' d => Post ds d ∧ ∃ ys, es'[0]? = some (.own b ys) ∧ BagD ys }) :
    FnOk P w K mg base CX0 (k + 1) f fd ps (spB K Pre Post) := by
  refine G.ok S (fun vs H Q E h => ?_) (fun cdv A outer s H vs Q E hr h => ?_)
  · obtain ⟨b, ws, F, ds, rfl, _, _, r, hp, _⟩ := h
    rw [List.length_cons, r.length]; exact hl ds hp
  · obtain ⟨b, ws, F, ds, rfl, hs, ⟨hFb, us, xs, hus, hr0, hB⟩, r, hp, q⟩ := h
    obtain ⟨t, hd, hm⟩ := hb cdv A outer s H E hr
    let H0 : Hp := fun c => if c = b then none else H c
    have e0 : H0 b = none := if_pos rfl
    have e1 : ∀ c, c ≠ b → H0 c = H c := fun c hc => if_neg hc
    have S0 := start_stt (K := K) (F := F) (H := H) (vs := .non :: ws) (ds := .non :: ds) (N := N) (bag := none) hs (.cons .non r) (fun _ z => nomatch z)
    have no : ∀ (j : Nat) c zs, (Sl.d .non :: (ds.map Sl.d ++ List.replicate (N.length - (ds.length + 1)) Sl.no))[j]? = some (.own c zs) → False := fun j c zs hj => by
      have hm := List.mem_of_getElem? hj
      rcases List.mem_cons.mp hm with h | h
      · cases h
      · rcases List.mem_append.mp h with h | h
        · obtain ⟨d, _, e⟩ := List.mem_map.mp h; cases e
        · cases List.eq_of_mem_replicate h
    have S1 : Stt ⟨K, F, H0, none⟩ (.d .non :: (ds.map Sl.d ++ List.replicate (N.length - (ds.length + 1)) Sl.no)) (L2.start N (.non :: ws)) F H := by
      refine ⟨S0.sub, S0.s0, fun c h1 h2 => h2, fun c o h1 _ => ?_, (fun _ z => nomatch z), S0.len, S0.ok, fun i a ys h1 => (no i a ys h1).elim, S0.dis⟩
      have h1 : H0 c = some o := h1
      by_cases hc : c = b
      · rw [hc, e0] at h1; cases h1
      · rw [e1 c hc] at h1; exact h1
    have S2 : Stt ⟨K, F, H0, none⟩ (.own b xs :: (ds.map Sl.d ++ List.replicate (N.length - (ds.length + 1)) Sl.no)) (L2.start N (.ref b :: ws)) F H :=
      S1.set (i := 0) (e := .own b xs) (o := some (.ref b)) ⟨us, rfl, hFb, hus, hr0⟩ fun c ys e => by
        cases e
        exact ⟨e0, (fun z => nomatch z), fun j c zs hj => (no j c zs hj).elim⟩
    refine ⟨t, hd, hm F H0 b xs ds hB hp _ F H _ S2 (fun _ _ _ _ _ _ z => z.elim) (fun _ _ _ _ _ _ z => z.elim) (fun _ _ _ _ _ _ z => z.elim) (fun v d es' σ' F' H' S' s' rv ⟨p, ys, hy, hB'⟩ => ?_) (fun _ _ _ _ _ _ _ _ _ _ _ _ _ _ z => z.elim)⟩
    obtain ⟨vs', k1, k2, k3, k4⟩ := S'.own hy
    refine q v d F' H' s' (fun c h1 h2 => ?_) S'.sub (fun c o hc ho => S'.fr c o (by show H0 c = some o; rw [e1 c hc]; exact ho) (fun z => nomatch z)) ⟨k2, vs', ys, k3, k4, hB'⟩ rv p
    by_cases hc : c = b
    · rw [hc]; exact k2
    · exact S'.ou c (by show H0 c ≠ none; rw [e1 c hc]; exact h1) h2
/-- the promise of a def that hands back a new list -/
theorem fn_own {PostO : List Dt → List Dt → Prop} (G : Fun K x qual st f fd) (S : FnScope N ps (defScope st)) (hl : ∀ ds, Pre ds → ds.length = ps.length)
    (hb : ∀ (cdv : Value) (A : Around) (outer : List Env) (s : Shared) (H : Hp) (E : XK), Room k (A.deeper (PyProof.Rows.envOfC qual (defScope st) s.heap.objs.size f cdv)) →
      ∃ t, PSs (cxOf CX0 P w K mg base N qual (defScope st) f cdv A outer s H E).nox (defBody st) t ∧ ∀ F0 H0 ds, Pre ds → Sm ⟨K, F0, H0, none⟩ t (env0 N ds) { nx := fun _ => False, bk := fun _ => False, ct := fun _ => False, rt := fun _ _ => False, ro := PostO ds }) :
    FnOk P w K mg base CX0 (k + 1) f fd ps (spO K Pre PostO) := by
  refine G.ok S (fun vs H Q E h => ?_) (fun cdv A outer s H vs Q E hr h => ?_)
  · obtain ⟨F, ds, _, r, hp, _⟩ := h
    rw [r.length]; exact hl ds hp
  · obtain ⟨F, ds, hs, r, hp, q⟩ := h
    obtain ⟨t, hd, hm⟩ := hb cdv A outer s H E hr
    refine ⟨t, hd, hm F H ds hp _ F H _ (start_stt hs r (fun _ z => nomatch z)) (fun _ _ _ _ _ _ z => z.elim) (fun _ _ _ _ _ _ z => z.elim) (fun _ _ _ _ _ _ z => z.elim) (fun _ _ _ _ _ _ _ _ _ z => z.elim) (fun a vs xs es' σ' F' H' S' s' h1 h2 r1 h3 h4 p => ?_)⟩
    exact q a vs xs F' H' s' S'.ou S'.sub (fun c o e => S'.fr c o e (fun z => nomatch z)) h3 h1 h2 r1 p
theorem start_sttB {F H : Hp} {vs : List V} {ds : List Dt} {b : Addr} (s : Same F H) (r : RpAll K F vs ds) (hb : BagAt K F H b) : Stt ⟨K, F, H, some b⟩ (env1 N b ds) (L2.start N (.ref b :: vs)) F H := by
  have S := start_stt (K := K) (F := F) (H := H) (vs := .non :: vs) (ds := .non :: ds) (N := N) (bag := some b) s (.cons .non r) (fun b' e => by cases e; exact hb)
  have S2 := S.set (i := 0) (e := .r (.ref b)) (o := some (.ref b)) rfl fun _ _ e => nomatch e
  exact S2
theorem fn_bag (G : Fun K x qual st f fd) (S : FnScope N ps (defScope st)) (hl : ∀ ds, Pre ds → ds.length + 1 = ps.length)
    (hb : ∀ (cdv : Value) (A : Around) (outer : List Env) (s : Shared) (H : Hp) (E : XK), Room k (A.deeper (PyProof.Rows.envOfC qual (defScope st) s.heap.objs.size f cdv)) →
      ∃ t, PSs (cxOf CX0 P w K mg base N qual (defScope st) f cdv A outer s H E).nox (defBody st) t ∧ ∀ F0 H0 b ds, Pre ds → Sm ⟨K, F0, H0, some b⟩ t (env1 N b ds) { nx := fun _ => Post ds .non, bk := fun _ => False, ct := fun _ => False, rt := fun _ => Post ds }) :
    FnOk P w K mg base CX0 (k + 1) f fd ps (spB K Pre Post) := by
  refine G.ok S (fun vs H Q E h => ?_) (fun cdv A outer s H vs Q E hr h => ?_)
  · obtain ⟨b, ws, F, ds, rfl, _, _, r, hp, _⟩ := h
    rw [List.length_cons, r.length]; exact hl ds hp
  · obtain ⟨b, ws, F, ds, rfl, hs, hB, r, hp, q⟩ := h
    obtain ⟨t, hd, hm⟩ := hb cdv A outer s H E hr
    have nb : ∀ c, c ≠ b → (some b : Option Addr) ≠ some c := fun c h e => h (Option.some.inj e).symm
    refine ⟨t, hd, hm F H b ds hp _ F H _ (start_sttB hs r hB) (fun es' σ' F' H' S' s' p => ?_) (fun _ _ _ _ _ _ z => z.elim) (fun _ _ _ _ _ _ z => z.elim) (fun v d es' σ' F' H' S' s' rv p => ?_) (fun _ _ _ _ _ _ _ _ _ _ _ _ _ _ z => z.elim)⟩
    · exact q _ _ F' H' s' S'.ou S'.sub (fun c o hc e => S'.fr c o e (nb c hc)) (S'.bg b rfl) .non p
    · exact q _ _ F' H' s' S'.ou S'.sub (fun c o hc e => S'.fr c o e (nb c hc)) (S'.bg b rfl) rv p
end
end Y
/-! Y4: rules by union, keyword calls, texts. -/
namespace Y
open PySem L2

/-! ### derivations: one rule for an operator, whatever the kinds -/
def rAddS' : R2 := fun x y H Q => ∃ i j, x = .str i ∧ y = .str j ∧ i.length + j.length ≤ sizeLine ∧ Q (.str (i ++ j)) H
def rPlus (K : PySem.W.Frag) : R2 := rAlt (rI0 fun i j => .int (i + j)) (rAlt rAddS' (rAlt rCat (rCatT K)))
def rInS1 : R2 := fun x y H Q => ∃ (c : Nat) (z : Str), x = .str ⟨#[c]⟩ ∧ y = .str z ∧ Q (.bl (decide (c ∈ z.cps.toList))) H
def rNiS1 : R2 := fun x y H Q => ∃ (c : Nat) (z : Str), x = .str ⟨#[c]⟩ ∧ y = .str z ∧ Q (.bl (!decide (c ∈ z.cps.toList))) H
def rInA (K : PySem.W.Frag) : R2 := rAlt (rIn K false) rInS1
def rNiA (K : PySem.W.Frag) : R2 := rAlt (rIn K true) rNiS1
def rEqA (K : PySem.W.Frag) : R2 := rAlt rEq (rEqD K)
def rNeA (K : PySem.W.Frag) : R2 := rAlt rNe (rNeD K)
def rIsN' : R2 := fun x y H Q => y = .non ∧ Q (.bl (decide (x = .non))) H
def rSlA (K : PySem.W.Frag) : V → Option Int → Option Int → Hp → VK → Prop := fun x lo hi H Q => rSlL K x lo hi H Q ∨ (rSlT K x lo hi H Q ∨ rSlS x lo hi H Q)
def rListA (K : PySem.W.Frag) : List V → Hp → VK → Prop := fun xs H Q => ∃ p ys, xs = [.ref p] ∧ (SqL K H p ys ∨ SqT K H p ys) ∧ ∀ l, H l = none → Q (.ref l) (upd H l (.lst ys))
def rTupleA (K : PySem.W.Frag) : List V → Hp → VK → Prop := fun xs H Q => ∃ p ys, xs = [.ref p] ∧ ((SqL K H p ys ∧ ∀ l, H l = none → Q (.ref l) (upd H l (.tup ys))) ∨ (SqT K H p ys ∧ Q (.ref p) H))
def rJoinA (K : PySem.W.Frag) : V → List V → Hp → VK → Prop := fun x xs H Q => ∃ a p, ∃ ys : List Str, x = .str a ∧ xs = [.ref p] ∧ (SqL K H p (ys.map V.str) ∨ SqT K H p (ys.map V.str)) ∧ (ys.map (·.length)).sum + ys.length * a.length ≤ 16777216 ∧ Q (.str (Txt.join a ys)) H
section
variable {X : Cx} {K : PySem.W.Frag}
theorem op_plus (hK : X.K = K := by rfl) : OpR X (binaryOp .Add) (rPlus K) := hK ▸ op_alt op_add (op_alt op_add_str (op_alt op_cat op_catT))
theorem op_inA (hK : X.K = K := by rfl) : OpR X (compareOp .In) (rInA K) := hK ▸ op_alt op_in_seq op_in_sign
theorem op_niA (hK : X.K = K := by rfl) : OpR X (compareOp .NotIn) (rNiA K) := hK ▸ op_alt op_notIn_seq op_notIn_sign
theorem op_eqA (hu : X.A.units + 64 < cLine) (hK : X.K = K := by rfl) : OpR X (compareOp .Eq) (rEqA K) := hK ▸ op_alt op_eq (op_eqD hu)
theorem op_neA (hu : X.A.units + 64 < cLine) (hK : X.K = K := by rfl) : OpR X (compareOp .NotEq) (rNeA K) := hK ▸ op_alt op_ne (op_neD hu)
theorem sl_any (hK : X.K = K := by rfl) : SlR X (rSlA K) := hK ▸ sl_list.or (sl_tup.or sl_str)
theorem ix_any (hK : X.K = K := by rfl) : IxR X (rIx K) := hK ▸ ix_seq
theorem call_lenA (hK : X.K = K := by rfl) : CallR X (.builtin "len") (rLenA K) := hK ▸ call_len
theorem call_isiA (hK : X.K = K := by rfl) : CallR X (.builtin "isinstance") (rIsi K) := hK ▸ call_isi
theorem call_isiTA (hK : X.K = K := by rfl) : CallR X (.builtin "isinstance") (rIsiT K) := hK ▸ call_isiT
theorem cr_allA (hc : X.calm = true) (hK : X.K = K := by rfl) : CallR X (.builtin "all") (rAll K) := hK ▸ cr_all hc
theorem cr_anyA (hc : X.calm = true) (hK : X.K = K := by rfl) : CallR X (.builtin "any") (rAny K) := hK ▸ cr_any hc
theorem call_listA (hK : X.K = K := by rfl) : CallR X (.type "list") (rListA K) := hK ▸ call_list_of
theorem call_tupleA (hK : X.K = K := by rfl) : CallR X (.type "tuple") (rTupleA K) := hK ▸ call_tuple_of
theorem pi_listA {tg l : Expr} {tl : TE} (hl : PE X l tl) (hK : X.K = K := by rfl) : PI X tg l (iList K tl) := hK ▸ pi_list hl
theorem pi_tupA {tg l : Expr} {tl : TE} (hl : PE X l tl) (hK : X.K = K := by rfl) : PI X tg l (iTup K tl) := hK ▸ pi_tup hl
theorem pi_zipB {e e2 : Expr} {ta : TA} {p pos tpos : Pos} {elts : List Expr} {kk : Nat} (hg : Gl X "zip") (hm : X.mg "zip" = none) (ha : PA X [e, e2] ta) (hK : X.K = K := by rfl)
    (hs : starEach [e, e2] X.env = (false, eval e X.env) :: starEach [e2] X.env := by rfl) (hpl : (backTo pos (starEach [e2] X.env)).any (·.1) = false := by rfl) :
    PI X (.Tuple elts kk tpos) (.Call (.Name "zip" p) [e, e2] [] pos) (RZ.iZipA K ta) := hK ▸ RZ.pi_zipA hg hm ha hs hpl
theorem pe_joinA {o e : Expr} {apos pos : Pos} {to te : TE} (ho : PE X o to) (he : PE X e te) (hK : X.K = K := by rfl) (hs : starEach [e] X.env = [(false, eval e X.env)] := by rfl) (hbase : attributeBase o "join" X.env (eval o X.env) = eval o X.env := by rfl) (hline : (apos.endLine == pos.line) = true := by rfl) :
    PE X (.Call (.Attribute o "join" apos) [e] [] pos) (tM1 (rJoinA K) to te) := hK ▸ pe_join ho he hs hbase hline
theorem pg_tupA {es : List Expr} {k : Nat} {t : TGs} {n : Nat} {pos : Pos} (hc : X.calm = true) (h : PGs X es t) (hK : X.K = K := by rfl)
    (hn : (assignEach es X.env).length = n := by rfl) (hst : (assignEach es X.env).findIdx? (·.1) = none := by rfl) : PG X (.Tuple es k pos) (gTup K n t) := hK ▸ pg_tup hc h hn hst
end
section
variable {X : Cx} {CX : CXT} {k : Nat} {f : Addr} {fd : FuncData} {ps ks : List Str} {sp : Sp} {E : XK} {x : Str} {p pos : Pos} {kws : List Keyword} {tk : TA} {g : List Value → List Value → List Value} {gV : List V → List V → List V}
/-- f(k = v, ..) without positional values -/
theorem pe_callN0 (G : FnOk X.prog X.w X.K X.mg X.base CX k f fd ps sp) (hr : Room k X.A) (hg : Gl X x) (hm : X.mg x = some (.ref f)) (hk : PySem.W.keepIn X.K (.ref f) = true) (hb : KBn X.K fd ps 0 ks g gV) (hx : Passes CX X E)
    (hkw : PK X kws tk) (hall : (backToKw pos (keywordEach kws X.env)).all (·.1.isSome) = true := by rfl) (hks : (backToKw pos (keywordEach kws X.env)).filterMap (·.1) = ks := by rfl)
    (hdb : (x == ("__debug__" : Str)) = false := by decide)
    (hpl : ((backTo pos (starEach [] X.env)).any (·.1) || (backToKw pos (keywordEach kws X.env)).any (·.1.isNone)) = false := by rfl) :
    PE X (.Call (.Name x p) [] kws pos) (tCallN 0 ks.length sp gV E tNil tk) :=
  ⟨fun pins s σ H Q I h => wpAny_Call_Name_kw (ld_glob I hg hm
    (PySem.W.callWith_KW0 (h₀ := X.base) I.ok.mod.kin hk hall (thn (hkw.run pos pins s σ H _ I h) fun ws s2 ⟨zs, H2, I2, rz, l1, l2, q2⟩ => ⟨I2.kIn, by
      rw [hks]
      exact run_fnN (us := []) (vs := []) G hr hb hx I2 .nil rz rfl l2 q2⟩) hpl) hdb)⟩
end

/-! ### the same over data -/
section
variable {B : Bs} {es : List Sl}
theorem o_plusI {i j : Int} {P : Dt → Prop} (hp : P (.int (i + j))) : Op2 B (rPlus B.K) es (.int i) (.int j) P := o_altL (o_i0 hp)
theorem o_plusS {x y : Str} {P : Dt → Prop} (hl : x.length + y.length ≤ 100000) (hp : P (.str (x ++ y))) : Op2 B (rPlus B.K) es (.str x) (.str y) P := o_altR (o_altL (o_catS hl hp))
theorem o_plusL {x y : List Dt} {P : Dt → Prop} (hl : x.length + y.length ≤ 100000) (hp : P (.lst (x ++ y))) : Op2 B (rPlus B.K) es (.lst x) (.lst y) P := o_altR (o_altR (o_altL (o_cat hl hp)))
theorem o_inAL {x : Dt} {ys : List Dt} {P : Dt → Prop} (hx : flatD x = true) (hy : ys.all flatD = true) (hp : P (.bl (inD x ys))) : Op2 B (rInA B.K) es x (.lst ys) P := o_altL (o_inL hx hy hp)
theorem o_inAT {x : Dt} {ys : List Dt} {P : Dt → Prop} (hx : flatD x = true) (hy : ys.all flatD = true) (hp : P (.bl (inD x ys))) : Op2 B (rInA B.K) es x (.tup ys) P := o_altL (o_inT hx hy hp)
theorem o_inAS {c : Nat} {z : Str} {P : Dt → Prop} (hp : P (.bl (decide (c ∈ z.cps.toList)))) : Op2 B (rInA B.K) es (.str ⟨#[c]⟩) (.str z) P := o_altR (o_inS hp)
theorem o_niAL {x : Dt} {ys : List Dt} {P : Dt → Prop} (hx : flatD x = true) (hy : ys.all flatD = true) (hp : P (.bl (!inD x ys))) : Op2 B (rNiA B.K) es x (.lst ys) P := o_altL (o_inL hx hy hp)
theorem o_niAT {x : Dt} {ys : List Dt} {P : Dt → Prop} (hx : flatD x = true) (hy : ys.all flatD = true) (hp : P (.bl (!inD x ys))) : Op2 B (rNiA B.K) es x (.tup ys) P := o_altL (o_inT hx hy hp)
theorem o_niAS {c : Nat} {z : Str} {P : Dt → Prop} (hp : P (.bl (!decide (c ∈ z.cps.toList)))) : Op2 B (rNiA B.K) es (.str ⟨#[c]⟩) (.str z) P := o_altR (o_niS hp)
theorem o_eqA {x y : Dt} {P : Dt → Prop} (hs : dScal x y = true) (hp : P (.bl (dEq x y))) : Op2 B (rEqA B.K) es x y P := o_altL (o_eq hs hp)
theorem o_neA {x y : Dt} {P : Dt → Prop} (hs : dScal x y = true) (hp : P (.bl (!dEq x y))) : Op2 B (rNeA B.K) es x y P := o_altL (o_ne hs hp)
/-! deep == of data without objects -/
mutual
def Dt.py : Dt → PyData
  | .non => .none
  | .bl b => .bool b
  | .int i => .int i
  | .str s => .str s
  | .lst xs => .list (pyAll xs)
  | .tup xs => .tuple (pyAll xs)
  | .obj _ _ _ => .none
  | .dct _ _ => .none
  | .ali _ => .none
def pyAll : List Dt → List PyData
  | [] => []
  | x :: xs => x.py :: pyAll xs
end
mutual
def Dt.pureD : Dt → Bool
  | .non => true
  | .bl _ => true
  | .int _ => true
  | .str _ => true
  | .lst xs => decide (xs.length < 50000) && pureAll xs
  | .tup xs => decide (xs.length < 50000) && pureAll xs
  | .obj _ _ _ => false
  | .dct _ _ => false
  | .ali _ => false
def pureAll : List Dt → Bool
  | [] => true
  | x :: xs => x.pureD && pureAll xs
end
mutual
theorem Rp.dp {K : PySem.W.Frag} {F H : Hp} (s : Same F H) : ∀ {v : V} {d : Dt}, Rp K F v d → d.pureD = true → Dp K H v d.py
  | _, _, .non, _ => by unfold Dt.py; exact .non
  | _, _, .bl b, _ => by unfold Dt.py; exact .bl b
  | _, _, .int i, _ => by unfold Dt.py; exact .int i
  | _, _, .str x, _ => by unfold Dt.py; exact .str x
  | _, _, .lst h r, p => by unfold Dt.py; unfold Dt.pureD at p; rw [Bool.and_eq_true] at p; exact .lst (SqL.of (s _ _ h)) (RpAll.dp s r p.2)
  | _, _, .tup h r, p => by unfold Dt.py; unfold Dt.pureD at p; rw [Bool.and_eq_true] at p; exact .tup (sqT_mono s h) (RpAll.dp s r p.2)
  | _, _, .obj _ _ _ _, p => by unfold Dt.pureD at p; cases p
  | _, _, .dct _ _ _ _, p => by unfold Dt.pureD at p; cases p
  | _, _, .ali _, p => by unfold Dt.pureD at p; cases p
theorem RpAll.dp {K : PySem.W.Frag} {F H : Hp} (s : Same F H) : ∀ {vs : List V} {ds : List Dt}, RpAll K F vs ds → pureAll ds = true → DpAll K H vs (pyAll ds)
  | _, _, .nil, _ => by unfold pyAll; exact .nil
  | _, _, .cons h t, p => by
    unfold pureAll at p
    rw [Bool.and_eq_true] at p
    unfold pyAll
    exact .cons (Rp.dp s h p.1) (RpAll.dp s t p.2)
end
def okD (d : Dt) : Bool := d.pureD && SeqAt.shaped d.py
theorem o_eqAD {x y : Dt} {P : Dt → Prop} (hx : okD x = true) (hy : okD y = true) (hp : P (.bl (PyData.eqv x.py y.py))) : Op2 B (rEqA B.K) es x y P := fun σ F H v w S a b Q k => by
  unfold okD at hx hy
  rw [Bool.and_eq_true] at hx hy
  exact .inr ⟨_, _, a.dp S.sub hx.1, b.dp S.sub hy.1, hx.2, hy.2, k _ _ F H S.refl (.bl _) hp⟩
theorem o_neAD {x y : Dt} {P : Dt → Prop} (hx : okD x = true) (hy : okD y = true) (hp : P (.bl (!PyData.eqv x.py y.py))) : Op2 B (rNeA B.K) es x y P := fun σ F H v w S a b Q k => by
  unfold okD at hx hy
  rw [Bool.and_eq_true] at hx hy
  exact .inr ⟨_, _, a.dp S.sub hx.1, b.dp S.sub hy.1, hx.2, hy.2, k _ _ F H S.refl (.bl _) hp⟩
/-- slices of a list, of a text -/
def EvP (B : Bs) (to : TO) (es : List Sl) (P : Option Int → Prop) : Prop := ∀ σ F H, Stt B es σ F H → ∀ Q : Option Int → Hp → Prop, (∀ o F' H', Go B F H F' H' → P o → Q o H') → to σ H Q
theorem ep_none {P : Option Int → Prop} (h : P none) : EvP B tNoPart es P := fun σ F H S Q q => q none F H S.refl h
theorem ep_some {te : TE} {P : Option Int → Prop} (h : Ev B te es fun d => ∃ i, d = .int i ∧ P (some i)) : EvP B (tPart te) es P := fun σ F H S Q q => h σ F H S _ fun v d F1 H1 g1 r1 ⟨i, e, p1⟩ => by
  subst e; cases r1; exact ⟨i, rfl, q _ F1 H1 g1 p1⟩
def cutD {α : Type} (xs : List α) (lo hi : Option Int) : List α := (xs.drop (HT.sIx xs.length 0 lo)).take (HT.sIx xs.length xs.length hi - HT.sIx xs.length 0 lo)
theorem RpAll.cut {K : PySem.W.Frag} {F : Hp} {vs : List V} {ds : List Dt} (lo hi : Option Int) (r : RpAll K F vs ds) : RpAll K F (cutV vs lo hi) (cutD ds lo hi) := by
  unfold cutV cutD
  rw [r.length]
  exact (r.drop _).take _
theorem eo_slL {te : TE} {tl th : TO} {P : List Dt → Prop} (h : Ev B te es fun d => ∃ xs, d = .lst xs ∧ EvP B tl es fun lo => EvP B th es fun hi => P (cutD xs lo hi)) : EvO B (tSl (rSlA B.K) te tl th) es P := fun σ F H S Q q => h σ F H S _ fun v d F1 H1 g1 r1 ⟨xs, e, p1⟩ => by
  subst e
  refine p1 σ F1 H1 (S.go g1) _ fun lo F2 H2 g2 p2 => p2 σ F2 H2 ((S.go g1).go g2) _ fun hi F3 H3 g3 p3 => ?_
  have g := (g1.trans g2).trans g3
  have S3 := S.go g
  cases r1 with
  | lst h1 h2 =>
    refine .inl ⟨_, _, rfl, SqL.of (g3.s2 _ _ ((g2.s1.trans g3.s1) _ _ h1)), fun p hp => ?_⟩
    exact q p _ _ F3 _ (g.trans (S3.allocO hp)) (g.new (S3.newB hp) hp) (same_none S3.sub hp) upd_same ((h2.mono (g2.s1.trans g3.s1)).cut lo hi) p3
theorem ev_slS {te : TE} {tl th : TO} {P : Dt → Prop} (h : Ev B te es fun d => ∃ z : Str, d = .str z ∧ z.length ≤ 100000 ∧ EvP B tl es fun lo => EvP B th es fun hi => P (.str (cutS z lo hi))) : Ev B (tSl (rSlA B.K) te tl th) es P := fun σ F H S Q q => h σ F H S _ fun v d F1 H1 g1 r1 ⟨z, e, hz, p1⟩ => by
  subst e
  refine p1 σ F1 H1 (S.go g1) _ fun lo F2 H2 g2 p2 => p2 σ F2 H2 ((S.go g1).go g2) _ fun hi F3 H3 g3 p3 => ?_
  cases r1
  exact .inr (.inr ⟨z, rfl, size_of hz, q _ _ F3 H3 ((g1.trans g2).trans g3) (.str _) p3⟩)
/-- sep.join(list of texts) -/
theorem ev_join {to te : TE} {P : Dt → Prop} (h : Ev B to es fun a => ∃ sep : Str, a = .str sep ∧ Ev B te es fun d => ∃ ys : List Str, (d = .lst (ys.map Dt.str) ∨ d = .tup (ys.map Dt.str)) ∧ (ys.map (·.length)).sum + ys.length * sep.length ≤ 16777216 ∧ P (.str (Txt.join sep ys))) :
    Ev B (tM1 (rJoinA B.K) to te) es P := fun σ F H S Q q => h σ F H S _ fun v a F1 H1 g1 r1 ⟨sep, e, p1⟩ => by
  subst e
  cases r1
  refine ⟨⟨sep, rfl⟩, p1 σ F1 H1 (S.go g1) _ fun w d F2 H2 g2 r2 ⟨ys, e2, hl, p2⟩ => ?_⟩
  rcases e2 with rfl | rfl
  · cases r2 with
    | lst h1 h2 =>
      have e := h2.texts
      subst e
      exact ⟨sep, _, ys, rfl, rfl, .inl (SqL.of (g2.s2 _ _ h1)), hl, q _ _ F2 H2 (g1.trans g2) (.str _) p2⟩
  · cases r2 with
    | tup h1 h2 =>
      have e := h2.texts
      subst e
      exact ⟨sep, _, ys, rfl, rfl, .inr (sqT_mono g2.s2 h1), hl, q _ _ F2 H2 (g1.trans g2) (.str _) p2⟩
/-- list(xs) -/
theorem eo_listOf {ta : TA} {P : List Dt → Prop} (h : EvA B ta es fun ds => ∃ xs, (ds = [.lst xs] ∨ ds = [.tup xs]) ∧ P xs) : EvO B (tCB (rListA B.K) ta) es P := fun σ F H S Q q => h σ F H S _ fun vs ds F1 H1 g1 r1 ⟨xs, e, p1⟩ => by
  have S1 := S.go g1
  rcases e with rfl | rfl
  · obtain ⟨v, rfl, r⟩ := rp1 r1
    cases r with
    | lst h1 h2 => exact ⟨_, _, rfl, .inl (SqL.of (g1.s2 _ _ h1)), fun p hp => q p _ _ F1 _ (g1.trans (S1.allocO hp)) (g1.new (S1.newB hp) hp) (same_none S1.sub hp) upd_same h2 p1⟩
  · obtain ⟨v, rfl, r⟩ := rp1 r1
    cases r with
    | tup h1 h2 => exact ⟨_, _, rfl, .inr (sqT_mono g1.s2 h1), fun p hp => q p _ _ F1 _ (g1.trans (S1.allocO hp)) (g1.new (S1.newB hp) hp) (same_none S1.sub hp) upd_same h2 p1⟩
end
end Y
/-! Y5: isinstance by kinds; the drawing; what the helpers of every law promise. -/
namespace Y
open PySem L2
section
variable {B : Bs} {es : List Sl}
def isIntD : Dt → Bool
  | .int _ => true
  | .bl _ => true
  | _ => false
def isBoolD : Dt → Bool
  | .bl _ => true
  | _ => false
def isStrD : Dt → Bool
  | .str _ => true
  | _ => false
def isLstD : Dt → Bool
  | .lst _ => true
  | _ => false
def isTupD : Dt → Bool
  | .tup _ => true
  | _ => false
theorem isi_int {x : Dt} (h : plainD x = true) : isiD "int" x = some (isIntD x) := by
  cases x with
  | non => show kitB "NoneType" "int" = some false; decide +kernel
  | bl _ => show kitB "bool" "int" = some true; decide +kernel
  | int _ => show kitB "int" "int" = some true; decide +kernel
  | str _ => show kitB "str" "int" = some false; decide +kernel
  | lst _ => show kitB "list" "int" = some false; decide +kernel
  | tup _ => show kitB "tuple" "int" = some false; decide +kernel
  | dct _ _ => show kitB "dict" "int" = some false; decide +kernel
  | obj _ _ _ => cases h
  | ali _ => cases h
theorem isi_bool {x : Dt} (h : plainD x = true) : isiD "bool" x = some (isBoolD x) := by
  cases x with
  | non => show kitB "NoneType" "bool" = some false; decide +kernel
  | bl _ => show kitB "bool" "bool" = some true; decide +kernel
  | int _ => show kitB "int" "bool" = some false; decide +kernel
  | str _ => show kitB "str" "bool" = some false; decide +kernel
  | lst _ => show kitB "list" "bool" = some false; decide +kernel
  | tup _ => show kitB "tuple" "bool" = some false; decide +kernel
  | dct _ _ => show kitB "dict" "bool" = some false; decide +kernel
  | obj _ _ _ => cases h
  | ali _ => cases h
theorem isi_str {x : Dt} (h : plainD x = true) : isiD "str" x = some (isStrD x) := by
  cases x with
  | non => show kitB "NoneType" "str" = some false; decide +kernel
  | bl _ => show kitB "bool" "str" = some false; decide +kernel
  | int _ => show kitB "int" "str" = some false; decide +kernel
  | str _ => show kitB "str" "str" = some true; decide +kernel
  | lst _ => show kitB "list" "str" = some false; decide +kernel
  | tup _ => show kitB "tuple" "str" = some false; decide +kernel
  | dct _ _ => show kitB "dict" "str" = some false; decide +kernel
  | obj _ _ _ => cases h
  | ali _ => cases h
theorem isi_list {x : Dt} (h : plainD x = true) : isiD "list" x = some (isLstD x) := by
  cases x with
  | non => show kitB "NoneType" "list" = some false; decide +kernel
  | bl _ => show kitB "bool" "list" = some false; decide +kernel
  | int _ => show kitB "int" "list" = some false; decide +kernel
  | str _ => show kitB "str" "list" = some false; decide +kernel
  | lst _ => show kitB "list" "list" = some true; decide +kernel
  | tup _ => show kitB "tuple" "list" = some false; decide +kernel
  | dct _ _ => show kitB "dict" "list" = some false; decide +kernel
  | obj _ _ _ => cases h
  | ali _ => cases h
theorem isi_tuple {x : Dt} (h : plainD x = true) : isiD "tuple" x = some (isTupD x) := by
  cases x with
  | non => show kitB "NoneType" "tuple" = some false; decide +kernel
  | bl _ => show kitB "bool" "tuple" = some false; decide +kernel
  | int _ => show kitB "int" "tuple" = some false; decide +kernel
  | str _ => show kitB "str" "tuple" = some false; decide +kernel
  | lst _ => show kitB "list" "tuple" = some false; decide +kernel
  | tup _ => show kitB "tuple" "tuple" = some true; decide +kernel
  | dct _ _ => show kitB "dict" "tuple" = some false; decide +kernel
  | obj _ _ _ => cases h
  | ali _ => cases h
theorem isi_lt {x : Dt} (h : plainD x = true) : isiDs ["list", "tuple"] x = some (isLstD x || isTupD x) := by
  cases x with
  | non => show anyIsi "NoneType" ["list", "tuple"] = some false; decide +kernel
  | bl _ => show anyIsi "bool" ["list", "tuple"] = some false; decide +kernel
  | int _ => show anyIsi "int" ["list", "tuple"] = some false; decide +kernel
  | str _ => show anyIsi "str" ["list", "tuple"] = some false; decide +kernel
  | lst _ => show anyIsi "list" ["list", "tuple"] = some true; decide +kernel
  | tup _ => show anyIsi "tuple" ["list", "tuple"] = some true; decide +kernel
  | dct _ _ => show anyIsi "dict" ["list", "tuple"] = some false; decide +kernel
  | obj _ _ _ => cases h
  | ali _ => cases h
theorem ev_isInt {te : TE} {P : Dt → Prop} (h : Ev B te es fun d => plainD d = true ∧ P (.bl (isIntD d))) : Ev B (tCB (rIsi B.K) (tCons te (tCons (tC (.ty "int")) tNil))) es P := ev_isi (h.imp fun d q => ⟨_, isi_int q.1, q.2⟩)
theorem ev_isBool {te : TE} {P : Dt → Prop} (h : Ev B te es fun d => plainD d = true ∧ P (.bl (isBoolD d))) : Ev B (tCB (rIsi B.K) (tCons te (tCons (tC (.ty "bool")) tNil))) es P := ev_isi (h.imp fun d q => ⟨_, isi_bool q.1, q.2⟩)
theorem ev_isStr {te : TE} {P : Dt → Prop} (h : Ev B te es fun d => plainD d = true ∧ P (.bl (isStrD d))) : Ev B (tCB (rIsi B.K) (tCons te (tCons (tC (.ty "str")) tNil))) es P := ev_isi (h.imp fun d q => ⟨_, isi_str q.1, q.2⟩)
theorem ev_isList {te : TE} {P : Dt → Prop} (h : Ev B te es fun d => plainD d = true ∧ P (.bl (isLstD d))) : Ev B (tCB (rIsi B.K) (tCons te (tCons (tC (.ty "list")) tNil))) es P := ev_isi (h.imp fun d q => ⟨_, isi_list q.1, q.2⟩)
theorem ev_isTuple {te : TE} {P : Dt → Prop} (h : Ev B te es fun d => plainD d = true ∧ P (.bl (isTupD d))) : Ev B (tCB (rIsi B.K) (tCons te (tCons (tC (.ty "tuple")) tNil))) es P := ev_isi (h.imp fun d q => ⟨_, isi_tuple q.1, q.2⟩)
theorem ev_isLT {te : TE} {P : Dt → Prop} (h : Ev B te es fun d => plainD d = true ∧ P (.bl (isLstD d || isTupD d))) : Ev B (tCB (rIsiT B.K) (tCons te (tCons (tTup (tCons (tC (.ty "list")) (tCons (tC (.ty "tuple")) tNil))) tNil))) es P := ev_isi2 (h.imp fun d q => ⟨_, isi_lt q.1, q.2⟩)
/-- tests of a value that is True or False -/
theorem bl_ex {b : Bool} {P : Bool → Prop} (h : P b) : ∃ c, Dt.bl b = .bl c ∧ P c := ⟨b, rfl, h⟩
theorem int_ex {b : Int} {P : Int → Prop} (h : P b) : ∃ c, Dt.int b = .int c ∧ P c := ⟨b, rfl, h⟩
theorem str_ex {b : Str} {P : Str → Prop} (h : P b) : ∃ c, Dt.str b = .str c ∧ P c := ⟨b, rfl, h⟩
theorem lst_ex {b : List Dt} {P : List Dt → Prop} (h : P b) : ∃ c, Dt.lst b = .lst c ∧ P c := ⟨b, rfl, h⟩
theorem tup_ex {b : List Dt} {P : List Dt → Prop} (h : P b) : ∃ c, Dt.tup b = .tup c ∧ P c := ⟨b, rfl, h⟩
/-- the two ways of a test -/
theorem ways {b : Bool} {X Y : Prop} (h1 : b = true → X) (h2 : b = false → Y) : (b = true → X) ∧ (b = false → Y) := ⟨h1, h2⟩
theorem way_t {b : Bool} {X Y : Prop} (e : b = true) (h : X) : (b = true → X) ∧ (b = false → Y) := ⟨fun _ => h, fun z => by rw [e] at z; cases z⟩
theorem way_f {b : Bool} {X Y : Prop} (e : b = false) (h : Y) : (b = true → X) ∧ (b = false → Y) := ⟨fun z => (by rw [e] at z; cases z), fun _ => h⟩
end

section
variable {B : Bs} {es : List Sl}
/-- [f(x) for x in xs], f a function -/
theorem eo_mapF {wi : TI} {g : TG} {te : TE} {vs : List Nat} {P : List Dt → Prop} (f : Dt → Dt) (h : EvI B wi es fun xs => xs.length < 100000 ∧
    (∀ x, x ∈ xs → TgC B g (wipeE es vs) vs x fun e2 => Ev B te e2 fun y => y = f x) ∧ P (xs.map f)) : EvO B (tLc wi g tYes te vs) es P :=
  eo_map fun σ F H S Q q => h σ F H S Q fun J xs F1 H1 g1 it ⟨hl, h1, h2⟩ => q J xs F1 H1 g1 it ⟨hl, fun x y => y = f x, fun i x hx => h1 x (List.mem_of_getElem? hx), fun ys hy hR => by
    have e : ys = xs.map f := by
      apply List.ext_getElem?
      intro i
      rw [List.getElem?_map]
      cases e1 : xs[i]? with
      | none =>
        have : xs.length ≤ i := List.getElem?_eq_none_iff.mp e1
        rw [List.getElem?_eq_none (by omega)]; rfl
      | some x =>
        have hi : i < ys.length := by rw [hy]; exact (List.getElem?_eq_some_iff.mp e1).1
        have e2 : ys[i]? = some ys[i] := by simp [hi]
        rw [e2, hR i x ys[i] e1 e2]; rfl
    rw [e]; exact h2⟩
/-- [f(c) for c in text] -/
theorem eo_mapS {te te' : TE} {j : Nat} {P : List Dt → Prop} (f : Nat → Dt) (h : Ev B te es fun d => ∃ z : Str, d = .str z ∧ z.cps.size < 100000 ∧
    (∀ c, c ∈ z.cps.toList → Ev B te' ((es.set j .no).set j (.d (.str ⟨#[c]⟩))) fun y => y = f c) ∧ P (z.cps.toList.map f)) : EvO B (tLc (iStr te) (gName j) tYes te' [j]) es P :=
  eo_map (ei_str (h.imp fun d ⟨z, e, hl, h1, h2⟩ => ⟨z, e, by rw [signsD_len]; exact hl, fun x y => ∀ c, x = .str ⟨#[c]⟩ → y = f c, fun i x hx => by
    have hm := List.mem_of_getElem? hx
    obtain ⟨c, hc, rfl⟩ := List.mem_map.mp hm
    refine tc_name ?_
    refine (h1 c hc).imp fun y hy c' e' => ?_
    injection e' with e'
    injection e' with e'
    have : c = c' := by simpa using e'
    rw [← this]; exact hy, fun ys hy hR => by
      have e : ys = z.cps.toList.map f := by
        apply List.ext_getElem?
        intro i
        rw [List.getElem?_map]
        rw [signsD_len] at hy
        cases e1 : z.cps.toList[i]? with
        | none =>
          have : z.cps.toList.length ≤ i := List.getElem?_eq_none_iff.mp e1
          rw [Array.length_toList] at this
          rw [List.getElem?_eq_none (by omega)]; rfl
        | some c =>
          have hi : i < ys.length := by
            have := (List.getElem?_eq_some_iff.mp e1).1
            rw [Array.length_toList] at this
            omega
          have e2 : ys[i]? = some ys[i] := by simp [hi]
          have e3 : (signsD z)[i]? = some (.str ⟨#[c]⟩) := by rw [signsD, List.getElem?_map, e1]; rfl
          rw [e2, hR i _ ys[i] e3 e2 c rfl]; rfl
      rw [e]; exact h2⟩))
/-- [c for c in text if t(c)] -/
theorem eo_filterS {te : TE} {tt : TT} {j : Nat} {P : List Dt → Prop} (f : Nat → Bool) (h : Ev B te es fun d => ∃ z : Str, d = .str z ∧ z.cps.size < 100000 ∧
    (∀ c, c ∈ z.cps.toList → EvT B tt ((es.set j .no).set j (.d (.str ⟨#[c]⟩))) fun b => b = f c) ∧ P ((z.cps.toList.filter f).map fun c => .str ⟨#[c]⟩)) (hj : j < es.length) : EvO B (tLc (iStr te) (gName j) tt (tVar j) [j]) es P :=
  eo_lc (ei_str (h.imp fun d ⟨z, e, hl, h1, h2⟩ => ⟨z, e, by rw [signsD_len]; exact hl, fun i acc => acc = ((z.cps.toList.take i).filter f).map fun c => .str ⟨#[c]⟩, rfl, fun i x acc hx ha => by
    rw [signsD, List.getElem?_map] at hx
    cases e1 : z.cps.toList[i]? with
    | none => rw [e1] at hx; cases hx
    | some c =>
      rw [e1] at hx
      cases hx
      refine tc_name ?_
      have ht : z.cps.toList.take (i + 1) = z.cps.toList.take i ++ [c] := by
        rw [List.take_add_one, e1]; rfl
      refine (h1 c (List.mem_of_getElem? e1)).imp fun b hb => ⟨fun hbt => ev_var (x := .str ⟨#[c]⟩) ?_ ?_, fun hbf => ?_⟩
      · show ((es.set j .no).set j (.d (.str ⟨#[c]⟩)))[j]? = _
        rw [List.getElem?_set_self (by rw [List.length_set]; exact hj)]
      · show _ = _
        rw [ht, List.filter_append, List.map_append, ha, List.filter_cons, if_pos (by rw [← hb]; exact hbt)]; rfl
      · show _ = _
        rw [ht, List.filter_append, List.map_append, ha, List.filter_cons, if_neg (by rw [← hb, hbf]; decide)]; simp, fun acc ha => by
    rw [ha]
    have : (signsD z).length = z.cps.toList.length := by simp [signsD]
    rw [this, List.take_length]
    exact h2⟩))
theorem c_allF {α : Type} {l : List α} {g : α → Bool} {P : Dt → Prop} (hp : P (.bl (l.all g))) : Cal B (rAll B.K) es [.lst (l.map fun c => .bl (g c))] P := by
  have e : (l.map fun c => Dt.bl (g c)) = (l.map g).map Dt.bl := by rw [List.map_map]; rfl
  rw [e]
  refine c_all ?_
  rw [List.all_map]
  exact hp
/-- the script, as it is handed in, is cut -/
theorem eo_slRaw {i : Nat} {a : Addr} {ns : List Int} {tl th : TO} {P : List Dt → Prop} (hi : es[i]? = some (.r (.ref a))) (hS : SqL B.K B.H0 a (ns.map V.int)) (hb : B.bag ≠ some a) (h : EvP B tl es fun lo => EvP B th es fun hi => P ((cutD ns lo hi).map Dt.int)) : EvO B (tSl (rSlA B.K) (tVar i) tl th) es P := fun σ F H S Q q =>
  ⟨_, S.raw hi, h σ F H S _ fun lo F1 H1 g1 p1 => p1 σ F1 H1 (S.go g1) _ fun hi' F2 H2 g2 p2 => by
    have g := g1.trans g2
    have S2 := S.go g
    have hS2 : SqL B.K H2 a (ns.map V.int) := by
      rcases hS with (k | ⟨o, k⟩) | k
      · exact .inl (.inl (S2.fr a _ k hb))
      · exact .inl (.inr ⟨o, S2.fr a _ k hb⟩)
      · exact .inr k
    have e : cutV (ns.map V.int) lo hi' = (cutD ns lo hi').map V.int := by
      unfold cutV cutD
      rw [List.length_map, List.map_take, List.map_drop]
    refine .inl ⟨a, _, rfl, hS2, fun p hp => q p _ _ F2 _ (g.trans (S2.allocO hp)) (g.new (S2.newB hp) hp) (same_none S2.sub hp) upd_same ?_ p2⟩
    rw [e]
    exact RpAll.of_ints⟩
theorem of_mem_ints {xs : List Int} {i : Nat} {x : Dt} (h : (xs.map Dt.int)[i]? = some x) : ∃ n, x = .int n := by
  obtain ⟨n, _, e⟩ := List.mem_map.mp (List.mem_of_getElem? h)
  exact ⟨n, e.symm⟩
end

theorem sm_cut {B : Bs} {es : List Sl} {p : Po} {t u : TS} (I : List Sl → Prop) (h1 : Sm B t es { p with nx := I }) (h2 : ∀ es', I es' → Sm B u es' p) : Sm B (tSeq t u) es p :=
  sm_seq (sm_imp (p' := { p with nx := I }) h1 h2 (fun _ h => h) (fun _ h => h) (fun _ _ h => h) (fun _ h => h))
theorem atI_of {xs : List Dt} {i : Int} (h0 : 0 ≤ i) (h1 : i < xs.length) : ∃ x, atI xs i = some x ∧ x ∈ xs := by
  have hi : i.toNat < xs.length := by omega
  refine ⟨xs[i.toNat], ?_, List.getElem_mem _⟩
  unfold atI ixN
  rw [if_pos h0, if_pos h1]
  simp [hi]
theorem atI_ofN {xs : List Nat} {i : Int} (h0 : 0 ≤ i) (h1 : i < xs.length) : ∃ x, atI xs i = some x ∧ x ∈ xs := by
  have hi : i.toNat < xs.length := by omega
  refine ⟨xs[i.toNat], ?_, List.getElem_mem _⟩
  unfold atI ixN
  rw [if_pos h0, if_pos h1]
  simp [hi]
theorem pairD_mem : ∀ {xs : List Dt} {p : Dt}, p ∈ pairD xs xs → ∃ x, x ∈ xs ∧ p = .tup [x, x]
  | [], p, h => by simp [pairD] at h
  | x :: xs, p, h => by
    rcases List.mem_cons.mp (show p ∈ .tup [x, x] :: pairD xs xs from h) with rfl | h
    · exact ⟨x, List.mem_cons_self .., rfl⟩
    · obtain ⟨y, hy, e⟩ := pairD_mem h
      exact ⟨y, List.mem_cons_of_mem _ hy, e⟩
theorem fn_none {P : Program} {w : World} {K : PySem.W.Frag} {mg : Str → Option Value} {base : Heap} {f : Addr} {fd : FuncData} {ps : List Str} {k : Nat} {Pre : List Dt → Prop} {Post : List Dt → Dt → Prop} (h : ∀ ds, ¬ Pre ds) : FnOk P w K mg base CX0 k f fd ps (spD K Pre Post) :=
  ⟨fun _ _ _ _ q => (by obtain ⟨F, ds, _, _, hp, _⟩ := q; exact (h ds hp).elim), fun _ _ _ _ _ _ _ _ _ _ _ _ _ q => (by obtain ⟨F, ds, _, _, hp, _⟩ := q; exact (h ds hp).elim)⟩

/-! ### the drawing -/
def drawPre (ds : List Dt) : Prop := ∃ n : Int, ds = [.int n] ∧ 0 < n ∧ n < 1073741824
def drawPost (ds : List Dt) (d : Dt) : Prop := ∃ n i : Int, ds = [.int n] ∧ d = .int i ∧ 0 ≤ i ∧ i < n
def itemsD : Dt → List Dt
  | .lst xs => xs
  | .tup xs => xs
  | .str z => signsD z
  | _ => []
def ofPre (ds : List Dt) : Prop := ∃ x, ds = [x] ∧ 0 < (itemsD x).length ∧ (itemsD x).length ≤ 100000
def ofPost (ds : List Dt) (d : Dt) : Prop := ∃ x, ds = [x] ∧ d ∈ itemsD x
mutual
def Dt.depth : Dt → Nat
  | .lst xs => depthAll xs + 1
  | .tup xs => depthAll xs + 1
  | .non => 0
  | .bl _ => 0
  | .int _ => 0
  | .str _ => 0
  | .obj _ _ _ => 0
  | .dct _ _ => 0
  | .ali _ => 0
def depthAll : List Dt → Nat
  | [] => 0
  | x :: xs => max x.depth (depthAll xs)
end
theorem depthAll_mem {n : Nat} : ∀ {xs : List Dt} {x : Dt}, x ∈ xs → depthAll xs ≤ n → x.depth ≤ n
  | y :: ys, x, h, hn => by
    unfold depthAll at hn
    rcases List.mem_cons.mp h with rfl | h
    · omega
    · exact depthAll_mem h (by omega)
theorem pureAll_mem : ∀ {xs : List Dt} {x : Dt}, x ∈ xs → pureAll xs = true → x.pureD = true
  | y :: ys, x, h, hn => by
    unfold pureAll at hn
    rw [Bool.and_eq_true] at hn
    rcases List.mem_cons.mp h with rfl | h
    · exact hn.1
    · exact pureAll_mem h hn.2
def samePre (n : Nat) (ds : List Dt) : Prop := ∃ x, ds = [x, x] ∧ x.pureD = true ∧ x.depth < n
def sameTrue (_ : List Dt) (d : Dt) : Prop := d = .bl true
/-- what is wrong in many places -/
def oddL : List Dt := [.non, .bl true, .bl false, .str "", .str "A", .int (-1), .int 999999999, .tup [], .lst [], .tup [.int 1], .lst [.str "a"], .str "a b", .tup [.str "a", .str "b"], .lst [.non]]
def oddPre (ds : List Dt) : Prop := ∃ xs, ds = [.lst xs] ∧ xs.length ≤ 1000
def oddPost (ds : List Dt) (d : Dt) : Prop := ∃ xs, ds = [.lst xs] ∧ d ∈ oddL ++ xs
/-- a number from l to m -/
def isNum (x : Dt) (l m : Int) : Bool := match x with
  | .int i => decide (l ≤ i) && decide (i ≤ m)
  | _ => false
def numPre (ds : List Dt) : Prop := ∃ x l m, ds = [x, .int l, .int m] ∧ plainD x = true
def numPost (ds : List Dt) (d : Dt) : Prop := ∃ x l m, ds = [x, .int l, .int m] ∧ d = .bl (isNum x l m)
/-- names: 1 to 6 small letters -/
def letters : List Nat := ("abcdefghijklmnopqrstuvwxyz" : Str).cps.toList
def isNameD (x : Dt) : Bool := match x with
  | .str z => decide ((1 : Int) ≤ z.length) && (decide ((z.length : Int) ≤ 6) && z.cps.toList.all fun c => decide (c ∈ letters))
  | _ => false
def isRegD (x : Dt) : Bool := match x with
  | .str z => inD (.str z) [.str "r0", .str "r1", .str "r2"]
  | _ => false
def txtOk (x : Dt) : Prop := ∀ z, x = .str z → z.cps.size < 1000 ∧ PyData.strOk z = true
def valPre (ds : List Dt) : Prop := ∃ x, ds = [x] ∧ plainD x = true ∧ txtOk x
def namePost (ds : List Dt) (d : Dt) : Prop := ∃ x, ds = [x] ∧ d = .bl (isNameD x)
def regPost (ds : List Dt) (d : Dt) : Prop := ∃ x, ds = [x] ∧ d = .bl (isRegD x)
def wordPost (ds : List Dt) (d : Dt) : Prop := ∃ x, ds = [x] ∧ d = .bl (isNum x 0 65535)
/-- what _law_bag promises: a new drawing -/
def spBag (K : PySem.W.Frag) : Sp := fun vs H Q _ => ∃ (a : Addr) (ns : List Int), vs = [.ref a] ∧ SqL K H a (ns.map V.int) ∧
  ∀ b F H', H b = none → Same F H' → Same H H' → BagAt K F H' b → Q (.ref b) H'
/-- the law: a list of at most 63 ints is handed in, True comes out -/
def spLaw (K : PySem.W.Frag) : Sp := fun vs H Q _ => ∃ (a : Addr) (ns : List Int), vs = [.ref a] ∧ SqL K H a (ns.map V.int) ∧ ns.length ≤ 63 ∧ ∀ H', Q (.bl true) H'
theorem start_raw {K : PySem.W.Frag} {H : Hp} {a : Addr} (N : List Str) : Stt ⟨K, fun _ => none, H, none⟩ (.r (.ref a) :: List.replicate (N.length - 1) Sl.no) (L2.start N [.ref a]) (fun _ => none) H where
  sub := fun _ _ h => nomatch h
  s0 := fun _ _ h => h
  ou := fun _ _ h => h
  fr := fun c o h _ => h
  bg := fun _ z => nomatch z
  len := by simp [L2.start]
  ok := fun i e o h1 h2 => by
    cases i with
    | zero =>
      cases h1
      have : (L2.start N [V.ref a])[0]? = some (some (.ref a)) := rfl
      rw [this] at h2
      cases h2
      rfl
    | succ i =>
      have h1 : (List.replicate (N.length - 1) Sl.no)[i]? = some e := h1
      have h2 : (List.replicate (N.length - 1) (none : Option V))[i]? = some o := h2
      rw [List.eq_of_mem_replicate (List.mem_of_getElem? h1), List.eq_of_mem_replicate (List.mem_of_getElem? h2)]
      rfl
  ow := fun i c xs h1 => by
    rcases List.mem_cons.mp (List.mem_of_getElem? h1) with h | h
    · cases h
    · cases List.eq_of_mem_replicate h
  dis := fun i j c e xs ys _ h1 => by
    rcases List.mem_cons.mp (List.mem_of_getElem? h1) with h | h
    · cases h
    · cases List.eq_of_mem_replicate h
section
variable {P : Program} {w : World} {K : PySem.W.Frag} {mg : Str → Option Value} {base : Heap} {x qual : Str} {st : Stmt} {f : Addr} {fd : FuncData} {N : List Str} {q : Str} {k : Nat}
theorem fn_newBag (G : Fun K x qual st f fd) (S : FnScope N [q] (defScope st))
    (hb : ∀ (cdv : Value) (A : Around) (outer : List Env) (s : Shared) (H : Hp) (E : XK), Room k (A.deeper (PyProof.Rows.envOfC qual (defScope st) s.heap.objs.size f cdv)) →
      ∃ t, PSs (cxOf CX0 P w K mg base N qual (defScope st) f cdv A outer s H E).nox (defBody st) t ∧ ∀ (H0 : Hp) (a : Addr) (ns : List Int), SqL K H0 a (ns.map V.int) → Sm ⟨K, fun _ => none, H0, none⟩ t (.r (.ref a) :: List.replicate (N.length - 1) Sl.no) { nx := fun _ => False, bk := fun _ => False, ct := fun _ => False, rt := fun _ _ => False, ro := BagD }) :
    FnOk P w K mg base CX0 (k + 1) f fd [q] (spBag K) := by
  refine G.ok S (fun vs H Q E h => ?_) (fun cdv A outer s H vs Q E hr h => ?_)
  · obtain ⟨a, ns, rfl, _⟩ := h; rfl
  · obtain ⟨a, ns, rfl, hS, q⟩ := h
    obtain ⟨t, hd, hm⟩ := hb cdv A outer s H E hr
    refine ⟨t, hd, hm H a ns hS _ _ H _ (start_raw N) (fun _ _ _ _ _ _ z => z.elim) (fun _ _ _ _ _ _ z => z.elim) (fun _ _ _ _ _ _ z => z.elim) (fun _ _ _ _ _ _ _ _ _ z => z.elim) (fun b vs xs es' σ' F' H' S' s' h1 h2 r1 h3 h4 p => ?_)⟩
    exact q b F' H' h3 S'.sub (fun c o e => S'.fr c o e (fun z => nomatch z)) ⟨h1, vs, xs, h2, r1, p⟩
/-- the law's own def: its first statement makes the drawing -/
theorem fn_law (G : Fun K x qual st f fd) (S : FnScope N [q] (defScope st))
    (hb : ∀ (cdv : Value) (A : Around) (outer : List Env) (s : Shared) (H : Hp) (E : XK), Room k (A.deeper (PyProof.Rows.envOfC qual (defScope st) s.heap.objs.size f cdv)) →
      ∃ t, PSs (cxOf CX0 P w K mg base N qual (defScope st) f cdv A outer s H E).nox (defBody st) (tSeq (tAsg (tCall (spBag K) [] E0 (tCons (tVar 0) tNil)) (gName 1)) t) ∧ ∀ F0 H0 a b, Sm ⟨K, F0, H0, some b⟩ t (.r (.ref a) :: .r (.ref b) :: List.replicate (N.length - 2) Sl.no) { nx := fun _ => False, bk := fun _ => False, ct := fun _ => False, rt := fun _ d => d = .bl true }) (hN : 2 ≤ N.length) :
    FnOk P w K mg base CX0 (k + 1) f fd [q] (spLaw K) := by
  refine G.ok S (fun vs H Q E h => ?_) (fun cdv A outer s H vs Q E hr h => ?_)
  · obtain ⟨a, ns, rfl, _⟩ := h; rfl
  · obtain ⟨a, ns, rfl, hS, _, q⟩ := h
    obtain ⟨t, hd, hm⟩ := hb cdv A outer s H E hr
    refine ⟨_, hd, .ref a, rfl, a, ns, rfl, hS, fun b F H' hn s1 s2 hB => ?_⟩
    have S0 := start_raw (K := K) (H := H') (a := a) N
    have S1 : Stt ⟨K, F, H', some b⟩ (.r (.ref a) :: List.replicate (N.length - 1) Sl.no) (L2.start N [.ref a]) F H' :=
      ⟨s1, Same.refl F, fun _ _ h => h, fun c o h _ => h, fun c e => by cases e; exact hB, S0.len, fun i e o h1 h2 => by
        have := S0.ok i e o h1 h2
        rcases List.mem_cons.mp (List.mem_of_getElem? h1) with h | h
        · rw [h] at this ⊢; exact this
        · rw [List.eq_of_mem_replicate h] at this ⊢; exact this, (fun i c xs h1 => by
        rcases List.mem_cons.mp (List.mem_of_getElem? h1) with h | h
        · cases h
        · cases List.eq_of_mem_replicate h), S0.dis⟩
    have S2 := S1.set (i := 1) (e := .r (.ref b)) (o := some (.ref b)) rfl fun _ _ e => nomatch e
    have e2 : (Sl.r (.ref a) :: List.replicate (N.length - 1) Sl.no).set 1 (.r (.ref b)) = .r (.ref a) :: .r (.ref b) :: List.replicate (N.length - 2) Sl.no := by
      obtain ⟨m, hm⟩ : ∃ m, N.length = m + 2 := ⟨N.length - 2, by omega⟩
      rw [hm]
      simp [List.replicate_succ]
    rw [e2] at S2
    exact hm F H' a b _ F H' _ S2 (fun _ _ _ _ _ _ z => z.elim) (fun _ _ _ _ _ _ z => z.elim) (fun _ _ _ _ _ _ z => z.elim) (fun v d es' σ' F' H2 S' s' rv e => by subst e; cases rv; exact q H2) (fun _ _ _ _ _ _ _ _ _ _ _ _ _ _ z => z.elim)
end
end Y
/-! Y6: lists of texts; drawn words; values of any kind. -/
namespace Y
open PySem L2
theorem pureAll_strs : ∀ ss : List Str, pureAll (ss.map Dt.str) = true
  | [] => by simp [pureAll]
  | s :: ss => by simp [pureAll, Dt.pureD, pureAll_strs ss]
theorem pyAll_strs : ∀ ss : List Str, pyAll (ss.map Dt.str) = ss.map PyData.str
  | [] => by simp [pyAll]
  | s :: ss => by simp [pyAll, Dt.py, pyAll_strs ss]
theorem lay_strs : ∀ ss : List Str, (∀ s ∈ ss, PyData.strOk s = true) → PyData.canLayAll0 (ss.map PyData.str) = true
  | [], _ => by simp [PyData.canLayAll0]
  | s :: ss, h => by
    simp only [List.map_cons, PyData.canLayAll0, PyData.canLay0, Bool.and_eq_true]
    exact ⟨h s (List.mem_cons_self ..), lay_strs ss fun t ht => h t (List.mem_cons_of_mem _ ht)⟩
theorem depth_strs : ∀ ss : List Str, PyData.depthAll (ss.map PyData.str) = 0
  | [] => by simp [PyData.depthAll]
  | s :: ss => by simp [PyData.depthAll, PyData.depth, depth_strs ss]
theorem okD_strs {ss : List Str} (hl : ss.length < 50000) (h : ∀ s ∈ ss, PyData.strOk s = true) : okD (.lst (ss.map Dt.str)) = true := by
  unfold okD
  simp only [Dt.pureD, Dt.py, List.length_map, pureAll_strs, pyAll_strs, SeqAt.shaped, PyData.canLay0, lay_strs ss h, PyData.depth, depth_strs]
  simp [hl]
theorem okD_nil : okD (.lst []) = true := okD_strs (ss := []) (by decide) (fun _ h => nomatch h)
theorem eqv_nil (xs : List PyData) : PyData.eqv (.list xs) (.list []) = xs.isEmpty := by
  cases xs <;> simp [PyData.eqv, PyData.eqvAll]
section
variable {B : Bs} {es : List Sl}
/-- a list of texts == [] -/
theorem o_eqNil {ss : List Str} {P : Dt → Prop} (hl : ss.length < 50000) (h : ∀ s ∈ ss, PyData.strOk s = true) (hp : P (.bl ss.isEmpty)) : Op2 B (rEqA B.K) es (.lst (ss.map Dt.str)) (.lst []) P := by
  refine o_eqAD (okD_strs hl h) okD_nil ?_
  have e : PyData.eqv (Dt.lst (ss.map Dt.str)).py (Dt.lst []).py = ss.isEmpty := by
    simp only [Dt.py, pyAll, pyAll_strs]
    rw [eqv_nil]
    cases ss <;> rfl
  rw [e]
  exact hp
/-- a joined text of single signs -/
theorem join_signs : ∀ cs : List Nat, (Str.join "" (cs.map fun c => ⟨#[c]⟩)).cps.toList = cs
  | [] => rfl
  | [c] => rfl
  | c :: e :: r => by
    have := TL.tl_join ("" : Str) ((c :: e :: r).map fun c => (⟨#[c]⟩ : Str))
    rw [show (Str.join "" ((c :: e :: r).map fun c => (⟨#[c]⟩ : Str))).cps.toList = TL.tl _ from rfl, this]
    have h0 : TL.tl ("" : Str) = [] := by decide +kernel
    rw [h0]
    have key : ∀ l : List Nat, TL.joinL [] ((l.map fun c => (⟨#[c]⟩ : Str)).map TL.tl) = l := by
      intro l
      induction l with
      | nil => rfl
      | cons a l ih =>
        cases l with
        | nil => rfl
        | cons b l =>
          show [a] ++ ([] ++ TL.joinL [] (((b :: l).map fun c => (⟨#[c]⟩ : Str)).map TL.tl)) = a :: b :: l
          rw [ih]; rfl
    exact key _
/-- ''.join([of(bag, TEXT) for k in range(draw(bag, n))]) -/
theorem ev_word {i j : Nat} {b : Addr} {n : Int} {lit : Str} {E E' : XK} {P : Dt → Prop} (hb : B.bag = some b) (hi : es[i]? = some (.r (.ref b))) (hij : j ≠ i) (hn : 0 < n ∧ n ≤ 1000) (hl : 0 < lit.cps.size ∧ lit.cps.size ≤ 1000)
    (h : ∀ z : Str, (z.cps.size : Int) < n → (∀ c ∈ z.cps.toList, c ∈ lit.cps.toList) → P (.str z)) :
    Ev B (tM1 (rJoinA B.K) (tC (.str "")) (tLc (iRng1 (tCons (tCall (spB B.K drawPre drawPost) [] E (tCons (tVar i) (tCons (tC (.int n)) tNil))) tNil)) (gName j) tYes (tCall (spB B.K ofPre ofPost) [] E' (tCons (tVar i) (tCons (tC (.str lit)) tNil))) [j])) es P := by
  refine ev_join (ev_str (str_ex (EvO.ev (eo_map (ei_rng1 (ea_cons (ev_callB hb hi (ea_cons (ev_int (ea_nil ⟨⟨n, rfl, hn.1, by omega⟩, ?_⟩))))))))))
  rintro d ⟨n', k, e, rfl, k1, k2⟩
  cases e
  refine ea_nil ⟨k, rfl, by omega, by omega, by rw [rangeD_len]; omega, fun _ y => ∃ c, c ∈ lit.cps.toList ∧ y = .str ⟨#[c]⟩, fun m x hx => ?_, fun ys hy hR => ?_⟩
  · refine tc_name (ev_callB hb ?_ (ea_cons (ev_str (ea_nil ⟨⟨_, rfl, ?_, ?_⟩, ?_⟩))))
    · show ((es.set j .no).set j (.d x))[i]? = _
      rw [List.getElem?_set_ne hij, List.getElem?_set_ne hij]; exact hi
    · show 0 < (signsD lit).length; rw [signsD_len]; exact hl.1
    · show (signsD lit).length ≤ _; rw [signsD_len]; omega
    · rintro d ⟨x', e, hm⟩
      cases e
      obtain ⟨c, hc, rfl⟩ := List.mem_map.mp hm
      exact ⟨c, hc, rfl⟩
  · rw [rangeD_len] at hy
    have key : ∀ (l : List Dt), (∀ y ∈ l, ∃ c, c ∈ lit.cps.toList ∧ y = Dt.str ⟨#[c]⟩) → ∃ cs : List Nat, (∀ c ∈ cs, c ∈ lit.cps.toList) ∧ l = (cs.map fun c => (⟨#[c]⟩ : Str)).map Dt.str := by
      intro l
      induction l with
      | nil => intro _; exact ⟨[], (fun _ h => nomatch h), rfl⟩
      | cons y l ih =>
        intro hl
        obtain ⟨c, hc, rfl⟩ := hl y (List.mem_cons_self ..)
        obtain ⟨cs, h1, h2⟩ := ih fun z hz => hl z (List.mem_cons_of_mem _ hz)
        refine ⟨c :: cs, fun e he => ?_, by rw [h2]; rfl⟩
        rcases List.mem_cons.mp he with rfl | he
        · exact hc
        · exact h1 e he
    obtain ⟨cs, h1, rfl⟩ := key ys fun y hm => by
      obtain ⟨m, hm⟩ := List.getElem?_of_mem hm
      have hlt := (List.getElem?_eq_some_iff.mp hm).1
      have hr : m < (rangeD 0 k.toNat).length := by rw [rangeD_len]; omega
      exact hR m _ y (List.getElem?_eq_getElem hr) hm
    rw [List.length_map, List.length_map] at hy
    refine ⟨cs.map fun c => (⟨#[c]⟩ : Str), .inl rfl, ?_, ?_⟩
    · have e1 : ((cs.map fun c => (⟨#[c]⟩ : Str)).map (·.length)).sum = cs.length := by
        clear h1 hR hy
        induction cs with
        | nil => rfl
        | cons c cs ih => simp only [List.map_cons, List.sum_cons, ih, List.length_cons]; show 1 + _ = _; omega
      have e2 : ("" : Str).length = 0 := by decide +kernel
      rw [e1, e2]
      omega
    · rw [TL.join_eq]
      have e := join_signs cs
      refine h _ ?_ ?_
      · rw [← Array.length_toList, e]; omega
      · rw [e]; exact h1
end
/-- a value of any kind, as is_name and its like may be handed -/
def goodV (x : Dt) : Bool := plainD x && (match x with | .str z => decide (z.cps.size < 1000) && PyData.strOk z | _ => true)
theorem goodV_pre {x : Dt} (h : goodV x = true) : plainD x = true ∧ txtOk x := by
  unfold goodV at h
  rw [Bool.and_eq_true] at h
  refine ⟨h.1, fun z e => ?_⟩
  subst e
  have := h.2
  rw [Bool.and_eq_true] at this
  exact ⟨of_decide_eq_true this.1, this.2⟩
theorem strOk_of {z lit : Str} (h : ∀ c ∈ z.cps.toList, c ∈ lit.cps.toList) (hl : PyData.strOk lit = true) : PyData.strOk z = true := by
  unfold PyData.strOk at *
  rw [Array.all_eq_true'] at *
  intro c hc
  exact hl c (by have := h c (by simpa using hc); simpa using this)
theorem all_mem {xs : List Dt} {p : Dt → Bool} (h : xs.all p = true) {x : Dt} (hx : x ∈ xs) : p x = true := List.all_eq_true.mp h x hx
/-! ### calls of the helpers: what is asked, what comes -/
theorem draw_k {n : Int} {R : Dt → Prop} (hn : 0 < n ∧ n < 1073741824) (h : ∀ i : Int, 0 ≤ i → i < n → R (.int i)) : drawPre [.int n] ∧ ∀ d, drawPost [.int n] d → R d :=
  ⟨⟨n, rfl, hn.1, hn.2⟩, fun d ⟨m, i, e, e2, k1, k2⟩ => by cases e; subst e2; exact h i k1 k2⟩
theorem of_k {xs : List Dt} {R : Dt → Prop} (h0 : 0 < xs.length ∧ xs.length ≤ 100000) (h : ∀ d, d ∈ xs → R d) : ofPre [.lst xs] ∧ ∀ d, ofPost [.lst xs] d → R d :=
  ⟨⟨_, rfl, h0.1, h0.2⟩, fun d ⟨y, e, hm⟩ => by cases e; exact h d hm⟩
theorem of_kT {xs : List Dt} {R : Dt → Prop} (h0 : 0 < xs.length ∧ xs.length ≤ 100000) (h : ∀ d, d ∈ xs → R d) : ofPre [.tup xs] ∧ ∀ d, ofPost [.tup xs] d → R d :=
  ⟨⟨_, rfl, h0.1, h0.2⟩, fun d ⟨y, e, hm⟩ => by cases e; exact h d hm⟩
theorem odd_k {xs : List Dt} {R : Dt → Prop} (h0 : xs.length ≤ 1000) (h : ∀ d, d ∈ oddL ++ xs → R d) : oddPre [.lst xs] ∧ ∀ d, oddPost [.lst xs] d → R d :=
  ⟨⟨_, rfl, h0⟩, fun d ⟨y, e, hm⟩ => by cases e; exact h d hm⟩
theorem same_k {n : Nat} {x y : Dt} {R : Dt → Prop} (e : x = y) (hp : y.pureD = true) (hd : y.depth < n) (h : R (.bl true)) : samePre n [x, y] ∧ ∀ d, sameTrue [x, y] d → R d :=
  ⟨⟨y, by rw [e], hp, hd⟩, fun d e => by cases e; exact h⟩
theorem num_k {x : Dt} {l m : Int} {R : Dt → Prop} (hp : plainD x = true) (h : R (.bl (isNum x l m))) : numPre [x, .int l, .int m] ∧ ∀ d, numPost [x, .int l, .int m] d → R d :=
  ⟨⟨_, _, _, rfl, hp⟩, fun d ⟨y, l, m, e, e2⟩ => by cases e; subst e2; exact h⟩
theorem name_k {x : Dt} {R : Dt → Prop} (hp : plainD x = true ∧ txtOk x) (h : R (.bl (isNameD x))) : valPre [x] ∧ ∀ d, namePost [x] d → R d :=
  ⟨⟨_, rfl, hp⟩, fun d ⟨y, e, e2⟩ => by cases e; subst e2; exact h⟩
theorem reg_k {x : Dt} {R : Dt → Prop} (hp : plainD x = true ∧ txtOk x) (h : R (.bl (isRegD x))) : valPre [x] ∧ ∀ d, regPost [x] d → R d :=
  ⟨⟨_, rfl, hp⟩, fun d ⟨y, e, e2⟩ => by cases e; subst e2; exact h⟩
theorem word_k {x : Dt} {R : Dt → Prop} (hp : plainD x = true ∧ txtOk x) (h : R (.bl (isNum x 0 65535))) : valPre [x] ∧ ∀ d, wordPost [x] d → R d :=
  ⟨⟨_, rfl, hp⟩, fun d ⟨y, e, e2⟩ => by cases e; subst e2; exact h⟩
theorem good_str {z lit : Str} {n : Int} (h1 : (z.cps.size : Int) < n) (hn : n ≤ 1000) (h : ∀ c ∈ z.cps.toList, c ∈ lit.cps.toList) (hl : PyData.strOk lit = true) : goodV (.str z) = true := by
  have h2 : z.cps.size < 1000 := by omega
  show (true && (decide (z.cps.size < 1000) && PyData.strOk z)) = true
  rw [decide_eq_true h2, strOk_of h hl]; rfl
theorem good_odd : oddL.all goodV = true := by decide +kernel
end Y
/-! Y7: list(text), dicts, defs with defaults, expressions that change a list of one's own. -/
namespace Y
open PySem L2

/-! ### list(text) -/
def rListS (xs : List V) (H : Hp) (Q : VK) : Prop := ∃ z : Str, xs = [.str z] ∧ z.cps.size ≤ 100000 ∧ ∀ l, H l = none → Q (.ref l) (upd H l (.lst (z.cps.toList.map fun c => V.str ⟨#[c]⟩)))
theorem call_listS {X : Cx} (hc : X.calm = true) : CallR X (.type "list") rListS := by
  intro pins s σ H xs us Q I r h
  obtain ⟨z, rfl, hz, q⟩ := h
  obtain ⟨u, rfl, rx⟩ := vals1 r
  obtain ⟨t, rfl⟩ := rx
  refine call_list_str (I.ok.hd hc) z t (fun h' tk acc c' hk e hi => ?_) (size_of hz)
  refine ⟨.ref s.heap.objs.size, upd H s.heap.objs.size (.lst (z.cps.toList.map fun c => V.str ⟨#[c]⟩)), I.laid hk (Nat.le_refl _) ⟨?_, acc.toList, c', ?_, ?_⟩, rfl, q _ (I.hok.fresh (Nat.le_refl _))⟩
  · rw [List.length_map, Array.length_toList]; exact size_of hz
  · refine vals_of_idx _ _ (by rw [List.length_map, Array.length_toList, Array.length_toList]; exact hi.1) fun j u hj => ?_
    obtain ⟨c, t', hc', rfl⟩ := hi.2 j u (by rw [← Array.getElem?_toList]; exact hj)
    exact ⟨.str ⟨#[c]⟩, by rw [List.getElem?_map, Array.getElem?_toList, hc']; rfl, ⟨_, rfl⟩⟩
  · rw [Array.toArray_toList]; exact e
def rListB (K : PySem.W.Frag) : List V → Hp → VK → Prop := cAlt (rListA K) rListS
theorem call_listB {X : Cx} {K : PySem.W.Frag} (hc : X.calm = true) (hK : X.K = K := by rfl) : CallR X (.type "list") (rListB K) := call_alt (call_listA hK) (call_listS hc)
section
variable {B : Bs} {es : List Sl}
theorem eo_listS {ta : TA} {P : List Dt → Prop} (h : EvA B ta es fun ds => ∃ z : Str, ds = [.str z] ∧ z.cps.size ≤ 100000 ∧ P (signsD z)) : EvO B (tCB (rListB B.K) ta) es P := fun σ F H S Q q => h σ F H S _ fun vs ds F1 H1 g1 r1 ⟨z, e, hz, p1⟩ => by
  subst e
  obtain ⟨v, rfl, r⟩ := rp1 r1
  cases r
  have S1 := S.go g1
  refine .inr ⟨z, rfl, hz, fun p hp => q p _ _ F1 _ (g1.trans (S1.allocO hp)) (g1.new (S1.newB hp) hp) (same_none S1.sub hp) upd_same ?_ p1⟩
  unfold signsD
  generalize z.cps.toList = l
  induction l with
  | nil => exact .nil
  | cons c l ih => exact .cons (.str _) ih
theorem eo_listL {ta : TA} {P : List Dt → Prop} (h : EvA B ta es fun ds => ∃ xs, (ds = [.lst xs] ∨ ds = [.tup xs]) ∧ P xs) : EvO B (tCB (rListB B.K) ta) es P := fun σ F H S Q q => h σ F H S _ fun vs ds F1 H1 g1 r1 ⟨xs, e, p1⟩ => by
  have S1 := S.go g1
  rcases e with rfl | rfl
  · obtain ⟨v, rfl, r⟩ := rp1 r1
    cases r with
    | lst h1 h2 => exact .inl ⟨_, _, rfl, .inl (SqL.of (g1.s2 _ _ h1)), fun p hp => q p _ _ F1 _ (g1.trans (S1.allocO hp)) (g1.new (S1.newB hp) hp) (same_none S1.sub hp) upd_same h2 p1⟩
  · obtain ⟨v, rfl, r⟩ := rp1 r1
    cases r with
    | tup h1 h2 => exact .inl ⟨_, _, rfl, .inr (sqT_mono g1.s2 h1), fun p hp => q p _ _ F1 _ (g1.trans (S1.allocO hp)) (g1.new (S1.newB hp) hp) (same_none S1.sub hp) upd_same h2 p1⟩

/-! ### expressions that change lists of one's own -/
def EvM (B : Bs) (te : TE) (es : List Sl) (P : Dt → List Sl → Prop) : Prop := ∀ σ F H, Stt B es σ F H → ∀ Q : VK,
  (∀ v d es' F' H', Same F F' → Stt B es' σ F' H' → Rp B.K F' v d → P d es' → Q v H') → te σ H Q
theorem Ev.m {te : TE} {P : Dt → List Sl → Prop} (h : Ev B te es fun d => P d es) : EvM B te es P := fun σ F H S Q q => h σ F H S Q fun v d F1 H1 g1 r1 p1 => q v d es F1 H1 g1.s1 (S.go g1) r1 p1
theorem em_op {r : R2} {ta tb : TE} {P : Dt → List Sl → Prop} (h : EvM B ta es fun x e1 => EvM B tb e1 fun y e2 => Op2 B r e2 x y fun d => P d e2) : EvM B (tOp r ta tb) es P := fun σ F H S Q q =>
  h σ F H S _ fun v x e1 F1 H1 s1 S1 r1 p1 => p1 σ F1 H1 S1 _ fun w y e2 F2 H2 s2 S2 r2 p2 => p2 σ F2 H2 v w S2 (r1.mono s2) r2 Q fun u d F3 H3 g3 r3 p3 => q u d e2 F3 H3 ((s1.trans s2).trans g3.s1) (S2.go g3) r3 p3
theorem em_pop {i : Nat} {a : Addr} {xs : List Dt} {te : TE} {P : Dt → List Sl → Prop} (hi : es[i]? = some (.own a xs)) (h : Ev B te es fun y => ∃ j : Int, y = .int j ∧ 0 ≤ j ∧ j < xs.length ∧ j < 100000 ∧ ∀ x, xs[j.toNat]? = some x → P x (es.set i (.own a (xs.eraseIdx j.toNat)))) :
    EvM B (tBM B.K "list" rPopAt (tVar i) (tCons te tNil)) es P := fun σ F H S Q q => by
  obtain ⟨vs, h1, h2, h3, h4⟩ := S.own hi
  refine ⟨_, h1, .inl ⟨rfl, _, SqL.of h3⟩, h σ F H S _ fun w y F1 H1 g1 r1 ⟨j, e, j0, j1, j2, p1⟩ => ?_⟩
  subst e
  cases r1
  have S1 := S.go g1
  obtain ⟨vs', k1, k2, k3, k4⟩ := S1.own hi
  have hj : j.toNat < xs.length := by omega
  have hv : j.toNat < vs'.length := by rw [k4.length]; exact hj
  have ev : vs'[j.toNat]? = some vs'[j.toNat] := by simp [hv]
  obtain ⟨x, hx, rx⟩ := k4.getV ev
  have er : RpAll B.K F1 (vs'.eraseIdx j.toNat) (xs.eraseIdx j.toNat) := by
    rw [List.eraseIdx_eq_take_drop_succ, List.eraseIdx_eq_take_drop_succ]
    exact (k4.take _).app (k4.drop _)
  refine ⟨a, vs', j, j.toNat, vs'[j.toNat], rfl, rfl, k3, by omega, by omega, ?_, ev, q _ _ _ F1 _ g1.s1 (S1.change hi k1 k2 er) rx (p1 x hx)⟩
  have e1 : (if j < 0 then j + (vs'.length : Int) else j) = j := if_neg (by omega)
  have e2 : (decide (0 ≤ j) && decide (j < (vs'.length : Int))) = true := by
    rw [decide_eq_true j0, decide_eq_true (show j < (vs'.length : Int) by omega)]; rfl
  show (if (decide (0 ≤ (if j < 0 then j + (vs'.length : Int) else j)) && decide ((if j < 0 then j + (vs'.length : Int) else j) < (vs'.length : Int))) = true then some (if j < 0 then j + (vs'.length : Int) else j).toNat else none) = some j.toNat
  rw [e1, e2]; rfl
theorem sm_appendM {p : Po} {i : Nat} {te : TE} {a : Addr} {xs : List Dt} (hi : es[i]? = some (.own a xs)) (h : EvM B te es fun d e1 => e1[i]? = some (.own a xs) ∧ xs.length < 100000 ∧ p.nx (e1.set i (.own a (xs ++ [d])))) : Sm B (tDrop (tBM B.K "list" rAppend (tVar i) (tCons te tNil))) es p := fun σ F H D S n _ _ _ _ => by
  obtain ⟨vs, h1, h2, h3, h4⟩ := S.own hi
  refine ⟨_, h1, .inl ⟨rfl, _, SqL.of h3⟩, h σ F H S _ fun v d e1 F1 H1 s1 S1 r1 ⟨hi1, p1, p2⟩ => ?_⟩
  obtain ⟨vs', k1, k2, k3, k4⟩ := S1.own hi1
  exact ⟨a, vs', v, rfl, rfl, k3, size_lt (by rw [k4.length]; exact p1), n _ _ F1 _ (S1.change hi1 h1 k2 (k4.app (.cons r1 .nil))) s1 p2⟩
theorem sm_reverse {p : Po} {i : Nat} {a : Addr} {xs : List Dt} (hi : es[i]? = some (.own a xs)) (h : p.nx (es.set i (.own a xs.reverse))) : Sm B (tDrop (tBM0 B.K "list" rReverse (tVar i))) es p := fun σ F H D S n _ _ _ _ => by
  obtain ⟨vs, h1, h2, h3, h4⟩ := S.own hi
  have er : ∀ {us : List V} {ds : List Dt}, RpAll B.K F us ds → RpAll B.K F us.reverse ds.reverse := by
    intro us ds r
    induction us generalizing ds with
    | nil => cases r; exact .nil
    | cons u us ih =>
      cases r with
      | cons r t =>
        rw [List.reverse_cons, List.reverse_cons]
        exact (ih t).app (.cons r .nil)
  exact ⟨_, h1, .inl ⟨rfl, _, SqL.of h3⟩, a, vs, rfl, rfl, h3, n _ _ F _ (S.change hi h1 h2 (er h4)) (Same.refl F) h⟩

/-! ### a list of one's own within a datum: told by its address, seen as a datum for the time of a call -/
mutual
def Dt.see (a : Addr) (xs : List Dt) : Dt → Dt
  | .ali c => if c = a then .lst xs else .ali c
  | .lst ds => .lst (seeAll a xs ds)
  | .tup ds => .tup (seeAll a xs ds)
  | .non => .non
  | .bl b => .bl b
  | .int i => .int i
  | .str s => .str s
  | .obj C ns ds => .obj C ns (seeAll a xs ds)
  | .dct ks ds => .dct ks (seeAll a xs ds)
def seeAll (a : Addr) (xs : List Dt) : List Dt → List Dt
  | [] => []
  | d :: ds => d.see a xs :: seeAll a xs ds
end
mutual
theorem Rp.see {K : PySem.W.Frag} {F F' : Hp} {a : Addr} {xs : List Dt} (s : Same F F') (h : Rp K F' (.ref a) (.lst xs)) : ∀ {v : V} {d : Dt}, Rp K F v d → Rp K F' v (d.see a xs)
  | _, _, .non => by unfold Dt.see; exact .non
  | _, _, .bl b => by unfold Dt.see; exact .bl b
  | _, _, .int i => by unfold Dt.see; exact .int i
  | _, _, .str x => by unfold Dt.see; exact .str x
  | _, _, .lst h1 r => by unfold Dt.see; exact .lst (s _ _ h1) (RpAll.see s h r)
  | _, _, .tup h1 r => by unfold Dt.see; exact .tup (sqT_mono s h1) (RpAll.see s h r)
  | _, _, .obj h1 h2 h3 r => by unfold Dt.see; exact .obj (s _ _ h1) h2 h3 (RpAll.see s h r)
  | _, _, .dct h1 h2 h3 r => by unfold Dt.see; exact .dct (s _ _ h1) h2 h3 (RpAll.see s h r)
  | _, _, .ali c => by
    unfold Dt.see
    by_cases e : c = a
    · rw [if_pos e, e]; exact h
    · rw [if_neg e]; exact .ali c
theorem RpAll.see {K : PySem.W.Frag} {F F' : Hp} {a : Addr} {xs : List Dt} (s : Same F F') (h : Rp K F' (.ref a) (.lst xs)) : ∀ {vs : List V} {ds : List Dt}, RpAll K F vs ds → RpAll K F' vs (seeAll a xs ds)
  | _, _, .nil => by unfold seeAll; exact .nil
  | _, _, .cons r t => by unfold seeAll; exact .cons (Rp.see s h r) (RpAll.see s h t)
end
theorem ev_varOwn {i : Nat} {a : Addr} {xs : List Dt} {P : Dt → Prop} (hi : es[i]? = some (.own a xs)) (h : P (.ali a)) : Ev B (tVar i) es P := fun σ F H S Q q => by
  obtain ⟨vs, h1, h2, h3, h4⟩ := S.own hi
  exact ⟨_, h1, q _ _ F H S.refl (.ali a) h⟩
def scD : Dt → Bool
  | .non => true | .bl _ => true | .int _ => true | .str _ => true
  | _ => false
theorem rp_sc {K : PySem.W.Frag} {F F' : Hp} {v : V} {d : Dt} (r : Rp K F v d) (h : scD d = true) : Rp K F' v d := by
  cases r <;> first | exact .non | exact .bl _ | exact .int _ | exact .str _ | cases h
/-- a pure def is called with data that tell of the list at slot i -/
theorem ev_callSee {i : Nat} {a : Addr} {xs : List Dt} {Pre : List Dt → Prop} {Post : List Dt → Dt → Prop} {E : XK} {ta : TA} {P : Dt → Prop} (hi : es[i]? = some (.own a xs)) (h : EvA B ta es fun ds => Pre (seeAll a xs ds) ∧ ∀ d, Post (seeAll a xs ds) d → scD d = true ∧ P d) : Ev B (tCall (spD B.K Pre Post) [] E ta) es P := fun σ F H S Q q =>
  h σ F H S _ fun vs ds F1 H1 g1 r1 ⟨p1, p2⟩ => by
    rw [List.append_nil]
    have S1 := S.go g1
    obtain ⟨ws, h1, h2, h3, h4⟩ := S1.own hi
    have s1 : Same F1 (upd F1 a (.lst ws)) := same_upd h2
    have sH : Same (upd F1 a (.lst ws)) H1 := fun c o e => by
      by_cases hc : c = a
      · subst hc; rw [upd_same] at e; rw [h3, e]
      · rw [upd_ne hc] at e; exact S1.sub c o e
    refine ⟨_, _, sH, RpAll.see s1 (.lst upd_same (h4.mono s1)) r1, p1, fun v d F2 H2 s1 s2 s3 s4 r2 p3 => ?_⟩
    obtain ⟨hs, hp⟩ := p2 d p3
    exact q v d F1 H2 (g1.trans (S1.pure (Same.refl F1) (S1.sub.trans s4) (fun _ _ h => h) s4)) (rp_sc r2 hs) hp

/-! ### dicts -/
def getK (ks : List Key) (xs : List Dt) (k : Key) : Option Dt := match ks, xs with
  | a :: ks, x :: xs => if a = k then some x else getK ks xs k
  | _, _ => none
theorem getK_of {K : PySem.W.Frag} {F : Hp} (k : Key) : ∀ {kvs : List (Key × V)} {ds : List Dt}, RpAll K F (kvs.map (·.2)) ds → (∀ d, getK (kvs.map (·.1)) ds k = some d → ∃ v, valV kvs k = some v ∧ Rp K F v d) ∧ (getK (kvs.map (·.1)) ds k = none → valV kvs k = none)
  | [], ds, r => by
    cases r
    exact ⟨(fun d h => nomatch h), fun _ => rfl⟩
  | (a, v) :: kvs, ds, r => by
    cases r with
    | cons r1 r2 =>
      have ih := getK_of k r2
      unfold valV
      show (∀ d, (if a = k then some _ else getK _ _ k) = some d → _) ∧ ((if a = k then some _ else getK _ _ k) = none → _)
      by_cases h : a = k
      · rw [if_pos h]
        refine ⟨fun d e => ?_, fun e => nomatch e⟩
        cases e
        exact ⟨v, by simp [h], r1⟩
      · rw [if_neg h]
        refine ⟨fun d e => ?_, fun e => ?_⟩
        · obtain ⟨u, h1, h2⟩ := ih.1 d e
          refine ⟨u, ?_, h2⟩
          unfold valV at h1
          simpa [List.find?_cons, h] using h1
        · have := ih.2 e
          unfold valV at this
          simpa [List.find?_cons, h] using this
/-- a written dict with text keys -/
def KDic (K : PySem.W.Frag) (w : World) (d : Addr) (kvs : List (Str × V)) : Prop := ∃ es n, K.lookup d = some ⟨.type "dict", none, .dict es n, #[]⟩ ∧ PySem.W.KeysLit w.params es.toList ∧ (d == sysModules) = false ∧ Paired (fun (p : Str × V) (e : DictEntry) => (∃ t, e.key = .str p.1 t) ∧ RelV p.2 e.val) kvs es.toList
theorem KDic.ns {K : PySem.W.Frag} {w : World} {d : Addr} {kvs : List (Str × V)} (h : KDic K w d kvs) (z : Str) : ∃ r, PySem.W.nsIn K d z = some r ∧ RelO (kvs.lookup z) r := by
  obtain ⟨es, n, h1, _, _, h2⟩ := h
  unfold PySem.W.nsIn
  rw [h1]
  show ∃ r, (match es.toList.find? (·.key.isStr z) with | some e => some (some e.val) | none => if es.toList.any (·.refKey) then none else some none) = some r ∧ _
  generalize es.toList = l at h2
  have nr : l.any (·.refKey) = false := by
    clear h1
    induction h2 with
    | nil => rfl
    | cons r _ ih =>
      obtain ⟨⟨t, e⟩, _⟩ := r
      rw [List.any_cons, ih]
      unfold DictEntry.refKey
      rw [e]; rfl
  rw [nr]
  clear h1 nr
  induction h2 with
  | nil => exact ⟨none, rfl, trivial⟩
  | @cons p e kvs l r _ ih =>
    obtain ⟨⟨t, hk⟩, rv⟩ := r
    obtain ⟨x, v⟩ := p
    have e1 : e.key.isStr z = (x == z) := by rw [hk]; rfl
    rw [List.find?_cons, e1]
    by_cases h : x = z
    · subst h
      refine ⟨some e.val, by simp, ?_⟩
      show RelO (List.lookup x ((x, v) :: kvs)) _
      rw [List.lookup_cons]
      simp
      exact rv
    · have h2 : (x == z) = false := by simpa using h
      have h3 : (z == x) = false := by simpa using fun q => h q.symm
      rw [h2]
      show ∃ r, _ = some r ∧ RelO (List.lookup z ((x, v) :: kvs)) r
      rw [List.lookup_cons, h3]
      exact ih
end
end Y
/-! Y8: written dicts read, dicts displayed, defs with defaults. -/
namespace Y
open PySem L2
/-! ### written dicts -/
def rInKD (K : PySem.W.Frag) (w : World) : R2 := fun x y H Q => ∃ z d kvs, x = .str z ∧ y = .ref d ∧ KDic K w d kvs ∧ Q (.bl (kvs.lookup z).isSome) H
def rNiKD (K : PySem.W.Frag) (w : World) : R2 := fun x y H Q => ∃ z d kvs, x = .str z ∧ y = .ref d ∧ KDic K w d kvs ∧ Q (.bl (!(kvs.lookup z).isSome)) H
section
variable {X : Cx} {K : PySem.W.Frag} {w : World}
theorem KDic.kd {K : PySem.W.Frag} {w : World} {d : Addr} {kvs : List (Str × V)} (h : KDic K w d kvs) : ∃ es n, KDict K w d es n := by
  obtain ⟨es, n, h1, h2, h3, _⟩ := h
  exact ⟨es, n, h1, h2, h3⟩
theorem op_inKD (hK : X.K = K := by rfl) (hw : X.w = w := by rfl) : OpR X (compareOp .In) (rInKD K w) := by
  subst hK hw
  intro pins s σ H x y u v Q I rx ry h
  obtain ⟨z, d, kvs, rfl, rfl, D, q⟩ := h
  obtain ⟨es, n, D1⟩ := D.kd
  obtain ⟨r, h1, h2⟩ := D.ns z
  refine op_in_kd D1 pins s σ H _ _ u v Q I rx ry ⟨z, r, rfl, rfl, h1, ?_⟩
  rw [← h2.isSome_eq]
  exact q
theorem op_niKD (hK : X.K = K := by rfl) (hw : X.w = w := by rfl) : OpR X (compareOp .NotIn) (rNiKD K w) := by
  subst hK hw
  intro pins s σ H x y u v Q I rx ry h
  obtain ⟨z, d, kvs, rfl, rfl, D, q⟩ := h
  obtain ⟨es, n, D1⟩ := D.kd
  obtain ⟨r, h1, h2⟩ := D.ns z
  refine op_notIn_kd D1 pins s σ H _ _ u v Q I rx ry ⟨z, r, rfl, rfl, h1, ?_⟩
  rw [← h2.isSome_eq]
  exact q
theorem ix_kd (hK : X.K = K := by rfl) (hw : X.w = w := by rfl) : IxR X (rIxD K w) := by
  subst hK hw
  exact ix_kdict
end
section
variable {B : Bs} {es : List Sl} {w : World}
theorem ev_inKD {d : Addr} {kvs : List (Str × V)} {ta : TE} {P : Dt → Prop} (D : KDic B.K w d kvs) (h : Ev B ta es fun x => ∃ z, x = .str z ∧ P (.bl (kvs.lookup z).isSome)) : Ev B (tOp (rInKD B.K w) ta (tC (.ref d))) es P := fun σ F H S Q q =>
  h σ F H S _ fun v x F1 H1 g1 r1 ⟨z, e, p1⟩ => by
    subst e; cases r1
    exact ⟨z, d, kvs, rfl, rfl, D, q _ _ F1 H1 g1 (.bl _) p1⟩
theorem ev_niKD {d : Addr} {kvs : List (Str × V)} {ta : TE} {P : Dt → Prop} (D : KDic B.K w d kvs) (h : Ev B ta es fun x => ∃ z, x = .str z ∧ P (.bl (!(kvs.lookup z).isSome))) : Ev B (tOp (rNiKD B.K w) ta (tC (.ref d))) es P := fun σ F H S Q q =>
  h σ F H S _ fun v x F1 H1 g1 r1 ⟨z, e, p1⟩ => by
    subst e; cases r1
    exact ⟨z, d, kvs, rfl, rfl, D, q _ _ F1 H1 g1 (.bl _) p1⟩
/-- the datum of a scalar value -/
def vD : V → Dt
  | .non => .non
  | .bl b => .bl b
  | .int i => .int i
  | .str s => .str s
  | _ => .non
def scV : V → Bool
  | .non => true | .bl _ => true | .int _ => true | .str _ => true
  | _ => false
theorem rp_vD {K : PySem.W.Frag} {F : Hp} {v : V} (h : scV v = true) : Rp K F v (vD v) := by
  cases v <;> first | exact .non | exact .bl _ | exact .int _ | exact .str _ | cases h
theorem ev_ixKD {d : Addr} {kvs : List (Str × V)} {tb : TE} {P : Dt → Prop} (D : KDic B.K w d kvs) (h : Ev B tb es fun y => ∃ z, y = .str z ∧ ∃ v, kvs.lookup z = some v ∧ scV v = true ∧ P (vD v)) : Ev B (tOp (rIxD B.K w) (tC (.ref d)) tb) es P := fun σ F H S Q q =>
  h σ F H S _ fun v x F1 H1 g1 r1 ⟨z, e, v0, hv, hs, p1⟩ => by
    subst e; cases r1
    obtain ⟨r, h1, h2⟩ := D.ns z
    rw [hv] at h2
    cases r with
    | none => exact (show False from h2).elim
    | some u =>
      obtain ⟨es, n, k1, k2, _, _⟩ := D
      exact ⟨d, z, v0, rfl, rfl, ⟨es, n, u, k1, k2, h1, h2⟩, q _ _ F1 H1 g1 (rp_vD hs) p1⟩

/-! ### dicts displayed and asked -/
def kD : Key → Dt
  | .inl i => .int i
  | .inr x => .str x
theorem rp_kD {K : PySem.W.Frag} {F : Hp} {v : V} {k : Key} (r : Rp K F v (kD k)) : v = kV k := by
  cases k <;> cases r <;> rfl
def EvPs (B : Bs) (trs : List (TE × TE)) (es : List Sl) (P : List Key → List Dt → Prop) : Prop := ∀ σ F H, Stt B es σ F H → ∀ Q : List (V × V) → Hp → Prop,
  (∀ ks ps ds F' H', Go B F H F' H' → RpAll B.K F' (ps.map (·.2)) ds → ps.map (·.1) = ks.map kV → P ks ds → Q ps H') → tPairs trs σ H Q
theorem eps_nil {P : List Key → List Dt → Prop} (h : P [] []) : EvPs B [] es P := fun σ F H S Q q => q [] [] [] F H S.refl .nil rfl h
theorem eps_cons {tk tv : TE} {r : List (TE × TE)} {P : List Key → List Dt → Prop} (h : Ev B tk es fun x => ∃ k, x = kD k ∧ Ev B tv es fun y => EvPs B r es fun ks ds => P (k :: ks) (y :: ds)) : EvPs B ((tk, tv) :: r) es P := fun σ F H S Q q =>
  h σ F H S _ fun v x F1 H1 g1 r1 ⟨k, e, p1⟩ => p1 σ F1 H1 (S.go g1) _ fun u y F2 H2 g2 r2 p2 => p2 σ F2 H2 ((S.go g1).go g2) _ fun ks ps ds F3 H3 g3 r3 e3 p3 => by
    subst e
    refine q (k :: ks) ((v, u) :: ps) (y :: ds) F3 H3 ((g1.trans g2).trans g3) (.cons (r2.mono g3.s1) r3) ?_ p3
    rw [List.map_cons, List.map_cons, e3, rp_kD r1]
theorem merge_nodup {kvs : List (Key × V)} (h : (kvs.map (·.1)).Nodup) : mergeK [] kvs = kvs := by
  have key : ∀ (more acc : List (Key × V)), ((acc ++ more).map (·.1)).Nodup → mergeK acc more = acc ++ more := by
    intro more
    induction more with
    | nil => intro acc _; simp [mergeK]
    | cons p more ih =>
      intro acc hn
      have hv : valV acc p.1 = none := by
        cases e : valV acc p.1 with
        | none => rfl
        | some v =>
          have hm : p.1 ∈ acc.map (·.1) := valV_in (by rw [e])
          rw [List.map_append, List.map_cons] at hn
          have := List.nodup_append.mp hn
          exact absurd rfl (this.2.2 p.1 hm p.1 (List.mem_cons_self ..))
      show mergeK (putK acc p.1 p.2) more = _
      rw [putK_new _ hv, ih]
      · simp
      · simpa using hn
  simpa using key kvs [] (by simpa using h)
theorem zip_back : ∀ (ps : List (V × V)) (ks : List Key), ps.map (·.1) = ks.map kV → ks.length = ps.length → ps = (ks.zip (ps.map (·.2))).map fun kv => (kV kv.1, kv.2)
  | [], [], _, _ => rfl
  | [], _ :: _, _, h => by simp at h
  | _ :: _, [], _, h => by simp at h
  | a :: ps, k :: ks, e, h => by
    simp only [List.map_cons, List.cons.injEq] at e
    simp only [List.map_cons, List.zip_cons_cons, List.cons.injEq]
    exact ⟨by rw [← e.1], zip_back ps ks e.2 (by simpa using h)⟩
/-- a, b = [..], [..]: two new lists of one's own -/
theorem sm_parOO {p : Po} {i j : Nat} {t1 t2 : TE} (hij : i ≠ j) (hj : ∀ a xs, es[j]? ≠ some (.own a xs)) (hi : ∀ a xs, es[i]? ≠ some (.own a xs)) (h : EvO B t1 es fun xs => EvO B t2 es fun ys => ∀ a b, a ≠ b → p.nx ((es.set i (.own a xs)).set j (.own b ys))) : Sm B (tPar i j (tCons t1 (tCons t2 tNil))) es p := fun σ F H D S n _ _ _ _ =>
  h σ F H S _ fun a vs xs F1 H1 g1 a0 a1 a2 r1 p1 => p1 σ F1 H1 (S.go g1) _ fun b ws ys F2 H2 g2 b0 b1 b2 r2 p2 => by
    have S2 := (S.go g1).go g2
    have hab : a ≠ b := ne_of_none a2 b0
    have ha2 : H2 a = some (.lst vs) := g2.kp a _ (S.newB a0) a2
    have hF2 : F2 a = none := g2.nw a (by rw [a2]; simp) a1
    have S3 := S2.setO (i := i) hF2 ha2 (r1.mono g2.s1) (S.new0 a0) (S.newB a0) fun k c zs hk => S.newS a0 k zs hk
    have S4 := S3.setO (i := j) b1 b2 r2 ((S.go g1).new0 b0) ((S.go g1).newB b0) fun k c zs hk => by
      by_cases e : i = k
      · subst e
        have l1 : i < es.length := by
          have := (List.getElem?_eq_some_iff.mp hk).1
          rwa [List.length_set] at this
        rw [List.getElem?_set_self l1] at hk
        cases hk
        exact hab
      · rw [List.getElem?_set_ne e] at hk
        exact (S.go g1).newS b0 k zs hk
    exact ⟨.ref a, .ref b, rfl, n _ _ F2 H2 S4 (g1.s1.trans g2.s1) (p2 a b hab)⟩
theorem ev_disp {trs : List (TE × TE)} {P : Dt → Prop} (h : EvPs B trs es fun ks ds => ks.Nodup ∧ ks.length ≤ 15 ∧ P (.dct ks ds)) : Ev B (tDisp trs) es P := fun σ F H S Q q p hp => by
  have gD := S.allocO (o := .dK []) hp
  have S1 := S.go gD
  have hb := S.newB hp
  refine h σ F _ S1 _ fun ks ps ds F2 H2 g2 r2 e2 ⟨hn, hl, p2⟩ => ?_
  have h2 : H2 p = some (.dK []) := g2.kp p _ hb upd_same
  have hF2 : F2 p = none := g2.nw p (by rw [upd_same]; simp) (same_none S.sub hp)
  have lk : ks.length = ps.length := by
    have := congrArg List.length e2
    simpa using this.symm
  have e3 : ps = (ks.zip (ps.map (·.2))).map fun kv => (kV kv.1, kv.2) := zip_back ps ks e2 lk
  have k1 : (ks.zip (ps.map (·.2))).map (·.1) = ks := by rw [List.map_fst_zip]; rw [List.length_map]; omega
  have k2 : (ks.zip (ps.map (·.2))).map (·.2) = ps.map (·.2) := by rw [List.map_snd_zip]; rw [List.length_map]; omega
  refine ⟨h2, ks.zip (ps.map (·.2)), e3, by rw [List.length_zip, List.length_map]; omega, ?_⟩
  rw [merge_nodup (by rw [k1]; exact hn)]
  refine q (.ref p) (.dct ks ds) (upd F2 p (.dK (ks.zip (ps.map (·.2))))) _ ?_ (.dct upd_same k1 k2 (r2.mono (same_upd hF2))) p2
  refine ⟨g2.s1.trans (same_upd hF2), same_updF g2.s2, fun c h1 h2 => ?_, fun c o h1 h2 => ?_, fun b hb' => ?_⟩
  · have hc : c ≠ p := fun e => h1 (by rw [e]; exact hp)
    rw [upd_ne hc]
    exact g2.nw c (by rw [upd_ne hc]; exact h1) h2
  · have hc : c ≠ p := ne_of_none h2 hp
    rw [upd_ne hc]
    exact g2.kp c o h1 (by rw [upd_ne hc]; exact h2)
  · obtain ⟨k1, z, zs, k2, k3, k4⟩ := g2.bg b hb'
    have hbp : b ≠ p := fun e => hb (by rw [hb', e])
    exact ⟨by rw [upd_ne hbp]; exact k1, z, zs, by rw [upd_ne hbp]; exact k2, k3.mono (same_upd hF2), k4⟩
/-- d.get(k, x) -/
theorem ev_get2 {td ty tx : TE} {P : Dt → Prop} (h : Ev B td es fun x => ∃ ks xs, x = .dct ks xs ∧ Ev B ty es fun y => ∃ k, y = kD k ∧ Ev B tx es fun z => P ((getK ks xs k).getD z)) : Ev B (tDGet2 td ty tx) es P := fun σ F H S Q q =>
  h σ F H S _ fun v x F1 H1 g1 r1 ⟨ks, xs, e, p1⟩ => by
    subst e
    cases r1 with
    | dct h1 h2 h3 h4 =>
      refine ⟨_, rfl, .inl ⟨_, .inl (g1.s2 _ _ h1)⟩, p1 σ F1 H1 (S.go g1) _ fun u y F2 H2 g2 r2 ⟨k, e2, p2⟩ => p2 σ F2 H2 ((S.go g1).go g2) _ fun t z F3 H3 g3 r3 p3 => ?_⟩
      subst e2
      have ek := rp_kD r2
      subst ek
      subst h2 h3
      have h5 := getK_of k (h4.mono (g2.s1.trans g3.s1))
      refine ⟨_, DGet.k (k := k) (g3.s2 _ _ ((g2.s1.trans g3.s1) _ _ h1)), ?_⟩
      cases e : getK _ xs k with
      | none =>
        rw [h5.2 e]
        rw [e] at p3
        exact q _ _ F3 H3 ((g1.trans g2).trans g3) r3 p3
      | some d =>
        obtain ⟨v', k1, k2⟩ := h5.1 d e
        rw [k1]
        rw [e] at p3
        exact q _ _ F3 H3 ((g1.trans g2).trans g3) k2 p3
end
/-! ### defs with defaults -/
section
variable {P : Program} {w : World} {K : PySem.W.Frag} {mg : Str → Option Value} {base : Heap} {x qual : Str} {pa : Arguments} {bd : List Stmt} {sc : Scope} {dvs : List V} {kws : List (Str × V)} {f : Addr} {fd : FuncData} {N ps : List Str} {k : Nat} {Pre : List Dt → Prop} {Post : List Dt → Dt → Prop} {PostO : List Dt → List Dt → Prop}
theorem fn_dataD (G : FunD K x qual pa bd sc dvs kws f fd) (S : FnScope N ps sc) (hl : ∀ ds, Pre ds → ds.length = ps.length)
    (hb : ∀ (cdv : Value) (A : Around) (outer : List Env) (s : Shared) (H : Hp) (E : XK), Room k (A.deeper (PyProof.Rows.envOfC qual sc s.heap.objs.size f cdv)) →
      ∃ t, PSs (cxOf CX0 P w K mg base N qual sc f cdv A outer s H E).nox bd t ∧ ∀ F0 H0 ds, Pre ds → Sm ⟨K, F0, H0, none⟩ t (env0 N ds) { nx := fun _ => Post ds .non, bk := fun _ => False, ct := fun _ => False, rt := fun _ => Post ds }) :
    FnOk P w K mg base CX0 (k + 1) f fd ps (spD K Pre Post) := by
  refine G.ok S (fun vs H Q E h => ?_) (fun cdv A outer s H vs Q E hr h => ?_)
  · obtain ⟨F, ds, _, r, hp, _⟩ := h
    rw [r.length]; exact hl ds hp
  · obtain ⟨F, ds, hs, r, hp, q⟩ := h
    obtain ⟨t, hd, hm⟩ := hb cdv A outer s H E hr
    refine ⟨t, hd.nox, hm F H ds hp _ F H _ (start_stt hs r (fun _ z => nomatch z)) (fun es' σ' F' H' S' s' p => ?_) (fun _ _ _ _ _ _ z => z.elim) (fun _ _ _ _ _ _ z => z.elim) (fun v d es' σ' F' H' S' s' rv p => ?_) (fun _ _ _ _ _ _ _ _ _ _ _ _ _ _ z => z.elim)⟩
    · exact q _ _ F' H' s' S'.ou S'.sub (fun c o e => S'.fr c o e (fun z => nomatch z)) .non p
    · exact q _ _ F' H' s' S'.ou S'.sub (fun c o e => S'.fr c o e (fun z => nomatch z)) rv p
theorem fn_ownD (G : FunD K x qual pa bd sc dvs kws f fd) (S : FnScope N ps sc) (hl : ∀ ds, Pre ds → ds.length = ps.length)
    (hb : ∀ (cdv : Value) (A : Around) (outer : List Env) (s : Shared) (H : Hp) (E : XK), Room k (A.deeper (PyProof.Rows.envOfC qual sc s.heap.objs.size f cdv)) →
      ∃ t, PSs (cxOf CX0 P w K mg base N qual sc f cdv A outer s H E).nox bd t ∧ ∀ F0 H0 ds, Pre ds → Sm ⟨K, F0, H0, none⟩ t (env0 N ds) { nx := fun _ => False, bk := fun _ => False, ct := fun _ => False, rt := fun _ _ => False, ro := PostO ds }) :
    FnOk P w K mg base CX0 (k + 1) f fd ps (spO K Pre PostO) := by
  refine G.ok S (fun vs H Q E h => ?_) (fun cdv A outer s H vs Q E hr h => ?_)
  · obtain ⟨F, ds, _, r, hp, _⟩ := h
    rw [r.length]; exact hl ds hp
  · obtain ⟨F, ds, hs, r, hp, q⟩ := h
    obtain ⟨t, hd, hm⟩ := hb cdv A outer s H E hr
    refine ⟨t, hd.nox, hm F H ds hp _ F H _ (start_stt hs r (fun _ z => nomatch z)) (fun _ _ _ _ _ _ z => z.elim) (fun _ _ _ _ _ _ z => z.elim) (fun _ _ _ _ _ _ z => z.elim) (fun _ _ _ _ _ _ _ _ _ z => z.elim) (fun a vs xs es' σ' F' H' S' s' h1 h2 r1 h3 h4 p => ?_)⟩
    exact q a vs xs F' H' s' S'.ou S'.sub (fun c o e => S'.fr c o e (fun z => nomatch z)) h3 h1 h2 r1 p
/-- a keyword call of a def with positional defaults: g puts values, defaults and keywords in order -/
theorem kb_dfl (G : FunD K x qual pa bd sc dvs kws f fd) (n : Nat) (ks : List Str) (g : {α : Type} → List α → List α → List α → List α) (hd : dvs ≠ [])
    (hrel : ∀ {fv : List V} {fu : List Value} {vs zs : List V} {us ws : List Value}, Vals fv fu → Vals vs us → Vals zs ws → Vals (g fv vs zs) (g fu us ws))
    (h : ∀ (T : Addr) (kV doc pm : Value) (an : Option Addr) (cdv ct : Value) (us its ws : List Value), us.length = n → its.length = dvs.length → ws.length = ks.length →
      ∃ k, bindArgs (PySem.W.fnOf x qual pa bd sc (.ref T) kV doc pm an cdv ct) ⟨us, ks.zip ws⟩ = seqItems? (.ref T) >>= k ∧ k (some its.toArray) = pure (ps.zip (g its us ws))) :
    ∃ fu : List Value, Vals dvs fu ∧ KBn K fd ps n ks (fun us ws => g fu us ws) (fun vs zs => g dvs vs zs) := by
  obtain ⟨oc, od, dV, kV, doc, pm, an, cdv, ct, osl, rfl, lk, hcd, hD, hK⟩ := G.ex
  rcases hD with ⟨e, _⟩ | ⟨_, T, o, its, m, rfl, lT, oT, rT⟩
  · exact absurd e hd
  · refine ⟨its, rT, ⟨fun s us ws X l1 l2 => ?_, fun r1 r2 => hrel rT r1 r2⟩⟩
    obtain ⟨k, e1, e2⟩ := h T kV doc pm an cdv ct us its ws l1 rT.length.symm l2
    refine BindsTo.of_looks fun M => ?_
    rw [e1]
    exact looks_items X lT oT (.of_pure e2)
end
end Y
/-! Y9: rows as data; what the helpers that draw rows promise. -/
namespace Y
open PySem L2
/-! ### rows -/
def fitsB (k : Nat) (x : Dt) : Bool := if k = 114 then isRegD x else if k = 110 then isNameD x else if k = 119 then isNum x 0 65535 else if k = 100 then isNum x 0 15 else isNum x 1 120
def formB : List Nat → List Dt → Bool
  | [], [] => true
  | k :: ks, x :: xs => fitsB k x && formB ks xs
  | _, _ => false
def codeForms : List (Str × Str) := [("put", "rw"), ("name", "rn"), ("add", "rr"), ("take", "rr"), ("load", "rrd"), ("store", "rrd"), ("jump", "n"), ("ifzero", "rn"), ("call", "n"), ("callby", "r"), ("back", ""), ("out", "r"), ("halt", ""), ("room", "k")]
def dataForms : List (Str × Str) := [("word", "w"), ("address", "n"), ("room", "k")]
def rowBy (fs : List (Str × Str)) (d : Dt) : Bool := match d with
  | .tup (.str w :: rest) => (match fs.lookup w with
    | some f => formB f.cps.toList rest
    | none => false)
  | _ => false
abbrev codeRow (d : Dt) : Bool := rowBy codeForms d
abbrev dataRow (d : Dt) : Bool := rowBy dataForms d
theorem rowBy_of {fs : List (Str × Str)} {w : Str} {rest : List Dt} {ks : List Nat} (h0 : (fs.lookup w).map (fun f => f.cps.toList) = some ks) (hf : formB ks rest = true) : rowBy fs (.tup (.str w :: rest)) = true := by
  obtain ⟨f, h, hk⟩ := Option.map_eq_some_iff.mp h0
  show (match fs.lookup w with | some f => formB f.cps.toList rest | none => false) = true
  rw [h]
  show formB f.cps.toList rest = true
  rw [hk]; exact hf
theorem rowBy_inv {fs : List (Str × Str)} {d : Dt} (h : rowBy fs d = true) : ∃ w f rest, d = .tup (.str w :: rest) ∧ fs.lookup w = some f ∧ formB f.cps.toList rest = true := by
  unfold rowBy at h
  split at h
  · rename_i w rest
    cases e : fs.lookup w with
    | none => rw [e] at h; cases h
    | some f => rw [e] at h; exact ⟨w, f, rest, rfl, e, h⟩
  · cases h
/-- what the sizes of rows ask -/
def RowW (d : Dt) : Prop := ∃ w rest, d = .tup (.str w :: rest) ∧ (w = "room" → ∃ k : Int, rest = [.int k])
theorem formB_k {rest : List Dt} (h : formB [107] rest = true) : ∃ k : Int, rest = [.int k] ∧ 1 ≤ k ∧ k ≤ 120 := by
  cases rest with
  | nil => cases h
  | cons x xs =>
    cases xs with
    | cons y ys =>
      have h : (fitsB 107 x && false) = true := h
      rw [Bool.and_false] at h; cases h
    | nil =>
      have h : (fitsB 107 x && true) = true := h
      rw [Bool.and_true] at h
      have h : isNum x 1 120 = true := h
      cases x with
      | int i =>
        have h : (decide ((1 : Int) ≤ i) && decide (i ≤ 120)) = true := h
        rw [Bool.and_eq_true] at h
        exact ⟨i, rfl, of_decide_eq_true h.1, of_decide_eq_true h.2⟩
      | _ => cases h
theorem rowW_code {d : Dt} (h : codeRow d = true) : RowW d := by
  obtain ⟨w, f, rest, rfl, h1, h2⟩ := rowBy_inv h
  refine ⟨w, rest, rfl, fun e => ?_⟩
  subst e
  have e1 : codeForms.lookup ("room" : Str) = some ("k" : Str) := by decide +kernel
  rw [e1] at h1
  cases h1
  have e2 : ("k" : Str).cps.toList = [107] := by decide +kernel
  rw [e2] at h2
  obtain ⟨k, e, _⟩ := formB_k h2
  exact ⟨k, e⟩
theorem rowW_data {d : Dt} (h : dataRow d = true) : RowW d := by
  obtain ⟨w, f, rest, rfl, h1, h2⟩ := rowBy_inv h
  refine ⟨w, rest, rfl, fun e => ?_⟩
  subst e
  have e1 : dataForms.lookup ("room" : Str) = some ("k" : Str) := by decide +kernel
  rw [e1] at h1
  cases h1
  have e2 : ("k" : Str).cps.toList = [107] := by decide +kernel
  rw [e2] at h2
  obtain ⟨k, e, _⟩ := formB_k h2
  exact ⟨k, e⟩
theorem fit_r {x : Dt} (h : isRegD x = true) : fitsB 114 x = true := h
theorem fit_n {x : Dt} (h : isNameD x = true) : fitsB 110 x = true := h
theorem fit_w {i : Int} (h : 0 ≤ i ∧ i ≤ 65535) : fitsB 119 (.int i) = true := by
  show (decide (_ ≤ _) && decide (_ ≤ _)) = true
  rw [decide_eq_true h.1, decide_eq_true h.2]; rfl
theorem fit_d {i : Int} (h : 0 ≤ i ∧ i ≤ 15) : fitsB 100 (.int i) = true := by
  show (decide (_ ≤ _) && decide (_ ≤ _)) = true
  rw [decide_eq_true h.1, decide_eq_true h.2]; rfl
theorem fit_k {i : Int} (h : 1 ≤ i ∧ i ≤ 120) : fitsB 107 (.int i) = true := by
  show (decide (_ ≤ _) && decide (_ ≤ _)) = true
  rw [decide_eq_true h.1, decide_eq_true h.2]; rfl
theorem form0 : formB [] [] = true := rfl
theorem form1 {a : Nat} {x : Dt} (h : fitsB a x = true) : formB [a] [x] = true := by
  show (fitsB a x && true) = true
  rw [h]; rfl
theorem form2 {a b : Nat} {x y : Dt} (h : fitsB a x = true) (h2 : fitsB b y = true) : formB [a, b] [x, y] = true := by
  show (fitsB a x && (fitsB b y && true)) = true
  rw [h, h2]; rfl
theorem form3 {a b c : Nat} {x y z : Dt} (h : fitsB a x = true) (h2 : fitsB b y = true) (h3 : fitsB c z = true) : formB [a, b, c] [x, y, z] = true := by
  show (fitsB a x && (fitsB b y && (fitsB c z && true))) = true
  rw [h, h2, h3]; rfl
/-! ### drawn names -/
def titlesPre (ds : List Dt) : Prop := ∃ m : Int, ds = [.int m] ∧ 0 ≤ m ∧ m ≤ 26
def titlesPost (ds : List Dt) (d : Dt) : Prop := ∃ (m : Int) (ss : List Str), ds = [.int m] ∧ d = .lst (ss.map Dt.str) ∧ (ss.length : Int) = m ∧ (∀ s ∈ ss, isNameD (.str s) = true) ∧ ss.Nodup
def NamesD (d : Dt) : Prop := ∃ ss : List Str, d = .lst (ss.map Dt.str) ∧ 0 < ss.length ∧ ss.length ≤ 1000 ∧ ∀ s ∈ ss, isNameD (.str s) = true
theorem titles_k {m : Int} {R : Dt → Prop} (hm : 0 ≤ m ∧ m ≤ 26) (h : ∀ ss : List Str, (ss.length : Int) = m → (∀ s ∈ ss, isNameD (.str s) = true) → ss.Nodup → R (.lst (ss.map Dt.str))) : titlesPre [.int m] ∧ ∀ d, titlesPost [.int m] d → R d :=
  ⟨⟨m, rfl, hm⟩, fun d ⟨m', ss, e, e2, h1, h2, h3⟩ => by cases e; subst e2; exact h ss h1 h2 h3⟩
def nilPre (ds : List Dt) : Prop := ds = []
def numberPost (_ : List Dt) (d : Dt) : Prop := ∃ i : Int, d = .int i ∧ 0 ≤ i ∧ i ≤ 65535
def rPost (_ : List Dt) (d : Dt) : Prop := isRegD d = true
theorem number_k {R : Dt → Prop} (h : ∀ i : Int, 0 ≤ i → i ≤ 65535 → R (.int i)) : nilPre [] ∧ ∀ d, numberPost [] d → R d := ⟨rfl, fun d ⟨i, e, h1, h2⟩ => by subst e; exact h i h1 h2⟩
theorem r_k {R : Dt → Prop} (h : ∀ d, isRegD d = true → R d) : nilPre [] ∧ ∀ d, rPost [] d → R d := ⟨rfl, fun d e => h d e⟩
def namesPre (ds : List Dt) : Prop := ∃ t, ds = [t] ∧ NamesD t
def codeRowPost (_ : List Dt) (d : Dt) : Prop := codeRow d = true
def dataRowPost (_ : List Dt) (d : Dt) : Prop := dataRow d = true
theorem code_k {t : Dt} {R : Dt → Prop} (ht : NamesD t) (h : ∀ d, codeRow d = true → R d) : namesPre [t] ∧ ∀ d, codeRowPost [t] d → R d := ⟨⟨t, rfl, ht⟩, fun d e => h d e⟩
theorem data_k {t : Dt} {R : Dt → Prop} (ht : NamesD t) (h : ∀ d, dataRow d = true → R d) : namesPre [t] ∧ ∀ d, dataRowPost [t] d → R d := ⟨⟨t, rfl, ht⟩, fun d e => h d e⟩
/-- one of the names -/
theorem of_names {t : Dt} {R : Dt → Prop} (ht : NamesD t) (h : ∀ d, isNameD d = true → R d) : ofPre [t] ∧ ∀ d, ofPost [t] d → R d := by
  obtain ⟨ss, rfl, h0, h1, h2⟩ := ht
  refine of_k ⟨by simpa using h0, by simp; omega⟩ fun d hd => ?_
  obtain ⟨s, hs, rfl⟩ := List.mem_map.mp hd
  exact h _ (h2 s hs)
/-- one of some written things -/
theorem of_all {xs : List Dt} {p : Dt → Bool} {R : Dt → Prop} (h0 : 0 < xs.length ∧ xs.length ≤ 100000) (hp : xs.all p = true) (h : ∀ d, p d = true → R d) : ofPre [.lst xs] ∧ ∀ d, ofPost [.lst xs] d → R d :=
  of_k h0 fun d hd => h d (all_mem hp hd)
/-- a text cut in two with a sign between is a name -/
theorem isName_mk {z : Str} (h1 : 1 ≤ z.cps.size) (h2 : z.cps.size ≤ 6) (h : ∀ c ∈ z.cps.toList, c ∈ letters) : isNameD (.str z) = true := by
  show (decide ((1 : Int) ≤ (z.cps.size : Int)) && (decide ((z.cps.size : Int) ≤ 6) && z.cps.toList.all fun c => decide (c ∈ letters))) = true
  rw [decide_eq_true (by omega), decide_eq_true (by omega), Bool.true_and, Bool.true_and, List.all_eq_true]
  intro c hc
  exact decide_eq_true (h c hc)
theorem cut_app (z : Str) (n : Nat) (h : n ≤ z.cps.size) : (cutS z none (some (n : Int))).cps.toList = z.cps.toList.take n ∧ (cutS z (some (n : Int)) none).cps.toList = z.cps.toList.drop n := by
  have e0 : z.length = z.cps.size := rfl
  have e1 : HT.sIx z.length z.length (some (n : Int)) = n := by
    show (if (n : Int) < 0 then ((n : Int) + (z.length : Int)).toNat else min (n : Int).toNat z.length) = n
    rw [if_neg (by omega)]; omega
  have e2 : HT.sIx z.length 0 (some (n : Int)) = n := by
    show (if (n : Int) < 0 then ((n : Int) + (z.length : Int)).toNat else min (n : Int).toNat z.length) = n
    rw [if_neg (by omega)]; omega
  have e3 : HT.sIx z.length 0 none = 0 := rfl
  have e4 : HT.sIx z.length z.length none = z.length := rfl
  unfold cutS
  rw [e1, e2, e3, e4]
  constructor
  · simp
  · simp only []
    rw [List.take_of_length_le]
    rw [List.length_drop, Array.length_toList, e0]
    exact Nat.le_refl _
theorem app_toList (x y : Str) : (x ++ y).cps.toList = x.cps.toList ++ y.cps.toList := TL.tl_append x y
theorem perm_erase {α : Type} : ∀ {l : List α} {j : Nat} {c : α}, l[j]? = some c → l.Perm (c :: l.eraseIdx j)
  | [], j, c, h => by simp at h
  | a :: l, 0, c, h => by
    simp at h
    subst h
    exact List.Perm.refl _
  | a :: l, j + 1, c, h => by
    have ih := perm_erase (l := l) (j := j) (c := c) (by simpa using h)
    rw [List.eraseIdx_cons_succ]
    exact (List.Perm.cons a ih).trans (List.Perm.swap c a _)
theorem atI_toNat {α : Type} {xs : List α} {i : Int} {x : α} (h0 : 0 ≤ i) (h : xs[i.toNat]? = some x) : atI xs i = some x := by
  have hl := (List.getElem?_eq_some_iff.mp h).1
  unfold atI ixN
  rw [if_pos h0, if_pos (by omega)]
  exact h
theorem eo_if {B : Bs} {es : List Sl} {t : TT} {ta tb : TE} {P : List Dt → Prop} (h : EvT B t es fun b => (b = true → EvO B ta es P) ∧ (b = false → EvO B tb es P)) : EvO B (tIf t ta tb) es P := fun σ F H S Q q => h σ F H S _ fun b F1 H1 g1 p1 => by
  have S1 := S.go g1
  cases b with
  | true =>
    show ta σ H1 Q
    exact p1.1 rfl σ F1 H1 S1 Q fun a vs xs F2 H2 g2 h0 h1 h2 r p => q a vs xs F2 H2 (g1.trans g2) (g1.new (S1.newB h0) h0) h1 h2 r p
  | false =>
    show tb σ H1 Q
    exact p1.2 rfl σ F1 H1 S1 Q fun a vs xs F2 H2 g2 h0 h1 h2 r p => q a vs xs F2 H2 (g1.trans g2) (g1.new (S1.newB h0) h0) h1 h2 r p
theorem sm_par3 {B : Bs} {es : List Sl} {p : Po} {i j l : Nat} {ta : TA} (h : EvA B ta es fun ds => ∃ x y z, ds = [x, y, z] ∧ p.nx (((es.set i (.d x)).set j (.d y)).set l (.d z))) : Sm B (tPar3 i j l ta) es p := fun σ F H D S n _ _ _ _ => h σ F H S _ fun vs ds F1 H1 g1 r1 ⟨x, y, z, e, p1⟩ => by
  subst e
  cases r1 with
  | cons a r =>
    obtain ⟨v, w, rfl, b, c⟩ := rp2 r
    exact ⟨_, v, w, rfl, n _ _ F1 H1 ((((S.go g1).setD a).setD b).setD c) g1.s1 p1⟩
end Y
/-! Y10: zip of a text and a tuple. -/
namespace Y
open PySem L2 PyProof.Rows
/-- the signs of x with the items of the tuple at b, in new pairs -/
def ItzS (K : PySem.W.Frag) (x : Str) (b : Addr) : It :=
  ⟨fun i H => ∃ ys : List V, SqT K H b ys ∧ i < min x.cps.size ys.length,
    fun i H v H' => ∃ T c y, v = .ref T ∧ H T = none ∧ H' = upd H T (.tup [.str ⟨#[c]⟩, y]) ∧ x.cps[i]? = some c ∧ ∀ ys, SqT K H b ys → ys[i]? = some y,
    fun i H => ∃ ys : List V, SqT K H b ys ∧ i = min x.cps.size ys.length⟩
theorem turn_zipS {P : Program} {w : World} {K : PySem.W.Frag} {elts : List Expr} {kk : Nat} {tpos : Pos} {x : Str} {t : Tok} {b z TI TO i1 i2 : Addr} (S : ZipSep2 z TI TO i1 i2 [i1] [i2, b]) (hb : b ≠ i2) :
    Turn P w K (.Tuple elts kk tpos) (ItzS K x b) [z, TI, TO, i1, i2] z (fun i h => IsZip h z TI TO .none ∧ IsTupOf2 h TI (.ref i1) (.ref i2) ∧ (∃ a1 a2, IsTupOf2 h TO a1 a2) ∧ h.IsStrIter i1 (strIterType x) x t i ∧ h.IsTupleIter i2 b i) where
  mem := by simp
  obj := fun i h st c hc => by
    obtain ⟨hz, hTI, ⟨x, y, hTO⟩, ⟨o1, e1, _, d1⟩, ⟨o2, e2, _, d2⟩⟩ := st
    have e' : c = z ∨ c = TI ∨ c = TO ∨ c = i1 ∨ c = i2 := by simpa using hc
    rcases e' with q | q | q | q | q
    · rw [q]; exact ⟨_, hz, fun v q => nomatch q⟩
    · rw [q]; exact ⟨_, hTI, fun v q => nomatch q⟩
    · rw [q]; exact ⟨_, hTO, fun v q => nomatch q⟩
    · rw [q]; exact ⟨o1, e1, fun v q => by rw [d1] at q; cases q⟩
    · rw [q]; exact ⟨o2, e2, fun v q => by rw [d2] at q; cases q⟩
  keep := fun i h h' st k => by
    obtain ⟨hz, hTI, ⟨x, y, hTO⟩, h1, h2⟩ := st
    obtain ⟨o1, e1, c1, d1⟩ := h1
    exact ⟨k z (by simp) _ hz, k TI (by simp) _ hTI, ⟨x, y, k TO (by simp) _ hTO⟩, ⟨o1, k i1 (by simp) _ e1, c1, d1⟩, h2.at fun o q => k i2 (by simp) o q⟩
  item := by
    intro X hP hw hK hc i pins s σ H E I hf st hg
    subst hP hw hK
    obtain ⟨hz, hTI, hTO, h1, h2⟩ := st
    obtain ⟨ys, hq, hi⟩ := hg
    obtain ⟨its, rv, p, _⟩ := I.tuple hq
    have l := rv.length
    have hiy : i < ys.length := by omega
    have hh : X.A.in1.handled = none := I.ok.hd hc
    have p : s.heap.IsTuple b its.toArray := p
    refine (GoesN.zip2 S (Draws.text hh i1 x t) (Draws.tuple hh i2 b hb its.toArray)).goes i s _ E (by simp; omega) ⟨hz, hTI, hTO, h1, h2, p⟩ ?_
    rintro v h' tk ⟨T, u1, u2, rfl, hnew, ⟨c, tk1, hc1, rfl⟩, e2, hT⟩ st' hk _
    obtain ⟨u, hu, ru⟩ := rv.get (i := i) (x := ys[i]) (by simp [hiy])
    have e3 : u = u2 := by
      have : its[i]? = some u2 := by simpa using e2
      rw [hu] at this; cases this; rfl
    subst e3
    have new : ObjOk X.prog X.w (upd H T (.tup [.str ⟨#[c]⟩, ys[i]])) h' T (.tup [.str ⟨#[c]⟩, ys[i]]) :=
      ⟨by show 2 ≤ sizeLine; decide, [.str ⟨#[c]⟩ tk1, u], .cons ⟨_, rfl⟩ (.cons ru .nil), hT⟩
    have I1 : Inv X pins σ (upd H T (.tup [.str ⟨#[c]⟩, ys[i]])) { s with heap := h', toks := tk } :=
      I.turnedNew (t' := tk) (ch := [z, TI, TO, i1, i2]) (fun b o hb q => hk b o (fun hm => hb (by
        have e' : b = z ∨ b = TO ∨ b = i1 ∨ b = i2 := by simpa using hm
        rcases e' with q | q | q | q <;> simp [q])) q) hf hnew new
    refine ⟨.ref T, _, I1, rfl, ⟨T, c, ys[i], rfl, I.hok.fresh hnew, rfl, hc1, fun l hl => by rw [I.tuple_inj hl hq]; simp [hiy]⟩, ⟨st'.1, st'.2.1, st'.2.2.1, st'.2.2.2.1, st'.2.2.2.2.1⟩, fun c hcm => ?_⟩
    have hlt : c < s.heap.objs.size := by
      have e' : c = z ∨ c = TI ∨ c = TO ∨ c = i1 ∨ c = i2 := by simpa using hcm
      rcases e' with q | q | q | q | q
      · rw [q]; exact Heap.lt_size hz
      · rw [q]; exact Heap.lt_size hTI
      · rw [q]; obtain ⟨_, _, e1⟩ := hTO; exact Heap.lt_size e1
      · rw [q]; obtain ⟨_, e1, _⟩ := h1; exact Heap.lt_size e1
      · rw [q]; obtain ⟨_, e2, _⟩ := h2; exact Heap.lt_size e2
    rw [upd_ne (Nat.ne_of_lt (Nat.lt_of_lt_of_le hlt hnew))]
    exact (hf c hcm).1
  done := by
    intro X hP hw hK hc i pins s σ H E I hf st hg
    subst hP hw hK
    obtain ⟨hz, hTI, hTO, h1, h2⟩ := st
    obtain ⟨ys, hq, hi⟩ := hg
    obtain ⟨its, rv, p, _⟩ := I.tuple hq
    have l := rv.length
    have hh : X.A.in1.handled = none := I.ok.hd hc
    have p : s.heap.IsTuple b its.toArray := p
    have hi : i = min x.cps.size its.toArray.size := by simp; omega
    subst hi
    refine (GoesN.zip2 (elts := elts) (x1 := kk) (pos := tpos) S (Draws.text hh i1 x t) (Draws.tuple hh i2 b hb its.toArray)).stops s _ E ⟨hz, hTI, hTO, h1, h2, p⟩ fun h' tk hk _ => ?_
    exact I.turnedL (t' := tk) (ch := [z, TI, TO, i1, i2]) (fun b o hb q => hk b o (fun hm => hb (by
        have e' : b = z ∨ b = TO ∨ b = i1 ∨ b = i2 := by simpa using hm
        rcases e' with q | q | q | q <;> simp [q])) q) hf
  self := fun A i s Q E st h => wpAny_pyIter_zip st.1 h
def iZipS (K : PySem.W.Frag) (ta : TA) : TI := fun σ H R => ta σ H fun vs H1 => ∃ (x : Str) (b : Addr) (ys : List V), vs = [.str x, .ref b] ∧ SqT K H1 b ys ∧ R (ItzS K x b) H1
theorem pi_zipS {X : Cx} {K : PySem.W.Frag} {e e2 : Expr} {ta : TA} {p pos tpos : Pos} {elts : List Expr} {kk : Nat} (hg : Gl X "zip") (hm : X.mg "zip" = none) (ha : PA X [e, e2] ta) (hK : X.K = K := by rfl)
    (hs : starEach [e, e2] X.env = (false, eval e X.env) :: starEach [e2] X.env := by rfl) (hpl : (backTo pos (starEach [e2] X.env)).any (·.1) = false := by rfl) :
    PI X (.Tuple elts kk tpos) (.Call (.Name "zip" p) [e, e2] [] pos) (iZipS K ta) := by
  subst hK
  refine ⟨fun pins s σ H R I h => ?_⟩
  refine Call_ (ld_blt I hg hm PyProof.Rows.boot_zip (PyProof.Rows.callWith_type1 (thn (ha.run pos pins s σ H _ I h) fun us s1 ⟨vs, H1, I1, r1, q1⟩ => ?_) hs hpl))
  obtain ⟨x, b, ys, ex, hq, q⟩ := q1
  subst ex
  cases r1 with
  | cons r rr =>
    cases rr with
    | cons r' rr =>
      cases rr
      obtain ⟨t, rfl⟩ := r
      cases r'
      have fresh5 : ∀ c, c ∈ [s1.heap.objs.size + 4, s1.heap.objs.size + 2, s1.heap.objs.size + 3, s1.heap.objs.size, s1.heap.objs.size + 1] → FpOk X pins H1 c := fun c hcm => by
        have e' : c = s1.heap.objs.size + 4 ∨ c = s1.heap.objs.size + 2 ∨ c = s1.heap.objs.size + 3 ∨ c = s1.heap.objs.size ∨ c = s1.heap.objs.size + 1 := by simpa using hcm
        have hle : s1.heap.objs.size ≤ c := by
          rcases e' with z | z | z | z | z
          · rw [z]; exact Nat.le_add_right _ _
          · rw [z]; exact Nat.le_add_right _ _
          · rw [z]; exact Nat.le_add_right _ _
          · rw [z]; exact Nat.le_refl _
          · rw [z]; exact Nat.le_add_right _ _
        exact I1.fpOk hle (I1.hok.fresh hle)
      obtain ⟨its, rv, p1, _⟩ := I1.tuple hq
      have p1 : s1.heap.IsTuple b its.toArray := p1
      obtain ⟨o1, ho1, _⟩ := id p1
      have hlt : b < s1.heap.objs.size := Heap.lt_size ho1
      refine zip_begins2 (begins_text x t) (begins_tuple b its.toArray) trivial p1 fun h' hz hTI hTO g1 g2 hsz hk => wpAny_pyIter_zip hz ?_
      have I2 : Inv X pins σ H1 { s1 with heap := h' } := I1.kept (t' := s1.toks) hk
      exact ⟨s1.heap.objs.size + 4, [s1.heap.objs.size + 4, s1.heap.objs.size + 2, s1.heap.objs.size + 3, s1.heap.objs.size, s1.heap.objs.size + 1], _, _, H1, rfl, I2,
        turn_zipS (x := x) (t := t) (zip_sep2 (fp1 := []) (fp2 := [b]) (fun c hc => nomatch hc) (fun c hc => by rw [List.mem_singleton.mp hc]; exact hlt)) (Nat.ne_of_lt (Nat.lt_succ_of_lt hlt)), ⟨hz, hTI, ⟨_, _, hTO⟩, ⟨_, g1, rfl, rfl⟩, ⟨_, g2, rfl, rfl⟩⟩, fresh5, q⟩
theorem pairD_len' (xs ys : List Dt) : (pairD xs ys).length = min xs.length ys.length := pairD_len xs ys
theorem itd_zipS {K : PySem.W.Frag} {F : Hp} {x : Str} {b : Addr} {ws : List V} {ys : List Dt} (h' : SqT K F b ws) (r' : RpAll K F ws ys) : ItD K (ItzS K x b) F (pairD (signsD x) ys) where
  goes := fun i H hi s => by
    rw [pairD_len, signsD_len] at hi
    have l2 := r'.length
    exact ⟨ws, sqT_mono s h', by omega⟩
  stops := fun H s => by
    have l2 := r'.length
    exact ⟨ws, sqT_mono s h', by rw [pairD_len, signsD_len]; omega⟩
  yields := fun i H v H' hi s y => by
    obtain ⟨T, c, z, e1, e2, e3, e4, e5⟩ := y
    obtain ⟨d2, k3, k4⟩ := r'.getV (e5 ws (sqT_mono s h'))
    have k1 : (signsD x)[i]? = some (.str ⟨#[c]⟩) := by rw [signsD, List.getElem?_map, Array.getElem?_toList, e4]; rfl
    exact ⟨_, pairD_get k1 k3, .inr ⟨T, .str ⟨#[c]⟩, z, .str ⟨#[c]⟩, d2, e1, e2, e3, .str _, k4, rfl⟩⟩
theorem ei_zipS {B : Bs} {es : List Sl} {ta : TA} {P : List Dt → Prop} (h : EvA B ta es fun ds => ∃ (x : Str) (ys : List Dt), ds = [.str x, .tup ys] ∧ P (pairD (signsD x) ys)) : EvI B (iZipS B.K ta) es P := fun σ F H S R q => h σ F H S _ fun vs ds F1 H1 g1 r1 ⟨x, ys, e, p1⟩ => by
  subst e
  obtain ⟨v, w, rfl, r, r'⟩ := rp2 r1
  cases r
  cases r' with
  | tup h3 h4 => exact ⟨_, _, _, rfl, sqT_mono g1.s2 h3, q _ _ F1 H1 g1 (itd_zipS h3 h4) p1⟩
end Y
/-! Y11: filters, slices of tuples, tuple(list), find; the shapes of rows. -/
namespace Y
open PySem L2
section
variable {B : Bs} {es : List Sl}
/-- [f(x) for x in xs if t(x)] -/
theorem eo_fm {wi : TI} {g : TG} {tt : TT} {te : TE} {vs : List Nat} {P : List Dt → Prop} (t : Dt → Bool) (f : Dt → Dt) (h : EvI B wi es fun xs => xs.length < 100000 ∧
    (∀ x, x ∈ xs → TgC B g (wipeE es vs) vs x fun e2 => EvT B tt e2 fun b => b = t x ∧ (b = true → Ev B te e2 fun y => y = f x)) ∧ P ((xs.filter t).map f)) : EvO B (tLc wi g tt te vs) es P :=
  eo_lc fun σ F H S Q q => h σ F H S Q fun J xs F1 H1 g1 it ⟨hl, h1, h2⟩ => q J xs F1 H1 g1 it ⟨hl, fun i acc => acc = ((xs.take i).filter t).map f, rfl,
    fun i x acc hx ha σ F H v S r Q q => h1 x (List.mem_of_getElem? hx) σ F H v S r Q fun es' σ' S' hw p => q es' σ' S' hw (p.imp fun b ⟨hb, hy⟩ => by
      have ht : xs.take (i + 1) = xs.take i ++ [x] := by rw [List.take_add_one, hx]; rfl
      refine ⟨fun hbt => (hy hbt).imp fun y e => ?_, fun hbf => ?_⟩
      · show _ = _
        rw [ht, List.filter_append, List.map_append, ← ha, List.filter_cons, if_pos (by rw [← hb]; exact hbt), e]; rfl
      · show _ = _
        rw [ht, List.filter_append, List.map_append, ← ha, List.filter_cons, if_neg (by rw [← hb, hbf]; decide)]; simp), fun acc ha => by rw [ha, List.take_length]; exact h2⟩
theorem ev_slT {te : TE} {tl th : TO} {P : Dt → Prop} (h : Ev B te es fun d => ∃ xs, d = .tup xs ∧ EvP B tl es fun lo => EvP B th es fun hi => ¬ (HT.sIx xs.length 0 lo = 0 ∧ HT.sIx xs.length xs.length hi = xs.length) ∧ P (.tup (cutD xs lo hi))) : Ev B (tSl (rSlA B.K) te tl th) es P := fun σ F H S Q q => h σ F H S _ fun v d F1 H1 g1 r1 ⟨xs, e, p1⟩ => by
  subst e
  refine p1 σ F1 H1 (S.go g1) _ fun lo F2 H2 g2 p2 => p2 σ F2 H2 ((S.go g1).go g2) _ fun hi F3 H3 g3 ⟨hn, p3⟩ => ?_
  have g := (g1.trans g2).trans g3
  have S3 := S.go g
  cases r1 with
  | tup h1 h2 =>
    have r3 := (h2.mono (g2.s1.trans g3.s1)).cut lo hi
    refine .inr (.inl ⟨_, _, rfl, sqT_mono g3.s2 (sqT_mono (g2.s1.trans g3.s1) h1), by rw [h2.length]; exact hn, fun p hp => ?_⟩)
    have hF : F3 p = none := same_none S3.sub hp
    exact q (.ref p) (.tup (cutD xs lo hi)) (upd F3 p (.tup _)) _ (g.trans (S3.alloc hp)) (.tup (SqT.of upd_same) (r3.mono (same_upd hF))) p3
/-- t[1:] of a tuple that is not empty -/
theorem cut1 {α : Type} (x : α) (xs : List α) : cutD (x :: xs) (some 1) none = xs ∧ ¬ (HT.sIx (x :: xs).length 0 (some 1) = 0 ∧ HT.sIx (x :: xs).length (x :: xs).length none = (x :: xs).length) := by
  have e1 : HT.sIx (x :: xs).length 0 (some 1) = 1 := by
    show (if (1 : Int) < 0 then ((1 : Int) + ((x :: xs).length : Int)).toNat else min (1 : Int).toNat (x :: xs).length) = 1
    rw [if_neg (by decide)]
    show min 1 (xs.length + 1) = 1
    omega
  have e2 : HT.sIx (x :: xs).length (x :: xs).length none = (x :: xs).length := rfl
  refine ⟨?_, fun h => ?_⟩
  · unfold cutD
    rw [e1, e2]
    show (List.drop 0 xs).take (xs.length + 1 - 1) = xs
    simp
  · rw [e1] at h; exact absurd h.1 (by decide)
theorem ev_tail {te : TE} {P : Dt → Prop} (h : Ev B te es fun d => ∃ x xs, d = .tup (x :: xs) ∧ P (.tup xs)) : Ev B (tSl (rSlA B.K) te (tPart (tC (.int 1))) tNoPart) es P :=
  ev_slT (h.imp fun d ⟨x, xs, e, p⟩ => ⟨_, e, ep_some (ev_int ⟨1, rfl, ep_none ⟨(cut1 x xs).2, by rw [(cut1 x xs).1]; exact p⟩⟩)⟩)
theorem ev_tupleL {ta : TA} {P : Dt → Prop} (h : EvA B ta es fun ds => ∃ xs, ds = [.lst xs] ∧ P (.tup xs)) : Ev B (tCB (rTupleA B.K) ta) es P := fun σ F H S Q q => h σ F H S _ fun vs ds F1 H1 g1 r1 ⟨xs, e, p1⟩ => by
  subst e
  have S1 := S.go g1
  obtain ⟨v, rfl, r⟩ := rp1 r1
  cases r with
  | lst h1 h2 =>
    refine ⟨_, _, rfl, .inl ⟨SqL.of (g1.s2 _ _ h1), fun l hl => ?_⟩⟩
    have hF : F1 l = none := same_none S1.sub hl
    exact q (.ref l) (.tup xs) (upd F1 l (.tup _)) _ (g1.trans (S1.alloc hl)) (.tup (SqT.of upd_same) (h2.mono (same_upd hF))) p1
theorem ev_find {to te : TE} {P : Dt → Prop} (h : Ev B to es fun a => ∃ x : Str, a = .str x ∧ Ev B te es fun c => ∃ y : Str, c = .str y ∧ P (.int (Txt.find x y))) :
    Ev B (tM1 (fun x xs H Q => ∃ a b, x = .str a ∧ xs = [.str b] ∧ Q (.int (Txt.find a b)) H) to te) es P := fun σ F H S Q q => h σ F H S _ fun v a F1 H1 g1 r1 ⟨x, e, p1⟩ => by
  subst e
  cases r1
  refine ⟨⟨x, rfl⟩, p1 σ F1 H1 (S.go g1) _ fun w d F2 H2 g2 r2 ⟨y, e2, p2⟩ => ?_⟩
  subst e2
  cases r2
  exact ⟨x, y, rfl, rfl, q _ _ F2 H2 (g1.trans g2) (.int _) p2⟩
/-- a list of texts != [] -/
theorem o_neNil {ss : List Str} {P : Dt → Prop} (hl : ss.length < 50000) (h : ∀ s ∈ ss, PyData.strOk s = true) (hp : P (.bl (!ss.isEmpty))) : Op2 B (rNeA B.K) es (.lst (ss.map Dt.str)) (.lst []) P := by
  refine o_neAD (okD_strs hl h) okD_nil ?_
  have e : PyData.eqv (Dt.lst (ss.map Dt.str)).py (Dt.lst []).py = ss.isEmpty := by
    simp only [Dt.py, pyAll, pyAll_strs]
    rw [eqv_nil]
    cases ss <;> rfl
  rw [e]
  exact hp
end
/-! ### signs -/
theorem sign_eq {k c : Nat} {z : Str} (h : z = ⟨#[c]⟩) : decide ((⟨#[k]⟩ : Str) = z) = decide (k = c) := by
  subst h
  have : ((⟨#[k]⟩ : Str) = ⟨#[c]⟩) ↔ k = c := ⟨fun e => by injection e with e; simpa using e, fun e => by rw [e]⟩
  simp [this]
/-! ### lookups -/
theorem lookup_mem {α β : Type} [BEq α] [LawfulBEq α] : ∀ {l : List (α × β)} {a : α} {b : β}, l.lookup a = some b → (a, b) ∈ l
  | [], a, b, h => by cases h
  | (c, d) :: l, a, b, h => by
    rw [List.lookup_cons] at h
    split at h
    · rename_i e
      cases h
      rw [eq_of_beq e]; exact List.mem_cons_self ..
    · exact List.mem_cons_of_mem _ (lookup_mem h)
theorem lookup_strs : ∀ (l : List (Str × Str)) (z : Str), (l.map fun p => (p.1, V.str p.2)).lookup z = (l.lookup z).map V.str
  | [], z => rfl
  | (c, d) :: l, z => by
    rw [List.map_cons, List.lookup_cons, List.lookup_cons]
    show (match z == c with | true => some (V.str d) | false => List.lookup z (List.map (fun (p : Str × Str) => (p.1, V.str p.2)) l)) = _
    cases z == c with
    | true => rfl
    | false => exact lookup_strs l z
/-! ### forms and rows -/
theorem formB_len : ∀ {ks : List Nat} {xs : List Dt}, formB ks xs = true → ks.length = xs.length
  | [], [], _ => rfl
  | [], _ :: _, h => by cases h
  | _ :: _, [], h => by cases h
  | k :: ks, x :: xs, h => by
    have h : (fitsB k x && formB ks xs) = true := h
    rw [Bool.and_eq_true] at h
    rw [List.length_cons, List.length_cons, formB_len h.2]
def fit2 : Dt → Bool
  | .tup [.str z, x] => fitsB (z.cps.toList.headD 0) x
  | _ => false
theorem all_fit2 : ∀ (ks : List Nat) (xs : List Dt), ks.length = xs.length → (pairD (ks.map fun c => .str ⟨#[c]⟩) xs).all fit2 = formB ks xs
  | [], [], _ => rfl
  | [], _ :: _, h => by cases h
  | _ :: _, [], h => by cases h
  | k :: ks, x :: xs, h => by
    show (fit2 (.tup [.str ⟨#[k]⟩, x]) && (pairD (ks.map fun c => .str ⟨#[c]⟩) xs).all fit2) = (fitsB k x && formB ks xs)
    rw [all_fit2 ks xs (by simpa using h)]; rfl
theorem pairD_in : ∀ {xs ys : List Dt} {p : Dt}, p ∈ pairD xs ys → ∃ x y, p = .tup [x, y] ∧ x ∈ xs ∧ y ∈ ys
  | [], ys, p, h => by cases h
  | x :: xs, [], p, h => by cases h
  | x :: xs, y :: ys, p, h => by
    rcases List.mem_cons.mp (show p ∈ .tup [x, y] :: pairD xs ys from h) with rfl | h
    · exact ⟨x, y, rfl, List.mem_cons_self .., List.mem_cons_self ..⟩
    · obtain ⟨a, b, e, h1, h2⟩ := pairD_in h
      exact ⟨a, b, e, List.mem_cons_of_mem _ h1, List.mem_cons_of_mem _ h2⟩
theorem form0_inv {xs : List Dt} (h : formB [] xs = true) : xs = [] := by
  cases xs with
  | nil => rfl
  | cons _ _ => cases h
theorem formS_inv {k : Nat} {ks : List Nat} {xs : List Dt} (h : formB (k :: ks) xs = true) : ∃ x ys, xs = x :: ys ∧ fitsB k x = true ∧ formB ks ys = true := by
  cases xs with
  | nil => cases h
  | cons x ys =>
    have h : (fitsB k x && formB ks ys) = true := h
    rw [Bool.and_eq_true] at h
    exact ⟨x, ys, rfl, h.1, h.2⟩
theorem rowBy_at {fs : List (Str × Str)} {w : Str} {rest : List Dt} {ks : List Nat} (h : (fs.lookup w).map (fun f => f.cps.toList) = some ks) : rowBy fs (.tup (.str w :: rest)) = formB ks rest := by
  obtain ⟨f, h1, hk⟩ := Option.map_eq_some_iff.mp h
  show (match fs.lookup w with | some f => formB f.cps.toList rest | none => false) = _
  rw [h1]
  show formB f.cps.toList rest = _
  rw [hk]
theorem rowBy_none {fs : List (Str × Str)} {w : Str} {rest : List Dt} (h : fs.lookup w = none) : rowBy fs (.tup (.str w :: rest)) = false := by
  show (match fs.lookup w with | some f => formB f.cps.toList rest | none => false) = _
  rw [h]
/-- the rows as they are drawn -/
inductive RowS : Dt → Prop
  | put {r n : Dt} : isRegD r = true → isNum n 0 65535 = true → RowS (.tup [.str "put", r, n])
  | rn {w : Str} {r n : Dt} : w = "name" ∨ w = "ifzero" → isRegD r = true → isNameD n = true → RowS (.tup [.str w, r, n])
  | rr {w : Str} {r s : Dt} : w = "add" ∨ w = "take" → isRegD r = true → isRegD s = true → RowS (.tup [.str w, r, s])
  | rrd {w : Str} {r s d : Dt} : w = "load" ∨ w = "store" → isRegD r = true → isRegD s = true → isNum d 0 15 = true → RowS (.tup [.str w, r, s, d])
  | nm {w : Str} {n : Dt} : w = "jump" ∨ w = "call" ∨ w = "address" → isNameD n = true → RowS (.tup [.str w, n])
  | rg {w : Str} {r : Dt} : w = "callby" ∨ w = "out" → isRegD r = true → RowS (.tup [.str w, r])
  | none {w : Str} : w = "back" ∨ w = "halt" → RowS (.tup [.str w])
  | room {k : Dt} : isNum k 1 120 = true → RowS (.tup [.str "room", k])
  | word {n : Dt} : isNum n 0 65535 = true → RowS (.tup [.str "word", n])
theorem cps_k : ("" : Str).cps.toList = [] ∧ ("k" : Str).cps.toList = [107] ∧ ("r" : Str).cps.toList = [114] ∧ ("n" : Str).cps.toList = [110] ∧ ("w" : Str).cps.toList = [119] ∧ ("rw" : Str).cps.toList = [114, 119] ∧ ("rn" : Str).cps.toList = [114, 110] ∧ ("rr" : Str).cps.toList = [114, 114] ∧ ("rrd" : Str).cps.toList = [114, 114, 100] := by decide +kernel
theorem rowS_code {d : Dt} (h : codeRow d = true) : RowS d := by
  obtain ⟨w, f, rest, rfl, h1, h2⟩ := rowBy_inv h
  have hm := lookup_mem h1
  obtain ⟨c0, ck, cr, cn, cw, crw, crn, crr, crd⟩ := cps_k
  simp only [codeForms, List.mem_cons, List.not_mem_nil, or_false, Prod.mk.injEq] at hm
  rcases hm with ⟨rfl, rfl⟩ | ⟨rfl, rfl⟩ | ⟨rfl, rfl⟩ | ⟨rfl, rfl⟩ | ⟨rfl, rfl⟩ | ⟨rfl, rfl⟩ | ⟨rfl, rfl⟩ | ⟨rfl, rfl⟩ | ⟨rfl, rfl⟩ | ⟨rfl, rfl⟩ | ⟨rfl, rfl⟩ | ⟨rfl, rfl⟩ | ⟨rfl, rfl⟩ | ⟨rfl, rfl⟩
  · rw [crw] at h2; obtain ⟨a, y1, rfl, k1, h2⟩ := formS_inv h2; obtain ⟨b, y2, rfl, k2, h2⟩ := formS_inv h2; rw [form0_inv h2]; exact .put k1 k2
  · rw [crn] at h2; obtain ⟨a, y1, rfl, k1, h2⟩ := formS_inv h2; obtain ⟨b, y2, rfl, k2, h2⟩ := formS_inv h2; rw [form0_inv h2]; exact .rn (.inl rfl) k1 k2
  · rw [crr] at h2; obtain ⟨a, y1, rfl, k1, h2⟩ := formS_inv h2; obtain ⟨b, y2, rfl, k2, h2⟩ := formS_inv h2; rw [form0_inv h2]; exact .rr (.inl rfl) k1 k2
  · rw [crr] at h2; obtain ⟨a, y1, rfl, k1, h2⟩ := formS_inv h2; obtain ⟨b, y2, rfl, k2, h2⟩ := formS_inv h2; rw [form0_inv h2]; exact .rr (.inr rfl) k1 k2
  · rw [crd] at h2; obtain ⟨a, y1, rfl, k1, h2⟩ := formS_inv h2; obtain ⟨b, y2, rfl, k2, h2⟩ := formS_inv h2; obtain ⟨c, y3, rfl, k3, h2⟩ := formS_inv h2; rw [form0_inv h2]; exact .rrd (.inl rfl) k1 k2 k3
  · rw [crd] at h2; obtain ⟨a, y1, rfl, k1, h2⟩ := formS_inv h2; obtain ⟨b, y2, rfl, k2, h2⟩ := formS_inv h2; obtain ⟨c, y3, rfl, k3, h2⟩ := formS_inv h2; rw [form0_inv h2]; exact .rrd (.inr rfl) k1 k2 k3
  · rw [cn] at h2; obtain ⟨a, y1, rfl, k1, h2⟩ := formS_inv h2; rw [form0_inv h2]; exact .nm (.inl rfl) k1
  · rw [crn] at h2; obtain ⟨a, y1, rfl, k1, h2⟩ := formS_inv h2; obtain ⟨b, y2, rfl, k2, h2⟩ := formS_inv h2; rw [form0_inv h2]; exact .rn (.inr rfl) k1 k2
  · rw [cn] at h2; obtain ⟨a, y1, rfl, k1, h2⟩ := formS_inv h2; rw [form0_inv h2]; exact .nm (.inr (.inl rfl)) k1
  · rw [cr] at h2; obtain ⟨a, y1, rfl, k1, h2⟩ := formS_inv h2; rw [form0_inv h2]; exact .rg (.inl rfl) k1
  · rw [c0] at h2; rw [form0_inv h2]; exact .none (.inl rfl)
  · rw [cr] at h2; obtain ⟨a, y1, rfl, k1, h2⟩ := formS_inv h2; rw [form0_inv h2]; exact .rg (.inr rfl) k1
  · rw [c0] at h2; rw [form0_inv h2]; exact .none (.inr rfl)
  · rw [ck] at h2; obtain ⟨a, y1, rfl, k1, h2⟩ := formS_inv h2; rw [form0_inv h2]; exact .room k1
theorem rowS_data {d : Dt} (h : dataRow d = true) : RowS d := by
  obtain ⟨w, f, rest, rfl, h1, h2⟩ := rowBy_inv h
  have hm := lookup_mem h1
  obtain ⟨c0, ck, cr, cn, cw, crw, crn, crr, crd⟩ := cps_k
  simp only [dataForms, List.mem_cons, List.not_mem_nil, or_false, Prod.mk.injEq] at hm
  rcases hm with ⟨rfl, rfl⟩ | ⟨rfl, rfl⟩ | ⟨rfl, rfl⟩
  · rw [cw] at h2; obtain ⟨a, y1, rfl, k1, h2⟩ := formS_inv h2; rw [form0_inv h2]; exact .word k1
  · rw [cn] at h2; obtain ⟨a, y1, rfl, k1, h2⟩ := formS_inv h2; rw [form0_inv h2]; exact .nm (.inr (.inr rfl)) k1
  · rw [ck] at h2; obtain ⟨a, y1, rfl, k1, h2⟩ := formS_inv h2; rw [form0_inv h2]; exact .room k1
/-- rows whose items cannot be good: the first item is no register -/
theorem code_inv {w : Str} {rest : List Dt} (h : codeRow (.tup (.str w :: rest)) = true) : (w = "back" ∨ w = "halt" ∨ w = "room" ∨ w = "jump" ∨ w = "call") ∨ ((w = "callby" ∨ w = "out" ∨ w = "name" ∨ w = "ifzero" ∨ w = "put") ∧ ∃ x ys, rest = x :: ys ∧ isRegD x = true) ∨ ((w = "add" ∨ w = "take" ∨ w = "load" ∨ w = "store") ∧ ∃ x y ys, rest = x :: y :: ys ∧ isRegD x = true ∧ isRegD y = true) := by
  obtain ⟨w', f, rest', e, h1, h2⟩ := rowBy_inv h
  cases e
  have hm := lookup_mem h1
  obtain ⟨c0, ck, cr, cn, cw, crw, crn, crr, crd⟩ := cps_k
  simp only [codeForms, List.mem_cons, List.not_mem_nil, or_false, Prod.mk.injEq] at hm
  rcases hm with ⟨rfl, rfl⟩ | ⟨rfl, rfl⟩ | ⟨rfl, rfl⟩ | ⟨rfl, rfl⟩ | ⟨rfl, rfl⟩ | ⟨rfl, rfl⟩ | ⟨rfl, rfl⟩ | ⟨rfl, rfl⟩ | ⟨rfl, rfl⟩ | ⟨rfl, rfl⟩ | ⟨rfl, rfl⟩ | ⟨rfl, rfl⟩ | ⟨rfl, rfl⟩ | ⟨rfl, rfl⟩
  · rw [crw] at h2; obtain ⟨a, y1, rfl, k1, h2⟩ := formS_inv h2; exact .inr (.inl ⟨by simp, _, _, rfl, k1⟩)
  · rw [crn] at h2; obtain ⟨a, y1, rfl, k1, h2⟩ := formS_inv h2; exact .inr (.inl ⟨by simp, _, _, rfl, k1⟩)
  · rw [crr] at h2; obtain ⟨a, y1, rfl, k1, h2⟩ := formS_inv h2; obtain ⟨b, y2, rfl, k2, h2⟩ := formS_inv h2; exact .inr (.inr ⟨by simp, _, _, _, rfl, k1, k2⟩)
  · rw [crr] at h2; obtain ⟨a, y1, rfl, k1, h2⟩ := formS_inv h2; obtain ⟨b, y2, rfl, k2, h2⟩ := formS_inv h2; exact .inr (.inr ⟨by simp, _, _, _, rfl, k1, k2⟩)
  · rw [crd] at h2; obtain ⟨a, y1, rfl, k1, h2⟩ := formS_inv h2; obtain ⟨b, y2, rfl, k2, h2⟩ := formS_inv h2; exact .inr (.inr ⟨by simp, _, _, _, rfl, k1, k2⟩)
  · rw [crd] at h2; obtain ⟨a, y1, rfl, k1, h2⟩ := formS_inv h2; obtain ⟨b, y2, rfl, k2, h2⟩ := formS_inv h2; exact .inr (.inr ⟨by simp, _, _, _, rfl, k1, k2⟩)
  · exact .inl (by simp)
  · rw [crn] at h2; obtain ⟨a, y1, rfl, k1, h2⟩ := formS_inv h2; exact .inr (.inl ⟨by simp, _, _, rfl, k1⟩)
  · exact .inl (by simp)
  · rw [cr] at h2; obtain ⟨a, y1, rfl, k1, h2⟩ := formS_inv h2; exact .inr (.inl ⟨by simp, _, _, rfl, k1⟩)
  · exact .inl (by simp)
  · rw [cr] at h2; obtain ⟨a, y1, rfl, k1, h2⟩ := formS_inv h2; exact .inr (.inl ⟨by simp, _, _, rfl, k1⟩)
  · exact .inl (by simp)
  · exact .inl (by simp)
/-! ### registers and names -/
theorem reg_cases {x : Dt} (h : isRegD x = true) : x = .str "r0" ∨ x = .str "r1" ∨ x = .str "r2" := by
  cases x with
  | str z =>
    have h : inD (.str z) [.str "r0", .str "r1", .str "r2"] = true := h
    simp only [inD, List.any_cons, List.any_nil, eqD, Bool.or_false, Bool.or_eq_true] at h
    rcases h with h | h | h
    · exact .inl (by rw [show z = "r0" from (by simpa using h : _ = _) ▸ rfl])
    · exact .inr (.inl (by rw [show z = "r1" from (by simpa using h : _ = _) ▸ rfl]))
    · exact .inr (.inr (by rw [show z = "r2" from (by simpa using h : _ = _) ▸ rfl]))
  | _ => cases h
theorem reg_noname {x : Dt} (h : isRegD x = true) : isNameD x = false := by
  rcases reg_cases h with rfl | rfl | rfl <;> decide +kernel
theorem num_int {x : Dt} {l m : Int} (h : isNum x l m = true) : ∃ i, x = .int i ∧ l ≤ i ∧ i ≤ m := by
  cases x with
  | int i =>
    have h : (decide (l ≤ i) && decide (i ≤ m)) = true := h
    rw [Bool.and_eq_true] at h
    exact ⟨i, rfl, of_decide_eq_true h.1, of_decide_eq_true h.2⟩
  | _ => cases h
theorem name_str {x : Dt} (h : isNameD x = true) : ∃ z, x = .str z ∧ z.cps.size ≤ 6 ∧ PyData.strOk z = true := by
  cases x with
  | str z =>
    have h : (decide ((1 : Int) ≤ (z.cps.size : Int)) && (decide ((z.cps.size : Int) ≤ 6) && z.cps.toList.all fun c => decide (c ∈ letters))) = true := h
    rw [Bool.and_eq_true, Bool.and_eq_true, List.all_eq_true] at h
    have h6 := of_decide_eq_true h.2.1
    refine ⟨z, rfl, by omega, strOk_of (lit := "abcdefghijklmnopqrstuvwxyz") (fun c hc => of_decide_eq_true (h.2.2 c hc)) (by decide +kernel)⟩
  | _ => cases h
/-! ### rows whose names are of a list -/
def memT (x t : Dt) : Prop := ∃ ss, t = .lst ss ∧ x ∈ ss
def Nm (t x : Dt) : Prop := isNameD x = true → memT x t
def namesFrom (t d : Dt) : Prop := ∀ w rest, d = .tup (.str w :: rest) → ∀ x ∈ rest, Nm t x
theorem nm_r {t x : Dt} (h : isRegD x = true) : Nm t x := fun e => by rw [reg_noname h] at e; cases e
theorem nm_i {t x : Dt} {l m : Int} (h : isNum x l m = true) : Nm t x := fun e => by obtain ⟨i, rfl, _⟩ := num_int h; cases e
theorem nm_int {t : Dt} {i : Int} : Nm t (.int i) := fun e => by cases e
theorem nm_fit {t x : Dt} (h : fitsB 107 x = true) : Nm t x := nm_i (l := 1) (m := 120) h
theorem nm_fitd {t x : Dt} (h : fitsB 100 x = true) : Nm t x := nm_i (l := 0) (m := 15) h
theorem nf0 {t : Dt} {w : Str} : namesFrom t (.tup [.str w]) := fun w' rest e x hx => by cases e; cases hx
theorem nf1 {t : Dt} {w : Str} {a : Dt} (h : Nm t a) : namesFrom t (.tup [.str w, a]) := fun w' rest e x hx => by
  cases e
  rcases List.mem_cons.mp hx with rfl | hx
  · exact h
  · cases hx
theorem nf2 {t : Dt} {w : Str} {a b : Dt} (h : Nm t a) (h2 : Nm t b) : namesFrom t (.tup [.str w, a, b]) := fun w' rest e x hx => by
  cases e
  rcases List.mem_cons.mp hx with rfl | hx
  · exact h
  rcases List.mem_cons.mp hx with rfl | hx
  · exact h2
  · cases hx
theorem nf3 {t : Dt} {w : Str} {a b c : Dt} (h : Nm t a) (h2 : Nm t b) (h3 : Nm t c) : namesFrom t (.tup [.str w, a, b, c]) := fun w' rest e x hx => by
  cases e
  rcases List.mem_cons.mp hx with rfl | hx
  · exact h
  rcases List.mem_cons.mp hx with rfl | hx
  · exact h2
  rcases List.mem_cons.mp hx with rfl | hx
  · exact h3
  · cases hx
def codeRowPost2 (ds : List Dt) (d : Dt) : Prop := codeRow d = true ∧ ∀ t, ds = [t] → namesFrom t d
def dataRowPost2 (ds : List Dt) (d : Dt) : Prop := dataRow d = true ∧ ∀ t, ds = [t] → namesFrom t d
theorem code_k2 {t : Dt} {R : Dt → Prop} (ht : NamesD t) (h : ∀ d, codeRow d = true → namesFrom t d → R d) : namesPre [t] ∧ ∀ d, codeRowPost2 [t] d → R d := ⟨⟨t, rfl, ht⟩, fun d e => h d e.1 (e.2 t rfl)⟩
theorem data_k2 {t : Dt} {R : Dt → Prop} (ht : NamesD t) (h : ∀ d, dataRow d = true → namesFrom t d → R d) : namesPre [t] ∧ ∀ d, dataRowPost2 [t] d → R d := ⟨⟨t, rfl, ht⟩, fun d e => h d e.1 (e.2 t rfl)⟩
theorem of_namesM {t : Dt} {R : Dt → Prop} (ht : NamesD t) (h : ∀ d, isNameD d = true → Nm t d → R d) : ofPre [t] ∧ ∀ d, ofPost [t] d → R d := by
  obtain ⟨ss, rfl, h0, h1, h2⟩ := ht
  refine of_k ⟨by simpa using h0, by simp; omega⟩ fun d hd => ?_
  obtain ⟨s, hs, rfl⟩ := List.mem_map.mp hd
  exact h _ (h2 s hs) fun _ => ⟨_, rfl, hd⟩
/-! ### things that may be rows -/
def thingB (x : Dt) : Bool := plainD x && (match x with | .tup ys => decide (ys.length ≤ 100) && ys.all goodV | _ => true)
theorem thing_plain {x : Dt} (h : thingB x = true) : plainD x = true := by
  unfold thingB at h; rw [Bool.and_eq_true] at h; exact h.1
theorem thing_tup {ys : List Dt} (h : thingB (.tup ys) = true) : ys.length ≤ 100 ∧ ∀ y ∈ ys, goodV y = true := by
  unfold thingB at h; rw [Bool.and_eq_true] at h
  have h := h.2
  rw [Bool.and_eq_true] at h
  exact ⟨of_decide_eq_true h.1, fun y hy => all_mem h.2 hy⟩
theorem thing_mk {ys : List Dt} (h1 : ys.length ≤ 100) (h2 : ∀ y ∈ ys, goodV y = true) : thingB (.tup ys) = true := by
  show (true && (decide (ys.length ≤ 100) && ys.all goodV)) = true
  rw [decide_eq_true h1, List.all_eq_true.mpr h2]; rfl
theorem good_name {x : Dt} (h : isNameD x = true) : goodV x = true := by
  obtain ⟨z, rfl, h1, h2⟩ := name_str h
  show (true && (decide (z.cps.size < 1000) && PyData.strOk z)) = true
  rw [decide_eq_true (by omega), h2]; rfl
theorem good_reg {x : Dt} (h : isRegD x = true) : goodV x = true := by
  rcases reg_cases h with rfl | rfl | rfl <;> decide +kernel
theorem good_num {x : Dt} {l m : Int} (h : isNum x l m = true) : goodV x = true := by
  obtain ⟨i, rfl, _⟩ := num_int h; rfl
theorem rowS_good {d : Dt} (h : RowS d) : ∃ w rest, d = .tup (.str w :: rest) ∧ rest.length ≤ 3 ∧ goodV (.str w) = true ∧ ∀ y ∈ rest, goodV y = true := by
  cases h with
  | put h1 h2 => exact ⟨_, _, rfl, by simp, by decide +kernel, by simp [good_reg h1, good_num h2]⟩
  | rn hw h1 h2 => exact ⟨_, _, rfl, by simp, by rcases hw with rfl | rfl <;> decide +kernel, by simp [good_reg h1, good_name h2]⟩
  | rr hw h1 h2 => exact ⟨_, _, rfl, by simp, by rcases hw with rfl | rfl <;> decide +kernel, by simp [good_reg h1, good_reg h2]⟩
  | rrd hw h1 h2 h3 => exact ⟨_, _, rfl, by simp, by rcases hw with rfl | rfl <;> decide +kernel, by simp [good_reg h1, good_reg h2, good_num h3]⟩
  | nm hw h1 => exact ⟨_, _, rfl, by simp, by rcases hw with rfl | rfl | rfl <;> decide +kernel, by simp [good_name h1]⟩
  | rg hw h1 => exact ⟨_, _, rfl, by simp, by rcases hw with rfl | rfl <;> decide +kernel, by simp [good_reg h1]⟩
  | none hw => exact ⟨_, _, rfl, by simp, by rcases hw with rfl | rfl <;> decide +kernel, by simp⟩
  | room h1 => exact ⟨_, _, rfl, by simp, by decide +kernel, by simp [good_num h1]⟩
  | word h1 => exact ⟨_, _, rfl, by simp, by decide +kernel, by simp [good_num h1]⟩
theorem rowS_thing {d : Dt} (h : RowS d) : thingB d = true := by
  obtain ⟨w, rest, rfl, h1, h2, h3⟩ := rowS_good h
  refine thing_mk (by simp; omega) fun y hy => ?_
  rcases List.mem_cons.mp hy with rfl | hy
  · exact h2
  · exact h3 y hy
end Y
/-! Y12: statements that are never reached; int(text); tuple.index; list * n. -/
namespace Y
open PySem L2
/-- a statement that is not reached: nothing is asked, nothing can be told -/
def tDead : TS := fun _ _ _ => False
theorem ps_dead {X : Cx} {st : Stmt} : PS X st tDead := ⟨fun pins s σ H D I h => h.elim⟩
def rTupIndex (K : PySem.W.Frag) : V → List V → Hp → VK → Prop := fun x xs H Q => ∃ p, ∃ ys : List Str, ∃ z j, x = .ref p ∧ xs = [.str z] ∧ SqT K H p (ys.map V.str) ∧ ys[j]? = some z ∧ (∀ m, m < j → ys[m]? ≠ some z) ∧ Q (.int (j : Nat)) H
theorem mt_tupIndexA {X : Cx} {K : PySem.W.Frag} (hK : X.K = K := by rfl) : MtR X "tuple.index" (rTupIndex K) := hK ▸ mt_tup_index
/-- a tuple of the top, with no dict of its own -/
def KTup (K : PySem.W.Frag) (a : Addr) : Prop := ∃ o, K.lookup a = some o ∧ o.cls = .type "tuple" ∧ o.dict = none
section
variable {B : Bs} {es : List Sl}
theorem c_intS {z : Str} {n : Int} {P : Dt → Prop} (h : PySem.intText? z = some n) (hl : z.length ≤ 640) (hp : P (.int n)) : Cal B (fun xs H Q => ∃ a n, xs = [.str a] ∧ PySem.intText? a = some n ∧ a.length ≤ 640 ∧ Q (.int n) H) es [.str z] P := fun σ F H vs S a Q k => by
  obtain ⟨v, rfl, r⟩ := rp1 a
  cases r
  exact ⟨z, n, rfl, h, hl, k _ _ F H S.refl (.int _) hp⟩
theorem ev_tupIndex {a : Addr} {ys : List Str} {te : TE} {P : Dt → Prop} (kt : KTup B.K a) (kd : KD B.K (.ref a) (.tup (ys.map Dt.str))) (h : Ev B te es fun d => ∃ (z : Str) (j : Nat), d = .str z ∧ ys[j]? = some z ∧ (∀ m, m < j → ys[m]? ≠ some z) ∧ P (.int (j : Int))) : Ev B (tBM B.K "tuple" (rTupIndex B.K) (tC (.ref a)) (tCons te tNil)) es P := fun σ F H S Q q => by
  refine ⟨.inr (.inl ⟨rfl, kt⟩), h σ F H S _ fun v d F1 H1 g1 r1 ⟨z, j, e, h1, h2, p⟩ => ?_⟩
  subst e
  cases r1
  have r := kd H1
  cases r with
  | tup k1 k2 =>
    have e := k2.texts
    subst e
    exact ⟨a, ys, z, j, rfl, rfl, k1, h1, h2, q _ _ F1 H1 g1 (.int _) p⟩
theorem sm_retOwn {p : Po} {i : Nat} {a : Addr} {xs : List Dt} (hi : es[i]? = some (.own a xs)) (h : p.ro xs) : Sm B (tRet (tVar i)) es p := fun σ F H D S _ _ _ _ ro => by
  obtain ⟨vs, h1, h2, h3, h4⟩ := S.own hi
  exact ⟨_, h1, ro a vs xs es σ F H S (Same.refl F) h2 h3 h4 (S.ow i a xs hi).1 (S.ow i a xs hi).2 h⟩
/-- xs + ys as a new list -/
theorem eo_cat {ta tb : TE} {P : List Dt → Prop} (h : Ev B ta es fun x => ∃ xs, x = .lst xs ∧ Ev B tb es fun y => ∃ ys, y = .lst ys ∧ xs.length + ys.length ≤ 100000 ∧ P (xs ++ ys)) : EvO B (tOp (rPlus B.K) ta tb) es P := fun σ F H S Q q =>
  h σ F H S _ fun v d F1 H1 g1 r1 ⟨xs, e, p1⟩ => p1 σ F1 H1 (S.go g1) _ fun w y F2 H2 g2 r2 ⟨ys, e2, hl, p2⟩ => by
    subst e e2
    have g := g1.trans g2
    have S2 := S.go g
    cases r1 with
    | lst h1 h2 =>
      cases r2 with
      | lst h3 h4 =>
        refine .inr (.inr (.inl ⟨_, _, _, _, rfl, rfl, g2.s2 _ _ (g2.s1 _ _ h1), g2.s2 _ _ h3, size_of (by rw [h2.length, h4.length]; exact hl), fun p hp => ?_⟩))
        exact q p _ _ F2 _ (g.trans (S2.allocO hp)) (g.new (S2.newB hp) hp) (same_none S2.sub hp) upd_same ((h2.mono g2.s1).app h4) p2
theorem eo_rep {ta tb : TE} {P : List Dt → Prop} (h : Ev B ta es fun d => ∃ xs, d = .lst xs ∧ Ev B tb es fun y => ∃ k : Int, y = .int k ∧ (0 ≤ k ∧ k ≤ 1000 ∧ xs.length ≤ 10) ∧ P (List.replicate k.toNat xs).flatten) : EvO B (tOp rRep ta tb) es P := fun σ F H S Q q =>
  h σ F H S _ fun v d F1 H1 g1 r1 ⟨xs, e, p1⟩ => p1 σ F1 H1 (S.go g1) _ fun w y F2 H2 g2 r2 ⟨k, e2, ⟨k0, k1, k2⟩, p2⟩ => by
    subst e e2
    cases r2
    have g := g1.trans g2
    have S2 := S.go g
    cases r1 with
    | @lst a vs _ h1 h2 =>
      have hl := h2.length
      have rr : ∀ n : Nat, RpAll B.K F2 (List.replicate n vs).flatten (List.replicate n xs).flatten := by
        intro n
        induction n with
        | zero => exact .nil
        | succ n ih => rw [List.replicate_succ, List.replicate_succ, List.flatten_cons, List.flatten_cons]; exact (h2.mono g2.s1).app ih
      refine ⟨_, k, vs, rfl, rfl, g2.s2 _ _ (g2.s1 _ _ h1), by omega, by omega, size_of ?_, fun p hp => ?_⟩
      · have : vs.length * k.toNat ≤ 10 * 1000 := Nat.mul_le_mul (by omega) (by omega)
        omega
      · exact q p _ _ F2 _ (g.trans (S2.allocO hp)) (g.new (S2.newB hp) hp) (same_none S2.sub hp) upd_same (rr _) p2
end
end Y
/-! Y13: d[k] of a displayed dict; own lists cleared; cells of rows. -/
namespace Y
open PySem L2
section
variable {B : Bs} {es : List Sl}
theorem ev_dget {td ty : TE} {P : Dt → Prop} (h : Ev B td es fun x => ∃ ks xs, x = .dct ks xs ∧ Ev B ty es fun y => ∃ k, y = kD k ∧ ∃ d, getK ks xs k = some d ∧ P d) : Ev B (tDGet td ty) es P := fun σ F H S Q q =>
  h σ F H S _ fun v x F1 H1 g1 r1 ⟨ks, xs, e, p1⟩ => by
    subst e
    refine p1 σ F1 H1 (S.go g1) _ fun u y F2 H2 g2 r2 ⟨k, e2, d, hd, p2⟩ => ?_
    subst e2
    have ek := rp_kD r2
    subst ek
    cases r1 with
    | dct h1 h2 h3 h4 =>
      subst h2 h3
      obtain ⟨v', k1, k2⟩ := (getK_of k (h4.mono g2.s1)).1 d hd
      exact ⟨_, v', rfl, by rw [← k1]; exact DGet.k (k := k) (g2.s2 _ _ (g2.s1 _ _ h1)), q _ _ F2 H2 (g1.trans g2) k2 p2⟩
theorem sm_clear {p : Po} {i : Nat} {a : Addr} {xs : List Dt} (hi : es[i]? = some (.own a xs)) (h : p.nx (es.set i (.own a []))) : Sm B (tDrop (tBM0 B.K "list" rClear (tVar i))) es p := fun σ F H D S n _ _ _ _ => by
  obtain ⟨vs, h1, h2, h3, h4⟩ := S.own hi
  exact ⟨_, h1, .inl ⟨rfl, _, SqL.of h3⟩, a, vs, rfl, rfl, h3, n _ _ F _ (S.change hi h1 h2 .nil) (Same.refl F) h⟩
end
end Y
/-! Y14: loops unrolled; lists of ints. -/
namespace Y
open PySem L2
section
variable {B : Bs} {es : List Sl}
/-- a loop over a list that is known: turn by turn -/
def unD (B : Bs) (g : TG) (tb : TS) (p : Po) : List Dt → List Sl → Prop
  | [], es => p.nx es
  | x :: xs, es => Tg B g es x fun e2 => Sm B tb e2 { p with nx := unD B g tb p xs, bk := p.nx, ct := unD B g tb p xs }
theorem sm_forU {p : Po} {wi : TI} {g : TG} {tb : TS} (h : EvI B wi es fun xs => unD B g tb p xs es) : Sm B (tFor wi g tb) es p :=
  sm_for fun σ F H S R q => h σ F H S R fun J xs F1 H1 g1 it hu => q J xs F1 H1 g1 it ⟨fun i e => unD B g tb p (xs.drop i) e, hu, fun i x es' hx hI => by
    have e1 : xs.drop i = x :: xs.drop (i + 1) := by
      obtain ⟨hl, rfl⟩ := List.getElem?_eq_some_iff.mp hx
      exact List.drop_eq_getElem_cons hl
    have hI : unD B g tb p (xs.drop i) es' := hI
    rw [e1] at hI
    exact hI, fun es' hI => by
      have hI : unD B g tb p (xs.drop xs.length) es' := hI
      rw [List.drop_length] at hI; exact hI⟩
end
theorem see_ints (a : Addr) (xs : List Dt) : ∀ ns : List Int, seeAll a xs (ns.map Dt.int) = ns.map Dt.int
  | [] => by simp [seeAll]
  | n :: ns => by simp [seeAll, Dt.see, see_ints a xs ns]
theorem pure_ints : ∀ ns : List Int, pureAll (ns.map Dt.int) = true
  | [] => by simp [pureAll]
  | n :: ns => by simp [pureAll, Dt.pureD, pure_ints ns]
theorem depth_ints : ∀ ns : List Int, depthAll (ns.map Dt.int) = 0
  | [] => by simp [depthAll]
  | n :: ns => by simp [depthAll, Dt.depth, depth_ints ns]
/-- a list of ints -/
def IntsD (xs : List Dt) : Prop := ∃ ns : List Int, xs = ns.map Dt.int
theorem IntsD.see {xs ys : List Dt} {a : Addr} (h : IntsD ys) : seeAll a xs ys = ys := by obtain ⟨ns, rfl⟩ := h; exact see_ints a xs ns
theorem IntsD.pure {ys : List Dt} (h : IntsD ys) (hl : ys.length < 50000) : (Dt.lst ys).pureD = true := by
  obtain ⟨ns, rfl⟩ := h
  unfold Dt.pureD
  rw [decide_eq_true hl, pure_ints]; rfl
theorem IntsD.depth {ys : List Dt} (h : IntsD ys) : (Dt.lst ys).depth = 1 := by
  obtain ⟨ns, rfl⟩ := h
  unfold Dt.depth
  rw [depth_ints]
/-- two equal lists of ints beside one another -/
theorem IntsD.pure2 {ys : List Dt} (h : IntsD ys) (hl : ys.length < 50000) : (Dt.lst [.lst ys, .lst ys]).pureD = true ∧ (Dt.lst [.lst ys, .lst ys]).depth = 2 := by
  have h1 := h.pure hl
  have h2 := h.depth
  constructor
  · unfold Dt.pureD
    simp [pureAll, h1]
  · unfold Dt.depth
    simp [depthAll, h2]
theorem IntsD.nil : IntsD [] := ⟨[], rfl⟩
theorem IntsD.cons {i : Int} {xs : List Dt} (h : IntsD xs) : IntsD (.int i :: xs) := by obtain ⟨ns, rfl⟩ := h; exact ⟨i :: ns, rfl⟩
theorem IntsD.app {xs ys : List Dt} (h : IntsD xs) (h2 : IntsD ys) : IntsD (xs ++ ys) := by obtain ⟨ns, rfl⟩ := h; obtain ⟨ms, rfl⟩ := h2; exact ⟨ns ++ ms, by rw [List.map_append]⟩
theorem IntsD.rep (n : Nat) (i : Int) : IntsD (List.replicate n (.int i)) := ⟨List.replicate n i, by rw [List.map_replicate]⟩
end Y
/-! Y15: isinstance(x, dict); shaped data of other kinds. -/
namespace Y
open PySem L2
section
variable {B : Bs} {es : List Sl}
def isDctD : Dt → Bool
  | .dct _ _ => true
  | _ => false
theorem isi_dict {x : Dt} (h : plainD x = true) : isiD "dict" x = some (isDctD x) := by
  cases x with
  | non => show kitB "NoneType" "dict" = some false; decide +kernel
  | bl _ => show kitB "bool" "dict" = some false; decide +kernel
  | int _ => show kitB "int" "dict" = some false; decide +kernel
  | str _ => show kitB "str" "dict" = some false; decide +kernel
  | lst _ => show kitB "list" "dict" = some false; decide +kernel
  | tup _ => show kitB "tuple" "dict" = some false; decide +kernel
  | dct _ _ => show kitB "dict" "dict" = some true; decide +kernel
  | obj _ _ _ => cases h
  | ali _ => cases h
theorem ev_isDict {te : TE} {P : Dt → Prop} (h : Ev B te es fun d => plainD d = true ∧ P (.bl (isDctD d))) : Ev B (tCB (rIsi B.K) (tCons te (tCons (tC (.ty "dict")) tNil))) es P := ev_isi (h.imp fun d q => ⟨_, isi_dict q.1, q.2⟩)
end
end Y
/-! Y16: list(..) as a datum. -/
namespace Y
open PySem L2
section
variable {B : Bs} {es : List Sl}
theorem c_listT {xs : List Dt} {P : Dt → Prop} (hp : P (.lst xs)) : Cal B (rListB B.K) es [.tup xs] P := fun σ F H vs S a Q k => by
  obtain ⟨v, rfl, r⟩ := rp1 a
  cases r with
  | tup h1 h2 => exact .inl ⟨_, _, rfl, .inr (sqT_mono S.sub h1), fun p hp' => k _ (.lst xs) (upd F p (.lst _)) _ (S.alloc hp') (.lst upd_same (h2.mono (same_upd (same_none S.sub hp')))) hp⟩
theorem c_listL {xs : List Dt} {P : Dt → Prop} (hp : P (.lst xs)) : Cal B (rListB B.K) es [.lst xs] P := fun σ F H vs S a Q k => by
  obtain ⟨v, rfl, r⟩ := rp1 a
  cases r with
  | lst h1 h2 => exact .inl ⟨_, _, rfl, .inl (SqL.of (S.sub _ _ h1)), fun p hp' => k _ (.lst xs) (upd F p (.lst _)) _ (S.alloc hp') (.lst upd_same (h2.mono (same_upd (same_none S.sub hp')))) hp⟩
end
end Y
namespace Law
open PySem L2 Y
def top (i : Nat) : Stmt := PySem.Challenge.pw_leastimage_k52_values_added_and_taken.main.body.getD i (.Pass ⟨0, 0, 0, 0⟩)
abbrev s_is_number : Stmt := top 2
theorem sc_is_number : FnScope ["value", "least", "most"] ["value", "least", "most"] (defScope s_is_number) := ⟨rfl, rfl, rfl, by decide +kernel, rfl, by decide +kernel, by decide +kernel⟩
abbrev s_is_word : Stmt := top 3
theorem sc_is_word : FnScope ["value"] ["value"] (defScope s_is_word) := ⟨rfl, rfl, rfl, by decide +kernel, rfl, by decide +kernel, by decide +kernel⟩
abbrev s_is_owner : Stmt := top 8
theorem sc_is_owner : FnScope ["value", "one"] ["value"] (defScope s_is_owner) := ⟨rfl, rfl, rfl, by decide +kernel, rfl, by decide +kernel, by decide +kernel⟩
abbrev s_is_address : Stmt := top 9
theorem sc_is_address : FnScope ["value", "image", "owner", "distance"] ["value"] (defScope s_is_address) := ⟨rfl, rfl, rfl, by decide +kernel, rfl, by decide +kernel, by decide +kernel⟩
abbrev s_wrapped : Stmt := top 6
theorem sc_wrapped : FnScope ["value"] ["value"] (defScope s_wrapped) := ⟨rfl, rfl, rfl, by decide +kernel, rfl, by decide +kernel, by decide +kernel⟩
abbrev s_moved : Stmt := top 10
theorem sc_moved : FnScope ["address", "by"] ["address", "by"] (defScope s_moved) := ⟨rfl, rfl, rfl, by decide +kernel, rfl, by decide +kernel, by decide +kernel⟩
abbrev s_sum_of : Stmt := top 11
theorem sc_sum_of : FnScope ["one", "other"] ["one", "other"] (defScope s_sum_of) := ⟨rfl, rfl, rfl, by decide +kernel, rfl, by decide +kernel, by decide +kernel⟩
abbrev s_difference : Stmt := top 12
theorem sc_difference : FnScope ["one", "other"] ["one", "other"] (defScope s_difference) := ⟨rfl, rfl, rfl, by decide +kernel, rfl, by decide +kernel, by decide +kernel⟩
abbrev s_in_place : Stmt := top 13
theorem sc_in_place : FnScope ["value", "cells"] ["value", "cells"] (defScope s_in_place) := ⟨rfl, rfl, rfl, by decide +kernel, rfl, by decide +kernel, by decide +kernel⟩
abbrev s__law_draw : Stmt := top 15
theorem sc__law_draw : FnScope ["_law_bag_here", "_law_many", "_law_cell", "_law_digit", "_law_seed"] ["_law_bag_here", "_law_many"] (defScope s__law_draw) := ⟨rfl, rfl, rfl, by decide +kernel, rfl, by decide +kernel, by decide +kernel⟩
abbrev s__law_bag : Stmt := top 18
theorem sc__law_bag : FnScope ["_law_script", "_law_mixed", "_law_cell"] ["_law_script"] (defScope s__law_bag) := ⟨rfl, rfl, rfl, by decide +kernel, rfl, by decide +kernel, by decide +kernel⟩
abbrev s__law_of : Stmt := top 16
theorem sc__law_of : FnScope ["_law_bag_here", "_law_some"] ["_law_bag_here", "_law_some"] (defScope s__law_of) := ⟨rfl, rfl, rfl, by decide +kernel, rfl, by decide +kernel, by decide +kernel⟩
abbrev s__law_words : Stmt := top 19
theorem sc__law_words : FnScope ["_law_bag_here", "_law_many", "_law_tail", "_law_at", "_law_first", "_law_letters", "_law_k"] ["_law_bag_here", "_law_many"] (defScope s__law_words) := ⟨rfl, rfl, rfl, by decide +kernel, rfl, by decide +kernel, by decide +kernel⟩
abbrev s__law_is_value : Stmt := top 20
theorem sc__law_is_value : FnScope ["_law_value"] ["_law_value"] (defScope s__law_is_value) := ⟨rfl, rfl, rfl, by decide +kernel, rfl, by decide +kernel, by decide +kernel⟩
abbrev s__law_same : Stmt := top 21
theorem sc__law_same : FnScope ["_law_found", "_law_due", "_law_key", "_law_one", "_law_two"] ["_law_found", "_law_due"] (defScope s__law_same) := ⟨rfl, rfl, rfl, by decide +kernel, rfl, by decide +kernel, by decide +kernel⟩
abbrev s__law_sum : Stmt := top 22
theorem sc__law_sum : FnScope ["_law_one", "_law_other"] ["_law_one", "_law_other"] (defScope s__law_sum) := ⟨rfl, rfl, rfl, by decide +kernel, rfl, by decide +kernel, by decide +kernel⟩
abbrev s__law_less : Stmt := top 23
theorem sc__law_less : FnScope ["_law_one", "_law_other"] ["_law_one", "_law_other"] (defScope s__law_less) := ⟨rfl, rfl, rfl, by decide +kernel, rfl, by decide +kernel, by decide +kernel⟩
abbrev s__law_nest : Stmt := top 24
theorem sc__law_nest : FnScope [] [] (defScope s__law_nest) := ⟨rfl, rfl, rfl, by decide +kernel, rfl, by decide +kernel, by decide +kernel⟩
abbrev s__law_odd : Stmt := top 25
theorem sc__law_odd : FnScope ["_law_bag_here"] ["_law_bag_here"] (defScope s__law_odd) := ⟨rfl, rfl, rfl, by decide +kernel, rfl, by decide +kernel, by decide +kernel⟩
abbrev s__law_number : Stmt := top 17
theorem sc__law_number : FnScope ["_law_bag_here"] ["_law_bag_here"] (defScope s__law_number) := ⟨rfl, rfl, rfl, by decide +kernel, rfl, by decide +kernel, by decide +kernel⟩
abbrev s__law_any_value : Stmt := top 26
theorem sc__law_any_value : FnScope ["_law_bag_here", "_law_words_here", "_law_owner"] ["_law_bag_here", "_law_words_here"] (defScope s__law_any_value) := ⟨rfl, rfl, rfl, by decide +kernel, rfl, by decide +kernel, by decide +kernel⟩
abbrev s_law : Stmt := top 27
theorem sc_law : FnScope ["_law_script", "_law_bag_here", "_law_words_here", "_law_owner", "_law_turn", "_law_one", "_law_other", "_law_found", "_law_few", "_law_odd_here", "_law_value"] ["_law_script"] (defScope s_law) := ⟨rfl, rfl, rfl, by decide +kernel, rfl, by decide +kernel, by decide +kernel⟩
local macro_rules | `(tactic| walk_at "yv") => `(tactic| ((with_reducible show Ev _ (tVar _) _ _); refine ev_var rfl ?_))
local macro_rules | `(tactic| walk_at "ys") => `(tactic| with_reducible first
  | refine sm_seq ?_ | refine sm_ret ?_ | refine sm_if ?_ | refine sm_set ?_ | refine sm_next ?_ | refine sm_par ?_ | refine sm_drop ?_ | refine sm_brk ?_ | refine sm_cont ?_)
local macro_rules | `(tactic| walk_at "ye") => `(tactic| with_reducible first
  | refine ev_op ?_ | refine ev_and ?_ | refine ev_or ?_ | refine ev_not ?_ | refine ev_if ?_ | refine ev_chain ?_ | refine ev_neg ?_ | refine ev_isInt ?_ | refine ev_isBool ?_ | refine ev_isStr ?_ | refine ev_isList ?_ | refine ev_isTuple ?_ | refine ev_isLT ?_ | refine ev_isDict ?_
  | refine ev_int ?_ | refine ev_str ?_ | refine ev_bl ?_ | refine ev_non ?_ | refine ev_call ?_ | refine ev_cb ?_ | refine ev_lst ?_ | refine ev_tup ?_ | refine ev_join ?_
  | refine ea_nil ?_ | refine ea_cons ?_
  | refine et_B ?_ | refine et_test ?_ | refine et_not ?_ | refine et_and ?_ | refine et_or ?_ | refine et_yes ?_
  | refine o_plusI ?_ | refine o_i0 ?_ | refine o_b0 ?_ | refine o_isN ?_ | refine o_notN ?_
  | refine bl_ex ?_ | refine int_ex ?_ | refine str_ex ?_ | refine lst_ex ?_ | refine tup_ex ?_)
local macro_rules | `(tactic| walk_at "yo") => `(tactic| first
  | ((with_reducible show Ev _ (tOp (rIx _) (tVar _) _) _ _); refine ev_ixOwn rfl ?_)
  | ((with_reducible show Ev _ (tCB _ (tCons (tVar _) tNil)) _ _); refine ev_lenOwn rfl ?_)
  | ((with_reducible show Sm _ (tAsg _ (gSub (tVar _) _ _)) _ _); refine sm_setItem rfl ?_)
  | ((with_reducible show Ev _ (tCall (spB _ _ _) _ _ _) _ _); refine ev_callB rfl rfl ?_))
local macro_rules | `(tactic| walk_at "yc") => `(tactic| first
  | ((with_reducible show CMul _ _); first | exact Or.inr ⟨by decide, by decide⟩ | exact Or.inl ⟨by decide, by decide⟩ | exact Or.inr ⟨by omega, by omega⟩ | exact Or.inl ⟨by omega, by omega⟩)
  | ((with_reducible show CDiv _ _); exact ⟨by first | decide | omega, by first | decide | omega⟩)
  | ((with_reducible show CPow _ _); exact ⟨by decide, by decide, by first | decide | omega⟩)
  | ((show (0 : Int) < _); first | decide | omega))
local macro_rules | `(tactic| walk_at "yd") => `(tactic| first
  | ((with_reducible show plainD _ = true ∧ _); refine ⟨by first | rfl | assumption, ?_⟩)
  | ((with_reducible show (_ = true → _) ∧ (_ = false → _)); first | refine way_t rfl ?_ | refine way_f rfl ?_ | refine way_t (by decide +kernel) ?_ | refine way_f (by decide +kernel) ?_)
  | ((with_reducible show Cal _ _ _ _ _); first | (with_reducible refine c_int ?_) | (with_reducible refine c_abs ?_) | (refine c_len rfl ?_) | (refine c_len (if_pos (by assumption)) ?_))
  | ((with_reducible show Op2 _ (rEqA _) _ _ _ _); refine o_eqA rfl ?_)
  | ((with_reducible show Op2 _ (rNeA _) _ _ _ _); refine o_neA rfl ?_)
  | ((with_reducible show Op2 _ (rInA _) _ (Dt.str _) (Dt.lst _) _); refine o_inAL rfl rfl ?_)
  | ((with_reducible show Op2 _ (rInA _) _ (Dt.str _) (Dt.tup _) _); refine o_inAT rfl rfl ?_)
  | ((with_reducible show Op2 _ (rI _ _) _ _ _ _); refine o_i (by walk_at "yc") ?_)
  | ((with_reducible show Op2 _ (rIx _) _ (Dt.tup _) _ _); refine o_ixAT (atI_toNat (by decide) rfl) ?_)
  | ((with_reducible show Op2 _ (rIx _) _ (Dt.lst _) _ _); refine o_ixAL (atI_toNat (by decide) rfl) ?_)
  | ((with_reducible show ∃ x, atI _ _ = some x ∧ _); refine ⟨_, rfl, ?_⟩)
  | ((with_reducible show ∃ x, ixN _ _ = some x ∧ _); refine ⟨_, rfl, ?_⟩)
  | ((with_reducible show List.length _ ≤ 100000 ∧ _); refine ⟨by (try simp only [List.length_cons, List.length_nil]); first | decide | omega, ?_⟩))
local macro_rules | `(tactic| walk_at "y") => `(tactic| first | walk_at "yo" | walk_at "ye" | walk_at "yv" | walk_at "ys" | walk_at "yd")
local macro_rules | `(tactic| walk_at "yx") => `(tactic| first | walk_at "yo" | walk_at "ye" | walk_at "yv" | walk_at "yd")
def gk_sum_of_0_other_one {α : Type} : List α → List α → List α
  | [], [w0, w1] => [w1, w0]
  | _, _ => []
def gk_in_place_0_cells_value {α : Type} : List α → List α → List α
  | [], [w0, w1] => [w1, w0]
  | _, _ => []
structure Tx (K : PySem.W.Frag) (mg : Str → Option Value) (w : World) where
  a_is_number : Addr
  d_is_number : FuncData
  F_is_number : Fun K "is_number" "is_number" s_is_number a_is_number d_is_number
  m_is_number : mg "is_number" = some (.ref a_is_number)
  k_is_number : PySem.W.keepIn K (.ref a_is_number) = true
  b_is_number : Binds K d_is_number ["value", "least", "most"] []
  a_is_word : Addr
  d_is_word : FuncData
  F_is_word : Fun K "is_word" "is_word" s_is_word a_is_word d_is_word
  m_is_word : mg "is_word" = some (.ref a_is_word)
  k_is_word : PySem.W.keepIn K (.ref a_is_word) = true
  b_is_word : Binds K d_is_word ["value"] []
  a_is_owner : Addr
  d_is_owner : FuncData
  F_is_owner : Fun K "is_owner" "is_owner" s_is_owner a_is_owner d_is_owner
  m_is_owner : mg "is_owner" = some (.ref a_is_owner)
  k_is_owner : PySem.W.keepIn K (.ref a_is_owner) = true
  b_is_owner : Binds K d_is_owner ["value"] []
  a_is_address : Addr
  d_is_address : FuncData
  F_is_address : Fun K "is_address" "is_address" s_is_address a_is_address d_is_address
  m_is_address : mg "is_address" = some (.ref a_is_address)
  k_is_address : PySem.W.keepIn K (.ref a_is_address) = true
  b_is_address : Binds K d_is_address ["value"] []
  a_wrapped : Addr
  d_wrapped : FuncData
  F_wrapped : Fun K "wrapped" "wrapped" s_wrapped a_wrapped d_wrapped
  m_wrapped : mg "wrapped" = some (.ref a_wrapped)
  k_wrapped : PySem.W.keepIn K (.ref a_wrapped) = true
  b_wrapped : Binds K d_wrapped ["value"] []
  a_moved : Addr
  d_moved : FuncData
  F_moved : Fun K "moved" "moved" s_moved a_moved d_moved
  m_moved : mg "moved" = some (.ref a_moved)
  k_moved : PySem.W.keepIn K (.ref a_moved) = true
  b_moved : Binds K d_moved ["address", "by"] []
  a_sum_of : Addr
  d_sum_of : FuncData
  F_sum_of : Fun K "sum_of" "sum_of" s_sum_of a_sum_of d_sum_of
  m_sum_of : mg "sum_of" = some (.ref a_sum_of)
  k_sum_of : PySem.W.keepIn K (.ref a_sum_of) = true
  b_sum_of : Binds K d_sum_of ["one", "other"] []
  a_difference : Addr
  d_difference : FuncData
  F_difference : Fun K "difference" "difference" s_difference a_difference d_difference
  m_difference : mg "difference" = some (.ref a_difference)
  k_difference : PySem.W.keepIn K (.ref a_difference) = true
  b_difference : Binds K d_difference ["one", "other"] []
  a_in_place : Addr
  d_in_place : FuncData
  F_in_place : Fun K "in_place" "in_place" s_in_place a_in_place d_in_place
  m_in_place : mg "in_place" = some (.ref a_in_place)
  k_in_place : PySem.W.keepIn K (.ref a_in_place) = true
  b_in_place : Binds K d_in_place ["value", "cells"] []
  a__law_draw : Addr
  d__law_draw : FuncData
  F__law_draw : Fun K "_law_draw" "_law_draw" s__law_draw a__law_draw d__law_draw
  m__law_draw : mg "_law_draw" = some (.ref a__law_draw)
  k__law_draw : PySem.W.keepIn K (.ref a__law_draw) = true
  b__law_draw : Binds K d__law_draw ["_law_bag_here", "_law_many"] []
  a__law_bag : Addr
  d__law_bag : FuncData
  F__law_bag : Fun K "_law_bag" "_law_bag" s__law_bag a__law_bag d__law_bag
  m__law_bag : mg "_law_bag" = some (.ref a__law_bag)
  k__law_bag : PySem.W.keepIn K (.ref a__law_bag) = true
  b__law_bag : Binds K d__law_bag ["_law_script"] []
  a__law_of : Addr
  d__law_of : FuncData
  F__law_of : Fun K "_law_of" "_law_of" s__law_of a__law_of d__law_of
  m__law_of : mg "_law_of" = some (.ref a__law_of)
  k__law_of : PySem.W.keepIn K (.ref a__law_of) = true
  b__law_of : Binds K d__law_of ["_law_bag_here", "_law_some"] []
  a__law_words : Addr
  d__law_words : FuncData
  F__law_words : Fun K "_law_words" "_law_words" s__law_words a__law_words d__law_words
  m__law_words : mg "_law_words" = some (.ref a__law_words)
  k__law_words : PySem.W.keepIn K (.ref a__law_words) = true
  b__law_words : Binds K d__law_words ["_law_bag_here", "_law_many"] []
  a__law_is_value : Addr
  d__law_is_value : FuncData
  F__law_is_value : Fun K "_law_is_value" "_law_is_value" s__law_is_value a__law_is_value d__law_is_value
  m__law_is_value : mg "_law_is_value" = some (.ref a__law_is_value)
  k__law_is_value : PySem.W.keepIn K (.ref a__law_is_value) = true
  b__law_is_value : Binds K d__law_is_value ["_law_value"] []
  a__law_same : Addr
  d__law_same : FuncData
  F__law_same : Fun K "_law_same" "_law_same" s__law_same a__law_same d__law_same
  m__law_same : mg "_law_same" = some (.ref a__law_same)
  k__law_same : PySem.W.keepIn K (.ref a__law_same) = true
  b__law_same : Binds K d__law_same ["_law_found", "_law_due"] []
  a__law_sum : Addr
  d__law_sum : FuncData
  F__law_sum : Fun K "_law_sum" "_law_sum" s__law_sum a__law_sum d__law_sum
  m__law_sum : mg "_law_sum" = some (.ref a__law_sum)
  k__law_sum : PySem.W.keepIn K (.ref a__law_sum) = true
  b__law_sum : Binds K d__law_sum ["_law_one", "_law_other"] []
  a__law_less : Addr
  d__law_less : FuncData
  F__law_less : Fun K "_law_less" "_law_less" s__law_less a__law_less d__law_less
  m__law_less : mg "_law_less" = some (.ref a__law_less)
  k__law_less : PySem.W.keepIn K (.ref a__law_less) = true
  b__law_less : Binds K d__law_less ["_law_one", "_law_other"] []
  a__law_nest : Addr
  d__law_nest : FuncData
  F__law_nest : Fun K "_law_nest" "_law_nest" s__law_nest a__law_nest d__law_nest
  m__law_nest : mg "_law_nest" = some (.ref a__law_nest)
  k__law_nest : PySem.W.keepIn K (.ref a__law_nest) = true
  b__law_nest : Binds K d__law_nest [] []
  a__law_odd : Addr
  d__law_odd : FuncData
  F__law_odd : Fun K "_law_odd" "_law_odd" s__law_odd a__law_odd d__law_odd
  m__law_odd : mg "_law_odd" = some (.ref a__law_odd)
  k__law_odd : PySem.W.keepIn K (.ref a__law_odd) = true
  b__law_odd : Binds K d__law_odd ["_law_bag_here"] []
  a__law_number : Addr
  d__law_number : FuncData
  F__law_number : Fun K "_law_number" "_law_number" s__law_number a__law_number d__law_number
  m__law_number : mg "_law_number" = some (.ref a__law_number)
  k__law_number : PySem.W.keepIn K (.ref a__law_number) = true
  b__law_number : Binds K d__law_number ["_law_bag_here"] []
  a__law_any_value : Addr
  d__law_any_value : FuncData
  F__law_any_value : Fun K "_law_any_value" "_law_any_value" s__law_any_value a__law_any_value d__law_any_value
  m__law_any_value : mg "_law_any_value" = some (.ref a__law_any_value)
  k__law_any_value : PySem.W.keepIn K (.ref a__law_any_value) = true
  b__law_any_value : Binds K d__law_any_value ["_law_bag_here", "_law_words_here"] []
  a_law : Addr
  d_law : FuncData
  F_law : Fun K "law" "law" s_law a_law d_law
  m_law : mg "law" = some (.ref a_law)
  k_law : PySem.W.keepIn K (.ref a_law) = true
  b_law : Binds K d_law ["_law_script"] []
  kb_sum_of_0_other_one : KBn K d_sum_of ["one", "other"] 0 ["other", "one"] (gk_sum_of_0_other_one (α := Value)) (gk_sum_of_0_other_one (α := V))
  kb_in_place_0_cells_value : KBn K d_in_place ["value", "cells"] 0 ["cells", "value"] (gk_in_place_0_cells_value (α := Value)) (gk_in_place_0_cells_value (α := V))
  u_MOST_WORD : Value
  m_MOST_WORD : mg "MOST_WORD" = some u_MOST_WORD
  r_MOST_WORD : RelV (.int 65535) u_MOST_WORD
  u_WORDS : Value
  m_WORDS : mg "WORDS" = some u_WORDS
  r_WORDS : RelV (.int 65536) u_WORDS
  n_isinstance : mg "isinstance" = none
  n_int : mg "int" = none
  n_bool : mg "bool" = none
  n_tuple : mg "tuple" = none
  n_all : mg "all" = none
  n_len : mg "len" = none
  n_str : mg "str" = none
  n_list : mg "list" = none
  n_range : mg "range" = none
  n_dict : mg "dict" = none
  n_zip : mg "zip" = none
section
variable {P : Program} {w : World} {K : PySem.W.Frag} {mg : Str → Option Value} {base : Heap}

theorem ok__law_bag (T : Tx K mg w) : FnOk P w K mg base CX0 1 T.a__law_bag T.d__law_bag ["_law_script"] (spBag K) := by
  refine fn_newBag T.F__law_bag sc__law_bag (fun cdv A outer s H E hr => ⟨_, (pss_cons (ps_set (i := 1) sc__law_bag.nd rfl (Or.inl rfl) pe_int)
      (pss_cons (ps_for PassesOwn.never rfl (pi_listA (K := K) (pe_slice (sl_any (K := K)) (pv 0) po_none (po_some pe_int))) (pg_name (i := 2) sc__law_bag.nd rfl (Or.inl rfl)) (pss_one (ps_set (i := 1) sc__law_bag.nd rfl (Or.inl rfl) (pe_op op_mod (pe_callTy call_int1 (by rfl) T.n_int PyProof.Rows.boot_int (pa_cons (pe_op (op_plus (K := K)) (pe_op (op_plus (K := K)) (pe_op op_mul (pv 1) pe_int) (pe_op op_mod (pe_callTy call_int1 (by rfl) T.n_int PyProof.Rows.boot_int (pa_cons (pv 2) pa_nil)) pe_int)) pe_int) pa_nil)) pe_int))))
      (pss_one (ps_ret (pe_lst (pa_cons (pe_callTy (call_listB (K := K) rfl) (by rfl) T.n_list PyProof.Rows.boot_list (pa_cons (pe_slice (sl_any (K := K)) (pv 0) po_none (po_some pe_int)) pa_nil)) (pa_cons pe_int (pa_cons pe_int (pa_cons (pv 1) (pa_cons pe_int pa_nil)))))))))), fun H0 a ns hS => ?_⟩)
  dsimp only [cxOf, env0, env1, List.map, List.length, List.replicate, List.cons_append, List.nil_append, List.append, Nat.reduceAdd, Nat.reduceSub, Nat.zero_add]
  refine sm_seq (sm_set (ev_int ?_))
  refine sm_seq (sm_for (ei_list (EvO.ev (eo_slRaw rfl hS (fun z => nomatch z) (ep_none (ep_some (ev_int (int_ex (lst_ex ⟨fun _ e => ∃ m s, e = [.r (.ref a), .d (.int m), s] ∧ 0 ≤ m ∧ m < 2147483648, ⟨12026, .no, rfl, by decide, by decide⟩, ?_, ?_⟩)))))))))
  · rintro i x es' hx ⟨m, s, rfl, h0, h1⟩
    obtain ⟨n, rfl⟩ := of_mem_ints hx
    refine tg_name ?_
    repeat walk_at "y"
    exact ⟨_, _, rfl, by omega, by omega⟩
  · rintro es' ⟨m, s, rfl, h0, h1⟩
    refine sm_retO (eo_lst (ea_cons (EvO.ev (eo_listL (ea_cons (EvO.ev (eo_slRaw rfl hS (fun z => nomatch z) (ep_none (ep_some (ev_int (int_ex (ea_nil ⟨_, Or.inl rfl, ?_⟩))))))))))))
    repeat walk_at "y"
    exact ⟨_, 0, 0, m, 0, rfl, by decide, by decide, h0, h1⟩

theorem ok__law_draw (T : Tx K mg w) : FnOk P w K mg base CX0 1 T.a__law_draw T.d__law_draw ["_law_bag_here", "_law_many"] (spB K drawPre drawPost) := by
  refine fn_draw T.F__law_draw sc__law_draw (fun ds h => ?_) (fun cdv A outer s H E hr => ⟨_, (pss_cons (ps_asg (pe_op (op_plus (K := K)) (pe_ix (ix_any (K := K)) (pv 0) pe_int (fun _ _ => rfl)) pe_int) (pg_sub (pv 0) pe_int set_list))
      (pss_cons (ps_if (PW.pt (pw_and (pt_cmpR (op_eqA (K := K) hr.units) (pe_ix (ix_any (K := K)) (pv 0) pe_int (fun _ _ => rfl)) pe_int (nomark _)) (pw_and1 (pt_cmpR op_lt (pe_ix (ix_any (K := K)) (pv 0) pe_int (fun _ _ => rfl)) (pe_callB (call_lenA (K := K)) (by rfl) T.n_len PySem.boot_len (pa_cons (pe_ix (ix_any (K := K)) (pv 0) pe_int (fun _ _ => rfl)) pa_nil)) (nomark _))))) (pss_cons (ps_set (i := 2) sc__law_draw.nd rfl (Or.inl rfl) (pe_ix (ix_any (K := K)) (pe_ix (ix_any (K := K)) (pv 0) pe_int (fun _ _ => rfl)) (pe_ix (ix_any (K := K)) (pv 0) pe_int (fun _ _ => rfl)) (fun _ _ => rfl)))
      (pss_cons (ps_asg (pe_op (op_plus (K := K)) (pe_ix (ix_any (K := K)) (pv 0) pe_int (fun _ _ => rfl)) pe_int) (pg_sub (pv 0) pe_int set_list))
      (pss_cons (ps_if (pt_cmpR op_ge (pv 2) (pe_op op_pow pe_int pe_int) (nomark _)) (pss_one (ps_asg (pv 2) (pg_sub (pv 0) pe_int set_list))) pss_nil)
      (pss_one (ps_asg (pe_op op_mod (pe_callTy call_int1 (by rfl) T.n_int PyProof.Rows.boot_int (pa_cons (pe_op (op_plus (K := K)) (pe_op (op_plus (K := K)) (pe_op op_mul (pe_ix (ix_any (K := K)) (pv 0) pe_int (fun _ _ => rfl)) pe_int) (pe_op op_mul (pe_op op_mod (pe_callTy call_int1 (by rfl) T.n_int PyProof.Rows.boot_int (pa_cons (pv 2) pa_nil)) pe_int) pe_int)) pe_int) pa_nil)) pe_int) (pg_sub (pv 0) pe_int set_list)))))) pss_nil)
      (pss_cons (ps_if (pt_cmpR op_gt (pe_ix (ix_any (K := K)) (pv 0) pe_int (fun _ _ => rfl)) pe_int (nomark _)) (pss_cons (ps_set (i := 3) sc__law_draw.nd rfl (Or.inl rfl) (pe_op op_mod (pe_callTy call_int1 (by rfl) T.n_int PyProof.Rows.boot_int (pa_cons (pe_ix (ix_any (K := K)) (pv 0) pe_int (fun _ _ => rfl)) pa_nil)) (pv 1)))
      (pss_cons (ps_asg (pe_op op_fdiv (pe_callTy call_int1 (by rfl) T.n_int PyProof.Rows.boot_int (pa_cons (pe_ix (ix_any (K := K)) (pv 0) pe_int (fun _ _ => rfl)) pa_nil)) (pv 1)) (pg_sub (pv 0) pe_int set_list))
      (pss_one (ps_ret (pv 3))))) pss_nil)
      (pss_cons (ps_set (i := 4) sc__law_draw.nd rfl (Or.inl rfl) (pe_ix (ix_any (K := K)) (pv 0) pe_int (fun _ _ => rfl)))
      (pss_cons (ps_asg (pe_op op_mod (pe_callTy call_int1 (by rfl) T.n_int PyProof.Rows.boot_int (pa_cons (pe_op (op_plus (K := K)) (pe_op (op_plus (K := K)) (pe_op (op_plus (K := K)) (pe_op op_pow (pv 4) pe_int) (pe_op op_mul (pv 4) pe_int)) (pe_op op_mul (pe_ix (ix_any (K := K)) (pv 0) pe_int (fun _ _ => rfl)) pe_int)) pe_int) pa_nil)) pe_int) (pg_sub (pv 0) pe_int set_list))
      (pss_one (ps_ret (pe_op op_mod (pe_callTy call_int1 (by rfl) T.n_int PyProof.Rows.boot_int (pa_cons (pe_op (op_plus (K := K)) (pe_op op_fdiv (pe_ix (ix_any (K := K)) (pv 0) pe_int (fun _ _ => rfl)) pe_int) (pe_op op_mul (pe_op op_mod (pe_callTy call_int1 (by rfl) T.n_int PyProof.Rows.boot_int (pa_cons (pe_ix (ix_any (K := K)) (pv 0) pe_int (fun _ _ => rfl)) pa_nil)) pe_int) pe_int)) pa_nil)) (pv 1))))))))), fun F0 H0 b xs ds hB h => ?_⟩)
  · obtain ⟨n, rfl, _⟩ := h; rfl
  · obtain ⟨n, rfl, hn, hn2⟩ := h
    obtain ⟨ns, i, r, m, k, rfl, hi, hr0, hm, hm2⟩ := hB
    dsimp only [cxOf, env0, env1, List.map, List.length, List.replicate, List.cons_append, List.nil_append, List.append, Nat.reduceAdd, Nat.reduceSub, Nat.zero_add]
    refine sm_seq ?_
    walk_at "y"
    repeat walk_at "yx"
    refine sm_cut (fun e => ∃ i r m k s, e = [.own b [.lst (ns.map Dt.int), .int i, .int r, .int m, .int k], .d (.int n), s, .no, .no] ∧ 0 ≤ i ∧ 0 ≤ r ∧ 0 ≤ m ∧ m < 2147483648) ?_ ?_
    · repeat walk_at "y"
      refine ways (fun h => ?_) (fun h => ?_)
      · repeat walk_at "y"
        refine ways (fun h => ?_) (fun h => ?_)
        · have h2 := of_decide_eq_true h
          have h3 : i < (ns.map Dt.int).length := h2
          obtain ⟨x, hx, hxm⟩ := atI_of hi h3
          obtain ⟨v, _, rfl⟩ := List.mem_map.mp hxm
          refine sm_seq (sm_set ?_)
          refine ev_op ?_
          repeat walk_at "y"
          refine o_ixAL hx ?_
          refine sm_seq ?_
          walk_at "y"
          repeat walk_at "yx"
          refine sm_cut (fun e => ∃ r, e = [.own b [.lst (ns.map Dt.int), .int (i + 1), .int r, .int m, .int (k + 1)], .d (.int n), .d (.int v), .no, .no] ∧ 0 ≤ r) ?_ ?_
          · refine sm_if ?_
            repeat walk_at "yx"
            refine ways (fun h => ?_) (fun h => ?_)
            · have h5 := of_decide_eq_true h
              have h6 : (10 : Int) ^ 18 ≤ v := h5
              repeat walk_at "y"
              exact ⟨_, rfl, by omega⟩
            · repeat walk_at "y"
              exact ⟨_, rfl, hr0⟩
          · rintro es' ⟨r', rfl, hr1⟩
            repeat walk_at "y"
            exact ⟨_, _, _, _, _, rfl, by omega, hr1, by omega, by omega⟩
        · repeat walk_at "y"
          exact ⟨_, _, _, _, _, rfl, hi, hr0, hm, hm2⟩
      · repeat walk_at "y"
        exact ⟨_, _, _, _, _, rfl, hi, hr0, hm, hm2⟩
    · rintro es' ⟨i, r, m, k, s, rfl, hi, hr0, hm, hm2⟩
      refine sm_seq (sm_if ?_)
      repeat walk_at "y"
      refine ways (fun h => ?_) (fun h => ?_)
      · repeat walk_at "y"
        exact ⟨⟨n, _, rfl, rfl, Int.emod_nonneg _ (by omega), Int.emod_lt_of_pos _ hn⟩, _, rfl, _, _, _, _, _, rfl, hi, Int.ediv_nonneg hr0 (by omega), hm, hm2⟩
      · repeat walk_at "y"
        refine ⟨⟨n, _, rfl, rfl, Int.emod_nonneg _ (by omega), Int.emod_lt_of_pos _ hn⟩, _, rfl, _, _, _, _, _, rfl, hi, hr0, ?_, ?_⟩
        · exact Int.emod_nonneg _ (by decide)
        · exact Int.lt_trans (Int.emod_lt_of_pos _ (show (0 : Int) < 2147483629 by decide)) (by decide)
end
end Law
set_option pp.deepTerms false
set_option pp.deepTerms.threshold 6
namespace Law
open PySem L2 Y
local macro_rules | `(tactic| walk_at "yv") => `(tactic| ((with_reducible show Ev _ (tVar _) _ _); refine ev_var rfl ?_))
local macro_rules | `(tactic| walk_at "ys") => `(tactic| with_reducible first
  | refine sm_seq ?_ | refine sm_ret ?_ | refine sm_if ?_ | refine sm_set ?_ | refine sm_next ?_ | refine sm_par ?_ | refine sm_drop ?_ | refine sm_brk ?_ | refine sm_cont ?_)
local macro_rules | `(tactic| walk_at "ye") => `(tactic| with_reducible first
  | refine ev_op ?_ | refine ev_and ?_ | refine ev_or ?_ | refine ev_not ?_ | refine ev_if ?_ | refine ev_chain ?_ | refine ev_neg ?_ | refine ev_isInt ?_ | refine ev_isBool ?_ | refine ev_isStr ?_ | refine ev_isList ?_ | refine ev_isTuple ?_ | refine ev_isLT ?_ | refine ev_isDict ?_
  | refine ev_int ?_ | refine ev_str ?_ | refine ev_bl ?_ | refine ev_non ?_ | refine ev_call ?_ | refine ev_cb ?_ | refine ev_lst ?_ | refine ev_tup ?_ | refine ev_join ?_
  | refine ea_nil ?_ | refine ea_cons ?_
  | refine et_B ?_ | refine et_test ?_ | refine et_not ?_ | refine et_and ?_ | refine et_or ?_ | refine et_yes ?_
  | refine o_plusI ?_ | refine o_i0 ?_ | refine o_b0 ?_ | refine o_isN ?_ | refine o_notN ?_
  | refine bl_ex ?_ | refine int_ex ?_ | refine str_ex ?_ | refine lst_ex ?_ | refine tup_ex ?_)
local macro_rules | `(tactic| walk_at "yo") => `(tactic| first
  | ((with_reducible show Ev _ (tOp (rIx _) (tVar _) _) _ _); refine ev_ixOwn rfl ?_)
  | ((with_reducible show Ev _ (tCB _ (tCons (tVar _) tNil)) _ _); refine ev_lenOwn rfl ?_)
  | ((with_reducible show Sm _ (tAsg _ (gSub (tVar _) _ _)) _ _); refine sm_setItem rfl ?_)
  | ((with_reducible show Ev _ (tCall (spB _ _ _) _ _ _) _ _); refine ev_callB rfl rfl ?_))
local macro_rules | `(tactic| walk_at "yc") => `(tactic| first
  | ((with_reducible show CMul _ _); first | exact Or.inr ⟨by decide, by decide⟩ | exact Or.inl ⟨by decide, by decide⟩ | exact Or.inr ⟨by omega, by omega⟩ | exact Or.inl ⟨by omega, by omega⟩)
  | ((with_reducible show CDiv _ _); exact ⟨by first | decide | omega, by first | decide | omega⟩)
  | ((with_reducible show CPow _ _); exact ⟨by decide, by decide, by first | decide | omega⟩)
  | ((show (0 : Int) < _); first | decide | omega))
local macro_rules | `(tactic| walk_at "yd") => `(tactic| first
  | ((with_reducible show plainD _ = true ∧ _); refine ⟨by first | rfl | assumption, ?_⟩)
  | ((with_reducible show (_ = true → _) ∧ (_ = false → _)); first | refine way_t rfl ?_ | refine way_f rfl ?_ | refine way_t (by decide +kernel) ?_ | refine way_f (by decide +kernel) ?_)
  | ((with_reducible show Cal _ _ _ _ _); first | (with_reducible refine c_int ?_) | (with_reducible refine c_abs ?_) | (refine c_len rfl ?_) | (refine c_len (if_pos (by assumption)) ?_))
  | ((with_reducible show Op2 _ (rEqA _) _ _ _ _); refine o_eqA rfl ?_)
  | ((with_reducible show Op2 _ (rNeA _) _ _ _ _); refine o_neA rfl ?_)
  | ((with_reducible show Op2 _ (rInA _) _ (Dt.str _) (Dt.lst _) _); refine o_inAL rfl rfl ?_)
  | ((with_reducible show Op2 _ (rInA _) _ (Dt.str _) (Dt.tup _) _); refine o_inAT rfl rfl ?_)
  | ((with_reducible show Op2 _ (rI _ _) _ _ _ _); refine o_i (by walk_at "yc") ?_)
  | ((with_reducible show Op2 _ (rIx _) _ (Dt.tup _) _ _); refine o_ixAT (atI_toNat (by decide) rfl) ?_)
  | ((with_reducible show Op2 _ (rIx _) _ (Dt.lst _) _ _); refine o_ixAL (atI_toNat (by decide) rfl) ?_)
  | ((with_reducible show ∃ x, atI _ _ = some x ∧ _); refine ⟨_, rfl, ?_⟩)
  | ((with_reducible show ∃ x, ixN _ _ = some x ∧ _); refine ⟨_, rfl, ?_⟩)
  | ((with_reducible show List.length _ ≤ 100000 ∧ _); refine ⟨by (try simp only [List.length_cons, List.length_nil]); first | decide | omega, ?_⟩))
local macro_rules | `(tactic| walk_at "y") => `(tactic| first | walk_at "yo" | walk_at "ye" | walk_at "yv" | walk_at "ys" | walk_at "yd")
local macro_rules | `(tactic| walk_at "yx") => `(tactic| first | walk_at "yo" | walk_at "ye" | walk_at "yv" | walk_at "yd")
section
variable {P : Program} {w : World} {K : PySem.W.Frag} {mg : Str → Option Value} {base : Heap}

theorem ok__law_of (T : Tx K mg w) : FnOk P w K mg base CX0 2 T.a__law_of T.d__law_of ["_law_bag_here", "_law_some"] (spB K ofPre ofPost) := by
  have G__law_draw := ok__law_draw (P := P) (w := w) (base := base) T
  refine fn_bag T.F__law_of sc__law_of (fun ds h => ?_) (fun cdv A outer s H E hr => ⟨_, (pss_one (ps_ret (pe_ix (ix_any (K := K)) (pv 1) (pe_call G__law_draw (hr.mono (by decide)) (by rfl) T.m__law_draw T.k__law_draw T.b__law_draw .nil pass0 (pa_cons (pv 0) (pa_cons (pe_callB (call_lenA (K := K)) (by rfl) T.n_len PySem.boot_len (pa_cons (pv 1) pa_nil)) pa_nil))) (fun _ _ => rfl)))), fun F0 H0 b ds h => ?_⟩)
  · obtain ⟨x, rfl, _⟩ := h; rfl
  · obtain ⟨x, rfl, h1, h2⟩ := h
    dsimp only [cxOf, env0, env1, List.map, List.length, List.replicate, List.cons_append, List.nil_append, List.append, Nat.reduceAdd, Nat.reduceSub, Nat.zero_add]
    refine sm_ret (ev_op ?_)
    cases x with
    | lst xs =>
      have h1 : 0 < xs.length := h1
      have h2 : xs.length ≤ 100000 := h2
      repeat walk_at "yx"
      refine ⟨⟨_, rfl, by omega, by omega⟩, ?_⟩
      rintro d ⟨n, i, e, rfl, k1, k2⟩
      cases e
      obtain ⟨y, hy, hm⟩ := atI_of k1 k2
      exact o_ixAL hy ⟨_, rfl, hm⟩
    | tup xs =>
      have h1 : 0 < xs.length := h1
      have h2 : xs.length ≤ 100000 := h2
      repeat walk_at "yx"
      refine ⟨⟨_, rfl, by omega, by omega⟩, ?_⟩
      rintro d ⟨n, i, e, rfl, k1, k2⟩
      cases e
      obtain ⟨y, hy, hm⟩ := atI_of k1 k2
      exact o_ixAT hy ⟨_, rfl, hm⟩
    | str z =>
      have h1 : 0 < (signsD z).length := h1
      have h2 : (signsD z).length ≤ 100000 := h2
      rw [signsD_len] at h1 h2
      have hl : z.length ≤ 100000 := h2
      have e0 : z.length = z.cps.size := rfl
      refine ev_var rfl ?_
      refine ev_callB rfl rfl ?_
      refine ea_cons (ev_cb (ea_cons (ev_var rfl (ea_nil (c_len (n := z.length) (if_pos hl) (ea_nil ?_))))))
      refine ⟨⟨_, rfl, by omega, by omega⟩, ?_⟩
      rintro d ⟨n, i, e, rfl, k1, k2⟩
      cases e
      obtain ⟨y, hy, hm⟩ := atI_ofN (xs := z.cps.toList) k1 (by rw [Array.length_toList]; exact k2)
      exact o_ixAS hl hy ⟨_, rfl, List.mem_map.mpr ⟨y, hm, rfl⟩⟩
    | _ => exact absurd (show 0 < 0 from h1) (Nat.lt_irrefl 0)
end
end Law
namespace Law
open PySem L2 Y
local macro_rules | `(tactic| walk_at "yv") => `(tactic| ((with_reducible show Ev _ (tVar _) _ _); refine ev_var rfl ?_))
local macro_rules | `(tactic| walk_at "ys") => `(tactic| with_reducible first
  | refine sm_seq ?_ | refine sm_ret ?_ | refine sm_if ?_ | refine sm_set ?_ | refine sm_next ?_ | refine sm_par ?_ | refine sm_drop ?_ | refine sm_brk ?_ | refine sm_cont ?_)
local macro_rules | `(tactic| walk_at "ye") => `(tactic| with_reducible first
  | refine ev_op ?_ | refine ev_and ?_ | refine ev_or ?_ | refine ev_not ?_ | refine ev_if ?_ | refine ev_chain ?_ | refine ev_neg ?_ | refine ev_isInt ?_ | refine ev_isBool ?_ | refine ev_isStr ?_ | refine ev_isList ?_ | refine ev_isTuple ?_ | refine ev_isLT ?_ | refine ev_isDict ?_
  | refine ev_int ?_ | refine ev_str ?_ | refine ev_bl ?_ | refine ev_non ?_ | refine ev_call ?_ | refine ev_cb ?_ | refine ev_lst ?_ | refine ev_tup ?_ | refine ev_join ?_
  | refine ea_nil ?_ | refine ea_cons ?_
  | refine et_B ?_ | refine et_test ?_ | refine et_not ?_ | refine et_and ?_ | refine et_or ?_ | refine et_yes ?_
  | refine o_plusI ?_ | refine o_i0 ?_ | refine o_b0 ?_ | refine o_isN ?_ | refine o_notN ?_
  | refine bl_ex ?_ | refine int_ex ?_ | refine str_ex ?_ | refine lst_ex ?_ | refine tup_ex ?_)
local macro_rules | `(tactic| walk_at "yo") => `(tactic| first
  | ((with_reducible show Ev _ (tOp (rIx _) (tVar _) _) _ _); refine ev_ixOwn rfl ?_)
  | ((with_reducible show Ev _ (tCB _ (tCons (tVar _) tNil)) _ _); refine ev_lenOwn rfl ?_)
  | ((with_reducible show Sm _ (tAsg _ (gSub (tVar _) _ _)) _ _); refine sm_setItem rfl ?_)
  | ((with_reducible show Ev _ (tCall (spB _ _ _) _ _ _) _ _); refine ev_callB rfl rfl ?_))
local macro_rules | `(tactic| walk_at "yc") => `(tactic| first
  | ((with_reducible show CMul _ _); first | exact Or.inr ⟨by decide, by decide⟩ | exact Or.inl ⟨by decide, by decide⟩ | exact Or.inr ⟨by omega, by omega⟩ | exact Or.inl ⟨by omega, by omega⟩)
  | ((with_reducible show CDiv _ _); exact ⟨by first | decide | omega, by first | decide | omega⟩)
  | ((with_reducible show CPow _ _); exact ⟨by decide, by decide, by first | decide | omega⟩)
  | ((show (0 : Int) < _); first | decide | omega))
local macro_rules | `(tactic| walk_at "yd") => `(tactic| first
  | ((with_reducible show plainD _ = true ∧ _); refine ⟨by first | rfl | assumption, ?_⟩)
  | ((with_reducible show (_ = true → _) ∧ (_ = false → _)); first | refine way_t rfl ?_ | refine way_f rfl ?_ | refine way_t (by decide +kernel) ?_ | refine way_f (by decide +kernel) ?_)
  | ((with_reducible show Cal _ _ _ _ _); first | (with_reducible refine c_int ?_) | (with_reducible refine c_abs ?_) | (refine c_len rfl ?_) | (refine c_len (if_pos (by assumption)) ?_))
  | ((with_reducible show Op2 _ (rEqA _) _ _ _ _); refine o_eqA rfl ?_)
  | ((with_reducible show Op2 _ (rNeA _) _ _ _ _); refine o_neA rfl ?_)
  | ((with_reducible show Op2 _ (rInA _) _ (Dt.str _) (Dt.lst _) _); refine o_inAL rfl rfl ?_)
  | ((with_reducible show Op2 _ (rInA _) _ (Dt.str _) (Dt.tup _) _); refine o_inAT rfl rfl ?_)
  | ((with_reducible show Op2 _ (rI _ _) _ _ _ _); refine o_i (by walk_at "yc") ?_)
  | ((with_reducible show Op2 _ (rIx _) _ (Dt.tup _) _ _); refine o_ixAT (atI_toNat (by decide) rfl) ?_)
  | ((with_reducible show Op2 _ (rIx _) _ (Dt.lst _) _ _); refine o_ixAL (atI_toNat (by decide) rfl) ?_)
  | ((with_reducible show ∃ x, atI _ _ = some x ∧ _); refine ⟨_, rfl, ?_⟩)
  | ((with_reducible show ∃ x, ixN _ _ = some x ∧ _); refine ⟨_, rfl, ?_⟩)
  | ((with_reducible show List.length _ ≤ 100000 ∧ _); refine ⟨by (try simp only [List.length_cons, List.length_nil]); first | decide | omega, ?_⟩))
local macro_rules | `(tactic| walk_at "y") => `(tactic| first | walk_at "yo" | walk_at "ye" | walk_at "yv" | walk_at "ys" | walk_at "yd")
local macro_rules | `(tactic| walk_at "yx") => `(tactic| first | walk_at "yo" | walk_at "ye" | walk_at "yv" | walk_at "yd")
section
variable {P : Program} {w : World} {K : PySem.W.Frag} {mg : Str → Option Value} {base : Heap}

theorem ok__law_same (T : Tx K mg w) : ∀ n, FnOk P w K mg base CX0 n T.a__law_same T.d__law_same ["_law_found", "_law_due"] (spD K (samePre n) sameTrue)
  | 0 => fn_none fun ds h => by obtain ⟨x, _, _, h⟩ := h; omega
  | n + 1 => by
    have G__law_same := ok__law_same T n
    refine fn_data T.F__law_same sc__law_same (fun ds h => ?_) (fun cdv A outer s H E hr => ⟨_, (pss_cons (ps_if (pt_val (pe_callB (call_isiA (K := K)) (by rfl) T.n_isinstance PyProof.Rows.boot_isinstance (pa_cons (pv 1) (pa_cons (pe_bltn (v := .ty "dict") (by rfl) T.n_dict (by decide +kernel) rfl) pa_nil)))) (pss_cons (ps_if (PW.pt (pw_or (pt_not (pt_val (pe_callB (call_isiA (K := K)) (by rfl) T.n_isinstance PyProof.Rows.boot_isinstance (pa_cons (pv 0) (pa_cons (pe_bltn (v := .ty "dict") (by rfl) T.n_dict (by decide +kernel) rfl) pa_nil))))) (pw_or1 (pt_not (pt_val (pe_call G__law_same hr (by rfl) T.m__law_same T.k__law_same T.b__law_same .nil pass0 (pa_cons (pe_callTy (call_listB (K := K) rfl) (by rfl) T.n_list PyProof.Rows.boot_list (pa_cons (pv 0) pa_nil)) (pa_cons (pe_callTy (call_listB (K := K) rfl) (by rfl) T.n_list PyProof.Rows.boot_list (pa_cons (pv 1) pa_nil)) pa_nil)))))))) (pss_one (ps_ret pe_bl)) pss_nil)
      (pss_one (ps_ret (pe_callB (cr_allA (K := K) rfl) (by rfl) T.n_all PyProof.Rows.boot_all (pa_cons (pe_lc (own := [("_law_key", 2)]) (g := gName 2) rfl sc__law_same.nd (pi_listA (K := K) (pe_callTy (call_listB (K := K) rfl) (by rfl) T.n_list PyProof.Rows.boot_list (pa_cons (pv 1) pa_nil))) (blkOk_by (N := ["_law_found", "_law_due", "_law_key", "_law_one", "_law_two"]) (sc := defScope s__law_same) (by decide +kernel)) (fun _ _ _ _ _ => (pg_name (i := 2) sc__law_same.nd rfl (Or.inl rfl))) (fun _ _ _ _ _ => pts_nil) (fun _ _ _ _ _ => (pe_call G__law_same hr (by rfl) T.m__law_same T.k__law_same T.b__law_same .nil pass0 (pa_cons (pe_ix (ix_any (K := K)) (pv 0) (pv 2) (fun _ _ => rfl)) (pa_cons (pe_ix (ix_any (K := K)) (pv 1) (pv 2) (fun _ _ => rfl)) pa_nil))))) pa_nil))))) pss_nil)
      (pss_cons (ps_if (pt_val (pe_callB (call_isiTA (K := K)) (by rfl) T.n_isinstance PyProof.Rows.boot_isinstance (pa_cons (pv 1) (pa_cons (pe_tup (pa_cons (pe_bltn (v := .ty "list") (by rfl) T.n_list (by decide +kernel) rfl) (pa_cons (pe_bltn (v := .ty "tuple") (by rfl) T.n_tuple (by decide +kernel) rfl) pa_nil))) pa_nil)))) (pss_cons (ps_if (PW.pt (pw_or (pt_cmpR (op_neA (K := K) hr.units) (pe_callB (call_isiA (K := K)) (by rfl) T.n_isinstance PyProof.Rows.boot_isinstance (pa_cons (pv 0) (pa_cons (pe_bltn (v := .ty "list") (by rfl) T.n_list (by decide +kernel) rfl) pa_nil))) (pe_callB (call_isiA (K := K)) (by rfl) T.n_isinstance PyProof.Rows.boot_isinstance (pa_cons (pv 1) (pa_cons (pe_bltn (v := .ty "list") (by rfl) T.n_list (by decide +kernel) rfl) pa_nil))) (nomark _)) (pw_or1 (pt_cmpR (op_neA (K := K) hr.units) (pe_callB (call_isiA (K := K)) (by rfl) T.n_isinstance PyProof.Rows.boot_isinstance (pa_cons (pv 0) (pa_cons (pe_bltn (v := .ty "tuple") (by rfl) T.n_tuple (by decide +kernel) rfl) pa_nil))) (pe_callB (call_isiA (K := K)) (by rfl) T.n_isinstance PyProof.Rows.boot_isinstance (pa_cons (pv 1) (pa_cons (pe_bltn (v := .ty "tuple") (by rfl) T.n_tuple (by decide +kernel) rfl) pa_nil))) (nomark _))))) (pss_one (ps_ret pe_bl)) pss_nil)
      (pss_one (ps_ret (pe_and (pe_cmpR (op_eqA (K := K) hr.units) (pe_callB (call_lenA (K := K)) (by rfl) T.n_len PySem.boot_len (pa_cons (pv 0) pa_nil)) (pe_callB (call_lenA (K := K)) (by rfl) T.n_len PySem.boot_len (pa_cons (pv 1) pa_nil)) (nomark _)) (pe_one (pe_callB (cr_allA (K := K) rfl) (by rfl) T.n_all PyProof.Rows.boot_all (pa_cons (pe_lc (own := [("_law_one", 3), ("_law_two", 4)]) (g := gTup K 2 (gCons (gName 3) (gCons (gName 4) gNil))) rfl sc__law_same.nd (pi_zipB (K := K) (by rfl) T.n_zip (pa_cons (pv 0) (pa_cons (pv 1) pa_nil))) (blkOk_by (N := ["_law_found", "_law_due", "_law_key", "_law_one", "_law_two"]) (sc := defScope s__law_same) (by decide +kernel)) (fun _ _ _ _ _ => (pg_tupA (K := K) rfl (pgs_cons (pg_name (i := 3) sc__law_same.nd rfl (Or.inl rfl)) (pgs_cons (pg_name (i := 4) sc__law_same.nd rfl (Or.inl rfl)) pgs_nil)))) (fun _ _ _ _ _ => pts_nil) (fun _ _ _ _ _ => (pe_call G__law_same hr (by rfl) T.m__law_same T.k__law_same T.b__law_same .nil pass0 (pa_cons (pv 3) (pa_cons (pv 4) pa_nil))))) pa_nil))))))) pss_nil)
      (pss_cons (ps_if (PW.pt (pw_or (pt_cmpR op_isN (pv 1) pe_non (nomark _)) (pw_or1 (pt_cmpR op_isN (pv 0) pe_non (nomark _))))) (pss_one (ps_ret (pe_and (pe_cmpR op_isN (pv 1) pe_non (nomark _)) (pe_one (pe_cmpR op_isN (pv 0) pe_non (nomark _)))))) pss_nil)
      (pss_cons (ps_if (PW.pt (pw_or (pt_cmpR (op_neA (K := K) hr.units) (pe_callB (call_isiA (K := K)) (by rfl) T.n_isinstance PyProof.Rows.boot_isinstance (pa_cons (pv 0) (pa_cons (pe_bltn (v := .ty "bool") (by rfl) T.n_bool (by decide +kernel) rfl) pa_nil))) (pe_callB (call_isiA (K := K)) (by rfl) T.n_isinstance PyProof.Rows.boot_isinstance (pa_cons (pv 1) (pa_cons (pe_bltn (v := .ty "bool") (by rfl) T.n_bool (by decide +kernel) rfl) pa_nil))) (nomark _)) (pw_or1 (pt_cmpR (op_neA (K := K) hr.units) (pe_callB (call_isiA (K := K)) (by rfl) T.n_isinstance PyProof.Rows.boot_isinstance (pa_cons (pv 0) (pa_cons (pe_bltn (v := .ty "int") (by rfl) T.n_int (by decide +kernel) rfl) pa_nil))) (pe_callB (call_isiA (K := K)) (by rfl) T.n_isinstance PyProof.Rows.boot_isinstance (pa_cons (pv 1) (pa_cons (pe_bltn (v := .ty "int") (by rfl) T.n_int (by decide +kernel) rfl) pa_nil))) (nomark _))))) (pss_one (ps_ret pe_bl)) pss_nil)
      (pss_one (ps_ret (pe_and (pe_cmpR (op_eqA (K := K) hr.units) (pe_callB (call_isiA (K := K)) (by rfl) T.n_isinstance PyProof.Rows.boot_isinstance (pa_cons (pv 0) (pa_cons (pe_bltn (v := .ty "str") (by rfl) T.n_str (by decide +kernel) rfl) pa_nil))) (pe_callB (call_isiA (K := K)) (by rfl) T.n_isinstance PyProof.Rows.boot_isinstance (pa_cons (pv 1) (pa_cons (pe_bltn (v := .ty "str") (by rfl) T.n_str (by decide +kernel) rfl) pa_nil))) (nomark _)) (pe_one (pe_cmpR (op_eqA (K := K) hr.units) (pv 0) (pv 1) (nomark _)))))))))), fun F0 H0 ds h => ?_⟩)
    · obtain ⟨x, rfl, _⟩ := h; rfl
    · obtain ⟨x, rfl, hp, hd⟩ := h
      dsimp only [cxOf, env0, env1, List.map, List.length, List.replicate, List.cons_append, List.nil_append, List.append, Nat.reduceAdd, Nat.reduceSub, Nat.zero_add]
      cases x with
      | obj _ _ _ => unfold Dt.pureD at hp; cases hp
      | dct _ _ => unfold Dt.pureD at hp; cases hp
      | ali _ => unfold Dt.pureD at hp; cases hp
      | lst xs =>
        unfold Dt.depth at hd
        unfold Dt.pureD at hp
        rw [Bool.and_eq_true] at hp
        have hl := of_decide_eq_true hp.1
        repeat walk_at "y"
        refine way_t (by simp [dEq]) ?_
        refine ev_cb (ea_cons (EvO.ev (eo_mapF (fun _ => .bl true) (ei_zip ?_))))
        repeat walk_at "y"
        refine ⟨xs, xs, .inl rfl, ?_, ?_, ?_⟩
        · rw [pairD_len]; omega
        · intro p hpm
          obtain ⟨y, hy, rfl⟩ := pairD_mem hpm
          refine tc_tup2 (by decide) ?_
          repeat walk_at "y"
          exact ⟨⟨y, rfl, pureAll_mem hy hp.2, by have := depthAll_mem (n := n - 1) hy (by omega); omega⟩, fun d e => e⟩
        · refine ea_nil (c_allF (g := fun _ => true) ?_)
          show Dt.bl _ = .bl true
          simp
      | tup xs =>
        unfold Dt.depth at hd
        unfold Dt.pureD at hp
        rw [Bool.and_eq_true] at hp
        have hl := of_decide_eq_true hp.1
        repeat walk_at "y"
        refine way_t (by simp [dEq]) ?_
        refine ev_cb (ea_cons (EvO.ev (eo_mapF (fun _ => .bl true) (ei_zip ?_))))
        repeat walk_at "y"
        refine ⟨xs, xs, .inr rfl, ?_, ?_, ?_⟩
        · rw [pairD_len]; omega
        · intro p hpm
          obtain ⟨y, hy, rfl⟩ := pairD_mem hpm
          refine tc_tup2 (by decide) ?_
          repeat walk_at "y"
          exact ⟨⟨y, rfl, pureAll_mem hy hp.2, by have := depthAll_mem (n := n - 1) hy (by omega); omega⟩, fun d e => e⟩
        · refine ea_nil (c_allF (g := fun _ => true) ?_)
          show Dt.bl _ = .bl true
          simp
      | non =>
        repeat walk_at "y"
        rfl
      | _ =>
        repeat walk_at "y"
        show Dt.bl _ = .bl true
        simp [dEq]
end
end Law
namespace Law
open PySem L2 Y
local macro_rules | `(tactic| walk_at "yv") => `(tactic| ((with_reducible show Ev _ (tVar _) _ _); refine ev_var rfl ?_))
local macro_rules | `(tactic| walk_at "ys") => `(tactic| with_reducible first
  | refine sm_seq ?_ | refine sm_ret ?_ | refine sm_if ?_ | refine sm_set ?_ | refine sm_next ?_ | refine sm_par ?_ | refine sm_drop ?_ | refine sm_brk ?_ | refine sm_cont ?_)
local macro_rules | `(tactic| walk_at "ye") => `(tactic| with_reducible first
  | refine ev_op ?_ | refine ev_and ?_ | refine ev_or ?_ | refine ev_not ?_ | refine ev_if ?_ | refine ev_chain ?_ | refine ev_neg ?_ | refine ev_isInt ?_ | refine ev_isBool ?_ | refine ev_isStr ?_ | refine ev_isList ?_ | refine ev_isTuple ?_ | refine ev_isLT ?_ | refine ev_isDict ?_
  | refine ev_int ?_ | refine ev_str ?_ | refine ev_bl ?_ | refine ev_non ?_ | refine ev_call ?_ | refine ev_cb ?_ | refine ev_lst ?_ | refine ev_tup ?_ | refine ev_join ?_
  | refine ea_nil ?_ | refine ea_cons ?_
  | refine et_B ?_ | refine et_test ?_ | refine et_not ?_ | refine et_and ?_ | refine et_or ?_ | refine et_yes ?_
  | refine o_plusI ?_ | refine o_i0 ?_ | refine o_b0 ?_ | refine o_isN ?_ | refine o_notN ?_
  | refine bl_ex ?_ | refine int_ex ?_ | refine str_ex ?_ | refine lst_ex ?_ | refine tup_ex ?_)
local macro_rules | `(tactic| walk_at "yo") => `(tactic| first
  | ((with_reducible show Ev _ (tOp (rIx _) (tVar _) _) _ _); refine ev_ixOwn rfl ?_)
  | ((with_reducible show Ev _ (tCB _ (tCons (tVar _) tNil)) _ _); refine ev_lenOwn rfl ?_)
  | ((with_reducible show Sm _ (tAsg _ (gSub (tVar _) _ _)) _ _); refine sm_setItem rfl ?_)
  | ((with_reducible show Ev _ (tCall (spB _ _ _) _ _ _) _ _); refine ev_callB rfl rfl ?_))
local macro_rules | `(tactic| walk_at "yc") => `(tactic| first
  | ((with_reducible show CMul _ _); first | exact Or.inr ⟨by decide, by decide⟩ | exact Or.inl ⟨by decide, by decide⟩ | exact Or.inr ⟨by omega, by omega⟩ | exact Or.inl ⟨by omega, by omega⟩)
  | ((with_reducible show CDiv _ _); exact ⟨by first | decide | omega, by first | decide | omega⟩)
  | ((with_reducible show CPow _ _); exact ⟨by decide, by decide, by first | decide | omega⟩)
  | ((show (0 : Int) < _); first | decide | omega))
local macro_rules | `(tactic| walk_at "yd") => `(tactic| first
  | ((with_reducible show plainD _ = true ∧ _); refine ⟨by first | rfl | assumption, ?_⟩)
  | ((with_reducible show (_ = true → _) ∧ (_ = false → _)); first | refine way_t rfl ?_ | refine way_f rfl ?_ | refine way_t (by decide +kernel) ?_ | refine way_f (by decide +kernel) ?_)
  | ((with_reducible show Cal _ _ _ _ _); first | (with_reducible refine c_int ?_) | (with_reducible refine c_abs ?_) | (refine c_len rfl ?_) | (refine c_len (if_pos (by assumption)) ?_))
  | ((with_reducible show Op2 _ (rEqA _) _ _ _ _); refine o_eqA rfl ?_)
  | ((with_reducible show Op2 _ (rNeA _) _ _ _ _); refine o_neA rfl ?_)
  | ((with_reducible show Op2 _ (rInA _) _ (Dt.str _) (Dt.lst _) _); refine o_inAL rfl rfl ?_)
  | ((with_reducible show Op2 _ (rInA _) _ (Dt.str _) (Dt.tup _) _); refine o_inAT rfl rfl ?_)
  | ((with_reducible show Op2 _ (rI _ _) _ _ _ _); refine o_i (by walk_at "yc") ?_)
  | ((with_reducible show Op2 _ (rIx _) _ (Dt.tup _) _ _); refine o_ixAT (atI_toNat (by decide) rfl) ?_)
  | ((with_reducible show Op2 _ (rIx _) _ (Dt.lst _) _ _); refine o_ixAL (atI_toNat (by decide) rfl) ?_)
  | ((with_reducible show ∃ x, atI _ _ = some x ∧ _); refine ⟨_, rfl, ?_⟩)
  | ((with_reducible show ∃ x, ixN _ _ = some x ∧ _); refine ⟨_, rfl, ?_⟩)
  | ((with_reducible show List.length _ ≤ 100000 ∧ _); refine ⟨by (try simp only [List.length_cons, List.length_nil]); first | decide | omega, ?_⟩))
local macro_rules | `(tactic| walk_at "y") => `(tactic| first | walk_at "yo" | walk_at "ye" | walk_at "yv" | walk_at "ys" | walk_at "yd")
local macro_rules | `(tactic| walk_at "yx") => `(tactic| first | walk_at "yo" | walk_at "ye" | walk_at "yv" | walk_at "yd")
section
variable {P : Program} {w : World} {K : PySem.W.Frag} {mg : Str → Option Value} {base : Heap}

theorem ok_is_number (T : Tx K mg w) : FnOk P w K mg base CX0 1 T.a_is_number T.d_is_number ["value", "least", "most"] (spD K numPre numPost) := by
  refine fn_data T.F_is_number sc_is_number (fun ds h => ?_) (fun cdv A outer s H E hr => ⟨_, (pss_one (ps_ret (pe_and (pe_callB (call_isiA (K := K)) (by rfl) T.n_isinstance PyProof.Rows.boot_isinstance (pa_cons (pv 0) (pa_cons (pe_bltn (v := .ty "int") (by rfl) T.n_int (by decide +kernel) rfl) pa_nil))) (pe_and (pe_not (pe_callB (call_isiA (K := K)) (by rfl) T.n_isinstance PyProof.Rows.boot_isinstance (pa_cons (pv 0) (pa_cons (pe_bltn (v := .ty "bool") (by rfl) T.n_bool (by decide +kernel) rfl) pa_nil)))) (pe_one (pe_chain op_le op_le (pv 1) (pv 0) (pv 2))))))), fun F0 H0 ds h => ?_⟩)
  · obtain ⟨x, l, m, rfl, _⟩ := h; rfl
  · obtain ⟨x, l, m, rfl, hx⟩ := h
    dsimp only [cxOf, env0, env1, List.map, List.length, List.replicate, List.cons_append, List.nil_append, List.append, Nat.reduceAdd, Nat.reduceSub, Nat.zero_add]
    cases x with
    | obj _ _ _ => cases hx
    | ali _ => cases hx
    | int i =>
      repeat walk_at "y"
      refine ways (fun h => ?_) (fun h => ?_)
      · repeat walk_at "y"
        exact ⟨_, l, m, rfl, by show _ = Dt.bl (decide (l ≤ i) && decide (i ≤ m)); rw [h]; rfl⟩
      · repeat walk_at "y"
        exact ⟨_, l, m, rfl, by show _ = Dt.bl (decide (l ≤ i) && decide (i ≤ m)); rw [h]; rfl⟩
    | _ =>
      repeat walk_at "y"
      exact ⟨_, l, m, rfl, rfl⟩
end

theorem strOk_cut {z lit : Str} (h : ∀ c ∈ z.cps.toList, c ∈ lit.cps.toList) (hl : PyData.strOk lit = true) : PyData.strOk z = true := strOk_of h hl
/-- an owner: three texts -/
def OwnS (o : Dt) : Prop := ∃ a b c : Str, o = .tup [.str a, .str b, .str c] ∧ PyData.strOk a = true ∧ PyData.strOk b = true ∧ PyData.strOk c = true
def ValD (d : Dt) : Prop := (∃ i : Int, d = .int i ∧ 0 ≤ i ∧ i ≤ 65535) ∨ ∃ (k : Int) (o : Dt) (t : Int), d = .tup [.int k, o, .int t] ∧ 0 ≤ k ∧ OwnS o ∧ 0 ≤ t ∧ t ≤ 65535
def isOwnD (x : Dt) : Bool := match x with
  | .tup [a, b, c] => isStrD a && isStrD b && isStrD c
  | _ => false
def isAddrD (x : Dt) : Bool := match x with
  | .tup [i, o, t] => (match i with | .int k => decide (0 ≤ k) | _ => false) && (isOwnD o && isNum t 0 65535)
  | _ => false
def tupB (p : Dt → Bool) (x : Dt) : Bool := plainD x && (match x with | .tup ys => decide (ys.length ≤ 100) && ys.all p | _ => true)
def ownPre (ds : List Dt) : Prop := ∃ x, ds = [x] ∧ tupB plainD x = true
def ownPost (ds : List Dt) (d : Dt) : Prop := ∃ x, ds = [x] ∧ d = .bl (isOwnD x)
def adrPre (ds : List Dt) : Prop := ∃ x, ds = [x] ∧ tupB (tupB plainD) x = true
def adrPost (ds : List Dt) (d : Dt) : Prop := ∃ x, ds = [x] ∧ d = .bl (isAddrD x)
theorem own_k {x : Dt} {R : Dt → Prop} (h0 : tupB plainD x = true) (h : R (.bl (isOwnD x))) : ownPre [x] ∧ ∀ d, ownPost [x] d → R d := ⟨⟨x, rfl, h0⟩, fun d ⟨_, e, e2⟩ => by cases e; rw [e2]; exact h⟩
theorem adr_k {x : Dt} {R : Dt → Prop} (h0 : tupB (tupB plainD) x = true) (h : R (.bl (isAddrD x))) : adrPre [x] ∧ ∀ d, adrPost [x] d → R d := ⟨⟨x, rfl, h0⟩, fun d ⟨_, e, e2⟩ => by cases e; rw [e2]; exact h⟩
def wdPre (ds : List Dt) : Prop := ∃ x, ds = [x] ∧ plainD x = true
theorem wd_k {x : Dt} {R : Dt → Prop} (h0 : plainD x = true) (h : R (.bl (isNum x 0 65535))) : wdPre [x] ∧ ∀ d, wordPost [x] d → R d := ⟨⟨x, rfl, h0⟩, fun d ⟨_, e, e2⟩ => by cases e; rw [e2]; exact h⟩
theorem tupB_plain {p : Dt → Bool} {x : Dt} (h : tupB p x = true) : plainD x = true := by
  unfold tupB at h; rw [Bool.and_eq_true] at h; exact h.1
theorem tupB_tup {p : Dt → Bool} {ys : List Dt} (h : tupB p (.tup ys) = true) : ys.length ≤ 100 ∧ ∀ y ∈ ys, p y = true := by
  unfold tupB at h
  rw [Bool.and_eq_true] at h
  have h2 := h.2
  rw [Bool.and_eq_true, List.all_eq_true] at h2
  exact ⟨of_decide_eq_true h2.1, h2.2⟩
theorem strs_all (l : List Dt) : (l.map fun x => Dt.bl (isStrD x)) = (l.map isStrD).map Dt.bl := by rw [List.map_map]; rfl
section
variable {P : Program} {w : World} {K : PySem.W.Frag} {mg : Str → Option Value} {base : Heap}

theorem ok_is_word (T : Tx K mg w) : FnOk P w K mg base CX0 2 T.a_is_word T.d_is_word ["value"] (spD K wdPre wordPost) := by
  have G_is_number := ok_is_number (P := P) (w := w) (base := base) T
  refine fn_data T.F_is_word sc_is_word (fun ds h => ?_) (fun cdv A outer s H E hr => ⟨_, (pss_one (ps_ret (pe_call G_is_number (hr.mono (by decide)) (by rfl) T.m_is_number T.k_is_number T.b_is_number .nil pass0 (pa_cons (pv 0) (pa_cons pe_int (pa_cons (pe_glob (v := .int 65535) (by rfl) T.m_MOST_WORD T.r_MOST_WORD) pa_nil)))))), fun F0 H0 ds h => ?_⟩)
  · obtain ⟨x, rfl, _⟩ := h; rfl
  · obtain ⟨x, rfl, hx⟩ := h
    dsimp only [cxOf, env0, env1, List.map, List.length, List.replicate, List.cons_append, List.nil_append, List.append, Nat.reduceAdd, Nat.reduceSub, Nat.zero_add]
    repeat walk_at "y"
    exact num_k hx ⟨x, rfl, rfl⟩

theorem ok_is_owner (T : Tx K mg w) : FnOk P w K mg base CX0 1 T.a_is_owner T.d_is_owner ["value"] (spD K ownPre ownPost) := by
  refine fn_data T.F_is_owner sc_is_owner (fun ds h => ?_) (fun cdv A outer s H E hr => ⟨_, (pss_one (ps_ret (pe_and (pe_callB (call_isiA (K := K)) (by rfl) T.n_isinstance PyProof.Rows.boot_isinstance (pa_cons (pv 0) (pa_cons (pe_bltn (v := .ty "tuple") (by rfl) T.n_tuple (by decide +kernel) rfl) pa_nil))) (pe_and (pe_cmpR (op_eqA (K := K) hr.units) (pe_callB (call_lenA (K := K)) (by rfl) T.n_len PySem.boot_len (pa_cons (pv 0) pa_nil)) pe_int (nomark _)) (pe_one (pe_callB (cr_allA (K := K) rfl) (by rfl) T.n_all PyProof.Rows.boot_all (pa_cons (pe_lc (own := [("one", 1)]) (g := gName 1) rfl sc_is_owner.nd (pi_tupA (K := K) (pv 0)) (blkOk_by (N := ["value", "one"]) (sc := defScope s_is_owner) (by decide +kernel)) (fun _ _ _ _ _ => (pg_name (i := 1) sc_is_owner.nd rfl (Or.inl rfl))) (fun _ _ _ _ _ => pts_nil) (fun _ _ _ _ _ => (pe_callB (call_isiA (K := K)) (by rfl) T.n_isinstance PyProof.Rows.boot_isinstance (pa_cons (pv 1) (pa_cons (pe_bltn (v := .ty "str") (by rfl) T.n_str (by decide +kernel) rfl) pa_nil))))) pa_nil))))))), fun F0 H0 ds h => ?_⟩)
  · obtain ⟨x, rfl, _⟩ := h; rfl
  · obtain ⟨x, rfl, hx⟩ := h
    dsimp only [cxOf, env0, env1, List.map, List.length, List.replicate, List.cons_append, List.nil_append, List.append, Nat.reduceAdd, Nat.reduceSub, Nat.zero_add]
    have hpl := tupB_plain hx
    cases x with
    | obj _ _ _ => cases hpl
    | ali _ => cases hpl
    | tup ys =>
      obtain ⟨hl, ha⟩ := tupB_tup hx
      refine sm_ret (ev_and ?_)
      repeat walk_at "yx"
      refine ways (fun h => ?_) (fun h => ?_)
      · have h3 : (ys.length : Int) = 3 := of_decide_eq_true h
        refine ev_cb (ea_cons (EvO.ev (eo_mapF (fun x => .bl (isStrD x)) (ei_tup (ev_var rfl ⟨ys, rfl, by omega, fun x hx => tc_name ?_, ?_⟩)))))
        · refine ev_isStr (ev_var rfl ⟨ha x hx, rfl⟩)
        · rw [strs_all]
          refine ea_nil (c_all ⟨_, rfl, ?_⟩)
          match ys, h3 with
          | [a, b, c], _ => show Dt.bl (isStrD a && (isStrD b && (isStrD c && true))) = Dt.bl (isStrD a && isStrD b && isStrD c); rw [Bool.and_true, Bool.and_assoc]
      · refine ⟨_, rfl, ?_⟩
        have h3 : ¬ (ys.length : Int) = 3 := of_decide_eq_false h
        match ys, h3 with
        | [], _ => rfl
        | [_], _ => rfl
        | [_, _], _ => rfl
        | [_, _, _], h => exact absurd rfl h
        | _ :: _ :: _ :: _ :: _, _ => rfl
    | _ =>
      repeat walk_at "y"
      exact ⟨_, rfl, rfl⟩

theorem ok_is_address (T : Tx K mg w) : FnOk P w K mg base CX0 3 T.a_is_address T.d_is_address ["value"] (spD K adrPre adrPost) := by
  have G_is_word := ok_is_word (P := P) (w := w) (base := base) T
  have G_is_owner := ok_is_owner (P := P) (w := w) (base := base) T
  refine fn_data T.F_is_address sc_is_address (fun ds h => ?_) (fun cdv A outer s H E hr => ⟨_, (pss_cons (ps_if (PW.pt (pw_or (pt_not (pt_val (pe_callB (call_isiA (K := K)) (by rfl) T.n_isinstance PyProof.Rows.boot_isinstance (pa_cons (pv 0) (pa_cons (pe_bltn (v := .ty "tuple") (by rfl) T.n_tuple (by decide +kernel) rfl) pa_nil))))) (pw_or1 (pt_cmpR (op_neA (K := K) hr.units) (pe_callB (call_lenA (K := K)) (by rfl) T.n_len PySem.boot_len (pa_cons (pv 0) pa_nil)) pe_int (nomark _))))) (pss_one (ps_ret pe_bl)) pss_nil)
      (pss_cons (ps_asg (pv 0) (pg_tupA (K := K) rfl (pgs_cons (pg_name (i := 1) sc_is_address.nd rfl (Or.inl rfl)) (pgs_cons (pg_name (i := 2) sc_is_address.nd rfl (Or.inl rfl)) (pgs_cons (pg_name (i := 3) sc_is_address.nd rfl (Or.inl rfl)) pgs_nil)))))
      (pss_cons (ps_if (PW.pt (pw_or (pt_not (pt_val (pe_callB (call_isiA (K := K)) (by rfl) T.n_isinstance PyProof.Rows.boot_isinstance (pa_cons (pv 1) (pa_cons (pe_bltn (v := .ty "int") (by rfl) T.n_int (by decide +kernel) rfl) pa_nil))))) (pw_or (pt_val (pe_callB (call_isiA (K := K)) (by rfl) T.n_isinstance PyProof.Rows.boot_isinstance (pa_cons (pv 1) (pa_cons (pe_bltn (v := .ty "bool") (by rfl) T.n_bool (by decide +kernel) rfl) pa_nil)))) (pw_or1 (pt_cmpR op_lt (pv 1) pe_int (nomark _)))))) (pss_one (ps_ret pe_bl)) pss_nil)
      (pss_one (ps_ret (pe_and (pe_call G_is_owner (hr.mono (by decide)) (by rfl) T.m_is_owner T.k_is_owner T.b_is_owner .nil pass0 (pa_cons (pv 2) pa_nil)) (pe_one (pe_call G_is_word (hr.mono (by decide)) (by rfl) T.m_is_word T.k_is_word T.b_is_word .nil pass0 (pa_cons (pv 3) pa_nil))))))))), fun F0 H0 ds h => ?_⟩)
  · obtain ⟨x, rfl, _⟩ := h; rfl
  · obtain ⟨x, rfl, hx⟩ := h
    dsimp only [cxOf, env0, env1, List.map, List.length, List.replicate, List.cons_append, List.nil_append, List.append, Nat.reduceAdd, Nat.reduceSub, Nat.zero_add]
    have hpl := tupB_plain hx
    cases x with
    | obj _ _ _ => cases hpl
    | ali _ => cases hpl
    | tup ys =>
      obtain ⟨hl, ha⟩ := tupB_tup hx
      refine sm_seq (sm_if ?_)
      repeat walk_at "yx"
      refine ways (fun h => ?_) (fun h => ?_)
      · have h3 : ¬ (ys.length : Int) = 3 := by
          intro e
          have h : (!decide ((ys.length : Int) = 3)) = true := h
          rw [decide_eq_true e] at h; cases h
        repeat walk_at "y"
        refine ⟨_, rfl, ?_⟩
        match ys, h3 with
        | [], _ => rfl
        | [_], _ => rfl
        | [_, _], _ => rfl
        | [_, _, _], h => exact absurd rfl h
        | _ :: _ :: _ :: _ :: _, _ => rfl
      · have h3 : (ys.length : Int) = 3 := by
          have h : (!decide ((ys.length : Int) = 3)) = false := h
          by_cases e : (ys.length : Int) = 3
          · exact e
          · rw [decide_eq_false e] at h; cases h
        match ys, h3, ha with
        | [i, o, t], _, ha =>
          have hi := tupB_plain (ha i (by simp))
          have ho := ha o (by simp)
          have ht := tupB_plain (ha t (by simp))
          refine sm_next ?_
          refine sm_seq (sm_asg (ev_var rfl (tg_tup rfl (tgs_cons (tg_name (tgs_cons (tg_name (tgs_cons (tg_name (tgs_nil ?_)))))))))) 
          refine sm_seq (sm_if ?_)
          cases i with
          | obj _ _ _ => cases hi
          | ali _ => cases hi
          | int k =>
            repeat walk_at "yx"
            refine ways (fun h => ?_) (fun h => ?_)
            · have hk : k < 0 := of_decide_eq_true h
              repeat walk_at "y"
              refine ⟨_, rfl, ?_⟩
              show _ = Dt.bl (decide (0 ≤ k) && _)
              rw [decide_eq_false (by omega)]; rfl
            · have hk : ¬ k < 0 := of_decide_eq_false h
              refine sm_next ?_
              refine sm_ret (ev_and ?_)
              repeat walk_at "yx"
              refine own_k ho ?_
              repeat walk_at "yx"
              refine ways (fun h => ?_) (fun h => ?_)
              · repeat walk_at "yx"
                refine wd_k ht ⟨_, rfl, ?_⟩
                show _ = Dt.bl (decide (0 ≤ k) && (isOwnD o && isNum t 0 65535))
                rw [decide_eq_true (by omega), h]; rfl
              · refine ⟨_, rfl, ?_⟩
                show _ = Dt.bl (decide (0 ≤ k) && (isOwnD o && isNum t 0 65535))
                rw [decide_eq_true (by omega), h]; rfl
          | _ =>
            repeat walk_at "y"
            exact ⟨_, rfl, rfl⟩
    | _ =>
      repeat walk_at "y"
      exact ⟨_, rfl, rfl⟩
end
end Law
namespace Law
open PySem L2 Y
local macro_rules | `(tactic| walk_at "yv") => `(tactic| ((with_reducible show Ev _ (tVar _) _ _); refine ev_var rfl ?_))
local macro_rules | `(tactic| walk_at "ys") => `(tactic| with_reducible first
  | refine sm_seq ?_ | refine sm_ret ?_ | refine sm_if ?_ | refine sm_set ?_ | refine sm_next ?_ | refine sm_par ?_ | refine sm_drop ?_ | refine sm_brk ?_ | refine sm_cont ?_)
local macro_rules | `(tactic| walk_at "ye") => `(tactic| with_reducible first
  | refine ev_op ?_ | refine ev_and ?_ | refine ev_or ?_ | refine ev_not ?_ | refine ev_if ?_ | refine ev_chain ?_ | refine ev_neg ?_ | refine ev_isInt ?_ | refine ev_isBool ?_ | refine ev_isStr ?_ | refine ev_isList ?_ | refine ev_isTuple ?_ | refine ev_isLT ?_ | refine ev_isDict ?_
  | refine ev_int ?_ | refine ev_str ?_ | refine ev_bl ?_ | refine ev_non ?_ | refine ev_call ?_ | refine ev_cb ?_ | refine ev_lst ?_ | refine ev_tup ?_ | refine ev_join ?_
  | refine ea_nil ?_ | refine ea_cons ?_
  | refine et_B ?_ | refine et_test ?_ | refine et_not ?_ | refine et_and ?_ | refine et_or ?_ | refine et_yes ?_
  | refine o_plusI ?_ | refine o_i0 ?_ | refine o_b0 ?_ | refine o_isN ?_ | refine o_notN ?_
  | refine bl_ex ?_ | refine int_ex ?_ | refine str_ex ?_ | refine lst_ex ?_ | refine tup_ex ?_)
local macro_rules | `(tactic| walk_at "yo") => `(tactic| first
  | ((with_reducible show Ev _ (tOp (rIx _) (tVar _) _) _ _); refine ev_ixOwn rfl ?_)
  | ((with_reducible show Ev _ (tCB _ (tCons (tVar _) tNil)) _ _); refine ev_lenOwn rfl ?_)
  | ((with_reducible show Sm _ (tAsg _ (gSub (tVar _) _ _)) _ _); refine sm_setItem rfl ?_)
  | ((with_reducible show Ev _ (tCall (spB _ _ _) _ _ _) _ _); refine ev_callB rfl rfl ?_))
local macro_rules | `(tactic| walk_at "yc") => `(tactic| first
  | ((with_reducible show CMul _ _); first | exact Or.inr ⟨by decide, by decide⟩ | exact Or.inl ⟨by decide, by decide⟩ | exact Or.inr ⟨by omega, by omega⟩ | exact Or.inl ⟨by omega, by omega⟩)
  | ((with_reducible show CDiv _ _); exact ⟨by first | decide | omega, by first | decide | omega⟩)
  | ((with_reducible show CPow _ _); exact ⟨by decide, by decide, by first | decide | omega⟩)
  | ((show (0 : Int) < _); first | decide | omega))
local macro_rules | `(tactic| walk_at "yd") => `(tactic| first
  | ((with_reducible show plainD _ = true ∧ _); refine ⟨by first | rfl | assumption, ?_⟩)
  | ((with_reducible show (_ = true → _) ∧ (_ = false → _)); first | refine way_t rfl ?_ | refine way_f rfl ?_ | refine way_t (by decide +kernel) ?_ | refine way_f (by decide +kernel) ?_)
  | ((with_reducible show Cal _ _ _ _ _); first | (with_reducible refine c_int ?_) | (with_reducible refine c_abs ?_) | (refine c_len rfl ?_) | (refine c_len (if_pos (by assumption)) ?_))
  | ((with_reducible show Op2 _ (rEqA _) _ _ _ _); refine o_eqA rfl ?_)
  | ((with_reducible show Op2 _ (rNeA _) _ _ _ _); refine o_neA rfl ?_)
  | ((with_reducible show Op2 _ (rInA _) _ (Dt.str _) (Dt.lst _) _); refine o_inAL rfl rfl ?_)
  | ((with_reducible show Op2 _ (rInA _) _ (Dt.str _) (Dt.tup _) _); refine o_inAT rfl rfl ?_)
  | ((with_reducible show Op2 _ (rI _ _) _ _ _ _); refine o_i (by walk_at "yc") ?_)
  | ((with_reducible show Op2 _ (rIx _) _ (Dt.tup _) _ _); refine o_ixAT (atI_toNat (by decide) rfl) ?_)
  | ((with_reducible show Op2 _ (rIx _) _ (Dt.lst _) _ _); refine o_ixAL (atI_toNat (by decide) rfl) ?_)
  | ((with_reducible show ∃ x, atI _ _ = some x ∧ _); refine ⟨_, rfl, ?_⟩)
  | ((with_reducible show ∃ x, ixN _ _ = some x ∧ _); refine ⟨_, rfl, ?_⟩)
  | ((with_reducible show List.length _ ≤ 100000 ∧ _); refine ⟨by (try simp only [List.length_cons, List.length_nil]); first | decide | omega, ?_⟩))
local macro_rules | `(tactic| walk_at "y") => `(tactic| first | walk_at "yo" | walk_at "ye" | walk_at "yv" | walk_at "ys" | walk_at "yd")
local macro_rules | `(tactic| walk_at "yx") => `(tactic| first | walk_at "yo" | walk_at "ye" | walk_at "yv" | walk_at "yd")

def movD (x : Dt) (v : Int) : Dt := match x with
  | .tup [a, o, .int t] => .tup [a, o, .int ((t + v) % 65536)]
  | _ => .non
def headEq (x y : Dt) : Bool := match x, y with
  | .tup [a, o, _], .tup [b, q, _] => PyData.eqv (Dt.tup [a, o]).py (Dt.tup [b, q]).py
  | _, _ => false
def distD (x : Dt) : Int := match x with
  | .tup [_, _, .int t] => t
  | _ => 0
def sumD (x y : Dt) : Dt := match x, y with
  | .int i, .int j => .int ((i + j) % 65536)
  | .int i, y => movD y i
  | x, .int j => movD x j
  | _, _ => .non
def difD (x y : Dt) : Dt := match x, y with
  | .int i, .int j => .int ((i - j) % 65536)
  | .int _, _ => .non
  | x, .int j => movD x (-j)
  | x, y => if headEq x y = true then .int ((distD x - distD y) % 65536) else .non
def movPre (ds : List Dt) : Prop := ∃ (a o : Dt) (t v : Int), ds = [.tup [a, o, .int t], .int v]
def movPost (ds : List Dt) (d : Dt) : Prop := ∃ (x : Dt) (v : Int), ds = [x, .int v] ∧ d = movD x v
theorem mov_k {a o : Dt} {t v : Int} {R : Dt → Prop} (h : R (movD (.tup [a, o, .int t]) v)) : movPre [.tup [a, o, .int t], .int v] ∧ ∀ d, movPost [.tup [a, o, .int t], .int v] d → R d := ⟨⟨a, o, t, v, rfl⟩, fun d ⟨_, _, e, e2⟩ => by cases e; rw [e2]; exact h⟩
def wrPost (ds : List Dt) (d : Dt) : Prop := ∃ v : Int, ds = [.int v] ∧ d = .int (v % 65536)
def wrPre (ds : List Dt) : Prop := ∃ v : Int, ds = [.int v]
theorem wr_k {v : Int} {R : Dt → Prop} (h : R (.int (v % 65536))) : wrPre [.int v] ∧ ∀ d, wrPost [.int v] d → R d := ⟨⟨v, rfl⟩, fun d ⟨_, e, e2⟩ => by cases e; rw [e2]; exact h⟩
def twoPre (ds : List Dt) : Prop := ∃ x y, ds = [x, y] ∧ ValD x ∧ ValD y
def sumPost (ds : List Dt) (d : Dt) : Prop := ∃ x y, ds = [x, y] ∧ d = sumD x y
def difPost (ds : List Dt) (d : Dt) : Prop := ∃ x y, ds = [x, y] ∧ d = difD x y
theorem sum_k {x y : Dt} {R : Dt → Prop} (h1 : ValD x) (h2 : ValD y) (h : R (sumD x y)) : twoPre [x, y] ∧ ∀ d, sumPost [x, y] d → R d := ⟨⟨x, y, rfl, h1, h2⟩, fun d ⟨_, _, e, e2⟩ => by cases e; rw [e2]; exact h⟩
theorem dif_k {x y : Dt} {R : Dt → Prop} (h1 : ValD x) (h2 : ValD y) (h : R (difD x y)) : twoPre [x, y] ∧ ∀ d, difPost [x, y] d → R d := ⟨⟨x, y, rfl, h1, h2⟩, fun d ⟨_, _, e, e2⟩ => by cases e; rw [e2]; exact h⟩
theorem own_tup {o : Dt} (h : OwnS o) : tupB plainD o = true ∧ isOwnD o = true ∧ o.pureD = true ∧ o.depth = 1 := by
  obtain ⟨a, b, c, rfl, _⟩ := h
  refine ⟨rfl, rfl, ?_, ?_⟩
  · simp [Dt.pureD, pureAll]
  · simp [Dt.depth, depthAll]
theorem val_adr {x : Dt} (h : ValD x) : tupB (tupB plainD) x = true ∧ isAddrD x = isTupD x := by
  rcases h with ⟨i, rfl, _⟩ | ⟨k, o, t, rfl, hk, ho, t0, t1⟩
  · exact ⟨rfl, rfl⟩
  · obtain ⟨h1, h2, _⟩ := own_tup ho
    refine ⟨?_, ?_⟩
    · show (true && (decide (3 ≤ 100) && (tupB plainD (.int k) && (tupB plainD o && (tupB plainD (.int t) && true))))) = true
      rw [h1]; rfl
    · show (decide (0 ≤ k) && (isOwnD o && (decide (0 ≤ t) && decide (t ≤ 65535)))) = true
      rw [h2, decide_eq_true hk, decide_eq_true t0, decide_eq_true t1]; rfl
theorem val_pure {x : Dt} (h : ValD x) : x.pureD = true ∧ x.depth ≤ 2 := by
  rcases h with ⟨i, rfl, _⟩ | ⟨k, o, t, rfl, hk, ho, t0, t1⟩
  · simp [Dt.pureD, Dt.depth]
  · obtain ⟨_, _, h3, h4⟩ := own_tup ho
    refine ⟨?_, ?_⟩
    · simp [Dt.pureD, pureAll, h3]
    · simp only [Dt.depth, depthAll, h4]; omega
theorem mov_pure {k : Int} {o : Dt} {t v : Int} (ho : OwnS o) : (movD (.tup [.int k, o, .int t]) v).pureD = true ∧ (movD (.tup [.int k, o, .int t]) v).depth ≤ 2 := by
  obtain ⟨_, _, h3, h4⟩ := own_tup ho
  show (Dt.tup [.int k, o, .int _]).pureD = true ∧ (Dt.tup [.int k, o, .int _]).depth ≤ 2
  refine ⟨?_, ?_⟩
  · simp [Dt.pureD, pureAll, h3]
  · simp only [Dt.depth, depthAll, h4]; omega
theorem sum_pure {x y : Dt} (h1 : ValD x) (h2 : ValD y) : (sumD x y).pureD = true ∧ (sumD x y).depth ≤ 2 := by
  rcases h1 with ⟨i, rfl, _⟩ | ⟨k, o, t, rfl, hk, ho, t0, t1⟩ <;> rcases h2 with ⟨j, rfl, _⟩ | ⟨l, q, u, rfl, hl, hq, u0, u1⟩
  · show (Dt.int _).pureD = true ∧ (Dt.int _).depth ≤ 2
    simp [Dt.pureD, Dt.depth]
  · exact mov_pure hq
  · exact mov_pure ho
  · show Dt.non.pureD = true ∧ Dt.non.depth ≤ 2
    simp [Dt.pureD, Dt.depth]
theorem dif_pure {x y : Dt} (h1 : ValD x) (h2 : ValD y) : (difD x y).pureD = true ∧ (difD x y).depth ≤ 2 := by
  rcases h1 with ⟨i, rfl, _⟩ | ⟨k, o, t, rfl, hk, ho, t0, t1⟩ <;> rcases h2 with ⟨j, rfl, _⟩ | ⟨l, q, u, rfl, hl, hq, u0, u1⟩
  · show (Dt.int _).pureD = true ∧ (Dt.int _).depth ≤ 2
    simp [Dt.pureD, Dt.depth]
  · show Dt.non.pureD = true ∧ Dt.non.depth ≤ 2
    simp [Dt.pureD, Dt.depth]
  · exact mov_pure ho
  · show (if headEq _ _ = true then Dt.int _ else Dt.non).pureD = true ∧ (if headEq _ _ = true then Dt.int _ else Dt.non).depth ≤ 2
    split <;> simp [Dt.pureD, Dt.depth]
theorem sum_comm {x y : Dt} (h1 : ValD x) (h2 : ValD y) : sumD y x = sumD x y := by
  rcases h1 with ⟨i, rfl, _⟩ | ⟨k, o, t, rfl, hk, ho, t0, t1⟩ <;> rcases h2 with ⟨j, rfl, _⟩ | ⟨l, q, u, rfl, hl, hq, u0, u1⟩
  · show Dt.int _ = Dt.int _
    rw [Int.add_comm]
  · rfl
  · rfl
  · rfl
theorem okD_head {k : Int} {o : Dt} (ho : OwnS o) : okD (.tup [.int k, o]) = true := by
  obtain ⟨a, b, c, rfl, ha, hb, hc⟩ := ho
  unfold okD
  simp [Dt.pureD, pureAll, Dt.py, pyAll, SeqAt.shaped, PyData.canLay0, PyData.canLayAll0, PyData.depth, PyData.depthAll, ha, hb, hc]
theorem cut2 {a b c : Dt} : cutD [a, b, c] none (some 2) = [a, b] ∧ ¬ (HT.sIx [a, b, c].length 0 none = 0 ∧ HT.sIx [a, b, c].length [a, b, c].length (some 2) = [a, b, c].length) := ⟨rfl, fun h => absurd h.2 (show ¬ HT.sIx 3 3 (some 2) = 3 by decide)⟩
theorem ev_cut2 {B : Bs} {es : List Sl} {te : TE} {P : Dt → Prop} (h : Ev B te es fun d => ∃ a b c, d = .tup [a, b, c] ∧ P (.tup [a, b])) : Ev B (tSl (rSlA B.K) te tNoPart (tPart (tC (.int 2)))) es P :=
  ev_slT (h.imp fun d ⟨a, b, c, e, p⟩ => ⟨_, e, ep_none (ep_some (ev_int ⟨2, rfl, cut2.2, by rw [cut2.1]; exact p⟩))⟩)
section
variable {P : Program} {w : World} {K : PySem.W.Frag} {mg : Str → Option Value} {base : Heap}

theorem ok_wrapped (T : Tx K mg w) : FnOk P w K mg base CX0 1 T.a_wrapped T.d_wrapped ["value"] (spD K wrPre wrPost) := by
  refine fn_data T.F_wrapped sc_wrapped (fun ds h => ?_) (fun cdv A outer s H E hr => ⟨_, (pss_one (ps_ret (pe_op op_mod (pv 0) (pe_glob (v := .int 65536) (by rfl) T.m_WORDS T.r_WORDS)))), fun F0 H0 ds h => ?_⟩)
  · obtain ⟨v, rfl⟩ := h; rfl
  · obtain ⟨v, rfl⟩ := h
    dsimp only [cxOf, env0, env1, List.map, List.length, List.replicate, List.cons_append, List.nil_append, List.append, Nat.reduceAdd, Nat.reduceSub, Nat.zero_add]
    repeat walk_at "y"
    exact ⟨v, rfl, rfl⟩

theorem ok_moved (T : Tx K mg w) : FnOk P w K mg base CX0 2 T.a_moved T.d_moved ["address", "by"] (spD K movPre movPost) := by
  have G_wrapped := ok_wrapped (P := P) (w := w) (base := base) T
  refine fn_data T.F_moved sc_moved (fun ds h => ?_) (fun cdv A outer s H E hr => ⟨_, (pss_one (ps_ret (pe_tup (pa_cons (pe_ix (ix_any (K := K)) (pv 0) pe_int (fun _ _ => rfl)) (pa_cons (pe_ix (ix_any (K := K)) (pv 0) pe_int (fun _ _ => rfl)) (pa_cons (pe_call G_wrapped (hr.mono (by decide)) (by rfl) T.m_wrapped T.k_wrapped T.b_wrapped .nil pass0 (pa_cons (pe_op (op_plus (K := K)) (pe_ix (ix_any (K := K)) (pv 0) pe_int (fun _ _ => rfl)) (pv 1)) pa_nil)) pa_nil)))))), fun F0 H0 ds h => ?_⟩)
  · obtain ⟨a, o, t, v, rfl⟩ := h; rfl
  · obtain ⟨a, o, t, v, rfl⟩ := h
    dsimp only [cxOf, env0, env1, List.map, List.length, List.replicate, List.cons_append, List.nil_append, List.append, Nat.reduceAdd, Nat.reduceSub, Nat.zero_add]
    repeat walk_at "y"
    refine wr_k ?_
    repeat walk_at "y"
    exact ⟨_, _, rfl, rfl⟩

theorem ok_sum_of (T : Tx K mg w) : FnOk P w K mg base CX0 4 T.a_sum_of T.d_sum_of ["one", "other"] (spD K twoPre sumPost) := by
  have G_wrapped := ok_wrapped (P := P) (w := w) (base := base) T
  have G_moved := ok_moved (P := P) (w := w) (base := base) T
  have G_is_address := ok_is_address (P := P) (w := w) (base := base) T
  refine fn_data T.F_sum_of sc_sum_of (fun ds h => ?_) (fun cdv A outer s H E hr => ⟨_, (pss_cons (ps_if (pt_val (pe_call G_is_address (hr.mono (by decide)) (by rfl) T.m_is_address T.k_is_address T.b_is_address .nil pass0 (pa_cons (pv 0) pa_nil))) (pss_one (ps_ret (pe_ifExp (pt_val (pe_call G_is_address (hr.mono (by decide)) (by rfl) T.m_is_address T.k_is_address T.b_is_address .nil pass0 (pa_cons (pv 1) pa_nil))) pe_non (pe_call G_moved (hr.mono (by decide)) (by rfl) T.m_moved T.k_moved T.b_moved .nil pass0 (pa_cons (pv 0) (pa_cons (pv 1) pa_nil)))))) pss_nil)
      (pss_one (ps_ret (pe_ifExp (pt_val (pe_call G_is_address (hr.mono (by decide)) (by rfl) T.m_is_address T.k_is_address T.b_is_address .nil pass0 (pa_cons (pv 1) pa_nil))) (pe_call G_moved (hr.mono (by decide)) (by rfl) T.m_moved T.k_moved T.b_moved .nil pass0 (pa_cons (pv 1) (pa_cons (pv 0) pa_nil))) (pe_call G_wrapped (hr.mono (by decide)) (by rfl) T.m_wrapped T.k_wrapped T.b_wrapped .nil pass0 (pa_cons (pe_op (op_plus (K := K)) (pv 0) (pv 1)) pa_nil)))))), fun F0 H0 ds h => ?_⟩)
  · obtain ⟨x, y, rfl, _⟩ := h; rfl
  obtain ⟨x, y, rfl, h1, h2⟩ := h
  dsimp only [cxOf, env0, env1, List.map, List.length, List.replicate, List.cons_append, List.nil_append, List.append, Nat.reduceAdd, Nat.reduceSub, Nat.zero_add]
  obtain ⟨p1, a1⟩ := val_adr h1
  obtain ⟨p2, a2⟩ := val_adr h2
  refine sm_seq (sm_if ?_)
  repeat walk_at "yx"
  refine adr_k p1 ?_
  rw [a1]
  rcases h1 with ⟨i, rfl, _⟩ | ⟨k, o, t, rfl, hk, ho, t0, t1⟩
  · repeat walk_at "yx"
    refine sm_next (sm_ret ?_)
    repeat walk_at "yx"
    refine adr_k p2 ?_
    rw [a2]
    rcases h2 with ⟨j, rfl, _⟩ | ⟨l, q, u, rfl, hl, hq, u0, u1⟩
    · repeat walk_at "yx"
      exact wr_k ⟨_, _, rfl, rfl⟩
    · repeat walk_at "yx"
      exact mov_k ⟨_, _, rfl, rfl⟩
  · repeat walk_at "yx"
    refine sm_ret ?_
    repeat walk_at "yx"
    refine adr_k p2 ?_
    rw [a2]
    rcases h2 with ⟨j, rfl, _⟩ | ⟨l, q, u, rfl, hl, hq, u0, u1⟩
    · repeat walk_at "yx"
      exact mov_k ⟨_, _, rfl, rfl⟩
    · repeat walk_at "yx"
      exact ⟨_, _, rfl, rfl⟩

theorem ok_difference (T : Tx K mg w) : FnOk P w K mg base CX0 4 T.a_difference T.d_difference ["one", "other"] (spD K twoPre difPost) := by
  have G_wrapped := ok_wrapped (P := P) (w := w) (base := base) T
  have G_moved := ok_moved (P := P) (w := w) (base := base) T
  have G_is_address := ok_is_address (P := P) (w := w) (base := base) T
  refine fn_data T.F_difference sc_difference (fun ds h => ?_) (fun cdv A outer s H E hr => ⟨_, (pss_cons (ps_if (pt_not (pt_val (pe_call G_is_address (hr.mono (by decide)) (by rfl) T.m_is_address T.k_is_address T.b_is_address .nil pass0 (pa_cons (pv 1) pa_nil)))) (pss_one (ps_ret (pe_ifExp (pt_val (pe_call G_is_address (hr.mono (by decide)) (by rfl) T.m_is_address T.k_is_address T.b_is_address .nil pass0 (pa_cons (pv 0) pa_nil))) (pe_call G_moved (hr.mono (by decide)) (by rfl) T.m_moved T.k_moved T.b_moved .nil pass0 (pa_cons (pv 0) (pa_cons (pe_un un_neg (pv 1)) pa_nil))) (pe_call G_wrapped (hr.mono (by decide)) (by rfl) T.m_wrapped T.k_wrapped T.b_wrapped .nil pass0 (pa_cons (pe_op op_sub (pv 0) (pv 1)) pa_nil))))) pss_nil)
      (pss_cons (ps_if (PW.pt (pw_or (pt_not (pt_val (pe_call G_is_address (hr.mono (by decide)) (by rfl) T.m_is_address T.k_is_address T.b_is_address .nil pass0 (pa_cons (pv 0) pa_nil)))) (pw_or1 (pt_cmpR (op_neA (K := K) hr.units) (pe_slice (sl_any (K := K)) (pv 0) po_none (po_some pe_int)) (pe_slice (sl_any (K := K)) (pv 1) po_none (po_some pe_int)) (nomark _))))) (pss_one (ps_ret pe_non)) pss_nil)
      (pss_one (ps_ret (pe_call G_wrapped (hr.mono (by decide)) (by rfl) T.m_wrapped T.k_wrapped T.b_wrapped .nil pass0 (pa_cons (pe_op op_sub (pe_ix (ix_any (K := K)) (pv 0) pe_int (fun _ _ => rfl)) (pe_ix (ix_any (K := K)) (pv 1) pe_int (fun _ _ => rfl))) pa_nil)))))), fun F0 H0 ds h => ?_⟩)
  · obtain ⟨x, y, rfl, _⟩ := h; rfl
  obtain ⟨x, y, rfl, h1, h2⟩ := h
  dsimp only [cxOf, env0, env1, List.map, List.length, List.replicate, List.cons_append, List.nil_append, List.append, Nat.reduceAdd, Nat.reduceSub, Nat.zero_add]
  obtain ⟨p1, a1⟩ := val_adr h1
  obtain ⟨p2, a2⟩ := val_adr h2
  refine sm_seq (sm_if ?_)
  repeat walk_at "yx"
  refine adr_k p2 ?_
  rw [a2]
  rcases h2 with ⟨j, rfl, _⟩ | ⟨l, q, u, rfl, hl, hq, u0, u1⟩
  · repeat walk_at "yx"
    refine sm_ret ?_
    repeat walk_at "yx"
    refine adr_k p1 ?_
    rw [a1]
    rcases h1 with ⟨i, rfl, _⟩ | ⟨k, o, t, rfl, hk, ho, t0, t1⟩
    · repeat walk_at "yx"
      exact wr_k ⟨_, _, rfl, rfl⟩
    · repeat walk_at "yx"
      exact mov_k ⟨_, _, rfl, rfl⟩
  · repeat walk_at "yx"
    refine sm_next (sm_seq (sm_if ?_))
    repeat walk_at "yx"
    refine adr_k p1 ?_
    rw [a1]
    rcases h1 with ⟨i, rfl, _⟩ | ⟨k, o, t, rfl, hk, ho, t0, t1⟩
    · repeat walk_at "yx"
      refine sm_ret (ev_non ?_)
      exact ⟨_, _, rfl, rfl⟩
    · repeat walk_at "yx"
      refine ev_cut2 (ev_var rfl ⟨_, _, _, rfl, ev_cut2 (ev_var rfl ⟨_, _, _, rfl, ?_⟩)⟩)
      refine o_neAD (okD_head ho) (okD_head hq) (bl_ex (ways (fun h => ?_) (fun h => ?_)))
      · refine sm_ret (ev_non ⟨_, _, rfl, ?_⟩)
        show _ = if headEq _ _ = true then _ else _
        have hh : headEq (.tup [.int k, o, .int t]) (.tup [.int l, q, .int u]) = false := by
          show PyData.eqv _ _ = false
          simpa using h
        rw [hh]; rfl
      · refine sm_next (sm_ret ?_)
        repeat walk_at "yx"
        refine wr_k ⟨_, _, rfl, ?_⟩
        show _ = if headEq _ _ = true then _ else _
        have hh : headEq (.tup [.int k, o, .int t]) (.tup [.int l, q, .int u]) = true := by
          show PyData.eqv _ _ = true
          simpa using h
        rw [hh]; rfl
end
end Law
namespace Law
open PySem L2 Y
local macro_rules | `(tactic| walk_at "yv") => `(tactic| ((with_reducible show Ev _ (tVar _) _ _); refine ev_var rfl ?_))
local macro_rules | `(tactic| walk_at "ys") => `(tactic| with_reducible first
  | refine sm_seq ?_ | refine sm_ret ?_ | refine sm_if ?_ | refine sm_set ?_ | refine sm_next ?_ | refine sm_par ?_ | refine sm_drop ?_ | refine sm_brk ?_ | refine sm_cont ?_)
local macro_rules | `(tactic| walk_at "ye") => `(tactic| with_reducible first
  | refine ev_op ?_ | refine ev_and ?_ | refine ev_or ?_ | refine ev_not ?_ | refine ev_if ?_ | refine ev_chain ?_ | refine ev_neg ?_ | refine ev_isInt ?_ | refine ev_isBool ?_ | refine ev_isStr ?_ | refine ev_isList ?_ | refine ev_isTuple ?_ | refine ev_isLT ?_ | refine ev_isDict ?_
  | refine ev_int ?_ | refine ev_str ?_ | refine ev_bl ?_ | refine ev_non ?_ | refine ev_call ?_ | refine ev_cb ?_ | refine ev_lst ?_ | refine ev_tup ?_ | refine ev_join ?_
  | refine ea_nil ?_ | refine ea_cons ?_
  | refine et_B ?_ | refine et_test ?_ | refine et_not ?_ | refine et_and ?_ | refine et_or ?_ | refine et_yes ?_
  | refine o_plusI ?_ | refine o_i0 ?_ | refine o_b0 ?_ | refine o_isN ?_ | refine o_notN ?_
  | refine bl_ex ?_ | refine int_ex ?_ | refine str_ex ?_ | refine lst_ex ?_ | refine tup_ex ?_)
local macro_rules | `(tactic| walk_at "yo") => `(tactic| first
  | ((with_reducible show Ev _ (tOp (rIx _) (tVar _) _) _ _); refine ev_ixOwn rfl ?_)
  | ((with_reducible show Ev _ (tCB _ (tCons (tVar _) tNil)) _ _); refine ev_lenOwn rfl ?_)
  | ((with_reducible show Sm _ (tAsg _ (gSub (tVar _) _ _)) _ _); refine sm_setItem rfl ?_)
  | ((with_reducible show Ev _ (tCall (spB _ _ _) _ _ _) _ _); refine ev_callB rfl rfl ?_))
local macro_rules | `(tactic| walk_at "yc") => `(tactic| first
  | ((with_reducible show CMul _ _); first | exact Or.inr ⟨by decide, by decide⟩ | exact Or.inl ⟨by decide, by decide⟩ | exact Or.inr ⟨by omega, by omega⟩ | exact Or.inl ⟨by omega, by omega⟩)
  | ((with_reducible show CDiv _ _); exact ⟨by first | decide | omega, by first | decide | omega⟩)
  | ((with_reducible show CPow _ _); exact ⟨by decide, by decide, by first | decide | omega⟩)
  | ((show (0 : Int) < _); first | decide | omega))
local macro_rules | `(tactic| walk_at "yd") => `(tactic| first
  | ((with_reducible show plainD _ = true ∧ _); refine ⟨by first | rfl | assumption, ?_⟩)
  | ((with_reducible show (_ = true → _) ∧ (_ = false → _)); first | refine way_t rfl ?_ | refine way_f rfl ?_ | refine way_t (by decide +kernel) ?_ | refine way_f (by decide +kernel) ?_)
  | ((with_reducible show Cal _ _ _ _ _); first | (with_reducible refine c_int ?_) | (with_reducible refine c_abs ?_) | (refine c_len rfl ?_) | (refine c_len (if_pos (by assumption)) ?_))
  | ((with_reducible show Op2 _ (rEqA _) _ _ _ _); refine o_eqA rfl ?_)
  | ((with_reducible show Op2 _ (rNeA _) _ _ _ _); refine o_neA rfl ?_)
  | ((with_reducible show Op2 _ (rInA _) _ (Dt.str _) (Dt.lst _) _); refine o_inAL rfl rfl ?_)
  | ((with_reducible show Op2 _ (rInA _) _ (Dt.str _) (Dt.tup _) _); refine o_inAT rfl rfl ?_)
  | ((with_reducible show Op2 _ (rI _ _) _ _ _ _); refine o_i (by walk_at "yc") ?_)
  | ((with_reducible show Op2 _ (rIx _) _ (Dt.tup _) _ _); refine o_ixAT (atI_toNat (by decide) rfl) ?_)
  | ((with_reducible show Op2 _ (rIx _) _ (Dt.lst _) _ _); refine o_ixAL (atI_toNat (by decide) rfl) ?_)
  | ((with_reducible show ∃ x, atI _ _ = some x ∧ _); refine ⟨_, rfl, ?_⟩)
  | ((with_reducible show ∃ x, ixN _ _ = some x ∧ _); refine ⟨_, rfl, ?_⟩)
  | ((with_reducible show List.length _ ≤ 100000 ∧ _); refine ⟨by (try simp only [List.length_cons, List.length_nil]); first | decide | omega, ?_⟩))
local macro_rules | `(tactic| walk_at "y") => `(tactic| first | walk_at "yo" | walk_at "ye" | walk_at "yv" | walk_at "ys" | walk_at "yd")
local macro_rules | `(tactic| walk_at "yx") => `(tactic| first | walk_at "yo" | walk_at "ye" | walk_at "yv" | walk_at "yd")

def isvPost (ds : List Dt) (d : Dt) : Prop := ∃ x, ds = [x] ∧ d = .bl (isTupD x)
theorem isv_k {x : Dt} {R : Dt → Prop} (h0 : plainD x = true) (h : R (.bl (isTupD x))) : wdPre [x] ∧ ∀ d, isvPost [x] d → R d := ⟨⟨x, rfl, h0⟩, fun d ⟨_, e, e2⟩ => by cases e; rw [e2]; exact h⟩
def inPre (ds : List Dt) : Prop := ∃ (a o : Dt) (t v : Int), ds = [.tup [a, o, .int t], .int v]
def inPost (ds : List Dt) (d : Dt) : Prop := ∃ (a o : Dt) (t v : Int), ds = [.tup [a, o, .int t], .int v] ∧ d = .bl (decide (t < v))
theorem in_k {a o : Dt} {t v : Int} {R : Dt → Prop} (h : R (.bl (decide (t < v)))) : inPre [.tup [a, o, .int t], .int v] ∧ ∀ d, inPost [.tup [a, o, .int t], .int v] d → R d := ⟨⟨a, o, t, v, rfl⟩, fun d ⟨_, _, _, _, e, e2⟩ => by cases e; rw [e2]; exact h⟩
theorem val_plain {x : Dt} (h : ValD x) : plainD x = true := by
  rcases h with ⟨i, rfl, _⟩ | ⟨k, o, t, rfl, _⟩ <;> rfl
def wordsPost (ds : List Dt) (d : Dt) : Prop := ∃ (m : Int) (ss : List Str), ds = [.int m] ∧ d = .lst (ss.map Dt.str) ∧ (ss.length : Int) = m ∧ ∀ s ∈ ss, PyData.strOk s = true
theorem words_k {m : Int} {R : Dt → Prop} (hm : 0 ≤ m ∧ m ≤ 26) (h : ∀ ss : List Str, (ss.length : Int) = m → (∀ s ∈ ss, PyData.strOk s = true) → R (.lst (ss.map Dt.str))) : titlesPre [.int m] ∧ ∀ d, wordsPost [.int m] d → R d :=
  ⟨⟨m, rfl, hm⟩, fun d ⟨m', ss, e, e2, h1, h2⟩ => by cases e; subst e2; exact h ss h1 h2⟩
def oddP (x : Dt) : Bool := tupB (tupB plainD) x && !isAddrD x
def odd2Post (_ : List Dt) (d : Dt) : Prop := oddP d = true
theorem odd2_k {R : Dt → Prop} (h : ∀ d, oddP d = true → R d) : nilPre [] ∧ ∀ d, odd2Post [] d → R d := ⟨rfl, fun d e => h d e⟩
def nestD : Dt := .tup [.tup [.tup [.tup [.str "a"]]]]
def nestPost (_ : List Dt) (d : Dt) : Prop := d = nestD
theorem nest_k {R : Dt → Prop} (h : R nestD) : nilPre [] ∧ ∀ d, nestPost [] d → R d := ⟨rfl, fun d e => by rw [e]; exact h⟩
def anyPre (ds : List Dt) : Prop := ∃ a b c e : Str, ds = [.lst [.str a, .str b, .str c, .str e]] ∧ PyData.strOk a = true ∧ PyData.strOk b = true ∧ PyData.strOk c = true ∧ PyData.strOk e = true
def anyPost (_ : List Dt) (d : Dt) : Prop := ValD d
theorem any_k {ds : List Dt} {R : Dt → Prop} (h0 : anyPre ds) (h : ∀ d, ValD d → R d) : anyPre ds ∧ ∀ d, anyPost ds d → R d := ⟨h0, fun d e => h d e⟩
theorem strOk_app {x y : Str} (hx : PyData.strOk x = true) (hy : PyData.strOk y = true) : PyData.strOk (x ++ y) = true := by
  unfold PyData.strOk at *
  rw [Array.all_eq_true'] at *
  intro c hc
  have hc : c ∈ (x ++ y).cps.toList := by simpa using hc
  rw [app_toList, List.mem_append] at hc
  rcases hc with h | h
  · exact hx c (by simpa using h)
  · exact hy c (by simpa using h)
theorem size_app (x y : Str) : (x ++ y).cps.size = x.cps.size + y.cps.size := by
  rw [← Array.length_toList, app_toList, List.length_append, Array.length_toList, Array.length_toList]
section
variable {P : Program} {w : World} {K : PySem.W.Frag} {mg : Str → Option Value} {base : Heap}

theorem ok__law_is_value (T : Tx K mg w) : FnOk P w K mg base CX0 1 T.a__law_is_value T.d__law_is_value ["_law_value"] (spD K wdPre isvPost) := by
  refine fn_data T.F__law_is_value sc__law_is_value (fun ds h => ?_) (fun cdv A outer s H E hr => ⟨_, (pss_one (ps_ret (pe_callB (call_isiA (K := K)) (by rfl) T.n_isinstance PyProof.Rows.boot_isinstance (pa_cons (pv 0) (pa_cons (pe_bltn (v := .ty "tuple") (by rfl) T.n_tuple (by decide +kernel) rfl) pa_nil))))), fun F0 H0 ds h => ?_⟩)
  · obtain ⟨x, rfl, _⟩ := h; rfl
  · obtain ⟨x, rfl, hx⟩ := h
    dsimp only [cxOf, env0, env1, List.map, List.length, List.replicate, List.cons_append, List.nil_append, List.append, Nat.reduceAdd, Nat.reduceSub, Nat.zero_add]
    repeat walk_at "y"
    exact ⟨x, rfl, rfl⟩

theorem ok_in_place (T : Tx K mg w) : FnOk P w K mg base CX0 1 T.a_in_place T.d_in_place ["value", "cells"] (spD K inPre inPost) := by
  refine fn_data T.F_in_place sc_in_place (fun ds h => ?_) (fun cdv A outer s H E hr => ⟨_, (pss_one (ps_ret (pe_cmpR op_lt (pe_ix (ix_any (K := K)) (pv 0) pe_int (fun _ _ => rfl)) (pv 1) (nomark _)))), fun F0 H0 ds h => ?_⟩)
  · obtain ⟨a, o, t, v, rfl⟩ := h; rfl
  · obtain ⟨a, o, t, v, rfl⟩ := h
    dsimp only [cxOf, env0, env1, List.map, List.length, List.replicate, List.cons_append, List.nil_append, List.append, Nat.reduceAdd, Nat.reduceSub, Nat.zero_add]
    repeat walk_at "y"
    exact ⟨_, _, _, _, rfl, rfl⟩

theorem ok__law_sum (T : Tx K mg w) : FnOk P w K mg base CX0 2 T.a__law_sum T.d__law_sum ["_law_one", "_law_other"] (spD K twoPre sumPost) := by
  have G__law_is_value := ok__law_is_value (P := P) (w := w) (base := base) T
  refine fn_data T.F__law_sum sc__law_sum (fun ds h => ?_) (fun cdv A outer s H E hr => ⟨_, (pss_cons (ps_if (PW.pt (pw_and (pt_val (pe_call G__law_is_value (hr.mono (by decide)) (by rfl) T.m__law_is_value T.k__law_is_value T.b__law_is_value .nil pass0 (pa_cons (pv 0) pa_nil))) (pw_and1 (pt_val (pe_call G__law_is_value (hr.mono (by decide)) (by rfl) T.m__law_is_value T.k__law_is_value T.b__law_is_value .nil pass0 (pa_cons (pv 1) pa_nil)))))) (pss_one (ps_ret pe_non)) pss_nil)
      (pss_cons (ps_if (pt_val (pe_call G__law_is_value (hr.mono (by decide)) (by rfl) T.m__law_is_value T.k__law_is_value T.b__law_is_value .nil pass0 (pa_cons (pv 0) pa_nil))) (pss_one (ps_ret (pe_tup (pa_cons (pe_ix (ix_any (K := K)) (pv 0) pe_int (fun _ _ => rfl)) (pa_cons (pe_ix (ix_any (K := K)) (pv 0) pe_int (fun _ _ => rfl)) (pa_cons (pe_op op_mod (pe_callTy call_int1 (by rfl) T.n_int PyProof.Rows.boot_int (pa_cons (pe_op (op_plus (K := K)) (pe_ix (ix_any (K := K)) (pv 0) pe_int (fun _ _ => rfl)) (pv 1)) pa_nil)) pe_int) pa_nil)))))) pss_nil)
      (pss_cons (ps_if (pt_val (pe_call G__law_is_value (hr.mono (by decide)) (by rfl) T.m__law_is_value T.k__law_is_value T.b__law_is_value .nil pass0 (pa_cons (pv 1) pa_nil))) (pss_one (ps_ret (pe_tup (pa_cons (pe_ix (ix_any (K := K)) (pv 1) pe_int (fun _ _ => rfl)) (pa_cons (pe_ix (ix_any (K := K)) (pv 1) pe_int (fun _ _ => rfl)) (pa_cons (pe_op op_mod (pe_callTy call_int1 (by rfl) T.n_int PyProof.Rows.boot_int (pa_cons (pe_op (op_plus (K := K)) (pe_ix (ix_any (K := K)) (pv 1) pe_int (fun _ _ => rfl)) (pv 0)) pa_nil)) pe_int) pa_nil)))))) pss_nil)
      (pss_one (ps_ret (pe_op op_mod (pe_callTy call_int1 (by rfl) T.n_int PyProof.Rows.boot_int (pa_cons (pe_op (op_plus (K := K)) (pv 0) (pv 1)) pa_nil)) pe_int)))))), fun F0 H0 ds h => ?_⟩)
  · obtain ⟨x, y, rfl, _⟩ := h; rfl
  obtain ⟨x, y, rfl, h1, h2⟩ := h
  dsimp only [cxOf, env0, env1, List.map, List.length, List.replicate, List.cons_append, List.nil_append, List.append, Nat.reduceAdd, Nat.reduceSub, Nat.zero_add]
  have p1 := val_plain h1
  have p2 := val_plain h2
  rcases h1 with ⟨i, rfl, _⟩ | ⟨k, o, t, rfl, hk, ho, t0, t1⟩ <;> rcases h2 with ⟨j, rfl, _⟩ | ⟨l, q, u, rfl, hl, hq, u0, u1⟩
  · repeat (first | walk_at "y" | refine isv_k rfl ?_)
    exact ⟨_, _, rfl, rfl⟩
  · repeat (first | walk_at "y" | refine isv_k rfl ?_)
    exact ⟨_, _, rfl, rfl⟩
  · repeat (first | walk_at "y" | refine isv_k rfl ?_)
    exact ⟨_, _, rfl, rfl⟩
  · repeat (first | walk_at "y" | refine isv_k rfl ?_)
    exact ⟨_, _, rfl, rfl⟩

theorem ok__law_less (T : Tx K mg w) : FnOk P w K mg base CX0 2 T.a__law_less T.d__law_less ["_law_one", "_law_other"] (spD K twoPre difPost) := by
  have G__law_is_value := ok__law_is_value (P := P) (w := w) (base := base) T
  refine fn_data T.F__law_less sc__law_less (fun ds h => ?_) (fun cdv A outer s H E hr => ⟨_, (pss_cons (ps_if (PW.pt (pw_and (pt_val (pe_call G__law_is_value (hr.mono (by decide)) (by rfl) T.m__law_is_value T.k__law_is_value T.b__law_is_value .nil pass0 (pa_cons (pv 0) pa_nil))) (pw_and1 (pt_val (pe_call G__law_is_value (hr.mono (by decide)) (by rfl) T.m__law_is_value T.k__law_is_value T.b__law_is_value .nil pass0 (pa_cons (pv 1) pa_nil)))))) (pss_one (ps_ret (pe_ifExp (pt_cmpR (op_eqA (K := K) hr.units) (pe_slice (sl_any (K := K)) (pv 0) po_none (po_some pe_int)) (pe_slice (sl_any (K := K)) (pv 1) po_none (po_some pe_int)) (nomark _)) (pe_op op_mod (pe_callTy call_int1 (by rfl) T.n_int PyProof.Rows.boot_int (pa_cons (pe_op op_sub (pe_ix (ix_any (K := K)) (pv 0) pe_int (fun _ _ => rfl)) (pe_ix (ix_any (K := K)) (pv 1) pe_int (fun _ _ => rfl))) pa_nil)) pe_int) pe_non))) pss_nil)
      (pss_cons (ps_if (pt_val (pe_call G__law_is_value (hr.mono (by decide)) (by rfl) T.m__law_is_value T.k__law_is_value T.b__law_is_value .nil pass0 (pa_cons (pv 1) pa_nil))) (pss_one (ps_ret pe_non)) pss_nil)
      (pss_cons (ps_if (pt_val (pe_call G__law_is_value (hr.mono (by decide)) (by rfl) T.m__law_is_value T.k__law_is_value T.b__law_is_value .nil pass0 (pa_cons (pv 0) pa_nil))) (pss_one (ps_ret (pe_tup (pa_cons (pe_ix (ix_any (K := K)) (pv 0) pe_int (fun _ _ => rfl)) (pa_cons (pe_ix (ix_any (K := K)) (pv 0) pe_int (fun _ _ => rfl)) (pa_cons (pe_op op_mod (pe_callTy call_int1 (by rfl) T.n_int PyProof.Rows.boot_int (pa_cons (pe_op op_sub (pe_ix (ix_any (K := K)) (pv 0) pe_int (fun _ _ => rfl)) (pv 1)) pa_nil)) pe_int) pa_nil)))))) pss_nil)
      (pss_one (ps_ret (pe_op op_mod (pe_callTy call_int1 (by rfl) T.n_int PyProof.Rows.boot_int (pa_cons (pe_op op_sub (pv 0) (pv 1)) pa_nil)) pe_int)))))), fun F0 H0 ds h => ?_⟩)
  · obtain ⟨x, y, rfl, _⟩ := h; rfl
  obtain ⟨x, y, rfl, h1, h2⟩ := h
  dsimp only [cxOf, env0, env1, List.map, List.length, List.replicate, List.cons_append, List.nil_append, List.append, Nat.reduceAdd, Nat.reduceSub, Nat.zero_add]
  have p1 := val_plain h1
  have p2 := val_plain h2
  rcases h1 with ⟨i, rfl, _⟩ | ⟨k, o, t, rfl, hk, ho, t0, t1⟩ <;> rcases h2 with ⟨j, rfl, _⟩ | ⟨l, q, u, rfl, hl, hq, u0, u1⟩
  · repeat (first | walk_at "y" | refine isv_k rfl ?_)
    exact ⟨_, _, rfl, rfl⟩
  · repeat (first | walk_at "y" | refine isv_k rfl ?_)
    exact ⟨_, _, rfl, rfl⟩
  · repeat (first | walk_at "y" | refine isv_k rfl ?_)
    exact ⟨_, _, rfl, by rw [Int.sub_eq_add_neg]; rfl⟩
  · repeat (first | walk_at "y" | refine isv_k rfl ?_)
    refine ev_cut2 (ev_var rfl ⟨_, _, _, rfl, ev_cut2 (ev_var rfl ⟨_, _, _, rfl, ?_⟩)⟩)
    refine o_eqAD (okD_head ho) (okD_head hq) (bl_ex (ways (fun h => ?_) (fun h => ?_)))
    · repeat walk_at "y"
      refine ⟨_, _, rfl, ?_⟩
      show _ = if headEq _ _ = true then _ else _
      have hh : headEq (.tup [.int k, o, .int t]) (.tup [.int l, q, .int u]) = true := h
      rw [hh]; rfl
    · repeat walk_at "y"
      refine ⟨_, _, rfl, ?_⟩
      show _ = if headEq _ _ = true then _ else _
      have hh : headEq (.tup [.int k, o, .int t]) (.tup [.int l, q, .int u]) = false := h
      rw [hh]; rfl

theorem ok__law_number (T : Tx K mg w) : FnOk P w K mg base CX0 3 T.a__law_number T.d__law_number ["_law_bag_here"] (spB K nilPre numberPost) := by
  have G__law_draw := ok__law_draw (P := P) (w := w) (base := base) T
  have G__law_of := ok__law_of (P := P) (w := w) (base := base) T
  refine fn_bag T.F__law_number sc__law_number (fun ds h => ?_) (fun cdv A outer s H E hr => ⟨_, (pss_one (ps_ret (pe_call G__law_of (hr.mono (by decide)) (by rfl) T.m__law_of T.k__law_of T.b__law_of .nil pass0 (pa_cons (pv 0) (pa_cons (pe_lst (pa_cons pe_int (pa_cons pe_int (pa_cons pe_int (pa_cons pe_int (pa_cons pe_int (pa_cons pe_int (pa_cons pe_int (pa_cons pe_int (pa_cons pe_int (pa_cons pe_int (pa_cons pe_int (pa_cons pe_int (pa_cons (pe_call G__law_draw (hr.mono (by decide)) (by rfl) T.m__law_draw T.k__law_draw T.b__law_draw .nil pass0 (pa_cons (pv 0) (pa_cons pe_int pa_nil))) pa_nil)))))))))))))) pa_nil))))), fun F0 H0 b ds h => ?_⟩)
  · cases h; rfl
  · cases h
    dsimp only [cxOf, env0, env1, List.map, List.length, List.replicate, List.cons_append, List.nil_append, List.append, Nat.reduceAdd, Nat.reduceSub, Nat.zero_add]
    repeat walk_at "y"
    refine draw_k ⟨by decide, by decide⟩ fun d d0 d1 => ?_
    repeat walk_at "y"
    refine of_k ⟨by show 0 < 13; decide, by show 13 ≤ 100000; decide⟩ fun x hx => ?_
    simp only [List.mem_cons, List.not_mem_nil, or_false] at hx
    rcases hx with rfl | rfl | rfl | rfl | rfl | rfl | rfl | rfl | rfl | rfl | rfl | rfl | rfl <;> exact ⟨_, rfl, by omega, by omega⟩

theorem ok__law_nest (T : Tx K mg w) : FnOk P w K mg base CX0 1 T.a__law_nest T.d__law_nest [] (spD K nilPre nestPost) := by
  refine fn_data T.F__law_nest sc__law_nest (fun ds h => ?_) (fun cdv A outer s H E hr => ⟨_, (pss_one (ps_ret (pe_tup (pa_cons (pe_tup (pa_cons (pe_tup (pa_cons (pe_tup (pa_cons pe_str pa_nil)) pa_nil)) pa_nil)) pa_nil)))), fun F0 H0 ds h => ?_⟩)
  · cases h; rfl
  · cases h
    dsimp only [cxOf, env0, env1, List.map, List.length, List.replicate, List.cons_append, List.nil_append, List.append, Nat.reduceAdd, Nat.reduceSub, Nat.zero_add]
    repeat walk_at "y"
    rfl

theorem ok__law_odd (T : Tx K mg w) : FnOk P w K mg base CX0 3 T.a__law_odd T.d__law_odd ["_law_bag_here"] (spB K nilPre odd2Post) := by
  have G__law_nest := ok__law_nest (P := P) (w := w) (base := base) T
  have G__law_of := ok__law_of (P := P) (w := w) (base := base) T
  refine fn_bag T.F__law_odd sc__law_odd (fun ds h => ?_) (fun cdv A outer s H E hr => ⟨_, (pss_one (ps_ret (pe_call G__law_of (hr.mono (by decide)) (by rfl) T.m__law_of T.k__law_of T.b__law_of .nil pass0 (pa_cons (pv 0) (pa_cons (pe_lst (pa_cons pe_non (pa_cons pe_bl (pa_cons pe_bl (pa_cons pe_int (pa_cons (pe_un un_neg pe_int) (pa_cons pe_str (pa_cons pe_str (pa_cons pe_str (pa_cons (pe_tup pa_nil) (pa_cons (pe_tup (pa_cons pe_str (pa_cons pe_int pa_nil))) (pa_cons (pe_lst (pa_cons pe_str pa_nil)) (pa_cons (pe_call0 G__law_nest (hr.mono (by decide)) (by rfl) T.m__law_nest T.k__law_nest T.b__law_nest .nil pass0) (pa_cons (pe_tup (pa_cons pe_non (pa_cons pe_str (pa_cons pe_int pa_nil)))) pa_nil)))))))))))))) pa_nil))))), fun F0 H0 b ds h => ?_⟩)
  · cases h; rfl
  · cases h
    dsimp only [cxOf, env0, env1, List.map, List.length, List.replicate, List.cons_append, List.nil_append, List.append, Nat.reduceAdd, Nat.reduceSub, Nat.zero_add]
    refine sm_ret (ev_callB rfl rfl ?_)
    repeat walk_at "yx"
    refine nest_k ?_
    repeat walk_at "yx"
    exact of_all (p := oddP) ⟨by show 0 < 13; decide, by show 13 ≤ 100000; decide⟩ (by decide +kernel) fun d hd => hd

theorem ok__law_words (T : Tx K mg w) : FnOk P w K mg base CX0 3 T.a__law_words T.d__law_words ["_law_bag_here", "_law_many"] (spB K titlesPre wordsPost) := by
  have G__law_draw := ok__law_draw (P := P) (w := w) (base := base) T
  have G__law_of := ok__law_of (P := P) (w := w) (base := base) T
  refine fn_bag T.F__law_words sc__law_words (fun ds h => ?_) (fun cdv A outer s H E hr => ⟨_, (pss_cons (ps_set (i := 2) sc__law_words.nd rfl (Or.inr rfl) (pe_call G__law_of (hr.mono (by decide)) (by rfl) T.m__law_of T.k__law_of T.b__law_of .nil pass0 (pa_cons (pv 0) (pa_cons (pe_lst (pa_cons pe_str (pa_cons pe_str (pa_cons pe_str (pa_cons pe_str (pa_cons pe_str (pa_cons pe_str pa_nil))))))) pa_nil))))
      (pss_cons (ps_asg (pe_tup (pa_cons (pe_call G__law_draw (hr.mono (by decide)) (by rfl) T.m__law_draw T.k__law_draw T.b__law_draw .nil pass0 (pa_cons (pv 0) (pa_cons (pe_op (op_plus (K := K)) (pe_callB (call_lenA (K := K)) (by rfl) T.n_len PySem.boot_len (pa_cons (pv 2) pa_nil)) pe_int) pa_nil))) (pa_cons (pe_call G__law_draw (hr.mono (by decide)) (by rfl) T.m__law_draw T.k__law_draw T.b__law_draw .nil pass0 (pa_cons (pv 0) (pa_cons pe_int pa_nil))) pa_nil))) (pg_tupA (K := K) rfl (pgs_cons (pg_name (i := 3) sc__law_words.nd rfl (Or.inr rfl)) (pgs_cons (pg_name (i := 4) sc__law_words.nd rfl (Or.inr rfl)) pgs_nil))))
      (pss_cons (ps_set (i := 5) sc__law_words.nd rfl (Or.inr rfl) pe_str)
      (pss_one (ps_ret (pe_lc (own := [("_law_k", 6)]) (g := gName 6) rfl sc__law_words.nd (pi_range1 (by rfl) T.n_range (pa_cons (pv 1) pa_nil)) (blkOk_by (N := ["_law_bag_here", "_law_many", "_law_tail", "_law_at", "_law_first", "_law_letters", "_law_k"]) (sc := defScope s__law_words) (by decide +kernel)) (fun _ _ _ _ _ => (pg_name (i := 6) sc__law_words.nd rfl (Or.inl rfl))) (fun _ _ _ _ _ => pts_nil) (fun _ _ _ _ _ => (pe_op (op_plus (K := K)) (pe_op (op_plus (K := K)) (pe_slice (sl_any (K := K)) (pv 2) po_none (po_some (pv 3))) (pe_ix (ix_any (K := K)) (pv 5) (pe_op op_mod (pe_callTy call_int1 (by rfl) T.n_int PyProof.Rows.boot_int (pa_cons (pe_op (op_plus (K := K)) (pv 4) (pe_op op_mul pe_int (pv 6))) pa_nil)) pe_int) (fun _ _ => rfl))) (pe_slice (sl_any (K := K)) (pv 2) (po_some (pv 3)) po_none))))))))), fun F0 H0 b ds h => ?_⟩)
  · obtain ⟨m, rfl, _⟩ := h; rfl
  obtain ⟨m, rfl, m0, m1⟩ := h
  dsimp only [cxOf, env0, env1, List.map, List.length, List.replicate, List.cons_append, List.nil_append, List.append, Nat.reduceAdd, Nat.reduceSub, Nat.zero_add]
  refine sm_seq (sm_set ?_)
  repeat walk_at "yx"
  refine of_all (p := fun d => match d with | .str z => decide (z.cps.size ≤ 5) && PyData.strOk z | _ => false) ⟨by show 0 < 6; decide, by show 6 ≤ 100000; decide⟩ (by decide +kernel) fun d hd => ?_
  cases d with
  | str z =>
    have hd : (decide (z.cps.size ≤ 5) && PyData.strOk z) = true := hd
    rw [Bool.and_eq_true] at hd
    have hz := of_decide_eq_true hd.1
    have hz2 : z.length ≤ 100000 := by show z.cps.size ≤ 100000; omega
    refine sm_seq (sm_asg (ev_tup ?_))
    refine ea_cons (ev_callB rfl rfl (ea_cons (ev_op (ev_cb (ea_cons (ev_var rfl (ea_nil (c_len (n := z.length) (if_pos hz2) ?_))))))))
    repeat walk_at "yx"
    have e0 : z.length = z.cps.size := rfl
    refine draw_k ⟨by omega, by omega⟩ fun at_ a0 a1 => ?_
    repeat walk_at "yx"
    refine draw_k ⟨by decide, by decide⟩ fun fi f0 f1 => ?_
    repeat walk_at "yx"
    refine tg_tup rfl (tgs_cons (tg_name (tgs_cons (tg_name (tgs_nil ?_)))))
    refine sm_seq (sm_set ?_)
    repeat walk_at "yx"
    refine sm_ret (EvO.ev (eo_map (ei_rng1 ?_)))
    repeat walk_at "yx"
    refine ⟨m, rfl, by omega, by omega, by rw [rangeD_len]; omega, fun _ y => ∃ s, y = .str s ∧ PyData.strOk s = true, fun i x hx => ?_, fun ys hy hR => ?_⟩
    · obtain ⟨hi, rfl⟩ := rangeD_get hx
      obtain ⟨hc1, hc2⟩ := cut_app z at_.toNat (by omega)
      rw [Int.toNat_of_nonneg a0] at hc1 hc2
      have s1 : (cutS z none (some at_)).cps.size ≤ 5 := by rw [← Array.length_toList, hc1, List.length_take, Array.length_toList]; omega
      have s2 : (cutS z (some at_) none).cps.size ≤ 5 := by rw [← Array.length_toList, hc2, List.length_drop, Array.length_toList]; omega
      have o1 : PyData.strOk (cutS z none (some at_)) = true := strOk_of (lit := z) (fun c hc => by rw [hc1] at hc; exact List.mem_of_mem_take hc) hd.2
      have o2 : PyData.strOk (cutS z (some at_) none) = true := strOk_of (lit := z) (fun c hc => by rw [hc2] at hc; exact List.mem_of_mem_drop hc) hd.2
      refine tc_name (ev_op (ev_op ?_))
      refine ev_slS (ev_var rfl ⟨z, rfl, hz2, ep_none (ep_some (ev_var rfl (int_ex ?_)))⟩)
      refine ev_op (ev_var rfl ?_)
      repeat walk_at "yx"
      have hb : 0 ≤ (fi + 5 * (0 + (i : Int))) % 26 ∧ (fi + 5 * (0 + (i : Int))) % 26 < 26 := by omega
      have hlen : ("abcdefghijklmnopqrstuvwxyz" : Str).cps.toList.length = 26 := by decide +kernel
      obtain ⟨c, hc, hm⟩ := atI_ofN (xs := ("abcdefghijklmnopqrstuvwxyz" : Str).cps.toList) hb.1 (by omega)
      refine o_ixAS (by decide +kernel) hc ?_
      have oc : PyData.strOk (⟨#[c]⟩ : Str) = true := strOk_of (lit := "abcdefghijklmnopqrstuvwxyz") (fun e he => by simp at he; rw [he]; exact hm) (by decide +kernel)
      refine o_plusS (by show (cutS z none (some at_)).cps.size + 1 ≤ 100000; omega) ?_
      refine ev_slS (ev_var rfl ⟨z, rfl, hz2, ep_some (ev_var rfl (int_ex (ep_none ?_)))⟩)
      have s3 := size_app (cutS z none (some at_)) ⟨#[c]⟩
      have s4 : (⟨#[c]⟩ : Str).cps.size = 1 := rfl
      refine o_plusS (by show (cutS z none (some at_) ++ ⟨#[c]⟩).cps.size + (cutS z (some at_) none).cps.size ≤ 100000; omega) ?_
      exact ⟨_, rfl, strOk_app (strOk_app o1 oc) o2⟩
    · rw [rangeD_len] at hy
      have key : ∀ l : List Dt, (∀ y ∈ l, ∃ s, y = Dt.str s ∧ PyData.strOk s = true) → ∃ ss : List Str, l = ss.map Dt.str ∧ ∀ s ∈ ss, PyData.strOk s = true := by
        intro l
        induction l with
        | nil => intro _; exact ⟨[], rfl, fun _ h => nomatch h⟩
        | cons y l ih =>
          intro hl
          obtain ⟨s, rfl, hs⟩ := hl y (List.mem_cons_self ..)
          obtain ⟨ss, rfl, h2⟩ := ih fun z hz => hl z (List.mem_cons_of_mem _ hz)
          refine ⟨s :: ss, rfl, fun t ht => ?_⟩
          rcases List.mem_cons.mp ht with rfl | ht
          · exact hs
          · exact h2 t ht
      obtain ⟨ss, rfl, hss⟩ := key ys fun y hm => by
        obtain ⟨j, hj⟩ := List.getElem?_of_mem hm
        have hlt := (List.getElem?_eq_some_iff.mp hj).1
        have hr : j < (rangeD 0 m.toNat).length := by rw [rangeD_len]; omega
        exact hR j _ y (List.getElem?_eq_getElem hr) hj
      rw [List.length_map] at hy
      exact ⟨m, ss, rfl, rfl, by omega, hss⟩
  | _ => cases hd

theorem ok__law_any_value (T : Tx K mg w) : FnOk P w K mg base CX0 4 T.a__law_any_value T.d__law_any_value ["_law_bag_here", "_law_words_here"] (spB K anyPre anyPost) := by
  have G__law_draw := ok__law_draw (P := P) (w := w) (base := base) T
  have G__law_of := ok__law_of (P := P) (w := w) (base := base) T
  have G__law_number := ok__law_number (P := P) (w := w) (base := base) T
  refine fn_bag T.F__law_any_value sc__law_any_value (fun ds h => ?_) (fun cdv A outer s H E hr => ⟨_, (pss_cons (ps_if (pt_cmpR (op_eqA (K := K) hr.units) (pe_call G__law_draw (hr.mono (by decide)) (by rfl) T.m__law_draw T.k__law_draw T.b__law_draw .nil pass0 (pa_cons (pv 0) (pa_cons pe_int pa_nil))) pe_int (nomark _)) (pss_one (ps_ret (pe_call G__law_number (hr.mono (by decide)) (by rfl) T.m__law_number T.k__law_number T.b__law_number .nil pass0 (pa_cons (pv 0) pa_nil)))) pss_nil)
      (pss_cons (ps_set (i := 2) sc__law_any_value.nd rfl (Or.inl rfl) (pe_call G__law_of (hr.mono (by decide)) (by rfl) T.m__law_of T.k__law_of T.b__law_of .nil pass0 (pa_cons (pv 0) (pa_cons (pe_lst (pa_cons (pe_tup (pa_cons (pe_ix (ix_any (K := K)) (pv 1) pe_int (fun _ _ => rfl)) (pa_cons pe_str (pa_cons (pe_ix (ix_any (K := K)) (pv 1) pe_int (fun _ _ => rfl)) pa_nil)))) (pa_cons (pe_tup (pa_cons (pe_ix (ix_any (K := K)) (pv 1) pe_int (fun _ _ => rfl)) (pa_cons (pe_ix (ix_any (K := K)) (pv 1) pe_int (fun _ _ => rfl)) (pa_cons (pe_ix (ix_any (K := K)) (pv 1) pe_int (fun _ _ => rfl)) pa_nil)))) (pa_cons (pe_tup (pa_cons pe_str (pa_cons pe_str (pa_cons (pe_ix (ix_any (K := K)) (pv 1) pe_int (fun _ _ => rfl)) pa_nil)))) pa_nil)))) pa_nil))))
      (pss_one (ps_ret (pe_tup (pa_cons (pe_call G__law_draw (hr.mono (by decide)) (by rfl) T.m__law_draw T.k__law_draw T.b__law_draw .nil pass0 (pa_cons (pv 0) (pa_cons pe_int pa_nil))) (pa_cons (pv 2) (pa_cons (pe_call G__law_of (hr.mono (by decide)) (by rfl) T.m__law_of T.k__law_of T.b__law_of .nil pass0 (pa_cons (pv 0) (pa_cons (pe_lst (pa_cons pe_int (pa_cons pe_int (pa_cons pe_int (pa_cons pe_int (pa_cons (pe_call G__law_draw (hr.mono (by decide)) (by rfl) T.m__law_draw T.k__law_draw T.b__law_draw .nil pass0 (pa_cons (pv 0) (pa_cons pe_int pa_nil))) pa_nil)))))) pa_nil))) pa_nil)))))))), fun F0 H0 b ds h => ?_⟩)
  · obtain ⟨_, _, _, _, rfl, _⟩ := h; rfl
  obtain ⟨s0, s1, s2, s3, rfl, o0, o1, o2, o3⟩ := h
  dsimp only [cxOf, env0, env1, List.map, List.length, List.replicate, List.cons_append, List.nil_append, List.append, Nat.reduceAdd, Nat.reduceSub, Nat.zero_add]
  refine sm_seq (sm_if ?_)
  repeat walk_at "yx"
  refine draw_k ⟨by decide, by decide⟩ fun d d0 d1 => ?_
  repeat walk_at "yx"
  refine ways (fun h => ?_) (fun h => ?_)
  · repeat walk_at "y"
    exact number_k fun i i0 i1 => .inl ⟨i, rfl, i0, i1⟩
  refine sm_next (sm_seq (sm_set ?_))
  repeat walk_at "yx"
  refine of_k ⟨by show 0 < 3; decide, by show 3 ≤ 100000; decide⟩ fun o ho => ?_
  have ho2 : OwnS o := by
    have e0 : PyData.strOk "" = true := by decide +kernel
    simp only [List.mem_cons, List.not_mem_nil, or_false] at ho
    rcases ho with rfl | rfl | rfl
    · exact ⟨_, _, _, rfl, o0, e0, o1⟩
    · exact ⟨_, _, _, rfl, o0, o2, o1⟩
    · exact ⟨_, _, _, rfl, e0, e0, o3⟩
  refine sm_ret ?_
  repeat walk_at "yx"
  refine draw_k ⟨by decide, by decide⟩ fun k k0 k1 => ?_
  repeat walk_at "yx"
  refine draw_k ⟨by decide, by decide⟩ fun t t0 t1 => ?_
  repeat walk_at "yx"
  refine of_k ⟨by show 0 < 5; decide, by show 5 ≤ 100000; decide⟩ fun u hu => ?_
  have hu2 : ∃ v : Int, u = .int v ∧ 0 ≤ v ∧ v ≤ 65535 := by
    simp only [List.mem_cons, List.not_mem_nil, or_false] at hu
    rcases hu with rfl | rfl | rfl | rfl | rfl <;> exact ⟨_, rfl, by omega, by omega⟩
  obtain ⟨v, rfl, v0, v1⟩ := hu2
  repeat walk_at "yx"
  exact .inr ⟨k, o, v, rfl, k0, ho2, v0, v1⟩
end
end Law
namespace Law
open PySem L2 Y
local macro_rules | `(tactic| walk_at "yv") => `(tactic| ((with_reducible show Ev _ (tVar _) _ _); refine ev_var rfl ?_))
local macro_rules | `(tactic| walk_at "ys") => `(tactic| with_reducible first
  | refine sm_seq ?_ | refine sm_ret ?_ | refine sm_if ?_ | refine sm_set ?_ | refine sm_next ?_ | refine sm_par ?_ | refine sm_drop ?_ | refine sm_brk ?_ | refine sm_cont ?_)
local macro_rules | `(tactic| walk_at "ye") => `(tactic| with_reducible first
  | refine ev_op ?_ | refine ev_and ?_ | refine ev_or ?_ | refine ev_not ?_ | refine ev_if ?_ | refine ev_chain ?_ | refine ev_neg ?_ | refine ev_isInt ?_ | refine ev_isBool ?_ | refine ev_isStr ?_ | refine ev_isList ?_ | refine ev_isTuple ?_ | refine ev_isLT ?_ | refine ev_isDict ?_
  | refine ev_int ?_ | refine ev_str ?_ | refine ev_bl ?_ | refine ev_non ?_ | refine ev_call ?_ | refine ev_cb ?_ | refine ev_lst ?_ | refine ev_tup ?_ | refine ev_join ?_
  | refine ea_nil ?_ | refine ea_cons ?_
  | refine et_B ?_ | refine et_test ?_ | refine et_not ?_ | refine et_and ?_ | refine et_or ?_ | refine et_yes ?_
  | refine o_plusI ?_ | refine o_i0 ?_ | refine o_b0 ?_ | refine o_isN ?_ | refine o_notN ?_
  | refine bl_ex ?_ | refine int_ex ?_ | refine str_ex ?_ | refine lst_ex ?_ | refine tup_ex ?_)
local macro_rules | `(tactic| walk_at "yo") => `(tactic| first
  | ((with_reducible show Ev _ (tOp (rIx _) (tVar _) _) _ _); refine ev_ixOwn rfl ?_)
  | ((with_reducible show Ev _ (tCB _ (tCons (tVar _) tNil)) _ _); refine ev_lenOwn rfl ?_)
  | ((with_reducible show Sm _ (tAsg _ (gSub (tVar _) _ _)) _ _); refine sm_setItem rfl ?_)
  | ((with_reducible show Ev _ (tCall (spB _ _ _) _ _ _) _ _); refine ev_callB rfl rfl ?_))
local macro_rules | `(tactic| walk_at "yc") => `(tactic| first
  | ((with_reducible show CMul _ _); first | exact Or.inr ⟨by decide, by decide⟩ | exact Or.inl ⟨by decide, by decide⟩ | exact Or.inr ⟨by omega, by omega⟩ | exact Or.inl ⟨by omega, by omega⟩)
  | ((with_reducible show CDiv _ _); exact ⟨by first | decide | omega, by first | decide | omega⟩)
  | ((with_reducible show CPow _ _); exact ⟨by decide, by decide, by first | decide | omega⟩)
  | ((show (0 : Int) < _); first | decide | omega))
local macro_rules | `(tactic| walk_at "yd") => `(tactic| first
  | ((with_reducible show plainD _ = true ∧ _); refine ⟨by first | rfl | assumption, ?_⟩)
  | ((with_reducible show (_ = true → _) ∧ (_ = false → _)); first | refine way_t rfl ?_ | refine way_f rfl ?_ | refine way_t (by decide +kernel) ?_ | refine way_f (by decide +kernel) ?_)
  | ((with_reducible show Cal _ _ _ _ _); first | (with_reducible refine c_int ?_) | (with_reducible refine c_abs ?_) | (refine c_len rfl ?_) | (refine c_len (if_pos (by assumption)) ?_))
  | ((with_reducible show Op2 _ (rEqA _) _ _ _ _); refine o_eqA rfl ?_)
  | ((with_reducible show Op2 _ (rNeA _) _ _ _ _); refine o_neA rfl ?_)
  | ((with_reducible show Op2 _ (rInA _) _ (Dt.str _) (Dt.lst _) _); refine o_inAL rfl rfl ?_)
  | ((with_reducible show Op2 _ (rInA _) _ (Dt.str _) (Dt.tup _) _); refine o_inAT rfl rfl ?_)
  | ((with_reducible show Op2 _ (rI _ _) _ _ _ _); refine o_i (by walk_at "yc") ?_)
  | ((with_reducible show Op2 _ (rIx _) _ (Dt.tup _) _ _); refine o_ixAT (atI_toNat (by decide) rfl) ?_)
  | ((with_reducible show Op2 _ (rIx _) _ (Dt.lst _) _ _); refine o_ixAL (atI_toNat (by decide) rfl) ?_)
  | ((with_reducible show ∃ x, atI _ _ = some x ∧ _); refine ⟨_, rfl, ?_⟩)
  | ((with_reducible show ∃ x, ixN _ _ = some x ∧ _); refine ⟨_, rfl, ?_⟩)
  | ((with_reducible show List.length _ ≤ 100000 ∧ _); refine ⟨by (try simp only [List.length_cons, List.length_nil]); first | decide | omega, ?_⟩))
local macro_rules | `(tactic| walk_at "y") => `(tactic| first | walk_at "yo" | walk_at "ye" | walk_at "yv" | walk_at "ys" | walk_at "yd")
local macro_rules | `(tactic| walk_at "yx") => `(tactic| first | walk_at "yo" | walk_at "ye" | walk_at "yv" | walk_at "yd")
theorem gkr_sum_of_0_other_one {K : PySem.W.Frag} : ∀ (F : Hp) (vs : List V) (ds : List Dt) (zs : List V) (as : List Dt), RpAll K F vs ds → RpAll K F zs as → RpAll K F (gk_sum_of_0_other_one vs zs) (gk_sum_of_0_other_one ds as) := by
  intro F vs ds zs as h1 h2
  cases h1 with
  | cons _ _ => first | exact .nil | (cases h2 <;> exact .nil)
  | nil =>
    cases h2 with
    | nil => exact .nil
    | cons b0 t20 =>
      cases t20 with
      | nil => exact .nil
      | cons b1 t21 =>
        cases t21 with
        | cons _ _ => exact .nil
        | nil =>
          exact .cons b1 (.cons b0 .nil)
theorem gkr_in_place_0_cells_value {K : PySem.W.Frag} : ∀ (F : Hp) (vs : List V) (ds : List Dt) (zs : List V) (as : List Dt), RpAll K F vs ds → RpAll K F zs as → RpAll K F (gk_in_place_0_cells_value vs zs) (gk_in_place_0_cells_value ds as) := by
  intro F vs ds zs as h1 h2
  cases h1 with
  | cons _ _ => first | exact .nil | (cases h2 <;> exact .nil)
  | nil =>
    cases h2 with
    | nil => exact .nil
    | cons b0 t20 =>
      cases t20 with
      | nil => exact .nil
      | cons b1 t21 =>
        cases t21 with
        | cons _ _ => exact .nil
        | nil =>
          exact .cons b1 (.cons b0 .nil)
theorem gkv_sum_of_0_other_one : ∀ (vs : List V) (ds : List Value) (zs : List V) (as : List Value), Vals vs ds → Vals zs as → Vals (gk_sum_of_0_other_one vs zs) (gk_sum_of_0_other_one ds as) := by
  intro vs ds zs as h1 h2
  cases h1 with
  | cons _ _ => first | exact .nil | (cases h2 <;> exact .nil)
  | nil =>
    cases h2 with
    | nil => exact .nil
    | cons b0 t20 =>
      cases t20 with
      | nil => exact .nil
      | cons b1 t21 =>
        cases t21 with
        | cons _ _ => exact .nil
        | nil =>
          exact .cons b1 (.cons b0 .nil)
theorem gkv_in_place_0_cells_value : ∀ (vs : List V) (ds : List Value) (zs : List V) (as : List Value), Vals vs ds → Vals zs as → Vals (gk_in_place_0_cells_value vs zs) (gk_in_place_0_cells_value ds as) := by
  intro vs ds zs as h1 h2
  cases h1 with
  | cons _ _ => first | exact .nil | (cases h2 <;> exact .nil)
  | nil =>
    cases h2 with
    | nil => exact .nil
    | cons b0 t20 =>
      cases t20 with
      | nil => exact .nil
      | cons b1 t21 =>
        cases t21 with
        | cons _ _ => exact .nil
        | nil =>
          exact .cons b1 (.cons b0 .nil)


theorem four_of {ss : List Str} (h : (ss.length : Int) = 4) : ∃ a b c e, ss = [a, b, c, e] := by
  match ss, h with
  | [a, b, c, e], _ => exact ⟨a, b, c, e, rfl⟩
  | [], h => simp at h
  | [_], h => simp at h
  | [_, _], h => simp at h
  | [_, _, _], h => simp at h
  | _ :: _ :: _ :: _ :: _ :: _, h => exact absurd h (by simp only [List.length_cons]; omega)
theorem same4 {a b c d : Dt} (ha : a.pureD = true ∧ a.depth ≤ 2) (hb : b.pureD = true ∧ b.depth ≤ 2) (hc : c.pureD = true ∧ c.depth ≤ 2) (hd : d.pureD = true ∧ d.depth ≤ 2) : (Dt.lst [a, b, c, d]).pureD = true ∧ (Dt.lst [a, b, c, d]).depth < 6 := by
  refine ⟨?_, ?_⟩
  · simp [Dt.pureD, pureAll, ha.1, hb.1, hc.1, hd.1]
  · simp only [Dt.depth, depthAll]; omega
theorem bls_pure : ∀ bs : List Bool, bs.length < 50000 → (Dt.lst (bs.map Dt.bl)).pureD = true ∧ (Dt.lst (bs.map Dt.bl)).depth < 6 := by
  have h1 : ∀ bs : List Bool, pureAll (bs.map Dt.bl) = true ∧ depthAll (bs.map Dt.bl) = 0 := by
    intro bs
    induction bs with
    | nil => simp [pureAll, depthAll]
    | cons b bs ih => simp [pureAll, depthAll, Dt.pureD, Dt.depth, ih.1, ih.2]
  intro bs hl
  refine ⟨?_, ?_⟩
  · unfold Dt.pureD; rw [(h1 bs).1, List.length_map, decide_eq_true hl]; rfl
  · unfold Dt.depth; rw [(h1 bs).2]; decide
section
variable {P : Program} {w : World} {K : PySem.W.Frag} {mg : Str → Option Value} {base : Heap}

theorem ok_law (T : Tx K mg w) : FnOk P w K mg base CX0 13 T.a_law T.d_law ["_law_script"] (spLaw K) := by
  have G__law_bag := ok__law_bag (P := P) (w := w) (base := base) T
  have G__law_draw := ok__law_draw (P := P) (w := w) (base := base) T
  have G__law_words := ok__law_words (P := P) (w := w) (base := base) T
  have G__law_any_value := ok__law_any_value (P := P) (w := w) (base := base) T
  have G__law_is_value := ok__law_is_value (P := P) (w := w) (base := base) T
  have G__law_same := ok__law_same (P := P) (w := w) (base := base) T 6
  have G__law_sum := ok__law_sum (P := P) (w := w) (base := base) T
  have G__law_less := ok__law_less (P := P) (w := w) (base := base) T
  have G__law_odd := ok__law_odd (P := P) (w := w) (base := base) T
  have G_sum_of := ok_sum_of (P := P) (w := w) (base := base) T
  have G_difference := ok_difference (P := P) (w := w) (base := base) T
  have G_is_address := ok_is_address (P := P) (w := w) (base := base) T
  have G_in_place := ok_in_place (P := P) (w := w) (base := base) T
  refine fn_law T.F_law sc_law (fun cdv A outer s H E hr => ⟨_, (pss_cons (ps_set (i := 1) sc_law.nd rfl (Or.inl rfl) (pe_call G__law_bag (hr.mono (by decide)) (by rfl) T.m__law_bag T.k__law_bag T.b__law_bag .nil pass0 (pa_cons (pv 0) pa_nil)))
      (pss_cons (ps_set (i := 2) sc_law.nd rfl (Or.inl rfl) (pe_call G__law_words (hr.mono (by decide)) (by rfl) T.m__law_words T.k__law_words T.b__law_words .nil pass0 (pa_cons (pv 1) (pa_cons pe_int pa_nil))))
      (pss_cons (ps_set (i := 3) sc_law.nd rfl (Or.inl rfl) (pe_tup (pa_cons (pe_ix (ix_any (K := K)) (pv 2) pe_int (fun _ _ => rfl)) (pa_cons pe_str (pa_cons (pe_ix (ix_any (K := K)) (pv 2) pe_int (fun _ _ => rfl)) pa_nil)))))
      (pss_cons (ps_for PassesOwn.never rfl (pi_range1 (by rfl) T.n_range (pa_cons pe_int pa_nil)) (pg_name (i := 4) sc_law.nd rfl (Or.inl rfl)) (pss_cons (ps_par rfl sc_law.nd (i := 5) (j := 6) rfl rfl (by decide) rfl rfl (pa_cons (pe_call G__law_any_value (hr.mono (by decide)) (by rfl) T.m__law_any_value T.k__law_any_value T.b__law_any_value .nil pass0 (pa_cons (pv 1) (pa_cons (pv 2) pa_nil))) (pa_cons (pe_call G__law_any_value (hr.mono (by decide)) (by rfl) T.m__law_any_value T.k__law_any_value T.b__law_any_value .nil pass0 (pa_cons (pv 1) (pa_cons (pv 2) pa_nil))) pa_nil)) rfl)
      (pss_cons (ps_if (PW.pt (pw_and (pt_cmpR (op_eqA (K := K) hr.units) (pe_call G__law_draw (hr.mono (by decide)) (by rfl) T.m__law_draw T.k__law_draw T.b__law_draw .nil pass0 (pa_cons (pv 1) (pa_cons pe_int pa_nil))) pe_int (nomark _)) (pw_and1 (pt_val (pe_call G__law_is_value (hr.mono (by decide)) (by rfl) T.m__law_is_value T.k__law_is_value T.b__law_is_value .nil pass0 (pa_cons (pv 5) pa_nil)))))) (pss_one (ps_set (i := 6) sc_law.nd rfl (Or.inl rfl) (pe_tup (pa_cons (pe_ix (ix_any (K := K)) (pv 5) pe_int (fun _ _ => rfl)) (pa_cons (pe_ix (ix_any (K := K)) (pv 5) pe_int (fun _ _ => rfl)) (pa_cons (pe_call G__law_draw (hr.mono (by decide)) (by rfl) T.m__law_draw T.k__law_draw T.b__law_draw .nil pass0 (pa_cons (pv 1) (pa_cons pe_int pa_nil))) pa_nil)))))) pss_nil)
      (pss_cons (ps_set (i := 7) sc_law.nd rfl (Or.inl rfl) (pe_lst (pa_cons (pe_call G_sum_of (hr.mono (by decide)) (by rfl) T.m_sum_of T.k_sum_of T.b_sum_of .nil pass0 (pa_cons (pv 5) (pa_cons (pv 6) pa_nil))) (pa_cons (pe_callN0 G_sum_of (hr.mono (by decide)) (by rfl) T.m_sum_of T.k_sum_of T.kb_sum_of_0_other_one pass0 (pk_cons (pv 5) (pk_cons (pv 6) pk_nil))) (pa_cons (pe_call G_difference (hr.mono (by decide)) (by rfl) T.m_difference T.k_difference T.b_difference .nil pass0 (pa_cons (pv 5) (pa_cons (pv 6) pa_nil))) (pa_cons (pe_call G_difference (hr.mono (by decide)) (by rfl) T.m_difference T.k_difference T.b_difference .nil pass0 (pa_cons (pv 6) (pa_cons (pv 5) pa_nil))) pa_nil))))))
      (pss_cons (ps_if (pt_not (pt_val (pe_call G__law_same (hr.mono (by decide)) (by rfl) T.m__law_same T.k__law_same T.b__law_same .nil pass0 (pa_cons (pv 7) (pa_cons (pe_lst (pa_cons (pe_call G__law_sum (hr.mono (by decide)) (by rfl) T.m__law_sum T.k__law_sum T.b__law_sum .nil pass0 (pa_cons (pv 5) (pa_cons (pv 6) pa_nil))) (pa_cons (pe_call G__law_sum (hr.mono (by decide)) (by rfl) T.m__law_sum T.k__law_sum T.b__law_sum .nil pass0 (pa_cons (pv 5) (pa_cons (pv 6) pa_nil))) (pa_cons (pe_call G__law_less (hr.mono (by decide)) (by rfl) T.m__law_less T.k__law_less T.b__law_less .nil pass0 (pa_cons (pv 5) (pa_cons (pv 6) pa_nil))) (pa_cons (pe_call G__law_less (hr.mono (by decide)) (by rfl) T.m__law_less T.k__law_less T.b__law_less .nil pass0 (pa_cons (pv 6) (pa_cons (pv 5) pa_nil))) pa_nil))))) pa_nil))))) (pss_one (ps_ret pe_bl)) pss_nil)
      (pss_cons (ps_if (pt_not (pt_val (pe_call G__law_same (hr.mono (by decide)) (by rfl) T.m__law_same T.k__law_same T.b__law_same .nil pass0 (pa_cons (pe_lst (pa_cons (pe_call G_is_address (hr.mono (by decide)) (by rfl) T.m_is_address T.k_is_address T.b_is_address .nil pass0 (pa_cons (pv 5) pa_nil)) (pa_cons (pe_call G_is_address (hr.mono (by decide)) (by rfl) T.m_is_address T.k_is_address T.b_is_address .nil pass0 (pa_cons (pv 6) pa_nil)) pa_nil))) (pa_cons (pe_lst (pa_cons (pe_call G__law_is_value (hr.mono (by decide)) (by rfl) T.m__law_is_value T.k__law_is_value T.b__law_is_value .nil pass0 (pa_cons (pv 5) pa_nil)) (pa_cons (pe_call G__law_is_value (hr.mono (by decide)) (by rfl) T.m__law_is_value T.k__law_is_value T.b__law_is_value .nil pass0 (pa_cons (pv 6) pa_nil)) pa_nil))) pa_nil))))) (pss_one (ps_ret pe_bl)) pss_nil)
      (pss_one (ps_if (PW.pt (pw_and (pt_val (pe_call G__law_is_value (hr.mono (by decide)) (by rfl) T.m__law_is_value T.k__law_is_value T.b__law_is_value .nil pass0 (pa_cons (pv 5) pa_nil))) (pw_and1 (pt_cmpR (op_neA (K := K) hr.units) (pe_ix (ix_any (K := K)) (pe_ix (ix_any (K := K)) (pv 5) pe_int (fun _ _ => rfl)) pe_int (fun _ _ => rfl)) pe_str (nomark _))))) (pss_cons (ps_set (i := 8) sc_law.nd rfl (Or.inl rfl) (pe_ix (ix_any (K := K)) (pv 5) pe_int (fun _ _ => rfl)))
      (pss_one (ps_if (pt_not (pt_val (pe_call G__law_same (hr.mono (by decide)) (by rfl) T.m__law_same T.k__law_same T.b__law_same .nil pass0 (pa_cons (pe_lst (pa_cons (pe_call G_in_place (hr.mono (by decide)) (by rfl) T.m_in_place T.k_in_place T.b_in_place .nil pass0 (pa_cons (pv 5) (pa_cons (pv 8) pa_nil))) (pa_cons (pe_call G_in_place (hr.mono (by decide)) (by rfl) T.m_in_place T.k_in_place T.b_in_place .nil pass0 (pa_cons (pv 5) (pa_cons (pe_op (op_plus (K := K)) (pv 8) pe_int) pa_nil))) (pa_cons (pe_callN0 G_in_place (hr.mono (by decide)) (by rfl) T.m_in_place T.k_in_place T.kb_in_place_0_cells_value pass0 (pk_cons pe_int (pk_cons (pv 5) pk_nil))) pa_nil)))) (pa_cons (pe_lst (pa_cons pe_bl (pa_cons pe_bl (pa_cons pe_bl pa_nil)))) pa_nil))))) (pss_one (ps_ret pe_bl)) pss_nil))) (pss_one (ps_if (PW.pt (pw_and (pt_val (pe_call G__law_is_value (hr.mono (by decide)) (by rfl) T.m__law_is_value T.k__law_is_value T.b__law_is_value .nil pass0 (pa_cons (pv 5) pa_nil))) (pw_and1 (pt_not (pt_val (pe_call G__law_same (hr.mono (by decide)) (by rfl) T.m__law_same T.k__law_same T.b__law_same .nil pass0 (pa_cons (pe_lst (pa_cons (pe_call G_in_place (hr.mono (by decide)) (by rfl) T.m_in_place T.k_in_place T.b_in_place .nil pass0 (pa_cons (pv 5) (pa_cons pe_int pa_nil))) (pa_cons (pe_callN0 G_in_place (hr.mono (by decide)) (by rfl) T.m_in_place T.k_in_place T.kb_in_place_0_cells_value pass0 (pk_cons pe_int (pk_cons (pv 5) pk_nil))) pa_nil))) (pa_cons (pe_lst (pa_cons (pe_cmpR (op_eqA (K := K) hr.units) (pe_ix (ix_any (K := K)) (pv 5) pe_int (fun _ _ => rfl)) pe_int (nomark _)) (pa_cons (pe_cmpR (op_eqA (K := K) hr.units) (pe_ix (ix_any (K := K)) (pv 5) pe_int (fun _ _ => rfl)) pe_int (nomark _)) pa_nil))) pa_nil)))))))) (pss_one (ps_ret pe_bl)) pss_nil))))))))))
      (pss_cons (ps_set (i := 9) sc_law.nd rfl (Or.inl rfl) (pe_lst (pa_cons pe_non (pa_cons pe_int (pa_cons pe_int (pa_cons pe_str (pa_cons (pe_lst (pa_cons pe_int (pa_cons (pv 3) (pa_cons pe_int pa_nil)))) (pa_cons (pe_tup (pa_cons pe_int (pa_cons (pv 3) pa_nil))) (pa_cons (pe_tup (pa_cons pe_int (pa_cons (pv 3) (pa_cons pe_int (pa_cons pe_int pa_nil))))) (pa_cons (pe_tup (pa_cons (pe_un un_neg pe_int) (pa_cons (pv 3) (pa_cons pe_int pa_nil)))) (pa_cons (pe_tup (pa_cons pe_bl (pa_cons (pv 3) (pa_cons pe_int pa_nil)))) (pa_cons (pe_tup (pa_cons pe_int (pa_cons (pv 3) (pa_cons pe_int pa_nil)))) (pa_cons (pe_tup (pa_cons pe_int (pa_cons (pv 3) (pa_cons (pe_un un_neg pe_int) pa_nil)))) (pa_cons (pe_tup (pa_cons pe_int (pa_cons (pv 3) (pa_cons pe_bl pa_nil)))) (pa_cons (pe_tup (pa_cons pe_int (pa_cons (pe_callTy (call_listB (K := K) rfl) (by rfl) T.n_list PyProof.Rows.boot_list (pa_cons (pv 3) pa_nil)) (pa_cons pe_int pa_nil)))) (pa_cons (pe_tup (pa_cons pe_int (pa_cons (pe_slice (sl_any (K := K)) (pv 3) po_none (po_some pe_int)) (pa_cons pe_int pa_nil)))) (pa_cons (pe_tup (pa_cons pe_int (pa_cons (pe_tup (pa_cons (pe_ix (ix_any (K := K)) (pv 2) pe_int (fun _ _ => rfl)) (pa_cons pe_non (pa_cons (pe_ix (ix_any (K := K)) (pv 2) pe_int (fun _ _ => rfl)) pa_nil)))) (pa_cons pe_int pa_nil)))) (pa_cons (pe_tup (pa_cons pe_str (pa_cons (pv 3) (pa_cons pe_int pa_nil)))) (pa_cons (pe_tup (pa_cons pe_non (pa_cons (pv 3) (pa_cons pe_int pa_nil)))) (pa_cons (pe_call G__law_odd (hr.mono (by decide)) (by rfl) T.m__law_odd T.k__law_odd T.b__law_odd .nil pass0 (pa_cons (pv 1) pa_nil)) pa_nil))))))))))))))))))))
      (pss_one (ps_ret (pe_and (pe_call G__law_same (hr.mono (by decide)) (by rfl) T.m__law_same T.k__law_same T.b__law_same .nil pass0 (pa_cons (pe_lc (own := [("_law_value", 10)]) (g := gName 10) rfl sc_law.nd (pi_listA (K := K) (pv 9)) (blkOk_by (N := ["_law_script", "_law_bag_here", "_law_words_here", "_law_owner", "_law_turn", "_law_one", "_law_other", "_law_found", "_law_few", "_law_odd_here", "_law_value"]) (sc := defScope s_law) (by decide +kernel)) (fun _ _ _ _ _ => (pg_name (i := 10) sc_law.nd rfl (Or.inl rfl))) (fun _ _ _ _ _ => pts_nil) (fun _ _ _ _ _ => (pe_call G_is_address (hr.mono (by decide)) (by rfl) T.m_is_address T.k_is_address T.b_is_address .nil pass0 (pa_cons (pv 10) pa_nil)))) (pa_cons (pe_op op_rep (pe_lst (pa_cons pe_bl pa_nil)) pe_int) pa_nil))) (pe_one (pe_call G_is_address (hr.mono (by decide)) (by rfl) T.m_is_address T.k_is_address T.b_is_address .nil pass0 (pa_cons (pe_tup (pa_cons pe_int (pa_cons (pv 3) (pa_cons pe_int pa_nil)))) pa_nil))))))))))), fun F0 H0 a b => ?_⟩) (by decide)
  dsimp only [cxOf, env0, env1, List.map, List.length, List.replicate, List.cons_append, List.nil_append, List.append, Nat.reduceAdd, Nat.reduceSub, Nat.zero_add]
  refine sm_seq (sm_set ?_)
  repeat walk_at "yx"
  refine words_k ⟨by decide, by decide⟩ fun ss h1 h2 => ?_
  obtain ⟨s0, s1, s2, s3, rfl⟩ := four_of h1
  have o0 := h2 s0 (by simp)
  have o1 := h2 s1 (by simp)
  have o2 := h2 s2 (by simp)
  have o3 := h2 s3 (by simp)
  have hany : anyPre [.lst [.str s0, .str s1, .str s2, .str s3]] := ⟨_, _, _, _, rfl, o0, o1, o2, o3⟩
  have hown : OwnS (.tup [.str s0, .str "", .str s1]) := ⟨_, _, _, rfl, o0, by decide +kernel, o1⟩
  refine sm_seq (sm_set ?_)
  repeat walk_at "yx"
  refine sm_seq (sm_for (ei_rng1 ?_))
  repeat walk_at "yx"
  refine ⟨12, rfl, by decide, by decide, fun _ e => ∃ s4 s5 s6 s7 s8 s9 s10, e = [.r (.ref a), .r (.ref b), .d (.lst [.str s0, .str s1, .str s2, .str s3]), .d (.tup [.str s0, .str "", .str s1]), s4, s5, s6, s7, s8, s9, s10], ⟨_, _, _, _, _, _, _, rfl⟩, ?_, ?_⟩
  · rintro i x es' hx ⟨s4, s5, s6, s7, s8, s9, s10, rfl⟩
    refine tg_name ?_
    refine sm_seq (sm_par ?_)
    repeat walk_at "yx"
    refine any_k hany fun x1 hv1 => ?_
    repeat walk_at "yx"
    refine any_k hany fun x2 hv2 => ?_
    repeat walk_at "yx"
    refine ⟨_, _, rfl, ?_⟩
    refine sm_cut (fun e => ∃ s4 x2 s7 s8 s9 s10, e = [.r (.ref a), .r (.ref b), .d (.lst [.str s0, .str s1, .str s2, .str s3]), .d (.tup [.str s0, .str "", .str s1]), s4, .d x1, .d x2, s7, s8, s9, s10] ∧ ValD x2) ?_ ?_
    · refine sm_if ?_
      repeat walk_at "yx"
      refine draw_k ⟨by decide, by decide⟩ fun d d0 d1 => ?_
      repeat walk_at "yx"
      refine ways (fun h => ?_) (fun h => ?_)
      · repeat walk_at "yx"
        refine isv_k (val_plain hv1) ?_
        rcases hv1 with ⟨i, rfl, _⟩ | ⟨k, o, t, rfl, hk, ho, t0, t1⟩
        · repeat walk_at "y"
          exact ⟨_, _, _, _, _, _, rfl, hv2⟩
        · repeat walk_at "y"
          refine draw_k ⟨by decide, by decide⟩ fun v v0 v1 => ?_
          repeat walk_at "y"
          exact ⟨_, _, _, _, _, _, rfl, .inr ⟨k, o, v, rfl, hk, ho, v0, by omega⟩⟩
      · repeat walk_at "y"
        exact ⟨_, _, _, _, _, _, rfl, hv2⟩
    rintro es' ⟨s4, x2, s7, s8, s9, s10, rfl, hv2⟩
    have ec : sumD x2 x1 = sumD x1 x2 := sum_comm hv1 hv2
    refine sm_seq (sm_set (ev_lst (ea_cons (ev_call ?_))))
    repeat walk_at "yx"
    refine sum_k hv1 hv2 ?_
    refine ea_cons (ev_callN (gD := gk_sum_of_0_other_one) gkr_sum_of_0_other_one ?_)
    repeat walk_at "yx"
    refine ⟨rfl, rfl, sum_k hv2 hv1 ?_⟩
    repeat walk_at "yx"
    refine dif_k hv1 hv2 ?_
    repeat walk_at "yx"
    refine dif_k hv2 hv1 ?_
    repeat walk_at "yx"
    rw [ec]
    refine sm_seq (sm_if ?_)
    repeat walk_at "yx"
    refine sum_k hv1 hv2 ?_
    repeat walk_at "yx"
    refine sum_k hv1 hv2 ?_
    repeat walk_at "yx"
    refine dif_k hv1 hv2 ?_
    repeat walk_at "yx"
    refine dif_k hv2 hv1 ?_
    repeat walk_at "yx"
    have hp4 := same4 (sum_pure hv1 hv2) (sum_pure hv1 hv2) (dif_pure hv1 hv2) (dif_pure hv2 hv1)
    refine same_k rfl hp4.1 hp4.2 ?_
    repeat walk_at "yx"
    refine sm_next (sm_seq (sm_if ?_))
    obtain ⟨p1, a1⟩ := val_adr hv1
    obtain ⟨p2, a2⟩ := val_adr hv2
    repeat walk_at "yx"
    refine adr_k p1 ?_
    repeat walk_at "yx"
    refine adr_k p2 ?_
    repeat walk_at "yx"
    refine isv_k (val_plain hv1) ?_
    repeat walk_at "yx"
    refine isv_k (val_plain hv2) ?_
    repeat walk_at "yx"
    rw [a1, a2]
    refine same_k rfl (bls_pure [_, _] (by show 2 < 50000; decide)).1 (bls_pure [_, _] (by show 2 < 50000; decide)).2 ?_
    repeat walk_at "yx"
    refine sm_next (sm_if ?_)
    repeat walk_at "yx"
    refine isv_k (val_plain hv1) ?_
    rcases hv1 with ⟨i, rfl, _⟩ | ⟨k, o, t, rfl, hk, ho, t0, t1⟩
    · repeat walk_at "yx"
      refine sm_if ?_
      repeat walk_at "yx"
      refine isv_k rfl ?_
      repeat walk_at "yx"
      refine sm_next ?_
      exact ⟨_, _, _, _, _, _, _, rfl⟩
    · have ho1 := ho
      obtain ⟨q0, q1, q2, rfl, _⟩ := ho1
      repeat walk_at "yx"
      refine ways (fun h => ?_) (fun h => ?_)
      · refine sm_seq (sm_set ?_)
        repeat walk_at "yx"
        refine sm_if (et_not (et_test (ev_call (ea_cons (ev_lst (ea_cons (ev_call ?_)))))))
        repeat walk_at "yx"
        refine in_k ?_
        repeat walk_at "yx"
        refine in_k ?_
        refine ea_cons (ev_callN (gD := gk_in_place_0_cells_value) gkr_in_place_0_cells_value ?_)
        repeat walk_at "yx"
        refine ⟨rfl, rfl, in_k ?_⟩
        repeat walk_at "yx"
        rw [decide_eq_false (show ¬ t < t by omega), decide_eq_true (show t < t + 1 by omega), decide_eq_false (show ¬ t < 0 by omega)]
        refine same_k rfl (bls_pure [_, _, _] (by decide)).1 (bls_pure [_, _, _] (by decide)).2 ?_
        repeat walk_at "y"
        exact ⟨_, _, _, _, _, _, _, rfl⟩
      · refine sm_if ?_
        repeat walk_at "yx"
        refine isv_k rfl ?_
        repeat walk_at "yx"
        refine in_k ?_
        refine ea_cons (ev_callN (gD := gk_in_place_0_cells_value) gkr_in_place_0_cells_value ?_)
        repeat walk_at "yx"
        refine ⟨rfl, rfl, in_k ?_⟩
        repeat walk_at "yx"
        have et : decide (t < 1) = decide (t = 0) := by
          by_cases e : t = 0
          · rw [decide_eq_true e, decide_eq_true (by omega)]
          · rw [decide_eq_false e, decide_eq_false (by omega)]
        rw [et]
        refine same_k rfl (bls_pure [_, _] (by show 2 < 50000; decide)).1 (bls_pure [_, _] (by show 2 < 50000; decide)).2 ?_
        repeat walk_at "y"
        exact ⟨_, _, _, _, _, _, _, rfl⟩
  · rintro es' ⟨s4, s5, s6, s7, s8, s9, s10, rfl⟩
    refine sm_seq (sm_set (ev_lst ?_))
    repeat walk_at "yx"
    refine c_listT ?_
    repeat walk_at "yx"
    refine ev_cut2 (ev_var rfl ⟨_, _, _, rfl, ?_⟩)
    repeat walk_at "yx"
    refine odd2_k fun od hod => ?_
    have hod1 : tupB (tupB plainD) od = true := by unfold oddP at hod; rw [Bool.and_eq_true] at hod; exact hod.1
    have hod2 : isAddrD od = false := by unfold oddP at hod; rw [Bool.and_eq_true] at hod; simpa using hod.2
    repeat walk_at "yx"
    generalize hL : [Dt.non, Dt.int 0, Dt.int 65536, Dt.str "a", Dt.lst [Dt.int 0, Dt.tup [.str s0, .str "", .str s1], Dt.int 0], Dt.tup [Dt.int 0, Dt.tup [.str s0, .str "", .str s1]], Dt.tup [Dt.int 0, Dt.tup [.str s0, .str "", .str s1], Dt.int 0, Dt.int 0], Dt.tup [Dt.int (-1), Dt.tup [.str s0, .str "", .str s1], Dt.int 0], Dt.tup [Dt.bl true, Dt.tup [.str s0, .str "", .str s1], Dt.int 0], Dt.tup [Dt.int 0, Dt.tup [.str s0, .str "", .str s1], Dt.int 65536], Dt.tup [Dt.int 0, Dt.tup [.str s0, .str "", .str s1], Dt.int (-1)], Dt.tup [Dt.int 0, Dt.tup [.str s0, .str "", .str s1], Dt.bl false], Dt.tup [Dt.int 0, Dt.lst [.str s0, .str "", .str s1], Dt.int 0], Dt.tup [Dt.int 0, Dt.tup [.str s0, .str ""], Dt.int 0], Dt.tup [Dt.int 0, Dt.tup [.str s0, .non, .str s1], Dt.int 0], Dt.tup [Dt.str "0", Dt.tup [.str s0, .str "", .str s1], Dt.int 0], Dt.tup [Dt.non, Dt.tup [.str s0, .str "", .str s1], Dt.int 0], od] = L
    have hall : L.length = 18 ∧ ∀ x ∈ L, tupB (tupB plainD) x = true ∧ isAddrD x = false := by
      subst hL
      refine ⟨rfl, fun x hx => ?_⟩
      simp only [List.mem_cons, List.not_mem_nil, or_false] at hx
      rcases hx with rfl | rfl | rfl | rfl | rfl | rfl | rfl | rfl | rfl | rfl | rfl | rfl | rfl | rfl | rfl | rfl | rfl | rfl
      all_goals first | exact ⟨hod1, hod2⟩ | exact ⟨rfl, rfl⟩
    obtain ⟨hl18, hall⟩ := hall
    clear hL
    refine sm_ret (ev_and ?_)
    refine ev_call (ea_cons (EvO.ev (eo_mapF (fun _ => .bl false) (ei_list (ev_var rfl (lst_ex ⟨by omega, fun x hx => tc_name ?_, ?_⟩))))))
    · repeat walk_at "yx"
      refine adr_k (hall x hx).1 ?_
      rw [(hall x hx).2]
    · refine ea_cons (EvO.ev (eo_rep ?_))
      repeat walk_at "yx"
      refine ⟨⟨by decide, by decide, by decide⟩, ?_⟩
      repeat walk_at "yx"
      have e1 : L.map (fun _ => Dt.bl false) = (List.replicate 18 false).map Dt.bl := by
        rw [List.map_const', hl18, List.map_replicate]
      have e2 : (List.replicate (18 : Int).toNat [Dt.bl false]).flatten = (List.replicate 18 false).map Dt.bl := rfl
      rw [e1, e2]
      refine same_k rfl (bls_pure _ (by decide)).1 (bls_pure _ (by decide)).2 ?_
      repeat walk_at "yx"
      have ha4 : tupB (tupB plainD) (.tup [.int 4, .tup [.str s0, .str "", .str s1], .int 65535]) = true := rfl
      refine adr_k ha4 rfl
end
theorem all_mk {l : PySem.W.OpenLaw} {w : World} {K : PySem.W.Frag} {h : Heap} {mg : Str → Option Value} {fa : Addr} (X : K.In h) (G : h.Ns mainGlobals mg) (hfa : mg "law" = some (.ref fa))
    {f_is_number : Addr} {od_is_number an_is_number : Option Addr} {sl_is_number : Array (Option Value)} {oc_is_number kV_is_number dc_is_number pm_is_number cd_is_number ct_is_number : Value}
    (a_is_number : PySem.W.nsIn K mainGlobals "is_number" = some (some (.ref f_is_number))) (l_is_number : K.lookup f_is_number = some ⟨oc_is_number, od_is_number, .func (PySem.W.fnOf "is_number" "is_number" (defArgs s_is_number) (defBody s_is_number) (defScope s_is_number) .none kV_is_number dc_is_number pm_is_number an_is_number cd_is_number ct_is_number), sl_is_number⟩) (c_is_number : PySem.W.codeIn K cd_is_number "is_number" = true) (k_is_number : PySem.W.keepIn K (.ref f_is_number) = true)
    {f_is_word : Addr} {od_is_word an_is_word : Option Addr} {sl_is_word : Array (Option Value)} {oc_is_word kV_is_word dc_is_word pm_is_word cd_is_word ct_is_word : Value}
    (a_is_word : PySem.W.nsIn K mainGlobals "is_word" = some (some (.ref f_is_word))) (l_is_word : K.lookup f_is_word = some ⟨oc_is_word, od_is_word, .func (PySem.W.fnOf "is_word" "is_word" (defArgs s_is_word) (defBody s_is_word) (defScope s_is_word) .none kV_is_word dc_is_word pm_is_word an_is_word cd_is_word ct_is_word), sl_is_word⟩) (c_is_word : PySem.W.codeIn K cd_is_word "is_word" = true) (k_is_word : PySem.W.keepIn K (.ref f_is_word) = true)
    {f_is_owner : Addr} {od_is_owner an_is_owner : Option Addr} {sl_is_owner : Array (Option Value)} {oc_is_owner kV_is_owner dc_is_owner pm_is_owner cd_is_owner ct_is_owner : Value}
    (a_is_owner : PySem.W.nsIn K mainGlobals "is_owner" = some (some (.ref f_is_owner))) (l_is_owner : K.lookup f_is_owner = some ⟨oc_is_owner, od_is_owner, .func (PySem.W.fnOf "is_owner" "is_owner" (defArgs s_is_owner) (defBody s_is_owner) (defScope s_is_owner) .none kV_is_owner dc_is_owner pm_is_owner an_is_owner cd_is_owner ct_is_owner), sl_is_owner⟩) (c_is_owner : PySem.W.codeIn K cd_is_owner "is_owner" = true) (k_is_owner : PySem.W.keepIn K (.ref f_is_owner) = true)
    {f_is_address : Addr} {od_is_address an_is_address : Option Addr} {sl_is_address : Array (Option Value)} {oc_is_address kV_is_address dc_is_address pm_is_address cd_is_address ct_is_address : Value}
    (a_is_address : PySem.W.nsIn K mainGlobals "is_address" = some (some (.ref f_is_address))) (l_is_address : K.lookup f_is_address = some ⟨oc_is_address, od_is_address, .func (PySem.W.fnOf "is_address" "is_address" (defArgs s_is_address) (defBody s_is_address) (defScope s_is_address) .none kV_is_address dc_is_address pm_is_address an_is_address cd_is_address ct_is_address), sl_is_address⟩) (c_is_address : PySem.W.codeIn K cd_is_address "is_address" = true) (k_is_address : PySem.W.keepIn K (.ref f_is_address) = true)
    {f_wrapped : Addr} {od_wrapped an_wrapped : Option Addr} {sl_wrapped : Array (Option Value)} {oc_wrapped kV_wrapped dc_wrapped pm_wrapped cd_wrapped ct_wrapped : Value}
    (a_wrapped : PySem.W.nsIn K mainGlobals "wrapped" = some (some (.ref f_wrapped))) (l_wrapped : K.lookup f_wrapped = some ⟨oc_wrapped, od_wrapped, .func (PySem.W.fnOf "wrapped" "wrapped" (defArgs s_wrapped) (defBody s_wrapped) (defScope s_wrapped) .none kV_wrapped dc_wrapped pm_wrapped an_wrapped cd_wrapped ct_wrapped), sl_wrapped⟩) (c_wrapped : PySem.W.codeIn K cd_wrapped "wrapped" = true) (k_wrapped : PySem.W.keepIn K (.ref f_wrapped) = true)
    {f_moved : Addr} {od_moved an_moved : Option Addr} {sl_moved : Array (Option Value)} {oc_moved kV_moved dc_moved pm_moved cd_moved ct_moved : Value}
    (a_moved : PySem.W.nsIn K mainGlobals "moved" = some (some (.ref f_moved))) (l_moved : K.lookup f_moved = some ⟨oc_moved, od_moved, .func (PySem.W.fnOf "moved" "moved" (defArgs s_moved) (defBody s_moved) (defScope s_moved) .none kV_moved dc_moved pm_moved an_moved cd_moved ct_moved), sl_moved⟩) (c_moved : PySem.W.codeIn K cd_moved "moved" = true) (k_moved : PySem.W.keepIn K (.ref f_moved) = true)
    {f_sum_of : Addr} {od_sum_of an_sum_of : Option Addr} {sl_sum_of : Array (Option Value)} {oc_sum_of kV_sum_of dc_sum_of pm_sum_of cd_sum_of ct_sum_of : Value}
    (a_sum_of : PySem.W.nsIn K mainGlobals "sum_of" = some (some (.ref f_sum_of))) (l_sum_of : K.lookup f_sum_of = some ⟨oc_sum_of, od_sum_of, .func (PySem.W.fnOf "sum_of" "sum_of" (defArgs s_sum_of) (defBody s_sum_of) (defScope s_sum_of) .none kV_sum_of dc_sum_of pm_sum_of an_sum_of cd_sum_of ct_sum_of), sl_sum_of⟩) (c_sum_of : PySem.W.codeIn K cd_sum_of "sum_of" = true) (k_sum_of : PySem.W.keepIn K (.ref f_sum_of) = true)
    {f_difference : Addr} {od_difference an_difference : Option Addr} {sl_difference : Array (Option Value)} {oc_difference kV_difference dc_difference pm_difference cd_difference ct_difference : Value}
    (a_difference : PySem.W.nsIn K mainGlobals "difference" = some (some (.ref f_difference))) (l_difference : K.lookup f_difference = some ⟨oc_difference, od_difference, .func (PySem.W.fnOf "difference" "difference" (defArgs s_difference) (defBody s_difference) (defScope s_difference) .none kV_difference dc_difference pm_difference an_difference cd_difference ct_difference), sl_difference⟩) (c_difference : PySem.W.codeIn K cd_difference "difference" = true) (k_difference : PySem.W.keepIn K (.ref f_difference) = true)
    {f_in_place : Addr} {od_in_place an_in_place : Option Addr} {sl_in_place : Array (Option Value)} {oc_in_place kV_in_place dc_in_place pm_in_place cd_in_place ct_in_place : Value}
    (a_in_place : PySem.W.nsIn K mainGlobals "in_place" = some (some (.ref f_in_place))) (l_in_place : K.lookup f_in_place = some ⟨oc_in_place, od_in_place, .func (PySem.W.fnOf "in_place" "in_place" (defArgs s_in_place) (defBody s_in_place) (defScope s_in_place) .none kV_in_place dc_in_place pm_in_place an_in_place cd_in_place ct_in_place), sl_in_place⟩) (c_in_place : PySem.W.codeIn K cd_in_place "in_place" = true) (k_in_place : PySem.W.keepIn K (.ref f_in_place) = true)
    {f__law_draw : Addr} {od__law_draw an__law_draw : Option Addr} {sl__law_draw : Array (Option Value)} {oc__law_draw kV__law_draw dc__law_draw pm__law_draw cd__law_draw ct__law_draw : Value}
    (a__law_draw : PySem.W.nsIn K mainGlobals "_law_draw" = some (some (.ref f__law_draw))) (l__law_draw : K.lookup f__law_draw = some ⟨oc__law_draw, od__law_draw, .func (PySem.W.fnOf "_law_draw" "_law_draw" (defArgs s__law_draw) (defBody s__law_draw) (defScope s__law_draw) .none kV__law_draw dc__law_draw pm__law_draw an__law_draw cd__law_draw ct__law_draw), sl__law_draw⟩) (c__law_draw : PySem.W.codeIn K cd__law_draw "_law_draw" = true) (k__law_draw : PySem.W.keepIn K (.ref f__law_draw) = true)
    {f__law_bag : Addr} {od__law_bag an__law_bag : Option Addr} {sl__law_bag : Array (Option Value)} {oc__law_bag kV__law_bag dc__law_bag pm__law_bag cd__law_bag ct__law_bag : Value}
    (a__law_bag : PySem.W.nsIn K mainGlobals "_law_bag" = some (some (.ref f__law_bag))) (l__law_bag : K.lookup f__law_bag = some ⟨oc__law_bag, od__law_bag, .func (PySem.W.fnOf "_law_bag" "_law_bag" (defArgs s__law_bag) (defBody s__law_bag) (defScope s__law_bag) .none kV__law_bag dc__law_bag pm__law_bag an__law_bag cd__law_bag ct__law_bag), sl__law_bag⟩) (c__law_bag : PySem.W.codeIn K cd__law_bag "_law_bag" = true) (k__law_bag : PySem.W.keepIn K (.ref f__law_bag) = true)
    {f__law_of : Addr} {od__law_of an__law_of : Option Addr} {sl__law_of : Array (Option Value)} {oc__law_of kV__law_of dc__law_of pm__law_of cd__law_of ct__law_of : Value}
    (a__law_of : PySem.W.nsIn K mainGlobals "_law_of" = some (some (.ref f__law_of))) (l__law_of : K.lookup f__law_of = some ⟨oc__law_of, od__law_of, .func (PySem.W.fnOf "_law_of" "_law_of" (defArgs s__law_of) (defBody s__law_of) (defScope s__law_of) .none kV__law_of dc__law_of pm__law_of an__law_of cd__law_of ct__law_of), sl__law_of⟩) (c__law_of : PySem.W.codeIn K cd__law_of "_law_of" = true) (k__law_of : PySem.W.keepIn K (.ref f__law_of) = true)
    {f__law_words : Addr} {od__law_words an__law_words : Option Addr} {sl__law_words : Array (Option Value)} {oc__law_words kV__law_words dc__law_words pm__law_words cd__law_words ct__law_words : Value}
    (a__law_words : PySem.W.nsIn K mainGlobals "_law_words" = some (some (.ref f__law_words))) (l__law_words : K.lookup f__law_words = some ⟨oc__law_words, od__law_words, .func (PySem.W.fnOf "_law_words" "_law_words" (defArgs s__law_words) (defBody s__law_words) (defScope s__law_words) .none kV__law_words dc__law_words pm__law_words an__law_words cd__law_words ct__law_words), sl__law_words⟩) (c__law_words : PySem.W.codeIn K cd__law_words "_law_words" = true) (k__law_words : PySem.W.keepIn K (.ref f__law_words) = true)
    {f__law_is_value : Addr} {od__law_is_value an__law_is_value : Option Addr} {sl__law_is_value : Array (Option Value)} {oc__law_is_value kV__law_is_value dc__law_is_value pm__law_is_value cd__law_is_value ct__law_is_value : Value}
    (a__law_is_value : PySem.W.nsIn K mainGlobals "_law_is_value" = some (some (.ref f__law_is_value))) (l__law_is_value : K.lookup f__law_is_value = some ⟨oc__law_is_value, od__law_is_value, .func (PySem.W.fnOf "_law_is_value" "_law_is_value" (defArgs s__law_is_value) (defBody s__law_is_value) (defScope s__law_is_value) .none kV__law_is_value dc__law_is_value pm__law_is_value an__law_is_value cd__law_is_value ct__law_is_value), sl__law_is_value⟩) (c__law_is_value : PySem.W.codeIn K cd__law_is_value "_law_is_value" = true) (k__law_is_value : PySem.W.keepIn K (.ref f__law_is_value) = true)
    {f__law_same : Addr} {od__law_same an__law_same : Option Addr} {sl__law_same : Array (Option Value)} {oc__law_same kV__law_same dc__law_same pm__law_same cd__law_same ct__law_same : Value}
    (a__law_same : PySem.W.nsIn K mainGlobals "_law_same" = some (some (.ref f__law_same))) (l__law_same : K.lookup f__law_same = some ⟨oc__law_same, od__law_same, .func (PySem.W.fnOf "_law_same" "_law_same" (defArgs s__law_same) (defBody s__law_same) (defScope s__law_same) .none kV__law_same dc__law_same pm__law_same an__law_same cd__law_same ct__law_same), sl__law_same⟩) (c__law_same : PySem.W.codeIn K cd__law_same "_law_same" = true) (k__law_same : PySem.W.keepIn K (.ref f__law_same) = true)
    {f__law_sum : Addr} {od__law_sum an__law_sum : Option Addr} {sl__law_sum : Array (Option Value)} {oc__law_sum kV__law_sum dc__law_sum pm__law_sum cd__law_sum ct__law_sum : Value}
    (a__law_sum : PySem.W.nsIn K mainGlobals "_law_sum" = some (some (.ref f__law_sum))) (l__law_sum : K.lookup f__law_sum = some ⟨oc__law_sum, od__law_sum, .func (PySem.W.fnOf "_law_sum" "_law_sum" (defArgs s__law_sum) (defBody s__law_sum) (defScope s__law_sum) .none kV__law_sum dc__law_sum pm__law_sum an__law_sum cd__law_sum ct__law_sum), sl__law_sum⟩) (c__law_sum : PySem.W.codeIn K cd__law_sum "_law_sum" = true) (k__law_sum : PySem.W.keepIn K (.ref f__law_sum) = true)
    {f__law_less : Addr} {od__law_less an__law_less : Option Addr} {sl__law_less : Array (Option Value)} {oc__law_less kV__law_less dc__law_less pm__law_less cd__law_less ct__law_less : Value}
    (a__law_less : PySem.W.nsIn K mainGlobals "_law_less" = some (some (.ref f__law_less))) (l__law_less : K.lookup f__law_less = some ⟨oc__law_less, od__law_less, .func (PySem.W.fnOf "_law_less" "_law_less" (defArgs s__law_less) (defBody s__law_less) (defScope s__law_less) .none kV__law_less dc__law_less pm__law_less an__law_less cd__law_less ct__law_less), sl__law_less⟩) (c__law_less : PySem.W.codeIn K cd__law_less "_law_less" = true) (k__law_less : PySem.W.keepIn K (.ref f__law_less) = true)
    {f__law_nest : Addr} {od__law_nest an__law_nest : Option Addr} {sl__law_nest : Array (Option Value)} {oc__law_nest kV__law_nest dc__law_nest pm__law_nest cd__law_nest ct__law_nest : Value}
    (a__law_nest : PySem.W.nsIn K mainGlobals "_law_nest" = some (some (.ref f__law_nest))) (l__law_nest : K.lookup f__law_nest = some ⟨oc__law_nest, od__law_nest, .func (PySem.W.fnOf "_law_nest" "_law_nest" (defArgs s__law_nest) (defBody s__law_nest) (defScope s__law_nest) .none kV__law_nest dc__law_nest pm__law_nest an__law_nest cd__law_nest ct__law_nest), sl__law_nest⟩) (c__law_nest : PySem.W.codeIn K cd__law_nest "_law_nest" = true) (k__law_nest : PySem.W.keepIn K (.ref f__law_nest) = true)
    {f__law_odd : Addr} {od__law_odd an__law_odd : Option Addr} {sl__law_odd : Array (Option Value)} {oc__law_odd kV__law_odd dc__law_odd pm__law_odd cd__law_odd ct__law_odd : Value}
    (a__law_odd : PySem.W.nsIn K mainGlobals "_law_odd" = some (some (.ref f__law_odd))) (l__law_odd : K.lookup f__law_odd = some ⟨oc__law_odd, od__law_odd, .func (PySem.W.fnOf "_law_odd" "_law_odd" (defArgs s__law_odd) (defBody s__law_odd) (defScope s__law_odd) .none kV__law_odd dc__law_odd pm__law_odd an__law_odd cd__law_odd ct__law_odd), sl__law_odd⟩) (c__law_odd : PySem.W.codeIn K cd__law_odd "_law_odd" = true) (k__law_odd : PySem.W.keepIn K (.ref f__law_odd) = true)
    {f__law_number : Addr} {od__law_number an__law_number : Option Addr} {sl__law_number : Array (Option Value)} {oc__law_number kV__law_number dc__law_number pm__law_number cd__law_number ct__law_number : Value}
    (a__law_number : PySem.W.nsIn K mainGlobals "_law_number" = some (some (.ref f__law_number))) (l__law_number : K.lookup f__law_number = some ⟨oc__law_number, od__law_number, .func (PySem.W.fnOf "_law_number" "_law_number" (defArgs s__law_number) (defBody s__law_number) (defScope s__law_number) .none kV__law_number dc__law_number pm__law_number an__law_number cd__law_number ct__law_number), sl__law_number⟩) (c__law_number : PySem.W.codeIn K cd__law_number "_law_number" = true) (k__law_number : PySem.W.keepIn K (.ref f__law_number) = true)
    {f__law_any_value : Addr} {od__law_any_value an__law_any_value : Option Addr} {sl__law_any_value : Array (Option Value)} {oc__law_any_value kV__law_any_value dc__law_any_value pm__law_any_value cd__law_any_value ct__law_any_value : Value}
    (a__law_any_value : PySem.W.nsIn K mainGlobals "_law_any_value" = some (some (.ref f__law_any_value))) (l__law_any_value : K.lookup f__law_any_value = some ⟨oc__law_any_value, od__law_any_value, .func (PySem.W.fnOf "_law_any_value" "_law_any_value" (defArgs s__law_any_value) (defBody s__law_any_value) (defScope s__law_any_value) .none kV__law_any_value dc__law_any_value pm__law_any_value an__law_any_value cd__law_any_value ct__law_any_value), sl__law_any_value⟩) (c__law_any_value : PySem.W.codeIn K cd__law_any_value "_law_any_value" = true) (k__law_any_value : PySem.W.keepIn K (.ref f__law_any_value) = true)
    {f_law : Addr} {od_law an_law : Option Addr} {sl_law : Array (Option Value)} {oc_law kV_law dc_law pm_law cd_law ct_law : Value}
    (a_law : PySem.W.nsIn K mainGlobals "law" = some (some (.ref f_law))) (l_law : K.lookup f_law = some ⟨oc_law, od_law, .func (PySem.W.fnOf "law" "law" (defArgs s_law) (defBody s_law) (defScope s_law) .none kV_law dc_law pm_law an_law cd_law ct_law), sl_law⟩) (c_law : PySem.W.codeIn K cd_law "law" = true) (k_law : PySem.W.keepIn K (.ref f_law) = true)
    {u_MOST_WORD : Value} (q_MOST_WORD : PySem.W.nsIn K mainGlobals "MOST_WORD" = some (some u_MOST_WORD)) (r_MOST_WORD : RelV (.int 65535) u_MOST_WORD)
    {u_WORDS : Value} (q_WORDS : PySem.W.nsIn K mainGlobals "WORDS" = some (some u_WORDS)) (r_WORDS : RelV (.int 65536) u_WORDS)
    (z_isinstance : PySem.W.nsIn K mainGlobals "isinstance" = some none)
    (z_int : PySem.W.nsIn K mainGlobals "int" = some none)
    (z_bool : PySem.W.nsIn K mainGlobals "bool" = some none)
    (z_tuple : PySem.W.nsIn K mainGlobals "tuple" = some none)
    (z_all : PySem.W.nsIn K mainGlobals "all" = some none)
    (z_len : PySem.W.nsIn K mainGlobals "len" = some none)
    (z_str : PySem.W.nsIn K mainGlobals "str" = some none)
    (z_list : PySem.W.nsIn K mainGlobals "list" = some none)
    (z_range : PySem.W.nsIn K mainGlobals "range" = some none)
    (z_dict : PySem.W.nsIn K mainGlobals "dict" = some none)
    (z_zip : PySem.W.nsIn K mainGlobals "zip" = some none)
    : ∃ fd : FuncData, (∀ (s : Shared) (v : Value), BindsTo s fd ⟨[v], []⟩ [("_law_script", v)]) ∧ ∀ base : Heap, K.In base → base.Ns mainGlobals mg → FnOk l.prog w K mg base CX0 13 fa fd ["_law_script"] (spLaw K) := by
  have e := hfa.symm.trans (PySem.W.mg_of X G a_law)
  cases e
  have F_is_number := fun_mk (st := s_is_number) l_is_number c_is_number k_is_number
  have F_is_word := fun_mk (st := s_is_word) l_is_word c_is_word k_is_word
  have F_is_owner := fun_mk (st := s_is_owner) l_is_owner c_is_owner k_is_owner
  have F_is_address := fun_mk (st := s_is_address) l_is_address c_is_address k_is_address
  have F_wrapped := fun_mk (st := s_wrapped) l_wrapped c_wrapped k_wrapped
  have F_moved := fun_mk (st := s_moved) l_moved c_moved k_moved
  have F_sum_of := fun_mk (st := s_sum_of) l_sum_of c_sum_of k_sum_of
  have F_difference := fun_mk (st := s_difference) l_difference c_difference k_difference
  have F_in_place := fun_mk (st := s_in_place) l_in_place c_in_place k_in_place
  have F__law_draw := fun_mk (st := s__law_draw) l__law_draw c__law_draw k__law_draw
  have F__law_bag := fun_mk (st := s__law_bag) l__law_bag c__law_bag k__law_bag
  have F__law_of := fun_mk (st := s__law_of) l__law_of c__law_of k__law_of
  have F__law_words := fun_mk (st := s__law_words) l__law_words c__law_words k__law_words
  have F__law_is_value := fun_mk (st := s__law_is_value) l__law_is_value c__law_is_value k__law_is_value
  have F__law_same := fun_mk (st := s__law_same) l__law_same c__law_same k__law_same
  have F__law_sum := fun_mk (st := s__law_sum) l__law_sum c__law_sum k__law_sum
  have F__law_less := fun_mk (st := s__law_less) l__law_less c__law_less k__law_less
  have F__law_nest := fun_mk (st := s__law_nest) l__law_nest c__law_nest k__law_nest
  have F__law_odd := fun_mk (st := s__law_odd) l__law_odd c__law_odd k__law_odd
  have F__law_number := fun_mk (st := s__law_number) l__law_number c__law_number k__law_number
  have F__law_any_value := fun_mk (st := s__law_any_value) l__law_any_value c__law_any_value k__law_any_value
  have F_law := fun_mk (st := s_law) l_law c_law k_law
  let T : Tx K mg w := {
    a_is_number := f_is_number, d_is_number := _, F_is_number := F_is_number, m_is_number := PySem.W.mg_of X G a_is_number, k_is_number := k_is_number
    b_is_number := F_is_number.binds (ps := ["value", "least", "most"]) fun _ _ _ _ _ _ us hl => match us, hl with | [_, _, _], _ => rfl
    a_is_word := f_is_word, d_is_word := _, F_is_word := F_is_word, m_is_word := PySem.W.mg_of X G a_is_word, k_is_word := k_is_word
    b_is_word := F_is_word.binds (ps := ["value"]) fun _ _ _ _ _ _ us hl => match us, hl with | [_], _ => rfl
    a_is_owner := f_is_owner, d_is_owner := _, F_is_owner := F_is_owner, m_is_owner := PySem.W.mg_of X G a_is_owner, k_is_owner := k_is_owner
    b_is_owner := F_is_owner.binds (ps := ["value"]) fun _ _ _ _ _ _ us hl => match us, hl with | [_], _ => rfl
    a_is_address := f_is_address, d_is_address := _, F_is_address := F_is_address, m_is_address := PySem.W.mg_of X G a_is_address, k_is_address := k_is_address
    b_is_address := F_is_address.binds (ps := ["value"]) fun _ _ _ _ _ _ us hl => match us, hl with | [_], _ => rfl
    a_wrapped := f_wrapped, d_wrapped := _, F_wrapped := F_wrapped, m_wrapped := PySem.W.mg_of X G a_wrapped, k_wrapped := k_wrapped
    b_wrapped := F_wrapped.binds (ps := ["value"]) fun _ _ _ _ _ _ us hl => match us, hl with | [_], _ => rfl
    a_moved := f_moved, d_moved := _, F_moved := F_moved, m_moved := PySem.W.mg_of X G a_moved, k_moved := k_moved
    b_moved := F_moved.binds (ps := ["address", "by"]) fun _ _ _ _ _ _ us hl => match us, hl with | [_, _], _ => rfl
    a_sum_of := f_sum_of, d_sum_of := _, F_sum_of := F_sum_of, m_sum_of := PySem.W.mg_of X G a_sum_of, k_sum_of := k_sum_of
    b_sum_of := F_sum_of.binds (ps := ["one", "other"]) fun _ _ _ _ _ _ us hl => match us, hl with | [_, _], _ => rfl
    a_difference := f_difference, d_difference := _, F_difference := F_difference, m_difference := PySem.W.mg_of X G a_difference, k_difference := k_difference
    b_difference := F_difference.binds (ps := ["one", "other"]) fun _ _ _ _ _ _ us hl => match us, hl with | [_, _], _ => rfl
    a_in_place := f_in_place, d_in_place := _, F_in_place := F_in_place, m_in_place := PySem.W.mg_of X G a_in_place, k_in_place := k_in_place
    b_in_place := F_in_place.binds (ps := ["value", "cells"]) fun _ _ _ _ _ _ us hl => match us, hl with | [_, _], _ => rfl
    a__law_draw := f__law_draw, d__law_draw := _, F__law_draw := F__law_draw, m__law_draw := PySem.W.mg_of X G a__law_draw, k__law_draw := k__law_draw
    b__law_draw := F__law_draw.binds (ps := ["_law_bag_here", "_law_many"]) fun _ _ _ _ _ _ us hl => match us, hl with | [_, _], _ => rfl
    a__law_bag := f__law_bag, d__law_bag := _, F__law_bag := F__law_bag, m__law_bag := PySem.W.mg_of X G a__law_bag, k__law_bag := k__law_bag
    b__law_bag := F__law_bag.binds (ps := ["_law_script"]) fun _ _ _ _ _ _ us hl => match us, hl with | [_], _ => rfl
    a__law_of := f__law_of, d__law_of := _, F__law_of := F__law_of, m__law_of := PySem.W.mg_of X G a__law_of, k__law_of := k__law_of
    b__law_of := F__law_of.binds (ps := ["_law_bag_here", "_law_some"]) fun _ _ _ _ _ _ us hl => match us, hl with | [_, _], _ => rfl
    a__law_words := f__law_words, d__law_words := _, F__law_words := F__law_words, m__law_words := PySem.W.mg_of X G a__law_words, k__law_words := k__law_words
    b__law_words := F__law_words.binds (ps := ["_law_bag_here", "_law_many"]) fun _ _ _ _ _ _ us hl => match us, hl with | [_, _], _ => rfl
    a__law_is_value := f__law_is_value, d__law_is_value := _, F__law_is_value := F__law_is_value, m__law_is_value := PySem.W.mg_of X G a__law_is_value, k__law_is_value := k__law_is_value
    b__law_is_value := F__law_is_value.binds (ps := ["_law_value"]) fun _ _ _ _ _ _ us hl => match us, hl with | [_], _ => rfl
    a__law_same := f__law_same, d__law_same := _, F__law_same := F__law_same, m__law_same := PySem.W.mg_of X G a__law_same, k__law_same := k__law_same
    b__law_same := F__law_same.binds (ps := ["_law_found", "_law_due"]) fun _ _ _ _ _ _ us hl => match us, hl with | [_, _], _ => rfl
    a__law_sum := f__law_sum, d__law_sum := _, F__law_sum := F__law_sum, m__law_sum := PySem.W.mg_of X G a__law_sum, k__law_sum := k__law_sum
    b__law_sum := F__law_sum.binds (ps := ["_law_one", "_law_other"]) fun _ _ _ _ _ _ us hl => match us, hl with | [_, _], _ => rfl
    a__law_less := f__law_less, d__law_less := _, F__law_less := F__law_less, m__law_less := PySem.W.mg_of X G a__law_less, k__law_less := k__law_less
    b__law_less := F__law_less.binds (ps := ["_law_one", "_law_other"]) fun _ _ _ _ _ _ us hl => match us, hl with | [_, _], _ => rfl
    a__law_nest := f__law_nest, d__law_nest := _, F__law_nest := F__law_nest, m__law_nest := PySem.W.mg_of X G a__law_nest, k__law_nest := k__law_nest
    b__law_nest := F__law_nest.binds (ps := []) fun _ _ _ _ _ _ us hl => match us, hl with | [], _ => rfl
    a__law_odd := f__law_odd, d__law_odd := _, F__law_odd := F__law_odd, m__law_odd := PySem.W.mg_of X G a__law_odd, k__law_odd := k__law_odd
    b__law_odd := F__law_odd.binds (ps := ["_law_bag_here"]) fun _ _ _ _ _ _ us hl => match us, hl with | [_], _ => rfl
    a__law_number := f__law_number, d__law_number := _, F__law_number := F__law_number, m__law_number := PySem.W.mg_of X G a__law_number, k__law_number := k__law_number
    b__law_number := F__law_number.binds (ps := ["_law_bag_here"]) fun _ _ _ _ _ _ us hl => match us, hl with | [_], _ => rfl
    a__law_any_value := f__law_any_value, d__law_any_value := _, F__law_any_value := F__law_any_value, m__law_any_value := PySem.W.mg_of X G a__law_any_value, k__law_any_value := k__law_any_value
    b__law_any_value := F__law_any_value.binds (ps := ["_law_bag_here", "_law_words_here"]) fun _ _ _ _ _ _ us hl => match us, hl with | [_, _], _ => rfl
    a_law := fa, d_law := _, F_law := F_law, m_law := PySem.W.mg_of X G a_law, k_law := k_law
    b_law := F_law.binds (ps := ["_law_script"]) fun _ _ _ _ _ _ us hl => match us, hl with | [_], _ => rfl
    kb_sum_of_0_other_one := ⟨fun s us ws _ l1 l2 => .of_eq (match us, ws, l1, l2 with | [], [_, _], _, _ => rfl), fun {vs us zs ws} r1 r2 => gkv_sum_of_0_other_one vs us zs ws r1 r2⟩
    kb_in_place_0_cells_value := ⟨fun s us ws _ l1 l2 => .of_eq (match us, ws, l1, l2 with | [], [_, _], _, _ => rfl), fun {vs us zs ws} r1 r2 => gkv_in_place_0_cells_value vs us zs ws r1 r2⟩
    u_MOST_WORD := u_MOST_WORD, m_MOST_WORD := PySem.W.mg_of X G q_MOST_WORD, r_MOST_WORD := r_MOST_WORD
    u_WORDS := u_WORDS, m_WORDS := PySem.W.mg_of X G q_WORDS, r_WORDS := r_WORDS
    n_isinstance := PySem.W.mg_none_of X G z_isinstance
    n_int := PySem.W.mg_none_of X G z_int
    n_bool := PySem.W.mg_none_of X G z_bool
    n_tuple := PySem.W.mg_none_of X G z_tuple
    n_all := PySem.W.mg_none_of X G z_all
    n_len := PySem.W.mg_none_of X G z_len
    n_str := PySem.W.mg_none_of X G z_str
    n_list := PySem.W.mg_none_of X G z_list
    n_range := PySem.W.mg_none_of X G z_range
    n_dict := PySem.W.mg_none_of X G z_dict
    n_zip := PySem.W.mg_none_of X G z_zip
  }
  exact ⟨PySem.W.fnOf "law" "law" (defArgs s_law) (defBody s_law) (defScope s_law) .none kV_law dc_law pm_law an_law cd_law ct_law, fun s v => .of_eq rfl, fun base _ _ => ok_law (P := l.prog) (w := w) (base := base) T⟩
theorem walk {l : PySem.W.OpenLaw} {q : Program} {loose : List Str} {XP : (Str → Option Value) → Heap → Prop} {YP : World → Heap → Prop} {d : DefRec} {K : Params → PySem.W.Frag} (hn : l.most = some 63) (hdf : d.params.defaults = [])
    (hY : ∀ (w : World) (h : Heap), YP w h → (K w.params).In h)
    (F : ∀ (w : World) (mg : Str → Option Value) (fa : Addr) (h : Heap), (K w.params).In h → h.Ns mainGlobals mg → mg d.name = some (.ref fa) →
      ∃ fd : FuncData, (∀ (s : Shared) (u : Value), BindsTo s fd ⟨[u], []⟩ [("_law_script", u)]) ∧ ∀ base : Heap, (K w.params).In base → base.Ns mainGlobals mg → FnOk l.prog w (K w.params) mg base CX0 13 fa fd ["_law_script"] (spLaw (K w.params))) :
    PySem.W.WalkO q loose XP YP l.row.toRowW d [] (fun f vs => PySem.call f vs) :=
  L2.walk_of (n := 63) (k := 13) (x := "_law_script") (CX := fun _ => CX0) (sp := fun w => spLaw (K w.params)) hn (by decide) hdf ⟨rfl, by decide, by decide⟩ hY F (fun _ _ a ns hl _ hS => ⟨a, ns, rfl, hS, hl, fun _ => rfl⟩) fun _ _ _ _ _ z => z
end Law
open PySem PySem.W PyProof.Rows
set_option maxRecDepth 100000 in
set_option maxHeartbeats 0 in
theorem PySem.Challenge.cw_leastimage_k52_values_added_and_taken_holds : PySem.Challenge.rw_leastimage_k52_values_added_and_taken.Holds := by
  w_on; o_law; k_head; (case hw => w_witness2)
  k_fill
  refine Law.walk (l := PySem.Challenge.rw_leastimage_k52_values_added_and_taken) rfl rfl (fun w h Y => PySem.W.kIn_of Y) ?F
  case F =>
    intro w mg fa h KX G hmg
    refine' Law.all_mk KX G hmg ?a_is_number ?l_is_number ?c_is_number ?k_is_number ?a_is_word ?l_is_word ?c_is_word ?k_is_word ?a_is_owner ?l_is_owner ?c_is_owner ?k_is_owner ?a_is_address ?l_is_address ?c_is_address ?k_is_address ?a_wrapped ?l_wrapped ?c_wrapped ?k_wrapped ?a_moved ?l_moved ?c_moved ?k_moved ?a_sum_of ?l_sum_of ?c_sum_of ?k_sum_of ?a_difference ?l_difference ?c_difference ?k_difference ?a_in_place ?l_in_place ?c_in_place ?k_in_place ?a__law_draw ?l__law_draw ?c__law_draw ?k__law_draw ?a__law_bag ?l__law_bag ?c__law_bag ?k__law_bag ?a__law_of ?l__law_of ?c__law_of ?k__law_of ?a__law_words ?l__law_words ?c__law_words ?k__law_words ?a__law_is_value ?l__law_is_value ?c__law_is_value ?k__law_is_value ?a__law_same ?l__law_same ?c__law_same ?k__law_same ?a__law_sum ?l__law_sum ?c__law_sum ?k__law_sum ?a__law_less ?l__law_less ?c__law_less ?k__law_less ?a__law_nest ?l__law_nest ?c__law_nest ?k__law_nest ?a__law_odd ?l__law_odd ?c__law_odd ?k__law_odd ?a__law_number ?l__law_number ?c__law_number ?k__law_number ?a__law_any_value ?l__law_any_value ?c__law_any_value ?k__law_any_value ?a_law ?l_law ?c_law ?k_law ?q_MOST_WORD ?r_MOST_WORD ?q_WORDS ?r_WORDS ?z_isinstance ?z_int ?z_bool ?z_tuple ?z_all ?z_len ?z_str ?z_list ?z_range ?z_dict ?z_zip
    (case a_is_number => k_is)
    (case l_is_number => k_is)
    (case c_is_number => k_is)
    (case k_is_number => k_is)
    (case a_is_word => k_is)
    (case l_is_word => k_is)
    (case c_is_word => k_is)
    (case k_is_word => k_is)
    (case a_is_owner => k_is)
    (case l_is_owner => k_is)
    (case c_is_owner => k_is)
    (case k_is_owner => k_is)
    (case a_is_address => k_is)
    (case l_is_address => k_is)
    (case c_is_address => k_is)
    (case k_is_address => k_is)
    (case a_wrapped => k_is)
    (case l_wrapped => k_is)
    (case c_wrapped => k_is)
    (case k_wrapped => k_is)
    (case a_moved => k_is)
    (case l_moved => k_is)
    (case c_moved => k_is)
    (case k_moved => k_is)
    (case a_sum_of => k_is)
    (case l_sum_of => k_is)
    (case c_sum_of => k_is)
    (case k_sum_of => k_is)
    (case a_difference => k_is)
    (case l_difference => k_is)
    (case c_difference => k_is)
    (case k_difference => k_is)
    (case a_in_place => k_is)
    (case l_in_place => k_is)
    (case c_in_place => k_is)
    (case k_in_place => k_is)
    (case a__law_draw => k_is)
    (case l__law_draw => k_is)
    (case c__law_draw => k_is)
    (case k__law_draw => k_is)
    (case a__law_bag => k_is)
    (case l__law_bag => k_is)
    (case c__law_bag => k_is)
    (case k__law_bag => k_is)
    (case a__law_of => k_is)
    (case l__law_of => k_is)
    (case c__law_of => k_is)
    (case k__law_of => k_is)
    (case a__law_words => k_is)
    (case l__law_words => k_is)
    (case c__law_words => k_is)
    (case k__law_words => k_is)
    (case a__law_is_value => k_is)
    (case l__law_is_value => k_is)
    (case c__law_is_value => k_is)
    (case k__law_is_value => k_is)
    (case a__law_same => k_is)
    (case l__law_same => k_is)
    (case c__law_same => k_is)
    (case k__law_same => k_is)
    (case a__law_sum => k_is)
    (case l__law_sum => k_is)
    (case c__law_sum => k_is)
    (case k__law_sum => k_is)
    (case a__law_less => k_is)
    (case l__law_less => k_is)
    (case c__law_less => k_is)
    (case k__law_less => k_is)
    (case a__law_nest => k_is)
    (case l__law_nest => k_is)
    (case c__law_nest => k_is)
    (case k__law_nest => k_is)
    (case a__law_odd => k_is)
    (case l__law_odd => k_is)
    (case c__law_odd => k_is)
    (case k__law_odd => k_is)
    (case a__law_number => k_is)
    (case l__law_number => k_is)
    (case c__law_number => k_is)
    (case k__law_number => k_is)
    (case a__law_any_value => k_is)
    (case l__law_any_value => k_is)
    (case c__law_any_value => k_is)
    (case k__law_any_value => k_is)
    (case a_law => k_is)
    (case l_law => k_is)
    (case c_law => k_is)
    (case k_law => k_is)
    (case q_MOST_WORD => k_is)
    (case q_WORDS => k_is)
    (case z_isinstance => k_is)
    (case z_int => k_is)
    (case z_bool => k_is)
    (case z_tuple => k_is)
    (case z_all => k_is)
    (case z_len => k_is)
    (case z_str => k_is)
    (case z_list => k_is)
    (case z_range => k_is)
    (case z_dict => k_is)
    (case z_zip => k_is)
    (case r_MOST_WORD => exact ⟨_, rfl⟩)
    (case r_WORDS => exact ⟨_, rfl⟩)
