import PyProof.Rows.All
import Wide.All
import OpenK.AllK
import Wide.FinOn
import HandS.ForMost
import HandS.Flow
import HandS.IsInst
import HandS.Walk
import HandS.Zip
import HandS.Defaults
import HandS.MakeKwOnly
import HandS.More
import HandS.Style
import PySem.Challenge.RW_leastimage_k13_sizes_and_fields
set_option Elab.async false
set_option linter.all false
set_option maxRecDepth 100000
set_option maxHeartbeats 4000000
/-! Y1: data, and a logic over data alone: environments of data, expressions that give data, statements. -/
namespace Y
open PySem L2

/-- a datum: what a value means, without addresses -/
inductive Dt where
  | non
  | bl (b : Bool)
  | int (i : Int)
  | str (s : Str)
  | lst (xs : List Dt)
  | tup (xs : List Dt)
  | obj (C : Addr) (ns : List Str) (xs : List Dt)
  | dct (ks : List Key) (xs : List Dt)
  | ali (a : Addr)

mutual
inductive Rp (K : PySem.W.Frag) (F : Hp) : V → Dt → Prop
  | non : Rp K F .non .non
  | bl (b : Bool) : Rp K F (.bl b) (.bl b)
  | int (i : Int) : Rp K F (.int i) (.int i)
  | str (x : Str) : Rp K F (.str x) (.str x)
  | lst {a : Addr} {xs : List V} {ds : List Dt} : F a = some (.lst xs) → RpAll K F xs ds → Rp K F (.ref a) (.lst ds)
  | tup {a : Addr} {xs : List V} {ds : List Dt} : SqT K F a xs → RpAll K F xs ds → Rp K F (.ref a) (.tup ds)
  | obj {a C dx : Addr} {ns : List Str} {fs : List (Str × V)} {xs : List V} {ds : List Dt} : F a = some (.ins C dx fs) → fs.map (·.1) = ns → fs.map (·.2) = xs → RpAll K F xs ds → Rp K F (.ref a) (.obj C ns ds)
  | dct {a : Addr} {ks : List Key} {kvs : List (Key × V)} {xs : List V} {ds : List Dt} : F a = some (.dK kvs) → kvs.map (·.1) = ks → kvs.map (·.2) = xs → RpAll K F xs ds → Rp K F (.ref a) (.dct ks ds)
  | ali (a : Addr) : Rp K F (.ref a) (.ali a)
inductive RpAll (K : PySem.W.Frag) (F : Hp) : List V → List Dt → Prop
  | nil : RpAll K F [] []
  | cons {v : V} {vs : List V} {d : Dt} {ds : List Dt} : Rp K F v d → RpAll K F vs ds → RpAll K F (v :: vs) (d :: ds)
end

section mono
variable {K : PySem.W.Frag} {F F' : Hp}
theorem sqL_mono {a : Addr} {xs : List V} (e : Same F F') (h : SqL K F a xs) : SqL K F' a xs := e.seq h
theorem sqT_mono {a : Addr} {xs : List V} (e : Same F F') (h : SqT K F a xs) : SqT K F' a xs := by
  rcases h with (h | ⟨o, h⟩) | h
  · exact .inl (.inl (e _ _ h))
  · exact .inl (.inr ⟨o, e _ _ h⟩)
  · exact .inr h
mutual
theorem Rp.mono (e : Same F F') : ∀ {v : V} {d : Dt}, Rp K F v d → Rp K F' v d
  | _, _, .non => .non
  | _, _, .bl b => .bl b
  | _, _, .int i => .int i
  | _, _, .str x => .str x
  | _, _, .lst h r => .lst (e _ _ h) (RpAll.mono e r)
  | _, _, .tup h r => .tup (sqT_mono e h) (RpAll.mono e r)
  | _, _, .obj h h1 h2 r => .obj (e _ _ h) h1 h2 (RpAll.mono e r)
  | _, _, .dct h h1 h2 r => .dct (e _ _ h) h1 h2 (RpAll.mono e r)
  | _, _, .ali a => .ali a
theorem RpAll.mono (e : Same F F') : ∀ {vs : List V} {ds : List Dt}, RpAll K F vs ds → RpAll K F' vs ds
  | _, _, .nil => .nil
  | _, _, .cons h t => .cons (Rp.mono e h) (RpAll.mono e t)
end
theorem RpAll.length : ∀ {vs : List V} {ds : List Dt}, RpAll K F vs ds → vs.length = ds.length
  | _, _, .nil => rfl
  | _, _, .cons _ t => congrArg (· + 1) (RpAll.length t)
theorem RpAll.get : ∀ {vs : List V} {ds : List Dt} {i : Nat} {d : Dt}, RpAll K F vs ds → ds[i]? = some d → ∃ v, vs[i]? = some v ∧ Rp K F v d
  | _, _, _, _, .nil, e => by simp at e
  | _, _, 0, _, .cons r _, e => by simp at e; subst e; exact ⟨_, rfl, r⟩
  | _, _, i + 1, d, .cons _ t, e => by
    obtain ⟨v, h1, h2⟩ := RpAll.get (i := i) (d := d) t (by simpa using e)
    exact ⟨v, by simpa using h1, h2⟩
theorem RpAll.getV : ∀ {vs : List V} {ds : List Dt} {i : Nat} {v : V}, RpAll K F vs ds → vs[i]? = some v → ∃ d, ds[i]? = some d ∧ Rp K F v d
  | _, _, _, _, .nil, e => by simp at e
  | _, _, 0, _, .cons r _, e => by simp at e; subst e; exact ⟨_, rfl, r⟩
  | _, _, i + 1, v, .cons _ t, e => by
    obtain ⟨d, h1, h2⟩ := RpAll.getV (i := i) (v := v) t (by simpa using e)
    exact ⟨d, by simpa using h1, h2⟩
theorem RpAll.app : ∀ {vs ws : List V} {ds es : List Dt}, RpAll K F vs ds → RpAll K F ws es → RpAll K F (vs ++ ws) (ds ++ es)
  | _, _, _, _, .nil, s => s
  | _, _, _, _, .cons r t, s => .cons r (RpAll.app t s)
theorem RpAll.take : ∀ {vs : List V} {ds : List Dt} (n : Nat), RpAll K F vs ds → RpAll K F (vs.take n) (ds.take n)
  | _, _, 0, _ => by simp; exact .nil
  | _, _, _ + 1, .nil => .nil
  | _, _, n + 1, .cons r t => .cons r (RpAll.take n t)
theorem RpAll.drop : ∀ {vs : List V} {ds : List Dt} (n : Nat), RpAll K F vs ds → RpAll K F (vs.drop n) (ds.drop n)
  | _, _, 0, r => r
  | _, _, _ + 1, .nil => .nil
  | _, _, n + 1, .cons _ t => RpAll.drop n t
theorem RpAll.set {d : Dt} {v : V} (r : Rp K F v d) : ∀ {vs : List V} {ds : List Dt} (i : Nat), RpAll K F vs ds → RpAll K F (vs.set i v) (ds.set i d)
  | _, _, _, .nil => .nil
  | _, _, 0, .cons _ t => .cons r t
  | _, _, i + 1, .cons q t => .cons q (RpAll.set r i t)
theorem RpAll.ints : ∀ {vs : List V} {ns : List Int}, RpAll K F vs (ns.map Dt.int) → vs = ns.map V.int
  | _, [], h => by cases h; rfl
  | _, n :: ns, h => by
    cases h with
    | cons r t => cases r; rw [RpAll.ints t]; rfl
theorem RpAll.bls : ∀ {vs : List V} {ns : List Bool}, RpAll K F vs (ns.map Dt.bl) → vs = ns.map V.bl
  | _, [], h => by cases h; rfl
  | _, n :: ns, h => by
    cases h with
    | cons r t => cases r; rw [RpAll.bls t]; rfl
theorem RpAll.texts : ∀ {vs : List V} {ns : List Str}, RpAll K F vs (ns.map Dt.str) → vs = ns.map V.str
  | _, [], h => by cases h; rfl
  | _, n :: ns, h => by
    cases h with
    | cons r t => cases r; rw [RpAll.texts t]; rfl
theorem RpAll.of_ints : ∀ {ns : List Int}, RpAll K F (ns.map V.int) (ns.map Dt.int)
  | [] => .nil
  | n :: ns => .cons (.int n) RpAll.of_ints
end mono

/-- the state of the drawing: a list of five, its ints, what was taken, a rest, a mixed number, a count -/
def BagD (xs : List Dt) : Prop := ∃ (ns : List Int) (i r m k : Int), xs = [.lst (ns.map Dt.int), .int i, .int r, .int m, .int k] ∧ 0 ≤ i ∧ 0 ≤ r ∧ 0 ≤ m ∧ m < 2147483648
def BagAt (K : PySem.W.Frag) (F H : Hp) (b : Addr) : Prop := F b = none ∧ ∃ vs xs, H b = some (.lst vs) ∧ RpAll K F vs xs ∧ BagD xs

/-- what a slot of a frame is known to hold -/
inductive Sl where
  | no
  | any
  | d (x : Dt)
  | r (v : V)
  | own (a : Addr) (xs : List Dt)

def SlOk (K : PySem.W.Frag) (F H : Hp) : Option V → Sl → Prop
  | _, .any => True
  | o, .no => o = none
  | o, .d x => ∃ v, o = some v ∧ Rp K F v x
  | o, .r v => o = some v
  | o, .own a xs => ∃ vs, o = some (.ref a) ∧ F a = none ∧ H a = some (.lst vs) ∧ RpAll K F vs xs

/-- what a body of a def stands on: the written part, what is known and the heap at its start, the address of the drawing -/
structure Bs where
  K : PySem.W.Frag
  F0 : Hp
  H0 : Hp
  bag : Option Addr

structure Stt (B : Bs) (es : List Sl) (σ : St) (F H : Hp) : Prop where
  sub : Same F H
  s0 : Same B.F0 F
  ou : ∀ c, B.H0 c ≠ none → B.F0 c = none → F c = none
  fr : ∀ c o, B.H0 c = some o → B.bag ≠ some c → H c = some o
  bg : ∀ b, B.bag = some b → BagAt B.K F H b
  len : σ.length = es.length
  ok : ∀ (i : Nat) e o, es[i]? = some e → σ[i]? = some o → SlOk B.K F H o e
  ow : ∀ (i : Nat) a xs, es[i]? = some (.own a xs) → B.H0 a = none ∧ B.bag ≠ some a
  dis : ∀ (i j : Nat) a b xs ys, i ≠ j → es[i]? = some (.own a xs) → es[j]? = some (.own b ys) → a ≠ b

/-- the heap goes on: all stays but the drawing; what was outside F stays outside -/
structure Go (B : Bs) (F H F' H' : Hp) : Prop where
  s1 : Same F F'
  s2 : Same F' H'
  nw : ∀ c, H c ≠ none → F c = none → F' c = none
  kp : ∀ c o, B.bag ≠ some c → H c = some o → H' c = some o
  bg : ∀ b, B.bag = some b → BagAt B.K F' H' b

theorem same_upd {H : Hp} {p : Addr} {o : HO} (h : H p = none) : Same H (upd H p o) := fun b u e => by
  rw [upd_ne (ne_of_none e h)]
  exact e
theorem same_updF {F H : Hp} {p : Addr} {o : HO} (s : Same F H) : Same (upd F p o) (upd H p o) := fun b u e => by
  by_cases hb : b = p
  · subst hb; rw [upd_same] at e ⊢; exact e
  · rw [upd_ne hb] at e ⊢; exact s b u e
theorem same_none {F H : Hp} {p : Addr} (s : Same F H) (h : H p = none) : F p = none := s.free h

section
variable {B : Bs} {es : List Sl} {σ : St} {F H F1 H1 F2 H2 : Hp}
theorem Go.trans (a : Go B F H F1 H1) (b : Go B F1 H1 F2 H2) : Go B F H F2 H2 where
  s1 := a.s1.trans b.s1
  s2 := b.s2
  nw := fun c h1 h2 => by
    refine b.nw c ?_ (a.nw c h1 h2)
    by_cases hb : B.bag = some c
    · obtain ⟨_, vs, _, k, _⟩ := a.bg c hb
      rw [k]; simp
    · cases e : H c with
      | none => exact absurd e h1
      | some o => rw [a.kp c o hb e]; simp
  kp := fun c o h1 h2 => b.kp c o h1 (a.kp c o h1 h2)
  bg := b.bg
theorem Stt.refl (S : Stt B es σ F H) : Go B F H F H := ⟨Same.refl F, S.sub, fun _ _ h => h, fun _ _ _ h => h, S.bg⟩
theorem Stt.slot {i : Nat} {e : Sl} (S : Stt B es σ F H) (h : es[i]? = some e) : ∃ o, σ[i]? = some o ∧ SlOk B.K F H o e := by
  have hl : i < es.length := (List.getElem?_eq_some_iff.mp h).1
  rw [← S.len] at hl
  exact ⟨σ[i], by simp [hl], S.ok i e _ h (by simp [hl])⟩
theorem Stt.dat {i : Nat} {x : Dt} (S : Stt B es σ F H) (h : es[i]? = some (.d x)) : ∃ v, σ[i]? = some (some v) ∧ Rp B.K F v x := by
  obtain ⟨o, h1, v, rfl, h2⟩ := S.slot h
  exact ⟨v, h1, h2⟩
theorem Stt.raw {i : Nat} {v : V} (S : Stt B es σ F H) (h : es[i]? = some (.r v)) : σ[i]? = some (some v) := by
  obtain ⟨o, h1, h2⟩ := S.slot h
  rw [h1, h2]
theorem Stt.live (S : Stt B es σ F H) {c : Addr} (h : B.H0 c ≠ none) : H c ≠ none := by
  by_cases hb : B.bag = some c
  · obtain ⟨_, vs, _, k, _⟩ := S.bg c hb
    rw [k]; simp
  · cases e : B.H0 c with
    | none => exact absurd e h
    | some o => rw [S.fr c o e hb]; simp
theorem Stt.go {F' H' : Hp} (S : Stt B es σ F H) (g : Go B F H F' H') : Stt B es σ F' H' where
  sub := g.s2
  s0 := S.s0.trans g.s1
  ou := fun c h1 h2 => g.nw c (S.live h1) (S.ou c h1 h2)
  fr := fun c o h1 h2 => g.kp c o h2 (S.fr c o h1 h2)
  bg := g.bg
  len := S.len
  ok := fun i e o h1 h2 => by
    have h := S.ok i e o h1 h2
    cases e with
    | no => exact h
    | any => trivial
    | d x => obtain ⟨v, k1, k2⟩ := h; exact ⟨v, k1, k2.mono g.s1⟩
    | r v => exact h
    | own a xs =>
      obtain ⟨vs, k1, k2, k3, k4⟩ := h
      exact ⟨vs, k1, g.nw a (by rw [k3]; simp) k2, g.kp a _ (S.ow i a xs h1).2 k3, k4.mono g.s1⟩
  ow := S.ow
  dis := S.dis
/-- nothing that stood changes -/
theorem Stt.pure {F' H' : Hp} (S : Stt B es σ F H) (s1 : Same F F') (s2 : Same F' H') (hn : ∀ c, H c ≠ none → F c = none → F' c = none) (s3 : Same H H') : Go B F H F' H' :=
  ⟨s1, s2, hn, fun c o _ h => s3 c o h, fun b hb => by
    obtain ⟨h1, vs, xs, h2, h3, h4⟩ := S.bg b hb
    exact ⟨hn b (by rw [h2]; simp) h1, vs, xs, s3 _ _ h2, h3.mono s1, h4⟩⟩
/-- a new object, known as a datum -/
theorem Stt.alloc {p : Addr} {o : HO} (S : Stt B es σ F H) (h : H p = none) : Go B F H (upd F p o) (upd H p o) :=
  S.pure (same_upd (same_none S.sub h)) (same_updF S.sub) (fun c hc hf => by
    rw [upd_ne (fun e => hc (by rw [e]; exact h))]
    exact hf) (same_upd h)
/-- a new object that is not yet known as a datum -/
theorem Stt.allocO {p : Addr} {o : HO} (S : Stt B es σ F H) (h : H p = none) : Go B F H F (upd H p o) :=
  S.pure (Same.refl F) (S.sub.trans (same_upd h)) (fun _ _ hf => hf) (same_upd h)
theorem Stt.new0 {p : Addr} (S : Stt B es σ F H) (h : H p = none) : B.H0 p = none := by
  cases e : B.H0 p with
  | none => rfl
  | some o => exact absurd h (S.live (by rw [e]; simp))
theorem Stt.newB {p : Addr} (S : Stt B es σ F H) (h : H p = none) : B.bag ≠ some p := fun hb => by
  obtain ⟨_, vs, _, k, _⟩ := S.bg p hb
  rw [h] at k; cases k
theorem Stt.newS {p a : Addr} (S : Stt B es σ F H) (h : H p = none) (i : Nat) (ys : List Dt) (hi : es[i]? = some (.own a ys)) : a ≠ p := fun hs => by
  obtain ⟨o, _, ws, z1, z2, z3, z4⟩ := S.slot hi
  rw [hs, h] at z3; cases z3
end

/-! ### what an expression gives: backwards, from what is wanted of its datum -/
def Ev (B : Bs) (te : TE) (es : List Sl) (P : Dt → Prop) : Prop := ∀ σ F H, Stt B es σ F H → ∀ Q : VK,
  (∀ v d F' H', Go B F H F' H' → Rp B.K F' v d → P d → Q v H') → te σ H Q
def EvT (B : Bs) (tt : TT) (es : List Sl) (P : Bool → Prop) : Prop := ∀ σ F H, Stt B es σ F H → ∀ Q : Bool → Hp → Prop,
  (∀ b F' H', Go B F H F' H' → P b → Q b H') → tt σ H Q
def EvA (B : Bs) (ta : TA) (es : List Sl) (P : List Dt → Prop) : Prop := ∀ σ F H, Stt B es σ F H → ∀ Q : List V → Hp → Prop,
  (∀ vs ds F' H', Go B F H F' H' → RpAll B.K F' vs ds → P ds → Q vs H') → ta σ H Q
def EvO (B : Bs) (te : TE) (es : List Sl) (P : List Dt → Prop) : Prop := ∀ σ F H, Stt B es σ F H → ∀ Q : VK,
  (∀ a vs xs F' H', Go B F H F' H' → H a = none → F' a = none → H' a = some (.lst vs) → RpAll B.K F' vs xs → P xs → Q (.ref a) H') → te σ H Q

section
variable {B : Bs} {es : List Sl} {σ : St} {F H : Hp}
theorem Ev.imp {te : TE} {P P' : Dt → Prop} (h : Ev B te es P) (hp : ∀ d, P d → P' d) : Ev B te es P' := fun σ F H S Q q => h σ F H S Q fun v d F' H' a b c => q v d F' H' a b (hp d c)
theorem EvT.imp {te : TT} {P P' : Bool → Prop} (h : EvT B te es P) (hp : ∀ d, P d → P' d) : EvT B te es P' := fun σ F H S Q q => h σ F H S Q fun d F' H' a b => q d F' H' a (hp d b)
theorem EvO.imp {te : TE} {P P' : List Dt → Prop} (h : EvO B te es P) (hp : ∀ d, P d → P' d) : EvO B te es P' := fun σ F H S Q q => h σ F H S Q fun a vs d F' H' g n f l r c => q a vs d F' H' g n f l r (hp d c)
theorem EvA.imp {te : TA} {P P' : List Dt → Prop} (h : EvA B te es P) (hp : ∀ d, P d → P' d) : EvA B te es P' := fun σ F H S Q q => h σ F H S Q fun v d F' H' a b c => q v d F' H' a b (hp d c)
/-- a new list at a, outside what is known, becomes known -/
theorem Go.freeze {F' H' : Hp} {a : Addr} {vs : List V} (g : Go B F H F' H') (S : Stt B es σ F H) (h0 : H a = none) (h1 : F' a = none) (h2 : H' a = some (.lst vs)) : Go B F H (upd F' a (.lst vs)) H' where
  s1 := g.s1.trans (same_upd h1)
  s2 := fun c o e => by
    by_cases hc : c = a
    · subst hc; rw [upd_same] at e; rw [h2, e]
    · rw [upd_ne hc] at e; exact g.s2 c o e
  nw := fun c hc hf => by
    rw [upd_ne (fun e => hc (by rw [e]; exact h0))]
    exact g.nw c hc hf
  kp := g.kp
  bg := fun b hb => by
    obtain ⟨k1, ws, ys, k2, k3, k4⟩ := g.bg b hb
    have hba : b ≠ a := fun q => S.newB h0 (by rw [hb, q])
    exact ⟨by rw [upd_ne hba]; exact k1, ws, ys, k2, k3.mono (same_upd h1), k4⟩
theorem EvO.ev {te : TE} {P : Dt → Prop} (h : EvO B te es fun xs => P (.lst xs)) : Ev B te es P := fun σ F H S Q q =>
  h σ F H S Q fun a vs xs F' H' g h0 h1 h2 r p => q (.ref a) (.lst xs) (upd F' a (.lst vs)) H' (g.freeze S h0 h1 h2) (.lst upd_same (r.mono (same_upd h1))) p
theorem ev_var {i : Nat} {x : Dt} {P : Dt → Prop} (h : es[i]? = some (.d x)) (hp : P x) : Ev B (tVar i) es P := fun σ F H S Q q => by
  obtain ⟨v, h1, h2⟩ := S.dat h
  exact ⟨v, h1, q v x F H S.refl h2 hp⟩
/-- a list of one's own that is not changed any more in this expression: read as a datum of a copy -/
theorem ev_int {i : Int} {P : Dt → Prop} (hp : P (.int i)) : Ev B (tC (.int i)) es P := fun σ F H S Q q => q _ _ F H S.refl (.int i) hp
theorem ev_str {i : Str} {P : Dt → Prop} (hp : P (.str i)) : Ev B (tC (.str i)) es P := fun σ F H S Q q => q _ _ F H S.refl (.str i) hp
theorem ev_bl {i : Bool} {P : Dt → Prop} (hp : P (.bl i)) : Ev B (tC (.bl i)) es P := fun σ F H S Q q => q _ _ F H S.refl (.bl i) hp
theorem ev_non {P : Dt → Prop} (hp : P .non) : Ev B (tC .non) es P := fun σ F H S Q q => q _ _ F H S.refl .non hp
/-- a datum of the written part -/
def KD (K : PySem.W.Frag) (v : V) (d : Dt) : Prop := ∀ F, Rp K F v d
theorem ev_k {v : V} {d : Dt} {P : Dt → Prop} (k : KD B.K v d) (hp : P d) : Ev B (tC v) es P := fun σ F H S Q q => q _ _ F H S.refl (k F) hp
theorem ea_nil {P : List Dt → Prop} (hp : P []) : EvA B tNil es P := fun σ F H S Q q => q _ _ F H S.refl .nil hp
theorem ea_cons {te : TE} {tr : TA} {P : List Dt → Prop} (h : Ev B te es fun d => EvA B tr es fun ds => P (d :: ds)) : EvA B (tCons te tr) es P := fun σ F H S Q q =>
  h σ F H S _ fun v d F1 H1 g1 r1 p1 => p1 σ F1 H1 (S.go g1) _ fun vs ds F2 H2 g2 r2 p2 => q _ _ F2 H2 (g1.trans g2) (.cons (r1.mono g2.s1) r2) p2
theorem size_of {n : Nat} (h : n ≤ 100000) : n ≤ sizeLine := Nat.le_trans h (by decide)
theorem size_lt {n : Nat} (h : n < 100000) : n < sizeLine := Nat.lt_of_lt_of_le h (by decide)
theorem eo_lst {ta : TA} {P : List Dt → Prop} (h : EvA B ta es fun ds => ds.length ≤ 100000 ∧ P ds) : EvO B (tLst ta) es P := fun σ F H S Q q =>
  h σ F H S _ fun vs ds F1 H1 g1 r1 p1 => ⟨size_of (by rw [r1.length]; exact p1.1), fun p hp => by
    have S1 := S.go g1
    have h0 : H p = none := by
      cases e : H p with
      | none => rfl
      | some o => have := g1.kp p o (S1.newB hp) e; rw [hp] at this; cases this
    exact q p vs ds F1 (upd H1 p (.lst vs)) (g1.trans (S1.allocO hp)) h0 (same_none S1.sub hp) upd_same r1 p1.2⟩
theorem ev_lst {ta : TA} {P : Dt → Prop} (h : EvA B ta es fun ds => ds.length ≤ 100000 ∧ P (.lst ds)) : Ev B (tLst ta) es P := (eo_lst (P := fun ds => P (.lst ds)) h).ev
theorem ev_tup {ta : TA} {P : Dt → Prop} (h : EvA B ta es fun ds => ds.length ≤ 100000 ∧ P (.tup ds)) : Ev B (tTup ta) es P := fun σ F H S Q q =>
  h σ F H S _ fun vs ds F1 H1 g1 r1 p1 => ⟨size_of (by rw [r1.length]; exact p1.1), fun p hp => by
    have S1 := S.go g1
    have hF : F1 p = none := same_none S1.sub hp
    exact q (.ref p) (.tup ds) (upd F1 p (.tup vs)) (upd H1 p (.tup vs)) (g1.trans (S1.alloc hp)) (.tup (SqT.of upd_same) (r1.mono (same_upd hF))) p1.2⟩
theorem Go.new {F' H' : Hp} {p : Addr} (g : Go B F H F' H') (hb : B.bag ≠ some p) (h : H' p = none) : H p = none := by
  cases e : H p with
  | none => rfl
  | some o => have := g.kp p o hb e; rw [h] at this; cases this
end
end Y
/-! Y2: operators, tests, calls, statements, loops over data. -/
namespace Y
open PySem L2

section
variable {B : Bs} {es : List Sl}

/-! ### alternatives: one rule or another -/
theorem pe_alt {X : Cx} {e : Expr} {t u : TE} (h1 : PE X e t) (h2 : PE X e u) : PE X e (fun σ H Q => t σ H Q ∨ u σ H Q) :=
  ⟨fun pins s σ H Q I h => h.elim (h1.run pins s σ H Q I) (h2.run pins s σ H Q I)⟩
theorem pi_alt {X : Cx} {tg e : Expr} {t u : TI} (h1 : PI X tg e t) (h2 : PI X tg e u) : PI X tg e (fun σ H Q => t σ H Q ∨ u σ H Q) :=
  ⟨fun pins s σ H Q I h => h.elim (h1.run pins s σ H Q I) (h2.run pins s σ H Q I)⟩
def rAlt (r q : R2) : R2 := fun x y H Q => r x y H Q ∨ q x y H Q
theorem op_alt {X : Cx} {f : Value → Value → Sem Value} {r q : R2} (h1 : OpR X f r) (h2 : OpR X f q) : OpR X f (rAlt r q) := fun pins s σ H x y u v Q I rx ry h =>
  h.elim (h1 pins s σ H x y u v Q I rx ry) (h2 pins s σ H x y u v Q I rx ry)
def cAlt (r q : List V → Hp → VK → Prop) : List V → Hp → VK → Prop := fun xs H Q => r xs H Q ∨ q xs H Q
theorem call_alt {X : Cx} {f : Value} {r q : List V → Hp → VK → Prop} (h1 : CallR X f r) (h2 : CallR X f q) : CallR X f (cAlt r q) := fun pins s σ H xs us Q I rx h =>
  h.elim (h1 pins s σ H xs us Q I rx) (h2 pins s σ H xs us Q I rx)

/-! ### a two-place operation -/
def Op2 (B : Bs) (r : R2) (es : List Sl) (x y : Dt) (P : Dt → Prop) : Prop := ∀ σ F H v w, Stt B es σ F H → Rp B.K F v x → Rp B.K F w y → ∀ Q : VK,
  (∀ v d F' H', Go B F H F' H' → Rp B.K F' v d → P d → Q v H') → r v w H Q
theorem ev_op {r : R2} {ta tb : TE} {P : Dt → Prop} (h : Ev B ta es fun x => Ev B tb es fun y => Op2 B r es x y P) : Ev B (tOp r ta tb) es P := fun σ F H S Q q =>
  h σ F H S _ fun v x F1 H1 g1 r1 p1 => p1 σ F1 H1 (S.go g1) _ fun w y F2 H2 g2 r2 p2 => p2 σ F2 H2 v w ((S.go g1).go g2) (r1.mono g2.s1) r2 Q fun u d F3 H3 g3 r3 p3 => q u d F3 H3 ((g1.trans g2).trans g3) r3 p3
theorem o_altL {r q : R2} {x y : Dt} {P : Dt → Prop} (h : Op2 B r es x y P) : Op2 B (rAlt r q) es x y P := fun σ F H v w S a b Q k => .inl (h σ F H v w S a b Q k)
theorem o_altR {r q : R2} {x y : Dt} {P : Dt → Prop} (h : Op2 B q es x y P) : Op2 B (rAlt r q) es x y P := fun σ F H v w S a b Q k => .inr (h σ F H v w S a b Q k)
theorem o_i0 {g : Int → Int → Int} {i j : Int} {P : Dt → Prop} (hp : P (.int (g i j))) : Op2 B (rI0 fun i j => .int (g i j)) es (.int i) (.int j) P := fun σ F H v w S a b Q k => by
  cases a; cases b; exact ⟨i, j, rfl, rfl, k _ _ F H S.refl (.int _) hp⟩
theorem o_b0 {g : Int → Int → Bool} {i j : Int} {P : Dt → Prop} (hp : P (.bl (g i j))) : Op2 B (rI0 fun i j => .bl (g i j)) es (.int i) (.int j) P := fun σ F H v w S a b Q k => by
  cases a; cases b; exact ⟨i, j, rfl, rfl, k _ _ F H S.refl (.bl _) hp⟩
theorem o_i {C : Int → Int → Prop} {g : Int → Int → Int} {i j : Int} {P : Dt → Prop} (hc : C i j) (hp : P (.int (g i j))) : Op2 B (rI C fun i j => .int (g i j)) es (.int i) (.int j) P := fun σ F H v w S a b Q k => by
  cases a; cases b; exact ⟨i, j, rfl, rfl, hc, k _ _ F H S.refl (.int _) hp⟩
/-- == and != of scalars (no bool beside an int) -/
def dScal : Dt → Dt → Bool
  | .non, .non => true | .non, .int _ => true | .int _, .non => true | .non, .bl _ => true | .bl _, .non => true | .non, .str _ => true | .str _, .non => true
  | .int _, .int _ => true | .bl _, .bl _ => true | .str _, .str _ => true
  | .int _, .str _ => true | .str _, .int _ => true | .bl _, .str _ => true | .str _, .bl _ => true
  | _, _ => false
def dEq : Dt → Dt → Bool
  | .non, .non => true
  | .int i, .int j => decide (i = j)
  | .bl i, .bl j => decide (i = j)
  | .str i, .str j => decide (i = j)
  | _, _ => false
theorem scal_of {K : PySem.W.Frag} {F : Hp} {v w : V} {x y : Dt} (a : Rp K F v x) (b : Rp K F w y) (h : dScal x y = true) : scal v w = true ∧ decide (v = w) = dEq x y := by
  cases a <;> cases b <;> first | (cases h; done) | (refine ⟨rfl, ?_⟩; first | rfl | (simp [dEq]; done))
theorem o_eq {x y : Dt} {P : Dt → Prop} (hs : dScal x y = true) (hp : P (.bl (dEq x y))) : Op2 B rEq es x y P := fun σ F H v w S a b Q k => by
  obtain ⟨h1, h2⟩ := scal_of a b hs
  refine ⟨h1, ?_⟩
  rw [h2]
  exact k _ _ F H S.refl (.bl _) hp
theorem o_ne {x y : Dt} {P : Dt → Prop} (hs : dScal x y = true) (hp : P (.bl (!dEq x y))) : Op2 B rNe es x y P := fun σ F H v w S a b Q k => by
  obtain ⟨h1, h2⟩ := scal_of a b hs
  refine ⟨h1, ?_⟩
  rw [h2]
  exact k _ _ F H S.refl (.bl _) hp
/-- is None -/
def dNon : Dt → Bool
  | .non => true
  | _ => false
theorem non_of {K : PySem.W.Frag} {F : Hp} {v : V} {x : Dt} (a : Rp K F v x) : decide (v = V.non) = dNon x := by
  cases a <;> rfl
theorem o_isN {x : Dt} {P : Dt → Prop} (hp : P (.bl (dNon x))) : Op2 B (fun x y H Q => y = .non ∧ Q (.bl (decide (x = .non))) H) es x .non P := fun σ F H v w S a b Q k => by
  cases b
  refine ⟨rfl, ?_⟩
  rw [non_of a]
  exact k _ _ F H S.refl (.bl _) hp
theorem o_notN {x : Dt} {P : Dt → Prop} (hp : P (.bl (!dNon x))) : Op2 B (fun x y H Q => y = .non ∧ Q (.bl (!decide (x = .non))) H) es x .non P := fun σ F H v w S a b Q k => by
  cases b
  refine ⟨rfl, ?_⟩
  rw [non_of a]
  exact k _ _ F H S.refl (.bl _) hp
/-- x in (a, b, ..): flat things -/
def flatD : Dt → Bool
  | .non => true | .bl _ => true | .int _ => true | .str _ => true
  | _ => false
def eqD : Dt → Dt → Bool
  | .non, .non => true
  | .bl a, .bl b => a == b
  | .bl a, .int b => (if a then 1 else 0) == b
  | .int a, .bl b => a == (if b then 1 else 0)
  | .int a, .int b => a == b
  | .str a, .str b => a == b
  | _, _ => false
def inD (x : Dt) (ys : List Dt) : Bool := ys.any fun y => eqD y x
theorem flat_of {K : PySem.W.Frag} {F : Hp} {v : V} {x : Dt} (a : Rp K F v x) : flatV v = flatD x := by cases a <;> rfl
theorem eq_of {K : PySem.W.Frag} {F : Hp} {v w : V} {x y : Dt} (a : Rp K F v x) (b : Rp K F w y) (hx : flatD x = true) (hy : flatD y = true) : eqV v w = eqD x y := by
  cases a <;> cases b <;> first | rfl | (cases hx; done) | (cases hy; done)
theorem in_of {K : PySem.W.Frag} {F : Hp} {v : V} {x : Dt} (a : Rp K F v x) (hx : flatD x = true) : ∀ {ws : List V} {ys : List Dt}, RpAll K F ws ys → ys.all flatD = true → inV v ws = inD x ys ∧ ws.all flatV = true
  | _, _, .nil, _ => ⟨rfl, rfl⟩
  | _, _, .cons r t, h => by
    simp only [List.all_cons, Bool.and_eq_true] at h
    obtain ⟨h1, h2⟩ := in_of a hx t h.2
    refine ⟨?_, ?_⟩
    · unfold inV inD at *
      rw [List.any_cons, List.any_cons, h1, eq_of r a h.1 hx]
    · rw [List.all_cons, h2, flat_of r, h.1]; rfl
theorem o_inL {x : Dt} {ys : List Dt} {neg : Bool} {P : Dt → Prop} (hx : flatD x = true) (hy : ys.all flatD = true) (hp : P (.bl (if neg then !inD x ys else inD x ys))) : Op2 B (rIn B.K neg) es x (.lst ys) P := fun σ F H v w S a b Q k => by
  cases b with
  | lst hl hr =>
    obtain ⟨h1, h2⟩ := in_of a hx hr hy
    refine ⟨_, _, rfl, .inl (SqL.of (S.sub _ _ hl)), by rw [flat_of a]; exact hx, h2, ?_⟩
    rw [h1]
    exact k _ _ F H S.refl (.bl _) hp
theorem o_inT {x : Dt} {ys : List Dt} {neg : Bool} {P : Dt → Prop} (hx : flatD x = true) (hy : ys.all flatD = true) (hp : P (.bl (if neg then !inD x ys else inD x ys))) : Op2 B (rIn B.K neg) es x (.tup ys) P := fun σ F H v w S a b Q k => by
  cases b with
  | tup hl hr =>
    obtain ⟨h1, h2⟩ := in_of a hx hr hy
    refine ⟨_, _, rfl, .inr (sqT_mono S.sub hl), by rw [flat_of a]; exact hx, h2, ?_⟩
    rw [h1]
    exact k _ _ F H S.refl (.bl _) hp
/-- one sign in a text -/
theorem o_inS {c : Nat} {z : Str} {P : Dt → Prop} (hp : P (.bl (decide (c ∈ z.cps.toList)))) : Op2 B (fun x y H Q => ∃ (c : Nat) (z : Str), x = .str ⟨#[c]⟩ ∧ y = .str z ∧ Q (.bl (decide (c ∈ z.cps.toList))) H) es (.str ⟨#[c]⟩) (.str z) P := fun σ F H v w S a b Q k => by
  cases a; cases b; exact ⟨c, z, rfl, rfl, k _ _ F H S.refl (.bl _) hp⟩
theorem o_niS {c : Nat} {z : Str} {P : Dt → Prop} (hp : P (.bl (!decide (c ∈ z.cps.toList)))) : Op2 B (fun x y H Q => ∃ (c : Nat) (z : Str), x = .str ⟨#[c]⟩ ∧ y = .str z ∧ Q (.bl (!decide (c ∈ z.cps.toList))) H) es (.str ⟨#[c]⟩) (.str z) P := fun σ F H v w S a b Q k => by
  cases a; cases b; exact ⟨c, z, rfl, rfl, k _ _ F H S.refl (.bl _) hp⟩
/-- items -/
theorem o_ixL {xs : List Dt} {i : Int} {x : Dt} {P : Dt → Prop} (hi : atI xs i = some x) (hp : P x) : Op2 B (rIxL B.K) es (.lst xs) (.int i) P := fun σ F H v w S a b Q k => by
  cases b
  cases a with
  | lst hl hr =>
    unfold atI at hi
    cases e : ixN xs.length i with
    | none => rw [e] at hi; cases hi
    | some j =>
      rw [e] at hi
      obtain ⟨u, h1, h2⟩ := hr.get (show xs[j]? = some x from hi)
      refine ⟨_, _, i, u, rfl, rfl, SqL.of (S.sub _ _ hl), ?_, k _ _ F H S.refl h2 hp⟩
      unfold atI
      rw [hr.length, e]
      exact h1
theorem o_ixT {xs : List Dt} {i : Int} {x : Dt} {P : Dt → Prop} (hi : atI xs i = some x) (hp : P x) : Op2 B (rIxT B.K) es (.tup xs) (.int i) P := fun σ F H v w S a b Q k => by
  cases b
  cases a with
  | tup hl hr =>
    unfold atI at hi
    cases e : ixN xs.length i with
    | none => rw [e] at hi; cases hi
    | some j =>
      rw [e] at hi
      obtain ⟨u, h1, h2⟩ := hr.get (show xs[j]? = some x from hi)
      refine ⟨_, _, i, u, rfl, rfl, sqT_mono S.sub hl, ?_, k _ _ F H S.refl h2 hp⟩
      unfold atI
      rw [hr.length, e]
      exact h1
theorem o_ixS {z : Str} {i : Int} {c : Nat} {P : Dt → Prop} (hl : z.length ≤ 100000) (hi : atI z.cps.toList i = some c) (hp : P (.str ⟨#[c]⟩)) : Op2 B rIxS es (.str z) (.int i) P := fun σ F H v w S a b Q k => by
  cases b; cases a; exact ⟨z, i, c, rfl, rfl, size_of hl, hi, k _ _ F H S.refl (.str _) hp⟩
theorem o_ixAL {xs : List Dt} {i : Int} {x : Dt} {P : Dt → Prop} (hi : atI xs i = some x) (hp : P x) : Op2 B (rIx B.K) es (.lst xs) (.int i) P := fun σ F H v w S a b Q k => .inl (o_ixL hi hp σ F H v w S a b Q k)
theorem o_ixAT {xs : List Dt} {i : Int} {x : Dt} {P : Dt → Prop} (hi : atI xs i = some x) (hp : P x) : Op2 B (rIx B.K) es (.tup xs) (.int i) P := fun σ F H v w S a b Q k => .inr (.inl (o_ixT hi hp σ F H v w S a b Q k))
theorem o_ixAS {z : Str} {i : Int} {c : Nat} {P : Dt → Prop} (hl : z.length ≤ 100000) (hi : atI z.cps.toList i = some c) (hp : P (.str ⟨#[c]⟩)) : Op2 B (rIx B.K) es (.str z) (.int i) P := fun σ F H v w S a b Q k => .inr (.inr (o_ixS hl hi hp σ F H v w S a b Q k))
/-- xs + ys; s + t -/
theorem o_catO {r : R2} (hr : r = rCat) {xs ys : List Dt} {σ : St} {F H : Hp} {v w : V} (S : Stt B es σ F H) (a : Rp B.K F v (.lst xs)) (b : Rp B.K F w (.lst ys)) (hl : xs.length + ys.length ≤ 100000) {Q : VK}
    (k : ∀ a vs F' H', Go B F H F' H' → H a = none → F' a = none → H' a = some (.lst vs) → RpAll B.K F' vs (xs ++ ys) → Q (.ref a) H') : r v w H Q := by
  subst hr
  cases a with
  | lst h1 r1 =>
    cases b with
    | lst h2 r2 =>
      refine ⟨_, _, _, _, rfl, rfl, S.sub _ _ h1, S.sub _ _ h2, size_of (by rw [r1.length, r2.length]; exact hl), fun p hp => ?_⟩
      exact k p _ F _ (S.allocO hp) hp (same_none S.sub hp) upd_same (r1.app r2)
theorem o_cat {xs ys : List Dt} {P : Dt → Prop} (hl : xs.length + ys.length ≤ 100000) (hp : P (.lst (xs ++ ys))) : Op2 B rCat es (.lst xs) (.lst ys) P := fun σ F H v w S a b Q k =>
  o_catO rfl S a b hl fun p vs F' H' g h0 h1 h2 r => k _ _ (upd F' p (.lst vs)) H' (g.freeze S h0 h1 h2) (.lst upd_same (r.mono (same_upd h1))) hp
theorem o_catS {x y : Str} {P : Dt → Prop} (hl : x.length + y.length ≤ 100000) (hp : P (.str (x ++ y))) : Op2 B (fun x y H Q => ∃ i j, x = .str i ∧ y = .str j ∧ i.length + j.length ≤ sizeLine ∧ Q (.str (i ++ j)) H) es (.str x) (.str y) P := fun σ F H v w S a b Q k => by
  cases a; cases b; exact ⟨x, y, rfl, rfl, size_of hl, k _ _ F H S.refl (.str _) hp⟩
/-- a one-place operation -/
theorem ev_neg {ta : TE} {P : Dt → Prop} (h : Ev B ta es fun x => ∃ i, x = .int i ∧ P (.int (-i))) : Ev B (tUn (rU fun i => .int (-i)) ta) es P := fun σ F H S Q q =>
  h σ F H S _ fun v x F1 H1 g1 r1 ⟨i, e, p1⟩ => by
    subst e
    cases r1
    exact ⟨i, rfl, q _ _ F1 H1 g1 (.int _) p1⟩

/-! ### tests -/
theorem et_B {te : TE} {P : Bool → Prop} (h : Ev B te es fun d => ∃ b, d = .bl b ∧ P b) : EvT B (tB te) es P := fun σ F H S Q q =>
  h σ F H S _ fun v x F1 H1 g1 r1 ⟨b, e, p1⟩ => by subst e; cases r1; exact ⟨b, rfl, q b F1 H1 g1 p1⟩
theorem et_test {te : TE} {P : Bool → Prop} (h : Ev B te es fun d => ∃ b, d = .bl b ∧ P b) : EvT B (tTest te) es P := fun σ F H S Q q =>
  h σ F H S _ fun v x F1 H1 g1 r1 ⟨b, e, p1⟩ => by subst e; cases r1; exact ⟨b, rfl, q b F1 H1 g1 p1⟩
theorem et_not {t : TT} {P : Bool → Prop} (h : EvT B t es fun b => P (!b)) : EvT B (tNot t) es P := fun σ F H S Q q => h σ F H S _ fun b F1 H1 g1 p1 => q _ F1 H1 g1 p1
theorem et_and {t u : TT} {P : Bool → Prop} (h : EvT B t es fun b => (b = true → EvT B u es P) ∧ (b = false → P false)) : EvT B (tAnd t u) es P := fun σ F H S Q q => h σ F H S _ fun b F1 H1 g1 p1 => by
  cases b with
  | true =>
    show u σ H1 Q
    exact p1.1 rfl σ F1 H1 (S.go g1) Q fun c F2 H2 g2 p2 => q c F2 H2 (g1.trans g2) p2
  | false =>
    show Q false H1
    exact q false F1 H1 g1 (p1.2 rfl)
theorem et_or {t u : TT} {P : Bool → Prop} (h : EvT B t es fun b => (b = true → P true) ∧ (b = false → EvT B u es P)) : EvT B (tOr t u) es P := fun σ F H S Q q => h σ F H S _ fun b F1 H1 g1 p1 => by
  cases b with
  | false =>
    show u σ H1 Q
    exact p1.2 rfl σ F1 H1 (S.go g1) Q fun c F2 H2 g2 p2 => q c F2 H2 (g1.trans g2) p2
  | true =>
    show Q true H1
    exact q true F1 H1 g1 (p1.1 rfl)
theorem ev_and {ta tb : TE} {P : Dt → Prop} (h : Ev B ta es fun d => ∃ b, d = .bl b ∧ (b = true → Ev B tb es P) ∧ (b = false → P (.bl false))) : Ev B (tAndV ta tb) es P := fun σ F H S Q q => h σ F H S _ fun v d F1 H1 g1 r1 ⟨b, e, p1⟩ => by
  subst e
  cases r1
  refine ⟨b, rfl, ?_⟩
  cases b with
  | true =>
    show tb σ H1 Q
    exact p1.1 rfl σ F1 H1 (S.go g1) Q fun w c F2 H2 g2 r2 p2 => q w c F2 H2 (g1.trans g2) r2 p2
  | false =>
    show Q (.bl false) H1
    exact q _ _ F1 H1 g1 (.bl false) (p1.2 rfl)
theorem ev_or {ta tb : TE} {P : Dt → Prop} (h : Ev B ta es fun d => ∃ b, d = .bl b ∧ (b = true → P (.bl true)) ∧ (b = false → Ev B tb es P)) : Ev B (tOrV ta tb) es P := fun σ F H S Q q => h σ F H S _ fun v d F1 H1 g1 r1 ⟨b, e, p1⟩ => by
  subst e
  cases r1
  refine ⟨b, rfl, ?_⟩
  cases b with
  | false =>
    show tb σ H1 Q
    exact p1.2 rfl σ F1 H1 (S.go g1) Q fun w c F2 H2 g2 r2 p2 => q w c F2 H2 (g1.trans g2) r2 p2
  | true =>
    show Q (.bl true) H1
    exact q _ _ F1 H1 g1 (.bl true) (p1.1 rfl)
theorem ev_not {ta : TE} {P : Dt → Prop} (h : Ev B ta es fun d => ∃ b, d = .bl b ∧ P (.bl (!b))) : Ev B (tNotV ta) es P := fun σ F H S Q q => h σ F H S _ fun v d F1 H1 g1 r1 ⟨b, e, p1⟩ => by
  subst e; cases r1; exact ⟨b, rfl, q _ _ F1 H1 g1 (.bl _) p1⟩
theorem ev_if {t : TT} {ta tb : TE} {P : Dt → Prop} (h : EvT B t es fun b => (b = true → Ev B ta es P) ∧ (b = false → Ev B tb es P)) : Ev B (tIf t ta tb) es P := fun σ F H S Q q => h σ F H S _ fun b F1 H1 g1 p1 => by
  cases b with
  | true =>
    show ta σ H1 Q
    exact p1.1 rfl σ F1 H1 (S.go g1) Q fun w c F2 H2 g2 r2 p2 => q w c F2 H2 (g1.trans g2) r2 p2
  | false =>
    show tb σ H1 Q
    exact p1.2 rfl σ F1 H1 (S.go g1) Q fun w c F2 H2 g2 r2 p2 => q w c F2 H2 (g1.trans g2) r2 p2
theorem ev_chain {r r' : R2} {ta tb tc : TE} {P : Dt → Prop} (h : Ev B ta es fun x => Ev B tb es fun y => Op2 B r es x y fun z => ∃ k, z = .bl k ∧ (k = true → Ev B tc es fun w => Op2 B r' es y w P) ∧ (k = false → P (.bl false))) : Ev B (tChain r r' ta tb tc) es P := fun σ F H S Q q =>
  h σ F H S _ fun v x F1 H1 g1 r1 p1 => p1 σ F1 H1 (S.go g1) _ fun w y F2 H2 g2 r2 p2 => p2 σ F2 H2 v w ((S.go g1).go g2) (r1.mono g2.s1) r2 _ fun u z F3 H3 g3 r3 ⟨b, e, p3⟩ => by
    subst e
    cases r3
    refine ⟨b, rfl, ?_⟩
    have S3 := ((S.go g1).go g2).go g3
    cases b with
    | true =>
      show tc σ H3 _
      exact p3.1 rfl σ F3 H3 S3 _ fun a d F4 H4 g4 r4 p4 => p4 σ F4 H4 w a (S3.go g4) (r2.mono (g3.s1.trans g4.s1)) r4 Q fun b' d' F5 H5 g5 r5 p5 => q b' d' F5 H5 ((((g1.trans g2).trans g3).trans g4).trans g5) r5 p5
    | false =>
      show Q (.bl false) H3
      exact q _ _ F3 H3 ((g1.trans g2).trans g3) (.bl false) (p3.2 rfl)

/-! ### calls of built-ins -/
def Cal (B : Bs) (r : List V → Hp → VK → Prop) (es : List Sl) (ds : List Dt) (P : Dt → Prop) : Prop := ∀ σ F H vs, Stt B es σ F H → RpAll B.K F vs ds → ∀ Q : VK,
  (∀ v d F' H', Go B F H F' H' → Rp B.K F' v d → P d → Q v H') → r vs H Q
theorem ev_cb {r : List V → Hp → VK → Prop} {ta : TA} {P : Dt → Prop} (h : EvA B ta es fun ds => Cal B r es ds P) : Ev B (tCB r ta) es P := fun σ F H S Q q =>
  h σ F H S _ fun vs ds F1 H1 g1 r1 p1 => p1 σ F1 H1 vs (S.go g1) r1 Q fun v d F2 H2 g2 r2 p2 => q v d F2 H2 (g1.trans g2) r2 p2
theorem c_altL {r q : List V → Hp → VK → Prop} {ds : List Dt} {P : Dt → Prop} (h : Cal B r es ds P) : Cal B (cAlt r q) es ds P := fun σ F H vs S a Q k => .inl (h σ F H vs S a Q k)
theorem c_altR {r q : List V → Hp → VK → Prop} {ds : List Dt} {P : Dt → Prop} (h : Cal B q es ds P) : Cal B (cAlt r q) es ds P := fun σ F H vs S a Q k => .inr (h σ F H vs S a Q k)
theorem rp1 {K : PySem.W.Frag} {F : Hp} {vs : List V} {d : Dt} (h : RpAll K F vs [d]) : ∃ v, vs = [v] ∧ Rp K F v d := by
  cases h with
  | cons r t => cases t; exact ⟨_, rfl, r⟩
theorem rp2 {K : PySem.W.Frag} {F : Hp} {vs : List V} {d e : Dt} (h : RpAll K F vs [d, e]) : ∃ v w, vs = [v, w] ∧ Rp K F v d ∧ Rp K F w e := by
  cases h with
  | cons r t =>
    obtain ⟨w, rfl, q⟩ := rp1 t
    exact ⟨_, _, rfl, r, q⟩
/-- len -/
def lenD : Dt → Option Nat
  | .str z => if z.length ≤ 100000 then some z.length else none
  | .lst xs => some xs.length
  | .tup xs => some xs.length
  | _ => none
def rLenA (K : PySem.W.Frag) : List V → Hp → VK → Prop := fun xs H Q => ∃ x n, xs = [x] ∧ LenV K x H n ∧ Q (.int n) H
theorem c_len {x : Dt} {n : Nat} {P : Dt → Prop} (hn : lenD x = some n) (hp : P (.int n)) : Cal B (rLenA B.K) es [x] P := fun σ F H vs S a Q k => by
  obtain ⟨v, rfl, r⟩ := rp1 a
  refine ⟨v, n, rfl, ?_, k _ _ F H S.refl (.int _) hp⟩
  cases r with
  | str z =>
    have hn' : (if z.length ≤ 100000 then some z.length else none) = some n := hn
    split at hn'
    · cases hn'; exact ⟨size_of (by assumption), rfl⟩
    · cases hn'
  | lst h1 h2 => cases hn; exact .inl ⟨_, SqL.of (S.sub _ _ h1), h2.length.symm⟩
  | tup h1 h2 => cases hn; exact .inr ⟨_, sqT_mono S.sub h1, h2.length.symm⟩
  | _ => cases hn
theorem c_int {i : Int} {P : Dt → Prop} (hp : P (.int i)) : Cal B (fun xs H Q => (∃ i, xs = [.int i] ∧ Q (.int i) H) ∨ ∃ k, xs = [.bl k] ∧ Q (.int (if k then 1 else 0)) H) es [.int i] P := fun σ F H vs S a Q k => by
  obtain ⟨v, rfl, r⟩ := rp1 a
  cases r
  exact .inl ⟨i, rfl, k _ _ F H S.refl (.int _) hp⟩
theorem c_intB {b : Bool} {P : Dt → Prop} (hp : P (.int (if b then 1 else 0))) : Cal B (fun xs H Q => (∃ i, xs = [.int i] ∧ Q (.int i) H) ∨ ∃ k, xs = [.bl k] ∧ Q (.int (if k then 1 else 0)) H) es [.bl b] P := fun σ F H vs S a Q k => by
  obtain ⟨v, rfl, r⟩ := rp1 a
  cases r
  exact .inr ⟨b, rfl, k _ _ F H S.refl (.int _) hp⟩
theorem c_abs {i : Int} {P : Dt → Prop} (hp : P (.int (if i < 0 then -i else i))) : Cal B (fun xs H Q => ∃ i, xs = [.int i] ∧ Q (.int (if i < 0 then -i else i)) H) es [.int i] P := fun σ F H vs S a Q k => by
  obtain ⟨v, rfl, r⟩ := rp1 a
  cases r
  exact ⟨i, rfl, k _ _ F H S.refl (.int _) hp⟩
theorem c_all {bs : List Bool} {P : Dt → Prop} (hp : P (.bl (bs.all id))) : Cal B (rAll B.K) es [.lst (bs.map Dt.bl)] P := fun σ F H vs S a Q k => by
  obtain ⟨v, rfl, r⟩ := rp1 a
  cases r with
  | lst h1 h2 =>
    have e := h2.bls
    subst e
    exact ⟨_, bs, rfl, SqL.of (S.sub _ _ h1), k _ _ F H S.refl (.bl _) hp⟩
/-- isinstance(x, T) -/
def dTy : Dt → String
  | .non => "NoneType" | .bl _ => "bool" | .int _ => "int" | .str _ => "str" | .lst _ => "list" | .tup _ => "tuple"
  | .dct _ _ => "dict"
  | .obj _ _ _ => ""
  | .ali _ => ""
def plainD : Dt → Bool
  | .obj _ _ _ => false
  | .ali _ => false
  | _ => true
theorem ty_of {K : PySem.W.Frag} {F H : Hp} {v : V} {x : Dt} (a : Rp K F v x) (s : Same F H) (h : plainD x = true) : TyX K H v (.type (dTy x)) := by
  cases a with
  | non => exact .base .non
  | bl b => exact .base (.bl b)
  | int i => exact .base (.int i)
  | str z => exact .base (.str z)
  | lst h1 _ => exact .base (.lst (s _ _ h1))
  | tup h1 _ =>
    rcases h1 with (h1 | ⟨o, h1⟩) | ⟨o, its, n, k1, k2, k3⟩
    · exact .base (.tup (s _ _ h1))
    · exact .fTuple (s _ _ h1)
    · exact .kTuple k1 k2
  | dct h1 _ _ _ => exact .base (.dK (s _ _ h1))
  | obj _ _ _ _ => cases h
  | ali _ => cases h
def isiD (T : String) : Dt → Option Bool
  | .obj _ _ _ => none
  | .ali _ => none
  | x => kitB (dTy x) T
theorem ev_isi {te : TE} {T : String} {P : Dt → Prop} (h : Ev B te es fun d => ∃ b, isiD T d = some b ∧ P (.bl b)) : Ev B (tCB (rIsi B.K) (tCons te (tCons (tC (.ty T)) tNil))) es P := fun σ F H S Q q =>
  h σ F H S _ fun v x F1 H1 g1 r1 ⟨b, e, p1⟩ => by
    have hx : plainD x = true := by cases x <;> first | rfl | (cases e; done)
    have hk : kitB (dTy x) T = some b := by cases x <;> first | exact e | (cases hx; done)
    exact ⟨v, .ty T, _, _, b, rfl, .ty T, ty_of r1 g1.s2 hx, kit_ty hk, q _ _ F1 H1 g1 (.bl b) p1⟩
def anyIsi (x : String) : List String → Option Bool
  | [] => some false
  | T :: Ts => match kitB x T with
    | some true => some true
    | some false => anyIsi x Ts
    | none => none
theorem kitAny_of {K : PySem.W.Frag} {x : String} : ∀ {Ts : List String} {b : Bool}, anyIsi x Ts = some b → PySem.W.kitAny K (.type x) (Ts.map Value.type) = some b
  | [], b, h => by cases h; rfl
  | T :: Ts, b, h => by
    unfold anyIsi at h
    cases e : kitB x T with
    | none => rw [e] at h; cases h
    | some c =>
      rw [e] at h
      cases c with
      | true => cases h; exact kitAny_cons (kit_ty e) (fun z => nomatch z) fun _ => rfl
      | false => exact kitAny_cons (kit_ty e) (fun _ => kitAny_of h) fun z => nomatch z
def isiDs (Ts : List String) : Dt → Option Bool
  | .obj _ _ _ => none
  | .ali _ => none
  | x => anyIsi (dTy x) Ts
/-- isinstance(x, (T, U)) -/
theorem ev_isi2 {te : TE} {T U : String} {P : Dt → Prop} (h : Ev B te es fun d => ∃ b, isiDs [T, U] d = some b ∧ P (.bl b)) : Ev B (tCB (rIsiT B.K) (tCons te (tCons (tTup (tCons (tC (.ty T)) (tCons (tC (.ty U)) tNil))) tNil))) es P := fun σ F H S Q q =>
  h σ F H S _ fun v x F1 H1 g1 r1 ⟨b, e, p1⟩ => by
    have S1 := S.go g1
    have hx : plainD x = true := by cases x <;> first | rfl | (cases e; done)
    have hk : anyIsi (dTy x) [T, U] = some b := by cases x <;> first | exact e | (cases hx; done)
    refine ⟨by show 2 ≤ sizeLine; decide, fun p hp => ?_⟩
    have g2 := S1.allocO (o := .tup [.ty T, .ty U]) hp
    exact ⟨v, p, [.ty T, .ty U], _, [.type T, .type U], b, rfl, upd_same, .cons (.ty T) (.cons (.ty U) .nil), ty_of r1 (g1.s2.trans (same_upd hp)) hx, kitAny_of hk, q _ _ F1 _ (g1.trans g2) (.bl b) p1⟩

/-! ### calls of defs -/
/-- the promise of a def over data: Pre of the arguments, Post of arguments and result -/
def spD (K : PySem.W.Frag) (Pre : List Dt → Prop) (Post : List Dt → Dt → Prop) : Sp := fun vs H Q _ => ∃ F ds, Same F H ∧ RpAll K F vs ds ∧ Pre ds ∧
  ∀ v d F' H', Same F F' → (∀ c, H c ≠ none → F c = none → F' c = none) → Same F' H' → Same H H' → Rp K F' v d → Post ds d → Q v H'
theorem ev_call {Pre : List Dt → Prop} {Post : List Dt → Dt → Prop} {E : XK} {ta : TA} {P : Dt → Prop} (h : EvA B ta es fun ds => Pre ds ∧ ∀ d, Post ds d → P d) : Ev B (tCall (spD B.K Pre Post) [] E ta) es P := fun σ F H S Q q =>
  h σ F H S _ fun vs ds F1 H1 g1 r1 ⟨p1, p2⟩ => by
    rw [List.append_nil]
    exact ⟨F1, ds, g1.s2, r1, p1, fun v d F2 H2 s1 s2 s3 s4 r2 p3 => q v d F2 H2 (g1.trans ((S.go g1).pure s1 s3 s2 s4)) r2 (p2 d p3)⟩
/-- the same with defaults behind -/
theorem ev_callD {Pre : List Dt → Prop} {Post : List Dt → Dt → Prop} {E : XK} {ta : TA} {P : Dt → Prop} {dvs : List V} {dds : List Dt} (hd : ∀ F, RpAll B.K F dvs dds) (h : EvA B ta es fun ds => Pre (ds ++ dds) ∧ ∀ d, Post (ds ++ dds) d → P d) : Ev B (tCall (spD B.K Pre Post) dvs E ta) es P := fun σ F H S Q q =>
  h σ F H S _ fun vs ds F1 H1 g1 r1 ⟨p1, p2⟩ => ⟨F1, ds ++ dds, g1.s2, r1.app (hd F1), p1, fun v d F2 H2 s1 s2 s3 s4 r2 p3 => q v d F2 H2 (g1.trans ((S.go g1).pure s1 s3 s2 s4)) r2 (p2 d p3)⟩
/-- f(k = v, ..) -/
theorem ev_callN {Pre : List Dt → Prop} {Post : List Dt → Dt → Prop} {E : XK} {ta tk : TA} {P : Dt → Prop} {n m : Nat} {gV : List V → List V → List V} {gD : List Dt → List Dt → List Dt}
    (hg : ∀ F vs ds zs as, RpAll B.K F vs ds → RpAll B.K F zs as → RpAll B.K F (gV vs zs) (gD ds as))
    (h : EvA B ta es fun ds => EvA B tk es fun as => ds.length = n ∧ as.length = m ∧ Pre (gD ds as) ∧ ∀ d, Post (gD ds as) d → P d) : Ev B (tCallN n m (spD B.K Pre Post) gV E ta tk) es P := fun σ F H S Q q =>
  h σ F H S _ fun vs ds F1 H1 g1 r1 p0 => p0 σ F1 H1 (S.go g1) _ fun zs as F2 H2 g2 r2 ⟨l1, l2, p1, p2⟩ => by
    have g := g1.trans g2
    exact ⟨by rw [r1.length]; exact l1, by rw [r2.length]; exact l2, F2, gD ds as, g2.s2, hg F2 _ _ _ _ (r1.mono g2.s1) r2, p1, fun v d F3 H3 s1 s2 s3 s4 r3 p3 => q v d F3 H3 (g.trans ((S.go g).pure s1 s3 s2 s4)) r3 (p2 d p3)⟩
/-- a def that draws: the drawing's list first -/
def spB (K : PySem.W.Frag) (Pre : List Dt → Prop) (Post : List Dt → Dt → Prop) : Sp := fun vs H Q _ => ∃ b ws F ds, vs = .ref b :: ws ∧ Same F H ∧ BagAt K F H b ∧ RpAll K F ws ds ∧ Pre ds ∧
  ∀ v d F' H', Same F F' → (∀ c, H c ≠ none → F c = none → F' c = none) → Same F' H' → (∀ c o, c ≠ b → H c = some o → H' c = some o) → BagAt K F' H' b → Rp K F' v d → Post ds d → Q v H'
theorem ev_callB {Pre : List Dt → Prop} {Post : List Dt → Dt → Prop} {E : XK} {ta : TA} {P : Dt → Prop} {i : Nat} {b : Addr} (hb : B.bag = some b) (hi : es[i]? = some (.r (.ref b))) (h : EvA B ta es fun ds => Pre ds ∧ ∀ d, Post ds d → P d) :
    Ev B (tCall (spB B.K Pre Post) [] E (tCons (tVar i) ta)) es P := fun σ F H S Q q => ⟨_, S.raw hi, h σ F H S _ fun vs ds F1 H1 g1 r1 ⟨p1, p2⟩ => by
    show spB B.K Pre Post ((V.ref b :: vs) ++ []) H1 Q E
    rw [List.append_nil]
    refine ⟨b, vs, F1, ds, rfl, g1.s2, g1.bg b hb, r1, p1, fun v d F2 H2 s1 s2 s3 s4 s5 r2 p3 => q v d F2 H2 (g1.trans ⟨s1, s3, s2, fun c o hc ho => s4 c o (fun e => hc (by rw [e]; exact hb)) ho, fun b' hb' => ?_⟩) r2 (p2 d p3)⟩
    rw [hb] at hb'
    cases hb'
    exact s5⟩
end
end Y
/-! Y3: statements, loops, comprehensions, the promise of a def. -/
namespace Y
open PySem L2

structure Po where
  nx : List Sl → Prop
  bk : List Sl → Prop
  ct : List Sl → Prop
  rt : List Sl → Dt → Prop
  ro : List Dt → Prop := fun _ => False
def Sm (B : Bs) (t : TS) (es : List Sl) (p : Po) : Prop := ∀ σ F H (D : Ends), Stt B es σ F H →
  (∀ es' σ' F' H', Stt B es' σ' F' H' → Same F F' → p.nx es' → D.nx σ' H') →
  (∀ es' σ' F' H', Stt B es' σ' F' H' → Same F F' → p.bk es' → D.bk σ' H') →
  (∀ es' σ' F' H', Stt B es' σ' F' H' → Same F F' → p.ct es' → D.ct σ' H') →
  (∀ v d es' σ' F' H', Stt B es' σ' F' H' → Same F F' → Rp B.K F' v d → p.rt es' d → D.rt v H') →
  (∀ a vs xs es' σ' F' H', Stt B es' σ' F' H' → Same F F' → F' a = none → H' a = some (.lst vs) → RpAll B.K F' vs xs → B.H0 a = none → B.bag ≠ some a → p.ro xs → D.rt (.ref a) H') → t D σ H

section
variable {B : Bs} {es : List Sl} {p : Po}
theorem Stt.set {σ : St} {F H : Hp} {i : Nat} {e : Sl} {o : Option V} (S : Stt B es σ F H) (h : SlOk B.K F H o e) (hw : ∀ a xs, e = .own a xs → B.H0 a = none ∧ B.bag ≠ some a ∧ ∀ (j : Nat) c ys, es[j]? = some (.own c ys) → c ≠ a) : Stt B (es.set i e) (σ.set i o) F H where
  sub := S.sub
  s0 := S.s0
  ou := S.ou
  fr := S.fr
  bg := S.bg
  len := by rw [List.length_set, List.length_set]; exact S.len
  ok := fun j e' o' h1 h2 => by
    by_cases hj : i = j
    · subst hj
      have l1 : i < es.length := by
        have := (List.getElem?_eq_some_iff.mp h1).1
        rwa [List.length_set] at this
      rw [List.getElem?_set_self l1] at h1
      rw [List.getElem?_set_self (by rw [S.len]; exact l1)] at h2
      cases h1; cases h2; exact h
    · rw [List.getElem?_set_ne hj] at h1 h2
      exact S.ok j e' o' h1 h2
  ow := fun j a xs h1 => by
    by_cases hj : i = j
    · subst hj
      have l1 : i < es.length := by
        have := (List.getElem?_eq_some_iff.mp h1).1
        rwa [List.length_set] at this
      rw [List.getElem?_set_self l1] at h1
      cases h1
      obtain ⟨k1, k2, _⟩ := hw a xs rfl
      exact ⟨k1, k2⟩
    · rw [List.getElem?_set_ne hj] at h1
      exact S.ow j a xs h1
  dis := fun j l a b xs ys hjl h1 h2 => by
    by_cases hj : i = j
    · subst hj
      have l1 : i < es.length := by
        have := (List.getElem?_eq_some_iff.mp h1).1
        rwa [List.length_set] at this
      rw [List.getElem?_set_self l1] at h1
      rw [List.getElem?_set_ne hjl] at h2
      cases h1
      exact ((hw a xs rfl).2.2 l b ys h2).symm
    · rw [List.getElem?_set_ne hj] at h1
      by_cases hl : i = l
      · subst hl
        have l1 : i < es.length := by
          have := (List.getElem?_eq_some_iff.mp h2).1
          rwa [List.length_set] at this
        rw [List.getElem?_set_self l1] at h2
        cases h2
        exact (hw b ys rfl).2.2 j a xs h1
      · rw [List.getElem?_set_ne hl] at h2
        exact S.dis j l a b xs ys hjl h1 h2
theorem Stt.setD {σ : St} {F H : Hp} {i : Nat} {v : V} {x : Dt} (S : Stt B es σ F H) (r : Rp B.K F v x) : Stt B (es.set i (.d x)) (σ.set i (some v)) F H := S.set ⟨v, rfl, r⟩ fun _ _ e => nomatch e
theorem Stt.setO {σ : St} {F H : Hp} {i : Nat} {a : Addr} {vs : List V} {xs : List Dt} (S : Stt B es σ F H) (h1 : F a = none) (h2 : H a = some (.lst vs)) (r : RpAll B.K F vs xs) (h3 : B.H0 a = none) (h4 : B.bag ≠ some a) (h5 : ∀ (j : Nat) c ys, es[j]? = some (.own c ys) → c ≠ a) :
    Stt B (es.set i (.own a xs)) (σ.set i (some (.ref a))) F H := S.set ⟨vs, rfl, h1, h2, r⟩ fun _ _ e => by cases e; exact ⟨h3, h4, h5⟩

theorem sm_seq {t u : TS} (h : Sm B t es { p with nx := fun es' => Sm B u es' p }) : Sm B (tSeq t u) es p := fun σ F H D S n b c r ro =>
  h σ F H { D with nx := u D } S (fun es' σ' F' H' S' s' q => q σ' F' H' D S' (fun e2 a2 F2 H2 S2 s2 q2 => n e2 a2 F2 H2 S2 (s'.trans s2) q2) (fun e2 a2 F2 H2 S2 s2 q2 => b e2 a2 F2 H2 S2 (s'.trans s2) q2)
    (fun e2 a2 F2 H2 S2 s2 q2 => c e2 a2 F2 H2 S2 (s'.trans s2) q2) (fun v d e2 a2 F2 H2 S2 s2 q2 => r v d e2 a2 F2 H2 S2 (s'.trans s2) q2) (fun a vs xs e2 a2 F2 H2 S2 s2 => ro a vs xs e2 a2 F2 H2 S2 (s'.trans s2))) b c r ro
theorem sm_next (h : p.nx es) : Sm B tNext es p := fun σ F H D S n _ _ _ _ => n es σ F H S (Same.refl F) h
theorem sm_brk (h : p.bk es) : Sm B tBreak es p := fun σ F H D S _ n _ _ _ => n es σ F H S (Same.refl F) h
theorem sm_cont (h : p.ct es) : Sm B tCont es p := fun σ F H D S _ _ n _ _ => n es σ F H S (Same.refl F) h
theorem sm_imp {t : TS} {p' : Po} (h : Sm B t es p') (h1 : ∀ e, p'.nx e → p.nx e) (h2 : ∀ e, p'.bk e → p.bk e) (h3 : ∀ e, p'.ct e → p.ct e) (h4 : ∀ e d, p'.rt e d → p.rt e d) (h5 : ∀ d, p'.ro d → p.ro d) : Sm B t es p := fun σ F H D S n b c r ro =>
  h σ F H D S (fun e a F' H' S' s q => n e a F' H' S' s (h1 e q)) (fun e a F' H' S' s q => b e a F' H' S' s (h2 e q)) (fun e a F' H' S' s q => c e a F' H' S' s (h3 e q)) (fun v d e a F' H' S' s q z => r v d e a F' H' S' s q (h4 e d z)) fun a vs xs e2 a2 F2 H2 S2 s2 k1 k2 k3 k4 k5 z => ro a vs xs e2 a2 F2 H2 S2 s2 k1 k2 k3 k4 k5 (h5 xs z)
theorem sm_retO {te : TE} (h : EvO B te es p.ro) : Sm B (tRet te) es p := fun σ F H D S _ _ _ _ ro => h σ F H S _ fun a vs xs F1 H1 g1 h0 h1 h2 r1 p1 => ro a vs xs es σ F1 H1 (S.go g1) g1.s1 h1 h2 r1 (S.new0 h0) (S.newB h0) p1
theorem sm_ret {te : TE} (h : Ev B te es (p.rt es)) : Sm B (tRet te) es p := fun σ F H D S _ _ _ r _ => h σ F H S _ fun v d F1 H1 g1 r1 p1 => r v d es σ F1 H1 (S.go g1) g1.s1 r1 p1
theorem sm_if {tc : TT} {t u : TS} (h : EvT B tc es fun b => (b = true → Sm B t es p) ∧ (b = false → Sm B u es p)) : Sm B (tIfS tc t u) es p := fun σ F H D S n b c r ro => h σ F H S _ fun k F1 H1 g1 p1 => by
  have S1 := S.go g1
  cases k with
  | true =>
    show t D σ H1
    exact p1.1 rfl σ F1 H1 D S1 (fun e2 a2 F2 H2 S2 s2 q2 => n e2 a2 F2 H2 S2 (g1.s1.trans s2) q2) (fun e2 a2 F2 H2 S2 s2 q2 => b e2 a2 F2 H2 S2 (g1.s1.trans s2) q2)
      (fun e2 a2 F2 H2 S2 s2 q2 => c e2 a2 F2 H2 S2 (g1.s1.trans s2) q2) (fun v d e2 a2 F2 H2 S2 s2 q2 => r v d e2 a2 F2 H2 S2 (g1.s1.trans s2) q2) (fun a vs xs e2 a2 F2 H2 S2 s2 => ro a vs xs e2 a2 F2 H2 S2 (g1.s1.trans s2))
  | false =>
    show u D σ H1
    exact p1.2 rfl σ F1 H1 D S1 (fun e2 a2 F2 H2 S2 s2 q2 => n e2 a2 F2 H2 S2 (g1.s1.trans s2) q2) (fun e2 a2 F2 H2 S2 s2 q2 => b e2 a2 F2 H2 S2 (g1.s1.trans s2) q2)
      (fun e2 a2 F2 H2 S2 s2 q2 => c e2 a2 F2 H2 S2 (g1.s1.trans s2) q2) (fun v d e2 a2 F2 H2 S2 s2 q2 => r v d e2 a2 F2 H2 S2 (g1.s1.trans s2) q2) (fun a vs xs e2 a2 F2 H2 S2 s2 => ro a vs xs e2 a2 F2 H2 S2 (g1.s1.trans s2))
theorem sm_drop {te : TE} (h : Ev B te es fun _ => p.nx es) : Sm B (tDrop te) es p := fun σ F H D S n _ _ _ _ => h σ F H S _ fun v d F1 H1 g1 r1 p1 => n es σ F1 H1 (S.go g1) g1.s1 p1
/-! ### targets -/
def Tg (B : Bs) (g : TG) (es : List Sl) (x : Dt) (P : List Sl → Prop) : Prop := ∀ σ F H v, Stt B es σ F H → Rp B.K F v x → ∀ Q : St → Hp → Prop, (∀ es' σ' F' H', Stt B es' σ' F' H' → Same F F' → P es' → Q σ' H') → g v σ H Q
def Tgs (B : Bs) (g : TGs) (es : List Sl) (xs : List Dt) (P : List Sl → Prop) : Prop := ∀ σ F H vs, Stt B es σ F H → RpAll B.K F vs xs → ∀ Q : St → Hp → Prop, (∀ es' σ' F' H', Stt B es' σ' F' H' → Same F F' → P es' → Q σ' H') → g vs σ H Q
theorem tg_name {i : Nat} {x : Dt} {P : List Sl → Prop} (h : P (es.set i (.d x))) : Tg B (gName i) es x P := fun σ F H v S r Q q => q _ _ F H (S.setD r) (Same.refl F) h
theorem tgs_nil {P : List Sl → Prop} (h : P es) : Tgs B gNil es [] P := fun σ F H vs S r Q q => by
  cases r
  exact ⟨rfl, q es σ F H S (Same.refl F) h⟩
theorem tgs_cons {t : TG} {u : TGs} {x : Dt} {xs : List Dt} {P : List Sl → Prop} (h : Tg B t es x fun es' => Tgs B u es' xs P) : Tgs B (gCons t u) es (x :: xs) P := fun σ F H vs S r Q q => by
  cases r with
  | cons r1 r2 =>
    exact ⟨_, _, rfl, h σ F H _ S r1 _ fun es' σ' F' H' S' s' p1 => p1 σ' F' H' _ S' (r2.mono s') Q fun e2 a2 F2 H2 S2 s2 p2 => q e2 a2 F2 H2 S2 (s'.trans s2) p2⟩
theorem tg_tup {n : Nat} {t : TGs} {xs : List Dt} {P : List Sl → Prop} (hn : xs.length = n) (h : Tgs B t es xs P) : Tg B (gTup B.K n t) es (.tup xs) P := fun σ F H v S r Q q => by
  cases r with
  | tup h1 h2 => exact ⟨_, _, rfl, sqT_mono S.sub h1, by rw [h2.length]; exact hn, h σ F H _ S h2 Q q⟩
theorem sm_asg {te : TE} {g : TG} (h : Ev B te es fun d => Tg B g es d p.nx) : Sm B (tAsg te g) es p := fun σ F H D S n _ _ _ _ => h σ F H S _ fun v d F1 H1 g1 r1 p1 => p1 σ F1 H1 v (S.go g1) r1 _ fun e2 a2 F2 H2 S2 s2 q2 => n e2 a2 F2 H2 S2 (g1.s1.trans s2) q2
theorem sm_set {te : TE} {i : Nat} (h : Ev B te es fun d => p.nx (es.set i (.d d))) : Sm B (tAsg te (gName i)) es p := sm_asg (h.imp fun d q => tg_name q)
theorem sm_setO {te : TE} {i : Nat} (h : EvO B te es fun xs => ∀ a, p.nx (es.set i (.own a xs))) : Sm B (tAsg te (gName i)) es p := fun σ F H D S n _ _ _ _ => h σ F H S _ fun a vs xs F1 H1 g1 h0 h1 h2 r1 p1 => by
  have S1 := S.go g1
  exact n _ _ F1 H1 (S1.setO h1 h2 r1 (S.new0 h0) (S.newB h0) fun j c ys hj => S.newS h0 j ys hj) g1.s1 (p1 a)
theorem sm_par {i j : Nat} {ta : TA} (h : EvA B ta es fun ds => ∃ x y, ds = [x, y] ∧ p.nx ((es.set i (.d x)).set j (.d y))) : Sm B (tPar i j ta) es p := fun σ F H D S n _ _ _ _ => h σ F H S _ fun vs ds F1 H1 g1 r1 ⟨x, y, e, p1⟩ => by
  subst e
  obtain ⟨v, w, rfl, a, b⟩ := rp2 r1
  exact ⟨v, w, rfl, n _ _ F1 H1 (((S.go g1).setD a).setD b) g1.s1 p1⟩
theorem sm_aug {i : Nat} {te : TE} {f : Int → Int → Int} {a : Int} (hi : es[i]? = some (.d (.int a))) (h : Ev B te es fun d => ∃ b, d = .int b ∧ p.nx (es.set i (.d (.int (f a b))))) : Sm B (tAug i te (ipI f)) es p := fun σ F H D S n _ _ _ _ => by
  obtain ⟨v, h1, h2⟩ := S.dat hi
  cases h2
  exact ⟨_, h1, h σ F H S _ fun w d F1 H1 g1 r1 ⟨b, e, p1⟩ => by
    subst e; cases r1; exact ⟨a, b, rfl, rfl, n _ _ F1 H1 ((S.go g1).setD (.int _)) g1.s1 p1⟩⟩

/-! ### a list of one's own -/
theorem Stt.own {σ : St} {F H : Hp} {i : Nat} {a : Addr} {xs : List Dt} (S : Stt B es σ F H) (h : es[i]? = some (.own a xs)) : ∃ vs, σ[i]? = some (some (.ref a)) ∧ F a = none ∧ H a = some (.lst vs) ∧ RpAll B.K F vs xs := by
  obtain ⟨o, h1, vs, rfl, k⟩ := S.slot h
  exact ⟨vs, h1, k⟩
theorem Stt.freeze {σ : St} {F H : Hp} {i : Nat} {xs : List Dt} {a : Addr} {vs : List V} (S : Stt B es σ F H) (h : es[i]? = some (.own a xs)) (hs : σ[i]? = some (some (.ref a))) (h1 : F a = none) (h2 : H a = some (.lst vs)) (h3 : RpAll B.K F vs xs) :
    Stt B (es.set i (.d (.lst xs))) σ (upd F a (.lst vs)) H where
  sub := fun c o e => by
    by_cases hc : c = a
    · subst hc; rw [upd_same] at e; rw [h2, e]
    · rw [upd_ne hc] at e; exact S.sub c o e
  s0 := S.s0.trans (same_upd h1)
  ou := fun c k1 k2 => by
    have hc : c ≠ a := fun e => k1 (by rw [e]; exact (S.ow i a xs h).1)
    rw [upd_ne hc]; exact S.ou c k1 k2
  fr := S.fr
  bg := fun b hb => by
    obtain ⟨k1, ws, ys, k2, k3, k4⟩ := S.bg b hb
    have hba : b ≠ a := fun q => (S.ow i a xs h).2 (by rw [hb, q])
    exact ⟨by rw [upd_ne hba]; exact k1, ws, ys, k2, k3.mono (same_upd h1), k4⟩
  len := by rw [List.length_set]; exact S.len
  ok := fun j e o k1 k2 => by
    by_cases hj : i = j
    · subst hj
      have l1 : i < es.length := (List.getElem?_eq_some_iff.mp h).1
      rw [List.getElem?_set_self l1] at k1
      cases k1
      rw [hs] at k2
      cases k2
      exact ⟨_, rfl, .lst upd_same (h3.mono (same_upd h1))⟩
    · rw [List.getElem?_set_ne hj] at k1
      have q := S.ok j e o k1 k2
      cases e with
      | no => exact q
      | any => trivial
      | d x => obtain ⟨v, z1, z2⟩ := q; exact ⟨v, z1, z2.mono (same_upd h1)⟩
      | r v => exact q
      | own c ys =>
        obtain ⟨ws, z1, z2, z3, z4⟩ := q
        have hca : c ≠ a := (S.dis i j a c xs ys hj h k1).symm
        exact ⟨ws, z1, by rw [upd_ne hca]; exact z2, z3, z4.mono (same_upd h1)⟩
  ow := fun j c ys k1 => by
    by_cases hj : i = j
    · subst hj
      have l1 : i < es.length := (List.getElem?_eq_some_iff.mp h).1
      rw [List.getElem?_set_self l1] at k1; cases k1
    · rw [List.getElem?_set_ne hj] at k1
      exact S.ow j c ys k1
  dis := fun j l c e ys zs hjl k1 k2 => by
    have l1 : i < es.length := (List.getElem?_eq_some_iff.mp h).1
    by_cases hj : i = j
    · subst hj; rw [List.getElem?_set_self l1] at k1; cases k1
    · by_cases hl : i = l
      · subst hl; rw [List.getElem?_set_self l1] at k2; cases k2
      · rw [List.getElem?_set_ne hj] at k1
        rw [List.getElem?_set_ne hl] at k2
        exact S.dis j l c e ys zs hjl k1 k2
theorem sm_freeze {t : TS} (i : Nat) {a : Addr} {xs : List Dt} (h : es[i]? = some (.own a xs)) (k : Sm B t (es.set i (.d (.lst xs))) p) : Sm B t es p := fun σ F H D S n b c r ro => by
  obtain ⟨vs, h1, h2, h3, h4⟩ := S.own h
  have s : Same F (upd F a (.lst vs)) := same_upd h2
  exact k σ _ H D (S.freeze h h1 h2 h3 h4) (fun e2 a2 F2 H2 S2 s2 q2 => n e2 a2 F2 H2 S2 (s.trans s2) q2) (fun e2 a2 F2 H2 S2 s2 q2 => b e2 a2 F2 H2 S2 (s.trans s2) q2)
    (fun e2 a2 F2 H2 S2 s2 q2 => c e2 a2 F2 H2 S2 (s.trans s2) q2) (fun v d e2 a2 F2 H2 S2 s2 q2 => r v d e2 a2 F2 H2 S2 (s.trans s2) q2) (fun a vs xs e2 a2 F2 H2 S2 s2 => ro a vs xs e2 a2 F2 H2 S2 (s.trans s2))
/-- the list at an own slot is changed -/
theorem Stt.change {σ : St} {F H : Hp} {i : Nat} {xs ys : List Dt} {a : Addr} {ws : List V} (S : Stt B es σ F H) (h : es[i]? = some (.own a xs)) (hs : σ[i]? = some (some (.ref a))) (h1 : F a = none) (h3 : RpAll B.K F ws ys) :
    Stt B (es.set i (.own a ys)) σ F (upd H a (.lst ws)) where
  sub := fun c o e => by
    rw [upd_ne (ne_of_none e h1)]; exact S.sub c o e
  s0 := S.s0
  ou := S.ou
  fr := fun c o k1 k2 => by
    have hc : c ≠ a := fun e => by
      have := (S.ow i a xs h).1
      rw [← e, k1] at this; cases this
    rw [upd_ne hc]; exact S.fr c o k1 k2
  bg := fun b hb => by
    obtain ⟨k1, ws, ys, k2, k3, k4⟩ := S.bg b hb
    have hba : b ≠ a := fun q => (S.ow i a xs h).2 (by rw [hb, q])
    exact ⟨k1, ws, ys, by rw [upd_ne hba]; exact k2, k3, k4⟩
  len := by rw [List.length_set]; exact S.len
  ok := fun j e o k1 k2 => by
    by_cases hj : i = j
    · subst hj
      have l1 : i < es.length := (List.getElem?_eq_some_iff.mp h).1
      rw [List.getElem?_set_self l1] at k1
      cases k1
      rw [hs] at k2
      cases k2
      exact ⟨ws, rfl, h1, upd_same, h3⟩
    · rw [List.getElem?_set_ne hj] at k1
      have q := S.ok j e o k1 k2
      cases e with
      | no => exact q
      | any => trivial
      | d x => exact q
      | r v => exact q
      | own c zs =>
        obtain ⟨us, z1, z2, z3, z4⟩ := q
        have hca : c ≠ a := (S.dis i j a c xs zs hj h k1).symm
        exact ⟨us, z1, z2, by rw [upd_ne hca]; exact z3, z4⟩
  ow := fun j c zs k1 => by
    by_cases hj : i = j
    · subst hj
      have l1 : i < es.length := (List.getElem?_eq_some_iff.mp h).1
      rw [List.getElem?_set_self l1] at k1
      cases k1
      exact S.ow i a xs h
    · rw [List.getElem?_set_ne hj] at k1
      exact S.ow j c zs k1
  dis := fun j l c e ys' zs hjl k1 k2 => by
    have l1 : i < es.length := (List.getElem?_eq_some_iff.mp h).1
    by_cases hj : i = j
    · subst hj
      rw [List.getElem?_set_self l1] at k1
      cases k1
      rw [List.getElem?_set_ne hjl] at k2
      exact S.dis i l a e xs zs hjl h k2
    · rw [List.getElem?_set_ne hj] at k1
      by_cases hl : i = l
      · subst hl
        rw [List.getElem?_set_self l1] at k2
        cases k2
        exact S.dis j i c a ys' xs hjl k1 h
      · rw [List.getElem?_set_ne hl] at k2
        exact S.dis j l c e ys' zs hjl k1 k2
theorem sm_append {i : Nat} {te : TE} {a : Addr} {xs : List Dt} (hi : es[i]? = some (.own a xs)) (h : Ev B te es fun d => xs.length < 100000 ∧ p.nx (es.set i (.own a (xs ++ [d])))) : Sm B (tDrop (tBM B.K "list" rAppend (tVar i) (tCons te tNil))) es p := fun σ F H D S n _ _ _ _ => by
  obtain ⟨vs, h1, h2, h3, h4⟩ := S.own hi
  refine ⟨_, h1, .inl ⟨rfl, _, SqL.of h3⟩, h σ F H S _ fun v d F1 H1 g1 r1 ⟨p1, p2⟩ => ?_⟩
  have S1 := S.go g1
  obtain ⟨vs', k1, k2, k3, k4⟩ := S1.own hi
  refine ⟨a, vs', v, rfl, rfl, k3, size_lt (by rw [k4.length]; exact p1), n _ _ F1 _ (S1.change hi h1 k2 (k4.app (.cons r1 .nil))) g1.s1 p2⟩

/-- an item of an own list is read; is stored; its length -/
theorem ev_ixOwn {i : Nat} {a : Addr} {xs : List Dt} {tb : TE} {P : Dt → Prop} (hi : es[i]? = some (.own a xs)) (h : Ev B tb es fun y => ∃ j, y = .int j ∧ ∃ x, atI xs j = some x ∧ P x) : Ev B (tOp (rIx B.K) (tVar i) tb) es P := fun σ F H S Q q => by
  obtain ⟨vs, h1, h2, h3, h4⟩ := S.own hi
  refine ⟨_, h1, h σ F H S _ fun w y F1 H1 g1 r1 ⟨j, e, x, hx, p1⟩ => ?_⟩
  subst e
  cases r1
  have S1 := S.go g1
  obtain ⟨vs', k1, k2, k3, k4⟩ := S1.own hi
  unfold atI at hx
  cases e : ixN xs.length j with
  | none => rw [e] at hx; cases hx
  | some n =>
    rw [e] at hx
    obtain ⟨u, z1, z2⟩ := k4.get (show xs[n]? = some x from hx)
    refine .inl ⟨a, vs', j, u, rfl, rfl, SqL.of k3, ?_, q _ _ F1 H1 g1 z2 p1⟩
    unfold atI
    rw [k4.length, e]
    exact z1
theorem sm_setItem {i : Nat} {a : Addr} {xs : List Dt} {te tj : TE} (hi : es[i]? = some (.own a xs)) (h : Ev B te es fun d => Ev B tj es fun y => ∃ j, y = .int j ∧ ∃ k, ixN xs.length j = some k ∧ p.nx (es.set i (.own a (xs.set k d)))) : Sm B (tAsg te (gSub (tVar i) tj rSetL)) es p := fun σ F H D S n _ _ _ _ =>
  h σ F H S _ fun v d F1 H1 g1 r1 p1 => by
    have S1 := S.go g1
    obtain ⟨vs, h1, h2, h3, h4⟩ := S1.own hi
    refine ⟨_, h1, p1 σ F1 H1 S1 _ fun w y F2 H2 g2 r2 ⟨j, e, k, hk, p2⟩ => ?_⟩
    subst e
    cases r2
    have S2 := S1.go g2
    obtain ⟨vs', k1, k2, k3, k4⟩ := S2.own hi
    exact ⟨a, vs', j, k, rfl, rfl, k3, by rw [k4.length]; exact hk, n _ _ F2 _ (S2.change hi h1 k2 (k4.set (r1.mono g2.s1) k)) (g1.s1.trans g2.s1) p2⟩
theorem ev_lenOwn {i : Nat} {a : Addr} {xs : List Dt} {P : Dt → Prop} (hi : es[i]? = some (.own a xs)) (h : P (.int xs.length)) : Ev B (tCB (rLenA B.K) (tCons (tVar i) tNil)) es P := fun σ F H S Q q => by
  obtain ⟨vs, h1, h2, h3, h4⟩ := S.own hi
  exact ⟨_, h1, _, xs.length, rfl, .inl ⟨vs, SqL.of h3, h4.length.symm⟩, q _ _ F H S.refl (.int _) h⟩

/-! ### walks -/
def Yl (K : PySem.W.Frag) (F : Hp) (H : Hp) (v : V) (x : Dt) (H' : Hp) : Prop := (H' = H ∧ Rp K F v x) ∨ ∃ T a b x1 x2, v = .ref T ∧ H T = none ∧ H' = upd H T (.tup [a, b]) ∧ Rp K F a x1 ∧ Rp K F b x2 ∧ x = .tup [x1, x2]
structure ItD (K : PySem.W.Frag) (J : It) (F : Hp) (xs : List Dt) : Prop where
  goes : ∀ (i : Nat) H, i < xs.length → Same F H → J.go i H
  stops : ∀ H, Same F H → J.stop xs.length H
  yields : ∀ (i : Nat) H v H', i < xs.length → Same F H → J.yld i H v H' → ∃ x, xs[i]? = some x ∧ Yl K F H v x H'
def EvI (B : Bs) (wi : TI) (es : List Sl) (P : List Dt → Prop) : Prop := ∀ σ F H, Stt B es σ F H → ∀ R : It → Hp → Prop, (∀ J xs F' H', Go B F H F' H' → ItD B.K J F' xs → P xs → R J H') → wi σ H R
theorem Yl.go {σ : St} {F F1 H H' : Hp} {v : V} {x : Dt} (y : Yl B.K F H v x H') (S : Stt B es σ F1 H) (s : Same F F1) : ∃ F2, Go B F1 H F2 H' ∧ Rp B.K F2 v x := by
  rcases y with ⟨rfl, r⟩ | ⟨T, a, b, x1, x2, rfl, h1, rfl, r1, r2, rfl⟩
  · exact ⟨F1, S.refl, r.mono s⟩
  · have hF : F1 T = none := same_none S.sub h1
    have s2 : Same F (upd F1 T (.tup [a, b])) := s.trans (same_upd hF)
    exact ⟨upd F1 T (.tup [a, b]), S.alloc h1, .tup (SqT.of upd_same) (.cons (r1.mono s2) (.cons (r2.mono s2) .nil))⟩
theorem sm_for {wi : TI} {g : TG} {tb : TS} (h : EvI B wi es fun xs => ∃ I : Nat → List Sl → Prop, I 0 es ∧
    (∀ (i : Nat) x es', xs[i]? = some x → I i es' → Tg B g es' x fun e2 => Sm B tb e2 { p with nx := I (i + 1), bk := p.nx, ct := I (i + 1) }) ∧ ∀ es', I xs.length es' → p.nx es') : Sm B (tFor wi g tb) es p := fun σ F H D S n b c r ro =>
  h σ F H S _ fun J xs F1 H1 g1 it ⟨I, i0, is, id⟩ => by
    have S1 := S.go g1
    refine ⟨fun i m σ' H' => m = xs.length - i ∧ i ≤ xs.length ∧ ∃ es' F', Stt B es' σ' F' H' ∧ Same F1 F' ∧ I i es', ⟨xs.length, by simp, Nat.zero_le _, es, F1, S1, Same.refl F1, i0⟩, ?_⟩
    rintro i m σ' H' ⟨rfl, hi, es', F', S', s', hI⟩
    by_cases hlt : i < xs.length
    · refine .inr ⟨it.goes i H' hlt (s'.trans S'.sub), fun σ2 H2 => ∃ es2 F2, Stt B es2 σ2 F2 H2 ∧ Same F1 F2 ∧ I (i + 1) es2, fun σ2 H2 ⟨es2, F2, a1, a2, a3⟩ => ⟨xs.length - (i + 1), by omega, rfl, hlt, es2, F2, a1, a2, a3⟩, fun v H2 y => ?_⟩
      obtain ⟨x, hx, hy⟩ := it.yields i H' v H2 hlt (s'.trans S'.sub) y
      obtain ⟨F2, g2, rx⟩ := hy.go S' s'
      refine is i x es' hx hI σ' F2 H2 v (S'.go g2) rx _ fun es3 σ3 F3 H3 S3 s3 hm => ?_
      have s03 : Same F1 F3 := (s'.trans g2.s1).trans s3
      refine hm σ3 F3 H3 _ S3 (fun e4 a4 F4 H4 S4 s4 q4 => ⟨e4, F4, S4, s03.trans s4, q4⟩) (fun e4 a4 F4 H4 S4 s4 q4 => n e4 a4 F4 H4 S4 ((g1.s1.trans s03).trans s4) q4)
        (fun e4 a4 F4 H4 S4 s4 q4 => ⟨e4, F4, S4, s03.trans s4, q4⟩) (fun v d e4 a4 F4 H4 S4 s4 q4 => r v d e4 a4 F4 H4 S4 ((g1.s1.trans s03).trans s4) q4) (fun a vs xs e2 a2 F2 H2 S2 s2 => ro a vs xs e2 a2 F2 H2 S2 ((g1.s1.trans s03).trans s2))
    · have e : i = xs.length := by omega
      subst e
      exact .inl ⟨it.stops H' (s'.trans S'.sub), n es' σ' F' H' S' (g1.s1.trans s') (id es' hI)⟩
theorem itd_list {K : PySem.W.Frag} {F : Hp} {a : Addr} {vs : List V} {xs : List Dt} (h : F a = some (.lst vs)) (r : RpAll K F vs xs) : ItD K (Itl K a) F xs where
  goes := fun i H hi s => ⟨vs, vs[i]'(by rw [r.length]; exact hi), SqL.of (s _ _ h), by simp⟩
  stops := fun H s => ⟨vs, SqL.of (s _ _ h), by rw [r.length]; exact Nat.le_refl _⟩
  yields := fun i H v H' hi s y => by
    obtain ⟨e, y2⟩ := y
    obtain ⟨d, h1, h2⟩ := r.getV (y2 vs (SqL.of (s _ _ h)))
    exact ⟨d, h1, .inl ⟨e, h2⟩⟩
theorem itd_tup {K : PySem.W.Frag} {F : Hp} {a : Addr} {vs : List V} {xs : List Dt} (h : SqT K F a vs) (r : RpAll K F vs xs) : ItD K (Itt K a) F xs where
  goes := fun i H hi s => ⟨vs, vs[i]'(by rw [r.length]; exact hi), sqT_mono s h, by simp⟩
  stops := fun H s => ⟨vs, sqT_mono s h, by rw [r.length]; exact Nat.le_refl _⟩
  yields := fun i H v H' hi s y => by
    obtain ⟨e, y2⟩ := y
    obtain ⟨d, h1, h2⟩ := r.getV (y2 vs (sqT_mono s h))
    exact ⟨d, h1, .inl ⟨e, h2⟩⟩
def rangeD (lo : Int) (n : Nat) : List Dt := (List.range n).map fun (i : Nat) => Dt.int (lo + (i : Int))
theorem rangeD_len (lo : Int) (n : Nat) : (rangeD lo n).length = n := by simp [rangeD]
theorem rangeD_get {lo : Int} {n i : Nat} {x : Dt} (h : (rangeD lo n)[i]? = some x) : i < n ∧ x = .int (lo + (i : Int)) := by
  have hl := (List.getElem?_eq_some_iff.mp h).1
  rw [rangeD_len] at hl
  refine ⟨hl, ?_⟩
  simp [rangeD, hl] at h
  exact h.symm
theorem itd_range {K : PySem.W.Frag} {F : Hp} {lo : Int} {n : Nat} : ItD K (Itr lo n) F (rangeD lo n) where
  goes := fun i H hi _ => by rw [rangeD_len] at hi; exact hi
  stops := fun H _ => by rw [rangeD_len]; exact Nat.le_refl _
  yields := fun i H v H' hi _ y => by
    rw [rangeD_len] at hi
    obtain ⟨rfl, rfl⟩ := y
    exact ⟨_, by simp [rangeD, hi], .inl ⟨rfl, .int _⟩⟩
def signsD (z : Str) : List Dt := z.cps.toList.map fun c => Dt.str ⟨#[c]⟩
theorem signsD_len (z : Str) : (signsD z).length = z.cps.size := by simp [signsD]
theorem itd_str {K : PySem.W.Frag} {F : Hp} {z : Str} : ItD K (Its z) F (signsD z) where
  goes := fun i H hi _ => by rw [signsD_len] at hi; exact hi
  stops := fun H _ => by rw [signsD_len]; exact Nat.le_refl _
  yields := fun i H v H' hi _ y => by
    obtain ⟨rfl, c, h1, rfl⟩ := y
    refine ⟨.str ⟨#[c]⟩, ?_, .inl ⟨rfl, .str _⟩⟩
    rw [signsD, List.getElem?_map, Array.getElem?_toList, h1]; rfl
def pairD : List Dt → List Dt → List Dt
  | x :: xs, y :: ys => .tup [x, y] :: pairD xs ys
  | _, _ => []
theorem pairD_len : ∀ (xs ys : List Dt), (pairD xs ys).length = min xs.length ys.length
  | [], ys => by simp [pairD]
  | x :: xs, [] => by simp [pairD]
  | x :: xs, y :: ys => by simp only [pairD, List.length_cons, pairD_len xs ys]; omega
theorem pairD_get : ∀ {xs ys : List Dt} {i : Nat} {x y : Dt}, xs[i]? = some x → ys[i]? = some y → (pairD xs ys)[i]? = some (.tup [x, y])
  | [], _, i, _, _, h, _ => by simp at h
  | _ :: _, [], i, _, _, _, h => by simp at h
  | a :: xs, b :: ys, 0, x, y, h1, h2 => by simp at h1 h2; subst h1 h2; rfl
  | a :: xs, b :: ys, i + 1, x, y, h1, h2 => by
    have := pairD_get (i := i) (xs := xs) (ys := ys) (x := x) (y := y) (by simpa using h1) (by simpa using h2)
    simpa [pairD] using this
theorem itd_zip {K : PySem.W.Frag} {F : Hp} {a b : Addr} {vs ws : List V} {xs ys : List Dt} (h : F a = some (.lst vs)) (r : RpAll K F vs xs) (h' : F b = some (.lst ws)) (r' : RpAll K F ws ys) : ItD K (Itz K a b) F (pairD xs ys) where
  goes := fun i H hi s => by
    rw [pairD_len] at hi
    have l1 := r.length
    have l2 := r'.length
    have w := walk_zip (K := K) (a := a) (b := b) (xs := vs) (ys := ws) (n := min vs.length ws.length) rfl
    exact w.goes i H (by omega) ⟨SqL.of (s _ _ h), SqL.of (s _ _ h')⟩
  stops := fun H s => by
    have l1 := r.length
    have l2 := r'.length
    have w := walk_zip (K := K) (a := a) (b := b) (xs := vs) (ys := ws) (n := min vs.length ws.length) rfl
    have q := w.stops H ⟨SqL.of (s _ _ h), SqL.of (s _ _ h')⟩
    rw [pairD_len, ← l1, ← l2]
    exact q
  yields := fun i H v H' hi s y => by
    rw [pairD_len] at hi
    have l1 := r.length
    have l2 := r'.length
    have w := walk_zip (K := K) (a := a) (b := b) (xs := vs) (ys := ws) (n := min vs.length ws.length) rfl
    obtain ⟨T, x, z, e1, e2, e3, e4, e5⟩ := w.yields i H v H' (by omega) ⟨SqL.of (s _ _ h), SqL.of (s _ _ h')⟩ y
    obtain ⟨d1, k1, k2⟩ := r.getV e4
    obtain ⟨d2, k3, k4⟩ := r'.getV e5
    exact ⟨_, pairD_get k1 k3, .inr ⟨T, x, z, d1, d2, e1, e2, e3, k2, k4, rfl⟩⟩
theorem itd_zipT {K : PySem.W.Frag} {F : Hp} {a b : Addr} {vs ws : List V} {xs ys : List Dt} (h : SqT K F a vs) (r : RpAll K F vs xs) (h' : SqT K F b ws) (r' : RpAll K F ws ys) : ItD K (RZ.ItzT K a b) F (pairD xs ys) where
  goes := fun i H hi s => by
    rw [pairD_len] at hi
    have l1 := r.length
    have l2 := r'.length
    have i1 : i < vs.length := by omega
    have i2 : i < ws.length := by omega
    exact ⟨vs, ws, vs[i], ws[i], sqT_mono s h, sqT_mono s h', by simp [i1], by simp [i2]⟩
  stops := fun H s => by
    have l1 := r.length
    have l2 := r'.length
    exact ⟨vs, ws, sqT_mono s h, sqT_mono s h', by rw [pairD_len]; omega⟩
  yields := fun i H v H' hi s y => by
    rw [pairD_len] at hi
    obtain ⟨T, x, z, e1, e2, e3, e4, e5⟩ := y
    obtain ⟨d1, k1, k2⟩ := r.getV (e4 vs (sqT_mono s h))
    obtain ⟨d2, k3, k4⟩ := r'.getV (e5 ws (sqT_mono s h'))
    exact ⟨_, pairD_get k1 k3, .inr ⟨T, x, z, d1, d2, e1, e2, e3, k2, k4, rfl⟩⟩
theorem ei_list {te : TE} {P : List Dt → Prop} (h : Ev B te es fun d => ∃ xs, d = .lst xs ∧ P xs) : EvI B (iList B.K te) es P := fun σ F H S R q => h σ F H S _ fun v d F1 H1 g1 r1 ⟨xs, e, p1⟩ => by
  subst e
  cases r1 with
  | lst h1 h2 => exact ⟨_, rfl, ⟨_, SqL.of (g1.s2 _ _ h1)⟩, q _ xs F1 H1 g1 (itd_list h1 h2) p1⟩
theorem ei_tup {te : TE} {P : List Dt → Prop} (h : Ev B te es fun d => ∃ xs, d = .tup xs ∧ P xs) : EvI B (iTup B.K te) es P := fun σ F H S R q => h σ F H S _ fun v d F1 H1 g1 r1 ⟨xs, e, p1⟩ => by
  subst e
  cases r1 with
  | tup h1 h2 => exact ⟨_, rfl, ⟨_, sqT_mono g1.s2 h1⟩, q _ xs F1 H1 g1 (itd_tup h1 h2) p1⟩
theorem ei_rng1 {ta : TA} {P : List Dt → Prop} (h : EvA B ta es fun ds => ∃ n : Int, ds = [.int n] ∧ -(2 ^ 62) ≤ n ∧ n < 2 ^ 62 ∧ P (rangeD 0 n.toNat)) : EvI B (iRng1 ta) es P := fun σ F H S R q => h σ F H S _ fun vs ds F1 H1 g1 r1 ⟨n, e, l1, l2, p1⟩ => by
  subst e
  obtain ⟨v, rfl, r⟩ := rp1 r1
  cases r
  exact ⟨n, rfl, l1, l2, q _ _ F1 H1 g1 itd_range p1⟩
theorem ei_rng2 {ta : TA} {P : List Dt → Prop} (h : EvA B ta es fun ds => ∃ m n : Int, ds = [.int m, .int n] ∧ (-(2 ^ 62) ≤ m ∧ m < 2 ^ 62 ∧ -(2 ^ 62) ≤ n ∧ n < 2 ^ 62) ∧ P (rangeD m (n - m).toNat)) : EvI B (iRng2 ta) es P := fun σ F H S R q => h σ F H S _ fun vs ds F1 H1 g1 r1 ⟨m, n, e, l1, p1⟩ => by
  subst e
  obtain ⟨v, w, rfl, r, r'⟩ := rp2 r1
  cases r; cases r'
  exact ⟨m, n, rfl, l1, q _ _ F1 H1 g1 itd_range p1⟩
theorem ei_str {te : TE} {P : List Dt → Prop} (h : Ev B te es fun d => ∃ z, d = .str z ∧ P (signsD z)) : EvI B (iStr te) es P := fun σ F H S R q => h σ F H S _ fun v d F1 H1 g1 r1 ⟨z, e, p1⟩ => by
  subst e
  cases r1
  exact ⟨z, rfl, q _ _ F1 H1 g1 itd_str p1⟩
theorem ei_zip {ta : TA} {P : List Dt → Prop} (h : EvA B ta es fun ds => ∃ xs ys, (ds = [.lst xs, .lst ys] ∨ ds = [.tup xs, .tup ys]) ∧ P (pairD xs ys)) : EvI B (RZ.iZipA B.K ta) es P := fun σ F H S R q => h σ F H S _ fun vs ds F1 H1 g1 r1 ⟨xs, ys, e, p1⟩ => by
  rcases e with e | e
  · subst e
    obtain ⟨v, w, rfl, r, r'⟩ := rp2 r1
    cases r with
    | lst h1 h2 =>
      cases r' with
      | lst h3 h4 => exact ⟨_, _, _, _, rfl, .inl ⟨SqL.of (g1.s2 _ _ h1), SqL.of (g1.s2 _ _ h3), q _ _ F1 H1 g1 (itd_zip h1 h2 h3 h4) p1⟩⟩
  · subst e
    obtain ⟨v, w, rfl, r, r'⟩ := rp2 r1
    cases r with
    | tup h1 h2 =>
      cases r' with
      | tup h3 h4 => exact ⟨_, _, _, _, rfl, .inr ⟨sqT_mono g1.s2 h1, sqT_mono g1.s2 h3, q _ _ F1 H1 g1 (itd_zipT h1 h2 h3 h4) p1⟩⟩
/-! ### comprehensions -/
def wipeE (es : List Sl) : List Nat → List Sl
  | [] => es
  | v :: vs => (wipeE es vs).set v .no
theorem Stt.wipe {σ : St} {F H : Hp} (S : Stt B es σ F H) : ∀ vs : List Nat, Stt B (wipeE es vs) (wipe σ vs) F H
  | [] => S
  | v :: vs => (S.wipe vs).set (i := v) (e := .no) (o := none) rfl fun _ _ e => nomatch e
/-- what a target that stores into slots of vs alone does -/
def TgC (B : Bs) (g : TG) (es : List Sl) (vs : List Nat) (x : Dt) (P : List Sl → Prop) : Prop := ∀ σ F H v, Stt B es σ F H → Rp B.K F v x → ∀ Q : St → Hp → Prop, (∀ es' σ', Stt B es' σ' F H → wipe σ' vs = wipe σ vs → P es' → Q σ' H) → g v σ H Q
theorem tc_name {j : Nat} {x : Dt} {P : List Sl → Prop} (h : P (es.set j (.d x))) : TgC B (gName j) es [j] x P := fun σ F H v S r Q q => q _ _ (S.setD r) (by simp [wipe]) h
theorem tc_tup2 {i j : Nat} {x y : Dt} {P : List Sl → Prop} (hij : i ≠ j) (h : P ((es.set i (.d x)).set j (.d y))) : TgC B (gTup B.K 2 (gCons (gName i) (gCons (gName j) gNil))) es [i, j] (.tup [x, y]) P := fun σ F H v S r Q q => by
  cases r with
  | tup h1 h2 =>
    obtain ⟨a, b, rfl, r1, r2⟩ := rp2 h2
    refine ⟨_, _, rfl, sqT_mono S.sub h1, rfl, a, [b], rfl, b, [], rfl, rfl, q _ _ ((S.setD r1).setD r2) ?_ h⟩
    simp only [wipe]
    apply List.ext_getElem?
    intro k
    simp only [List.getElem?_set, List.length_set]
    by_cases h1 : i = k <;> by_cases h2 : j = k <;> simp [h1, h2]
theorem tc_tup2' {i j : Nat} {x y : Dt} {P : List Sl → Prop} (hij : i ≠ j) (h : P ((es.set i (.d x)).set j (.d y))) : TgC B (gTup B.K 2 (gCons (gName i) (gCons (gName j) gNil))) es [j, i] (.tup [x, y]) P := fun σ F H v S r Q q => by
  cases r with
  | tup h1 h2 =>
    obtain ⟨a, b, rfl, r1, r2⟩ := rp2 h2
    refine ⟨_, _, rfl, sqT_mono S.sub h1, rfl, a, [b], rfl, b, [], rfl, rfl, q _ _ ((S.setD r1).setD r2) ?_ h⟩
    simp only [wipe]
    apply List.ext_getElem?
    intro k
    simp only [List.getElem?_set, List.length_set]
    by_cases h1 : i = k <;> by_cases h2 : j = k <;> simp [h1, h2]
theorem wipe_wipe (σ : St) (vs : List Nat) : wipe (wipe σ vs) vs = wipe σ vs := by
  have key : ∀ (us : List Nat) (τ : St) (k : Nat), (wipe τ us)[k]? = if k ∈ us then (τ[k]?).map (fun _ => none) else τ[k]? := by
    intro us
    induction us with
    | nil => intro τ k; simp [wipe]
    | cons u us ih =>
      intro τ k
      rw [wipe, List.getElem?_set, wipe_length]
      by_cases h : u = k
      · subst h
        by_cases hl : u < τ.length
        · simp [hl]
        · simp [hl, ih]
      · rw [if_neg h, ih]
        by_cases h2 : k ∈ us
        · simp [h2]
        · have : ¬ k = u := fun e => h e.symm
          simp [h2, this]
  apply List.ext_getElem?
  intro k
  rw [key, key]
  by_cases h : k ∈ vs
  · simp only [h, if_true]
    cases σ[k]? <;> rfl
  · simp [h]
theorem eo_lc {wi : TI} {g : TG} {tt : TT} {te : TE} {vs : List Nat} {P : List Dt → Prop} (h : EvI B wi es fun xs => xs.length < 100000 ∧ ∃ I : Nat → List Dt → Prop, I 0 [] ∧
    (∀ (i : Nat) x acc, xs[i]? = some x → I i acc → TgC B g (wipeE es vs) vs x fun e2 => EvT B tt e2 fun b => (b = true → Ev B te e2 fun y => I (i + 1) (acc ++ [y])) ∧ (b = false → I (i + 1) acc)) ∧ ∀ acc, I xs.length acc → P acc) : EvO B (tLc wi g tt te vs) es P := fun σ F H S Q q =>
  h σ F H S _ fun J xs F1 H1 g1 it ⟨hlen, I, i0, is, id⟩ => by
    intro Dl hD
    have S1 := S.go g1
    have hH : H Dl = none := g1.new (S1.newB hD) hD
    have gD := S1.allocO (o := .lst []) hD
    refine ⟨fun i m H' => m = xs.length - i ∧ i ≤ xs.length ∧ ∃ F' ws acc, Go B F1 (upd H1 Dl (.lst [])) F' (upd H' Dl (.lst [])) ∧ F' Dl = none ∧ Same F' H' ∧ (∀ b, B.bag = some b → BagAt B.K F' H' b) ∧ H' Dl = some (.lst ws) ∧ RpAll B.K F' ws acc ∧ acc.length ≤ i ∧ I i acc,
      ⟨xs.length, by simp, Nat.zero_le _, F1, [], [], ?_, same_none S1.sub hD, gD.s2, gD.bg, upd_same, .nil, Nat.zero_le _, i0⟩, ?_⟩
    · rw [upd_upd]
      exact (S1.go gD).refl
    rintro i m H' ⟨rfl, hi, F', ws, acc, g', hF', s', b', hw, hr, hal, hI⟩
    have gAll : Go B F1 H1 F' H' := by
      refine ⟨g'.s1, s', fun c h1 h2 => ?_, fun c o h1 h2 => ?_, b'⟩
      · refine g'.nw c ?_ h2
        rw [upd_ne (fun e => h1 (by rw [e]; exact hD))]
        exact h1
      · have hc : c ≠ Dl := ne_of_none h2 hD
        have k := g'.kp c o h1 (by rw [upd_ne hc]; exact h2)
        rw [upd_ne hc] at k
        exact k
    have S' := S1.go gAll
    by_cases hlt : i < xs.length
    · refine .inr ⟨it.goes i H' hlt (g'.s1.trans s'), fun H2 => ∃ F2 ws2 acc2, Go B F1 (upd H1 Dl (.lst [])) F2 (upd H2 Dl (.lst [])) ∧ F2 Dl = none ∧ Same F2 H2 ∧ (∀ b, B.bag = some b → BagAt B.K F2 H2 b) ∧ H2 Dl = some (.lst ws2) ∧ RpAll B.K F2 ws2 acc2 ∧ acc2.length ≤ i + 1 ∧ I (i + 1) acc2,
        fun H2 q2 => ⟨xs.length - (i + 1), by omega, rfl, hlt, q2⟩, fun v H2 y => ?_⟩
      obtain ⟨x, hx, hy⟩ := it.yields i H' v H2 hlt (g'.s1.trans s') y
      obtain ⟨F2, g2, rx⟩ := hy.go S' g'.s1
      have S2 := (S'.go g2).wipe vs
      have hD' : B.bag ≠ some Dl := S1.newB hD
      refine is i x acc hx hI _ F2 H2 v S2 rx _ fun es3 σ3 S3 hw3 p3 => ?_
      rw [wipe_wipe] at hw3
      refine ⟨hw3, p3 σ3 F2 H2 S3 _ fun b F3 H3 g3 p4 => ?_⟩
      -- from (F', H') to (F3, H3): the new list stays
      have g23 : Go B F' H' F3 H3 := g2.trans g3
      have hl3 : H3 Dl = some (.lst ws) := g23.kp Dl _ hD' hw
      have hF3 : F3 Dl = none := g23.nw Dl (by rw [hw]; simp) hF'
      have fin : ∀ F4 H4, Go B F' H' F4 H4 → F4 Dl = none → ∀ o, Go B F1 (upd H1 Dl (.lst [])) F4 (upd (upd H4 Dl o) Dl (.lst [])) := fun F4 H4 g4 hn o => by
        rw [upd_upd]
        refine ⟨g'.s1.trans g4.s1, fun c u e => ?_, fun c h1 h2 => ?_, fun c u h1 h2 => ?_, fun b hb => ?_⟩
        · rw [upd_ne (ne_of_none e hn)]; exact g4.s2 c u e
        · by_cases hc : c = Dl
          · rw [hc]; exact hn
          · rw [upd_ne hc] at h1
            have := gAll.nw c h1 h2
            refine g4.nw c ?_ this
            by_cases hb : B.bag = some c
            · obtain ⟨_, z, _, k, _⟩ := b' c hb; rw [k]; simp
            · cases e : H1 c with
              | none => exact absurd e h1
              | some u => rw [gAll.kp c u hb e]; simp
        · by_cases hc : c = Dl
          · rw [hc, upd_same] at h2 ⊢; exact h2
          · rw [upd_ne hc] at h2 ⊢; exact g4.kp c u h1 (gAll.kp c u h1 h2)
        · obtain ⟨k1, z, zs, k2, k3, k4⟩ := g4.bg b hb
          have hbd : b ≠ Dl := fun e => hD' (by rw [hb, e])
          exact ⟨k1, z, zs, by rw [upd_ne hbd]; exact k2, k3, k4⟩
      cases b with
      | true =>
        show te σ3 H3 _
        refine p4.1 rfl σ3 F3 H3 (S3.go g3) _ fun w y' F4 H4 g4 r4 p5 => ?_
        have g24 := g23.trans g4
        have hl4 : H4 Dl = some (.lst ws) := g24.kp Dl _ hD' hw
        have hF4 : F4 Dl = none := g24.nw Dl (by rw [hw]; simp) hF'
        have hb4 : ∀ b, B.bag = some b → BagAt B.K F4 (upd H4 Dl (.lst (ws ++ [w]))) b := fun b hb => by
          obtain ⟨k1, z, zs, k2, k3, k4⟩ := g4.bg b hb
          have hbd : b ≠ Dl := fun e => hD' (by rw [hb, e])
          exact ⟨k1, z, zs, by rw [upd_ne hbd]; exact k2, k3, k4⟩
        refine ⟨ws, hl4, size_lt (by rw [hr.length]; omega), F4, ws ++ [w], acc ++ [y'], fin F4 H4 g24 hF4 _, hF4, fun c u e => by rw [upd_ne (ne_of_none e hF4)]; exact g4.s2 c u e, hb4, upd_same, (hr.mono g24.s1).app (.cons r4 .nil), by simp; omega, p5⟩
      | false =>
        have e3 : upd H3 Dl (.lst ws) = H3 := by
          funext c
          by_cases hc : c = Dl
          · rw [hc, upd_same, hl3]
          · rw [upd_ne hc]
        refine ⟨F3, ws, acc, ?_, hF3, g3.s2, g3.bg, hl3, hr.mono g23.s1, by omega, p4.2 rfl⟩
        have := fin F3 H3 g23 hF3 (.lst ws)
        rw [e3] at this
        exact this
    · have e : i = xs.length := by omega
      subst e
      exact .inl ⟨it.stops H' (g'.s1.trans s'), q Dl ws acc F' H' (g1.trans gAll) hH hF' hw hr (id acc hI)⟩
theorem et_yes {P : Bool → Prop} (h : P true) : EvT B tYes es P := fun σ F H S Q q => q true F H S.refl h
/-- [f(x) for x in xs] where each item is told -/
theorem eo_map {wi : TI} {g : TG} {te : TE} {vs : List Nat} {P : List Dt → Prop} (h : EvI B wi es fun xs => xs.length < 100000 ∧ ∃ R : Dt → Dt → Prop,
    (∀ (i : Nat) x, xs[i]? = some x → TgC B g (wipeE es vs) vs x fun e2 => Ev B te e2 fun y => R x y) ∧ ∀ ys : List Dt, ys.length = xs.length → (∀ (i : Nat) x y, xs[i]? = some x → ys[i]? = some y → R x y) → P ys) : EvO B (tLc wi g tYes te vs) es P :=
  eo_lc fun σ F H S Q q => h σ F H S Q fun J xs F1 H1 g1 it ⟨hl, R, h1, h2⟩ => q J xs F1 H1 g1 it ⟨hl, fun i acc => i ≤ xs.length ∧ acc.length = i ∧ ∀ (k : Nat) x y, xs[k]? = some x → acc[k]? = some y → R x y, ⟨Nat.zero_le _, rfl, fun k x y _ e => by simp at e⟩,
    fun i x acc hx ⟨hi, ha, hR⟩ σ F H v S r Q q => h1 i x hx σ F H v S r Q fun es' σ' S' hw p => q es' σ' S' hw (et_yes ⟨fun _ => p.imp fun y hy => ⟨(List.getElem?_eq_some_iff.mp hx).1, by rw [List.length_append, ha]; rfl, fun k a b ka kb => by
      by_cases hk : k < acc.length
      · rw [List.getElem?_append_left hk] at kb; exact hR k a b ka kb
      · rw [List.getElem?_append_right (by omega)] at kb
        have hk2 : k = i := by
          have := (List.getElem?_eq_some_iff.mp kb).1
          simp at this; omega
        subst hk2
        rw [hx] at ka
        cases ka
        rw [ha] at kb
        simp at kb
        rw [← kb]
        exact hy⟩, fun z => nomatch z⟩), fun acc ⟨_, ha, hR⟩ => h2 acc ha hR⟩
end

/-! ### the promise of a def -/
/-- a def that hands back a new list -/
def spO (K : PySem.W.Frag) (Pre : List Dt → Prop) (Post : List Dt → List Dt → Prop) : Sp := fun vs H Q _ => ∃ F ds, Same F H ∧ RpAll K F vs ds ∧ Pre ds ∧
  ∀ a ws xs F' H', Same F F' → (∀ c, H c ≠ none → F c = none → F' c = none) → Same F' H' → Same H H' → H a = none → F' a = none → H' a = some (.lst ws) → RpAll K F' ws xs → Post ds xs → Q (.ref a) H'
theorem eo_call {B : Bs} {es : List Sl} {Pre : List Dt → Prop} {Post : List Dt → List Dt → Prop} {E : XK} {ta : TA} {P : List Dt → Prop} (h : EvA B ta es fun ds => Pre ds ∧ ∀ d, Post ds d → P d) : EvO B (tCall (spO B.K Pre Post) [] E ta) es P := fun σ F H S Q q =>
  h σ F H S _ fun vs ds F1 H1 g1 r1 ⟨p1, p2⟩ => by
    rw [List.append_nil]
    exact ⟨F1, ds, g1.s2, r1, p1, fun a ws xs F2 H2 s1 s2 s3 s4 h1 h2 h3 r2 p3 => q a ws xs F2 H2 (g1.trans ((S.go g1).pure s1 s3 s2 s4)) (g1.new ((S.go g1).newB h1) h1) h2 h3 r2 (p2 xs p3)⟩
theorem eo_callD {B : Bs} {es : List Sl} {Pre : List Dt → Prop} {Post : List Dt → List Dt → Prop} {E : XK} {ta : TA} {P : List Dt → Prop} {dvs : List V} {dds : List Dt} (hd : ∀ F, RpAll B.K F dvs dds) (h : EvA B ta es fun ds => Pre (ds ++ dds) ∧ ∀ d, Post (ds ++ dds) d → P d) : EvO B (tCall (spO B.K Pre Post) dvs E ta) es P := fun σ F H S Q q =>
  h σ F H S _ fun vs ds F1 H1 g1 r1 ⟨p1, p2⟩ => ⟨F1, ds ++ dds, g1.s2, r1.app (hd F1), p1, fun a ws xs F2 H2 s1 s2 s3 s4 h1 h2 h3 r2 p3 => q a ws xs F2 H2 (g1.trans ((S.go g1).pure s1 s3 s2 s4)) (g1.new ((S.go g1).newB h1) h1) h2 h3 r2 (p2 xs p3)⟩
theorem eo_callN {B : Bs} {es : List Sl} {Pre : List Dt → Prop} {Post : List Dt → List Dt → Prop} {E : XK} {ta tk : TA} {P : List Dt → Prop} {n m : Nat} {gV : List V → List V → List V} {gD : List Dt → List Dt → List Dt}
    (hg : ∀ F vs ds zs as, RpAll B.K F vs ds → RpAll B.K F zs as → RpAll B.K F (gV vs zs) (gD ds as))
    (h : EvA B ta es fun ds => EvA B tk es fun as => ds.length = n ∧ as.length = m ∧ Pre (gD ds as) ∧ ∀ d, Post (gD ds as) d → P d) : EvO B (tCallN n m (spO B.K Pre Post) gV E ta tk) es P := fun σ F H S Q q =>
  h σ F H S _ fun vs ds F1 H1 g1 r1 p0 => p0 σ F1 H1 (S.go g1) _ fun zs as F2 H2 g2 r2 ⟨l1, l2, p1, p2⟩ => by
    have g := g1.trans g2
    exact ⟨by rw [r1.length]; exact l1, by rw [r2.length]; exact l2, F2, gD ds as, g2.s2, hg F2 _ _ _ _ (r1.mono g2.s1) r2, p1, fun a ws xs F3 H3 s1 s2 s3 s4 h1 h2 h3 r3 p3 => q a ws xs F3 H3 (g.trans ((S.go g).pure s1 s3 s2 s4)) (g.new ((S.go g).newB h1) h1) h2 h3 r3 (p2 xs p3)⟩
theorem start_stt {K : PySem.W.Frag} {F H : Hp} {vs : List V} {ds : List Dt} {N : List Str} {bag : Option Addr} (s : Same F H) (r : RpAll K F vs ds) (hb : ∀ b, bag = some b → BagAt K F H b) :
    Stt ⟨K, F, H, bag⟩ (ds.map Sl.d ++ List.replicate (N.length - ds.length) Sl.no) (L2.start N vs) F H where
  sub := s
  s0 := Same.refl F
  ou := fun c _ h => h
  fr := fun c o h _ => h
  bg := hb
  len := by simp [L2.start, r.length]
  ok := fun i e o h1 h2 => by
    unfold L2.start at h2
    by_cases hi : i < ds.length
    · rw [List.getElem?_append_left (by simpa using hi)] at h1
      rw [List.getElem?_append_left (by simp [r.length]; exact hi)] at h2
      rw [List.getElem?_map] at h1 h2
      cases e1 : ds[i]? with
      | none => rw [e1] at h1; cases h1
      | some d =>
        obtain ⟨v, k1, k2⟩ := r.get e1
        rw [e1] at h1
        rw [k1] at h2
        cases h1; cases h2
        exact ⟨v, rfl, k2⟩
    · rw [List.getElem?_append_right (by simpa using hi)] at h1
      rw [List.getElem?_append_right (by simp [r.length]; omega)] at h2
      have q1 := List.mem_of_getElem? h1
      have q2 := List.mem_of_getElem? h2
      rw [List.eq_of_mem_replicate q1, List.eq_of_mem_replicate q2]
      rfl
  ow := fun i a xs h1 => by
    have hm := List.mem_of_getElem? h1
    rcases List.mem_append.mp hm with h | h
    · obtain ⟨d, _, e⟩ := List.mem_map.mp h; cases e
    · cases List.eq_of_mem_replicate h
  dis := fun i j a b xs ys _ h1 => by
    have hm := List.mem_of_getElem? h1
    rcases List.mem_append.mp hm with h | h
    · obtain ⟨d, _, e⟩ := List.mem_map.mp h; cases e
    · cases List.eq_of_mem_replicate h
abbrev env0 (N : List Str) (ds : List Dt) : List Sl := ds.map Sl.d ++ List.replicate (N.length - ds.length) Sl.no
abbrev env1 (N : List Str) (b : Addr) (ds : List Dt) : List Sl := .r (.ref b) :: (ds.map Sl.d ++ List.replicate (N.length - (ds.length + 1)) Sl.no)
section
variable {P : Program} {w : World} {K : PySem.W.Frag} {mg : Str → Option Value} {base : Heap} {x qual : Str} {st : Stmt} {f : Addr} {fd : FuncData} {N ps : List Str} {k : Nat} {Pre : List Dt → Prop} {Post : List Dt → Dt → Prop}
theorem fn_data (G : Fun K x qual st f fd) (S : FnScope N ps (defScope st)) (hl : ∀ ds, Pre ds → ds.length = ps.length)
    (hb : ∀ (cdv : Value) (A : Around) (outer : List Env) (s : Shared) (H : Hp) (E : XK), Room k (A.deeper (PyProof.Rows.envOfC qual (defScope st) s.heap.objs.size f cdv)) →
      ∃ t, PSs (cxOf CX0 P w K mg base N qual (defScope st) f cdv A outer s H E).nox (defBody st) t ∧ ∀ F0 H0 ds, Pre ds → Sm ⟨K, F0, H0, none⟩ t (env0 N ds) { nx := fun _ => Post ds .non, bk := fun _ => False, ct := fun _ => False, rt := fun _ => Post ds }) :
    FnOk P w K mg base CX0 (k + 1) f fd ps (spD K Pre Post) := by
  refine G.ok S (fun vs H Q E h => ?_) (fun cdv A outer s H vs Q E hr h => ?_)
  · obtain ⟨F, ds, _, r, hp, _⟩ := h
    rw [r.length]; exact hl ds hp
  · obtain ⟨F, ds, hs, r, hp, q⟩ := h
    obtain ⟨t, hd, hm⟩ := hb cdv A outer s H E hr
    refine ⟨t, hd, hm F H ds hp _ F H _ (start_stt hs r (fun _ z => nomatch z)) (fun es' σ' F' H' S' s' p => ?_) (fun _ _ _ _ _ _ z => z.elim) (fun _ _ _ _ _ _ z => z.elim) (fun v d es' σ' F' H' S' s' rv p => ?_) (fun _ _ _ _ _ _ _ _ _ _ _ _ _ _ z => z.elim)⟩
    · exact q _ _ F' H' s' S'.ou S'.sub (fun c o e => S'.fr c o e (fun z => nomatch z)) .non p
    · exact q _ _ F' H' s' S'.ou S'.sub (fun c o e => S'.fr c o e (fun z => nomatch z)) rv p
/-- a def whose first argument is the drawing's list, changed within -/
theorem fn_draw (G : Fun K x qual st f fd) (S : FnScope N ps (defScope st)) (hl : ∀ ds, Pre ds → ds.length + 1 = ps.length)
    (hb : ∀ (cdv : Value) (A : Around) (outer : List Env) (s : Shared) (H : Hp) (E : XK), Room k (A.deeper (PyProof.Rows.envOfC qual (defScope st) s.heap.objs.size f cdv)) →
      ∃ t, PSs (cxOf CX0 P w K mg base N qual (defScope st) f cdv A outer s H E).nox (defBody st) t ∧ ∀ F0 H0 b xs ds, BagD xs → Pre ds →
        Sm ⟨K, F0, H0, none⟩ t (.own b xs :: (ds.map Sl.d ++ List.replicate (N.length - (ds.length + 1)) Sl.no)) { nx := fun _ => False, bk := fun _ => False, ct := fun _ => False, rt := fun es' d => Post ds d ∧ ∃ ys, es'[0]? = some (.own b ys) ∧ BagD ys }) :
    FnOk P w K mg base CX0 (k + 1) f fd ps (spB K Pre Post) := by
  refine G.ok S (fun vs H Q E h => ?_) (fun cdv A outer s H vs Q E hr h => ?_)
  · obtain ⟨b, ws, F, ds, rfl, _, _, r, hp, _⟩ := h
    rw [List.length_cons, r.length]; exact hl ds hp
  · obtain ⟨b, ws, F, ds, rfl, hs, ⟨hFb, us, xs, hus, hr0, hB⟩, r, hp, q⟩ := h
    obtain ⟨t, hd, hm⟩ := hb cdv A outer s H E hr
    let H0 : Hp := fun c => if c = b then none else H c
    have e0 : H0 b = none := if_pos rfl
    have e1 : ∀ c, c ≠ b → H0 c = H c := fun c hc => if_neg hc
    have S0 := start_stt (K := K) (F := F) (H := H) (vs := .non :: ws) (ds := .non :: ds) (N := N) (bag := none) hs (.cons .non r) (fun _ z => nomatch z)
    have no : ∀ (j : Nat) c zs, (Sl.d .non :: (ds.map Sl.d ++ List.replicate (N.length - (ds.length + 1)) Sl.no))[j]? = some (.own c zs) → False := fun j c zs hj => by
      have hm := List.mem_of_getElem? hj
      rcases List.mem_cons.mp hm with h | h
      · cases h
      · rcases List.mem_append.mp h with h | h
        · obtain ⟨d, _, e⟩ := List.mem_map.mp h; cases e
        · cases List.eq_of_mem_replicate h
    have S1 : Stt ⟨K, F, H0, none⟩ (.d .non :: (ds.map Sl.d ++ List.replicate (N.length - (ds.length + 1)) Sl.no)) (L2.start N (.non :: ws)) F H := by
      refine ⟨S0.sub, S0.s0, fun c h1 h2 => h2, fun c o h1 _ => ?_, (fun _ z => nomatch z), S0.len, S0.ok, fun i a ys h1 => (no i a ys h1).elim, S0.dis⟩
      have h1 : H0 c = some o := h1
      by_cases hc : c = b
      · rw [hc, e0] at h1; cases h1
      · rw [e1 c hc] at h1; exact h1
    have S2 : Stt ⟨K, F, H0, none⟩ (.own b xs :: (ds.map Sl.d ++ List.replicate (N.length - (ds.length + 1)) Sl.no)) (L2.start N (.ref b :: ws)) F H :=
      S1.set (i := 0) (e := .own b xs) (o := some (.ref b)) ⟨us, rfl, hFb, hus, hr0⟩ fun c ys e => by
        cases e
        exact ⟨e0, (fun z => nomatch z), fun j c zs hj => (no j c zs hj).elim⟩
    refine ⟨t, hd, hm F H0 b xs ds hB hp _ F H _ S2 (fun _ _ _ _ _ _ z => z.elim) (fun _ _ _ _ _ _ z => z.elim) (fun _ _ _ _ _ _ z => z.elim) (fun v d es' σ' F' H' S' s' rv ⟨p, ys, hy, hB'⟩ => ?_) (fun _ _ _ _ _ _ _ _ _ _ _ _ _ _ z => z.elim)⟩
    obtain ⟨vs', k1, k2, k3, k4⟩ := S'.own hy
    refine q v d F' H' s' (fun c h1 h2 => ?_) S'.sub (fun c o hc ho => S'.fr c o (by show H0 c = some o; rw [e1 c hc]; exact ho) (fun z => nomatch z)) ⟨k2, vs', ys, k3, k4, hB'⟩ rv p
    by_cases hc : c = b
    · rw [hc]; exact k2
    · exact S'.ou c (by show H0 c ≠ none; rw [e1 c hc]; exact h1) h2
/-- the promise of a def that hands back a new list -/
theorem fn_own {PostO : List Dt → List Dt → Prop} (G : Fun K x qual st f fd) (S : FnScope N ps (defScope st)) (hl : ∀ ds, Pre ds → ds.length = ps.length)
    (hb : ∀ (cdv : Value) (A : Around) (outer : List Env) (s : Shared) (H : Hp) (E : XK), Room k (A.deeper (PyProof.Rows.envOfC qual (defScope st) s.heap.objs.size f cdv)) →
      ∃ t, PSs (cxOf CX0 P w K mg base N qual (defScope st) f cdv A outer s H E).nox (defBody st) t ∧ ∀ F0 H0 ds, Pre ds → Sm ⟨K, F0, H0, none⟩ t (env0 N ds) { nx := fun _ => False, bk := fun _ => False, ct := fun _ => False, rt := fun _ _ => False, ro := PostO ds }) :
    FnOk P w K mg base CX0 (k + 1) f fd ps (spO K Pre PostO) := by
  refine G.ok S (fun vs H Q E h => ?_) (fun cdv A outer s H vs Q E hr h => ?_)
  · obtain ⟨F, ds, _, r, hp, _⟩ := h
    rw [r.length]; exact hl ds hp
  · obtain ⟨F, ds, hs, r, hp, q⟩ := h
    obtain ⟨t, hd, hm⟩ := hb cdv A outer s H E hr
    refine ⟨t, hd, hm F H ds hp _ F H _ (start_stt hs r (fun _ z => nomatch z)) (fun _ _ _ _ _ _ z => z.elim) (fun _ _ _ _ _ _ z => z.elim) (fun _ _ _ _ _ _ z => z.elim) (fun _ _ _ _ _ _ _ _ _ z => z.elim) (fun a vs xs es' σ' F' H' S' s' h1 h2 r1 h3 h4 p => ?_)⟩
    exact q a vs xs F' H' s' S'.ou S'.sub (fun c o e => S'.fr c o e (fun z => nomatch z)) h3 h1 h2 r1 p
theorem start_sttB {F H : Hp} {vs : List V} {ds : List Dt} {b : Addr} (s : Same F H) (r : RpAll K F vs ds) (hb : BagAt K F H b) : Stt ⟨K, F, H, some b⟩ (env1 N b ds) (L2.start N (.ref b :: vs)) F H := by
  have S := start_stt (K := K) (F := F) (H := H) (vs := .non :: vs) (ds := .non :: ds) (N := N) (bag := some b) s (.cons .non r) (fun b' e => by cases e; exact hb)
  have S2 := S.set (i := 0) (e := .r (.ref b)) (o := some (.ref b)) rfl fun _ _ e => nomatch e
  exact S2
theorem fn_bag (G : Fun K x qual st f fd) (S : FnScope N ps (defScope st)) (hl : ∀ ds, Pre ds → ds.length + 1 = ps.length)
    (hb : ∀ (cdv : Value) (A : Around) (outer : List Env) (s : Shared) (H : Hp) (E : XK), Room k (A.deeper (PyProof.Rows.envOfC qual (defScope st) s.heap.objs.size f cdv)) →
      ∃ t, PSs (cxOf CX0 P w K mg base N qual (defScope st) f cdv A outer s H E).nox (defBody st) t ∧ ∀ F0 H0 b ds, Pre ds → Sm ⟨K, F0, H0, some b⟩ t (env1 N b ds) { nx := fun _ => Post ds .non, bk := fun _ => False, ct := fun _ => False, rt := fun _ => Post ds }) :
    FnOk P w K mg base CX0 (k + 1) f fd ps (spB K Pre Post) := by
  refine G.ok S (fun vs H Q E h => ?_) (fun cdv A outer s H vs Q E hr h => ?_)
  · obtain ⟨b, ws, F, ds, rfl, _, _, r, hp, _⟩ := h
    rw [List.length_cons, r.length]; exact hl ds hp
  · obtain ⟨b, ws, F, ds, rfl, hs, hB, r, hp, q⟩ := h
    obtain ⟨t, hd, hm⟩ := hb cdv A outer s H E hr
    have nb : ∀ c, c ≠ b → (some b : Option Addr) ≠ some c := fun c h e => h (Option.some.inj e).symm
    refine ⟨t, hd, hm F H b ds hp _ F H _ (start_sttB hs r hB) (fun es' σ' F' H' S' s' p => ?_) (fun _ _ _ _ _ _ z => z.elim) (fun _ _ _ _ _ _ z => z.elim) (fun v d es' σ' F' H' S' s' rv p => ?_) (fun _ _ _ _ _ _ _ _ _ _ _ _ _ _ z => z.elim)⟩
    · exact q _ _ F' H' s' S'.ou S'.sub (fun c o hc e => S'.fr c o e (nb c hc)) (S'.bg b rfl) .non p
    · exact q _ _ F' H' s' S'.ou S'.sub (fun c o hc e => S'.fr c o e (nb c hc)) (S'.bg b rfl) rv p
end
end Y
/-! Y4: rules by union, keyword calls, texts. -/
namespace Y
open PySem L2

/-! ### derivations: one rule for an operator, whatever the kinds -/
def rAddS' : R2 := fun x y H Q => ∃ i j, x = .str i ∧ y = .str j ∧ i.length + j.length ≤ sizeLine ∧ Q (.str (i ++ j)) H
def rPlus (K : PySem.W.Frag) : R2 := rAlt (rI0 fun i j => .int (i + j)) (rAlt rAddS' (rAlt rCat (rCatT K)))
def rInS1 : R2 := fun x y H Q => ∃ (c : Nat) (z : Str), x = .str ⟨#[c]⟩ ∧ y = .str z ∧ Q (.bl (decide (c ∈ z.cps.toList))) H
def rNiS1 : R2 := fun x y H Q => ∃ (c : Nat) (z : Str), x = .str ⟨#[c]⟩ ∧ y = .str z ∧ Q (.bl (!decide (c ∈ z.cps.toList))) H
def rInA (K : PySem.W.Frag) : R2 := rAlt (rIn K false) rInS1
def rNiA (K : PySem.W.Frag) : R2 := rAlt (rIn K true) rNiS1
def rEqA (K : PySem.W.Frag) : R2 := rAlt rEq (rEqD K)
def rNeA (K : PySem.W.Frag) : R2 := rAlt rNe (rNeD K)
def rIsN' : R2 := fun x y H Q => y = .non ∧ Q (.bl (decide (x = .non))) H
def rSlA (K : PySem.W.Frag) : V → Option Int → Option Int → Hp → VK → Prop := fun x lo hi H Q => rSlL K x lo hi H Q ∨ (rSlT K x lo hi H Q ∨ rSlS x lo hi H Q)
def rListA (K : PySem.W.Frag) : List V → Hp → VK → Prop := fun xs H Q => ∃ p ys, xs = [.ref p] ∧ (SqL K H p ys ∨ SqT K H p ys) ∧ ∀ l, H l = none → Q (.ref l) (upd H l (.lst ys))
def rTupleA (K : PySem.W.Frag) : List V → Hp → VK → Prop := fun xs H Q => ∃ p ys, xs = [.ref p] ∧ ((SqL K H p ys ∧ ∀ l, H l = none → Q (.ref l) (upd H l (.tup ys))) ∨ (SqT K H p ys ∧ Q (.ref p) H))
def rJoinA (K : PySem.W.Frag) : V → List V → Hp → VK → Prop := fun x xs H Q => ∃ a p, ∃ ys : List Str, x = .str a ∧ xs = [.ref p] ∧ (SqL K H p (ys.map V.str) ∨ SqT K H p (ys.map V.str)) ∧ (ys.map (·.length)).sum + ys.length * a.length ≤ 16777216 ∧ Q (.str (Txt.join a ys)) H
section
variable {X : Cx} {K : PySem.W.Frag}
theorem op_plus (hK : X.K = K := by rfl) : OpR X (binaryOp .Add) (rPlus K) := hK ▸ op_alt op_add (op_alt op_add_str (op_alt op_cat op_catT))
theorem op_inA (hK : X.K = K := by rfl) : OpR X (compareOp .In) (rInA K) := hK ▸ op_alt op_in_seq op_in_sign
theorem op_niA (hK : X.K = K := by rfl) : OpR X (compareOp .NotIn) (rNiA K) := hK ▸ op_alt op_notIn_seq op_notIn_sign
theorem op_eqA (hu : X.A.units + 64 < cLine) (hK : X.K = K := by rfl) : OpR X (compareOp .Eq) (rEqA K) := hK ▸ op_alt op_eq (op_eqD hu)
theorem op_neA (hu : X.A.units + 64 < cLine) (hK : X.K = K := by rfl) : OpR X (compareOp .NotEq) (rNeA K) := hK ▸ op_alt op_ne (op_neD hu)
theorem sl_any (hK : X.K = K := by rfl) : SlR X (rSlA K) := hK ▸ sl_list.or (sl_tup.or sl_str)
theorem ix_any (hK : X.K = K := by rfl) : IxR X (rIx K) := hK ▸ ix_seq
theorem call_lenA (hK : X.K = K := by rfl) : CallR X (.builtin "len") (rLenA K) := hK ▸ call_len
theorem call_isiA (hK : X.K = K := by rfl) : CallR X (.builtin "isinstance") (rIsi K) := hK ▸ call_isi
theorem call_isiTA (hK : X.K = K := by rfl) : CallR X (.builtin "isinstance") (rIsiT K) := hK ▸ call_isiT
theorem cr_allA (hc : X.calm = true) (hK : X.K = K := by rfl) : CallR X (.builtin "all") (rAll K) := hK ▸ cr_all hc
theorem cr_anyA (hc : X.calm = true) (hK : X.K = K := by rfl) : CallR X (.builtin "any") (rAny K) := hK ▸ cr_any hc
theorem call_listA (hK : X.K = K := by rfl) : CallR X (.type "list") (rListA K) := hK ▸ call_list_of
theorem call_tupleA (hK : X.K = K := by rfl) : CallR X (.type "tuple") (rTupleA K) := hK ▸ call_tuple_of
theorem pi_listA {tg l : Expr} {tl : TE} (hl : PE X l tl) (hK : X.K = K := by rfl) : PI X tg l (iList K tl) := hK ▸ pi_list hl
theorem pi_tupA {tg l : Expr} {tl : TE} (hl : PE X l tl) (hK : X.K = K := by rfl) : PI X tg l (iTup K tl) := hK ▸ pi_tup hl
theorem pi_zipB {e e2 : Expr} {ta : TA} {p pos tpos : Pos} {elts : List Expr} {kk : Nat} (hg : Gl X "zip") (hm : X.mg "zip" = none) (ha : PA X [e, e2] ta) (hK : X.K = K := by rfl)
    (hs : starEach [e, e2] X.env = (false, eval e X.env) :: starEach [e2] X.env := by rfl) (hpl : (backTo pos (starEach [e2] X.env)).any (·.1) = false := by rfl) :
    PI X (.Tuple elts kk tpos) (.Call (.Name "zip" p) [e, e2] [] pos) (RZ.iZipA K ta) := hK ▸ RZ.pi_zipA hg hm ha hs hpl
theorem pe_joinA {o e : Expr} {apos pos : Pos} {to te : TE} (ho : PE X o to) (he : PE X e te) (hK : X.K = K := by rfl) (hs : starEach [e] X.env = [(false, eval e X.env)] := by rfl) (hbase : attributeBase o "join" X.env (eval o X.env) = eval o X.env := by rfl) (hline : (apos.endLine == pos.line) = true := by rfl) :
    PE X (.Call (.Attribute o "join" apos) [e] [] pos) (tM1 (rJoinA K) to te) := hK ▸ pe_join ho he hs hbase hline
theorem pg_tupA {es : List Expr} {k : Nat} {t : TGs} {n : Nat} {pos : Pos} (hc : X.calm = true) (h : PGs X es t) (hK : X.K = K := by rfl)
    (hn : (assignEach es X.env).length = n := by rfl) (hst : (assignEach es X.env).findIdx? (·.1) = none := by rfl) : PG X (.Tuple es k pos) (gTup K n t) := hK ▸ pg_tup hc h hn hst
end
section
variable {X : Cx} {CX : CXT} {k : Nat} {f : Addr} {fd : FuncData} {ps ks : List Str} {sp : Sp} {E : XK} {x : Str} {p pos : Pos} {kws : List Keyword} {tk : TA} {g : List Value → List Value → List Value} {gV : List V → List V → List V}
/-- f(k = v, ..) without positional values -/
theorem pe_callN0 (G : FnOk X.prog X.w X.K X.mg X.base CX k f fd ps sp) (hr : Room k X.A) (hg : Gl X x) (hm : X.mg x = some (.ref f)) (hk : PySem.W.keepIn X.K (.ref f) = true) (hb : KBn X.K fd ps 0 ks g gV) (hx : Passes CX X E)
    (hkw : PK X kws tk) (hall : (backToKw pos (keywordEach kws X.env)).all (·.1.isSome) = true := by rfl) (hks : (backToKw pos (keywordEach kws X.env)).filterMap (·.1) = ks := by rfl)
    (hdb : (x == ("__debug__" : Str)) = false := by decide)
    (hpl : ((backTo pos (starEach [] X.env)).any (·.1) || (backToKw pos (keywordEach kws X.env)).any (·.1.isNone)) = false := by rfl) :
    PE X (.Call (.Name x p) [] kws pos) (tCallN 0 ks.length sp gV E tNil tk) :=
  ⟨fun pins s σ H Q I h => wpAny_Call_Name_kw (ld_glob I hg hm
    (PySem.W.callWith_KW0 (h₀ := X.base) I.ok.mod.kin hk hall (thn (hkw.run pos pins s σ H _ I h) fun ws s2 ⟨zs, H2, I2, rz, l1, l2, q2⟩ => ⟨I2.kIn, by
      rw [hks]
      exact run_fnN (us := []) (vs := []) G hr hb hx I2 .nil rz rfl l2 q2⟩) hpl) hdb)⟩
end

/-! ### the same over data -/
section
variable {B : Bs} {es : List Sl}
theorem o_plusI {i j : Int} {P : Dt → Prop} (hp : P (.int (i + j))) : Op2 B (rPlus B.K) es (.int i) (.int j) P := o_altL (o_i0 hp)
theorem o_plusS {x y : Str} {P : Dt → Prop} (hl : x.length + y.length ≤ 100000) (hp : P (.str (x ++ y))) : Op2 B (rPlus B.K) es (.str x) (.str y) P := o_altR (o_altL (o_catS hl hp))
theorem o_plusL {x y : List Dt} {P : Dt → Prop} (hl : x.length + y.length ≤ 100000) (hp : P (.lst (x ++ y))) : Op2 B (rPlus B.K) es (.lst x) (.lst y) P := o_altR (o_altR (o_altL (o_cat hl hp)))
theorem o_inAL {x : Dt} {ys : List Dt} {P : Dt → Prop} (hx : flatD x = true) (hy : ys.all flatD = true) (hp : P (.bl (inD x ys))) : Op2 B (rInA B.K) es x (.lst ys) P := o_altL (o_inL hx hy hp)
theorem o_inAT {x : Dt} {ys : List Dt} {P : Dt → Prop} (hx : flatD x = true) (hy : ys.all flatD = true) (hp : P (.bl (inD x ys))) : Op2 B (rInA B.K) es x (.tup ys) P := o_altL (o_inT hx hy hp)
theorem o_inAS {c : Nat} {z : Str} {P : Dt → Prop} (hp : P (.bl (decide (c ∈ z.cps.toList)))) : Op2 B (rInA B.K) es (.str ⟨#[c]⟩) (.str z) P := o_altR (o_inS hp)
theorem o_niAL {x : Dt} {ys : List Dt} {P : Dt → Prop} (hx : flatD x = true) (hy : ys.all flatD = true) (hp : P (.bl (!inD x ys))) : Op2 B (rNiA B.K) es x (.lst ys) P := o_altL (o_inL hx hy hp)
theorem o_niAT {x : Dt} {ys : List Dt} {P : Dt → Prop} (hx : flatD x = true) (hy : ys.all flatD = true) (hp : P (.bl (!inD x ys))) : Op2 B (rNiA B.K) es x (.tup ys) P := o_altL (o_inT hx hy hp)
theorem o_niAS {c : Nat} {z : Str} {P : Dt → Prop} (hp : P (.bl (!decide (c ∈ z.cps.toList)))) : Op2 B (rNiA B.K) es (.str ⟨#[c]⟩) (.str z) P := o_altR (o_niS hp)
theorem o_eqA {x y : Dt} {P : Dt → Prop} (hs : dScal x y = true) (hp : P (.bl (dEq x y))) : Op2 B (rEqA B.K) es x y P := o_altL (o_eq hs hp)
theorem o_neA {x y : Dt} {P : Dt → Prop} (hs : dScal x y = true) (hp : P (.bl (!dEq x y))) : Op2 B (rNeA B.K) es x y P := o_altL (o_ne hs hp)
/-! deep == of data without objects -/
mutual
def Dt.py : Dt → PyData
  | .non => .none
  | .bl b => .bool b
  | .int i => .int i
  | .str s => .str s
  | .lst xs => .list (pyAll xs)
  | .tup xs => .tuple (pyAll xs)
  | .obj _ _ _ => .none
  | .dct _ _ => .none
  | .ali _ => .none
def pyAll : List Dt → List PyData
  | [] => []
  | x :: xs => x.py :: pyAll xs
end
mutual
def Dt.pureD : Dt → Bool
  | .non => true
  | .bl _ => true
  | .int _ => true
  | .str _ => true
  | .lst xs => decide (xs.length < 50000) && pureAll xs
  | .tup xs => decide (xs.length < 50000) && pureAll xs
  | .obj _ _ _ => false
  | .dct _ _ => false
  | .ali _ => false
def pureAll : List Dt → Bool
  | [] => true
  | x :: xs => x.pureD && pureAll xs
end
mutual
theorem Rp.dp {K : PySem.W.Frag} {F H : Hp} (s : Same F H) : ∀ {v : V} {d : Dt}, Rp K F v d → d.pureD = true → Dp K H v d.py
  | _, _, .non, _ => by unfold Dt.py; exact .non
  | _, _, .bl b, _ => by unfold Dt.py; exact .bl b
  | _, _, .int i, _ => by unfold Dt.py; exact .int i
  | _, _, .str x, _ => by unfold Dt.py; exact .str x
  | _, _, .lst h r, p => by unfold Dt.py; unfold Dt.pureD at p; rw [Bool.and_eq_true] at p; exact .lst (SqL.of (s _ _ h)) (RpAll.dp s r p.2)
  | _, _, .tup h r, p => by unfold Dt.py; unfold Dt.pureD at p; rw [Bool.and_eq_true] at p; exact .tup (sqT_mono s h) (RpAll.dp s r p.2)
  | _, _, .obj _ _ _ _, p => by unfold Dt.pureD at p; cases p
  | _, _, .dct _ _ _ _, p => by unfold Dt.pureD at p; cases p
  | _, _, .ali _, p => by unfold Dt.pureD at p; cases p
theorem RpAll.dp {K : PySem.W.Frag} {F H : Hp} (s : Same F H) : ∀ {vs : List V} {ds : List Dt}, RpAll K F vs ds → pureAll ds = true → DpAll K H vs (pyAll ds)
  | _, _, .nil, _ => by unfold pyAll; exact .nil
  | _, _, .cons h t, p => by
    unfold pureAll at p
    rw [Bool.and_eq_true] at p
    unfold pyAll
    exact .cons (Rp.dp s h p.1) (RpAll.dp s t p.2)
end
def okD (d : Dt) : Bool := d.pureD && SeqAt.shaped d.py
theorem o_eqAD {x y : Dt} {P : Dt → Prop} (hx : okD x = true) (hy : okD y = true) (hp : P (.bl (PyData.eqv x.py y.py))) : Op2 B (rEqA B.K) es x y P := fun σ F H v w S a b Q k => by
  unfold okD at hx hy
  rw [Bool.and_eq_true] at hx hy
  exact .inr ⟨_, _, a.dp S.sub hx.1, b.dp S.sub hy.1, hx.2, hy.2, k _ _ F H S.refl (.bl _) hp⟩
theorem o_neAD {x y : Dt} {P : Dt → Prop} (hx : okD x = true) (hy : okD y = true) (hp : P (.bl (!PyData.eqv x.py y.py))) : Op2 B (rNeA B.K) es x y P := fun σ F H v w S a b Q k => by
  unfold okD at hx hy
  rw [Bool.and_eq_true] at hx hy
  exact .inr ⟨_, _, a.dp S.sub hx.1, b.dp S.sub hy.1, hx.2, hy.2, k _ _ F H S.refl (.bl _) hp⟩
/-- slices of a list, of a text -/
def EvP (B : Bs) (to : TO) (es : List Sl) (P : Option Int → Prop) : Prop := ∀ σ F H, Stt B es σ F H → ∀ Q : Option Int → Hp → Prop, (∀ o F' H', Go B F H F' H' → P o → Q o H') → to σ H Q
theorem ep_none {P : Option Int → Prop} (h : P none) : EvP B tNoPart es P := fun σ F H S Q q => q none F H S.refl h
theorem ep_some {te : TE} {P : Option Int → Prop} (h : Ev B te es fun d => ∃ i, d = .int i ∧ P (some i)) : EvP B (tPart te) es P := fun σ F H S Q q => h σ F H S _ fun v d F1 H1 g1 r1 ⟨i, e, p1⟩ => by
  subst e; cases r1; exact ⟨i, rfl, q _ F1 H1 g1 p1⟩
def cutD {α : Type} (xs : List α) (lo hi : Option Int) : List α := (xs.drop (HT.sIx xs.length 0 lo)).take (HT.sIx xs.length xs.length hi - HT.sIx xs.length 0 lo)
theorem RpAll.cut {K : PySem.W.Frag} {F : Hp} {vs : List V} {ds : List Dt} (lo hi : Option Int) (r : RpAll K F vs ds) : RpAll K F (cutV vs lo hi) (cutD ds lo hi) := by
  unfold cutV cutD
  rw [r.length]
  exact (r.drop _).take _
theorem eo_slL {te : TE} {tl th : TO} {P : List Dt → Prop} (h : Ev B te es fun d => ∃ xs, d = .lst xs ∧ EvP B tl es fun lo => EvP B th es fun hi => P (cutD xs lo hi)) : EvO B (tSl (rSlA B.K) te tl th) es P := fun σ F H S Q q => h σ F H S _ fun v d F1 H1 g1 r1 ⟨xs, e, p1⟩ => by
  subst e
  refine p1 σ F1 H1 (S.go g1) _ fun lo F2 H2 g2 p2 => p2 σ F2 H2 ((S.go g1).go g2) _ fun hi F3 H3 g3 p3 => ?_
  have g := (g1.trans g2).trans g3
  have S3 := S.go g
  cases r1 with
  | lst h1 h2 =>
    refine .inl ⟨_, _, rfl, SqL.of (g3.s2 _ _ ((g2.s1.trans g3.s1) _ _ h1)), fun p hp => ?_⟩
    exact q p _ _ F3 _ (g.trans (S3.allocO hp)) (g.new (S3.newB hp) hp) (same_none S3.sub hp) upd_same ((h2.mono (g2.s1.trans g3.s1)).cut lo hi) p3
theorem ev_slS {te : TE} {tl th : TO} {P : Dt → Prop} (h : Ev B te es fun d => ∃ z : Str, d = .str z ∧ z.length ≤ 100000 ∧ EvP B tl es fun lo => EvP B th es fun hi => P (.str (cutS z lo hi))) : Ev B (tSl (rSlA B.K) te tl th) es P := fun σ F H S Q q => h σ F H S _ fun v d F1 H1 g1 r1 ⟨z, e, hz, p1⟩ => by
  subst e
  refine p1 σ F1 H1 (S.go g1) _ fun lo F2 H2 g2 p2 => p2 σ F2 H2 ((S.go g1).go g2) _ fun hi F3 H3 g3 p3 => ?_
  cases r1
  exact .inr (.inr ⟨z, rfl, size_of hz, q _ _ F3 H3 ((g1.trans g2).trans g3) (.str _) p3⟩)
/-- sep.join(list of texts) -/
theorem ev_join {to te : TE} {P : Dt → Prop} (h : Ev B to es fun a => ∃ sep : Str, a = .str sep ∧ Ev B te es fun d => ∃ ys : List Str, (d = .lst (ys.map Dt.str) ∨ d = .tup (ys.map Dt.str)) ∧ (ys.map (·.length)).sum + ys.length * sep.length ≤ 16777216 ∧ P (.str (Txt.join sep ys))) :
    Ev B (tM1 (rJoinA B.K) to te) es P := fun σ F H S Q q => h σ F H S _ fun v a F1 H1 g1 r1 ⟨sep, e, p1⟩ => by
  subst e
  cases r1
  refine ⟨⟨sep, rfl⟩, p1 σ F1 H1 (S.go g1) _ fun w d F2 H2 g2 r2 ⟨ys, e2, hl, p2⟩ => ?_⟩
  rcases e2 with rfl | rfl
  · cases r2 with
    | lst h1 h2 =>
      have e := h2.texts
      subst e
      exact ⟨sep, _, ys, rfl, rfl, .inl (SqL.of (g2.s2 _ _ h1)), hl, q _ _ F2 H2 (g1.trans g2) (.str _) p2⟩
  · cases r2 with
    | tup h1 h2 =>
      have e := h2.texts
      subst e
      exact ⟨sep, _, ys, rfl, rfl, .inr (sqT_mono g2.s2 h1), hl, q _ _ F2 H2 (g1.trans g2) (.str _) p2⟩
/-- list(xs) -/
theorem eo_listOf {ta : TA} {P : List Dt → Prop} (h : EvA B ta es fun ds => ∃ xs, (ds = [.lst xs] ∨ ds = [.tup xs]) ∧ P xs) : EvO B (tCB (rListA B.K) ta) es P := fun σ F H S Q q => h σ F H S _ fun vs ds F1 H1 g1 r1 ⟨xs, e, p1⟩ => by
  have S1 := S.go g1
  rcases e with rfl | rfl
  · obtain ⟨v, rfl, r⟩ := rp1 r1
    cases r with
    | lst h1 h2 => exact ⟨_, _, rfl, .inl (SqL.of (g1.s2 _ _ h1)), fun p hp => q p _ _ F1 _ (g1.trans (S1.allocO hp)) (g1.new (S1.newB hp) hp) (same_none S1.sub hp) upd_same h2 p1⟩
  · obtain ⟨v, rfl, r⟩ := rp1 r1
    cases r with
    | tup h1 h2 => exact ⟨_, _, rfl, .inr (sqT_mono g1.s2 h1), fun p hp => q p _ _ F1 _ (g1.trans (S1.allocO hp)) (g1.new (S1.newB hp) hp) (same_none S1.sub hp) upd_same h2 p1⟩
end
end Y
/-! Y5: isinstance by kinds; the drawing; what the helpers of every law promise. -/
namespace Y
open PySem L2
section
variable {B : Bs} {es : List Sl}
def isIntD : Dt → Bool
  | .int _ => true
  | .bl _ => true
  | _ => false
def isBoolD : Dt → Bool
  | .bl _ => true
  | _ => false
def isStrD : Dt → Bool
  | .str _ => true
  | _ => false
def isLstD : Dt → Bool
  | .lst _ => true
  | _ => false
def isTupD : Dt → Bool
  | .tup _ => true
  | _ => false
theorem isi_int {x : Dt} (h : plainD x = true) : isiD "int" x = some (isIntD x) := by
  cases x with
  | non => show kitB "NoneType" "int" = some false; decide +kernel
  | bl _ => show kitB "bool" "int" = some true; decide +kernel
  | int _ => show kitB "int" "int" = some true; decide +kernel
  | str _ => show kitB "str" "int" = some false; decide +kernel
  | lst _ => show kitB "list" "int" = some false; decide +kernel
  | tup _ => show kitB "tuple" "int" = some false; decide +kernel
  | dct _ _ => show kitB "dict" "int" = some false; decide +kernel
  | obj _ _ _ => cases h
  | ali _ => cases h
theorem isi_bool {x : Dt} (h : plainD x = true) : isiD "bool" x = some (isBoolD x) := by
  cases x with
  | non => show kitB "NoneType" "bool" = some false; decide +kernel
  | bl _ => show kitB "bool" "bool" = some true; decide +kernel
  | int _ => show kitB "int" "bool" = some false; decide +kernel
  | str _ => show kitB "str" "bool" = some false; decide +kernel
  | lst _ => show kitB "list" "bool" = some false; decide +kernel
  | tup _ => show kitB "tuple" "bool" = some false; decide +kernel
  | dct _ _ => show kitB "dict" "bool" = some false; decide +kernel
  | obj _ _ _ => cases h
  | ali _ => cases h
theorem isi_str {x : Dt} (h : plainD x = true) : isiD "str" x = some (isStrD x) := by
  cases x with
  | non => show kitB "NoneType" "str" = some false; decide +kernel
  | bl _ => show kitB "bool" "str" = some false; decide +kernel
  | int _ => show kitB "int" "str" = some false; decide +kernel
  | str _ => show kitB "str" "str" = some true; decide +kernel
  | lst _ => show kitB "list" "str" = some false; decide +kernel
  | tup _ => show kitB "tuple" "str" = some false; decide +kernel
  | dct _ _ => show kitB "dict" "str" = some false; decide +kernel
  | obj _ _ _ => cases h
  | ali _ => cases h
theorem isi_list {x : Dt} (h : plainD x = true) : isiD "list" x = some (isLstD x) := by
  cases x with
  | non => show kitB "NoneType" "list" = some false; decide +kernel
  | bl _ => show kitB "bool" "list" = some false; decide +kernel
  | int _ => show kitB "int" "list" = some false; decide +kernel
  | str _ => show kitB "str" "list" = some false; decide +kernel
  | lst _ => show kitB "list" "list" = some true; decide +kernel
  | tup _ => show kitB "tuple" "list" = some false; decide +kernel
  | dct _ _ => show kitB "dict" "list" = some false; decide +kernel
  | obj _ _ _ => cases h
  | ali _ => cases h
theorem isi_tuple {x : Dt} (h : plainD x = true) : isiD "tuple" x = some (isTupD x) := by
  cases x with
  | non => show kitB "NoneType" "tuple" = some false; decide +kernel
  | bl _ => show kitB "bool" "tuple" = some false; decide +kernel
  | int _ => show kitB "int" "tuple" = some false; decide +kernel
  | str _ => show kitB "str" "tuple" = some false; decide +kernel
  | lst _ => show kitB "list" "tuple" = some false; decide +kernel
  | tup _ => show kitB "tuple" "tuple" = some true; decide +kernel
  | dct _ _ => show kitB "dict" "tuple" = some false; decide +kernel
  | obj _ _ _ => cases h
  | ali _ => cases h
theorem isi_lt {x : Dt} (h : plainD x = true) : isiDs ["list", "tuple"] x = some (isLstD x || isTupD x) := by
  cases x with
  | non => show anyIsi "NoneType" ["list", "tuple"] = some false; decide +kernel
  | bl _ => show anyIsi "bool" ["list", "tuple"] = some false; decide +kernel
  | int _ => show anyIsi "int" ["list", "tuple"] = some false; decide +kernel
  | str _ => show anyIsi "str" ["list", "tuple"] = some false; decide +kernel
  | lst _ => show anyIsi "list" ["list", "tuple"] = some true; decide +kernel
  | tup _ => show anyIsi "tuple" ["list", "tuple"] = some true; decide +kernel
  | dct _ _ => show anyIsi "dict" ["list", "tuple"] = some false; decide +kernel
  | obj _ _ _ => cases h
  | ali _ => cases h
theorem ev_isInt {te : TE} {P : Dt → Prop} (h : Ev B te es fun d => plainD d = true ∧ P (.bl (isIntD d))) : Ev B (tCB (rIsi B.K) (tCons te (tCons (tC (.ty "int")) tNil))) es P := ev_isi (h.imp fun d q => ⟨_, isi_int q.1, q.2⟩)
theorem ev_isBool {te : TE} {P : Dt → Prop} (h : Ev B te es fun d => plainD d = true ∧ P (.bl (isBoolD d))) : Ev B (tCB (rIsi B.K) (tCons te (tCons (tC (.ty "bool")) tNil))) es P := ev_isi (h.imp fun d q => ⟨_, isi_bool q.1, q.2⟩)
theorem ev_isStr {te : TE} {P : Dt → Prop} (h : Ev B te es fun d => plainD d = true ∧ P (.bl (isStrD d))) : Ev B (tCB (rIsi B.K) (tCons te (tCons (tC (.ty "str")) tNil))) es P := ev_isi (h.imp fun d q => ⟨_, isi_str q.1, q.2⟩)
theorem ev_isList {te : TE} {P : Dt → Prop} (h : Ev B te es fun d => plainD d = true ∧ P (.bl (isLstD d))) : Ev B (tCB (rIsi B.K) (tCons te (tCons (tC (.ty "list")) tNil))) es P := ev_isi (h.imp fun d q => ⟨_, isi_list q.1, q.2⟩)
theorem ev_isTuple {te : TE} {P : Dt → Prop} (h : Ev B te es fun d => plainD d = true ∧ P (.bl (isTupD d))) : Ev B (tCB (rIsi B.K) (tCons te (tCons (tC (.ty "tuple")) tNil))) es P := ev_isi (h.imp fun d q => ⟨_, isi_tuple q.1, q.2⟩)
theorem ev_isLT {te : TE} {P : Dt → Prop} (h : Ev B te es fun d => plainD d = true ∧ P (.bl (isLstD d || isTupD d))) : Ev B (tCB (rIsiT B.K) (tCons te (tCons (tTup (tCons (tC (.ty "list")) (tCons (tC (.ty "tuple")) tNil))) tNil))) es P := ev_isi2 (h.imp fun d q => ⟨_, isi_lt q.1, q.2⟩)
/-- tests of a value that is True or False -/
theorem bl_ex {b : Bool} {P : Bool → Prop} (h : P b) : ∃ c, Dt.bl b = .bl c ∧ P c := ⟨b, rfl, h⟩
theorem int_ex {b : Int} {P : Int → Prop} (h : P b) : ∃ c, Dt.int b = .int c ∧ P c := ⟨b, rfl, h⟩
theorem str_ex {b : Str} {P : Str → Prop} (h : P b) : ∃ c, Dt.str b = .str c ∧ P c := ⟨b, rfl, h⟩
theorem lst_ex {b : List Dt} {P : List Dt → Prop} (h : P b) : ∃ c, Dt.lst b = .lst c ∧ P c := ⟨b, rfl, h⟩
theorem tup_ex {b : List Dt} {P : List Dt → Prop} (h : P b) : ∃ c, Dt.tup b = .tup c ∧ P c := ⟨b, rfl, h⟩
/-- the two ways of a test -/
theorem ways {b : Bool} {X Y : Prop} (h1 : b = true → X) (h2 : b = false → Y) : (b = true → X) ∧ (b = false → Y) := ⟨h1, h2⟩
theorem way_t {b : Bool} {X Y : Prop} (e : b = true) (h : X) : (b = true → X) ∧ (b = false → Y) := ⟨fun _ => h, fun z => by rw [e] at z; cases z⟩
theorem way_f {b : Bool} {X Y : Prop} (e : b = false) (h : Y) : (b = true → X) ∧ (b = false → Y) := ⟨fun z => (by rw [e] at z; cases z), fun _ => h⟩
end

section
variable {B : Bs} {es : List Sl}
/-- [f(x) for x in xs], f a function -/
theorem eo_mapF {wi : TI} {g : TG} {te : TE} {vs : List Nat} {P : List Dt → Prop} (f : Dt → Dt) (h : EvI B wi es fun xs => xs.length < 100000 ∧
    (∀ x, x ∈ xs → TgC B g (wipeE es vs) vs x fun e2 => Ev B te e2 fun y => y = f x) ∧ P (xs.map f)) : EvO B (tLc wi g tYes te vs) es P :=
  eo_map fun σ F H S Q q => h σ F H S Q fun J xs F1 H1 g1 it ⟨hl, h1, h2⟩ => q J xs F1 H1 g1 it ⟨hl, fun x y => y = f x, fun i x hx => h1 x (List.mem_of_getElem? hx), fun ys hy hR => by
    have e : ys = xs.map f := by
      apply List.ext_getElem?
      intro i
      rw [List.getElem?_map]
      cases e1 : xs[i]? with
      | none =>
        have : xs.length ≤ i := List.getElem?_eq_none_iff.mp e1
        rw [List.getElem?_eq_none (by omega)]; rfl
      | some x =>
        have hi : i < ys.length := by rw [hy]; exact (List.getElem?_eq_some_iff.mp e1).1
        have e2 : ys[i]? = some ys[i] := by simp [hi]
        rw [e2, hR i x ys[i] e1 e2]; rfl
    rw [e]; exact h2⟩
/-- [f(c) for c in text] -/
theorem eo_mapS {te te' : TE} {j : Nat} {P : List Dt → Prop} (f : Nat → Dt) (h : Ev B te es fun d => ∃ z : Str, d = .str z ∧ z.cps.size < 100000 ∧
    (∀ c, c ∈ z.cps.toList → Ev B te' ((es.set j .no).set j (.d (.str ⟨#[c]⟩))) fun y => y = f c) ∧ P (z.cps.toList.map f)) : EvO B (tLc (iStr te) (gName j) tYes te' [j]) es P :=
  eo_map (ei_str (h.imp fun d ⟨z, e, hl, h1, h2⟩ => ⟨z, e, by rw [signsD_len]; exact hl, fun x y => ∀ c, x = .str ⟨#[c]⟩ → y = f c, fun i x hx => by
    have hm := List.mem_of_getElem? hx
    obtain ⟨c, hc, rfl⟩ := List.mem_map.mp hm
    refine tc_name ?_
    refine (h1 c hc).imp fun y hy c' e' => ?_
    injection e' with e'
    injection e' with e'
    have : c = c' := by simpa using e'
    rw [← this]; exact hy, fun ys hy hR => by
      have e : ys = z.cps.toList.map f := by
        apply List.ext_getElem?
        intro i
        rw [List.getElem?_map]
        rw [signsD_len] at hy
        cases e1 : z.cps.toList[i]? with
        | none =>
          have : z.cps.toList.length ≤ i := List.getElem?_eq_none_iff.mp e1
          rw [Array.length_toList] at this
          rw [List.getElem?_eq_none (by omega)]; rfl
        | some c =>
          have hi : i < ys.length := by
            have := (List.getElem?_eq_some_iff.mp e1).1
            rw [Array.length_toList] at this
            omega
          have e2 : ys[i]? = some ys[i] := by simp [hi]
          have e3 : (signsD z)[i]? = some (.str ⟨#[c]⟩) := by rw [signsD, List.getElem?_map, e1]; rfl
          rw [e2, hR i _ ys[i] e3 e2 c rfl]; rfl
      rw [e]; exact h2⟩))
/-- [c for c in text if t(c)] -/
theorem eo_filterS {te : TE} {tt : TT} {j : Nat} {P : List Dt → Prop} (f : Nat → Bool) (h : Ev B te es fun d => ∃ z : Str, d = .str z ∧ z.cps.size < 100000 ∧
    (∀ c, c ∈ z.cps.toList → EvT B tt ((es.set j .no).set j (.d (.str ⟨#[c]⟩))) fun b => b = f c) ∧ P ((z.cps.toList.filter f).map fun c => .str ⟨#[c]⟩)) (hj : j < es.length) : EvO B (tLc (iStr te) (gName j) tt (tVar j) [j]) es P :=
  eo_lc (ei_str (h.imp fun d ⟨z, e, hl, h1, h2⟩ => ⟨z, e, by rw [signsD_len]; exact hl, fun i acc => acc = ((z.cps.toList.take i).filter f).map fun c => .str ⟨#[c]⟩, rfl, fun i x acc hx ha => by
    rw [signsD, List.getElem?_map] at hx
    cases e1 : z.cps.toList[i]? with
    | none => rw [e1] at hx; cases hx
    | some c =>
      rw [e1] at hx
      cases hx
      refine tc_name ?_
      have ht : z.cps.toList.take (i + 1) = z.cps.toList.take i ++ [c] := by
        rw [List.take_add_one, e1]; rfl
      refine (h1 c (List.mem_of_getElem? e1)).imp fun b hb => ⟨fun hbt => ev_var (x := .str ⟨#[c]⟩) ?_ ?_, fun hbf => ?_⟩
      · show ((es.set j .no).set j (.d (.str ⟨#[c]⟩)))[j]? = _
        rw [List.getElem?_set_self (by rw [List.length_set]; exact hj)]
      · show _ = _
        rw [ht, List.filter_append, List.map_append, ha, List.filter_cons, if_pos (by rw [← hb]; exact hbt)]; rfl
      · show _ = _
        rw [ht, List.filter_append, List.map_append, ha, List.filter_cons, if_neg (by rw [← hb, hbf]; decide)]; simp, fun acc ha => by
    rw [ha]
    have : (signsD z).length = z.cps.toList.length := by simp [signsD]
    rw [this, List.take_length]
    exact h2⟩))
theorem c_allF {α : Type} {l : List α} {g : α → Bool} {P : Dt → Prop} (hp : P (.bl (l.all g))) : Cal B (rAll B.K) es [.lst (l.map fun c => .bl (g c))] P := by
  have e : (l.map fun c => Dt.bl (g c)) = (l.map g).map Dt.bl := by rw [List.map_map]; rfl
  rw [e]
  refine c_all ?_
  rw [List.all_map]
  exact hp
/-- the script, as it is handed in, is cut -/
theorem eo_slRaw {i : Nat} {a : Addr} {ns : List Int} {tl th : TO} {P : List Dt → Prop} (hi : es[i]? = some (.r (.ref a))) (hS : SqL B.K B.H0 a (ns.map V.int)) (hb : B.bag ≠ some a) (h : EvP B tl es fun lo => EvP B th es fun hi => P ((cutD ns lo hi).map Dt.int)) : EvO B (tSl (rSlA B.K) (tVar i) tl th) es P := fun σ F H S Q q =>
  ⟨_, S.raw hi, h σ F H S _ fun lo F1 H1 g1 p1 => p1 σ F1 H1 (S.go g1) _ fun hi' F2 H2 g2 p2 => by
    have g := g1.trans g2
    have S2 := S.go g
    have hS2 : SqL B.K H2 a (ns.map V.int) := by
      rcases hS with (k | ⟨o, k⟩) | k
      · exact .inl (.inl (S2.fr a _ k hb))
      · exact .inl (.inr ⟨o, S2.fr a _ k hb⟩)
      · exact .inr k
    have e : cutV (ns.map V.int) lo hi' = (cutD ns lo hi').map V.int := by
      unfold cutV cutD
      rw [List.length_map, List.map_take, List.map_drop]
    refine .inl ⟨a, _, rfl, hS2, fun p hp => q p _ _ F2 _ (g.trans (S2.allocO hp)) (g.new (S2.newB hp) hp) (same_none S2.sub hp) upd_same ?_ p2⟩
    rw [e]
    exact RpAll.of_ints⟩
theorem of_mem_ints {xs : List Int} {i : Nat} {x : Dt} (h : (xs.map Dt.int)[i]? = some x) : ∃ n, x = .int n := by
  obtain ⟨n, _, e⟩ := List.mem_map.mp (List.mem_of_getElem? h)
  exact ⟨n, e.symm⟩
end

theorem sm_cut {B : Bs} {es : List Sl} {p : Po} {t u : TS} (I : List Sl → Prop) (h1 : Sm B t es { p with nx := I }) (h2 : ∀ es', I es' → Sm B u es' p) : Sm B (tSeq t u) es p :=
  sm_seq (sm_imp (p' := { p with nx := I }) h1 h2 (fun _ h => h) (fun _ h => h) (fun _ _ h => h) (fun _ h => h))
theorem atI_of {xs : List Dt} {i : Int} (h0 : 0 ≤ i) (h1 : i < xs.length) : ∃ x, atI xs i = some x ∧ x ∈ xs := by
  have hi : i.toNat < xs.length := by omega
  refine ⟨xs[i.toNat], ?_, List.getElem_mem _⟩
  unfold atI ixN
  rw [if_pos h0, if_pos h1]
  simp [hi]
theorem atI_ofN {xs : List Nat} {i : Int} (h0 : 0 ≤ i) (h1 : i < xs.length) : ∃ x, atI xs i = some x ∧ x ∈ xs := by
  have hi : i.toNat < xs.length := by omega
  refine ⟨xs[i.toNat], ?_, List.getElem_mem _⟩
  unfold atI ixN
  rw [if_pos h0, if_pos h1]
  simp [hi]
theorem pairD_mem : ∀ {xs : List Dt} {p : Dt}, p ∈ pairD xs xs → ∃ x, x ∈ xs ∧ p = .tup [x, x]
  | [], p, h => by simp [pairD] at h
  | x :: xs, p, h => by
    rcases List.mem_cons.mp (show p ∈ .tup [x, x] :: pairD xs xs from h) with rfl | h
    · exact ⟨x, List.mem_cons_self .., rfl⟩
    · obtain ⟨y, hy, e⟩ := pairD_mem h
      exact ⟨y, List.mem_cons_of_mem _ hy, e⟩
theorem fn_none {P : Program} {w : World} {K : PySem.W.Frag} {mg : Str → Option Value} {base : Heap} {f : Addr} {fd : FuncData} {ps : List Str} {k : Nat} {Pre : List Dt → Prop} {Post : List Dt → Dt → Prop} (h : ∀ ds, ¬ Pre ds) : FnOk P w K mg base CX0 k f fd ps (spD K Pre Post) :=
  ⟨fun _ _ _ _ q => (by obtain ⟨F, ds, _, _, hp, _⟩ := q; exact (h ds hp).elim), fun _ _ _ _ _ _ _ _ _ _ _ _ _ q => (by obtain ⟨F, ds, _, _, hp, _⟩ := q; exact (h ds hp).elim)⟩

/-! ### the drawing -/
def drawPre (ds : List Dt) : Prop := ∃ n : Int, ds = [.int n] ∧ 0 < n ∧ n < 1073741824
def drawPost (ds : List Dt) (d : Dt) : Prop := ∃ n i : Int, ds = [.int n] ∧ d = .int i ∧ 0 ≤ i ∧ i < n
def itemsD : Dt → List Dt
  | .lst xs => xs
  | .tup xs => xs
  | .str z => signsD z
  | _ => []
def ofPre (ds : List Dt) : Prop := ∃ x, ds = [x] ∧ 0 < (itemsD x).length ∧ (itemsD x).length ≤ 100000
def ofPost (ds : List Dt) (d : Dt) : Prop := ∃ x, ds = [x] ∧ d ∈ itemsD x
mutual
def Dt.depth : Dt → Nat
  | .lst xs => depthAll xs + 1
  | .tup xs => depthAll xs + 1
  | .non => 0
  | .bl _ => 0
  | .int _ => 0
  | .str _ => 0
  | .obj _ _ _ => 0
  | .dct _ _ => 0
  | .ali _ => 0
def depthAll : List Dt → Nat
  | [] => 0
  | x :: xs => max x.depth (depthAll xs)
end
theorem depthAll_mem {n : Nat} : ∀ {xs : List Dt} {x : Dt}, x ∈ xs → depthAll xs ≤ n → x.depth ≤ n
  | y :: ys, x, h, hn => by
    unfold depthAll at hn
    rcases List.mem_cons.mp h with rfl | h
    · omega
    · exact depthAll_mem h (by omega)
theorem pureAll_mem : ∀ {xs : List Dt} {x : Dt}, x ∈ xs → pureAll xs = true → x.pureD = true
  | y :: ys, x, h, hn => by
    unfold pureAll at hn
    rw [Bool.and_eq_true] at hn
    rcases List.mem_cons.mp h with rfl | h
    · exact hn.1
    · exact pureAll_mem h hn.2
def samePre (n : Nat) (ds : List Dt) : Prop := ∃ x, ds = [x, x] ∧ x.pureD = true ∧ x.depth < n
def sameTrue (_ : List Dt) (d : Dt) : Prop := d = .bl true
/-- what is wrong in many places -/
def oddL : List Dt := [.non, .bl true, .bl false, .str "", .str "A", .int (-1), .int 999999999, .tup [], .lst [], .tup [.int 1], .lst [.str "a"], .str "a b", .tup [.str "a", .str "b"], .lst [.non]]
def oddPre (ds : List Dt) : Prop := ∃ xs, ds = [.lst xs] ∧ xs.length ≤ 1000
def oddPost (ds : List Dt) (d : Dt) : Prop := ∃ xs, ds = [.lst xs] ∧ d ∈ oddL ++ xs
/-- a number from l to m -/
def isNum (x : Dt) (l m : Int) : Bool := match x with
  | .int i => decide (l ≤ i) && decide (i ≤ m)
  | _ => false
def numPre (ds : List Dt) : Prop := ∃ x l m, ds = [x, .int l, .int m] ∧ plainD x = true
def numPost (ds : List Dt) (d : Dt) : Prop := ∃ x l m, ds = [x, .int l, .int m] ∧ d = .bl (isNum x l m)
/-- names: 1 to 6 small letters -/
def letters : List Nat := ("abcdefghijklmnopqrstuvwxyz" : Str).cps.toList
def isNameD (x : Dt) : Bool := match x with
  | .str z => decide ((1 : Int) ≤ z.length) && (decide ((z.length : Int) ≤ 6) && z.cps.toList.all fun c => decide (c ∈ letters))
  | _ => false
def isRegD (x : Dt) : Bool := match x with
  | .str z => inD (.str z) [.str "r0", .str "r1", .str "r2"]
  | _ => false
def txtOk (x : Dt) : Prop := ∀ z, x = .str z → z.cps.size < 1000 ∧ PyData.strOk z = true
def valPre (ds : List Dt) : Prop := ∃ x, ds = [x] ∧ plainD x = true ∧ txtOk x
def namePost (ds : List Dt) (d : Dt) : Prop := ∃ x, ds = [x] ∧ d = .bl (isNameD x)
def regPost (ds : List Dt) (d : Dt) : Prop := ∃ x, ds = [x] ∧ d = .bl (isRegD x)
def wordPost (ds : List Dt) (d : Dt) : Prop := ∃ x, ds = [x] ∧ d = .bl (isNum x 0 65535)
/-- what _law_bag promises: a new drawing -/
def spBag (K : PySem.W.Frag) : Sp := fun vs H Q _ => ∃ (a : Addr) (ns : List Int), vs = [.ref a] ∧ SqL K H a (ns.map V.int) ∧
  ∀ b F H', H b = none → Same F H' → Same H H' → BagAt K F H' b → Q (.ref b) H'
/-- the law: a list of at most 63 ints is handed in, True comes out -/
def spLaw (K : PySem.W.Frag) : Sp := fun vs H Q _ => ∃ (a : Addr) (ns : List Int), vs = [.ref a] ∧ SqL K H a (ns.map V.int) ∧ ns.length ≤ 63 ∧ ∀ H', Q (.bl true) H'
theorem start_raw {K : PySem.W.Frag} {H : Hp} {a : Addr} (N : List Str) : Stt ⟨K, fun _ => none, H, none⟩ (.r (.ref a) :: List.replicate (N.length - 1) Sl.no) (L2.start N [.ref a]) (fun _ => none) H where
  sub := fun _ _ h => nomatch h
  s0 := fun _ _ h => h
  ou := fun _ _ h => h
  fr := fun c o h _ => h
  bg := fun _ z => nomatch z
  len := by simp [L2.start]
  ok := fun i e o h1 h2 => by
    cases i with
    | zero =>
      cases h1
      have : (L2.start N [V.ref a])[0]? = some (some (.ref a)) := rfl
      rw [this] at h2
      cases h2
      rfl
    | succ i =>
      have h1 : (List.replicate (N.length - 1) Sl.no)[i]? = some e := h1
      have h2 : (List.replicate (N.length - 1) (none : Option V))[i]? = some o := h2
      rw [List.eq_of_mem_replicate (List.mem_of_getElem? h1), List.eq_of_mem_replicate (List.mem_of_getElem? h2)]
      rfl
  ow := fun i c xs h1 => by
    rcases List.mem_cons.mp (List.mem_of_getElem? h1) with h | h
    · cases h
    · cases List.eq_of_mem_replicate h
  dis := fun i j c e xs ys _ h1 => by
    rcases List.mem_cons.mp (List.mem_of_getElem? h1) with h | h
    · cases h
    · cases List.eq_of_mem_replicate h
section
variable {P : Program} {w : World} {K : PySem.W.Frag} {mg : Str → Option Value} {base : Heap} {x qual : Str} {st : Stmt} {f : Addr} {fd : FuncData} {N : List Str} {q : Str} {k : Nat}
theorem fn_newBag (G : Fun K x qual st f fd) (S : FnScope N [q] (defScope st))
    (hb : ∀ (cdv : Value) (A : Around) (outer : List Env) (s : Shared) (H : Hp) (E : XK), Room k (A.deeper (PyProof.Rows.envOfC qual (defScope st) s.heap.objs.size f cdv)) →
      ∃ t, PSs (cxOf CX0 P w K mg base N qual (defScope st) f cdv A outer s H E).nox (defBody st) t ∧ ∀ (H0 : Hp) (a : Addr) (ns : List Int), SqL K H0 a (ns.map V.int) → Sm ⟨K, fun _ => none, H0, none⟩ t (.r (.ref a) :: List.replicate (N.length - 1) Sl.no) { nx := fun _ => False, bk := fun _ => False, ct := fun _ => False, rt := fun _ _ => False, ro := BagD }) :
    FnOk P w K mg base CX0 (k + 1) f fd [q] (spBag K) := by
  refine G.ok S (fun vs H Q E h => ?_) (fun cdv A outer s H vs Q E hr h => ?_)
  · obtain ⟨a, ns, rfl, _⟩ := h; rfl
  · obtain ⟨a, ns, rfl, hS, q⟩ := h
    obtain ⟨t, hd, hm⟩ := hb cdv A outer s H E hr
    refine ⟨t, hd, hm H a ns hS _ _ H _ (start_raw N) (fun _ _ _ _ _ _ z => z.elim) (fun _ _ _ _ _ _ z => z.elim) (fun _ _ _ _ _ _ z => z.elim) (fun _ _ _ _ _ _ _ _ _ z => z.elim) (fun b vs xs es' σ' F' H' S' s' h1 h2 r1 h3 h4 p => ?_)⟩
    exact q b F' H' h3 S'.sub (fun c o e => S'.fr c o e (fun z => nomatch z)) ⟨h1, vs, xs, h2, r1, p⟩
/-- the law's own def: its first statement makes the drawing -/
theorem fn_law (G : Fun K x qual st f fd) (S : FnScope N [q] (defScope st))
    (hb : ∀ (cdv : Value) (A : Around) (outer : List Env) (s : Shared) (H : Hp) (E : XK), Room k (A.deeper (PyProof.Rows.envOfC qual (defScope st) s.heap.objs.size f cdv)) →
      ∃ t, PSs (cxOf CX0 P w K mg base N qual (defScope st) f cdv A outer s H E).nox (defBody st) (tSeq (tAsg (tCall (spBag K) [] E0 (tCons (tVar 0) tNil)) (gName 1)) t) ∧ ∀ F0 H0 a b, Sm ⟨K, F0, H0, some b⟩ t (.r (.ref a) :: .r (.ref b) :: List.replicate (N.length - 2) Sl.no) { nx := fun _ => False, bk := fun _ => False, ct := fun _ => False, rt := fun _ d => d = .bl true }) (hN : 2 ≤ N.length) :
    FnOk P w K mg base CX0 (k + 1) f fd [q] (spLaw K) := by
  refine G.ok S (fun vs H Q E h => ?_) (fun cdv A outer s H vs Q E hr h => ?_)
  · obtain ⟨a, ns, rfl, _⟩ := h; rfl
  · obtain ⟨a, ns, rfl, hS, _, q⟩ := h
    obtain ⟨t, hd, hm⟩ := hb cdv A outer s H E hr
    refine ⟨_, hd, .ref a, rfl, a, ns, rfl, hS, fun b F H' hn s1 s2 hB => ?_⟩
    have S0 := start_raw (K := K) (H := H') (a := a) N
    have S1 : Stt ⟨K, F, H', some b⟩ (.r (.ref a) :: List.replicate (N.length - 1) Sl.no) (L2.start N [.ref a]) F H' :=
      ⟨s1, Same.refl F, fun _ _ h => h, fun c o h _ => h, fun c e => by cases e; exact hB, S0.len, fun i e o h1 h2 => by
        have := S0.ok i e o h1 h2
        rcases List.mem_cons.mp (List.mem_of_getElem? h1) with h | h
        · rw [h] at this ⊢; exact this
        · rw [List.eq_of_mem_replicate h] at this ⊢; exact this, (fun i c xs h1 => by
        rcases List.mem_cons.mp (List.mem_of_getElem? h1) with h | h
        · cases h
        · cases List.eq_of_mem_replicate h), S0.dis⟩
    have S2 := S1.set (i := 1) (e := .r (.ref b)) (o := some (.ref b)) rfl fun _ _ e => nomatch e
    have e2 : (Sl.r (.ref a) :: List.replicate (N.length - 1) Sl.no).set 1 (.r (.ref b)) = .r (.ref a) :: .r (.ref b) :: List.replicate (N.length - 2) Sl.no := by
      obtain ⟨m, hm⟩ : ∃ m, N.length = m + 2 := ⟨N.length - 2, by omega⟩
      rw [hm]
      simp [List.replicate_succ]
    rw [e2] at S2
    exact hm F H' a b _ F H' _ S2 (fun _ _ _ _ _ _ z => z.elim) (fun _ _ _ _ _ _ z => z.elim) (fun _ _ _ _ _ _ z => z.elim) (fun v d es' σ' F' H2 S' s' rv e => by subst e; cases rv; exact q H2) (fun _ _ _ _ _ _ _ _ _ _ _ _ _ _ z => z.elim)
end
end Y
/-! Y6: lists of texts; drawn words; values of any kind. -/
namespace Y
open PySem L2
theorem pureAll_strs : ∀ ss : List Str, pureAll (ss.map Dt.str) = true
  | [] => by simp [pureAll]
  | s :: ss => by simp [pureAll, Dt.pureD, pureAll_strs ss]
theorem pyAll_strs : ∀ ss : List Str, pyAll (ss.map Dt.str) = ss.map PyData.str
  | [] => by simp [pyAll]
  | s :: ss => by simp [pyAll, Dt.py, pyAll_strs ss]
theorem lay_strs : ∀ ss : List Str, (∀ s ∈ ss, PyData.strOk s = true) → PyData.canLayAll0 (ss.map PyData.str) = true
  | [], _ => by simp [PyData.canLayAll0]
  | s :: ss, h => by
    simp only [List.map_cons, PyData.canLayAll0, PyData.canLay0, Bool.and_eq_true]
    exact ⟨h s (List.mem_cons_self ..), lay_strs ss fun t ht => h t (List.mem_cons_of_mem _ ht)⟩
theorem depth_strs : ∀ ss : List Str, PyData.depthAll (ss.map PyData.str) = 0
  | [] => by simp [PyData.depthAll]
  | s :: ss => by simp [PyData.depthAll, PyData.depth, depth_strs ss]
theorem okD_strs {ss : List Str} (hl : ss.length < 50000) (h : ∀ s ∈ ss, PyData.strOk s = true) : okD (.lst (ss.map Dt.str)) = true := by
  unfold okD
  simp only [Dt.pureD, Dt.py, List.length_map, pureAll_strs, pyAll_strs, SeqAt.shaped, PyData.canLay0, lay_strs ss h, PyData.depth, depth_strs]
  simp [hl]
theorem okD_nil : okD (.lst []) = true := okD_strs (ss := []) (by decide) (fun _ h => nomatch h)
theorem eqv_nil (xs : List PyData) : PyData.eqv (.list xs) (.list []) = xs.isEmpty := by
  cases xs <;> simp [PyData.eqv, PyData.eqvAll]
section
variable {B : Bs} {es : List Sl}
/-- a list of texts == [] -/
theorem o_eqNil {ss : List Str} {P : Dt → Prop} (hl : ss.length < 50000) (h : ∀ s ∈ ss, PyData.strOk s = true) (hp : P (.bl ss.isEmpty)) : Op2 B (rEqA B.K) es (.lst (ss.map Dt.str)) (.lst []) P := by
  refine o_eqAD (okD_strs hl h) okD_nil ?_
  have e : PyData.eqv (Dt.lst (ss.map Dt.str)).py (Dt.lst []).py = ss.isEmpty := by
    simp only [Dt.py, pyAll, pyAll_strs]
    rw [eqv_nil]
    cases ss <;> rfl
  rw [e]
  exact hp
/-- a joined text of single signs -/
theorem join_signs : ∀ cs : List Nat, (Str.join "" (cs.map fun c => ⟨#[c]⟩)).cps.toList = cs
  | [] => rfl
  | [c] => rfl
  | c :: e :: r => by
    have := TL.tl_join ("" : Str) ((c :: e :: r).map fun c => (⟨#[c]⟩ : Str))
    rw [show (Str.join "" ((c :: e :: r).map fun c => (⟨#[c]⟩ : Str))).cps.toList = TL.tl _ from rfl, this]
    have h0 : TL.tl ("" : Str) = [] := by decide +kernel
    rw [h0]
    have key : ∀ l : List Nat, TL.joinL [] ((l.map fun c => (⟨#[c]⟩ : Str)).map TL.tl) = l := by
      intro l
      induction l with
      | nil => rfl
      | cons a l ih =>
        cases l with
        | nil => rfl
        | cons b l =>
          show [a] ++ ([] ++ TL.joinL [] (((b :: l).map fun c => (⟨#[c]⟩ : Str)).map TL.tl)) = a :: b :: l
          rw [ih]; rfl
    exact key _
/-- ''.join([of(bag, TEXT) for k in range(draw(bag, n))]) -/
theorem ev_word {i j : Nat} {b : Addr} {n : Int} {lit : Str} {E E' : XK} {P : Dt → Prop} (hb : B.bag = some b) (hi : es[i]? = some (.r (.ref b))) (hij : j ≠ i) (hn : 0 < n ∧ n ≤ 1000) (hl : 0 < lit.cps.size ∧ lit.cps.size ≤ 1000)
    (h : ∀ z : Str, (z.cps.size : Int) < n → (∀ c ∈ z.cps.toList, c ∈ lit.cps.toList) → P (.str z)) :
    Ev B (tM1 (rJoinA B.K) (tC (.str "")) (tLc (iRng1 (tCons (tCall (spB B.K drawPre drawPost) [] E (tCons (tVar i) (tCons (tC (.int n)) tNil))) tNil)) (gName j) tYes (tCall (spB B.K ofPre ofPost) [] E' (tCons (tVar i) (tCons (tC (.str lit)) tNil))) [j])) es P := by
  refine ev_join (ev_str (str_ex (EvO.ev (eo_map (ei_rng1 (ea_cons (ev_callB hb hi (ea_cons (ev_int (ea_nil ⟨⟨n, rfl, hn.1, by omega⟩, ?_⟩))))))))))
  rintro d ⟨n', k, e, rfl, k1, k2⟩
  cases e
  refine ea_nil ⟨k, rfl, by omega, by omega, by rw [rangeD_len]; omega, fun _ y => ∃ c, c ∈ lit.cps.toList ∧ y = .str ⟨#[c]⟩, fun m x hx => ?_, fun ys hy hR => ?_⟩
  · refine tc_name (ev_callB hb ?_ (ea_cons (ev_str (ea_nil ⟨⟨_, rfl, ?_, ?_⟩, ?_⟩))))
    · show ((es.set j .no).set j (.d x))[i]? = _
      rw [List.getElem?_set_ne hij, List.getElem?_set_ne hij]; exact hi
    · show 0 < (signsD lit).length; rw [signsD_len]; exact hl.1
    · show (signsD lit).length ≤ _; rw [signsD_len]; omega
    · rintro d ⟨x', e, hm⟩
      cases e
      obtain ⟨c, hc, rfl⟩ := List.mem_map.mp hm
      exact ⟨c, hc, rfl⟩
  · rw [rangeD_len] at hy
    have key : ∀ (l : List Dt), (∀ y ∈ l, ∃ c, c ∈ lit.cps.toList ∧ y = Dt.str ⟨#[c]⟩) → ∃ cs : List Nat, (∀ c ∈ cs, c ∈ lit.cps.toList) ∧ l = (cs.map fun c => (⟨#[c]⟩ : Str)).map Dt.str := by
      intro l
      induction l with
      | nil => intro _; exact ⟨[], (fun _ h => nomatch h), rfl⟩
      | cons y l ih =>
        intro hl
        obtain ⟨c, hc, rfl⟩ := hl y (List.mem_cons_self ..)
        obtain ⟨cs, h1, h2⟩ := ih fun z hz => hl z (List.mem_cons_of_mem _ hz)
        refine ⟨c :: cs, fun e he => ?_, by rw [h2]; rfl⟩
        rcases List.mem_cons.mp he with rfl | he
        · exact hc
        · exact h1 e he
    obtain ⟨cs, h1, rfl⟩ := key ys fun y hm => by
      obtain ⟨m, hm⟩ := List.getElem?_of_mem hm
      have hlt := (List.getElem?_eq_some_iff.mp hm).1
      have hr : m < (rangeD 0 k.toNat).length := by rw [rangeD_len]; omega
      exact hR m _ y (List.getElem?_eq_getElem hr) hm
    rw [List.length_map, List.length_map] at hy
    refine ⟨cs.map fun c => (⟨#[c]⟩ : Str), .inl rfl, ?_, ?_⟩
    · have e1 : ((cs.map fun c => (⟨#[c]⟩ : Str)).map (·.length)).sum = cs.length := by
        clear h1 hR hy
        induction cs with
        | nil => rfl
        | cons c cs ih => simp only [List.map_cons, List.sum_cons, ih, List.length_cons]; show 1 + _ = _; omega
      have e2 : ("" : Str).length = 0 := by decide +kernel
      rw [e1, e2]
      omega
    · rw [TL.join_eq]
      have e := join_signs cs
      refine h _ ?_ ?_
      · rw [← Array.length_toList, e]; omega
      · rw [e]; exact h1
end
/-- a value of any kind, as is_name and its like may be handed -/
def goodV (x : Dt) : Bool := plainD x && (match x with | .str z => decide (z.cps.size < 1000) && PyData.strOk z | _ => true)
theorem goodV_pre {x : Dt} (h : goodV x = true) : plainD x = true ∧ txtOk x := by
  unfold goodV at h
  rw [Bool.and_eq_true] at h
  refine ⟨h.1, fun z e => ?_⟩
  subst e
  have := h.2
  rw [Bool.and_eq_true] at this
  exact ⟨of_decide_eq_true this.1, this.2⟩
theorem strOk_of {z lit : Str} (h : ∀ c ∈ z.cps.toList, c ∈ lit.cps.toList) (hl : PyData.strOk lit = true) : PyData.strOk z = true := by
  unfold PyData.strOk at *
  rw [Array.all_eq_true'] at *
  intro c hc
  exact hl c (by have := h c (by simpa using hc); simpa using this)
theorem all_mem {xs : List Dt} {p : Dt → Bool} (h : xs.all p = true) {x : Dt} (hx : x ∈ xs) : p x = true := List.all_eq_true.mp h x hx
/-! ### calls of the helpers: what is asked, what comes -/
theorem draw_k {n : Int} {R : Dt → Prop} (hn : 0 < n ∧ n < 1073741824) (h : ∀ i : Int, 0 ≤ i → i < n → R (.int i)) : drawPre [.int n] ∧ ∀ d, drawPost [.int n] d → R d :=
  ⟨⟨n, rfl, hn.1, hn.2⟩, fun d ⟨m, i, e, e2, k1, k2⟩ => by cases e; subst e2; exact h i k1 k2⟩
theorem of_k {xs : List Dt} {R : Dt → Prop} (h0 : 0 < xs.length ∧ xs.length ≤ 100000) (h : ∀ d, d ∈ xs → R d) : ofPre [.lst xs] ∧ ∀ d, ofPost [.lst xs] d → R d :=
  ⟨⟨_, rfl, h0.1, h0.2⟩, fun d ⟨y, e, hm⟩ => by cases e; exact h d hm⟩
theorem of_kT {xs : List Dt} {R : Dt → Prop} (h0 : 0 < xs.length ∧ xs.length ≤ 100000) (h : ∀ d, d ∈ xs → R d) : ofPre [.tup xs] ∧ ∀ d, ofPost [.tup xs] d → R d :=
  ⟨⟨_, rfl, h0.1, h0.2⟩, fun d ⟨y, e, hm⟩ => by cases e; exact h d hm⟩
theorem odd_k {xs : List Dt} {R : Dt → Prop} (h0 : xs.length ≤ 1000) (h : ∀ d, d ∈ oddL ++ xs → R d) : oddPre [.lst xs] ∧ ∀ d, oddPost [.lst xs] d → R d :=
  ⟨⟨_, rfl, h0⟩, fun d ⟨y, e, hm⟩ => by cases e; exact h d hm⟩
theorem same_k {n : Nat} {x y : Dt} {R : Dt → Prop} (e : x = y) (hp : y.pureD = true) (hd : y.depth < n) (h : R (.bl true)) : samePre n [x, y] ∧ ∀ d, sameTrue [x, y] d → R d :=
  ⟨⟨y, by rw [e], hp, hd⟩, fun d e => by cases e; exact h⟩
theorem num_k {x : Dt} {l m : Int} {R : Dt → Prop} (hp : plainD x = true) (h : R (.bl (isNum x l m))) : numPre [x, .int l, .int m] ∧ ∀ d, numPost [x, .int l, .int m] d → R d :=
  ⟨⟨_, _, _, rfl, hp⟩, fun d ⟨y, l, m, e, e2⟩ => by cases e; subst e2; exact h⟩
theorem name_k {x : Dt} {R : Dt → Prop} (hp : plainD x = true ∧ txtOk x) (h : R (.bl (isNameD x))) : valPre [x] ∧ ∀ d, namePost [x] d → R d :=
  ⟨⟨_, rfl, hp⟩, fun d ⟨y, e, e2⟩ => by cases e; subst e2; exact h⟩
theorem reg_k {x : Dt} {R : Dt → Prop} (hp : plainD x = true ∧ txtOk x) (h : R (.bl (isRegD x))) : valPre [x] ∧ ∀ d, regPost [x] d → R d :=
  ⟨⟨_, rfl, hp⟩, fun d ⟨y, e, e2⟩ => by cases e; subst e2; exact h⟩
theorem word_k {x : Dt} {R : Dt → Prop} (hp : plainD x = true ∧ txtOk x) (h : R (.bl (isNum x 0 65535))) : valPre [x] ∧ ∀ d, wordPost [x] d → R d :=
  ⟨⟨_, rfl, hp⟩, fun d ⟨y, e, e2⟩ => by cases e; subst e2; exact h⟩
theorem good_str {z lit : Str} {n : Int} (h1 : (z.cps.size : Int) < n) (hn : n ≤ 1000) (h : ∀ c ∈ z.cps.toList, c ∈ lit.cps.toList) (hl : PyData.strOk lit = true) : goodV (.str z) = true := by
  have h2 : z.cps.size < 1000 := by omega
  show (true && (decide (z.cps.size < 1000) && PyData.strOk z)) = true
  rw [decide_eq_true h2, strOk_of h hl]; rfl
theorem good_odd : oddL.all goodV = true := by decide +kernel
end Y
/-! Y7: list(text), dicts, defs with defaults, expressions that change a list of one's own. -/
namespace Y
open PySem L2

/-! ### list(text) -/
def rListS (xs : List V) (H : Hp) (Q : VK) : Prop := ∃ z : Str, xs = [.str z] ∧ z.cps.size ≤ 100000 ∧ ∀ l, H l = none → Q (.ref l) (upd H l (.lst (z.cps.toList.map fun c => V.str ⟨#[c]⟩)))
theorem call_listS {X : Cx} (hc : X.calm = true) : CallR X (.type "list") rListS := by
  intro pins s σ H xs us Q I r h
  obtain ⟨z, rfl, hz, q⟩ := h
  obtain ⟨u, rfl, rx⟩ := vals1 r
  obtain ⟨t, rfl⟩ := rx
  refine call_list_str (I.ok.hd hc) z t (fun h' tk acc c' hk e hi => ?_) (size_of hz)
  refine ⟨.ref s.heap.objs.size, upd H s.heap.objs.size (.lst (z.cps.toList.map fun c => V.str ⟨#[c]⟩)), I.laid hk (Nat.le_refl _) ⟨?_, acc.toList, c', ?_, ?_⟩, rfl, q _ (I.hok.fresh (Nat.le_refl _))⟩
  · rw [List.length_map, Array.length_toList]; exact size_of hz
  · refine vals_of_idx _ _ (by rw [List.length_map, Array.length_toList, Array.length_toList]; exact hi.1) fun j u hj => ?_
    obtain ⟨c, t', hc', rfl⟩ := hi.2 j u (by rw [← Array.getElem?_toList]; exact hj)
    exact ⟨.str ⟨#[c]⟩, by rw [List.getElem?_map, Array.getElem?_toList, hc']; rfl, ⟨_, rfl⟩⟩
  · rw [Array.toArray_toList]; exact e
def rListB (K : PySem.W.Frag) : List V → Hp → VK → Prop := cAlt (rListA K) rListS
theorem call_listB {X : Cx} {K : PySem.W.Frag} (hc : X.calm = true) (hK : X.K = K := by rfl) : CallR X (.type "list") (rListB K) := call_alt (call_listA hK) (call_listS hc)
section
variable {B : Bs} {es : List Sl}
theorem eo_listS {ta : TA} {P : List Dt → Prop} (h : EvA B ta es fun ds => ∃ z : Str, ds = [.str z] ∧ z.cps.size ≤ 100000 ∧ P (signsD z)) : EvO B (tCB (rListB B.K) ta) es P := fun σ F H S Q q => h σ F H S _ fun vs ds F1 H1 g1 r1 ⟨z, e, hz, p1⟩ => by
  subst e
  obtain ⟨v, rfl, r⟩ := rp1 r1
  cases r
  have S1 := S.go g1
  refine .inr ⟨z, rfl, hz, fun p hp => q p _ _ F1 _ (g1.trans (S1.allocO hp)) (g1.new (S1.newB hp) hp) (same_none S1.sub hp) upd_same ?_ p1⟩
  unfold signsD
  generalize z.cps.toList = l
  induction l with
  | nil => exact .nil
  | cons c l ih => exact .cons (.str _) ih
theorem eo_listL {ta : TA} {P : List Dt → Prop} (h : EvA B ta es fun ds => ∃ xs, (ds = [.lst xs] ∨ ds = [.tup xs]) ∧ P xs) : EvO B (tCB (rListB B.K) ta) es P := fun σ F H S Q q => h σ F H S _ fun vs ds F1 H1 g1 r1 ⟨xs, e, p1⟩ => by
  have S1 := S.go g1
  rcases e with rfl | rfl
  · obtain ⟨v, rfl, r⟩ := rp1 r1
    cases r with
    | lst h1 h2 => exact .inl ⟨_, _, rfl, .inl (SqL.of (g1.s2 _ _ h1)), fun p hp => q p _ _ F1 _ (g1.trans (S1.allocO hp)) (g1.new (S1.newB hp) hp) (same_none S1.sub hp) upd_same h2 p1⟩
  · obtain ⟨v, rfl, r⟩ := rp1 r1
    cases r with
    | tup h1 h2 => exact .inl ⟨_, _, rfl, .inr (sqT_mono g1.s2 h1), fun p hp => q p _ _ F1 _ (g1.trans (S1.allocO hp)) (g1.new (S1.newB hp) hp) (same_none S1.sub hp) upd_same h2 p1⟩

/-! ### expressions that change lists of one's own -/
def EvM (B : Bs) (te : TE) (es : List Sl) (P : Dt → List Sl → Prop) : Prop := ∀ σ F H, Stt B es σ F H → ∀ Q : VK,
  (∀ v d es' F' H', Same F F' → Stt B es' σ F' H' → Rp B.K F' v d → P d es' → Q v H') → te σ H Q
theorem Ev.m {te : TE} {P : Dt → List Sl → Prop} (h : Ev B te es fun d => P d es) : EvM B te es P := fun σ F H S Q q => h σ F H S Q fun v d F1 H1 g1 r1 p1 => q v d es F1 H1 g1.s1 (S.go g1) r1 p1
theorem em_op {r : R2} {ta tb : TE} {P : Dt → List Sl → Prop} (h : EvM B ta es fun x e1 => EvM B tb e1 fun y e2 => Op2 B r e2 x y fun d => P d e2) : EvM B (tOp r ta tb) es P := fun σ F H S Q q =>
  h σ F H S _ fun v x e1 F1 H1 s1 S1 r1 p1 => p1 σ F1 H1 S1 _ fun w y e2 F2 H2 s2 S2 r2 p2 => p2 σ F2 H2 v w S2 (r1.mono s2) r2 Q fun u d F3 H3 g3 r3 p3 => q u d e2 F3 H3 ((s1.trans s2).trans g3.s1) (S2.go g3) r3 p3
theorem em_pop {i : Nat} {a : Addr} {xs : List Dt} {te : TE} {P : Dt → List Sl → Prop} (hi : es[i]? = some (.own a xs)) (h : Ev B te es fun y => ∃ j : Int, y = .int j ∧ 0 ≤ j ∧ j < xs.length ∧ j < 100000 ∧ ∀ x, xs[j.toNat]? = some x → P x (es.set i (.own a (xs.eraseIdx j.toNat)))) :
    EvM B (tBM B.K "list" rPopAt (tVar i) (tCons te tNil)) es P := fun σ F H S Q q => by
  obtain ⟨vs, h1, h2, h3, h4⟩ := S.own hi
  refine ⟨_, h1, .inl ⟨rfl, _, SqL.of h3⟩, h σ F H S _ fun w y F1 H1 g1 r1 ⟨j, e, j0, j1, j2, p1⟩ => ?_⟩
  subst e
  cases r1
  have S1 := S.go g1
  obtain ⟨vs', k1, k2, k3, k4⟩ := S1.own hi
  have hj : j.toNat < xs.length := by omega
  have hv : j.toNat < vs'.length := by rw [k4.length]; exact hj
  have ev : vs'[j.toNat]? = some vs'[j.toNat] := by simp [hv]
  obtain ⟨x, hx, rx⟩ := k4.getV ev
  have er : RpAll B.K F1 (vs'.eraseIdx j.toNat) (xs.eraseIdx j.toNat) := by
    rw [List.eraseIdx_eq_take_drop_succ, List.eraseIdx_eq_take_drop_succ]
    exact (k4.take _).app (k4.drop _)
  refine ⟨a, vs', j, j.toNat, vs'[j.toNat], rfl, rfl, k3, by omega, by omega, ?_, ev, q _ _ _ F1 _ g1.s1 (S1.change hi k1 k2 er) rx (p1 x hx)⟩
  have e1 : (if j < 0 then j + (vs'.length : Int) else j) = j := if_neg (by omega)
  have e2 : (decide (0 ≤ j) && decide (j < (vs'.length : Int))) = true := by
    rw [decide_eq_true j0, decide_eq_true (show j < (vs'.length : Int) by omega)]; rfl
  show (if (decide (0 ≤ (if j < 0 then j + (vs'.length : Int) else j)) && decide ((if j < 0 then j + (vs'.length : Int) else j) < (vs'.length : Int))) = true then some (if j < 0 then j + (vs'.length : Int) else j).toNat else none) = some j.toNat
  rw [e1, e2]; rfl
theorem sm_appendM {p : Po} {i : Nat} {te : TE} {a : Addr} {xs : List Dt} (hi : es[i]? = some (.own a xs)) (h : EvM B te es fun d e1 => e1[i]? = some (.own a xs) ∧ xs.length < 100000 ∧ p.nx (e1.set i (.own a (xs ++ [d])))) : Sm B (tDrop (tBM B.K "list" rAppend (tVar i) (tCons te tNil))) es p := fun σ F H D S n _ _ _ _ => by
  obtain ⟨vs, h1, h2, h3, h4⟩ := S.own hi
  refine ⟨_, h1, .inl ⟨rfl, _, SqL.of h3⟩, h σ F H S _ fun v d e1 F1 H1 s1 S1 r1 ⟨hi1, p1, p2⟩ => ?_⟩
  obtain ⟨vs', k1, k2, k3, k4⟩ := S1.own hi1
  exact ⟨a, vs', v, rfl, rfl, k3, size_lt (by rw [k4.length]; exact p1), n _ _ F1 _ (S1.change hi1 h1 k2 (k4.app (.cons r1 .nil))) s1 p2⟩
theorem sm_reverse {p : Po} {i : Nat} {a : Addr} {xs : List Dt} (hi : es[i]? = some (.own a xs)) (h : p.nx (es.set i (.own a xs.reverse))) : Sm B (tDrop (tBM0 B.K "list" rReverse (tVar i))) es p := fun σ F H D S n _ _ _ _ => by
  obtain ⟨vs, h1, h2, h3, h4⟩ := S.own hi
  have er : ∀ {us : List V} {ds : List Dt}, RpAll B.K F us ds → RpAll B.K F us.reverse ds.reverse := by
    intro us ds r
    induction us generalizing ds with
    | nil => cases r; exact .nil
    | cons u us ih =>
      cases r with
      | cons r t =>
        rw [List.reverse_cons, List.reverse_cons]
        exact (ih t).app (.cons r .nil)
  exact ⟨_, h1, .inl ⟨rfl, _, SqL.of h3⟩, a, vs, rfl, rfl, h3, n _ _ F _ (S.change hi h1 h2 (er h4)) (Same.refl F) h⟩

/-! ### a list of one's own within a datum: told by its address, seen as a datum for the time of a call -/
mutual
def Dt.see (a : Addr) (xs : List Dt) : Dt → Dt
  | .ali c => if c = a then .lst xs else .ali c
  | .lst ds => .lst (seeAll a xs ds)
  | .tup ds => .tup (seeAll a xs ds)
  | .non => .non
  | .bl b => .bl b
  | .int i => .int i
  | .str s => .str s
  | .obj C ns ds => .obj C ns (seeAll a xs ds)
  | .dct ks ds => .dct ks (seeAll a xs ds)
def seeAll (a : Addr) (xs : List Dt) : List Dt → List Dt
  | [] => []
  | d :: ds => d.see a xs :: seeAll a xs ds
end
mutual
theorem Rp.see {K : PySem.W.Frag} {F F' : Hp} {a : Addr} {xs : List Dt} (s : Same F F') (h : Rp K F' (.ref a) (.lst xs)) : ∀ {v : V} {d : Dt}, Rp K F v d → Rp K F' v (d.see a xs)
  | _, _, .non => by unfold Dt.see; exact .non
  | _, _, .bl b => by unfold Dt.see; exact .bl b
  | _, _, .int i => by unfold Dt.see; exact .int i
  | _, _, .str x => by unfold Dt.see; exact .str x
  | _, _, .lst h1 r => by unfold Dt.see; exact .lst (s _ _ h1) (RpAll.see s h r)
  | _, _, .tup h1 r => by unfold Dt.see; exact .tup (sqT_mono s h1) (RpAll.see s h r)
  | _, _, .obj h1 h2 h3 r => by unfold Dt.see; exact .obj (s _ _ h1) h2 h3 (RpAll.see s h r)
  | _, _, .dct h1 h2 h3 r => by unfold Dt.see; exact .dct (s _ _ h1) h2 h3 (RpAll.see s h r)
  | _, _, .ali c => by
    unfold Dt.see
    by_cases e : c = a
    · rw [if_pos e, e]; exact h
    · rw [if_neg e]; exact .ali c
theorem RpAll.see {K : PySem.W.Frag} {F F' : Hp} {a : Addr} {xs : List Dt} (s : Same F F') (h : Rp K F' (.ref a) (.lst xs)) : ∀ {vs : List V} {ds : List Dt}, RpAll K F vs ds → RpAll K F' vs (seeAll a xs ds)
  | _, _, .nil => by unfold seeAll; exact .nil
  | _, _, .cons r t => by unfold seeAll; exact .cons (Rp.see s h r) (RpAll.see s h t)
end
theorem ev_varOwn {i : Nat} {a : Addr} {xs : List Dt} {P : Dt → Prop} (hi : es[i]? = some (.own a xs)) (h : P (.ali a)) : Ev B (tVar i) es P := fun σ F H S Q q => by
  obtain ⟨vs, h1, h2, h3, h4⟩ := S.own hi
  exact ⟨_, h1, q _ _ F H S.refl (.ali a) h⟩
def scD : Dt → Bool
  | .non => true | .bl _ => true | .int _ => true | .str _ => true
  | _ => false
theorem rp_sc {K : PySem.W.Frag} {F F' : Hp} {v : V} {d : Dt} (r : Rp K F v d) (h : scD d = true) : Rp K F' v d := by
  cases r <;> first | exact .non | exact .bl _ | exact .int _ | exact .str _ | cases h
/-- a pure def is called with data that tell of the list at slot i -/
theorem ev_callSee {i : Nat} {a : Addr} {xs : List Dt} {Pre : List Dt → Prop} {Post : List Dt → Dt → Prop} {E : XK} {ta : TA} {P : Dt → Prop} (hi : es[i]? = some (.own a xs)) (h : EvA B ta es fun ds => Pre (seeAll a xs ds) ∧ ∀ d, Post (seeAll a xs ds) d → scD d = true ∧ P d) : Ev B (tCall (spD B.K Pre Post) [] E ta) es P := fun σ F H S Q q =>
  h σ F H S _ fun vs ds F1 H1 g1 r1 ⟨p1, p2⟩ => by
    rw [List.append_nil]
    have S1 := S.go g1
    obtain ⟨ws, h1, h2, h3, h4⟩ := S1.own hi
    have s1 : Same F1 (upd F1 a (.lst ws)) := same_upd h2
    have sH : Same (upd F1 a (.lst ws)) H1 := fun c o e => by
      by_cases hc : c = a
      · subst hc; rw [upd_same] at e; rw [h3, e]
      · rw [upd_ne hc] at e; exact S1.sub c o e
    refine ⟨_, _, sH, RpAll.see s1 (.lst upd_same (h4.mono s1)) r1, p1, fun v d F2 H2 s1 s2 s3 s4 r2 p3 => ?_⟩
    obtain ⟨hs, hp⟩ := p2 d p3
    exact q v d F1 H2 (g1.trans (S1.pure (Same.refl F1) (S1.sub.trans s4) (fun _ _ h => h) s4)) (rp_sc r2 hs) hp

/-! ### dicts -/
def getK (ks : List Key) (xs : List Dt) (k : Key) : Option Dt := match ks, xs with
  | a :: ks, x :: xs => if a = k then some x else getK ks xs k
  | _, _ => none
theorem getK_of {K : PySem.W.Frag} {F : Hp} (k : Key) : ∀ {kvs : List (Key × V)} {ds : List Dt}, RpAll K F (kvs.map (·.2)) ds → (∀ d, getK (kvs.map (·.1)) ds k = some d → ∃ v, valV kvs k = some v ∧ Rp K F v d) ∧ (getK (kvs.map (·.1)) ds k = none → valV kvs k = none)
  | [], ds, r => by
    cases r
    exact ⟨(fun d h => nomatch h), fun _ => rfl⟩
  | (a, v) :: kvs, ds, r => by
    cases r with
    | cons r1 r2 =>
      have ih := getK_of k r2
      unfold valV
      show (∀ d, (if a = k then some _ else getK _ _ k) = some d → _) ∧ ((if a = k then some _ else getK _ _ k) = none → _)
      by_cases h : a = k
      · rw [if_pos h]
        refine ⟨fun d e => ?_, fun e => nomatch e⟩
        cases e
        exact ⟨v, by simp [h], r1⟩
      · rw [if_neg h]
        refine ⟨fun d e => ?_, fun e => ?_⟩
        · obtain ⟨u, h1, h2⟩ := ih.1 d e
          refine ⟨u, ?_, h2⟩
          unfold valV at h1
          simpa [List.find?_cons, h] using h1
        · have := ih.2 e
          unfold valV at this
          simpa [List.find?_cons, h] using this
/-- a written dict with text keys -/
def KDic (K : PySem.W.Frag) (w : World) (d : Addr) (kvs : List (Str × V)) : Prop := ∃ es n, K.lookup d = some ⟨.type "dict", none, .dict es n, #[]⟩ ∧ PySem.W.KeysLit w.params es.toList ∧ (d == sysModules) = false ∧ Paired (fun (p : Str × V) (e : DictEntry) => (∃ t, e.key = .str p.1 t) ∧ RelV p.2 e.val) kvs es.toList
theorem KDic.ns {K : PySem.W.Frag} {w : World} {d : Addr} {kvs : List (Str × V)} (h : KDic K w d kvs) (z : Str) : ∃ r, PySem.W.nsIn K d z = some r ∧ RelO (kvs.lookup z) r := by
  obtain ⟨es, n, h1, _, _, h2⟩ := h
  unfold PySem.W.nsIn
  rw [h1]
  show ∃ r, (match es.toList.find? (·.key.isStr z) with | some e => some (some e.val) | none => if es.toList.any (·.refKey) then none else some none) = some r ∧ _
  generalize es.toList = l at h2
  have nr : l.any (·.refKey) = false := by
    clear h1
    induction h2 with
    | nil => rfl
    | cons r _ ih =>
      obtain ⟨⟨t, e⟩, _⟩ := r
      rw [List.any_cons, ih]
      unfold DictEntry.refKey
      rw [e]; rfl
  rw [nr]
  clear h1 nr
  induction h2 with
  | nil => exact ⟨none, rfl, trivial⟩
  | @cons p e kvs l r _ ih =>
    obtain ⟨⟨t, hk⟩, rv⟩ := r
    obtain ⟨x, v⟩ := p
    have e1 : e.key.isStr z = (x == z) := by rw [hk]; rfl
    rw [List.find?_cons, e1]
    by_cases h : x = z
    · subst h
      refine ⟨some e.val, by simp, ?_⟩
      show RelO (List.lookup x ((x, v) :: kvs)) _
      rw [List.lookup_cons]
      simp
      exact rv
    · have h2 : (x == z) = false := by simpa using h
      have h3 : (z == x) = false := by simpa using fun q => h q.symm
      rw [h2]
      show ∃ r, _ = some r ∧ RelO (List.lookup z ((x, v) :: kvs)) r
      rw [List.lookup_cons, h3]
      exact ih
end
end Y
/-! Y8: written dicts read, dicts displayed, defs with defaults. -/
namespace Y
open PySem L2
/-! ### written dicts -/
def rInKD (K : PySem.W.Frag) (w : World) : R2 := fun x y H Q => ∃ z d kvs, x = .str z ∧ y = .ref d ∧ KDic K w d kvs ∧ Q (.bl (kvs.lookup z).isSome) H
def rNiKD (K : PySem.W.Frag) (w : World) : R2 := fun x y H Q => ∃ z d kvs, x = .str z ∧ y = .ref d ∧ KDic K w d kvs ∧ Q (.bl (!(kvs.lookup z).isSome)) H
section
variable {X : Cx} {K : PySem.W.Frag} {w : World}
theorem KDic.kd {K : PySem.W.Frag} {w : World} {d : Addr} {kvs : List (Str × V)} (h : KDic K w d kvs) : ∃ es n, KDict K w d es n := by
  obtain ⟨es, n, h1, h2, h3, _⟩ := h
  exact ⟨es, n, h1, h2, h3⟩
theorem op_inKD (hK : X.K = K := by rfl) (hw : X.w = w := by rfl) : OpR X (compareOp .In) (rInKD K w) := by
  subst hK hw
  intro pins s σ H x y u v Q I rx ry h
  obtain ⟨z, d, kvs, rfl, rfl, D, q⟩ := h
  obtain ⟨es, n, D1⟩ := D.kd
  obtain ⟨r, h1, h2⟩ := D.ns z
  refine op_in_kd D1 pins s σ H _ _ u v Q I rx ry ⟨z, r, rfl, rfl, h1, ?_⟩
  rw [← h2.isSome_eq]
  exact q
theorem op_niKD (hK : X.K = K := by rfl) (hw : X.w = w := by rfl) : OpR X (compareOp .NotIn) (rNiKD K w) := by
  subst hK hw
  intro pins s σ H x y u v Q I rx ry h
  obtain ⟨z, d, kvs, rfl, rfl, D, q⟩ := h
  obtain ⟨es, n, D1⟩ := D.kd
  obtain ⟨r, h1, h2⟩ := D.ns z
  refine op_notIn_kd D1 pins s σ H _ _ u v Q I rx ry ⟨z, r, rfl, rfl, h1, ?_⟩
  rw [← h2.isSome_eq]
  exact q
theorem ix_kd (hK : X.K = K := by rfl) (hw : X.w = w := by rfl) : IxR X (rIxD K w) := by
  subst hK hw
  exact ix_kdict
end
section
variable {B : Bs} {es : List Sl} {w : World}
theorem ev_inKD {d : Addr} {kvs : List (Str × V)} {ta : TE} {P : Dt → Prop} (D : KDic B.K w d kvs) (h : Ev B ta es fun x => ∃ z, x = .str z ∧ P (.bl (kvs.lookup z).isSome)) : Ev B (tOp (rInKD B.K w) ta (tC (.ref d))) es P := fun σ F H S Q q =>
  h σ F H S _ fun v x F1 H1 g1 r1 ⟨z, e, p1⟩ => by
    subst e; cases r1
    exact ⟨z, d, kvs, rfl, rfl, D, q _ _ F1 H1 g1 (.bl _) p1⟩
theorem ev_niKD {d : Addr} {kvs : List (Str × V)} {ta : TE} {P : Dt → Prop} (D : KDic B.K w d kvs) (h : Ev B ta es fun x => ∃ z, x = .str z ∧ P (.bl (!(kvs.lookup z).isSome))) : Ev B (tOp (rNiKD B.K w) ta (tC (.ref d))) es P := fun σ F H S Q q =>
  h σ F H S _ fun v x F1 H1 g1 r1 ⟨z, e, p1⟩ => by
    subst e; cases r1
    exact ⟨z, d, kvs, rfl, rfl, D, q _ _ F1 H1 g1 (.bl _) p1⟩
/-- the datum of a scalar value -/
def vD : V → Dt
  | .non => .non
  | .bl b => .bl b
  | .int i => .int i
  | .str s => .str s
  | _ => .non
def scV : V → Bool
  | .non => true | .bl _ => true | .int _ => true | .str _ => true
  | _ => false
theorem rp_vD {K : PySem.W.Frag} {F : Hp} {v : V} (h : scV v = true) : Rp K F v (vD v) := by
  cases v <;> first | exact .non | exact .bl _ | exact .int _ | exact .str _ | cases h
theorem ev_ixKD {d : Addr} {kvs : List (Str × V)} {tb : TE} {P : Dt → Prop} (D : KDic B.K w d kvs) (h : Ev B tb es fun y => ∃ z, y = .str z ∧ ∃ v, kvs.lookup z = some v ∧ scV v = true ∧ P (vD v)) : Ev B (tOp (rIxD B.K w) (tC (.ref d)) tb) es P := fun σ F H S Q q =>
  h σ F H S _ fun v x F1 H1 g1 r1 ⟨z, e, v0, hv, hs, p1⟩ => by
    subst e; cases r1
    obtain ⟨r, h1, h2⟩ := D.ns z
    rw [hv] at h2
    cases r with
    | none => exact (show False from h2).elim
    | some u =>
      obtain ⟨es, n, k1, k2, _, _⟩ := D
      exact ⟨d, z, v0, rfl, rfl, ⟨es, n, u, k1, k2, h1, h2⟩, q _ _ F1 H1 g1 (rp_vD hs) p1⟩

/-! ### dicts displayed and asked -/
def kD : Key → Dt
  | .inl i => .int i
  | .inr x => .str x
theorem rp_kD {K : PySem.W.Frag} {F : Hp} {v : V} {k : Key} (r : Rp K F v (kD k)) : v = kV k := by
  cases k <;> cases r <;> rfl
def EvPs (B : Bs) (trs : List (TE × TE)) (es : List Sl) (P : List Key → List Dt → Prop) : Prop := ∀ σ F H, Stt B es σ F H → ∀ Q : List (V × V) → Hp → Prop,
  (∀ ks ps ds F' H', Go B F H F' H' → RpAll B.K F' (ps.map (·.2)) ds → ps.map (·.1) = ks.map kV → P ks ds → Q ps H') → tPairs trs σ H Q
theorem eps_nil {P : List Key → List Dt → Prop} (h : P [] []) : EvPs B [] es P := fun σ F H S Q q => q [] [] [] F H S.refl .nil rfl h
theorem eps_cons {tk tv : TE} {r : List (TE × TE)} {P : List Key → List Dt → Prop} (h : Ev B tk es fun x => ∃ k, x = kD k ∧ Ev B tv es fun y => EvPs B r es fun ks ds => P (k :: ks) (y :: ds)) : EvPs B ((tk, tv) :: r) es P := fun σ F H S Q q =>
  h σ F H S _ fun v x F1 H1 g1 r1 ⟨k, e, p1⟩ => p1 σ F1 H1 (S.go g1) _ fun u y F2 H2 g2 r2 p2 => p2 σ F2 H2 ((S.go g1).go g2) _ fun ks ps ds F3 H3 g3 r3 e3 p3 => by
    subst e
    refine q (k :: ks) ((v, u) :: ps) (y :: ds) F3 H3 ((g1.trans g2).trans g3) (.cons (r2.mono g3.s1) r3) ?_ p3
    rw [List.map_cons, List.map_cons, e3, rp_kD r1]
theorem merge_nodup {kvs : List (Key × V)} (h : (kvs.map (·.1)).Nodup) : mergeK [] kvs = kvs := by
  have key : ∀ (more acc : List (Key × V)), ((acc ++ more).map (·.1)).Nodup → mergeK acc more = acc ++ more := by
    intro more
    induction more with
    | nil => intro acc _; simp [mergeK]
    | cons p more ih =>
      intro acc hn
      have hv : valV acc p.1 = none := by
        cases e : valV acc p.1 with
        | none => rfl
        | some v =>
          have hm : p.1 ∈ acc.map (·.1) := valV_in (by rw [e])
          rw [List.map_append, List.map_cons] at hn
          have := List.nodup_append.mp hn
          exact absurd rfl (this.2.2 p.1 hm p.1 (List.mem_cons_self ..))
      show mergeK (putK acc p.1 p.2) more = _
      rw [putK_new _ hv, ih]
      · simp
      · simpa using hn
  simpa using key kvs [] (by simpa using h)
theorem zip_back : ∀ (ps : List (V × V)) (ks : List Key), ps.map (·.1) = ks.map kV → ks.length = ps.length → ps = (ks.zip (ps.map (·.2))).map fun kv => (kV kv.1, kv.2)
  | [], [], _, _ => rfl
  | [], _ :: _, _, h => by simp at h
  | _ :: _, [], _, h => by simp at h
  | a :: ps, k :: ks, e, h => by
    simp only [List.map_cons, List.cons.injEq] at e
    simp only [List.map_cons, List.zip_cons_cons, List.cons.injEq]
    exact ⟨by rw [← e.1], zip_back ps ks e.2 (by simpa using h)⟩
/-- a, b = [..], [..]: two new lists of one's own -/
theorem sm_parOO {p : Po} {i j : Nat} {t1 t2 : TE} (hij : i ≠ j) (hj : ∀ a xs, es[j]? ≠ some (.own a xs)) (hi : ∀ a xs, es[i]? ≠ some (.own a xs)) (h : EvO B t1 es fun xs => EvO B t2 es fun ys => ∀ a b, a ≠ b → p.nx ((es.set i (.own a xs)).set j (.own b ys))) : Sm B (tPar i j (tCons t1 (tCons t2 tNil))) es p := fun σ F H D S n _ _ _ _ =>
  h σ F H S _ fun a vs xs F1 H1 g1 a0 a1 a2 r1 p1 => p1 σ F1 H1 (S.go g1) _ fun b ws ys F2 H2 g2 b0 b1 b2 r2 p2 => by
    have S2 := (S.go g1).go g2
    have hab : a ≠ b := ne_of_none a2 b0
    have ha2 : H2 a = some (.lst vs) := g2.kp a _ (S.newB a0) a2
    have hF2 : F2 a = none := g2.nw a (by rw [a2]; simp) a1
    have S3 := S2.setO (i := i) hF2 ha2 (r1.mono g2.s1) (S.new0 a0) (S.newB a0) fun k c zs hk => S.newS a0 k zs hk
    have S4 := S3.setO (i := j) b1 b2 r2 ((S.go g1).new0 b0) ((S.go g1).newB b0) fun k c zs hk => by
      by_cases e : i = k
      · subst e
        have l1 : i < es.length := by
          have := (List.getElem?_eq_some_iff.mp hk).1
          rwa [List.length_set] at this
        rw [List.getElem?_set_self l1] at hk
        cases hk
        exact hab
      · rw [List.getElem?_set_ne e] at hk
        exact (S.go g1).newS b0 k zs hk
    exact ⟨.ref a, .ref b, rfl, n _ _ F2 H2 S4 (g1.s1.trans g2.s1) (p2 a b hab)⟩
theorem ev_disp {trs : List (TE × TE)} {P : Dt → Prop} (h : EvPs B trs es fun ks ds => ks.Nodup ∧ ks.length ≤ 15 ∧ P (.dct ks ds)) : Ev B (tDisp trs) es P := fun σ F H S Q q p hp => by
  have gD := S.allocO (o := .dK []) hp
  have S1 := S.go gD
  have hb := S.newB hp
  refine h σ F _ S1 _ fun ks ps ds F2 H2 g2 r2 e2 ⟨hn, hl, p2⟩ => ?_
  have h2 : H2 p = some (.dK []) := g2.kp p _ hb upd_same
  have hF2 : F2 p = none := g2.nw p (by rw [upd_same]; simp) (same_none S.sub hp)
  have lk : ks.length = ps.length := by
    have := congrArg List.length e2
    simpa using this.symm
  have e3 : ps = (ks.zip (ps.map (·.2))).map fun kv => (kV kv.1, kv.2) := zip_back ps ks e2 lk
  have k1 : (ks.zip (ps.map (·.2))).map (·.1) = ks := by rw [List.map_fst_zip]; rw [List.length_map]; omega
  have k2 : (ks.zip (ps.map (·.2))).map (·.2) = ps.map (·.2) := by rw [List.map_snd_zip]; rw [List.length_map]; omega
  refine ⟨h2, ks.zip (ps.map (·.2)), e3, by rw [List.length_zip, List.length_map]; omega, ?_⟩
  rw [merge_nodup (by rw [k1]; exact hn)]
  refine q (.ref p) (.dct ks ds) (upd F2 p (.dK (ks.zip (ps.map (·.2))))) _ ?_ (.dct upd_same k1 k2 (r2.mono (same_upd hF2))) p2
  refine ⟨g2.s1.trans (same_upd hF2), same_updF g2.s2, fun c h1 h2 => ?_, fun c o h1 h2 => ?_, fun b hb' => ?_⟩
  · have hc : c ≠ p := fun e => h1 (by rw [e]; exact hp)
    rw [upd_ne hc]
    exact g2.nw c (by rw [upd_ne hc]; exact h1) h2
  · have hc : c ≠ p := ne_of_none h2 hp
    rw [upd_ne hc]
    exact g2.kp c o h1 (by rw [upd_ne hc]; exact h2)
  · obtain ⟨k1, z, zs, k2, k3, k4⟩ := g2.bg b hb'
    have hbp : b ≠ p := fun e => hb (by rw [hb', e])
    exact ⟨by rw [upd_ne hbp]; exact k1, z, zs, by rw [upd_ne hbp]; exact k2, k3.mono (same_upd hF2), k4⟩
/-- d.get(k, x) -/
theorem ev_get2 {td ty tx : TE} {P : Dt → Prop} (h : Ev B td es fun x => ∃ ks xs, x = .dct ks xs ∧ Ev B ty es fun y => ∃ k, y = kD k ∧ Ev B tx es fun z => P ((getK ks xs k).getD z)) : Ev B (tDGet2 td ty tx) es P := fun σ F H S Q q =>
  h σ F H S _ fun v x F1 H1 g1 r1 ⟨ks, xs, e, p1⟩ => by
    subst e
    cases r1 with
    | dct h1 h2 h3 h4 =>
      refine ⟨_, rfl, .inl ⟨_, .inl (g1.s2 _ _ h1)⟩, p1 σ F1 H1 (S.go g1) _ fun u y F2 H2 g2 r2 ⟨k, e2, p2⟩ => p2 σ F2 H2 ((S.go g1).go g2) _ fun t z F3 H3 g3 r3 p3 => ?_⟩
      subst e2
      have ek := rp_kD r2
      subst ek
      subst h2 h3
      have h5 := getK_of k (h4.mono (g2.s1.trans g3.s1))
      refine ⟨_, DGet.k (k := k) (g3.s2 _ _ ((g2.s1.trans g3.s1) _ _ h1)), ?_⟩
      cases e : getK _ xs k with
      | none =>
        rw [h5.2 e]
        rw [e] at p3
        exact q _ _ F3 H3 ((g1.trans g2).trans g3) r3 p3
      | some d =>
        obtain ⟨v', k1, k2⟩ := h5.1 d e
        rw [k1]
        rw [e] at p3
        exact q _ _ F3 H3 ((g1.trans g2).trans g3) k2 p3
end
/-! ### defs with defaults -/
section
variable {P : Program} {w : World} {K : PySem.W.Frag} {mg : Str → Option Value} {base : Heap} {x qual : Str} {pa : Arguments} {bd : List Stmt} {sc : Scope} {dvs : List V} {kws : List (Str × V)} {f : Addr} {fd : FuncData} {N ps : List Str} {k : Nat} {Pre : List Dt → Prop} {Post : List Dt → Dt → Prop} {PostO : List Dt → List Dt → Prop}
theorem fn_dataD (G : FunD K x qual pa bd sc dvs kws f fd) (S : FnScope N ps sc) (hl : ∀ ds, Pre ds → ds.length = ps.length)
    (hb : ∀ (cdv : Value) (A : Around) (outer : List Env) (s : Shared) (H : Hp) (E : XK), Room k (A.deeper (PyProof.Rows.envOfC qual sc s.heap.objs.size f cdv)) →
      ∃ t, PSs (cxOf CX0 P w K mg base N qual sc f cdv A outer s H E).nox bd t ∧ ∀ F0 H0 ds, Pre ds → Sm ⟨K, F0, H0, none⟩ t (env0 N ds) { nx := fun _ => Post ds .non, bk := fun _ => False, ct := fun _ => False, rt := fun _ => Post ds }) :
    FnOk P w K mg base CX0 (k + 1) f fd ps (spD K Pre Post) := by
  refine G.ok S (fun vs H Q E h => ?_) (fun cdv A outer s H vs Q E hr h => ?_)
  · obtain ⟨F, ds, _, r, hp, _⟩ := h
    rw [r.length]; exact hl ds hp
  · obtain ⟨F, ds, hs, r, hp, q⟩ := h
    obtain ⟨t, hd, hm⟩ := hb cdv A outer s H E hr
    refine ⟨t, hd.nox, hm F H ds hp _ F H _ (start_stt hs r (fun _ z => nomatch z)) (fun es' σ' F' H' S' s' p => ?_) (fun _ _ _ _ _ _ z => z.elim) (fun _ _ _ _ _ _ z => z.elim) (fun v d es' σ' F' H' S' s' rv p => ?_) (fun _ _ _ _ _ _ _ _ _ _ _ _ _ _ z => z.elim)⟩
    · exact q _ _ F' H' s' S'.ou S'.sub (fun c o e => S'.fr c o e (fun z => nomatch z)) .non p
    · exact q _ _ F' H' s' S'.ou S'.sub (fun c o e => S'.fr c o e (fun z => nomatch z)) rv p
theorem fn_ownD (G : FunD K x qual pa bd sc dvs kws f fd) (S : FnScope N ps sc) (hl : ∀ ds, Pre ds → ds.length = ps.length)
    (hb : ∀ (cdv : Value) (A : Around) (outer : List Env) (s : Shared) (H : Hp) (E : XK), Room k (A.deeper (PyProof.Rows.envOfC qual sc s.heap.objs.size f cdv)) →
      ∃ t, PSs (cxOf CX0 P w K mg base N qual sc f cdv A outer s H E).nox bd t ∧ ∀ F0 H0 ds, Pre ds → Sm ⟨K, F0, H0, none⟩ t (env0 N ds) { nx := fun _ => False, bk := fun _ => False, ct := fun _ => False, rt := fun _ _ => False, ro := PostO ds }) :
    FnOk P w K mg base CX0 (k + 1) f fd ps (spO K Pre PostO) := by
  refine G.ok S (fun vs H Q E h => ?_) (fun cdv A outer s H vs Q E hr h => ?_)
  · obtain ⟨F, ds, _, r, hp, _⟩ := h
    rw [r.length]; exact hl ds hp
  · obtain ⟨F, ds, hs, r, hp, q⟩ := h
    obtain ⟨t, hd, hm⟩ := hb cdv A outer s H E hr
    refine ⟨t, hd.nox, hm F H ds hp _ F H _ (start_stt hs r (fun _ z => nomatch z)) (fun _ _ _ _ _ _ z => z.elim) (fun _ _ _ _ _ _ z => z.elim) (fun _ _ _ _ _ _ z => z.elim) (fun _ _ _ _ _ _ _ _ _ z => z.elim) (fun a vs xs es' σ' F' H' S' s' h1 h2 r1 h3 h4 p => ?_)⟩
    exact q a vs xs F' H' s' S'.ou S'.sub (fun c o e => S'.fr c o e (fun z => nomatch z)) h3 h1 h2 r1 p
/-- a keyword call of a def with positional defaults: g puts values, defaults and keywords in order -/
theorem kb_dfl (G : FunD K x qual pa bd sc dvs kws f fd) (n : Nat) (ks : List Str) (g : {α : Type} → List α → List α → List α → List α) (hd : dvs ≠ [])
    (hrel : ∀ {fv : List V} {fu : List Value} {vs zs : List V} {us ws : List Value}, Vals fv fu → Vals vs us → Vals zs ws → Vals (g fv vs zs) (g fu us ws))
    (h : ∀ (T : Addr) (kV doc pm : Value) (an : Option Addr) (cdv ct : Value) (us its ws : List Value), us.length = n → its.length = dvs.length → ws.length = ks.length →
      ∃ k, bindArgs (PySem.W.fnOf x qual pa bd sc (.ref T) kV doc pm an cdv ct) ⟨us, ks.zip ws⟩ = seqItems? (.ref T) >>= k ∧ k (some its.toArray) = pure (ps.zip (g its us ws))) :
    ∃ fu : List Value, Vals dvs fu ∧ KBn K fd ps n ks (fun us ws => g fu us ws) (fun vs zs => g dvs vs zs) := by
  obtain ⟨oc, od, dV, kV, doc, pm, an, cdv, ct, osl, rfl, lk, hcd, hD, hK⟩ := G.ex
  rcases hD with ⟨e, _⟩ | ⟨_, T, o, its, m, rfl, lT, oT, rT⟩
  · exact absurd e hd
  · refine ⟨its, rT, ⟨fun s us ws X l1 l2 => ?_, fun r1 r2 => hrel rT r1 r2⟩⟩
    obtain ⟨k, e1, e2⟩ := h T kV doc pm an cdv ct us its ws l1 rT.length.symm l2
    refine BindsTo.of_looks fun M => ?_
    rw [e1]
    exact looks_items X lT oT (.of_pure e2)
end
end Y
/-! Y9: rows as data; what the helpers that draw rows promise. -/
namespace Y
open PySem L2
/-! ### rows -/
def fitsB (k : Nat) (x : Dt) : Bool := if k = 114 then isRegD x else if k = 110 then isNameD x else if k = 119 then isNum x 0 65535 else if k = 100 then isNum x 0 15 else isNum x 1 120
def formB : List Nat → List Dt → Bool
  | [], [] => true
  | k :: ks, x :: xs => fitsB k x && formB ks xs
  | _, _ => false
def codeForms : List (Str × Str) := [("put", "rw"), ("name", "rn"), ("add", "rr"), ("take", "rr"), ("load", "rrd"), ("store", "rrd"), ("jump", "n"), ("ifzero", "rn"), ("call", "n"), ("callby", "r"), ("back", ""), ("out", "r"), ("halt", ""), ("room", "k")]
def dataForms : List (Str × Str) := [("word", "w"), ("address", "n"), ("room", "k")]
def rowBy (fs : List (Str × Str)) (d : Dt) : Bool := match d with
  | .tup (.str w :: rest) => (match fs.lookup w with
    | some f => formB f.cps.toList rest
    | none => false)
  | _ => false
abbrev codeRow (d : Dt) : Bool := rowBy codeForms d
abbrev dataRow (d : Dt) : Bool := rowBy dataForms d
theorem rowBy_of {fs : List (Str × Str)} {w : Str} {rest : List Dt} {ks : List Nat} (h0 : (fs.lookup w).map (fun f => f.cps.toList) = some ks) (hf : formB ks rest = true) : rowBy fs (.tup (.str w :: rest)) = true := by
  obtain ⟨f, h, hk⟩ := Option.map_eq_some_iff.mp h0
  show (match fs.lookup w with | some f => formB f.cps.toList rest | none => false) = true
  rw [h]
  show formB f.cps.toList rest = true
  rw [hk]; exact hf
theorem rowBy_inv {fs : List (Str × Str)} {d : Dt} (h : rowBy fs d = true) : ∃ w f rest, d = .tup (.str w :: rest) ∧ fs.lookup w = some f ∧ formB f.cps.toList rest = true := by
  unfold rowBy at h
  split at h
  · rename_i w rest
    cases e : fs.lookup w with
    | none => rw [e] at h; cases h
    | some f => rw [e] at h; exact ⟨w, f, rest, rfl, e, h⟩
  · cases h
/-- what the sizes of rows ask -/
def RowW (d : Dt) : Prop := ∃ w rest, d = .tup (.str w :: rest) ∧ (w = "room" → ∃ k : Int, rest = [.int k])
theorem formB_k {rest : List Dt} (h : formB [107] rest = true) : ∃ k : Int, rest = [.int k] ∧ 1 ≤ k ∧ k ≤ 120 := by
  cases rest with
  | nil => cases h
  | cons x xs =>
    cases xs with
    | cons y ys =>
      have h : (fitsB 107 x && false) = true := h
      rw [Bool.and_false] at h; cases h
    | nil =>
      have h : (fitsB 107 x && true) = true := h
      rw [Bool.and_true] at h
      have h : isNum x 1 120 = true := h
      cases x with
      | int i =>
        have h : (decide ((1 : Int) ≤ i) && decide (i ≤ 120)) = true := h
        rw [Bool.and_eq_true] at h
        exact ⟨i, rfl, of_decide_eq_true h.1, of_decide_eq_true h.2⟩
      | _ => cases h
theorem rowW_code {d : Dt} (h : codeRow d = true) : RowW d := by
  obtain ⟨w, f, rest, rfl, h1, h2⟩ := rowBy_inv h
  refine ⟨w, rest, rfl, fun e => ?_⟩
  subst e
  have e1 : codeForms.lookup ("room" : Str) = some ("k" : Str) := by decide +kernel
  rw [e1] at h1
  cases h1
  have e2 : ("k" : Str).cps.toList = [107] := by decide +kernel
  rw [e2] at h2
  obtain ⟨k, e, _⟩ := formB_k h2
  exact ⟨k, e⟩
theorem rowW_data {d : Dt} (h : dataRow d = true) : RowW d := by
  obtain ⟨w, f, rest, rfl, h1, h2⟩ := rowBy_inv h
  refine ⟨w, rest, rfl, fun e => ?_⟩
  subst e
  have e1 : dataForms.lookup ("room" : Str) = some ("k" : Str) := by decide +kernel
  rw [e1] at h1
  cases h1
  have e2 : ("k" : Str).cps.toList = [107] := by decide +kernel
  rw [e2] at h2
  obtain ⟨k, e, _⟩ := formB_k h2
  exact ⟨k, e⟩
theorem fit_r {x : Dt} (h : isRegD x = true) : fitsB 114 x = true := h
theorem fit_n {x : Dt} (h : isNameD x = true) : fitsB 110 x = true := h
theorem fit_w {i : Int} (h : 0 ≤ i ∧ i ≤ 65535) : fitsB 119 (.int i) = true := by
  show (decide (_ ≤ _) && decide (_ ≤ _)) = true
  rw [decide_eq_true h.1, decide_eq_true h.2]; rfl
theorem fit_d {i : Int} (h : 0 ≤ i ∧ i ≤ 15) : fitsB 100 (.int i) = true := by
  show (decide (_ ≤ _) && decide (_ ≤ _)) = true
  rw [decide_eq_true h.1, decide_eq_true h.2]; rfl
theorem fit_k {i : Int} (h : 1 ≤ i ∧ i ≤ 120) : fitsB 107 (.int i) = true := by
  show (decide (_ ≤ _) && decide (_ ≤ _)) = true
  rw [decide_eq_true h.1, decide_eq_true h.2]; rfl
theorem form0 : formB [] [] = true := rfl
theorem form1 {a : Nat} {x : Dt} (h : fitsB a x = true) : formB [a] [x] = true := by
  show (fitsB a x && true) = true
  rw [h]; rfl
theorem form2 {a b : Nat} {x y : Dt} (h : fitsB a x = true) (h2 : fitsB b y = true) : formB [a, b] [x, y] = true := by
  show (fitsB a x && (fitsB b y && true)) = true
  rw [h, h2]; rfl
theorem form3 {a b c : Nat} {x y z : Dt} (h : fitsB a x = true) (h2 : fitsB b y = true) (h3 : fitsB c z = true) : formB [a, b, c] [x, y, z] = true := by
  show (fitsB a x && (fitsB b y && (fitsB c z && true))) = true
  rw [h, h2, h3]; rfl
/-! ### drawn names -/
def titlesPre (ds : List Dt) : Prop := ∃ m : Int, ds = [.int m] ∧ 0 ≤ m ∧ m ≤ 26
def titlesPost (ds : List Dt) (d : Dt) : Prop := ∃ (m : Int) (ss : List Str), ds = [.int m] ∧ d = .lst (ss.map Dt.str) ∧ (ss.length : Int) = m ∧ (∀ s ∈ ss, isNameD (.str s) = true) ∧ ss.Nodup
def NamesD (d : Dt) : Prop := ∃ ss : List Str, d = .lst (ss.map Dt.str) ∧ 0 < ss.length ∧ ss.length ≤ 1000 ∧ ∀ s ∈ ss, isNameD (.str s) = true
theorem titles_k {m : Int} {R : Dt → Prop} (hm : 0 ≤ m ∧ m ≤ 26) (h : ∀ ss : List Str, (ss.length : Int) = m → (∀ s ∈ ss, isNameD (.str s) = true) → ss.Nodup → R (.lst (ss.map Dt.str))) : titlesPre [.int m] ∧ ∀ d, titlesPost [.int m] d → R d :=
  ⟨⟨m, rfl, hm⟩, fun d ⟨m', ss, e, e2, h1, h2, h3⟩ => by cases e; subst e2; exact h ss h1 h2 h3⟩
def nilPre (ds : List Dt) : Prop := ds = []
def numberPost (_ : List Dt) (d : Dt) : Prop := ∃ i : Int, d = .int i ∧ 0 ≤ i ∧ i ≤ 65535
def rPost (_ : List Dt) (d : Dt) : Prop := isRegD d = true
theorem number_k {R : Dt → Prop} (h : ∀ i : Int, 0 ≤ i → i ≤ 65535 → R (.int i)) : nilPre [] ∧ ∀ d, numberPost [] d → R d := ⟨rfl, fun d ⟨i, e, h1, h2⟩ => by subst e; exact h i h1 h2⟩
theorem r_k {R : Dt → Prop} (h : ∀ d, isRegD d = true → R d) : nilPre [] ∧ ∀ d, rPost [] d → R d := ⟨rfl, fun d e => h d e⟩
def namesPre (ds : List Dt) : Prop := ∃ t, ds = [t] ∧ NamesD t
def codeRowPost (_ : List Dt) (d : Dt) : Prop := codeRow d = true
def dataRowPost (_ : List Dt) (d : Dt) : Prop := dataRow d = true
theorem code_k {t : Dt} {R : Dt → Prop} (ht : NamesD t) (h : ∀ d, codeRow d = true → R d) : namesPre [t] ∧ ∀ d, codeRowPost [t] d → R d := ⟨⟨t, rfl, ht⟩, fun d e => h d e⟩
theorem data_k {t : Dt} {R : Dt → Prop} (ht : NamesD t) (h : ∀ d, dataRow d = true → R d) : namesPre [t] ∧ ∀ d, dataRowPost [t] d → R d := ⟨⟨t, rfl, ht⟩, fun d e => h d e⟩
/-- one of the names -/
theorem of_names {t : Dt} {R : Dt → Prop} (ht : NamesD t) (h : ∀ d, isNameD d = true → R d) : ofPre [t] ∧ ∀ d, ofPost [t] d → R d := by
  obtain ⟨ss, rfl, h0, h1, h2⟩ := ht
  refine of_k ⟨by simpa using h0, by simp; omega⟩ fun d hd => ?_
  obtain ⟨s, hs, rfl⟩ := List.mem_map.mp hd
  exact h _ (h2 s hs)
/-- one of some written things -/
theorem of_all {xs : List Dt} {p : Dt → Bool} {R : Dt → Prop} (h0 : 0 < xs.length ∧ xs.length ≤ 100000) (hp : xs.all p = true) (h : ∀ d, p d = true → R d) : ofPre [.lst xs] ∧ ∀ d, ofPost [.lst xs] d → R d :=
  of_k h0 fun d hd => h d (all_mem hp hd)
/-- a text cut in two with a sign between is a name -/
theorem isName_mk {z : Str} (h1 : 1 ≤ z.cps.size) (h2 : z.cps.size ≤ 6) (h : ∀ c ∈ z.cps.toList, c ∈ letters) : isNameD (.str z) = true := by
  show (decide ((1 : Int) ≤ (z.cps.size : Int)) && (decide ((z.cps.size : Int) ≤ 6) && z.cps.toList.all fun c => decide (c ∈ letters))) = true
  rw [decide_eq_true (by omega), decide_eq_true (by omega), Bool.true_and, Bool.true_and, List.all_eq_true]
  intro c hc
  exact decide_eq_true (h c hc)
theorem cut_app (z : Str) (n : Nat) (h : n ≤ z.cps.size) : (cutS z none (some (n : Int))).cps.toList = z.cps.toList.take n ∧ (cutS z (some (n : Int)) none).cps.toList = z.cps.toList.drop n := by
  have e0 : z.length = z.cps.size := rfl
  have e1 : HT.sIx z.length z.length (some (n : Int)) = n := by
    show (if (n : Int) < 0 then ((n : Int) + (z.length : Int)).toNat else min (n : Int).toNat z.length) = n
    rw [if_neg (by omega)]; omega
  have e2 : HT.sIx z.length 0 (some (n : Int)) = n := by
    show (if (n : Int) < 0 then ((n : Int) + (z.length : Int)).toNat else min (n : Int).toNat z.length) = n
    rw [if_neg (by omega)]; omega
  have e3 : HT.sIx z.length 0 none = 0 := rfl
  have e4 : HT.sIx z.length z.length none = z.length := rfl
  unfold cutS
  rw [e1, e2, e3, e4]
  constructor
  · simp
  · simp only []
    rw [List.take_of_length_le]
    rw [List.length_drop, Array.length_toList, e0]
    exact Nat.le_refl _
theorem app_toList (x y : Str) : (x ++ y).cps.toList = x.cps.toList ++ y.cps.toList := TL.tl_append x y
theorem perm_erase {α : Type} : ∀ {l : List α} {j : Nat} {c : α}, l[j]? = some c → l.Perm (c :: l.eraseIdx j)
  | [], j, c, h => by simp at h
  | a :: l, 0, c, h => by
    simp at h
    subst h
    exact List.Perm.refl _
  | a :: l, j + 1, c, h => by
    have ih := perm_erase (l := l) (j := j) (c := c) (by simpa using h)
    rw [List.eraseIdx_cons_succ]
    exact (List.Perm.cons a ih).trans (List.Perm.swap c a _)
theorem atI_toNat {α : Type} {xs : List α} {i : Int} {x : α} (h0 : 0 ≤ i) (h : xs[i.toNat]? = some x) : atI xs i = some x := by
  have hl := (List.getElem?_eq_some_iff.mp h).1
  unfold atI ixN
  rw [if_pos h0, if_pos (by omega)]
  exact h
theorem eo_if {B : Bs} {es : List Sl} {t : TT} {ta tb : TE} {P : List Dt → Prop} (h : EvT B t es fun b => (b = true → EvO B ta es P) ∧ (b = false → EvO B tb es P)) : EvO B (tIf t ta tb) es P := fun σ F H S Q q => h σ F H S _ fun b F1 H1 g1 p1 => by
  have S1 := S.go g1
  cases b with
  | true =>
    show ta σ H1 Q
    exact p1.1 rfl σ F1 H1 S1 Q fun a vs xs F2 H2 g2 h0 h1 h2 r p => q a vs xs F2 H2 (g1.trans g2) (g1.new (S1.newB h0) h0) h1 h2 r p
  | false =>
    show tb σ H1 Q
    exact p1.2 rfl σ F1 H1 S1 Q fun a vs xs F2 H2 g2 h0 h1 h2 r p => q a vs xs F2 H2 (g1.trans g2) (g1.new (S1.newB h0) h0) h1 h2 r p
theorem sm_par3 {B : Bs} {es : List Sl} {p : Po} {i j l : Nat} {ta : TA} (h : EvA B ta es fun ds => ∃ x y z, ds = [x, y, z] ∧ p.nx (((es.set i (.d x)).set j (.d y)).set l (.d z))) : Sm B (tPar3 i j l ta) es p := fun σ F H D S n _ _ _ _ => h σ F H S _ fun vs ds F1 H1 g1 r1 ⟨x, y, z, e, p1⟩ => by
  subst e
  cases r1 with
  | cons a r =>
    obtain ⟨v, w, rfl, b, c⟩ := rp2 r
    exact ⟨_, v, w, rfl, n _ _ F1 H1 ((((S.go g1).setD a).setD b).setD c) g1.s1 p1⟩
end Y
namespace Law
open PySem L2 Y
def top (i : Nat) : Stmt := PySem.Challenge.pw_leastimage_k13_sizes_and_fields.main.body.getD i (.Pass ⟨0, 0, 0, 0⟩)
abbrev s_row_size : Stmt := top 3
theorem sc_row_size : FnScope ["row", "long"] ["row", "long"] (defScope s_row_size) := ⟨rfl, rfl, rfl, by decide +kernel, rfl, by decide +kernel, by decide +kernel⟩
abbrev s_row_fields : Stmt := top 4
theorem sc_row_fields : FnScope ["row", "long", "first"] ["row", "long"] (defScope s_row_fields) := ⟨rfl, rfl, rfl, by decide +kernel, rfl, by decide +kernel, by decide +kernel⟩
abbrev s__law_bag : Stmt := top 6
theorem sc__law_bag : FnScope ["_law_script", "_law_mixed", "_law_piled"] ["_law_script"] (defScope s__law_bag) := ⟨rfl, rfl, rfl, by decide +kernel, rfl, by decide +kernel, by decide +kernel⟩
abbrev s__law_same : Stmt := top 9
theorem sc__law_same : FnScope ["_law_found", "_law_due", "_law_a", "_law_b"] ["_law_found", "_law_due"] (defScope s__law_same) := ⟨rfl, rfl, rfl, by decide +kernel, rfl, by decide +kernel, by decide +kernel⟩
abbrev s__law_draw : Stmt := top 7
theorem sc__law_draw : FnScope ["_law_bag_here", "_law_sides", "_law_piled", "_law_digit", "_law_seed"] ["_law_bag_here", "_law_sides"] (defScope s__law_draw) := ⟨rfl, rfl, rfl, by decide +kernel, rfl, by decide +kernel, by decide +kernel⟩
abbrev s__law_of : Stmt := top 8
theorem sc__law_of : FnScope ["_law_bag_here", "_law_things"] ["_law_bag_here", "_law_things"] (defScope s__law_of) := ⟨rfl, rfl, rfl, by decide +kernel, rfl, by decide +kernel, by decide +kernel⟩
abbrev s__law_titles : Stmt := top 10
theorem sc__law_titles : FnScope ["_law_bag_here", "_law_many", "_law_left", "_law_found", "_law_stem", "_law_k", "_law_spot"] ["_law_bag_here", "_law_many"] (defScope s__law_titles) := ⟨rfl, rfl, rfl, by decide +kernel, rfl, by decide +kernel, by decide +kernel⟩
abbrev s__law_size : Stmt := top 15
theorem sc__law_size : FnScope ["_law_one", "_law_far", "_law_table"] ["_law_one", "_law_far"] (defScope s__law_size) := ⟨rfl, rfl, rfl, by decide +kernel, rfl, by decide +kernel, by decide +kernel⟩
abbrev s__law_fields : Stmt := top 16
theorem sc__law_fields : FnScope ["_law_one", "_law_far"] ["_law_one", "_law_far"] (defScope s__law_fields) := ⟨rfl, rfl, rfl, by decide +kernel, rfl, by decide +kernel, by decide +kernel⟩
abbrev s__law_number : Stmt := top 11
theorem sc__law_number : FnScope ["_law_bag_here"] ["_law_bag_here"] (defScope s__law_number) := ⟨rfl, rfl, rfl, by decide +kernel, rfl, by decide +kernel, by decide +kernel⟩
abbrev s__law_r : Stmt := top 12
theorem sc__law_r : FnScope ["_law_bag_here"] ["_law_bag_here"] (defScope s__law_r) := ⟨rfl, rfl, rfl, by decide +kernel, rfl, by decide +kernel, by decide +kernel⟩
abbrev s__law_code_row : Stmt := top 13
theorem sc__law_code_row : FnScope ["_law_bag_here", "_law_titles_here", "_law_way"] ["_law_bag_here", "_law_titles_here"] (defScope s__law_code_row) := ⟨rfl, rfl, rfl, by decide +kernel, rfl, by decide +kernel, by decide +kernel⟩
abbrev s__law_data_row : Stmt := top 14
theorem sc__law_data_row : FnScope ["_law_bag_here", "_law_titles_here", "_law_way"] ["_law_bag_here", "_law_titles_here"] (defScope s__law_data_row) := ⟨rfl, rfl, rfl, by decide +kernel, rfl, by decide +kernel, by decide +kernel⟩
abbrev s__law_each : Stmt := top 17
theorem sc__law_each : FnScope ["_law_bag_here", "_law_titles_here", "_law_a", "_law_b", "_law_own", "_law_found"] ["_law_bag_here", "_law_titles_here"] (defScope s__law_each) := ⟨rfl, rfl, rfl, by decide +kernel, rfl, by decide +kernel, by decide +kernel⟩
abbrev s_law : Stmt := top 18
theorem sc_law : FnScope ["_law_script", "_law_bag_here", "_law_titles_here", "_law_one", "_law_far", "_law_due", "_law_told", "_law_found"] ["_law_script"] (defScope s_law) := ⟨rfl, rfl, rfl, by decide +kernel, rfl, by decide +kernel, by decide +kernel⟩
local macro_rules | `(tactic| walk_at "yv") => `(tactic| ((with_reducible show Ev _ (tVar _) _ _); refine ev_var rfl ?_))
local macro_rules | `(tactic| walk_at "ys") => `(tactic| with_reducible first
  | refine sm_seq ?_ | refine sm_ret ?_ | refine sm_if ?_ | refine sm_set ?_ | refine sm_next ?_ | refine sm_par ?_ | refine sm_drop ?_ | refine sm_brk ?_ | refine sm_cont ?_)
local macro_rules | `(tactic| walk_at "ye") => `(tactic| with_reducible first
  | refine ev_op ?_ | refine ev_and ?_ | refine ev_or ?_ | refine ev_not ?_ | refine ev_if ?_ | refine ev_chain ?_ | refine ev_neg ?_ | refine ev_isInt ?_ | refine ev_isBool ?_ | refine ev_isStr ?_ | refine ev_isList ?_ | refine ev_isTuple ?_ | refine ev_isLT ?_
  | refine ev_int ?_ | refine ev_str ?_ | refine ev_bl ?_ | refine ev_non ?_ | refine ev_call ?_ | refine ev_cb ?_ | refine ev_lst ?_ | refine ev_tup ?_ | refine ev_join ?_
  | refine ea_nil ?_ | refine ea_cons ?_
  | refine et_B ?_ | refine et_test ?_ | refine et_not ?_ | refine et_and ?_ | refine et_or ?_ | refine et_yes ?_
  | refine o_plusI ?_ | refine o_i0 ?_ | refine o_b0 ?_ | refine o_isN ?_ | refine o_notN ?_
  | refine bl_ex ?_ | refine int_ex ?_ | refine str_ex ?_ | refine lst_ex ?_ | refine tup_ex ?_)
local macro_rules | `(tactic| walk_at "yo") => `(tactic| first
  | ((with_reducible show Ev _ (tOp (rIx _) (tVar _) _) _ _); refine ev_ixOwn rfl ?_)
  | ((with_reducible show Ev _ (tCB _ (tCons (tVar _) tNil)) _ _); refine ev_lenOwn rfl ?_)
  | ((with_reducible show Sm _ (tAsg _ (gSub (tVar _) _ _)) _ _); refine sm_setItem rfl ?_)
  | ((with_reducible show Ev _ (tCall (spB _ _ _) _ _ _) _ _); refine ev_callB rfl rfl ?_))
local macro_rules | `(tactic| walk_at "yc") => `(tactic| first
  | ((with_reducible show CMul _ _); first | exact Or.inr ⟨by decide, by decide⟩ | exact Or.inl ⟨by decide, by decide⟩ | exact Or.inr ⟨by omega, by omega⟩ | exact Or.inl ⟨by omega, by omega⟩)
  | ((with_reducible show CDiv _ _); exact ⟨by first | decide | omega, by first | decide | omega⟩)
  | ((with_reducible show CPow _ _); exact ⟨by decide, by decide, by decide⟩)
  | ((show (0 : Int) < _); first | decide | omega))
local macro_rules | `(tactic| walk_at "yd") => `(tactic| first
  | ((with_reducible show plainD _ = true ∧ _); refine ⟨by first | rfl | assumption, ?_⟩)
  | ((with_reducible show (_ = true → _) ∧ (_ = false → _)); first | refine way_t rfl ?_ | refine way_f rfl ?_)
  | ((with_reducible show Cal _ _ _ _ _); first | (with_reducible refine c_int ?_) | (with_reducible refine c_abs ?_) | (refine c_len rfl ?_) | (refine c_len (if_pos (by assumption)) ?_))
  | ((with_reducible show Op2 _ (rEqA _) _ _ _ _); refine o_eqA rfl ?_)
  | ((with_reducible show Op2 _ (rNeA _) _ _ _ _); refine o_neA rfl ?_)
  | ((with_reducible show Op2 _ (rI _ _) _ _ _ _); refine o_i (by walk_at "yc") ?_)
  | ((with_reducible show Op2 _ (rIx _) _ (Dt.tup _) _ _); refine o_ixAT (atI_toNat (by decide) rfl) ?_)
  | ((with_reducible show Op2 _ (rIx _) _ (Dt.lst _) _ _); refine o_ixAL (atI_toNat (by decide) rfl) ?_)
  | ((with_reducible show ∃ x, atI _ _ = some x ∧ _); refine ⟨_, rfl, ?_⟩)
  | ((with_reducible show ∃ x, ixN _ _ = some x ∧ _); refine ⟨_, rfl, ?_⟩)
  | ((with_reducible show List.length _ ≤ 100000 ∧ _); refine ⟨by (try simp only [List.length_cons, List.length_nil]); first | decide | omega, ?_⟩))
local macro_rules | `(tactic| walk_at "y") => `(tactic| first | walk_at "yo" | walk_at "ye" | walk_at "yv" | walk_at "ys" | walk_at "yd")
local macro_rules | `(tactic| walk_at "yx") => `(tactic| first | walk_at "yo" | walk_at "ye" | walk_at "yv" | walk_at "yd")
def gk_row_size_0_long_row {α : Type} : List α → List α → List α → List α
  | [f0], [], [w0, w1] => [w1, w0]
  | _, _, _ => []
def gk_row_fields_0_row_long {α : Type} : List α → List α → List α → List α
  | [f0], [], [w0, w1] => [w0, w1]
  | _, _, _ => []
structure Tx (K : PySem.W.Frag) (mg : Str → Option Value) (w : World) where
  a_row_size : Addr
  d_row_size : FuncData
  F_row_size : FunD K "row_size" "row_size" (defArgs s_row_size) (defBody s_row_size) (defScope s_row_size) [((.bl false) : V)] [] a_row_size d_row_size
  m_row_size : mg "row_size" = some (.ref a_row_size)
  k_row_size : PySem.W.keepIn K (.ref a_row_size) = true
  a_row_fields : Addr
  d_row_fields : FuncData
  F_row_fields : FunD K "row_fields" "row_fields" (defArgs s_row_fields) (defBody s_row_fields) (defScope s_row_fields) [((.bl false) : V)] [] a_row_fields d_row_fields
  m_row_fields : mg "row_fields" = some (.ref a_row_fields)
  k_row_fields : PySem.W.keepIn K (.ref a_row_fields) = true
  a__law_bag : Addr
  d__law_bag : FuncData
  F__law_bag : Fun K "_law_bag" "_law_bag" s__law_bag a__law_bag d__law_bag
  m__law_bag : mg "_law_bag" = some (.ref a__law_bag)
  k__law_bag : PySem.W.keepIn K (.ref a__law_bag) = true
  b__law_bag : Binds K d__law_bag ["_law_script"] []
  a__law_same : Addr
  d__law_same : FuncData
  F__law_same : Fun K "_law_same" "_law_same" s__law_same a__law_same d__law_same
  m__law_same : mg "_law_same" = some (.ref a__law_same)
  k__law_same : PySem.W.keepIn K (.ref a__law_same) = true
  b__law_same : Binds K d__law_same ["_law_found", "_law_due"] []
  a__law_draw : Addr
  d__law_draw : FuncData
  F__law_draw : Fun K "_law_draw" "_law_draw" s__law_draw a__law_draw d__law_draw
  m__law_draw : mg "_law_draw" = some (.ref a__law_draw)
  k__law_draw : PySem.W.keepIn K (.ref a__law_draw) = true
  b__law_draw : Binds K d__law_draw ["_law_bag_here", "_law_sides"] []
  a__law_of : Addr
  d__law_of : FuncData
  F__law_of : Fun K "_law_of" "_law_of" s__law_of a__law_of d__law_of
  m__law_of : mg "_law_of" = some (.ref a__law_of)
  k__law_of : PySem.W.keepIn K (.ref a__law_of) = true
  b__law_of : Binds K d__law_of ["_law_bag_here", "_law_things"] []
  a__law_titles : Addr
  d__law_titles : FuncData
  F__law_titles : Fun K "_law_titles" "_law_titles" s__law_titles a__law_titles d__law_titles
  m__law_titles : mg "_law_titles" = some (.ref a__law_titles)
  k__law_titles : PySem.W.keepIn K (.ref a__law_titles) = true
  b__law_titles : Binds K d__law_titles ["_law_bag_here", "_law_many"] []
  a__law_size : Addr
  d__law_size : FuncData
  F__law_size : Fun K "_law_size" "_law_size" s__law_size a__law_size d__law_size
  m__law_size : mg "_law_size" = some (.ref a__law_size)
  k__law_size : PySem.W.keepIn K (.ref a__law_size) = true
  b__law_size : Binds K d__law_size ["_law_one", "_law_far"] []
  a__law_fields : Addr
  d__law_fields : FuncData
  F__law_fields : Fun K "_law_fields" "_law_fields" s__law_fields a__law_fields d__law_fields
  m__law_fields : mg "_law_fields" = some (.ref a__law_fields)
  k__law_fields : PySem.W.keepIn K (.ref a__law_fields) = true
  b__law_fields : Binds K d__law_fields ["_law_one", "_law_far"] []
  a__law_number : Addr
  d__law_number : FuncData
  F__law_number : Fun K "_law_number" "_law_number" s__law_number a__law_number d__law_number
  m__law_number : mg "_law_number" = some (.ref a__law_number)
  k__law_number : PySem.W.keepIn K (.ref a__law_number) = true
  b__law_number : Binds K d__law_number ["_law_bag_here"] []
  a__law_r : Addr
  d__law_r : FuncData
  F__law_r : Fun K "_law_r" "_law_r" s__law_r a__law_r d__law_r
  m__law_r : mg "_law_r" = some (.ref a__law_r)
  k__law_r : PySem.W.keepIn K (.ref a__law_r) = true
  b__law_r : Binds K d__law_r ["_law_bag_here"] []
  a__law_code_row : Addr
  d__law_code_row : FuncData
  F__law_code_row : Fun K "_law_code_row" "_law_code_row" s__law_code_row a__law_code_row d__law_code_row
  m__law_code_row : mg "_law_code_row" = some (.ref a__law_code_row)
  k__law_code_row : PySem.W.keepIn K (.ref a__law_code_row) = true
  b__law_code_row : Binds K d__law_code_row ["_law_bag_here", "_law_titles_here"] []
  a__law_data_row : Addr
  d__law_data_row : FuncData
  F__law_data_row : Fun K "_law_data_row" "_law_data_row" s__law_data_row a__law_data_row d__law_data_row
  m__law_data_row : mg "_law_data_row" = some (.ref a__law_data_row)
  k__law_data_row : PySem.W.keepIn K (.ref a__law_data_row) = true
  b__law_data_row : Binds K d__law_data_row ["_law_bag_here", "_law_titles_here"] []
  a__law_each : Addr
  d__law_each : FuncData
  F__law_each : Fun K "_law_each" "_law_each" s__law_each a__law_each d__law_each
  m__law_each : mg "_law_each" = some (.ref a__law_each)
  k__law_each : PySem.W.keepIn K (.ref a__law_each) = true
  b__law_each : Binds K d__law_each ["_law_bag_here", "_law_titles_here"] []
  a_law : Addr
  d_law : FuncData
  F_law : Fun K "law" "law" s_law a_law d_law
  m_law : mg "law" = some (.ref a_law)
  k_law : PySem.W.keepIn K (.ref a_law) = true
  b_law : Binds K d_law ["_law_script"] []
  e_row_fields_2 : List Value
  v_row_fields_2 : Vals [] e_row_fields_2
  b_row_fields_2 : Binds K d_row_fields ["row", "long"] e_row_fields_2
  e_row_size_2 : List Value
  v_row_size_2 : Vals [] e_row_size_2
  b_row_size_2 : Binds K d_row_size ["row", "long"] e_row_size_2
  e_row_size_1 : List Value
  v_row_size_1 : Vals [(.bl false)] e_row_size_1
  b_row_size_1 : Binds K d_row_size ["row", "long"] e_row_size_1
  e_row_fields_1 : List Value
  v_row_fields_1 : Vals [(.bl false)] e_row_fields_1
  b_row_fields_1 : Binds K d_row_fields ["row", "long"] e_row_fields_1
  fu_row_size_0_long_row : List Value
  kb_row_size_0_long_row : KBn K d_row_size ["row", "long"] 0 ["long", "row"] (fun us ws => gk_row_size_0_long_row fu_row_size_0_long_row us ws) (fun vs zs => gk_row_size_0_long_row [(.bl false)] vs zs)
  fu_row_fields_0_row_long : List Value
  kb_row_fields_0_row_long : KBn K d_row_fields ["row", "long"] 0 ["row", "long"] (fun us ws => gk_row_fields_0_row_long fu_row_fields_0_row_long us ws) (fun vs zs => gk_row_fields_0_row_long [(.bl false)] vs zs)
  a_LONG_SIZES : Addr
  m_LONG_SIZES : mg "LONG_SIZES" = some (.ref a_LONG_SIZES)
  kd_LONG_SIZES : KDic K w a_LONG_SIZES [("name", (.int 2)), ("jump", (.int 3)), ("ifzero", (.int 5)), ("call", (.int 3))]
  u_STUB : Value
  m_STUB : mg "STUB" = some u_STUB
  r_STUB : RelV (.int 4) u_STUB
  n_list : mg "list" = none
  n_int : mg "int" = none
  n_isinstance : mg "isinstance" = none
  n_tuple : mg "tuple" = none
  n_all : mg "all" = none
  n_bool : mg "bool" = none
  n_str : mg "str" = none
  n_len : mg "len" = none
  n_zip : mg "zip" = none
  n_abs : mg "abs" = none
  n_range : mg "range" = none
section
variable {P : Program} {w : World} {K : PySem.W.Frag} {mg : Str → Option Value} {base : Heap}

theorem ok__law_bag (T : Tx K mg w) : FnOk P w K mg base CX0 1 T.a__law_bag T.d__law_bag ["_law_script"] (spBag K) := by
  refine fn_newBag T.F__law_bag sc__law_bag (fun cdv A outer s H E hr => ⟨_, (pss_cons (ps_set (i := 1) sc__law_bag.nd rfl (Or.inl rfl) pe_int)
      (pss_cons (ps_for PassesOwn.never rfl (pi_listA (K := K) (pe_slice (sl_any (K := K)) (pv 0) po_none (po_some pe_int))) (pg_name (i := 2) sc__law_bag.nd rfl (Or.inl rfl)) (pss_one (ps_set (i := 1) sc__law_bag.nd rfl (Or.inl rfl) (pe_op op_mod (pe_callTy call_int1 (by rfl) T.n_int PyProof.Rows.boot_int (pa_cons (pe_op (op_plus (K := K)) (pe_op (op_plus (K := K)) (pe_op op_mul (pv 1) pe_int) (pe_op op_mul (pe_op op_mod (pe_callTy call_int1 (by rfl) T.n_int PyProof.Rows.boot_int (pa_cons (pv 2) pa_nil)) pe_int) pe_int)) pe_int) pa_nil)) pe_int))))
      (pss_one (ps_ret (pe_lst (pa_cons (pe_callTy (call_listB (K := K) rfl) (by rfl) T.n_list PyProof.Rows.boot_list (pa_cons (pe_slice (sl_any (K := K)) (pv 0) po_none (po_some pe_int)) pa_nil)) (pa_cons pe_int (pa_cons pe_int (pa_cons (pv 1) (pa_cons pe_int pa_nil)))))))))), fun H0 a ns hS => ?_⟩)
  dsimp only [cxOf, env0, env1, List.map, List.length, List.replicate, List.cons_append, List.nil_append, List.append, Nat.reduceAdd, Nat.reduceSub, Nat.zero_add]
  refine sm_seq (sm_set (ev_int ?_))
  refine sm_seq (sm_for (ei_list (EvO.ev (eo_slRaw rfl hS (fun z => nomatch z) (ep_none (ep_some (ev_int (int_ex (lst_ex ⟨fun _ e => ∃ m s, e = [.r (.ref a), .d (.int m), s] ∧ 0 ≤ m ∧ m < 2147483648, ⟨12026, .no, rfl, by decide, by decide⟩, ?_, ?_⟩)))))))))
  · rintro i x es' hx ⟨m, s, rfl, h0, h1⟩
    obtain ⟨n, rfl⟩ := of_mem_ints hx
    refine tg_name ?_
    repeat walk_at "y"
    exact ⟨_, _, rfl, by omega, by omega⟩
  · rintro es' ⟨m, s, rfl, h0, h1⟩
    refine sm_retO (eo_lst (ea_cons (EvO.ev (eo_listL (ea_cons (EvO.ev (eo_slRaw rfl hS (fun z => nomatch z) (ep_none (ep_some (ev_int (int_ex (ea_nil ⟨_, Or.inl rfl, ?_⟩))))))))))))
    repeat walk_at "y"
    exact ⟨_, 0, 0, m, 0, rfl, by decide, by decide, h0, h1⟩

theorem ok__law_draw (T : Tx K mg w) : FnOk P w K mg base CX0 1 T.a__law_draw T.d__law_draw ["_law_bag_here", "_law_sides"] (spB K drawPre drawPost) := by
  refine fn_draw T.F__law_draw sc__law_draw (fun ds h => ?_) (fun cdv A outer s H E hr => ⟨_, (pss_cons (ps_asg (pe_op (op_plus (K := K)) (pe_ix (ix_any (K := K)) (pv 0) pe_int (fun _ _ => rfl)) pe_int) (pg_sub (pv 0) pe_int set_list))
      (pss_cons (ps_if (PW.pt (pw_and (pt_cmpR (op_eqA (K := K) hr.units) (pe_ix (ix_any (K := K)) (pv 0) pe_int (fun _ _ => rfl)) pe_int (nomark _)) (pw_and1 (pt_cmpR op_lt (pe_ix (ix_any (K := K)) (pv 0) pe_int (fun _ _ => rfl)) (pe_callB (call_lenA (K := K)) (by rfl) T.n_len PySem.boot_len (pa_cons (pe_ix (ix_any (K := K)) (pv 0) pe_int (fun _ _ => rfl)) pa_nil)) (nomark _))))) (pss_cons (ps_set (i := 2) sc__law_draw.nd rfl (Or.inl rfl) (pe_callTy call_int1 (by rfl) T.n_int PyProof.Rows.boot_int (pa_cons (pe_ix (ix_any (K := K)) (pe_ix (ix_any (K := K)) (pv 0) pe_int (fun _ _ => rfl)) (pe_ix (ix_any (K := K)) (pv 0) pe_int (fun _ _ => rfl)) (fun _ _ => rfl)) pa_nil)))
      (pss_cons (ps_asg (pe_op (op_plus (K := K)) (pe_ix (ix_any (K := K)) (pv 0) pe_int (fun _ _ => rfl)) pe_int) (pg_sub (pv 0) pe_int set_list))
      (pss_one (ps_if (pt_cmpR op_ge (pe_callB call_abs (by rfl) T.n_abs PyProof.Rows.boot_abs (pa_cons (pv 2) pa_nil)) (pe_op op_pow pe_int pe_int) (nomark _)) (pss_one (ps_asg (pe_callB call_abs (by rfl) T.n_abs PyProof.Rows.boot_abs (pa_cons (pv 2) pa_nil)) (pg_sub (pv 0) pe_int set_list))) (pss_one (ps_asg (pe_op op_mod (pe_callTy call_int1 (by rfl) T.n_int PyProof.Rows.boot_int (pa_cons (pe_op (op_plus (K := K)) (pe_op (op_plus (K := K)) (pe_op op_mul (pe_ix (ix_any (K := K)) (pv 0) pe_int (fun _ _ => rfl)) pe_int) (pe_op op_mul (pe_op op_mod (pe_callTy call_int1 (by rfl) T.n_int PyProof.Rows.boot_int (pa_cons (pv 2) pa_nil)) pe_int) pe_int)) pe_int) pa_nil)) pe_int) (pg_sub (pv 0) pe_int set_list))))))) pss_nil)
      (pss_cons (ps_if (pt_cmpR op_gt (pe_ix (ix_any (K := K)) (pv 0) pe_int (fun _ _ => rfl)) pe_int (nomark _)) (pss_cons (ps_set (i := 3) sc__law_draw.nd rfl (Or.inl rfl) (pe_op op_mod (pe_callTy call_int1 (by rfl) T.n_int PyProof.Rows.boot_int (pa_cons (pe_ix (ix_any (K := K)) (pv 0) pe_int (fun _ _ => rfl)) pa_nil)) (pv 1)))
      (pss_cons (ps_asg (pe_op op_fdiv (pe_ix (ix_any (K := K)) (pv 0) pe_int (fun _ _ => rfl)) (pv 1)) (pg_sub (pv 0) pe_int set_list))
      (pss_one (ps_ret (pv 3))))) pss_nil)
      (pss_cons (ps_set (i := 4) sc__law_draw.nd rfl (Or.inl rfl) (pe_callTy call_int1 (by rfl) T.n_int PyProof.Rows.boot_int (pa_cons (pe_ix (ix_any (K := K)) (pv 0) pe_int (fun _ _ => rfl)) pa_nil)))
      (pss_cons (ps_asg (pe_op op_mod (pe_callTy call_int1 (by rfl) T.n_int PyProof.Rows.boot_int (pa_cons (pe_op (op_plus (K := K)) (pe_op (op_plus (K := K)) (pe_op (op_plus (K := K)) (pe_op op_mul (pe_op op_mul (pv 4) (pv 4)) pe_int) (pe_op op_mul (pv 4) pe_int)) (pe_op op_mul (pe_ix (ix_any (K := K)) (pv 0) pe_int (fun _ _ => rfl)) pe_int)) pe_int) pa_nil)) pe_int) (pg_sub (pv 0) pe_int set_list))
      (pss_one (ps_ret (pe_op op_mod (pe_callTy call_int1 (by rfl) T.n_int PyProof.Rows.boot_int (pa_cons (pe_op (op_plus (K := K)) (pe_op op_fdiv (pe_ix (ix_any (K := K)) (pv 0) pe_int (fun _ _ => rfl)) pe_int) (pe_op op_mul (pe_op op_mod (pe_callTy call_int1 (by rfl) T.n_int PyProof.Rows.boot_int (pa_cons (pe_ix (ix_any (K := K)) (pv 0) pe_int (fun _ _ => rfl)) pa_nil)) pe_int) pe_int)) pa_nil)) (pv 1))))))))), fun F0 H0 b xs ds hB h => ?_⟩)
  · obtain ⟨n, rfl, _⟩ := h; rfl
  · obtain ⟨n, rfl, hn, hn2⟩ := h
    obtain ⟨ns, i, r, m, k, rfl, hi, hr0, hm, hm2⟩ := hB
    dsimp only [cxOf, env0, env1, List.map, List.length, List.replicate, List.cons_append, List.nil_append, List.append, Nat.reduceAdd, Nat.reduceSub, Nat.zero_add]
    refine sm_seq ?_
    walk_at "y"
    repeat walk_at "yx"
    refine sm_cut (fun e => ∃ i r m k s, e = [.own b [.lst (ns.map Dt.int), .int i, .int r, .int m, .int k], .d (.int n), s, .no, .no] ∧ 0 ≤ i ∧ 0 ≤ r ∧ 0 ≤ m ∧ m < 2147483648) ?_ ?_
    · repeat walk_at "y"
      refine ways (fun h => ?_) (fun h => ?_)
      · repeat walk_at "y"
        refine ways (fun h => ?_) (fun h => ?_)
        · have h2 := of_decide_eq_true h
          have h3 : i < (ns.map Dt.int).length := h2
          obtain ⟨x, hx, hxm⟩ := atI_of hi h3
          obtain ⟨v, _, rfl⟩ := List.mem_map.mp hxm
          refine sm_seq (sm_set (ev_cb (ea_cons ?_)))
          refine ev_op ?_
          repeat walk_at "y"
          refine o_ixAL hx ?_
          repeat walk_at "y"
          refine ways (fun h => ?_) (fun h => ?_)
          · repeat walk_at "y"
            exact ⟨_, _, _, _, _, rfl, by omega, by split <;> omega, hm, hm2⟩
          · repeat walk_at "y"
            exact ⟨_, _, _, _, _, rfl, by omega, hr0, by omega, by omega⟩
        · repeat walk_at "y"
          exact ⟨_, _, _, _, _, rfl, hi, hr0, hm, hm2⟩
      · repeat walk_at "y"
        exact ⟨_, _, _, _, _, rfl, hi, hr0, hm, hm2⟩
    · rintro es' ⟨i, r, m, k, s, rfl, hi, hr0, hm, hm2⟩
      refine sm_seq (sm_if ?_)
      repeat walk_at "y"
      refine ways (fun h => ?_) (fun h => ?_)
      · repeat walk_at "y"
        exact ⟨⟨n, _, rfl, rfl, Int.emod_nonneg _ (by omega), Int.emod_lt_of_pos _ hn⟩, _, rfl, _, _, _, _, _, rfl, hi, Int.ediv_nonneg hr0 (by omega), hm, hm2⟩
      · repeat walk_at "y"
        refine ⟨⟨n, _, rfl, rfl, Int.emod_nonneg _ (by omega), Int.emod_lt_of_pos _ hn⟩, _, rfl, _, _, _, _, _, rfl, hi, hr0, ?_, ?_⟩
        · exact Int.emod_nonneg _ (by decide)
        · have := Int.emod_lt_of_pos (m * m * 19 + m * 47111 + k * 110323 + 60089) (show (0 : Int) < 2147483549 by decide)
          omega
end
end Law
set_option pp.deepTerms false
set_option pp.deepTerms.threshold 6
namespace Law
open PySem L2 Y
local macro_rules | `(tactic| walk_at "yv") => `(tactic| ((with_reducible show Ev _ (tVar _) _ _); refine ev_var rfl ?_))
local macro_rules | `(tactic| walk_at "ys") => `(tactic| with_reducible first
  | refine sm_seq ?_ | refine sm_ret ?_ | refine sm_if ?_ | refine sm_set ?_ | refine sm_next ?_ | refine sm_par ?_ | refine sm_drop ?_ | refine sm_brk ?_ | refine sm_cont ?_)
local macro_rules | `(tactic| walk_at "ye") => `(tactic| with_reducible first
  | refine ev_op ?_ | refine ev_and ?_ | refine ev_or ?_ | refine ev_not ?_ | refine ev_if ?_ | refine ev_chain ?_ | refine ev_neg ?_ | refine ev_isInt ?_ | refine ev_isBool ?_ | refine ev_isStr ?_ | refine ev_isList ?_ | refine ev_isTuple ?_ | refine ev_isLT ?_
  | refine ev_int ?_ | refine ev_str ?_ | refine ev_bl ?_ | refine ev_non ?_ | refine ev_call ?_ | refine ev_cb ?_ | refine ev_lst ?_ | refine ev_tup ?_ | refine ev_join ?_
  | refine ea_nil ?_ | refine ea_cons ?_
  | refine et_B ?_ | refine et_test ?_ | refine et_not ?_ | refine et_and ?_ | refine et_or ?_ | refine et_yes ?_
  | refine o_plusI ?_ | refine o_i0 ?_ | refine o_b0 ?_ | refine o_isN ?_ | refine o_notN ?_
  | refine bl_ex ?_ | refine int_ex ?_ | refine str_ex ?_ | refine lst_ex ?_ | refine tup_ex ?_)
local macro_rules | `(tactic| walk_at "yo") => `(tactic| first
  | ((with_reducible show Ev _ (tOp (rIx _) (tVar _) _) _ _); refine ev_ixOwn rfl ?_)
  | ((with_reducible show Ev _ (tCB _ (tCons (tVar _) tNil)) _ _); refine ev_lenOwn rfl ?_)
  | ((with_reducible show Sm _ (tAsg _ (gSub (tVar _) _ _)) _ _); refine sm_setItem rfl ?_)
  | ((with_reducible show Ev _ (tCall (spB _ _ _) _ _ _) _ _); refine ev_callB rfl rfl ?_))
local macro_rules | `(tactic| walk_at "yc") => `(tactic| first
  | ((with_reducible show CMul _ _); first | exact Or.inr ⟨by decide, by decide⟩ | exact Or.inl ⟨by decide, by decide⟩ | exact Or.inr ⟨by omega, by omega⟩ | exact Or.inl ⟨by omega, by omega⟩)
  | ((with_reducible show CDiv _ _); exact ⟨by first | decide | omega, by first | decide | omega⟩)
  | ((with_reducible show CPow _ _); exact ⟨by decide, by decide, by decide⟩)
  | ((show (0 : Int) < _); first | decide | omega))
local macro_rules | `(tactic| walk_at "yd") => `(tactic| first
  | ((with_reducible show plainD _ = true ∧ _); refine ⟨by first | rfl | assumption, ?_⟩)
  | ((with_reducible show (_ = true → _) ∧ (_ = false → _)); first | refine way_t rfl ?_ | refine way_f rfl ?_)
  | ((with_reducible show Cal _ _ _ _ _); first | (with_reducible refine c_int ?_) | (with_reducible refine c_abs ?_) | (refine c_len rfl ?_) | (refine c_len (if_pos (by assumption)) ?_))
  | ((with_reducible show Op2 _ (rEqA _) _ _ _ _); refine o_eqA rfl ?_)
  | ((with_reducible show Op2 _ (rNeA _) _ _ _ _); refine o_neA rfl ?_)
  | ((with_reducible show Op2 _ (rI _ _) _ _ _ _); refine o_i (by walk_at "yc") ?_)
  | ((with_reducible show Op2 _ (rIx _) _ (Dt.tup _) _ _); refine o_ixAT (atI_toNat (by decide) rfl) ?_)
  | ((with_reducible show Op2 _ (rIx _) _ (Dt.lst _) _ _); refine o_ixAL (atI_toNat (by decide) rfl) ?_)
  | ((with_reducible show ∃ x, atI _ _ = some x ∧ _); refine ⟨_, rfl, ?_⟩)
  | ((with_reducible show ∃ x, ixN _ _ = some x ∧ _); refine ⟨_, rfl, ?_⟩)
  | ((with_reducible show List.length _ ≤ 100000 ∧ _); refine ⟨by (try simp only [List.length_cons, List.length_nil]); first | decide | omega, ?_⟩))
local macro_rules | `(tactic| walk_at "y") => `(tactic| first | walk_at "yo" | walk_at "ye" | walk_at "yv" | walk_at "ys" | walk_at "yd")
local macro_rules | `(tactic| walk_at "yx") => `(tactic| first | walk_at "yo" | walk_at "ye" | walk_at "yv" | walk_at "yd")
section
variable {P : Program} {w : World} {K : PySem.W.Frag} {mg : Str → Option Value} {base : Heap}

theorem ok__law_of (T : Tx K mg w) : FnOk P w K mg base CX0 2 T.a__law_of T.d__law_of ["_law_bag_here", "_law_things"] (spB K ofPre ofPost) := by
  have G__law_draw := ok__law_draw (P := P) (w := w) (base := base) T
  refine fn_bag T.F__law_of sc__law_of (fun ds h => ?_) (fun cdv A outer s H E hr => ⟨_, (pss_one (ps_ret (pe_ix (ix_any (K := K)) (pv 1) (pe_call G__law_draw (hr.mono (by decide)) (by rfl) T.m__law_draw T.k__law_draw T.b__law_draw .nil pass0 (pa_cons (pv 0) (pa_cons (pe_callB (call_lenA (K := K)) (by rfl) T.n_len PySem.boot_len (pa_cons (pv 1) pa_nil)) pa_nil))) (fun _ _ => rfl)))), fun F0 H0 b ds h => ?_⟩)
  · obtain ⟨x, rfl, _⟩ := h; rfl
  · obtain ⟨x, rfl, h1, h2⟩ := h
    dsimp only [cxOf, env0, env1, List.map, List.length, List.replicate, List.cons_append, List.nil_append, List.append, Nat.reduceAdd, Nat.reduceSub, Nat.zero_add]
    refine sm_ret (ev_op ?_)
    cases x with
    | lst xs =>
      have h1 : 0 < xs.length := h1
      have h2 : xs.length ≤ 100000 := h2
      repeat walk_at "yx"
      refine ⟨⟨_, rfl, by omega, by omega⟩, ?_⟩
      rintro d ⟨n, i, e, rfl, k1, k2⟩
      cases e
      obtain ⟨y, hy, hm⟩ := atI_of k1 k2
      exact o_ixAL hy ⟨_, rfl, hm⟩
    | tup xs =>
      have h1 : 0 < xs.length := h1
      have h2 : xs.length ≤ 100000 := h2
      repeat walk_at "yx"
      refine ⟨⟨_, rfl, by omega, by omega⟩, ?_⟩
      rintro d ⟨n, i, e, rfl, k1, k2⟩
      cases e
      obtain ⟨y, hy, hm⟩ := atI_of k1 k2
      exact o_ixAT hy ⟨_, rfl, hm⟩
    | str z =>
      have h1 : 0 < (signsD z).length := h1
      have h2 : (signsD z).length ≤ 100000 := h2
      rw [signsD_len] at h1 h2
      have hl : z.length ≤ 100000 := h2
      have e0 : z.length = z.cps.size := rfl
      refine ev_var rfl ?_
      refine ev_callB rfl rfl ?_
      refine ea_cons (ev_cb (ea_cons (ev_var rfl (ea_nil (c_len (n := z.length) (if_pos hl) (ea_nil ?_))))))
      refine ⟨⟨_, rfl, by omega, by omega⟩, ?_⟩
      rintro d ⟨n, i, e, rfl, k1, k2⟩
      cases e
      obtain ⟨y, hy, hm⟩ := atI_ofN (xs := z.cps.toList) k1 (by rw [Array.length_toList]; exact k2)
      exact o_ixAS hl hy ⟨_, rfl, List.mem_map.mpr ⟨y, hm, rfl⟩⟩
    | _ => exact absurd (show 0 < 0 from h1) (Nat.lt_irrefl 0)

theorem ok__law_same (T : Tx K mg w) : ∀ n, FnOk P w K mg base CX0 n T.a__law_same T.d__law_same ["_law_found", "_law_due"] (spD K (samePre n) sameTrue)
  | 0 => fn_none fun ds h => by obtain ⟨x, _, _, h⟩ := h; omega
  | n + 1 => by
    have G__law_same := ok__law_same T n
    refine fn_data T.F__law_same sc__law_same (fun ds h => ?_) (fun cdv A outer s H E hr => ⟨_, (pss_cons (ps_if (PW.pt (pw_or (pt_cmpR op_isN (pv 1) pe_non (nomark _)) (pw_or1 (pt_cmpR op_isN (pv 0) pe_non (nomark _))))) (pss_one (ps_ret (pe_and (pe_cmpR op_isN (pv 1) pe_non (nomark _)) (pe_one (pe_cmpR op_isN (pv 0) pe_non (nomark _)))))) pss_nil)
      (pss_cons (ps_if (pt_val (pe_callB (call_isiTA (K := K)) (by rfl) T.n_isinstance PyProof.Rows.boot_isinstance (pa_cons (pv 1) (pa_cons (pe_tup (pa_cons (pe_bltn (v := .ty "list") (by rfl) T.n_list (by decide +kernel) rfl) (pa_cons (pe_bltn (v := .ty "tuple") (by rfl) T.n_tuple (by decide +kernel) rfl) pa_nil))) pa_nil)))) (pss_cons (ps_if (PW.pt (pw_or (pt_cmpR (op_neA (K := K) hr.units) (pe_callB (call_isiA (K := K)) (by rfl) T.n_isinstance PyProof.Rows.boot_isinstance (pa_cons (pv 0) (pa_cons (pe_bltn (v := .ty "list") (by rfl) T.n_list (by decide +kernel) rfl) pa_nil))) (pe_callB (call_isiA (K := K)) (by rfl) T.n_isinstance PyProof.Rows.boot_isinstance (pa_cons (pv 1) (pa_cons (pe_bltn (v := .ty "list") (by rfl) T.n_list (by decide +kernel) rfl) pa_nil))) (nomark _)) (pw_or1 (pt_cmpR (op_neA (K := K) hr.units) (pe_callB (call_isiA (K := K)) (by rfl) T.n_isinstance PyProof.Rows.boot_isinstance (pa_cons (pv 0) (pa_cons (pe_bltn (v := .ty "tuple") (by rfl) T.n_tuple (by decide +kernel) rfl) pa_nil))) (pe_callB (call_isiA (K := K)) (by rfl) T.n_isinstance PyProof.Rows.boot_isinstance (pa_cons (pv 1) (pa_cons (pe_bltn (v := .ty "tuple") (by rfl) T.n_tuple (by decide +kernel) rfl) pa_nil))) (nomark _))))) (pss_one (ps_ret pe_bl)) pss_nil)
      (pss_one (ps_ret (pe_and (pe_cmpR (op_eqA (K := K) hr.units) (pe_callB (call_lenA (K := K)) (by rfl) T.n_len PySem.boot_len (pa_cons (pv 0) pa_nil)) (pe_callB (call_lenA (K := K)) (by rfl) T.n_len PySem.boot_len (pa_cons (pv 1) pa_nil)) (nomark _)) (pe_one (pe_callB (cr_allA (K := K) rfl) (by rfl) T.n_all PyProof.Rows.boot_all (pa_cons (pe_lc (own := [("_law_a", 2), ("_law_b", 3)]) (g := gTup K 2 (gCons (gName 2) (gCons (gName 3) gNil))) rfl sc__law_same.nd (pi_zipB (K := K) (by rfl) T.n_zip (pa_cons (pv 0) (pa_cons (pv 1) pa_nil))) (blkOk_by (N := ["_law_found", "_law_due", "_law_a", "_law_b"]) (sc := defScope s__law_same) (by decide +kernel)) (fun _ _ _ _ _ => (pg_tupA (K := K) rfl (pgs_cons (pg_name (i := 2) sc__law_same.nd rfl (Or.inl rfl)) (pgs_cons (pg_name (i := 3) sc__law_same.nd rfl (Or.inl rfl)) pgs_nil)))) (fun _ _ _ _ _ => pts_nil) (fun _ _ _ _ _ => (pe_call G__law_same hr (by rfl) T.m__law_same T.k__law_same T.b__law_same .nil pass0 (pa_cons (pv 2) (pa_cons (pv 3) pa_nil))))) pa_nil))))))) pss_nil)
      (pss_cons (ps_if (PW.pt (pw_or (pt_cmpR (op_neA (K := K) hr.units) (pe_callB (call_isiA (K := K)) (by rfl) T.n_isinstance PyProof.Rows.boot_isinstance (pa_cons (pv 1) (pa_cons (pe_bltn (v := .ty "bool") (by rfl) T.n_bool (by decide +kernel) rfl) pa_nil))) (pe_callB (call_isiA (K := K)) (by rfl) T.n_isinstance PyProof.Rows.boot_isinstance (pa_cons (pv 0) (pa_cons (pe_bltn (v := .ty "bool") (by rfl) T.n_bool (by decide +kernel) rfl) pa_nil))) (nomark _)) (pw_or1 (pt_cmpR (op_neA (K := K) hr.units) (pe_callB (call_isiA (K := K)) (by rfl) T.n_isinstance PyProof.Rows.boot_isinstance (pa_cons (pv 1) (pa_cons (pe_bltn (v := .ty "int") (by rfl) T.n_int (by decide +kernel) rfl) pa_nil))) (pe_callB (call_isiA (K := K)) (by rfl) T.n_isinstance PyProof.Rows.boot_isinstance (pa_cons (pv 0) (pa_cons (pe_bltn (v := .ty "int") (by rfl) T.n_int (by decide +kernel) rfl) pa_nil))) (nomark _))))) (pss_one (ps_ret pe_bl)) pss_nil)
      (pss_one (ps_ret (pe_and (pe_cmpR (op_eqA (K := K) hr.units) (pe_callB (call_isiA (K := K)) (by rfl) T.n_isinstance PyProof.Rows.boot_isinstance (pa_cons (pv 1) (pa_cons (pe_bltn (v := .ty "str") (by rfl) T.n_str (by decide +kernel) rfl) pa_nil))) (pe_callB (call_isiA (K := K)) (by rfl) T.n_isinstance PyProof.Rows.boot_isinstance (pa_cons (pv 0) (pa_cons (pe_bltn (v := .ty "str") (by rfl) T.n_str (by decide +kernel) rfl) pa_nil))) (nomark _)) (pe_one (pe_cmpR (op_eqA (K := K) hr.units) (pv 0) (pv 1) (nomark _))))))))), fun F0 H0 ds h => ?_⟩)
    · obtain ⟨x, rfl, _⟩ := h; rfl
    · obtain ⟨x, rfl, hp, hd⟩ := h
      dsimp only [cxOf, env0, env1, List.map, List.length, List.replicate, List.cons_append, List.nil_append, List.append, Nat.reduceAdd, Nat.reduceSub, Nat.zero_add]
      cases x with
      | obj _ _ _ => unfold Dt.pureD at hp; cases hp
      | dct _ _ => unfold Dt.pureD at hp; cases hp
      | ali _ => unfold Dt.pureD at hp; cases hp
      | lst xs =>
        unfold Dt.depth at hd
        unfold Dt.pureD at hp
        rw [Bool.and_eq_true] at hp
        have hl := of_decide_eq_true hp.1
        repeat walk_at "y"
        refine way_t (by simp [dEq]) ?_
        refine ev_cb (ea_cons (EvO.ev (eo_mapF (fun _ => .bl true) (ei_zip ?_))))
        repeat walk_at "y"
        refine ⟨xs, xs, .inl rfl, ?_, ?_, ?_⟩
        · rw [pairD_len]; omega
        · intro p hpm
          obtain ⟨y, hy, rfl⟩ := pairD_mem hpm
          refine tc_tup2 (by decide) ?_
          repeat walk_at "y"
          exact ⟨⟨y, rfl, pureAll_mem hy hp.2, by have := depthAll_mem (n := n - 1) hy (by omega); omega⟩, fun d e => e⟩
        · refine ea_nil (c_allF (g := fun _ => true) ?_)
          show Dt.bl _ = .bl true
          simp
      | tup xs =>
        unfold Dt.depth at hd
        unfold Dt.pureD at hp
        rw [Bool.and_eq_true] at hp
        have hl := of_decide_eq_true hp.1
        repeat walk_at "y"
        refine way_t (by simp [dEq]) ?_
        refine ev_cb (ea_cons (EvO.ev (eo_mapF (fun _ => .bl true) (ei_zip ?_))))
        repeat walk_at "y"
        refine ⟨xs, xs, .inr rfl, ?_, ?_, ?_⟩
        · rw [pairD_len]; omega
        · intro p hpm
          obtain ⟨y, hy, rfl⟩ := pairD_mem hpm
          refine tc_tup2 (by decide) ?_
          repeat walk_at "y"
          exact ⟨⟨y, rfl, pureAll_mem hy hp.2, by have := depthAll_mem (n := n - 1) hy (by omega); omega⟩, fun d e => e⟩
        · refine ea_nil (c_allF (g := fun _ => true) ?_)
          show Dt.bl _ = .bl true
          simp
      | non =>
        repeat walk_at "y"
        rfl
      | _ =>
        repeat walk_at "y"
        show Dt.bl _ = .bl true
        simp [dEq]
end
end Law
namespace Law
open PySem L2 Y
local macro_rules | `(tactic| walk_at "yv") => `(tactic| ((with_reducible show Ev _ (tVar _) _ _); refine ev_var rfl ?_))
local macro_rules | `(tactic| walk_at "ys") => `(tactic| with_reducible first
  | refine sm_seq ?_ | refine sm_ret ?_ | refine sm_if ?_ | refine sm_set ?_ | refine sm_next ?_ | refine sm_par ?_ | refine sm_drop ?_ | refine sm_brk ?_ | refine sm_cont ?_)
local macro_rules | `(tactic| walk_at "ye") => `(tactic| with_reducible first
  | refine ev_op ?_ | refine ev_and ?_ | refine ev_or ?_ | refine ev_not ?_ | refine ev_if ?_ | refine ev_chain ?_ | refine ev_neg ?_ | refine ev_isInt ?_ | refine ev_isBool ?_ | refine ev_isStr ?_ | refine ev_isList ?_ | refine ev_isTuple ?_ | refine ev_isLT ?_
  | refine ev_int ?_ | refine ev_str ?_ | refine ev_bl ?_ | refine ev_non ?_ | refine ev_call ?_ | refine ev_cb ?_ | refine ev_lst ?_ | refine ev_tup ?_ | refine ev_join ?_
  | refine ea_nil ?_ | refine ea_cons ?_
  | refine et_B ?_ | refine et_test ?_ | refine et_not ?_ | refine et_and ?_ | refine et_or ?_ | refine et_yes ?_
  | refine o_plusI ?_ | refine o_i0 ?_ | refine o_b0 ?_ | refine o_isN ?_ | refine o_notN ?_
  | refine bl_ex ?_ | refine int_ex ?_ | refine str_ex ?_ | refine lst_ex ?_ | refine tup_ex ?_)
local macro_rules | `(tactic| walk_at "yo") => `(tactic| first
  | ((with_reducible show Ev _ (tOp (rIx _) (tVar _) _) _ _); refine ev_ixOwn rfl ?_)
  | ((with_reducible show Ev _ (tCB _ (tCons (tVar _) tNil)) _ _); refine ev_lenOwn rfl ?_)
  | ((with_reducible show Sm _ (tAsg _ (gSub (tVar _) _ _)) _ _); refine sm_setItem rfl ?_)
  | ((with_reducible show Ev _ (tCall (spB _ _ _) _ _ _) _ _); refine ev_callB rfl rfl ?_))
local macro_rules | `(tactic| walk_at "yc") => `(tactic| first
  | ((with_reducible show CMul _ _); first | exact Or.inr ⟨by decide, by decide⟩ | exact Or.inl ⟨by decide, by decide⟩ | exact Or.inr ⟨by omega, by omega⟩ | exact Or.inl ⟨by omega, by omega⟩)
  | ((with_reducible show CDiv _ _); exact ⟨by first | decide | omega, by first | decide | omega⟩)
  | ((with_reducible show CPow _ _); exact ⟨by decide, by decide, by decide⟩)
  | ((show (0 : Int) < _); first | decide | omega))
local macro_rules | `(tactic| walk_at "yd") => `(tactic| first
  | ((with_reducible show plainD _ = true ∧ _); refine ⟨by first | rfl | assumption, ?_⟩)
  | ((with_reducible show (_ = true → _) ∧ (_ = false → _)); first | refine way_t rfl ?_ | refine way_f rfl ?_)
  | ((with_reducible show Cal _ _ _ _ _); first | (with_reducible refine c_int ?_) | (with_reducible refine c_abs ?_) | (refine c_len rfl ?_) | (refine c_len (if_pos (by assumption)) ?_))
  | ((with_reducible show Op2 _ (rEqA _) _ _ _ _); refine o_eqA rfl ?_)
  | ((with_reducible show Op2 _ (rNeA _) _ _ _ _); refine o_neA rfl ?_)
  | ((with_reducible show Op2 _ (rI _ _) _ _ _ _); refine o_i (by walk_at "yc") ?_)
  | ((with_reducible show Op2 _ (rIx _) _ (Dt.tup _) _ _); refine o_ixAT (atI_toNat (by decide) rfl) ?_)
  | ((with_reducible show Op2 _ (rIx _) _ (Dt.lst _) _ _); refine o_ixAL (atI_toNat (by decide) rfl) ?_)
  | ((with_reducible show ∃ x, atI _ _ = some x ∧ _); refine ⟨_, rfl, ?_⟩)
  | ((with_reducible show ∃ x, ixN _ _ = some x ∧ _); refine ⟨_, rfl, ?_⟩)
  | ((with_reducible show List.length _ ≤ 100000 ∧ _); refine ⟨by (try simp only [List.length_cons, List.length_nil]); first | decide | omega, ?_⟩))
local macro_rules | `(tactic| walk_at "y") => `(tactic| first | walk_at "yo" | walk_at "ye" | walk_at "yv" | walk_at "ys" | walk_at "yd")
local macro_rules | `(tactic| walk_at "yx") => `(tactic| first | walk_at "yo" | walk_at "ye" | walk_at "yv" | walk_at "yd")
section
variable {P : Program} {w : World} {K : PySem.W.Frag} {mg : Str → Option Value} {base : Heap}

theorem ok__law_titles (T : Tx K mg w) : FnOk P w K mg base CX0 3 T.a__law_titles T.d__law_titles ["_law_bag_here", "_law_many"] (spB K titlesPre titlesPost) := by
  have G__law_draw := ok__law_draw (P := P) (w := w) (base := base) T
  have G__law_of := ok__law_of (P := P) (w := w) (base := base) T
  refine fn_bag T.F__law_titles sc__law_titles (fun ds h => ?_) (fun cdv A outer s H E hr => ⟨_, (pss_cons (ps_par rfl sc__law_titles.nd (i := 2) (j := 3) rfl rfl (by decide) rfl rfl (pa_cons (pe_callTy (call_listB (K := K) rfl) (by rfl) T.n_list PyProof.Rows.boot_list (pa_cons pe_str pa_nil)) (pa_cons (pe_lst pa_nil) pa_nil)) rfl)
      (pss_cons (ps_set (i := 4) sc__law_titles.nd rfl (Or.inl rfl) (pe_joinA (K := K) pe_str (pe_lc (own := [("_law_k", 5)]) (g := gName 5) rfl sc__law_titles.nd (pi_range1 (by rfl) T.n_range (pa_cons (pe_call G__law_draw (hr.mono (by decide)) (by rfl) T.m__law_draw T.k__law_draw T.b__law_draw .nil pass0 (pa_cons (pv 0) (pa_cons pe_int pa_nil))) pa_nil)) (blkOk_by (N := ["_law_bag_here", "_law_many", "_law_left", "_law_found", "_law_stem", "_law_k", "_law_spot"]) (sc := defScope s__law_titles) (by decide +kernel)) (fun _ _ _ _ _ => (pg_name (i := 5) sc__law_titles.nd rfl (Or.inl rfl))) (fun _ _ _ _ _ => pts_nil) (fun _ _ _ _ _ => (pe_call G__law_of (hr.mono (by decide)) (by rfl) T.m__law_of T.k__law_of T.b__law_of .nil pass0 (pa_cons (pv 0) (pa_cons pe_str pa_nil)))))))
      (pss_cons (ps_set (i := 6) sc__law_titles.nd rfl (Or.inl rfl) (pe_call G__law_draw (hr.mono (by decide)) (by rfl) T.m__law_draw T.k__law_draw T.b__law_draw .nil pass0 (pa_cons (pv 0) (pa_cons (pe_op (op_plus (K := K)) (pe_callB (call_lenA (K := K)) (by rfl) T.n_len PySem.boot_len (pa_cons (pv 4) pa_nil)) pe_int) pa_nil))))
      (pss_cons (ps_for PassesOwn.never rfl (pi_range1 (by rfl) T.n_range (pa_cons (pv 1) pa_nil)) (pg_name (i := 5) sc__law_titles.nd rfl (Or.inl rfl)) (pss_one (ps_expr (pe_bm PySem.F.plainAttrs_list PySem.F.slot_list_append PySem.F.type_list_append mt_append (pv 3) (pa_cons (pe_op (op_plus (K := K)) (pe_op (op_plus (K := K)) (pe_slice (sl_any (K := K)) (pv 4) po_none (po_some (pv 6))) (pe_bm PySem.F.plainAttrs_list PySem.F.slot_list_pop PySem.F.type_list_pop mt_popAt (pv 2) (pa_cons (pe_call G__law_draw (hr.mono (by decide)) (by rfl) T.m__law_draw T.k__law_draw T.b__law_draw .nil pass0 (pa_cons (pv 0) (pa_cons (pe_callB (call_lenA (K := K)) (by rfl) T.n_len PySem.boot_len (pa_cons (pv 2) pa_nil)) pa_nil))) pa_nil))) (pe_slice (sl_any (K := K)) (pv 4) (po_some (pv 6)) po_none)) pa_nil)))))
      (pss_one (ps_ret (pv 3))))))), fun F0 H0 b ds h => ?_⟩)
  · obtain ⟨m, rfl, _⟩ := h; rfl
  · obtain ⟨m, rfl, hm0, hm1⟩ := h
    dsimp only [cxOf, env0, env1, List.map, List.length, List.replicate, List.cons_append, List.nil_append, List.append, Nat.reduceAdd, Nat.reduceSub, Nat.zero_add]
    have hlen : letters.length = 26 := by decide +kernel
    refine sm_seq (sm_parOO (by decide) (fun a xs e => nomatch e) (fun a xs e => nomatch e) (eo_listS (ea_cons (ev_str (ea_nil ⟨_, rfl, by decide +kernel, ?_⟩)))))
    refine eo_lst (ea_nil ⟨by decide, fun al af hne => ?_⟩)
    refine sm_seq (sm_set (ev_word rfl rfl (by decide) ⟨by decide, by decide⟩ ⟨by decide +kernel, by decide +kernel⟩ fun stem h1 h2 => ?_))
    have hl : stem.length ≤ 100000 := by show stem.cps.size ≤ _; omega
    have e0 : stem.length = stem.cps.size := rfl
    refine sm_seq (sm_set ?_)
    repeat walk_at "yx"
    refine draw_k ⟨by omega, by omega⟩ fun spot k1 k2 => ?_
    obtain ⟨n, rfl⟩ : ∃ n : Nat, spot = (n : Int) := ⟨spot.toNat, by omega⟩
    have hn : n ≤ stem.cps.size := by omega
    obtain ⟨c1, c2⟩ := cut_app stem n hn
    have hs : ∀ c ∈ stem.cps.toList, c ∈ letters := h2
    refine sm_seq (sm_for (ei_rng1 (ea_cons (ev_var rfl (ea_nil ⟨m, rfl, by omega, by omega, fun i e => ∃ (cs ls : List Nat) (s6 : Sl), e = [.r (.ref b), .d (.int m), .own al (ls.map fun c => Dt.str ⟨#[c]⟩), .own af ((cs.map fun c => (cutS stem none (some (n : Int)) ++ ⟨#[c]⟩ ++ cutS stem (some (n : Int)) none)).map Dt.str), .d (.str stem), s6, .d (.int (n : Int))] ∧ (cs ++ ls).Perm letters ∧ cs.length = i, ?_, ?_, ?_⟩)))))
    · exact ⟨[], letters, _, rfl, List.Perm.refl _, rfl⟩
    · rintro i x es' hx ⟨cs, ls, s6, rfl, hp, hc⟩
      obtain ⟨hi, rfl⟩ := rangeD_get hx
      have hls : cs.length + ls.length = 26 := by
        have := hp.length_eq
        rw [List.length_append, hlen] at this
        exact this
      refine tg_name (sm_appendM rfl (em_op (em_op ?_)))
      refine Ev.m (ev_slS (ev_var rfl (str_ex ⟨hl, ep_none (ep_some (ev_var rfl (int_ex ?_)))⟩)))
      refine em_pop (a := al) (xs := ls.map fun c => Dt.str ⟨#[c]⟩) rfl ?_
      refine ev_callB rfl rfl (ea_cons (ev_lenOwn (a := al) (xs := ls.map fun c => Dt.str ⟨#[c]⟩) rfl (ea_nil ?_)))
      rw [List.length_map]
      refine draw_k ⟨by omega, by omega⟩ fun j j1 j2 => ?_
      refine ⟨j, rfl, j1, by simpa using j2, by omega, fun y hy => ?_⟩
      rw [List.getElem?_map] at hy
      cases ec : ls[j.toNat]? with
      | none => rw [ec] at hy; cases hy
      | some c =>
        rw [ec] at hy
        cases hy
        have hcl : c ∈ letters := hp.subset (List.mem_append_right _ (List.mem_of_getElem? ec))
        have l1 : (cutS stem none (some (n : Int))).length ≤ stem.length := cutS_length _ _ _
        have l2 : (cutS stem (some (n : Int)) none).length ≤ stem.length := cutS_length _ _ _
        have l3 : (⟨#[c]⟩ : Str).length = 1 := rfl
        have l4 : (cutS stem none (some (n : Int)) ++ ⟨#[c]⟩).length = (cutS stem none (some (n : Int))).length + 1 := by
          show (cutS stem none (some (n : Int)) ++ ⟨#[c]⟩).cps.size = (cutS stem none (some (n : Int))).cps.size + 1
          rw [← Array.length_toList, app_toList, List.length_append, Array.length_toList]; rfl
        refine o_plusS (by omega) ?_
        refine Ev.m (ev_slS (ev_var rfl (str_ex ⟨hl, ep_some (ev_var rfl (int_ex (ep_none ?_)))⟩)))
        refine o_plusS (by omega) ⟨rfl, ?_, ?_⟩
        · rw [List.length_map, List.length_map]; omega
        · have em : (ls.map fun c => Dt.str ⟨#[c]⟩).eraseIdx j.toNat = (ls.eraseIdx j.toNat).map fun c => Dt.str ⟨#[c]⟩ := by
            rw [List.eraseIdx_eq_take_drop_succ, List.eraseIdx_eq_take_drop_succ, List.map_append, List.map_take, List.map_drop]
          refine ⟨cs ++ [c], ls.eraseIdx j.toNat, .d (.int (0 + (i : Int))), ?_, ?_, ?_⟩
          · rw [← em, List.map_append (l₁ := cs), List.map_append]
            rfl
          · have q1 : ls.Perm (c :: ls.eraseIdx j.toNat) := perm_erase ec
            rw [List.append_assoc]
            exact ((List.Perm.append_left cs q1).symm).trans hp
          · rw [List.length_append, hc]; rfl
    · rintro es' ⟨cs, ls, s6, rfl, hp, hc⟩
      rw [rangeD_len] at hc
      refine sm_freeze 3 rfl (sm_ret (ev_var rfl ?_))
      have hnd : (cs ++ ls).Nodup := hp.nodup_iff.mpr (by decide +kernel)
      have sz : ∀ c, (cutS stem none (some (n : Int)) ++ ⟨#[c]⟩ ++ cutS stem (some (n : Int)) none).cps.toList = stem.cps.toList.take n ++ [c] ++ stem.cps.toList.drop n := fun c => by
        rw [app_toList, app_toList, c1, c2]
      refine ⟨m, cs.map fun c => (cutS stem none (some (n : Int)) ++ ⟨#[c]⟩ ++ cutS stem (some (n : Int)) none), rfl, rfl, by rw [List.length_map]; omega, fun t ht => ?_, ?_⟩
      · obtain ⟨c, hcm, rfl⟩ := List.mem_map.mp ht
        have hz : (cutS stem none (some (n : Int)) ++ ⟨#[c]⟩ ++ cutS stem (some (n : Int)) none).cps.size = stem.cps.size + 1 := by
          rw [← Array.length_toList, sz, List.length_append, List.length_append, List.length_take, List.length_drop, Array.length_toList]
          simp; omega
        refine isName_mk (by omega) (by omega) fun k hk => ?_
        rw [sz] at hk
        rcases List.mem_append.mp hk with hk | hk
        · rcases List.mem_append.mp hk with hk | hk
          · exact hs k (List.mem_of_mem_take hk)
          · rw [List.mem_singleton.mp hk]
            exact hp.subset (List.mem_append_left _ hcm)
        · exact hs k (List.mem_of_mem_drop hk)
      · refine List.pairwise_map.mpr (((List.nodup_append.mp hnd).1).imp fun {x y} hxy e => hxy ?_)
        have e2 := congrArg (fun z : Str => z.cps.toList) e
        simp only [sz] at e2
        have e3 := List.append_cancel_right e2
        have e4 := List.append_cancel_left e3
        simpa using e4
end
end Law
namespace Law
open PySem L2 Y
local macro_rules | `(tactic| walk_at "yv") => `(tactic| ((with_reducible show Ev _ (tVar _) _ _); refine ev_var rfl ?_))
local macro_rules | `(tactic| walk_at "ys") => `(tactic| with_reducible first
  | refine sm_seq ?_ | refine sm_ret ?_ | refine sm_if ?_ | refine sm_set ?_ | refine sm_next ?_ | refine sm_par ?_ | refine sm_drop ?_ | refine sm_brk ?_ | refine sm_cont ?_)
local macro_rules | `(tactic| walk_at "ye") => `(tactic| with_reducible first
  | refine ev_op ?_ | refine ev_and ?_ | refine ev_or ?_ | refine ev_not ?_ | refine ev_if ?_ | refine ev_chain ?_ | refine ev_neg ?_ | refine ev_isInt ?_ | refine ev_isBool ?_ | refine ev_isStr ?_ | refine ev_isList ?_ | refine ev_isTuple ?_ | refine ev_isLT ?_
  | refine ev_int ?_ | refine ev_str ?_ | refine ev_bl ?_ | refine ev_non ?_ | refine ev_call ?_ | refine ev_cb ?_ | refine ev_lst ?_ | refine ev_tup ?_ | refine ev_join ?_
  | refine ea_nil ?_ | refine ea_cons ?_
  | refine et_B ?_ | refine et_test ?_ | refine et_not ?_ | refine et_and ?_ | refine et_or ?_ | refine et_yes ?_
  | refine o_plusI ?_ | refine o_i0 ?_ | refine o_b0 ?_ | refine o_isN ?_ | refine o_notN ?_
  | refine bl_ex ?_ | refine int_ex ?_ | refine str_ex ?_ | refine lst_ex ?_ | refine tup_ex ?_)
local macro_rules | `(tactic| walk_at "yo") => `(tactic| first
  | ((with_reducible show Ev _ (tOp (rIx _) (tVar _) _) _ _); refine ev_ixOwn rfl ?_)
  | ((with_reducible show Ev _ (tCB _ (tCons (tVar _) tNil)) _ _); refine ev_lenOwn rfl ?_)
  | ((with_reducible show Sm _ (tAsg _ (gSub (tVar _) _ _)) _ _); refine sm_setItem rfl ?_)
  | ((with_reducible show Ev _ (tCall (spB _ _ _) _ _ _) _ _); refine ev_callB rfl rfl ?_))
local macro_rules | `(tactic| walk_at "yc") => `(tactic| first
  | ((with_reducible show CMul _ _); first | exact Or.inr ⟨by decide, by decide⟩ | exact Or.inl ⟨by decide, by decide⟩ | exact Or.inr ⟨by omega, by omega⟩ | exact Or.inl ⟨by omega, by omega⟩)
  | ((with_reducible show CDiv _ _); exact ⟨by first | decide | omega, by first | decide | omega⟩)
  | ((with_reducible show CPow _ _); exact ⟨by decide, by decide, by decide⟩)
  | ((show (0 : Int) < _); first | decide | omega))
local macro_rules | `(tactic| walk_at "yd") => `(tactic| first
  | ((with_reducible show plainD _ = true ∧ _); refine ⟨by first | rfl | assumption, ?_⟩)
  | ((with_reducible show (_ = true → _) ∧ (_ = false → _)); first | refine way_t rfl ?_ | refine way_f rfl ?_)
  | ((with_reducible show Cal _ _ _ _ _); first | (with_reducible refine c_int ?_) | (with_reducible refine c_abs ?_) | (refine c_len rfl ?_) | (refine c_len (if_pos (by assumption)) ?_))
  | ((with_reducible show Op2 _ (rEqA _) _ _ _ _); refine o_eqA rfl ?_)
  | ((with_reducible show Op2 _ (rNeA _) _ _ _ _); refine o_neA rfl ?_)
  | ((with_reducible show Op2 _ (rI _ _) _ _ _ _); refine o_i (by walk_at "yc") ?_)
  | ((with_reducible show Op2 _ (rIx _) _ (Dt.tup _) _ _); refine o_ixAT (atI_toNat (by decide) rfl) ?_)
  | ((with_reducible show Op2 _ (rIx _) _ (Dt.lst _) _ _); refine o_ixAL (atI_toNat (by decide) rfl) ?_)
  | ((with_reducible show ∃ x, atI _ _ = some x ∧ _); refine ⟨_, rfl, ?_⟩)
  | ((with_reducible show ∃ x, ixN _ _ = some x ∧ _); refine ⟨_, rfl, ?_⟩)
  | ((with_reducible show List.length _ ≤ 100000 ∧ _); refine ⟨by (try simp only [List.length_cons, List.length_nil]); first | decide | omega, ?_⟩))
local macro_rules | `(tactic| walk_at "y") => `(tactic| first | walk_at "yo" | walk_at "ye" | walk_at "yv" | walk_at "ys" | walk_at "yd")
local macro_rules | `(tactic| walk_at "yx") => `(tactic| first | walk_at "yo" | walk_at "ye" | walk_at "yv" | walk_at "yd")
section
variable {P : Program} {w : World} {K : PySem.W.Frag} {mg : Str → Option Value} {base : Heap}

theorem ok__law_number (T : Tx K mg w) : FnOk P w K mg base CX0 3 T.a__law_number T.d__law_number ["_law_bag_here"] (spB K nilPre numberPost) := by
  have G__law_draw := ok__law_draw (P := P) (w := w) (base := base) T
  have G__law_of := ok__law_of (P := P) (w := w) (base := base) T
  refine fn_bag T.F__law_number sc__law_number (fun ds h => ?_) (fun cdv A outer s H E hr => ⟨_, (pss_one (ps_ret (pe_call G__law_of (hr.mono (by decide)) (by rfl) T.m__law_of T.k__law_of T.b__law_of .nil pass0 (pa_cons (pv 0) (pa_cons (pe_lst (pa_cons pe_int (pa_cons pe_int (pa_cons pe_int (pa_cons pe_int (pa_cons pe_int (pa_cons pe_int (pa_cons pe_int (pa_cons (pe_call G__law_draw (hr.mono (by decide)) (by rfl) T.m__law_draw T.k__law_draw T.b__law_draw .nil pass0 (pa_cons (pv 0) (pa_cons pe_int pa_nil))) (pa_cons (pe_call G__law_draw (hr.mono (by decide)) (by rfl) T.m__law_draw T.k__law_draw T.b__law_draw .nil pass0 (pa_cons (pv 0) (pa_cons pe_int pa_nil))) (pa_cons (pe_call G__law_draw (hr.mono (by decide)) (by rfl) T.m__law_draw T.k__law_draw T.b__law_draw .nil pass0 (pa_cons (pv 0) (pa_cons pe_int pa_nil))) pa_nil))))))))))) pa_nil))))), fun F0 H0 b ds h => ?_⟩)
  · cases h; rfl
  · cases h
    dsimp only [cxOf, env0, env1, List.map, List.length, List.replicate, List.cons_append, List.nil_append, List.append, Nat.reduceAdd, Nat.reduceSub, Nat.zero_add]
    repeat walk_at "y"
    refine draw_k ⟨by decide, by decide⟩ fun i1 a1 b1 => ?_
    repeat walk_at "y"
    refine draw_k ⟨by decide, by decide⟩ fun i2 a2 b2 => ?_
    repeat walk_at "y"
    refine draw_k ⟨by decide, by decide⟩ fun i3 a3 b3 => ?_
    repeat walk_at "y"
    refine of_k ⟨by show 0 < 10; decide, by show 10 ≤ 100000; decide⟩ fun d hd => ?_
    simp only [List.mem_cons, List.not_mem_nil, or_false] at hd
    rcases hd with rfl | rfl | rfl | rfl | rfl | rfl | rfl | rfl | rfl | rfl <;> exact ⟨_, rfl, by omega, by omega⟩

theorem ok__law_r (T : Tx K mg w) : FnOk P w K mg base CX0 3 T.a__law_r T.d__law_r ["_law_bag_here"] (spB K nilPre rPost) := by
  have G__law_of := ok__law_of (P := P) (w := w) (base := base) T
  refine fn_bag T.F__law_r sc__law_r (fun ds h => ?_) (fun cdv A outer s H E hr => ⟨_, (pss_one (ps_ret (pe_call G__law_of (hr.mono (by decide)) (by rfl) T.m__law_of T.k__law_of T.b__law_of .nil pass0 (pa_cons (pv 0) (pa_cons (pe_lst (pa_cons pe_str (pa_cons pe_str (pa_cons pe_str pa_nil)))) pa_nil))))), fun F0 H0 b ds h => ?_⟩)
  · cases h; rfl
  · cases h
    dsimp only [cxOf, env0, env1, List.map, List.length, List.replicate, List.cons_append, List.nil_append, List.append, Nat.reduceAdd, Nat.reduceSub, Nat.zero_add]
    repeat walk_at "y"
    exact of_all (p := isRegD) ⟨by decide, by decide⟩ (by decide +kernel) fun d hd => hd

theorem ok__law_code_row (T : Tx K mg w) : FnOk P w K mg base CX0 4 T.a__law_code_row T.d__law_code_row ["_law_bag_here", "_law_titles_here"] (spB K namesPre codeRowPost) := by
  have G__law_draw := ok__law_draw (P := P) (w := w) (base := base) T
  have G__law_of := ok__law_of (P := P) (w := w) (base := base) T
  have G__law_r := ok__law_r (P := P) (w := w) (base := base) T
  have G__law_number := ok__law_number (P := P) (w := w) (base := base) T
  refine fn_bag T.F__law_code_row sc__law_code_row (fun ds h => ?_) (fun cdv A outer s H E hr => ⟨_, (pss_cons (ps_set (i := 2) sc__law_code_row.nd rfl (Or.inl rfl) (pe_call G__law_draw (hr.mono (by decide)) (by rfl) T.m__law_draw T.k__law_draw T.b__law_draw .nil pass0 (pa_cons (pv 0) (pa_cons pe_int pa_nil))))
      (pss_cons (ps_if (pt_cmpR op_lt (pv 2) pe_int (nomark _)) (pss_one (ps_ret (pe_tup (pa_cons pe_str (pa_cons (pe_call G__law_r (hr.mono (by decide)) (by rfl) T.m__law_r T.k__law_r T.b__law_r .nil pass0 (pa_cons (pv 0) pa_nil)) (pa_cons (pe_call G__law_number (hr.mono (by decide)) (by rfl) T.m__law_number T.k__law_number T.b__law_number .nil pass0 (pa_cons (pv 0) pa_nil)) pa_nil)))))) pss_nil)
      (pss_cons (ps_if (pt_cmpR op_lt (pv 2) pe_int (nomark _)) (pss_one (ps_ret (pe_tup (pa_cons (pe_call G__law_of (hr.mono (by decide)) (by rfl) T.m__law_of T.k__law_of T.b__law_of .nil pass0 (pa_cons (pv 0) (pa_cons (pe_lst (pa_cons pe_str (pa_cons pe_str pa_nil))) pa_nil))) (pa_cons (pe_call G__law_r (hr.mono (by decide)) (by rfl) T.m__law_r T.k__law_r T.b__law_r .nil pass0 (pa_cons (pv 0) pa_nil)) (pa_cons (pe_call G__law_of (hr.mono (by decide)) (by rfl) T.m__law_of T.k__law_of T.b__law_of .nil pass0 (pa_cons (pv 0) (pa_cons (pv 1) pa_nil))) pa_nil)))))) pss_nil)
      (pss_cons (ps_if (pt_cmpR op_lt (pv 2) pe_int (nomark _)) (pss_one (ps_ret (pe_tup (pa_cons (pe_call G__law_of (hr.mono (by decide)) (by rfl) T.m__law_of T.k__law_of T.b__law_of .nil pass0 (pa_cons (pv 0) (pa_cons (pe_lst (pa_cons pe_str (pa_cons pe_str pa_nil))) pa_nil))) (pa_cons (pe_call G__law_r (hr.mono (by decide)) (by rfl) T.m__law_r T.k__law_r T.b__law_r .nil pass0 (pa_cons (pv 0) pa_nil)) (pa_cons (pe_call G__law_r (hr.mono (by decide)) (by rfl) T.m__law_r T.k__law_r T.b__law_r .nil pass0 (pa_cons (pv 0) pa_nil)) pa_nil)))))) pss_nil)
      (pss_cons (ps_if (pt_cmpR op_lt (pv 2) pe_int (nomark _)) (pss_one (ps_ret (pe_tup (pa_cons (pe_call G__law_of (hr.mono (by decide)) (by rfl) T.m__law_of T.k__law_of T.b__law_of .nil pass0 (pa_cons (pv 0) (pa_cons (pe_lst (pa_cons pe_str (pa_cons pe_str pa_nil))) pa_nil))) (pa_cons (pe_call G__law_r (hr.mono (by decide)) (by rfl) T.m__law_r T.k__law_r T.b__law_r .nil pass0 (pa_cons (pv 0) pa_nil)) (pa_cons (pe_call G__law_r (hr.mono (by decide)) (by rfl) T.m__law_r T.k__law_r T.b__law_r .nil pass0 (pa_cons (pv 0) pa_nil)) (pa_cons (pe_call G__law_of (hr.mono (by decide)) (by rfl) T.m__law_of T.k__law_of T.b__law_of .nil pass0 (pa_cons (pv 0) (pa_cons (pe_lst (pa_cons pe_int (pa_cons pe_int (pa_cons (pe_call G__law_draw (hr.mono (by decide)) (by rfl) T.m__law_draw T.k__law_draw T.b__law_draw .nil pass0 (pa_cons (pv 0) (pa_cons pe_int pa_nil))) pa_nil)))) pa_nil))) pa_nil))))))) pss_nil)
      (pss_cons (ps_if (pt_cmpR op_lt (pv 2) pe_int (nomark _)) (pss_one (ps_ret (pe_tup (pa_cons (pe_call G__law_of (hr.mono (by decide)) (by rfl) T.m__law_of T.k__law_of T.b__law_of .nil pass0 (pa_cons (pv 0) (pa_cons (pe_lst (pa_cons pe_str (pa_cons pe_str pa_nil))) pa_nil))) (pa_cons (pe_call G__law_of (hr.mono (by decide)) (by rfl) T.m__law_of T.k__law_of T.b__law_of .nil pass0 (pa_cons (pv 0) (pa_cons (pv 1) pa_nil))) pa_nil))))) pss_nil)
      (pss_cons (ps_if (pt_cmpR op_lt (pv 2) pe_int (nomark _)) (pss_one (ps_ret (pe_tup (pa_cons (pe_call G__law_of (hr.mono (by decide)) (by rfl) T.m__law_of T.k__law_of T.b__law_of .nil pass0 (pa_cons (pv 0) (pa_cons (pe_lst (pa_cons pe_str (pa_cons pe_str pa_nil))) pa_nil))) (pa_cons (pe_call G__law_r (hr.mono (by decide)) (by rfl) T.m__law_r T.k__law_r T.b__law_r .nil pass0 (pa_cons (pv 0) pa_nil)) pa_nil))))) pss_nil)
      (pss_one (ps_ret (pe_call G__law_of (hr.mono (by decide)) (by rfl) T.m__law_of T.k__law_of T.b__law_of .nil pass0 (pa_cons (pv 0) (pa_cons (pe_lst (pa_cons (pe_tup (pa_cons pe_str pa_nil)) (pa_cons (pe_tup (pa_cons pe_str pa_nil)) (pa_cons (pe_tup (pa_cons pe_str (pa_cons (pe_call G__law_of (hr.mono (by decide)) (by rfl) T.m__law_of T.k__law_of T.b__law_of .nil pass0 (pa_cons (pv 0) (pa_cons (pe_lst (pa_cons pe_int (pa_cons pe_int (pa_cons pe_int (pa_cons pe_int pa_nil))))) pa_nil))) pa_nil))) pa_nil)))) pa_nil)))))))))))), fun F0 H0 b ds h => ?_⟩)
  · obtain ⟨t, rfl, _⟩ := h; rfl
  · obtain ⟨t, rfl, ht⟩ := h
    dsimp only [cxOf, env0, env1, List.map, List.length, List.replicate, List.cons_append, List.nil_append, List.append, Nat.reduceAdd, Nat.reduceSub, Nat.zero_add]
    refine sm_seq (sm_set ?_)
    repeat walk_at "yx"
    refine draw_k ⟨by decide, by decide⟩ fun way k1 k2 => ?_
    repeat walk_at "y"
    refine ways (fun h => ?_) (fun h => ?_)
    · repeat walk_at "y"
      refine r_k fun r hr' => ?_
      repeat walk_at "y"
      refine number_k fun n n1 n2 => ?_
      repeat walk_at "y"
      exact rowBy_of (ks := [114, 119]) (by decide +kernel) (form2 (fit_r hr') (fit_w ⟨n1, n2⟩))
    repeat walk_at "y"
    refine ways (fun h => ?_) (fun h => ?_)
    · repeat walk_at "y"
      refine of_k ⟨by decide, by decide⟩ fun wd hw => ?_
      repeat walk_at "y"
      refine r_k fun r hr' => ?_
      repeat walk_at "y"
      refine of_names ht fun nm hnm => ?_
      repeat walk_at "y"
      simp only [List.mem_cons, List.not_mem_nil, or_false] at hw
      rcases hw with rfl | rfl <;> exact rowBy_of (ks := [114, 110]) (by decide +kernel) (form2 (fit_r hr') (fit_n hnm))
    repeat walk_at "y"
    refine ways (fun h => ?_) (fun h => ?_)
    · repeat walk_at "y"
      refine of_k ⟨by decide, by decide⟩ fun wd hw => ?_
      repeat walk_at "y"
      refine r_k fun r hr' => ?_
      repeat walk_at "y"
      refine r_k fun r2 hr2 => ?_
      repeat walk_at "y"
      simp only [List.mem_cons, List.not_mem_nil, or_false] at hw
      rcases hw with rfl | rfl <;> exact rowBy_of (ks := [114, 114]) (by decide +kernel) (form2 (fit_r hr') (fit_r hr2))
    repeat walk_at "y"
    refine ways (fun h => ?_) (fun h => ?_)
    · repeat walk_at "y"
      refine of_k ⟨by decide, by decide⟩ fun wd hw => ?_
      repeat walk_at "y"
      refine r_k fun r hr' => ?_
      repeat walk_at "y"
      refine r_k fun r2 hr2 => ?_
      repeat walk_at "y"
      refine draw_k ⟨by decide, by decide⟩ fun d d1 d2 => ?_
      repeat walk_at "y"
      refine of_k ⟨by show 0 < 3; decide, by show 3 ≤ 100000; decide⟩ fun dd hd => ?_
      have hd' : fitsB 100 dd = true := by
        simp only [List.mem_cons, List.not_mem_nil, or_false] at hd
        rcases hd with rfl | rfl | rfl <;> exact fit_d ⟨by omega, by omega⟩
      repeat walk_at "y"
      simp only [List.mem_cons, List.not_mem_nil, or_false] at hw
      rcases hw with rfl | rfl <;> exact rowBy_of (ks := [114, 114, 100]) (by decide +kernel) (form3 (fit_r hr') (fit_r hr2) hd')
    repeat walk_at "y"
    refine ways (fun h => ?_) (fun h => ?_)
    · repeat walk_at "y"
      refine of_k ⟨by decide, by decide⟩ fun wd hw => ?_
      repeat walk_at "y"
      refine of_names ht fun nm hnm => ?_
      repeat walk_at "y"
      simp only [List.mem_cons, List.not_mem_nil, or_false] at hw
      rcases hw with rfl | rfl <;> exact rowBy_of (ks := [110]) (by decide +kernel) (form1 (fit_n hnm))
    repeat walk_at "y"
    refine ways (fun h => ?_) (fun h => ?_)
    · repeat walk_at "y"
      refine of_k ⟨by decide, by decide⟩ fun wd hw => ?_
      repeat walk_at "y"
      refine r_k fun r hr' => ?_
      repeat walk_at "y"
      simp only [List.mem_cons, List.not_mem_nil, or_false] at hw
      rcases hw with rfl | rfl <;> exact rowBy_of (ks := [114]) (by decide +kernel) (form1 (fit_r hr'))
    repeat walk_at "y"
    refine of_k ⟨by decide, by decide⟩ fun kk hk => ?_
    have hk' : fitsB 107 kk = true := by
      simp only [List.mem_cons, List.not_mem_nil, or_false] at hk
      rcases hk with rfl | rfl | rfl | rfl <;> exact fit_k ⟨by omega, by omega⟩
    repeat walk_at "y"
    refine of_k ⟨by show 0 < 3; decide, by show 3 ≤ 100000; decide⟩ fun dd hd => ?_
    simp only [List.mem_cons, List.not_mem_nil, or_false] at hd
    rcases hd with rfl | rfl | rfl
    · exact rowBy_of (ks := []) (by decide +kernel) form0
    · exact rowBy_of (ks := []) (by decide +kernel) form0
    · exact rowBy_of (ks := [107]) (by decide +kernel) (form1 hk')

theorem ok__law_data_row (T : Tx K mg w) : FnOk P w K mg base CX0 4 T.a__law_data_row T.d__law_data_row ["_law_bag_here", "_law_titles_here"] (spB K namesPre dataRowPost) := by
  have G__law_draw := ok__law_draw (P := P) (w := w) (base := base) T
  have G__law_of := ok__law_of (P := P) (w := w) (base := base) T
  have G__law_number := ok__law_number (P := P) (w := w) (base := base) T
  refine fn_bag T.F__law_data_row sc__law_data_row (fun ds h => ?_) (fun cdv A outer s H E hr => ⟨_, (pss_cons (ps_set (i := 2) sc__law_data_row.nd rfl (Or.inl rfl) (pe_call G__law_draw (hr.mono (by decide)) (by rfl) T.m__law_draw T.k__law_draw T.b__law_draw .nil pass0 (pa_cons (pv 0) (pa_cons pe_int pa_nil))))
      (pss_cons (ps_if (pt_cmpR (op_eqA (K := K) hr.units) (pv 2) pe_int (nomark _)) (pss_one (ps_ret (pe_tup (pa_cons pe_str (pa_cons (pe_call G__law_number (hr.mono (by decide)) (by rfl) T.m__law_number T.k__law_number T.b__law_number .nil pass0 (pa_cons (pv 0) pa_nil)) pa_nil))))) pss_nil)
      (pss_one (ps_ret (pe_ifExp (pt_cmpR (op_eqA (K := K) hr.units) (pv 2) pe_int (nomark _)) (pe_tup (pa_cons pe_str (pa_cons (pe_call G__law_of (hr.mono (by decide)) (by rfl) T.m__law_of T.k__law_of T.b__law_of .nil pass0 (pa_cons (pv 0) (pa_cons (pv 1) pa_nil))) pa_nil))) (pe_tup (pa_cons pe_str (pa_cons (pe_call G__law_of (hr.mono (by decide)) (by rfl) T.m__law_of T.k__law_of T.b__law_of .nil pass0 (pa_cons (pv 0) (pa_cons (pe_lst (pa_cons pe_int (pa_cons pe_int (pa_cons pe_int (pa_cons pe_int pa_nil))))) pa_nil))) pa_nil)))))))), fun F0 H0 b ds h => ?_⟩)
  · obtain ⟨t, rfl, _⟩ := h; rfl
  · obtain ⟨t, rfl, ht⟩ := h
    dsimp only [cxOf, env0, env1, List.map, List.length, List.replicate, List.cons_append, List.nil_append, List.append, Nat.reduceAdd, Nat.reduceSub, Nat.zero_add]
    refine sm_seq (sm_set ?_)
    repeat walk_at "yx"
    refine draw_k ⟨by decide, by decide⟩ fun way k1 k2 => ?_
    repeat walk_at "y"
    refine ways (fun h => ?_) (fun h => ?_)
    · repeat walk_at "y"
      refine number_k fun n n1 n2 => ?_
      repeat walk_at "y"
      exact rowBy_of (ks := [119]) (by decide +kernel) (form1 (fit_w ⟨n1, n2⟩))
    repeat walk_at "y"
    refine ways (fun h => ?_) (fun h => ?_)
    · repeat walk_at "y"
      refine of_names ht fun nm hnm => ?_
      repeat walk_at "y"
      exact rowBy_of (ks := [110]) (by decide +kernel) (form1 (fit_n hnm))
    · repeat walk_at "y"
      refine of_k ⟨by decide, by decide⟩ fun kk hk => ?_
      have hk' : fitsB 107 kk = true := by
        simp only [List.mem_cons, List.not_mem_nil, or_false] at hk
        rcases hk with rfl | rfl | rfl | rfl <;> exact fit_k ⟨by omega, by omega⟩
      repeat walk_at "y"
      exact rowBy_of (ks := [107]) (by decide +kernel) (form1 hk')
end
end Law
namespace Law
open PySem L2 Y
local macro_rules | `(tactic| walk_at "yv") => `(tactic| ((with_reducible show Ev _ (tVar _) _ _); refine ev_var rfl ?_))
local macro_rules | `(tactic| walk_at "ys") => `(tactic| with_reducible first
  | refine sm_seq ?_ | refine sm_ret ?_ | refine sm_if ?_ | refine sm_set ?_ | refine sm_next ?_ | refine sm_par ?_ | refine sm_drop ?_ | refine sm_brk ?_ | refine sm_cont ?_)
local macro_rules | `(tactic| walk_at "ye") => `(tactic| with_reducible first
  | refine ev_op ?_ | refine ev_and ?_ | refine ev_or ?_ | refine ev_not ?_ | refine ev_if ?_ | refine ev_chain ?_ | refine ev_neg ?_ | refine ev_isInt ?_ | refine ev_isBool ?_ | refine ev_isStr ?_ | refine ev_isList ?_ | refine ev_isTuple ?_ | refine ev_isLT ?_
  | refine ev_int ?_ | refine ev_str ?_ | refine ev_bl ?_ | refine ev_non ?_ | refine ev_call ?_ | refine ev_cb ?_ | refine ev_lst ?_ | refine ev_tup ?_ | refine ev_join ?_
  | refine ea_nil ?_ | refine ea_cons ?_
  | refine et_B ?_ | refine et_test ?_ | refine et_not ?_ | refine et_and ?_ | refine et_or ?_ | refine et_yes ?_
  | refine o_plusI ?_ | refine o_i0 ?_ | refine o_b0 ?_ | refine o_isN ?_ | refine o_notN ?_
  | refine bl_ex ?_ | refine int_ex ?_ | refine str_ex ?_ | refine lst_ex ?_ | refine tup_ex ?_)
local macro_rules | `(tactic| walk_at "yo") => `(tactic| first
  | ((with_reducible show Ev _ (tOp (rIx _) (tVar _) _) _ _); refine ev_ixOwn rfl ?_)
  | ((with_reducible show Ev _ (tCB _ (tCons (tVar _) tNil)) _ _); refine ev_lenOwn rfl ?_)
  | ((with_reducible show Sm _ (tAsg _ (gSub (tVar _) _ _)) _ _); refine sm_setItem rfl ?_)
  | ((with_reducible show Ev _ (tCall (spB _ _ _) _ _ _) _ _); refine ev_callB rfl rfl ?_))
local macro_rules | `(tactic| walk_at "yc") => `(tactic| first
  | ((with_reducible show CMul _ _); first | exact Or.inr ⟨by decide, by decide⟩ | exact Or.inl ⟨by decide, by decide⟩ | exact Or.inr ⟨by omega, by omega⟩ | exact Or.inl ⟨by omega, by omega⟩)
  | ((with_reducible show CDiv _ _); exact ⟨by first | decide | omega, by first | decide | omega⟩)
  | ((with_reducible show CPow _ _); exact ⟨by decide, by decide, by decide⟩)
  | ((show (0 : Int) < _); first | decide | omega))
local macro_rules | `(tactic| walk_at "yd") => `(tactic| first
  | ((with_reducible show plainD _ = true ∧ _); refine ⟨by first | rfl | assumption, ?_⟩)
  | ((with_reducible show (_ = true → _) ∧ (_ = false → _)); first | refine way_t rfl ?_ | refine way_f rfl ?_)
  | ((with_reducible show Cal _ _ _ _ _); first | (with_reducible refine c_int ?_) | (with_reducible refine c_abs ?_) | (refine c_len rfl ?_) | (refine c_len (if_pos (by assumption)) ?_))
  | ((with_reducible show Op2 _ (rEqA _) _ _ _ _); refine o_eqA rfl ?_)
  | ((with_reducible show Op2 _ (rNeA _) _ _ _ _); refine o_neA rfl ?_)
  | ((with_reducible show Op2 _ (rI _ _) _ _ _ _); refine o_i (by walk_at "yc") ?_)
  | ((with_reducible show Op2 _ (rIx _) _ (Dt.tup _) _ _); refine o_ixAT (atI_toNat (by decide) rfl) ?_)
  | ((with_reducible show Op2 _ (rIx _) _ (Dt.lst _) _ _); refine o_ixAL (atI_toNat (by decide) rfl) ?_)
  | ((with_reducible show ∃ x, atI _ _ = some x ∧ _); refine ⟨_, rfl, ?_⟩)
  | ((with_reducible show ∃ x, ixN _ _ = some x ∧ _); refine ⟨_, rfl, ?_⟩)
  | ((with_reducible show List.length _ ≤ 100000 ∧ _); refine ⟨by (try simp only [List.length_cons, List.length_nil]); first | decide | omega, ?_⟩))
local macro_rules | `(tactic| walk_at "y") => `(tactic| first | walk_at "yo" | walk_at "ye" | walk_at "yv" | walk_at "ys" | walk_at "yd")
local macro_rules | `(tactic| walk_at "yx") => `(tactic| first | walk_at "yo" | walk_at "ye" | walk_at "yv" | walk_at "yd")

/-- the size of a row -/
def sizeD (far : Bool) (d : Dt) : Dt := match d with
  | .tup (.str w :: rest) => if w = "room" then rest.headD .non else if w = "put" then .int 2 else if far = true then (match ([("name", .int 2), ("jump", .int 3), ("ifzero", .int 5), ("call", .int 3)] : List (Str × V)).lookup w with | some v => vD v | none => .int 1) else .int 1
  | _ => .non
def fieldsD (far : Bool) (d : Dt) : List Dt := match d with
  | .tup (.str w :: _) => if w = "address" then [.tup [.int 0, .str "whole"]] else if far = true ∧ (([("name", .int 2), ("jump", .int 3), ("ifzero", .int 5), ("call", .int 3)] : List (Str × V)).lookup w).isSome = true then (if w = "ifzero" then [.tup [.int 2, .str "high"], .tup [.int 3, .str "low"]] else [.tup [.int 0, .str "high"], .tup [.int 1, .str "low"]]) else []
  | _ => []
theorem lookup_sc : ∀ {kvs : List (Str × V)} {z : Str} {v : V}, kvs.all (fun p => scV p.2) = true → kvs.lookup z = some v → scV v = true
  | [], z, v, _, h => by cases h
  | (a, u) :: kvs, z, v, ha, h => by
    simp only [List.all_cons, Bool.and_eq_true] at ha
    rw [List.lookup_cons] at h
    split at h
    · cases h; exact ha.1
    · exact lookup_sc ha.2 h
theorem size_tab {w' : Str} {rest : List Dt} (h0 : ¬ w' = "room") : (getK [.inr "put", .inr "name", .inr "jump", .inr "ifzero", .inr "call"] [.lst [.int 2, .int 2], .lst [.int 1, .int 2], .lst [.int 1, .int 3], .lst [.int 1, .int 5], .lst [.int 1, .int 3]] (.inr w')).getD (.lst [.int 1, .int 1]) = .lst [sizeD false (.tup (.str w' :: rest)), sizeD true (.tup (.str w' :: rest))] := by
  have f1 : sizeD false (.tup (.str w' :: rest)) = if w' = "put" then .int 2 else .int 1 := by
    show ite _ _ _ = _
    rw [if_neg h0]
    by_cases h : w' = "put"
    · rw [if_pos h, if_pos h]
    · rw [if_neg h, if_neg h, if_neg (by decide)]
  have f2 : sizeD true (.tup (.str w' :: rest)) = if w' = "put" then .int 2 else (match ([("name", .int 2), ("jump", .int 3), ("ifzero", .int 5), ("call", .int 3)] : List (Str × V)).lookup w' with | some v => vD v | none => .int 1) := by
    show ite _ _ _ = _
    rw [if_neg h0]
    by_cases h : w' = "put"
    · rw [if_pos h, if_pos h]
    · rw [if_neg h, if_neg h, if_pos rfl]
  rw [f1, f2]
  have k : ∀ s : Str, ((Sum.inr s : Key) = Sum.inr w') = (s = w') := fun s => by simp
  simp only [getK, k]
  by_cases h1 : w' = "put"
  · subst h1; rw [if_pos rfl, if_pos rfl, if_pos rfl]; rfl
  rw [if_neg (fun e => h1 e.symm), if_neg h1, if_neg h1]
  by_cases h2 : w' = "name"
  · subst h2; rw [if_pos rfl]
    have : ([("name", .int 2), ("jump", .int 3), ("ifzero", .int 5), ("call", .int 3)] : List (Str × V)).lookup ("name" : Str) = some (V.int 2) := by decide +kernel
    rw [this]; rfl
  rw [if_neg (fun e => h2 e.symm)]
  by_cases h3 : w' = "jump"
  · subst h3; rw [if_pos rfl]
    have : ([("name", .int 2), ("jump", .int 3), ("ifzero", .int 5), ("call", .int 3)] : List (Str × V)).lookup ("jump" : Str) = some (V.int 3) := by decide +kernel
    rw [this]; rfl
  rw [if_neg (fun e => h3 e.symm)]
  by_cases h4 : w' = "ifzero"
  · subst h4; rw [if_pos rfl]
    have : ([("name", .int 2), ("jump", .int 3), ("ifzero", .int 5), ("call", .int 3)] : List (Str × V)).lookup ("ifzero" : Str) = some (V.int 5) := by decide +kernel
    rw [this]; rfl
  rw [if_neg (fun e => h4 e.symm)]
  by_cases h5 : w' = "call"
  · subst h5; rw [if_pos rfl]
    have : ([("name", .int 2), ("jump", .int 3), ("ifzero", .int 5), ("call", .int 3)] : List (Str × V)).lookup ("call" : Str) = some (V.int 3) := by decide +kernel
    rw [this]; rfl
  rw [if_neg (fun e => h5 e.symm)]
  have g1 : (w' == ("name" : Str)) = false := by simpa using h2
  have g2 : (w' == ("jump" : Str)) = false := by simpa using h3
  have g3 : (w' == ("ifzero" : Str)) = false := by simpa using h4
  have g4 : (w' == ("call" : Str)) = false := by simpa using h5
  have : ([("name", .int 2), ("jump", .int 3), ("ifzero", .int 5), ("call", .int 3)] : List (Str × V)).lookup w' = none := by
    simp only [List.lookup_cons, g1, g2, g3, g4, List.lookup_nil]
  rw [this]; rfl
def rowPre (ds : List Dt) : Prop := ∃ d far, ds = [d, .bl far] ∧ RowW d
def sizePost (ds : List Dt) (x : Dt) : Prop := ∃ d far, ds = [d, .bl far] ∧ x = sizeD far d
def fieldsPost (ds : List Dt) (xs : List Dt) : Prop := ∃ d far, ds = [d, .bl far] ∧ xs = fieldsD far d
theorem size_k {d : Dt} {far : Bool} {R : Dt → Prop} (h0 : RowW d) (h : R (sizeD far d)) : rowPre [d, .bl far] ∧ ∀ x, sizePost [d, .bl far] x → R x := ⟨⟨d, far, rfl, h0⟩, fun x ⟨d', f', e, e2⟩ => by cases e; subst e2; exact h⟩
theorem fields_k {d : Dt} {far : Bool} {R : List Dt → Prop} (h0 : RowW d) (h : R (fieldsD far d)) : rowPre [d, .bl far] ∧ ∀ x, fieldsPost [d, .bl far] x → R x := ⟨⟨d, far, rfl, h0⟩, fun x ⟨d', f', e, e2⟩ => by cases e; subst e2; exact h⟩
section
variable {P : Program} {w : World} {K : PySem.W.Frag} {mg : Str → Option Value} {base : Heap}

theorem ok_row_size (T : Tx K mg w) : FnOk P w K mg base CX0 1 T.a_row_size T.d_row_size ["row", "long"] (spD K rowPre sizePost) := by
  refine fn_dataD T.F_row_size sc_row_size (fun ds h => ?_) (fun cdv A outer s H E hr => ⟨_, (pss_cons (ps_if (pt_cmpR (op_eqA (K := K) hr.units) (pe_ix (ix_any (K := K)) (pv 0) pe_int (fun _ _ => rfl)) pe_str (nomark _)) (pss_one (ps_ret (pe_ix (ix_any (K := K)) (pv 0) pe_int (fun _ _ => rfl)))) pss_nil)
      (pss_cons (ps_if (pt_cmpR (op_eqA (K := K) hr.units) (pe_ix (ix_any (K := K)) (pv 0) pe_int (fun _ _ => rfl)) pe_str (nomark _)) (pss_one (ps_ret pe_int)) pss_nil)
      (pss_one (ps_ret (pe_ifExp (PW.pt (pw_and (pt_val (pv 1)) (pw_and1 (pt_cmpR (op_inKD (K := K) (w := w)) (pe_ix (ix_any (K := K)) (pv 0) pe_int (fun _ _ => rfl)) (pe_glob (v := .ref T.a_LONG_SIZES) (by rfl) T.m_LONG_SIZES rfl) (by rfl))))) (pe_ix (ix_kd (K := K) (w := w)) (pe_glob (v := .ref T.a_LONG_SIZES) (by rfl) T.m_LONG_SIZES rfl) (pe_ix (ix_any (K := K)) (pv 0) pe_int (fun _ _ => rfl)) (fun _ _ => rfl)) pe_int))))), fun F0 H0 ds h => ?_⟩)
  · obtain ⟨d, far, rfl, _⟩ := h; rfl
  · obtain ⟨d, far, rfl, w', rest, rfl, hk⟩ := h
    dsimp only [cxOf, env0, env1, List.map, List.length, List.replicate, List.cons_append, List.nil_append, List.append, Nat.reduceAdd, Nat.reduceSub, Nat.zero_add]
    repeat walk_at "y"
    refine ways (fun h => ?_) (fun h => ?_)
    · have e := of_decide_eq_true h
      obtain ⟨k, rfl⟩ := hk e
      repeat walk_at "y"
      exact ⟨_, far, rfl, by show _ = ite _ _ _; rw [if_pos e]; rfl⟩
    have e1 := of_decide_eq_false h
    repeat walk_at "y"
    refine ways (fun h => ?_) (fun h => ?_)
    · have e := of_decide_eq_true h
      repeat walk_at "y"
      exact ⟨_, far, rfl, by show _ = ite _ _ _; rw [if_neg e1, if_pos e]⟩
    have e2 := of_decide_eq_false h
    repeat walk_at "y"
    refine ways (fun h => ?_) (fun h => ?_)
    · refine et_test (ev_inKD T.kd_LONG_SIZES ?_)
      repeat walk_at "y"
      refine ways (fun h2 => ?_) (fun h2 => ?_)
      · obtain ⟨v, hv⟩ := Option.isSome_iff_exists.mp h2
        refine ev_ixKD T.kd_LONG_SIZES ?_
        repeat walk_at "y"
        refine ⟨v, hv, ?_, _, far, rfl, ?_⟩
        · exact lookup_sc (by decide) hv
        · show _ = ite _ _ _
          rw [if_neg e1, if_neg e2, if_pos h, hv]
      · repeat walk_at "y"
        refine ⟨_, far, rfl, ?_⟩
        show _ = ite _ _ _
        have h2' : List.lookup w' ([("name", .int 2), ("jump", .int 3), ("ifzero", .int 5), ("call", .int 3)] : List (Str × V)) = none := by simpa using h2
        rw [if_neg e1, if_neg e2, if_pos h, h2']
    · repeat walk_at "y"
      refine ⟨_, far, rfl, ?_⟩
      show _ = ite _ _ _
      rw [if_neg e1, if_neg e2, if_neg (by rw [h]; decide)]
end
end Law
namespace Law
open PySem L2 Y
local macro_rules | `(tactic| walk_at "yv") => `(tactic| ((with_reducible show Ev _ (tVar _) _ _); refine ev_var rfl ?_))
local macro_rules | `(tactic| walk_at "ys") => `(tactic| with_reducible first
  | refine sm_seq ?_ | refine sm_ret ?_ | refine sm_if ?_ | refine sm_set ?_ | refine sm_next ?_ | refine sm_par ?_ | refine sm_drop ?_ | refine sm_brk ?_ | refine sm_cont ?_)
local macro_rules | `(tactic| walk_at "ye") => `(tactic| with_reducible first
  | refine ev_op ?_ | refine ev_and ?_ | refine ev_or ?_ | refine ev_not ?_ | refine ev_if ?_ | refine ev_chain ?_ | refine ev_neg ?_ | refine ev_isInt ?_ | refine ev_isBool ?_ | refine ev_isStr ?_ | refine ev_isList ?_ | refine ev_isTuple ?_ | refine ev_isLT ?_
  | refine ev_int ?_ | refine ev_str ?_ | refine ev_bl ?_ | refine ev_non ?_ | refine ev_call ?_ | refine ev_cb ?_ | refine ev_lst ?_ | refine ev_tup ?_ | refine ev_join ?_
  | refine ea_nil ?_ | refine ea_cons ?_
  | refine et_B ?_ | refine et_test ?_ | refine et_not ?_ | refine et_and ?_ | refine et_or ?_ | refine et_yes ?_
  | refine o_plusI ?_ | refine o_i0 ?_ | refine o_b0 ?_ | refine o_isN ?_ | refine o_notN ?_
  | refine bl_ex ?_ | refine int_ex ?_ | refine str_ex ?_ | refine lst_ex ?_ | refine tup_ex ?_)
local macro_rules | `(tactic| walk_at "yo") => `(tactic| first
  | ((with_reducible show Ev _ (tOp (rIx _) (tVar _) _) _ _); refine ev_ixOwn rfl ?_)
  | ((with_reducible show Ev _ (tCB _ (tCons (tVar _) tNil)) _ _); refine ev_lenOwn rfl ?_)
  | ((with_reducible show Sm _ (tAsg _ (gSub (tVar _) _ _)) _ _); refine sm_setItem rfl ?_)
  | ((with_reducible show Ev _ (tCall (spB _ _ _) _ _ _) _ _); refine ev_callB rfl rfl ?_))
local macro_rules | `(tactic| walk_at "yc") => `(tactic| first
  | ((with_reducible show CMul _ _); first | exact Or.inr ⟨by decide, by decide⟩ | exact Or.inl ⟨by decide, by decide⟩ | exact Or.inr ⟨by omega, by omega⟩ | exact Or.inl ⟨by omega, by omega⟩)
  | ((with_reducible show CDiv _ _); exact ⟨by first | decide | omega, by first | decide | omega⟩)
  | ((with_reducible show CPow _ _); exact ⟨by decide, by decide, by decide⟩)
  | ((show (0 : Int) < _); first | decide | omega))
local macro_rules | `(tactic| walk_at "yd") => `(tactic| first
  | ((with_reducible show plainD _ = true ∧ _); refine ⟨by first | rfl | assumption, ?_⟩)
  | ((with_reducible show (_ = true → _) ∧ (_ = false → _)); first | refine way_t rfl ?_ | refine way_f rfl ?_)
  | ((with_reducible show Cal _ _ _ _ _); first | (with_reducible refine c_int ?_) | (with_reducible refine c_abs ?_) | (refine c_len rfl ?_) | (refine c_len (if_pos (by assumption)) ?_))
  | ((with_reducible show Op2 _ (rEqA _) _ _ _ _); refine o_eqA rfl ?_)
  | ((with_reducible show Op2 _ (rNeA _) _ _ _ _); refine o_neA rfl ?_)
  | ((with_reducible show Op2 _ (rI _ _) _ _ _ _); refine o_i (by walk_at "yc") ?_)
  | ((with_reducible show Op2 _ (rIx _) _ (Dt.tup _) _ _); refine o_ixAT (atI_toNat (by decide) rfl) ?_)
  | ((with_reducible show Op2 _ (rIx _) _ (Dt.lst _) _ _); refine o_ixAL (atI_toNat (by decide) rfl) ?_)
  | ((with_reducible show ∃ x, atI _ _ = some x ∧ _); refine ⟨_, rfl, ?_⟩)
  | ((with_reducible show ∃ x, ixN _ _ = some x ∧ _); refine ⟨_, rfl, ?_⟩)
  | ((with_reducible show List.length _ ≤ 100000 ∧ _); refine ⟨by (try simp only [List.length_cons, List.length_nil]); first | decide | omega, ?_⟩))
local macro_rules | `(tactic| walk_at "y") => `(tactic| first | walk_at "yo" | walk_at "ye" | walk_at "yv" | walk_at "ys" | walk_at "yd")
local macro_rules | `(tactic| walk_at "yx") => `(tactic| first | walk_at "yo" | walk_at "ye" | walk_at "yv" | walk_at "yd")
section
variable {P : Program} {w : World} {K : PySem.W.Frag} {mg : Str → Option Value} {base : Heap}

theorem ok_row_fields (T : Tx K mg w) : FnOk P w K mg base CX0 1 T.a_row_fields T.d_row_fields ["row", "long"] (spO K rowPre fieldsPost) := by
  refine fn_ownD T.F_row_fields sc_row_fields (fun ds h => ?_) (fun cdv A outer s H E hr => ⟨_, (pss_cons (ps_if (pt_cmpR (op_eqA (K := K) hr.units) (pe_ix (ix_any (K := K)) (pv 0) pe_int (fun _ _ => rfl)) pe_str (nomark _)) (pss_one (ps_ret (pe_lst (pa_cons (pe_tup (pa_cons pe_int (pa_cons pe_str pa_nil))) pa_nil)))) pss_nil)
      (pss_cons (ps_if (PW.pt (pw_or (pt_not (pt_val (pv 1))) (pw_or1 (pt_cmpR (op_niKD (K := K) (w := w)) (pe_ix (ix_any (K := K)) (pv 0) pe_int (fun _ _ => rfl)) (pe_glob (v := .ref T.a_LONG_SIZES) (by rfl) T.m_LONG_SIZES rfl) (by rfl))))) (pss_one (ps_ret (pe_lst pa_nil))) pss_nil)
      (pss_cons (ps_set (i := 2) sc_row_fields.nd rfl (Or.inl rfl) (pe_ifExp (pt_cmpR (op_eqA (K := K) hr.units) (pe_ix (ix_any (K := K)) (pv 0) pe_int (fun _ _ => rfl)) pe_str (nomark _)) pe_int pe_int))
      (pss_one (ps_ret (pe_lst (pa_cons (pe_tup (pa_cons (pv 2) (pa_cons pe_str pa_nil))) (pa_cons (pe_tup (pa_cons (pe_op (op_plus (K := K)) (pv 2) pe_int) (pa_cons pe_str pa_nil))) pa_nil)))))))), fun F0 H0 ds h => ?_⟩)
  · obtain ⟨d, far, rfl, _⟩ := h; rfl
  · obtain ⟨d, far, rfl, w', rest, rfl, hk⟩ := h
    dsimp only [cxOf, env0, env1, List.map, List.length, List.replicate, List.cons_append, List.nil_append, List.append, Nat.reduceAdd, Nat.reduceSub, Nat.zero_add]
    repeat walk_at "y"
    refine ways (fun h => ?_) (fun h => ?_)
    · have e := of_decide_eq_true h
      refine sm_retO (eo_lst ?_)
      repeat walk_at "y"
      exact ⟨_, far, rfl, by show _ = ite _ _ _; rw [if_pos e]⟩
    have e1 := of_decide_eq_false h
    repeat walk_at "y"
    refine ways (fun h => ?_) (fun h => ?_)
    · have h : far = false := by simpa using h
      refine way_t rfl ?_
      refine sm_retO (eo_lst ?_)
      repeat walk_at "y"
      exact ⟨_, far, rfl, by show _ = ite _ _ _; rw [if_neg e1, if_neg (by rw [h]; simp)]⟩
    have hf : far = true := by simpa using h
    refine et_test (ev_niKD T.kd_LONG_SIZES ?_)
    repeat walk_at "y"
    refine ways (fun h2 => ?_) (fun h2 => ?_)
    · refine sm_retO (eo_lst ?_)
      repeat walk_at "y"
      refine ⟨_, far, rfl, ?_⟩
      show _ = ite _ _ _
      rw [if_neg e1, if_neg (fun q => by rw [q.2] at h2; cases h2)]
    have h3 : (([("name", .int 2), ("jump", .int 3), ("ifzero", .int 5), ("call", .int 3)] : List (Str × V)).lookup w').isSome = true := by simpa using h2
    repeat walk_at "y"
    refine ways (fun h => ?_) (fun h => ?_)
    · have e := of_decide_eq_true h
      refine ev_int ?_
      refine sm_retO (eo_lst ?_)
      repeat walk_at "y"
      refine ⟨_, far, rfl, ?_⟩
      show _ = ite _ _ _
      rw [if_neg e1, if_pos ⟨hf, h3⟩, if_pos e]
      rfl
    · have e := of_decide_eq_false h
      refine ev_int ?_
      refine sm_retO (eo_lst ?_)
      repeat walk_at "y"
      refine ⟨_, far, rfl, ?_⟩
      show _ = ite _ _ _
      rw [if_neg e1, if_pos ⟨hf, h3⟩, if_neg e]
      rfl

theorem ok__law_fields (T : Tx K mg w) : FnOk P w K mg base CX0 1 T.a__law_fields T.d__law_fields ["_law_one", "_law_far"] (spO K rowPre fieldsPost) := by
  refine fn_own T.F__law_fields sc__law_fields (fun ds h => ?_) (fun cdv A outer s H E hr => ⟨_, (pss_cons (ps_if (pt_cmpR (op_eqA (K := K) hr.units) (pe_ix (ix_any (K := K)) (pv 0) pe_int (fun _ _ => rfl)) pe_str (nomark _)) (pss_one (ps_ret (pe_lst (pa_cons (pe_tup (pa_cons pe_int (pa_cons pe_str pa_nil))) pa_nil)))) pss_nil)
      (pss_cons (ps_if (PW.pt (pw_or (pt_not (pt_val (pv 1))) (pw_or1 (pt_cmpR (op_niA (K := K)) (pe_ix (ix_any (K := K)) (pv 0) pe_int (fun _ _ => rfl)) (pe_lst (pa_cons pe_str (pa_cons pe_str (pa_cons pe_str (pa_cons pe_str pa_nil))))) (by rfl))))) (pss_one (ps_ret (pe_lst pa_nil))) pss_nil)
      (pss_one (ps_ret (pe_ifExp (pt_cmpR (op_eqA (K := K) hr.units) (pe_ix (ix_any (K := K)) (pv 0) pe_int (fun _ _ => rfl)) pe_str (nomark _)) (pe_lst (pa_cons (pe_tup (pa_cons pe_int (pa_cons pe_str pa_nil))) (pa_cons (pe_tup (pa_cons pe_int (pa_cons pe_str pa_nil))) pa_nil))) (pe_lst (pa_cons (pe_tup (pa_cons pe_int (pa_cons pe_str pa_nil))) (pa_cons (pe_tup (pa_cons pe_int (pa_cons pe_str pa_nil))) pa_nil)))))))), fun F0 H0 ds h => ?_⟩)
  · obtain ⟨d, far, rfl, _⟩ := h; rfl
  · obtain ⟨d, far, rfl, w', rest, rfl, hk⟩ := h
    dsimp only [cxOf, env0, env1, List.map, List.length, List.replicate, List.cons_append, List.nil_append, List.append, Nat.reduceAdd, Nat.reduceSub, Nat.zero_add]
    have key : inD (.str w') [.str "name", .str "jump", .str "ifzero", .str "call"] = (([("name", .int 2), ("jump", .int 3), ("ifzero", .int 5), ("call", .int 3)] : List (Str × V)).lookup w').isSome := by
      simp only [inD, List.any_cons, List.any_nil, eqD, List.lookup_cons, List.lookup_nil]
      by_cases h1 : w' = "name"
      · subst h1; decide +kernel
      by_cases h2 : w' = "jump"
      · subst h2; decide +kernel
      by_cases h3 : w' = "ifzero"
      · subst h3; decide +kernel
      by_cases h4 : w' = "call"
      · subst h4; decide +kernel
      have g1 : (w' == ("name" : Str)) = false := by simpa using h1
      have g2 : (w' == ("jump" : Str)) = false := by simpa using h2
      have g3 : (w' == ("ifzero" : Str)) = false := by simpa using h3
      have g4 : (w' == ("call" : Str)) = false := by simpa using h4
      have k1 : (("name" : Str) == w') = false := by simpa using fun q => h1 q.symm
      have k2 : (("jump" : Str) == w') = false := by simpa using fun q => h2 q.symm
      have k3 : (("ifzero" : Str) == w') = false := by simpa using fun q => h3 q.symm
      have k4 : (("call" : Str) == w') = false := by simpa using fun q => h4 q.symm
      simp only [g1, g2, g3, g4, k1, k2, k3, k4]
      rfl
    repeat walk_at "y"
    refine ways (fun h => ?_) (fun h => ?_)
    · have e := of_decide_eq_true h
      refine sm_retO (eo_lst ?_)
      repeat walk_at "y"
      exact ⟨_, far, rfl, by show _ = ite _ _ _; rw [if_pos e]⟩
    have e1 := of_decide_eq_false h
    repeat walk_at "y"
    refine ways (fun h => ?_) (fun h => ?_)
    · have h : far = false := by simpa using h
      refine way_t rfl ?_
      refine sm_retO (eo_lst ?_)
      repeat walk_at "y"
      exact ⟨_, far, rfl, by show _ = ite _ _ _; rw [if_neg e1, if_neg (by rw [h]; simp)]⟩
    have hf : far = true := by simpa using h
    repeat walk_at "y"
    refine o_niAL rfl rfl ?_
    rw [key]
    repeat walk_at "y"
    refine ways (fun h2 => ?_) (fun h2 => ?_)
    · refine sm_retO (eo_lst ?_)
      repeat walk_at "y"
      refine ⟨_, far, rfl, ?_⟩
      show _ = ite _ _ _
      rw [if_neg e1, if_neg (fun q => by rw [q.2] at h2; cases h2)]
    have h3 : (([("name", .int 2), ("jump", .int 3), ("ifzero", .int 5), ("call", .int 3)] : List (Str × V)).lookup w').isSome = true := by simpa using h2
    refine sm_next (sm_retO (eo_if ?_))
    repeat walk_at "y"
    refine ways (fun h => ?_) (fun h => ?_)
    · have e := of_decide_eq_true h
      refine eo_lst ?_
      repeat walk_at "y"
      refine ⟨_, far, rfl, ?_⟩
      show _ = ite _ _ _
      rw [if_neg e1, if_pos ⟨hf, h3⟩, if_pos e]
    · have e := of_decide_eq_false h
      refine eo_lst ?_
      repeat walk_at "y"
      refine ⟨_, far, rfl, ?_⟩
      show _ = ite _ _ _
      rw [if_neg e1, if_pos ⟨hf, h3⟩, if_neg e]

theorem ok__law_size (T : Tx K mg w) : FnOk P w K mg base CX0 1 T.a__law_size T.d__law_size ["_law_one", "_law_far"] (spD K rowPre sizePost) := by
  refine fn_data T.F__law_size sc__law_size (fun ds h => ?_) (fun cdv A outer s H E hr => ⟨_, (pss_cons (ps_if (pt_cmpR (op_eqA (K := K) hr.units) (pe_ix (ix_any (K := K)) (pv 0) pe_int (fun _ _ => rfl)) pe_str (nomark _)) (pss_one (ps_ret (pe_ix (ix_any (K := K)) (pv 0) pe_int (fun _ _ => rfl)))) pss_nil)
      (pss_cons (ps_set (i := 2) sc__law_size.nd rfl (Or.inl rfl) (pe_disp (pps_cons pe_str (pe_lst (pa_cons pe_int (pa_cons pe_int pa_nil))) (pps_cons pe_str (pe_lst (pa_cons pe_int (pa_cons pe_int pa_nil))) (pps_cons pe_str (pe_lst (pa_cons pe_int (pa_cons pe_int pa_nil))) (pps_cons pe_str (pe_lst (pa_cons pe_int (pa_cons pe_int pa_nil))) (pps_cons pe_str (pe_lst (pa_cons pe_int (pa_cons pe_int pa_nil))) pps_nil))))) (by rfl) (by rfl) (fun z => by cases z) (by decide)))
      (pss_one (ps_ret (pe_ix (ix_any (K := K)) (pe_dget2 (hu_of hr) (pv 2) (pe_ix (ix_any (K := K)) (pv 0) pe_int (fun _ _ => rfl)) (pe_lst (pa_cons pe_int (pa_cons pe_int pa_nil))) ⟨rfl, rfl, rfl, rfl⟩) (pe_callTy call_int1 (by rfl) T.n_int PyProof.Rows.boot_int (pa_cons (pv 1) pa_nil)) (fun _ _ => rfl)))))), fun F0 H0 ds h => ?_⟩)
  · obtain ⟨d, far, rfl, _⟩ := h; rfl
  · obtain ⟨d, far, rfl, w', rest, rfl, hk⟩ := h
    dsimp only [cxOf, env0, env1, List.map, List.length, List.replicate, List.cons_append, List.nil_append, List.append, Nat.reduceAdd, Nat.reduceSub, Nat.zero_add]
    repeat walk_at "y"
    refine ways (fun h => ?_) (fun h => ?_)
    · have e := of_decide_eq_true h
      obtain ⟨k, rfl⟩ := hk e
      repeat walk_at "y"
      exact ⟨_, far, rfl, by show _ = ite _ _ _; rw [if_pos e]; rfl⟩
    have e1 := of_decide_eq_false h
    refine sm_next ?_
    refine sm_seq (sm_set (ev_disp ?_))
    repeat (refine eps_cons (ev_str ⟨.inr _, rfl, ?_⟩); repeat walk_at "yx")
    refine eps_nil ⟨by decide +kernel, by decide, ?_⟩
    refine sm_ret (ev_op (ev_get2 (ev_var rfl ⟨_, _, rfl, ?_⟩)))
    repeat walk_at "yx"
    refine ⟨.inr w', rfl, ?_⟩
    repeat walk_at "yx"
    refine c_intB ?_
    rw [size_tab (rest := rest) e1]
    cases far with
    | true => exact o_ixAL (atI_toNat (by decide) rfl) ⟨_, _, rfl, rfl⟩
    | false => exact o_ixAL (atI_toNat (by decide) rfl) ⟨_, _, rfl, rfl⟩
end
end Law
namespace Law
open PySem L2 Y
local macro_rules | `(tactic| walk_at "yv") => `(tactic| ((with_reducible show Ev _ (tVar _) _ _); refine ev_var rfl ?_))
local macro_rules | `(tactic| walk_at "ys") => `(tactic| with_reducible first
  | refine sm_seq ?_ | refine sm_ret ?_ | refine sm_if ?_ | refine sm_set ?_ | refine sm_next ?_ | refine sm_par ?_ | refine sm_drop ?_ | refine sm_brk ?_ | refine sm_cont ?_)
local macro_rules | `(tactic| walk_at "ye") => `(tactic| with_reducible first
  | refine ev_op ?_ | refine ev_and ?_ | refine ev_or ?_ | refine ev_not ?_ | refine ev_if ?_ | refine ev_chain ?_ | refine ev_neg ?_ | refine ev_isInt ?_ | refine ev_isBool ?_ | refine ev_isStr ?_ | refine ev_isList ?_ | refine ev_isTuple ?_ | refine ev_isLT ?_
  | refine ev_int ?_ | refine ev_str ?_ | refine ev_bl ?_ | refine ev_non ?_ | refine ev_call ?_ | refine ev_cb ?_ | refine ev_lst ?_ | refine ev_tup ?_ | refine ev_join ?_
  | refine ea_nil ?_ | refine ea_cons ?_
  | refine et_B ?_ | refine et_test ?_ | refine et_not ?_ | refine et_and ?_ | refine et_or ?_ | refine et_yes ?_
  | refine o_plusI ?_ | refine o_i0 ?_ | refine o_b0 ?_ | refine o_isN ?_ | refine o_notN ?_
  | refine bl_ex ?_ | refine int_ex ?_ | refine str_ex ?_ | refine lst_ex ?_ | refine tup_ex ?_)
local macro_rules | `(tactic| walk_at "yo") => `(tactic| first
  | ((with_reducible show Ev _ (tOp (rIx _) (tVar _) _) _ _); refine ev_ixOwn rfl ?_)
  | ((with_reducible show Ev _ (tCB _ (tCons (tVar _) tNil)) _ _); refine ev_lenOwn rfl ?_)
  | ((with_reducible show Sm _ (tAsg _ (gSub (tVar _) _ _)) _ _); refine sm_setItem rfl ?_)
  | ((with_reducible show Ev _ (tCall (spB _ _ _) _ _ _) _ _); refine ev_callB rfl rfl ?_))
local macro_rules | `(tactic| walk_at "yc") => `(tactic| first
  | ((with_reducible show CMul _ _); first | exact Or.inr ⟨by decide, by decide⟩ | exact Or.inl ⟨by decide, by decide⟩ | exact Or.inr ⟨by omega, by omega⟩ | exact Or.inl ⟨by omega, by omega⟩)
  | ((with_reducible show CDiv _ _); exact ⟨by first | decide | omega, by first | decide | omega⟩)
  | ((with_reducible show CPow _ _); exact ⟨by decide, by decide, by decide⟩)
  | ((show (0 : Int) < _); first | decide | omega))
local macro_rules | `(tactic| walk_at "yd") => `(tactic| first
  | ((with_reducible show plainD _ = true ∧ _); refine ⟨by first | rfl | assumption, ?_⟩)
  | ((with_reducible show (_ = true → _) ∧ (_ = false → _)); first | refine way_t rfl ?_ | refine way_f rfl ?_)
  | ((with_reducible show Cal _ _ _ _ _); first | (with_reducible refine c_int ?_) | (with_reducible refine c_abs ?_) | (refine c_len rfl ?_) | (refine c_len (if_pos (by assumption)) ?_))
  | ((with_reducible show Op2 _ (rEqA _) _ _ _ _); refine o_eqA rfl ?_)
  | ((with_reducible show Op2 _ (rNeA _) _ _ _ _); refine o_neA rfl ?_)
  | ((with_reducible show Op2 _ (rI _ _) _ _ _ _); refine o_i (by walk_at "yc") ?_)
  | ((with_reducible show Op2 _ (rIx _) _ (Dt.tup _) _ _); refine o_ixAT (atI_toNat (by decide) rfl) ?_)
  | ((with_reducible show Op2 _ (rIx _) _ (Dt.lst _) _ _); refine o_ixAL (atI_toNat (by decide) rfl) ?_)
  | ((with_reducible show ∃ x, atI _ _ = some x ∧ _); refine ⟨_, rfl, ?_⟩)
  | ((with_reducible show ∃ x, ixN _ _ = some x ∧ _); refine ⟨_, rfl, ?_⟩)
  | ((with_reducible show List.length _ ≤ 100000 ∧ _); refine ⟨by (try simp only [List.length_cons, List.length_nil]); first | decide | omega, ?_⟩))
local macro_rules | `(tactic| walk_at "y") => `(tactic| first | walk_at "yo" | walk_at "ye" | walk_at "yv" | walk_at "ys" | walk_at "yd")
local macro_rules | `(tactic| walk_at "yx") => `(tactic| first | walk_at "yo" | walk_at "ye" | walk_at "yv" | walk_at "yd")
theorem gkr_row_size_0_long_row {K : PySem.W.Frag} : ∀ (F : Hp) (vs : List V) (ds : List Dt) (zs : List V) (as : List Dt), RpAll K F vs ds → RpAll K F zs as → RpAll K F (gk_row_size_0_long_row [(.bl false)] vs zs) (gk_row_size_0_long_row [(.bl false)] ds as) := by
  intro F vs ds zs as h1 h2
  cases h1 with
  | cons _ _ => first | exact .nil | (cases h2 <;> exact .nil)
  | nil =>
    cases h2 with
    | nil => exact .nil
    | cons b0 t20 =>
      cases t20 with
      | nil => exact .nil
      | cons b1 t21 =>
        cases t21 with
        | cons _ _ => exact .nil
        | nil =>
          exact .cons b1 (.cons b0 .nil)
theorem gkr_row_fields_0_row_long {K : PySem.W.Frag} : ∀ (F : Hp) (vs : List V) (ds : List Dt) (zs : List V) (as : List Dt), RpAll K F vs ds → RpAll K F zs as → RpAll K F (gk_row_fields_0_row_long [(.bl false)] vs zs) (gk_row_fields_0_row_long [(.bl false)] ds as) := by
  intro F vs ds zs as h1 h2
  cases h1 with
  | cons _ _ => first | exact .nil | (cases h2 <;> exact .nil)
  | nil =>
    cases h2 with
    | nil => exact .nil
    | cons b0 t20 =>
      cases t20 with
      | nil => exact .nil
      | cons b1 t21 =>
        cases t21 with
        | cons _ _ => exact .nil
        | nil =>
          exact .cons b0 (.cons b1 .nil)
section
variable {P : Program} {w : World} {K : PySem.W.Frag} {mg : Str → Option Value} {base : Heap}

theorem size_int {far : Bool} {d : Dt} (h : RowW d) : ∃ k, sizeD far d = .int k := by
  obtain ⟨w', rest, rfl, hk⟩ := h
  show ∃ k, ite _ _ _ = _
  by_cases h0 : w' = "room"
  · obtain ⟨k, rfl⟩ := hk h0; rw [if_pos h0]; exact ⟨k, rfl⟩
  rw [if_neg h0]
  by_cases h1 : w' = "put"
  · rw [if_pos h1]; exact ⟨_, rfl⟩
  rw [if_neg h1]
  by_cases h2 : far = true
  · rw [if_pos h2]
    simp only [List.lookup_cons, List.lookup_nil]
    by_cases g1 : (w' == ("name" : Str)) = true
    · rw [g1]; exact ⟨_, rfl⟩
    rw [Bool.not_eq_true _ |>.mp g1]
    by_cases g2 : (w' == ("jump" : Str)) = true
    · rw [g2]; exact ⟨_, rfl⟩
    rw [Bool.not_eq_true _ |>.mp g2]
    by_cases g3 : (w' == ("ifzero" : Str)) = true
    · rw [g3]; exact ⟨_, rfl⟩
    rw [Bool.not_eq_true _ |>.mp g3]
    by_cases g4 : (w' == ("call" : Str)) = true
    · rw [g4]; exact ⟨_, rfl⟩
    rw [Bool.not_eq_true _ |>.mp g4]
    exact ⟨_, rfl⟩
  · rw [if_neg h2]; exact ⟨_, rfl⟩
theorem fields_see {far : Bool} {d : Dt} (h : RowW d) (a : Addr) (xs : List Dt) : seeAll a xs (fieldsD far d) = fieldsD far d ∧ (Dt.lst (fieldsD far d)).pureD = true ∧ (Dt.lst (fieldsD far d)).depth < 4 := by
  obtain ⟨w', rest, rfl, hk⟩ := h
  have h : ∀ l, l = fieldsD far (.tup (.str w' :: rest)) → seeAll a xs l = l ∧ (Dt.lst l).pureD = true ∧ (Dt.lst l).depth < 4 := by
    intro l e
    have e : l = ite _ _ _ := e
    split at e
    · subst e; simp [seeAll, Dt.see, Dt.pureD, Dt.depth, pureAll, depthAll]
    split at e
    · split at e <;> (subst e; simp [seeAll, Dt.see, Dt.pureD, Dt.depth, pureAll, depthAll])
    · subst e; simp [seeAll, Dt.see, Dt.pureD, Dt.depth, pureAll, depthAll]
  exact h _ rfl
theorem fields_len {far : Bool} {d : Dt} (h : RowW d) : (fieldsD far d).length ≤ 2 := by
  obtain ⟨w', rest, rfl, hk⟩ := h
  have h : ∀ l, l = fieldsD far (.tup (.str w' :: rest)) → l.length ≤ 2 := by
    intro l e
    have e : l = ite _ _ _ := e
    split at e
    · subst e; simp
    split at e
    · split at e <;> (subst e; simp)
    · subst e; simp
  exact h _ rfl
def eachPost (_ : List Dt) (d : Dt) : Prop := ∃ xs, d = .lst xs ∧ xs.length ≤ 100 ∧ ∀ x ∈ xs, RowW x
theorem each_k {t : Dt} {R : Dt → Prop} (ht : NamesD t) (h : ∀ xs : List Dt, xs.length ≤ 100 → (∀ x ∈ xs, RowW x) → R (.lst xs)) : namesPre [t] ∧ ∀ d, eachPost [t] d → R d := ⟨⟨t, rfl, ht⟩, fun d ⟨xs, e, h1, h2⟩ => by subst e; exact h xs h1 h2⟩
theorem rowW_lit {w : Str} {rest : List Dt} (h : ¬ w = "room") : RowW (.tup (.str w :: rest)) := ⟨w, rest, rfl, fun e => absurd e h⟩
theorem rowW_room {k : Int} : RowW (.tup [.str "room", .int k]) := ⟨_, _, rfl, fun _ => ⟨k, rfl⟩⟩
theorem ok__law_each (T : Tx K mg w) : FnOk P w K mg base CX0 5 T.a__law_each T.d__law_each ["_law_bag_here", "_law_titles_here"] (spB K namesPre eachPost) := by
  have G__law_draw := ok__law_draw (P := P) (w := w) (base := base) T
  have G__law_of := ok__law_of (P := P) (w := w) (base := base) T
  have G__law_r := ok__law_r (P := P) (w := w) (base := base) T
  have G__law_number := ok__law_number (P := P) (w := w) (base := base) T
  have G__law_code_row := ok__law_code_row (P := P) (w := w) (base := base) T
  have G__law_data_row := ok__law_data_row (P := P) (w := w) (base := base) T
  refine fn_bag T.F__law_each sc__law_each (fun ds h => ?_) (fun cdv A outer s H E hr => ⟨_, (pss_cons (ps_par3 (i := 2) (j := 3) (l := 4) rfl sc__law_each.nd rfl rfl rfl (by decide) (by decide) (by decide) rfl rfl rfl (pa_cons (pe_call G__law_r (hr.mono (by decide)) (by rfl) T.m__law_r T.k__law_r T.b__law_r .nil pass0 (pa_cons (pv 0) pa_nil)) (pa_cons (pe_call G__law_r (hr.mono (by decide)) (by rfl) T.m__law_r T.k__law_r T.b__law_r .nil pass0 (pa_cons (pv 0) pa_nil)) (pa_cons (pe_call G__law_of (hr.mono (by decide)) (by rfl) T.m__law_of T.k__law_of T.b__law_of .nil pass0 (pa_cons (pv 0) (pa_cons (pv 1) pa_nil))) pa_nil))) rfl)
      (pss_cons (ps_set (i := 5) sc__law_each.nd rfl (Or.inl rfl) (pe_lst (pa_cons (pe_tup (pa_cons pe_str (pa_cons (pv 2) (pa_cons (pe_call G__law_number (hr.mono (by decide)) (by rfl) T.m__law_number T.k__law_number T.b__law_number .nil pass0 (pa_cons (pv 0) pa_nil)) pa_nil)))) (pa_cons (pe_tup (pa_cons pe_str (pa_cons (pv 2) (pa_cons (pv 4) pa_nil)))) (pa_cons (pe_tup (pa_cons pe_str (pa_cons (pv 2) (pa_cons (pv 3) pa_nil)))) (pa_cons (pe_tup (pa_cons pe_str (pa_cons (pv 2) (pa_cons (pv 3) pa_nil)))) (pa_cons (pe_tup (pa_cons pe_str (pa_cons (pv 2) (pa_cons (pv 3) (pa_cons (pe_call G__law_draw (hr.mono (by decide)) (by rfl) T.m__law_draw T.k__law_draw T.b__law_draw .nil pass0 (pa_cons (pv 0) (pa_cons pe_int pa_nil))) pa_nil))))) pa_nil)))))))
      (pss_cons (ps_set (i := 5) sc__law_each.nd rfl (Or.inl rfl) (pe_op (op_plus (K := K)) (pv 5) (pe_lst (pa_cons (pe_tup (pa_cons pe_str (pa_cons (pv 2) (pa_cons (pv 3) (pa_cons (pe_call G__law_draw (hr.mono (by decide)) (by rfl) T.m__law_draw T.k__law_draw T.b__law_draw .nil pass0 (pa_cons (pv 0) (pa_cons pe_int pa_nil))) pa_nil))))) (pa_cons (pe_tup (pa_cons pe_str (pa_cons (pv 4) pa_nil))) (pa_cons (pe_tup (pa_cons pe_str (pa_cons (pv 2) (pa_cons (pv 4) pa_nil)))) (pa_cons (pe_tup (pa_cons pe_str (pa_cons (pv 4) pa_nil))) (pa_cons (pe_tup (pa_cons pe_str (pa_cons (pv 2) pa_nil))) (pa_cons (pe_tup (pa_cons pe_str pa_nil)) pa_nil)))))))))
      (pss_cons (ps_set (i := 5) sc__law_each.nd rfl (Or.inl rfl) (pe_op (op_plus (K := K)) (pv 5) (pe_lst (pa_cons (pe_tup (pa_cons pe_str (pa_cons (pv 2) pa_nil))) (pa_cons (pe_tup (pa_cons pe_str pa_nil)) (pa_cons (pe_tup (pa_cons pe_str (pa_cons (pe_op (op_plus (K := K)) pe_int (pe_call G__law_draw (hr.mono (by decide)) (by rfl) T.m__law_draw T.k__law_draw T.b__law_draw .nil pass0 (pa_cons (pv 0) (pa_cons pe_int pa_nil)))) pa_nil))) (pa_cons (pe_tup (pa_cons pe_str (pa_cons pe_int pa_nil))) (pa_cons (pe_tup (pa_cons pe_str (pa_cons pe_int pa_nil))) (pa_cons (pe_tup (pa_cons pe_str (pa_cons (pe_call G__law_number (hr.mono (by decide)) (by rfl) T.m__law_number T.k__law_number T.b__law_number .nil pass0 (pa_cons (pv 0) pa_nil)) pa_nil))) pa_nil)))))))))
      (pss_one (ps_ret (pe_op (op_plus (K := K)) (pv 5) (pe_lst (pa_cons (pe_tup (pa_cons pe_str (pa_cons (pv 4) pa_nil))) (pa_cons (pe_call G__law_code_row (hr.mono (by decide)) (by rfl) T.m__law_code_row T.k__law_code_row T.b__law_code_row .nil pass0 (pa_cons (pv 0) (pa_cons (pv 1) pa_nil))) (pa_cons (pe_call G__law_data_row (hr.mono (by decide)) (by rfl) T.m__law_data_row T.k__law_data_row T.b__law_data_row .nil pass0 (pa_cons (pv 0) (pa_cons (pv 1) pa_nil))) pa_nil))))))))))), fun F0 H0 b ds h => ?_⟩)
  · obtain ⟨t, rfl, _⟩ := h; rfl
  · obtain ⟨t, rfl, ht⟩ := h
    dsimp only [cxOf, env0, env1, List.map, List.length, List.replicate, List.cons_append, List.nil_append, List.append, Nat.reduceAdd, Nat.reduceSub, Nat.zero_add]
    refine sm_seq (sm_par3 ?_)
    repeat walk_at "yx"
    refine r_k fun r1 hr1 => ?_
    repeat walk_at "yx"
    refine r_k fun r2 hr2 => ?_
    repeat walk_at "yx"
    refine of_names ht fun nm hnm => ?_
    repeat walk_at "yx"
    refine ⟨_, _, _, rfl, ?_⟩
    refine sm_seq (sm_set ?_)
    repeat walk_at "yx"
    refine number_k fun n1 a1 b1 => ?_
    repeat walk_at "yx"
    refine draw_k ⟨by decide, by decide⟩ fun d1 c1 c2 => ?_
    repeat walk_at "yx"
    refine sm_seq (sm_set ?_)
    repeat walk_at "yx"
    refine draw_k ⟨by decide, by decide⟩ fun d2 c3 c4 => ?_
    repeat walk_at "yx"
    refine o_plusL (by show 5 + 6 ≤ 100000; decide) ?_
    refine sm_seq (sm_set ?_)
    repeat walk_at "yx"
    refine draw_k ⟨by decide, by decide⟩ fun d3 c5 c6 => ?_
    repeat walk_at "yx"
    refine number_k fun n2 a2 b2 => ?_
    repeat walk_at "yx"
    refine o_plusL (by show 11 + 6 ≤ 100000; decide) ?_
    refine sm_ret ?_
    repeat walk_at "yx"
    refine code_k ht fun cr hcr => ?_
    repeat walk_at "yx"
    refine data_k ht fun dr hdr => ?_
    repeat walk_at "yx"
    refine o_plusL (by show 17 + 3 ≤ 100000; decide) ?_
    refine ⟨_, rfl, by show 20 ≤ 100; decide, ?_⟩
    intro x hx
    simp only [List.cons_append, List.nil_append, List.mem_cons, List.not_mem_nil, or_false] at hx
    rcases hx with rfl | rfl | rfl | rfl | rfl | rfl | rfl | rfl | rfl | rfl | rfl | rfl | rfl | rfl | rfl | rfl | rfl | rfl | rfl | rfl
    all_goals first | exact rowW_code hcr | exact rowW_data hdr | exact rowW_room | exact rowW_lit (by decide +kernel)

theorem ok_law (T : Tx K mg w) : FnOk P w K mg base CX0 13 T.a_law T.d_law ["_law_script"] (spLaw K) := by
  have G__law_bag := ok__law_bag (P := P) (w := w) (base := base) T
  have G__law_titles := ok__law_titles (P := P) (w := w) (base := base) T
  have G__law_each := ok__law_each (P := P) (w := w) (base := base) T
  have G__law_same := ok__law_same (P := P) (w := w) (base := base) T 6
  have G__law_size := ok__law_size (P := P) (w := w) (base := base) T
  have G__law_fields := ok__law_fields (P := P) (w := w) (base := base) T
  have G_row_size := ok_row_size (P := P) (w := w) (base := base) T
  have G_row_fields := ok_row_fields (P := P) (w := w) (base := base) T
  refine fn_law T.F_law sc_law (fun cdv A outer s H E hr => ⟨_, (pss_cons (ps_set (i := 1) sc_law.nd rfl (Or.inl rfl) (pe_call G__law_bag (hr.mono (by decide)) (by rfl) T.m__law_bag T.k__law_bag T.b__law_bag .nil pass0 (pa_cons (pv 0) pa_nil)))
      (pss_cons (ps_set (i := 2) sc_law.nd rfl (Or.inl rfl) (pe_call G__law_titles (hr.mono (by decide)) (by rfl) T.m__law_titles T.k__law_titles T.b__law_titles .nil pass0 (pa_cons (pv 1) (pa_cons pe_int pa_nil))))
      (pss_cons (ps_for PassesOwn.never rfl (pi_listA (K := K) (pe_call G__law_each (hr.mono (by decide)) (by rfl) T.m__law_each T.k__law_each T.b__law_each .nil pass0 (pa_cons (pv 1) (pa_cons (pv 2) pa_nil)))) (pg_name (i := 3) sc_law.nd rfl (Or.inl rfl)) (pss_cons (ps_for PassesOwn.never rfl (pi_listA (K := K) (pe_lst (pa_cons pe_bl (pa_cons pe_bl pa_nil)))) (pg_name (i := 4) sc_law.nd rfl (Or.inl rfl)) (pss_cons (ps_set (i := 5) sc_law.nd rfl (Or.inl rfl) (pe_lst (pa_cons (pe_call G__law_size (hr.mono (by decide)) (by rfl) T.m__law_size T.k__law_size T.b__law_size .nil pass0 (pa_cons (pv 3) (pa_cons (pv 4) pa_nil))) (pa_cons (pe_call G__law_fields (hr.mono (by decide)) (by rfl) T.m__law_fields T.k__law_fields T.b__law_fields .nil pass0 (pa_cons (pv 3) (pa_cons (pv 4) pa_nil))) pa_nil))))
      (pss_cons (ps_set (i := 6) sc_law.nd rfl (Or.inl rfl) (pe_call G_row_fields (hr.mono (by decide)) (by rfl) T.m_row_fields T.k_row_fields (T.b_row_fields_2) (T.v_row_fields_2) pass0 (pa_cons (pv 3) (pa_cons (pv 4) pa_nil))))
      (pss_cons (ps_set (i := 7) sc_law.nd rfl (Or.inl rfl) (pe_lst (pa_cons (pe_call G_row_size (hr.mono (by decide)) (by rfl) T.m_row_size T.k_row_size (T.b_row_size_2) (T.v_row_size_2) pass0 (pa_cons (pv 3) (pa_cons (pv 4) pa_nil))) (pa_cons (pv 6) (pa_cons (pe_callN0 G_row_size (hr.mono (by decide)) (by rfl) T.m_row_size T.k_row_size T.kb_row_size_0_long_row pass0 (pk_cons (pv 4) (pk_cons (pv 3) pk_nil))) (pa_cons (pe_callN0 G_row_fields (hr.mono (by decide)) (by rfl) T.m_row_fields T.k_row_fields T.kb_row_fields_0_row_long pass0 (pk_cons (pv 3) (pk_cons (pv 4) pk_nil))) pa_nil))))))
      (pss_cons (ps_if (pt_not (pt_val (pe_call G__law_same (hr.mono (by decide)) (by rfl) T.m__law_same T.k__law_same T.b__law_same .nil pass0 (pa_cons (pv 7) (pa_cons (pe_op (op_plus (K := K)) (pv 5) (pv 5)) pa_nil))))) (pss_one (ps_ret pe_bl)) pss_nil)
      (pss_cons (ps_expr (pe_bm PySem.F.plainAttrs_list PySem.F.slot_list_append PySem.F.type_list_append mt_append (pv 6) (pa_cons (pe_tup (pa_cons pe_int (pa_cons pe_str pa_nil))) pa_nil)))
      (pss_cons (ps_expr (pe_bm0 PySem.F.plainAttrs_list PySem.F.slot_list_reverse PySem.F.type_list_reverse mt_reverse (pv 6)))
      (pss_one (ps_if (pt_not (pt_val (pe_call G__law_same (hr.mono (by decide)) (by rfl) T.m__law_same T.k__law_same T.b__law_same .nil pass0 (pa_cons (pe_call G_row_fields (hr.mono (by decide)) (by rfl) T.m_row_fields T.k_row_fields (T.b_row_fields_2) (T.v_row_fields_2) pass0 (pa_cons (pv 3) (pa_cons (pv 4) pa_nil))) (pa_cons (pe_ix (ix_any (K := K)) (pv 5) pe_int (fun _ _ => rfl)) pa_nil))))) (pss_one (ps_ret pe_bl)) pss_nil)))))))))
      (pss_one (ps_if (pt_not (pt_val (pe_call G__law_same (hr.mono (by decide)) (by rfl) T.m__law_same T.k__law_same T.b__law_same .nil pass0 (pa_cons (pe_lst (pa_cons (pe_call G_row_size (hr.mono (by decide)) (by rfl) T.m_row_size T.k_row_size (T.b_row_size_1) (T.v_row_size_1) pass0 (pa_cons (pv 3) pa_nil)) (pa_cons (pe_call G_row_fields (hr.mono (by decide)) (by rfl) T.m_row_fields T.k_row_fields (T.b_row_fields_1) (T.v_row_fields_1) pass0 (pa_cons (pv 3) pa_nil)) pa_nil))) (pa_cons (pe_lst (pa_cons (pe_call G__law_size (hr.mono (by decide)) (by rfl) T.m__law_size T.k__law_size T.b__law_size .nil pass0 (pa_cons (pv 3) (pa_cons pe_bl pa_nil))) (pa_cons (pe_call G__law_fields (hr.mono (by decide)) (by rfl) T.m__law_fields T.k__law_fields T.b__law_fields .nil pass0 (pa_cons (pv 3) (pa_cons pe_bl pa_nil))) pa_nil))) pa_nil))))) (pss_one (ps_ret pe_bl)) pss_nil))))
      (pss_one (ps_ret (pe_call G__law_same (hr.mono (by decide)) (by rfl) T.m__law_same T.k__law_same T.b__law_same .nil pass0 (pa_cons (pe_glob (v := .int 4) (by rfl) T.m_STUB T.r_STUB) (pa_cons pe_int pa_nil)))))))), fun F0 H0 a b => ?_⟩) (by decide)
  dsimp only [cxOf, env0, env1, List.map, List.length, List.replicate, List.cons_append, List.nil_append, List.append, Nat.reduceAdd, Nat.reduceSub, Nat.zero_add]
  refine sm_seq (sm_set ?_)
  repeat walk_at "yx"
  refine titles_k ⟨by decide, by decide⟩ fun ss h1 h2 h3 => ?_
  refine sm_seq (sm_for (ei_list ?_))
  repeat walk_at "yx"
  refine each_k ⟨ss, rfl, by omega, by omega, h2⟩ fun xs hx1 hx2 => ?_
  repeat walk_at "yx"
  refine ⟨fun _ e => ∃ s2 s3 s4 s5 s6 s7, e = [.r (.ref a), .r (.ref b), s2, s3, s4, s5, s6, s7], ⟨_, _, _, _, _, _, rfl⟩, ?_, ?_⟩
  · rintro i x es' hx ⟨s2, s3, s4, s5, s6, s7, rfl⟩
    have hrow : RowW x := hx2 x (List.mem_of_getElem? hx)
    refine tg_name ?_
    refine sm_seq (sm_for (ei_list ?_))
    repeat walk_at "yx"
    refine ⟨fun _ e => ∃ s4 s5 s6 s7, e = [.r (.ref a), .r (.ref b), s2, .d x, s4, s5, s6, s7], ⟨_, _, _, _, rfl⟩, ?_, ?_⟩
    · rintro j y es' hy ⟨s4, s5, s6, s7, rfl⟩
      have hf : ∃ far, y = .bl far := by
        rcases j with _ | _ | j
        · cases hy; exact ⟨_, rfl⟩
        · cases hy; exact ⟨_, rfl⟩
        · cases hy
      obtain ⟨far, rfl⟩ := hf
      obtain ⟨k, hk⟩ := size_int (far := far) hrow
      refine tg_name ?_
      refine sm_seq (sm_set (ev_lst ?_))
      repeat walk_at "yx"
      refine size_k hrow ?_
      refine ea_cons (EvO.ev (eo_call ?_))
      repeat walk_at "yx"
      refine fields_k hrow ?_
      repeat walk_at "yx"
      refine sm_seq (sm_setO (eo_call ?_))
      repeat walk_at "yx"
      refine fields_k hrow fun c => ?_
      refine sm_seq (sm_set (ev_lst ?_))
      refine ea_cons (ev_call ?_)
      repeat walk_at "yx"
      refine size_k hrow ?_
      refine ea_cons (ev_varOwn rfl ?_)
      refine ea_cons (ev_callN (gD := gk_row_size_0_long_row [.bl false]) gkr_row_size_0_long_row ?_)
      repeat walk_at "yx"
      refine ⟨rfl, rfl, size_k hrow ?_⟩
      refine ea_cons (EvO.ev (eo_callN (gD := gk_row_fields_0_row_long [.bl false]) gkr_row_fields_0_row_long ?_))
      repeat walk_at "yx"
      refine ⟨rfl, rfl, fields_k hrow ?_⟩
      repeat walk_at "yx"
      rw [hk]
      refine sm_seq (sm_if (et_not (et_test (ev_callSee (i := 6) rfl ?_))))
      repeat walk_at "yx"
      refine o_plusL (by show 2 + 2 ≤ 100000; decide) ?_
      repeat walk_at "yx"
      have hs := fields_see (far := far) hrow c (fieldsD far x)
      have e1 : seeAll c (fieldsD far x) [Dt.lst [Dt.int k, .ali c, .int k, .lst (fieldsD far x)], .lst ([Dt.int k, .lst (fieldsD far x)] ++ [Dt.int k, .lst (fieldsD far x)])] = [.lst [.int k, .lst (fieldsD far x), .int k, .lst (fieldsD far x)], .lst [.int k, .lst (fieldsD far x), .int k, .lst (fieldsD far x)]] := by
        simp [seeAll, Dt.see, hs.1]
      rw [e1]
      have hp := hs.2.1
      have hd := hs.2.2
      refine same_k rfl (by simp only [Dt.pureD] at hp ⊢; simp [pureAll, Dt.pureD, hp]) (by simp only [Dt.depth] at hd ⊢; simp only [depthAll, Dt.depth]; omega) ⟨rfl, ?_⟩
      refine bl_ex ?_
      refine way_f rfl ?_
      refine sm_next ?_
      refine sm_seq (sm_append rfl ?_)
      repeat walk_at "yx"
      refine ⟨Nat.lt_of_le_of_lt (fields_len hrow) (by decide), ?_⟩
      refine sm_seq (sm_reverse rfl ?_)
      refine sm_if (et_not (et_test (ev_call ?_)))
      refine ea_cons (EvO.ev (eo_call ?_))
      repeat walk_at "yx"
      refine fields_k hrow ?_
      repeat walk_at "yx"
      refine same_k rfl hp (by omega) ?_
      repeat walk_at "y"
      exact ⟨_, _, _, _, rfl⟩
    · rintro es' ⟨s4, s5, s6, s7, rfl⟩
      obtain ⟨k, hk⟩ := size_int (far := false) hrow
      have hs := fields_see (far := false) hrow 0 []
      have hp := hs.2.1
      have hd := hs.2.2
      refine sm_if (et_not (et_test (ev_call ?_)))
      refine ea_cons (ev_lst ?_)
      refine ea_cons (ev_callD (dds := [.bl false]) (fun F => .cons (.bl false) .nil) ?_)
      repeat walk_at "yx"
      refine size_k hrow ?_
      refine ea_cons (EvO.ev (eo_callD (dds := [.bl false]) (fun F => .cons (.bl false) .nil) ?_))
      repeat walk_at "yx"
      refine fields_k hrow ?_
      repeat walk_at "yx"
      refine size_k hrow ?_
      refine ea_cons (EvO.ev (eo_call ?_))
      repeat walk_at "yx"
      refine fields_k hrow ?_
      repeat walk_at "yx"
      rw [hk]
      refine same_k rfl (by simp only [Dt.pureD] at hp ⊢; simp [pureAll, Dt.pureD, hp]) (by simp only [Dt.depth] at hd ⊢; simp only [depthAll, Dt.depth]; omega) ?_
      repeat walk_at "y"
      exact ⟨_, _, _, _, _, _, rfl⟩
  · rintro es' ⟨s2, s3, s4, s5, s6, s7, rfl⟩
    refine sm_ret ?_
    repeat walk_at "yx"
    refine same_k rfl (by simp [Dt.pureD]) (by simp [Dt.depth]) rfl
end
end Law
namespace Law
open PySem L2 Y
local macro_rules | `(tactic| walk_at "yv") => `(tactic| ((with_reducible show Ev _ (tVar _) _ _); refine ev_var rfl ?_))
local macro_rules | `(tactic| walk_at "ys") => `(tactic| with_reducible first
  | refine sm_seq ?_ | refine sm_ret ?_ | refine sm_if ?_ | refine sm_set ?_ | refine sm_next ?_ | refine sm_par ?_ | refine sm_drop ?_ | refine sm_brk ?_ | refine sm_cont ?_)
local macro_rules | `(tactic| walk_at "ye") => `(tactic| with_reducible first
  | refine ev_op ?_ | refine ev_and ?_ | refine ev_or ?_ | refine ev_not ?_ | refine ev_if ?_ | refine ev_chain ?_ | refine ev_neg ?_ | refine ev_isInt ?_ | refine ev_isBool ?_ | refine ev_isStr ?_ | refine ev_isList ?_ | refine ev_isTuple ?_ | refine ev_isLT ?_
  | refine ev_int ?_ | refine ev_str ?_ | refine ev_bl ?_ | refine ev_non ?_ | refine ev_call ?_ | refine ev_cb ?_ | refine ev_lst ?_ | refine ev_tup ?_ | refine ev_join ?_
  | refine ea_nil ?_ | refine ea_cons ?_
  | refine et_B ?_ | refine et_test ?_ | refine et_not ?_ | refine et_and ?_ | refine et_or ?_ | refine et_yes ?_
  | refine o_plusI ?_ | refine o_i0 ?_ | refine o_b0 ?_ | refine o_isN ?_ | refine o_notN ?_
  | refine bl_ex ?_ | refine int_ex ?_ | refine str_ex ?_ | refine lst_ex ?_ | refine tup_ex ?_)
local macro_rules | `(tactic| walk_at "yo") => `(tactic| first
  | ((with_reducible show Ev _ (tOp (rIx _) (tVar _) _) _ _); refine ev_ixOwn rfl ?_)
  | ((with_reducible show Ev _ (tCB _ (tCons (tVar _) tNil)) _ _); refine ev_lenOwn rfl ?_)
  | ((with_reducible show Sm _ (tAsg _ (gSub (tVar _) _ _)) _ _); refine sm_setItem rfl ?_)
  | ((with_reducible show Ev _ (tCall (spB _ _ _) _ _ _) _ _); refine ev_callB rfl rfl ?_))
local macro_rules | `(tactic| walk_at "yc") => `(tactic| first
  | ((with_reducible show CMul _ _); first | exact Or.inr ⟨by decide, by decide⟩ | exact Or.inl ⟨by decide, by decide⟩ | exact Or.inr ⟨by omega, by omega⟩ | exact Or.inl ⟨by omega, by omega⟩)
  | ((with_reducible show CDiv _ _); exact ⟨by first | decide | omega, by first | decide | omega⟩)
  | ((with_reducible show CPow _ _); exact ⟨by decide, by decide, by decide⟩)
  | ((show (0 : Int) < _); first | decide | omega))
local macro_rules | `(tactic| walk_at "yd") => `(tactic| first
  | ((with_reducible show plainD _ = true ∧ _); refine ⟨by first | rfl | assumption, ?_⟩)
  | ((with_reducible show (_ = true → _) ∧ (_ = false → _)); first | refine way_t rfl ?_ | refine way_f rfl ?_)
  | ((with_reducible show Cal _ _ _ _ _); first | (with_reducible refine c_int ?_) | (with_reducible refine c_abs ?_) | (refine c_len rfl ?_) | (refine c_len (if_pos (by assumption)) ?_))
  | ((with_reducible show Op2 _ (rEqA _) _ _ _ _); refine o_eqA rfl ?_)
  | ((with_reducible show Op2 _ (rNeA _) _ _ _ _); refine o_neA rfl ?_)
  | ((with_reducible show Op2 _ (rI _ _) _ _ _ _); refine o_i (by walk_at "yc") ?_)
  | ((with_reducible show Op2 _ (rIx _) _ (Dt.tup _) _ _); refine o_ixAT (atI_toNat (by decide) rfl) ?_)
  | ((with_reducible show Op2 _ (rIx _) _ (Dt.lst _) _ _); refine o_ixAL (atI_toNat (by decide) rfl) ?_)
  | ((with_reducible show ∃ x, atI _ _ = some x ∧ _); refine ⟨_, rfl, ?_⟩)
  | ((with_reducible show ∃ x, ixN _ _ = some x ∧ _); refine ⟨_, rfl, ?_⟩)
  | ((with_reducible show List.length _ ≤ 100000 ∧ _); refine ⟨by (try simp only [List.length_cons, List.length_nil]); first | decide | omega, ?_⟩))
local macro_rules | `(tactic| walk_at "y") => `(tactic| first | walk_at "yo" | walk_at "ye" | walk_at "yv" | walk_at "ys" | walk_at "yd")
local macro_rules | `(tactic| walk_at "yx") => `(tactic| first | walk_at "yo" | walk_at "ye" | walk_at "yv" | walk_at "yd")
theorem gkw_row_size_0_long_row {fv : List V} {fu : List Value} {vs zs : List V} {us ws : List Value} (h0 : Vals fv fu) (h1 : Vals vs us) (h2 : Vals zs ws) : Vals (gk_row_size_0_long_row fv vs zs) (gk_row_size_0_long_row fu us ws) := by
  cases h0 with
  | nil => (first | exact .nil | (cases h1 <;> first | exact .nil | (cases h2 <;> exact .nil)) | (cases h2 <;> exact .nil))
  | cons c0 tc0 =>
    cases tc0 with
    | cons _ _ => (first | exact .nil | (cases h1 <;> first | exact .nil | (cases h2 <;> exact .nil)) | (cases h2 <;> exact .nil))
    | nil =>
      cases h1 with
      | cons _ _ => (first | exact .nil | (cases h1 <;> first | exact .nil | (cases h2 <;> exact .nil)) | (cases h2 <;> exact .nil))
      | nil =>
        cases h2 with
        | nil => (first | exact .nil | (cases h1 <;> first | exact .nil | (cases h2 <;> exact .nil)) | (cases h2 <;> exact .nil))
        | cons b0 tb0 =>
          cases tb0 with
          | nil => (first | exact .nil | (cases h1 <;> first | exact .nil | (cases h2 <;> exact .nil)) | (cases h2 <;> exact .nil))
          | cons b1 tb1 =>
            cases tb1 with
            | cons _ _ => (first | exact .nil | (cases h1 <;> first | exact .nil | (cases h2 <;> exact .nil)) | (cases h2 <;> exact .nil))
            | nil =>
              exact .cons b1 (.cons b0 (.nil))
theorem gkw_row_fields_0_row_long {fv : List V} {fu : List Value} {vs zs : List V} {us ws : List Value} (h0 : Vals fv fu) (h1 : Vals vs us) (h2 : Vals zs ws) : Vals (gk_row_fields_0_row_long fv vs zs) (gk_row_fields_0_row_long fu us ws) := by
  cases h0 with
  | nil => (first | exact .nil | (cases h1 <;> first | exact .nil | (cases h2 <;> exact .nil)) | (cases h2 <;> exact .nil))
  | cons c0 tc0 =>
    cases tc0 with
    | cons _ _ => (first | exact .nil | (cases h1 <;> first | exact .nil | (cases h2 <;> exact .nil)) | (cases h2 <;> exact .nil))
    | nil =>
      cases h1 with
      | cons _ _ => (first | exact .nil | (cases h1 <;> first | exact .nil | (cases h2 <;> exact .nil)) | (cases h2 <;> exact .nil))
      | nil =>
        cases h2 with
        | nil => (first | exact .nil | (cases h1 <;> first | exact .nil | (cases h2 <;> exact .nil)) | (cases h2 <;> exact .nil))
        | cons b0 tb0 =>
          cases tb0 with
          | nil => (first | exact .nil | (cases h1 <;> first | exact .nil | (cases h2 <;> exact .nil)) | (cases h2 <;> exact .nil))
          | cons b1 tb1 =>
            cases tb1 with
            | cons _ _ => (first | exact .nil | (cases h1 <;> first | exact .nil | (cases h2 <;> exact .nil)) | (cases h2 <;> exact .nil))
            | nil =>
              exact .cons b0 (.cons b1 (.nil))
theorem all_mk {l : PySem.W.OpenLaw} {w : World} {K : PySem.W.Frag} {h : Heap} {mg : Str → Option Value} {fa : Addr} (X : K.In h) (G : h.Ns mainGlobals mg) (hfa : mg "law" = some (.ref fa))
    {f_row_size : Addr} {od_row_size an_row_size : Option Addr} {sl_row_size : Array (Option Value)} {oc_row_size kV_row_size dc_row_size pm_row_size cd_row_size ct_row_size : Value}
    {t_row_size : Addr} {ot_row_size : Value} {dt_row_size : Option Addr} {it_row_size : List Value} {nt_row_size : Nat} {st_row_size : Array (Option Value)}
    (a_row_size : PySem.W.nsIn K mainGlobals "row_size" = some (some (.ref f_row_size))) (l_row_size : K.lookup f_row_size = some ⟨oc_row_size, od_row_size, .func (PySem.W.fnOf "row_size" "row_size" (defArgs s_row_size) (defBody s_row_size) (defScope s_row_size) (.ref t_row_size) kV_row_size dc_row_size pm_row_size an_row_size cd_row_size ct_row_size), sl_row_size⟩) (c_row_size : PySem.W.codeIn K cd_row_size "row_size" = true) (k_row_size : PySem.W.keepIn K (.ref f_row_size) = true)
    (lt_row_size : K.lookup t_row_size = some ⟨ot_row_size, dt_row_size, .seq it_row_size.toArray nt_row_size, st_row_size⟩) (vt_row_size : Vals [(.bl false)] it_row_size)
    {f_row_fields : Addr} {od_row_fields an_row_fields : Option Addr} {sl_row_fields : Array (Option Value)} {oc_row_fields kV_row_fields dc_row_fields pm_row_fields cd_row_fields ct_row_fields : Value}
    {t_row_fields : Addr} {ot_row_fields : Value} {dt_row_fields : Option Addr} {it_row_fields : List Value} {nt_row_fields : Nat} {st_row_fields : Array (Option Value)}
    (a_row_fields : PySem.W.nsIn K mainGlobals "row_fields" = some (some (.ref f_row_fields))) (l_row_fields : K.lookup f_row_fields = some ⟨oc_row_fields, od_row_fields, .func (PySem.W.fnOf "row_fields" "row_fields" (defArgs s_row_fields) (defBody s_row_fields) (defScope s_row_fields) (.ref t_row_fields) kV_row_fields dc_row_fields pm_row_fields an_row_fields cd_row_fields ct_row_fields), sl_row_fields⟩) (c_row_fields : PySem.W.codeIn K cd_row_fields "row_fields" = true) (k_row_fields : PySem.W.keepIn K (.ref f_row_fields) = true)
    (lt_row_fields : K.lookup t_row_fields = some ⟨ot_row_fields, dt_row_fields, .seq it_row_fields.toArray nt_row_fields, st_row_fields⟩) (vt_row_fields : Vals [(.bl false)] it_row_fields)
    {f__law_bag : Addr} {od__law_bag an__law_bag : Option Addr} {sl__law_bag : Array (Option Value)} {oc__law_bag kV__law_bag dc__law_bag pm__law_bag cd__law_bag ct__law_bag : Value}
    (a__law_bag : PySem.W.nsIn K mainGlobals "_law_bag" = some (some (.ref f__law_bag))) (l__law_bag : K.lookup f__law_bag = some ⟨oc__law_bag, od__law_bag, .func (PySem.W.fnOf "_law_bag" "_law_bag" (defArgs s__law_bag) (defBody s__law_bag) (defScope s__law_bag) .none kV__law_bag dc__law_bag pm__law_bag an__law_bag cd__law_bag ct__law_bag), sl__law_bag⟩) (c__law_bag : PySem.W.codeIn K cd__law_bag "_law_bag" = true) (k__law_bag : PySem.W.keepIn K (.ref f__law_bag) = true)
    {f__law_same : Addr} {od__law_same an__law_same : Option Addr} {sl__law_same : Array (Option Value)} {oc__law_same kV__law_same dc__law_same pm__law_same cd__law_same ct__law_same : Value}
    (a__law_same : PySem.W.nsIn K mainGlobals "_law_same" = some (some (.ref f__law_same))) (l__law_same : K.lookup f__law_same = some ⟨oc__law_same, od__law_same, .func (PySem.W.fnOf "_law_same" "_law_same" (defArgs s__law_same) (defBody s__law_same) (defScope s__law_same) .none kV__law_same dc__law_same pm__law_same an__law_same cd__law_same ct__law_same), sl__law_same⟩) (c__law_same : PySem.W.codeIn K cd__law_same "_law_same" = true) (k__law_same : PySem.W.keepIn K (.ref f__law_same) = true)
    {f__law_draw : Addr} {od__law_draw an__law_draw : Option Addr} {sl__law_draw : Array (Option Value)} {oc__law_draw kV__law_draw dc__law_draw pm__law_draw cd__law_draw ct__law_draw : Value}
    (a__law_draw : PySem.W.nsIn K mainGlobals "_law_draw" = some (some (.ref f__law_draw))) (l__law_draw : K.lookup f__law_draw = some ⟨oc__law_draw, od__law_draw, .func (PySem.W.fnOf "_law_draw" "_law_draw" (defArgs s__law_draw) (defBody s__law_draw) (defScope s__law_draw) .none kV__law_draw dc__law_draw pm__law_draw an__law_draw cd__law_draw ct__law_draw), sl__law_draw⟩) (c__law_draw : PySem.W.codeIn K cd__law_draw "_law_draw" = true) (k__law_draw : PySem.W.keepIn K (.ref f__law_draw) = true)
    {f__law_of : Addr} {od__law_of an__law_of : Option Addr} {sl__law_of : Array (Option Value)} {oc__law_of kV__law_of dc__law_of pm__law_of cd__law_of ct__law_of : Value}
    (a__law_of : PySem.W.nsIn K mainGlobals "_law_of" = some (some (.ref f__law_of))) (l__law_of : K.lookup f__law_of = some ⟨oc__law_of, od__law_of, .func (PySem.W.fnOf "_law_of" "_law_of" (defArgs s__law_of) (defBody s__law_of) (defScope s__law_of) .none kV__law_of dc__law_of pm__law_of an__law_of cd__law_of ct__law_of), sl__law_of⟩) (c__law_of : PySem.W.codeIn K cd__law_of "_law_of" = true) (k__law_of : PySem.W.keepIn K (.ref f__law_of) = true)
    {f__law_titles : Addr} {od__law_titles an__law_titles : Option Addr} {sl__law_titles : Array (Option Value)} {oc__law_titles kV__law_titles dc__law_titles pm__law_titles cd__law_titles ct__law_titles : Value}
    (a__law_titles : PySem.W.nsIn K mainGlobals "_law_titles" = some (some (.ref f__law_titles))) (l__law_titles : K.lookup f__law_titles = some ⟨oc__law_titles, od__law_titles, .func (PySem.W.fnOf "_law_titles" "_law_titles" (defArgs s__law_titles) (defBody s__law_titles) (defScope s__law_titles) .none kV__law_titles dc__law_titles pm__law_titles an__law_titles cd__law_titles ct__law_titles), sl__law_titles⟩) (c__law_titles : PySem.W.codeIn K cd__law_titles "_law_titles" = true) (k__law_titles : PySem.W.keepIn K (.ref f__law_titles) = true)
    {f__law_size : Addr} {od__law_size an__law_size : Option Addr} {sl__law_size : Array (Option Value)} {oc__law_size kV__law_size dc__law_size pm__law_size cd__law_size ct__law_size : Value}
    (a__law_size : PySem.W.nsIn K mainGlobals "_law_size" = some (some (.ref f__law_size))) (l__law_size : K.lookup f__law_size = some ⟨oc__law_size, od__law_size, .func (PySem.W.fnOf "_law_size" "_law_size" (defArgs s__law_size) (defBody s__law_size) (defScope s__law_size) .none kV__law_size dc__law_size pm__law_size an__law_size cd__law_size ct__law_size), sl__law_size⟩) (c__law_size : PySem.W.codeIn K cd__law_size "_law_size" = true) (k__law_size : PySem.W.keepIn K (.ref f__law_size) = true)
    {f__law_fields : Addr} {od__law_fields an__law_fields : Option Addr} {sl__law_fields : Array (Option Value)} {oc__law_fields kV__law_fields dc__law_fields pm__law_fields cd__law_fields ct__law_fields : Value}
    (a__law_fields : PySem.W.nsIn K mainGlobals "_law_fields" = some (some (.ref f__law_fields))) (l__law_fields : K.lookup f__law_fields = some ⟨oc__law_fields, od__law_fields, .func (PySem.W.fnOf "_law_fields" "_law_fields" (defArgs s__law_fields) (defBody s__law_fields) (defScope s__law_fields) .none kV__law_fields dc__law_fields pm__law_fields an__law_fields cd__law_fields ct__law_fields), sl__law_fields⟩) (c__law_fields : PySem.W.codeIn K cd__law_fields "_law_fields" = true) (k__law_fields : PySem.W.keepIn K (.ref f__law_fields) = true)
    {f__law_number : Addr} {od__law_number an__law_number : Option Addr} {sl__law_number : Array (Option Value)} {oc__law_number kV__law_number dc__law_number pm__law_number cd__law_number ct__law_number : Value}
    (a__law_number : PySem.W.nsIn K mainGlobals "_law_number" = some (some (.ref f__law_number))) (l__law_number : K.lookup f__law_number = some ⟨oc__law_number, od__law_number, .func (PySem.W.fnOf "_law_number" "_law_number" (defArgs s__law_number) (defBody s__law_number) (defScope s__law_number) .none kV__law_number dc__law_number pm__law_number an__law_number cd__law_number ct__law_number), sl__law_number⟩) (c__law_number : PySem.W.codeIn K cd__law_number "_law_number" = true) (k__law_number : PySem.W.keepIn K (.ref f__law_number) = true)
    {f__law_r : Addr} {od__law_r an__law_r : Option Addr} {sl__law_r : Array (Option Value)} {oc__law_r kV__law_r dc__law_r pm__law_r cd__law_r ct__law_r : Value}
    (a__law_r : PySem.W.nsIn K mainGlobals "_law_r" = some (some (.ref f__law_r))) (l__law_r : K.lookup f__law_r = some ⟨oc__law_r, od__law_r, .func (PySem.W.fnOf "_law_r" "_law_r" (defArgs s__law_r) (defBody s__law_r) (defScope s__law_r) .none kV__law_r dc__law_r pm__law_r an__law_r cd__law_r ct__law_r), sl__law_r⟩) (c__law_r : PySem.W.codeIn K cd__law_r "_law_r" = true) (k__law_r : PySem.W.keepIn K (.ref f__law_r) = true)
    {f__law_code_row : Addr} {od__law_code_row an__law_code_row : Option Addr} {sl__law_code_row : Array (Option Value)} {oc__law_code_row kV__law_code_row dc__law_code_row pm__law_code_row cd__law_code_row ct__law_code_row : Value}
    (a__law_code_row : PySem.W.nsIn K mainGlobals "_law_code_row" = some (some (.ref f__law_code_row))) (l__law_code_row : K.lookup f__law_code_row = some ⟨oc__law_code_row, od__law_code_row, .func (PySem.W.fnOf "_law_code_row" "_law_code_row" (defArgs s__law_code_row) (defBody s__law_code_row) (defScope s__law_code_row) .none kV__law_code_row dc__law_code_row pm__law_code_row an__law_code_row cd__law_code_row ct__law_code_row), sl__law_code_row⟩) (c__law_code_row : PySem.W.codeIn K cd__law_code_row "_law_code_row" = true) (k__law_code_row : PySem.W.keepIn K (.ref f__law_code_row) = true)
    {f__law_data_row : Addr} {od__law_data_row an__law_data_row : Option Addr} {sl__law_data_row : Array (Option Value)} {oc__law_data_row kV__law_data_row dc__law_data_row pm__law_data_row cd__law_data_row ct__law_data_row : Value}
    (a__law_data_row : PySem.W.nsIn K mainGlobals "_law_data_row" = some (some (.ref f__law_data_row))) (l__law_data_row : K.lookup f__law_data_row = some ⟨oc__law_data_row, od__law_data_row, .func (PySem.W.fnOf "_law_data_row" "_law_data_row" (defArgs s__law_data_row) (defBody s__law_data_row) (defScope s__law_data_row) .none kV__law_data_row dc__law_data_row pm__law_data_row an__law_data_row cd__law_data_row ct__law_data_row), sl__law_data_row⟩) (c__law_data_row : PySem.W.codeIn K cd__law_data_row "_law_data_row" = true) (k__law_data_row : PySem.W.keepIn K (.ref f__law_data_row) = true)
    {f__law_each : Addr} {od__law_each an__law_each : Option Addr} {sl__law_each : Array (Option Value)} {oc__law_each kV__law_each dc__law_each pm__law_each cd__law_each ct__law_each : Value}
    (a__law_each : PySem.W.nsIn K mainGlobals "_law_each" = some (some (.ref f__law_each))) (l__law_each : K.lookup f__law_each = some ⟨oc__law_each, od__law_each, .func (PySem.W.fnOf "_law_each" "_law_each" (defArgs s__law_each) (defBody s__law_each) (defScope s__law_each) .none kV__law_each dc__law_each pm__law_each an__law_each cd__law_each ct__law_each), sl__law_each⟩) (c__law_each : PySem.W.codeIn K cd__law_each "_law_each" = true) (k__law_each : PySem.W.keepIn K (.ref f__law_each) = true)
    {f_law : Addr} {od_law an_law : Option Addr} {sl_law : Array (Option Value)} {oc_law kV_law dc_law pm_law cd_law ct_law : Value}
    (a_law : PySem.W.nsIn K mainGlobals "law" = some (some (.ref f_law))) (l_law : K.lookup f_law = some ⟨oc_law, od_law, .func (PySem.W.fnOf "law" "law" (defArgs s_law) (defBody s_law) (defScope s_law) .none kV_law dc_law pm_law an_law cd_law ct_law), sl_law⟩) (c_law : PySem.W.codeIn K cd_law "law" = true) (k_law : PySem.W.keepIn K (.ref f_law) = true)
    {p_LONG_SIZES : Addr} {es_LONG_SIZES : Array DictEntry} {n_LONG_SIZES : Nat} (q_LONG_SIZES : PySem.W.nsIn K mainGlobals "LONG_SIZES" = some (some (.ref p_LONG_SIZES))) (l_LONG_SIZES : K.lookup p_LONG_SIZES = some ⟨.type "dict", none, .dict es_LONG_SIZES n_LONG_SIZES, #[]⟩) (kl_LONG_SIZES : PySem.W.KeysLit w.params es_LONG_SIZES.toList) (sy_LONG_SIZES : (p_LONG_SIZES == sysModules) = false) (pd_LONG_SIZES : Paired (fun (p : Str × V) (e : DictEntry) => (∃ t, e.key = .str p.1 t) ∧ RelV p.2 e.val) [("name", (.int 2)), ("jump", (.int 3)), ("ifzero", (.int 5)), ("call", (.int 3))] es_LONG_SIZES.toList)
    {u_STUB : Value} (q_STUB : PySem.W.nsIn K mainGlobals "STUB" = some (some u_STUB)) (r_STUB : RelV (.int 4) u_STUB)
    (z_list : PySem.W.nsIn K mainGlobals "list" = some none)
    (z_int : PySem.W.nsIn K mainGlobals "int" = some none)
    (z_isinstance : PySem.W.nsIn K mainGlobals "isinstance" = some none)
    (z_tuple : PySem.W.nsIn K mainGlobals "tuple" = some none)
    (z_all : PySem.W.nsIn K mainGlobals "all" = some none)
    (z_bool : PySem.W.nsIn K mainGlobals "bool" = some none)
    (z_str : PySem.W.nsIn K mainGlobals "str" = some none)
    (z_len : PySem.W.nsIn K mainGlobals "len" = some none)
    (z_zip : PySem.W.nsIn K mainGlobals "zip" = some none)
    (z_abs : PySem.W.nsIn K mainGlobals "abs" = some none)
    (z_range : PySem.W.nsIn K mainGlobals "range" = some none)
    : ∃ fd : FuncData, (∀ (s : Shared) (v : Value), BindsTo s fd ⟨[v], []⟩ [("_law_script", v)]) ∧ ∀ base : Heap, K.In base → base.Ns mainGlobals mg → FnOk l.prog w K mg base CX0 13 fa fd ["_law_script"] (spLaw K) := by
  have e := hfa.symm.trans (PySem.W.mg_of X G a_law)
  cases e
  have F_row_size : FunD K "row_size" "row_size" (defArgs s_row_size) (defBody s_row_size) (defScope s_row_size) [(.bl false)] [] f_row_size _ := ⟨⟨_, _, _, _, _, _, _, _, _, _, rfl, l_row_size, c_row_size, .inr ⟨by simp, t_row_size, _, it_row_size, nt_row_size, rfl, lt_row_size, rfl, vt_row_size⟩, .inl rfl⟩, k_row_size⟩
  have F_row_fields : FunD K "row_fields" "row_fields" (defArgs s_row_fields) (defBody s_row_fields) (defScope s_row_fields) [(.bl false)] [] f_row_fields _ := ⟨⟨_, _, _, _, _, _, _, _, _, _, rfl, l_row_fields, c_row_fields, .inr ⟨by simp, t_row_fields, _, it_row_fields, nt_row_fields, rfl, lt_row_fields, rfl, vt_row_fields⟩, .inl rfl⟩, k_row_fields⟩
  have F__law_bag := fun_mk (st := s__law_bag) l__law_bag c__law_bag k__law_bag
  have F__law_same := fun_mk (st := s__law_same) l__law_same c__law_same k__law_same
  have F__law_draw := fun_mk (st := s__law_draw) l__law_draw c__law_draw k__law_draw
  have F__law_of := fun_mk (st := s__law_of) l__law_of c__law_of k__law_of
  have F__law_titles := fun_mk (st := s__law_titles) l__law_titles c__law_titles k__law_titles
  have F__law_size := fun_mk (st := s__law_size) l__law_size c__law_size k__law_size
  have F__law_fields := fun_mk (st := s__law_fields) l__law_fields c__law_fields k__law_fields
  have F__law_number := fun_mk (st := s__law_number) l__law_number c__law_number k__law_number
  have F__law_r := fun_mk (st := s__law_r) l__law_r c__law_r k__law_r
  have F__law_code_row := fun_mk (st := s__law_code_row) l__law_code_row c__law_code_row k__law_code_row
  have F__law_data_row := fun_mk (st := s__law_data_row) l__law_data_row c__law_data_row k__law_data_row
  have F__law_each := fun_mk (st := s__law_each) l__law_each c__law_each k__law_each
  have F_law := fun_mk (st := s_law) l_law c_law k_law
  obtain ⟨e_row_fields_2, v_row_fields_2, b_row_fields_2⟩ := F_row_fields.binds1 (ps := ["row", "long"]) 2 1 (by simp) rfl fun _ _ _ _ _ _ _ us its h1 h2 => match us, its, h1, h2 with | [_, _], [_], _, _ => ⟨_, rfl, rfl⟩
  obtain ⟨e_row_size_2, v_row_size_2, b_row_size_2⟩ := F_row_size.binds1 (ps := ["row", "long"]) 2 1 (by simp) rfl fun _ _ _ _ _ _ _ us its h1 h2 => match us, its, h1, h2 with | [_, _], [_], _, _ => ⟨_, rfl, rfl⟩
  obtain ⟨e_row_size_1, v_row_size_1, b_row_size_1⟩ := F_row_size.binds1 (ps := ["row", "long"]) 1 0 (by simp) rfl fun _ _ _ _ _ _ _ us its h1 h2 => match us, its, h1, h2 with | [_], [_], _, _ => ⟨_, rfl, rfl⟩
  obtain ⟨e_row_fields_1, v_row_fields_1, b_row_fields_1⟩ := F_row_fields.binds1 (ps := ["row", "long"]) 1 0 (by simp) rfl fun _ _ _ _ _ _ _ us its h1 h2 => match us, its, h1, h2 with | [_], [_], _, _ => ⟨_, rfl, rfl⟩
  obtain ⟨fu_row_size_0_long_row, _, kb_row_size_0_long_row⟩ := kb_dfl (ps := ["row", "long"]) F_row_size 0 ["long", "row"] gk_row_size_0_long_row (by simp) (fun h1 h2 h3 => gkw_row_size_0_long_row h1 h2 h3) fun _ _ _ _ _ _ _ us its ws h1 h2 h3 => match us, its, ws, h1, h2, h3 with | [], [_], [_, _], _, _, _ => ⟨_, rfl, rfl⟩
  obtain ⟨fu_row_fields_0_row_long, _, kb_row_fields_0_row_long⟩ := kb_dfl (ps := ["row", "long"]) F_row_fields 0 ["row", "long"] gk_row_fields_0_row_long (by simp) (fun h1 h2 h3 => gkw_row_fields_0_row_long h1 h2 h3) fun _ _ _ _ _ _ _ us its ws h1 h2 h3 => match us, its, ws, h1, h2, h3 with | [], [_], [_, _], _, _, _ => ⟨_, rfl, rfl⟩
  let T : Tx K mg w := {
    a_row_size := f_row_size, d_row_size := _, F_row_size := F_row_size, m_row_size := PySem.W.mg_of X G a_row_size, k_row_size := k_row_size
    a_row_fields := f_row_fields, d_row_fields := _, F_row_fields := F_row_fields, m_row_fields := PySem.W.mg_of X G a_row_fields, k_row_fields := k_row_fields
    a__law_bag := f__law_bag, d__law_bag := _, F__law_bag := F__law_bag, m__law_bag := PySem.W.mg_of X G a__law_bag, k__law_bag := k__law_bag
    b__law_bag := F__law_bag.binds (ps := ["_law_script"]) fun _ _ _ _ _ _ us hl => match us, hl with | [_], _ => rfl
    a__law_same := f__law_same, d__law_same := _, F__law_same := F__law_same, m__law_same := PySem.W.mg_of X G a__law_same, k__law_same := k__law_same
    b__law_same := F__law_same.binds (ps := ["_law_found", "_law_due"]) fun _ _ _ _ _ _ us hl => match us, hl with | [_, _], _ => rfl
    a__law_draw := f__law_draw, d__law_draw := _, F__law_draw := F__law_draw, m__law_draw := PySem.W.mg_of X G a__law_draw, k__law_draw := k__law_draw
    b__law_draw := F__law_draw.binds (ps := ["_law_bag_here", "_law_sides"]) fun _ _ _ _ _ _ us hl => match us, hl with | [_, _], _ => rfl
    a__law_of := f__law_of, d__law_of := _, F__law_of := F__law_of, m__law_of := PySem.W.mg_of X G a__law_of, k__law_of := k__law_of
    b__law_of := F__law_of.binds (ps := ["_law_bag_here", "_law_things"]) fun _ _ _ _ _ _ us hl => match us, hl with | [_, _], _ => rfl
    a__law_titles := f__law_titles, d__law_titles := _, F__law_titles := F__law_titles, m__law_titles := PySem.W.mg_of X G a__law_titles, k__law_titles := k__law_titles
    b__law_titles := F__law_titles.binds (ps := ["_law_bag_here", "_law_many"]) fun _ _ _ _ _ _ us hl => match us, hl with | [_, _], _ => rfl
    a__law_size := f__law_size, d__law_size := _, F__law_size := F__law_size, m__law_size := PySem.W.mg_of X G a__law_size, k__law_size := k__law_size
    b__law_size := F__law_size.binds (ps := ["_law_one", "_law_far"]) fun _ _ _ _ _ _ us hl => match us, hl with | [_, _], _ => rfl
    a__law_fields := f__law_fields, d__law_fields := _, F__law_fields := F__law_fields, m__law_fields := PySem.W.mg_of X G a__law_fields, k__law_fields := k__law_fields
    b__law_fields := F__law_fields.binds (ps := ["_law_one", "_law_far"]) fun _ _ _ _ _ _ us hl => match us, hl with | [_, _], _ => rfl
    a__law_number := f__law_number, d__law_number := _, F__law_number := F__law_number, m__law_number := PySem.W.mg_of X G a__law_number, k__law_number := k__law_number
    b__law_number := F__law_number.binds (ps := ["_law_bag_here"]) fun _ _ _ _ _ _ us hl => match us, hl with | [_], _ => rfl
    a__law_r := f__law_r, d__law_r := _, F__law_r := F__law_r, m__law_r := PySem.W.mg_of X G a__law_r, k__law_r := k__law_r
    b__law_r := F__law_r.binds (ps := ["_law_bag_here"]) fun _ _ _ _ _ _ us hl => match us, hl with | [_], _ => rfl
    a__law_code_row := f__law_code_row, d__law_code_row := _, F__law_code_row := F__law_code_row, m__law_code_row := PySem.W.mg_of X G a__law_code_row, k__law_code_row := k__law_code_row
    b__law_code_row := F__law_code_row.binds (ps := ["_law_bag_here", "_law_titles_here"]) fun _ _ _ _ _ _ us hl => match us, hl with | [_, _], _ => rfl
    a__law_data_row := f__law_data_row, d__law_data_row := _, F__law_data_row := F__law_data_row, m__law_data_row := PySem.W.mg_of X G a__law_data_row, k__law_data_row := k__law_data_row
    b__law_data_row := F__law_data_row.binds (ps := ["_law_bag_here", "_law_titles_here"]) fun _ _ _ _ _ _ us hl => match us, hl with | [_, _], _ => rfl
    a__law_each := f__law_each, d__law_each := _, F__law_each := F__law_each, m__law_each := PySem.W.mg_of X G a__law_each, k__law_each := k__law_each
    b__law_each := F__law_each.binds (ps := ["_law_bag_here", "_law_titles_here"]) fun _ _ _ _ _ _ us hl => match us, hl with | [_, _], _ => rfl
    a_law := fa, d_law := _, F_law := F_law, m_law := PySem.W.mg_of X G a_law, k_law := k_law
    b_law := F_law.binds (ps := ["_law_script"]) fun _ _ _ _ _ _ us hl => match us, hl with | [_], _ => rfl
    e_row_fields_2 := e_row_fields_2, v_row_fields_2 := v_row_fields_2, b_row_fields_2 := b_row_fields_2
    e_row_size_2 := e_row_size_2, v_row_size_2 := v_row_size_2, b_row_size_2 := b_row_size_2
    e_row_size_1 := e_row_size_1, v_row_size_1 := v_row_size_1, b_row_size_1 := b_row_size_1
    e_row_fields_1 := e_row_fields_1, v_row_fields_1 := v_row_fields_1, b_row_fields_1 := b_row_fields_1
    fu_row_size_0_long_row := fu_row_size_0_long_row, kb_row_size_0_long_row := kb_row_size_0_long_row
    fu_row_fields_0_row_long := fu_row_fields_0_row_long, kb_row_fields_0_row_long := kb_row_fields_0_row_long
    a_LONG_SIZES := p_LONG_SIZES, m_LONG_SIZES := PySem.W.mg_of X G q_LONG_SIZES, kd_LONG_SIZES := ⟨es_LONG_SIZES, n_LONG_SIZES, l_LONG_SIZES, kl_LONG_SIZES, sy_LONG_SIZES, pd_LONG_SIZES⟩
    u_STUB := u_STUB, m_STUB := PySem.W.mg_of X G q_STUB, r_STUB := r_STUB
    n_list := PySem.W.mg_none_of X G z_list
    n_int := PySem.W.mg_none_of X G z_int
    n_isinstance := PySem.W.mg_none_of X G z_isinstance
    n_tuple := PySem.W.mg_none_of X G z_tuple
    n_all := PySem.W.mg_none_of X G z_all
    n_bool := PySem.W.mg_none_of X G z_bool
    n_str := PySem.W.mg_none_of X G z_str
    n_len := PySem.W.mg_none_of X G z_len
    n_zip := PySem.W.mg_none_of X G z_zip
    n_abs := PySem.W.mg_none_of X G z_abs
    n_range := PySem.W.mg_none_of X G z_range
  }
  exact ⟨PySem.W.fnOf "law" "law" (defArgs s_law) (defBody s_law) (defScope s_law) .none kV_law dc_law pm_law an_law cd_law ct_law, fun s v => .of_eq rfl, fun base _ _ => ok_law (P := l.prog) (w := w) (base := base) T⟩
theorem walk {l : PySem.W.OpenLaw} {q : Program} {loose : List Str} {XP : (Str → Option Value) → Heap → Prop} {YP : World → Heap → Prop} {d : DefRec} {K : Params → PySem.W.Frag} (hn : l.most = some 63) (hdf : d.params.defaults = [])
    (hY : ∀ (w : World) (h : Heap), YP w h → (K w.params).In h)
    (F : ∀ (w : World) (mg : Str → Option Value) (fa : Addr) (h : Heap), (K w.params).In h → h.Ns mainGlobals mg → mg d.name = some (.ref fa) →
      ∃ fd : FuncData, (∀ (s : Shared) (u : Value), BindsTo s fd ⟨[u], []⟩ [("_law_script", u)]) ∧ ∀ base : Heap, (K w.params).In base → base.Ns mainGlobals mg → FnOk l.prog w (K w.params) mg base CX0 13 fa fd ["_law_script"] (spLaw (K w.params))) :
    PySem.W.WalkO q loose XP YP l.row.toRowW d [] (fun f vs => PySem.call f vs) :=
  L2.walk_of (n := 63) (k := 13) (x := "_law_script") (CX := fun _ => CX0) (sp := fun w => spLaw (K w.params)) hn (by decide) hdf ⟨rfl, by decide, by decide⟩ hY F (fun _ _ a ns hl _ hS => ⟨a, ns, rfl, hS, hl, fun _ => rfl⟩) fun _ _ _ _ _ z => z
end Law
open PySem PySem.W PyProof.Rows
set_option maxRecDepth 100000 in
set_option maxHeartbeats 0 in
theorem PySem.Challenge.cw_leastimage_k13_sizes_and_fields_holds : PySem.Challenge.rw_leastimage_k13_sizes_and_fields.Holds := by
  w_on; o_law; k_head; (case hw => w_witness2)
  k_fill
  refine Law.walk (l := PySem.Challenge.rw_leastimage_k13_sizes_and_fields) rfl rfl (fun w h Y => PySem.W.kIn_of Y) ?F
  case F =>
    intro w mg fa h KX G hmg
    refine' Law.all_mk KX G hmg ?a_row_size ?l_row_size ?c_row_size ?k_row_size ?lt_row_size ?vt_row_size ?a_row_fields ?l_row_fields ?c_row_fields ?k_row_fields ?lt_row_fields ?vt_row_fields ?a__law_bag ?l__law_bag ?c__law_bag ?k__law_bag ?a__law_same ?l__law_same ?c__law_same ?k__law_same ?a__law_draw ?l__law_draw ?c__law_draw ?k__law_draw ?a__law_of ?l__law_of ?c__law_of ?k__law_of ?a__law_titles ?l__law_titles ?c__law_titles ?k__law_titles ?a__law_size ?l__law_size ?c__law_size ?k__law_size ?a__law_fields ?l__law_fields ?c__law_fields ?k__law_fields ?a__law_number ?l__law_number ?c__law_number ?k__law_number ?a__law_r ?l__law_r ?c__law_r ?k__law_r ?a__law_code_row ?l__law_code_row ?c__law_code_row ?k__law_code_row ?a__law_data_row ?l__law_data_row ?c__law_data_row ?k__law_data_row ?a__law_each ?l__law_each ?c__law_each ?k__law_each ?a_law ?l_law ?c_law ?k_law ?q_LONG_SIZES ?l_LONG_SIZES ?kl_LONG_SIZES ?sy_LONG_SIZES ?pd_LONG_SIZES ?q_STUB ?r_STUB ?z_list ?z_int ?z_isinstance ?z_tuple ?z_all ?z_bool ?z_str ?z_len ?z_zip ?z_abs ?z_range
    (case a_row_size => k_is)
    (case l_row_size => k_is)
    (case c_row_size => k_is)
    (case k_row_size => k_is)
    (case lt_row_size => k_is)
    (case a_row_fields => k_is)
    (case l_row_fields => k_is)
    (case c_row_fields => k_is)
    (case k_row_fields => k_is)
    (case lt_row_fields => k_is)
    (case a__law_bag => k_is)
    (case l__law_bag => k_is)
    (case c__law_bag => k_is)
    (case k__law_bag => k_is)
    (case a__law_same => k_is)
    (case l__law_same => k_is)
    (case c__law_same => k_is)
    (case k__law_same => k_is)
    (case a__law_draw => k_is)
    (case l__law_draw => k_is)
    (case c__law_draw => k_is)
    (case k__law_draw => k_is)
    (case a__law_of => k_is)
    (case l__law_of => k_is)
    (case c__law_of => k_is)
    (case k__law_of => k_is)
    (case a__law_titles => k_is)
    (case l__law_titles => k_is)
    (case c__law_titles => k_is)
    (case k__law_titles => k_is)
    (case a__law_size => k_is)
    (case l__law_size => k_is)
    (case c__law_size => k_is)
    (case k__law_size => k_is)
    (case a__law_fields => k_is)
    (case l__law_fields => k_is)
    (case c__law_fields => k_is)
    (case k__law_fields => k_is)
    (case a__law_number => k_is)
    (case l__law_number => k_is)
    (case c__law_number => k_is)
    (case k__law_number => k_is)
    (case a__law_r => k_is)
    (case l__law_r => k_is)
    (case c__law_r => k_is)
    (case k__law_r => k_is)
    (case a__law_code_row => k_is)
    (case l__law_code_row => k_is)
    (case c__law_code_row => k_is)
    (case k__law_code_row => k_is)
    (case a__law_data_row => k_is)
    (case l__law_data_row => k_is)
    (case c__law_data_row => k_is)
    (case k__law_data_row => k_is)
    (case a__law_each => k_is)
    (case l__law_each => k_is)
    (case c__law_each => k_is)
    (case k__law_each => k_is)
    (case a_law => k_is)
    (case l_law => k_is)
    (case c_law => k_is)
    (case k_law => k_is)
    (case q_LONG_SIZES => k_is)
    (case l_LONG_SIZES => k_is)
    (case q_STUB => k_is)
    (case z_list => k_is)
    (case z_int => k_is)
    (case z_isinstance => k_is)
    (case z_tuple => k_is)
    (case z_all => k_is)
    (case z_bool => k_is)
    (case z_str => k_is)
    (case z_len => k_is)
    (case z_zip => k_is)
    (case z_abs => k_is)
    (case z_range => k_is)
    (case vt_row_size => exact (.cons rfl .nil))
    (case vt_row_fields => exact (.cons rfl .nil))
    (case kl_LONG_SIZES => exact ⟨⟨_, _, rfl, rfl⟩, ⟨_, _, rfl, rfl⟩, ⟨_, _, rfl, rfl⟩, ⟨_, _, rfl, rfl⟩, trivial⟩)
    (case sy_LONG_SIZES => first | rfl | decide)
    (case pd_LONG_SIZES => exact (.cons ⟨⟨_, rfl⟩, ⟨_, rfl⟩⟩ (.cons ⟨⟨_, rfl⟩, ⟨_, rfl⟩⟩ (.cons ⟨⟨_, rfl⟩, ⟨_, rfl⟩⟩ (.cons ⟨⟨_, rfl⟩, ⟨_, rfl⟩⟩ .nil)))))
    (case r_STUB => exact ⟨_, rfl⟩)
