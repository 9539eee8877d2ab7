import PyProof.Rows.All
import Wide.All
import OpenK.AllK
import Wide.FinOn
import HandS.ForMost
import HandS.Flow
import HandS.IsInst
import HandS.Walk
import HandS.Zip
import HandS.Defaults
import HandS.MakeKwOnly
import HandS.More
import HandS.Style
import KE.GoesNew
import HandS.Strs
import HandS.RaiseMore
import HandS.Text
import KE.IntTextText
import PySem.Challenge.RW_leastimage_k03_whole_texts_of_rows
set_option Elab.async false
set_option linter.all false
set_option maxRecDepth 100000
set_option maxHeartbeats 4000000
/-! Y1: data, and a logic over data alone: environments of data, expressions that give data, statements. -/
namespace Y
open PySem L2

/-- a datum: what a value means, without addresses -/
inductive Dt where
  | non
  | bl (b : Bool)
  | int (i : Int)
  | str (s : Str)
  | lst (xs : List Dt)
  | tup (xs : List Dt)
  | obj (C : Addr) (ns : List Str) (xs : List Dt)
  | dct (ks : List Key) (xs : List Dt)
  | ali (a : Addr)

mutual
inductive Rp (K : PySem.W.Frag) (F : Hp) : V → Dt → Prop
  | non : Rp K F .non .non
  | bl (b : Bool) : Rp K F (.bl b) (.bl b)
  | int (i : Int) : Rp K F (.int i) (.int i)
  | str (x : Str) : Rp K F (.str x) (.str x)
  | lst {a : Addr} {xs : List V} {ds : List Dt} : F a = some (.lst xs) → RpAll K F xs ds → Rp K F (.ref a) (.lst ds)
  | tup {a : Addr} {xs : List V} {ds : List Dt} : SqT K F a xs → RpAll K F xs ds → Rp K F (.ref a) (.tup ds)
  | obj {a C dx : Addr} {ns : List Str} {fs : List (Str × V)} {xs : List V} {ds : List Dt} : F a = some (.ins C dx fs) → fs.map (·.1) = ns → fs.map (·.2) = xs → RpAll K F xs ds → Rp K F (.ref a) (.obj C ns ds)
  | dct {a : Addr} {ks : List Key} {kvs : List (Key × V)} {xs : List V} {ds : List Dt} : F a = some (.dK kvs) → kvs.map (·.1) = ks → kvs.map (·.2) = xs → RpAll K F xs ds → Rp K F (.ref a) (.dct ks ds)
  | ali (a : Addr) : Rp K F (.ref a) (.ali a)
inductive RpAll (K : PySem.W.Frag) (F : Hp) : List V → List Dt → Prop
  | nil : RpAll K F [] []
  | cons {v : V} {vs : List V} {d : Dt} {ds : List Dt} : Rp K F v d → RpAll K F vs ds → RpAll K F (v :: vs) (d :: ds)
end

section mono
variable {K : PySem.W.Frag} {F F' : Hp}
theorem sqL_mono {a : Addr} {xs : List V} (e : Same F F') (h : SqL K F a xs) : SqL K F' a xs := e.seq h
theorem sqT_mono {a : Addr} {xs : List V} (e : Same F F') (h : SqT K F a xs) : SqT K F' a xs := by
  rcases h with (h | ⟨o, h⟩) | h
  · exact .inl (.inl (e _ _ h))
  · exact .inl (.inr ⟨o, e _ _ h⟩)
  · exact .inr h
mutual
theorem Rp.mono (e : Same F F') : ∀ {v : V} {d : Dt}, Rp K F v d → Rp K F' v d
  | _, _, .non => .non
  | _, _, .bl b => .bl b
  | _, _, .int i => .int i
  | _, _, .str x => .str x
  | _, _, .lst h r => .lst (e _ _ h) (RpAll.mono e r)
  | _, _, .tup h r => .tup (sqT_mono e h) (RpAll.mono e r)
  | _, _, .obj h h1 h2 r => .obj (e _ _ h) h1 h2 (RpAll.mono e r)
  | _, _, .dct h h1 h2 r => .dct (e _ _ h) h1 h2 (RpAll.mono e r)
  | _, _, .ali a => .ali a
theorem RpAll.mono (e : Same F F') : ∀ {vs : List V} {ds : List Dt}, RpAll K F vs ds → RpAll K F' vs ds
  | _, _, .nil => .nil
  | _, _, .cons h t => .cons (Rp.mono e h) (RpAll.mono e t)
end
theorem RpAll.length : ∀ {vs : List V} {ds : List Dt}, RpAll K F vs ds → vs.length = ds.length
  | _, _, .nil => rfl
  | _, _, .cons _ t => congrArg (· + 1) (RpAll.length t)
theorem RpAll.get : ∀ {vs : List V} {ds : List Dt} {i : Nat} {d : Dt}, RpAll K F vs ds → ds[i]? = some d → ∃ v, vs[i]? = some v ∧ Rp K F v d
  | _, _, _, _, .nil, e => by simp at e
  | _, _, 0, _, .cons r _, e => by simp at e; subst e; exact ⟨_, rfl, r⟩
  | _, _, i + 1, d, .cons _ t, e => by
    obtain ⟨v, h1, h2⟩ := RpAll.get (i := i) (d := d) t (by simpa using e)
    exact ⟨v, by simpa using h1, h2⟩
theorem RpAll.getV : ∀ {vs : List V} {ds : List Dt} {i : Nat} {v : V}, RpAll K F vs ds → vs[i]? = some v → ∃ d, ds[i]? = some d ∧ Rp K F v d
  | _, _, _, _, .nil, e => by simp at e
  | _, _, 0, _, .cons r _, e => by simp at e; subst e; exact ⟨_, rfl, r⟩
  | _, _, i + 1, v, .cons _ t, e => by
    obtain ⟨d, h1, h2⟩ := RpAll.getV (i := i) (v := v) t (by simpa using e)
    exact ⟨d, by simpa using h1, h2⟩
theorem RpAll.app : ∀ {vs ws : List V} {ds es : List Dt}, RpAll K F vs ds → RpAll K F ws es → RpAll K F (vs ++ ws) (ds ++ es)
  | _, _, _, _, .nil, s => s
  | _, _, _, _, .cons r t, s => .cons r (RpAll.app t s)
theorem RpAll.take : ∀ {vs : List V} {ds : List Dt} (n : Nat), RpAll K F vs ds → RpAll K F (vs.take n) (ds.take n)
  | _, _, 0, _ => by simp; exact .nil
  | _, _, _ + 1, .nil => .nil
  | _, _, n + 1, .cons r t => .cons r (RpAll.take n t)
theorem RpAll.drop : ∀ {vs : List V} {ds : List Dt} (n : Nat), RpAll K F vs ds → RpAll K F (vs.drop n) (ds.drop n)
  | _, _, 0, r => r
  | _, _, _ + 1, .nil => .nil
  | _, _, n + 1, .cons _ t => RpAll.drop n t
theorem RpAll.set {d : Dt} {v : V} (r : Rp K F v d) : ∀ {vs : List V} {ds : List Dt} (i : Nat), RpAll K F vs ds → RpAll K F (vs.set i v) (ds.set i d)
  | _, _, _, .nil => .nil
  | _, _, 0, .cons _ t => .cons r t
  | _, _, i + 1, .cons q t => .cons q (RpAll.set r i t)
theorem RpAll.ints : ∀ {vs : List V} {ns : List Int}, RpAll K F vs (ns.map Dt.int) → vs = ns.map V.int
  | _, [], h => by cases h; rfl
  | _, n :: ns, h => by
    cases h with
    | cons r t => cases r; rw [RpAll.ints t]; rfl
theorem RpAll.bls : ∀ {vs : List V} {ns : List Bool}, RpAll K F vs (ns.map Dt.bl) → vs = ns.map V.bl
  | _, [], h => by cases h; rfl
  | _, n :: ns, h => by
    cases h with
    | cons r t => cases r; rw [RpAll.bls t]; rfl
theorem RpAll.texts : ∀ {vs : List V} {ns : List Str}, RpAll K F vs (ns.map Dt.str) → vs = ns.map V.str
  | _, [], h => by cases h; rfl
  | _, n :: ns, h => by
    cases h with
    | cons r t => cases r; rw [RpAll.texts t]; rfl
theorem RpAll.of_ints : ∀ {ns : List Int}, RpAll K F (ns.map V.int) (ns.map Dt.int)
  | [] => .nil
  | n :: ns => .cons (.int n) RpAll.of_ints
end mono

/-- the state of the drawing: a list of five, its ints, what was taken, a rest, a mixed number, a count -/
def BagD (xs : List Dt) : Prop := ∃ (ns : List Int) (i r m k : Int), xs = [.lst (ns.map Dt.int), .int i, .int r, .int m, .int k] ∧ 0 ≤ i ∧ 0 ≤ r ∧ 0 ≤ m ∧ m < 2147483648
def BagAt (K : PySem.W.Frag) (F H : Hp) (b : Addr) : Prop := F b = none ∧ ∃ vs xs, H b = some (.lst vs) ∧ RpAll K F vs xs ∧ BagD xs

/-- what a slot of a frame is known to hold -/
inductive Sl where
  | no
  | any
  | d (x : Dt)
  | r (v : V)
  | own (a : Addr) (xs : List Dt)

def SlOk (K : PySem.W.Frag) (F H : Hp) : Option V → Sl → Prop
  | _, .any => True
  | o, .no => o = none
  | o, .d x => ∃ v, o = some v ∧ Rp K F v x
  | o, .r v => o = some v
  | o, .own a xs => ∃ vs, o = some (.ref a) ∧ F a = none ∧ H a = some (.lst vs) ∧ RpAll K F vs xs

/-- what a body of a def stands on: the written part, what is known and the heap at its start, the address of the drawing -/
structure Bs where
  K : PySem.W.Frag
  F0 : Hp
  H0 : Hp
  bag : Option Addr

structure Stt (B : Bs) (es : List Sl) (σ : St) (F H : Hp) : Prop where
  sub : Same F H
  s0 : Same B.F0 F
  ou : ∀ c, B.H0 c ≠ none → B.F0 c = none → F c = none
  fr : ∀ c o, B.H0 c = some o → B.bag ≠ some c → H c = some o
  bg : ∀ b, B.bag = some b → BagAt B.K F H b
  len : σ.length = es.length
  ok : ∀ (i : Nat) e o, es[i]? = some e → σ[i]? = some o → SlOk B.K F H o e
  ow : ∀ (i : Nat) a xs, es[i]? = some (.own a xs) → B.H0 a = none ∧ B.bag ≠ some a
  dis : ∀ (i j : Nat) a b xs ys, i ≠ j → es[i]? = some (.own a xs) → es[j]? = some (.own b ys) → a ≠ b

/-- the heap goes on: all stays but the drawing; what was outside F stays outside -/
structure Go (B : Bs) (F H F' H' : Hp) : Prop where
  s1 : Same F F'
  s2 : Same F' H'
  nw : ∀ c, H c ≠ none → F c = none → F' c = none
  kp : ∀ c o, B.bag ≠ some c → H c = some o → H' c = some o
  bg : ∀ b, B.bag = some b → BagAt B.K F' H' b

theorem same_upd {H : Hp} {p : Addr} {o : HO} (h : H p = none) : Same H (upd H p o) := fun b u e => by
  rw [upd_ne (ne_of_none e h)]
  exact e
theorem same_updF {F H : Hp} {p : Addr} {o : HO} (s : Same F H) : Same (upd F p o) (upd H p o) := fun b u e => by
  by_cases hb : b = p
  · subst hb; rw [upd_same] at e ⊢; exact e
  · rw [upd_ne hb] at e ⊢; exact s b u e
theorem same_none {F H : Hp} {p : Addr} (s : Same F H) (h : H p = none) : F p = none := s.free h

section
variable {B : Bs} {es : List Sl} {σ : St} {F H F1 H1 F2 H2 : Hp}
theorem Go.trans (a : Go B F H F1 H1) (b : Go B F1 H1 F2 H2) : Go B F H F2 H2 where
  s1 := a.s1.trans b.s1
  s2 := b.s2
  nw := fun c h1 h2 => by
    refine b.nw c ?_ (a.nw c h1 h2)
    by_cases hb : B.bag = some c
    · obtain ⟨_, vs, _, k, _⟩ := a.bg c hb
      rw [k]; simp
    · cases e : H c with
      | none => exact absurd e h1
      | some o => rw [a.kp c o hb e]; simp
  kp := fun c o h1 h2 => b.kp c o h1 (a.kp c o h1 h2)
  bg := b.bg
theorem Stt.refl (S : Stt B es σ F H) : Go B F H F H := ⟨Same.refl F, S.sub, fun _ _ h => h, fun _ _ _ h => h, S.bg⟩
theorem Stt.slot {i : Nat} {e : Sl} (S : Stt B es σ F H) (h : es[i]? = some e) : ∃ o, σ[i]? = some o ∧ SlOk B.K F H o e := by
  have hl : i < es.length := (List.getElem?_eq_some_iff.mp h).1
  rw [← S.len] at hl
  exact ⟨σ[i], by simp [hl], S.ok i e _ h (by simp [hl])⟩
theorem Stt.dat {i : Nat} {x : Dt} (S : Stt B es σ F H) (h : es[i]? = some (.d x)) : ∃ v, σ[i]? = some (some v) ∧ Rp B.K F v x := by
  obtain ⟨o, h1, v, rfl, h2⟩ := S.slot h
  exact ⟨v, h1, h2⟩
theorem Stt.raw {i : Nat} {v : V} (S : Stt B es σ F H) (h : es[i]? = some (.r v)) : σ[i]? = some (some v) := by
  obtain ⟨o, h1, h2⟩ := S.slot h
  rw [h1, h2]
theorem Stt.live (S : Stt B es σ F H) {c : Addr} (h : B.H0 c ≠ none) : H c ≠ none := by
  by_cases hb : B.bag = some c
  · obtain ⟨_, vs, _, k, _⟩ := S.bg c hb
    rw [k]; simp
  · cases e : B.H0 c with
    | none => exact absurd e h
    | some o => rw [S.fr c o e hb]; simp
theorem Stt.go {F' H' : Hp} (S : Stt B es σ F H) (g : Go B F H F' H') : Stt B es σ F' H' where
  sub := g.s2
  s0 := S.s0.trans g.s1
  ou := fun c h1 h2 => g.nw c (S.live h1) (S.ou c h1 h2)
  fr := fun c o h1 h2 => g.kp c o h2 (S.fr c o h1 h2)
  bg := g.bg
  len := S.len
  ok := fun i e o h1 h2 => by
    have h := S.ok i e o h1 h2
    cases e with
    | no => exact h
    | any => trivial
    | d x => obtain ⟨v, k1, k2⟩ := h; exact ⟨v, k1, k2.mono g.s1⟩
    | r v => exact h
    | own a xs =>
      obtain ⟨vs, k1, k2, k3, k4⟩ := h
      exact ⟨vs, k1, g.nw a (by rw [k3]; simp) k2, g.kp a _ (S.ow i a xs h1).2 k3, k4.mono g.s1⟩
  ow := S.ow
  dis := S.dis
/-- nothing that stood changes -/
theorem Stt.pure {F' H' : Hp} (S : Stt B es σ F H) (s1 : Same F F') (s2 : Same F' H') (hn : ∀ c, H c ≠ none → F c = none → F' c = none) (s3 : Same H H') : Go B F H F' H' :=
  ⟨s1, s2, hn, fun c o _ h => s3 c o h, fun b hb => by
    obtain ⟨h1, vs, xs, h2, h3, h4⟩ := S.bg b hb
    exact ⟨hn b (by rw [h2]; simp) h1, vs, xs, s3 _ _ h2, h3.mono s1, h4⟩⟩
/-- a new object, known as a datum -/
theorem Stt.alloc {p : Addr} {o : HO} (S : Stt B es σ F H) (h : H p = none) : Go B F H (upd F p o) (upd H p o) :=
  S.pure (same_upd (same_none S.sub h)) (same_updF S.sub) (fun c hc hf => by
    rw [upd_ne (fun e => hc (by rw [e]; exact h))]
    exact hf) (same_upd h)
/-- a new object that is not yet known as a datum -/
theorem Stt.allocO {p : Addr} {o : HO} (S : Stt B es σ F H) (h : H p = none) : Go B F H F (upd H p o) :=
  S.pure (Same.refl F) (S.sub.trans (same_upd h)) (fun _ _ hf => hf) (same_upd h)
theorem Stt.new0 {p : Addr} (S : Stt B es σ F H) (h : H p = none) : B.H0 p = none := by
  cases e : B.H0 p with
  | none => rfl
  | some o => exact absurd h (S.live (by rw [e]; simp))
theorem Stt.newB {p : Addr} (S : Stt B es σ F H) (h : H p = none) : B.bag ≠ some p := fun hb => by
  obtain ⟨_, vs, _, k, _⟩ := S.bg p hb
  rw [h] at k; cases k
theorem Stt.newS {p a : Addr} (S : Stt B es σ F H) (h : H p = none) (i : Nat) (ys : List Dt) (hi : es[i]? = some (.own a ys)) : a ≠ p := fun hs => by
  obtain ⟨o, _, ws, z1, z2, z3, z4⟩ := S.slot hi
  rw [hs, h] at z3; cases z3
end

/-! ### what an expression gives: backwards, from what is wanted of its datum -/
def Ev (B : Bs) (te : TE) (es : List Sl) (P : Dt → Prop) : Prop := ∀ σ F H, Stt B es σ F H → ∀ Q : VK,
  (∀ v d F' H', Go B F H F' H' → Rp B.K F' v d → P d → Q v H') → te σ H Q
def EvT (B : Bs) (tt : TT) (es : List Sl) (P : Bool → Prop) : Prop := ∀ σ F H, Stt B es σ F H → ∀ Q : Bool → Hp → Prop,
  (∀ b F' H', Go B F H F' H' → P b → Q b H') → tt σ H Q
def EvA (B : Bs) (ta : TA) (es : List Sl) (P : List Dt → Prop) : Prop := ∀ σ F H, Stt B es σ F H → ∀ Q : List V → Hp → Prop,
  (∀ vs ds F' H', Go B F H F' H' → RpAll B.K F' vs ds → P ds → Q vs H') → ta σ H Q
def EvO (B : Bs) (te : TE) (es : List Sl) (P : List Dt → Prop) : Prop := ∀ σ F H, Stt B es σ F H → ∀ Q : VK,
  (∀ a vs xs F' H', Go B F H F' H' → H a = none → F' a = none → H' a = some (.lst vs) → RpAll B.K F' vs xs → P xs → Q (.ref a) H') → te σ H Q

section
variable {B : Bs} {es : List Sl} {σ : St} {F H : Hp}
theorem Ev.imp {te : TE} {P P' : Dt → Prop} (h : Ev B te es P) (hp : ∀ d, P d → P' d) : Ev B te es P' := fun σ F H S Q q => h σ F H S Q fun v d F' H' a b c => q v d F' H' a b (hp d c)
theorem EvT.imp {te : TT} {P P' : Bool → Prop} (h : EvT B te es P) (hp : ∀ d, P d → P' d) : EvT B te es P' := fun σ F H S Q q => h σ F H S Q fun d F' H' a b => q d F' H' a (hp d b)
theorem EvO.imp {te : TE} {P P' : List Dt → Prop} (h : EvO B te es P) (hp : ∀ d, P d → P' d) : EvO B te es P' := fun σ F H S Q q => h σ F H S Q fun a vs d F' H' g n f l r c => q a vs d F' H' g n f l r (hp d c)
theorem EvA.imp {te : TA} {P P' : List Dt → Prop} (h : EvA B te es P) (hp : ∀ d, P d → P' d) : EvA B te es P' := fun σ F H S Q q => h σ F H S Q fun v d F' H' a b c => q v d F' H' a b (hp d c)
/-- a new list at a, outside what is known, becomes known -/
theorem Go.freeze {F' H' : Hp} {a : Addr} {vs : List V} (g : Go B F H F' H') (S : Stt B es σ F H) (h0 : H a = none) (h1 : F' a = none) (h2 : H' a = some (.lst vs)) : Go B F H (upd F' a (.lst vs)) H' where
  s1 := g.s1.trans (same_upd h1)
  s2 := fun c o e => by
    by_cases hc : c = a
    · subst hc; rw [upd_same] at e; rw [h2, e]
    · rw [upd_ne hc] at e; exact g.s2 c o e
  nw := fun c hc hf => by
    rw [upd_ne (fun e => hc (by rw [e]; exact h0))]
    exact g.nw c hc hf
  kp := g.kp
  bg := fun b hb => by
    obtain ⟨k1, ws, ys, k2, k3, k4⟩ := g.bg b hb
    have hba : b ≠ a := fun q => S.newB h0 (by rw [hb, q])
    exact ⟨by rw [upd_ne hba]; exact k1, ws, ys, k2, k3.mono (same_upd h1), k4⟩
theorem EvO.ev {te : TE} {P : Dt → Prop} (h : EvO B te es fun xs => P (.lst xs)) : Ev B te es P := fun σ F H S Q q =>
  h σ F H S Q fun a vs xs F' H' g h0 h1 h2 r p => q (.ref a) (.lst xs) (upd F' a (.lst vs)) H' (g.freeze S h0 h1 h2) (.lst upd_same (r.mono (same_upd h1))) p
theorem ev_var {i : Nat} {x : Dt} {P : Dt → Prop} (h : es[i]? = some (.d x)) (hp : P x) : Ev B (tVar i) es P := fun σ F H S Q q => by
  obtain ⟨v, h1, h2⟩ := S.dat h
  exact ⟨v, h1, q v x F H S.refl h2 hp⟩
/-- a list of one's own that is not changed any more in this expression: read as a datum of a copy -/
theorem ev_int {i : Int} {P : Dt → Prop} (hp : P (.int i)) : Ev B (tC (.int i)) es P := fun σ F H S Q q => q _ _ F H S.refl (.int i) hp
theorem ev_str {i : Str} {P : Dt → Prop} (hp : P (.str i)) : Ev B (tC (.str i)) es P := fun σ F H S Q q => q _ _ F H S.refl (.str i) hp
theorem ev_bl {i : Bool} {P : Dt → Prop} (hp : P (.bl i)) : Ev B (tC (.bl i)) es P := fun σ F H S Q q => q _ _ F H S.refl (.bl i) hp
theorem ev_non {P : Dt → Prop} (hp : P .non) : Ev B (tC .non) es P := fun σ F H S Q q => q _ _ F H S.refl .non hp
/-- a datum of the written part -/
def KD (K : PySem.W.Frag) (v : V) (d : Dt) : Prop := ∀ F, Rp K F v d
theorem ev_k {v : V} {d : Dt} {P : Dt → Prop} (k : KD B.K v d) (hp : P d) : Ev B (tC v) es P := fun σ F H S Q q => q _ _ F H S.refl (k F) hp
theorem ea_nil {P : List Dt → Prop} (hp : P []) : EvA B tNil es P := fun σ F H S Q q => q _ _ F H S.refl .nil hp
theorem ea_cons {te : TE} {tr : TA} {P : List Dt → Prop} (h : Ev B te es fun d => EvA B tr es fun ds => P (d :: ds)) : EvA B (tCons te tr) es P := fun σ F H S Q q =>
  h σ F H S _ fun v d F1 H1 g1 r1 p1 => p1 σ F1 H1 (S.go g1) _ fun vs ds F2 H2 g2 r2 p2 => q _ _ F2 H2 (g1.trans g2) (.cons (r1.mono g2.s1) r2) p2
theorem size_of {n : Nat} (h : n ≤ 100000) : n ≤ sizeLine := Nat.le_trans h (by decide)
theorem size_lt {n : Nat} (h : n < 100000) : n < sizeLine := Nat.lt_of_lt_of_le h (by decide)
theorem eo_lst {ta : TA} {P : List Dt → Prop} (h : EvA B ta es fun ds => ds.length ≤ 100000 ∧ P ds) : EvO B (tLst ta) es P := fun σ F H S Q q =>
  h σ F H S _ fun vs ds F1 H1 g1 r1 p1 => ⟨size_of (by rw [r1.length]; exact p1.1), fun p hp => by
    have S1 := S.go g1
    have h0 : H p = none := by
      cases e : H p with
      | none => rfl
      | some o => have := g1.kp p o (S1.newB hp) e; rw [hp] at this; cases this
    exact q p vs ds F1 (upd H1 p (.lst vs)) (g1.trans (S1.allocO hp)) h0 (same_none S1.sub hp) upd_same r1 p1.2⟩
theorem ev_lst {ta : TA} {P : Dt → Prop} (h : EvA B ta es fun ds => ds.length ≤ 100000 ∧ P (.lst ds)) : Ev B (tLst ta) es P := (eo_lst (P := fun ds => P (.lst ds)) h).ev
theorem ev_tup {ta : TA} {P : Dt → Prop} (h : EvA B ta es fun ds => ds.length ≤ 100000 ∧ P (.tup ds)) : Ev B (tTup ta) es P := fun σ F H S Q q =>
  h σ F H S _ fun vs ds F1 H1 g1 r1 p1 => ⟨size_of (by rw [r1.length]; exact p1.1), fun p hp => by
    have S1 := S.go g1
    have hF : F1 p = none := same_none S1.sub hp
    exact q (.ref p) (.tup ds) (upd F1 p (.tup vs)) (upd H1 p (.tup vs)) (g1.trans (S1.alloc hp)) (.tup (SqT.of upd_same) (r1.mono (same_upd hF))) p1.2⟩
theorem Go.new {F' H' : Hp} {p : Addr} (g : Go B F H F' H') (hb : B.bag ≠ some p) (h : H' p = none) : H p = none := by
  cases e : H p with
  | none => rfl
  | some o => have := g.kp p o hb e; rw [h] at this; cases this
end
end Y
/-! Y2: operators, tests, calls, statements, loops over data. -/
namespace Y
open PySem L2

section
variable {B : Bs} {es : List Sl}

/-! ### alternatives: one rule or another -/
theorem pe_alt {X : Cx} {e : Expr} {t u : TE} (h1 : PE X e t) (h2 : PE X e u) : PE X e (fun σ H Q => t σ H Q ∨ u σ H Q) :=
  ⟨fun pins s σ H Q I h => h.elim (h1.run pins s σ H Q I) (h2.run pins s σ H Q I)⟩
theorem pi_alt {X : Cx} {tg e : Expr} {t u : TI} (h1 : PI X tg e t) (h2 : PI X tg e u) : PI X tg e (fun σ H Q => t σ H Q ∨ u σ H Q) :=
  ⟨fun pins s σ H Q I h => h.elim (h1.run pins s σ H Q I) (h2.run pins s σ H Q I)⟩
def rAlt (r q : R2) : R2 := fun x y H Q => r x y H Q ∨ q x y H Q
theorem op_alt {X : Cx} {f : Value → Value → Sem Value} {r q : R2} (h1 : OpR X f r) (h2 : OpR X f q) : OpR X f (rAlt r q) := fun pins s σ H x y u v Q I rx ry h =>
  h.elim (h1 pins s σ H x y u v Q I rx ry) (h2 pins s σ H x y u v Q I rx ry)
def cAlt (r q : List V → Hp → VK → Prop) : List V → Hp → VK → Prop := fun xs H Q => r xs H Q ∨ q xs H Q
theorem call_alt {X : Cx} {f : Value} {r q : List V → Hp → VK → Prop} (h1 : CallR X f r) (h2 : CallR X f q) : CallR X f (cAlt r q) := fun pins s σ H xs us Q I rx h =>
  h.elim (h1 pins s σ H xs us Q I rx) (h2 pins s σ H xs us Q I rx)

/-! ### a two-place operation -/
def Op2 (B : Bs) (r : R2) (es : List Sl) (x y : Dt) (P : Dt → Prop) : Prop := ∀ σ F H v w, Stt B es σ F H → Rp B.K F v x → Rp B.K F w y → ∀ Q : VK,
  (∀ v d F' H', Go B F H F' H' → Rp B.K F' v d → P d → Q v H') → r v w H Q
theorem ev_op {r : R2} {ta tb : TE} {P : Dt → Prop} (h : Ev B ta es fun x => Ev B tb es fun y => Op2 B r es x y P) : Ev B (tOp r ta tb) es P := fun σ F H S Q q =>
  h σ F H S _ fun v x F1 H1 g1 r1 p1 => p1 σ F1 H1 (S.go g1) _ fun w y F2 H2 g2 r2 p2 => p2 σ F2 H2 v w ((S.go g1).go g2) (r1.mono g2.s1) r2 Q fun u d F3 H3 g3 r3 p3 => q u d F3 H3 ((g1.trans g2).trans g3) r3 p3
theorem o_altL {r q : R2} {x y : Dt} {P : Dt → Prop} (h : Op2 B r es x y P) : Op2 B (rAlt r q) es x y P := fun σ F H v w S a b Q k => .inl (h σ F H v w S a b Q k)
theorem o_altR {r q : R2} {x y : Dt} {P : Dt → Prop} (h : Op2 B q es x y P) : Op2 B (rAlt r q) es x y P := fun σ F H v w S a b Q k => .inr (h σ F H v w S a b Q k)
theorem o_i0 {g : Int → Int → Int} {i j : Int} {P : Dt → Prop} (hp : P (.int (g i j))) : Op2 B (rI0 fun i j => .int (g i j)) es (.int i) (.int j) P := fun σ F H v w S a b Q k => by
  cases a; cases b; exact ⟨i, j, rfl, rfl, k _ _ F H S.refl (.int _) hp⟩
theorem o_b0 {g : Int → Int → Bool} {i j : Int} {P : Dt → Prop} (hp : P (.bl (g i j))) : Op2 B (rI0 fun i j => .bl (g i j)) es (.int i) (.int j) P := fun σ F H v w S a b Q k => by
  cases a; cases b; exact ⟨i, j, rfl, rfl, k _ _ F H S.refl (.bl _) hp⟩
theorem o_i {C : Int → Int → Prop} {g : Int → Int → Int} {i j : Int} {P : Dt → Prop} (hc : C i j) (hp : P (.int (g i j))) : Op2 B (rI C fun i j => .int (g i j)) es (.int i) (.int j) P := fun σ F H v w S a b Q k => by
  cases a; cases b; exact ⟨i, j, rfl, rfl, hc, k _ _ F H S.refl (.int _) hp⟩
/-- == and != of scalars (no bool beside an int) -/
def dScal : Dt → Dt → Bool
  | .non, .non => true | .non, .int _ => true | .int _, .non => true | .non, .bl _ => true | .bl _, .non => true | .non, .str _ => true | .str _, .non => true
  | .int _, .int _ => true | .bl _, .bl _ => true | .str _, .str _ => true
  | .int _, .str _ => true | .str _, .int _ => true | .bl _, .str _ => true | .str _, .bl _ => true
  | _, _ => false
def dEq : Dt → Dt → Bool
  | .non, .non => true
  | .int i, .int j => decide (i = j)
  | .bl i, .bl j => decide (i = j)
  | .str i, .str j => decide (i = j)
  | _, _ => false
theorem scal_of {K : PySem.W.Frag} {F : Hp} {v w : V} {x y : Dt} (a : Rp K F v x) (b : Rp K F w y) (h : dScal x y = true) : scal v w = true ∧ decide (v = w) = dEq x y := by
  cases a <;> cases b <;> first | (cases h; done) | (refine ⟨rfl, ?_⟩; first | rfl | (simp [dEq]; done))
theorem o_eq {x y : Dt} {P : Dt → Prop} (hs : dScal x y = true) (hp : P (.bl (dEq x y))) : Op2 B rEq es x y P := fun σ F H v w S a b Q k => by
  obtain ⟨h1, h2⟩ := scal_of a b hs
  refine ⟨h1, ?_⟩
  rw [h2]
  exact k _ _ F H S.refl (.bl _) hp
theorem o_ne {x y : Dt} {P : Dt → Prop} (hs : dScal x y = true) (hp : P (.bl (!dEq x y))) : Op2 B rNe es x y P := fun σ F H v w S a b Q k => by
  obtain ⟨h1, h2⟩ := scal_of a b hs
  refine ⟨h1, ?_⟩
  rw [h2]
  exact k _ _ F H S.refl (.bl _) hp
/-- is None -/
def dNon : Dt → Bool
  | .non => true
  | _ => false
theorem non_of {K : PySem.W.Frag} {F : Hp} {v : V} {x : Dt} (a : Rp K F v x) : decide (v = V.non) = dNon x := by
  cases a <;> rfl
theorem o_isN {x : Dt} {P : Dt → Prop} (hp : P (.bl (dNon x))) : Op2 B (fun x y H Q => y = .non ∧ Q (.bl (decide (x = .non))) H) es x .non P := fun σ F H v w S a b Q k => by
  cases b
  refine ⟨rfl, ?_⟩
  rw [non_of a]
  exact k _ _ F H S.refl (.bl _) hp
theorem o_notN {x : Dt} {P : Dt → Prop} (hp : P (.bl (!dNon x))) : Op2 B (fun x y H Q => y = .non ∧ Q (.bl (!decide (x = .non))) H) es x .non P := fun σ F H v w S a b Q k => by
  cases b
  refine ⟨rfl, ?_⟩
  rw [non_of a]
  exact k _ _ F H S.refl (.bl _) hp
/-- x in (a, b, ..): flat things -/
def flatD : Dt → Bool
  | .non => true | .bl _ => true | .int _ => true | .str _ => true
  | _ => false
def eqD : Dt → Dt → Bool
  | .non, .non => true
  | .bl a, .bl b => a == b
  | .bl a, .int b => (if a then 1 else 0) == b
  | .int a, .bl b => a == (if b then 1 else 0)
  | .int a, .int b => a == b
  | .str a, .str b => a == b
  | _, _ => false
def inD (x : Dt) (ys : List Dt) : Bool := ys.any fun y => eqD y x
theorem flat_of {K : PySem.W.Frag} {F : Hp} {v : V} {x : Dt} (a : Rp K F v x) : flatV v = flatD x := by cases a <;> rfl
theorem eq_of {K : PySem.W.Frag} {F : Hp} {v w : V} {x y : Dt} (a : Rp K F v x) (b : Rp K F w y) (hx : flatD x = true) (hy : flatD y = true) : eqV v w = eqD x y := by
  cases a <;> cases b <;> first | rfl | (cases hx; done) | (cases hy; done)
theorem in_of {K : PySem.W.Frag} {F : Hp} {v : V} {x : Dt} (a : Rp K F v x) (hx : flatD x = true) : ∀ {ws : List V} {ys : List Dt}, RpAll K F ws ys → ys.all flatD = true → inV v ws = inD x ys ∧ ws.all flatV = true
  | _, _, .nil, _ => ⟨rfl, rfl⟩
  | _, _, .cons r t, h => by
    simp only [List.all_cons, Bool.and_eq_true] at h
    obtain ⟨h1, h2⟩ := in_of a hx t h.2
    refine ⟨?_, ?_⟩
    · unfold inV inD at *
      rw [List.any_cons, List.any_cons, h1, eq_of r a h.1 hx]
    · rw [List.all_cons, h2, flat_of r, h.1]; rfl
theorem o_inL {x : Dt} {ys : List Dt} {neg : Bool} {P : Dt → Prop} (hx : flatD x = true) (hy : ys.all flatD = true) (hp : P (.bl (if neg then !inD x ys else inD x ys))) : Op2 B (rIn B.K neg) es x (.lst ys) P := fun σ F H v w S a b Q k => by
  cases b with
  | lst hl hr =>
    obtain ⟨h1, h2⟩ := in_of a hx hr hy
    refine ⟨_, _, rfl, .inl (SqL.of (S.sub _ _ hl)), by rw [flat_of a]; exact hx, h2, ?_⟩
    rw [h1]
    exact k _ _ F H S.refl (.bl _) hp
theorem o_inT {x : Dt} {ys : List Dt} {neg : Bool} {P : Dt → Prop} (hx : flatD x = true) (hy : ys.all flatD = true) (hp : P (.bl (if neg then !inD x ys else inD x ys))) : Op2 B (rIn B.K neg) es x (.tup ys) P := fun σ F H v w S a b Q k => by
  cases b with
  | tup hl hr =>
    obtain ⟨h1, h2⟩ := in_of a hx hr hy
    refine ⟨_, _, rfl, .inr (sqT_mono S.sub hl), by rw [flat_of a]; exact hx, h2, ?_⟩
    rw [h1]
    exact k _ _ F H S.refl (.bl _) hp
/-- one sign in a text -/
theorem o_inS {c : Nat} {z : Str} {P : Dt → Prop} (hp : P (.bl (decide (c ∈ z.cps.toList)))) : Op2 B (fun x y H Q => ∃ (c : Nat) (z : Str), x = .str ⟨#[c]⟩ ∧ y = .str z ∧ Q (.bl (decide (c ∈ z.cps.toList))) H) es (.str ⟨#[c]⟩) (.str z) P := fun σ F H v w S a b Q k => by
  cases a; cases b; exact ⟨c, z, rfl, rfl, k _ _ F H S.refl (.bl _) hp⟩
theorem o_niS {c : Nat} {z : Str} {P : Dt → Prop} (hp : P (.bl (!decide (c ∈ z.cps.toList)))) : Op2 B (fun x y H Q => ∃ (c : Nat) (z : Str), x = .str ⟨#[c]⟩ ∧ y = .str z ∧ Q (.bl (!decide (c ∈ z.cps.toList))) H) es (.str ⟨#[c]⟩) (.str z) P := fun σ F H v w S a b Q k => by
  cases a; cases b; exact ⟨c, z, rfl, rfl, k _ _ F H S.refl (.bl _) hp⟩
/-- items -/
theorem o_ixL {xs : List Dt} {i : Int} {x : Dt} {P : Dt → Prop} (hi : atI xs i = some x) (hp : P x) : Op2 B (rIxL B.K) es (.lst xs) (.int i) P := fun σ F H v w S a b Q k => by
  cases b
  cases a with
  | lst hl hr =>
    unfold atI at hi
    cases e : ixN xs.length i with
    | none => rw [e] at hi; cases hi
    | some j =>
      rw [e] at hi
      obtain ⟨u, h1, h2⟩ := hr.get (show xs[j]? = some x from hi)
      refine ⟨_, _, i, u, rfl, rfl, SqL.of (S.sub _ _ hl), ?_, k _ _ F H S.refl h2 hp⟩
      unfold atI
      rw [hr.length, e]
      exact h1
theorem o_ixT {xs : List Dt} {i : Int} {x : Dt} {P : Dt → Prop} (hi : atI xs i = some x) (hp : P x) : Op2 B (rIxT B.K) es (.tup xs) (.int i) P := fun σ F H v w S a b Q k => by
  cases b
  cases a with
  | tup hl hr =>
    unfold atI at hi
    cases e : ixN xs.length i with
    | none => rw [e] at hi; cases hi
    | some j =>
      rw [e] at hi
      obtain ⟨u, h1, h2⟩ := hr.get (show xs[j]? = some x from hi)
      refine ⟨_, _, i, u, rfl, rfl, sqT_mono S.sub hl, ?_, k _ _ F H S.refl h2 hp⟩
      unfold atI
      rw [hr.length, e]
      exact h1
theorem o_ixS {z : Str} {i : Int} {c : Nat} {P : Dt → Prop} (hl : z.length ≤ 100000) (hi : atI z.cps.toList i = some c) (hp : P (.str ⟨#[c]⟩)) : Op2 B rIxS es (.str z) (.int i) P := fun σ F H v w S a b Q k => by
  cases b; cases a; exact ⟨z, i, c, rfl, rfl, size_of hl, hi, k _ _ F H S.refl (.str _) hp⟩
theorem o_ixAL {xs : List Dt} {i : Int} {x : Dt} {P : Dt → Prop} (hi : atI xs i = some x) (hp : P x) : Op2 B (rIx B.K) es (.lst xs) (.int i) P := fun σ F H v w S a b Q k => .inl (o_ixL hi hp σ F H v w S a b Q k)
theorem o_ixAT {xs : List Dt} {i : Int} {x : Dt} {P : Dt → Prop} (hi : atI xs i = some x) (hp : P x) : Op2 B (rIx B.K) es (.tup xs) (.int i) P := fun σ F H v w S a b Q k => .inr (.inl (o_ixT hi hp σ F H v w S a b Q k))
theorem o_ixAS {z : Str} {i : Int} {c : Nat} {P : Dt → Prop} (hl : z.length ≤ 100000) (hi : atI z.cps.toList i = some c) (hp : P (.str ⟨#[c]⟩)) : Op2 B (rIx B.K) es (.str z) (.int i) P := fun σ F H v w S a b Q k => .inr (.inr (o_ixS hl hi hp σ F H v w S a b Q k))
/-- xs + ys; s + t -/
theorem o_catO {r : R2} (hr : r = rCat) {xs ys : List Dt} {σ : St} {F H : Hp} {v w : V} (S : Stt B es σ F H) (a : Rp B.K F v (.lst xs)) (b : Rp B.K F w (.lst ys)) (hl : xs.length + ys.length ≤ 100000) {Q : VK}
    (k : ∀ a vs F' H', Go B F H F' H' → H a = none → F' a = none → H' a = some (.lst vs) → RpAll B.K F' vs (xs ++ ys) → Q (.ref a) H') : r v w H Q := by
  subst hr
  cases a with
  | lst h1 r1 =>
    cases b with
    | lst h2 r2 =>
      refine ⟨_, _, _, _, rfl, rfl, S.sub _ _ h1, S.sub _ _ h2, size_of (by rw [r1.length, r2.length]; exact hl), fun p hp => ?_⟩
      exact k p _ F _ (S.allocO hp) hp (same_none S.sub hp) upd_same (r1.app r2)
theorem o_cat {xs ys : List Dt} {P : Dt → Prop} (hl : xs.length + ys.length ≤ 100000) (hp : P (.lst (xs ++ ys))) : Op2 B rCat es (.lst xs) (.lst ys) P := fun σ F H v w S a b Q k =>
  o_catO rfl S a b hl fun p vs F' H' g h0 h1 h2 r => k _ _ (upd F' p (.lst vs)) H' (g.freeze S h0 h1 h2) (.lst upd_same (r.mono (same_upd h1))) hp
theorem o_catS {x y : Str} {P : Dt → Prop} (hl : x.length + y.length ≤ 100000) (hp : P (.str (x ++ y))) : Op2 B (fun x y H Q => ∃ i j, x = .str i ∧ y = .str j ∧ i.length + j.length ≤ sizeLine ∧ Q (.str (i ++ j)) H) es (.str x) (.str y) P := fun σ F H v w S a b Q k => by
  cases a; cases b; exact ⟨x, y, rfl, rfl, size_of hl, k _ _ F H S.refl (.str _) hp⟩
/-- a one-place operation -/
theorem ev_neg {ta : TE} {P : Dt → Prop} (h : Ev B ta es fun x => ∃ i, x = .int i ∧ P (.int (-i))) : Ev B (tUn (rU fun i => .int (-i)) ta) es P := fun σ F H S Q q =>
  h σ F H S _ fun v x F1 H1 g1 r1 ⟨i, e, p1⟩ => by
    subst e
    cases r1
    exact ⟨i, rfl, q _ _ F1 H1 g1 (.int _) p1⟩

/-! ### tests -/
theorem et_B {te : TE} {P : Bool → Prop} (h : Ev B te es fun d => ∃ b, d = .bl b ∧ P b) : EvT B (tB te) es P := fun σ F H S Q q =>
  h σ F H S _ fun v x F1 H1 g1 r1 ⟨b, e, p1⟩ => by subst e; cases r1; exact ⟨b, rfl, q b F1 H1 g1 p1⟩
theorem et_test {te : TE} {P : Bool → Prop} (h : Ev B te es fun d => ∃ b, d = .bl b ∧ P b) : EvT B (tTest te) es P := fun σ F H S Q q =>
  h σ F H S _ fun v x F1 H1 g1 r1 ⟨b, e, p1⟩ => by subst e; cases r1; exact ⟨b, rfl, q b F1 H1 g1 p1⟩
theorem et_not {t : TT} {P : Bool → Prop} (h : EvT B t es fun b => P (!b)) : EvT B (tNot t) es P := fun σ F H S Q q => h σ F H S _ fun b F1 H1 g1 p1 => q _ F1 H1 g1 p1
theorem et_and {t u : TT} {P : Bool → Prop} (h : EvT B t es fun b => (b = true → EvT B u es P) ∧ (b = false → P false)) : EvT B (tAnd t u) es P := fun σ F H S Q q => h σ F H S _ fun b F1 H1 g1 p1 => by
  cases b with
  | true =>
    show u σ H1 Q
    exact p1.1 rfl σ F1 H1 (S.go g1) Q fun c F2 H2 g2 p2 => q c F2 H2 (g1.trans g2) p2
  | false =>
    show Q false H1
    exact q false F1 H1 g1 (p1.2 rfl)
theorem et_or {t u : TT} {P : Bool → Prop} (h : EvT B t es fun b => (b = true → P true) ∧ (b = false → EvT B u es P)) : EvT B (tOr t u) es P := fun σ F H S Q q => h σ F H S _ fun b F1 H1 g1 p1 => by
  cases b with
  | false =>
    show u σ H1 Q
    exact p1.2 rfl σ F1 H1 (S.go g1) Q fun c F2 H2 g2 p2 => q c F2 H2 (g1.trans g2) p2
  | true =>
    show Q true H1
    exact q true F1 H1 g1 (p1.1 rfl)
theorem ev_and {ta tb : TE} {P : Dt → Prop} (h : Ev B ta es fun d => ∃ b, d = .bl b ∧ (b = true → Ev B tb es P) ∧ (b = false → P (.bl false))) : Ev B (tAndV ta tb) es P := fun σ F H S Q q => h σ F H S _ fun v d F1 H1 g1 r1 ⟨b, e, p1⟩ => by
  subst e
  cases r1
  refine ⟨b, rfl, ?_⟩
  cases b with
  | true =>
    show tb σ H1 Q
    exact p1.1 rfl σ F1 H1 (S.go g1) Q fun w c F2 H2 g2 r2 p2 => q w c F2 H2 (g1.trans g2) r2 p2
  | false =>
    show Q (.bl false) H1
    exact q _ _ F1 H1 g1 (.bl false) (p1.2 rfl)
theorem ev_or {ta tb : TE} {P : Dt → Prop} (h : Ev B ta es fun d => ∃ b, d = .bl b ∧ (b = true → P (.bl true)) ∧ (b = false → Ev B tb es P)) : Ev B (tOrV ta tb) es P := fun σ F H S Q q => h σ F H S _ fun v d F1 H1 g1 r1 ⟨b, e, p1⟩ => by
  subst e
  cases r1
  refine ⟨b, rfl, ?_⟩
  cases b with
  | false =>
    show tb σ H1 Q
    exact p1.2 rfl σ F1 H1 (S.go g1) Q fun w c F2 H2 g2 r2 p2 => q w c F2 H2 (g1.trans g2) r2 p2
  | true =>
    show Q (.bl true) H1
    exact q _ _ F1 H1 g1 (.bl true) (p1.1 rfl)
theorem ev_not {ta : TE} {P : Dt → Prop} (h : Ev B ta es fun d => ∃ b, d = .bl b ∧ P (.bl (!b))) : Ev B (tNotV ta) es P := fun σ F H S Q q => h σ F H S _ fun v d F1 H1 g1 r1 ⟨b, e, p1⟩ => by
  subst e; cases r1; exact ⟨b, rfl, q _ _ F1 H1 g1 (.bl _) p1⟩
theorem ev_if {t : TT} {ta tb : TE} {P : Dt → Prop} (h : EvT B t es fun b => (b = true → Ev B ta es P) ∧ (b = false → Ev B tb es P)) : Ev B (tIf t ta tb) es P := fun σ F H S Q q => h σ F H S _ fun b F1 H1 g1 p1 => by
  cases b with
  | true =>
    show ta σ H1 Q
    exact p1.1 rfl σ F1 H1 (S.go g1) Q fun w c F2 H2 g2 r2 p2 => q w c F2 H2 (g1.trans g2) r2 p2
  | false =>
    show tb σ H1 Q
    exact p1.2 rfl σ F1 H1 (S.go g1) Q fun w c F2 H2 g2 r2 p2 => q w c F2 H2 (g1.trans g2) r2 p2
theorem ev_chain {r r' : R2} {ta tb tc : TE} {P : Dt → Prop} (h : Ev B ta es fun x => Ev B tb es fun y => Op2 B r es x y fun z => ∃ k, z = .bl k ∧ (k = true → Ev B tc es fun w => Op2 B r' es y w P) ∧ (k = false → P (.bl false))) : Ev B (tChain r r' ta tb tc) es P := fun σ F H S Q q =>
  h σ F H S _ fun v x F1 H1 g1 r1 p1 => p1 σ F1 H1 (S.go g1) _ fun w y F2 H2 g2 r2 p2 => p2 σ F2 H2 v w ((S.go g1).go g2) (r1.mono g2.s1) r2 _ fun u z F3 H3 g3 r3 ⟨b, e, p3⟩ => by
    subst e
    cases r3
    refine ⟨b, rfl, ?_⟩
    have S3 := ((S.go g1).go g2).go g3
    cases b with
    | true =>
      show tc σ H3 _
      exact p3.1 rfl σ F3 H3 S3 _ fun a d F4 H4 g4 r4 p4 => p4 σ F4 H4 w a (S3.go g4) (r2.mono (g3.s1.trans g4.s1)) r4 Q fun b' d' F5 H5 g5 r5 p5 => q b' d' F5 H5 ((((g1.trans g2).trans g3).trans g4).trans g5) r5 p5
    | false =>
      show Q (.bl false) H3
      exact q _ _ F3 H3 ((g1.trans g2).trans g3) (.bl false) (p3.2 rfl)

/-! ### calls of built-ins -/
def Cal (B : Bs) (r : List V → Hp → VK → Prop) (es : List Sl) (ds : List Dt) (P : Dt → Prop) : Prop := ∀ σ F H vs, Stt B es σ F H → RpAll B.K F vs ds → ∀ Q : VK,
  (∀ v d F' H', Go B F H F' H' → Rp B.K F' v d → P d → Q v H') → r vs H Q
theorem ev_cb {r : List V → Hp → VK → Prop} {ta : TA} {P : Dt → Prop} (h : EvA B ta es fun ds => Cal B r es ds P) : Ev B (tCB r ta) es P := fun σ F H S Q q =>
  h σ F H S _ fun vs ds F1 H1 g1 r1 p1 => p1 σ F1 H1 vs (S.go g1) r1 Q fun v d F2 H2 g2 r2 p2 => q v d F2 H2 (g1.trans g2) r2 p2
theorem c_altL {r q : List V → Hp → VK → Prop} {ds : List Dt} {P : Dt → Prop} (h : Cal B r es ds P) : Cal B (cAlt r q) es ds P := fun σ F H vs S a Q k => .inl (h σ F H vs S a Q k)
theorem c_altR {r q : List V → Hp → VK → Prop} {ds : List Dt} {P : Dt → Prop} (h : Cal B q es ds P) : Cal B (cAlt r q) es ds P := fun σ F H vs S a Q k => .inr (h σ F H vs S a Q k)
theorem rp1 {K : PySem.W.Frag} {F : Hp} {vs : List V} {d : Dt} (h : RpAll K F vs [d]) : ∃ v, vs = [v] ∧ Rp K F v d := by
  cases h with
  | cons r t => cases t; exact ⟨_, rfl, r⟩
theorem rp2 {K : PySem.W.Frag} {F : Hp} {vs : List V} {d e : Dt} (h : RpAll K F vs [d, e]) : ∃ v w, vs = [v, w] ∧ Rp K F v d ∧ Rp K F w e := by
  cases h with
  | cons r t =>
    obtain ⟨w, rfl, q⟩ := rp1 t
    exact ⟨_, _, rfl, r, q⟩
/-- len -/
def lenD : Dt → Option Nat
  | .str z => if z.length ≤ 100000 then some z.length else none
  | .lst xs => some xs.length
  | .tup xs => some xs.length
  | _ => none
def rLenA (K : PySem.W.Frag) : List V → Hp → VK → Prop := fun xs H Q => ∃ x n, xs = [x] ∧ LenV K x H n ∧ Q (.int n) H
theorem c_len {x : Dt} {n : Nat} {P : Dt → Prop} (hn : lenD x = some n) (hp : P (.int n)) : Cal B (rLenA B.K) es [x] P := fun σ F H vs S a Q k => by
  obtain ⟨v, rfl, r⟩ := rp1 a
  refine ⟨v, n, rfl, ?_, k _ _ F H S.refl (.int _) hp⟩
  cases r with
  | str z =>
    have hn' : (if z.length ≤ 100000 then some z.length else none) = some n := hn
    split at hn'
    · cases hn'; exact ⟨size_of (by assumption), rfl⟩
    · cases hn'
  | lst h1 h2 => cases hn; exact .inl ⟨_, SqL.of (S.sub _ _ h1), h2.length.symm⟩
  | tup h1 h2 => cases hn; exact .inr ⟨_, sqT_mono S.sub h1, h2.length.symm⟩
  | _ => cases hn
theorem c_int {i : Int} {P : Dt → Prop} (hp : P (.int i)) : Cal B (fun xs H Q => (∃ i, xs = [.int i] ∧ Q (.int i) H) ∨ ∃ k, xs = [.bl k] ∧ Q (.int (if k then 1 else 0)) H) es [.int i] P := fun σ F H vs S a Q k => by
  obtain ⟨v, rfl, r⟩ := rp1 a
  cases r
  exact .inl ⟨i, rfl, k _ _ F H S.refl (.int _) hp⟩
theorem c_intB {b : Bool} {P : Dt → Prop} (hp : P (.int (if b then 1 else 0))) : Cal B (fun xs H Q => (∃ i, xs = [.int i] ∧ Q (.int i) H) ∨ ∃ k, xs = [.bl k] ∧ Q (.int (if k then 1 else 0)) H) es [.bl b] P := fun σ F H vs S a Q k => by
  obtain ⟨v, rfl, r⟩ := rp1 a
  cases r
  exact .inr ⟨b, rfl, k _ _ F H S.refl (.int _) hp⟩
theorem c_abs {i : Int} {P : Dt → Prop} (hp : P (.int (if i < 0 then -i else i))) : Cal B (fun xs H Q => ∃ i, xs = [.int i] ∧ Q (.int (if i < 0 then -i else i)) H) es [.int i] P := fun σ F H vs S a Q k => by
  obtain ⟨v, rfl, r⟩ := rp1 a
  cases r
  exact ⟨i, rfl, k _ _ F H S.refl (.int _) hp⟩
theorem c_all {bs : List Bool} {P : Dt → Prop} (hp : P (.bl (bs.all id))) : Cal B (rAll B.K) es [.lst (bs.map Dt.bl)] P := fun σ F H vs S a Q k => by
  obtain ⟨v, rfl, r⟩ := rp1 a
  cases r with
  | lst h1 h2 =>
    have e := h2.bls
    subst e
    exact ⟨_, bs, rfl, SqL.of (S.sub _ _ h1), k _ _ F H S.refl (.bl _) hp⟩
/-- isinstance(x, T) -/
def dTy : Dt → String
  | .non => "NoneType" | .bl _ => "bool" | .int _ => "int" | .str _ => "str" | .lst _ => "list" | .tup _ => "tuple"
  | .dct _ _ => "dict"
  | .obj _ _ _ => ""
  | .ali _ => ""
def plainD : Dt → Bool
  | .obj _ _ _ => false
  | .ali _ => false
  | _ => true
theorem ty_of {K : PySem.W.Frag} {F H : Hp} {v : V} {x : Dt} (a : Rp K F v x) (s : Same F H) (h : plainD x = true) : TyX K H v (.type (dTy x)) := by
  cases a with
  | non => exact .base .non
  | bl b => exact .base (.bl b)
  | int i => exact .base (.int i)
  | str z => exact .base (.str z)
  | lst h1 _ => exact .base (.lst (s _ _ h1))
  | tup h1 _ =>
    rcases h1 with (h1 | ⟨o, h1⟩) | ⟨o, its, n, k1, k2, k3⟩
    · exact .base (.tup (s _ _ h1))
    · exact .fTuple (s _ _ h1)
    · exact .kTuple k1 k2
  | dct h1 _ _ _ => exact .base (.dK (s _ _ h1))
  | obj _ _ _ _ => cases h
  | ali _ => cases h
def isiD (T : String) : Dt → Option Bool
  | .obj _ _ _ => none
  | .ali _ => none
  | x => kitB (dTy x) T
theorem ev_isi {te : TE} {T : String} {P : Dt → Prop} (h : Ev B te es fun d => ∃ b, isiD T d = some b ∧ P (.bl b)) : Ev B (tCB (rIsi B.K) (tCons te (tCons (tC (.ty T)) tNil))) es P := fun σ F H S Q q =>
  h σ F H S _ fun v x F1 H1 g1 r1 ⟨b, e, p1⟩ => by
    have hx : plainD x = true := by cases x <;> first | rfl | (cases e; done)
    have hk : kitB (dTy x) T = some b := by cases x <;> first | exact e | (cases hx; done)
    exact ⟨v, .ty T, _, _, b, rfl, .ty T, ty_of r1 g1.s2 hx, kit_ty hk, q _ _ F1 H1 g1 (.bl b) p1⟩
def anyIsi (x : String) : List String → Option Bool
  | [] => some false
  | T :: Ts => match kitB x T with
    | some true => some true
    | some false => anyIsi x Ts
    | none => none
theorem kitAny_of {K : PySem.W.Frag} {x : String} : ∀ {Ts : List String} {b : Bool}, anyIsi x Ts = some b → PySem.W.kitAny K (.type x) (Ts.map Value.type) = some b
  | [], b, h => by cases h; rfl
  | T :: Ts, b, h => by
    unfold anyIsi at h
    cases e : kitB x T with
    | none => rw [e] at h; cases h
    | some c =>
      rw [e] at h
      cases c with
      | true => cases h; exact kitAny_cons (kit_ty e) (fun z => nomatch z) fun _ => rfl
      | false => exact kitAny_cons (kit_ty e) (fun _ => kitAny_of h) fun z => nomatch z
def isiDs (Ts : List String) : Dt → Option Bool
  | .obj _ _ _ => none
  | .ali _ => none
  | x => anyIsi (dTy x) Ts
/-- isinstance(x, (T, U)) -/
theorem ev_isi2 {te : TE} {T U : String} {P : Dt → Prop} (h : Ev B te es fun d => ∃ b, isiDs [T, U] d = some b ∧ P (.bl b)) : Ev B (tCB (rIsiT B.K) (tCons te (tCons (tTup (tCons (tC (.ty T)) (tCons (tC (.ty U)) tNil))) tNil))) es P := fun σ F H S Q q =>
  h σ F H S _ fun v x F1 H1 g1 r1 ⟨b, e, p1⟩ => by
    have S1 := S.go g1
    have hx : plainD x = true := by cases x <;> first | rfl | (cases e; done)
    have hk : anyIsi (dTy x) [T, U] = some b := by cases x <;> first | exact e | (cases hx; done)
    refine ⟨by show 2 ≤ sizeLine; decide, fun p hp => ?_⟩
    have g2 := S1.allocO (o := .tup [.ty T, .ty U]) hp
    exact ⟨v, p, [.ty T, .ty U], _, [.type T, .type U], b, rfl, upd_same, .cons (.ty T) (.cons (.ty U) .nil), ty_of r1 (g1.s2.trans (same_upd hp)) hx, kitAny_of hk, q _ _ F1 _ (g1.trans g2) (.bl b) p1⟩

/-! ### calls of defs -/
/-- the promise of a def over data: Pre of the arguments, Post of arguments and result -/
def spD (K : PySem.W.Frag) (Pre : List Dt → Prop) (Post : List Dt → Dt → Prop) : Sp := fun vs H Q _ => ∃ F ds, Same F H ∧ RpAll K F vs ds ∧ Pre ds ∧
  ∀ v d F' H', Same F F' → (∀ c, H c ≠ none → F c = none → F' c = none) → Same F' H' → Same H H' → Rp K F' v d → Post ds d → Q v H'
theorem ev_call {Pre : List Dt → Prop} {Post : List Dt → Dt → Prop} {E : XK} {ta : TA} {P : Dt → Prop} (h : EvA B ta es fun ds => Pre ds ∧ ∀ d, Post ds d → P d) : Ev B (tCall (spD B.K Pre Post) [] E ta) es P := fun σ F H S Q q =>
  h σ F H S _ fun vs ds F1 H1 g1 r1 ⟨p1, p2⟩ => by
    rw [List.append_nil]
    exact ⟨F1, ds, g1.s2, r1, p1, fun v d F2 H2 s1 s2 s3 s4 r2 p3 => q v d F2 H2 (g1.trans ((S.go g1).pure s1 s3 s2 s4)) r2 (p2 d p3)⟩
/-- the same with defaults behind -/
theorem ev_callD {Pre : List Dt → Prop} {Post : List Dt → Dt → Prop} {E : XK} {ta : TA} {P : Dt → Prop} {dvs : List V} {dds : List Dt} (hd : ∀ F, RpAll B.K F dvs dds) (h : EvA B ta es fun ds => Pre (ds ++ dds) ∧ ∀ d, Post (ds ++ dds) d → P d) : Ev B (tCall (spD B.K Pre Post) dvs E ta) es P := fun σ F H S Q q =>
  h σ F H S _ fun vs ds F1 H1 g1 r1 ⟨p1, p2⟩ => ⟨F1, ds ++ dds, g1.s2, r1.app (hd F1), p1, fun v d F2 H2 s1 s2 s3 s4 r2 p3 => q v d F2 H2 (g1.trans ((S.go g1).pure s1 s3 s2 s4)) r2 (p2 d p3)⟩
/-- f(k = v, ..) -/
theorem ev_callN {Pre : List Dt → Prop} {Post : List Dt → Dt → Prop} {E : XK} {ta tk : TA} {P : Dt → Prop} {n m : Nat} {gV : List V → List V → List V} {gD : List Dt → List Dt → List Dt}
    (hg : ∀ F vs ds zs as, RpAll B.K F vs ds → RpAll B.K F zs as → RpAll B.K F (gV vs zs) (gD ds as))
    (h : EvA B ta es fun ds => EvA B tk es fun as => ds.length = n ∧ as.length = m ∧ Pre (gD ds as) ∧ ∀ d, Post (gD ds as) d → P d) : Ev B (tCallN n m (spD B.K Pre Post) gV E ta tk) es P := fun σ F H S Q q =>
  h σ F H S _ fun vs ds F1 H1 g1 r1 p0 => p0 σ F1 H1 (S.go g1) _ fun zs as F2 H2 g2 r2 ⟨l1, l2, p1, p2⟩ => by
    have g := g1.trans g2
    exact ⟨by rw [r1.length]; exact l1, by rw [r2.length]; exact l2, F2, gD ds as, g2.s2, hg F2 _ _ _ _ (r1.mono g2.s1) r2, p1, fun v d F3 H3 s1 s2 s3 s4 r3 p3 => q v d F3 H3 (g.trans ((S.go g).pure s1 s3 s2 s4)) r3 (p2 d p3)⟩
/-- a def that draws: the drawing's list first -/
def spB (K : PySem.W.Frag) (Pre : List Dt → Prop) (Post : List Dt → Dt → Prop) : Sp := fun vs H Q _ => ∃ b ws F ds, vs = .ref b :: ws ∧ Same F H ∧ BagAt K F H b ∧ RpAll K F ws ds ∧ Pre ds ∧
  ∀ v d F' H', Same F F' → (∀ c, H c ≠ none → F c = none → F' c = none) → Same F' H' → (∀ c o, c ≠ b → H c = some o → H' c = some o) → BagAt K F' H' b → Rp K F' v d → Post ds d → Q v H'
theorem ev_callB {Pre : List Dt → Prop} {Post : List Dt → Dt → Prop} {E : XK} {ta : TA} {P : Dt → Prop} {i : Nat} {b : Addr} (hb : B.bag = some b) (hi : es[i]? = some (.r (.ref b))) (h : EvA B ta es fun ds => Pre ds ∧ ∀ d, Post ds d → P d) :
    Ev B (tCall (spB B.K Pre Post) [] E (tCons (tVar i) ta)) es P := fun σ F H S Q q => ⟨_, S.raw hi, h σ F H S _ fun vs ds F1 H1 g1 r1 ⟨p1, p2⟩ => by
    show spB B.K Pre Post ((V.ref b :: vs) ++ []) H1 Q E
    rw [List.append_nil]
    refine ⟨b, vs, F1, ds, rfl, g1.s2, g1.bg b hb, r1, p1, fun v d F2 H2 s1 s2 s3 s4 s5 r2 p3 => q v d F2 H2 (g1.trans ⟨s1, s3, s2, fun c o hc ho => s4 c o (fun e => hc (by rw [e]; exact hb)) ho, fun b' hb' => ?_⟩) r2 (p2 d p3)⟩
    rw [hb] at hb'
    cases hb'
    exact s5⟩
end
end Y
/-! Y3: statements, loops, comprehensions, the promise of a def. -/
namespace Y
open PySem L2

structure Po where
  nx : List Sl → Prop
  bk : List Sl → Prop
  ct : List Sl → Prop
  rt : List Sl → Dt → Prop
  ro : List Dt → Prop := fun _ => False
def Sm (B : Bs) (t : TS) (es : List Sl) (p : Po) : Prop := ∀ σ F H (D : Ends), Stt B es σ F H →
  (∀ es' σ' F' H', Stt B es' σ' F' H' → Same F F' → p.nx es' → D.nx σ' H') →
  (∀ es' σ' F' H', Stt B es' σ' F' H' → Same F F' → p.bk es' → D.bk σ' H') →
  (∀ es' σ' F' H', Stt B es' σ' F' H' → Same F F' → p.ct es' → D.ct σ' H') →
  (∀ v d es' σ' F' H', Stt B es' σ' F' H' → Same F F' → Rp B.K F' v d → p.rt es' d → D.rt v H') →
  (∀ a vs xs es' σ' F' H', Stt B es' σ' F' H' → Same F F' → F' a = none → H' a = some (.lst vs) → RpAll B.K F' vs xs → B.H0 a = none → B.bag ≠ some a → p.ro xs → D.rt (.ref a) H') → t D σ H

section
variable {B : Bs} {es : List Sl} {p : Po}
theorem Stt.set {σ : St} {F H : Hp} {i : Nat} {e : Sl} {o : Option V} (S : Stt B es σ F H) (h : SlOk B.K F H o e) (hw : ∀ a xs, e = .own a xs → B.H0 a = none ∧ B.bag ≠ some a ∧ ∀ (j : Nat) c ys, es[j]? = some (.own c ys) → c ≠ a) : Stt B (es.set i e) (σ.set i o) F H where
  sub := S.sub
  s0 := S.s0
  ou := S.ou
  fr := S.fr
  bg := S.bg
  len := by rw [List.length_set, List.length_set]; exact S.len
  ok := fun j e' o' h1 h2 => by
    by_cases hj : i = j
    · subst hj
      have l1 : i < es.length := by
        have := (List.getElem?_eq_some_iff.mp h1).1
        rwa [List.length_set] at this
      rw [List.getElem?_set_self l1] at h1
      rw [List.getElem?_set_self (by rw [S.len]; exact l1)] at h2
      cases h1; cases h2; exact h
    · rw [List.getElem?_set_ne hj] at h1 h2
      exact S.ok j e' o' h1 h2
  ow := fun j a xs h1 => by
    by_cases hj : i = j
    · subst hj
      have l1 : i < es.length := by
        have := (List.getElem?_eq_some_iff.mp h1).1
        rwa [List.length_set] at this
      rw [List.getElem?_set_self l1] at h1
      cases h1
      obtain ⟨k1, k2, _⟩ := hw a xs rfl
      exact ⟨k1, k2⟩
    · rw [List.getElem?_set_ne hj] at h1
      exact S.ow j a xs h1
  dis := fun j l a b xs ys hjl h1 h2 => by
    by_cases hj : i = j
    · subst hj
      have l1 : i < es.length := by
        have := (List.getElem?_eq_some_iff.mp h1).1
        rwa [List.length_set] at this
      rw [List.getElem?_set_self l1] at h1
      rw [List.getElem?_set_ne hjl] at h2
      cases h1
      exact ((hw a xs rfl).2.2 l b ys h2).symm
    · rw [List.getElem?_set_ne hj] at h1
      by_cases hl : i = l
      · subst hl
        have l1 : i < es.length := by
          have := (List.getElem?_eq_some_iff.mp h2).1
          rwa [List.length_set] at this
        rw [List.getElem?_set_self l1] at h2
        cases h2
        exact (hw b ys rfl).2.2 j a xs h1
      · rw [List.getElem?_set_ne hl] at h2
        exact S.dis j l a b xs ys hjl h1 h2
theorem Stt.setD {σ : St} {F H : Hp} {i : Nat} {v : V} {x : Dt} (S : Stt B es σ F H) (r : Rp B.K F v x) : Stt B (es.set i (.d x)) (σ.set i (some v)) F H := S.set ⟨v, rfl, r⟩ fun _ _ e => nomatch e
theorem Stt.setO {σ : St} {F H : Hp} {i : Nat} {a : Addr} {vs : List V} {xs : List Dt} (S : Stt B es σ F H) (h1 : F a = none) (h2 : H a = some (.lst vs)) (r : RpAll B.K F vs xs) (h3 : B.H0 a = none) (h4 : B.bag ≠ some a) (h5 : ∀ (j : Nat) c ys, es[j]? = some (.own c ys) → c ≠ a) :
    Stt B (es.set i (.own a xs)) (σ.set i (some (.ref a))) F H := S.set ⟨vs, rfl, h1, h2, r⟩ fun _ _ e => by cases e; exact ⟨h3, h4, h5⟩

theorem sm_seq {t u : TS} (h : Sm B t es { p with nx := fun es' => Sm B u es' p }) : Sm B (tSeq t u) es p := fun σ F H D S n b c r ro =>
  h σ F H { D with nx := u D } S (fun es' σ' F' H' S' s' q => q σ' F' H' D S' (fun e2 a2 F2 H2 S2 s2 q2 => n e2 a2 F2 H2 S2 (s'.trans s2) q2) (fun e2 a2 F2 H2 S2 s2 q2 => b e2 a2 F2 H2 S2 (s'.trans s2) q2)
    (fun e2 a2 F2 H2 S2 s2 q2 => c e2 a2 F2 H2 S2 (s'.trans s2) q2) (fun v d e2 a2 F2 H2 S2 s2 q2 => r v d e2 a2 F2 H2 S2 (s'.trans s2) q2) (fun a vs xs e2 a2 F2 H2 S2 s2 => ro a vs xs e2 a2 F2 H2 S2 (s'.trans s2))) b c r ro
theorem sm_next (h : p.nx es) : Sm B tNext es p := fun σ F H D S n _ _ _ _ => n es σ F H S (Same.refl F) h
theorem sm_brk (h : p.bk es) : Sm B tBreak es p := fun σ F H D S _ n _ _ _ => n es σ F H S (Same.refl F) h
theorem sm_cont (h : p.ct es) : Sm B tCont es p := fun σ F H D S _ _ n _ _ => n es σ F H S (Same.refl F) h
theorem sm_imp {t : TS} {p' : Po} (h : Sm B t es p') (h1 : ∀ e, p'.nx e → p.nx e) (h2 : ∀ e, p'.bk e → p.bk e) (h3 : ∀ e, p'.ct e → p.ct e) (h4 : ∀ e d, p'.rt e d → p.rt e d) (h5 : ∀ d, p'.ro d → p.ro d) : Sm B t es p := fun σ F H D S n b c r ro =>
  h σ F H D S (fun e a F' H' S' s q => n e a F' H' S' s (h1 e q)) (fun e a F' H' S' s q => b e a F' H' S' s (h2 e q)) (fun e a F' H' S' s q => c e a F' H' S' s (h3 e q)) (fun v d e a F' H' S' s q z => r v d e a F' H' S' s q (h4 e d z)) fun a vs xs e2 a2 F2 H2 S2 s2 k1 k2 k3 k4 k5 z => ro a vs xs e2 a2 F2 H2 S2 s2 k1 k2 k3 k4 k5 (h5 xs z)
theorem sm_retO {te : TE} (h : EvO B te es p.ro) : Sm B (tRet te) es p := fun σ F H D S _ _ _ _ ro => h σ F H S _ fun a vs xs F1 H1 g1 h0 h1 h2 r1 p1 => ro a vs xs es σ F1 H1 (S.go g1) g1.s1 h1 h2 r1 (S.new0 h0) (S.newB h0) p1
theorem sm_ret {te : TE} (h : Ev B te es (p.rt es)) : Sm B (tRet te) es p := fun σ F H D S _ _ _ r _ => h σ F H S _ fun v d F1 H1 g1 r1 p1 => r v d es σ F1 H1 (S.go g1) g1.s1 r1 p1
theorem sm_if {tc : TT} {t u : TS} (h : EvT B tc es fun b => (b = true → Sm B t es p) ∧ (b = false → Sm B u es p)) : Sm B (tIfS tc t u) es p := fun σ F H D S n b c r ro => h σ F H S _ fun k F1 H1 g1 p1 => by
  have S1 := S.go g1
  cases k with
  | true =>
    show t D σ H1
    exact p1.1 rfl σ F1 H1 D S1 (fun e2 a2 F2 H2 S2 s2 q2 => n e2 a2 F2 H2 S2 (g1.s1.trans s2) q2) (fun e2 a2 F2 H2 S2 s2 q2 => b e2 a2 F2 H2 S2 (g1.s1.trans s2) q2)
      (fun e2 a2 F2 H2 S2 s2 q2 => c e2 a2 F2 H2 S2 (g1.s1.trans s2) q2) (fun v d e2 a2 F2 H2 S2 s2 q2 => r v d e2 a2 F2 H2 S2 (g1.s1.trans s2) q2) (fun a vs xs e2 a2 F2 H2 S2 s2 => ro a vs xs e2 a2 F2 H2 S2 (g1.s1.trans s2))
  | false =>
    show u D σ H1
    exact p1.2 rfl σ F1 H1 D S1 (fun e2 a2 F2 H2 S2 s2 q2 => n e2 a2 F2 H2 S2 (g1.s1.trans s2) q2) (fun e2 a2 F2 H2 S2 s2 q2 => b e2 a2 F2 H2 S2 (g1.s1.trans s2) q2)
      (fun e2 a2 F2 H2 S2 s2 q2 => c e2 a2 F2 H2 S2 (g1.s1.trans s2) q2) (fun v d e2 a2 F2 H2 S2 s2 q2 => r v d e2 a2 F2 H2 S2 (g1.s1.trans s2) q2) (fun a vs xs e2 a2 F2 H2 S2 s2 => ro a vs xs e2 a2 F2 H2 S2 (g1.s1.trans s2))
theorem sm_drop {te : TE} (h : Ev B te es fun _ => p.nx es) : Sm B (tDrop te) es p := fun σ F H D S n _ _ _ _ => h σ F H S _ fun v d F1 H1 g1 r1 p1 => n es σ F1 H1 (S.go g1) g1.s1 p1
/-! ### targets -/
def Tg (B : Bs) (g : TG) (es : List Sl) (x : Dt) (P : List Sl → Prop) : Prop := ∀ σ F H v, Stt B es σ F H → Rp B.K F v x → ∀ Q : St → Hp → Prop, (∀ es' σ' F' H', Stt B es' σ' F' H' → Same F F' → P es' → Q σ' H') → g v σ H Q
def Tgs (B : Bs) (g : TGs) (es : List Sl) (xs : List Dt) (P : List Sl → Prop) : Prop := ∀ σ F H vs, Stt B es σ F H → RpAll B.K F vs xs → ∀ Q : St → Hp → Prop, (∀ es' σ' F' H', Stt B es' σ' F' H' → Same F F' → P es' → Q σ' H') → g vs σ H Q
theorem tg_name {i : Nat} {x : Dt} {P : List Sl → Prop} (h : P (es.set i (.d x))) : Tg B (gName i) es x P := fun σ F H v S r Q q => q _ _ F H (S.setD r) (Same.refl F) h
theorem tgs_nil {P : List Sl → Prop} (h : P es) : Tgs B gNil es [] P := fun σ F H vs S r Q q => by
  cases r
  exact ⟨rfl, q es σ F H S (Same.refl F) h⟩
theorem tgs_cons {t : TG} {u : TGs} {x : Dt} {xs : List Dt} {P : List Sl → Prop} (h : Tg B t es x fun es' => Tgs B u es' xs P) : Tgs B (gCons t u) es (x :: xs) P := fun σ F H vs S r Q q => by
  cases r with
  | cons r1 r2 =>
    exact ⟨_, _, rfl, h σ F H _ S r1 _ fun es' σ' F' H' S' s' p1 => p1 σ' F' H' _ S' (r2.mono s') Q fun e2 a2 F2 H2 S2 s2 p2 => q e2 a2 F2 H2 S2 (s'.trans s2) p2⟩
theorem tg_tup {n : Nat} {t : TGs} {xs : List Dt} {P : List Sl → Prop} (hn : xs.length = n) (h : Tgs B t es xs P) : Tg B (gTup B.K n t) es (.tup xs) P := fun σ F H v S r Q q => by
  cases r with
  | tup h1 h2 => exact ⟨_, _, rfl, sqT_mono S.sub h1, by rw [h2.length]; exact hn, h σ F H _ S h2 Q q⟩
theorem sm_asg {te : TE} {g : TG} (h : Ev B te es fun d => Tg B g es d p.nx) : Sm B (tAsg te g) es p := fun σ F H D S n _ _ _ _ => h σ F H S _ fun v d F1 H1 g1 r1 p1 => p1 σ F1 H1 v (S.go g1) r1 _ fun e2 a2 F2 H2 S2 s2 q2 => n e2 a2 F2 H2 S2 (g1.s1.trans s2) q2
theorem sm_set {te : TE} {i : Nat} (h : Ev B te es fun d => p.nx (es.set i (.d d))) : Sm B (tAsg te (gName i)) es p := sm_asg (h.imp fun d q => tg_name q)
theorem sm_setO {te : TE} {i : Nat} (h : EvO B te es fun xs => ∀ a, p.nx (es.set i (.own a xs))) : Sm B (tAsg te (gName i)) es p := fun σ F H D S n _ _ _ _ => h σ F H S _ fun a vs xs F1 H1 g1 h0 h1 h2 r1 p1 => by
  have S1 := S.go g1
  exact n _ _ F1 H1 (S1.setO h1 h2 r1 (S.new0 h0) (S.newB h0) fun j c ys hj => S.newS h0 j ys hj) g1.s1 (p1 a)
theorem sm_par {i j : Nat} {ta : TA} (h : EvA B ta es fun ds => ∃ x y, ds = [x, y] ∧ p.nx ((es.set i (.d x)).set j (.d y))) : Sm B (tPar i j ta) es p := fun σ F H D S n _ _ _ _ => h σ F H S _ fun vs ds F1 H1 g1 r1 ⟨x, y, e, p1⟩ => by
  subst e
  obtain ⟨v, w, rfl, a, b⟩ := rp2 r1
  exact ⟨v, w, rfl, n _ _ F1 H1 (((S.go g1).setD a).setD b) g1.s1 p1⟩
theorem sm_aug {i : Nat} {te : TE} {f : Int → Int → Int} {a : Int} (hi : es[i]? = some (.d (.int a))) (h : Ev B te es fun d => ∃ b, d = .int b ∧ p.nx (es.set i (.d (.int (f a b))))) : Sm B (tAug i te (ipI f)) es p := fun σ F H D S n _ _ _ _ => by
  obtain ⟨v, h1, h2⟩ := S.dat hi
  cases h2
  exact ⟨_, h1, h σ F H S _ fun w d F1 H1 g1 r1 ⟨b, e, p1⟩ => by
    subst e; cases r1; exact ⟨a, b, rfl, rfl, n _ _ F1 H1 ((S.go g1).setD (.int _)) g1.s1 p1⟩⟩

/-! ### a list of one's own -/
theorem Stt.own {σ : St} {F H : Hp} {i : Nat} {a : Addr} {xs : List Dt} (S : Stt B es σ F H) (h : es[i]? = some (.own a xs)) : ∃ vs, σ[i]? = some (some (.ref a)) ∧ F a = none ∧ H a = some (.lst vs) ∧ RpAll B.K F vs xs := by
  obtain ⟨o, h1, vs, rfl, k⟩ := S.slot h
  exact ⟨vs, h1, k⟩
theorem Stt.freeze {σ : St} {F H : Hp} {i : Nat} {xs : List Dt} {a : Addr} {vs : List V} (S : Stt B es σ F H) (h : es[i]? = some (.own a xs)) (hs : σ[i]? = some (some (.ref a))) (h1 : F a = none) (h2 : H a = some (.lst vs)) (h3 : RpAll B.K F vs xs) :
    Stt B (es.set i (.d (.lst xs))) σ (upd F a (.lst vs)) H where
  sub := fun c o e => by
    by_cases hc : c = a
    · subst hc; rw [upd_same] at e; rw [h2, e]
    · rw [upd_ne hc] at e; exact S.sub c o e
  s0 := S.s0.trans (same_upd h1)
  ou := fun c k1 k2 => by
    have hc : c ≠ a := fun e => k1 (by rw [e]; exact (S.ow i a xs h).1)
    rw [upd_ne hc]; exact S.ou c k1 k2
  fr := S.fr
  bg := fun b hb => by
    obtain ⟨k1, ws, ys, k2, k3, k4⟩ := S.bg b hb
    have hba : b ≠ a := fun q => (S.ow i a xs h).2 (by rw [hb, q])
    exact ⟨by rw [upd_ne hba]; exact k1, ws, ys, k2, k3.mono (same_upd h1), k4⟩
  len := by rw [List.length_set]; exact S.len
  ok := fun j e o k1 k2 => by
    by_cases hj : i = j
    · subst hj
      have l1 : i < es.length := (List.getElem?_eq_some_iff.mp h).1
      rw [List.getElem?_set_self l1] at k1
      cases k1
      rw [hs] at k2
      cases k2
      exact ⟨_, rfl, .lst upd_same (h3.mono (same_upd h1))⟩
    · rw [List.getElem?_set_ne hj] at k1
      have q := S.ok j e o k1 k2
      cases e with
      | no => exact q
      | any => trivial
      | d x => obtain ⟨v, z1, z2⟩ := q; exact ⟨v, z1, z2.mono (same_upd h1)⟩
      | r v => exact q
      | own c ys =>
        obtain ⟨ws, z1, z2, z3, z4⟩ := q
        have hca : c ≠ a := (S.dis i j a c xs ys hj h k1).symm
        exact ⟨ws, z1, by rw [upd_ne hca]; exact z2, z3, z4.mono (same_upd h1)⟩
  ow := fun j c ys k1 => by
    by_cases hj : i = j
    · subst hj
      have l1 : i < es.length := (List.getElem?_eq_some_iff.mp h).1
      rw [List.getElem?_set_self l1] at k1; cases k1
    · rw [List.getElem?_set_ne hj] at k1
      exact S.ow j c ys k1
  dis := fun j l c e ys zs hjl k1 k2 => by
    have l1 : i < es.length := (List.getElem?_eq_some_iff.mp h).1
    by_cases hj : i = j
    · subst hj; rw [List.getElem?_set_self l1] at k1; cases k1
    · by_cases hl : i = l
      · subst hl; rw [List.getElem?_set_self l1] at k2; cases k2
      · rw [List.getElem?_set_ne hj] at k1
        rw [List.getElem?_set_ne hl] at k2
        exact S.dis j l c e ys zs hjl k1 k2
theorem sm_freeze {t : TS} (i : Nat) {a : Addr} {xs : List Dt} (h : es[i]? = some (.own a xs)) (k : Sm B t (es.set i (.d (.lst xs))) p) : Sm B t es p := fun σ F H D S n b c r ro => by
  obtain ⟨vs, h1, h2, h3, h4⟩ := S.own h
  have s : Same F (upd F a (.lst vs)) := same_upd h2
  exact k σ _ H D (S.freeze h h1 h2 h3 h4) (fun e2 a2 F2 H2 S2 s2 q2 => n e2 a2 F2 H2 S2 (s.trans s2) q2) (fun e2 a2 F2 H2 S2 s2 q2 => b e2 a2 F2 H2 S2 (s.trans s2) q2)
    (fun e2 a2 F2 H2 S2 s2 q2 => c e2 a2 F2 H2 S2 (s.trans s2) q2) (fun v d e2 a2 F2 H2 S2 s2 q2 => r v d e2 a2 F2 H2 S2 (s.trans s2) q2) (fun a vs xs e2 a2 F2 H2 S2 s2 => ro a vs xs e2 a2 F2 H2 S2 (s.trans s2))
/-- the list at an own slot is changed -/
theorem Stt.change {σ : St} {F H : Hp} {i : Nat} {xs ys : List Dt} {a : Addr} {ws : List V} (S : Stt B es σ F H) (h : es[i]? = some (.own a xs)) (hs : σ[i]? = some (some (.ref a))) (h1 : F a = none) (h3 : RpAll B.K F ws ys) :
    Stt B (es.set i (.own a ys)) σ F (upd H a (.lst ws)) where
  sub := fun c o e => by
    rw [upd_ne (ne_of_none e h1)]; exact S.sub c o e
  s0 := S.s0
  ou := S.ou
  fr := fun c o k1 k2 => by
    have hc : c ≠ a := fun e => by
      have := (S.ow i a xs h).1
      rw [← e, k1] at this; cases this
    rw [upd_ne hc]; exact S.fr c o k1 k2
  bg := fun b hb => by
    obtain ⟨k1, ws, ys, k2, k3, k4⟩ := S.bg b hb
    have hba : b ≠ a := fun q => (S.ow i a xs h).2 (by rw [hb, q])
    exact ⟨k1, ws, ys, by rw [upd_ne hba]; exact k2, k3, k4⟩
  len := by rw [List.length_set]; exact S.len
  ok := fun j e o k1 k2 => by
    by_cases hj : i = j
    · subst hj
      have l1 : i < es.length := (List.getElem?_eq_some_iff.mp h).1
      rw [List.getElem?_set_self l1] at k1
      cases k1
      rw [hs] at k2
      cases k2
      exact ⟨ws, rfl, h1, upd_same, h3⟩
    · rw [List.getElem?_set_ne hj] at k1
      have q := S.ok j e o k1 k2
      cases e with
      | no => exact q
      | any => trivial
      | d x => exact q
      | r v => exact q
      | own c zs =>
        obtain ⟨us, z1, z2, z3, z4⟩ := q
        have hca : c ≠ a := (S.dis i j a c xs zs hj h k1).symm
        exact ⟨us, z1, z2, by rw [upd_ne hca]; exact z3, z4⟩
  ow := fun j c zs k1 => by
    by_cases hj : i = j
    · subst hj
      have l1 : i < es.length := (List.getElem?_eq_some_iff.mp h).1
      rw [List.getElem?_set_self l1] at k1
      cases k1
      exact S.ow i a xs h
    · rw [List.getElem?_set_ne hj] at k1
      exact S.ow j c zs k1
  dis := fun j l c e ys' zs hjl k1 k2 => by
    have l1 : i < es.length := (List.getElem?_eq_some_iff.mp h).1
    by_cases hj : i = j
    · subst hj
      rw [List.getElem?_set_self l1] at k1
      cases k1
      rw [List.getElem?_set_ne hjl] at k2
      exact S.dis i l a e xs zs hjl h k2
    · rw [List.getElem?_set_ne hj] at k1
      by_cases hl : i = l
      · subst hl
        rw [List.getElem?_set_self l1] at k2
        cases k2
        exact S.dis j i c a ys' xs hjl k1 h
      · rw [List.getElem?_set_ne hl] at k2
        exact S.dis j l c e ys' zs hjl k1 k2
theorem sm_append {i : Nat} {te : TE} {a : Addr} {xs : List Dt} (hi : es[i]? = some (.own a xs)) (h : Ev B te es fun d => xs.length < 100000 ∧ p.nx (es.set i (.own a (xs ++ [d])))) : Sm B (tDrop (tBM B.K "list" rAppend (tVar i) (tCons te tNil))) es p := fun σ F H D S n _ _ _ _ => by
  obtain ⟨vs, h1, h2, h3, h4⟩ := S.own hi
  refine ⟨_, h1, .inl ⟨rfl, _, SqL.of h3⟩, h σ F H S _ fun v d F1 H1 g1 r1 ⟨p1, p2⟩ => ?_⟩
  have S1 := S.go g1
  obtain ⟨vs', k1, k2, k3, k4⟩ := S1.own hi
  refine ⟨a, vs', v, rfl, rfl, k3, size_lt (by rw [k4.length]; exact p1), n _ _ F1 _ (S1.change hi h1 k2 (k4.app (.cons r1 .nil))) g1.s1 p2⟩

/-- an item of an own list is read; is stored; its length -/
theorem ev_ixOwn {i : Nat} {a : Addr} {xs : List Dt} {tb : TE} {P : Dt → Prop} (hi : es[i]? = some (.own a xs)) (h : Ev B tb es fun y => ∃ j, y = .int j ∧ ∃ x, atI xs j = some x ∧ P x) : Ev B (tOp (rIx B.K) (tVar i) tb) es P := fun σ F H S Q q => by
  obtain ⟨vs, h1, h2, h3, h4⟩ := S.own hi
  refine ⟨_, h1, h σ F H S _ fun w y F1 H1 g1 r1 ⟨j, e, x, hx, p1⟩ => ?_⟩
  subst e
  cases r1
  have S1 := S.go g1
  obtain ⟨vs', k1, k2, k3, k4⟩ := S1.own hi
  unfold atI at hx
  cases e : ixN xs.length j with
  | none => rw [e] at hx; cases hx
  | some n =>
    rw [e] at hx
    obtain ⟨u, z1, z2⟩ := k4.get (show xs[n]? = some x from hx)
    refine .inl ⟨a, vs', j, u, rfl, rfl, SqL.of k3, ?_, q _ _ F1 H1 g1 z2 p1⟩
    unfold atI
    rw [k4.length, e]
    exact z1
theorem sm_setItem {i : Nat} {a : Addr} {xs : List Dt} {te tj : TE} (hi : es[i]? = some (.own a xs)) (h : Ev B te es fun d => Ev B tj es fun y => ∃ j, y = .int j ∧ ∃ k, ixN xs.length j = some k ∧ p.nx (es.set i (.own a (xs.set k d)))) : Sm B (tAsg te (gSub (tVar i) tj rSetL)) es p := fun σ F H D S n _ _ _ _ =>
  h σ F H S _ fun v d F1 H1 g1 r1 p1 => by
    have S1 := S.go g1
    obtain ⟨vs, h1, h2, h3, h4⟩ := S1.own hi
    refine ⟨_, h1, p1 σ F1 H1 S1 _ fun w y F2 H2 g2 r2 ⟨j, e, k, hk, p2⟩ => ?_⟩
    subst e
    cases r2
    have S2 := S1.go g2
    obtain ⟨vs', k1, k2, k3, k4⟩ := S2.own hi
    exact ⟨a, vs', j, k, rfl, rfl, k3, by rw [k4.length]; exact hk, n _ _ F2 _ (S2.change hi h1 k2 (k4.set (r1.mono g2.s1) k)) (g1.s1.trans g2.s1) p2⟩
theorem ev_lenOwn {i : Nat} {a : Addr} {xs : List Dt} {P : Dt → Prop} (hi : es[i]? = some (.own a xs)) (h : P (.int xs.length)) : Ev B (tCB (rLenA B.K) (tCons (tVar i) tNil)) es P := fun σ F H S Q q => by
  obtain ⟨vs, h1, h2, h3, h4⟩ := S.own hi
  exact ⟨_, h1, _, xs.length, rfl, .inl ⟨vs, SqL.of h3, h4.length.symm⟩, q _ _ F H S.refl (.int _) h⟩

/-! ### walks -/
def Yl (K : PySem.W.Frag) (F : Hp) (H : Hp) (v : V) (x : Dt) (H' : Hp) : Prop := (H' = H ∧ Rp K F v x) ∨ ∃ T a b x1 x2, v = .ref T ∧ H T = none ∧ H' = upd H T (.tup [a, b]) ∧ Rp K F a x1 ∧ Rp K F b x2 ∧ x = .tup [x1, x2]
structure ItD (K : PySem.W.Frag) (J : It) (F : Hp) (xs : List Dt) : Prop where
  goes : ∀ (i : Nat) H, i < xs.length → Same F H → J.go i H
  stops : ∀ H, Same F H → J.stop xs.length H
  yields : ∀ (i : Nat) H v H', i < xs.length → Same F H → J.yld i H v H' → ∃ x, xs[i]? = some x ∧ Yl K F H v x H'
def EvI (B : Bs) (wi : TI) (es : List Sl) (P : List Dt → Prop) : Prop := ∀ σ F H, Stt B es σ F H → ∀ R : It → Hp → Prop, (∀ J xs F' H', Go B F H F' H' → ItD B.K J F' xs → P xs → R J H') → wi σ H R
theorem Yl.go {σ : St} {F F1 H H' : Hp} {v : V} {x : Dt} (y : Yl B.K F H v x H') (S : Stt B es σ F1 H) (s : Same F F1) : ∃ F2, Go B F1 H F2 H' ∧ Rp B.K F2 v x := by
  rcases y with ⟨rfl, r⟩ | ⟨T, a, b, x1, x2, rfl, h1, rfl, r1, r2, rfl⟩
  · exact ⟨F1, S.refl, r.mono s⟩
  · have hF : F1 T = none := same_none S.sub h1
    have s2 : Same F (upd F1 T (.tup [a, b])) := s.trans (same_upd hF)
    exact ⟨upd F1 T (.tup [a, b]), S.alloc h1, .tup (SqT.of upd_same) (.cons (r1.mono s2) (.cons (r2.mono s2) .nil))⟩
theorem sm_for {wi : TI} {g : TG} {tb : TS} (h : EvI B wi es fun xs => ∃ I : Nat → List Sl → Prop, I 0 es ∧
    (∀ (i : Nat) x es', xs[i]? = some x → I i es' → Tg B g es' x fun e2 => Sm B tb e2 { p with nx := I (i + 1), bk := p.nx, ct := I (i + 1) }) ∧ ∀ es', I xs.length es' → p.nx es') : Sm B (tFor wi g tb) es p := fun σ F H D S n b c r ro =>
  h σ F H S _ fun J xs F1 H1 g1 it ⟨I, i0, is, id⟩ => by
    have S1 := S.go g1
    refine ⟨fun i m σ' H' => m = xs.length - i ∧ i ≤ xs.length ∧ ∃ es' F', Stt B es' σ' F' H' ∧ Same F1 F' ∧ I i es', ⟨xs.length, by simp, Nat.zero_le _, es, F1, S1, Same.refl F1, i0⟩, ?_⟩
    rintro i m σ' H' ⟨rfl, hi, es', F', S', s', hI⟩
    by_cases hlt : i < xs.length
    · refine .inr ⟨it.goes i H' hlt (s'.trans S'.sub), fun σ2 H2 => ∃ es2 F2, Stt B es2 σ2 F2 H2 ∧ Same F1 F2 ∧ I (i + 1) es2, fun σ2 H2 ⟨es2, F2, a1, a2, a3⟩ => ⟨xs.length - (i + 1), by omega, rfl, hlt, es2, F2, a1, a2, a3⟩, fun v H2 y => ?_⟩
      obtain ⟨x, hx, hy⟩ := it.yields i H' v H2 hlt (s'.trans S'.sub) y
      obtain ⟨F2, g2, rx⟩ := hy.go S' s'
      refine is i x es' hx hI σ' F2 H2 v (S'.go g2) rx _ fun es3 σ3 F3 H3 S3 s3 hm => ?_
      have s03 : Same F1 F3 := (s'.trans g2.s1).trans s3
      refine hm σ3 F3 H3 _ S3 (fun e4 a4 F4 H4 S4 s4 q4 => ⟨e4, F4, S4, s03.trans s4, q4⟩) (fun e4 a4 F4 H4 S4 s4 q4 => n e4 a4 F4 H4 S4 ((g1.s1.trans s03).trans s4) q4)
        (fun e4 a4 F4 H4 S4 s4 q4 => ⟨e4, F4, S4, s03.trans s4, q4⟩) (fun v d e4 a4 F4 H4 S4 s4 q4 => r v d e4 a4 F4 H4 S4 ((g1.s1.trans s03).trans s4) q4) (fun a vs xs e2 a2 F2 H2 S2 s2 => ro a vs xs e2 a2 F2 H2 S2 ((g1.s1.trans s03).trans s2))
    · have e : i = xs.length := by omega
      subst e
      exact .inl ⟨it.stops H' (s'.trans S'.sub), n es' σ' F' H' S' (g1.s1.trans s') (id es' hI)⟩
theorem itd_list {K : PySem.W.Frag} {F : Hp} {a : Addr} {vs : List V} {xs : List Dt} (h : F a = some (.lst vs)) (r : RpAll K F vs xs) : ItD K (Itl K a) F xs where
  goes := fun i H hi s => ⟨vs, vs[i]'(by rw [r.length]; exact hi), SqL.of (s _ _ h), by simp⟩
  stops := fun H s => ⟨vs, SqL.of (s _ _ h), by rw [r.length]; exact Nat.le_refl _⟩
  yields := fun i H v H' hi s y => by
    obtain ⟨e, y2⟩ := y
    obtain ⟨d, h1, h2⟩ := r.getV (y2 vs (SqL.of (s _ _ h)))
    exact ⟨d, h1, .inl ⟨e, h2⟩⟩
theorem itd_tup {K : PySem.W.Frag} {F : Hp} {a : Addr} {vs : List V} {xs : List Dt} (h : SqT K F a vs) (r : RpAll K F vs xs) : ItD K (Itt K a) F xs where
  goes := fun i H hi s => ⟨vs, vs[i]'(by rw [r.length]; exact hi), sqT_mono s h, by simp⟩
  stops := fun H s => ⟨vs, sqT_mono s h, by rw [r.length]; exact Nat.le_refl _⟩
  yields := fun i H v H' hi s y => by
    obtain ⟨e, y2⟩ := y
    obtain ⟨d, h1, h2⟩ := r.getV (y2 vs (sqT_mono s h))
    exact ⟨d, h1, .inl ⟨e, h2⟩⟩
def rangeD (lo : Int) (n : Nat) : List Dt := (List.range n).map fun (i : Nat) => Dt.int (lo + (i : Int))
theorem rangeD_len (lo : Int) (n : Nat) : (rangeD lo n).length = n := by simp [rangeD]
theorem rangeD_get {lo : Int} {n i : Nat} {x : Dt} (h : (rangeD lo n)[i]? = some x) : i < n ∧ x = .int (lo + (i : Int)) := by
  have hl := (List.getElem?_eq_some_iff.mp h).1
  rw [rangeD_len] at hl
  refine ⟨hl, ?_⟩
  simp [rangeD, hl] at h
  exact h.symm
theorem itd_range {K : PySem.W.Frag} {F : Hp} {lo : Int} {n : Nat} : ItD K (Itr lo n) F (rangeD lo n) where
  goes := fun i H hi _ => by rw [rangeD_len] at hi; exact hi
  stops := fun H _ => by rw [rangeD_len]; exact Nat.le_refl _
  yields := fun i H v H' hi _ y => by
    rw [rangeD_len] at hi
    obtain ⟨rfl, rfl⟩ := y
    exact ⟨_, by simp [rangeD, hi], .inl ⟨rfl, .int _⟩⟩
def signsD (z : Str) : List Dt := z.cps.toList.map fun c => Dt.str ⟨#[c]⟩
theorem signsD_len (z : Str) : (signsD z).length = z.cps.size := by simp [signsD]
theorem itd_str {K : PySem.W.Frag} {F : Hp} {z : Str} : ItD K (Its z) F (signsD z) where
  goes := fun i H hi _ => by rw [signsD_len] at hi; exact hi
  stops := fun H _ => by rw [signsD_len]; exact Nat.le_refl _
  yields := fun i H v H' hi _ y => by
    obtain ⟨rfl, c, h1, rfl⟩ := y
    refine ⟨.str ⟨#[c]⟩, ?_, .inl ⟨rfl, .str _⟩⟩
    rw [signsD, List.getElem?_map, Array.getElem?_toList, h1]; rfl
def pairD : List Dt → List Dt → List Dt
  | x :: xs, y :: ys => .tup [x, y] :: pairD xs ys
  | _, _ => []
theorem pairD_len : ∀ (xs ys : List Dt), (pairD xs ys).length = min xs.length ys.length
  | [], ys => by simp [pairD]
  | x :: xs, [] => by simp [pairD]
  | x :: xs, y :: ys => by simp only [pairD, List.length_cons, pairD_len xs ys]; omega
theorem pairD_get : ∀ {xs ys : List Dt} {i : Nat} {x y : Dt}, xs[i]? = some x → ys[i]? = some y → (pairD xs ys)[i]? = some (.tup [x, y])
  | [], _, i, _, _, h, _ => by simp at h
  | _ :: _, [], i, _, _, _, h => by simp at h
  | a :: xs, b :: ys, 0, x, y, h1, h2 => by simp at h1 h2; subst h1 h2; rfl
  | a :: xs, b :: ys, i + 1, x, y, h1, h2 => by
    have := pairD_get (i := i) (xs := xs) (ys := ys) (x := x) (y := y) (by simpa using h1) (by simpa using h2)
    simpa [pairD] using this
theorem itd_zip {K : PySem.W.Frag} {F : Hp} {a b : Addr} {vs ws : List V} {xs ys : List Dt} (h : F a = some (.lst vs)) (r : RpAll K F vs xs) (h' : F b = some (.lst ws)) (r' : RpAll K F ws ys) : ItD K (Itz K a b) F (pairD xs ys) where
  goes := fun i H hi s => by
    rw [pairD_len] at hi
    have l1 := r.length
    have l2 := r'.length
    have w := walk_zip (K := K) (a := a) (b := b) (xs := vs) (ys := ws) (n := min vs.length ws.length) rfl
    exact w.goes i H (by omega) ⟨SqL.of (s _ _ h), SqL.of (s _ _ h')⟩
  stops := fun H s => by
    have l1 := r.length
    have l2 := r'.length
    have w := walk_zip (K := K) (a := a) (b := b) (xs := vs) (ys := ws) (n := min vs.length ws.length) rfl
    have q := w.stops H ⟨SqL.of (s _ _ h), SqL.of (s _ _ h')⟩
    rw [pairD_len, ← l1, ← l2]
    exact q
  yields := fun i H v H' hi s y => by
    rw [pairD_len] at hi
    have l1 := r.length
    have l2 := r'.length
    have w := walk_zip (K := K) (a := a) (b := b) (xs := vs) (ys := ws) (n := min vs.length ws.length) rfl
    obtain ⟨T, x, z, e1, e2, e3, e4, e5⟩ := w.yields i H v H' (by omega) ⟨SqL.of (s _ _ h), SqL.of (s _ _ h')⟩ y
    obtain ⟨d1, k1, k2⟩ := r.getV e4
    obtain ⟨d2, k3, k4⟩ := r'.getV e5
    exact ⟨_, pairD_get k1 k3, .inr ⟨T, x, z, d1, d2, e1, e2, e3, k2, k4, rfl⟩⟩
theorem itd_zipT {K : PySem.W.Frag} {F : Hp} {a b : Addr} {vs ws : List V} {xs ys : List Dt} (h : SqT K F a vs) (r : RpAll K F vs xs) (h' : SqT K F b ws) (r' : RpAll K F ws ys) : ItD K (RZ.ItzT K a b) F (pairD xs ys) where
  goes := fun i H hi s => by
    rw [pairD_len] at hi
    have l1 := r.length
    have l2 := r'.length
    have i1 : i < vs.length := by omega
    have i2 : i < ws.length := by omega
    exact ⟨vs, ws, vs[i], ws[i], sqT_mono s h, sqT_mono s h', by simp [i1], by simp [i2]⟩
  stops := fun H s => by
    have l1 := r.length
    have l2 := r'.length
    exact ⟨vs, ws, sqT_mono s h, sqT_mono s h', by rw [pairD_len]; omega⟩
  yields := fun i H v H' hi s y => by
    rw [pairD_len] at hi
    obtain ⟨T, x, z, e1, e2, e3, e4, e5⟩ := y
    obtain ⟨d1, k1, k2⟩ := r.getV (e4 vs (sqT_mono s h))
    obtain ⟨d2, k3, k4⟩ := r'.getV (e5 ws (sqT_mono s h'))
    exact ⟨_, pairD_get k1 k3, .inr ⟨T, x, z, d1, d2, e1, e2, e3, k2, k4, rfl⟩⟩
theorem ei_list {te : TE} {P : List Dt → Prop} (h : Ev B te es fun d => ∃ xs, d = .lst xs ∧ P xs) : EvI B (iList B.K te) es P := fun σ F H S R q => h σ F H S _ fun v d F1 H1 g1 r1 ⟨xs, e, p1⟩ => by
  subst e
  cases r1 with
  | lst h1 h2 => exact ⟨_, rfl, ⟨_, SqL.of (g1.s2 _ _ h1)⟩, q _ xs F1 H1 g1 (itd_list h1 h2) p1⟩
theorem ei_tup {te : TE} {P : List Dt → Prop} (h : Ev B te es fun d => ∃ xs, d = .tup xs ∧ P xs) : EvI B (iTup B.K te) es P := fun σ F H S R q => h σ F H S _ fun v d F1 H1 g1 r1 ⟨xs, e, p1⟩ => by
  subst e
  cases r1 with
  | tup h1 h2 => exact ⟨_, rfl, ⟨_, sqT_mono g1.s2 h1⟩, q _ xs F1 H1 g1 (itd_tup h1 h2) p1⟩
theorem ei_rng1 {ta : TA} {P : List Dt → Prop} (h : EvA B ta es fun ds => ∃ n : Int, ds = [.int n] ∧ -(2 ^ 62) ≤ n ∧ n < 2 ^ 62 ∧ P (rangeD 0 n.toNat)) : EvI B (iRng1 ta) es P := fun σ F H S R q => h σ F H S _ fun vs ds F1 H1 g1 r1 ⟨n, e, l1, l2, p1⟩ => by
  subst e
  obtain ⟨v, rfl, r⟩ := rp1 r1
  cases r
  exact ⟨n, rfl, l1, l2, q _ _ F1 H1 g1 itd_range p1⟩
theorem ei_rng2 {ta : TA} {P : List Dt → Prop} (h : EvA B ta es fun ds => ∃ m n : Int, ds = [.int m, .int n] ∧ (-(2 ^ 62) ≤ m ∧ m < 2 ^ 62 ∧ -(2 ^ 62) ≤ n ∧ n < 2 ^ 62) ∧ P (rangeD m (n - m).toNat)) : EvI B (iRng2 ta) es P := fun σ F H S R q => h σ F H S _ fun vs ds F1 H1 g1 r1 ⟨m, n, e, l1, p1⟩ => by
  subst e
  obtain ⟨v, w, rfl, r, r'⟩ := rp2 r1
  cases r; cases r'
  exact ⟨m, n, rfl, l1, q _ _ F1 H1 g1 itd_range p1⟩
theorem ei_str {te : TE} {P : List Dt → Prop} (h : Ev B te es fun d => ∃ z, d = .str z ∧ P (signsD z)) : EvI B (iStr te) es P := fun σ F H S R q => h σ F H S _ fun v d F1 H1 g1 r1 ⟨z, e, p1⟩ => by
  subst e
  cases r1
  exact ⟨z, rfl, q _ _ F1 H1 g1 itd_str p1⟩
theorem ei_zip {ta : TA} {P : List Dt → Prop} (h : EvA B ta es fun ds => ∃ xs ys, (ds = [.lst xs, .lst ys] ∨ ds = [.tup xs, .tup ys]) ∧ P (pairD xs ys)) : EvI B (RZ.iZipA B.K ta) es P := fun σ F H S R q => h σ F H S _ fun vs ds F1 H1 g1 r1 ⟨xs, ys, e, p1⟩ => by
  rcases e with e | e
  · subst e
    obtain ⟨v, w, rfl, r, r'⟩ := rp2 r1
    cases r with
    | lst h1 h2 =>
      cases r' with
      | lst h3 h4 => exact ⟨_, _, _, _, rfl, .inl ⟨SqL.of (g1.s2 _ _ h1), SqL.of (g1.s2 _ _ h3), q _ _ F1 H1 g1 (itd_zip h1 h2 h3 h4) p1⟩⟩
  · subst e
    obtain ⟨v, w, rfl, r, r'⟩ := rp2 r1
    cases r with
    | tup h1 h2 =>
      cases r' with
      | tup h3 h4 => exact ⟨_, _, _, _, rfl, .inr ⟨sqT_mono g1.s2 h1, sqT_mono g1.s2 h3, q _ _ F1 H1 g1 (itd_zipT h1 h2 h3 h4) p1⟩⟩
/-! ### comprehensions -/
def wipeE (es : List Sl) : List Nat → List Sl
  | [] => es
  | v :: vs => (wipeE es vs).set v .no
theorem Stt.wipe {σ : St} {F H : Hp} (S : Stt B es σ F H) : ∀ vs : List Nat, Stt B (wipeE es vs) (wipe σ vs) F H
  | [] => S
  | v :: vs => (S.wipe vs).set (i := v) (e := .no) (o := none) rfl fun _ _ e => nomatch e
/-- what a target that stores into slots of vs alone does -/
def TgC (B : Bs) (g : TG) (es : List Sl) (vs : List Nat) (x : Dt) (P : List Sl → Prop) : Prop := ∀ σ F H v, Stt B es σ F H → Rp B.K F v x → ∀ Q : St → Hp → Prop, (∀ es' σ', Stt B es' σ' F H → wipe σ' vs = wipe σ vs → P es' → Q σ' H) → g v σ H Q
theorem tc_name {j : Nat} {x : Dt} {P : List Sl → Prop} (h : P (es.set j (.d x))) : TgC B (gName j) es [j] x P := fun σ F H v S r Q q => q _ _ (S.setD r) (by simp [wipe]) h
theorem tc_tup2 {i j : Nat} {x y : Dt} {P : List Sl → Prop} (hij : i ≠ j) (h : P ((es.set i (.d x)).set j (.d y))) : TgC B (gTup B.K 2 (gCons (gName i) (gCons (gName j) gNil))) es [i, j] (.tup [x, y]) P := fun σ F H v S r Q q => by
  cases r with
  | tup h1 h2 =>
    obtain ⟨a, b, rfl, r1, r2⟩ := rp2 h2
    refine ⟨_, _, rfl, sqT_mono S.sub h1, rfl, a, [b], rfl, b, [], rfl, rfl, q _ _ ((S.setD r1).setD r2) ?_ h⟩
    simp only [wipe]
    apply List.ext_getElem?
    intro k
    simp only [List.getElem?_set, List.length_set]
    by_cases h1 : i = k <;> by_cases h2 : j = k <;> simp [h1, h2]
theorem tc_tup2' {i j : Nat} {x y : Dt} {P : List Sl → Prop} (hij : i ≠ j) (h : P ((es.set i (.d x)).set j (.d y))) : TgC B (gTup B.K 2 (gCons (gName i) (gCons (gName j) gNil))) es [j, i] (.tup [x, y]) P := fun σ F H v S r Q q => by
  cases r with
  | tup h1 h2 =>
    obtain ⟨a, b, rfl, r1, r2⟩ := rp2 h2
    refine ⟨_, _, rfl, sqT_mono S.sub h1, rfl, a, [b], rfl, b, [], rfl, rfl, q _ _ ((S.setD r1).setD r2) ?_ h⟩
    simp only [wipe]
    apply List.ext_getElem?
    intro k
    simp only [List.getElem?_set, List.length_set]
    by_cases h1 : i = k <;> by_cases h2 : j = k <;> simp [h1, h2]
theorem wipe_wipe (σ : St) (vs : List Nat) : wipe (wipe σ vs) vs = wipe σ vs := by
  have key : ∀ (us : List Nat) (τ : St) (k : Nat), (wipe τ us)[k]? = if k ∈ us then (τ[k]?).map (fun _ => none) else τ[k]? := by
    intro us
    induction us with
    | nil => intro τ k; simp [wipe]
    | cons u us ih =>
      intro τ k
      rw [wipe, List.getElem?_set, wipe_length]
      by_cases h : u = k
      · subst h
        by_cases hl : u < τ.length
        · simp [hl]
        · simp [hl, ih]
      · rw [if_neg h, ih]
        by_cases h2 : k ∈ us
        · simp [h2]
        · have : ¬ k = u := fun e => h e.symm
          simp [h2, this]
  apply List.ext_getElem?
  intro k
  rw [key, key]
  by_cases h : k ∈ vs
  · simp only [h, if_true]
    cases σ[k]? <;> rfl
  · simp [h]
theorem eo_lc {wi : TI} {g : TG} {tt : TT} {te : TE} {vs : List Nat} {P : List Dt → Prop} (h : EvI B wi es fun xs => xs.length < 100000 ∧ ∃ I : Nat → List Dt → Prop, I 0 [] ∧
    (∀ (i : Nat) x acc, xs[i]? = some x → I i acc → TgC B g (wipeE es vs) vs x fun e2 => EvT B tt e2 fun b => (b = true → Ev B te e2 fun y => I (i + 1) (acc ++ [y])) ∧ (b = false → I (i + 1) acc)) ∧ ∀ acc, I xs.length acc → P acc) : EvO B (tLc wi g tt te vs) es P := fun σ F H S Q q =>
  h σ F H S _ fun J xs F1 H1 g1 it ⟨hlen, I, i0, is, id⟩ => by
    intro Dl hD
    have S1 := S.go g1
    have hH : H Dl = none := g1.new (S1.newB hD) hD
    have gD := S1.allocO (o := .lst []) hD
    refine ⟨fun i m H' => m = xs.length - i ∧ i ≤ xs.length ∧ ∃ F' ws acc, Go B F1 (upd H1 Dl (.lst [])) F' (upd H' Dl (.lst [])) ∧ F' Dl = none ∧ Same F' H' ∧ (∀ b, B.bag = some b → BagAt B.K F' H' b) ∧ H' Dl = some (.lst ws) ∧ RpAll B.K F' ws acc ∧ acc.length ≤ i ∧ I i acc,
      ⟨xs.length, by simp, Nat.zero_le _, F1, [], [], ?_, same_none S1.sub hD, gD.s2, gD.bg, upd_same, .nil, Nat.zero_le _, i0⟩, ?_⟩
    · rw [upd_upd]
      exact (S1.go gD).refl
    rintro i m H' ⟨rfl, hi, F', ws, acc, g', hF', s', b', hw, hr, hal, hI⟩
    have gAll : Go B F1 H1 F' H' := by
      refine ⟨g'.s1, s', fun c h1 h2 => ?_, fun c o h1 h2 => ?_, b'⟩
      · refine g'.nw c ?_ h2
        rw [upd_ne (fun e => h1 (by rw [e]; exact hD))]
        exact h1
      · have hc : c ≠ Dl := ne_of_none h2 hD
        have k := g'.kp c o h1 (by rw [upd_ne hc]; exact h2)
        rw [upd_ne hc] at k
        exact k
    have S' := S1.go gAll
    by_cases hlt : i < xs.length
    · refine .inr ⟨it.goes i H' hlt (g'.s1.trans s'), fun H2 => ∃ F2 ws2 acc2, Go B F1 (upd H1 Dl (.lst [])) F2 (upd H2 Dl (.lst [])) ∧ F2 Dl = none ∧ Same F2 H2 ∧ (∀ b, B.bag = some b → BagAt B.K F2 H2 b) ∧ H2 Dl = some (.lst ws2) ∧ RpAll B.K F2 ws2 acc2 ∧ acc2.length ≤ i + 1 ∧ I (i + 1) acc2,
        fun H2 q2 => ⟨xs.length - (i + 1), by omega, rfl, hlt, q2⟩, fun v H2 y => ?_⟩
      obtain ⟨x, hx, hy⟩ := it.yields i H' v H2 hlt (g'.s1.trans s') y
      obtain ⟨F2, g2, rx⟩ := hy.go S' g'.s1
      have S2 := (S'.go g2).wipe vs
      have hD' : B.bag ≠ some Dl := S1.newB hD
      refine is i x acc hx hI _ F2 H2 v S2 rx _ fun es3 σ3 S3 hw3 p3 => ?_
      rw [wipe_wipe] at hw3
      refine ⟨hw3, p3 σ3 F2 H2 S3 _ fun b F3 H3 g3 p4 => ?_⟩
      -- from (F', H') to (F3, H3): the new list stays
      have g23 : Go B F' H' F3 H3 := g2.trans g3
      have hl3 : H3 Dl = some (.lst ws) := g23.kp Dl _ hD' hw
      have hF3 : F3 Dl = none := g23.nw Dl (by rw [hw]; simp) hF'
      have fin : ∀ F4 H4, Go B F' H' F4 H4 → F4 Dl = none → ∀ o, Go B F1 (upd H1 Dl (.lst [])) F4 (upd (upd H4 Dl o) Dl (.lst [])) := fun F4 H4 g4 hn o => by
        rw [upd_upd]
        refine ⟨g'.s1.trans g4.s1, fun c u e => ?_, fun c h1 h2 => ?_, fun c u h1 h2 => ?_, fun b hb => ?_⟩
        · rw [upd_ne (ne_of_none e hn)]; exact g4.s2 c u e
        · by_cases hc : c = Dl
          · rw [hc]; exact hn
          · rw [upd_ne hc] at h1
            have := gAll.nw c h1 h2
            refine g4.nw c ?_ this
            by_cases hb : B.bag = some c
            · obtain ⟨_, z, _, k, _⟩ := b' c hb; rw [k]; simp
            · cases e : H1 c with
              | none => exact absurd e h1
              | some u => rw [gAll.kp c u hb e]; simp
        · by_cases hc : c = Dl
          · rw [hc, upd_same] at h2 ⊢; exact h2
          · rw [upd_ne hc] at h2 ⊢; exact g4.kp c u h1 (gAll.kp c u h1 h2)
        · obtain ⟨k1, z, zs, k2, k3, k4⟩ := g4.bg b hb
          have hbd : b ≠ Dl := fun e => hD' (by rw [hb, e])
          exact ⟨k1, z, zs, by rw [upd_ne hbd]; exact k2, k3, k4⟩
      cases b with
      | true =>
        show te σ3 H3 _
        refine p4.1 rfl σ3 F3 H3 (S3.go g3) _ fun w y' F4 H4 g4 r4 p5 => ?_
        have g24 := g23.trans g4
        have hl4 : H4 Dl = some (.lst ws) := g24.kp Dl _ hD' hw
        have hF4 : F4 Dl = none := g24.nw Dl (by rw [hw]; simp) hF'
        have hb4 : ∀ b, B.bag = some b → BagAt B.K F4 (upd H4 Dl (.lst (ws ++ [w]))) b := fun b hb => by
          obtain ⟨k1, z, zs, k2, k3, k4⟩ := g4.bg b hb
          have hbd : b ≠ Dl := fun e => hD' (by rw [hb, e])
          exact ⟨k1, z, zs, by rw [upd_ne hbd]; exact k2, k3, k4⟩
        refine ⟨ws, hl4, size_lt (by rw [hr.length]; omega), F4, ws ++ [w], acc ++ [y'], fin F4 H4 g24 hF4 _, hF4, fun c u e => by rw [upd_ne (ne_of_none e hF4)]; exact g4.s2 c u e, hb4, upd_same, (hr.mono g24.s1).app (.cons r4 .nil), by simp; omega, p5⟩
      | false =>
        have e3 : upd H3 Dl (.lst ws) = H3 := by
          funext c
          by_cases hc : c = Dl
          · rw [hc, upd_same, hl3]
          · rw [upd_ne hc]
        refine ⟨F3, ws, acc, ?_, hF3, g3.s2, g3.bg, hl3, hr.mono g23.s1, by omega, p4.2 rfl⟩
        have := fin F3 H3 g23 hF3 (.lst ws)
        rw [e3] at this
        exact this
    · have e : i = xs.length := by omega
      subst e
      exact .inl ⟨it.stops H' (g'.s1.trans s'), q Dl ws acc F' H' (g1.trans gAll) hH hF' hw hr (id acc hI)⟩
theorem et_yes {P : Bool → Prop} (h : P true) : EvT B tYes es P := fun σ F H S Q q => q true F H S.refl h
/-- [f(x) for x in xs] where each item is told -/
theorem eo_map {wi : TI} {g : TG} {te : TE} {vs : List Nat} {P : List Dt → Prop} (h : EvI B wi es fun xs => xs.length < 100000 ∧ ∃ R : Dt → Dt → Prop,
    (∀ (i : Nat) x, xs[i]? = some x → TgC B g (wipeE es vs) vs x fun e2 => Ev B te e2 fun y => R x y) ∧ ∀ ys : List Dt, ys.length = xs.length → (∀ (i : Nat) x y, xs[i]? = some x → ys[i]? = some y → R x y) → P ys) : EvO B (tLc wi g tYes te vs) es P :=
  eo_lc fun σ F H S Q q => h σ F H S Q fun J xs F1 H1 g1 it ⟨hl, R, h1, h2⟩ => q J xs F1 H1 g1 it ⟨hl, fun i acc => i ≤ xs.length ∧ acc.length = i ∧ ∀ (k : Nat) x y, xs[k]? = some x → acc[k]? = some y → R x y, ⟨Nat.zero_le _, rfl, fun k x y _ e => by simp at e⟩,
    fun i x acc hx ⟨hi, ha, hR⟩ σ F H v S r Q q => h1 i x hx σ F H v S r Q fun es' σ' S' hw p => q es' σ' S' hw (et_yes ⟨fun _ => p.imp fun y hy => ⟨(List.getElem?_eq_some_iff.mp hx).1, by rw [List.length_append, ha]; rfl, fun k a b ka kb => by
      by_cases hk : k < acc.length
      · rw [List.getElem?_append_left hk] at kb; exact hR k a b ka kb
      · rw [List.getElem?_append_right (by omega)] at kb
        have hk2 : k = i := by
          have := (List.getElem?_eq_some_iff.mp kb).1
          simp at this; omega
        subst hk2
        rw [hx] at ka
        cases ka
        rw [ha] at kb
        simp at kb
        rw [← kb]
        exact hy⟩, fun z => nomatch z⟩), fun acc ⟨_, ha, hR⟩ => h2 acc ha hR⟩
end

/-! ### the promise of a def -/
/-- a def that hands back a new list -/
def spO (K : PySem.W.Frag) (Pre : List Dt → Prop) (Post : List Dt → List Dt → Prop) : Sp := fun vs H Q _ => ∃ F ds, Same F H ∧ RpAll K F vs ds ∧ Pre ds ∧
  ∀ a ws xs F' H', Same F F' → (∀ c, H c ≠ none → F c = none → F' c = none) → Same F' H' → Same H H' → H a = none → F' a = none → H' a = some (.lst ws) → RpAll K F' ws xs → Post ds xs → Q (.ref a) H'
theorem eo_call {B : Bs} {es : List Sl} {Pre : List Dt → Prop} {Post : List Dt → List Dt → Prop} {E : XK} {ta : TA} {P : List Dt → Prop} (h : EvA B ta es fun ds => Pre ds ∧ ∀ d, Post ds d → P d) : EvO B (tCall (spO B.K Pre Post) [] E ta) es P := fun σ F H S Q q =>
  h σ F H S _ fun vs ds F1 H1 g1 r1 ⟨p1, p2⟩ => by
    rw [List.append_nil]
    exact ⟨F1, ds, g1.s2, r1, p1, fun a ws xs F2 H2 s1 s2 s3 s4 h1 h2 h3 r2 p3 => q a ws xs F2 H2 (g1.trans ((S.go g1).pure s1 s3 s2 s4)) (g1.new ((S.go g1).newB h1) h1) h2 h3 r2 (p2 xs p3)⟩
theorem eo_callD {B : Bs} {es : List Sl} {Pre : List Dt → Prop} {Post : List Dt → List Dt → Prop} {E : XK} {ta : TA} {P : List Dt → Prop} {dvs : List V} {dds : List Dt} (hd : ∀ F, RpAll B.K F dvs dds) (h : EvA B ta es fun ds => Pre (ds ++ dds) ∧ ∀ d, Post (ds ++ dds) d → P d) : EvO B (tCall (spO B.K Pre Post) dvs E ta) es P := fun σ F H S Q q =>
  h σ F H S _ fun vs ds F1 H1 g1 r1 ⟨p1, p2⟩ => ⟨F1, ds ++ dds, g1.s2, r1.app (hd F1), p1, fun a ws xs F2 H2 s1 s2 s3 s4 h1 h2 h3 r2 p3 => q a ws xs F2 H2 (g1.trans ((S.go g1).pure s1 s3 s2 s4)) (g1.new ((S.go g1).newB h1) h1) h2 h3 r2 (p2 xs p3)⟩
theorem eo_callN {B : Bs} {es : List Sl} {Pre : List Dt → Prop} {Post : List Dt → List Dt → Prop} {E : XK} {ta tk : TA} {P : List Dt → Prop} {n m : Nat} {gV : List V → List V → List V} {gD : List Dt → List Dt → List Dt}
    (hg : ∀ F vs ds zs as, RpAll B.K F vs ds → RpAll B.K F zs as → RpAll B.K F (gV vs zs) (gD ds as))
    (h : EvA B ta es fun ds => EvA B tk es fun as => ds.length = n ∧ as.length = m ∧ Pre (gD ds as) ∧ ∀ d, Post (gD ds as) d → P d) : EvO B (tCallN n m (spO B.K Pre Post) gV E ta tk) es P := fun σ F H S Q q =>
  h σ F H S _ fun vs ds F1 H1 g1 r1 p0 => p0 σ F1 H1 (S.go g1) _ fun zs as F2 H2 g2 r2 ⟨l1, l2, p1, p2⟩ => by
    have g := g1.trans g2
    exact ⟨by rw [r1.length]; exact l1, by rw [r2.length]; exact l2, F2, gD ds as, g2.s2, hg F2 _ _ _ _ (r1.mono g2.s1) r2, p1, fun a ws xs F3 H3 s1 s2 s3 s4 h1 h2 h3 r3 p3 => q a ws xs F3 H3 (g.trans ((S.go g).pure s1 s3 s2 s4)) (g.new ((S.go g).newB h1) h1) h2 h3 r3 (p2 xs p3)⟩
theorem start_stt {K : PySem.W.Frag} {F H : Hp} {vs : List V} {ds : List Dt} {N : List Str} {bag : Option Addr} (s : Same F H) (r : RpAll K F vs ds) (hb : ∀ b, bag = some b → BagAt K F H b) :
    Stt ⟨K, F, H, bag⟩ (ds.map Sl.d ++ List.replicate (N.length - ds.length) Sl.no) (L2.start N vs) F H where
  sub := s
  s0 := Same.refl F
  ou := fun c _ h => h
  fr := fun c o h _ => h
  bg := hb
  len := by simp [L2.start, r.length]
  ok := fun i e o h1 h2 => by
    unfold L2.start at h2
    by_cases hi : i < ds.length
    · rw [List.getElem?_append_left (by simpa using hi)] at h1
      rw [List.getElem?_append_left (by simp [r.length]; exact hi)] at h2
      rw [List.getElem?_map] at h1 h2
      cases e1 : ds[i]? with
      | none => rw [e1] at h1; cases h1
      | some d =>
        obtain ⟨v, k1, k2⟩ := r.get e1
        rw [e1] at h1
        rw [k1] at h2
        cases h1; cases h2
        exact ⟨v, rfl, k2⟩
    · rw [List.getElem?_append_right (by simpa using hi)] at h1
      rw [List.getElem?_append_right (by simp [r.length]; omega)] at h2
      have q1 := List.mem_of_getElem? h1
      have q2 := List.mem_of_getElem? h2
      rw [List.eq_of_mem_replicate q1, List.eq_of_mem_replicate q2]
      rfl
  ow := fun i a xs h1 => by
    have hm := List.mem_of_getElem? h1
    rcases List.mem_append.mp hm with h | h
    · obtain ⟨d, _, e⟩ := List.mem_map.mp h; cases e
    · cases List.eq_of_mem_replicate h
  dis := fun i j a b xs ys _ h1 => by
    have hm := List.mem_of_getElem? h1
    rcases List.mem_append.mp hm with h | h
    · obtain ⟨d, _, e⟩ := List.mem_map.mp h; cases e
    · cases List.eq_of_mem_replicate h
abbrev env0 (N : List Str) (ds : List Dt) : List Sl := ds.map Sl.d ++ List.replicate (N.length - ds.length) Sl.no
abbrev env1 (N : List Str) (b : Addr) (ds : List Dt) : List Sl := .r (.ref b) :: (ds.map Sl.d ++ List.replicate (N.length - (ds.length + 1)) Sl.no)
section
variable {P : Program} {w : World} {K : PySem.W.Frag} {mg : Str → Option Value} {base : Heap} {x qual : Str} {st : Stmt} {f : Addr} {fd : FuncData} {N ps : List Str} {k : Nat} {Pre : List Dt → Prop} {Post : List Dt → Dt → Prop}
theorem fn_data (G : Fun K x qual st f fd) (S : FnScope N ps (defScope st)) (hl : ∀ ds, Pre ds → ds.length = ps.length)
    (hb : ∀ (cdv : Value) (A : Around) (outer : List Env) (s : Shared) (H : Hp) (E : XK), Room k (A.deeper (PyProof.Rows.envOfC qual (defScope st) s.heap.objs.size f cdv)) →
      ∃ t, PSs (cxOf CX0 P w K mg base N qual (defScope st) f cdv A outer s H E).nox (defBody st) t ∧ ∀ F0 H0 ds, Pre ds → Sm ⟨K, F0, H0, none⟩ t (env0 N ds) { nx := fun _ => Post ds .non, bk := fun _ => False, ct := fun _ => False, rt := fun _ => Post ds }) :
    FnOk P w K mg base CX0 (k + 1) f fd ps (spD K Pre Post) := by
  refine G.ok S (fun vs H Q E h => ?_) (fun cdv A outer s H vs Q E hr h => ?_)
  · obtain ⟨F, ds, _, r, hp, _⟩ := h
    rw [r.length]; exact hl ds hp
  · obtain ⟨F, ds, hs, r, hp, q⟩ := h
    obtain ⟨t, hd, hm⟩ := hb cdv A outer s H E hr
    refine ⟨t, hd, hm F H ds hp _ F H _ (start_stt hs r (fun _ z => nomatch z)) (fun es' σ' F' H' S' s' p => ?_) (fun _ _ _ _ _ _ z => z.elim) (fun _ _ _ _ _ _ z => z.elim) (fun v d es' σ' F' H' S' s' rv p => ?_) (fun _ _ _ _ _ _ _ _ _ _ _ _ _ _ z => z.elim)⟩
    · exact q _ _ F' H' s' S'.ou S'.sub (fun c o e => S'.fr c o e (fun z => nomatch z)) .non p
    · exact q _ _ F' H' s' S'.ou S'.sub (fun c o e => S'.fr c o e (fun z => nomatch z)) rv p
/-- a def whose first argument is the drawing's list, changed within -/
theorem fn_draw (G : Fun K x qual st f fd) (S : FnScope N ps (defScope st)) (hl : ∀ ds, Pre ds → ds.length + 1 = ps.length)
    (hb : ∀ (cdv : Value) (A : Around) (outer : List Env) (s : Shared) (H : Hp) (E : XK), Room k (A.deeper (PyProof.Rows.envOfC qual (defScope st) s.heap.objs.size f cdv)) →
      ∃ t, PSs (cxOf CX0 P w K mg base N qual (defScope st) f cdv A outer s H E).nox (defBody st) t ∧ ∀ F0 H0 b xs ds, BagD xs → Pre ds →
        Sm ⟨K, F0, H0, none⟩ t (.own b xs :: (ds.map Sl.d ++ List.replicate (N.length - (ds.length + 1)) Sl.no)) { nx := fun _ => False, bk := fun _ => False, ct := fun _ => False, rt := fun es' d => Post ds d ∧ ∃ ys, es'[0]? = some (.own b ys) ∧ BagD ys }) :
    FnOk P w K mg base CX0 (k + 1) f fd ps (spB K Pre Post) := by
  refine G.ok S (fun vs H Q E h => ?_) (fun cdv A outer s H vs Q E hr h => ?_)
  · obtain ⟨b, ws, F, ds, rfl, _, _, r, hp, _⟩ := h
    rw [List.length_cons, r.length]; exact hl ds hp
  · obtain ⟨b, ws, F, ds, rfl, hs, ⟨hFb, us, xs, hus, hr0, hB⟩, r, hp, q⟩ := h
    obtain ⟨t, hd, hm⟩ := hb cdv A outer s H E hr
    let H0 : Hp := fun c => if c = b then none else H c
    have e0 : H0 b = none := if_pos rfl
    have e1 : ∀ c, c ≠ b → H0 c = H c := fun c hc => if_neg hc
    have S0 := start_stt (K := K) (F := F) (H := H) (vs := .non :: ws) (ds := .non :: ds) (N := N) (bag := none) hs (.cons .non r) (fun _ z => nomatch z)
    have no : ∀ (j : Nat) c zs, (Sl.d .non :: (ds.map Sl.d ++ List.replicate (N.length - (ds.length + 1)) Sl.no))[j]? = some (.own c zs) → False := fun j c zs hj => by
      have hm := List.mem_of_getElem? hj
      rcases List.mem_cons.mp hm with h | h
      · cases h
      · rcases List.mem_append.mp h with h | h
        · obtain ⟨d, _, e⟩ := List.mem_map.mp h; cases e
        · cases List.eq_of_mem_replicate h
    have S1 : Stt ⟨K, F, H0, none⟩ (.d .non :: (ds.map Sl.d ++ List.replicate (N.length - (ds.length + 1)) Sl.no)) (L2.start N (.non :: ws)) F H := by
      refine ⟨S0.sub, S0.s0, fun c h1 h2 => h2, fun c o h1 _ => ?_, (fun _ z => nomatch z), S0.len, S0.ok, fun i a ys h1 => (no i a ys h1).elim, S0.dis⟩
      have h1 : H0 c = some o := h1
      by_cases hc : c = b
      · rw [hc, e0] at h1; cases h1
      · rw [e1 c hc] at h1; exact h1
    have S2 : Stt ⟨K, F, H0, none⟩ (.own b xs :: (ds.map Sl.d ++ List.replicate (N.length - (ds.length + 1)) Sl.no)) (L2.start N (.ref b :: ws)) F H :=
      S1.set (i := 0) (e := .own b xs) (o := some (.ref b)) ⟨us, rfl, hFb, hus, hr0⟩ fun c ys e => by
        cases e
        exact ⟨e0, (fun z => nomatch z), fun j c zs hj => (no j c zs hj).elim⟩
    refine ⟨t, hd, hm F H0 b xs ds hB hp _ F H _ S2 (fun _ _ _ _ _ _ z => z.elim) (fun _ _ _ _ _ _ z => z.elim) (fun _ _ _ _ _ _ z => z.elim) (fun v d es' σ' F' H' S' s' rv ⟨p, ys, hy, hB'⟩ => ?_) (fun _ _ _ _ _ _ _ _ _ _ _ _ _ _ z => z.elim)⟩
    obtain ⟨vs', k1, k2, k3, k4⟩ := S'.own hy
    refine q v d F' H' s' (fun c h1 h2 => ?_) S'.sub (fun c o hc ho => S'.fr c o (by show H0 c = some o; rw [e1 c hc]; exact ho) (fun z => nomatch z)) ⟨k2, vs', ys, k3, k4, hB'⟩ rv p
    by_cases hc : c = b
    · rw [hc]; exact k2
    · exact S'.ou c (by show H0 c ≠ none; rw [e1 c hc]; exact h1) h2
/-- the promise of a def that hands back a new list -/
theorem fn_own {PostO : List Dt → List Dt → Prop} (G : Fun K x qual st f fd) (S : FnScope N ps (defScope st)) (hl : ∀ ds, Pre ds → ds.length = ps.length)
    (hb : ∀ (cdv : Value) (A : Around) (outer : List Env) (s : Shared) (H : Hp) (E : XK), Room k (A.deeper (PyProof.Rows.envOfC qual (defScope st) s.heap.objs.size f cdv)) →
      ∃ t, PSs (cxOf CX0 P w K mg base N qual (defScope st) f cdv A outer s H E).nox (defBody st) t ∧ ∀ F0 H0 ds, Pre ds → Sm ⟨K, F0, H0, none⟩ t (env0 N ds) { nx := fun _ => False, bk := fun _ => False, ct := fun _ => False, rt := fun _ _ => False, ro := PostO ds }) :
    FnOk P w K mg base CX0 (k + 1) f fd ps (spO K Pre PostO) := by
  refine G.ok S (fun vs H Q E h => ?_) (fun cdv A outer s H vs Q E hr h => ?_)
  · obtain ⟨F, ds, _, r, hp, _⟩ := h
    rw [r.length]; exact hl ds hp
  · obtain ⟨F, ds, hs, r, hp, q⟩ := h
    obtain ⟨t, hd, hm⟩ := hb cdv A outer s H E hr
    refine ⟨t, hd, hm F H ds hp _ F H _ (start_stt hs r (fun _ z => nomatch z)) (fun _ _ _ _ _ _ z => z.elim) (fun _ _ _ _ _ _ z => z.elim) (fun _ _ _ _ _ _ z => z.elim) (fun _ _ _ _ _ _ _ _ _ z => z.elim) (fun a vs xs es' σ' F' H' S' s' h1 h2 r1 h3 h4 p => ?_)⟩
    exact q a vs xs F' H' s' S'.ou S'.sub (fun c o e => S'.fr c o e (fun z => nomatch z)) h3 h1 h2 r1 p
theorem start_sttB {F H : Hp} {vs : List V} {ds : List Dt} {b : Addr} (s : Same F H) (r : RpAll K F vs ds) (hb : BagAt K F H b) : Stt ⟨K, F, H, some b⟩ (env1 N b ds) (L2.start N (.ref b :: vs)) F H := by
  have S := start_stt (K := K) (F := F) (H := H) (vs := .non :: vs) (ds := .non :: ds) (N := N) (bag := some b) s (.cons .non r) (fun b' e => by cases e; exact hb)
  have S2 := S.set (i := 0) (e := .r (.ref b)) (o := some (.ref b)) rfl fun _ _ e => nomatch e
  exact S2
theorem fn_bag (G : Fun K x qual st f fd) (S : FnScope N ps (defScope st)) (hl : ∀ ds, Pre ds → ds.length + 1 = ps.length)
    (hb : ∀ (cdv : Value) (A : Around) (outer : List Env) (s : Shared) (H : Hp) (E : XK), Room k (A.deeper (PyProof.Rows.envOfC qual (defScope st) s.heap.objs.size f cdv)) →
      ∃ t, PSs (cxOf CX0 P w K mg base N qual (defScope st) f cdv A outer s H E).nox (defBody st) t ∧ ∀ F0 H0 b ds, Pre ds → Sm ⟨K, F0, H0, some b⟩ t (env1 N b ds) { nx := fun _ => Post ds .non, bk := fun _ => False, ct := fun _ => False, rt := fun _ => Post ds }) :
    FnOk P w K mg base CX0 (k + 1) f fd ps (spB K Pre Post) := by
  refine G.ok S (fun vs H Q E h => ?_) (fun cdv A outer s H vs Q E hr h => ?_)
  · obtain ⟨b, ws, F, ds, rfl, _, _, r, hp, _⟩ := h
    rw [List.length_cons, r.length]; exact hl ds hp
  · obtain ⟨b, ws, F, ds, rfl, hs, hB, r, hp, q⟩ := h
    obtain ⟨t, hd, hm⟩ := hb cdv A outer s H E hr
    have nb : ∀ c, c ≠ b → (some b : Option Addr) ≠ some c := fun c h e => h (Option.some.inj e).symm
    refine ⟨t, hd, hm F H b ds hp _ F H _ (start_sttB hs r hB) (fun es' σ' F' H' S' s' p => ?_) (fun _ _ _ _ _ _ z => z.elim) (fun _ _ _ _ _ _ z => z.elim) (fun v d es' σ' F' H' S' s' rv p => ?_) (fun _ _ _ _ _ _ _ _ _ _ _ _ _ _ z => z.elim)⟩
    · exact q _ _ F' H' s' S'.ou S'.sub (fun c o hc e => S'.fr c o e (nb c hc)) (S'.bg b rfl) .non p
    · exact q _ _ F' H' s' S'.ou S'.sub (fun c o hc e => S'.fr c o e (nb c hc)) (S'.bg b rfl) rv p
end
end Y
/-! Y4: rules by union, keyword calls, texts. -/
namespace Y
open PySem L2

/-! ### derivations: one rule for an operator, whatever the kinds -/
def rAddS' : R2 := fun x y H Q => ∃ i j, x = .str i ∧ y = .str j ∧ i.length + j.length ≤ sizeLine ∧ Q (.str (i ++ j)) H
def rPlus (K : PySem.W.Frag) : R2 := rAlt (rI0 fun i j => .int (i + j)) (rAlt rAddS' (rAlt rCat (rCatT K)))
def rInS1 : R2 := fun x y H Q => ∃ (c : Nat) (z : Str), x = .str ⟨#[c]⟩ ∧ y = .str z ∧ Q (.bl (decide (c ∈ z.cps.toList))) H
def rNiS1 : R2 := fun x y H Q => ∃ (c : Nat) (z : Str), x = .str ⟨#[c]⟩ ∧ y = .str z ∧ Q (.bl (!decide (c ∈ z.cps.toList))) H
def rInA (K : PySem.W.Frag) : R2 := rAlt (rIn K false) rInS1
def rNiA (K : PySem.W.Frag) : R2 := rAlt (rIn K true) rNiS1
def rEqA (K : PySem.W.Frag) : R2 := rAlt rEq (rEqD K)
def rNeA (K : PySem.W.Frag) : R2 := rAlt rNe (rNeD K)
def rIsN' : R2 := fun x y H Q => y = .non ∧ Q (.bl (decide (x = .non))) H
def rSlA (K : PySem.W.Frag) : V → Option Int → Option Int → Hp → VK → Prop := fun x lo hi H Q => rSlL K x lo hi H Q ∨ (rSlT K x lo hi H Q ∨ rSlS x lo hi H Q)
def rListA (K : PySem.W.Frag) : List V → Hp → VK → Prop := fun xs H Q => ∃ p ys, xs = [.ref p] ∧ (SqL K H p ys ∨ SqT K H p ys) ∧ ∀ l, H l = none → Q (.ref l) (upd H l (.lst ys))
def rTupleA (K : PySem.W.Frag) : List V → Hp → VK → Prop := fun xs H Q => ∃ p ys, xs = [.ref p] ∧ ((SqL K H p ys ∧ ∀ l, H l = none → Q (.ref l) (upd H l (.tup ys))) ∨ (SqT K H p ys ∧ Q (.ref p) H))
def rJoinA (K : PySem.W.Frag) : V → List V → Hp → VK → Prop := fun x xs H Q => ∃ a p, ∃ ys : List Str, x = .str a ∧ xs = [.ref p] ∧ (SqL K H p (ys.map V.str) ∨ SqT K H p (ys.map V.str)) ∧ (ys.map (·.length)).sum + ys.length * a.length ≤ 16777216 ∧ Q (.str (Txt.join a ys)) H
section
variable {X : Cx} {K : PySem.W.Frag}
theorem op_plus (hK : X.K = K := by rfl) : OpR X (binaryOp .Add) (rPlus K) := hK ▸ op_alt op_add (op_alt op_add_str (op_alt op_cat op_catT))
theorem op_inA (hK : X.K = K := by rfl) : OpR X (compareOp .In) (rInA K) := hK ▸ op_alt op_in_seq op_in_sign
theorem op_niA (hK : X.K = K := by rfl) : OpR X (compareOp .NotIn) (rNiA K) := hK ▸ op_alt op_notIn_seq op_notIn_sign
theorem op_eqA (hu : X.A.units + 64 < cLine) (hK : X.K = K := by rfl) : OpR X (compareOp .Eq) (rEqA K) := hK ▸ op_alt op_eq (op_eqD hu)
theorem op_neA (hu : X.A.units + 64 < cLine) (hK : X.K = K := by rfl) : OpR X (compareOp .NotEq) (rNeA K) := hK ▸ op_alt op_ne (op_neD hu)
theorem sl_any (hK : X.K = K := by rfl) : SlR X (rSlA K) := hK ▸ sl_list.or (sl_tup.or sl_str)
theorem ix_any (hK : X.K = K := by rfl) : IxR X (rIx K) := hK ▸ ix_seq
theorem call_lenA (hK : X.K = K := by rfl) : CallR X (.builtin "len") (rLenA K) := hK ▸ call_len
theorem call_isiA (hK : X.K = K := by rfl) : CallR X (.builtin "isinstance") (rIsi K) := hK ▸ call_isi
theorem call_isiTA (hK : X.K = K := by rfl) : CallR X (.builtin "isinstance") (rIsiT K) := hK ▸ call_isiT
theorem cr_allA (hc : X.calm = true) (hK : X.K = K := by rfl) : CallR X (.builtin "all") (rAll K) := hK ▸ cr_all hc
theorem cr_anyA (hc : X.calm = true) (hK : X.K = K := by rfl) : CallR X (.builtin "any") (rAny K) := hK ▸ cr_any hc
theorem call_listA (hK : X.K = K := by rfl) : CallR X (.type "list") (rListA K) := hK ▸ call_list_of
theorem call_tupleA (hK : X.K = K := by rfl) : CallR X (.type "tuple") (rTupleA K) := hK ▸ call_tuple_of
theorem pi_listA {tg l : Expr} {tl : TE} (hl : PE X l tl) (hK : X.K = K := by rfl) : PI X tg l (iList K tl) := hK ▸ pi_list hl
theorem pi_tupA {tg l : Expr} {tl : TE} (hl : PE X l tl) (hK : X.K = K := by rfl) : PI X tg l (iTup K tl) := hK ▸ pi_tup hl
theorem pi_zipB {e e2 : Expr} {ta : TA} {p pos tpos : Pos} {elts : List Expr} {kk : Nat} (hg : Gl X "zip") (hm : X.mg "zip" = none) (ha : PA X [e, e2] ta) (hK : X.K = K := by rfl)
    (hs : starEach [e, e2] X.env = (false, eval e X.env) :: starEach [e2] X.env := by rfl) (hpl : (backTo pos (starEach [e2] X.env)).any (·.1) = false := by rfl) :
    PI X (.Tuple elts kk tpos) (.Call (.Name "zip" p) [e, e2] [] pos) (RZ.iZipA K ta) := hK ▸ RZ.pi_zipA hg hm ha hs hpl
theorem pe_joinA {o e : Expr} {apos pos : Pos} {to te : TE} (ho : PE X o to) (he : PE X e te) (hK : X.K = K := by rfl) (hs : starEach [e] X.env = [(false, eval e X.env)] := by rfl) (hbase : attributeBase o "join" X.env (eval o X.env) = eval o X.env := by rfl) (hline : (apos.endLine == pos.line) = true := by rfl) :
    PE X (.Call (.Attribute o "join" apos) [e] [] pos) (tM1 (rJoinA K) to te) := hK ▸ pe_join ho he hs hbase hline
theorem pg_tupA {es : List Expr} {k : Nat} {t : TGs} {n : Nat} {pos : Pos} (hc : X.calm = true) (h : PGs X es t) (hK : X.K = K := by rfl)
    (hn : (assignEach es X.env).length = n := by rfl) (hst : (assignEach es X.env).findIdx? (·.1) = none := by rfl) : PG X (.Tuple es k pos) (gTup K n t) := hK ▸ pg_tup hc h hn hst
end
section
variable {X : Cx} {CX : CXT} {k : Nat} {f : Addr} {fd : FuncData} {ps ks : List Str} {sp : Sp} {E : XK} {x : Str} {p pos : Pos} {kws : List Keyword} {tk : TA} {g : List Value → List Value → List Value} {gV : List V → List V → List V}
/-- f(k = v, ..) without positional values -/
theorem pe_callN0 (G : FnOk X.prog X.w X.K X.mg X.base CX k f fd ps sp) (hr : Room k X.A) (hg : Gl X x) (hm : X.mg x = some (.ref f)) (hk : PySem.W.keepIn X.K (.ref f) = true) (hb : KBn X.K fd ps 0 ks g gV) (hx : Passes CX X E)
    (hkw : PK X kws tk) (hall : (backToKw pos (keywordEach kws X.env)).all (·.1.isSome) = true := by rfl) (hks : (backToKw pos (keywordEach kws X.env)).filterMap (·.1) = ks := by rfl)
    (hdb : (x == ("__debug__" : Str)) = false := by decide)
    (hpl : ((backTo pos (starEach [] X.env)).any (·.1) || (backToKw pos (keywordEach kws X.env)).any (·.1.isNone)) = false := by rfl) :
    PE X (.Call (.Name x p) [] kws pos) (tCallN 0 ks.length sp gV E tNil tk) :=
  ⟨fun pins s σ H Q I h => wpAny_Call_Name_kw (ld_glob I hg hm
    (PySem.W.callWith_KW0 (h₀ := X.base) I.ok.mod.kin hk hall (thn (hkw.run pos pins s σ H _ I h) fun ws s2 ⟨zs, H2, I2, rz, l1, l2, q2⟩ => ⟨I2.kIn, by
      rw [hks]
      exact run_fnN (us := []) (vs := []) G hr hb hx I2 .nil rz rfl l2 q2⟩) hpl) hdb)⟩
end

/-! ### the same over data -/
section
variable {B : Bs} {es : List Sl}
theorem o_plusI {i j : Int} {P : Dt → Prop} (hp : P (.int (i + j))) : Op2 B (rPlus B.K) es (.int i) (.int j) P := o_altL (o_i0 hp)
theorem o_plusS {x y : Str} {P : Dt → Prop} (hl : x.length + y.length ≤ 100000) (hp : P (.str (x ++ y))) : Op2 B (rPlus B.K) es (.str x) (.str y) P := o_altR (o_altL (o_catS hl hp))
theorem o_plusL {x y : List Dt} {P : Dt → Prop} (hl : x.length + y.length ≤ 100000) (hp : P (.lst (x ++ y))) : Op2 B (rPlus B.K) es (.lst x) (.lst y) P := o_altR (o_altR (o_altL (o_cat hl hp)))
theorem o_inAL {x : Dt} {ys : List Dt} {P : Dt → Prop} (hx : flatD x = true) (hy : ys.all flatD = true) (hp : P (.bl (inD x ys))) : Op2 B (rInA B.K) es x (.lst ys) P := o_altL (o_inL hx hy hp)
theorem o_inAT {x : Dt} {ys : List Dt} {P : Dt → Prop} (hx : flatD x = true) (hy : ys.all flatD = true) (hp : P (.bl (inD x ys))) : Op2 B (rInA B.K) es x (.tup ys) P := o_altL (o_inT hx hy hp)
theorem o_inAS {c : Nat} {z : Str} {P : Dt → Prop} (hp : P (.bl (decide (c ∈ z.cps.toList)))) : Op2 B (rInA B.K) es (.str ⟨#[c]⟩) (.str z) P := o_altR (o_inS hp)
theorem o_niAL {x : Dt} {ys : List Dt} {P : Dt → Prop} (hx : flatD x = true) (hy : ys.all flatD = true) (hp : P (.bl (!inD x ys))) : Op2 B (rNiA B.K) es x (.lst ys) P := o_altL (o_inL hx hy hp)
theorem o_niAT {x : Dt} {ys : List Dt} {P : Dt → Prop} (hx : flatD x = true) (hy : ys.all flatD = true) (hp : P (.bl (!inD x ys))) : Op2 B (rNiA B.K) es x (.tup ys) P := o_altL (o_inT hx hy hp)
theorem o_niAS {c : Nat} {z : Str} {P : Dt → Prop} (hp : P (.bl (!decide (c ∈ z.cps.toList)))) : Op2 B (rNiA B.K) es (.str ⟨#[c]⟩) (.str z) P := o_altR (o_niS hp)
theorem o_eqA {x y : Dt} {P : Dt → Prop} (hs : dScal x y = true) (hp : P (.bl (dEq x y))) : Op2 B (rEqA B.K) es x y P := o_altL (o_eq hs hp)
theorem o_neA {x y : Dt} {P : Dt → Prop} (hs : dScal x y = true) (hp : P (.bl (!dEq x y))) : Op2 B (rNeA B.K) es x y P := o_altL (o_ne hs hp)
/-! deep == of data without objects -/
mutual
def Dt.py : Dt → PyData
  | .non => .none
  | .bl b => .bool b
  | .int i => .int i
  | .str s => .str s
  | .lst xs => .list (pyAll xs)
  | .tup xs => .tuple (pyAll xs)
  | .obj _ _ _ => .none
  | .dct _ _ => .none
  | .ali _ => .none
def pyAll : List Dt → List PyData
  | [] => []
  | x :: xs => x.py :: pyAll xs
end
mutual
def Dt.pureD : Dt → Bool
  | .non => true
  | .bl _ => true
  | .int _ => true
  | .str _ => true
  | .lst xs => decide (xs.length < 50000) && pureAll xs
  | .tup xs => decide (xs.length < 50000) && pureAll xs
  | .obj _ _ _ => false
  | .dct _ _ => false
  | .ali _ => false
def pureAll : List Dt → Bool
  | [] => true
  | x :: xs => x.pureD && pureAll xs
end
mutual
theorem Rp.dp {K : PySem.W.Frag} {F H : Hp} (s : Same F H) : ∀ {v : V} {d : Dt}, Rp K F v d → d.pureD = true → Dp K H v d.py
  | _, _, .non, _ => by unfold Dt.py; exact .non
  | _, _, .bl b, _ => by unfold Dt.py; exact .bl b
  | _, _, .int i, _ => by unfold Dt.py; exact .int i
  | _, _, .str x, _ => by unfold Dt.py; exact .str x
  | _, _, .lst h r, p => by unfold Dt.py; unfold Dt.pureD at p; rw [Bool.and_eq_true] at p; exact .lst (SqL.of (s _ _ h)) (RpAll.dp s r p.2)
  | _, _, .tup h r, p => by unfold Dt.py; unfold Dt.pureD at p; rw [Bool.and_eq_true] at p; exact .tup (sqT_mono s h) (RpAll.dp s r p.2)
  | _, _, .obj _ _ _ _, p => by unfold Dt.pureD at p; cases p
  | _, _, .dct _ _ _ _, p => by unfold Dt.pureD at p; cases p
  | _, _, .ali _, p => by unfold Dt.pureD at p; cases p
theorem RpAll.dp {K : PySem.W.Frag} {F H : Hp} (s : Same F H) : ∀ {vs : List V} {ds : List Dt}, RpAll K F vs ds → pureAll ds = true → DpAll K H vs (pyAll ds)
  | _, _, .nil, _ => by unfold pyAll; exact .nil
  | _, _, .cons h t, p => by
    unfold pureAll at p
    rw [Bool.and_eq_true] at p
    unfold pyAll
    exact .cons (Rp.dp s h p.1) (RpAll.dp s t p.2)
end
def okD (d : Dt) : Bool := d.pureD && SeqAt.shaped d.py
theorem o_eqAD {x y : Dt} {P : Dt → Prop} (hx : okD x = true) (hy : okD y = true) (hp : P (.bl (PyData.eqv x.py y.py))) : Op2 B (rEqA B.K) es x y P := fun σ F H v w S a b Q k => by
  unfold okD at hx hy
  rw [Bool.and_eq_true] at hx hy
  exact .inr ⟨_, _, a.dp S.sub hx.1, b.dp S.sub hy.1, hx.2, hy.2, k _ _ F H S.refl (.bl _) hp⟩
theorem o_neAD {x y : Dt} {P : Dt → Prop} (hx : okD x = true) (hy : okD y = true) (hp : P (.bl (!PyData.eqv x.py y.py))) : Op2 B (rNeA B.K) es x y P := fun σ F H v w S a b Q k => by
  unfold okD at hx hy
  rw [Bool.and_eq_true] at hx hy
  exact .inr ⟨_, _, a.dp S.sub hx.1, b.dp S.sub hy.1, hx.2, hy.2, k _ _ F H S.refl (.bl _) hp⟩
/-- slices of a list, of a text -/
def EvP (B : Bs) (to : TO) (es : List Sl) (P : Option Int → Prop) : Prop := ∀ σ F H, Stt B es σ F H → ∀ Q : Option Int → Hp → Prop, (∀ o F' H', Go B F H F' H' → P o → Q o H') → to σ H Q
theorem ep_none {P : Option Int → Prop} (h : P none) : EvP B tNoPart es P := fun σ F H S Q q => q none F H S.refl h
theorem ep_some {te : TE} {P : Option Int → Prop} (h : Ev B te es fun d => ∃ i, d = .int i ∧ P (some i)) : EvP B (tPart te) es P := fun σ F H S Q q => h σ F H S _ fun v d F1 H1 g1 r1 ⟨i, e, p1⟩ => by
  subst e; cases r1; exact ⟨i, rfl, q _ F1 H1 g1 p1⟩
def cutD {α : Type} (xs : List α) (lo hi : Option Int) : List α := (xs.drop (HT.sIx xs.length 0 lo)).take (HT.sIx xs.length xs.length hi - HT.sIx xs.length 0 lo)
theorem RpAll.cut {K : PySem.W.Frag} {F : Hp} {vs : List V} {ds : List Dt} (lo hi : Option Int) (r : RpAll K F vs ds) : RpAll K F (cutV vs lo hi) (cutD ds lo hi) := by
  unfold cutV cutD
  rw [r.length]
  exact (r.drop _).take _
theorem eo_slL {te : TE} {tl th : TO} {P : List Dt → Prop} (h : Ev B te es fun d => ∃ xs, d = .lst xs ∧ EvP B tl es fun lo => EvP B th es fun hi => P (cutD xs lo hi)) : EvO B (tSl (rSlA B.K) te tl th) es P := fun σ F H S Q q => h σ F H S _ fun v d F1 H1 g1 r1 ⟨xs, e, p1⟩ => by
  subst e
  refine p1 σ F1 H1 (S.go g1) _ fun lo F2 H2 g2 p2 => p2 σ F2 H2 ((S.go g1).go g2) _ fun hi F3 H3 g3 p3 => ?_
  have g := (g1.trans g2).trans g3
  have S3 := S.go g
  cases r1 with
  | lst h1 h2 =>
    refine .inl ⟨_, _, rfl, SqL.of (g3.s2 _ _ ((g2.s1.trans g3.s1) _ _ h1)), fun p hp => ?_⟩
    exact q p _ _ F3 _ (g.trans (S3.allocO hp)) (g.new (S3.newB hp) hp) (same_none S3.sub hp) upd_same ((h2.mono (g2.s1.trans g3.s1)).cut lo hi) p3
theorem ev_slS {te : TE} {tl th : TO} {P : Dt → Prop} (h : Ev B te es fun d => ∃ z : Str, d = .str z ∧ z.length ≤ 100000 ∧ EvP B tl es fun lo => EvP B th es fun hi => P (.str (cutS z lo hi))) : Ev B (tSl (rSlA B.K) te tl th) es P := fun σ F H S Q q => h σ F H S _ fun v d F1 H1 g1 r1 ⟨z, e, hz, p1⟩ => by
  subst e
  refine p1 σ F1 H1 (S.go g1) _ fun lo F2 H2 g2 p2 => p2 σ F2 H2 ((S.go g1).go g2) _ fun hi F3 H3 g3 p3 => ?_
  cases r1
  exact .inr (.inr ⟨z, rfl, size_of hz, q _ _ F3 H3 ((g1.trans g2).trans g3) (.str _) p3⟩)
/-- sep.join(list of texts) -/
theorem ev_join {to te : TE} {P : Dt → Prop} (h : Ev B to es fun a => ∃ sep : Str, a = .str sep ∧ Ev B te es fun d => ∃ ys : List Str, (d = .lst (ys.map Dt.str) ∨ d = .tup (ys.map Dt.str)) ∧ (ys.map (·.length)).sum + ys.length * sep.length ≤ 16777216 ∧ P (.str (Txt.join sep ys))) :
    Ev B (tM1 (rJoinA B.K) to te) es P := fun σ F H S Q q => h σ F H S _ fun v a F1 H1 g1 r1 ⟨sep, e, p1⟩ => by
  subst e
  cases r1
  refine ⟨⟨sep, rfl⟩, p1 σ F1 H1 (S.go g1) _ fun w d F2 H2 g2 r2 ⟨ys, e2, hl, p2⟩ => ?_⟩
  rcases e2 with rfl | rfl
  · cases r2 with
    | lst h1 h2 =>
      have e := h2.texts
      subst e
      exact ⟨sep, _, ys, rfl, rfl, .inl (SqL.of (g2.s2 _ _ h1)), hl, q _ _ F2 H2 (g1.trans g2) (.str _) p2⟩
  · cases r2 with
    | tup h1 h2 =>
      have e := h2.texts
      subst e
      exact ⟨sep, _, ys, rfl, rfl, .inr (sqT_mono g2.s2 h1), hl, q _ _ F2 H2 (g1.trans g2) (.str _) p2⟩
/-- list(xs) -/
theorem eo_listOf {ta : TA} {P : List Dt → Prop} (h : EvA B ta es fun ds => ∃ xs, (ds = [.lst xs] ∨ ds = [.tup xs]) ∧ P xs) : EvO B (tCB (rListA B.K) ta) es P := fun σ F H S Q q => h σ F H S _ fun vs ds F1 H1 g1 r1 ⟨xs, e, p1⟩ => by
  have S1 := S.go g1
  rcases e with rfl | rfl
  · obtain ⟨v, rfl, r⟩ := rp1 r1
    cases r with
    | lst h1 h2 => exact ⟨_, _, rfl, .inl (SqL.of (g1.s2 _ _ h1)), fun p hp => q p _ _ F1 _ (g1.trans (S1.allocO hp)) (g1.new (S1.newB hp) hp) (same_none S1.sub hp) upd_same h2 p1⟩
  · obtain ⟨v, rfl, r⟩ := rp1 r1
    cases r with
    | tup h1 h2 => exact ⟨_, _, rfl, .inr (sqT_mono g1.s2 h1), fun p hp => q p _ _ F1 _ (g1.trans (S1.allocO hp)) (g1.new (S1.newB hp) hp) (same_none S1.sub hp) upd_same h2 p1⟩
end
end Y
/-! Y5: isinstance by kinds; the drawing; what the helpers of every law promise. -/
namespace Y
open PySem L2
section
variable {B : Bs} {es : List Sl}
def isIntD : Dt → Bool
  | .int _ => true
  | .bl _ => true
  | _ => false
def isBoolD : Dt → Bool
  | .bl _ => true
  | _ => false
def isStrD : Dt → Bool
  | .str _ => true
  | _ => false
def isLstD : Dt → Bool
  | .lst _ => true
  | _ => false
def isTupD : Dt → Bool
  | .tup _ => true
  | _ => false
theorem isi_int {x : Dt} (h : plainD x = true) : isiD "int" x = some (isIntD x) := by
  cases x with
  | non => show kitB "NoneType" "int" = some false; decide +kernel
  | bl _ => show kitB "bool" "int" = some true; decide +kernel
  | int _ => show kitB "int" "int" = some true; decide +kernel
  | str _ => show kitB "str" "int" = some false; decide +kernel
  | lst _ => show kitB "list" "int" = some false; decide +kernel
  | tup _ => show kitB "tuple" "int" = some false; decide +kernel
  | dct _ _ => show kitB "dict" "int" = some false; decide +kernel
  | obj _ _ _ => cases h
  | ali _ => cases h
theorem isi_bool {x : Dt} (h : plainD x = true) : isiD "bool" x = some (isBoolD x) := by
  cases x with
  | non => show kitB "NoneType" "bool" = some false; decide +kernel
  | bl _ => show kitB "bool" "bool" = some true; decide +kernel
  | int _ => show kitB "int" "bool" = some false; decide +kernel
  | str _ => show kitB "str" "bool" = some false; decide +kernel
  | lst _ => show kitB "list" "bool" = some false; decide +kernel
  | tup _ => show kitB "tuple" "bool" = some false; decide +kernel
  | dct _ _ => show kitB "dict" "bool" = some false; decide +kernel
  | obj _ _ _ => cases h
  | ali _ => cases h
theorem isi_str {x : Dt} (h : plainD x = true) : isiD "str" x = some (isStrD x) := by
  cases x with
  | non => show kitB "NoneType" "str" = some false; decide +kernel
  | bl _ => show kitB "bool" "str" = some false; decide +kernel
  | int _ => show kitB "int" "str" = some false; decide +kernel
  | str _ => show kitB "str" "str" = some true; decide +kernel
  | lst _ => show kitB "list" "str" = some false; decide +kernel
  | tup _ => show kitB "tuple" "str" = some false; decide +kernel
  | dct _ _ => show kitB "dict" "str" = some false; decide +kernel
  | obj _ _ _ => cases h
  | ali _ => cases h
theorem isi_list {x : Dt} (h : plainD x = true) : isiD "list" x = some (isLstD x) := by
  cases x with
  | non => show kitB "NoneType" "list" = some false; decide +kernel
  | bl _ => show kitB "bool" "list" = some false; decide +kernel
  | int _ => show kitB "int" "list" = some false; decide +kernel
  | str _ => show kitB "str" "list" = some false; decide +kernel
  | lst _ => show kitB "list" "list" = some true; decide +kernel
  | tup _ => show kitB "tuple" "list" = some false; decide +kernel
  | dct _ _ => show kitB "dict" "list" = some false; decide +kernel
  | obj _ _ _ => cases h
  | ali _ => cases h
theorem isi_tuple {x : Dt} (h : plainD x = true) : isiD "tuple" x = some (isTupD x) := by
  cases x with
  | non => show kitB "NoneType" "tuple" = some false; decide +kernel
  | bl _ => show kitB "bool" "tuple" = some false; decide +kernel
  | int _ => show kitB "int" "tuple" = some false; decide +kernel
  | str _ => show kitB "str" "tuple" = some false; decide +kernel
  | lst _ => show kitB "list" "tuple" = some false; decide +kernel
  | tup _ => show kitB "tuple" "tuple" = some true; decide +kernel
  | dct _ _ => show kitB "dict" "tuple" = some false; decide +kernel
  | obj _ _ _ => cases h
  | ali _ => cases h
theorem isi_lt {x : Dt} (h : plainD x = true) : isiDs ["list", "tuple"] x = some (isLstD x || isTupD x) := by
  cases x with
  | non => show anyIsi "NoneType" ["list", "tuple"] = some false; decide +kernel
  | bl _ => show anyIsi "bool" ["list", "tuple"] = some false; decide +kernel
  | int _ => show anyIsi "int" ["list", "tuple"] = some false; decide +kernel
  | str _ => show anyIsi "str" ["list", "tuple"] = some false; decide +kernel
  | lst _ => show anyIsi "list" ["list", "tuple"] = some true; decide +kernel
  | tup _ => show anyIsi "tuple" ["list", "tuple"] = some true; decide +kernel
  | dct _ _ => show anyIsi "dict" ["list", "tuple"] = some false; decide +kernel
  | obj _ _ _ => cases h
  | ali _ => cases h
theorem ev_isInt {te : TE} {P : Dt → Prop} (h : Ev B te es fun d => plainD d = true ∧ P (.bl (isIntD d))) : Ev B (tCB (rIsi B.K) (tCons te (tCons (tC (.ty "int")) tNil))) es P := ev_isi (h.imp fun d q => ⟨_, isi_int q.1, q.2⟩)
theorem ev_isBool {te : TE} {P : Dt → Prop} (h : Ev B te es fun d => plainD d = true ∧ P (.bl (isBoolD d))) : Ev B (tCB (rIsi B.K) (tCons te (tCons (tC (.ty "bool")) tNil))) es P := ev_isi (h.imp fun d q => ⟨_, isi_bool q.1, q.2⟩)
theorem ev_isStr {te : TE} {P : Dt → Prop} (h : Ev B te es fun d => plainD d = true ∧ P (.bl (isStrD d))) : Ev B (tCB (rIsi B.K) (tCons te (tCons (tC (.ty "str")) tNil))) es P := ev_isi (h.imp fun d q => ⟨_, isi_str q.1, q.2⟩)
theorem ev_isList {te : TE} {P : Dt → Prop} (h : Ev B te es fun d => plainD d = true ∧ P (.bl (isLstD d))) : Ev B (tCB (rIsi B.K) (tCons te (tCons (tC (.ty "list")) tNil))) es P := ev_isi (h.imp fun d q => ⟨_, isi_list q.1, q.2⟩)
theorem ev_isTuple {te : TE} {P : Dt → Prop} (h : Ev B te es fun d => plainD d = true ∧ P (.bl (isTupD d))) : Ev B (tCB (rIsi B.K) (tCons te (tCons (tC (.ty "tuple")) tNil))) es P := ev_isi (h.imp fun d q => ⟨_, isi_tuple q.1, q.2⟩)
theorem ev_isLT {te : TE} {P : Dt → Prop} (h : Ev B te es fun d => plainD d = true ∧ P (.bl (isLstD d || isTupD d))) : Ev B (tCB (rIsiT B.K) (tCons te (tCons (tTup (tCons (tC (.ty "list")) (tCons (tC (.ty "tuple")) tNil))) tNil))) es P := ev_isi2 (h.imp fun d q => ⟨_, isi_lt q.1, q.2⟩)
/-- tests of a value that is True or False -/
theorem bl_ex {b : Bool} {P : Bool → Prop} (h : P b) : ∃ c, Dt.bl b = .bl c ∧ P c := ⟨b, rfl, h⟩
theorem int_ex {b : Int} {P : Int → Prop} (h : P b) : ∃ c, Dt.int b = .int c ∧ P c := ⟨b, rfl, h⟩
theorem str_ex {b : Str} {P : Str → Prop} (h : P b) : ∃ c, Dt.str b = .str c ∧ P c := ⟨b, rfl, h⟩
theorem lst_ex {b : List Dt} {P : List Dt → Prop} (h : P b) : ∃ c, Dt.lst b = .lst c ∧ P c := ⟨b, rfl, h⟩
theorem tup_ex {b : List Dt} {P : List Dt → Prop} (h : P b) : ∃ c, Dt.tup b = .tup c ∧ P c := ⟨b, rfl, h⟩
/-- the two ways of a test -/
theorem ways {b : Bool} {X Y : Prop} (h1 : b = true → X) (h2 : b = false → Y) : (b = true → X) ∧ (b = false → Y) := ⟨h1, h2⟩
theorem way_t {b : Bool} {X Y : Prop} (e : b = true) (h : X) : (b = true → X) ∧ (b = false → Y) := ⟨fun _ => h, fun z => by rw [e] at z; cases z⟩
theorem way_f {b : Bool} {X Y : Prop} (e : b = false) (h : Y) : (b = true → X) ∧ (b = false → Y) := ⟨fun z => (by rw [e] at z; cases z), fun _ => h⟩
end

section
variable {B : Bs} {es : List Sl}
/-- [f(x) for x in xs], f a function -/
theorem eo_mapF {wi : TI} {g : TG} {te : TE} {vs : List Nat} {P : List Dt → Prop} (f : Dt → Dt) (h : EvI B wi es fun xs => xs.length < 100000 ∧
    (∀ x, x ∈ xs → TgC B g (wipeE es vs) vs x fun e2 => Ev B te e2 fun y => y = f x) ∧ P (xs.map f)) : EvO B (tLc wi g tYes te vs) es P :=
  eo_map fun σ F H S Q q => h σ F H S Q fun J xs F1 H1 g1 it ⟨hl, h1, h2⟩ => q J xs F1 H1 g1 it ⟨hl, fun x y => y = f x, fun i x hx => h1 x (List.mem_of_getElem? hx), fun ys hy hR => by
    have e : ys = xs.map f := by
      apply List.ext_getElem?
      intro i
      rw [List.getElem?_map]
      cases e1 : xs[i]? with
      | none =>
        have : xs.length ≤ i := List.getElem?_eq_none_iff.mp e1
        rw [List.getElem?_eq_none (by omega)]; rfl
      | some x =>
        have hi : i < ys.length := by rw [hy]; exact (List.getElem?_eq_some_iff.mp e1).1
        have e2 : ys[i]? = some ys[i] := by simp [hi]
        rw [e2, hR i x ys[i] e1 e2]; rfl
    rw [e]; exact h2⟩
/-- [f(c) for c in text] -/
theorem eo_mapS {te te' : TE} {j : Nat} {P : List Dt → Prop} (f : Nat → Dt) (h : Ev B te es fun d => ∃ z : Str, d = .str z ∧ z.cps.size < 100000 ∧
    (∀ c, c ∈ z.cps.toList → Ev B te' ((es.set j .no).set j (.d (.str ⟨#[c]⟩))) fun y => y = f c) ∧ P (z.cps.toList.map f)) : EvO B (tLc (iStr te) (gName j) tYes te' [j]) es P :=
  eo_map (ei_str (h.imp fun d ⟨z, e, hl, h1, h2⟩ => ⟨z, e, by rw [signsD_len]; exact hl, fun x y => ∀ c, x = .str ⟨#[c]⟩ → y = f c, fun i x hx => by
    have hm := List.mem_of_getElem? hx
    obtain ⟨c, hc, rfl⟩ := List.mem_map.mp hm
    refine tc_name ?_
    refine (h1 c hc).imp fun y hy c' e' => ?_
    injection e' with e'
    injection e' with e'
    have : c = c' := by simpa using e'
    rw [← this]; exact hy, fun ys hy hR => by
      have e : ys = z.cps.toList.map f := by
        apply List.ext_getElem?
        intro i
        rw [List.getElem?_map]
        rw [signsD_len] at hy
        cases e1 : z.cps.toList[i]? with
        | none =>
          have : z.cps.toList.length ≤ i := List.getElem?_eq_none_iff.mp e1
          rw [Array.length_toList] at this
          rw [List.getElem?_eq_none (by omega)]; rfl
        | some c =>
          have hi : i < ys.length := by
            have := (List.getElem?_eq_some_iff.mp e1).1
            rw [Array.length_toList] at this
            omega
          have e2 : ys[i]? = some ys[i] := by simp [hi]
          have e3 : (signsD z)[i]? = some (.str ⟨#[c]⟩) := by rw [signsD, List.getElem?_map, e1]; rfl
          rw [e2, hR i _ ys[i] e3 e2 c rfl]; rfl
      rw [e]; exact h2⟩))
/-- [c for c in text if t(c)] -/
theorem eo_filterS {te : TE} {tt : TT} {j : Nat} {P : List Dt → Prop} (f : Nat → Bool) (h : Ev B te es fun d => ∃ z : Str, d = .str z ∧ z.cps.size < 100000 ∧
    (∀ c, c ∈ z.cps.toList → EvT B tt ((es.set j .no).set j (.d (.str ⟨#[c]⟩))) fun b => b = f c) ∧ P ((z.cps.toList.filter f).map fun c => .str ⟨#[c]⟩)) (hj : j < es.length) : EvO B (tLc (iStr te) (gName j) tt (tVar j) [j]) es P :=
  eo_lc (ei_str (h.imp fun d ⟨z, e, hl, h1, h2⟩ => ⟨z, e, by rw [signsD_len]; exact hl, fun i acc => acc = ((z.cps.toList.take i).filter f).map fun c => .str ⟨#[c]⟩, rfl, fun i x acc hx ha => by
    rw [signsD, List.getElem?_map] at hx
    cases e1 : z.cps.toList[i]? with
    | none => rw [e1] at hx; cases hx
    | some c =>
      rw [e1] at hx
      cases hx
      refine tc_name ?_
      have ht : z.cps.toList.take (i + 1) = z.cps.toList.take i ++ [c] := by
        rw [List.take_add_one, e1]; rfl
      refine (h1 c (List.mem_of_getElem? e1)).imp fun b hb => ⟨fun hbt => ev_var (x := .str ⟨#[c]⟩) ?_ ?_, fun hbf => ?_⟩
      · show ((es.set j .no).set j (.d (.str ⟨#[c]⟩)))[j]? = _
        rw [List.getElem?_set_self (by rw [List.length_set]; exact hj)]
      · show _ = _
        rw [ht, List.filter_append, List.map_append, ha, List.filter_cons, if_pos (by rw [← hb]; exact hbt)]; rfl
      · show _ = _
        rw [ht, List.filter_append, List.map_append, ha, List.filter_cons, if_neg (by rw [← hb, hbf]; decide)]; simp, fun acc ha => by
    rw [ha]
    have : (signsD z).length = z.cps.toList.length := by simp [signsD]
    rw [this, List.take_length]
    exact h2⟩))
theorem c_allF {α : Type} {l : List α} {g : α → Bool} {P : Dt → Prop} (hp : P (.bl (l.all g))) : Cal B (rAll B.K) es [.lst (l.map fun c => .bl (g c))] P := by
  have e : (l.map fun c => Dt.bl (g c)) = (l.map g).map Dt.bl := by rw [List.map_map]; rfl
  rw [e]
  refine c_all ?_
  rw [List.all_map]
  exact hp
/-- the script, as it is handed in, is cut -/
theorem eo_slRaw {i : Nat} {a : Addr} {ns : List Int} {tl th : TO} {P : List Dt → Prop} (hi : es[i]? = some (.r (.ref a))) (hS : SqL B.K B.H0 a (ns.map V.int)) (hb : B.bag ≠ some a) (h : EvP B tl es fun lo => EvP B th es fun hi => P ((cutD ns lo hi).map Dt.int)) : EvO B (tSl (rSlA B.K) (tVar i) tl th) es P := fun σ F H S Q q =>
  ⟨_, S.raw hi, h σ F H S _ fun lo F1 H1 g1 p1 => p1 σ F1 H1 (S.go g1) _ fun hi' F2 H2 g2 p2 => by
    have g := g1.trans g2
    have S2 := S.go g
    have hS2 : SqL B.K H2 a (ns.map V.int) := by
      rcases hS with (k | ⟨o, k⟩) | k
      · exact .inl (.inl (S2.fr a _ k hb))
      · exact .inl (.inr ⟨o, S2.fr a _ k hb⟩)
      · exact .inr k
    have e : cutV (ns.map V.int) lo hi' = (cutD ns lo hi').map V.int := by
      unfold cutV cutD
      rw [List.length_map, List.map_take, List.map_drop]
    refine .inl ⟨a, _, rfl, hS2, fun p hp => q p _ _ F2 _ (g.trans (S2.allocO hp)) (g.new (S2.newB hp) hp) (same_none S2.sub hp) upd_same ?_ p2⟩
    rw [e]
    exact RpAll.of_ints⟩
theorem of_mem_ints {xs : List Int} {i : Nat} {x : Dt} (h : (xs.map Dt.int)[i]? = some x) : ∃ n, x = .int n := by
  obtain ⟨n, _, e⟩ := List.mem_map.mp (List.mem_of_getElem? h)
  exact ⟨n, e.symm⟩
end

theorem sm_cut {B : Bs} {es : List Sl} {p : Po} {t u : TS} (I : List Sl → Prop) (h1 : Sm B t es { p with nx := I }) (h2 : ∀ es', I es' → Sm B u es' p) : Sm B (tSeq t u) es p :=
  sm_seq (sm_imp (p' := { p with nx := I }) h1 h2 (fun _ h => h) (fun _ h => h) (fun _ _ h => h) (fun _ h => h))
theorem atI_of {xs : List Dt} {i : Int} (h0 : 0 ≤ i) (h1 : i < xs.length) : ∃ x, atI xs i = some x ∧ x ∈ xs := by
  have hi : i.toNat < xs.length := by omega
  refine ⟨xs[i.toNat], ?_, List.getElem_mem _⟩
  unfold atI ixN
  rw [if_pos h0, if_pos h1]
  simp [hi]
theorem atI_ofN {xs : List Nat} {i : Int} (h0 : 0 ≤ i) (h1 : i < xs.length) : ∃ x, atI xs i = some x ∧ x ∈ xs := by
  have hi : i.toNat < xs.length := by omega
  refine ⟨xs[i.toNat], ?_, List.getElem_mem _⟩
  unfold atI ixN
  rw [if_pos h0, if_pos h1]
  simp [hi]
theorem pairD_mem : ∀ {xs : List Dt} {p : Dt}, p ∈ pairD xs xs → ∃ x, x ∈ xs ∧ p = .tup [x, x]
  | [], p, h => by simp [pairD] at h
  | x :: xs, p, h => by
    rcases List.mem_cons.mp (show p ∈ .tup [x, x] :: pairD xs xs from h) with rfl | h
    · exact ⟨x, List.mem_cons_self .., rfl⟩
    · obtain ⟨y, hy, e⟩ := pairD_mem h
      exact ⟨y, List.mem_cons_of_mem _ hy, e⟩
theorem fn_none {P : Program} {w : World} {K : PySem.W.Frag} {mg : Str → Option Value} {base : Heap} {f : Addr} {fd : FuncData} {ps : List Str} {k : Nat} {Pre : List Dt → Prop} {Post : List Dt → Dt → Prop} (h : ∀ ds, ¬ Pre ds) : FnOk P w K mg base CX0 k f fd ps (spD K Pre Post) :=
  ⟨fun _ _ _ _ q => (by obtain ⟨F, ds, _, _, hp, _⟩ := q; exact (h ds hp).elim), fun _ _ _ _ _ _ _ _ _ _ _ _ _ q => (by obtain ⟨F, ds, _, _, hp, _⟩ := q; exact (h ds hp).elim)⟩

/-! ### the drawing -/
def drawPre (ds : List Dt) : Prop := ∃ n : Int, ds = [.int n] ∧ 0 < n ∧ n < 1073741824
def drawPost (ds : List Dt) (d : Dt) : Prop := ∃ n i : Int, ds = [.int n] ∧ d = .int i ∧ 0 ≤ i ∧ i < n
def itemsD : Dt → List Dt
  | .lst xs => xs
  | .tup xs => xs
  | .str z => signsD z
  | _ => []
def ofPre (ds : List Dt) : Prop := ∃ x, ds = [x] ∧ 0 < (itemsD x).length ∧ (itemsD x).length ≤ 100000
def ofPost (ds : List Dt) (d : Dt) : Prop := ∃ x, ds = [x] ∧ d ∈ itemsD x
mutual
def Dt.depth : Dt → Nat
  | .lst xs => depthAll xs + 1
  | .tup xs => depthAll xs + 1
  | .non => 0
  | .bl _ => 0
  | .int _ => 0
  | .str _ => 0
  | .obj _ _ _ => 0
  | .dct _ _ => 0
  | .ali _ => 0
def depthAll : List Dt → Nat
  | [] => 0
  | x :: xs => max x.depth (depthAll xs)
end
theorem depthAll_mem {n : Nat} : ∀ {xs : List Dt} {x : Dt}, x ∈ xs → depthAll xs ≤ n → x.depth ≤ n
  | y :: ys, x, h, hn => by
    unfold depthAll at hn
    rcases List.mem_cons.mp h with rfl | h
    · omega
    · exact depthAll_mem h (by omega)
theorem pureAll_mem : ∀ {xs : List Dt} {x : Dt}, x ∈ xs → pureAll xs = true → x.pureD = true
  | y :: ys, x, h, hn => by
    unfold pureAll at hn
    rw [Bool.and_eq_true] at hn
    rcases List.mem_cons.mp h with rfl | h
    · exact hn.1
    · exact pureAll_mem h hn.2
def samePre (n : Nat) (ds : List Dt) : Prop := ∃ x, ds = [x, x] ∧ x.pureD = true ∧ x.depth < n
def sameTrue (_ : List Dt) (d : Dt) : Prop := d = .bl true
/-- what is wrong in many places -/
def oddL : List Dt := [.non, .bl true, .bl false, .str "", .str "A", .int (-1), .int 999999999, .tup [], .lst [], .tup [.int 1], .lst [.str "a"], .str "a b", .tup [.str "a", .str "b"], .lst [.non]]
def oddPre (ds : List Dt) : Prop := ∃ xs, ds = [.lst xs] ∧ xs.length ≤ 1000
def oddPost (ds : List Dt) (d : Dt) : Prop := ∃ xs, ds = [.lst xs] ∧ d ∈ oddL ++ xs
/-- a number from l to m -/
def isNum (x : Dt) (l m : Int) : Bool := match x with
  | .int i => decide (l ≤ i) && decide (i ≤ m)
  | _ => false
def numPre (ds : List Dt) : Prop := ∃ x l m, ds = [x, .int l, .int m] ∧ plainD x = true
def numPost (ds : List Dt) (d : Dt) : Prop := ∃ x l m, ds = [x, .int l, .int m] ∧ d = .bl (isNum x l m)
/-- names: 1 to 6 small letters -/
def letters : List Nat := ("abcdefghijklmnopqrstuvwxyz" : Str).cps.toList
def isNameD (x : Dt) : Bool := match x with
  | .str z => decide ((1 : Int) ≤ z.length) && (decide ((z.length : Int) ≤ 6) && z.cps.toList.all fun c => decide (c ∈ letters))
  | _ => false
def isRegD (x : Dt) : Bool := match x with
  | .str z => inD (.str z) [.str "r0", .str "r1", .str "r2"]
  | _ => false
def txtOk (x : Dt) : Prop := ∀ z, x = .str z → z.cps.size < 1000 ∧ PyData.strOk z = true
def valPre (ds : List Dt) : Prop := ∃ x, ds = [x] ∧ plainD x = true ∧ txtOk x
def namePost (ds : List Dt) (d : Dt) : Prop := ∃ x, ds = [x] ∧ d = .bl (isNameD x)
def regPost (ds : List Dt) (d : Dt) : Prop := ∃ x, ds = [x] ∧ d = .bl (isRegD x)
def wordPost (ds : List Dt) (d : Dt) : Prop := ∃ x, ds = [x] ∧ d = .bl (isNum x 0 65535)
/-- what _law_bag promises: a new drawing -/
def spBag (K : PySem.W.Frag) : Sp := fun vs H Q _ => ∃ (a : Addr) (ns : List Int), vs = [.ref a] ∧ SqL K H a (ns.map V.int) ∧
  ∀ b F H', H b = none → Same F H' → Same H H' → BagAt K F H' b → Q (.ref b) H'
/-- the law: a list of at most 63 ints is handed in, True comes out -/
def spLaw (K : PySem.W.Frag) : Sp := fun vs H Q _ => ∃ (a : Addr) (ns : List Int), vs = [.ref a] ∧ SqL K H a (ns.map V.int) ∧ ns.length ≤ 63 ∧ ∀ H', Q (.bl true) H'
theorem start_raw {K : PySem.W.Frag} {H : Hp} {a : Addr} (N : List Str) : Stt ⟨K, fun _ => none, H, none⟩ (.r (.ref a) :: List.replicate (N.length - 1) Sl.no) (L2.start N [.ref a]) (fun _ => none) H where
  sub := fun _ _ h => nomatch h
  s0 := fun _ _ h => h
  ou := fun _ _ h => h
  fr := fun c o h _ => h
  bg := fun _ z => nomatch z
  len := by simp [L2.start]
  ok := fun i e o h1 h2 => by
    cases i with
    | zero =>
      cases h1
      have : (L2.start N [V.ref a])[0]? = some (some (.ref a)) := rfl
      rw [this] at h2
      cases h2
      rfl
    | succ i =>
      have h1 : (List.replicate (N.length - 1) Sl.no)[i]? = some e := h1
      have h2 : (List.replicate (N.length - 1) (none : Option V))[i]? = some o := h2
      rw [List.eq_of_mem_replicate (List.mem_of_getElem? h1), List.eq_of_mem_replicate (List.mem_of_getElem? h2)]
      rfl
  ow := fun i c xs h1 => by
    rcases List.mem_cons.mp (List.mem_of_getElem? h1) with h | h
    · cases h
    · cases List.eq_of_mem_replicate h
  dis := fun i j c e xs ys _ h1 => by
    rcases List.mem_cons.mp (List.mem_of_getElem? h1) with h | h
    · cases h
    · cases List.eq_of_mem_replicate h
section
variable {P : Program} {w : World} {K : PySem.W.Frag} {mg : Str → Option Value} {base : Heap} {x qual : Str} {st : Stmt} {f : Addr} {fd : FuncData} {N : List Str} {q : Str} {k : Nat}
theorem fn_newBag (G : Fun K x qual st f fd) (S : FnScope N [q] (defScope st))
    (hb : ∀ (cdv : Value) (A : Around) (outer : List Env) (s : Shared) (H : Hp) (E : XK), Room k (A.deeper (PyProof.Rows.envOfC qual (defScope st) s.heap.objs.size f cdv)) →
      ∃ t, PSs (cxOf CX0 P w K mg base N qual (defScope st) f cdv A outer s H E).nox (defBody st) t ∧ ∀ (H0 : Hp) (a : Addr) (ns : List Int), SqL K H0 a (ns.map V.int) → Sm ⟨K, fun _ => none, H0, none⟩ t (.r (.ref a) :: List.replicate (N.length - 1) Sl.no) { nx := fun _ => False, bk := fun _ => False, ct := fun _ => False, rt := fun _ _ => False, ro := BagD }) :
    FnOk P w K mg base CX0 (k + 1) f fd [q] (spBag K) := by
  refine G.ok S (fun vs H Q E h => ?_) (fun cdv A outer s H vs Q E hr h => ?_)
  · obtain ⟨a, ns, rfl, _⟩ := h; rfl
  · obtain ⟨a, ns, rfl, hS, q⟩ := h
    obtain ⟨t, hd, hm⟩ := hb cdv A outer s H E hr
    refine ⟨t, hd, hm H a ns hS _ _ H _ (start_raw N) (fun _ _ _ _ _ _ z => z.elim) (fun _ _ _ _ _ _ z => z.elim) (fun _ _ _ _ _ _ z => z.elim) (fun _ _ _ _ _ _ _ _ _ z => z.elim) (fun b vs xs es' σ' F' H' S' s' h1 h2 r1 h3 h4 p => ?_)⟩
    exact q b F' H' h3 S'.sub (fun c o e => S'.fr c o e (fun z => nomatch z)) ⟨h1, vs, xs, h2, r1, p⟩
/-- the law's own def: its first statement makes the drawing -/
theorem fn_law (G : Fun K x qual st f fd) (S : FnScope N [q] (defScope st))
    (hb : ∀ (cdv : Value) (A : Around) (outer : List Env) (s : Shared) (H : Hp) (E : XK), Room k (A.deeper (PyProof.Rows.envOfC qual (defScope st) s.heap.objs.size f cdv)) →
      ∃ t, PSs (cxOf CX0 P w K mg base N qual (defScope st) f cdv A outer s H E).nox (defBody st) (tSeq (tAsg (tCall (spBag K) [] E0 (tCons (tVar 0) tNil)) (gName 1)) t) ∧ ∀ F0 H0 a b, Sm ⟨K, F0, H0, some b⟩ t (.r (.ref a) :: .r (.ref b) :: List.replicate (N.length - 2) Sl.no) { nx := fun _ => False, bk := fun _ => False, ct := fun _ => False, rt := fun _ d => d = .bl true }) (hN : 2 ≤ N.length) :
    FnOk P w K mg base CX0 (k + 1) f fd [q] (spLaw K) := by
  refine G.ok S (fun vs H Q E h => ?_) (fun cdv A outer s H vs Q E hr h => ?_)
  · obtain ⟨a, ns, rfl, _⟩ := h; rfl
  · obtain ⟨a, ns, rfl, hS, _, q⟩ := h
    obtain ⟨t, hd, hm⟩ := hb cdv A outer s H E hr
    refine ⟨_, hd, .ref a, rfl, a, ns, rfl, hS, fun b F H' hn s1 s2 hB => ?_⟩
    have S0 := start_raw (K := K) (H := H') (a := a) N
    have S1 : Stt ⟨K, F, H', some b⟩ (.r (.ref a) :: List.replicate (N.length - 1) Sl.no) (L2.start N [.ref a]) F H' :=
      ⟨s1, Same.refl F, fun _ _ h => h, fun c o h _ => h, fun c e => by cases e; exact hB, S0.len, fun i e o h1 h2 => by
        have := S0.ok i e o h1 h2
        rcases List.mem_cons.mp (List.mem_of_getElem? h1) with h | h
        · rw [h] at this ⊢; exact this
        · rw [List.eq_of_mem_replicate h] at this ⊢; exact this, (fun i c xs h1 => by
        rcases List.mem_cons.mp (List.mem_of_getElem? h1) with h | h
        · cases h
        · cases List.eq_of_mem_replicate h), S0.dis⟩
    have S2 := S1.set (i := 1) (e := .r (.ref b)) (o := some (.ref b)) rfl fun _ _ e => nomatch e
    have e2 : (Sl.r (.ref a) :: List.replicate (N.length - 1) Sl.no).set 1 (.r (.ref b)) = .r (.ref a) :: .r (.ref b) :: List.replicate (N.length - 2) Sl.no := by
      obtain ⟨m, hm⟩ : ∃ m, N.length = m + 2 := ⟨N.length - 2, by omega⟩
      rw [hm]
      simp [List.replicate_succ]
    rw [e2] at S2
    exact hm F H' a b _ F H' _ S2 (fun _ _ _ _ _ _ z => z.elim) (fun _ _ _ _ _ _ z => z.elim) (fun _ _ _ _ _ _ z => z.elim) (fun v d es' σ' F' H2 S' s' rv e => by subst e; cases rv; exact q H2) (fun _ _ _ _ _ _ _ _ _ _ _ _ _ _ z => z.elim)
end
end Y
/-! Y6: lists of texts; drawn words; values of any kind. -/
namespace Y
open PySem L2
theorem pureAll_strs : ∀ ss : List Str, pureAll (ss.map Dt.str) = true
  | [] => by simp [pureAll]
  | s :: ss => by simp [pureAll, Dt.pureD, pureAll_strs ss]
theorem pyAll_strs : ∀ ss : List Str, pyAll (ss.map Dt.str) = ss.map PyData.str
  | [] => by simp [pyAll]
  | s :: ss => by simp [pyAll, Dt.py, pyAll_strs ss]
theorem lay_strs : ∀ ss : List Str, (∀ s ∈ ss, PyData.strOk s = true) → PyData.canLayAll0 (ss.map PyData.str) = true
  | [], _ => by simp [PyData.canLayAll0]
  | s :: ss, h => by
    simp only [List.map_cons, PyData.canLayAll0, PyData.canLay0, Bool.and_eq_true]
    exact ⟨h s (List.mem_cons_self ..), lay_strs ss fun t ht => h t (List.mem_cons_of_mem _ ht)⟩
theorem depth_strs : ∀ ss : List Str, PyData.depthAll (ss.map PyData.str) = 0
  | [] => by simp [PyData.depthAll]
  | s :: ss => by simp [PyData.depthAll, PyData.depth, depth_strs ss]
theorem okD_strs {ss : List Str} (hl : ss.length < 50000) (h : ∀ s ∈ ss, PyData.strOk s = true) : okD (.lst (ss.map Dt.str)) = true := by
  unfold okD
  simp only [Dt.pureD, Dt.py, List.length_map, pureAll_strs, pyAll_strs, SeqAt.shaped, PyData.canLay0, lay_strs ss h, PyData.depth, depth_strs]
  simp [hl]
theorem okD_nil : okD (.lst []) = true := okD_strs (ss := []) (by decide) (fun _ h => nomatch h)
theorem eqv_nil (xs : List PyData) : PyData.eqv (.list xs) (.list []) = xs.isEmpty := by
  cases xs <;> simp [PyData.eqv, PyData.eqvAll]
section
variable {B : Bs} {es : List Sl}
/-- a list of texts == [] -/
theorem o_eqNil {ss : List Str} {P : Dt → Prop} (hl : ss.length < 50000) (h : ∀ s ∈ ss, PyData.strOk s = true) (hp : P (.bl ss.isEmpty)) : Op2 B (rEqA B.K) es (.lst (ss.map Dt.str)) (.lst []) P := by
  refine o_eqAD (okD_strs hl h) okD_nil ?_
  have e : PyData.eqv (Dt.lst (ss.map Dt.str)).py (Dt.lst []).py = ss.isEmpty := by
    simp only [Dt.py, pyAll, pyAll_strs]
    rw [eqv_nil]
    cases ss <;> rfl
  rw [e]
  exact hp
/-- a joined text of single signs -/
theorem join_signs : ∀ cs : List Nat, (Str.join "" (cs.map fun c => ⟨#[c]⟩)).cps.toList = cs
  | [] => rfl
  | [c] => rfl
  | c :: e :: r => by
    have := TL.tl_join ("" : Str) ((c :: e :: r).map fun c => (⟨#[c]⟩ : Str))
    rw [show (Str.join "" ((c :: e :: r).map fun c => (⟨#[c]⟩ : Str))).cps.toList = TL.tl _ from rfl, this]
    have h0 : TL.tl ("" : Str) = [] := by decide +kernel
    rw [h0]
    have key : ∀ l : List Nat, TL.joinL [] ((l.map fun c => (⟨#[c]⟩ : Str)).map TL.tl) = l := by
      intro l
      induction l with
      | nil => rfl
      | cons a l ih =>
        cases l with
        | nil => rfl
        | cons b l =>
          show [a] ++ ([] ++ TL.joinL [] (((b :: l).map fun c => (⟨#[c]⟩ : Str)).map TL.tl)) = a :: b :: l
          rw [ih]; rfl
    exact key _
/-- ''.join([of(bag, TEXT) for k in range(draw(bag, n))]) -/
theorem ev_word {i j : Nat} {b : Addr} {n : Int} {lit : Str} {E E' : XK} {P : Dt → Prop} (hb : B.bag = some b) (hi : es[i]? = some (.r (.ref b))) (hij : j ≠ i) (hn : 0 < n ∧ n ≤ 1000) (hl : 0 < lit.cps.size ∧ lit.cps.size ≤ 1000)
    (h : ∀ z : Str, (z.cps.size : Int) < n → (∀ c ∈ z.cps.toList, c ∈ lit.cps.toList) → P (.str z)) :
    Ev B (tM1 (rJoinA B.K) (tC (.str "")) (tLc (iRng1 (tCons (tCall (spB B.K drawPre drawPost) [] E (tCons (tVar i) (tCons (tC (.int n)) tNil))) tNil)) (gName j) tYes (tCall (spB B.K ofPre ofPost) [] E' (tCons (tVar i) (tCons (tC (.str lit)) tNil))) [j])) es P := by
  refine ev_join (ev_str (str_ex (EvO.ev (eo_map (ei_rng1 (ea_cons (ev_callB hb hi (ea_cons (ev_int (ea_nil ⟨⟨n, rfl, hn.1, by omega⟩, ?_⟩))))))))))
  rintro d ⟨n', k, e, rfl, k1, k2⟩
  cases e
  refine ea_nil ⟨k, rfl, by omega, by omega, by rw [rangeD_len]; omega, fun _ y => ∃ c, c ∈ lit.cps.toList ∧ y = .str ⟨#[c]⟩, fun m x hx => ?_, fun ys hy hR => ?_⟩
  · refine tc_name (ev_callB hb ?_ (ea_cons (ev_str (ea_nil ⟨⟨_, rfl, ?_, ?_⟩, ?_⟩))))
    · show ((es.set j .no).set j (.d x))[i]? = _
      rw [List.getElem?_set_ne hij, List.getElem?_set_ne hij]; exact hi
    · show 0 < (signsD lit).length; rw [signsD_len]; exact hl.1
    · show (signsD lit).length ≤ _; rw [signsD_len]; omega
    · rintro d ⟨x', e, hm⟩
      cases e
      obtain ⟨c, hc, rfl⟩ := List.mem_map.mp hm
      exact ⟨c, hc, rfl⟩
  · rw [rangeD_len] at hy
    have key : ∀ (l : List Dt), (∀ y ∈ l, ∃ c, c ∈ lit.cps.toList ∧ y = Dt.str ⟨#[c]⟩) → ∃ cs : List Nat, (∀ c ∈ cs, c ∈ lit.cps.toList) ∧ l = (cs.map fun c => (⟨#[c]⟩ : Str)).map Dt.str := by
      intro l
      induction l with
      | nil => intro _; exact ⟨[], (fun _ h => nomatch h), rfl⟩
      | cons y l ih =>
        intro hl
        obtain ⟨c, hc, rfl⟩ := hl y (List.mem_cons_self ..)
        obtain ⟨cs, h1, h2⟩ := ih fun z hz => hl z (List.mem_cons_of_mem _ hz)
        refine ⟨c :: cs, fun e he => ?_, by rw [h2]; rfl⟩
        rcases List.mem_cons.mp he with rfl | he
        · exact hc
        · exact h1 e he
    obtain ⟨cs, h1, rfl⟩ := key ys fun y hm => by
      obtain ⟨m, hm⟩ := List.getElem?_of_mem hm
      have hlt := (List.getElem?_eq_some_iff.mp hm).1
      have hr : m < (rangeD 0 k.toNat).length := by rw [rangeD_len]; omega
      exact hR m _ y (List.getElem?_eq_getElem hr) hm
    rw [List.length_map, List.length_map] at hy
    refine ⟨cs.map fun c => (⟨#[c]⟩ : Str), .inl rfl, ?_, ?_⟩
    · have e1 : ((cs.map fun c => (⟨#[c]⟩ : Str)).map (·.length)).sum = cs.length := by
        clear h1 hR hy
        induction cs with
        | nil => rfl
        | cons c cs ih => simp only [List.map_cons, List.sum_cons, ih, List.length_cons]; show 1 + _ = _; omega
      have e2 : ("" : Str).length = 0 := by decide +kernel
      rw [e1, e2]
      omega
    · rw [TL.join_eq]
      have e := join_signs cs
      refine h _ ?_ ?_
      · rw [← Array.length_toList, e]; omega
      · rw [e]; exact h1
end
/-- a value of any kind, as is_name and its like may be handed -/
def goodV (x : Dt) : Bool := plainD x && (match x with | .str z => decide (z.cps.size < 1000) && PyData.strOk z | _ => true)
theorem goodV_pre {x : Dt} (h : goodV x = true) : plainD x = true ∧ txtOk x := by
  unfold goodV at h
  rw [Bool.and_eq_true] at h
  refine ⟨h.1, fun z e => ?_⟩
  subst e
  have := h.2
  rw [Bool.and_eq_true] at this
  exact ⟨of_decide_eq_true this.1, this.2⟩
theorem strOk_of {z lit : Str} (h : ∀ c ∈ z.cps.toList, c ∈ lit.cps.toList) (hl : PyData.strOk lit = true) : PyData.strOk z = true := by
  unfold PyData.strOk at *
  rw [Array.all_eq_true'] at *
  intro c hc
  exact hl c (by have := h c (by simpa using hc); simpa using this)
theorem all_mem {xs : List Dt} {p : Dt → Bool} (h : xs.all p = true) {x : Dt} (hx : x ∈ xs) : p x = true := List.all_eq_true.mp h x hx
/-! ### calls of the helpers: what is asked, what comes -/
theorem draw_k {n : Int} {R : Dt → Prop} (hn : 0 < n ∧ n < 1073741824) (h : ∀ i : Int, 0 ≤ i → i < n → R (.int i)) : drawPre [.int n] ∧ ∀ d, drawPost [.int n] d → R d :=
  ⟨⟨n, rfl, hn.1, hn.2⟩, fun d ⟨m, i, e, e2, k1, k2⟩ => by cases e; subst e2; exact h i k1 k2⟩
theorem of_k {xs : List Dt} {R : Dt → Prop} (h0 : 0 < xs.length ∧ xs.length ≤ 100000) (h : ∀ d, d ∈ xs → R d) : ofPre [.lst xs] ∧ ∀ d, ofPost [.lst xs] d → R d :=
  ⟨⟨_, rfl, h0.1, h0.2⟩, fun d ⟨y, e, hm⟩ => by cases e; exact h d hm⟩
theorem of_kT {xs : List Dt} {R : Dt → Prop} (h0 : 0 < xs.length ∧ xs.length ≤ 100000) (h : ∀ d, d ∈ xs → R d) : ofPre [.tup xs] ∧ ∀ d, ofPost [.tup xs] d → R d :=
  ⟨⟨_, rfl, h0.1, h0.2⟩, fun d ⟨y, e, hm⟩ => by cases e; exact h d hm⟩
theorem odd_k {xs : List Dt} {R : Dt → Prop} (h0 : xs.length ≤ 1000) (h : ∀ d, d ∈ oddL ++ xs → R d) : oddPre [.lst xs] ∧ ∀ d, oddPost [.lst xs] d → R d :=
  ⟨⟨_, rfl, h0⟩, fun d ⟨y, e, hm⟩ => by cases e; exact h d hm⟩
theorem same_k {n : Nat} {x y : Dt} {R : Dt → Prop} (e : x = y) (hp : y.pureD = true) (hd : y.depth < n) (h : R (.bl true)) : samePre n [x, y] ∧ ∀ d, sameTrue [x, y] d → R d :=
  ⟨⟨y, by rw [e], hp, hd⟩, fun d e => by cases e; exact h⟩
theorem num_k {x : Dt} {l m : Int} {R : Dt → Prop} (hp : plainD x = true) (h : R (.bl (isNum x l m))) : numPre [x, .int l, .int m] ∧ ∀ d, numPost [x, .int l, .int m] d → R d :=
  ⟨⟨_, _, _, rfl, hp⟩, fun d ⟨y, l, m, e, e2⟩ => by cases e; subst e2; exact h⟩
theorem name_k {x : Dt} {R : Dt → Prop} (hp : plainD x = true ∧ txtOk x) (h : R (.bl (isNameD x))) : valPre [x] ∧ ∀ d, namePost [x] d → R d :=
  ⟨⟨_, rfl, hp⟩, fun d ⟨y, e, e2⟩ => by cases e; subst e2; exact h⟩
theorem reg_k {x : Dt} {R : Dt → Prop} (hp : plainD x = true ∧ txtOk x) (h : R (.bl (isRegD x))) : valPre [x] ∧ ∀ d, regPost [x] d → R d :=
  ⟨⟨_, rfl, hp⟩, fun d ⟨y, e, e2⟩ => by cases e; subst e2; exact h⟩
theorem word_k {x : Dt} {R : Dt → Prop} (hp : plainD x = true ∧ txtOk x) (h : R (.bl (isNum x 0 65535))) : valPre [x] ∧ ∀ d, wordPost [x] d → R d :=
  ⟨⟨_, rfl, hp⟩, fun d ⟨y, e, e2⟩ => by cases e; subst e2; exact h⟩
theorem good_str {z lit : Str} {n : Int} (h1 : (z.cps.size : Int) < n) (hn : n ≤ 1000) (h : ∀ c ∈ z.cps.toList, c ∈ lit.cps.toList) (hl : PyData.strOk lit = true) : goodV (.str z) = true := by
  have h2 : z.cps.size < 1000 := by omega
  show (true && (decide (z.cps.size < 1000) && PyData.strOk z)) = true
  rw [decide_eq_true h2, strOk_of h hl]; rfl
theorem good_odd : oddL.all goodV = true := by decide +kernel
end Y
/-! Y7: list(text), dicts, defs with defaults, expressions that change a list of one's own. -/
namespace Y
open PySem L2

/-! ### list(text) -/
def rListS (xs : List V) (H : Hp) (Q : VK) : Prop := ∃ z : Str, xs = [.str z] ∧ z.cps.size ≤ 100000 ∧ ∀ l, H l = none → Q (.ref l) (upd H l (.lst (z.cps.toList.map fun c => V.str ⟨#[c]⟩)))
theorem call_listS {X : Cx} (hc : X.calm = true) : CallR X (.type "list") rListS := by
  intro pins s σ H xs us Q I r h
  obtain ⟨z, rfl, hz, q⟩ := h
  obtain ⟨u, rfl, rx⟩ := vals1 r
  obtain ⟨t, rfl⟩ := rx
  refine call_list_str (I.ok.hd hc) z t (fun h' tk acc c' hk e hi => ?_) (size_of hz)
  refine ⟨.ref s.heap.objs.size, upd H s.heap.objs.size (.lst (z.cps.toList.map fun c => V.str ⟨#[c]⟩)), I.laid hk (Nat.le_refl _) ⟨?_, acc.toList, c', ?_, ?_⟩, rfl, q _ (I.hok.fresh (Nat.le_refl _))⟩
  · rw [List.length_map, Array.length_toList]; exact size_of hz
  · refine vals_of_idx _ _ (by rw [List.length_map, Array.length_toList, Array.length_toList]; exact hi.1) fun j u hj => ?_
    obtain ⟨c, t', hc', rfl⟩ := hi.2 j u (by rw [← Array.getElem?_toList]; exact hj)
    exact ⟨.str ⟨#[c]⟩, by rw [List.getElem?_map, Array.getElem?_toList, hc']; rfl, ⟨_, rfl⟩⟩
  · rw [Array.toArray_toList]; exact e
def rListB (K : PySem.W.Frag) : List V → Hp → VK → Prop := cAlt (rListA K) rListS
theorem call_listB {X : Cx} {K : PySem.W.Frag} (hc : X.calm = true) (hK : X.K = K := by rfl) : CallR X (.type "list") (rListB K) := call_alt (call_listA hK) (call_listS hc)
section
variable {B : Bs} {es : List Sl}
theorem eo_listS {ta : TA} {P : List Dt → Prop} (h : EvA B ta es fun ds => ∃ z : Str, ds = [.str z] ∧ z.cps.size ≤ 100000 ∧ P (signsD z)) : EvO B (tCB (rListB B.K) ta) es P := fun σ F H S Q q => h σ F H S _ fun vs ds F1 H1 g1 r1 ⟨z, e, hz, p1⟩ => by
  subst e
  obtain ⟨v, rfl, r⟩ := rp1 r1
  cases r
  have S1 := S.go g1
  refine .inr ⟨z, rfl, hz, fun p hp => q p _ _ F1 _ (g1.trans (S1.allocO hp)) (g1.new (S1.newB hp) hp) (same_none S1.sub hp) upd_same ?_ p1⟩
  unfold signsD
  generalize z.cps.toList = l
  induction l with
  | nil => exact .nil
  | cons c l ih => exact .cons (.str _) ih
theorem eo_listL {ta : TA} {P : List Dt → Prop} (h : EvA B ta es fun ds => ∃ xs, (ds = [.lst xs] ∨ ds = [.tup xs]) ∧ P xs) : EvO B (tCB (rListB B.K) ta) es P := fun σ F H S Q q => h σ F H S _ fun vs ds F1 H1 g1 r1 ⟨xs, e, p1⟩ => by
  have S1 := S.go g1
  rcases e with rfl | rfl
  · obtain ⟨v, rfl, r⟩ := rp1 r1
    cases r with
    | lst h1 h2 => exact .inl ⟨_, _, rfl, .inl (SqL.of (g1.s2 _ _ h1)), fun p hp => q p _ _ F1 _ (g1.trans (S1.allocO hp)) (g1.new (S1.newB hp) hp) (same_none S1.sub hp) upd_same h2 p1⟩
  · obtain ⟨v, rfl, r⟩ := rp1 r1
    cases r with
    | tup h1 h2 => exact .inl ⟨_, _, rfl, .inr (sqT_mono g1.s2 h1), fun p hp => q p _ _ F1 _ (g1.trans (S1.allocO hp)) (g1.new (S1.newB hp) hp) (same_none S1.sub hp) upd_same h2 p1⟩

/-! ### expressions that change lists of one's own -/
def EvM (B : Bs) (te : TE) (es : List Sl) (P : Dt → List Sl → Prop) : Prop := ∀ σ F H, Stt B es σ F H → ∀ Q : VK,
  (∀ v d es' F' H', Same F F' → Stt B es' σ F' H' → Rp B.K F' v d → P d es' → Q v H') → te σ H Q
theorem Ev.m {te : TE} {P : Dt → List Sl → Prop} (h : Ev B te es fun d => P d es) : EvM B te es P := fun σ F H S Q q => h σ F H S Q fun v d F1 H1 g1 r1 p1 => q v d es F1 H1 g1.s1 (S.go g1) r1 p1
theorem em_op {r : R2} {ta tb : TE} {P : Dt → List Sl → Prop} (h : EvM B ta es fun x e1 => EvM B tb e1 fun y e2 => Op2 B r e2 x y fun d => P d e2) : EvM B (tOp r ta tb) es P := fun σ F H S Q q =>
  h σ F H S _ fun v x e1 F1 H1 s1 S1 r1 p1 => p1 σ F1 H1 S1 _ fun w y e2 F2 H2 s2 S2 r2 p2 => p2 σ F2 H2 v w S2 (r1.mono s2) r2 Q fun u d F3 H3 g3 r3 p3 => q u d e2 F3 H3 ((s1.trans s2).trans g3.s1) (S2.go g3) r3 p3
theorem em_pop {i : Nat} {a : Addr} {xs : List Dt} {te : TE} {P : Dt → List Sl → Prop} (hi : es[i]? = some (.own a xs)) (h : Ev B te es fun y => ∃ j : Int, y = .int j ∧ 0 ≤ j ∧ j < xs.length ∧ j < 100000 ∧ ∀ x, xs[j.toNat]? = some x → P x (es.set i (.own a (xs.eraseIdx j.toNat)))) :
    EvM B (tBM B.K "list" rPopAt (tVar i) (tCons te tNil)) es P := fun σ F H S Q q => by
  obtain ⟨vs, h1, h2, h3, h4⟩ := S.own hi
  refine ⟨_, h1, .inl ⟨rfl, _, SqL.of h3⟩, h σ F H S _ fun w y F1 H1 g1 r1 ⟨j, e, j0, j1, j2, p1⟩ => ?_⟩
  subst e
  cases r1
  have S1 := S.go g1
  obtain ⟨vs', k1, k2, k3, k4⟩ := S1.own hi
  have hj : j.toNat < xs.length := by omega
  have hv : j.toNat < vs'.length := by rw [k4.length]; exact hj
  have ev : vs'[j.toNat]? = some vs'[j.toNat] := by simp [hv]
  obtain ⟨x, hx, rx⟩ := k4.getV ev
  have er : RpAll B.K F1 (vs'.eraseIdx j.toNat) (xs.eraseIdx j.toNat) := by
    rw [List.eraseIdx_eq_take_drop_succ, List.eraseIdx_eq_take_drop_succ]
    exact (k4.take _).app (k4.drop _)
  refine ⟨a, vs', j, j.toNat, vs'[j.toNat], rfl, rfl, k3, by omega, by omega, ?_, ev, q _ _ _ F1 _ g1.s1 (S1.change hi k1 k2 er) rx (p1 x hx)⟩
  have e1 : (if j < 0 then j + (vs'.length : Int) else j) = j := if_neg (by omega)
  have e2 : (decide (0 ≤ j) && decide (j < (vs'.length : Int))) = true := by
    rw [decide_eq_true j0, decide_eq_true (show j < (vs'.length : Int) by omega)]; rfl
  show (if (decide (0 ≤ (if j < 0 then j + (vs'.length : Int) else j)) && decide ((if j < 0 then j + (vs'.length : Int) else j) < (vs'.length : Int))) = true then some (if j < 0 then j + (vs'.length : Int) else j).toNat else none) = some j.toNat
  rw [e1, e2]; rfl
theorem sm_appendM {p : Po} {i : Nat} {te : TE} {a : Addr} {xs : List Dt} (hi : es[i]? = some (.own a xs)) (h : EvM B te es fun d e1 => e1[i]? = some (.own a xs) ∧ xs.length < 100000 ∧ p.nx (e1.set i (.own a (xs ++ [d])))) : Sm B (tDrop (tBM B.K "list" rAppend (tVar i) (tCons te tNil))) es p := fun σ F H D S n _ _ _ _ => by
  obtain ⟨vs, h1, h2, h3, h4⟩ := S.own hi
  refine ⟨_, h1, .inl ⟨rfl, _, SqL.of h3⟩, h σ F H S _ fun v d e1 F1 H1 s1 S1 r1 ⟨hi1, p1, p2⟩ => ?_⟩
  obtain ⟨vs', k1, k2, k3, k4⟩ := S1.own hi1
  exact ⟨a, vs', v, rfl, rfl, k3, size_lt (by rw [k4.length]; exact p1), n _ _ F1 _ (S1.change hi1 h1 k2 (k4.app (.cons r1 .nil))) s1 p2⟩
theorem sm_reverse {p : Po} {i : Nat} {a : Addr} {xs : List Dt} (hi : es[i]? = some (.own a xs)) (h : p.nx (es.set i (.own a xs.reverse))) : Sm B (tDrop (tBM0 B.K "list" rReverse (tVar i))) es p := fun σ F H D S n _ _ _ _ => by
  obtain ⟨vs, h1, h2, h3, h4⟩ := S.own hi
  have er : ∀ {us : List V} {ds : List Dt}, RpAll B.K F us ds → RpAll B.K F us.reverse ds.reverse := by
    intro us ds r
    induction us generalizing ds with
    | nil => cases r; exact .nil
    | cons u us ih =>
      cases r with
      | cons r t =>
        rw [List.reverse_cons, List.reverse_cons]
        exact (ih t).app (.cons r .nil)
  exact ⟨_, h1, .inl ⟨rfl, _, SqL.of h3⟩, a, vs, rfl, rfl, h3, n _ _ F _ (S.change hi h1 h2 (er h4)) (Same.refl F) h⟩

/-! ### a list of one's own within a datum: told by its address, seen as a datum for the time of a call -/
mutual
def Dt.see (a : Addr) (xs : List Dt) : Dt → Dt
  | .ali c => if c = a then .lst xs else .ali c
  | .lst ds => .lst (seeAll a xs ds)
  | .tup ds => .tup (seeAll a xs ds)
  | .non => .non
  | .bl b => .bl b
  | .int i => .int i
  | .str s => .str s
  | .obj C ns ds => .obj C ns (seeAll a xs ds)
  | .dct ks ds => .dct ks (seeAll a xs ds)
def seeAll (a : Addr) (xs : List Dt) : List Dt → List Dt
  | [] => []
  | d :: ds => d.see a xs :: seeAll a xs ds
end
mutual
theorem Rp.see {K : PySem.W.Frag} {F F' : Hp} {a : Addr} {xs : List Dt} (s : Same F F') (h : Rp K F' (.ref a) (.lst xs)) : ∀ {v : V} {d : Dt}, Rp K F v d → Rp K F' v (d.see a xs)
  | _, _, .non => by unfold Dt.see; exact .non
  | _, _, .bl b => by unfold Dt.see; exact .bl b
  | _, _, .int i => by unfold Dt.see; exact .int i
  | _, _, .str x => by unfold Dt.see; exact .str x
  | _, _, .lst h1 r => by unfold Dt.see; exact .lst (s _ _ h1) (RpAll.see s h r)
  | _, _, .tup h1 r => by unfold Dt.see; exact .tup (sqT_mono s h1) (RpAll.see s h r)
  | _, _, .obj h1 h2 h3 r => by unfold Dt.see; exact .obj (s _ _ h1) h2 h3 (RpAll.see s h r)
  | _, _, .dct h1 h2 h3 r => by unfold Dt.see; exact .dct (s _ _ h1) h2 h3 (RpAll.see s h r)
  | _, _, .ali c => by
    unfold Dt.see
    by_cases e : c = a
    · rw [if_pos e, e]; exact h
    · rw [if_neg e]; exact .ali c
theorem RpAll.see {K : PySem.W.Frag} {F F' : Hp} {a : Addr} {xs : List Dt} (s : Same F F') (h : Rp K F' (.ref a) (.lst xs)) : ∀ {vs : List V} {ds : List Dt}, RpAll K F vs ds → RpAll K F' vs (seeAll a xs ds)
  | _, _, .nil => by unfold seeAll; exact .nil
  | _, _, .cons r t => by unfold seeAll; exact .cons (Rp.see s h r) (RpAll.see s h t)
end
theorem ev_varOwn {i : Nat} {a : Addr} {xs : List Dt} {P : Dt → Prop} (hi : es[i]? = some (.own a xs)) (h : P (.ali a)) : Ev B (tVar i) es P := fun σ F H S Q q => by
  obtain ⟨vs, h1, h2, h3, h4⟩ := S.own hi
  exact ⟨_, h1, q _ _ F H S.refl (.ali a) h⟩
def scD : Dt → Bool
  | .non => true | .bl _ => true | .int _ => true | .str _ => true
  | _ => false
theorem rp_sc {K : PySem.W.Frag} {F F' : Hp} {v : V} {d : Dt} (r : Rp K F v d) (h : scD d = true) : Rp K F' v d := by
  cases r <;> first | exact .non | exact .bl _ | exact .int _ | exact .str _ | cases h
/-- a pure def is called with data that tell of the list at slot i -/
theorem ev_callSee {i : Nat} {a : Addr} {xs : List Dt} {Pre : List Dt → Prop} {Post : List Dt → Dt → Prop} {E : XK} {ta : TA} {P : Dt → Prop} (hi : es[i]? = some (.own a xs)) (h : EvA B ta es fun ds => Pre (seeAll a xs ds) ∧ ∀ d, Post (seeAll a xs ds) d → scD d = true ∧ P d) : Ev B (tCall (spD B.K Pre Post) [] E ta) es P := fun σ F H S Q q =>
  h σ F H S _ fun vs ds F1 H1 g1 r1 ⟨p1, p2⟩ => by
    rw [List.append_nil]
    have S1 := S.go g1
    obtain ⟨ws, h1, h2, h3, h4⟩ := S1.own hi
    have s1 : Same F1 (upd F1 a (.lst ws)) := same_upd h2
    have sH : Same (upd F1 a (.lst ws)) H1 := fun c o e => by
      by_cases hc : c = a
      · subst hc; rw [upd_same] at e; rw [h3, e]
      · rw [upd_ne hc] at e; exact S1.sub c o e
    refine ⟨_, _, sH, RpAll.see s1 (.lst upd_same (h4.mono s1)) r1, p1, fun v d F2 H2 s1 s2 s3 s4 r2 p3 => ?_⟩
    obtain ⟨hs, hp⟩ := p2 d p3
    exact q v d F1 H2 (g1.trans (S1.pure (Same.refl F1) (S1.sub.trans s4) (fun _ _ h => h) s4)) (rp_sc r2 hs) hp

/-! ### dicts -/
def getK (ks : List Key) (xs : List Dt) (k : Key) : Option Dt := match ks, xs with
  | a :: ks, x :: xs => if a = k then some x else getK ks xs k
  | _, _ => none
theorem getK_of {K : PySem.W.Frag} {F : Hp} (k : Key) : ∀ {kvs : List (Key × V)} {ds : List Dt}, RpAll K F (kvs.map (·.2)) ds → (∀ d, getK (kvs.map (·.1)) ds k = some d → ∃ v, valV kvs k = some v ∧ Rp K F v d) ∧ (getK (kvs.map (·.1)) ds k = none → valV kvs k = none)
  | [], ds, r => by
    cases r
    exact ⟨(fun d h => nomatch h), fun _ => rfl⟩
  | (a, v) :: kvs, ds, r => by
    cases r with
    | cons r1 r2 =>
      have ih := getK_of k r2
      unfold valV
      show (∀ d, (if a = k then some _ else getK _ _ k) = some d → _) ∧ ((if a = k then some _ else getK _ _ k) = none → _)
      by_cases h : a = k
      · rw [if_pos h]
        refine ⟨fun d e => ?_, fun e => nomatch e⟩
        cases e
        exact ⟨v, by simp [h], r1⟩
      · rw [if_neg h]
        refine ⟨fun d e => ?_, fun e => ?_⟩
        · obtain ⟨u, h1, h2⟩ := ih.1 d e
          refine ⟨u, ?_, h2⟩
          unfold valV at h1
          simpa [List.find?_cons, h] using h1
        · have := ih.2 e
          unfold valV at this
          simpa [List.find?_cons, h] using this
/-- a written dict with text keys -/
def KDic (K : PySem.W.Frag) (w : World) (d : Addr) (kvs : List (Str × V)) : Prop := ∃ es n, K.lookup d = some ⟨.type "dict", none, .dict es n, #[]⟩ ∧ PySem.W.KeysLit w.params es.toList ∧ (d == sysModules) = false ∧ Paired (fun (p : Str × V) (e : DictEntry) => (∃ t, e.key = .str p.1 t) ∧ RelV p.2 e.val) kvs es.toList
theorem KDic.ns {K : PySem.W.Frag} {w : World} {d : Addr} {kvs : List (Str × V)} (h : KDic K w d kvs) (z : Str) : ∃ r, PySem.W.nsIn K d z = some r ∧ RelO (kvs.lookup z) r := by
  obtain ⟨es, n, h1, _, _, h2⟩ := h
  unfold PySem.W.nsIn
  rw [h1]
  show ∃ r, (match es.toList.find? (·.key.isStr z) with | some e => some (some e.val) | none => if es.toList.any (·.refKey) then none else some none) = some r ∧ _
  generalize es.toList = l at h2
  have nr : l.any (·.refKey) = false := by
    clear h1
    induction h2 with
    | nil => rfl
    | cons r _ ih =>
      obtain ⟨⟨t, e⟩, _⟩ := r
      rw [List.any_cons, ih]
      unfold DictEntry.refKey
      rw [e]; rfl
  rw [nr]
  clear h1 nr
  induction h2 with
  | nil => exact ⟨none, rfl, trivial⟩
  | @cons p e kvs l r _ ih =>
    obtain ⟨⟨t, hk⟩, rv⟩ := r
    obtain ⟨x, v⟩ := p
    have e1 : e.key.isStr z = (x == z) := by rw [hk]; rfl
    rw [List.find?_cons, e1]
    by_cases h : x = z
    · subst h
      refine ⟨some e.val, by simp, ?_⟩
      show RelO (List.lookup x ((x, v) :: kvs)) _
      rw [List.lookup_cons]
      simp
      exact rv
    · have h2 : (x == z) = false := by simpa using h
      have h3 : (z == x) = false := by simpa using fun q => h q.symm
      rw [h2]
      show ∃ r, _ = some r ∧ RelO (List.lookup z ((x, v) :: kvs)) r
      rw [List.lookup_cons, h3]
      exact ih
end
end Y
/-! Y8: written dicts read, dicts displayed, defs with defaults. -/
namespace Y
open PySem L2
/-! ### written dicts -/
def rInKD (K : PySem.W.Frag) (w : World) : R2 := fun x y H Q => ∃ z d kvs, x = .str z ∧ y = .ref d ∧ KDic K w d kvs ∧ Q (.bl (kvs.lookup z).isSome) H
def rNiKD (K : PySem.W.Frag) (w : World) : R2 := fun x y H Q => ∃ z d kvs, x = .str z ∧ y = .ref d ∧ KDic K w d kvs ∧ Q (.bl (!(kvs.lookup z).isSome)) H
section
variable {X : Cx} {K : PySem.W.Frag} {w : World}
theorem KDic.kd {K : PySem.W.Frag} {w : World} {d : Addr} {kvs : List (Str × V)} (h : KDic K w d kvs) : ∃ es n, KDict K w d es n := by
  obtain ⟨es, n, h1, h2, h3, _⟩ := h
  exact ⟨es, n, h1, h2, h3⟩
theorem op_inKD (hK : X.K = K := by rfl) (hw : X.w = w := by rfl) : OpR X (compareOp .In) (rInKD K w) := by
  subst hK hw
  intro pins s σ H x y u v Q I rx ry h
  obtain ⟨z, d, kvs, rfl, rfl, D, q⟩ := h
  obtain ⟨es, n, D1⟩ := D.kd
  obtain ⟨r, h1, h2⟩ := D.ns z
  refine op_in_kd D1 pins s σ H _ _ u v Q I rx ry ⟨z, r, rfl, rfl, h1, ?_⟩
  rw [← h2.isSome_eq]
  exact q
theorem op_niKD (hK : X.K = K := by rfl) (hw : X.w = w := by rfl) : OpR X (compareOp .NotIn) (rNiKD K w) := by
  subst hK hw
  intro pins s σ H x y u v Q I rx ry h
  obtain ⟨z, d, kvs, rfl, rfl, D, q⟩ := h
  obtain ⟨es, n, D1⟩ := D.kd
  obtain ⟨r, h1, h2⟩ := D.ns z
  refine op_notIn_kd D1 pins s σ H _ _ u v Q I rx ry ⟨z, r, rfl, rfl, h1, ?_⟩
  rw [← h2.isSome_eq]
  exact q
theorem ix_kd (hK : X.K = K := by rfl) (hw : X.w = w := by rfl) : IxR X (rIxD K w) := by
  subst hK hw
  exact ix_kdict
end
section
variable {B : Bs} {es : List Sl} {w : World}
theorem ev_inKD {d : Addr} {kvs : List (Str × V)} {ta : TE} {P : Dt → Prop} (D : KDic B.K w d kvs) (h : Ev B ta es fun x => ∃ z, x = .str z ∧ P (.bl (kvs.lookup z).isSome)) : Ev B (tOp (rInKD B.K w) ta (tC (.ref d))) es P := fun σ F H S Q q =>
  h σ F H S _ fun v x F1 H1 g1 r1 ⟨z, e, p1⟩ => by
    subst e; cases r1
    exact ⟨z, d, kvs, rfl, rfl, D, q _ _ F1 H1 g1 (.bl _) p1⟩
theorem ev_niKD {d : Addr} {kvs : List (Str × V)} {ta : TE} {P : Dt → Prop} (D : KDic B.K w d kvs) (h : Ev B ta es fun x => ∃ z, x = .str z ∧ P (.bl (!(kvs.lookup z).isSome))) : Ev B (tOp (rNiKD B.K w) ta (tC (.ref d))) es P := fun σ F H S Q q =>
  h σ F H S _ fun v x F1 H1 g1 r1 ⟨z, e, p1⟩ => by
    subst e; cases r1
    exact ⟨z, d, kvs, rfl, rfl, D, q _ _ F1 H1 g1 (.bl _) p1⟩
/-- the datum of a scalar value -/
def vD : V → Dt
  | .non => .non
  | .bl b => .bl b
  | .int i => .int i
  | .str s => .str s
  | _ => .non
def scV : V → Bool
  | .non => true | .bl _ => true | .int _ => true | .str _ => true
  | _ => false
theorem rp_vD {K : PySem.W.Frag} {F : Hp} {v : V} (h : scV v = true) : Rp K F v (vD v) := by
  cases v <;> first | exact .non | exact .bl _ | exact .int _ | exact .str _ | cases h
theorem ev_ixKD {d : Addr} {kvs : List (Str × V)} {tb : TE} {P : Dt → Prop} (D : KDic B.K w d kvs) (h : Ev B tb es fun y => ∃ z, y = .str z ∧ ∃ v, kvs.lookup z = some v ∧ scV v = true ∧ P (vD v)) : Ev B (tOp (rIxD B.K w) (tC (.ref d)) tb) es P := fun σ F H S Q q =>
  h σ F H S _ fun v x F1 H1 g1 r1 ⟨z, e, v0, hv, hs, p1⟩ => by
    subst e; cases r1
    obtain ⟨r, h1, h2⟩ := D.ns z
    rw [hv] at h2
    cases r with
    | none => exact (show False from h2).elim
    | some u =>
      obtain ⟨es, n, k1, k2, _, _⟩ := D
      exact ⟨d, z, v0, rfl, rfl, ⟨es, n, u, k1, k2, h1, h2⟩, q _ _ F1 H1 g1 (rp_vD hs) p1⟩

/-! ### dicts displayed and asked -/
def kD : Key → Dt
  | .inl i => .int i
  | .inr x => .str x
theorem rp_kD {K : PySem.W.Frag} {F : Hp} {v : V} {k : Key} (r : Rp K F v (kD k)) : v = kV k := by
  cases k <;> cases r <;> rfl
def EvPs (B : Bs) (trs : List (TE × TE)) (es : List Sl) (P : List Key → List Dt → Prop) : Prop := ∀ σ F H, Stt B es σ F H → ∀ Q : List (V × V) → Hp → Prop,
  (∀ ks ps ds F' H', Go B F H F' H' → RpAll B.K F' (ps.map (·.2)) ds → ps.map (·.1) = ks.map kV → P ks ds → Q ps H') → tPairs trs σ H Q
theorem eps_nil {P : List Key → List Dt → Prop} (h : P [] []) : EvPs B [] es P := fun σ F H S Q q => q [] [] [] F H S.refl .nil rfl h
theorem eps_cons {tk tv : TE} {r : List (TE × TE)} {P : List Key → List Dt → Prop} (h : Ev B tk es fun x => ∃ k, x = kD k ∧ Ev B tv es fun y => EvPs B r es fun ks ds => P (k :: ks) (y :: ds)) : EvPs B ((tk, tv) :: r) es P := fun σ F H S Q q =>
  h σ F H S _ fun v x F1 H1 g1 r1 ⟨k, e, p1⟩ => p1 σ F1 H1 (S.go g1) _ fun u y F2 H2 g2 r2 p2 => p2 σ F2 H2 ((S.go g1).go g2) _ fun ks ps ds F3 H3 g3 r3 e3 p3 => by
    subst e
    refine q (k :: ks) ((v, u) :: ps) (y :: ds) F3 H3 ((g1.trans g2).trans g3) (.cons (r2.mono g3.s1) r3) ?_ p3
    rw [List.map_cons, List.map_cons, e3, rp_kD r1]
theorem merge_nodup {kvs : List (Key × V)} (h : (kvs.map (·.1)).Nodup) : mergeK [] kvs = kvs := by
  have key : ∀ (more acc : List (Key × V)), ((acc ++ more).map (·.1)).Nodup → mergeK acc more = acc ++ more := by
    intro more
    induction more with
    | nil => intro acc _; simp [mergeK]
    | cons p more ih =>
      intro acc hn
      have hv : valV acc p.1 = none := by
        cases e : valV acc p.1 with
        | none => rfl
        | some v =>
          have hm : p.1 ∈ acc.map (·.1) := valV_in (by rw [e])
          rw [List.map_append, List.map_cons] at hn
          have := List.nodup_append.mp hn
          exact absurd rfl (this.2.2 p.1 hm p.1 (List.mem_cons_self ..))
      show mergeK (putK acc p.1 p.2) more = _
      rw [putK_new _ hv, ih]
      · simp
      · simpa using hn
  simpa using key kvs [] (by simpa using h)
theorem zip_back : ∀ (ps : List (V × V)) (ks : List Key), ps.map (·.1) = ks.map kV → ks.length = ps.length → ps = (ks.zip (ps.map (·.2))).map fun kv => (kV kv.1, kv.2)
  | [], [], _, _ => rfl
  | [], _ :: _, _, h => by simp at h
  | _ :: _, [], _, h => by simp at h
  | a :: ps, k :: ks, e, h => by
    simp only [List.map_cons, List.cons.injEq] at e
    simp only [List.map_cons, List.zip_cons_cons, List.cons.injEq]
    exact ⟨by rw [← e.1], zip_back ps ks e.2 (by simpa using h)⟩
/-- a, b = [..], [..]: two new lists of one's own -/
theorem sm_parOO {p : Po} {i j : Nat} {t1 t2 : TE} (hij : i ≠ j) (hj : ∀ a xs, es[j]? ≠ some (.own a xs)) (hi : ∀ a xs, es[i]? ≠ some (.own a xs)) (h : EvO B t1 es fun xs => EvO B t2 es fun ys => ∀ a b, a ≠ b → p.nx ((es.set i (.own a xs)).set j (.own b ys))) : Sm B (tPar i j (tCons t1 (tCons t2 tNil))) es p := fun σ F H D S n _ _ _ _ =>
  h σ F H S _ fun a vs xs F1 H1 g1 a0 a1 a2 r1 p1 => p1 σ F1 H1 (S.go g1) _ fun b ws ys F2 H2 g2 b0 b1 b2 r2 p2 => by
    have S2 := (S.go g1).go g2
    have hab : a ≠ b := ne_of_none a2 b0
    have ha2 : H2 a = some (.lst vs) := g2.kp a _ (S.newB a0) a2
    have hF2 : F2 a = none := g2.nw a (by rw [a2]; simp) a1
    have S3 := S2.setO (i := i) hF2 ha2 (r1.mono g2.s1) (S.new0 a0) (S.newB a0) fun k c zs hk => S.newS a0 k zs hk
    have S4 := S3.setO (i := j) b1 b2 r2 ((S.go g1).new0 b0) ((S.go g1).newB b0) fun k c zs hk => by
      by_cases e : i = k
      · subst e
        have l1 : i < es.length := by
          have := (List.getElem?_eq_some_iff.mp hk).1
          rwa [List.length_set] at this
        rw [List.getElem?_set_self l1] at hk
        cases hk
        exact hab
      · rw [List.getElem?_set_ne e] at hk
        exact (S.go g1).newS b0 k zs hk
    exact ⟨.ref a, .ref b, rfl, n _ _ F2 H2 S4 (g1.s1.trans g2.s1) (p2 a b hab)⟩
theorem ev_disp {trs : List (TE × TE)} {P : Dt → Prop} (h : EvPs B trs es fun ks ds => ks.Nodup ∧ ks.length ≤ 15 ∧ P (.dct ks ds)) : Ev B (tDisp trs) es P := fun σ F H S Q q p hp => by
  have gD := S.allocO (o := .dK []) hp
  have S1 := S.go gD
  have hb := S.newB hp
  refine h σ F _ S1 _ fun ks ps ds F2 H2 g2 r2 e2 ⟨hn, hl, p2⟩ => ?_
  have h2 : H2 p = some (.dK []) := g2.kp p _ hb upd_same
  have hF2 : F2 p = none := g2.nw p (by rw [upd_same]; simp) (same_none S.sub hp)
  have lk : ks.length = ps.length := by
    have := congrArg List.length e2
    simpa using this.symm
  have e3 : ps = (ks.zip (ps.map (·.2))).map fun kv => (kV kv.1, kv.2) := zip_back ps ks e2 lk
  have k1 : (ks.zip (ps.map (·.2))).map (·.1) = ks := by rw [List.map_fst_zip]; rw [List.length_map]; omega
  have k2 : (ks.zip (ps.map (·.2))).map (·.2) = ps.map (·.2) := by rw [List.map_snd_zip]; rw [List.length_map]; omega
  refine ⟨h2, ks.zip (ps.map (·.2)), e3, by rw [List.length_zip, List.length_map]; omega, ?_⟩
  rw [merge_nodup (by rw [k1]; exact hn)]
  refine q (.ref p) (.dct ks ds) (upd F2 p (.dK (ks.zip (ps.map (·.2))))) _ ?_ (.dct upd_same k1 k2 (r2.mono (same_upd hF2))) p2
  refine ⟨g2.s1.trans (same_upd hF2), same_updF g2.s2, fun c h1 h2 => ?_, fun c o h1 h2 => ?_, fun b hb' => ?_⟩
  · have hc : c ≠ p := fun e => h1 (by rw [e]; exact hp)
    rw [upd_ne hc]
    exact g2.nw c (by rw [upd_ne hc]; exact h1) h2
  · have hc : c ≠ p := ne_of_none h2 hp
    rw [upd_ne hc]
    exact g2.kp c o h1 (by rw [upd_ne hc]; exact h2)
  · obtain ⟨k1, z, zs, k2, k3, k4⟩ := g2.bg b hb'
    have hbp : b ≠ p := fun e => hb (by rw [hb', e])
    exact ⟨by rw [upd_ne hbp]; exact k1, z, zs, by rw [upd_ne hbp]; exact k2, k3.mono (same_upd hF2), k4⟩
/-- d.get(k, x) -/
theorem ev_get2 {td ty tx : TE} {P : Dt → Prop} (h : Ev B td es fun x => ∃ ks xs, x = .dct ks xs ∧ Ev B ty es fun y => ∃ k, y = kD k ∧ Ev B tx es fun z => P ((getK ks xs k).getD z)) : Ev B (tDGet2 td ty tx) es P := fun σ F H S Q q =>
  h σ F H S _ fun v x F1 H1 g1 r1 ⟨ks, xs, e, p1⟩ => by
    subst e
    cases r1 with
    | dct h1 h2 h3 h4 =>
      refine ⟨_, rfl, .inl ⟨_, .inl (g1.s2 _ _ h1)⟩, p1 σ F1 H1 (S.go g1) _ fun u y F2 H2 g2 r2 ⟨k, e2, p2⟩ => p2 σ F2 H2 ((S.go g1).go g2) _ fun t z F3 H3 g3 r3 p3 => ?_⟩
      subst e2
      have ek := rp_kD r2
      subst ek
      subst h2 h3
      have h5 := getK_of k (h4.mono (g2.s1.trans g3.s1))
      refine ⟨_, DGet.k (k := k) (g3.s2 _ _ ((g2.s1.trans g3.s1) _ _ h1)), ?_⟩
      cases e : getK _ xs k with
      | none =>
        rw [h5.2 e]
        rw [e] at p3
        exact q _ _ F3 H3 ((g1.trans g2).trans g3) r3 p3
      | some d =>
        obtain ⟨v', k1, k2⟩ := h5.1 d e
        rw [k1]
        rw [e] at p3
        exact q _ _ F3 H3 ((g1.trans g2).trans g3) k2 p3
end
/-! ### defs with defaults -/
section
variable {P : Program} {w : World} {K : PySem.W.Frag} {mg : Str → Option Value} {base : Heap} {x qual : Str} {pa : Arguments} {bd : List Stmt} {sc : Scope} {dvs : List V} {kws : List (Str × V)} {f : Addr} {fd : FuncData} {N ps : List Str} {k : Nat} {Pre : List Dt → Prop} {Post : List Dt → Dt → Prop} {PostO : List Dt → List Dt → Prop}
theorem fn_dataD (G : FunD K x qual pa bd sc dvs kws f fd) (S : FnScope N ps sc) (hl : ∀ ds, Pre ds → ds.length = ps.length)
    (hb : ∀ (cdv : Value) (A : Around) (outer : List Env) (s : Shared) (H : Hp) (E : XK), Room k (A.deeper (PyProof.Rows.envOfC qual sc s.heap.objs.size f cdv)) →
      ∃ t, PSs (cxOf CX0 P w K mg base N qual sc f cdv A outer s H E).nox bd t ∧ ∀ F0 H0 ds, Pre ds → Sm ⟨K, F0, H0, none⟩ t (env0 N ds) { nx := fun _ => Post ds .non, bk := fun _ => False, ct := fun _ => False, rt := fun _ => Post ds }) :
    FnOk P w K mg base CX0 (k + 1) f fd ps (spD K Pre Post) := by
  refine G.ok S (fun vs H Q E h => ?_) (fun cdv A outer s H vs Q E hr h => ?_)
  · obtain ⟨F, ds, _, r, hp, _⟩ := h
    rw [r.length]; exact hl ds hp
  · obtain ⟨F, ds, hs, r, hp, q⟩ := h
    obtain ⟨t, hd, hm⟩ := hb cdv A outer s H E hr
    refine ⟨t, hd.nox, hm F H ds hp _ F H _ (start_stt hs r (fun _ z => nomatch z)) (fun es' σ' F' H' S' s' p => ?_) (fun _ _ _ _ _ _ z => z.elim) (fun _ _ _ _ _ _ z => z.elim) (fun v d es' σ' F' H' S' s' rv p => ?_) (fun _ _ _ _ _ _ _ _ _ _ _ _ _ _ z => z.elim)⟩
    · exact q _ _ F' H' s' S'.ou S'.sub (fun c o e => S'.fr c o e (fun z => nomatch z)) .non p
    · exact q _ _ F' H' s' S'.ou S'.sub (fun c o e => S'.fr c o e (fun z => nomatch z)) rv p
theorem fn_ownD (G : FunD K x qual pa bd sc dvs kws f fd) (S : FnScope N ps sc) (hl : ∀ ds, Pre ds → ds.length = ps.length)
    (hb : ∀ (cdv : Value) (A : Around) (outer : List Env) (s : Shared) (H : Hp) (E : XK), Room k (A.deeper (PyProof.Rows.envOfC qual sc s.heap.objs.size f cdv)) →
      ∃ t, PSs (cxOf CX0 P w K mg base N qual sc f cdv A outer s H E).nox bd t ∧ ∀ F0 H0 ds, Pre ds → Sm ⟨K, F0, H0, none⟩ t (env0 N ds) { nx := fun _ => False, bk := fun _ => False, ct := fun _ => False, rt := fun _ _ => False, ro := PostO ds }) :
    FnOk P w K mg base CX0 (k + 1) f fd ps (spO K Pre PostO) := by
  refine G.ok S (fun vs H Q E h => ?_) (fun cdv A outer s H vs Q E hr h => ?_)
  · obtain ⟨F, ds, _, r, hp, _⟩ := h
    rw [r.length]; exact hl ds hp
  · obtain ⟨F, ds, hs, r, hp, q⟩ := h
    obtain ⟨t, hd, hm⟩ := hb cdv A outer s H E hr
    refine ⟨t, hd.nox, hm F H ds hp _ F H _ (start_stt hs r (fun _ z => nomatch z)) (fun _ _ _ _ _ _ z => z.elim) (fun _ _ _ _ _ _ z => z.elim) (fun _ _ _ _ _ _ z => z.elim) (fun _ _ _ _ _ _ _ _ _ z => z.elim) (fun a vs xs es' σ' F' H' S' s' h1 h2 r1 h3 h4 p => ?_)⟩
    exact q a vs xs F' H' s' S'.ou S'.sub (fun c o e => S'.fr c o e (fun z => nomatch z)) h3 h1 h2 r1 p
/-- a keyword call of a def with positional defaults: g puts values, defaults and keywords in order -/
theorem kb_dfl (G : FunD K x qual pa bd sc dvs kws f fd) (n : Nat) (ks : List Str) (g : {α : Type} → List α → List α → List α → List α) (hd : dvs ≠ [])
    (hrel : ∀ {fv : List V} {fu : List Value} {vs zs : List V} {us ws : List Value}, Vals fv fu → Vals vs us → Vals zs ws → Vals (g fv vs zs) (g fu us ws))
    (h : ∀ (T : Addr) (kV doc pm : Value) (an : Option Addr) (cdv ct : Value) (us its ws : List Value), us.length = n → its.length = dvs.length → ws.length = ks.length →
      ∃ k, bindArgs (PySem.W.fnOf x qual pa bd sc (.ref T) kV doc pm an cdv ct) ⟨us, ks.zip ws⟩ = seqItems? (.ref T) >>= k ∧ k (some its.toArray) = pure (ps.zip (g its us ws))) :
    ∃ fu : List Value, Vals dvs fu ∧ KBn K fd ps n ks (fun us ws => g fu us ws) (fun vs zs => g dvs vs zs) := by
  obtain ⟨oc, od, dV, kV, doc, pm, an, cdv, ct, osl, rfl, lk, hcd, hD, hK⟩ := G.ex
  rcases hD with ⟨e, _⟩ | ⟨_, T, o, its, m, rfl, lT, oT, rT⟩
  · exact absurd e hd
  · refine ⟨its, rT, ⟨fun s us ws X l1 l2 => ?_, fun r1 r2 => hrel rT r1 r2⟩⟩
    obtain ⟨k, e1, e2⟩ := h T kV doc pm an cdv ct us its ws l1 rT.length.symm l2
    refine BindsTo.of_looks fun M => ?_
    rw [e1]
    exact looks_items X lT oT (.of_pure e2)
end
end Y
/-! Y9: rows as data; what the helpers that draw rows promise. -/
namespace Y
open PySem L2
/-! ### rows -/
def fitsB (k : Nat) (x : Dt) : Bool := if k = 114 then isRegD x else if k = 110 then isNameD x else if k = 119 then isNum x 0 65535 else if k = 100 then isNum x 0 15 else isNum x 1 120
def formB : List Nat → List Dt → Bool
  | [], [] => true
  | k :: ks, x :: xs => fitsB k x && formB ks xs
  | _, _ => false
def codeForms : List (Str × Str) := [("put", "rw"), ("name", "rn"), ("add", "rr"), ("take", "rr"), ("load", "rrd"), ("store", "rrd"), ("jump", "n"), ("ifzero", "rn"), ("call", "n"), ("callby", "r"), ("back", ""), ("out", "r"), ("halt", ""), ("room", "k")]
def dataForms : List (Str × Str) := [("word", "w"), ("address", "n"), ("room", "k")]
def rowBy (fs : List (Str × Str)) (d : Dt) : Bool := match d with
  | .tup (.str w :: rest) => (match fs.lookup w with
    | some f => formB f.cps.toList rest
    | none => false)
  | _ => false
abbrev codeRow (d : Dt) : Bool := rowBy codeForms d
abbrev dataRow (d : Dt) : Bool := rowBy dataForms d
theorem rowBy_of {fs : List (Str × Str)} {w : Str} {rest : List Dt} {ks : List Nat} (h0 : (fs.lookup w).map (fun f => f.cps.toList) = some ks) (hf : formB ks rest = true) : rowBy fs (.tup (.str w :: rest)) = true := by
  obtain ⟨f, h, hk⟩ := Option.map_eq_some_iff.mp h0
  show (match fs.lookup w with | some f => formB f.cps.toList rest | none => false) = true
  rw [h]
  show formB f.cps.toList rest = true
  rw [hk]; exact hf
theorem rowBy_inv {fs : List (Str × Str)} {d : Dt} (h : rowBy fs d = true) : ∃ w f rest, d = .tup (.str w :: rest) ∧ fs.lookup w = some f ∧ formB f.cps.toList rest = true := by
  unfold rowBy at h
  split at h
  · rename_i w rest
    cases e : fs.lookup w with
    | none => rw [e] at h; cases h
    | some f => rw [e] at h; exact ⟨w, f, rest, rfl, e, h⟩
  · cases h
/-- what the sizes of rows ask -/
def RowW (d : Dt) : Prop := ∃ w rest, d = .tup (.str w :: rest) ∧ (w = "room" → ∃ k : Int, rest = [.int k])
theorem formB_k {rest : List Dt} (h : formB [107] rest = true) : ∃ k : Int, rest = [.int k] ∧ 1 ≤ k ∧ k ≤ 120 := by
  cases rest with
  | nil => cases h
  | cons x xs =>
    cases xs with
    | cons y ys =>
      have h : (fitsB 107 x && false) = true := h
      rw [Bool.and_false] at h; cases h
    | nil =>
      have h : (fitsB 107 x && true) = true := h
      rw [Bool.and_true] at h
      have h : isNum x 1 120 = true := h
      cases x with
      | int i =>
        have h : (decide ((1 : Int) ≤ i) && decide (i ≤ 120)) = true := h
        rw [Bool.and_eq_true] at h
        exact ⟨i, rfl, of_decide_eq_true h.1, of_decide_eq_true h.2⟩
      | _ => cases h
theorem rowW_code {d : Dt} (h : codeRow d = true) : RowW d := by
  obtain ⟨w, f, rest, rfl, h1, h2⟩ := rowBy_inv h
  refine ⟨w, rest, rfl, fun e => ?_⟩
  subst e
  have e1 : codeForms.lookup ("room" : Str) = some ("k" : Str) := by decide +kernel
  rw [e1] at h1
  cases h1
  have e2 : ("k" : Str).cps.toList = [107] := by decide +kernel
  rw [e2] at h2
  obtain ⟨k, e, _⟩ := formB_k h2
  exact ⟨k, e⟩
theorem rowW_data {d : Dt} (h : dataRow d = true) : RowW d := by
  obtain ⟨w, f, rest, rfl, h1, h2⟩ := rowBy_inv h
  refine ⟨w, rest, rfl, fun e => ?_⟩
  subst e
  have e1 : dataForms.lookup ("room" : Str) = some ("k" : Str) := by decide +kernel
  rw [e1] at h1
  cases h1
  have e2 : ("k" : Str).cps.toList = [107] := by decide +kernel
  rw [e2] at h2
  obtain ⟨k, e, _⟩ := formB_k h2
  exact ⟨k, e⟩
theorem fit_r {x : Dt} (h : isRegD x = true) : fitsB 114 x = true := h
theorem fit_n {x : Dt} (h : isNameD x = true) : fitsB 110 x = true := h
theorem fit_w {i : Int} (h : 0 ≤ i ∧ i ≤ 65535) : fitsB 119 (.int i) = true := by
  show (decide (_ ≤ _) && decide (_ ≤ _)) = true
  rw [decide_eq_true h.1, decide_eq_true h.2]; rfl
theorem fit_d {i : Int} (h : 0 ≤ i ∧ i ≤ 15) : fitsB 100 (.int i) = true := by
  show (decide (_ ≤ _) && decide (_ ≤ _)) = true
  rw [decide_eq_true h.1, decide_eq_true h.2]; rfl
theorem fit_k {i : Int} (h : 1 ≤ i ∧ i ≤ 120) : fitsB 107 (.int i) = true := by
  show (decide (_ ≤ _) && decide (_ ≤ _)) = true
  rw [decide_eq_true h.1, decide_eq_true h.2]; rfl
theorem form0 : formB [] [] = true := rfl
theorem form1 {a : Nat} {x : Dt} (h : fitsB a x = true) : formB [a] [x] = true := by
  show (fitsB a x && true) = true
  rw [h]; rfl
theorem form2 {a b : Nat} {x y : Dt} (h : fitsB a x = true) (h2 : fitsB b y = true) : formB [a, b] [x, y] = true := by
  show (fitsB a x && (fitsB b y && true)) = true
  rw [h, h2]; rfl
theorem form3 {a b c : Nat} {x y z : Dt} (h : fitsB a x = true) (h2 : fitsB b y = true) (h3 : fitsB c z = true) : formB [a, b, c] [x, y, z] = true := by
  show (fitsB a x && (fitsB b y && (fitsB c z && true))) = true
  rw [h, h2, h3]; rfl
/-! ### drawn names -/
def titlesPre (ds : List Dt) : Prop := ∃ m : Int, ds = [.int m] ∧ 0 ≤ m ∧ m ≤ 26
def titlesPost (ds : List Dt) (d : Dt) : Prop := ∃ (m : Int) (ss : List Str), ds = [.int m] ∧ d = .lst (ss.map Dt.str) ∧ (ss.length : Int) = m ∧ (∀ s ∈ ss, isNameD (.str s) = true) ∧ ss.Nodup
def NamesD (d : Dt) : Prop := ∃ ss : List Str, d = .lst (ss.map Dt.str) ∧ 0 < ss.length ∧ ss.length ≤ 1000 ∧ ∀ s ∈ ss, isNameD (.str s) = true
theorem titles_k {m : Int} {R : Dt → Prop} (hm : 0 ≤ m ∧ m ≤ 26) (h : ∀ ss : List Str, (ss.length : Int) = m → (∀ s ∈ ss, isNameD (.str s) = true) → ss.Nodup → R (.lst (ss.map Dt.str))) : titlesPre [.int m] ∧ ∀ d, titlesPost [.int m] d → R d :=
  ⟨⟨m, rfl, hm⟩, fun d ⟨m', ss, e, e2, h1, h2, h3⟩ => by cases e; subst e2; exact h ss h1 h2 h3⟩
def nilPre (ds : List Dt) : Prop := ds = []
def numberPost (_ : List Dt) (d : Dt) : Prop := ∃ i : Int, d = .int i ∧ 0 ≤ i ∧ i ≤ 65535
def rPost (_ : List Dt) (d : Dt) : Prop := isRegD d = true
theorem number_k {R : Dt → Prop} (h : ∀ i : Int, 0 ≤ i → i ≤ 65535 → R (.int i)) : nilPre [] ∧ ∀ d, numberPost [] d → R d := ⟨rfl, fun d ⟨i, e, h1, h2⟩ => by subst e; exact h i h1 h2⟩
theorem r_k {R : Dt → Prop} (h : ∀ d, isRegD d = true → R d) : nilPre [] ∧ ∀ d, rPost [] d → R d := ⟨rfl, fun d e => h d e⟩
def namesPre (ds : List Dt) : Prop := ∃ t, ds = [t] ∧ NamesD t
def codeRowPost (_ : List Dt) (d : Dt) : Prop := codeRow d = true
def dataRowPost (_ : List Dt) (d : Dt) : Prop := dataRow d = true
theorem code_k {t : Dt} {R : Dt → Prop} (ht : NamesD t) (h : ∀ d, codeRow d = true → R d) : namesPre [t] ∧ ∀ d, codeRowPost [t] d → R d := ⟨⟨t, rfl, ht⟩, fun d e => h d e⟩
theorem data_k {t : Dt} {R : Dt → Prop} (ht : NamesD t) (h : ∀ d, dataRow d = true → R d) : namesPre [t] ∧ ∀ d, dataRowPost [t] d → R d := ⟨⟨t, rfl, ht⟩, fun d e => h d e⟩
/-- one of the names -/
theorem of_names {t : Dt} {R : Dt → Prop} (ht : NamesD t) (h : ∀ d, isNameD d = true → R d) : ofPre [t] ∧ ∀ d, ofPost [t] d → R d := by
  obtain ⟨ss, rfl, h0, h1, h2⟩ := ht
  refine of_k ⟨by simpa using h0, by simp; omega⟩ fun d hd => ?_
  obtain ⟨s, hs, rfl⟩ := List.mem_map.mp hd
  exact h _ (h2 s hs)
/-- one of some written things -/
theorem of_all {xs : List Dt} {p : Dt → Bool} {R : Dt → Prop} (h0 : 0 < xs.length ∧ xs.length ≤ 100000) (hp : xs.all p = true) (h : ∀ d, p d = true → R d) : ofPre [.lst xs] ∧ ∀ d, ofPost [.lst xs] d → R d :=
  of_k h0 fun d hd => h d (all_mem hp hd)
/-- a text cut in two with a sign between is a name -/
theorem isName_mk {z : Str} (h1 : 1 ≤ z.cps.size) (h2 : z.cps.size ≤ 6) (h : ∀ c ∈ z.cps.toList, c ∈ letters) : isNameD (.str z) = true := by
  show (decide ((1 : Int) ≤ (z.cps.size : Int)) && (decide ((z.cps.size : Int) ≤ 6) && z.cps.toList.all fun c => decide (c ∈ letters))) = true
  rw [decide_eq_true (by omega), decide_eq_true (by omega), Bool.true_and, Bool.true_and, List.all_eq_true]
  intro c hc
  exact decide_eq_true (h c hc)
theorem cut_app (z : Str) (n : Nat) (h : n ≤ z.cps.size) : (cutS z none (some (n : Int))).cps.toList = z.cps.toList.take n ∧ (cutS z (some (n : Int)) none).cps.toList = z.cps.toList.drop n := by
  have e0 : z.length = z.cps.size := rfl
  have e1 : HT.sIx z.length z.length (some (n : Int)) = n := by
    show (if (n : Int) < 0 then ((n : Int) + (z.length : Int)).toNat else min (n : Int).toNat z.length) = n
    rw [if_neg (by omega)]; omega
  have e2 : HT.sIx z.length 0 (some (n : Int)) = n := by
    show (if (n : Int) < 0 then ((n : Int) + (z.length : Int)).toNat else min (n : Int).toNat z.length) = n
    rw [if_neg (by omega)]; omega
  have e3 : HT.sIx z.length 0 none = 0 := rfl
  have e4 : HT.sIx z.length z.length none = z.length := rfl
  unfold cutS
  rw [e1, e2, e3, e4]
  constructor
  · simp
  · simp only []
    rw [List.take_of_length_le]
    rw [List.length_drop, Array.length_toList, e0]
    exact Nat.le_refl _
theorem app_toList (x y : Str) : (x ++ y).cps.toList = x.cps.toList ++ y.cps.toList := TL.tl_append x y
theorem perm_erase {α : Type} : ∀ {l : List α} {j : Nat} {c : α}, l[j]? = some c → l.Perm (c :: l.eraseIdx j)
  | [], j, c, h => by simp at h
  | a :: l, 0, c, h => by
    simp at h
    subst h
    exact List.Perm.refl _
  | a :: l, j + 1, c, h => by
    have ih := perm_erase (l := l) (j := j) (c := c) (by simpa using h)
    rw [List.eraseIdx_cons_succ]
    exact (List.Perm.cons a ih).trans (List.Perm.swap c a _)
theorem atI_toNat {α : Type} {xs : List α} {i : Int} {x : α} (h0 : 0 ≤ i) (h : xs[i.toNat]? = some x) : atI xs i = some x := by
  have hl := (List.getElem?_eq_some_iff.mp h).1
  unfold atI ixN
  rw [if_pos h0, if_pos (by omega)]
  exact h
theorem eo_if {B : Bs} {es : List Sl} {t : TT} {ta tb : TE} {P : List Dt → Prop} (h : EvT B t es fun b => (b = true → EvO B ta es P) ∧ (b = false → EvO B tb es P)) : EvO B (tIf t ta tb) es P := fun σ F H S Q q => h σ F H S _ fun b F1 H1 g1 p1 => by
  have S1 := S.go g1
  cases b with
  | true =>
    show ta σ H1 Q
    exact p1.1 rfl σ F1 H1 S1 Q fun a vs xs F2 H2 g2 h0 h1 h2 r p => q a vs xs F2 H2 (g1.trans g2) (g1.new (S1.newB h0) h0) h1 h2 r p
  | false =>
    show tb σ H1 Q
    exact p1.2 rfl σ F1 H1 S1 Q fun a vs xs F2 H2 g2 h0 h1 h2 r p => q a vs xs F2 H2 (g1.trans g2) (g1.new (S1.newB h0) h0) h1 h2 r p
theorem sm_par3 {B : Bs} {es : List Sl} {p : Po} {i j l : Nat} {ta : TA} (h : EvA B ta es fun ds => ∃ x y z, ds = [x, y, z] ∧ p.nx (((es.set i (.d x)).set j (.d y)).set l (.d z))) : Sm B (tPar3 i j l ta) es p := fun σ F H D S n _ _ _ _ => h σ F H S _ fun vs ds F1 H1 g1 r1 ⟨x, y, z, e, p1⟩ => by
  subst e
  cases r1 with
  | cons a r =>
    obtain ⟨v, w, rfl, b, c⟩ := rp2 r
    exact ⟨_, v, w, rfl, n _ _ F1 H1 ((((S.go g1).setD a).setD b).setD c) g1.s1 p1⟩
end Y
/-! Y10: zip of a text and a tuple. -/
namespace Y
open PySem L2 PyProof.Rows
/-- the signs of x with the items of the tuple at b, in new pairs -/
def ItzS (K : PySem.W.Frag) (x : Str) (b : Addr) : It :=
  ⟨fun i H => ∃ ys : List V, SqT K H b ys ∧ i < min x.cps.size ys.length,
    fun i H v H' => ∃ T c y, v = .ref T ∧ H T = none ∧ H' = upd H T (.tup [.str ⟨#[c]⟩, y]) ∧ x.cps[i]? = some c ∧ ∀ ys, SqT K H b ys → ys[i]? = some y,
    fun i H => ∃ ys : List V, SqT K H b ys ∧ i = min x.cps.size ys.length⟩
theorem turn_zipS {P : Program} {w : World} {K : PySem.W.Frag} {elts : List Expr} {kk : Nat} {tpos : Pos} {x : Str} {t : Tok} {b z TI TO i1 i2 : Addr} (S : ZipSep2 z TI TO i1 i2 [i1] [i2, b]) (hb : b ≠ i2) :
    Turn P w K (.Tuple elts kk tpos) (ItzS K x b) [z, TI, TO, i1, i2] z (fun i h => IsZip h z TI TO .none ∧ IsTupOf2 h TI (.ref i1) (.ref i2) ∧ (∃ a1 a2, IsTupOf2 h TO a1 a2) ∧ h.IsStrIter i1 (strIterType x) x t i ∧ h.IsTupleIter i2 b i) where
  mem := by simp
  obj := fun i h st c hc => by
    obtain ⟨hz, hTI, ⟨x, y, hTO⟩, ⟨o1, e1, _, d1⟩, ⟨o2, e2, _, d2⟩⟩ := st
    have e' : c = z ∨ c = TI ∨ c = TO ∨ c = i1 ∨ c = i2 := by simpa using hc
    rcases e' with q | q | q | q | q
    · rw [q]; exact ⟨_, hz, fun v q => nomatch q⟩
    · rw [q]; exact ⟨_, hTI, fun v q => nomatch q⟩
    · rw [q]; exact ⟨_, hTO, fun v q => nomatch q⟩
    · rw [q]; exact ⟨o1, e1, fun v q => by rw [d1] at q; cases q⟩
    · rw [q]; exact ⟨o2, e2, fun v q => by rw [d2] at q; cases q⟩
  keep := fun i h h' st k => by
    obtain ⟨hz, hTI, ⟨x, y, hTO⟩, h1, h2⟩ := st
    obtain ⟨o1, e1, c1, d1⟩ := h1
    exact ⟨k z (by simp) _ hz, k TI (by simp) _ hTI, ⟨x, y, k TO (by simp) _ hTO⟩, ⟨o1, k i1 (by simp) _ e1, c1, d1⟩, h2.at fun o q => k i2 (by simp) o q⟩
  item := by
    intro X hP hw hK hc i pins s σ H E I hf st hg
    subst hP hw hK
    obtain ⟨hz, hTI, hTO, h1, h2⟩ := st
    obtain ⟨ys, hq, hi⟩ := hg
    obtain ⟨its, rv, p, _⟩ := I.tuple hq
    have l := rv.length
    have hiy : i < ys.length := by omega
    have hh : X.A.in1.handled = none := I.ok.hd hc
    have p : s.heap.IsTuple b its.toArray := p
    refine (GoesN.zip2 S (Draws.text hh i1 x t) (Draws.tuple hh i2 b hb its.toArray)).goes i s _ E (by simp; omega) ⟨hz, hTI, hTO, h1, h2, p⟩ ?_
    rintro v h' tk ⟨T, u1, u2, rfl, hnew, ⟨c, tk1, hc1, rfl⟩, e2, hT⟩ st' hk _
    obtain ⟨u, hu, ru⟩ := rv.get (i := i) (x := ys[i]) (by simp [hiy])
    have e3 : u = u2 := by
      have : its[i]? = some u2 := by simpa using e2
      rw [hu] at this; cases this; rfl
    subst e3
    have new : ObjOk X.prog X.w (upd H T (.tup [.str ⟨#[c]⟩, ys[i]])) h' T (.tup [.str ⟨#[c]⟩, ys[i]]) :=
      ⟨by show 2 ≤ sizeLine; decide, [.str ⟨#[c]⟩ tk1, u], .cons ⟨_, rfl⟩ (.cons ru .nil), hT⟩
    have I1 : Inv X pins σ (upd H T (.tup [.str ⟨#[c]⟩, ys[i]])) { s with heap := h', toks := tk } :=
      I.turnedNew (t' := tk) (ch := [z, TI, TO, i1, i2]) (fun b o hb q => hk b o (fun hm => hb (by
        have e' : b = z ∨ b = TO ∨ b = i1 ∨ b = i2 := by simpa using hm
        rcases e' with q | q | q | q <;> simp [q])) q) hf hnew new
    refine ⟨.ref T, _, I1, rfl, ⟨T, c, ys[i], rfl, I.hok.fresh hnew, rfl, hc1, fun l hl => by rw [I.tuple_inj hl hq]; simp [hiy]⟩, ⟨st'.1, st'.2.1, st'.2.2.1, st'.2.2.2.1, st'.2.2.2.2.1⟩, fun c hcm => ?_⟩
    have hlt : c < s.heap.objs.size := by
      have e' : c = z ∨ c = TI ∨ c = TO ∨ c = i1 ∨ c = i2 := by simpa using hcm
      rcases e' with q | q | q | q | q
      · rw [q]; exact Heap.lt_size hz
      · rw [q]; exact Heap.lt_size hTI
      · rw [q]; obtain ⟨_, _, e1⟩ := hTO; exact Heap.lt_size e1
      · rw [q]; obtain ⟨_, e1, _⟩ := h1; exact Heap.lt_size e1
      · rw [q]; obtain ⟨_, e2, _⟩ := h2; exact Heap.lt_size e2
    rw [upd_ne (Nat.ne_of_lt (Nat.lt_of_lt_of_le hlt hnew))]
    exact (hf c hcm).1
  done := by
    intro X hP hw hK hc i pins s σ H E I hf st hg
    subst hP hw hK
    obtain ⟨hz, hTI, hTO, h1, h2⟩ := st
    obtain ⟨ys, hq, hi⟩ := hg
    obtain ⟨its, rv, p, _⟩ := I.tuple hq
    have l := rv.length
    have hh : X.A.in1.handled = none := I.ok.hd hc
    have p : s.heap.IsTuple b its.toArray := p
    have hi : i = min x.cps.size its.toArray.size := by simp; omega
    subst hi
    refine (GoesN.zip2 (elts := elts) (x1 := kk) (pos := tpos) S (Draws.text hh i1 x t) (Draws.tuple hh i2 b hb its.toArray)).stops s _ E ⟨hz, hTI, hTO, h1, h2, p⟩ fun h' tk hk _ => ?_
    exact I.turnedL (t' := tk) (ch := [z, TI, TO, i1, i2]) (fun b o hb q => hk b o (fun hm => hb (by
        have e' : b = z ∨ b = TO ∨ b = i1 ∨ b = i2 := by simpa using hm
        rcases e' with q | q | q | q <;> simp [q])) q) hf
  self := fun A i s Q E st h => wpAny_pyIter_zip st.1 h
def iZipS (K : PySem.W.Frag) (ta : TA) : TI := fun σ H R => ta σ H fun vs H1 => ∃ (x : Str) (b : Addr) (ys : List V), vs = [.str x, .ref b] ∧ SqT K H1 b ys ∧ R (ItzS K x b) H1
theorem pi_zipS {X : Cx} {K : PySem.W.Frag} {e e2 : Expr} {ta : TA} {p pos tpos : Pos} {elts : List Expr} {kk : Nat} (hg : Gl X "zip") (hm : X.mg "zip" = none) (ha : PA X [e, e2] ta) (hK : X.K = K := by rfl)
    (hs : starEach [e, e2] X.env = (false, eval e X.env) :: starEach [e2] X.env := by rfl) (hpl : (backTo pos (starEach [e2] X.env)).any (·.1) = false := by rfl) :
    PI X (.Tuple elts kk tpos) (.Call (.Name "zip" p) [e, e2] [] pos) (iZipS K ta) := by
  subst hK
  refine ⟨fun pins s σ H R I h => ?_⟩
  refine Call_ (ld_blt I hg hm PyProof.Rows.boot_zip (PyProof.Rows.callWith_type1 (thn (ha.run pos pins s σ H _ I h) fun us s1 ⟨vs, H1, I1, r1, q1⟩ => ?_) hs hpl))
  obtain ⟨x, b, ys, ex, hq, q⟩ := q1
  subst ex
  cases r1 with
  | cons r rr =>
    cases rr with
    | cons r' rr =>
      cases rr
      obtain ⟨t, rfl⟩ := r
      cases r'
      have fresh5 : ∀ c, c ∈ [s1.heap.objs.size + 4, s1.heap.objs.size + 2, s1.heap.objs.size + 3, s1.heap.objs.size, s1.heap.objs.size + 1] → FpOk X pins H1 c := fun c hcm => by
        have e' : c = s1.heap.objs.size + 4 ∨ c = s1.heap.objs.size + 2 ∨ c = s1.heap.objs.size + 3 ∨ c = s1.heap.objs.size ∨ c = s1.heap.objs.size + 1 := by simpa using hcm
        have hle : s1.heap.objs.size ≤ c := by
          rcases e' with z | z | z | z | z
          · rw [z]; exact Nat.le_add_right _ _
          · rw [z]; exact Nat.le_add_right _ _
          · rw [z]; exact Nat.le_add_right _ _
          · rw [z]; exact Nat.le_refl _
          · rw [z]; exact Nat.le_add_right _ _
        exact I1.fpOk hle (I1.hok.fresh hle)
      obtain ⟨its, rv, p1, _⟩ := I1.tuple hq
      have p1 : s1.heap.IsTuple b its.toArray := p1
      obtain ⟨o1, ho1, _⟩ := id p1
      have hlt : b < s1.heap.objs.size := Heap.lt_size ho1
      refine zip_begins2 (begins_text x t) (begins_tuple b its.toArray) trivial p1 fun h' hz hTI hTO g1 g2 hsz hk => wpAny_pyIter_zip hz ?_
      have I2 : Inv X pins σ H1 { s1 with heap := h' } := I1.kept (t' := s1.toks) hk
      exact ⟨s1.heap.objs.size + 4, [s1.heap.objs.size + 4, s1.heap.objs.size + 2, s1.heap.objs.size + 3, s1.heap.objs.size, s1.heap.objs.size + 1], _, _, H1, rfl, I2,
        turn_zipS (x := x) (t := t) (zip_sep2 (fp1 := []) (fp2 := [b]) (fun c hc => nomatch hc) (fun c hc => by rw [List.mem_singleton.mp hc]; exact hlt)) (Nat.ne_of_lt (Nat.lt_succ_of_lt hlt)), ⟨hz, hTI, ⟨_, _, hTO⟩, ⟨_, g1, rfl, rfl⟩, ⟨_, g2, rfl, rfl⟩⟩, fresh5, q⟩
theorem pairD_len' (xs ys : List Dt) : (pairD xs ys).length = min xs.length ys.length := pairD_len xs ys
theorem itd_zipS {K : PySem.W.Frag} {F : Hp} {x : Str} {b : Addr} {ws : List V} {ys : List Dt} (h' : SqT K F b ws) (r' : RpAll K F ws ys) : ItD K (ItzS K x b) F (pairD (signsD x) ys) where
  goes := fun i H hi s => by
    rw [pairD_len, signsD_len] at hi
    have l2 := r'.length
    exact ⟨ws, sqT_mono s h', by omega⟩
  stops := fun H s => by
    have l2 := r'.length
    exact ⟨ws, sqT_mono s h', by rw [pairD_len, signsD_len]; omega⟩
  yields := fun i H v H' hi s y => by
    obtain ⟨T, c, z, e1, e2, e3, e4, e5⟩ := y
    obtain ⟨d2, k3, k4⟩ := r'.getV (e5 ws (sqT_mono s h'))
    have k1 : (signsD x)[i]? = some (.str ⟨#[c]⟩) := by rw [signsD, List.getElem?_map, Array.getElem?_toList, e4]; rfl
    exact ⟨_, pairD_get k1 k3, .inr ⟨T, .str ⟨#[c]⟩, z, .str ⟨#[c]⟩, d2, e1, e2, e3, .str _, k4, rfl⟩⟩
theorem ei_zipS {B : Bs} {es : List Sl} {ta : TA} {P : List Dt → Prop} (h : EvA B ta es fun ds => ∃ (x : Str) (ys : List Dt), ds = [.str x, .tup ys] ∧ P (pairD (signsD x) ys)) : EvI B (iZipS B.K ta) es P := fun σ F H S R q => h σ F H S _ fun vs ds F1 H1 g1 r1 ⟨x, ys, e, p1⟩ => by
  subst e
  obtain ⟨v, w, rfl, r, r'⟩ := rp2 r1
  cases r
  cases r' with
  | tup h3 h4 => exact ⟨_, _, _, rfl, sqT_mono g1.s2 h3, q _ _ F1 H1 g1 (itd_zipS h3 h4) p1⟩
end Y
/-! Y11: filters, slices of tuples, tuple(list), find; the shapes of rows. -/
namespace Y
open PySem L2
section
variable {B : Bs} {es : List Sl}
/-- [f(x) for x in xs if t(x)] -/
theorem eo_fm {wi : TI} {g : TG} {tt : TT} {te : TE} {vs : List Nat} {P : List Dt → Prop} (t : Dt → Bool) (f : Dt → Dt) (h : EvI B wi es fun xs => xs.length < 100000 ∧
    (∀ x, x ∈ xs → TgC B g (wipeE es vs) vs x fun e2 => EvT B tt e2 fun b => b = t x ∧ (b = true → Ev B te e2 fun y => y = f x)) ∧ P ((xs.filter t).map f)) : EvO B (tLc wi g tt te vs) es P :=
  eo_lc fun σ F H S Q q => h σ F H S Q fun J xs F1 H1 g1 it ⟨hl, h1, h2⟩ => q J xs F1 H1 g1 it ⟨hl, fun i acc => acc = ((xs.take i).filter t).map f, rfl,
    fun i x acc hx ha σ F H v S r Q q => h1 x (List.mem_of_getElem? hx) σ F H v S r Q fun es' σ' S' hw p => q es' σ' S' hw (p.imp fun b ⟨hb, hy⟩ => by
      have ht : xs.take (i + 1) = xs.take i ++ [x] := by rw [List.take_add_one, hx]; rfl
      refine ⟨fun hbt => (hy hbt).imp fun y e => ?_, fun hbf => ?_⟩
      · show _ = _
        rw [ht, List.filter_append, List.map_append, ← ha, List.filter_cons, if_pos (by rw [← hb]; exact hbt), e]; rfl
      · show _ = _
        rw [ht, List.filter_append, List.map_append, ← ha, List.filter_cons, if_neg (by rw [← hb, hbf]; decide)]; simp), fun acc ha => by rw [ha, List.take_length]; exact h2⟩
theorem ev_slT {te : TE} {tl th : TO} {P : Dt → Prop} (h : Ev B te es fun d => ∃ xs, d = .tup xs ∧ EvP B tl es fun lo => EvP B th es fun hi => ¬ (HT.sIx xs.length 0 lo = 0 ∧ HT.sIx xs.length xs.length hi = xs.length) ∧ P (.tup (cutD xs lo hi))) : Ev B (tSl (rSlA B.K) te tl th) es P := fun σ F H S Q q => h σ F H S _ fun v d F1 H1 g1 r1 ⟨xs, e, p1⟩ => by
  subst e
  refine p1 σ F1 H1 (S.go g1) _ fun lo F2 H2 g2 p2 => p2 σ F2 H2 ((S.go g1).go g2) _ fun hi F3 H3 g3 ⟨hn, p3⟩ => ?_
  have g := (g1.trans g2).trans g3
  have S3 := S.go g
  cases r1 with
  | tup h1 h2 =>
    have r3 := (h2.mono (g2.s1.trans g3.s1)).cut lo hi
    refine .inr (.inl ⟨_, _, rfl, sqT_mono g3.s2 (sqT_mono (g2.s1.trans g3.s1) h1), by rw [h2.length]; exact hn, fun p hp => ?_⟩)
    have hF : F3 p = none := same_none S3.sub hp
    exact q (.ref p) (.tup (cutD xs lo hi)) (upd F3 p (.tup _)) _ (g.trans (S3.alloc hp)) (.tup (SqT.of upd_same) (r3.mono (same_upd hF))) p3
/-- t[1:] of a tuple that is not empty -/
theorem cut1 {α : Type} (x : α) (xs : List α) : cutD (x :: xs) (some 1) none = xs ∧ ¬ (HT.sIx (x :: xs).length 0 (some 1) = 0 ∧ HT.sIx (x :: xs).length (x :: xs).length none = (x :: xs).length) := by
  have e1 : HT.sIx (x :: xs).length 0 (some 1) = 1 := by
    show (if (1 : Int) < 0 then ((1 : Int) + ((x :: xs).length : Int)).toNat else min (1 : Int).toNat (x :: xs).length) = 1
    rw [if_neg (by decide)]
    show min 1 (xs.length + 1) = 1
    omega
  have e2 : HT.sIx (x :: xs).length (x :: xs).length none = (x :: xs).length := rfl
  refine ⟨?_, fun h => ?_⟩
  · unfold cutD
    rw [e1, e2]
    show (List.drop 0 xs).take (xs.length + 1 - 1) = xs
    simp
  · rw [e1] at h; exact absurd h.1 (by decide)
theorem ev_tail {te : TE} {P : Dt → Prop} (h : Ev B te es fun d => ∃ x xs, d = .tup (x :: xs) ∧ P (.tup xs)) : Ev B (tSl (rSlA B.K) te (tPart (tC (.int 1))) tNoPart) es P :=
  ev_slT (h.imp fun d ⟨x, xs, e, p⟩ => ⟨_, e, ep_some (ev_int ⟨1, rfl, ep_none ⟨(cut1 x xs).2, by rw [(cut1 x xs).1]; exact p⟩⟩)⟩)
theorem ev_tupleL {ta : TA} {P : Dt → Prop} (h : EvA B ta es fun ds => ∃ xs, ds = [.lst xs] ∧ P (.tup xs)) : Ev B (tCB (rTupleA B.K) ta) es P := fun σ F H S Q q => h σ F H S _ fun vs ds F1 H1 g1 r1 ⟨xs, e, p1⟩ => by
  subst e
  have S1 := S.go g1
  obtain ⟨v, rfl, r⟩ := rp1 r1
  cases r with
  | lst h1 h2 =>
    refine ⟨_, _, rfl, .inl ⟨SqL.of (g1.s2 _ _ h1), fun l hl => ?_⟩⟩
    have hF : F1 l = none := same_none S1.sub hl
    exact q (.ref l) (.tup xs) (upd F1 l (.tup _)) _ (g1.trans (S1.alloc hl)) (.tup (SqT.of upd_same) (h2.mono (same_upd hF))) p1
theorem ev_find {to te : TE} {P : Dt → Prop} (h : Ev B to es fun a => ∃ x : Str, a = .str x ∧ Ev B te es fun c => ∃ y : Str, c = .str y ∧ P (.int (Txt.find x y))) :
    Ev B (tM1 (fun x xs H Q => ∃ a b, x = .str a ∧ xs = [.str b] ∧ Q (.int (Txt.find a b)) H) to te) es P := fun σ F H S Q q => h σ F H S _ fun v a F1 H1 g1 r1 ⟨x, e, p1⟩ => by
  subst e
  cases r1
  refine ⟨⟨x, rfl⟩, p1 σ F1 H1 (S.go g1) _ fun w d F2 H2 g2 r2 ⟨y, e2, p2⟩ => ?_⟩
  subst e2
  cases r2
  exact ⟨x, y, rfl, rfl, q _ _ F2 H2 (g1.trans g2) (.int _) p2⟩
/-- a list of texts != [] -/
theorem o_neNil {ss : List Str} {P : Dt → Prop} (hl : ss.length < 50000) (h : ∀ s ∈ ss, PyData.strOk s = true) (hp : P (.bl (!ss.isEmpty))) : Op2 B (rNeA B.K) es (.lst (ss.map Dt.str)) (.lst []) P := by
  refine o_neAD (okD_strs hl h) okD_nil ?_
  have e : PyData.eqv (Dt.lst (ss.map Dt.str)).py (Dt.lst []).py = ss.isEmpty := by
    simp only [Dt.py, pyAll, pyAll_strs]
    rw [eqv_nil]
    cases ss <;> rfl
  rw [e]
  exact hp
end
/-! ### signs -/
theorem sign_eq {k c : Nat} {z : Str} (h : z = ⟨#[c]⟩) : decide ((⟨#[k]⟩ : Str) = z) = decide (k = c) := by
  subst h
  have : ((⟨#[k]⟩ : Str) = ⟨#[c]⟩) ↔ k = c := ⟨fun e => by injection e with e; simpa using e, fun e => by rw [e]⟩
  simp [this]
/-! ### lookups -/
theorem lookup_mem {α β : Type} [BEq α] [LawfulBEq α] : ∀ {l : List (α × β)} {a : α} {b : β}, l.lookup a = some b → (a, b) ∈ l
  | [], a, b, h => by cases h
  | (c, d) :: l, a, b, h => by
    rw [List.lookup_cons] at h
    split at h
    · rename_i e
      cases h
      rw [eq_of_beq e]; exact List.mem_cons_self ..
    · exact List.mem_cons_of_mem _ (lookup_mem h)
theorem lookup_strs : ∀ (l : List (Str × Str)) (z : Str), (l.map fun p => (p.1, V.str p.2)).lookup z = (l.lookup z).map V.str
  | [], z => rfl
  | (c, d) :: l, z => by
    rw [List.map_cons, List.lookup_cons, List.lookup_cons]
    show (match z == c with | true => some (V.str d) | false => List.lookup z (List.map (fun (p : Str × Str) => (p.1, V.str p.2)) l)) = _
    cases z == c with
    | true => rfl
    | false => exact lookup_strs l z
/-! ### forms and rows -/
theorem formB_len : ∀ {ks : List Nat} {xs : List Dt}, formB ks xs = true → ks.length = xs.length
  | [], [], _ => rfl
  | [], _ :: _, h => by cases h
  | _ :: _, [], h => by cases h
  | k :: ks, x :: xs, h => by
    have h : (fitsB k x && formB ks xs) = true := h
    rw [Bool.and_eq_true] at h
    rw [List.length_cons, List.length_cons, formB_len h.2]
def fit2 : Dt → Bool
  | .tup [.str z, x] => fitsB (z.cps.toList.headD 0) x
  | _ => false
theorem all_fit2 : ∀ (ks : List Nat) (xs : List Dt), ks.length = xs.length → (pairD (ks.map fun c => .str ⟨#[c]⟩) xs).all fit2 = formB ks xs
  | [], [], _ => rfl
  | [], _ :: _, h => by cases h
  | _ :: _, [], h => by cases h
  | k :: ks, x :: xs, h => by
    show (fit2 (.tup [.str ⟨#[k]⟩, x]) && (pairD (ks.map fun c => .str ⟨#[c]⟩) xs).all fit2) = (fitsB k x && formB ks xs)
    rw [all_fit2 ks xs (by simpa using h)]; rfl
theorem pairD_in : ∀ {xs ys : List Dt} {p : Dt}, p ∈ pairD xs ys → ∃ x y, p = .tup [x, y] ∧ x ∈ xs ∧ y ∈ ys
  | [], ys, p, h => by cases h
  | x :: xs, [], p, h => by cases h
  | x :: xs, y :: ys, p, h => by
    rcases List.mem_cons.mp (show p ∈ .tup [x, y] :: pairD xs ys from h) with rfl | h
    · exact ⟨x, y, rfl, List.mem_cons_self .., List.mem_cons_self ..⟩
    · obtain ⟨a, b, e, h1, h2⟩ := pairD_in h
      exact ⟨a, b, e, List.mem_cons_of_mem _ h1, List.mem_cons_of_mem _ h2⟩
theorem form0_inv {xs : List Dt} (h : formB [] xs = true) : xs = [] := by
  cases xs with
  | nil => rfl
  | cons _ _ => cases h
theorem formS_inv {k : Nat} {ks : List Nat} {xs : List Dt} (h : formB (k :: ks) xs = true) : ∃ x ys, xs = x :: ys ∧ fitsB k x = true ∧ formB ks ys = true := by
  cases xs with
  | nil => cases h
  | cons x ys =>
    have h : (fitsB k x && formB ks ys) = true := h
    rw [Bool.and_eq_true] at h
    exact ⟨x, ys, rfl, h.1, h.2⟩
theorem rowBy_at {fs : List (Str × Str)} {w : Str} {rest : List Dt} {ks : List Nat} (h : (fs.lookup w).map (fun f => f.cps.toList) = some ks) : rowBy fs (.tup (.str w :: rest)) = formB ks rest := by
  obtain ⟨f, h1, hk⟩ := Option.map_eq_some_iff.mp h
  show (match fs.lookup w with | some f => formB f.cps.toList rest | none => false) = _
  rw [h1]
  show formB f.cps.toList rest = _
  rw [hk]
theorem rowBy_none {fs : List (Str × Str)} {w : Str} {rest : List Dt} (h : fs.lookup w = none) : rowBy fs (.tup (.str w :: rest)) = false := by
  show (match fs.lookup w with | some f => formB f.cps.toList rest | none => false) = _
  rw [h]
/-- the rows as they are drawn -/
inductive RowS : Dt → Prop
  | put {r n : Dt} : isRegD r = true → isNum n 0 65535 = true → RowS (.tup [.str "put", r, n])
  | rn {w : Str} {r n : Dt} : w = "name" ∨ w = "ifzero" → isRegD r = true → isNameD n = true → RowS (.tup [.str w, r, n])
  | rr {w : Str} {r s : Dt} : w = "add" ∨ w = "take" → isRegD r = true → isRegD s = true → RowS (.tup [.str w, r, s])
  | rrd {w : Str} {r s d : Dt} : w = "load" ∨ w = "store" → isRegD r = true → isRegD s = true → isNum d 0 15 = true → RowS (.tup [.str w, r, s, d])
  | nm {w : Str} {n : Dt} : w = "jump" ∨ w = "call" ∨ w = "address" → isNameD n = true → RowS (.tup [.str w, n])
  | rg {w : Str} {r : Dt} : w = "callby" ∨ w = "out" → isRegD r = true → RowS (.tup [.str w, r])
  | none {w : Str} : w = "back" ∨ w = "halt" → RowS (.tup [.str w])
  | room {k : Dt} : isNum k 1 120 = true → RowS (.tup [.str "room", k])
  | word {n : Dt} : isNum n 0 65535 = true → RowS (.tup [.str "word", n])
theorem cps_k : ("" : Str).cps.toList = [] ∧ ("k" : Str).cps.toList = [107] ∧ ("r" : Str).cps.toList = [114] ∧ ("n" : Str).cps.toList = [110] ∧ ("w" : Str).cps.toList = [119] ∧ ("rw" : Str).cps.toList = [114, 119] ∧ ("rn" : Str).cps.toList = [114, 110] ∧ ("rr" : Str).cps.toList = [114, 114] ∧ ("rrd" : Str).cps.toList = [114, 114, 100] := by decide +kernel
theorem rowS_code {d : Dt} (h : codeRow d = true) : RowS d := by
  obtain ⟨w, f, rest, rfl, h1, h2⟩ := rowBy_inv h
  have hm := lookup_mem h1
  obtain ⟨c0, ck, cr, cn, cw, crw, crn, crr, crd⟩ := cps_k
  simp only [codeForms, List.mem_cons, List.not_mem_nil, or_false, Prod.mk.injEq] at hm
  rcases hm with ⟨rfl, rfl⟩ | ⟨rfl, rfl⟩ | ⟨rfl, rfl⟩ | ⟨rfl, rfl⟩ | ⟨rfl, rfl⟩ | ⟨rfl, rfl⟩ | ⟨rfl, rfl⟩ | ⟨rfl, rfl⟩ | ⟨rfl, rfl⟩ | ⟨rfl, rfl⟩ | ⟨rfl, rfl⟩ | ⟨rfl, rfl⟩ | ⟨rfl, rfl⟩ | ⟨rfl, rfl⟩
  · rw [crw] at h2; obtain ⟨a, y1, rfl, k1, h2⟩ := formS_inv h2; obtain ⟨b, y2, rfl, k2, h2⟩ := formS_inv h2; rw [form0_inv h2]; exact .put k1 k2
  · rw [crn] at h2; obtain ⟨a, y1, rfl, k1, h2⟩ := formS_inv h2; obtain ⟨b, y2, rfl, k2, h2⟩ := formS_inv h2; rw [form0_inv h2]; exact .rn (.inl rfl) k1 k2
  · rw [crr] at h2; obtain ⟨a, y1, rfl, k1, h2⟩ := formS_inv h2; obtain ⟨b, y2, rfl, k2, h2⟩ := formS_inv h2; rw [form0_inv h2]; exact .rr (.inl rfl) k1 k2
  · rw [crr] at h2; obtain ⟨a, y1, rfl, k1, h2⟩ := formS_inv h2; obtain ⟨b, y2, rfl, k2, h2⟩ := formS_inv h2; rw [form0_inv h2]; exact .rr (.inr rfl) k1 k2
  · rw [crd] at h2; obtain ⟨a, y1, rfl, k1, h2⟩ := formS_inv h2; obtain ⟨b, y2, rfl, k2, h2⟩ := formS_inv h2; obtain ⟨c, y3, rfl, k3, h2⟩ := formS_inv h2; rw [form0_inv h2]; exact .rrd (.inl rfl) k1 k2 k3
  · rw [crd] at h2; obtain ⟨a, y1, rfl, k1, h2⟩ := formS_inv h2; obtain ⟨b, y2, rfl, k2, h2⟩ := formS_inv h2; obtain ⟨c, y3, rfl, k3, h2⟩ := formS_inv h2; rw [form0_inv h2]; exact .rrd (.inr rfl) k1 k2 k3
  · rw [cn] at h2; obtain ⟨a, y1, rfl, k1, h2⟩ := formS_inv h2; rw [form0_inv h2]; exact .nm (.inl rfl) k1
  · rw [crn] at h2; obtain ⟨a, y1, rfl, k1, h2⟩ := formS_inv h2; obtain ⟨b, y2, rfl, k2, h2⟩ := formS_inv h2; rw [form0_inv h2]; exact .rn (.inr rfl) k1 k2
  · rw [cn] at h2; obtain ⟨a, y1, rfl, k1, h2⟩ := formS_inv h2; rw [form0_inv h2]; exact .nm (.inr (.inl rfl)) k1
  · rw [cr] at h2; obtain ⟨a, y1, rfl, k1, h2⟩ := formS_inv h2; rw [form0_inv h2]; exact .rg (.inl rfl) k1
  · rw [c0] at h2; rw [form0_inv h2]; exact .none (.inl rfl)
  · rw [cr] at h2; obtain ⟨a, y1, rfl, k1, h2⟩ := formS_inv h2; rw [form0_inv h2]; exact .rg (.inr rfl) k1
  · rw [c0] at h2; rw [form0_inv h2]; exact .none (.inr rfl)
  · rw [ck] at h2; obtain ⟨a, y1, rfl, k1, h2⟩ := formS_inv h2; rw [form0_inv h2]; exact .room k1
theorem rowS_data {d : Dt} (h : dataRow d = true) : RowS d := by
  obtain ⟨w, f, rest, rfl, h1, h2⟩ := rowBy_inv h
  have hm := lookup_mem h1
  obtain ⟨c0, ck, cr, cn, cw, crw, crn, crr, crd⟩ := cps_k
  simp only [dataForms, List.mem_cons, List.not_mem_nil, or_false, Prod.mk.injEq] at hm
  rcases hm with ⟨rfl, rfl⟩ | ⟨rfl, rfl⟩ | ⟨rfl, rfl⟩
  · rw [cw] at h2; obtain ⟨a, y1, rfl, k1, h2⟩ := formS_inv h2; rw [form0_inv h2]; exact .word k1
  · rw [cn] at h2; obtain ⟨a, y1, rfl, k1, h2⟩ := formS_inv h2; rw [form0_inv h2]; exact .nm (.inr (.inr rfl)) k1
  · rw [ck] at h2; obtain ⟨a, y1, rfl, k1, h2⟩ := formS_inv h2; rw [form0_inv h2]; exact .room k1
/-- rows whose items cannot be good: the first item is no register -/
theorem code_inv {w : Str} {rest : List Dt} (h : codeRow (.tup (.str w :: rest)) = true) : (w = "back" ∨ w = "halt" ∨ w = "room" ∨ w = "jump" ∨ w = "call") ∨ ((w = "callby" ∨ w = "out" ∨ w = "name" ∨ w = "ifzero" ∨ w = "put") ∧ ∃ x ys, rest = x :: ys ∧ isRegD x = true) ∨ ((w = "add" ∨ w = "take" ∨ w = "load" ∨ w = "store") ∧ ∃ x y ys, rest = x :: y :: ys ∧ isRegD x = true ∧ isRegD y = true) := by
  obtain ⟨w', f, rest', e, h1, h2⟩ := rowBy_inv h
  cases e
  have hm := lookup_mem h1
  obtain ⟨c0, ck, cr, cn, cw, crw, crn, crr, crd⟩ := cps_k
  simp only [codeForms, List.mem_cons, List.not_mem_nil, or_false, Prod.mk.injEq] at hm
  rcases hm with ⟨rfl, rfl⟩ | ⟨rfl, rfl⟩ | ⟨rfl, rfl⟩ | ⟨rfl, rfl⟩ | ⟨rfl, rfl⟩ | ⟨rfl, rfl⟩ | ⟨rfl, rfl⟩ | ⟨rfl, rfl⟩ | ⟨rfl, rfl⟩ | ⟨rfl, rfl⟩ | ⟨rfl, rfl⟩ | ⟨rfl, rfl⟩ | ⟨rfl, rfl⟩ | ⟨rfl, rfl⟩
  · rw [crw] at h2; obtain ⟨a, y1, rfl, k1, h2⟩ := formS_inv h2; exact .inr (.inl ⟨by simp, _, _, rfl, k1⟩)
  · rw [crn] at h2; obtain ⟨a, y1, rfl, k1, h2⟩ := formS_inv h2; exact .inr (.inl ⟨by simp, _, _, rfl, k1⟩)
  · rw [crr] at h2; obtain ⟨a, y1, rfl, k1, h2⟩ := formS_inv h2; obtain ⟨b, y2, rfl, k2, h2⟩ := formS_inv h2; exact .inr (.inr ⟨by simp, _, _, _, rfl, k1, k2⟩)
  · rw [crr] at h2; obtain ⟨a, y1, rfl, k1, h2⟩ := formS_inv h2; obtain ⟨b, y2, rfl, k2, h2⟩ := formS_inv h2; exact .inr (.inr ⟨by simp, _, _, _, rfl, k1, k2⟩)
  · rw [crd] at h2; obtain ⟨a, y1, rfl, k1, h2⟩ := formS_inv h2; obtain ⟨b, y2, rfl, k2, h2⟩ := formS_inv h2; exact .inr (.inr ⟨by simp, _, _, _, rfl, k1, k2⟩)
  · rw [crd] at h2; obtain ⟨a, y1, rfl, k1, h2⟩ := formS_inv h2; obtain ⟨b, y2, rfl, k2, h2⟩ := formS_inv h2; exact .inr (.inr ⟨by simp, _, _, _, rfl, k1, k2⟩)
  · exact .inl (by simp)
  · rw [crn] at h2; obtain ⟨a, y1, rfl, k1, h2⟩ := formS_inv h2; exact .inr (.inl ⟨by simp, _, _, rfl, k1⟩)
  · exact .inl (by simp)
  · rw [cr] at h2; obtain ⟨a, y1, rfl, k1, h2⟩ := formS_inv h2; exact .inr (.inl ⟨by simp, _, _, rfl, k1⟩)
  · exact .inl (by simp)
  · rw [cr] at h2; obtain ⟨a, y1, rfl, k1, h2⟩ := formS_inv h2; exact .inr (.inl ⟨by simp, _, _, rfl, k1⟩)
  · exact .inl (by simp)
  · exact .inl (by simp)
/-! ### registers and names -/
theorem reg_cases {x : Dt} (h : isRegD x = true) : x = .str "r0" ∨ x = .str "r1" ∨ x = .str "r2" := by
  cases x with
  | str z =>
    have h : inD (.str z) [.str "r0", .str "r1", .str "r2"] = true := h
    simp only [inD, List.any_cons, List.any_nil, eqD, Bool.or_false, Bool.or_eq_true] at h
    rcases h with h | h | h
    · exact .inl (by rw [show z = "r0" from (by simpa using h : _ = _) ▸ rfl])
    · exact .inr (.inl (by rw [show z = "r1" from (by simpa using h : _ = _) ▸ rfl]))
    · exact .inr (.inr (by rw [show z = "r2" from (by simpa using h : _ = _) ▸ rfl]))
  | _ => cases h
theorem reg_noname {x : Dt} (h : isRegD x = true) : isNameD x = false := by
  rcases reg_cases h with rfl | rfl | rfl <;> decide +kernel
theorem num_int {x : Dt} {l m : Int} (h : isNum x l m = true) : ∃ i, x = .int i ∧ l ≤ i ∧ i ≤ m := by
  cases x with
  | int i =>
    have h : (decide (l ≤ i) && decide (i ≤ m)) = true := h
    rw [Bool.and_eq_true] at h
    exact ⟨i, rfl, of_decide_eq_true h.1, of_decide_eq_true h.2⟩
  | _ => cases h
theorem name_str {x : Dt} (h : isNameD x = true) : ∃ z, x = .str z ∧ z.cps.size ≤ 6 ∧ PyData.strOk z = true := by
  cases x with
  | str z =>
    have h : (decide ((1 : Int) ≤ (z.cps.size : Int)) && (decide ((z.cps.size : Int) ≤ 6) && z.cps.toList.all fun c => decide (c ∈ letters))) = true := h
    rw [Bool.and_eq_true, Bool.and_eq_true, List.all_eq_true] at h
    have h6 := of_decide_eq_true h.2.1
    refine ⟨z, rfl, by omega, strOk_of (lit := "abcdefghijklmnopqrstuvwxyz") (fun c hc => of_decide_eq_true (h.2.2 c hc)) (by decide +kernel)⟩
  | _ => cases h
/-! ### rows whose names are of a list -/
def memT (x t : Dt) : Prop := ∃ ss, t = .lst ss ∧ x ∈ ss
def Nm (t x : Dt) : Prop := isNameD x = true → memT x t
def namesFrom (t d : Dt) : Prop := ∀ w rest, d = .tup (.str w :: rest) → ∀ x ∈ rest, Nm t x
theorem nm_r {t x : Dt} (h : isRegD x = true) : Nm t x := fun e => by rw [reg_noname h] at e; cases e
theorem nm_i {t x : Dt} {l m : Int} (h : isNum x l m = true) : Nm t x := fun e => by obtain ⟨i, rfl, _⟩ := num_int h; cases e
theorem nm_int {t : Dt} {i : Int} : Nm t (.int i) := fun e => by cases e
theorem nm_fit {t x : Dt} (h : fitsB 107 x = true) : Nm t x := nm_i (l := 1) (m := 120) h
theorem nm_fitd {t x : Dt} (h : fitsB 100 x = true) : Nm t x := nm_i (l := 0) (m := 15) h
theorem nf0 {t : Dt} {w : Str} : namesFrom t (.tup [.str w]) := fun w' rest e x hx => by cases e; cases hx
theorem nf1 {t : Dt} {w : Str} {a : Dt} (h : Nm t a) : namesFrom t (.tup [.str w, a]) := fun w' rest e x hx => by
  cases e
  rcases List.mem_cons.mp hx with rfl | hx
  · exact h
  · cases hx
theorem nf2 {t : Dt} {w : Str} {a b : Dt} (h : Nm t a) (h2 : Nm t b) : namesFrom t (.tup [.str w, a, b]) := fun w' rest e x hx => by
  cases e
  rcases List.mem_cons.mp hx with rfl | hx
  · exact h
  rcases List.mem_cons.mp hx with rfl | hx
  · exact h2
  · cases hx
theorem nf3 {t : Dt} {w : Str} {a b c : Dt} (h : Nm t a) (h2 : Nm t b) (h3 : Nm t c) : namesFrom t (.tup [.str w, a, b, c]) := fun w' rest e x hx => by
  cases e
  rcases List.mem_cons.mp hx with rfl | hx
  · exact h
  rcases List.mem_cons.mp hx with rfl | hx
  · exact h2
  rcases List.mem_cons.mp hx with rfl | hx
  · exact h3
  · cases hx
def codeRowPost2 (ds : List Dt) (d : Dt) : Prop := codeRow d = true ∧ ∀ t, ds = [t] → namesFrom t d
def dataRowPost2 (ds : List Dt) (d : Dt) : Prop := dataRow d = true ∧ ∀ t, ds = [t] → namesFrom t d
theorem code_k2 {t : Dt} {R : Dt → Prop} (ht : NamesD t) (h : ∀ d, codeRow d = true → namesFrom t d → R d) : namesPre [t] ∧ ∀ d, codeRowPost2 [t] d → R d := ⟨⟨t, rfl, ht⟩, fun d e => h d e.1 (e.2 t rfl)⟩
theorem data_k2 {t : Dt} {R : Dt → Prop} (ht : NamesD t) (h : ∀ d, dataRow d = true → namesFrom t d → R d) : namesPre [t] ∧ ∀ d, dataRowPost2 [t] d → R d := ⟨⟨t, rfl, ht⟩, fun d e => h d e.1 (e.2 t rfl)⟩
theorem of_namesM {t : Dt} {R : Dt → Prop} (ht : NamesD t) (h : ∀ d, isNameD d = true → Nm t d → R d) : ofPre [t] ∧ ∀ d, ofPost [t] d → R d := by
  obtain ⟨ss, rfl, h0, h1, h2⟩ := ht
  refine of_k ⟨by simpa using h0, by simp; omega⟩ fun d hd => ?_
  obtain ⟨s, hs, rfl⟩ := List.mem_map.mp hd
  exact h _ (h2 s hs) fun _ => ⟨_, rfl, hd⟩
/-! ### things that may be rows -/
def thingB (x : Dt) : Bool := plainD x && (match x with | .tup ys => decide (ys.length ≤ 100) && ys.all goodV | _ => true)
theorem thing_plain {x : Dt} (h : thingB x = true) : plainD x = true := by
  unfold thingB at h; rw [Bool.and_eq_true] at h; exact h.1
theorem thing_tup {ys : List Dt} (h : thingB (.tup ys) = true) : ys.length ≤ 100 ∧ ∀ y ∈ ys, goodV y = true := by
  unfold thingB at h; rw [Bool.and_eq_true] at h
  have h := h.2
  rw [Bool.and_eq_true] at h
  exact ⟨of_decide_eq_true h.1, fun y hy => all_mem h.2 hy⟩
theorem thing_mk {ys : List Dt} (h1 : ys.length ≤ 100) (h2 : ∀ y ∈ ys, goodV y = true) : thingB (.tup ys) = true := by
  show (true && (decide (ys.length ≤ 100) && ys.all goodV)) = true
  rw [decide_eq_true h1, List.all_eq_true.mpr h2]; rfl
theorem good_name {x : Dt} (h : isNameD x = true) : goodV x = true := by
  obtain ⟨z, rfl, h1, h2⟩ := name_str h
  show (true && (decide (z.cps.size < 1000) && PyData.strOk z)) = true
  rw [decide_eq_true (by omega), h2]; rfl
theorem good_reg {x : Dt} (h : isRegD x = true) : goodV x = true := by
  rcases reg_cases h with rfl | rfl | rfl <;> decide +kernel
theorem good_num {x : Dt} {l m : Int} (h : isNum x l m = true) : goodV x = true := by
  obtain ⟨i, rfl, _⟩ := num_int h; rfl
theorem rowS_good {d : Dt} (h : RowS d) : ∃ w rest, d = .tup (.str w :: rest) ∧ rest.length ≤ 3 ∧ goodV (.str w) = true ∧ ∀ y ∈ rest, goodV y = true := by
  cases h with
  | put h1 h2 => exact ⟨_, _, rfl, by simp, by decide +kernel, by simp [good_reg h1, good_num h2]⟩
  | rn hw h1 h2 => exact ⟨_, _, rfl, by simp, by rcases hw with rfl | rfl <;> decide +kernel, by simp [good_reg h1, good_name h2]⟩
  | rr hw h1 h2 => exact ⟨_, _, rfl, by simp, by rcases hw with rfl | rfl <;> decide +kernel, by simp [good_reg h1, good_reg h2]⟩
  | rrd hw h1 h2 h3 => exact ⟨_, _, rfl, by simp, by rcases hw with rfl | rfl <;> decide +kernel, by simp [good_reg h1, good_reg h2, good_num h3]⟩
  | nm hw h1 => exact ⟨_, _, rfl, by simp, by rcases hw with rfl | rfl | rfl <;> decide +kernel, by simp [good_name h1]⟩
  | rg hw h1 => exact ⟨_, _, rfl, by simp, by rcases hw with rfl | rfl <;> decide +kernel, by simp [good_reg h1]⟩
  | none hw => exact ⟨_, _, rfl, by simp, by rcases hw with rfl | rfl <;> decide +kernel, by simp⟩
  | room h1 => exact ⟨_, _, rfl, by simp, by decide +kernel, by simp [good_num h1]⟩
  | word h1 => exact ⟨_, _, rfl, by simp, by decide +kernel, by simp [good_num h1]⟩
theorem rowS_thing {d : Dt} (h : RowS d) : thingB d = true := by
  obtain ⟨w, rest, rfl, h1, h2, h3⟩ := rowS_good h
  refine thing_mk (by simp; omega) fun y hy => ?_
  rcases List.mem_cons.mp hy with rfl | hy
  · exact h2
  · exact h3 y hy
end Y
/-! Y12: statements that are never reached; int(text); tuple.index; list * n. -/
namespace Y
open PySem L2
/-- a statement that is not reached: nothing is asked, nothing can be told -/
def tDead : TS := fun _ _ _ => False
theorem ps_dead {X : Cx} {st : Stmt} : PS X st tDead := ⟨fun pins s σ H D I h => h.elim⟩
def rTupIndex (K : PySem.W.Frag) : V → List V → Hp → VK → Prop := fun x xs H Q => ∃ p, ∃ ys : List Str, ∃ z j, x = .ref p ∧ xs = [.str z] ∧ SqT K H p (ys.map V.str) ∧ ys[j]? = some z ∧ (∀ m, m < j → ys[m]? ≠ some z) ∧ Q (.int (j : Nat)) H
theorem mt_tupIndexA {X : Cx} {K : PySem.W.Frag} (hK : X.K = K := by rfl) : MtR X "tuple.index" (rTupIndex K) := hK ▸ mt_tup_index
/-- a tuple of the top, with no dict of its own -/
def KTup (K : PySem.W.Frag) (a : Addr) : Prop := ∃ o, K.lookup a = some o ∧ o.cls = .type "tuple" ∧ o.dict = none
section
variable {B : Bs} {es : List Sl}
theorem c_intS {z : Str} {n : Int} {P : Dt → Prop} (h : PySem.intText? z = some n) (hl : z.length ≤ 640) (hp : P (.int n)) : Cal B (fun xs H Q => ∃ a n, xs = [.str a] ∧ PySem.intText? a = some n ∧ a.length ≤ 640 ∧ Q (.int n) H) es [.str z] P := fun σ F H vs S a Q k => by
  obtain ⟨v, rfl, r⟩ := rp1 a
  cases r
  exact ⟨z, n, rfl, h, hl, k _ _ F H S.refl (.int _) hp⟩
theorem ev_tupIndex {a : Addr} {ys : List Str} {te : TE} {P : Dt → Prop} (kt : KTup B.K a) (kd : KD B.K (.ref a) (.tup (ys.map Dt.str))) (h : Ev B te es fun d => ∃ (z : Str) (j : Nat), d = .str z ∧ ys[j]? = some z ∧ (∀ m, m < j → ys[m]? ≠ some z) ∧ P (.int (j : Int))) : Ev B (tBM B.K "tuple" (rTupIndex B.K) (tC (.ref a)) (tCons te tNil)) es P := fun σ F H S Q q => by
  refine ⟨.inr (.inl ⟨rfl, kt⟩), h σ F H S _ fun v d F1 H1 g1 r1 ⟨z, j, e, h1, h2, p⟩ => ?_⟩
  subst e
  cases r1
  have r := kd H1
  cases r with
  | tup k1 k2 =>
    have e := k2.texts
    subst e
    exact ⟨a, ys, z, j, rfl, rfl, k1, h1, h2, q _ _ F1 H1 g1 (.int _) p⟩
theorem sm_retOwn {p : Po} {i : Nat} {a : Addr} {xs : List Dt} (hi : es[i]? = some (.own a xs)) (h : p.ro xs) : Sm B (tRet (tVar i)) es p := fun σ F H D S _ _ _ _ ro => by
  obtain ⟨vs, h1, h2, h3, h4⟩ := S.own hi
  exact ⟨_, h1, ro a vs xs es σ F H S (Same.refl F) h2 h3 h4 (S.ow i a xs hi).1 (S.ow i a xs hi).2 h⟩
/-- xs + ys as a new list -/
theorem eo_cat {ta tb : TE} {P : List Dt → Prop} (h : Ev B ta es fun x => ∃ xs, x = .lst xs ∧ Ev B tb es fun y => ∃ ys, y = .lst ys ∧ xs.length + ys.length ≤ 100000 ∧ P (xs ++ ys)) : EvO B (tOp (rPlus B.K) ta tb) es P := fun σ F H S Q q =>
  h σ F H S _ fun v d F1 H1 g1 r1 ⟨xs, e, p1⟩ => p1 σ F1 H1 (S.go g1) _ fun w y F2 H2 g2 r2 ⟨ys, e2, hl, p2⟩ => by
    subst e e2
    have g := g1.trans g2
    have S2 := S.go g
    cases r1 with
    | lst h1 h2 =>
      cases r2 with
      | lst h3 h4 =>
        refine .inr (.inr (.inl ⟨_, _, _, _, rfl, rfl, g2.s2 _ _ (g2.s1 _ _ h1), g2.s2 _ _ h3, size_of (by rw [h2.length, h4.length]; exact hl), fun p hp => ?_⟩))
        exact q p _ _ F2 _ (g.trans (S2.allocO hp)) (g.new (S2.newB hp) hp) (same_none S2.sub hp) upd_same ((h2.mono g2.s1).app h4) p2
theorem eo_rep {ta tb : TE} {P : List Dt → Prop} (h : Ev B ta es fun d => ∃ xs, d = .lst xs ∧ Ev B tb es fun y => ∃ k : Int, y = .int k ∧ (0 ≤ k ∧ k ≤ 1000 ∧ xs.length ≤ 10) ∧ P (List.replicate k.toNat xs).flatten) : EvO B (tOp rRep ta tb) es P := fun σ F H S Q q =>
  h σ F H S _ fun v d F1 H1 g1 r1 ⟨xs, e, p1⟩ => p1 σ F1 H1 (S.go g1) _ fun w y F2 H2 g2 r2 ⟨k, e2, ⟨k0, k1, k2⟩, p2⟩ => by
    subst e e2
    cases r2
    have g := g1.trans g2
    have S2 := S.go g
    cases r1 with
    | @lst a vs _ h1 h2 =>
      have hl := h2.length
      have rr : ∀ n : Nat, RpAll B.K F2 (List.replicate n vs).flatten (List.replicate n xs).flatten := by
        intro n
        induction n with
        | zero => exact .nil
        | succ n ih => rw [List.replicate_succ, List.replicate_succ, List.flatten_cons, List.flatten_cons]; exact (h2.mono g2.s1).app ih
      refine ⟨_, k, vs, rfl, rfl, g2.s2 _ _ (g2.s1 _ _ h1), by omega, by omega, size_of ?_, fun p hp => ?_⟩
      · have : vs.length * k.toNat ≤ 10 * 1000 := Nat.mul_le_mul (by omega) (by omega)
        omega
      · exact q p _ _ F2 _ (g.trans (S2.allocO hp)) (g.new (S2.newB hp) hp) (same_none S2.sub hp) upd_same (rr _) p2
end
end Y
/-! Y13: d[k] of a displayed dict; own lists cleared; cells of rows. -/
namespace Y
open PySem L2
section
variable {B : Bs} {es : List Sl}
theorem ev_dget {td ty : TE} {P : Dt → Prop} (h : Ev B td es fun x => ∃ ks xs, x = .dct ks xs ∧ Ev B ty es fun y => ∃ k, y = kD k ∧ ∃ d, getK ks xs k = some d ∧ P d) : Ev B (tDGet td ty) es P := fun σ F H S Q q =>
  h σ F H S _ fun v x F1 H1 g1 r1 ⟨ks, xs, e, p1⟩ => by
    subst e
    refine p1 σ F1 H1 (S.go g1) _ fun u y F2 H2 g2 r2 ⟨k, e2, d, hd, p2⟩ => ?_
    subst e2
    have ek := rp_kD r2
    subst ek
    cases r1 with
    | dct h1 h2 h3 h4 =>
      subst h2 h3
      obtain ⟨v', k1, k2⟩ := (getK_of k (h4.mono g2.s1)).1 d hd
      exact ⟨_, v', rfl, by rw [← k1]; exact DGet.k (k := k) (g2.s2 _ _ (g2.s1 _ _ h1)), q _ _ F2 H2 (g1.trans g2) k2 p2⟩
theorem sm_clear {p : Po} {i : Nat} {a : Addr} {xs : List Dt} (hi : es[i]? = some (.own a xs)) (h : p.nx (es.set i (.own a []))) : Sm B (tDrop (tBM0 B.K "list" rClear (tVar i))) es p := fun σ F H D S n _ _ _ _ => by
  obtain ⟨vs, h1, h2, h3, h4⟩ := S.own hi
  exact ⟨_, h1, .inl ⟨rfl, _, SqL.of h3⟩, a, vs, rfl, rfl, h3, n _ _ F _ (S.change hi h1 h2 .nil) (Same.refl F) h⟩
end
end Y
/-! Y14: loops unrolled; lists of ints. -/
namespace Y
open PySem L2
section
variable {B : Bs} {es : List Sl}
/-- a loop over a list that is known: turn by turn -/
def unD (B : Bs) (g : TG) (tb : TS) (p : Po) : List Dt → List Sl → Prop
  | [], es => p.nx es
  | x :: xs, es => Tg B g es x fun e2 => Sm B tb e2 { p with nx := unD B g tb p xs, bk := p.nx, ct := unD B g tb p xs }
theorem sm_forU {p : Po} {wi : TI} {g : TG} {tb : TS} (h : EvI B wi es fun xs => unD B g tb p xs es) : Sm B (tFor wi g tb) es p :=
  sm_for fun σ F H S R q => h σ F H S R fun J xs F1 H1 g1 it hu => q J xs F1 H1 g1 it ⟨fun i e => unD B g tb p (xs.drop i) e, hu, fun i x es' hx hI => by
    have e1 : xs.drop i = x :: xs.drop (i + 1) := by
      obtain ⟨hl, rfl⟩ := List.getElem?_eq_some_iff.mp hx
      exact List.drop_eq_getElem_cons hl
    have hI : unD B g tb p (xs.drop i) es' := hI
    rw [e1] at hI
    exact hI, fun es' hI => by
      have hI : unD B g tb p (xs.drop xs.length) es' := hI
      rw [List.drop_length] at hI; exact hI⟩
end
theorem see_ints (a : Addr) (xs : List Dt) : ∀ ns : List Int, seeAll a xs (ns.map Dt.int) = ns.map Dt.int
  | [] => by simp [seeAll]
  | n :: ns => by simp [seeAll, Dt.see, see_ints a xs ns]
theorem pure_ints : ∀ ns : List Int, pureAll (ns.map Dt.int) = true
  | [] => by simp [pureAll]
  | n :: ns => by simp [pureAll, Dt.pureD, pure_ints ns]
theorem depth_ints : ∀ ns : List Int, depthAll (ns.map Dt.int) = 0
  | [] => by simp [depthAll]
  | n :: ns => by simp [depthAll, Dt.depth, depth_ints ns]
/-- a list of ints -/
def IntsD (xs : List Dt) : Prop := ∃ ns : List Int, xs = ns.map Dt.int
theorem IntsD.see {xs ys : List Dt} {a : Addr} (h : IntsD ys) : seeAll a xs ys = ys := by obtain ⟨ns, rfl⟩ := h; exact see_ints a xs ns
theorem IntsD.pure {ys : List Dt} (h : IntsD ys) (hl : ys.length < 50000) : (Dt.lst ys).pureD = true := by
  obtain ⟨ns, rfl⟩ := h
  unfold Dt.pureD
  rw [decide_eq_true hl, pure_ints]; rfl
theorem IntsD.depth {ys : List Dt} (h : IntsD ys) : (Dt.lst ys).depth = 1 := by
  obtain ⟨ns, rfl⟩ := h
  unfold Dt.depth
  rw [depth_ints]
/-- two equal lists of ints beside one another -/
theorem IntsD.pure2 {ys : List Dt} (h : IntsD ys) (hl : ys.length < 50000) : (Dt.lst [.lst ys, .lst ys]).pureD = true ∧ (Dt.lst [.lst ys, .lst ys]).depth = 2 := by
  have h1 := h.pure hl
  have h2 := h.depth
  constructor
  · unfold Dt.pureD
    simp [pureAll, h1]
  · unfold Dt.depth
    simp [depthAll, h2]
theorem IntsD.nil : IntsD [] := ⟨[], rfl⟩
theorem IntsD.cons {i : Int} {xs : List Dt} (h : IntsD xs) : IntsD (.int i :: xs) := by obtain ⟨ns, rfl⟩ := h; exact ⟨i :: ns, rfl⟩
theorem IntsD.app {xs ys : List Dt} (h : IntsD xs) (h2 : IntsD ys) : IntsD (xs ++ ys) := by obtain ⟨ns, rfl⟩ := h; obtain ⟨ms, rfl⟩ := h2; exact ⟨ns ++ ms, by rw [List.map_append]⟩
theorem IntsD.rep (n : Nat) (i : Int) : IntsD (List.replicate n (.int i)) := ⟨List.replicate n i, by rw [List.map_replicate]⟩
end Y
/-! Y15: isinstance(x, dict); shaped data of other kinds. -/
namespace Y
open PySem L2
section
variable {B : Bs} {es : List Sl}
def isDctD : Dt → Bool
  | .dct _ _ => true
  | _ => false
theorem isi_dict {x : Dt} (h : plainD x = true) : isiD "dict" x = some (isDctD x) := by
  cases x with
  | non => show kitB "NoneType" "dict" = some false; decide +kernel
  | bl _ => show kitB "bool" "dict" = some false; decide +kernel
  | int _ => show kitB "int" "dict" = some false; decide +kernel
  | str _ => show kitB "str" "dict" = some false; decide +kernel
  | lst _ => show kitB "list" "dict" = some false; decide +kernel
  | tup _ => show kitB "tuple" "dict" = some false; decide +kernel
  | dct _ _ => show kitB "dict" "dict" = some true; decide +kernel
  | obj _ _ _ => cases h
  | ali _ => cases h
theorem ev_isDict {te : TE} {P : Dt → Prop} (h : Ev B te es fun d => plainD d = true ∧ P (.bl (isDctD d))) : Ev B (tCB (rIsi B.K) (tCons te (tCons (tC (.ty "dict")) tNil))) es P := ev_isi (h.imp fun d q => ⟨_, isi_dict q.1, q.2⟩)
end
end Y
/-! Y16: list(..) as a datum. -/
namespace Y
open PySem L2
section
variable {B : Bs} {es : List Sl}
theorem c_listT {xs : List Dt} {P : Dt → Prop} (hp : P (.lst xs)) : Cal B (rListB B.K) es [.tup xs] P := fun σ F H vs S a Q k => by
  obtain ⟨v, rfl, r⟩ := rp1 a
  cases r with
  | tup h1 h2 => exact .inl ⟨_, _, rfl, .inr (sqT_mono S.sub h1), fun p hp' => k _ (.lst xs) (upd F p (.lst _)) _ (S.alloc hp') (.lst upd_same (h2.mono (same_upd (same_none S.sub hp')))) hp⟩
theorem c_listL {xs : List Dt} {P : Dt → Prop} (hp : P (.lst xs)) : Cal B (rListB B.K) es [.lst xs] P := fun σ F H vs S a Q k => by
  obtain ⟨v, rfl, r⟩ := rp1 a
  cases r with
  | lst h1 h2 => exact .inl ⟨_, _, rfl, .inl (SqL.of (S.sub _ _ h1)), fun p hp' => k _ (.lst xs) (upd F p (.lst _)) _ (S.alloc hp') (.lst upd_same (h2.mono (same_upd (same_none S.sub hp')))) hp⟩
end
end Y
/-! Y17: str(int); three at once, the first a new list of one's own. -/
namespace Y
open PySem L2
section
variable {B : Bs} {es : List Sl}
theorem log_ok {i : Int} (h : -100000000 ≤ i ∧ i ≤ 100000000) : i.natAbs.log2 < 1920 := by
  by_cases h0 : i.natAbs = 0
  · rw [h0]; decide
  · rw [Nat.log2_lt h0]
    have h1 : i.natAbs < 2 ^ 27 := by
      have : (2 : Nat) ^ 27 = 134217728 := by decide
      omega
    exact Nat.lt_of_lt_of_le h1 (Nat.pow_le_pow_right (by decide) (by decide))
theorem c_strI {i : Int} {P : Dt → Prop} (h : -100000000 ≤ i ∧ i ≤ 100000000) (hp : P (.str (toString i))) : Cal B (fun xs H Q => ∃ i, xs = [.int i] ∧ i.natAbs.log2 < 1920 ∧ Q (.str (toString i)) H) es [.int i] P := fun σ F H vs S a Q k => by
  obtain ⟨v, rfl, r⟩ := rp1 a
  cases r
  exact ⟨i, rfl, log_ok h, k _ _ F H S.refl (.str _) hp⟩
theorem sm_par3O {p : Po} {i j l : Nat} {t1 t2 t3 : TE} (h : EvO B t1 es fun xs => Ev B t2 es fun y => Ev B t3 es fun z => ∀ a, p.nx (((es.set i (.own a xs)).set j (.d y)).set l (.d z))) : Sm B (tPar3 i j l (tCons t1 (tCons t2 (tCons t3 tNil)))) es p := fun σ F H D S n _ _ _ _ =>
  h σ F H S _ fun a vs xs F1 H1 g1 a0 a1 a2 r1 p1 => p1 σ F1 H1 (S.go g1) _ fun v y F2 H2 g2 r2 p2 => p2 σ F2 H2 ((S.go g1).go g2) _ fun w z F3 H3 g3 r3 p3 => by
    have g23 := g2.trans g3
    have S3 := ((S.go g1).go g2).go g3
    have ha2 : H3 a = some (.lst vs) := g23.kp a _ (S.newB a0) a2
    have hF2 : F3 a = none := g23.nw a (by rw [a2]; simp) a1
    have S4 := S3.setO (i := i) hF2 ha2 (r1.mono g23.s1) (S.new0 a0) (S.newB a0) fun k c zs hk => S.newS a0 k zs hk
    exact ⟨.ref a, v, w, rfl, n _ _ F3 H3 ((S4.setD (r2.mono g3.s1)).setD r3) ((g1.s1.trans g2.s1).trans g3.s1) (p3 a)⟩
end
end Y
/-! Y18: two at once, the first a new list of one's own. -/
namespace Y
open PySem L2
section
variable {B : Bs} {es : List Sl}
theorem sm_parOD {p : Po} {i j : Nat} {t1 t2 : TE} (h : EvO B t1 es fun xs => Ev B t2 es fun y => ∀ a, p.nx ((es.set i (.own a xs)).set j (.d y))) : Sm B (tPar i j (tCons t1 (tCons t2 tNil))) es p := fun σ F H D S n _ _ _ _ =>
  h σ F H S _ fun a vs xs F1 H1 g1 a0 a1 a2 r1 p1 => p1 σ F1 H1 (S.go g1) _ fun v y F2 H2 g2 r2 p2 => by
    have S3 := (S.go g1).go g2
    have ha2 : H2 a = some (.lst vs) := g2.kp a _ (S.newB a0) a2
    have hF2 : F2 a = none := g2.nw a (by rw [a2]; simp) a1
    have S4 := S3.setO (i := i) hF2 ha2 (r1.mono g2.s1) (S.new0 a0) (S.newB a0) fun k c zs hk => S.newS a0 k zs hk
    exact ⟨.ref a, v, rfl, n _ _ F2 H2 (S4.setD r2) (g1.s1.trans g2.s1) (p2 a)⟩
theorem sm_cut2 {p : Po} {t1 t2 u : TS} (I : List Sl → Prop) (h1 : Sm B t1 es { p with nx := fun e => Sm B t2 e { p with nx := I } }) (h2 : ∀ e, I e → Sm B u e p) : Sm B (tSeq t1 (tSeq t2 u)) es p :=
  sm_seq (sm_imp h1 (fun e h => sm_cut I h h2) (fun _ h => h) (fun _ h => h) (fun _ _ h => h) (fun _ h => h))
theorem sm_cut3 {p : Po} {t1 t2 t3 u : TS} (I : List Sl → Prop) (h1 : Sm B t1 es { p with nx := fun e => Sm B t2 e { p with nx := fun e => Sm B t3 e { p with nx := I } } }) (h2 : ∀ e, I e → Sm B u e p) : Sm B (tSeq t1 (tSeq t2 (tSeq t3 u))) es p :=
  sm_seq (sm_imp h1 (fun e h => sm_cut2 I h h2) (fun _ h => h) (fun _ h => h) (fun _ _ h => h) (fun _ h => h))
theorem sm_cut4 {p : Po} {t1 t2 t3 t4 u : TS} (I : List Sl → Prop) (h1 : Sm B t1 es { p with nx := fun e => Sm B t2 e { p with nx := fun e => Sm B t3 e { p with nx := fun e => Sm B t4 e { p with nx := I } } } }) (h2 : ∀ e, I e → Sm B u e p) : Sm B (tSeq t1 (tSeq t2 (tSeq t3 (tSeq t4 u)))) es p :=
  sm_seq (sm_imp h1 (fun e h => sm_cut3 I h h2) (fun _ h => h) (fun _ h => h) (fun _ _ h => h) (fun _ h => h))
theorem sm_cut5 {p : Po} {t1 t2 t3 t4 t5 u : TS} (I : List Sl → Prop) (h1 : Sm B t1 es { p with nx := fun e => Sm B t2 e { p with nx := fun e => Sm B t3 e { p with nx := fun e => Sm B t4 e { p with nx := fun e => Sm B t5 e { p with nx := I } } } } }) (h2 : ∀ e, I e → Sm B u e p) : Sm B (tSeq t1 (tSeq t2 (tSeq t3 (tSeq t4 (tSeq t5 u))))) es p :=
  sm_seq (sm_imp h1 (fun e h => sm_cut4 I h h2) (fun _ h => h) (fun _ h => h) (fun _ _ h => h) (fun _ h => h))
theorem sm_cut6 {p : Po} {t1 t2 t3 t4 t5 t6 u : TS} (I : List Sl → Prop) (h1 : Sm B t1 es { p with nx := fun e => Sm B t2 e { p with nx := fun e => Sm B t3 e { p with nx := fun e => Sm B t4 e { p with nx := fun e => Sm B t5 e { p with nx := fun e => Sm B t6 e { p with nx := I } } } } } }) (h2 : ∀ e, I e → Sm B u e p) : Sm B (tSeq t1 (tSeq t2 (tSeq t3 (tSeq t4 (tSeq t5 (tSeq t6 u)))))) es p :=
  sm_seq (sm_imp h1 (fun e h => sm_cut5 I h h2) (fun _ h => h) (fun _ h => h) (fun _ _ h => h) (fun _ h => h))
theorem sm_cut7 {p : Po} {t1 t2 t3 t4 t5 t6 t7 u : TS} (I : List Sl → Prop) (h1 : Sm B t1 es { p with nx := fun e => Sm B t2 e { p with nx := fun e => Sm B t3 e { p with nx := fun e => Sm B t4 e { p with nx := fun e => Sm B t5 e { p with nx := fun e => Sm B t6 e { p with nx := fun e => Sm B t7 e { p with nx := I } } } } } } }) (h2 : ∀ e, I e → Sm B u e p) : Sm B (tSeq t1 (tSeq t2 (tSeq t3 (tSeq t4 (tSeq t5 (tSeq t6 (tSeq t7 u))))))) es p :=
  sm_seq (sm_imp h1 (fun e h => sm_cut6 I h h2) (fun _ h => h) (fun _ h => h) (fun _ _ h => h) (fun _ h => h))
theorem sm_cut8 {p : Po} {t1 t2 t3 t4 t5 t6 t7 t8 u : TS} (I : List Sl → Prop) (h1 : Sm B t1 es { p with nx := fun e => Sm B t2 e { p with nx := fun e => Sm B t3 e { p with nx := fun e => Sm B t4 e { p with nx := fun e => Sm B t5 e { p with nx := fun e => Sm B t6 e { p with nx := fun e => Sm B t7 e { p with nx := fun e => Sm B t8 e { p with nx := I } } } } } } } }) (h2 : ∀ e, I e → Sm B u e p) : Sm B (tSeq t1 (tSeq t2 (tSeq t3 (tSeq t4 (tSeq t5 (tSeq t6 (tSeq t7 (tSeq t8 u)))))))) es p :=
  sm_seq (sm_imp h1 (fun e h => sm_cut7 I h h2) (fun _ h => h) (fun _ h => h) (fun _ _ h => h) (fun _ h => h))
theorem sm_cut9 {p : Po} {t1 t2 t3 t4 t5 t6 t7 t8 t9 u : TS} (I : List Sl → Prop) (h1 : Sm B t1 es { p with nx := fun e => Sm B t2 e { p with nx := fun e => Sm B t3 e { p with nx := fun e => Sm B t4 e { p with nx := fun e => Sm B t5 e { p with nx := fun e => Sm B t6 e { p with nx := fun e => Sm B t7 e { p with nx := fun e => Sm B t8 e { p with nx := fun e => Sm B t9 e { p with nx := I } } } } } } } } }) (h2 : ∀ e, I e → Sm B u e p) : Sm B (tSeq t1 (tSeq t2 (tSeq t3 (tSeq t4 (tSeq t5 (tSeq t6 (tSeq t7 (tSeq t8 (tSeq t9 u))))))))) es p :=
  sm_seq (sm_imp h1 (fun e h => sm_cut8 I h h2) (fun _ h => h) (fun _ h => h) (fun _ _ h => h) (fun _ h => h))
theorem sm_cut10 {p : Po} {t1 t2 t3 t4 t5 t6 t7 t8 t9 t10 u : TS} (I : List Sl → Prop) (h1 : Sm B t1 es { p with nx := fun e => Sm B t2 e { p with nx := fun e => Sm B t3 e { p with nx := fun e => Sm B t4 e { p with nx := fun e => Sm B t5 e { p with nx := fun e => Sm B t6 e { p with nx := fun e => Sm B t7 e { p with nx := fun e => Sm B t8 e { p with nx := fun e => Sm B t9 e { p with nx := fun e => Sm B t10 e { p with nx := I } } } } } } } } } }) (h2 : ∀ e, I e → Sm B u e p) : Sm B (tSeq t1 (tSeq t2 (tSeq t3 (tSeq t4 (tSeq t5 (tSeq t6 (tSeq t7 (tSeq t8 (tSeq t9 (tSeq t10 u)))))))))) es p :=
  sm_seq (sm_imp h1 (fun e h => sm_cut9 I h h2) (fun _ h => h) (fun _ h => h) (fun _ _ h => h) (fun _ h => h))
theorem sm_cut11 {p : Po} {t1 t2 t3 t4 t5 t6 t7 t8 t9 t10 t11 u : TS} (I : List Sl → Prop) (h1 : Sm B t1 es { p with nx := fun e => Sm B t2 e { p with nx := fun e => Sm B t3 e { p with nx := fun e => Sm B t4 e { p with nx := fun e => Sm B t5 e { p with nx := fun e => Sm B t6 e { p with nx := fun e => Sm B t7 e { p with nx := fun e => Sm B t8 e { p with nx := fun e => Sm B t9 e { p with nx := fun e => Sm B t10 e { p with nx := fun e => Sm B t11 e { p with nx := I } } } } } } } } } } }) (h2 : ∀ e, I e → Sm B u e p) : Sm B (tSeq t1 (tSeq t2 (tSeq t3 (tSeq t4 (tSeq t5 (tSeq t6 (tSeq t7 (tSeq t8 (tSeq t9 (tSeq t10 (tSeq t11 u))))))))))) es p :=
  sm_seq (sm_imp h1 (fun e h => sm_cut10 I h h2) (fun _ h => h) (fun _ h => h) (fun _ _ h => h) (fun _ h => h))
theorem sm_cut12 {p : Po} {t1 t2 t3 t4 t5 t6 t7 t8 t9 t10 t11 t12 u : TS} (I : List Sl → Prop) (h1 : Sm B t1 es { p with nx := fun e => Sm B t2 e { p with nx := fun e => Sm B t3 e { p with nx := fun e => Sm B t4 e { p with nx := fun e => Sm B t5 e { p with nx := fun e => Sm B t6 e { p with nx := fun e => Sm B t7 e { p with nx := fun e => Sm B t8 e { p with nx := fun e => Sm B t9 e { p with nx := fun e => Sm B t10 e { p with nx := fun e => Sm B t11 e { p with nx := fun e => Sm B t12 e { p with nx := I } } } } } } } } } } } }) (h2 : ∀ e, I e → Sm B u e p) : Sm B (tSeq t1 (tSeq t2 (tSeq t3 (tSeq t4 (tSeq t5 (tSeq t6 (tSeq t7 (tSeq t8 (tSeq t9 (tSeq t10 (tSeq t11 (tSeq t12 u)))))))))))) es p :=
  sm_seq (sm_imp h1 (fun e h => sm_cut11 I h h2) (fun _ h => h) (fun _ h => h) (fun _ _ h => h) (fun _ h => h))
end
end Y
/-! Y19: str(x) of a text or a number, split, texts of numbers and of rows. -/
namespace Y
open PySem L2

def rStrA : List V → Hp → VK → Prop := cAlt (fun xs H Q => ∃ i : Int, xs = [.int i] ∧ i.natAbs.log2 < 1920 ∧ Q (.str (toString i)) H) (fun xs H Q => ∃ a, xs = [.str a] ∧ Q (.str a) H)
theorem call_strA {X : Cx} : CallR X (.type "str") rStrA := call_alt call_str_int SkE.call_str_str
/-- an item of a row as a text -/
def itemTx : Dt → Str
  | .str z => z
  | .int i => toString i
  | _ => ""
def itemB : Dt → Bool
  | .str _ => true
  | .int i => decide (0 ≤ i) && decide (i ≤ 999999)
  | _ => false
section
variable {B : Bs} {es : List Sl}
theorem c_strA {x : Dt} {P : Dt → Prop} (h : itemB x = true) (hp : P (.str (itemTx x))) : Cal B rStrA es [x] P := fun σ F H vs S a Q k => by
  obtain ⟨v, rfl, r⟩ := rp1 a
  cases r with
  | str z => exact .inr ⟨z, rfl, k _ _ F H S.refl (.str _) hp⟩
  | int i =>
    have h : (decide (0 ≤ i) && decide (i ≤ 999999)) = true := h
    rw [Bool.and_eq_true] at h
    have h1 := of_decide_eq_true h.1
    have h2 := of_decide_eq_true h.2
    exact .inl ⟨i, rfl, log_ok ⟨by omega, by omega⟩, k _ _ F H S.refl (.str _) hp⟩
  | _ => cases h
def rSplit : V → List V → Hp → VK → Prop := fun x xs H Q => ∃ a b, x = .str a ∧ xs = [.str b] ∧ (b.length == 0) = false ∧ a.length + 2 ≤ sizeLine ∧ rNewStrs (Txt.split a b) H Q
theorem RpAll.of_strs {K : PySem.W.Frag} {F : Hp} : ∀ {ns : List Str}, RpAll K F (ns.map V.str) (ns.map Dt.str)
  | [] => .nil
  | n :: ns => .cons (.str n) RpAll.of_strs
theorem eo_split {to te : TE} {P : List Dt → Prop} (h : Ev B to es fun a => ∃ x : Str, a = .str x ∧ x.length ≤ 90000 ∧ Ev B te es fun c => ∃ y : Str, c = .str y ∧ 0 < y.length ∧ P ((Txt.split x y).map Dt.str)) :
    EvO B (tM1 (fun x xs H Q => ∃ a b, x = .str a ∧ xs = [.str b] ∧ (b.length == 0) = false ∧ a.length + 2 ≤ sizeLine ∧ rNewStrs (Txt.split a b) H Q) to te) es P := fun σ F H S Q q =>
  h σ F H S _ fun v d F1 H1 g1 r1 ⟨x, e, hx, p1⟩ => by
    subst e
    cases r1
    refine ⟨⟨_, rfl⟩, p1 σ F1 H1 (S.go g1) _ fun w d2 F2 H2 g2 r2 ⟨y, e, hy, p2⟩ => ?_⟩
    subst e
    cases r2
    have g := g1.trans g2
    have S2 := S.go g
    refine ⟨x, y, rfl, rfl, by rw [beq_eq_false_iff_ne]; omega, size_of (by omega), fun p hp => ?_⟩
    exact q p _ _ F2 _ (g.trans (S2.allocO hp)) (g.new (S2.newB hp) hp) (same_none S2.sub hp) upd_same RpAll.of_strs p2
end

/-! ### figures -/
def figures : List Nat := ("0123456789" : Str).cps.toList
theorem figures_iff (c : Nat) : c ∈ figures ↔ 48 ≤ c ∧ c ≤ 57 := by
  have e : figures = [48, 49, 50, 51, 52, 53, 54, 55, 56, 57] := by decide +kernel
  rw [e]
  simp only [List.mem_cons, List.not_mem_nil, or_false]
  omega
def digB (z : Str) : Bool := z.cps.toList.all fun c => decide (c ∈ figures)
theorem digB_all {z : Str} (h : digB z = true) : NumText.AllDigits z.cps.toList := fun c hc => by
  have := List.all_eq_true.mp h c hc
  exact (figures_iff c).mp (of_decide_eq_true this)
def itemD (m : Nat) (z : Str) : Dt :=
  if 1 ≤ z.cps.size ∧ z.cps.size ≤ m ∧ digB z = true then (if 1 < z.cps.size ∧ z.cps.toList.head? = some 48 then .str z else .int (NumText.digitsVal z.cps.toList : Nat)) else .str z
theorem item_str {m : Nat} {z : Str} (h : digB z = false) : itemD m z = .str z := if_neg fun e => by rw [h] at e; exact Bool.noConfusion e.2.2
theorem tl_eq (z : Str) : TL.tl z = z.cps.toList := rfl
/-- the text of the value of figures that begin with no nought -/
theorem num_back {z : Str} (h : NumText.AllDigits z.cps.toList) (h1 : 1 ≤ z.cps.size) (h2 : ¬ (1 < z.cps.size ∧ z.cps.toList.head? = some 48)) : (Str.ofString (toString ((NumText.digitsVal z.cps.toList : Nat) : Int))) = z := by
  apply TL.ext_tl
  rw [TL.tl_num]
  show (Nat.toDigits 10 (NumText.digitsVal z.cps.toList)).map Char.toNat = z.cps.toList
  have hl : z.cps.toList.length = z.cps.size := Array.length_toList
  generalize z.cps.toList = cs at *
  generalize z.cps.size = k at *
  have hd := NumText.toDigits_digitsVal (k - 1) cs (by omega) h (by
    by_cases hk : k = 1
    · exact .inl (by omega)
    · refine .inr ?_
      cases cs with
      | nil => simp at hl; omega
      | cons c r =>
        refine ⟨c, r, rfl, ?_⟩
        have hc := h.head
        have : c ≠ 48 := fun e => h2 ⟨by omega, by rw [e]; rfl⟩
        omega)
  rw [hd, List.map_map]
  have : ∀ l : List Nat, NumText.AllDigits l → l.map (Char.toNat ∘ Char.ofNat) = l := by
    intro l
    induction l with
    | nil => intro _; rfl
    | cons c r ih =>
      intro hh
      have hc := hh.head
      rw [List.map_cons, ih hh.tail]
      congr 1
      have key : ∀ c : Nat, c < 58 → (Char.ofNat c).toNat = c := by decide
      exact key c (by omega)
  exact this cs h
theorem itemTx_item (m : Nat) (z : Str) : itemTx (itemD m z) = z := by
  unfold itemD
  split
  · rename_i h
    split
    · rfl
    · rename_i h2
      exact num_back (digB_all h.2.2) h.1 h2
  · rfl
theorem numL_head : ∀ (n : Nat), 10 ≤ n → (TL.numL n).head? ≠ some 48 := by
  intro n
  induction n using Nat.strongRecOn with
  | ind n ih =>
    intro hn
    rw [TL.numL_step hn]
    have hne := TL.numL_ne (n / 10)
    cases e : TL.numL (n / 10) with
    | nil => exact absurd e hne
    | cons a r =>
      by_cases h : n / 10 < 10
      · rw [TL.numL_lt h] at e
        cases e
        simp
        omega
      · have := ih (n / 10) (by omega) (by omega)
        rw [e] at this
        exact this
theorem item_num {m : Nat} {i : Int} (h : 0 ≤ i ∧ i ≤ 65535) (hm : 5 ≤ m) : itemD m (itemTx (.int i)) = .int i := by
  obtain ⟨n, rfl⟩ : ∃ n : Nat, i = (n : Int) := ⟨i.toNat, by omega⟩
  have hn : n < 10 ^ 5 := by omega
  have e : (Str.ofString (toString ((n : Nat) : Int))).cps.toList = TL.numL n := TL.tl_num n
  have hl := TL.numL_len (k := 5) (by decide) hn
  have hsz : (Str.ofString (toString ((n : Nat) : Int))).cps.size = (TL.numL n).length := by rw [← e, Array.length_toList]
  have hne := TL.numL_ne n
  have hpos : 0 < (TL.numL n).length := List.length_pos_iff.mpr hne
  show itemD m (Str.ofString (toString ((n : Nat) : Int))) = _
  unfold itemD
  rw [hsz, e]
  have hd : digB (Str.ofString (toString ((n : Nat) : Int))) = true := by
    unfold digB
    rw [e, List.all_eq_true]
    exact fun c hc => decide_eq_true ((figures_iff c).mpr (TL.numL_digits n c hc))
  rw [if_pos ⟨by omega, by omega, hd⟩, if_neg, TL.numL_val]
  rintro ⟨h1, h2⟩
  by_cases h10 : 10 ≤ n
  · exact numL_head n h10 h2
  · rw [TL.numL_lt (by omega)] at h1
    simp at h1
theorem item_cases (z : Str) : itemD 5 z = itemD 6 z ∨ (digB z = true ∧ z.cps.size = 6 ∧ itemD 5 z = .str z ∧ ∃ n : Nat, itemD 6 z = .int n ∧ 100000 ≤ n) := by
  by_cases h : 1 ≤ z.cps.size ∧ z.cps.size ≤ 5 ∧ digB z = true
  · left
    have e6 : 1 ≤ z.cps.size ∧ z.cps.size ≤ 6 ∧ digB z = true := ⟨h.1, by omega, h.2.2⟩
    exact (if_pos h).trans (if_pos e6).symm
  · have e5 : itemD 5 z = .str z := if_neg h
    by_cases h6 : 1 ≤ z.cps.size ∧ z.cps.size ≤ 6 ∧ digB z = true
    · have hs : z.cps.size = 6 := by
        rcases Nat.lt_or_ge z.cps.size 6 with q | q
        · exact absurd ⟨h6.1, by omega, h6.2.2⟩ h
        · omega
      by_cases h0 : 1 < z.cps.size ∧ z.cps.toList.head? = some 48
      · left
        rw [e5]
        unfold itemD
        rw [if_pos h6, if_pos h0]
      · right
        refine ⟨h6.2.2, hs, e5, NumText.digitsVal z.cps.toList, ?_, ?_⟩
        · unfold itemD
          rw [if_pos h6, if_neg h0]
        · have ha := digB_all h6.2.2
          have hl : z.cps.toList.length = 6 := by rw [Array.length_toList]; exact hs
          have h0 : z.cps.toList.head? ≠ some 48 := fun q => h0 ⟨by omega, q⟩
          generalize z.cps.toList = cs at *
          match cs, hl with
          | [a, b, c, d, e, f], _ =>
            have q1 := ha a (by simp)
            have : a ≠ 48 := fun q => h0 (by rw [q]; rfl)
            show 100000 ≤ ((((((0 * 10 + (a - 48)) * 10 + (b - 48)) * 10 + (c - 48)) * 10 + (d - 48)) * 10 + (e - 48)) * 10 + (f - 48))
            omega
    · left
      rw [e5]
      exact (if_neg h6).symm
theorem dig_noname {z : Str} (h : digB z = true) : isNameD (.str z) = false := by
  cases e : isNameD (.str z) with
  | false => rfl
  | true =>
    have h2 : (decide ((1 : Int) ≤ z.length) && (decide ((z.length : Int) ≤ 6) && z.cps.toList.all fun c => decide (c ∈ letters))) = true := e
    rw [Bool.and_eq_true, Bool.and_eq_true] at h2
    have h1 := of_decide_eq_true h2.1
    have hl : z.cps.toList.length = z.length := Array.length_toList
    have h3 := h2.2.2
    unfold digB at h
    generalize z.cps.toList = cs at *
    cases cs with
    | nil => simp at hl; omega
    | cons c r =>
      rw [List.all_eq_true] at h h3
      have q1 := (figures_iff c).mp (of_decide_eq_true (h c (by simp)))
      have q2 := of_decide_eq_true (h3 c (by simp))
      have key : ∀ c ∈ letters, 97 ≤ c := by decide +kernel
      have := key c q2
      omega
theorem fits_item {k : Nat} (z : Str) : fitsB k (itemD 5 z) = fitsB k (itemD 6 z) ∧ (fitsB k (itemD 5 z) = true → itemD 5 z = itemD 6 z) := by
  rcases item_cases z with h | ⟨hd, hs, h5, n, h6, hn⟩
  · rw [h]; exact ⟨rfl, fun _ => rfl⟩
  · have hr : isRegD (.str z) = false := by
      cases e : isRegD (.str z) with
      | false => rfl
      | true =>
        rcases reg_cases e with e | e | e <;> (injection e with e; subst e; exact absurd hd (by decide +kernel))
    have a5 : fitsB k (.str z) = false := by
      unfold fitsB
      rw [hr, dig_noname hd]
      split
      · rfl
      · split
        · rfl
        · split
          · rfl
          · split <;> rfl
    have a6 : fitsB k (.int (n : Int)) = false := by
      unfold fitsB
      have q : ∀ l m : Int, m < 100000 → isNum (.int (n : Int)) l m = false := fun l m hm => by
        show (decide (l ≤ (n : Int)) && decide ((n : Int) ≤ m)) = false
        rw [decide_eq_false (show ¬ (n : Int) ≤ m by omega), Bool.and_false]
      rw [q 0 65535 (by decide), q 0 15 (by decide), q 1 120 (by decide)]
      split
      · rfl
      · split
        · rfl
        · split
          · rfl
          · split <;> rfl
    rw [h5, h6, a5, a6]
    exact ⟨rfl, fun z => nomatch z⟩
theorem form_items : ∀ (ks : List Nat) (ws : List Str), formB ks (ws.map (itemD 5)) = formB ks (ws.map (itemD 6)) ∧ (formB ks (ws.map (itemD 5)) = true → ws.map (itemD 5) = ws.map (itemD 6))
  | [], [] => ⟨rfl, fun _ => rfl⟩
  | [], w :: ws => ⟨rfl, fun z => nomatch z⟩
  | k :: ks, [] => ⟨rfl, fun _ => rfl⟩
  | k :: ks, w :: ws => by
    obtain ⟨h1, h2⟩ := form_items ks ws
    obtain ⟨h3, h4⟩ := fits_item (k := k) w
    constructor
    · show (fitsB k (itemD 5 w) && formB ks (ws.map (itemD 5))) = (fitsB k (itemD 6 w) && formB ks (ws.map (itemD 6)))
      rw [h1, h3]
    · intro h
      have h : (fitsB k (itemD 5 w) && formB ks (ws.map (itemD 5))) = true := h
      rw [Bool.and_eq_true] at h
      rw [List.map_cons, List.map_cons, h2 h.2, h4 h.1]
/-- the words of a line as a row: of the program, of the law -/
def lineD (ws : List Str) : Dt := .tup (ws.map (itemD 5))
def lineL (ws : List Str) : Dt := match ws with
  | [] => .tup []
  | w :: ws => .tup (.str w :: ws.map (itemD 6))
theorem line_rowBy {fs : List (Str × Str)} (hf : ∀ p ∈ fs, digB p.1 = false) (ws : List Str) : rowBy fs (lineD ws) = rowBy fs (lineL ws) ∧ (rowBy fs (lineD ws) = true → lineD ws = lineL ws) := by
  cases ws with
  | nil => exact ⟨rfl, fun _ => rfl⟩
  | cons w ws =>
    by_cases hd : digB w = true
    · have hn : fs.lookup w = none := by
        cases e : fs.lookup w with
        | none => rfl
        | some f => have := hf _ (lookup_mem e); rw [hd] at this; cases this
      have e2 : rowBy fs (lineL (w :: ws)) = false := rowBy_none hn
      have e1 : rowBy fs (lineD (w :: ws)) = false := by
        show rowBy fs (.tup (itemD 5 w :: ws.map (itemD 5))) = false
        have : itemD 5 w = .str w ∨ ∃ n : Nat, itemD 5 w = .int n := by
          unfold itemD
          split
          · split
            · exact .inl rfl
            · exact .inr ⟨_, rfl⟩
          · exact .inl rfl
        rcases this with e | ⟨n, e⟩
        · rw [e]; exact rowBy_none hn
        · rw [e]; rfl
      rw [e1, e2]
      exact ⟨rfl, fun z => nomatch z⟩
    · have e := item_str (m := 5) (z := w) (by simpa using hd)
      have e1 : lineD (w :: ws) = .tup (.str w :: ws.map (itemD 5)) := by show Dt.tup (itemD 5 w :: _) = _; rw [e]
      have e2 : lineL (w :: ws) = .tup (.str w :: ws.map (itemD 6)) := rfl
      rw [e1, e2]
      cases el : fs.lookup w with
      | none => rw [rowBy_none el, rowBy_none el]; exact ⟨rfl, fun z => nomatch z⟩
      | some f =>
        rw [rowBy_at (ks := f.cps.toList) (by rw [el]; rfl), rowBy_at (ks := f.cps.toList) (by rw [el]; rfl)]
        obtain ⟨h1, h2⟩ := form_items f.cps.toList ws
        exact ⟨h1, fun h => by rw [h2 h]⟩
theorem line_code (ws : List Str) : codeRow (lineD ws) = codeRow (lineL ws) ∧ (codeRow (lineD ws) = true → lineD ws = lineL ws) := line_rowBy (by decide +kernel) ws
theorem line_data (ws : List Str) : dataRow (lineD ws) = dataRow (lineL ws) ∧ (dataRow (lineD ws) = true → lineD ws = lineL ws) := line_rowBy (by decide +kernel) ws
/-- a row's text, a text's row -/
def rowTx (d : Dt) : Str := match d with
  | .tup xs => Txt.join " " (xs.map itemTx)
  | _ => ""
def rowOf (d : Dt) : Dt := if codeRow d || dataRow d then d else .non
def readD (x : Dt) : Dt := match x with
  | .str z => rowOf (lineD (Txt.split z " "))
  | _ => .non
theorem row_law (ws : List Str) : rowOf (lineL ws) = rowOf (lineD ws) := by
  obtain ⟨c1, c2⟩ := line_code ws
  obtain ⟨d1, d2⟩ := line_data ws
  unfold rowOf
  rw [← c1, ← d1]
  split
  · rename_i h
    rw [Bool.or_eq_true] at h
    rcases h with h | h
    · exact (c2 h).symm
    · exact (d2 h).symm
  · rfl
theorem text_of_line (ws : List Str) : rowTx (lineD ws) = Txt.join " " ws := by
  show Txt.join " " ((ws.map (itemD 5)).map itemTx) = _
  rw [List.map_map]
  congr 1
  induction ws with
  | nil => rfl
  | cons w ws ih => rw [List.map_cons, ih]; congr 1; exact itemTx_item 5 w
theorem join_split' (z : Str) : Txt.join " " (Txt.split z " ") = z := by rw [TL.join_eq]; exact StrLaws.join_split z " "
theorem back_text {z : Str} {d : Dt} (h : readD (.str z) = d) (hd : d ≠ .non) : rowTx d = z ∧ (codeRow d || dataRow d) = true := by
  have h : rowOf (lineD (Txt.split z " ")) = d := h
  unfold rowOf at h
  split at h
  · rename_i hc
    subst h
    exact ⟨by rw [text_of_line, join_split'], hc⟩
  · exact absurd h.symm hd
end Y
/-! Y20: how long texts of rows are, which signs they have; rows from their texts. -/
namespace Y
open PySem L2

theorem join_tl (ys : List Str) : (Txt.join " " ys).cps.toList = TL.joinL [32] (ys.map TL.tl) := by
  rw [TL.join_eq]
  exact (TL.tl_join " " ys).trans (by rw [show TL.tl " " = [32] from by decide +kernel])
theorem joinL_len : ∀ (ps : List (List Nat)), ps ≠ [] → (TL.joinL [32] ps).length + 1 = (ps.map List.length).sum + ps.length
  | [], h => absurd rfl h
  | [p], _ => by simp [TL.joinL]
  | p :: q :: r, _ => by
    have ih := joinL_len (q :: r) (by simp)
    show (p ++ ([32] ++ TL.joinL [32] (q :: r))).length + 1 = _
    rw [List.length_append, List.length_append, List.map_cons, List.sum_cons, List.length_cons (as := q :: r)]
    simp only [List.length_cons, List.length_nil] at ih ⊢
    omega
theorem joinL_mem {c : Nat} : ∀ (ps : List (List Nat)), c ∈ TL.joinL [32] ps → c = 32 ∨ ∃ p ∈ ps, c ∈ p
  | [], h => by cases h
  | [p], h => .inr ⟨p, by simp, h⟩
  | p :: q :: r, h => by
    have h : c ∈ p ++ ([32] ++ TL.joinL [32] (q :: r)) := h
    rcases List.mem_append.mp h with h | h
    · exact .inr ⟨p, by simp, h⟩
    · rcases List.mem_append.mp h with h | h
      · exact .inl (List.mem_singleton.mp h)
      · rcases joinL_mem (q :: r) h with h | ⟨x, hx, hc⟩
        · exact .inl h
        · exact .inr ⟨x, List.mem_cons_of_mem _ hx, hc⟩
theorem joinL_in {c : Nat} : ∀ (ps : List (List Nat)) (p : List Nat), p ∈ ps → c ∈ p → c ∈ TL.joinL [32] ps
  | [], _, h, _ => by cases h
  | [q], p, h, hc => by rw [List.mem_singleton.mp h] at hc; exact hc
  | q :: q2 :: r, p, h, hc => by
    show c ∈ q ++ ([32] ++ TL.joinL [32] (q2 :: r))
    rcases List.mem_cons.mp h with rfl | h
    · exact List.mem_append_left _ hc
    · exact List.mem_append_right _ (List.mem_append_right _ (joinL_in (q2 :: r) p h hc))
/-- a text of at most n signs, each of which can stand in a text -/
def TxB (n : Nat) (z : Str) : Prop := z.cps.size ≤ n ∧ PyData.strOk z = true
theorem strOk_iff (z : Str) : PyData.strOk z = true ↔ ∀ c ∈ z.cps.toList, PyData.strOk ⟨#[c]⟩ = true := by
  unfold PyData.strOk
  rw [Array.all_eq_true']
  constructor
  · intro h c hc
    have := h c (by simpa using hc)
    simpa using this
  · intro h c hc
    have := h c (by simpa using hc)
    simpa using this
theorem TxB.good {n : Nat} {z : Str} (h : TxB n z) (hn : n < 1000) : goodV (.str z) = true := by
  unfold goodV
  show (true && (decide (z.cps.size < 1000) && PyData.strOk z)) = true
  rw [h.2, decide_eq_true (show z.cps.size < 1000 by have := h.1; omega)]; rfl
theorem TxB.mono {n m : Nat} {z : Str} (h : TxB n z) (hn : n ≤ m) : TxB m z := ⟨by have := h.1; omega, h.2⟩
theorem split_ne (z : Str) : Txt.split z " " ≠ [] := by
  unfold Txt.split
  split
  · simp
  · split
    · simp
    · intro e
      have := congrArg List.length e
      rw [length_partsBetween] at this
      simp at this
theorem size_tl (z : Str) : z.cps.size = (TL.tl z).length := by rw [← Array.length_toList]
theorem join_size (ys : List Str) (h : ys ≠ []) : (Txt.join " " ys).cps.size + 1 = ((ys.map TL.tl).map List.length).sum + ys.length := by
  rw [← Array.length_toList, join_tl]
  have := joinL_len (ys.map TL.tl) (by simpa using h)
  rw [List.length_map] at this
  exact this
theorem sum_mem : ∀ (l : List Nat) (x : Nat), x ∈ l → x ≤ l.sum
  | [], _, h => by cases h
  | y :: l, x, h => by
    rw [List.sum_cons]
    rcases List.mem_cons.mp h with rfl | h
    · omega
    · have := sum_mem l x h; omega
theorem split_ok {n : Nat} {z : Str} (h : TxB n z) : (Txt.split z " ").length ≤ n + 1 ∧ ∀ w ∈ Txt.split z " ", TxB n w := by
  have e := join_split' z
  have hs := join_size _ (split_ne z)
  rw [e] at hs
  have h1 := h.1
  refine ⟨by omega, fun w hw => ⟨?_, ?_⟩⟩
  · have hm : (TL.tl w).length ∈ ((Txt.split z " ").map TL.tl).map List.length := List.mem_map.mpr ⟨_, List.mem_map.mpr ⟨w, hw, rfl⟩, rfl⟩
    have := sum_mem _ _ hm
    rw [size_tl]
    have hp : 0 < (Txt.split z " ").length := List.length_pos_iff.mpr (split_ne z)
    omega
  · rw [strOk_iff]
    intro c hc
    have hz := (strOk_iff z).mp h.2 c
    apply hz
    rw [← e, join_tl]
    exact joinL_in _ (TL.tl w) (List.mem_map.mpr ⟨w, hw, rfl⟩) hc
theorem join_ok {ys : List Str} (h : ys ≠ []) (hs : ∀ y ∈ ys, PyData.strOk y = true) : PyData.strOk (Txt.join " " ys) = true := by
  rw [strOk_iff]
  intro c hc
  rw [join_tl] at hc
  rcases joinL_mem _ hc with rfl | ⟨p, hp, hc⟩
  · decide +kernel
  · obtain ⟨y, hy, rfl⟩ := List.mem_map.mp hp
    exact (strOk_iff y).mp (hs y hy) c hc
theorem join_perm {n : Nat} {z : Str} {ys : List Str} (h : TxB n z) (hp : ys.Perm (Txt.split z " ")) : TxB n (Txt.join " " ys) := by
  have hne : ys ≠ [] := fun e => split_ne z (by rw [e] at hp; exact hp.symm.eq_nil)
  have e := join_split' z
  have h1 := join_size _ (split_ne z)
  rw [e] at h1
  have h2 := join_size ys hne
  have hsum : ((ys.map TL.tl).map List.length).sum = (((Txt.split z " ").map TL.tl).map List.length).sum := ((hp.map TL.tl).map List.length).sum_nat
  have hl := hp.length_eq
  refine ⟨by have := h.1; omega, join_ok hne fun y hy => ((split_ok h).2 y (hp.subset hy)).2⟩
/-- the items of a row -/
def itemOk (x : Dt) : Prop := (∃ z : Str, x = .str z ∧ digB z = false ∧ z.cps.size ≤ 7 ∧ PyData.strOk z = true ∧ 32 ∉ z.cps.toList) ∨ ∃ i : Int, x = .int i ∧ 0 ≤ i ∧ i ≤ 65535
theorem itemOk_back {x : Dt} (h : itemOk x) : itemD 5 (itemTx x) = x ∧ itemB x = true ∧ TxB 7 (itemTx x) ∧ 32 ∉ (itemTx x).cps.toList ∧ goodV x = true ∧ x.pureD = true ∧ x.depth = 0 := by
  rcases h with ⟨z, rfl, h1, h2, h3, h4⟩ | ⟨i, rfl, h1, h2⟩
  · exact ⟨item_str h1, rfl, ⟨h2, h3⟩, h4, TxB.good (n := 7) ⟨h2, h3⟩ (by decide), by simp [Dt.pureD], by simp [Dt.depth]⟩
  · obtain ⟨n, rfl⟩ : ∃ n : Nat, i = (n : Int) := ⟨i.toNat, by omega⟩
    have e : (itemTx (.int (n : Int))).cps.toList = TL.numL n := TL.tl_num n
    have hl := TL.numL_len (n := n) (k := 5) (by decide) (by omega)
    refine ⟨item_num ⟨h1, h2⟩ (by decide), ?_, ⟨?_, ?_⟩, ?_, rfl, by simp [Dt.pureD], by simp [Dt.depth]⟩
    · show (decide ((0 : Int) ≤ (n : Int)) && decide ((n : Int) ≤ 999999)) = true
      rw [decide_eq_true h1, decide_eq_true (show (n : Int) ≤ 999999 by omega)]; rfl
    · rw [← Array.length_toList, e]; omega
    · rw [strOk_iff, e]
      intro c hc
      have := TL.numL_digits n c hc
      have key : ∀ c : Nat, c < 58 → PyData.strOk ⟨#[c]⟩ = true := by decide +kernel
      exact key c (by omega)
    · rw [e]
      exact TL.numL_free (by decide)
theorem name_ok {x : Dt} (h : isNameD x = true) : itemOk x := by
  obtain ⟨z, rfl, h1, h2⟩ := name_str h
  refine .inl ⟨z, rfl, ?_, by omega, h2, fun hm => ?_⟩
  · cases e : digB z with
    | false => rfl
    | true => rw [dig_noname e] at h; cases h
  · have h3 : (decide ((1 : Int) ≤ z.length) && (decide ((z.length : Int) ≤ 6) && z.cps.toList.all fun c => decide (c ∈ letters))) = true := h
    rw [Bool.and_eq_true, Bool.and_eq_true, List.all_eq_true] at h3
    have := of_decide_eq_true (h3.2.2 32 hm)
    exact absurd this (by decide +kernel)
theorem reg_ok {x : Dt} (h : isRegD x = true) : itemOk x := by
  rcases reg_cases h with rfl | rfl | rfl <;> exact .inl ⟨_, rfl, by decide +kernel, by decide +kernel, by decide +kernel, by decide +kernel⟩
theorem num_ok {x : Dt} {l m : Int} (h : isNum x l m = true) (hl : 0 ≤ l) (hm : m ≤ 65535) : itemOk x := by
  obtain ⟨i, rfl, h1, h2⟩ := num_int h
  exact .inr ⟨i, rfl, by omega, by omega⟩
theorem fits_ok {k : Nat} {x : Dt} (h : fitsB k x = true) : itemOk x := by
  unfold fitsB at h
  split at h
  · exact reg_ok h
  · split at h
    · exact name_ok h
    · split at h
      · exact num_ok h (by decide) (by decide)
      · split at h
        · exact num_ok h (by decide) (by decide)
        · exact num_ok h (by decide) (by decide)
theorem form_ok : ∀ {ks : List Nat} {xs : List Dt}, formB ks xs = true → ∀ x ∈ xs, itemOk x
  | [], [], _, _, h => by cases h
  | [], _ :: _, h, _, _ => by cases h
  | _ :: _, [], _, _, h => by cases h
  | k :: ks, y :: xs, h, x, hx => by
    have h : (fitsB k y && formB ks xs) = true := h
    rw [Bool.and_eq_true] at h
    rcases List.mem_cons.mp hx with rfl | hx
    · exact fits_ok h.1
    · exact form_ok h.2 x hx
def wordOk (p : Str × Str) : Bool := !digB p.1 && (decide (p.1.cps.size ≤ 7) && (PyData.strOk p.1 && (!decide (32 ∈ p.1.cps.toList) && decide (p.2.cps.size ≤ 3))))
theorem rowBy_ok {fs : List (Str × Str)} (hf : fs.all wordOk = true) {d : Dt} (h : rowBy fs d = true) : ∃ xs : List Dt, d = .tup xs ∧ 1 ≤ xs.length ∧ xs.length ≤ 4 ∧ ∀ x ∈ xs, itemOk x := by
  obtain ⟨w, f, rest, rfl, h1, h2⟩ := rowBy_inv h
  have hw := List.all_eq_true.mp hf _ (lookup_mem h1)
  unfold wordOk at hw
  simp only [Bool.and_eq_true, Bool.not_eq_true', decide_eq_true_eq, decide_eq_false_iff_not] at hw
  obtain ⟨w1, w2, w3, w4, w5⟩ := hw
  have hl := formB_len h2
  rw [Array.length_toList] at hl
  refine ⟨_, rfl, by simp, by simp; omega, fun x hx => ?_⟩
  rcases List.mem_cons.mp hx with rfl | hx
  · exact .inl ⟨w, rfl, w1, w2, w3, w4⟩
  · exact form_ok h2 x hx
/-- the row of a row's text is the row -/
theorem row_ok {d : Dt} (h : (codeRow d || dataRow d) = true) : ∃ xs : List Dt, d = .tup xs ∧ 1 ≤ xs.length ∧ xs.length ≤ 4 ∧ ∀ x ∈ xs, itemOk x := by
  rw [Bool.or_eq_true] at h
  rcases h with h | h
  · exact rowBy_ok (by decide +kernel) h
  · exact rowBy_ok (by decide +kernel) h
theorem sum_le : ∀ (l : List Nat) (k : Nat), (∀ x ∈ l, x ≤ k) → l.sum ≤ l.length * k
  | [], _, _ => by simp
  | x :: l, k, h => by
    have := sum_le l k fun y hy => h y (List.mem_cons_of_mem _ hy)
    have h1 := h x (by simp)
    rw [List.sum_cons, List.length_cons, Nat.add_mul]
    omega
theorem row_text_ok {d : Dt} (h : (codeRow d || dataRow d) = true) : TxB 40 (rowTx d) ∧ readD (.str (rowTx d)) = d ∧ d.pureD = true ∧ d.depth = 1 ∧ plainD d = true ∧ thingB d = true := by
  obtain ⟨xs, rfl, l1, l2, hx⟩ := row_ok h
  have hne : xs.map itemTx ≠ [] := by
    intro e
    have : xs = [] := by simpa using e
    rw [this] at l1
    simp at l1
  refine ⟨⟨?_, join_ok hne fun y hy => ?_⟩, ?_, ?_, ?_, rfl, thing_mk (by omega) fun y hy => (itemOk_back (hx y hy)).2.2.2.2.1⟩
  · have hs := join_size _ hne
    have hb : (((xs.map itemTx).map TL.tl).map List.length).sum ≤ (((xs.map itemTx).map TL.tl).map List.length).length * 7 := sum_le _ 7 fun n hn => by
      obtain ⟨_, h1, rfl⟩ := List.mem_map.mp hn
      obtain ⟨_, h2, rfl⟩ := List.mem_map.mp h1
      obtain ⟨x, h3, rfl⟩ := List.mem_map.mp h2
      have := (itemOk_back (hx x h3)).2.2.1.1
      rw [size_tl] at this
      exact this
    simp only [List.length_map] at hb hs
    show (Txt.join " " (xs.map itemTx)).cps.size ≤ 40
    omega
  · obtain ⟨x, h1, rfl⟩ := List.mem_map.mp hy
    exact (itemOk_back (hx x h1)).2.2.1.2
  · show rowOf (lineD (Txt.split (Txt.join " " (xs.map itemTx)) " ")) = _
    rw [TL.split_join (s := 32) (S := []) (by decide +kernel) (by decide +kernel) hne fun p hp => ?_]
    · have e : lineD (xs.map itemTx) = .tup xs := by
        unfold lineD
        rw [List.map_map]
        congr 1
        have : ∀ l : List Dt, (∀ x ∈ l, itemOk x) → l.map (itemD 5 ∘ itemTx) = l := by
          intro l
          induction l with
          | nil => intro _; rfl
          | cons a l ih =>
            intro hl
            rw [List.map_cons, ih fun x hx => hl x (List.mem_cons_of_mem _ hx)]
            congr 1
            exact (itemOk_back (hl a (by simp))).1
        exact this xs hx
      rw [e]
      exact if_pos h
    · obtain ⟨x, h1, rfl⟩ := List.mem_map.mp hp
      exact (itemOk_back (hx x h1)).2.2.2.1
  · unfold Dt.pureD
    have : ∀ l : List Dt, (∀ x ∈ l, itemOk x) → pureAll l = true := by
      intro l
      induction l with
      | nil => intro _; simp [pureAll]
      | cons a l ih =>
        intro hl
        unfold pureAll
        rw [ih fun x hx => hl x (List.mem_cons_of_mem _ hx), (itemOk_back (hl a (by simp))).2.2.2.2.2.1]; rfl
    rw [this xs hx, decide_eq_true (by omega)]; rfl
  · unfold Dt.depth
    have : ∀ l : List Dt, (∀ x ∈ l, itemOk x) → depthAll l = 0 := by
      intro l
      induction l with
      | nil => intro _; simp [depthAll]
      | cons a l ih =>
        intro hl
        unfold depthAll
        rw [ih fun x hx => hl x (List.mem_cons_of_mem _ hx), (itemOk_back (hl a (by simp))).2.2.2.2.2.2]; rfl
    rw [this xs hx]
theorem read_pure {z : Str} : (readD (.str z)).pureD = true ∧ (readD (.str z)).depth ≤ 1 := by
  cases e : (codeRow (lineD (Txt.split z " ")) || dataRow (lineD (Txt.split z " "))) with
  | true =>
    have : readD (.str z) = lineD (Txt.split z " ") := if_pos e
    rw [this]
    obtain ⟨_, _, h1, h2, _⟩ := row_text_ok e
    exact ⟨h1, by omega⟩
  | false =>
    have : readD (.str z) = .non := if_neg (by rw [e]; decide)
    rw [this]
    simp [Dt.pureD, Dt.depth]
theorem item_good (m : Nat) {z : Str} {n : Nat} (h : TxB n z) (hn : n < 1000) : goodV (itemD m z) = true := by
  unfold itemD
  split
  · split
    · exact h.good hn
    · rfl
  · exact h.good hn
theorem lineD_thing {z : Str} (h : TxB 90 z) : thingB (lineD (Txt.split z " ")) = true := by
  obtain ⟨h1, h2⟩ := split_ok h
  exact thing_mk (by rw [List.length_map]; omega) fun y hy => by
    obtain ⟨w, hw, rfl⟩ := List.mem_map.mp hy
    exact item_good 5 (h2 w hw) (by decide)
theorem lineL_thing {z : Str} (h : TxB 90 z) : thingB (lineL (Txt.split z " ")) = true := by
  obtain ⟨h1, h2⟩ := split_ok h
  generalize Txt.split z " " = ws at *
  cases ws with
  | nil => rfl
  | cons w ws =>
    refine thing_mk (by simp at h1 ⊢; omega) fun y hy => ?_
    rcases List.mem_cons.mp hy with rfl | hy
    · exact (h2 w (by simp)).good (by decide)
    · obtain ⟨v, hv, rfl⟩ := List.mem_map.mp hy
      exact item_good 6 (h2 v (by simp [hv])) (by decide)
end Y
namespace Law
open PySem L2 Y
def top (i : Nat) : Stmt := PySem.Challenge.pw_leastimage_k03_whole_texts_of_rows.main.body.getD i (.Pass ⟨0, 0, 0, 0⟩)
abbrev s_has_word : Stmt := top 17
theorem sc_has_word : FnScope ["value"] ["value"] (defScope s_has_word) := ⟨rfl, rfl, rfl, by decide +kernel, rfl, by decide +kernel, by decide +kernel⟩
abbrev s_is_number : Stmt := top 5
theorem sc_is_number : FnScope ["value", "least", "most"] ["value", "least", "most"] (defScope s_is_number) := ⟨rfl, rfl, rfl, by decide +kernel, rfl, by decide +kernel, by decide +kernel⟩
abbrev s_is_name : Stmt := top 6
theorem sc_is_name : FnScope ["value", "sign"] ["value"] (defScope s_is_name) := ⟨rfl, rfl, rfl, by decide +kernel, rfl, by decide +kernel, by decide +kernel⟩
abbrev s_is_register : Stmt := top 7
theorem sc_is_register : FnScope ["value"] ["value"] (defScope s_is_register) := ⟨rfl, rfl, rfl, by decide +kernel, rfl, by decide +kernel, by decide +kernel⟩
abbrev s_is_word : Stmt := top 8
theorem sc_is_word : FnScope ["value"] ["value"] (defScope s_is_word) := ⟨rfl, rfl, rfl, by decide +kernel, rfl, by decide +kernel, by decide +kernel⟩
abbrev s_fits : Stmt := top 16
theorem sc_fits : FnScope ["kind", "value"] ["kind", "value"] (defScope s_fits) := ⟨rfl, rfl, rfl, by decide +kernel, rfl, by decide +kernel, by decide +kernel⟩
abbrev s_has_form : Stmt := top 18
theorem sc_has_form : FnScope ["value", "form", "kind", "item"] ["value", "form"] (defScope s_has_form) := ⟨rfl, rfl, rfl, by decide +kernel, rfl, by decide +kernel, by decide +kernel⟩
abbrev s_is_code_row : Stmt := top 19
theorem sc_is_code_row : FnScope ["value"] ["value"] (defScope s_is_code_row) := ⟨rfl, rfl, rfl, by decide +kernel, rfl, by decide +kernel, by decide +kernel⟩
abbrev s_is_data_row : Stmt := top 20
theorem sc_is_data_row : FnScope ["value"] ["value"] (defScope s_is_data_row) := ⟨rfl, rfl, rfl, by decide +kernel, rfl, by decide +kernel, by decide +kernel⟩
abbrev s_row_text : Stmt := top 21
theorem sc_row_text : FnScope ["row", "item"] ["row"] (defScope s_row_text) := ⟨rfl, rfl, rfl, by decide +kernel, rfl, by decide +kernel, by decide +kernel⟩
abbrev s_item_of : Stmt := top 22
theorem sc_item_of : FnScope ["word", "sign"] ["word"] (defScope s_item_of) := ⟨rfl, rfl, rfl, by decide +kernel, rfl, by decide +kernel, by decide +kernel⟩
abbrev s_read_row : Stmt := top 23
theorem sc_read_row : FnScope ["text", "row", "word"] ["text"] (defScope s_read_row) := ⟨rfl, rfl, rfl, by decide +kernel, rfl, by decide +kernel, by decide +kernel⟩
abbrev s__law_bag : Stmt := top 25
theorem sc__law_bag : FnScope ["_law_script", "_law_mixed_here", "_law_piled"] ["_law_script"] (defScope s__law_bag) := ⟨rfl, rfl, rfl, by decide +kernel, rfl, by decide +kernel, by decide +kernel⟩
abbrev s__law_same : Stmt := top 29
theorem sc__law_same : FnScope ["_law_found", "_law_due", "_law_a", "_law_b"] ["_law_found", "_law_due"] (defScope s__law_same) := ⟨rfl, rfl, rfl, by decide +kernel, rfl, by decide +kernel, by decide +kernel⟩
abbrev s__law_draw : Stmt := top 26
theorem sc__law_draw : FnScope ["_law_bag_here", "_law_sides", "_law_piled", "_law_digit", "_law_seed"] ["_law_bag_here", "_law_sides"] (defScope s__law_draw) := ⟨rfl, rfl, rfl, by decide +kernel, rfl, by decide +kernel, by decide +kernel⟩
abbrev s__law_of : Stmt := top 27
theorem sc__law_of : FnScope ["_law_bag_here", "_law_things"] ["_law_bag_here", "_law_things"] (defScope s__law_of) := ⟨rfl, rfl, rfl, by decide +kernel, rfl, by decide +kernel, by decide +kernel⟩
abbrev s__law_odd : Stmt := top 30
theorem sc__law_odd : FnScope ["_law_bag_here", "_law_more"] ["_law_bag_here", "_law_more"] (defScope s__law_odd) := ⟨rfl, rfl, rfl, by decide +kernel, rfl, by decide +kernel, by decide +kernel⟩
abbrev s__law_titles : Stmt := top 31
theorem sc__law_titles : FnScope ["_law_bag_here", "_law_many", "_law_left", "_law_found", "_law_stem", "_law_k", "_law_spot"] ["_law_bag_here", "_law_many"] (defScope s__law_titles) := ⟨rfl, rfl, rfl, by decide +kernel, rfl, by decide +kernel, by decide +kernel⟩
abbrev s__law_number : Stmt := top 32
theorem sc__law_number : FnScope ["_law_bag_here"] ["_law_bag_here"] (defScope s__law_number) := ⟨rfl, rfl, rfl, by decide +kernel, rfl, by decide +kernel, by decide +kernel⟩
abbrev s__law_r : Stmt := top 33
theorem sc__law_r : FnScope ["_law_bag_here"] ["_law_bag_here"] (defScope s__law_r) := ⟨rfl, rfl, rfl, by decide +kernel, rfl, by decide +kernel, by decide +kernel⟩
abbrev s__law_code_row : Stmt := top 34
theorem sc__law_code_row : FnScope ["_law_bag_here", "_law_titles_here", "_law_way"] ["_law_bag_here", "_law_titles_here"] (defScope s__law_code_row) := ⟨rfl, rfl, rfl, by decide +kernel, rfl, by decide +kernel, by decide +kernel⟩
abbrev s__law_last_row : Stmt := top 35
theorem sc__law_last_row : FnScope ["_law_bag_here", "_law_titles_here"] ["_law_bag_here", "_law_titles_here"] (defScope s__law_last_row) := ⟨rfl, rfl, rfl, by decide +kernel, rfl, by decide +kernel, by decide +kernel⟩
abbrev s__law_data_row : Stmt := top 36
theorem sc__law_data_row : FnScope ["_law_bag_here", "_law_titles_here", "_law_way"] ["_law_bag_here", "_law_titles_here"] (defScope s__law_data_row) := ⟨rfl, rfl, rfl, by decide +kernel, rfl, by decide +kernel, by decide +kernel⟩
abbrev s__law_row_text : Stmt := top 37
theorem sc__law_row_text : FnScope ["_law_one", "_law_item"] ["_law_one"] (defScope s__law_row_text) := ⟨rfl, rfl, rfl, by decide +kernel, rfl, by decide +kernel, by decide +kernel⟩
abbrev s__law_is_title : Stmt := top 38
theorem sc__law_is_title : FnScope ["_law_thing", "_law_sign"] ["_law_thing"] (defScope s__law_is_title) := ⟨rfl, rfl, rfl, by decide +kernel, rfl, by decide +kernel, by decide +kernel⟩
abbrev s__law_within : Stmt := top 39
theorem sc__law_within : FnScope ["_law_thing", "_law_low_y", "_law_high_y"] ["_law_thing", "_law_low_y", "_law_high_y"] (defScope s__law_within) := ⟨rfl, rfl, rfl, by decide +kernel, rfl, by decide +kernel, by decide +kernel⟩
abbrev s__law_code_so : Stmt := top 40
theorem sc__law_code_so : FnScope ["_law_thing", "_law_own", "_law_rest"] ["_law_thing"] (defScope s__law_code_so) := ⟨rfl, rfl, rfl, by decide +kernel, rfl, by decide +kernel, by decide +kernel⟩
abbrev s__law_data_so : Stmt := top 41
theorem sc__law_data_so : FnScope ["_law_thing"] ["_law_thing"] (defScope s__law_data_so) := ⟨rfl, rfl, rfl, by decide +kernel, rfl, by decide +kernel, by decide +kernel⟩
abbrev s__law_figure : Stmt := top 42
theorem sc__law_figure : FnScope ["_law_word_y", "_law_sign"] ["_law_word_y"] (defScope s__law_figure) := ⟨rfl, rfl, rfl, by decide +kernel, rfl, by decide +kernel, by decide +kernel⟩
abbrev s__law_row_of : Stmt := top 43
theorem sc__law_row_of : FnScope ["_law_words", "_law_side", "_law_items", "_law_k", "_law_one"] ["_law_words", "_law_side"] (defScope s__law_row_of) := ⟨rfl, rfl, rfl, by decide +kernel, rfl, by decide +kernel, by decide +kernel⟩
abbrev s__law_mixed : Stmt := top 28
theorem sc__law_mixed : FnScope ["_law_bag_here", "_law_things", "_law_left", "_law_found", "_law_k"] ["_law_bag_here", "_law_things"] (defScope s__law_mixed) := ⟨rfl, rfl, rfl, by decide +kernel, rfl, by decide +kernel, by decide +kernel⟩
abbrev s__law_bent_text : Stmt := top 44
theorem sc__law_bent_text : FnScope ["_law_bag_here", "_law_told", "_law_spot", "_law_sign", "_law_way"] ["_law_bag_here", "_law_told"] (defScope s__law_bent_text) := ⟨rfl, rfl, rfl, by decide +kernel, rfl, by decide +kernel, by decide +kernel⟩
abbrev s_law : Stmt := top 45
theorem sc_law : FnScope ["_law_script", "_law_bag_here", "_law_titles_here", "_law_turn", "_law_one", "_law_told", "_law_bent", "_law_due", "_law_back", "_law_rows_y"] ["_law_script"] (defScope s_law) := ⟨rfl, rfl, rfl, by decide +kernel, rfl, by decide +kernel, by decide +kernel⟩
local macro_rules | `(tactic| walk_at "yv") => `(tactic| ((with_reducible show Ev _ (tVar _) _ _); refine ev_var rfl ?_))
local macro_rules | `(tactic| walk_at "ys") => `(tactic| with_reducible first
  | refine sm_seq ?_ | refine sm_ret ?_ | refine sm_if ?_ | refine sm_set ?_ | refine sm_next ?_ | refine sm_par ?_ | refine sm_drop ?_ | refine sm_brk ?_ | refine sm_cont ?_)
local macro_rules | `(tactic| walk_at "ye") => `(tactic| with_reducible first
  | refine ev_op ?_ | refine ev_and ?_ | refine ev_or ?_ | refine ev_not ?_ | refine ev_if ?_ | refine ev_chain ?_ | refine ev_neg ?_ | refine ev_isInt ?_ | refine ev_isBool ?_ | refine ev_isStr ?_ | refine ev_isList ?_ | refine ev_isTuple ?_ | refine ev_isLT ?_ | refine ev_isDict ?_
  | refine ev_int ?_ | refine ev_str ?_ | refine ev_bl ?_ | refine ev_non ?_ | refine ev_call ?_ | refine ev_cb ?_ | refine ev_lst ?_ | refine ev_tup ?_ | refine ev_join ?_
  | refine ea_nil ?_ | refine ea_cons ?_
  | refine et_B ?_ | refine et_test ?_ | refine et_not ?_ | refine et_and ?_ | refine et_or ?_ | refine et_yes ?_
  | refine o_plusI ?_ | refine o_i0 ?_ | refine o_b0 ?_ | refine o_isN ?_ | refine o_notN ?_
  | refine bl_ex ?_ | refine int_ex ?_ | refine str_ex ?_ | refine lst_ex ?_ | refine tup_ex ?_)
local macro_rules | `(tactic| walk_at "yo") => `(tactic| first
  | ((with_reducible show Ev _ (tOp (rIx _) (tVar _) _) _ _); refine ev_ixOwn rfl ?_)
  | ((with_reducible show Ev _ (tCB _ (tCons (tVar _) tNil)) _ _); refine ev_lenOwn rfl ?_)
  | ((with_reducible show Sm _ (tAsg _ (gSub (tVar _) _ _)) _ _); refine sm_setItem rfl ?_)
  | ((with_reducible show Ev _ (tCall (spB _ _ _) _ _ _) _ _); refine ev_callB rfl rfl ?_))
local macro_rules | `(tactic| walk_at "yc") => `(tactic| first
  | ((with_reducible show CMul _ _); first | exact Or.inr ⟨by decide, by decide⟩ | exact Or.inl ⟨by decide, by decide⟩ | exact Or.inr ⟨by omega, by omega⟩ | exact Or.inl ⟨by omega, by omega⟩)
  | ((with_reducible show CDiv _ _); exact ⟨by first | decide | omega, by first | decide | omega⟩)
  | ((with_reducible show CPow _ _); exact ⟨by decide, by decide, by first | decide | omega⟩)
  | ((show (0 : Int) < _); first | decide | omega))
local macro_rules | `(tactic| walk_at "yd") => `(tactic| first
  | ((with_reducible show plainD _ = true ∧ _); refine ⟨by first | rfl | assumption, ?_⟩)
  | ((with_reducible show (_ = true → _) ∧ (_ = false → _)); first | refine way_t rfl ?_ | refine way_f rfl ?_ | refine way_t (by decide +kernel) ?_ | refine way_f (by decide +kernel) ?_)
  | ((with_reducible show Cal _ _ _ _ _); first | (with_reducible refine c_int ?_) | (with_reducible refine c_abs ?_) | (refine c_len rfl ?_) | (refine c_len (if_pos (by assumption)) ?_))
  | ((with_reducible show Op2 _ (rEqA _) _ _ _ _); refine o_eqA rfl ?_)
  | ((with_reducible show Op2 _ (rNeA _) _ _ _ _); refine o_neA rfl ?_)
  | ((with_reducible show Op2 _ (rInA _) _ (Dt.str _) (Dt.lst _) _); refine o_inAL rfl rfl ?_)
  | ((with_reducible show Op2 _ (rInA _) _ (Dt.str _) (Dt.tup _) _); refine o_inAT rfl rfl ?_)
  | ((with_reducible show Op2 _ (rI _ _) _ _ _ _); refine o_i (by walk_at "yc") ?_)
  | ((with_reducible show Op2 _ (rIx _) _ (Dt.tup _) _ _); refine o_ixAT (atI_toNat (by decide) rfl) ?_)
  | ((with_reducible show Op2 _ (rIx _) _ (Dt.lst _) _ _); refine o_ixAL (atI_toNat (by decide) rfl) ?_)
  | ((with_reducible show ∃ x, atI _ _ = some x ∧ _); refine ⟨_, rfl, ?_⟩)
  | ((with_reducible show ∃ x, ixN _ _ = some x ∧ _); refine ⟨_, rfl, ?_⟩)
  | ((with_reducible show List.length _ ≤ 100000 ∧ _); refine ⟨by (try simp only [List.length_cons, List.length_nil]); first | decide | omega, ?_⟩))
local macro_rules | `(tactic| walk_at "y") => `(tactic| first | walk_at "yo" | walk_at "ye" | walk_at "yv" | walk_at "ys" | walk_at "yd")
local macro_rules | `(tactic| walk_at "yx") => `(tactic| first | walk_at "yo" | walk_at "ye" | walk_at "yv" | walk_at "yd")
def gk_row_text_0_row {α : Type} : List α → List α → List α
  | [], [w0] => [w0]
  | _, _ => []
def gk_read_row_0_text {α : Type} : List α → List α → List α
  | [], [w0] => [w0]
  | _, _ => []
structure Tx (K : PySem.W.Frag) (mg : Str → Option Value) (w : World) where
  a_has_word : Addr
  d_has_word : FuncData
  F_has_word : Fun K "has_word" "has_word" s_has_word a_has_word d_has_word
  m_has_word : mg "has_word" = some (.ref a_has_word)
  k_has_word : PySem.W.keepIn K (.ref a_has_word) = true
  b_has_word : Binds K d_has_word ["value"] []
  a_is_number : Addr
  d_is_number : FuncData
  F_is_number : Fun K "is_number" "is_number" s_is_number a_is_number d_is_number
  m_is_number : mg "is_number" = some (.ref a_is_number)
  k_is_number : PySem.W.keepIn K (.ref a_is_number) = true
  b_is_number : Binds K d_is_number ["value", "least", "most"] []
  a_is_name : Addr
  d_is_name : FuncData
  F_is_name : Fun K "is_name" "is_name" s_is_name a_is_name d_is_name
  m_is_name : mg "is_name" = some (.ref a_is_name)
  k_is_name : PySem.W.keepIn K (.ref a_is_name) = true
  b_is_name : Binds K d_is_name ["value"] []
  a_is_register : Addr
  d_is_register : FuncData
  F_is_register : Fun K "is_register" "is_register" s_is_register a_is_register d_is_register
  m_is_register : mg "is_register" = some (.ref a_is_register)
  k_is_register : PySem.W.keepIn K (.ref a_is_register) = true
  b_is_register : Binds K d_is_register ["value"] []
  a_is_word : Addr
  d_is_word : FuncData
  F_is_word : Fun K "is_word" "is_word" s_is_word a_is_word d_is_word
  m_is_word : mg "is_word" = some (.ref a_is_word)
  k_is_word : PySem.W.keepIn K (.ref a_is_word) = true
  b_is_word : Binds K d_is_word ["value"] []
  a_fits : Addr
  d_fits : FuncData
  F_fits : Fun K "fits" "fits" s_fits a_fits d_fits
  m_fits : mg "fits" = some (.ref a_fits)
  k_fits : PySem.W.keepIn K (.ref a_fits) = true
  b_fits : Binds K d_fits ["kind", "value"] []
  a_has_form : Addr
  d_has_form : FuncData
  F_has_form : Fun K "has_form" "has_form" s_has_form a_has_form d_has_form
  m_has_form : mg "has_form" = some (.ref a_has_form)
  k_has_form : PySem.W.keepIn K (.ref a_has_form) = true
  b_has_form : Binds K d_has_form ["value", "form"] []
  a_is_code_row : Addr
  d_is_code_row : FuncData
  F_is_code_row : Fun K "is_code_row" "is_code_row" s_is_code_row a_is_code_row d_is_code_row
  m_is_code_row : mg "is_code_row" = some (.ref a_is_code_row)
  k_is_code_row : PySem.W.keepIn K (.ref a_is_code_row) = true
  b_is_code_row : Binds K d_is_code_row ["value"] []
  a_is_data_row : Addr
  d_is_data_row : FuncData
  F_is_data_row : Fun K "is_data_row" "is_data_row" s_is_data_row a_is_data_row d_is_data_row
  m_is_data_row : mg "is_data_row" = some (.ref a_is_data_row)
  k_is_data_row : PySem.W.keepIn K (.ref a_is_data_row) = true
  b_is_data_row : Binds K d_is_data_row ["value"] []
  a_row_text : Addr
  d_row_text : FuncData
  F_row_text : Fun K "row_text" "row_text" s_row_text a_row_text d_row_text
  m_row_text : mg "row_text" = some (.ref a_row_text)
  k_row_text : PySem.W.keepIn K (.ref a_row_text) = true
  b_row_text : Binds K d_row_text ["row"] []
  a_item_of : Addr
  d_item_of : FuncData
  F_item_of : Fun K "item_of" "item_of" s_item_of a_item_of d_item_of
  m_item_of : mg "item_of" = some (.ref a_item_of)
  k_item_of : PySem.W.keepIn K (.ref a_item_of) = true
  b_item_of : Binds K d_item_of ["word"] []
  a_read_row : Addr
  d_read_row : FuncData
  F_read_row : Fun K "read_row" "read_row" s_read_row a_read_row d_read_row
  m_read_row : mg "read_row" = some (.ref a_read_row)
  k_read_row : PySem.W.keepIn K (.ref a_read_row) = true
  b_read_row : Binds K d_read_row ["text"] []
  a__law_bag : Addr
  d__law_bag : FuncData
  F__law_bag : Fun K "_law_bag" "_law_bag" s__law_bag a__law_bag d__law_bag
  m__law_bag : mg "_law_bag" = some (.ref a__law_bag)
  k__law_bag : PySem.W.keepIn K (.ref a__law_bag) = true
  b__law_bag : Binds K d__law_bag ["_law_script"] []
  a__law_same : Addr
  d__law_same : FuncData
  F__law_same : Fun K "_law_same" "_law_same" s__law_same a__law_same d__law_same
  m__law_same : mg "_law_same" = some (.ref a__law_same)
  k__law_same : PySem.W.keepIn K (.ref a__law_same) = true
  b__law_same : Binds K d__law_same ["_law_found", "_law_due"] []
  a__law_draw : Addr
  d__law_draw : FuncData
  F__law_draw : Fun K "_law_draw" "_law_draw" s__law_draw a__law_draw d__law_draw
  m__law_draw : mg "_law_draw" = some (.ref a__law_draw)
  k__law_draw : PySem.W.keepIn K (.ref a__law_draw) = true
  b__law_draw : Binds K d__law_draw ["_law_bag_here", "_law_sides"] []
  a__law_of : Addr
  d__law_of : FuncData
  F__law_of : Fun K "_law_of" "_law_of" s__law_of a__law_of d__law_of
  m__law_of : mg "_law_of" = some (.ref a__law_of)
  k__law_of : PySem.W.keepIn K (.ref a__law_of) = true
  b__law_of : Binds K d__law_of ["_law_bag_here", "_law_things"] []
  a__law_odd : Addr
  d__law_odd : FuncData
  F__law_odd : Fun K "_law_odd" "_law_odd" s__law_odd a__law_odd d__law_odd
  m__law_odd : mg "_law_odd" = some (.ref a__law_odd)
  k__law_odd : PySem.W.keepIn K (.ref a__law_odd) = true
  b__law_odd : Binds K d__law_odd ["_law_bag_here", "_law_more"] []
  a__law_titles : Addr
  d__law_titles : FuncData
  F__law_titles : Fun K "_law_titles" "_law_titles" s__law_titles a__law_titles d__law_titles
  m__law_titles : mg "_law_titles" = some (.ref a__law_titles)
  k__law_titles : PySem.W.keepIn K (.ref a__law_titles) = true
  b__law_titles : Binds K d__law_titles ["_law_bag_here", "_law_many"] []
  a__law_number : Addr
  d__law_number : FuncData
  F__law_number : Fun K "_law_number" "_law_number" s__law_number a__law_number d__law_number
  m__law_number : mg "_law_number" = some (.ref a__law_number)
  k__law_number : PySem.W.keepIn K (.ref a__law_number) = true
  b__law_number : Binds K d__law_number ["_law_bag_here"] []
  a__law_r : Addr
  d__law_r : FuncData
  F__law_r : Fun K "_law_r" "_law_r" s__law_r a__law_r d__law_r
  m__law_r : mg "_law_r" = some (.ref a__law_r)
  k__law_r : PySem.W.keepIn K (.ref a__law_r) = true
  b__law_r : Binds K d__law_r ["_law_bag_here"] []
  a__law_code_row : Addr
  d__law_code_row : FuncData
  F__law_code_row : Fun K "_law_code_row" "_law_code_row" s__law_code_row a__law_code_row d__law_code_row
  m__law_code_row : mg "_law_code_row" = some (.ref a__law_code_row)
  k__law_code_row : PySem.W.keepIn K (.ref a__law_code_row) = true
  b__law_code_row : Binds K d__law_code_row ["_law_bag_here", "_law_titles_here"] []
  a__law_last_row : Addr
  d__law_last_row : FuncData
  F__law_last_row : Fun K "_law_last_row" "_law_last_row" s__law_last_row a__law_last_row d__law_last_row
  m__law_last_row : mg "_law_last_row" = some (.ref a__law_last_row)
  k__law_last_row : PySem.W.keepIn K (.ref a__law_last_row) = true
  b__law_last_row : Binds K d__law_last_row ["_law_bag_here", "_law_titles_here"] []
  a__law_data_row : Addr
  d__law_data_row : FuncData
  F__law_data_row : Fun K "_law_data_row" "_law_data_row" s__law_data_row a__law_data_row d__law_data_row
  m__law_data_row : mg "_law_data_row" = some (.ref a__law_data_row)
  k__law_data_row : PySem.W.keepIn K (.ref a__law_data_row) = true
  b__law_data_row : Binds K d__law_data_row ["_law_bag_here", "_law_titles_here"] []
  a__law_row_text : Addr
  d__law_row_text : FuncData
  F__law_row_text : Fun K "_law_row_text" "_law_row_text" s__law_row_text a__law_row_text d__law_row_text
  m__law_row_text : mg "_law_row_text" = some (.ref a__law_row_text)
  k__law_row_text : PySem.W.keepIn K (.ref a__law_row_text) = true
  b__law_row_text : Binds K d__law_row_text ["_law_one"] []
  a__law_is_title : Addr
  d__law_is_title : FuncData
  F__law_is_title : Fun K "_law_is_title" "_law_is_title" s__law_is_title a__law_is_title d__law_is_title
  m__law_is_title : mg "_law_is_title" = some (.ref a__law_is_title)
  k__law_is_title : PySem.W.keepIn K (.ref a__law_is_title) = true
  b__law_is_title : Binds K d__law_is_title ["_law_thing"] []
  a__law_within : Addr
  d__law_within : FuncData
  F__law_within : Fun K "_law_within" "_law_within" s__law_within a__law_within d__law_within
  m__law_within : mg "_law_within" = some (.ref a__law_within)
  k__law_within : PySem.W.keepIn K (.ref a__law_within) = true
  b__law_within : Binds K d__law_within ["_law_thing", "_law_low_y", "_law_high_y"] []
  a__law_code_so : Addr
  d__law_code_so : FuncData
  F__law_code_so : Fun K "_law_code_so" "_law_code_so" s__law_code_so a__law_code_so d__law_code_so
  m__law_code_so : mg "_law_code_so" = some (.ref a__law_code_so)
  k__law_code_so : PySem.W.keepIn K (.ref a__law_code_so) = true
  b__law_code_so : Binds K d__law_code_so ["_law_thing"] []
  a__law_data_so : Addr
  d__law_data_so : FuncData
  F__law_data_so : Fun K "_law_data_so" "_law_data_so" s__law_data_so a__law_data_so d__law_data_so
  m__law_data_so : mg "_law_data_so" = some (.ref a__law_data_so)
  k__law_data_so : PySem.W.keepIn K (.ref a__law_data_so) = true
  b__law_data_so : Binds K d__law_data_so ["_law_thing"] []
  a__law_figure : Addr
  d__law_figure : FuncData
  F__law_figure : Fun K "_law_figure" "_law_figure" s__law_figure a__law_figure d__law_figure
  m__law_figure : mg "_law_figure" = some (.ref a__law_figure)
  k__law_figure : PySem.W.keepIn K (.ref a__law_figure) = true
  b__law_figure : Binds K d__law_figure ["_law_word_y"] []
  a__law_row_of : Addr
  d__law_row_of : FuncData
  F__law_row_of : Fun K "_law_row_of" "_law_row_of" s__law_row_of a__law_row_of d__law_row_of
  m__law_row_of : mg "_law_row_of" = some (.ref a__law_row_of)
  k__law_row_of : PySem.W.keepIn K (.ref a__law_row_of) = true
  b__law_row_of : Binds K d__law_row_of ["_law_words", "_law_side"] []
  a__law_mixed : Addr
  d__law_mixed : FuncData
  F__law_mixed : Fun K "_law_mixed" "_law_mixed" s__law_mixed a__law_mixed d__law_mixed
  m__law_mixed : mg "_law_mixed" = some (.ref a__law_mixed)
  k__law_mixed : PySem.W.keepIn K (.ref a__law_mixed) = true
  b__law_mixed : Binds K d__law_mixed ["_law_bag_here", "_law_things"] []
  a__law_bent_text : Addr
  d__law_bent_text : FuncData
  F__law_bent_text : Fun K "_law_bent_text" "_law_bent_text" s__law_bent_text a__law_bent_text d__law_bent_text
  m__law_bent_text : mg "_law_bent_text" = some (.ref a__law_bent_text)
  k__law_bent_text : PySem.W.keepIn K (.ref a__law_bent_text) = true
  b__law_bent_text : Binds K d__law_bent_text ["_law_bag_here", "_law_told"] []
  a_law : Addr
  d_law : FuncData
  F_law : Fun K "law" "law" s_law a_law d_law
  m_law : mg "law" = some (.ref a_law)
  k_law : PySem.W.keepIn K (.ref a_law) = true
  b_law : Binds K d_law ["_law_script"] []
  kb_row_text_0_row : KBn K d_row_text ["row"] 0 ["row"] (gk_row_text_0_row (α := Value)) (gk_row_text_0_row (α := V))
  kb_read_row_0_text : KBn K d_read_row ["text"] 0 ["text"] (gk_read_row_0_text (α := Value)) (gk_read_row_0_text (α := V))
  u_MOST_LETTERS : Value
  m_MOST_LETTERS : mg "MOST_LETTERS" = some u_MOST_LETTERS
  r_MOST_LETTERS : RelV (.int 6) u_MOST_LETTERS
  u_LETTERS : Value
  m_LETTERS : mg "LETTERS" = some u_LETTERS
  r_LETTERS : RelV (.str "abcdefghijklmnopqrstuvwxyz") u_LETTERS
  a_REGISTERS : Addr
  m_REGISTERS : mg "REGISTERS" = some (.ref a_REGISTERS)
  kd_REGISTERS : KD K (.ref a_REGISTERS) (.tup [(.str "r0"), (.str "r1"), (.str "r2")])
  u_MOST_WORD : Value
  m_MOST_WORD : mg "MOST_WORD" = some u_MOST_WORD
  r_MOST_WORD : RelV (.int 65535) u_MOST_WORD
  u_MOST_ROOM : Value
  m_MOST_ROOM : mg "MOST_ROOM" = some u_MOST_ROOM
  r_MOST_ROOM : RelV (.int 120) u_MOST_ROOM
  u_MOST_DISTANCE : Value
  m_MOST_DISTANCE : mg "MOST_DISTANCE" = some u_MOST_DISTANCE
  r_MOST_DISTANCE : RelV (.int 15) u_MOST_DISTANCE
  a_CODE_FORMS : Addr
  m_CODE_FORMS : mg "CODE_FORMS" = some (.ref a_CODE_FORMS)
  kd_CODE_FORMS : KDic K w a_CODE_FORMS [("put", (.str "rw")), ("name", (.str "rn")), ("add", (.str "rr")), ("take", (.str "rr")), ("load", (.str "rrd")), ("store", (.str "rrd")), ("jump", (.str "n")), ("ifzero", (.str "rn")), ("call", (.str "n")), ("callby", (.str "r")), ("back", (.str "")), ("out", (.str "r")), ("halt", (.str "")), ("room", (.str "k"))]
  a_DATA_FORMS : Addr
  m_DATA_FORMS : mg "DATA_FORMS" = some (.ref a_DATA_FORMS)
  kd_DATA_FORMS : KDic K w a_DATA_FORMS [("word", (.str "w")), ("address", (.str "n")), ("room", (.str "k"))]
  u_MOST_FIGURES : Value
  m_MOST_FIGURES : mg "MOST_FIGURES" = some u_MOST_FIGURES
  r_MOST_FIGURES : RelV (.int 5) u_MOST_FIGURES
  u_FIGURES : Value
  m_FIGURES : mg "FIGURES" = some u_FIGURES
  r_FIGURES : RelV (.str "0123456789") u_FIGURES
  n_isinstance : mg "isinstance" = none
  n_tuple : mg "tuple" = none
  n_str : mg "str" = none
  n_len : mg "len" = none
  n_int : mg "int" = none
  n_bool : mg "bool" = none
  n_all : mg "all" = none
  n_zip : mg "zip" = none
  n_list : mg "list" = none
  n_abs : mg "abs" = none
  n_range : mg "range" = none
section
variable {P : Program} {w : World} {K : PySem.W.Frag} {mg : Str → Option Value} {base : Heap}

theorem ok__law_bag (T : Tx K mg w) : FnOk P w K mg base CX0 1 T.a__law_bag T.d__law_bag ["_law_script"] (spBag K) := by
  refine fn_newBag T.F__law_bag sc__law_bag (fun cdv A outer s H E hr => ⟨_, (pss_cons (ps_set (i := 1) sc__law_bag.nd rfl (Or.inl rfl) pe_int)
      (pss_cons (ps_for PassesOwn.never rfl (pi_listA (K := K) (pe_slice (sl_any (K := K)) (pv 0) po_none (po_some pe_int))) (pg_name (i := 2) sc__law_bag.nd rfl (Or.inl rfl)) (pss_one (ps_set (i := 1) sc__law_bag.nd rfl (Or.inl rfl) (pe_op op_mod (pe_callTy call_int1 (by rfl) T.n_int PyProof.Rows.boot_int (pa_cons (pe_op (op_plus (K := K)) (pe_op (op_plus (K := K)) (pe_op op_mul (pv 1) pe_int) (pe_op op_mul (pe_op op_mod (pe_callTy call_int1 (by rfl) T.n_int PyProof.Rows.boot_int (pa_cons (pv 2) pa_nil)) pe_int) pe_int)) pe_int) pa_nil)) pe_int))))
      (pss_one (ps_ret (pe_lst (pa_cons (pe_callTy (call_listB (K := K) rfl) (by rfl) T.n_list PyProof.Rows.boot_list (pa_cons (pe_slice (sl_any (K := K)) (pv 0) po_none (po_some pe_int)) pa_nil)) (pa_cons pe_int (pa_cons pe_int (pa_cons (pv 1) (pa_cons pe_int pa_nil)))))))))), fun H0 a ns hS => ?_⟩)
  dsimp only [cxOf, env0, env1, List.map, List.length, List.replicate, List.cons_append, List.nil_append, List.append, Nat.reduceAdd, Nat.reduceSub, Nat.zero_add]
  refine sm_seq (sm_set (ev_int ?_))
  refine sm_seq (sm_for (ei_list (EvO.ev (eo_slRaw rfl hS (fun z => nomatch z) (ep_none (ep_some (ev_int (int_ex (lst_ex ⟨fun _ e => ∃ m s, e = [.r (.ref a), .d (.int m), s] ∧ 0 ≤ m ∧ m < 2147483648, ⟨12026, .no, rfl, by decide, by decide⟩, ?_, ?_⟩)))))))))
  · rintro i x es' hx ⟨m, s, rfl, h0, h1⟩
    obtain ⟨n, rfl⟩ := of_mem_ints hx
    refine tg_name ?_
    repeat walk_at "y"
    exact ⟨_, _, rfl, by omega, by omega⟩
  · rintro es' ⟨m, s, rfl, h0, h1⟩
    refine sm_retO (eo_lst (ea_cons (EvO.ev (eo_listL (ea_cons (EvO.ev (eo_slRaw rfl hS (fun z => nomatch z) (ep_none (ep_some (ev_int (int_ex (ea_nil ⟨_, Or.inl rfl, ?_⟩))))))))))))
    repeat walk_at "y"
    exact ⟨_, 0, 0, m, 0, rfl, by decide, by decide, h0, h1⟩

theorem ok__law_draw (T : Tx K mg w) : FnOk P w K mg base CX0 1 T.a__law_draw T.d__law_draw ["_law_bag_here", "_law_sides"] (spB K drawPre drawPost) := by
  refine fn_draw T.F__law_draw sc__law_draw (fun ds h => ?_) (fun cdv A outer s H E hr => ⟨_, (pss_cons (ps_asg (pe_op (op_plus (K := K)) (pe_ix (ix_any (K := K)) (pv 0) pe_int (fun _ _ => rfl)) pe_int) (pg_sub (pv 0) pe_int set_list))
      (pss_cons (ps_if (PW.pt (pw_and (pt_cmpR (op_eqA (K := K) hr.units) (pe_ix (ix_any (K := K)) (pv 0) pe_int (fun _ _ => rfl)) pe_int (nomark _)) (pw_and1 (pt_cmpR op_lt (pe_ix (ix_any (K := K)) (pv 0) pe_int (fun _ _ => rfl)) (pe_callB (call_lenA (K := K)) (by rfl) T.n_len PySem.boot_len (pa_cons (pe_ix (ix_any (K := K)) (pv 0) pe_int (fun _ _ => rfl)) pa_nil)) (nomark _))))) (pss_cons (ps_set (i := 2) sc__law_draw.nd rfl (Or.inl rfl) (pe_callTy call_int1 (by rfl) T.n_int PyProof.Rows.boot_int (pa_cons (pe_ix (ix_any (K := K)) (pe_ix (ix_any (K := K)) (pv 0) pe_int (fun _ _ => rfl)) (pe_ix (ix_any (K := K)) (pv 0) pe_int (fun _ _ => rfl)) (fun _ _ => rfl)) pa_nil)))
      (pss_cons (ps_asg (pe_op (op_plus (K := K)) (pe_ix (ix_any (K := K)) (pv 0) pe_int (fun _ _ => rfl)) pe_int) (pg_sub (pv 0) pe_int set_list))
      (pss_one (ps_if (pt_cmpR op_ge (pe_callB call_abs (by rfl) T.n_abs PyProof.Rows.boot_abs (pa_cons (pv 2) pa_nil)) (pe_op op_pow pe_int pe_int) (nomark _)) (pss_one (ps_asg (pe_callB call_abs (by rfl) T.n_abs PyProof.Rows.boot_abs (pa_cons (pv 2) pa_nil)) (pg_sub (pv 0) pe_int set_list))) (pss_one (ps_asg (pe_op op_mod (pe_callTy call_int1 (by rfl) T.n_int PyProof.Rows.boot_int (pa_cons (pe_op (op_plus (K := K)) (pe_op (op_plus (K := K)) (pe_op op_mul (pe_ix (ix_any (K := K)) (pv 0) pe_int (fun _ _ => rfl)) pe_int) (pe_op op_mul (pe_op op_mod (pe_callTy call_int1 (by rfl) T.n_int PyProof.Rows.boot_int (pa_cons (pv 2) pa_nil)) pe_int) pe_int)) pe_int) pa_nil)) pe_int) (pg_sub (pv 0) pe_int set_list))))))) pss_nil)
      (pss_cons (ps_if (pt_cmpR op_gt (pe_ix (ix_any (K := K)) (pv 0) pe_int (fun _ _ => rfl)) pe_int (nomark _)) (pss_cons (ps_set (i := 3) sc__law_draw.nd rfl (Or.inl rfl) (pe_op op_mod (pe_callTy call_int1 (by rfl) T.n_int PyProof.Rows.boot_int (pa_cons (pe_ix (ix_any (K := K)) (pv 0) pe_int (fun _ _ => rfl)) pa_nil)) (pv 1)))
      (pss_cons (ps_asg (pe_op op_fdiv (pe_ix (ix_any (K := K)) (pv 0) pe_int (fun _ _ => rfl)) (pv 1)) (pg_sub (pv 0) pe_int set_list))
      (pss_one (ps_ret (pv 3))))) pss_nil)
      (pss_cons (ps_set (i := 4) sc__law_draw.nd rfl (Or.inl rfl) (pe_callTy call_int1 (by rfl) T.n_int PyProof.Rows.boot_int (pa_cons (pe_ix (ix_any (K := K)) (pv 0) pe_int (fun _ _ => rfl)) pa_nil)))
      (pss_cons (ps_asg (pe_op op_mod (pe_callTy call_int1 (by rfl) T.n_int PyProof.Rows.boot_int (pa_cons (pe_op (op_plus (K := K)) (pe_op (op_plus (K := K)) (pe_op (op_plus (K := K)) (pe_op op_mul (pe_op op_mul (pv 4) (pv 4)) pe_int) (pe_op op_mul (pv 4) pe_int)) (pe_op op_mul (pe_ix (ix_any (K := K)) (pv 0) pe_int (fun _ _ => rfl)) pe_int)) pe_int) pa_nil)) pe_int) (pg_sub (pv 0) pe_int set_list))
      (pss_one (ps_ret (pe_op op_mod (pe_callTy call_int1 (by rfl) T.n_int PyProof.Rows.boot_int (pa_cons (pe_op (op_plus (K := K)) (pe_op op_fdiv (pe_ix (ix_any (K := K)) (pv 0) pe_int (fun _ _ => rfl)) pe_int) (pe_op op_mul (pe_op op_mod (pe_callTy call_int1 (by rfl) T.n_int PyProof.Rows.boot_int (pa_cons (pe_ix (ix_any (K := K)) (pv 0) pe_int (fun _ _ => rfl)) pa_nil)) pe_int) pe_int)) pa_nil)) (pv 1))))))))), fun F0 H0 b xs ds hB h => ?_⟩)
  · obtain ⟨n, rfl, _⟩ := h; rfl
  · obtain ⟨n, rfl, hn, hn2⟩ := h
    obtain ⟨ns, i, r, m, k, rfl, hi, hr0, hm, hm2⟩ := hB
    dsimp only [cxOf, env0, env1, List.map, List.length, List.replicate, List.cons_append, List.nil_append, List.append, Nat.reduceAdd, Nat.reduceSub, Nat.zero_add]
    refine sm_seq ?_
    walk_at "y"
    repeat walk_at "yx"
    refine sm_cut (fun e => ∃ i r m k s, e = [.own b [.lst (ns.map Dt.int), .int i, .int r, .int m, .int k], .d (.int n), s, .no, .no] ∧ 0 ≤ i ∧ 0 ≤ r ∧ 0 ≤ m ∧ m < 2147483648) ?_ ?_
    · repeat walk_at "y"
      refine ways (fun h => ?_) (fun h => ?_)
      · repeat walk_at "y"
        refine ways (fun h => ?_) (fun h => ?_)
        · have h2 := of_decide_eq_true h
          have h3 : i < (ns.map Dt.int).length := h2
          obtain ⟨x, hx, hxm⟩ := atI_of hi h3
          obtain ⟨v, _, rfl⟩ := List.mem_map.mp hxm
          refine sm_seq (sm_set (ev_cb (ea_cons ?_)))
          refine ev_op ?_
          repeat walk_at "y"
          refine o_ixAL hx ?_
          repeat walk_at "y"
          refine ways (fun h => ?_) (fun h => ?_)
          · repeat walk_at "y"
            exact ⟨_, _, _, _, _, rfl, by omega, by split <;> omega, hm, hm2⟩
          · repeat walk_at "y"
            exact ⟨_, _, _, _, _, rfl, by omega, hr0, by omega, by omega⟩
        · repeat walk_at "y"
          exact ⟨_, _, _, _, _, rfl, hi, hr0, hm, hm2⟩
      · repeat walk_at "y"
        exact ⟨_, _, _, _, _, rfl, hi, hr0, hm, hm2⟩
    · rintro es' ⟨i, r, m, k, s, rfl, hi, hr0, hm, hm2⟩
      refine sm_seq (sm_if ?_)
      repeat walk_at "y"
      refine ways (fun h => ?_) (fun h => ?_)
      · repeat walk_at "y"
        exact ⟨⟨n, _, rfl, rfl, Int.emod_nonneg _ (by omega), Int.emod_lt_of_pos _ hn⟩, _, rfl, _, _, _, _, _, rfl, hi, Int.ediv_nonneg hr0 (by omega), hm, hm2⟩
      · repeat walk_at "y"
        refine ⟨⟨n, _, rfl, rfl, Int.emod_nonneg _ (by omega), Int.emod_lt_of_pos _ hn⟩, _, rfl, _, _, _, _, _, rfl, hi, hr0, ?_, ?_⟩
        · exact Int.emod_nonneg _ (by decide)
        · have := Int.emod_lt_of_pos (m * m * 19 + m * 47111 + k * 110323 + 60089) (show (0 : Int) < 2147483549 by decide)
          omega
end
end Law
set_option pp.deepTerms false
set_option pp.deepTerms.threshold 6
namespace Law
open PySem L2 Y
local macro_rules | `(tactic| walk_at "yv") => `(tactic| ((with_reducible show Ev _ (tVar _) _ _); refine ev_var rfl ?_))
local macro_rules | `(tactic| walk_at "ys") => `(tactic| with_reducible first
  | refine sm_seq ?_ | refine sm_ret ?_ | refine sm_if ?_ | refine sm_set ?_ | refine sm_next ?_ | refine sm_par ?_ | refine sm_drop ?_ | refine sm_brk ?_ | refine sm_cont ?_)
local macro_rules | `(tactic| walk_at "ye") => `(tactic| with_reducible first
  | refine ev_op ?_ | refine ev_and ?_ | refine ev_or ?_ | refine ev_not ?_ | refine ev_if ?_ | refine ev_chain ?_ | refine ev_neg ?_ | refine ev_isInt ?_ | refine ev_isBool ?_ | refine ev_isStr ?_ | refine ev_isList ?_ | refine ev_isTuple ?_ | refine ev_isLT ?_ | refine ev_isDict ?_
  | refine ev_int ?_ | refine ev_str ?_ | refine ev_bl ?_ | refine ev_non ?_ | refine ev_call ?_ | refine ev_cb ?_ | refine ev_lst ?_ | refine ev_tup ?_ | refine ev_join ?_
  | refine ea_nil ?_ | refine ea_cons ?_
  | refine et_B ?_ | refine et_test ?_ | refine et_not ?_ | refine et_and ?_ | refine et_or ?_ | refine et_yes ?_
  | refine o_plusI ?_ | refine o_i0 ?_ | refine o_b0 ?_ | refine o_isN ?_ | refine o_notN ?_
  | refine bl_ex ?_ | refine int_ex ?_ | refine str_ex ?_ | refine lst_ex ?_ | refine tup_ex ?_)
local macro_rules | `(tactic| walk_at "yo") => `(tactic| first
  | ((with_reducible show Ev _ (tOp (rIx _) (tVar _) _) _ _); refine ev_ixOwn rfl ?_)
  | ((with_reducible show Ev _ (tCB _ (tCons (tVar _) tNil)) _ _); refine ev_lenOwn rfl ?_)
  | ((with_reducible show Sm _ (tAsg _ (gSub (tVar _) _ _)) _ _); refine sm_setItem rfl ?_)
  | ((with_reducible show Ev _ (tCall (spB _ _ _) _ _ _) _ _); refine ev_callB rfl rfl ?_))
local macro_rules | `(tactic| walk_at "yc") => `(tactic| first
  | ((with_reducible show CMul _ _); first | exact Or.inr ⟨by decide, by decide⟩ | exact Or.inl ⟨by decide, by decide⟩ | exact Or.inr ⟨by omega, by omega⟩ | exact Or.inl ⟨by omega, by omega⟩)
  | ((with_reducible show CDiv _ _); exact ⟨by first | decide | omega, by first | decide | omega⟩)
  | ((with_reducible show CPow _ _); exact ⟨by decide, by decide, by first | decide | omega⟩)
  | ((show (0 : Int) < _); first | decide | omega))
local macro_rules | `(tactic| walk_at "yd") => `(tactic| first
  | ((with_reducible show plainD _ = true ∧ _); refine ⟨by first | rfl | assumption, ?_⟩)
  | ((with_reducible show (_ = true → _) ∧ (_ = false → _)); first | refine way_t rfl ?_ | refine way_f rfl ?_ | refine way_t (by decide +kernel) ?_ | refine way_f (by decide +kernel) ?_)
  | ((with_reducible show Cal _ _ _ _ _); first | (with_reducible refine c_int ?_) | (with_reducible refine c_abs ?_) | (refine c_len rfl ?_) | (refine c_len (if_pos (by assumption)) ?_))
  | ((with_reducible show Op2 _ (rEqA _) _ _ _ _); refine o_eqA rfl ?_)
  | ((with_reducible show Op2 _ (rNeA _) _ _ _ _); refine o_neA rfl ?_)
  | ((with_reducible show Op2 _ (rInA _) _ (Dt.str _) (Dt.lst _) _); refine o_inAL rfl rfl ?_)
  | ((with_reducible show Op2 _ (rInA _) _ (Dt.str _) (Dt.tup _) _); refine o_inAT rfl rfl ?_)
  | ((with_reducible show Op2 _ (rI _ _) _ _ _ _); refine o_i (by walk_at "yc") ?_)
  | ((with_reducible show Op2 _ (rIx _) _ (Dt.tup _) _ _); refine o_ixAT (atI_toNat (by decide) rfl) ?_)
  | ((with_reducible show Op2 _ (rIx _) _ (Dt.lst _) _ _); refine o_ixAL (atI_toNat (by decide) rfl) ?_)
  | ((with_reducible show ∃ x, atI _ _ = some x ∧ _); refine ⟨_, rfl, ?_⟩)
  | ((with_reducible show ∃ x, ixN _ _ = some x ∧ _); refine ⟨_, rfl, ?_⟩)
  | ((with_reducible show List.length _ ≤ 100000 ∧ _); refine ⟨by (try simp only [List.length_cons, List.length_nil]); first | decide | omega, ?_⟩))
local macro_rules | `(tactic| walk_at "y") => `(tactic| first | walk_at "yo" | walk_at "ye" | walk_at "yv" | walk_at "ys" | walk_at "yd")
local macro_rules | `(tactic| walk_at "yx") => `(tactic| first | walk_at "yo" | walk_at "ye" | walk_at "yv" | walk_at "yd")
section
variable {P : Program} {w : World} {K : PySem.W.Frag} {mg : Str → Option Value} {base : Heap}

theorem ok__law_of (T : Tx K mg w) : FnOk P w K mg base CX0 2 T.a__law_of T.d__law_of ["_law_bag_here", "_law_things"] (spB K ofPre ofPost) := by
  have G__law_draw := ok__law_draw (P := P) (w := w) (base := base) T
  refine fn_bag T.F__law_of sc__law_of (fun ds h => ?_) (fun cdv A outer s H E hr => ⟨_, (pss_one (ps_ret (pe_ix (ix_any (K := K)) (pv 1) (pe_call G__law_draw (hr.mono (by decide)) (by rfl) T.m__law_draw T.k__law_draw T.b__law_draw .nil pass0 (pa_cons (pv 0) (pa_cons (pe_callB (call_lenA (K := K)) (by rfl) T.n_len PySem.boot_len (pa_cons (pv 1) pa_nil)) pa_nil))) (fun _ _ => rfl)))), fun F0 H0 b ds h => ?_⟩)
  · obtain ⟨x, rfl, _⟩ := h; rfl
  · obtain ⟨x, rfl, h1, h2⟩ := h
    dsimp only [cxOf, env0, env1, List.map, List.length, List.replicate, List.cons_append, List.nil_append, List.append, Nat.reduceAdd, Nat.reduceSub, Nat.zero_add]
    refine sm_ret (ev_op ?_)
    cases x with
    | lst xs =>
      have h1 : 0 < xs.length := h1
      have h2 : xs.length ≤ 100000 := h2
      repeat walk_at "yx"
      refine ⟨⟨_, rfl, by omega, by omega⟩, ?_⟩
      rintro d ⟨n, i, e, rfl, k1, k2⟩
      cases e
      obtain ⟨y, hy, hm⟩ := atI_of k1 k2
      exact o_ixAL hy ⟨_, rfl, hm⟩
    | tup xs =>
      have h1 : 0 < xs.length := h1
      have h2 : xs.length ≤ 100000 := h2
      repeat walk_at "yx"
      refine ⟨⟨_, rfl, by omega, by omega⟩, ?_⟩
      rintro d ⟨n, i, e, rfl, k1, k2⟩
      cases e
      obtain ⟨y, hy, hm⟩ := atI_of k1 k2
      exact o_ixAT hy ⟨_, rfl, hm⟩
    | str z =>
      have h1 : 0 < (signsD z).length := h1
      have h2 : (signsD z).length ≤ 100000 := h2
      rw [signsD_len] at h1 h2
      have hl : z.length ≤ 100000 := h2
      have e0 : z.length = z.cps.size := rfl
      refine ev_var rfl ?_
      refine ev_callB rfl rfl ?_
      refine ea_cons (ev_cb (ea_cons (ev_var rfl (ea_nil (c_len (n := z.length) (if_pos hl) (ea_nil ?_))))))
      refine ⟨⟨_, rfl, by omega, by omega⟩, ?_⟩
      rintro d ⟨n, i, e, rfl, k1, k2⟩
      cases e
      obtain ⟨y, hy, hm⟩ := atI_ofN (xs := z.cps.toList) k1 (by rw [Array.length_toList]; exact k2)
      exact o_ixAS hl hy ⟨_, rfl, List.mem_map.mpr ⟨y, hm, rfl⟩⟩
    | _ => exact absurd (show 0 < 0 from h1) (Nat.lt_irrefl 0)

theorem ok__law_same (T : Tx K mg w) : ∀ n, FnOk P w K mg base CX0 n T.a__law_same T.d__law_same ["_law_found", "_law_due"] (spD K (samePre n) sameTrue)
  | 0 => fn_none fun ds h => by obtain ⟨x, _, _, h⟩ := h; omega
  | n + 1 => by
    have G__law_same := ok__law_same T n
    refine fn_data T.F__law_same sc__law_same (fun ds h => ?_) (fun cdv A outer s H E hr => ⟨_, (pss_cons (ps_if (PW.pt (pw_or (pt_cmpR op_isN (pv 1) pe_non (nomark _)) (pw_or1 (pt_cmpR op_isN (pv 0) pe_non (nomark _))))) (pss_one (ps_ret (pe_and (pe_cmpR op_isN (pv 1) pe_non (nomark _)) (pe_one (pe_cmpR op_isN (pv 0) pe_non (nomark _)))))) pss_nil)
      (pss_cons (ps_if (pt_val (pe_callB (call_isiTA (K := K)) (by rfl) T.n_isinstance PyProof.Rows.boot_isinstance (pa_cons (pv 1) (pa_cons (pe_tup (pa_cons (pe_bltn (v := .ty "list") (by rfl) T.n_list (by decide +kernel) rfl) (pa_cons (pe_bltn (v := .ty "tuple") (by rfl) T.n_tuple (by decide +kernel) rfl) pa_nil))) pa_nil)))) (pss_cons (ps_if (PW.pt (pw_or (pt_cmpR (op_neA (K := K) hr.units) (pe_callB (call_isiA (K := K)) (by rfl) T.n_isinstance PyProof.Rows.boot_isinstance (pa_cons (pv 0) (pa_cons (pe_bltn (v := .ty "list") (by rfl) T.n_list (by decide +kernel) rfl) pa_nil))) (pe_callB (call_isiA (K := K)) (by rfl) T.n_isinstance PyProof.Rows.boot_isinstance (pa_cons (pv 1) (pa_cons (pe_bltn (v := .ty "list") (by rfl) T.n_list (by decide +kernel) rfl) pa_nil))) (nomark _)) (pw_or1 (pt_cmpR (op_neA (K := K) hr.units) (pe_callB (call_isiA (K := K)) (by rfl) T.n_isinstance PyProof.Rows.boot_isinstance (pa_cons (pv 0) (pa_cons (pe_bltn (v := .ty "tuple") (by rfl) T.n_tuple (by decide +kernel) rfl) pa_nil))) (pe_callB (call_isiA (K := K)) (by rfl) T.n_isinstance PyProof.Rows.boot_isinstance (pa_cons (pv 1) (pa_cons (pe_bltn (v := .ty "tuple") (by rfl) T.n_tuple (by decide +kernel) rfl) pa_nil))) (nomark _))))) (pss_one (ps_ret pe_bl)) pss_nil)
      (pss_one (ps_ret (pe_and (pe_cmpR (op_eqA (K := K) hr.units) (pe_callB (call_lenA (K := K)) (by rfl) T.n_len PySem.boot_len (pa_cons (pv 0) pa_nil)) (pe_callB (call_lenA (K := K)) (by rfl) T.n_len PySem.boot_len (pa_cons (pv 1) pa_nil)) (nomark _)) (pe_one (pe_callB (cr_allA (K := K) rfl) (by rfl) T.n_all PyProof.Rows.boot_all (pa_cons (pe_lc (own := [("_law_a", 2), ("_law_b", 3)]) (g := gTup K 2 (gCons (gName 2) (gCons (gName 3) gNil))) rfl sc__law_same.nd (pi_zipB (K := K) (by rfl) T.n_zip (pa_cons (pv 0) (pa_cons (pv 1) pa_nil))) (blkOk_by (N := ["_law_found", "_law_due", "_law_a", "_law_b"]) (sc := defScope s__law_same) (by decide +kernel)) (fun _ _ _ _ _ => (pg_tupA (K := K) rfl (pgs_cons (pg_name (i := 2) sc__law_same.nd rfl (Or.inl rfl)) (pgs_cons (pg_name (i := 3) sc__law_same.nd rfl (Or.inl rfl)) pgs_nil)))) (fun _ _ _ _ _ => pts_nil) (fun _ _ _ _ _ => (pe_call G__law_same hr (by rfl) T.m__law_same T.k__law_same T.b__law_same .nil pass0 (pa_cons (pv 2) (pa_cons (pv 3) pa_nil))))) pa_nil))))))) pss_nil)
      (pss_cons (ps_if (PW.pt (pw_or (pt_cmpR (op_neA (K := K) hr.units) (pe_callB (call_isiA (K := K)) (by rfl) T.n_isinstance PyProof.Rows.boot_isinstance (pa_cons (pv 1) (pa_cons (pe_bltn (v := .ty "bool") (by rfl) T.n_bool (by decide +kernel) rfl) pa_nil))) (pe_callB (call_isiA (K := K)) (by rfl) T.n_isinstance PyProof.Rows.boot_isinstance (pa_cons (pv 0) (pa_cons (pe_bltn (v := .ty "bool") (by rfl) T.n_bool (by decide +kernel) rfl) pa_nil))) (nomark _)) (pw_or1 (pt_cmpR (op_neA (K := K) hr.units) (pe_callB (call_isiA (K := K)) (by rfl) T.n_isinstance PyProof.Rows.boot_isinstance (pa_cons (pv 1) (pa_cons (pe_bltn (v := .ty "int") (by rfl) T.n_int (by decide +kernel) rfl) pa_nil))) (pe_callB (call_isiA (K := K)) (by rfl) T.n_isinstance PyProof.Rows.boot_isinstance (pa_cons (pv 0) (pa_cons (pe_bltn (v := .ty "int") (by rfl) T.n_int (by decide +kernel) rfl) pa_nil))) (nomark _))))) (pss_one (ps_ret pe_bl)) pss_nil)
      (pss_one (ps_ret (pe_and (pe_cmpR (op_eqA (K := K) hr.units) (pe_callB (call_isiA (K := K)) (by rfl) T.n_isinstance PyProof.Rows.boot_isinstance (pa_cons (pv 1) (pa_cons (pe_bltn (v := .ty "str") (by rfl) T.n_str (by decide +kernel) rfl) pa_nil))) (pe_callB (call_isiA (K := K)) (by rfl) T.n_isinstance PyProof.Rows.boot_isinstance (pa_cons (pv 0) (pa_cons (pe_bltn (v := .ty "str") (by rfl) T.n_str (by decide +kernel) rfl) pa_nil))) (nomark _)) (pe_one (pe_cmpR (op_eqA (K := K) hr.units) (pv 0) (pv 1) (nomark _))))))))), fun F0 H0 ds h => ?_⟩)
    · obtain ⟨x, rfl, _⟩ := h; rfl
    · obtain ⟨x, rfl, hp, hd⟩ := h
      dsimp only [cxOf, env0, env1, List.map, List.length, List.replicate, List.cons_append, List.nil_append, List.append, Nat.reduceAdd, Nat.reduceSub, Nat.zero_add]
      cases x with
      | obj _ _ _ => unfold Dt.pureD at hp; cases hp
      | dct _ _ => unfold Dt.pureD at hp; cases hp
      | ali _ => unfold Dt.pureD at hp; cases hp
      | lst xs =>
        unfold Dt.depth at hd
        unfold Dt.pureD at hp
        rw [Bool.and_eq_true] at hp
        have hl := of_decide_eq_true hp.1
        repeat walk_at "y"
        refine way_t (by simp [dEq]) ?_
        refine ev_cb (ea_cons (EvO.ev (eo_mapF (fun _ => .bl true) (ei_zip ?_))))
        repeat walk_at "y"
        refine ⟨xs, xs, .inl rfl, ?_, ?_, ?_⟩
        · rw [pairD_len]; omega
        · intro p hpm
          obtain ⟨y, hy, rfl⟩ := pairD_mem hpm
          refine tc_tup2 (by decide) ?_
          repeat walk_at "y"
          exact ⟨⟨y, rfl, pureAll_mem hy hp.2, by have := depthAll_mem (n := n - 1) hy (by omega); omega⟩, fun d e => e⟩
        · refine ea_nil (c_allF (g := fun _ => true) ?_)
          show Dt.bl _ = .bl true
          simp
      | tup xs =>
        unfold Dt.depth at hd
        unfold Dt.pureD at hp
        rw [Bool.and_eq_true] at hp
        have hl := of_decide_eq_true hp.1
        repeat walk_at "y"
        refine way_t (by simp [dEq]) ?_
        refine ev_cb (ea_cons (EvO.ev (eo_mapF (fun _ => .bl true) (ei_zip ?_))))
        repeat walk_at "y"
        refine ⟨xs, xs, .inr rfl, ?_, ?_, ?_⟩
        · rw [pairD_len]; omega
        · intro p hpm
          obtain ⟨y, hy, rfl⟩ := pairD_mem hpm
          refine tc_tup2 (by decide) ?_
          repeat walk_at "y"
          exact ⟨⟨y, rfl, pureAll_mem hy hp.2, by have := depthAll_mem (n := n - 1) hy (by omega); omega⟩, fun d e => e⟩
        · refine ea_nil (c_allF (g := fun _ => true) ?_)
          show Dt.bl _ = .bl true
          simp
      | non =>
        repeat walk_at "y"
        rfl
      | _ =>
        repeat walk_at "y"
        show Dt.bl _ = .bl true
        simp [dEq]

theorem ok__law_odd (T : Tx K mg w) : FnOk P w K mg base CX0 3 T.a__law_odd T.d__law_odd ["_law_bag_here", "_law_more"] (spB K oddPre oddPost) := by
  have G__law_of := ok__law_of (P := P) (w := w) (base := base) T
  refine fn_bag T.F__law_odd sc__law_odd (fun ds h => ?_) (fun cdv A outer s H E hr => ⟨_, (pss_one (ps_ret (pe_call G__law_of (hr.mono (by decide)) (by rfl) T.m__law_of T.k__law_of T.b__law_of .nil pass0 (pa_cons (pv 0) (pa_cons (pe_op (op_plus (K := K)) (pe_lst (pa_cons pe_non (pa_cons pe_bl (pa_cons pe_bl (pa_cons pe_str (pa_cons pe_str (pa_cons (pe_un un_neg pe_int) (pa_cons pe_int (pa_cons (pe_tup pa_nil) (pa_cons (pe_lst pa_nil) (pa_cons (pe_tup (pa_cons pe_int pa_nil)) (pa_cons (pe_lst (pa_cons pe_str pa_nil)) (pa_cons pe_str (pa_cons (pe_tup (pa_cons pe_str (pa_cons pe_str pa_nil))) (pa_cons (pe_lst (pa_cons pe_non pa_nil)) pa_nil))))))))))))))) (pv 1)) pa_nil))))), fun F0 H0 b ds h => ?_⟩)
  · obtain ⟨x, rfl, _⟩ := h; rfl
  · obtain ⟨xs, rfl, h1⟩ := h
    dsimp only [cxOf, env0, env1, List.map, List.length, List.replicate, List.cons_append, List.nil_append, List.append, Nat.reduceAdd, Nat.reduceSub, Nat.zero_add]
    repeat walk_at "y"
    have hl : oddL.length = 14 := rfl
    refine o_plusL (by show oddL.length + _ ≤ _; omega) ?_
    repeat walk_at "y"
    refine ⟨⟨_, rfl, by show 0 < (oddL ++ xs).length; rw [List.length_append]; omega, by show (oddL ++ xs).length ≤ _; rw [List.length_append]; omega⟩, ?_⟩
    rintro d ⟨x, e, hm⟩
    cases e
    exact ⟨xs, rfl, hm⟩

theorem ok__law_within (T : Tx K mg w) : FnOk P w K mg base CX0 1 T.a__law_within T.d__law_within ["_law_thing", "_law_low_y", "_law_high_y"] (spD K numPre numPost) := by
  refine fn_data T.F__law_within sc__law_within (fun ds h => ?_) (fun cdv A outer s H E hr => ⟨_, (pss_one (ps_ret (pe_and (pe_callB (call_isiA (K := K)) (by rfl) T.n_isinstance PyProof.Rows.boot_isinstance (pa_cons (pv 0) (pa_cons (pe_bltn (v := .ty "int") (by rfl) T.n_int (by decide +kernel) rfl) pa_nil))) (pe_and (pe_not (pe_callB (call_isiA (K := K)) (by rfl) T.n_isinstance PyProof.Rows.boot_isinstance (pa_cons (pv 0) (pa_cons (pe_bltn (v := .ty "bool") (by rfl) T.n_bool (by decide +kernel) rfl) pa_nil)))) (pe_and (pe_cmpR op_le (pv 1) (pv 0) (nomark _)) (pe_one (pe_cmpR op_le (pv 0) (pv 2) (nomark _)))))))), fun F0 H0 ds h => ?_⟩)
  · obtain ⟨x, l, m, rfl, _⟩ := h; rfl
  · obtain ⟨x, l, m, rfl, hx⟩ := h
    dsimp only [cxOf, env0, env1, List.map, List.length, List.replicate, List.cons_append, List.nil_append, List.append, Nat.reduceAdd, Nat.reduceSub, Nat.zero_add]
    cases x with
    | obj _ _ _ => cases hx
    | ali _ => cases hx
    | int i =>
      repeat walk_at "y"
      refine ways (fun h => ?_) (fun h => ?_)
      · repeat walk_at "y"
        exact ⟨_, l, m, rfl, by show _ = Dt.bl (decide (l ≤ i) && decide (i ≤ m)); rw [h]; rfl⟩
      · repeat walk_at "y"
        exact ⟨_, l, m, rfl, by show _ = Dt.bl (decide (l ≤ i) && decide (i ≤ m)); rw [h]; rfl⟩
    | _ =>
      repeat walk_at "y"
      exact ⟨_, l, m, rfl, rfl⟩

theorem ok_is_number (T : Tx K mg w) : FnOk P w K mg base CX0 1 T.a_is_number T.d_is_number ["value", "least", "most"] (spD K numPre numPost) := by
  refine fn_data T.F_is_number sc_is_number (fun ds h => ?_) (fun cdv A outer s H E hr => ⟨_, (pss_one (ps_ret (pe_and (pe_callB (call_isiA (K := K)) (by rfl) T.n_isinstance PyProof.Rows.boot_isinstance (pa_cons (pv 0) (pa_cons (pe_bltn (v := .ty "int") (by rfl) T.n_int (by decide +kernel) rfl) pa_nil))) (pe_and (pe_not (pe_callB (call_isiA (K := K)) (by rfl) T.n_isinstance PyProof.Rows.boot_isinstance (pa_cons (pv 0) (pa_cons (pe_bltn (v := .ty "bool") (by rfl) T.n_bool (by decide +kernel) rfl) pa_nil)))) (pe_one (pe_chain op_le op_le (pv 1) (pv 0) (pv 2))))))), fun F0 H0 ds h => ?_⟩)
  · obtain ⟨x, l, m, rfl, _⟩ := h; rfl
  · obtain ⟨x, l, m, rfl, hx⟩ := h
    dsimp only [cxOf, env0, env1, List.map, List.length, List.replicate, List.cons_append, List.nil_append, List.append, Nat.reduceAdd, Nat.reduceSub, Nat.zero_add]
    cases x with
    | obj _ _ _ => cases hx
    | ali _ => cases hx
    | int i =>
      repeat walk_at "y"
      refine ways (fun h => ?_) (fun h => ?_)
      · repeat walk_at "y"
        exact ⟨_, l, m, rfl, by show _ = Dt.bl (decide (l ≤ i) && decide (i ≤ m)); rw [h]; rfl⟩
      · repeat walk_at "y"
        exact ⟨_, l, m, rfl, by show _ = Dt.bl (decide (l ≤ i) && decide (i ≤ m)); rw [h]; rfl⟩
    | _ =>
      repeat walk_at "y"
      exact ⟨_, l, m, rfl, rfl⟩
end
end Law
namespace Law
open PySem L2 Y
local macro_rules | `(tactic| walk_at "yv") => `(tactic| ((with_reducible show Ev _ (tVar _) _ _); refine ev_var rfl ?_))
local macro_rules | `(tactic| walk_at "ys") => `(tactic| with_reducible first
  | refine sm_seq ?_ | refine sm_ret ?_ | refine sm_if ?_ | refine sm_set ?_ | refine sm_next ?_ | refine sm_par ?_ | refine sm_drop ?_ | refine sm_brk ?_ | refine sm_cont ?_)
local macro_rules | `(tactic| walk_at "ye") => `(tactic| with_reducible first
  | refine ev_op ?_ | refine ev_and ?_ | refine ev_or ?_ | refine ev_not ?_ | refine ev_if ?_ | refine ev_chain ?_ | refine ev_neg ?_ | refine ev_isInt ?_ | refine ev_isBool ?_ | refine ev_isStr ?_ | refine ev_isList ?_ | refine ev_isTuple ?_ | refine ev_isLT ?_ | refine ev_isDict ?_
  | refine ev_int ?_ | refine ev_str ?_ | refine ev_bl ?_ | refine ev_non ?_ | refine ev_call ?_ | refine ev_cb ?_ | refine ev_lst ?_ | refine ev_tup ?_ | refine ev_join ?_
  | refine ea_nil ?_ | refine ea_cons ?_
  | refine et_B ?_ | refine et_test ?_ | refine et_not ?_ | refine et_and ?_ | refine et_or ?_ | refine et_yes ?_
  | refine o_plusI ?_ | refine o_i0 ?_ | refine o_b0 ?_ | refine o_isN ?_ | refine o_notN ?_
  | refine bl_ex ?_ | refine int_ex ?_ | refine str_ex ?_ | refine lst_ex ?_ | refine tup_ex ?_)
local macro_rules | `(tactic| walk_at "yo") => `(tactic| first
  | ((with_reducible show Ev _ (tOp (rIx _) (tVar _) _) _ _); refine ev_ixOwn rfl ?_)
  | ((with_reducible show Ev _ (tCB _ (tCons (tVar _) tNil)) _ _); refine ev_lenOwn rfl ?_)
  | ((with_reducible show Sm _ (tAsg _ (gSub (tVar _) _ _)) _ _); refine sm_setItem rfl ?_)
  | ((with_reducible show Ev _ (tCall (spB _ _ _) _ _ _) _ _); refine ev_callB rfl rfl ?_))
local macro_rules | `(tactic| walk_at "yc") => `(tactic| first
  | ((with_reducible show CMul _ _); first | exact Or.inr ⟨by decide, by decide⟩ | exact Or.inl ⟨by decide, by decide⟩ | exact Or.inr ⟨by omega, by omega⟩ | exact Or.inl ⟨by omega, by omega⟩)
  | ((with_reducible show CDiv _ _); exact ⟨by first | decide | omega, by first | decide | omega⟩)
  | ((with_reducible show CPow _ _); exact ⟨by decide, by decide, by first | decide | omega⟩)
  | ((show (0 : Int) < _); first | decide | omega))
local macro_rules | `(tactic| walk_at "yd") => `(tactic| first
  | ((with_reducible show plainD _ = true ∧ _); refine ⟨by first | rfl | assumption, ?_⟩)
  | ((with_reducible show (_ = true → _) ∧ (_ = false → _)); first | refine way_t rfl ?_ | refine way_f rfl ?_ | refine way_t (by decide +kernel) ?_ | refine way_f (by decide +kernel) ?_)
  | ((with_reducible show Cal _ _ _ _ _); first | (with_reducible refine c_int ?_) | (with_reducible refine c_abs ?_) | (refine c_len rfl ?_) | (refine c_len (if_pos (by assumption)) ?_))
  | ((with_reducible show Op2 _ (rEqA _) _ _ _ _); refine o_eqA rfl ?_)
  | ((with_reducible show Op2 _ (rNeA _) _ _ _ _); refine o_neA rfl ?_)
  | ((with_reducible show Op2 _ (rInA _) _ (Dt.str _) (Dt.lst _) _); refine o_inAL rfl rfl ?_)
  | ((with_reducible show Op2 _ (rInA _) _ (Dt.str _) (Dt.tup _) _); refine o_inAT rfl rfl ?_)
  | ((with_reducible show Op2 _ (rI _ _) _ _ _ _); refine o_i (by walk_at "yc") ?_)
  | ((with_reducible show Op2 _ (rIx _) _ (Dt.tup _) _ _); refine o_ixAT (atI_toNat (by decide) rfl) ?_)
  | ((with_reducible show Op2 _ (rIx _) _ (Dt.lst _) _ _); refine o_ixAL (atI_toNat (by decide) rfl) ?_)
  | ((with_reducible show ∃ x, atI _ _ = some x ∧ _); refine ⟨_, rfl, ?_⟩)
  | ((with_reducible show ∃ x, ixN _ _ = some x ∧ _); refine ⟨_, rfl, ?_⟩)
  | ((with_reducible show List.length _ ≤ 100000 ∧ _); refine ⟨by (try simp only [List.length_cons, List.length_nil]); first | decide | omega, ?_⟩))
local macro_rules | `(tactic| walk_at "y") => `(tactic| first | walk_at "yo" | walk_at "ye" | walk_at "yv" | walk_at "ys" | walk_at "yd")
local macro_rules | `(tactic| walk_at "yx") => `(tactic| first | walk_at "yo" | walk_at "ye" | walk_at "yv" | walk_at "yd")
section
variable {P : Program} {w : World} {K : PySem.W.Frag} {mg : Str → Option Value} {base : Heap}

theorem ok__law_titles (T : Tx K mg w) : FnOk P w K mg base CX0 3 T.a__law_titles T.d__law_titles ["_law_bag_here", "_law_many"] (spB K titlesPre titlesPost) := by
  have G__law_draw := ok__law_draw (P := P) (w := w) (base := base) T
  have G__law_of := ok__law_of (P := P) (w := w) (base := base) T
  refine fn_bag T.F__law_titles sc__law_titles (fun ds h => ?_) (fun cdv A outer s H E hr => ⟨_, (pss_cons (ps_par rfl sc__law_titles.nd (i := 2) (j := 3) rfl rfl (by decide) rfl rfl (pa_cons (pe_callTy (call_listB (K := K) rfl) (by rfl) T.n_list PyProof.Rows.boot_list (pa_cons pe_str pa_nil)) (pa_cons (pe_lst pa_nil) pa_nil)) rfl)
      (pss_cons (ps_set (i := 4) sc__law_titles.nd rfl (Or.inl rfl) (pe_joinA (K := K) pe_str (pe_lc (own := [("_law_k", 5)]) (g := gName 5) rfl sc__law_titles.nd (pi_range1 (by rfl) T.n_range (pa_cons (pe_call G__law_draw (hr.mono (by decide)) (by rfl) T.m__law_draw T.k__law_draw T.b__law_draw .nil pass0 (pa_cons (pv 0) (pa_cons pe_int pa_nil))) pa_nil)) (blkOk_by (N := ["_law_bag_here", "_law_many", "_law_left", "_law_found", "_law_stem", "_law_k", "_law_spot"]) (sc := defScope s__law_titles) (by decide +kernel)) (fun _ _ _ _ _ => (pg_name (i := 5) sc__law_titles.nd rfl (Or.inl rfl))) (fun _ _ _ _ _ => pts_nil) (fun _ _ _ _ _ => (pe_call G__law_of (hr.mono (by decide)) (by rfl) T.m__law_of T.k__law_of T.b__law_of .nil pass0 (pa_cons (pv 0) (pa_cons pe_str pa_nil)))))))
      (pss_cons (ps_set (i := 6) sc__law_titles.nd rfl (Or.inl rfl) (pe_call G__law_draw (hr.mono (by decide)) (by rfl) T.m__law_draw T.k__law_draw T.b__law_draw .nil pass0 (pa_cons (pv 0) (pa_cons (pe_op (op_plus (K := K)) (pe_callB (call_lenA (K := K)) (by rfl) T.n_len PySem.boot_len (pa_cons (pv 4) pa_nil)) pe_int) pa_nil))))
      (pss_cons (ps_for PassesOwn.never rfl (pi_range1 (by rfl) T.n_range (pa_cons (pv 1) pa_nil)) (pg_name (i := 5) sc__law_titles.nd rfl (Or.inl rfl)) (pss_one (ps_expr (pe_bm PySem.F.plainAttrs_list PySem.F.slot_list_append PySem.F.type_list_append mt_append (pv 3) (pa_cons (pe_op (op_plus (K := K)) (pe_op (op_plus (K := K)) (pe_slice (sl_any (K := K)) (pv 4) po_none (po_some (pv 6))) (pe_bm PySem.F.plainAttrs_list PySem.F.slot_list_pop PySem.F.type_list_pop mt_popAt (pv 2) (pa_cons (pe_call G__law_draw (hr.mono (by decide)) (by rfl) T.m__law_draw T.k__law_draw T.b__law_draw .nil pass0 (pa_cons (pv 0) (pa_cons (pe_callB (call_lenA (K := K)) (by rfl) T.n_len PySem.boot_len (pa_cons (pv 2) pa_nil)) pa_nil))) pa_nil))) (pe_slice (sl_any (K := K)) (pv 4) (po_some (pv 6)) po_none)) pa_nil)))))
      (pss_one (ps_ret (pv 3))))))), fun F0 H0 b ds h => ?_⟩)
  · obtain ⟨m, rfl, _⟩ := h; rfl
  · obtain ⟨m, rfl, hm0, hm1⟩ := h
    dsimp only [cxOf, env0, env1, List.map, List.length, List.replicate, List.cons_append, List.nil_append, List.append, Nat.reduceAdd, Nat.reduceSub, Nat.zero_add]
    have hlen : letters.length = 26 := by decide +kernel
    refine sm_seq (sm_parOO (by decide) (fun a xs e => nomatch e) (fun a xs e => nomatch e) (eo_listS (ea_cons (ev_str (ea_nil ⟨_, rfl, by decide +kernel, ?_⟩)))))
    refine eo_lst (ea_nil ⟨by decide, fun al af hne => ?_⟩)
    refine sm_seq (sm_set (ev_word rfl rfl (by decide) ⟨by decide, by decide⟩ ⟨by decide +kernel, by decide +kernel⟩ fun stem h1 h2 => ?_))
    have hl : stem.length ≤ 100000 := by show stem.cps.size ≤ _; omega
    have e0 : stem.length = stem.cps.size := rfl
    refine sm_seq (sm_set ?_)
    repeat walk_at "yx"
    refine draw_k ⟨by omega, by omega⟩ fun spot k1 k2 => ?_
    obtain ⟨n, rfl⟩ : ∃ n : Nat, spot = (n : Int) := ⟨spot.toNat, by omega⟩
    have hn : n ≤ stem.cps.size := by omega
    obtain ⟨c1, c2⟩ := cut_app stem n hn
    have hs : ∀ c ∈ stem.cps.toList, c ∈ letters := h2
    refine sm_seq (sm_for (ei_rng1 (ea_cons (ev_var rfl (ea_nil ⟨m, rfl, by omega, by omega, fun i e => ∃ (cs ls : List Nat) (s6 : Sl), e = [.r (.ref b), .d (.int m), .own al (ls.map fun c => Dt.str ⟨#[c]⟩), .own af ((cs.map fun c => (cutS stem none (some (n : Int)) ++ ⟨#[c]⟩ ++ cutS stem (some (n : Int)) none)).map Dt.str), .d (.str stem), s6, .d (.int (n : Int))] ∧ (cs ++ ls).Perm letters ∧ cs.length = i, ?_, ?_, ?_⟩)))))
    · exact ⟨[], letters, _, rfl, List.Perm.refl _, rfl⟩
    · rintro i x es' hx ⟨cs, ls, s6, rfl, hp, hc⟩
      obtain ⟨hi, rfl⟩ := rangeD_get hx
      have hls : cs.length + ls.length = 26 := by
        have := hp.length_eq
        rw [List.length_append, hlen] at this
        exact this
      refine tg_name (sm_appendM rfl (em_op (em_op ?_)))
      refine Ev.m (ev_slS (ev_var rfl (str_ex ⟨hl, ep_none (ep_some (ev_var rfl (int_ex ?_)))⟩)))
      refine em_pop (a := al) (xs := ls.map fun c => Dt.str ⟨#[c]⟩) rfl ?_
      refine ev_callB rfl rfl (ea_cons (ev_lenOwn (a := al) (xs := ls.map fun c => Dt.str ⟨#[c]⟩) rfl (ea_nil ?_)))
      rw [List.length_map]
      refine draw_k ⟨by omega, by omega⟩ fun j j1 j2 => ?_
      refine ⟨j, rfl, j1, by simpa using j2, by omega, fun y hy => ?_⟩
      rw [List.getElem?_map] at hy
      cases ec : ls[j.toNat]? with
      | none => rw [ec] at hy; cases hy
      | some c =>
        rw [ec] at hy
        cases hy
        have hcl : c ∈ letters := hp.subset (List.mem_append_right _ (List.mem_of_getElem? ec))
        have l1 : (cutS stem none (some (n : Int))).length ≤ stem.length := cutS_length _ _ _
        have l2 : (cutS stem (some (n : Int)) none).length ≤ stem.length := cutS_length _ _ _
        have l3 : (⟨#[c]⟩ : Str).length = 1 := rfl
        have l4 : (cutS stem none (some (n : Int)) ++ ⟨#[c]⟩).length = (cutS stem none (some (n : Int))).length + 1 := by
          show (cutS stem none (some (n : Int)) ++ ⟨#[c]⟩).cps.size = (cutS stem none (some (n : Int))).cps.size + 1
          rw [← Array.length_toList, app_toList, List.length_append, Array.length_toList]; rfl
        refine o_plusS (by omega) ?_
        refine Ev.m (ev_slS (ev_var rfl (str_ex ⟨hl, ep_some (ev_var rfl (int_ex (ep_none ?_)))⟩)))
        refine o_plusS (by omega) ⟨rfl, ?_, ?_⟩
        · rw [List.length_map, List.length_map]; omega
        · have em : (ls.map fun c => Dt.str ⟨#[c]⟩).eraseIdx j.toNat = (ls.eraseIdx j.toNat).map fun c => Dt.str ⟨#[c]⟩ := by
            rw [List.eraseIdx_eq_take_drop_succ, List.eraseIdx_eq_take_drop_succ, List.map_append, List.map_take, List.map_drop]
          refine ⟨cs ++ [c], ls.eraseIdx j.toNat, .d (.int (0 + (i : Int))), ?_, ?_, ?_⟩
          · rw [← em, List.map_append (l₁ := cs), List.map_append]
            rfl
          · have q1 : ls.Perm (c :: ls.eraseIdx j.toNat) := perm_erase ec
            rw [List.append_assoc]
            exact ((List.Perm.append_left cs q1).symm).trans hp
          · rw [List.length_append, hc]; rfl
    · rintro es' ⟨cs, ls, s6, rfl, hp, hc⟩
      rw [rangeD_len] at hc
      refine sm_freeze 3 rfl (sm_ret (ev_var rfl ?_))
      have hnd : (cs ++ ls).Nodup := hp.nodup_iff.mpr (by decide +kernel)
      have sz : ∀ c, (cutS stem none (some (n : Int)) ++ ⟨#[c]⟩ ++ cutS stem (some (n : Int)) none).cps.toList = stem.cps.toList.take n ++ [c] ++ stem.cps.toList.drop n := fun c => by
        rw [app_toList, app_toList, c1, c2]
      refine ⟨m, cs.map fun c => (cutS stem none (some (n : Int)) ++ ⟨#[c]⟩ ++ cutS stem (some (n : Int)) none), rfl, rfl, by rw [List.length_map]; omega, fun t ht => ?_, ?_⟩
      · obtain ⟨c, hcm, rfl⟩ := List.mem_map.mp ht
        have hz : (cutS stem none (some (n : Int)) ++ ⟨#[c]⟩ ++ cutS stem (some (n : Int)) none).cps.size = stem.cps.size + 1 := by
          rw [← Array.length_toList, sz, List.length_append, List.length_append, List.length_take, List.length_drop, Array.length_toList]
          simp; omega
        refine isName_mk (by omega) (by omega) fun k hk => ?_
        rw [sz] at hk
        rcases List.mem_append.mp hk with hk | hk
        · rcases List.mem_append.mp hk with hk | hk
          · exact hs k (List.mem_of_mem_take hk)
          · rw [List.mem_singleton.mp hk]
            exact hp.subset (List.mem_append_left _ hcm)
        · exact hs k (List.mem_of_mem_drop hk)
      · refine List.pairwise_map.mpr (((List.nodup_append.mp hnd).1).imp fun {x y} hxy e => hxy ?_)
        have e2 := congrArg (fun z : Str => z.cps.toList) e
        simp only [sz] at e2
        have e3 := List.append_cancel_right e2
        have e4 := List.append_cancel_left e3
        simpa using e4
end
end Law
namespace Law
open PySem L2 Y
local macro_rules | `(tactic| walk_at "yv") => `(tactic| ((with_reducible show Ev _ (tVar _) _ _); refine ev_var rfl ?_))
local macro_rules | `(tactic| walk_at "ys") => `(tactic| with_reducible first
  | refine sm_seq ?_ | refine sm_ret ?_ | refine sm_if ?_ | refine sm_set ?_ | refine sm_next ?_ | refine sm_par ?_ | refine sm_drop ?_ | refine sm_brk ?_ | refine sm_cont ?_)
local macro_rules | `(tactic| walk_at "ye") => `(tactic| with_reducible first
  | refine ev_op ?_ | refine ev_and ?_ | refine ev_or ?_ | refine ev_not ?_ | refine ev_if ?_ | refine ev_chain ?_ | refine ev_neg ?_ | refine ev_isInt ?_ | refine ev_isBool ?_ | refine ev_isStr ?_ | refine ev_isList ?_ | refine ev_isTuple ?_ | refine ev_isLT ?_ | refine ev_isDict ?_
  | refine ev_int ?_ | refine ev_str ?_ | refine ev_bl ?_ | refine ev_non ?_ | refine ev_call ?_ | refine ev_cb ?_ | refine ev_lst ?_ | refine ev_tup ?_ | refine ev_join ?_
  | refine ea_nil ?_ | refine ea_cons ?_
  | refine et_B ?_ | refine et_test ?_ | refine et_not ?_ | refine et_and ?_ | refine et_or ?_ | refine et_yes ?_
  | refine o_plusI ?_ | refine o_i0 ?_ | refine o_b0 ?_ | refine o_isN ?_ | refine o_notN ?_
  | refine bl_ex ?_ | refine int_ex ?_ | refine str_ex ?_ | refine lst_ex ?_ | refine tup_ex ?_)
local macro_rules | `(tactic| walk_at "yo") => `(tactic| first
  | ((with_reducible show Ev _ (tOp (rIx _) (tVar _) _) _ _); refine ev_ixOwn rfl ?_)
  | ((with_reducible show Ev _ (tCB _ (tCons (tVar _) tNil)) _ _); refine ev_lenOwn rfl ?_)
  | ((with_reducible show Sm _ (tAsg _ (gSub (tVar _) _ _)) _ _); refine sm_setItem rfl ?_)
  | ((with_reducible show Ev _ (tCall (spB _ _ _) _ _ _) _ _); refine ev_callB rfl rfl ?_))
local macro_rules | `(tactic| walk_at "yc") => `(tactic| first
  | ((with_reducible show CMul _ _); first | exact Or.inr ⟨by decide, by decide⟩ | exact Or.inl ⟨by decide, by decide⟩ | exact Or.inr ⟨by omega, by omega⟩ | exact Or.inl ⟨by omega, by omega⟩)
  | ((with_reducible show CDiv _ _); exact ⟨by first | decide | omega, by first | decide | omega⟩)
  | ((with_reducible show CPow _ _); exact ⟨by decide, by decide, by first | decide | omega⟩)
  | ((show (0 : Int) < _); first | decide | omega))
local macro_rules | `(tactic| walk_at "yd") => `(tactic| first
  | ((with_reducible show plainD _ = true ∧ _); refine ⟨by first | rfl | assumption, ?_⟩)
  | ((with_reducible show (_ = true → _) ∧ (_ = false → _)); first | refine way_t rfl ?_ | refine way_f rfl ?_ | refine way_t (by decide +kernel) ?_ | refine way_f (by decide +kernel) ?_)
  | ((with_reducible show Cal _ _ _ _ _); first | (with_reducible refine c_int ?_) | (with_reducible refine c_abs ?_) | (refine c_len rfl ?_) | (refine c_len (if_pos (by assumption)) ?_))
  | ((with_reducible show Op2 _ (rEqA _) _ _ _ _); refine o_eqA rfl ?_)
  | ((with_reducible show Op2 _ (rNeA _) _ _ _ _); refine o_neA rfl ?_)
  | ((with_reducible show Op2 _ (rInA _) _ (Dt.str _) (Dt.lst _) _); refine o_inAL rfl rfl ?_)
  | ((with_reducible show Op2 _ (rInA _) _ (Dt.str _) (Dt.tup _) _); refine o_inAT rfl rfl ?_)
  | ((with_reducible show Op2 _ (rI _ _) _ _ _ _); refine o_i (by walk_at "yc") ?_)
  | ((with_reducible show Op2 _ (rIx _) _ (Dt.tup _) _ _); refine o_ixAT (atI_toNat (by decide) rfl) ?_)
  | ((with_reducible show Op2 _ (rIx _) _ (Dt.lst _) _ _); refine o_ixAL (atI_toNat (by decide) rfl) ?_)
  | ((with_reducible show ∃ x, atI _ _ = some x ∧ _); refine ⟨_, rfl, ?_⟩)
  | ((with_reducible show ∃ x, ixN _ _ = some x ∧ _); refine ⟨_, rfl, ?_⟩)
  | ((with_reducible show List.length _ ≤ 100000 ∧ _); refine ⟨by (try simp only [List.length_cons, List.length_nil]); first | decide | omega, ?_⟩))
local macro_rules | `(tactic| walk_at "y") => `(tactic| first | walk_at "yo" | walk_at "ye" | walk_at "yv" | walk_at "ys" | walk_at "yd")
local macro_rules | `(tactic| walk_at "yx") => `(tactic| first | walk_at "yo" | walk_at "ye" | walk_at "yv" | walk_at "yd")
section
variable {P : Program} {w : World} {K : PySem.W.Frag} {mg : Str → Option Value} {base : Heap}

theorem ok__law_number (T : Tx K mg w) : FnOk P w K mg base CX0 3 T.a__law_number T.d__law_number ["_law_bag_here"] (spB K nilPre numberPost) := by
  have G__law_draw := ok__law_draw (P := P) (w := w) (base := base) T
  have G__law_of := ok__law_of (P := P) (w := w) (base := base) T
  refine fn_bag T.F__law_number sc__law_number (fun ds h => ?_) (fun cdv A outer s H E hr => ⟨_, (pss_one (ps_ret (pe_call G__law_of (hr.mono (by decide)) (by rfl) T.m__law_of T.k__law_of T.b__law_of .nil pass0 (pa_cons (pv 0) (pa_cons (pe_lst (pa_cons pe_int (pa_cons pe_int (pa_cons pe_int (pa_cons pe_int (pa_cons pe_int (pa_cons pe_int (pa_cons pe_int (pa_cons (pe_call G__law_draw (hr.mono (by decide)) (by rfl) T.m__law_draw T.k__law_draw T.b__law_draw .nil pass0 (pa_cons (pv 0) (pa_cons pe_int pa_nil))) (pa_cons (pe_call G__law_draw (hr.mono (by decide)) (by rfl) T.m__law_draw T.k__law_draw T.b__law_draw .nil pass0 (pa_cons (pv 0) (pa_cons pe_int pa_nil))) (pa_cons (pe_call G__law_draw (hr.mono (by decide)) (by rfl) T.m__law_draw T.k__law_draw T.b__law_draw .nil pass0 (pa_cons (pv 0) (pa_cons pe_int pa_nil))) pa_nil))))))))))) pa_nil))))), fun F0 H0 b ds h => ?_⟩)
  · cases h; rfl
  · cases h
    dsimp only [cxOf, env0, env1, List.map, List.length, List.replicate, List.cons_append, List.nil_append, List.append, Nat.reduceAdd, Nat.reduceSub, Nat.zero_add]
    repeat walk_at "y"
    refine draw_k ⟨by decide, by decide⟩ fun i1 a1 b1 => ?_
    repeat walk_at "y"
    refine draw_k ⟨by decide, by decide⟩ fun i2 a2 b2 => ?_
    repeat walk_at "y"
    refine draw_k ⟨by decide, by decide⟩ fun i3 a3 b3 => ?_
    repeat walk_at "y"
    refine of_k ⟨by show 0 < 10; decide, by show 10 ≤ 100000; decide⟩ fun d hd => ?_
    simp only [List.mem_cons, List.not_mem_nil, or_false] at hd
    rcases hd with rfl | rfl | rfl | rfl | rfl | rfl | rfl | rfl | rfl | rfl <;> exact ⟨_, rfl, by omega, by omega⟩

theorem ok__law_r (T : Tx K mg w) : FnOk P w K mg base CX0 3 T.a__law_r T.d__law_r ["_law_bag_here"] (spB K nilPre rPost) := by
  have G__law_of := ok__law_of (P := P) (w := w) (base := base) T
  refine fn_bag T.F__law_r sc__law_r (fun ds h => ?_) (fun cdv A outer s H E hr => ⟨_, (pss_one (ps_ret (pe_call G__law_of (hr.mono (by decide)) (by rfl) T.m__law_of T.k__law_of T.b__law_of .nil pass0 (pa_cons (pv 0) (pa_cons (pe_lst (pa_cons pe_str (pa_cons pe_str (pa_cons pe_str pa_nil)))) pa_nil))))), fun F0 H0 b ds h => ?_⟩)
  · cases h; rfl
  · cases h
    dsimp only [cxOf, env0, env1, List.map, List.length, List.replicate, List.cons_append, List.nil_append, List.append, Nat.reduceAdd, Nat.reduceSub, Nat.zero_add]
    repeat walk_at "y"
    exact of_all (p := isRegD) ⟨by decide, by decide⟩ (by decide +kernel) fun d hd => hd

theorem ok__law_code_row (T : Tx K mg w) : FnOk P w K mg base CX0 4 T.a__law_code_row T.d__law_code_row ["_law_bag_here", "_law_titles_here"] (spB K namesPre codeRowPost2) := by
  have G__law_draw := ok__law_draw (P := P) (w := w) (base := base) T
  have G__law_of := ok__law_of (P := P) (w := w) (base := base) T
  have G__law_r := ok__law_r (P := P) (w := w) (base := base) T
  have G__law_number := ok__law_number (P := P) (w := w) (base := base) T
  refine fn_bag T.F__law_code_row sc__law_code_row (fun ds h => ?_) (fun cdv A outer s H E hr => ⟨_, (pss_cons (ps_set (i := 2) sc__law_code_row.nd rfl (Or.inl rfl) (pe_call G__law_draw (hr.mono (by decide)) (by rfl) T.m__law_draw T.k__law_draw T.b__law_draw .nil pass0 (pa_cons (pv 0) (pa_cons pe_int pa_nil))))
      (pss_cons (ps_if (pt_cmpR op_lt (pv 2) pe_int (nomark _)) (pss_one (ps_ret (pe_tup (pa_cons pe_str (pa_cons (pe_call G__law_r (hr.mono (by decide)) (by rfl) T.m__law_r T.k__law_r T.b__law_r .nil pass0 (pa_cons (pv 0) pa_nil)) (pa_cons (pe_call G__law_number (hr.mono (by decide)) (by rfl) T.m__law_number T.k__law_number T.b__law_number .nil pass0 (pa_cons (pv 0) pa_nil)) pa_nil)))))) pss_nil)
      (pss_cons (ps_if (pt_cmpR op_lt (pv 2) pe_int (nomark _)) (pss_one (ps_ret (pe_tup (pa_cons (pe_call G__law_of (hr.mono (by decide)) (by rfl) T.m__law_of T.k__law_of T.b__law_of .nil pass0 (pa_cons (pv 0) (pa_cons (pe_lst (pa_cons pe_str (pa_cons pe_str pa_nil))) pa_nil))) (pa_cons (pe_call G__law_r (hr.mono (by decide)) (by rfl) T.m__law_r T.k__law_r T.b__law_r .nil pass0 (pa_cons (pv 0) pa_nil)) (pa_cons (pe_call G__law_of (hr.mono (by decide)) (by rfl) T.m__law_of T.k__law_of T.b__law_of .nil pass0 (pa_cons (pv 0) (pa_cons (pv 1) pa_nil))) pa_nil)))))) pss_nil)
      (pss_cons (ps_if (pt_cmpR op_lt (pv 2) pe_int (nomark _)) (pss_one (ps_ret (pe_tup (pa_cons (pe_call G__law_of (hr.mono (by decide)) (by rfl) T.m__law_of T.k__law_of T.b__law_of .nil pass0 (pa_cons (pv 0) (pa_cons (pe_lst (pa_cons pe_str (pa_cons pe_str pa_nil))) pa_nil))) (pa_cons (pe_call G__law_r (hr.mono (by decide)) (by rfl) T.m__law_r T.k__law_r T.b__law_r .nil pass0 (pa_cons (pv 0) pa_nil)) (pa_cons (pe_call G__law_r (hr.mono (by decide)) (by rfl) T.m__law_r T.k__law_r T.b__law_r .nil pass0 (pa_cons (pv 0) pa_nil)) pa_nil)))))) pss_nil)
      (pss_cons (ps_if (pt_cmpR op_lt (pv 2) pe_int (nomark _)) (pss_one (ps_ret (pe_tup (pa_cons (pe_call G__law_of (hr.mono (by decide)) (by rfl) T.m__law_of T.k__law_of T.b__law_of .nil pass0 (pa_cons (pv 0) (pa_cons (pe_lst (pa_cons pe_str (pa_cons pe_str pa_nil))) pa_nil))) (pa_cons (pe_call G__law_r (hr.mono (by decide)) (by rfl) T.m__law_r T.k__law_r T.b__law_r .nil pass0 (pa_cons (pv 0) pa_nil)) (pa_cons (pe_call G__law_r (hr.mono (by decide)) (by rfl) T.m__law_r T.k__law_r T.b__law_r .nil pass0 (pa_cons (pv 0) pa_nil)) (pa_cons (pe_call G__law_of (hr.mono (by decide)) (by rfl) T.m__law_of T.k__law_of T.b__law_of .nil pass0 (pa_cons (pv 0) (pa_cons (pe_lst (pa_cons pe_int (pa_cons pe_int (pa_cons (pe_call G__law_draw (hr.mono (by decide)) (by rfl) T.m__law_draw T.k__law_draw T.b__law_draw .nil pass0 (pa_cons (pv 0) (pa_cons pe_int pa_nil))) pa_nil)))) pa_nil))) pa_nil))))))) pss_nil)
      (pss_cons (ps_if (pt_cmpR op_lt (pv 2) pe_int (nomark _)) (pss_one (ps_ret (pe_tup (pa_cons (pe_call G__law_of (hr.mono (by decide)) (by rfl) T.m__law_of T.k__law_of T.b__law_of .nil pass0 (pa_cons (pv 0) (pa_cons (pe_lst (pa_cons pe_str (pa_cons pe_str pa_nil))) pa_nil))) (pa_cons (pe_call G__law_of (hr.mono (by decide)) (by rfl) T.m__law_of T.k__law_of T.b__law_of .nil pass0 (pa_cons (pv 0) (pa_cons (pv 1) pa_nil))) pa_nil))))) pss_nil)
      (pss_cons (ps_if (pt_cmpR op_lt (pv 2) pe_int (nomark _)) (pss_one (ps_ret (pe_tup (pa_cons (pe_call G__law_of (hr.mono (by decide)) (by rfl) T.m__law_of T.k__law_of T.b__law_of .nil pass0 (pa_cons (pv 0) (pa_cons (pe_lst (pa_cons pe_str (pa_cons pe_str pa_nil))) pa_nil))) (pa_cons (pe_call G__law_r (hr.mono (by decide)) (by rfl) T.m__law_r T.k__law_r T.b__law_r .nil pass0 (pa_cons (pv 0) pa_nil)) pa_nil))))) pss_nil)
      (pss_one (ps_ret (pe_call G__law_of (hr.mono (by decide)) (by rfl) T.m__law_of T.k__law_of T.b__law_of .nil pass0 (pa_cons (pv 0) (pa_cons (pe_lst (pa_cons (pe_tup (pa_cons pe_str pa_nil)) (pa_cons (pe_tup (pa_cons pe_str pa_nil)) (pa_cons (pe_tup (pa_cons pe_str (pa_cons (pe_call G__law_of (hr.mono (by decide)) (by rfl) T.m__law_of T.k__law_of T.b__law_of .nil pass0 (pa_cons (pv 0) (pa_cons (pe_lst (pa_cons pe_int (pa_cons pe_int (pa_cons pe_int (pa_cons pe_int pa_nil))))) pa_nil))) pa_nil))) pa_nil)))) pa_nil)))))))))))), fun F0 H0 b ds h => ?_⟩)
  · obtain ⟨t, rfl, _⟩ := h; rfl
  · obtain ⟨t, rfl, ht⟩ := h
    dsimp only [cxOf, env0, env1, List.map, List.length, List.replicate, List.cons_append, List.nil_append, List.append, Nat.reduceAdd, Nat.reduceSub, Nat.zero_add]
    refine sm_seq (sm_set ?_)
    repeat walk_at "yx"
    refine draw_k ⟨by decide, by decide⟩ fun way k1 k2 => ?_
    repeat walk_at "y"
    refine ways (fun h => ?_) (fun h => ?_)
    · repeat walk_at "y"
      refine r_k fun r hr' => ?_
      repeat walk_at "y"
      refine number_k fun n n1 n2 => ?_
      repeat walk_at "y"
      exact ⟨rowBy_of (ks := [114, 119]) (by decide +kernel) (form2 (fit_r hr') (fit_w ⟨n1, n2⟩)), fun t' e => by cases e; exact (nf2 (nm_r hr') nm_int)⟩
    repeat walk_at "y"
    refine ways (fun h => ?_) (fun h => ?_)
    · repeat walk_at "y"
      refine of_k ⟨by decide, by decide⟩ fun wd hw => ?_
      repeat walk_at "y"
      refine r_k fun r hr' => ?_
      repeat walk_at "y"
      refine of_namesM ht fun nm hnm hmem => ?_
      repeat walk_at "y"
      simp only [List.mem_cons, List.not_mem_nil, or_false] at hw
      rcases hw with rfl | rfl <;> exact ⟨rowBy_of (ks := [114, 110]) (by decide +kernel) (form2 (fit_r hr') (fit_n hnm)), fun t' e => by cases e; exact (nf2 (nm_r hr') hmem)⟩
    repeat walk_at "y"
    refine ways (fun h => ?_) (fun h => ?_)
    · repeat walk_at "y"
      refine of_k ⟨by decide, by decide⟩ fun wd hw => ?_
      repeat walk_at "y"
      refine r_k fun r hr' => ?_
      repeat walk_at "y"
      refine r_k fun r2 hr2 => ?_
      repeat walk_at "y"
      simp only [List.mem_cons, List.not_mem_nil, or_false] at hw
      rcases hw with rfl | rfl <;> exact ⟨rowBy_of (ks := [114, 114]) (by decide +kernel) (form2 (fit_r hr') (fit_r hr2)), fun t' e => by cases e; exact (nf2 (nm_r hr') (nm_r hr2))⟩
    repeat walk_at "y"
    refine ways (fun h => ?_) (fun h => ?_)
    · repeat walk_at "y"
      refine of_k ⟨by decide, by decide⟩ fun wd hw => ?_
      repeat walk_at "y"
      refine r_k fun r hr' => ?_
      repeat walk_at "y"
      refine r_k fun r2 hr2 => ?_
      repeat walk_at "y"
      refine draw_k ⟨by decide, by decide⟩ fun d d1 d2 => ?_
      repeat walk_at "y"
      refine of_k ⟨by show 0 < 3; decide, by show 3 ≤ 100000; decide⟩ fun dd hd => ?_
      have hd' : fitsB 100 dd = true := by
        simp only [List.mem_cons, List.not_mem_nil, or_false] at hd
        rcases hd with rfl | rfl | rfl <;> exact fit_d ⟨by omega, by omega⟩
      repeat walk_at "y"
      simp only [List.mem_cons, List.not_mem_nil, or_false] at hw
      rcases hw with rfl | rfl <;> exact ⟨rowBy_of (ks := [114, 114, 100]) (by decide +kernel) (form3 (fit_r hr') (fit_r hr2) hd'), fun t' e => by cases e; exact (nf3 (nm_r hr') (nm_r hr2) (nm_fitd hd'))⟩
    repeat walk_at "y"
    refine ways (fun h => ?_) (fun h => ?_)
    · repeat walk_at "y"
      refine of_k ⟨by decide, by decide⟩ fun wd hw => ?_
      repeat walk_at "y"
      refine of_namesM ht fun nm hnm hmem => ?_
      repeat walk_at "y"
      simp only [List.mem_cons, List.not_mem_nil, or_false] at hw
      rcases hw with rfl | rfl <;> exact ⟨rowBy_of (ks := [110]) (by decide +kernel) (form1 (fit_n hnm)), fun t' e => by cases e; exact (nf1 hmem)⟩
    repeat walk_at "y"
    refine ways (fun h => ?_) (fun h => ?_)
    · repeat walk_at "y"
      refine of_k ⟨by decide, by decide⟩ fun wd hw => ?_
      repeat walk_at "y"
      refine r_k fun r hr' => ?_
      repeat walk_at "y"
      simp only [List.mem_cons, List.not_mem_nil, or_false] at hw
      rcases hw with rfl | rfl <;> exact ⟨rowBy_of (ks := [114]) (by decide +kernel) (form1 (fit_r hr')), fun t' e => by cases e; exact (nf1 (nm_r hr'))⟩
    repeat walk_at "y"
    refine of_k ⟨by decide, by decide⟩ fun kk hk => ?_
    have hk' : fitsB 107 kk = true := by
      simp only [List.mem_cons, List.not_mem_nil, or_false] at hk
      rcases hk with rfl | rfl | rfl | rfl <;> exact fit_k ⟨by omega, by omega⟩
    repeat walk_at "y"
    refine of_k ⟨by show 0 < 3; decide, by show 3 ≤ 100000; decide⟩ fun dd hd => ?_
    simp only [List.mem_cons, List.not_mem_nil, or_false] at hd
    rcases hd with rfl | rfl | rfl
    · exact ⟨rowBy_of (ks := []) (by decide +kernel) form0, fun t' e => by cases e; exact nf0⟩
    · exact ⟨rowBy_of (ks := []) (by decide +kernel) form0, fun t' e => by cases e; exact nf0⟩
    · exact ⟨rowBy_of (ks := [107]) (by decide +kernel) (form1 hk'), fun t' e => by cases e; exact (nf1 (nm_fit hk'))⟩

theorem ok__law_data_row (T : Tx K mg w) : FnOk P w K mg base CX0 4 T.a__law_data_row T.d__law_data_row ["_law_bag_here", "_law_titles_here"] (spB K namesPre dataRowPost2) := by
  have G__law_draw := ok__law_draw (P := P) (w := w) (base := base) T
  have G__law_of := ok__law_of (P := P) (w := w) (base := base) T
  have G__law_number := ok__law_number (P := P) (w := w) (base := base) T
  refine fn_bag T.F__law_data_row sc__law_data_row (fun ds h => ?_) (fun cdv A outer s H E hr => ⟨_, (pss_cons (ps_set (i := 2) sc__law_data_row.nd rfl (Or.inl rfl) (pe_call G__law_draw (hr.mono (by decide)) (by rfl) T.m__law_draw T.k__law_draw T.b__law_draw .nil pass0 (pa_cons (pv 0) (pa_cons pe_int pa_nil))))
      (pss_cons (ps_if (pt_cmpR (op_eqA (K := K) hr.units) (pv 2) pe_int (nomark _)) (pss_one (ps_ret (pe_tup (pa_cons pe_str (pa_cons (pe_call G__law_number (hr.mono (by decide)) (by rfl) T.m__law_number T.k__law_number T.b__law_number .nil pass0 (pa_cons (pv 0) pa_nil)) pa_nil))))) pss_nil)
      (pss_one (ps_ret (pe_ifExp (pt_cmpR (op_eqA (K := K) hr.units) (pv 2) pe_int (nomark _)) (pe_tup (pa_cons pe_str (pa_cons (pe_call G__law_of (hr.mono (by decide)) (by rfl) T.m__law_of T.k__law_of T.b__law_of .nil pass0 (pa_cons (pv 0) (pa_cons (pv 1) pa_nil))) pa_nil))) (pe_tup (pa_cons pe_str (pa_cons (pe_call G__law_of (hr.mono (by decide)) (by rfl) T.m__law_of T.k__law_of T.b__law_of .nil pass0 (pa_cons (pv 0) (pa_cons (pe_lst (pa_cons pe_int (pa_cons pe_int (pa_cons pe_int (pa_cons pe_int pa_nil))))) pa_nil))) pa_nil)))))))), fun F0 H0 b ds h => ?_⟩)
  · obtain ⟨t, rfl, _⟩ := h; rfl
  · obtain ⟨t, rfl, ht⟩ := h
    dsimp only [cxOf, env0, env1, List.map, List.length, List.replicate, List.cons_append, List.nil_append, List.append, Nat.reduceAdd, Nat.reduceSub, Nat.zero_add]
    refine sm_seq (sm_set ?_)
    repeat walk_at "yx"
    refine draw_k ⟨by decide, by decide⟩ fun way k1 k2 => ?_
    repeat walk_at "y"
    refine ways (fun h => ?_) (fun h => ?_)
    · repeat walk_at "y"
      refine number_k fun n n1 n2 => ?_
      repeat walk_at "y"
      exact ⟨rowBy_of (ks := [119]) (by decide +kernel) (form1 (fit_w ⟨n1, n2⟩)), fun t' e => by cases e; exact (nf1 nm_int)⟩
    repeat walk_at "y"
    refine ways (fun h => ?_) (fun h => ?_)
    · repeat walk_at "y"
      refine of_namesM ht fun nm hnm hmem => ?_
      repeat walk_at "y"
      exact ⟨rowBy_of (ks := [110]) (by decide +kernel) (form1 (fit_n hnm)), fun t' e => by cases e; exact (nf1 hmem)⟩
    · repeat walk_at "y"
      refine of_k ⟨by decide, by decide⟩ fun kk hk => ?_
      have hk' : fitsB 107 kk = true := by
        simp only [List.mem_cons, List.not_mem_nil, or_false] at hk
        rcases hk with rfl | rfl | rfl | rfl <;> exact fit_k ⟨by omega, by omega⟩
      repeat walk_at "y"
      exact ⟨rowBy_of (ks := [107]) (by decide +kernel) (form1 hk'), fun t' e => by cases e; exact (nf1 (nm_fit hk'))⟩

theorem ok__law_last_row (T : Tx K mg w) : FnOk P w K mg base CX0 3 T.a__law_last_row T.d__law_last_row ["_law_bag_here", "_law_titles_here"] (spB K namesPre codeRowPost2) := by
  have G__law_of := ok__law_of (P := P) (w := w) (base := base) T
  refine fn_bag T.F__law_last_row sc__law_last_row (fun ds h => ?_) (fun cdv A outer s H E hr => ⟨_, (pss_one (ps_ret (pe_call G__law_of (hr.mono (by decide)) (by rfl) T.m__law_of T.k__law_of T.b__law_of .nil pass0 (pa_cons (pv 0) (pa_cons (pe_lst (pa_cons (pe_tup (pa_cons pe_str (pa_cons (pe_call G__law_of (hr.mono (by decide)) (by rfl) T.m__law_of T.k__law_of T.b__law_of .nil pass0 (pa_cons (pv 0) (pa_cons (pv 1) pa_nil))) pa_nil))) (pa_cons (pe_tup (pa_cons pe_str pa_nil)) (pa_cons (pe_tup (pa_cons pe_str pa_nil)) pa_nil)))) pa_nil))))), fun F0 H0 b ds h => ?_⟩)
  · obtain ⟨t, rfl, _⟩ := h; rfl
  · obtain ⟨t, rfl, ht⟩ := h
    dsimp only [cxOf, env0, env1, List.map, List.length, List.replicate, List.cons_append, List.nil_append, List.append, Nat.reduceAdd, Nat.reduceSub, Nat.zero_add]
    repeat walk_at "y"
    refine of_namesM ht fun nm hnm hmem => ?_
    repeat walk_at "y"
    refine of_k ⟨by show 0 < 3; decide, by show 3 ≤ 100000; decide⟩ fun dd hd => ?_
    simp only [List.mem_cons, List.not_mem_nil, or_false] at hd
    rcases hd with rfl | rfl | rfl
    · exact ⟨rowBy_of (ks := [110]) (by decide +kernel) (form1 (fit_n hnm)), fun t' e => by cases e; exact nf1 hmem⟩
    · exact ⟨rowBy_of (ks := []) (by decide +kernel) form0, fun t' e => by cases e; exact nf0⟩
    · exact ⟨rowBy_of (ks := []) (by decide +kernel) form0, fun t' e => by cases e; exact nf0⟩
end
end Law
namespace Law
open PySem L2 Y
local macro_rules | `(tactic| walk_at "yv") => `(tactic| ((with_reducible show Ev _ (tVar _) _ _); refine ev_var rfl ?_))
local macro_rules | `(tactic| walk_at "ys") => `(tactic| with_reducible first
  | refine sm_seq ?_ | refine sm_ret ?_ | refine sm_if ?_ | refine sm_set ?_ | refine sm_next ?_ | refine sm_par ?_ | refine sm_drop ?_ | refine sm_brk ?_ | refine sm_cont ?_)
local macro_rules | `(tactic| walk_at "ye") => `(tactic| with_reducible first
  | refine ev_op ?_ | refine ev_and ?_ | refine ev_or ?_ | refine ev_not ?_ | refine ev_if ?_ | refine ev_chain ?_ | refine ev_neg ?_ | refine ev_isInt ?_ | refine ev_isBool ?_ | refine ev_isStr ?_ | refine ev_isList ?_ | refine ev_isTuple ?_ | refine ev_isLT ?_ | refine ev_isDict ?_
  | refine ev_int ?_ | refine ev_str ?_ | refine ev_bl ?_ | refine ev_non ?_ | refine ev_call ?_ | refine ev_cb ?_ | refine ev_lst ?_ | refine ev_tup ?_ | refine ev_join ?_
  | refine ea_nil ?_ | refine ea_cons ?_
  | refine et_B ?_ | refine et_test ?_ | refine et_not ?_ | refine et_and ?_ | refine et_or ?_ | refine et_yes ?_
  | refine o_plusI ?_ | refine o_i0 ?_ | refine o_b0 ?_ | refine o_isN ?_ | refine o_notN ?_
  | refine bl_ex ?_ | refine int_ex ?_ | refine str_ex ?_ | refine lst_ex ?_ | refine tup_ex ?_)
local macro_rules | `(tactic| walk_at "yo") => `(tactic| first
  | ((with_reducible show Ev _ (tOp (rIx _) (tVar _) _) _ _); refine ev_ixOwn rfl ?_)
  | ((with_reducible show Ev _ (tCB _ (tCons (tVar _) tNil)) _ _); refine ev_lenOwn rfl ?_)
  | ((with_reducible show Sm _ (tAsg _ (gSub (tVar _) _ _)) _ _); refine sm_setItem rfl ?_)
  | ((with_reducible show Ev _ (tCall (spB _ _ _) _ _ _) _ _); refine ev_callB rfl rfl ?_))
local macro_rules | `(tactic| walk_at "yc") => `(tactic| first
  | ((with_reducible show CMul _ _); first | exact Or.inr ⟨by decide, by decide⟩ | exact Or.inl ⟨by decide, by decide⟩ | exact Or.inr ⟨by omega, by omega⟩ | exact Or.inl ⟨by omega, by omega⟩)
  | ((with_reducible show CDiv _ _); exact ⟨by first | decide | omega, by first | decide | omega⟩)
  | ((with_reducible show CPow _ _); exact ⟨by decide, by decide, by first | decide | omega⟩)
  | ((show (0 : Int) < _); first | decide | omega))
local macro_rules | `(tactic| walk_at "yd") => `(tactic| first
  | ((with_reducible show plainD _ = true ∧ _); refine ⟨by first | rfl | assumption, ?_⟩)
  | ((with_reducible show (_ = true → _) ∧ (_ = false → _)); first | refine way_t rfl ?_ | refine way_f rfl ?_ | refine way_t (by decide +kernel) ?_ | refine way_f (by decide +kernel) ?_)
  | ((with_reducible show Cal _ _ _ _ _); first | (with_reducible refine c_int ?_) | (with_reducible refine c_abs ?_) | (refine c_len rfl ?_) | (refine c_len (if_pos (by assumption)) ?_))
  | ((with_reducible show Op2 _ (rEqA _) _ _ _ _); refine o_eqA rfl ?_)
  | ((with_reducible show Op2 _ (rNeA _) _ _ _ _); refine o_neA rfl ?_)
  | ((with_reducible show Op2 _ (rInA _) _ (Dt.str _) (Dt.lst _) _); refine o_inAL rfl rfl ?_)
  | ((with_reducible show Op2 _ (rInA _) _ (Dt.str _) (Dt.tup _) _); refine o_inAT rfl rfl ?_)
  | ((with_reducible show Op2 _ (rI _ _) _ _ _ _); refine o_i (by walk_at "yc") ?_)
  | ((with_reducible show Op2 _ (rIx _) _ (Dt.tup _) _ _); refine o_ixAT (atI_toNat (by decide) rfl) ?_)
  | ((with_reducible show Op2 _ (rIx _) _ (Dt.lst _) _ _); refine o_ixAL (atI_toNat (by decide) rfl) ?_)
  | ((with_reducible show ∃ x, atI _ _ = some x ∧ _); refine ⟨_, rfl, ?_⟩)
  | ((with_reducible show ∃ x, ixN _ _ = some x ∧ _); refine ⟨_, rfl, ?_⟩)
  | ((with_reducible show List.length _ ≤ 100000 ∧ _); refine ⟨by (try simp only [List.length_cons, List.length_nil]); first | decide | omega, ?_⟩))
local macro_rules | `(tactic| walk_at "y") => `(tactic| first | walk_at "yo" | walk_at "ye" | walk_at "yv" | walk_at "ys" | walk_at "yd")
local macro_rules | `(tactic| walk_at "yx") => `(tactic| first | walk_at "yo" | walk_at "ye" | walk_at "yv" | walk_at "yd")
section
variable {P : Program} {w : World} {K : PySem.W.Frag} {mg : Str → Option Value} {base : Heap}

theorem ok_is_word (T : Tx K mg w) : FnOk P w K mg base CX0 2 T.a_is_word T.d_is_word ["value"] (spD K valPre wordPost) := by
  have G_is_number := ok_is_number (P := P) (w := w) (base := base) T
  refine fn_data T.F_is_word sc_is_word (fun ds h => ?_) (fun cdv A outer s H E hr => ⟨_, (pss_one (ps_ret (pe_call G_is_number (hr.mono (by decide)) (by rfl) T.m_is_number T.k_is_number T.b_is_number .nil pass0 (pa_cons (pv 0) (pa_cons pe_int (pa_cons (pe_glob (v := .int 65535) (by rfl) T.m_MOST_WORD T.r_MOST_WORD) pa_nil)))))), fun F0 H0 ds h => ?_⟩)
  · obtain ⟨x, rfl, _⟩ := h; rfl
  · obtain ⟨x, rfl, hx, _⟩ := h
    dsimp only [cxOf, env0, env1, List.map, List.length, List.replicate, List.cons_append, List.nil_append, List.append, Nat.reduceAdd, Nat.reduceSub, Nat.zero_add]
    repeat walk_at "y"
    refine ⟨⟨x, 0, 65535, rfl, hx⟩, ?_⟩
    rintro d ⟨y, l, m, e, rfl⟩
    cases e
    exact ⟨x, rfl, rfl⟩

theorem ok_is_register (T : Tx K mg w) : FnOk P w K mg base CX0 1 T.a_is_register T.d_is_register ["value"] (spD K valPre regPost) := by
  refine fn_data T.F_is_register sc_is_register (fun ds h => ?_) (fun cdv A outer s H E hr => ⟨_, (pss_one (ps_ret (pe_and (pe_callB (call_isiA (K := K)) (by rfl) T.n_isinstance PyProof.Rows.boot_isinstance (pa_cons (pv 0) (pa_cons (pe_bltn (v := .ty "str") (by rfl) T.n_str (by decide +kernel) rfl) pa_nil))) (pe_one (pe_cmpR (op_inA (K := K)) (pv 0) (pe_glob (v := .ref T.a_REGISTERS) (by rfl) T.m_REGISTERS rfl) (by rfl)))))), fun F0 H0 ds h => ?_⟩)
  · obtain ⟨x, rfl, _⟩ := h; rfl
  · obtain ⟨x, rfl, hx, _⟩ := h
    dsimp only [cxOf, env0, env1, List.map, List.length, List.replicate, List.cons_append, List.nil_append, List.append, Nat.reduceAdd, Nat.reduceSub, Nat.zero_add]
    cases x with
    | obj _ _ _ => cases hx
    | ali _ => cases hx
    | str z =>
      repeat walk_at "y"
      refine ev_k T.kd_REGISTERS (o_inAT rfl rfl ?_)
      exact ⟨_, rfl, rfl⟩
    | _ =>
      repeat walk_at "y"
      exact ⟨_, rfl, rfl⟩

theorem ok_is_name (T : Tx K mg w) : FnOk P w K mg base CX0 1 T.a_is_name T.d_is_name ["value"] (spD K valPre namePost) := by
  refine fn_data T.F_is_name sc_is_name (fun ds h => ?_) (fun cdv A outer s H E hr => ⟨_, (pss_cons (ps_if (PW.pt (pw_or (pt_not (pt_val (pe_callB (call_isiA (K := K)) (by rfl) T.n_isinstance PyProof.Rows.boot_isinstance (pa_cons (pv 0) (pa_cons (pe_bltn (v := .ty "str") (by rfl) T.n_str (by decide +kernel) rfl) pa_nil))))) (pw_or1 (pt_not (pt_chain op_le op_le pe_int (pe_callB (call_lenA (K := K)) (by rfl) T.n_len PySem.boot_len (pa_cons (pv 0) pa_nil)) (pe_glob (v := .int 6) (by rfl) T.m_MOST_LETTERS T.r_MOST_LETTERS)))))) (pss_one (ps_ret pe_bl)) pss_nil)
      (pss_one (ps_ret (pe_callB (cr_allA (K := K) rfl) (by rfl) T.n_all PyProof.Rows.boot_all (pa_cons (pe_lc (own := [("sign", 1)]) (g := gName 1) rfl sc_is_name.nd (pi_str (pv 0)) (blkOk_by (N := ["value", "sign"]) (sc := defScope s_is_name) (by decide +kernel)) (fun _ _ _ _ _ => (pg_name (i := 1) sc_is_name.nd rfl (Or.inl rfl))) (fun _ _ _ _ _ => pts_nil) (fun _ _ _ _ _ => (pe_cmpR (op_inA (K := K)) (pv 1) (pe_glob (v := .str "abcdefghijklmnopqrstuvwxyz") (by rfl) T.m_LETTERS T.r_LETTERS) (by rfl)))) pa_nil))))), fun F0 H0 ds h => ?_⟩)
  · obtain ⟨x, rfl, _⟩ := h; rfl
  · obtain ⟨x, rfl, hx, ht⟩ := h
    dsimp only [cxOf, env0, env1, List.map, List.length, List.replicate, List.cons_append, List.nil_append, List.append, Nat.reduceAdd, Nat.reduceSub, Nat.zero_add]
    cases x with
    | obj _ _ _ => cases hx
    | ali _ => cases hx
    | str z =>
      obtain ⟨hz, _⟩ := ht z rfl
      have hl : z.length ≤ 100000 := by show z.cps.size ≤ _; omega
      repeat walk_at "y"
      refine ways (fun h1 => ?_) (fun h1 => ?_)
      · repeat walk_at "y"
        refine ways (fun h2 => ?_) (fun h2 => ?_)
        · repeat walk_at "y"
          refine ⟨_, rfl, ?_⟩
          show _ = Dt.bl (_ && (_ && _))
          have h2 : decide ((z.length : Int) ≤ 6) = false := by simpa using h2
          rw [h1, h2]; rfl
        · repeat walk_at "y"
          have h2 : decide ((z.length : Int) ≤ 6) = true := by simpa using h2
          refine EvO.ev (eo_mapS (fun c => .bl (decide (c ∈ letters))) ?_)
          repeat walk_at "y"
          refine ⟨by omega, fun c hc => ?_, ?_⟩
          · repeat walk_at "y"
            refine o_inAS ?_
            rfl
          · refine ea_nil (c_allF ?_)
            refine ⟨_, rfl, ?_⟩
            show _ = Dt.bl (_ && (_ && _))
            rw [h1, h2]; rfl
      · repeat walk_at "y"
        refine ⟨_, rfl, ?_⟩
        show _ = Dt.bl (_ && _)
        rw [h1]; rfl
    | _ =>
      repeat walk_at "y"
      exact ⟨_, rfl, rfl⟩

theorem ok__law_is_title (T : Tx K mg w) : FnOk P w K mg base CX0 1 T.a__law_is_title T.d__law_is_title ["_law_thing"] (spD K valPre namePost) := by
  refine fn_data T.F__law_is_title sc__law_is_title (fun ds h => ?_) (fun cdv A outer s H E hr => ⟨_, (pss_cons (ps_if (PW.pt (pw_or (pt_not (pt_val (pe_callB (call_isiA (K := K)) (by rfl) T.n_isinstance PyProof.Rows.boot_isinstance (pa_cons (pv 0) (pa_cons (pe_bltn (v := .ty "str") (by rfl) T.n_str (by decide +kernel) rfl) pa_nil))))) (pw_or (pt_cmpR op_lt (pe_callB (call_lenA (K := K)) (by rfl) T.n_len PySem.boot_len (pa_cons (pv 0) pa_nil)) pe_int (nomark _)) (pw_or1 (pt_cmpR op_gt (pe_callB (call_lenA (K := K)) (by rfl) T.n_len PySem.boot_len (pa_cons (pv 0) pa_nil)) pe_int (nomark _)))))) (pss_one (ps_ret pe_bl)) pss_nil)
      (pss_one (ps_ret (pe_cmpR (op_eqA (K := K) hr.units) (pe_lc (own := [("_law_sign", 1)]) (g := gName 1) rfl sc__law_is_title.nd (pi_str (pv 0)) (blkOk_by (N := ["_law_thing", "_law_sign"]) (sc := defScope s__law_is_title) (by decide +kernel)) (fun _ _ _ _ _ => (pg_name (i := 1) sc__law_is_title.nd rfl (Or.inl rfl))) (fun _ _ _ _ _ => (pts_one (pt_cmpR (op_niA (K := K)) (pv 1) pe_str (by rfl)))) (fun _ _ _ _ _ => (pv 1))) (pe_lst pa_nil) (nomark _))))), fun F0 H0 ds h => ?_⟩)
  · obtain ⟨x, rfl, _⟩ := h; rfl
  · obtain ⟨x, rfl, hx, ht⟩ := h
    dsimp only [cxOf, env0, env1, List.map, List.length, List.replicate, List.cons_append, List.nil_append, List.append, Nat.reduceAdd, Nat.reduceSub, Nat.zero_add]
    cases x with
    | obj _ _ _ => cases hx
    | ali _ => cases hx
    | str z =>
      obtain ⟨hz, hok⟩ := ht z rfl
      have hl : z.length ≤ 100000 := by show z.cps.size ≤ _; omega
      repeat walk_at "y"
      refine ways (fun h1 => ?_) (fun h1 => ?_)
      · repeat walk_at "y"
        refine ⟨_, rfl, ?_⟩
        show _ = Dt.bl (_ && (_ && _))
        have h1 := of_decide_eq_true h1
        rw [decide_eq_false (by omega)]; rfl
      · repeat walk_at "y"
        have h1 := of_decide_eq_false h1
        refine ways (fun h2 => ?_) (fun h2 => ?_)
        · repeat walk_at "y"
          refine ⟨_, rfl, ?_⟩
          show _ = Dt.bl (_ && (_ && _))
          have h2 := of_decide_eq_true h2
          rw [decide_eq_true (show (1 : Int) ≤ z.length by omega), decide_eq_false (show ¬ (z.length : Int) ≤ 6 by omega)]; rfl
        · repeat walk_at "y"
          have h2 := of_decide_eq_false h2
          refine EvO.ev (eo_filterS (fun c => !decide (c ∈ letters)) ?_ (by show 1 < 2; decide))
          repeat walk_at "y"
          refine ⟨by omega, fun c hc => ?_, ?_⟩
          · repeat walk_at "y"
            refine o_niAS ?_
            exact bl_ex rfl
          · repeat walk_at "y"
            have e : ((z.cps.toList.filter fun c => !decide (c ∈ letters)).map fun c => Dt.str ⟨#[c]⟩) = ((z.cps.toList.filter fun c => !decide (c ∈ letters)).map fun c => (⟨#[c]⟩ : Str)).map Dt.str := by rw [List.map_map]; rfl
            rw [e]
            refine o_eqNil ?_ ?_ ?_
            · rw [List.length_map]
              have := List.length_filter_le (fun c => !decide (c ∈ letters)) z.cps.toList
              have e0 : z.cps.toList.length = z.cps.size := by simp
              omega
            · intro t ht
              obtain ⟨c, hc, rfl⟩ := List.mem_map.mp ht
              refine strOk_of (lit := z) (fun k hk => ?_) hok
              have : k = c := by simpa using hk
              rw [this]
              exact (List.mem_filter.mp hc).1
            · refine ⟨_, rfl, ?_⟩
              show _ = Dt.bl (_ && (_ && _))
              rw [decide_eq_true (show (1 : Int) ≤ z.length by omega), decide_eq_true (show (z.length : Int) ≤ 6 by omega)]
              show Dt.bl _ = Dt.bl _
              rw [Bool.true_and, Bool.true_and]
              congr 1
              rw [Bool.eq_iff_iff, List.all_eq_true, List.isEmpty_iff, List.map_eq_nil_iff, List.filter_eq_nil_iff]
              simp
    | _ =>
      repeat walk_at "y"
      exact ⟨_, rfl, rfl⟩
end
end Law
namespace Law
open PySem L2 Y
local macro_rules | `(tactic| walk_at "yv") => `(tactic| ((with_reducible show Ev _ (tVar _) _ _); refine ev_var rfl ?_))
local macro_rules | `(tactic| walk_at "ys") => `(tactic| with_reducible first
  | refine sm_seq ?_ | refine sm_ret ?_ | refine sm_if ?_ | refine sm_set ?_ | refine sm_next ?_ | refine sm_par ?_ | refine sm_drop ?_ | refine sm_brk ?_ | refine sm_cont ?_)
local macro_rules | `(tactic| walk_at "ye") => `(tactic| with_reducible first
  | refine ev_op ?_ | refine ev_and ?_ | refine ev_or ?_ | refine ev_not ?_ | refine ev_if ?_ | refine ev_chain ?_ | refine ev_neg ?_ | refine ev_isInt ?_ | refine ev_isBool ?_ | refine ev_isStr ?_ | refine ev_isList ?_ | refine ev_isTuple ?_ | refine ev_isLT ?_ | refine ev_isDict ?_
  | refine ev_int ?_ | refine ev_str ?_ | refine ev_bl ?_ | refine ev_non ?_ | refine ev_call ?_ | refine ev_cb ?_ | refine ev_lst ?_ | refine ev_tup ?_ | refine ev_join ?_
  | refine ea_nil ?_ | refine ea_cons ?_
  | refine et_B ?_ | refine et_test ?_ | refine et_not ?_ | refine et_and ?_ | refine et_or ?_ | refine et_yes ?_
  | refine o_plusI ?_ | refine o_i0 ?_ | refine o_b0 ?_ | refine o_isN ?_ | refine o_notN ?_
  | refine bl_ex ?_ | refine int_ex ?_ | refine str_ex ?_ | refine lst_ex ?_ | refine tup_ex ?_)
local macro_rules | `(tactic| walk_at "yo") => `(tactic| first
  | ((with_reducible show Ev _ (tOp (rIx _) (tVar _) _) _ _); refine ev_ixOwn rfl ?_)
  | ((with_reducible show Ev _ (tCB _ (tCons (tVar _) tNil)) _ _); refine ev_lenOwn rfl ?_)
  | ((with_reducible show Sm _ (tAsg _ (gSub (tVar _) _ _)) _ _); refine sm_setItem rfl ?_)
  | ((with_reducible show Ev _ (tCall (spB _ _ _) _ _ _) _ _); refine ev_callB rfl rfl ?_))
local macro_rules | `(tactic| walk_at "yc") => `(tactic| first
  | ((with_reducible show CMul _ _); first | exact Or.inr ⟨by decide, by decide⟩ | exact Or.inl ⟨by decide, by decide⟩ | exact Or.inr ⟨by omega, by omega⟩ | exact Or.inl ⟨by omega, by omega⟩)
  | ((with_reducible show CDiv _ _); exact ⟨by first | decide | omega, by first | decide | omega⟩)
  | ((with_reducible show CPow _ _); exact ⟨by decide, by decide, by first | decide | omega⟩)
  | ((show (0 : Int) < _); first | decide | omega))
local macro_rules | `(tactic| walk_at "yd") => `(tactic| first
  | ((with_reducible show plainD _ = true ∧ _); refine ⟨by first | rfl | assumption, ?_⟩)
  | ((with_reducible show (_ = true → _) ∧ (_ = false → _)); first | refine way_t rfl ?_ | refine way_f rfl ?_ | refine way_t (by decide +kernel) ?_ | refine way_f (by decide +kernel) ?_)
  | ((with_reducible show Cal _ _ _ _ _); first | (with_reducible refine c_int ?_) | (with_reducible refine c_abs ?_) | (refine c_len rfl ?_) | (refine c_len (if_pos (by assumption)) ?_))
  | ((with_reducible show Op2 _ (rEqA _) _ _ _ _); refine o_eqA rfl ?_)
  | ((with_reducible show Op2 _ (rNeA _) _ _ _ _); refine o_neA rfl ?_)
  | ((with_reducible show Op2 _ (rInA _) _ (Dt.str _) (Dt.lst _) _); refine o_inAL rfl rfl ?_)
  | ((with_reducible show Op2 _ (rInA _) _ (Dt.str _) (Dt.tup _) _); refine o_inAT rfl rfl ?_)
  | ((with_reducible show Op2 _ (rI _ _) _ _ _ _); refine o_i (by walk_at "yc") ?_)
  | ((with_reducible show Op2 _ (rIx _) _ (Dt.tup _) _ _); refine o_ixAT (atI_toNat (by decide) rfl) ?_)
  | ((with_reducible show Op2 _ (rIx _) _ (Dt.lst _) _ _); refine o_ixAL (atI_toNat (by decide) rfl) ?_)
  | ((with_reducible show ∃ x, atI _ _ = some x ∧ _); refine ⟨_, rfl, ?_⟩)
  | ((with_reducible show ∃ x, ixN _ _ = some x ∧ _); refine ⟨_, rfl, ?_⟩)
  | ((with_reducible show List.length _ ≤ 100000 ∧ _); refine ⟨by (try simp only [List.length_cons, List.length_nil]); first | decide | omega, ?_⟩))
local macro_rules | `(tactic| walk_at "y") => `(tactic| first | walk_at "yo" | walk_at "ye" | walk_at "yv" | walk_at "ys" | walk_at "yd")
local macro_rules | `(tactic| walk_at "yx") => `(tactic| first | walk_at "yo" | walk_at "ye" | walk_at "yv" | walk_at "yd")

def fitsPre (ds : List Dt) : Prop := ∃ (k : Nat) (x : Dt), ds = [.str ⟨#[k]⟩, x] ∧ goodV x = true
def fitsPost (ds : List Dt) (d : Dt) : Prop := ∃ (k : Nat) (x : Dt), ds = [.str ⟨#[k]⟩, x] ∧ d = .bl (fitsB k x)
def thingPre (ds : List Dt) : Prop := ∃ x, ds = [x] ∧ thingB x = true
def hasWordB : Dt → Bool
  | .tup (.str _ :: _) => true
  | _ => false
def hasPost (ds : List Dt) (d : Dt) : Prop := ∃ x, ds = [x] ∧ d = .bl (hasWordB x)
theorem fits_k {k : Nat} {x : Dt} {R : Dt → Prop} (hp : goodV x = true) (h : R (.bl (fitsB k x))) : fitsPre [.str ⟨#[k]⟩, x] ∧ ∀ d, fitsPost [.str ⟨#[k]⟩, x] d → R d :=
  ⟨⟨k, x, rfl, hp⟩, fun d ⟨k', y, e, e2⟩ => by injection e with e1 e3; injection e1 with e1; injection e1 with e1; have : k = k' := by simpa using e1
                                               subst this; cases e3; subst e2; exact h⟩
theorem has_k {x : Dt} {R : Dt → Prop} (hp : thingB x = true) (h : R (.bl (hasWordB x))) : thingPre [x] ∧ ∀ d, hasPost [x] d → R d := ⟨⟨x, rfl, hp⟩, fun d ⟨y, e, e2⟩ => by cases e; subst e2; exact h⟩
section
variable {P : Program} {w : World} {K : PySem.W.Frag} {mg : Str → Option Value} {base : Heap}

theorem ok_fits (T : Tx K mg w) : FnOk P w K mg base CX0 3 T.a_fits T.d_fits ["kind", "value"] (spD K fitsPre fitsPost) := by
  have G_is_register := (ok_is_register (P := P) (w := w) (base := base) T)
  have G_is_name := (ok_is_name (P := P) (w := w) (base := base) T)
  have G_is_word := (ok_is_word (P := P) (w := w) (base := base) T)
  have G_is_number := (ok_is_number (P := P) (w := w) (base := base) T)
  refine fn_data T.F_fits sc_fits (fun ds h => ?_) (fun cdv A outer s H E hr => ⟨_, (pss_cons (ps_if (pt_cmpR (op_eqA (K := K) hr.units) (pv 0) pe_str (nomark _)) (pss_one (ps_ret (pe_call G_is_register (hr.mono (by decide)) (by rfl) T.m_is_register T.k_is_register T.b_is_register .nil pass0 (pa_cons (pv 1) pa_nil)))) pss_nil)
      (pss_cons (ps_if (pt_cmpR (op_eqA (K := K) hr.units) (pv 0) pe_str (nomark _)) (pss_one (ps_ret (pe_call G_is_name (hr.mono (by decide)) (by rfl) T.m_is_name T.k_is_name T.b_is_name .nil pass0 (pa_cons (pv 1) pa_nil)))) pss_nil)
      (pss_cons (ps_if (pt_cmpR (op_eqA (K := K) hr.units) (pv 0) pe_str (nomark _)) (pss_one (ps_ret (pe_call G_is_word (hr.mono (by decide)) (by rfl) T.m_is_word T.k_is_word T.b_is_word .nil pass0 (pa_cons (pv 1) pa_nil)))) pss_nil)
      (pss_cons (ps_if (pt_cmpR (op_eqA (K := K) hr.units) (pv 0) pe_str (nomark _)) (pss_one (ps_ret (pe_call G_is_number (hr.mono (by decide)) (by rfl) T.m_is_number T.k_is_number T.b_is_number .nil pass0 (pa_cons (pv 1) (pa_cons pe_int (pa_cons (pe_glob (v := .int 15) (by rfl) T.m_MOST_DISTANCE T.r_MOST_DISTANCE) pa_nil)))))) pss_nil)
      (pss_one (ps_ret (pe_call G_is_number (hr.mono (by decide)) (by rfl) T.m_is_number T.k_is_number T.b_is_number .nil pass0 (pa_cons (pv 1) (pa_cons pe_int (pa_cons (pe_glob (v := .int 120) (by rfl) T.m_MOST_ROOM T.r_MOST_ROOM) pa_nil)))))))))), fun F0 H0 ds h => ?_⟩)
  · obtain ⟨k, x, rfl, _⟩ := h; rfl
  · obtain ⟨k, x, rfl, hg⟩ := h
    dsimp only [cxOf, env0, env1, List.map, List.length, List.replicate, List.cons_append, List.nil_append, List.append, Nat.reduceAdd, Nat.reduceSub, Nat.zero_add]
    have hv := goodV_pre hg
    have q1 : decide ((⟨#[k]⟩ : Str) = "r") = decide (k = 114) := sign_eq (by decide +kernel)
    have q2 : decide ((⟨#[k]⟩ : Str) = "n") = decide (k = 110) := sign_eq (by decide +kernel)
    have q3 : decide ((⟨#[k]⟩ : Str) = "w") = decide (k = 119) := sign_eq (by decide +kernel)
    have q4 : decide ((⟨#[k]⟩ : Str) = "d") = decide (k = 100) := sign_eq (by decide +kernel)
    repeat walk_at "y"
    refine ways (fun h => ?_) (fun h => ?_)
    · have h := of_decide_eq_true (q1.symm.trans h)
      repeat walk_at "y"
      refine reg_k hv ?_
      exact ⟨k, x, rfl, by rw [fitsB, if_pos h]⟩
    have h1 := of_decide_eq_false (q1.symm.trans h)
    repeat walk_at "y"
    refine ways (fun h => ?_) (fun h => ?_)
    · have h := of_decide_eq_true (q2.symm.trans h)
      repeat walk_at "y"
      refine name_k hv ?_
      exact ⟨k, x, rfl, by rw [fitsB, if_neg h1, if_pos h]⟩
    have h2 := of_decide_eq_false (q2.symm.trans h)
    repeat walk_at "y"
    refine ways (fun h => ?_) (fun h => ?_)
    · have h := of_decide_eq_true (q3.symm.trans h)
      repeat walk_at "y"
      refine word_k hv ?_
      exact ⟨k, x, rfl, by rw [fitsB, if_neg h1, if_neg h2, if_pos h]⟩
    have h3 := of_decide_eq_false (q3.symm.trans h)
    repeat walk_at "y"
    refine ways (fun h => ?_) (fun h => ?_)
    · have h := of_decide_eq_true (q4.symm.trans h)
      repeat walk_at "y"
      refine num_k hv.1 ?_
      exact ⟨k, x, rfl, by rw [fitsB, if_neg h1, if_neg h2, if_neg h3, if_pos h]⟩
    have h4 := of_decide_eq_false (q4.symm.trans h)
    repeat walk_at "y"
    refine num_k hv.1 ?_
    exact ⟨k, x, rfl, by rw [fitsB, if_neg h1, if_neg h2, if_neg h3, if_neg h4]⟩

theorem ok_has_word (T : Tx K mg w) : FnOk P w K mg base CX0 1 T.a_has_word T.d_has_word ["value"] (spD K thingPre hasPost) := by
  refine fn_data T.F_has_word sc_has_word (fun ds h => ?_) (fun cdv A outer s H E hr => ⟨_, (pss_one (ps_ret (pe_and (pe_callB (call_isiA (K := K)) (by rfl) T.n_isinstance PyProof.Rows.boot_isinstance (pa_cons (pv 0) (pa_cons (pe_bltn (v := .ty "tuple") (by rfl) T.n_tuple (by decide +kernel) rfl) pa_nil))) (pe_and (pe_cmpR op_gt (pe_callB (call_lenA (K := K)) (by rfl) T.n_len PySem.boot_len (pa_cons (pv 0) pa_nil)) pe_int (nomark _)) (pe_one (pe_callB (call_isiA (K := K)) (by rfl) T.n_isinstance PyProof.Rows.boot_isinstance (pa_cons (pe_ix (ix_any (K := K)) (pv 0) pe_int (fun _ _ => rfl)) (pa_cons (pe_bltn (v := .ty "str") (by rfl) T.n_str (by decide +kernel) rfl) pa_nil)))))))), fun F0 H0 ds h => ?_⟩)
  · obtain ⟨x, rfl, _⟩ := h; rfl
  · obtain ⟨x, rfl, hg⟩ := h
    dsimp only [cxOf, env0, env1, List.map, List.length, List.replicate, List.cons_append, List.nil_append, List.append, Nat.reduceAdd, Nat.reduceSub, Nat.zero_add]
    have hp := thing_plain hg
    cases x with
    | obj _ _ _ => cases hp
    | ali _ => cases hp
    | tup ys =>
      obtain ⟨hl, hy⟩ := thing_tup hg
      have hl2 : ys.length ≤ 100000 := by omega
      cases ys with
      | nil =>
        repeat walk_at "y"
        exact ⟨_, rfl, rfl⟩
      | cons x xs =>
        have hx := (goodV_pre (hy x (List.mem_cons_self ..))).1
        repeat walk_at "y"
        refine way_t (decide_eq_true (by show (0 : Int) < ((x :: xs).length : Int); simp)) ?_
        repeat walk_at "y"
        refine ⟨_, rfl, ?_⟩
        cases x <;> rfl
    | _ =>
      repeat walk_at "y"
      exact ⟨_, rfl, rfl⟩
end
end Law
namespace Law
open PySem L2 Y
local macro_rules | `(tactic| walk_at "yv") => `(tactic| ((with_reducible show Ev _ (tVar _) _ _); refine ev_var rfl ?_))
local macro_rules | `(tactic| walk_at "ys") => `(tactic| with_reducible first
  | refine sm_seq ?_ | refine sm_ret ?_ | refine sm_if ?_ | refine sm_set ?_ | refine sm_next ?_ | refine sm_par ?_ | refine sm_drop ?_ | refine sm_brk ?_ | refine sm_cont ?_)
local macro_rules | `(tactic| walk_at "ye") => `(tactic| with_reducible first
  | refine ev_op ?_ | refine ev_and ?_ | refine ev_or ?_ | refine ev_not ?_ | refine ev_if ?_ | refine ev_chain ?_ | refine ev_neg ?_ | refine ev_isInt ?_ | refine ev_isBool ?_ | refine ev_isStr ?_ | refine ev_isList ?_ | refine ev_isTuple ?_ | refine ev_isLT ?_ | refine ev_isDict ?_
  | refine ev_int ?_ | refine ev_str ?_ | refine ev_bl ?_ | refine ev_non ?_ | refine ev_call ?_ | refine ev_cb ?_ | refine ev_lst ?_ | refine ev_tup ?_ | refine ev_join ?_
  | refine ea_nil ?_ | refine ea_cons ?_
  | refine et_B ?_ | refine et_test ?_ | refine et_not ?_ | refine et_and ?_ | refine et_or ?_ | refine et_yes ?_
  | refine o_plusI ?_ | refine o_i0 ?_ | refine o_b0 ?_ | refine o_isN ?_ | refine o_notN ?_
  | refine bl_ex ?_ | refine int_ex ?_ | refine str_ex ?_ | refine lst_ex ?_ | refine tup_ex ?_)
local macro_rules | `(tactic| walk_at "yo") => `(tactic| first
  | ((with_reducible show Ev _ (tOp (rIx _) (tVar _) _) _ _); refine ev_ixOwn rfl ?_)
  | ((with_reducible show Ev _ (tCB _ (tCons (tVar _) tNil)) _ _); refine ev_lenOwn rfl ?_)
  | ((with_reducible show Sm _ (tAsg _ (gSub (tVar _) _ _)) _ _); refine sm_setItem rfl ?_)
  | ((with_reducible show Ev _ (tCall (spB _ _ _) _ _ _) _ _); refine ev_callB rfl rfl ?_))
local macro_rules | `(tactic| walk_at "yc") => `(tactic| first
  | ((with_reducible show CMul _ _); first | exact Or.inr ⟨by decide, by decide⟩ | exact Or.inl ⟨by decide, by decide⟩ | exact Or.inr ⟨by omega, by omega⟩ | exact Or.inl ⟨by omega, by omega⟩)
  | ((with_reducible show CDiv _ _); exact ⟨by first | decide | omega, by first | decide | omega⟩)
  | ((with_reducible show CPow _ _); exact ⟨by decide, by decide, by first | decide | omega⟩)
  | ((show (0 : Int) < _); first | decide | omega))
local macro_rules | `(tactic| walk_at "yd") => `(tactic| first
  | ((with_reducible show plainD _ = true ∧ _); refine ⟨by first | rfl | assumption, ?_⟩)
  | ((with_reducible show (_ = true → _) ∧ (_ = false → _)); first | refine way_t rfl ?_ | refine way_f rfl ?_ | refine way_t (by decide +kernel) ?_ | refine way_f (by decide +kernel) ?_)
  | ((with_reducible show Cal _ _ _ _ _); first | (with_reducible refine c_int ?_) | (with_reducible refine c_abs ?_) | (refine c_len rfl ?_) | (refine c_len (if_pos (by assumption)) ?_))
  | ((with_reducible show Op2 _ (rEqA _) _ _ _ _); refine o_eqA rfl ?_)
  | ((with_reducible show Op2 _ (rNeA _) _ _ _ _); refine o_neA rfl ?_)
  | ((with_reducible show Op2 _ (rInA _) _ (Dt.str _) (Dt.lst _) _); refine o_inAL rfl rfl ?_)
  | ((with_reducible show Op2 _ (rInA _) _ (Dt.str _) (Dt.tup _) _); refine o_inAT rfl rfl ?_)
  | ((with_reducible show Op2 _ (rI _ _) _ _ _ _); refine o_i (by walk_at "yc") ?_)
  | ((with_reducible show Op2 _ (rIx _) _ (Dt.tup _) _ _); refine o_ixAT (atI_toNat (by decide) rfl) ?_)
  | ((with_reducible show Op2 _ (rIx _) _ (Dt.lst _) _ _); refine o_ixAL (atI_toNat (by decide) rfl) ?_)
  | ((with_reducible show ∃ x, atI _ _ = some x ∧ _); refine ⟨_, rfl, ?_⟩)
  | ((with_reducible show ∃ x, ixN _ _ = some x ∧ _); refine ⟨_, rfl, ?_⟩)
  | ((with_reducible show List.length _ ≤ 100000 ∧ _); refine ⟨by (try simp only [List.length_cons, List.length_nil]); first | decide | omega, ?_⟩))
local macro_rules | `(tactic| walk_at "y") => `(tactic| first | walk_at "yo" | walk_at "ye" | walk_at "yv" | walk_at "ys" | walk_at "yd")
local macro_rules | `(tactic| walk_at "yx") => `(tactic| first | walk_at "yo" | walk_at "ye" | walk_at "yv" | walk_at "yd")

def formPre (ds : List Dt) : Prop := ∃ (x : Dt) (rest : List Dt) (f : Str), ds = [.tup (x :: rest), .str f] ∧ rest.length ≤ 100 ∧ (∀ y ∈ rest, goodV y = true) ∧ f.cps.size ≤ 3
def formPost (ds : List Dt) (d : Dt) : Prop := ∃ (x : Dt) (rest : List Dt) (f : Str), ds = [.tup (x :: rest), .str f] ∧ d = .bl (formB f.cps.toList rest)
theorem form_k {x : Dt} {rest : List Dt} {f : Str} {R : Dt → Prop} (h1 : rest.length ≤ 100) (h2 : ∀ y ∈ rest, goodV y = true) (h3 : f.cps.size ≤ 3) (h : R (.bl (formB f.cps.toList rest))) : formPre [.tup (x :: rest), .str f] ∧ ∀ d, formPost [.tup (x :: rest), .str f] d → R d :=
  ⟨⟨x, rest, f, rfl, h1, h2, h3⟩, fun d ⟨y, r, f', e, e2⟩ => by cases e; subst e2; exact h⟩
def isCodePost (ds : List Dt) (d : Dt) : Prop := ∃ x, ds = [x] ∧ d = .bl (codeRow x)
def isDataPost (ds : List Dt) (d : Dt) : Prop := ∃ x, ds = [x] ∧ d = .bl (dataRow x)
theorem isCode_k {x : Dt} {R : Dt → Prop} (hp : thingB x = true) (h : R (.bl (codeRow x))) : thingPre [x] ∧ ∀ d, isCodePost [x] d → R d := ⟨⟨x, rfl, hp⟩, fun d ⟨y, e, e2⟩ => by cases e; subst e2; exact h⟩
theorem isData_k {x : Dt} {R : Dt → Prop} (hp : thingB x = true) (h : R (.bl (dataRow x))) : thingPre [x] ∧ ∀ d, isDataPost [x] d → R d := ⟨⟨x, rfl, hp⟩, fun d ⟨y, e, e2⟩ => by cases e; subst e2; exact h⟩
section
variable {P : Program} {w : World} {K : PySem.W.Frag} {mg : Str → Option Value} {base : Heap}

theorem ok_has_form (T : Tx K mg w) : FnOk P w K mg base CX0 4 T.a_has_form T.d_has_form ["value", "form"] (spD K formPre formPost) := by
  have G_fits := ok_fits (P := P) (w := w) (base := base) T
  refine fn_data T.F_has_form sc_has_form (fun ds h => ?_) (fun cdv A outer s H E hr => ⟨_, (pss_one (ps_ret (pe_and (pe_cmpR (op_eqA (K := K) hr.units) (pe_callB (call_lenA (K := K)) (by rfl) T.n_len PySem.boot_len (pa_cons (pv 0) pa_nil)) (pe_op (op_plus (K := K)) pe_int (pe_callB (call_lenA (K := K)) (by rfl) T.n_len PySem.boot_len (pa_cons (pv 1) pa_nil))) (nomark _)) (pe_one (pe_callB (cr_allA (K := K) rfl) (by rfl) T.n_all PyProof.Rows.boot_all (pa_cons (pe_lc (own := [("kind", 2), ("item", 3)]) (g := gTup K 2 (gCons (gName 2) (gCons (gName 3) gNil))) rfl sc_has_form.nd (pi_zipS (K := K) (by rfl) T.n_zip (pa_cons (pv 1) (pa_cons (pe_slice (sl_any (K := K)) (pv 0) (po_some pe_int) po_none) pa_nil))) (blkOk_by (N := ["value", "form", "kind", "item"]) (sc := defScope s_has_form) (by decide +kernel)) (fun _ _ _ _ _ => (pg_tupA (K := K) rfl (pgs_cons (pg_name (i := 2) sc_has_form.nd rfl (Or.inl rfl)) (pgs_cons (pg_name (i := 3) sc_has_form.nd rfl (Or.inl rfl)) pgs_nil)))) (fun _ _ _ _ _ => pts_nil) (fun _ _ _ _ _ => (pe_call G_fits (hr.mono (by decide)) (by rfl) T.m_fits T.k_fits T.b_fits .nil pass0 (pa_cons (pv 2) (pa_cons (pv 3) pa_nil))))) pa_nil)))))), fun F0 H0 ds h => ?_⟩)
  · obtain ⟨x, rest, f, rfl, _⟩ := h; rfl
  · obtain ⟨x, rest, f, rfl, hl, hg, hf⟩ := h
    dsimp only [cxOf, env0, env1, List.map, List.length, List.replicate, List.cons_append, List.nil_append, List.append, Nat.reduceAdd, Nat.reduceSub, Nat.zero_add]
    have hl2 : (x :: rest).length ≤ 100000 := by simp; omega
    have hf2 : f.length ≤ 100000 := by show f.cps.size ≤ _; omega
    have el : (x :: rest).length = rest.length + 1 := rfl
    have ef : f.length = f.cps.size := rfl
    repeat walk_at "y"
    refine ways (fun h => ?_) (fun h => ?_)
    · have h := of_decide_eq_true h
      have h3 : f.cps.toList.length = rest.length := by rw [Array.length_toList]; omega
      refine ev_cb (ea_cons (EvO.ev (eo_mapF (fun p => .bl (fit2 p)) (ei_zipS ?_))))
      refine ea_cons (ev_var rfl ?_)
      refine ea_cons (ev_tail (ev_var rfl ⟨_, _, rfl, ?_⟩))
      refine ea_nil ⟨_, _, rfl, ?_, ?_, ?_⟩
      · rw [pairD_len]; omega
      · intro p hp
        obtain ⟨a, b, rfl, ha, hb⟩ := pairD_in hp
        obtain ⟨c, hc, rfl⟩ := List.mem_map.mp ha
        refine tc_tup2 (by decide) ?_
        repeat walk_at "y"
        exact fits_k (hg b hb) rfl
      · refine ea_nil (c_allF (g := fit2) ?_)
        refine ⟨x, rest, f, rfl, ?_⟩
        show Dt.bl ((pairD (f.cps.toList.map fun c => .str ⟨#[c]⟩) rest).all fit2) = _
        rw [all_fit2 _ _ h3]
    · have h := of_decide_eq_false h
      refine ⟨x, rest, f, rfl, ?_⟩
      have : formB f.cps.toList rest = false := by
        cases e : formB f.cps.toList rest with
        | false => rfl
        | true =>
          have := formB_len e
          rw [Array.length_toList] at this
          omega
      rw [this]

theorem ok_is_code_row (T : Tx K mg w) : FnOk P w K mg base CX0 5 T.a_is_code_row T.d_is_code_row ["value"] (spD K thingPre isCodePost) := by
  have G_has_word := ok_has_word (P := P) (w := w) (base := base) T
  have G_has_form := ok_has_form (P := P) (w := w) (base := base) T
  refine fn_data T.F_is_code_row sc_is_code_row (fun ds h => ?_) (fun cdv A outer s H E hr => ⟨_, (pss_one (ps_ret (pe_and (pe_call G_has_word (hr.mono (by decide)) (by rfl) T.m_has_word T.k_has_word T.b_has_word .nil pass0 (pa_cons (pv 0) pa_nil)) (pe_and (pe_cmpR (op_inKD (K := K) (w := w)) (pe_ix (ix_any (K := K)) (pv 0) pe_int (fun _ _ => rfl)) (pe_glob (v := .ref T.a_CODE_FORMS) (by rfl) T.m_CODE_FORMS rfl) (by rfl)) (pe_one (pe_call G_has_form (hr.mono (by decide)) (by rfl) T.m_has_form T.k_has_form T.b_has_form .nil pass0 (pa_cons (pv 0) (pa_cons (pe_ix (ix_kd (K := K) (w := w)) (pe_glob (v := .ref T.a_CODE_FORMS) (by rfl) T.m_CODE_FORMS rfl) (pe_ix (ix_any (K := K)) (pv 0) pe_int (fun _ _ => rfl)) (fun _ _ => rfl)) pa_nil)))))))), fun F0 H0 ds h => ?_⟩)
  · obtain ⟨x, rfl, _⟩ := h; rfl
  · obtain ⟨x, rfl, hg⟩ := h
    dsimp only [cxOf, env0, env1, List.map, List.length, List.replicate, List.cons_append, List.nil_append, List.append, Nat.reduceAdd, Nat.reduceSub, Nat.zero_add]
    have hk : ([("put", (.str "rw")), ("name", (.str "rn")), ("add", (.str "rr")), ("take", (.str "rr")), ("load", (.str "rrd")), ("store", (.str "rrd")), ("jump", (.str "n")), ("ifzero", (.str "rn")), ("call", (.str "n")), ("callby", (.str "r")), ("back", (.str "")), ("out", (.str "r")), ("halt", (.str "")), ("room", (.str "k"))] : List (Str × V)) = (codeForms.map fun p => (p.1, V.str p.2)) := rfl
    repeat walk_at "y"
    refine has_k hg ?_
    repeat walk_at "y"
    refine ways (fun h => ?_) (fun h => ?_)
    · obtain ⟨w', rest, rfl⟩ : ∃ w' rest, x = .tup (.str w' :: rest) := by
        cases x with
        | tup ys =>
          cases ys with
          | nil => cases h
          | cons y ys =>
            cases y with
            | str z => exact ⟨_, _, rfl⟩
            | _ => cases h
        | _ => cases h
      obtain ⟨hl, hy⟩ := thing_tup hg
      refine ev_and (ev_inKD T.kd_CODE_FORMS ?_)
      repeat walk_at "y"
      rw [hk, lookup_strs]
      cases e : codeForms.lookup w' with
      | none =>
        refine way_f rfl ?_
        exact ⟨_, rfl, by rw [codeRow, rowBy_none e]⟩
      | some f =>
        refine way_t rfl ?_
        refine ev_call ?_
        refine ea_cons (ev_var rfl ?_)
        refine ea_cons (ev_ixKD T.kd_CODE_FORMS ?_)
        repeat walk_at "y"
        have hf : f.cps.size ≤ 3 := by
          have hm := lookup_mem e
          simp only [codeForms, List.mem_cons, List.not_mem_nil, or_false, Prod.mk.injEq] at hm
          have key : ∀ p ∈ codeForms, p.2.cps.size ≤ 3 := by decide +kernel
          exact key _ (lookup_mem e)
        refine ⟨.str f, by rw [hk, lookup_strs, e]; rfl, rfl, ea_nil ?_⟩
        refine form_k (by simp at hl; omega) (fun y hm => hy y (List.mem_cons_of_mem _ hm)) hf ?_
        exact ⟨_, rfl, by rw [codeRow, rowBy_at (ks := f.cps.toList) (by rw [e]; rfl)]⟩
    · refine ⟨_, rfl, ?_⟩
      have : codeRow x = false := by
        cases x with
        | tup ys =>
          cases ys with
          | nil => rfl
          | cons y ys =>
            cases y with
            | str z => cases h
            | _ => rfl
        | _ => rfl
      rw [this]

theorem ok_is_data_row (T : Tx K mg w) : FnOk P w K mg base CX0 5 T.a_is_data_row T.d_is_data_row ["value"] (spD K thingPre isDataPost) := by
  have G_has_word := ok_has_word (P := P) (w := w) (base := base) T
  have G_has_form := ok_has_form (P := P) (w := w) (base := base) T
  refine fn_data T.F_is_data_row sc_is_data_row (fun ds h => ?_) (fun cdv A outer s H E hr => ⟨_, (pss_one (ps_ret (pe_and (pe_call G_has_word (hr.mono (by decide)) (by rfl) T.m_has_word T.k_has_word T.b_has_word .nil pass0 (pa_cons (pv 0) pa_nil)) (pe_and (pe_cmpR (op_inKD (K := K) (w := w)) (pe_ix (ix_any (K := K)) (pv 0) pe_int (fun _ _ => rfl)) (pe_glob (v := .ref T.a_DATA_FORMS) (by rfl) T.m_DATA_FORMS rfl) (by rfl)) (pe_one (pe_call G_has_form (hr.mono (by decide)) (by rfl) T.m_has_form T.k_has_form T.b_has_form .nil pass0 (pa_cons (pv 0) (pa_cons (pe_ix (ix_kd (K := K) (w := w)) (pe_glob (v := .ref T.a_DATA_FORMS) (by rfl) T.m_DATA_FORMS rfl) (pe_ix (ix_any (K := K)) (pv 0) pe_int (fun _ _ => rfl)) (fun _ _ => rfl)) pa_nil)))))))), fun F0 H0 ds h => ?_⟩)
  · obtain ⟨x, rfl, _⟩ := h; rfl
  · obtain ⟨x, rfl, hg⟩ := h
    dsimp only [cxOf, env0, env1, List.map, List.length, List.replicate, List.cons_append, List.nil_append, List.append, Nat.reduceAdd, Nat.reduceSub, Nat.zero_add]
    have hk : ([("word", (.str "w")), ("address", (.str "n")), ("room", (.str "k"))] : List (Str × V)) = (dataForms.map fun p => (p.1, V.str p.2)) := rfl
    repeat walk_at "y"
    refine has_k hg ?_
    repeat walk_at "y"
    refine ways (fun h => ?_) (fun h => ?_)
    · obtain ⟨w', rest, rfl⟩ : ∃ w' rest, x = .tup (.str w' :: rest) := by
        cases x with
        | tup ys =>
          cases ys with
          | nil => cases h
          | cons y ys =>
            cases y with
            | str z => exact ⟨_, _, rfl⟩
            | _ => cases h
        | _ => cases h
      obtain ⟨hl, hy⟩ := thing_tup hg
      refine ev_and (ev_inKD T.kd_DATA_FORMS ?_)
      repeat walk_at "y"
      rw [hk, lookup_strs]
      cases e : dataForms.lookup w' with
      | none =>
        refine way_f rfl ?_
        exact ⟨_, rfl, by rw [dataRow, rowBy_none e]⟩
      | some f =>
        refine way_t rfl ?_
        refine ev_call ?_
        refine ea_cons (ev_var rfl ?_)
        refine ea_cons (ev_ixKD T.kd_DATA_FORMS ?_)
        repeat walk_at "y"
        have hf : f.cps.size ≤ 3 := by
          have hm := lookup_mem e
          simp only [dataForms, List.mem_cons, List.not_mem_nil, or_false, Prod.mk.injEq] at hm
          have key : ∀ p ∈ dataForms, p.2.cps.size ≤ 3 := by decide +kernel
          exact key _ (lookup_mem e)
        refine ⟨.str f, by rw [hk, lookup_strs, e]; rfl, rfl, ea_nil ?_⟩
        refine form_k (by simp at hl; omega) (fun y hm => hy y (List.mem_cons_of_mem _ hm)) hf ?_
        exact ⟨_, rfl, by rw [dataRow, rowBy_at (ks := f.cps.toList) (by rw [e]; rfl)]⟩
    · refine ⟨_, rfl, ?_⟩
      have : dataRow x = false := by
        cases x with
        | tup ys =>
          cases ys with
          | nil => rfl
          | cons y ys =>
            cases y with
            | str z => cases h
            | _ => rfl
        | _ => rfl
      rw [this]
end
end Law
namespace Law
open PySem L2 Y
local macro_rules | `(tactic| walk_at "yv") => `(tactic| ((with_reducible show Ev _ (tVar _) _ _); refine ev_var rfl ?_))
local macro_rules | `(tactic| walk_at "ys") => `(tactic| with_reducible first
  | refine sm_seq ?_ | refine sm_ret ?_ | refine sm_if ?_ | refine sm_set ?_ | refine sm_next ?_ | refine sm_par ?_ | refine sm_drop ?_ | refine sm_brk ?_ | refine sm_cont ?_)
local macro_rules | `(tactic| walk_at "ye") => `(tactic| with_reducible first
  | refine ev_op ?_ | refine ev_and ?_ | refine ev_or ?_ | refine ev_not ?_ | refine ev_if ?_ | refine ev_chain ?_ | refine ev_neg ?_ | refine ev_isInt ?_ | refine ev_isBool ?_ | refine ev_isStr ?_ | refine ev_isList ?_ | refine ev_isTuple ?_ | refine ev_isLT ?_ | refine ev_isDict ?_
  | refine ev_int ?_ | refine ev_str ?_ | refine ev_bl ?_ | refine ev_non ?_ | refine ev_call ?_ | refine ev_cb ?_ | refine ev_lst ?_ | refine ev_tup ?_ | refine ev_join ?_
  | refine ea_nil ?_ | refine ea_cons ?_
  | refine et_B ?_ | refine et_test ?_ | refine et_not ?_ | refine et_and ?_ | refine et_or ?_ | refine et_yes ?_
  | refine o_plusI ?_ | refine o_i0 ?_ | refine o_b0 ?_ | refine o_isN ?_ | refine o_notN ?_
  | refine bl_ex ?_ | refine int_ex ?_ | refine str_ex ?_ | refine lst_ex ?_ | refine tup_ex ?_)
local macro_rules | `(tactic| walk_at "yo") => `(tactic| first
  | ((with_reducible show Ev _ (tOp (rIx _) (tVar _) _) _ _); refine ev_ixOwn rfl ?_)
  | ((with_reducible show Ev _ (tCB _ (tCons (tVar _) tNil)) _ _); refine ev_lenOwn rfl ?_)
  | ((with_reducible show Sm _ (tAsg _ (gSub (tVar _) _ _)) _ _); refine sm_setItem rfl ?_)
  | ((with_reducible show Ev _ (tCall (spB _ _ _) _ _ _) _ _); refine ev_callB rfl rfl ?_))
local macro_rules | `(tactic| walk_at "yc") => `(tactic| first
  | ((with_reducible show CMul _ _); first | exact Or.inr ⟨by decide, by decide⟩ | exact Or.inl ⟨by decide, by decide⟩ | exact Or.inr ⟨by omega, by omega⟩ | exact Or.inl ⟨by omega, by omega⟩)
  | ((with_reducible show CDiv _ _); exact ⟨by first | decide | omega, by first | decide | omega⟩)
  | ((with_reducible show CPow _ _); exact ⟨by decide, by decide, by first | decide | omega⟩)
  | ((show (0 : Int) < _); first | decide | omega))
local macro_rules | `(tactic| walk_at "yd") => `(tactic| first
  | ((with_reducible show plainD _ = true ∧ _); refine ⟨by first | rfl | assumption, ?_⟩)
  | ((with_reducible show (_ = true → _) ∧ (_ = false → _)); first | refine way_t rfl ?_ | refine way_f rfl ?_ | refine way_t (by decide +kernel) ?_ | refine way_f (by decide +kernel) ?_)
  | ((with_reducible show Cal _ _ _ _ _); first | (with_reducible refine c_int ?_) | (with_reducible refine c_abs ?_) | (refine c_len rfl ?_) | (refine c_len (if_pos (by assumption)) ?_))
  | ((with_reducible show Op2 _ (rEqA _) _ _ _ _); refine o_eqA rfl ?_)
  | ((with_reducible show Op2 _ (rNeA _) _ _ _ _); refine o_neA rfl ?_)
  | ((with_reducible show Op2 _ (rInA _) _ (Dt.str _) (Dt.lst _) _); refine o_inAL rfl rfl ?_)
  | ((with_reducible show Op2 _ (rInA _) _ (Dt.str _) (Dt.tup _) _); refine o_inAT rfl rfl ?_)
  | ((with_reducible show Op2 _ (rI _ _) _ _ _ _); refine o_i (by walk_at "yc") ?_)
  | ((with_reducible show Op2 _ (rIx _) _ (Dt.tup _) _ _); refine o_ixAT (atI_toNat (by decide) rfl) ?_)
  | ((with_reducible show Op2 _ (rIx _) _ (Dt.lst _) _ _); refine o_ixAL (atI_toNat (by decide) rfl) ?_)
  | ((with_reducible show ∃ x, atI _ _ = some x ∧ _); refine ⟨_, rfl, ?_⟩)
  | ((with_reducible show ∃ x, ixN _ _ = some x ∧ _); refine ⟨_, rfl, ?_⟩)
  | ((with_reducible show List.length _ ≤ 100000 ∧ _); refine ⟨by (try simp only [List.length_cons, List.length_nil]); first | decide | omega, ?_⟩))
local macro_rules | `(tactic| walk_at "y") => `(tactic| first | walk_at "yo" | walk_at "ye" | walk_at "yv" | walk_at "ys" | walk_at "yd")
local macro_rules | `(tactic| walk_at "yx") => `(tactic| first | walk_at "yo" | walk_at "ye" | walk_at "yv" | walk_at "yd")

theorem in2 {z a b : Str} (h : inD (.str z) [.str a, .str b] = true) : z = a ∨ z = b := by
  simp only [inD, List.any_cons, List.any_nil, eqD, Bool.or_false, Bool.or_eq_true] at h
  rcases h with h | h
  · exact .inl (by first | simpa using h | exact (by simpa using h : _ = _).symm)
  · exact .inr (by first | simpa using h | exact (by simpa using h : _ = _).symm)
theorem ni2 {z a b : Str} (h : inD (.str z) [.str a, .str b] = false) : z ≠ a ∧ z ≠ b := by
  constructor
  · rintro rfl; simp [inD, eqD] at h
  · rintro rfl; simp [inD, eqD] at h
theorem no_code {z : Str} {rest : List Dt} (h : codeRow (.tup (.str z :: rest)) ≠ true) : codeRow (.tup (.str z :: rest)) = false := by
  cases e : codeRow (.tup (.str z :: rest)) with
  | false => rfl
  | true => exact absurd e h
theorem f1 {k : Nat} {a : Dt} : formB [k] [a] = fitsB k a := by show (fitsB k a && true) = _; rw [Bool.and_true]
theorem f2 {k l : Nat} {a b : Dt} (h : fitsB k a = true) : formB [k, l] [a, b] = fitsB l b := by show (fitsB k a && (fitsB l b && true)) = _; rw [Bool.and_true, h, Bool.true_and]
theorem f3 {k l m : Nat} {a b c : Dt} (h : fitsB k a = true) (h2 : fitsB l b = true) : formB [k, l, m] [a, b, c] = fitsB m c := by show (fitsB k a && (fitsB l b && (fitsB m c && true))) = _; rw [Bool.and_true, h, h2, Bool.true_and, Bool.true_and]
theorem f_ne {ks : List Nat} {xs : List Dt} (h : ks.length ≠ xs.length) : formB ks xs = false := by
  cases e : formB ks xs with
  | false => rfl
  | true => exact absurd (formB_len e) h
theorem len_ne {n k : Nat} (h : n ≠ k) : dEq (.int (n : Int)) (.int (k : Int)) = false := decide_eq_false (by omega)
theorem str_of {a : Dt} (h : isStrD a = true) : ∃ y, a = .str y := by cases a <;> first | exact ⟨_, rfl⟩ | cases h
section
variable {P : Program} {w : World} {K : PySem.W.Frag} {mg : Str → Option Value} {base : Heap}

theorem ok__law_code_so (T : Tx K mg w) : FnOk P w K mg base CX0 2 T.a__law_code_so T.d__law_code_so ["_law_thing"] (spD K thingPre isCodePost) := by
  have G__law_within := ok__law_within (P := P) (w := w) (base := base) T
  have G__law_is_title := ok__law_is_title (P := P) (w := w) (base := base) T
  refine fn_data T.F__law_code_so sc__law_code_so (fun ds h => ?_) (fun cdv A outer s H E hr => ⟨_, (pss_cons (ps_if (PW.pt (pw_or (pt_not (pt_val (pe_callB (call_isiA (K := K)) (by rfl) T.n_isinstance PyProof.Rows.boot_isinstance (pa_cons (pv 0) (pa_cons (pe_bltn (v := .ty "tuple") (by rfl) T.n_tuple (by decide +kernel) rfl) pa_nil))))) (pw_or (pt_cmpR (op_eqA (K := K) hr.units) (pe_callB (call_lenA (K := K)) (by rfl) T.n_len PySem.boot_len (pa_cons (pv 0) pa_nil)) pe_int (nomark _)) (pw_or1 (pt_not (pt_val (pe_callB (call_isiA (K := K)) (by rfl) T.n_isinstance PyProof.Rows.boot_isinstance (pa_cons (pe_ix (ix_any (K := K)) (pv 0) pe_int (fun _ _ => rfl)) (pa_cons (pe_bltn (v := .ty "str") (by rfl) T.n_str (by decide +kernel) rfl) pa_nil))))))))) (pss_one (ps_ret pe_bl)) pss_nil)
      (pss_cons (ps_par rfl sc__law_code_so.nd (i := 1) (j := 2) rfl rfl (by decide) rfl rfl (pa_cons (pe_ix (ix_any (K := K)) (pv 0) pe_int (fun _ _ => rfl)) (pa_cons (pe_callTy (call_listB (K := K) rfl) (by rfl) T.n_list PyProof.Rows.boot_list (pa_cons (pe_slice (sl_any (K := K)) (pv 0) (po_some pe_int) po_none) pa_nil)) pa_nil)) rfl)
      (pss_cons (ps_if (pt_cmpR (op_inA (K := K)) (pv 1) (pe_tup (pa_cons pe_str (pa_cons pe_str pa_nil))) (by rfl)) (pss_one (ps_ret (pe_cmpR (op_eqA (K := K) hr.units) (pe_callB (call_lenA (K := K)) (by rfl) T.n_len PySem.boot_len (pa_cons (pv 2) pa_nil)) pe_int (nomark _)))) pss_nil)
      (pss_cons (ps_if (pt_cmpR (op_eqA (K := K) hr.units) (pv 1) pe_str (nomark _)) (pss_one (ps_ret (pe_and (pe_cmpR (op_eqA (K := K) hr.units) (pe_callB (call_lenA (K := K)) (by rfl) T.n_len PySem.boot_len (pa_cons (pv 2) pa_nil)) pe_int (nomark _)) (pe_one (pe_call G__law_within (hr.mono (by decide)) (by rfl) T.m__law_within T.k__law_within T.b__law_within .nil pass0 (pa_cons (pe_ix (ix_any (K := K)) (pv 2) pe_int (fun _ _ => rfl)) (pa_cons pe_int (pa_cons pe_int pa_nil)))))))) pss_nil)
      (pss_cons (ps_if (pt_cmpR (op_inA (K := K)) (pv 1) (pe_tup (pa_cons pe_str (pa_cons pe_str pa_nil))) (by rfl)) (pss_one (ps_ret (pe_and (pe_cmpR (op_eqA (K := K) hr.units) (pe_callB (call_lenA (K := K)) (by rfl) T.n_len PySem.boot_len (pa_cons (pv 2) pa_nil)) pe_int (nomark _)) (pe_one (pe_call G__law_is_title (hr.mono (by decide)) (by rfl) T.m__law_is_title T.k__law_is_title T.b__law_is_title .nil pass0 (pa_cons (pe_ix (ix_any (K := K)) (pv 2) pe_int (fun _ _ => rfl)) pa_nil)))))) pss_nil)
      (pss_cons (ps_if (PW.pt (pw_or (pt_cmpR (op_eqA (K := K) hr.units) (pe_callB (call_lenA (K := K)) (by rfl) T.n_len PySem.boot_len (pa_cons (pv 2) pa_nil)) pe_int (nomark _)) (pw_or (pt_not (pt_val (pe_callB (call_isiA (K := K)) (by rfl) T.n_isinstance PyProof.Rows.boot_isinstance (pa_cons (pe_ix (ix_any (K := K)) (pv 2) pe_int (fun _ _ => rfl)) (pa_cons (pe_bltn (v := .ty "str") (by rfl) T.n_str (by decide +kernel) rfl) pa_nil))))) (pw_or1 (pt_cmpR (op_niA (K := K)) (pe_ix (ix_any (K := K)) (pv 2) pe_int (fun _ _ => rfl)) (pe_lst (pa_cons pe_str (pa_cons pe_str (pa_cons pe_str pa_nil)))) (by rfl)))))) (pss_one (ps_ret pe_bl)) pss_nil)
      (pss_cons (ps_if (pt_cmpR (op_inA (K := K)) (pv 1) (pe_tup (pa_cons pe_str (pa_cons pe_str pa_nil))) (by rfl)) (pss_one (ps_ret (pe_cmpR (op_eqA (K := K) hr.units) (pe_callB (call_lenA (K := K)) (by rfl) T.n_len PySem.boot_len (pa_cons (pv 2) pa_nil)) pe_int (nomark _)))) pss_nil)
      (pss_cons (ps_if (pt_cmpR (op_inA (K := K)) (pv 1) (pe_tup (pa_cons pe_str (pa_cons pe_str pa_nil))) (by rfl)) (pss_one (ps_ret (pe_and (pe_cmpR (op_eqA (K := K) hr.units) (pe_callB (call_lenA (K := K)) (by rfl) T.n_len PySem.boot_len (pa_cons (pv 2) pa_nil)) pe_int (nomark _)) (pe_one (pe_call G__law_is_title (hr.mono (by decide)) (by rfl) T.m__law_is_title T.k__law_is_title T.b__law_is_title .nil pass0 (pa_cons (pe_ix (ix_any (K := K)) (pv 2) pe_int (fun _ _ => rfl)) pa_nil)))))) pss_nil)
      (pss_cons (ps_if (pt_cmpR (op_eqA (K := K) hr.units) (pv 1) pe_str (nomark _)) (pss_one (ps_ret (pe_and (pe_cmpR (op_eqA (K := K) hr.units) (pe_callB (call_lenA (K := K)) (by rfl) T.n_len PySem.boot_len (pa_cons (pv 2) pa_nil)) pe_int (nomark _)) (pe_one (pe_call G__law_within (hr.mono (by decide)) (by rfl) T.m__law_within T.k__law_within T.b__law_within .nil pass0 (pa_cons (pe_ix (ix_any (K := K)) (pv 2) pe_int (fun _ _ => rfl)) (pa_cons pe_int (pa_cons pe_int pa_nil)))))))) pss_nil)
      (pss_cons (ps_if (PW.pt (pw_or (pt_cmpR op_lt (pe_callB (call_lenA (K := K)) (by rfl) T.n_len PySem.boot_len (pa_cons (pv 2) pa_nil)) pe_int (nomark _)) (pw_or (pt_not (pt_val (pe_callB (call_isiA (K := K)) (by rfl) T.n_isinstance PyProof.Rows.boot_isinstance (pa_cons (pe_ix (ix_any (K := K)) (pv 2) pe_int (fun _ _ => rfl)) (pa_cons (pe_bltn (v := .ty "str") (by rfl) T.n_str (by decide +kernel) rfl) pa_nil))))) (pw_or1 (pt_cmpR (op_niA (K := K)) (pe_ix (ix_any (K := K)) (pv 2) pe_int (fun _ _ => rfl)) (pe_lst (pa_cons pe_str (pa_cons pe_str (pa_cons pe_str pa_nil)))) (by rfl)))))) (pss_one (ps_ret pe_bl)) pss_nil)
      (pss_cons (ps_if (pt_cmpR (op_inA (K := K)) (pv 1) (pe_tup (pa_cons pe_str (pa_cons pe_str pa_nil))) (by rfl)) (pss_one (ps_ret (pe_cmpR (op_eqA (K := K) hr.units) (pe_callB (call_lenA (K := K)) (by rfl) T.n_len PySem.boot_len (pa_cons (pv 2) pa_nil)) pe_int (nomark _)))) pss_nil)
      (pss_one (ps_ret (pe_and (pe_cmpR (op_inA (K := K)) (pv 1) (pe_tup (pa_cons pe_str (pa_cons pe_str pa_nil))) (by rfl)) (pe_and (pe_cmpR (op_eqA (K := K) hr.units) (pe_callB (call_lenA (K := K)) (by rfl) T.n_len PySem.boot_len (pa_cons (pv 2) pa_nil)) pe_int (nomark _)) (pe_one (pe_call G__law_within (hr.mono (by decide)) (by rfl) T.m__law_within T.k__law_within T.b__law_within .nil pass0 (pa_cons (pe_ix (ix_any (K := K)) (pv 2) pe_int (fun _ _ => rfl)) (pa_cons pe_int (pa_cons pe_int pa_nil)))))))))))))))))))), fun F0 H0 ds h => ?_⟩)
  · obtain ⟨x, rfl, _⟩ := h; rfl
  obtain ⟨x, rfl, hg⟩ := h
  dsimp only [cxOf, env0, env1, List.map, List.length, List.replicate, List.cons_append, List.nil_append, List.append, Nat.reduceAdd, Nat.reduceSub, Nat.zero_add]
  have hp := thing_plain hg
  cases x with
  | obj _ _ _ => cases hp
  | ali _ => cases hp
  | tup ys =>
    obtain ⟨hl, hy⟩ := thing_tup hg
    have hl2 : ys.length ≤ 100000 := by omega
    cases ys with
    | nil =>
      repeat walk_at "y"
      exact ⟨_, rfl, rfl⟩
    | cons y rest =>
      have gy := hy y (List.mem_cons_self ..)
      have gr : ∀ a ∈ rest, goodV a = true := fun a ha => hy a (List.mem_cons_of_mem _ ha)
      have py := (goodV_pre gy).1
      cases y with
      | str z =>
        have hl3 : rest.length ≤ 100000 := by simp at hl; omega
        refine sm_seq (sm_if ?_)
        repeat walk_at "yx"
        refine sm_next ?_
        refine sm_seq (sm_par (ea_cons (ev_op (ev_var rfl (ev_int (o_ixAT (atI_toNat (by decide) rfl) ?_))))))
        refine ea_cons (EvO.ev (eo_listL (ea_cons (ev_tail (ev_var rfl ⟨_, _, rfl, ?_⟩)))))
        refine ea_nil ⟨_, .inr rfl, ea_nil ⟨_, _, rfl, ?_⟩⟩
        have post : ∀ b : Bool, b = codeRow (.tup (.str z :: rest)) → isCodePost [.tup (.str z :: rest)] (.bl b) := fun b e => ⟨_, rfl, by rw [e]⟩
        clear hg hp hy gy py hl2
        -- back, halt
        refine sm_seq (sm_if ?_)
        repeat walk_at "yx"
        try refine o_inAT rfl rfl (bl_ex ?_)
        refine ways (fun h => ?_) (fun h => ?_)
        · refine sm_ret ?_
          repeat walk_at "yx"
          refine post _ ?_
          have e : codeRow (.tup (.str z :: rest)) = formB [] rest := by rcases in2 h with rfl | rfl <;> exact rowBy_at (by decide +kernel)
          rw [e]
          cases rest with
          | nil => rfl
          | cons a r => rw [f_ne (by simp)]; exact len_ne (k := 0) (by simp)
        have n1 := ni2 h
        refine sm_next ?_
        -- room
        refine sm_seq (sm_if ?_)
        repeat walk_at "yx"
        refine ways (fun h => ?_) (fun h => ?_)
        · have hz : z = "room" := of_decide_eq_true h
          subst hz
          have e : codeRow (.tup (.str "room" :: rest)) = formB [107] rest := rowBy_at (by decide +kernel)
          refine sm_ret ?_
          cases rest with
          | nil => repeat walk_at "yx"
                   exact post _ (by rw [e]; rfl)
          | cons a r =>
            cases r with
            | nil =>
              repeat walk_at "yx"
              refine num_k (goodV_pre (gr a (by simp))).1 ?_
              exact post _ (by rw [e, f1]; rfl)
            | cons b r =>
              repeat walk_at "yx"
              exact post _ (by rw [e, f_ne (by simp)])
        have n2 : z ≠ "room" := of_decide_eq_false h
        refine sm_next ?_
        -- jump, call
        refine sm_seq (sm_if ?_)
        repeat walk_at "yx"
        try refine o_inAT rfl rfl (bl_ex ?_)
        refine ways (fun h => ?_) (fun h => ?_)
        · have e : codeRow (.tup (.str z :: rest)) = formB [110] rest := by rcases in2 h with rfl | rfl <;> exact rowBy_at (by decide +kernel)
          refine sm_ret ?_
          cases rest with
          | nil => repeat walk_at "yx"
                   exact post _ (by rw [e]; rfl)
          | cons a r =>
            cases r with
            | nil =>
              repeat walk_at "yx"
              refine name_k (goodV_pre (gr a (by simp))) ?_
              exact post _ (by rw [e, f1]; rfl)
            | cons b r =>
              repeat walk_at "yx"
              exact post _ (by rw [e, f_ne (by simp)])
        have n3 := ni2 h
        refine sm_next ?_
        -- the first register
        have n4 : ¬ (z = "back" ∨ z = "halt" ∨ z = "room" ∨ z = "jump" ∨ z = "call") := by
          rintro (q | q | q | q | q)
          · exact n1.1 q
          · exact n1.2 q
          · exact n2 q
          · exact n3.1 q
          · exact n3.2 q
        refine sm_seq (sm_if ?_)
        cases rest with
        | nil =>
          repeat walk_at "yx"
          refine sm_ret ?_
          repeat walk_at "yx"
          refine post _ (no_code fun q => ?_).symm
          rcases code_inv q with q | ⟨_, x, ys, q, _⟩ | ⟨_, x, y, ys, q, _⟩
          · exact n4 q
          · cases q
          · cases q
        | cons a r =>
        have ga := goodV_pre (gr a (by simp))
        by_cases ha : isRegD a = true
        · obtain ⟨y, rfl⟩ : ∃ y, a = .str y := by cases a <;> first | exact ⟨_, rfl⟩ | cases ha
          have ha' : inD (.str y) [.str "r0", .str "r1", .str "r2"] = true := ha
          have fa : fitsB 114 (.str y) = true := ha
          repeat walk_at "yx"
          refine o_niAL rfl rfl ?_
          rw [ha']
          repeat walk_at "yx"
          refine sm_next ?_
          -- callby, out
          refine sm_seq (sm_if ?_)
          repeat walk_at "yx"
          try refine o_inAT rfl rfl (bl_ex ?_)
          refine ways (fun h => ?_) (fun h => ?_)
          · have e : codeRow (.tup (.str z :: .str y :: r)) = formB [114] (.str y :: r) := by rcases in2 h with rfl | rfl <;> exact rowBy_at (by decide +kernel)
            refine sm_ret ?_
            repeat walk_at "yx"
            refine post _ ?_
            rw [e]
            cases r with
            | nil => exact (f1.trans fa).symm
            | cons b r => rw [f_ne (by simp)]; exact len_ne (k := 1) (by simp)
          have n5 := ni2 h
          refine sm_next ?_
          -- name, ifzero
          refine sm_seq (sm_if ?_)
          repeat walk_at "yx"
          try refine o_inAT rfl rfl (bl_ex ?_)
          refine ways (fun h => ?_) (fun h => ?_)
          · have e : codeRow (.tup (.str z :: .str y :: r)) = formB [114, 110] (.str y :: r) := by rcases in2 h with rfl | rfl <;> exact rowBy_at (by decide +kernel)
            refine sm_ret ?_
            cases r with
            | nil => repeat walk_at "yx"
                     exact post _ (by rw [e, f_ne (by simp)])
            | cons b r =>
              cases r with
              | nil =>
                repeat walk_at "yx"
                refine name_k (goodV_pre (gr b (by simp))) ?_
                exact post _ (by rw [e, f2 fa]; rfl)
              | cons c r =>
                repeat walk_at "yx"
                exact post _ (by rw [e, f_ne (by simp)])
          have n6 := ni2 h
          refine sm_next ?_
          -- put
          refine sm_seq (sm_if ?_)
          repeat walk_at "yx"
          refine ways (fun h => ?_) (fun h => ?_)
          · have hz : z = "put" := of_decide_eq_true h
            have e : codeRow (.tup (.str z :: .str y :: r)) = formB [114, 119] (.str y :: r) := by rw [hz]; exact rowBy_at (by decide +kernel)
            refine sm_ret ?_
            cases r with
            | nil => repeat walk_at "yx"
                     exact post _ (by rw [e, f_ne (by simp)])
            | cons b r =>
              cases r with
              | nil =>
                repeat walk_at "yx"
                refine num_k (goodV_pre (gr b (by simp))).1 ?_
                exact post _ (by rw [e, f2 fa]; rfl)
              | cons c r =>
                repeat walk_at "yx"
                exact post _ (by rw [e, f_ne (by simp)])
          have n7 : z ≠ "put" := of_decide_eq_false h
          refine sm_next ?_
          have n8 : ¬ (z = "callby" ∨ z = "out" ∨ z = "name" ∨ z = "ifzero" ∨ z = "put") := by
            rintro (q | q | q | q | q)
            · exact n5.1 q
            · exact n5.2 q
            · exact n6.1 q
            · exact n6.2 q
            · exact n7 q
          -- the second register
          refine sm_seq (sm_if ?_)
          cases r with
          | nil =>
            repeat walk_at "yx"
            refine sm_ret ?_
            repeat walk_at "yx"
            refine post _ (no_code fun q => ?_).symm
            rcases code_inv q with q | ⟨q, _⟩ | ⟨_, x, y, ys, q, _⟩
            · exact n4 q
            · exact n8 q
            · cases q
          | cons b r =>
          have gb := goodV_pre (gr b (by simp))
          have hlt : decide (((Dt.str y :: b :: r).length : Int) < 2) = false := decide_eq_false (by simp; omega)
          by_cases hb : isRegD b = true
          · obtain ⟨y2, rfl⟩ : ∃ y, b = .str y := by cases b <;> first | exact ⟨_, rfl⟩ | cases hb
            have hb' : inD (.str y2) [.str "r0", .str "r1", .str "r2"] = true := hb
            have fb : fitsB 114 (.str y2) = true := hb
            repeat walk_at "yx"
            refine o_niAL rfl rfl ?_
            rw [hb']
            repeat walk_at "yx"
            refine sm_next ?_
            -- add, take
            refine sm_seq (sm_if ?_)
            repeat walk_at "yx"
            try refine o_inAT rfl rfl (bl_ex ?_)
            refine ways (fun h => ?_) (fun h => ?_)
            · have e : codeRow (.tup (.str z :: .str y :: .str y2 :: r)) = formB [114, 114] (.str y :: .str y2 :: r) := by rcases in2 h with rfl | rfl <;> exact rowBy_at (by decide +kernel)
              refine sm_ret ?_
              repeat walk_at "yx"
              refine post _ ?_
              rw [e]
              cases r with
              | nil => exact ((f2 fa).trans fb).symm
              | cons c r => rw [f_ne (by simp)]; exact len_ne (k := 2) (by simp)
            have n9 := ni2 h
            refine sm_next ?_
            -- load, store
            refine sm_ret ?_
            repeat walk_at "yx"
            try refine o_inAT rfl rfl ?_
            repeat walk_at "yx"
            refine ways (fun h => ?_) (fun h => ?_)
            · have e : codeRow (.tup (.str z :: .str y :: .str y2 :: r)) = formB [114, 114, 100] (.str y :: .str y2 :: r) := by rcases in2 h with rfl | rfl <;> exact rowBy_at (by decide +kernel)
              cases r with
              | nil => repeat walk_at "yx"
                       exact post _ (by rw [e, f_ne (by simp)])
              | cons c r =>
                cases r with
                | nil =>
                  repeat walk_at "yx"
                  refine num_k (goodV_pre (gr c (by simp))).1 ?_
                  exact post _ (by rw [e, f3 fa fb]; rfl)
                | cons d r =>
                  repeat walk_at "yx"
                  exact post _ (by rw [e, f_ne (by simp)])
            · have n10 := ni2 h
              repeat walk_at "yx"
              refine post _ (no_code fun q => ?_).symm
              rcases code_inv q with q | ⟨q, _⟩ | ⟨q, _⟩
              · exact n4 q
              · exact n8 q
              · rcases q with q | q | q | q
                · exact n9.1 q
                · exact n9.2 q
                · exact n10.1 q
                · exact n10.2 q
          · have no : isCodePost [.tup (.str z :: .str y :: b :: r)] (.bl false) := by
              refine post _ (no_code fun q => ?_).symm
              rcases code_inv q with q | ⟨q, _⟩ | ⟨_, x, y, ys, q, _, k⟩
              · exact n4 q
              · exact n8 q
              · cases q; exact hb k
            have pb := gb.1
            clear gr post n1 n2 n3 n4 n5 n6 n7 n8 hl hl3 ga gb
            cases b with
            | obj _ _ _ => cases pb
            | ali _ => cases pb
            | str y2 =>
              have hb' : inD (.str y2) [.str "r0", .str "r1", .str "r2"] = false := by
                have : ¬ inD (.str y2) [.str "r0", .str "r1", .str "r2"] = true := hb
                simpa using this
              repeat walk_at "yx"
              refine o_niAL rfl rfl ?_
              rw [hb']
              repeat walk_at "yx"
              refine sm_ret ?_
              repeat walk_at "yx"
              exact no
            | _ =>
              repeat walk_at "yx"
              refine sm_ret ?_
              repeat walk_at "yx"
              exact no
        · have no : isCodePost [.tup (.str z :: a :: r)] (.bl false) := by
            refine post _ (no_code fun q => ?_).symm
            rcases code_inv q with q | ⟨_, x, ys, q, k⟩ | ⟨_, x, y, ys, q, k, _⟩
            · exact n4 q
            · cases q; exact ha k
            · cases q; exact ha k
          have pa := ga.1
          clear gr post n1 n2 n3 n4 hl hl3 ga
          cases a with
          | obj _ _ _ => cases pa
          | ali _ => cases pa
          | str y =>
            have ha' : inD (.str y) [.str "r0", .str "r1", .str "r2"] = false := by
              have : ¬ inD (.str y) [.str "r0", .str "r1", .str "r2"] = true := ha
              simpa using this
            repeat walk_at "yx"
            refine o_niAL rfl rfl ?_
            rw [ha']
            repeat walk_at "yx"
            refine sm_ret ?_
            repeat walk_at "yx"
            exact no
          | _ =>
            repeat walk_at "yx"
            refine sm_ret ?_
            repeat walk_at "yx"
            exact no
      | obj _ _ _ => cases py
      | ali _ => cases py
      | _ =>
        repeat walk_at "y"
        exact ⟨_, rfl, rfl⟩
  | _ =>
    repeat walk_at "y"
    exact ⟨_, rfl, rfl⟩
end
end Law
namespace Law
open PySem L2 Y
local macro_rules | `(tactic| walk_at "yv") => `(tactic| ((with_reducible show Ev _ (tVar _) _ _); refine ev_var rfl ?_))
local macro_rules | `(tactic| walk_at "ys") => `(tactic| with_reducible first
  | refine sm_seq ?_ | refine sm_ret ?_ | refine sm_if ?_ | refine sm_set ?_ | refine sm_next ?_ | refine sm_par ?_ | refine sm_drop ?_ | refine sm_brk ?_ | refine sm_cont ?_)
local macro_rules | `(tactic| walk_at "ye") => `(tactic| with_reducible first
  | refine ev_op ?_ | refine ev_and ?_ | refine ev_or ?_ | refine ev_not ?_ | refine ev_if ?_ | refine ev_chain ?_ | refine ev_neg ?_ | refine ev_isInt ?_ | refine ev_isBool ?_ | refine ev_isStr ?_ | refine ev_isList ?_ | refine ev_isTuple ?_ | refine ev_isLT ?_ | refine ev_isDict ?_
  | refine ev_int ?_ | refine ev_str ?_ | refine ev_bl ?_ | refine ev_non ?_ | refine ev_call ?_ | refine ev_cb ?_ | refine ev_lst ?_ | refine ev_tup ?_ | refine ev_join ?_
  | refine ea_nil ?_ | refine ea_cons ?_
  | refine et_B ?_ | refine et_test ?_ | refine et_not ?_ | refine et_and ?_ | refine et_or ?_ | refine et_yes ?_
  | refine o_plusI ?_ | refine o_i0 ?_ | refine o_b0 ?_ | refine o_isN ?_ | refine o_notN ?_
  | refine bl_ex ?_ | refine int_ex ?_ | refine str_ex ?_ | refine lst_ex ?_ | refine tup_ex ?_)
local macro_rules | `(tactic| walk_at "yo") => `(tactic| first
  | ((with_reducible show Ev _ (tOp (rIx _) (tVar _) _) _ _); refine ev_ixOwn rfl ?_)
  | ((with_reducible show Ev _ (tCB _ (tCons (tVar _) tNil)) _ _); refine ev_lenOwn rfl ?_)
  | ((with_reducible show Sm _ (tAsg _ (gSub (tVar _) _ _)) _ _); refine sm_setItem rfl ?_)
  | ((with_reducible show Ev _ (tCall (spB _ _ _) _ _ _) _ _); refine ev_callB rfl rfl ?_))
local macro_rules | `(tactic| walk_at "yc") => `(tactic| first
  | ((with_reducible show CMul _ _); first | exact Or.inr ⟨by decide, by decide⟩ | exact Or.inl ⟨by decide, by decide⟩ | exact Or.inr ⟨by omega, by omega⟩ | exact Or.inl ⟨by omega, by omega⟩)
  | ((with_reducible show CDiv _ _); exact ⟨by first | decide | omega, by first | decide | omega⟩)
  | ((with_reducible show CPow _ _); exact ⟨by decide, by decide, by first | decide | omega⟩)
  | ((show (0 : Int) < _); first | decide | omega))
local macro_rules | `(tactic| walk_at "yd") => `(tactic| first
  | ((with_reducible show plainD _ = true ∧ _); refine ⟨by first | rfl | assumption, ?_⟩)
  | ((with_reducible show (_ = true → _) ∧ (_ = false → _)); first | refine way_t rfl ?_ | refine way_f rfl ?_ | refine way_t (by decide +kernel) ?_ | refine way_f (by decide +kernel) ?_)
  | ((with_reducible show Cal _ _ _ _ _); first | (with_reducible refine c_int ?_) | (with_reducible refine c_abs ?_) | (refine c_len rfl ?_) | (refine c_len (if_pos (by assumption)) ?_))
  | ((with_reducible show Op2 _ (rEqA _) _ _ _ _); refine o_eqA rfl ?_)
  | ((with_reducible show Op2 _ (rNeA _) _ _ _ _); refine o_neA rfl ?_)
  | ((with_reducible show Op2 _ (rInA _) _ (Dt.str _) (Dt.lst _) _); refine o_inAL rfl rfl ?_)
  | ((with_reducible show Op2 _ (rInA _) _ (Dt.str _) (Dt.tup _) _); refine o_inAT rfl rfl ?_)
  | ((with_reducible show Op2 _ (rI _ _) _ _ _ _); refine o_i (by walk_at "yc") ?_)
  | ((with_reducible show Op2 _ (rIx _) _ (Dt.tup _) _ _); refine o_ixAT (atI_toNat (by decide) rfl) ?_)
  | ((with_reducible show Op2 _ (rIx _) _ (Dt.lst _) _ _); refine o_ixAL (atI_toNat (by decide) rfl) ?_)
  | ((with_reducible show ∃ x, atI _ _ = some x ∧ _); refine ⟨_, rfl, ?_⟩)
  | ((with_reducible show ∃ x, ixN _ _ = some x ∧ _); refine ⟨_, rfl, ?_⟩)
  | ((with_reducible show List.length _ ≤ 100000 ∧ _); refine ⟨by (try simp only [List.length_cons, List.length_nil]); first | decide | omega, ?_⟩))
local macro_rules | `(tactic| walk_at "y") => `(tactic| first | walk_at "yo" | walk_at "ye" | walk_at "yv" | walk_at "ys" | walk_at "yd")
local macro_rules | `(tactic| walk_at "yx") => `(tactic| first | walk_at "yo" | walk_at "ye" | walk_at "yv" | walk_at "yd")

theorem data_inv {z : Str} {rest : List Dt} (h : dataRow (.tup (.str z :: rest)) = true) : (z = "word" ∨ z = "address" ∨ z = "room") ∧ rest.length = 1 := by
  obtain ⟨w', f, rest', e, h1, h2⟩ := rowBy_inv h
  cases e
  have hm := lookup_mem h1
  obtain ⟨c0, ck, cr, cn, cw, crw, crn, crr, crd⟩ := cps_k
  simp only [dataForms, List.mem_cons, List.not_mem_nil, or_false, Prod.mk.injEq] at hm
  rcases hm with ⟨rfl, rfl⟩ | ⟨rfl, rfl⟩ | ⟨rfl, rfl⟩
  · rw [cw] at h2; exact ⟨.inl rfl, (formB_len h2).symm⟩
  · rw [cn] at h2; exact ⟨.inr (.inl rfl), (formB_len h2).symm⟩
  · rw [ck] at h2; exact ⟨.inr (.inr rfl), (formB_len h2).symm⟩
theorem no_data {x : Dt} (h : dataRow x ≠ true) : dataRow x = false := by
  cases e : dataRow x with
  | false => rfl
  | true => exact absurd e h
theorem data_ne {y : Dt} {rest : List Dt} (h : rest.length ≠ 1) : dataRow (.tup (y :: rest)) = false := by
  cases y with
  | str z => exact no_data fun q => h (data_inv q).2
  | _ => rfl
section
variable {P : Program} {w : World} {K : PySem.W.Frag} {mg : Str → Option Value} {base : Heap}

theorem ok__law_data_so (T : Tx K mg w) : FnOk P w K mg base CX0 2 T.a__law_data_so T.d__law_data_so ["_law_thing"] (spD K thingPre isDataPost) := by
  have G__law_within := ok__law_within (P := P) (w := w) (base := base) T
  have G__law_is_title := ok__law_is_title (P := P) (w := w) (base := base) T
  refine fn_data T.F__law_data_so sc__law_data_so (fun ds h => ?_) (fun cdv A outer s H E hr => ⟨_, (pss_cons (ps_if (PW.pt (pw_or (pt_not (pt_val (pe_callB (call_isiA (K := K)) (by rfl) T.n_isinstance PyProof.Rows.boot_isinstance (pa_cons (pv 0) (pa_cons (pe_bltn (v := .ty "tuple") (by rfl) T.n_tuple (by decide +kernel) rfl) pa_nil))))) (pw_or (pt_cmpR (op_neA (K := K) hr.units) (pe_callB (call_lenA (K := K)) (by rfl) T.n_len PySem.boot_len (pa_cons (pv 0) pa_nil)) pe_int (nomark _)) (pw_or1 (pt_not (pt_val (pe_callB (call_isiA (K := K)) (by rfl) T.n_isinstance PyProof.Rows.boot_isinstance (pa_cons (pe_ix (ix_any (K := K)) (pv 0) pe_int (fun _ _ => rfl)) (pa_cons (pe_bltn (v := .ty "str") (by rfl) T.n_str (by decide +kernel) rfl) pa_nil))))))))) (pss_one (ps_ret pe_bl)) pss_nil)
      (pss_cons (ps_if (pt_cmpR (op_eqA (K := K) hr.units) (pe_ix (ix_any (K := K)) (pv 0) pe_int (fun _ _ => rfl)) pe_str (nomark _)) (pss_one (ps_ret (pe_call G__law_within (hr.mono (by decide)) (by rfl) T.m__law_within T.k__law_within T.b__law_within .nil pass0 (pa_cons (pe_ix (ix_any (K := K)) (pv 0) pe_int (fun _ _ => rfl)) (pa_cons pe_int (pa_cons pe_int pa_nil)))))) pss_nil)
      (pss_cons (ps_if (pt_cmpR (op_eqA (K := K) hr.units) (pe_ix (ix_any (K := K)) (pv 0) pe_int (fun _ _ => rfl)) pe_str (nomark _)) (pss_one (ps_ret (pe_call G__law_is_title (hr.mono (by decide)) (by rfl) T.m__law_is_title T.k__law_is_title T.b__law_is_title .nil pass0 (pa_cons (pe_ix (ix_any (K := K)) (pv 0) pe_int (fun _ _ => rfl)) pa_nil)))) pss_nil)
      (pss_one (ps_ret (pe_and (pe_cmpR (op_eqA (K := K) hr.units) (pe_ix (ix_any (K := K)) (pv 0) pe_int (fun _ _ => rfl)) pe_str (nomark _)) (pe_one (pe_call G__law_within (hr.mono (by decide)) (by rfl) T.m__law_within T.k__law_within T.b__law_within .nil pass0 (pa_cons (pe_ix (ix_any (K := K)) (pv 0) pe_int (fun _ _ => rfl)) (pa_cons pe_int (pa_cons pe_int pa_nil))))))))))), fun F0 H0 ds h => ?_⟩)
  · obtain ⟨x, rfl, _⟩ := h; rfl
  obtain ⟨x, rfl, hg⟩ := h
  dsimp only [cxOf, env0, env1, List.map, List.length, List.replicate, List.cons_append, List.nil_append, List.append, Nat.reduceAdd, Nat.reduceSub, Nat.zero_add]
  have hp := thing_plain hg
  cases x with
  | obj _ _ _ => cases hp
  | ali _ => cases hp
  | tup ys =>
    obtain ⟨hl, hy⟩ := thing_tup hg
    have hl2 : ys.length ≤ 100000 := by omega
    cases ys with
    | nil =>
      repeat walk_at "y"
      exact ⟨_, rfl, rfl⟩
    | cons y r =>
      cases r with
      | nil =>
        repeat walk_at "y"
        exact ⟨_, rfl, by rw [data_ne (by simp)]⟩
      | cons a r =>
        cases r with
        | nil =>
          have py := (goodV_pre (hy y (by simp))).1
          have ga := goodV_pre (hy a (by simp))
          cases y with
          | obj _ _ _ => cases py
          | ali _ => cases py
          | str z =>
            repeat walk_at "y"
            refine ways (fun h => ?_) (fun h => ?_)
            · have hz : z = "word" := of_decide_eq_true h
              subst hz
              repeat walk_at "y"
              refine num_k ga.1 ?_
              exact ⟨_, rfl, by rw [dataRow, rowBy_at (ks := [119]) (by decide +kernel), f1]; rfl⟩
            have n1 : z ≠ "word" := of_decide_eq_false h
            repeat walk_at "y"
            refine ways (fun h => ?_) (fun h => ?_)
            · have hz : z = "address" := of_decide_eq_true h
              subst hz
              repeat walk_at "y"
              refine name_k ga ?_
              exact ⟨_, rfl, by rw [dataRow, rowBy_at (ks := [110]) (by decide +kernel), f1]; rfl⟩
            have n2 : z ≠ "address" := of_decide_eq_false h
            repeat walk_at "y"
            refine ways (fun h => ?_) (fun h => ?_)
            · have hz : z = "room" := of_decide_eq_true h
              subst hz
              repeat walk_at "y"
              refine num_k ga.1 ?_
              exact ⟨_, rfl, by rw [dataRow, rowBy_at (ks := [107]) (by decide +kernel), f1]; rfl⟩
            have n3 : z ≠ "room" := of_decide_eq_false h
            repeat walk_at "y"
            refine ⟨_, rfl, ?_⟩
            rw [no_data (x := .tup [.str z, a]) fun q => (data_inv q).1.elim n1 fun q => q.elim n2 n3]
          | _ =>
            repeat walk_at "y"
            exact ⟨_, rfl, rfl⟩
        | cons b r =>
          repeat walk_at "y"
          exact ⟨_, rfl, by rw [data_ne (by simp)]⟩
  | _ =>
    repeat walk_at "y"
    exact ⟨_, rfl, rfl⟩
end
end Law
namespace Law
open PySem L2 Y
local macro_rules | `(tactic| walk_at "yv") => `(tactic| ((with_reducible show Ev _ (tVar _) _ _); refine ev_var rfl ?_))
local macro_rules | `(tactic| walk_at "ys") => `(tactic| with_reducible first
  | refine sm_seq ?_ | refine sm_ret ?_ | refine sm_if ?_ | refine sm_set ?_ | refine sm_next ?_ | refine sm_par ?_ | refine sm_drop ?_ | refine sm_brk ?_ | refine sm_cont ?_)
local macro_rules | `(tactic| walk_at "ye") => `(tactic| with_reducible first
  | refine ev_op ?_ | refine ev_and ?_ | refine ev_or ?_ | refine ev_not ?_ | refine ev_if ?_ | refine ev_chain ?_ | refine ev_neg ?_ | refine ev_isInt ?_ | refine ev_isBool ?_ | refine ev_isStr ?_ | refine ev_isList ?_ | refine ev_isTuple ?_ | refine ev_isLT ?_ | refine ev_isDict ?_
  | refine ev_int ?_ | refine ev_str ?_ | refine ev_bl ?_ | refine ev_non ?_ | refine ev_call ?_ | refine ev_cb ?_ | refine ev_lst ?_ | refine ev_tup ?_ | refine ev_join ?_
  | refine ea_nil ?_ | refine ea_cons ?_
  | refine et_B ?_ | refine et_test ?_ | refine et_not ?_ | refine et_and ?_ | refine et_or ?_ | refine et_yes ?_
  | refine o_plusI ?_ | refine o_i0 ?_ | refine o_b0 ?_ | refine o_isN ?_ | refine o_notN ?_
  | refine bl_ex ?_ | refine int_ex ?_ | refine str_ex ?_ | refine lst_ex ?_ | refine tup_ex ?_)
local macro_rules | `(tactic| walk_at "yo") => `(tactic| first
  | ((with_reducible show Ev _ (tOp (rIx _) (tVar _) _) _ _); refine ev_ixOwn rfl ?_)
  | ((with_reducible show Ev _ (tCB _ (tCons (tVar _) tNil)) _ _); refine ev_lenOwn rfl ?_)
  | ((with_reducible show Sm _ (tAsg _ (gSub (tVar _) _ _)) _ _); refine sm_setItem rfl ?_)
  | ((with_reducible show Ev _ (tCall (spB _ _ _) _ _ _) _ _); refine ev_callB rfl rfl ?_))
local macro_rules | `(tactic| walk_at "yc") => `(tactic| first
  | ((with_reducible show CMul _ _); first | exact Or.inr ⟨by decide, by decide⟩ | exact Or.inl ⟨by decide, by decide⟩ | exact Or.inr ⟨by omega, by omega⟩ | exact Or.inl ⟨by omega, by omega⟩)
  | ((with_reducible show CDiv _ _); exact ⟨by first | decide | omega, by first | decide | omega⟩)
  | ((with_reducible show CPow _ _); exact ⟨by decide, by decide, by first | decide | omega⟩)
  | ((show (0 : Int) < _); first | decide | omega))
local macro_rules | `(tactic| walk_at "yd") => `(tactic| first
  | ((with_reducible show plainD _ = true ∧ _); refine ⟨by first | rfl | assumption, ?_⟩)
  | ((with_reducible show (_ = true → _) ∧ (_ = false → _)); first | refine way_t rfl ?_ | refine way_f rfl ?_ | refine way_t (by decide +kernel) ?_ | refine way_f (by decide +kernel) ?_)
  | ((with_reducible show Cal _ _ _ _ _); first | (with_reducible refine c_int ?_) | (with_reducible refine c_abs ?_) | (refine c_len rfl ?_) | (refine c_len (if_pos (by assumption)) ?_))
  | ((with_reducible show Op2 _ (rEqA _) _ _ _ _); refine o_eqA rfl ?_)
  | ((with_reducible show Op2 _ (rNeA _) _ _ _ _); refine o_neA rfl ?_)
  | ((with_reducible show Op2 _ (rInA _) _ (Dt.str _) (Dt.lst _) _); refine o_inAL rfl rfl ?_)
  | ((with_reducible show Op2 _ (rInA _) _ (Dt.str _) (Dt.tup _) _); refine o_inAT rfl rfl ?_)
  | ((with_reducible show Op2 _ (rI _ _) _ _ _ _); refine o_i (by walk_at "yc") ?_)
  | ((with_reducible show Op2 _ (rIx _) _ (Dt.tup _) _ _); refine o_ixAT (atI_toNat (by decide) rfl) ?_)
  | ((with_reducible show Op2 _ (rIx _) _ (Dt.lst _) _ _); refine o_ixAL (atI_toNat (by decide) rfl) ?_)
  | ((with_reducible show ∃ x, atI _ _ = some x ∧ _); refine ⟨_, rfl, ?_⟩)
  | ((with_reducible show ∃ x, ixN _ _ = some x ∧ _); refine ⟨_, rfl, ?_⟩)
  | ((with_reducible show List.length _ ≤ 100000 ∧ _); refine ⟨by (try simp only [List.length_cons, List.length_nil]); first | decide | omega, ?_⟩))
local macro_rules | `(tactic| walk_at "y") => `(tactic| first | walk_at "yo" | walk_at "ye" | walk_at "yv" | walk_at "ys" | walk_at "yd")
local macro_rules | `(tactic| walk_at "yx") => `(tactic| first | walk_at "yo" | walk_at "ye" | walk_at "yv" | walk_at "yd")

def itemPre (ds : List Dt) : Prop := ∃ z : Str, ds = [.str z] ∧ z.cps.size ≤ 600 ∧ PyData.strOk z = true
def itemPost (m : Nat) (ds : List Dt) (d : Dt) : Prop := ∃ z : Str, ds = [.str z] ∧ d = itemD m z
theorem item_k {m : Nat} {z : Str} {R : Dt → Prop} (hz : z.cps.size ≤ 600 ∧ PyData.strOk z = true) (h : R (itemD m z)) : itemPre [.str z] ∧ ∀ d, itemPost m [.str z] d → R d := ⟨⟨z, rfl, hz⟩, fun d ⟨_, e, e2⟩ => by cases e; rw [e2]; exact h⟩
def rtxPre (ds : List Dt) : Prop := ∃ xs, ds = [.tup xs] ∧ xs.length ≤ 100 ∧ ∀ x ∈ xs, itemOk x
def rtxPost (ds : List Dt) (d : Dt) : Prop := ∃ x, ds = [x] ∧ d = .str (rowTx x)
theorem rtx_k {x : Dt} {R : Dt → Prop} (hx : (codeRow x || dataRow x) = true) (h : R (.str (rowTx x))) : rtxPre [x] ∧ ∀ d, rtxPost [x] d → R d := by
  obtain ⟨xs, rfl, l1, l2, hi⟩ := row_ok hx
  exact ⟨⟨xs, rfl, by omega, hi⟩, fun d ⟨_, e, e2⟩ => by cases e; rw [e2]; exact h⟩
def readPre (ds : List Dt) : Prop := ∃ x, ds = [x] ∧ plainD x = true ∧ ∀ z, x = .str z → TxB 90 z
def readPost (ds : List Dt) (d : Dt) : Prop := ∃ x, ds = [x] ∧ d = readD x
theorem read_k {x : Dt} {R : Dt → Prop} (h1 : plainD x = true) (h2 : ∀ z, x = .str z → TxB 90 z) (h : R (readD x)) : readPre [x] ∧ ∀ d, readPost [x] d → R d := ⟨⟨x, rfl, h1, h2⟩, fun d ⟨_, e, e2⟩ => by cases e; rw [e2]; exact h⟩
def lawRowPre (ds : List Dt) : Prop := ∃ z : Str, ds = [.lst ((Txt.split z " ").map Dt.str), .str ""] ∧ TxB 90 z
def lawRowPost (ds : List Dt) (d : Dt) : Prop := ∃ ws : List Str, ds = [.lst (ws.map Dt.str), .str ""] ∧ d = rowOf (lineL ws)
theorem lawRow_k {z : Str} {R : Dt → Prop} (h1 : TxB 90 z) (h : R (readD (.str z))) : lawRowPre [.lst ((Txt.split z " ").map Dt.str), .str ""] ∧ ∀ d, lawRowPost [.lst ((Txt.split z " ").map Dt.str), .str ""] d → R d := ⟨⟨z, rfl, h1⟩, fun d ⟨ws, e, e2⟩ => by
  injection e with e _
  injection e with e
  have : Txt.split z " " = ws := List.map_inj_right (fun a b q => by injection q) |>.mp e
  subst this
  rw [e2, row_law]; exact h⟩
theorem head_eq (c : Nat) (r : List Nat) : dEq (.str ⟨#[c]⟩) (.str "0") = decide ((c :: r).head? = some 48) := by
  show decide ((⟨#[c]⟩ : Str) = "0") = _
  rw [sign_eq (c := 48) (by decide +kernel)]
  simp
section
variable {P : Program} {w : World} {K : PySem.W.Frag} {mg : Str → Option Value} {base : Heap}

theorem ok_item_of (T : Tx K mg w) : FnOk P w K mg base CX0 1 T.a_item_of T.d_item_of ["word"] (spD K itemPre (itemPost 5)) := by
  refine fn_data T.F_item_of sc_item_of (fun ds h => ?_) (fun cdv A outer s H E hr => ⟨_, (pss_cons (ps_if (PW.pt (pw_or (pt_not (pt_chain op_le op_le pe_int (pe_callB (call_lenA (K := K)) (by rfl) T.n_len PySem.boot_len (pa_cons (pv 0) pa_nil)) (pe_glob (v := .int 5) (by rfl) T.m_MOST_FIGURES T.r_MOST_FIGURES))) (pw_or1 (pt_not (pt_val (pe_callB (cr_allA (K := K) rfl) (by rfl) T.n_all PyProof.Rows.boot_all (pa_cons (pe_lc (own := [("sign", 1)]) (g := gName 1) rfl sc_item_of.nd (pi_str (pv 0)) (blkOk_by (N := ["word", "sign"]) (sc := defScope s_item_of) (by decide +kernel)) (fun _ _ _ _ _ => (pg_name (i := 1) sc_item_of.nd rfl (Or.inl rfl))) (fun _ _ _ _ _ => pts_nil) (fun _ _ _ _ _ => (pe_cmpR (op_inA (K := K)) (pv 1) (pe_glob (v := .str "0123456789") (by rfl) T.m_FIGURES T.r_FIGURES) (by rfl)))) pa_nil))))))) (pss_one (ps_ret (pv 0))) pss_nil)
      (pss_one (ps_ret (pe_ifExp (PW.pt (pw_and (pt_cmpR op_gt (pe_callB (call_lenA (K := K)) (by rfl) T.n_len PySem.boot_len (pa_cons (pv 0) pa_nil)) pe_int (nomark _)) (pw_and1 (pt_cmpR (op_eqA (K := K) hr.units) (pe_ix (ix_any (K := K)) (pv 0) pe_int (fun _ _ => rfl)) pe_str (nomark _))))) (pv 0) (pe_callTy call_int_str (by rfl) T.n_int PyProof.Rows.boot_int (pa_cons (pv 0) pa_nil)))))), fun F0 H0 ds h => ?_⟩)
  · obtain ⟨z, rfl, _⟩ := h; rfl
  · obtain ⟨z, rfl, hz, _⟩ := h
    dsimp only [cxOf, env0, env1, List.map, List.length, List.replicate, List.cons_append, List.nil_append, List.append, Nat.reduceAdd, Nat.reduceSub, Nat.zero_add]
    have hl : z.length ≤ 100000 := by show z.cps.size ≤ _; omega
    have e0 : z.length = z.cps.size := rfl
    have hall : ∀ {P' : Bool → Prop}, P' (digB z) → EvT ⟨K, F0, H0, none⟩ (tB (tCB (rAll K) (tCons (tLc (iStr (tVar 0)) (gName 1) tYes (tOp (rInA K) (tVar 1) (tC (.str "0123456789"))) [1]) tNil))) [.d (.str z), .no] P' := fun hp => by
      refine et_B (ev_cb (ea_cons (EvO.ev (eo_mapS (fun c => .bl (decide (c ∈ figures))) (ev_var rfl (str_ex ⟨by omega, fun c hc => ?_, ?_⟩))))))
      · repeat walk_at "y"
        exact o_inAS rfl
      · exact ea_nil (c_allF (bl_ex hp))
    refine sm_seq (sm_if ?_)
    repeat walk_at "yx"
    refine ways (fun h1 => ?_) (fun h1 => ?_)
    · repeat walk_at "yx"
      refine ways (fun h2 => ?_) (fun h2 => ?_)
      · repeat walk_at "y"
        have h2 : ¬ (z.length : Int) ≤ 5 := by simpa using h2
        exact ⟨z, rfl, (if_neg (by omega)).symm⟩
      · have h1 : (1 : Int) ≤ z.length := of_decide_eq_true h1
        have h2 : (z.length : Int) ≤ 5 := by simpa using h2
        refine et_not (hall (ways (fun h3 => ?_) (fun h3 => ?_)))
        · repeat walk_at "y"
          have h3 : digB z = false := by simpa using h3
          exact ⟨z, rfl, (item_str h3).symm⟩
        · have h3 : digB z = true := by simpa using h3
          refine sm_next ?_
          have hc : 1 ≤ z.cps.size ∧ z.cps.size ≤ 5 ∧ digB z = true := ⟨by omega, by omega, h3⟩
          have hpos : 0 < z.cps.toList.length := by rw [Array.length_toList]; omega
          have hi : PySem.intText? z = some ((NumText.digitsVal z.cps.toList : Nat) : Int) := intText_digits (digB_all h3) (List.length_pos_iff.mp hpos) (by omega)
          refine sm_ret ?_
          refine Ev.imp (P := fun d => d = itemD 5 z) ?_ (fun d e => ⟨z, rfl, e⟩)
          obtain ⟨c, r, hcr⟩ : ∃ c r, z.cps.toList = c :: r := by
            cases e : z.cps.toList with
            | nil => rw [e] at hpos; simp at hpos
            | cons c r => exact ⟨c, r, rfl⟩
          have e1 : (1 < z.cps.size ∧ z.cps.toList.head? = some 48) → itemD 5 z = .str z := fun q => (if_pos hc).trans (if_pos q)
          have e2 : ¬ (1 < z.cps.size ∧ z.cps.toList.head? = some 48) → itemD 5 z = .int (NumText.digitsVal z.cps.toList : Nat) := fun q => (if_pos hc).trans (if_neg q)
          have num : ¬ (1 < z.cps.size ∧ z.cps.toList.head? = some 48) → Cal ⟨K, F0, H0, none⟩ (fun xs H Q => ∃ a n, xs = [.str a] ∧ PySem.intText? a = some n ∧ a.length ≤ 640 ∧ Q (.int n) H) [.d (.str z), .no] [.str z] (fun d => d = itemD 5 z) := fun q => c_intS hi (by omega) (e2 q).symm
          refine ev_if ?_
          repeat walk_at "yx"
          refine ways (fun h4 => ?_) (fun h4 => ?_)
          · have h4 : (1 : Int) < z.length := of_decide_eq_true h4
            refine et_B (ev_op (ev_op (ev_var rfl (ev_int (o_ixAS hl (c := c) ?_ ?_)))))
            · rw [hcr]; exact atI_toNat (by decide) rfl
            refine ev_str (o_eqA rfl (bl_ex ?_))
            rw [head_eq c r, ← hcr]
            refine ways (fun h5 => ?_) (fun h5 => ?_)
            · exact ev_var rfl (e1 ⟨by omega, of_decide_eq_true h5⟩).symm
            · repeat walk_at "yx"
              exact num fun q => of_decide_eq_false h5 q.2
          · have h4 : ¬ (1 : Int) < z.length := of_decide_eq_false h4
            repeat walk_at "yx"
            exact num fun q => by omega
    · repeat walk_at "yx"
      repeat walk_at "y"
      have h1 : ¬ (1 : Int) ≤ z.length := by simpa using h1
      exact ⟨z, rfl, (if_neg (by omega)).symm⟩

theorem ok__law_figure (T : Tx K mg w) : FnOk P w K mg base CX0 1 T.a__law_figure T.d__law_figure ["_law_word_y"] (spD K itemPre (itemPost 6)) := by
  refine fn_data T.F__law_figure sc__law_figure (fun ds h => ?_) (fun cdv A outer s H E hr => ⟨_, (pss_cons (ps_if (PW.pt (pw_or (pt_cmpR (op_eqA (K := K) hr.units) (pv 0) pe_str (nomark _)) (pw_or (pt_cmpR op_gt (pe_callB (call_lenA (K := K)) (by rfl) T.n_len PySem.boot_len (pa_cons (pv 0) pa_nil)) pe_int (nomark _)) (pw_or1 (pt_cmpR (op_neA (K := K) hr.units) (pe_lc (own := [("_law_sign", 1)]) (g := gName 1) rfl sc__law_figure.nd (pi_str (pv 0)) (blkOk_by (N := ["_law_word_y", "_law_sign"]) (sc := defScope s__law_figure) (by decide +kernel)) (fun _ _ _ _ _ => (pg_name (i := 1) sc__law_figure.nd rfl (Or.inl rfl))) (fun _ _ _ _ _ => (pts_one (pt_cmpR (op_niA (K := K)) (pv 1) pe_str (by rfl)))) (fun _ _ _ _ _ => (pv 1))) (pe_lst pa_nil) (nomark _)))))) (pss_one (ps_ret (pv 0))) pss_nil)
      (pss_one (ps_ret (pe_ifExp (PW.pt (pw_and (pt_cmpR op_gt (pe_callB (call_lenA (K := K)) (by rfl) T.n_len PySem.boot_len (pa_cons (pv 0) pa_nil)) pe_int (nomark _)) (pw_and1 (pt_cmpR (op_eqA (K := K) hr.units) (pe_ix (ix_any (K := K)) (pv 0) pe_int (fun _ _ => rfl)) pe_str (nomark _))))) (pv 0) (pe_callTy call_int_str (by rfl) T.n_int PyProof.Rows.boot_int (pa_cons (pv 0) pa_nil)))))), fun F0 H0 ds h => ?_⟩)
  · obtain ⟨z, rfl, _⟩ := h; rfl
  · obtain ⟨z, rfl, hz, hok⟩ := h
    dsimp only [cxOf, env0, env1, List.map, List.length, List.replicate, List.cons_append, List.nil_append, List.append, Nat.reduceAdd, Nat.reduceSub, Nat.zero_add]
    have hl : z.length ≤ 100000 := by show z.cps.size ≤ _; omega
    have e0 : z.length = z.cps.size := rfl
    have hzl : z.cps.toList.length = z.cps.size := Array.length_toList
    refine sm_seq (sm_if ?_)
    repeat walk_at "yx"
    refine ways (fun h1 => ?_) (fun h1 => ?_)
    · repeat walk_at "y"
      have h1 : z = "" := of_decide_eq_true h1
      subst h1
      exact ⟨_, rfl, rfl⟩
    have h1 : z ≠ "" := of_decide_eq_false h1
    have h1 : 1 ≤ z.length := by
      rcases Nat.eq_zero_or_pos z.cps.size with q | q
      · have q2 : z.cps.toList = [] := List.eq_nil_of_length_eq_zero (by omega)
        exact absurd (TL.ext_tl (q2.trans (by decide +kernel))) h1
      · exact q
    repeat walk_at "yx"
    refine ways (fun h2 => ?_) (fun h2 => ?_)
    · repeat walk_at "y"
      have h2 : (6 : Int) < z.length := of_decide_eq_true h2
      exact ⟨z, rfl, (if_neg (by omega)).symm⟩
    have h2 : ¬ (6 : Int) < z.length := of_decide_eq_false h2
    refine et_B (ev_op (EvO.ev (eo_filterS (fun c => !decide (c ∈ figures)) ?_ (by show 1 < 2; decide))))
    refine ev_var rfl (str_ex ⟨by omega, fun c hc => ?_, ?_⟩)
    · repeat walk_at "y"
      refine o_niAS ?_
      exact bl_ex rfl
    repeat walk_at "y"
    have e : ((z.cps.toList.filter fun c => !decide (c ∈ figures)).map fun c => Dt.str ⟨#[c]⟩) = ((z.cps.toList.filter fun c => !decide (c ∈ figures)).map fun c => (⟨#[c]⟩ : Str)).map Dt.str := by rw [List.map_map]; rfl
    rw [e]
    refine o_neNil ?_ ?_ (bl_ex ?_)
    · rw [List.length_map]
      have := List.length_filter_le (fun c => !decide (c ∈ figures)) z.cps.toList
      omega
    · intro t ht
      obtain ⟨c, hc, rfl⟩ := List.mem_map.mp ht
      exact (strOk_iff z).mp hok c (List.mem_filter.mp hc).1
    have ed : ((z.cps.toList.filter fun c => !decide (c ∈ figures)).map fun c => (⟨#[c]⟩ : Str)).isEmpty = digB z := by
      rw [Bool.eq_iff_iff, digB, List.all_eq_true, List.isEmpty_iff, List.map_eq_nil_iff, List.filter_eq_nil_iff]
      simp
    rw [ed]
    refine ways (fun h3 => ?_) (fun h3 => ?_)
    · repeat walk_at "y"
      have h3 : digB z = false := by simpa using h3
      exact ⟨z, rfl, (item_str h3).symm⟩
    · have h3 : digB z = true := by simpa using h3
      refine sm_next ?_
      have hc : 1 ≤ z.cps.size ∧ z.cps.size ≤ 6 ∧ digB z = true := ⟨by omega, by omega, h3⟩
      have hpos : 0 < z.cps.toList.length := by rw [Array.length_toList]; omega
      have hi : PySem.intText? z = some ((NumText.digitsVal z.cps.toList : Nat) : Int) := intText_digits (digB_all h3) (List.length_pos_iff.mp hpos) (by omega)
      refine sm_ret ?_
      refine Ev.imp (P := fun d => d = itemD 6 z) ?_ (fun d e => ⟨z, rfl, e⟩)
      obtain ⟨c, r, hcr⟩ : ∃ c r, z.cps.toList = c :: r := by
        cases e : z.cps.toList with
        | nil => rw [e] at hpos; simp at hpos
        | cons c r => exact ⟨c, r, rfl⟩
      have e1 : (1 < z.cps.size ∧ z.cps.toList.head? = some 48) → itemD 6 z = .str z := fun q => (if_pos hc).trans (if_pos q)
      have e2 : ¬ (1 < z.cps.size ∧ z.cps.toList.head? = some 48) → itemD 6 z = .int (NumText.digitsVal z.cps.toList : Nat) := fun q => (if_pos hc).trans (if_neg q)
      have num : ¬ (1 < z.cps.size ∧ z.cps.toList.head? = some 48) → Cal ⟨K, F0, H0, none⟩ (fun xs H Q => ∃ a n, xs = [.str a] ∧ PySem.intText? a = some n ∧ a.length ≤ 640 ∧ Q (.int n) H) [.d (.str z), .no] [.str z] (fun d => d = itemD 6 z) := fun q => c_intS hi (by omega) (e2 q).symm
      refine ev_if ?_
      repeat walk_at "yx"
      refine ways (fun h4 => ?_) (fun h4 => ?_)
      · have h4 : (1 : Int) < z.length := of_decide_eq_true h4
        refine et_B (ev_op (ev_op (ev_var rfl (ev_int (o_ixAS hl (c := c) ?_ ?_)))))
        · rw [hcr]; exact atI_toNat (by decide) rfl
        refine ev_str (o_eqA rfl (bl_ex ?_))
        rw [head_eq c r, ← hcr]
        refine ways (fun h5 => ?_) (fun h5 => ?_)
        · exact ev_var rfl (e1 ⟨by omega, of_decide_eq_true h5⟩).symm
        · repeat walk_at "yx"
          exact num fun q => of_decide_eq_false h5 q.2
      · have h4 : ¬ (1 : Int) < z.length := of_decide_eq_false h4
        repeat walk_at "yx"
        exact num fun q => by omega

end
end Law
namespace Law
open PySem L2 Y
local macro_rules | `(tactic| walk_at "yv") => `(tactic| ((with_reducible show Ev _ (tVar _) _ _); refine ev_var rfl ?_))
local macro_rules | `(tactic| walk_at "ys") => `(tactic| with_reducible first
  | refine sm_seq ?_ | refine sm_ret ?_ | refine sm_if ?_ | refine sm_set ?_ | refine sm_next ?_ | refine sm_par ?_ | refine sm_drop ?_ | refine sm_brk ?_ | refine sm_cont ?_)
local macro_rules | `(tactic| walk_at "ye") => `(tactic| with_reducible first
  | refine ev_op ?_ | refine ev_and ?_ | refine ev_or ?_ | refine ev_not ?_ | refine ev_if ?_ | refine ev_chain ?_ | refine ev_neg ?_ | refine ev_isInt ?_ | refine ev_isBool ?_ | refine ev_isStr ?_ | refine ev_isList ?_ | refine ev_isTuple ?_ | refine ev_isLT ?_ | refine ev_isDict ?_
  | refine ev_int ?_ | refine ev_str ?_ | refine ev_bl ?_ | refine ev_non ?_ | refine ev_call ?_ | refine ev_cb ?_ | refine ev_lst ?_ | refine ev_tup ?_ | refine ev_join ?_
  | refine ea_nil ?_ | refine ea_cons ?_
  | refine et_B ?_ | refine et_test ?_ | refine et_not ?_ | refine et_and ?_ | refine et_or ?_ | refine et_yes ?_
  | refine o_plusI ?_ | refine o_i0 ?_ | refine o_b0 ?_ | refine o_isN ?_ | refine o_notN ?_
  | refine bl_ex ?_ | refine int_ex ?_ | refine str_ex ?_ | refine lst_ex ?_ | refine tup_ex ?_)
local macro_rules | `(tactic| walk_at "yo") => `(tactic| first
  | ((with_reducible show Ev _ (tOp (rIx _) (tVar _) _) _ _); refine ev_ixOwn rfl ?_)
  | ((with_reducible show Ev _ (tCB _ (tCons (tVar _) tNil)) _ _); refine ev_lenOwn rfl ?_)
  | ((with_reducible show Sm _ (tAsg _ (gSub (tVar _) _ _)) _ _); refine sm_setItem rfl ?_)
  | ((with_reducible show Ev _ (tCall (spB _ _ _) _ _ _) _ _); refine ev_callB rfl rfl ?_))
local macro_rules | `(tactic| walk_at "yc") => `(tactic| first
  | ((with_reducible show CMul _ _); first | exact Or.inr ⟨by decide, by decide⟩ | exact Or.inl ⟨by decide, by decide⟩ | exact Or.inr ⟨by omega, by omega⟩ | exact Or.inl ⟨by omega, by omega⟩)
  | ((with_reducible show CDiv _ _); exact ⟨by first | decide | omega, by first | decide | omega⟩)
  | ((with_reducible show CPow _ _); exact ⟨by decide, by decide, by first | decide | omega⟩)
  | ((show (0 : Int) < _); first | decide | omega))
local macro_rules | `(tactic| walk_at "yd") => `(tactic| first
  | ((with_reducible show plainD _ = true ∧ _); refine ⟨by first | rfl | assumption, ?_⟩)
  | ((with_reducible show (_ = true → _) ∧ (_ = false → _)); first | refine way_t rfl ?_ | refine way_f rfl ?_ | refine way_t (by decide +kernel) ?_ | refine way_f (by decide +kernel) ?_)
  | ((with_reducible show Cal _ _ _ _ _); first | (with_reducible refine c_int ?_) | (with_reducible refine c_abs ?_) | (refine c_len rfl ?_) | (refine c_len (if_pos (by assumption)) ?_))
  | ((with_reducible show Op2 _ (rEqA _) _ _ _ _); refine o_eqA rfl ?_)
  | ((with_reducible show Op2 _ (rNeA _) _ _ _ _); refine o_neA rfl ?_)
  | ((with_reducible show Op2 _ (rInA _) _ (Dt.str _) (Dt.lst _) _); refine o_inAL rfl rfl ?_)
  | ((with_reducible show Op2 _ (rInA _) _ (Dt.str _) (Dt.tup _) _); refine o_inAT rfl rfl ?_)
  | ((with_reducible show Op2 _ (rI _ _) _ _ _ _); refine o_i (by walk_at "yc") ?_)
  | ((with_reducible show Op2 _ (rIx _) _ (Dt.tup _) _ _); refine o_ixAT (atI_toNat (by decide) rfl) ?_)
  | ((with_reducible show Op2 _ (rIx _) _ (Dt.lst _) _ _); refine o_ixAL (atI_toNat (by decide) rfl) ?_)
  | ((with_reducible show ∃ x, atI _ _ = some x ∧ _); refine ⟨_, rfl, ?_⟩)
  | ((with_reducible show ∃ x, ixN _ _ = some x ∧ _); refine ⟨_, rfl, ?_⟩)
  | ((with_reducible show List.length _ ≤ 100000 ∧ _); refine ⟨by (try simp only [List.length_cons, List.length_nil]); first | decide | omega, ?_⟩))
local macro_rules | `(tactic| walk_at "y") => `(tactic| first | walk_at "yo" | walk_at "ye" | walk_at "yv" | walk_at "ys" | walk_at "yd")
local macro_rules | `(tactic| walk_at "yx") => `(tactic| first | walk_at "yo" | walk_at "ye" | walk_at "yv" | walk_at "yd")

theorem cut_drop (z : Str) (n : Nat) : (cutS z (some (n : Int)) none).cps.toList = z.cps.toList.drop n := by
  have e0 : z.length = z.cps.size := rfl
  have e2 : HT.sIx z.length 0 (some (n : Int)) = min n z.length := by
    show (if (n : Int) < 0 then ((n : Int) + (z.length : Int)).toNat else min (n : Int).toNat z.length) = _
    rw [if_neg (by omega)]; omega
  have e4 : HT.sIx z.length z.length none = z.length := rfl
  unfold cutS
  rw [e2, e4]
  simp only []
  have hl : z.cps.toList.length = z.length := Array.length_toList
  rw [List.take_of_length_le (by rw [List.length_drop]; omega)]
  rcases Nat.le_total n z.length with q | q
  · rw [Nat.min_eq_left q]
  · rw [Nat.min_eq_right q, List.drop_of_length_le (by omega), List.drop_of_length_le (by omega)]
theorem app_ok {x y : Str} (h1 : PyData.strOk x = true) (h2 : PyData.strOk y = true) : PyData.strOk (x ++ y) = true := by
  rw [strOk_iff]
  intro c hc
  rw [app_toList] at hc
  rcases List.mem_append.mp hc with hc | hc
  · exact (strOk_iff x).mp h1 c hc
  · exact (strOk_iff y).mp h2 c hc
theorem app_size (x y : Str) : (x ++ y).cps.size = x.cps.size + y.cps.size := by
  rw [← Array.length_toList, app_toList, List.length_append, Array.length_toList, Array.length_toList]
def mixPre (ds : List Dt) : Prop := ∃ xs, ds = [.lst xs] ∧ xs.length ≤ 1000
def mixPost (ds : List Dt) (d : Dt) : Prop := ∃ xs ys, ds = [.lst xs] ∧ d = .lst ys ∧ ys.Perm xs
theorem mix_k {xs : List Dt} {R : Dt → Prop} (h0 : xs.length ≤ 1000) (h : ∀ ys : List Dt, ys.Perm xs → R (.lst ys)) : mixPre [.lst xs] ∧ ∀ d, mixPost [.lst xs] d → R d := ⟨⟨xs, rfl, h0⟩, fun d ⟨_, ys, e, e2, hp⟩ => by cases e; rw [e2]; exact h ys hp⟩
def bentPre (ds : List Dt) : Prop := ∃ z : Str, ds = [.str z] ∧ TxB 60 z
def bentPost (ds : List Dt) (d : Dt) : Prop := ∃ z y : Str, ds = [.str z] ∧ d = .str y ∧ ∀ n, TxB n z → TxB (n + 2) y
theorem bent_k {n : Nat} {z : Str} {R : Dt → Prop} (h0 : TxB n z) (hn : n ≤ 60) (h : ∀ y : Str, TxB (n + 2) y → R (.str y)) : bentPre [.str z] ∧ ∀ d, bentPost [.str z] d → R d := ⟨⟨z, rfl, h0.mono hn⟩, fun d ⟨_, y, e, e2, hp⟩ => by cases e; rw [e2]; exact h y (hp n h0)⟩
def unstr : Dt → Str
  | .str z => z
  | _ => ""
theorem perm_strs {ys : List Dt} {ws : List Str} (h : ys.Perm (ws.map Dt.str)) : ∃ vs : List Str, ys = vs.map Dt.str ∧ vs.Perm ws := by
  refine ⟨ys.map unstr, ?_, ?_⟩
  · rw [List.map_map]
    have : ∀ l : List Dt, (∀ y ∈ l, ∃ z, y = Dt.str z) → l = l.map (Dt.str ∘ unstr) := by
      intro l
      induction l with
      | nil => intro _; rfl
      | cons a l ih =>
        intro hl
        obtain ⟨z, rfl⟩ := hl a (by simp)
        rw [List.map_cons, ← ih fun y hy => hl y (List.mem_cons_of_mem _ hy)]; rfl
    refine this ys fun y hy => ?_
    obtain ⟨w, _, rfl⟩ := List.mem_map.mp (h.subset hy)
    exact ⟨w, rfl⟩
  · have := h.map unstr
    rw [List.map_map] at this
    have e : ws.map (unstr ∘ Dt.str) = ws := by
      rw [show (unstr ∘ Dt.str) = id from rfl, List.map_id]
    rw [e] at this
    exact this
def figF (ws : List Str) (d : Dt) : Dt := match d with
  | .int i => if i = 0 then .str (ws.getD i.toNat "") else itemD 6 (ws.getD i.toNat "")
  | _ => .non
def lineI (ws : List Str) : List Dt := match ws with
  | [] => []
  | w :: r => .str w :: r.map (itemD 6)
theorem lineI_eq (ws : List Str) : Dt.tup (lineI ws) = lineL ws := by cases ws <;> rfl
theorem figF_line (ws : List Str) : (rangeD 0 ws.length).map (figF ws) = lineI ws := by
  apply List.ext_getElem?
  intro k
  rw [List.getElem?_map]
  unfold rangeD
  rw [List.getElem?_map]
  by_cases hk : k < ws.length
  · rw [List.getElem?_range hk]
    have e0 : ((0 : Int) + (k : Int)).toNat = k := by omega
    show some (if (0 : Int) + (k : Int) = 0 then Dt.str (ws.getD ((0 : Int) + (k : Int)).toNat "") else itemD 6 (ws.getD ((0 : Int) + (k : Int)).toNat "")) = _
    rw [e0]
    cases ws with
    | nil => simp at hk
    | cons w r =>
      cases k with
      | zero => rfl
      | succ k =>
        rw [if_neg (by omega)]
        simp only [List.length_cons, Nat.add_lt_add_iff_right] at hk
        simp [hk, lineI]
  · rw [List.getElem?_eq_none (by simpa using hk)]
    cases ws with
    | nil => rfl
    | cons w r =>
      show _ = (.str w :: r.map (itemD 6))[k]?
      rw [List.getElem?_eq_none (l := .str w :: r.map (itemD 6)) (by simp at hk ⊢; omega)]; rfl
section
variable {P : Program} {w : World} {K : PySem.W.Frag} {mg : Str → Option Value} {base : Heap}

theorem ok_row_text (T : Tx K mg w) : FnOk P w K mg base CX0 1 T.a_row_text T.d_row_text ["row"] (spD K rtxPre rtxPost) := by
  refine fn_data T.F_row_text sc_row_text (fun ds h => ?_) (fun cdv A outer s H E hr => ⟨_, (pss_one (ps_ret (pe_joinA (K := K) pe_str (pe_lc (own := [("item", 1)]) (g := gName 1) rfl sc_row_text.nd (pi_tupA (K := K) (pv 0)) (blkOk_by (N := ["row", "item"]) (sc := defScope s_row_text) (by decide +kernel)) (fun _ _ _ _ _ => (pg_name (i := 1) sc_row_text.nd rfl (Or.inl rfl))) (fun _ _ _ _ _ => pts_nil) (fun _ _ _ _ _ => (pe_callTy call_strA (by rfl) T.n_str PyProof.Rows.boot_str (pa_cons (pv 1) pa_nil))))))), fun F0 H0 ds h => ?_⟩)
  · obtain ⟨xs, rfl, _⟩ := h; rfl
  · obtain ⟨xs, rfl, hl, hx⟩ := h
    dsimp only [cxOf, env0, env1, List.map, List.length, List.replicate, List.cons_append, List.nil_append, List.append, Nat.reduceAdd, Nat.reduceSub, Nat.zero_add]
    refine sm_ret (ev_join (ev_str (str_ex ?_)))
    refine EvO.ev (eo_mapF (fun x => .str (itemTx x)) (ei_tup (ev_var rfl ⟨xs, rfl, by omega, fun x hm => tc_name ?_, ?_⟩)))
    · repeat walk_at "yx"
      exact c_strA (itemOk_back (hx x hm)).2.1 rfl
    · refine ⟨xs.map itemTx, .inl (by rw [List.map_map]; rfl), ?_, _, rfl, rfl⟩
      have hb : ((xs.map itemTx).map (·.length)).sum ≤ ((xs.map itemTx).map (·.length)).length * 7 := sum_le _ 7 fun n hn => by
        obtain ⟨_, h1, rfl⟩ := List.mem_map.mp hn
        obtain ⟨x, h2, rfl⟩ := List.mem_map.mp h1
        exact (itemOk_back (hx x h2)).2.2.1.1
      simp only [List.length_map] at hb ⊢
      have e1 : (" " : Str).length = 1 := by decide +kernel
      rw [e1]
      omega

theorem ok__law_row_text (T : Tx K mg w) : FnOk P w K mg base CX0 1 T.a__law_row_text T.d__law_row_text ["_law_one"] (spD K rtxPre rtxPost) := by
  refine fn_data T.F__law_row_text sc__law_row_text (fun ds h => ?_) (fun cdv A outer s H E hr => ⟨_, (pss_one (ps_ret (pe_joinA (K := K) pe_str (pe_lc (own := [("_law_item", 1)]) (g := gName 1) rfl sc__law_row_text.nd (pi_tupA (K := K) (pv 0)) (blkOk_by (N := ["_law_one", "_law_item"]) (sc := defScope s__law_row_text) (by decide +kernel)) (fun _ _ _ _ _ => (pg_name (i := 1) sc__law_row_text.nd rfl (Or.inl rfl))) (fun _ _ _ _ _ => pts_nil) (fun _ _ _ _ _ => (pe_callTy call_strA (by rfl) T.n_str PyProof.Rows.boot_str (pa_cons (pv 1) pa_nil))))))), fun F0 H0 ds h => ?_⟩)
  · obtain ⟨xs, rfl, _⟩ := h; rfl
  · obtain ⟨xs, rfl, hl, hx⟩ := h
    dsimp only [cxOf, env0, env1, List.map, List.length, List.replicate, List.cons_append, List.nil_append, List.append, Nat.reduceAdd, Nat.reduceSub, Nat.zero_add]
    refine sm_ret (ev_join (ev_str (str_ex ?_)))
    refine EvO.ev (eo_mapF (fun x => .str (itemTx x)) (ei_tup (ev_var rfl ⟨xs, rfl, by omega, fun x hm => tc_name ?_, ?_⟩)))
    · repeat walk_at "yx"
      exact c_strA (itemOk_back (hx x hm)).2.1 rfl
    · refine ⟨xs.map itemTx, .inl (by rw [List.map_map]; rfl), ?_, _, rfl, rfl⟩
      have hb : ((xs.map itemTx).map (·.length)).sum ≤ ((xs.map itemTx).map (·.length)).length * 7 := sum_le _ 7 fun n hn => by
        obtain ⟨_, h1, rfl⟩ := List.mem_map.mp hn
        obtain ⟨x, h2, rfl⟩ := List.mem_map.mp h1
        exact (itemOk_back (hx x h2)).2.2.1.1
      simp only [List.length_map] at hb ⊢
      have e1 : (" " : Str).length = 1 := by decide +kernel
      rw [e1]
      omega

theorem ok__law_mixed (T : Tx K mg w) : FnOk P w K mg base CX0 2 T.a__law_mixed T.d__law_mixed ["_law_bag_here", "_law_things"] (spB K mixPre mixPost) := by
  have G__law_draw := ok__law_draw (P := P) (w := w) (base := base) T
  refine fn_bag T.F__law_mixed sc__law_mixed (fun ds h => ?_) (fun cdv A outer s H E hr => ⟨_, (pss_cons (ps_par rfl sc__law_mixed.nd (i := 2) (j := 3) rfl rfl (by decide) rfl rfl (pa_cons (pe_callTy (call_listB (K := K) rfl) (by rfl) T.n_list PyProof.Rows.boot_list (pa_cons (pv 1) pa_nil)) (pa_cons (pe_lst pa_nil) pa_nil)) rfl)
      (pss_cons (ps_for PassesOwn.never rfl (pi_range1 (by rfl) T.n_range (pa_cons (pe_callB (call_lenA (K := K)) (by rfl) T.n_len PySem.boot_len (pa_cons (pv 1) pa_nil)) pa_nil)) (pg_name (i := 4) sc__law_mixed.nd rfl (Or.inl rfl)) (pss_one (ps_expr (pe_bm PySem.F.plainAttrs_list PySem.F.slot_list_append PySem.F.type_list_append mt_append (pv 3) (pa_cons (pe_bm PySem.F.plainAttrs_list PySem.F.slot_list_pop PySem.F.type_list_pop mt_popAt (pv 2) (pa_cons (pe_call G__law_draw (hr.mono (by decide)) (by rfl) T.m__law_draw T.k__law_draw T.b__law_draw .nil pass0 (pa_cons (pv 0) (pa_cons (pe_callB (call_lenA (K := K)) (by rfl) T.n_len PySem.boot_len (pa_cons (pv 2) pa_nil)) pa_nil))) pa_nil)) pa_nil)))))
      (pss_one (ps_ret (pv 3))))), fun F0 H0 b ds h => ?_⟩)
  · obtain ⟨xs, rfl, _⟩ := h; rfl
  · obtain ⟨xs, rfl, hl⟩ := h
    dsimp only [cxOf, env0, env1, List.map, List.length, List.replicate, List.cons_append, List.nil_append, List.append, Nat.reduceAdd, Nat.reduceSub, Nat.zero_add]
    refine sm_seq (sm_parOO (by decide) (fun a xs e => nomatch e) (fun a xs e => nomatch e) (eo_listL (ea_cons (ev_var rfl (ea_nil ⟨xs, .inl rfl, ?_⟩)))))
    refine eo_lst (ea_nil ⟨by decide, fun al af hne => ?_⟩)
    refine sm_seq (sm_for (ei_rng1 (ea_cons (ev_cb (ea_cons (ev_var rfl (ea_nil (c_len rfl (ea_nil ⟨_, rfl, by omega, by omega, fun i e => ∃ (cs ls : List Dt) (s4 : Sl), e = [.r (.ref b), .d (.lst xs), .own al ls, .own af cs, s4] ∧ (cs ++ ls).Perm xs ∧ cs.length = i, ?_, ?_, ?_⟩))))))))) 
    · exact ⟨[], xs, _, rfl, List.Perm.refl _, rfl⟩
    · rintro i x es' hx ⟨cs, ls, s4, rfl, hp, hc⟩
      obtain ⟨hi, rfl⟩ := rangeD_get hx
      have hls : cs.length + ls.length = xs.length := by
        have := hp.length_eq
        rw [List.length_append] at this
        exact this
      refine tg_name (sm_appendM rfl ?_)
      refine em_pop (a := al) (xs := ls) rfl ?_
      refine ev_callB rfl rfl (ea_cons (ev_lenOwn (a := al) (xs := ls) rfl (ea_nil ?_)))
      refine draw_k ⟨by omega, by omega⟩ fun j j1 j2 => ?_
      refine ⟨j, rfl, j1, j2, by omega, fun y hy => ?_⟩
      refine ⟨rfl, by omega, cs ++ [y], ls.eraseIdx j.toNat, .d (.int (0 + (i : Int))), rfl, ?_, ?_⟩
      · have q1 : ls.Perm (y :: ls.eraseIdx j.toNat) := perm_erase hy
        rw [List.append_assoc]
        exact ((List.Perm.append_left cs q1).symm).trans hp
      · rw [List.length_append, hc]; rfl
    · rintro es' ⟨cs, ls, s4, rfl, hp, hc⟩
      rw [rangeD_len] at hc
      have hls : cs.length + ls.length = xs.length := by
        have := hp.length_eq
        rw [List.length_append] at this
        exact this
      have e : ls = [] := List.eq_nil_of_length_eq_zero (by omega)
      subst e
      rw [List.append_nil] at hp
      refine sm_freeze 3 rfl (sm_ret ?_)
      refine ev_var rfl ?_
      exact ⟨xs, cs, rfl, rfl, hp⟩

end
end Law
namespace Law
open PySem L2 Y
local macro_rules | `(tactic| walk_at "yv") => `(tactic| ((with_reducible show Ev _ (tVar _) _ _); refine ev_var rfl ?_))
local macro_rules | `(tactic| walk_at "ys") => `(tactic| with_reducible first
  | refine sm_seq ?_ | refine sm_ret ?_ | refine sm_if ?_ | refine sm_set ?_ | refine sm_next ?_ | refine sm_par ?_ | refine sm_drop ?_ | refine sm_brk ?_ | refine sm_cont ?_)
local macro_rules | `(tactic| walk_at "ye") => `(tactic| with_reducible first
  | refine ev_op ?_ | refine ev_and ?_ | refine ev_or ?_ | refine ev_not ?_ | refine ev_if ?_ | refine ev_chain ?_ | refine ev_neg ?_ | refine ev_isInt ?_ | refine ev_isBool ?_ | refine ev_isStr ?_ | refine ev_isList ?_ | refine ev_isTuple ?_ | refine ev_isLT ?_ | refine ev_isDict ?_
  | refine ev_int ?_ | refine ev_str ?_ | refine ev_bl ?_ | refine ev_non ?_ | refine ev_call ?_ | refine ev_cb ?_ | refine ev_lst ?_ | refine ev_tup ?_ | refine ev_join ?_
  | refine ea_nil ?_ | refine ea_cons ?_
  | refine et_B ?_ | refine et_test ?_ | refine et_not ?_ | refine et_and ?_ | refine et_or ?_ | refine et_yes ?_
  | refine o_plusI ?_ | refine o_i0 ?_ | refine o_b0 ?_ | refine o_isN ?_ | refine o_notN ?_
  | refine bl_ex ?_ | refine int_ex ?_ | refine str_ex ?_ | refine lst_ex ?_ | refine tup_ex ?_)
local macro_rules | `(tactic| walk_at "yo") => `(tactic| first
  | ((with_reducible show Ev _ (tOp (rIx _) (tVar _) _) _ _); refine ev_ixOwn rfl ?_)
  | ((with_reducible show Ev _ (tCB _ (tCons (tVar _) tNil)) _ _); refine ev_lenOwn rfl ?_)
  | ((with_reducible show Sm _ (tAsg _ (gSub (tVar _) _ _)) _ _); refine sm_setItem rfl ?_)
  | ((with_reducible show Ev _ (tCall (spB _ _ _) _ _ _) _ _); refine ev_callB rfl rfl ?_))
local macro_rules | `(tactic| walk_at "yc") => `(tactic| first
  | ((with_reducible show CMul _ _); first | exact Or.inr ⟨by decide, by decide⟩ | exact Or.inl ⟨by decide, by decide⟩ | exact Or.inr ⟨by omega, by omega⟩ | exact Or.inl ⟨by omega, by omega⟩)
  | ((with_reducible show CDiv _ _); exact ⟨by first | decide | omega, by first | decide | omega⟩)
  | ((with_reducible show CPow _ _); exact ⟨by decide, by decide, by first | decide | omega⟩)
  | ((show (0 : Int) < _); first | decide | omega))
local macro_rules | `(tactic| walk_at "yd") => `(tactic| first
  | ((with_reducible show plainD _ = true ∧ _); refine ⟨by first | rfl | assumption, ?_⟩)
  | ((with_reducible show (_ = true → _) ∧ (_ = false → _)); first | refine way_t rfl ?_ | refine way_f rfl ?_ | refine way_t (by decide +kernel) ?_ | refine way_f (by decide +kernel) ?_)
  | ((with_reducible show Cal _ _ _ _ _); first | (with_reducible refine c_int ?_) | (with_reducible refine c_abs ?_) | (refine c_len rfl ?_) | (refine c_len (if_pos (by assumption)) ?_))
  | ((with_reducible show Op2 _ (rEqA _) _ _ _ _); refine o_eqA rfl ?_)
  | ((with_reducible show Op2 _ (rNeA _) _ _ _ _); refine o_neA rfl ?_)
  | ((with_reducible show Op2 _ (rInA _) _ (Dt.str _) (Dt.lst _) _); refine o_inAL rfl rfl ?_)
  | ((with_reducible show Op2 _ (rInA _) _ (Dt.str _) (Dt.tup _) _); refine o_inAT rfl rfl ?_)
  | ((with_reducible show Op2 _ (rI _ _) _ _ _ _); refine o_i (by walk_at "yc") ?_)
  | ((with_reducible show Op2 _ (rIx _) _ (Dt.tup _) _ _); refine o_ixAT (atI_toNat (by decide) rfl) ?_)
  | ((with_reducible show Op2 _ (rIx _) _ (Dt.lst _) _ _); refine o_ixAL (atI_toNat (by decide) rfl) ?_)
  | ((with_reducible show ∃ x, atI _ _ = some x ∧ _); refine ⟨_, rfl, ?_⟩)
  | ((with_reducible show ∃ x, ixN _ _ = some x ∧ _); refine ⟨_, rfl, ?_⟩)
  | ((with_reducible show List.length _ ≤ 100000 ∧ _); refine ⟨by (try simp only [List.length_cons, List.length_nil]); first | decide | omega, ?_⟩))
local macro_rules | `(tactic| walk_at "y") => `(tactic| first | walk_at "yo" | walk_at "ye" | walk_at "yv" | walk_at "ys" | walk_at "yd")
local macro_rules | `(tactic| walk_at "yx") => `(tactic| first | walk_at "yo" | walk_at "ye" | walk_at "yv" | walk_at "yd")
section
variable {P : Program} {w : World} {K : PySem.W.Frag} {mg : Str → Option Value} {base : Heap}

theorem ok_read_row (T : Tx K mg w) : FnOk P w K mg base CX0 6 T.a_read_row T.d_read_row ["text"] (spD K readPre readPost) := by
  have G_item_of := ok_item_of (P := P) (w := w) (base := base) T
  have G_is_code_row := ok_is_code_row (P := P) (w := w) (base := base) T
  have G_is_data_row := ok_is_data_row (P := P) (w := w) (base := base) T
  refine fn_data T.F_read_row sc_read_row (fun ds h => ?_) (fun cdv A outer s H E hr => ⟨_, (pss_cons (ps_if (pt_not (pt_val (pe_callB (call_isiA (K := K)) (by rfl) T.n_isinstance PyProof.Rows.boot_isinstance (pa_cons (pv 0) (pa_cons (pe_bltn (v := .ty "str") (by rfl) T.n_str (by decide +kernel) rfl) pa_nil))))) (pss_one (ps_ret pe_non)) pss_nil)
      (pss_cons (ps_set (i := 1) sc_read_row.nd rfl (Or.inl rfl) (pe_callTy (call_tupleA (K := K)) (by rfl) T.n_tuple PyProof.Rows.boot_tuple (pa_cons (pe_lc (own := [("word", 2)]) (g := gName 2) rfl sc_read_row.nd (pi_listA (K := K) (pe_split (pv 0) pe_str)) (blkOk_by (N := ["text", "row", "word"]) (sc := defScope s_read_row) (by decide +kernel)) (fun _ _ _ _ _ => (pg_name (i := 2) sc_read_row.nd rfl (Or.inl rfl))) (fun _ _ _ _ _ => pts_nil) (fun _ _ _ _ _ => (pe_call G_item_of (hr.mono (by decide)) (by rfl) T.m_item_of T.k_item_of T.b_item_of .nil pass0 (pa_cons (pv 2) pa_nil)))) pa_nil)))
      (pss_one (ps_ret (pe_ifExp (PW.pt (pw_or (pt_val (pe_call G_is_code_row (hr.mono (by decide)) (by rfl) T.m_is_code_row T.k_is_code_row T.b_is_code_row .nil pass0 (pa_cons (pv 1) pa_nil))) (pw_or1 (pt_val (pe_call G_is_data_row (hr.mono (by decide)) (by rfl) T.m_is_data_row T.k_is_data_row T.b_is_data_row .nil pass0 (pa_cons (pv 1) pa_nil)))))) (pv 1) pe_non))))), fun F0 H0 ds h => ?_⟩)
  · obtain ⟨x, rfl, _⟩ := h; rfl
  · obtain ⟨x, rfl, hx, ht⟩ := h
    dsimp only [cxOf, env0, env1, List.map, List.length, List.replicate, List.cons_append, List.nil_append, List.append, Nat.reduceAdd, Nat.reduceSub, Nat.zero_add]
    cases x with
    | obj _ _ _ => cases hx
    | ali _ => cases hx
    | str z =>
      have hz := ht z rfl
      obtain ⟨l1, l2⟩ := split_ok hz
      have hl : z.length ≤ 90000 := by have := hz.1; show z.cps.size ≤ _; omega
      refine sm_seq (sm_if ?_)
      repeat walk_at "yx"
      refine sm_next (sm_seq (sm_set (ev_tupleL (ea_cons (EvO.ev (eo_mapF (fun x => itemD 5 (unstr x)) (ei_list (EvO.ev (eo_split (ev_var rfl (str_ex ⟨hl, ev_str (str_ex ⟨by decide +kernel, lst_ex ?_⟩)⟩))))))))))) 
      refine ⟨by rw [List.length_map]; omega, fun x hm => tc_name ?_, ea_nil ⟨_, rfl, ?_⟩⟩
      · obtain ⟨v, hv, rfl⟩ := List.mem_map.mp hm
        repeat walk_at "yx"
        have := l2 v hv
        exact item_k ⟨by have := this.1; omega, this.2⟩ rfl
      have e : ((Txt.split z " ").map Dt.str).map (fun x => itemD 5 (unstr x)) = (Txt.split z " ").map (itemD 5) := by rw [List.map_map]; rfl
      rw [e]
      have hth : thingB (.tup ((Txt.split z " ").map (itemD 5))) = true := lineD_thing hz
      have rd : readD (.str z) = rowOf (.tup ((Txt.split z " ").map (itemD 5))) := rfl
      generalize (Txt.split z " ").map (itemD 5) = row at *
      refine sm_ret (ev_if ?_)
      repeat walk_at "yx"
      refine isCode_k hth (bl_ex ?_)
      refine ways (fun h => ?_) (fun h => ?_)
      · repeat walk_at "yx"
        refine ⟨_, rfl, ?_⟩
        rw [rd, rowOf, if_pos (by rw [h]; rfl)]
      · repeat walk_at "yx"
        refine isData_k hth (bl_ex ?_)
        refine ways (fun h2 => ?_) (fun h2 => ?_)
        · repeat walk_at "yx"
          refine ⟨_, rfl, ?_⟩
          rw [rd, rowOf, if_pos (by rw [h, h2]; rfl)]
        · repeat walk_at "yx"
          refine ⟨_, rfl, ?_⟩
          rw [rd, rowOf, if_neg (by rw [h, h2]; decide)]
    | _ =>
      repeat walk_at "y"
      exact ⟨_, rfl, rfl⟩

theorem ok__law_row_of (T : Tx K mg w) : FnOk P w K mg base CX0 3 T.a__law_row_of T.d__law_row_of ["_law_words", "_law_side"] (spD K lawRowPre lawRowPost) := by
  have G__law_figure := ok__law_figure (P := P) (w := w) (base := base) T
  have G__law_code_so := ok__law_code_so (P := P) (w := w) (base := base) T
  have G__law_data_so := ok__law_data_so (P := P) (w := w) (base := base) T
  refine fn_data T.F__law_row_of sc__law_row_of (fun ds h => ?_) (fun cdv A outer s H E hr => ⟨_, (pss_cons (ps_setLc (i := 2) (own := [("_law_k", 3)]) (g := gName 3) rfl sc__law_row_of.nd rfl rfl (sw_true rfl rfl rfl (by decide +kernel)) (pi_range1 (by rfl) T.n_range (pa_cons (pe_callB (call_lenA (K := K)) (by rfl) T.n_len PySem.boot_len (pa_cons (pv 0) pa_nil)) pa_nil)) (blkOk_by (N := ["_law_words", "_law_side", "_law_items", "_law_k", "_law_one"]) (sc := defScope s__law_row_of) (by decide +kernel)) (fun _ _ _ _ _ => (pg_name (i := 3) sc__law_row_of.nd rfl (Or.inl rfl))) (fun _ _ _ _ _ => pts_nil) (fun _ _ _ _ _ => (pe_ifExp (pt_cmpR (op_eqA (K := K) hr.units) (pv 3) pe_int (nomark _)) (pe_ix (ix_any (K := K)) (pv 0) (pv 3) (fun _ _ => rfl)) (pe_call G__law_figure (hr.mono (by decide)) (by rfl) T.m__law_figure T.k__law_figure T.b__law_figure .nil pass0 (pa_cons (pe_ix (ix_any (K := K)) (pv 0) (pv 3) (fun _ _ => rfl)) pa_nil)))))
      (pss_cons (ps_set (i := 4) sc__law_row_of.nd rfl (Or.inl rfl) (pe_callTy (call_tupleA (K := K)) (by rfl) T.n_tuple PyProof.Rows.boot_tuple (pa_cons (pv 2) pa_nil)))
      (pss_cons (ps_if (PW.pt (pw_or (PW.pt (pw_and (pt_cmpR (op_neA (K := K) hr.units) (pv 1) pe_str (nomark _)) (pw_and1 (pt_val (pe_call G__law_code_so (hr.mono (by decide)) (by rfl) T.m__law_code_so T.k__law_code_so T.b__law_code_so .nil pass0 (pa_cons (pv 4) pa_nil)))))) (pw_or1 (PW.pt (pw_and (pt_cmpR (op_neA (K := K) hr.units) (pv 1) pe_str (nomark _)) (pw_and1 (pt_val (pe_call G__law_data_so (hr.mono (by decide)) (by rfl) T.m__law_data_so T.k__law_data_so T.b__law_data_so .nil pass0 (pa_cons (pv 4) pa_nil))))))))) (pss_one (ps_ret (pv 4))) pss_nil)
      (pss_one (ps_ret pe_non))))), fun F0 H0 ds h => ?_⟩)
  · obtain ⟨z, rfl, _⟩ := h; rfl
  · obtain ⟨z, rfl, hz⟩ := h
    dsimp only [cxOf, env0, env1, List.map, List.length, List.replicate, List.cons_append, List.nil_append, List.append, Nat.reduceAdd, Nat.reduceSub, Nat.zero_add]
    obtain ⟨l1, l2⟩ := split_ok hz
    have hth := lineL_thing hz
    generalize Txt.split z " " = ws at *
    have hlen : (ws.map Dt.str).length = ws.length := List.length_map ..
    refine sm_seq (sm_set (EvO.ev (eo_mapF (figF ws) (ei_rng1 (ea_cons (ev_cb (ea_cons (ev_var rfl (ea_nil (c_len rfl (ea_nil ⟨_, rfl, by omega, by omega, ?_⟩)))))))))))
    rw [show (((ws.map Dt.str).length : Nat) : Int).toNat = ws.length by rw [hlen]; omega]
    refine ⟨by rw [rangeD_len]; omega, fun x hm => tc_name ?_, ?_⟩
    · obtain ⟨k, hk⟩ := List.getElem?_of_mem hm
      obtain ⟨hi, rfl⟩ := rangeD_get hk
      have hg : atI (ws.map Dt.str) (0 + (k : Int)) = some (.str (ws.getD ((0 : Int) + (k : Int)).toNat "")) := atI_toNat (by omega) (by
        have e0 : ((0 : Int) + (k : Int)).toNat = k := by omega
        rw [e0, List.getElem?_map]
        simp [hi])
      have hmem : ws.getD ((0 : Int) + (k : Int)).toNat "" ∈ ws := by
        have e0 : ((0 : Int) + (k : Int)).toNat = k := by omega
        rw [e0]
        simp [hi]
      refine ev_if ?_
      repeat walk_at "yx"
      refine ways (fun h => ?_) (fun h => ?_)
      · have h : (0 : Int) + (k : Int) = 0 := of_decide_eq_true h
        refine ev_op (ev_var rfl (ev_var rfl (o_ixAL hg ?_)))
        exact (if_pos h).symm
      · have h : ¬ (0 : Int) + (k : Int) = 0 := of_decide_eq_false h
        refine ev_call (ea_cons (ev_op (ev_var rfl (ev_var rfl (o_ixAL hg (ea_nil ?_))))))
        have := l2 _ hmem
        exact item_k ⟨by have := this.1; omega, this.2⟩ (if_neg h).symm
    rw [figF_line]
    refine sm_seq (sm_set (ev_tupleL (ea_cons (ev_var rfl (ea_nil ⟨_, rfl, ?_⟩)))))
    rw [lineI_eq]
    have fin : ∀ d, d = rowOf (lineL ws) → lawRowPost [.lst (ws.map Dt.str), .str ""] d := fun d e => ⟨ws, rfl, e⟩
    refine sm_seq (sm_if ?_)
    repeat walk_at "yx"
    refine isCode_k hth (bl_ex ?_)
    refine ways (fun h => ?_) (fun h => ?_)
    · repeat walk_at "y"
      refine fin _ ?_
      rw [rowOf, if_pos (by rw [h]; rfl)]
    · repeat walk_at "yx"
      refine isData_k hth (bl_ex ?_)
      refine ways (fun h2 => ?_) (fun h2 => ?_)
      · repeat walk_at "y"
        refine fin _ ?_
        rw [rowOf, if_pos (by rw [h, h2]; rfl)]
      · repeat walk_at "y"
        refine fin _ ?_
        rw [rowOf, if_neg (by rw [h, h2]; decide)]

theorem ok__law_bent_text (T : Tx K mg w) : FnOk P w K mg base CX0 3 T.a__law_bent_text T.d__law_bent_text ["_law_bag_here", "_law_told"] (spB K bentPre bentPost) := by
  have G__law_draw := ok__law_draw (P := P) (w := w) (base := base) T
  have G__law_of := ok__law_of (P := P) (w := w) (base := base) T
  have G__law_mixed := ok__law_mixed (P := P) (w := w) (base := base) T
  refine fn_bag T.F__law_bent_text sc__law_bent_text (fun ds h => ?_) (fun cdv A outer s H E hr => ⟨_, (pss_cons (ps_par rfl sc__law_bent_text.nd (i := 2) (j := 3) rfl rfl (by decide) rfl rfl (pa_cons (pe_call G__law_draw (hr.mono (by decide)) (by rfl) T.m__law_draw T.k__law_draw T.b__law_draw .nil pass0 (pa_cons (pv 0) (pa_cons (pe_op (op_plus (K := K)) (pe_callB (call_lenA (K := K)) (by rfl) T.n_len PySem.boot_len (pa_cons (pv 1) pa_nil)) pe_int) pa_nil))) (pa_cons (pe_call G__law_of (hr.mono (by decide)) (by rfl) T.m__law_of T.k__law_of T.b__law_of .nil pass0 (pa_cons (pv 0) (pa_cons (pe_lst (pa_cons pe_str (pa_cons pe_str (pa_cons pe_str (pa_cons pe_str (pa_cons pe_str (pa_cons pe_str (pa_cons pe_str (pa_cons pe_str (pa_cons pe_str (pa_cons pe_str (pa_cons pe_str (pa_cons pe_str pa_nil))))))))))))) pa_nil))) pa_nil)) rfl)
      (pss_cons (ps_set (i := 4) sc__law_bent_text.nd rfl (Or.inl rfl) (pe_call G__law_draw (hr.mono (by decide)) (by rfl) T.m__law_draw T.k__law_draw T.b__law_draw .nil pass0 (pa_cons (pv 0) (pa_cons pe_int pa_nil))))
      (pss_cons (ps_if (pt_cmpR (op_eqA (K := K) hr.units) (pv 4) pe_int (nomark _)) (pss_one (ps_ret (pe_joinA (K := K) pe_str (pe_call G__law_mixed (hr.mono (by decide)) (by rfl) T.m__law_mixed T.k__law_mixed T.b__law_mixed .nil pass0 (pa_cons (pv 0) (pa_cons (pe_split (pv 1) pe_str) pa_nil)))))) pss_nil)
      (pss_one (ps_ret (pe_op (op_plus (K := K)) (pe_op (op_plus (K := K)) (pe_slice (sl_any (K := K)) (pv 1) po_none (po_some (pv 2))) (pe_ifExp (pt_cmpR (op_eqA (K := K) hr.units) (pv 4) pe_int (nomark _)) pe_str (pv 3))) (pe_slice (sl_any (K := K)) (pv 1) (po_some (pe_op (op_plus (K := K)) (pv 2) (pe_ifExp (pt_cmpR (op_eqA (K := K) hr.units) (pv 4) pe_int (nomark _)) pe_int pe_int))) po_none))))))), fun F0 H0 b ds h => ?_⟩)
  · obtain ⟨z, rfl, _⟩ := h; rfl
  · obtain ⟨z, rfl, hz⟩ := h
    dsimp only [cxOf, env0, env1, List.map, List.length, List.replicate, List.cons_append, List.nil_append, List.append, Nat.reduceAdd, Nat.reduceSub, Nat.zero_add]
    have h0 := hz.1
    have hl : z.length ≤ 100000 := by show z.cps.size ≤ _; omega
    have e0 : z.length = z.cps.size := rfl
    refine sm_seq (sm_par ?_)
    repeat walk_at "yx"
    refine draw_k ⟨by omega, by omega⟩ fun spot s1 s2 => ?_
    repeat walk_at "yx"
    refine of_k ⟨by decide, by decide⟩ fun sg hsg => ?_
    obtain ⟨sig, rfl, hsig⟩ : ∃ y : Str, sg = .str y ∧ TxB 2 y := by
      simp only [List.mem_cons, List.not_mem_nil, or_false] at hsg
      rcases hsg with rfl | rfl | rfl | rfl | rfl | rfl | rfl | rfl | rfl | rfl | rfl | rfl <;> exact ⟨_, rfl, by decide +kernel, by decide +kernel⟩
    repeat walk_at "yx"
    refine ⟨_, _, rfl, ?_⟩
    refine sm_seq (sm_set ?_)
    repeat walk_at "yx"
    refine draw_k ⟨by decide, by decide⟩ fun way w1 w2 => ?_
    refine sm_seq (sm_if ?_)
    repeat walk_at "yx"
    refine ways (fun h => ?_) (fun h => ?_)
    · refine sm_ret (ev_join (ev_str (str_ex ?_)))
      refine ev_callB rfl rfl (ea_cons (EvO.ev (eo_split (ev_var rfl (str_ex ⟨by omega, ev_str (str_ex ⟨by decide +kernel, ea_nil ?_⟩)⟩)))))
      refine mix_k (by rw [List.length_map]; have := (split_ok hz).1; omega) fun ys hp0 => ?_
      obtain ⟨vs, rfl, hp⟩ := perm_strs hp0
      refine ⟨vs, .inl rfl, ?_, z, _, rfl, rfl, fun n hn => (join_perm hn hp).mono (by omega)⟩
      have e1 : (" " : Str).length = 1 := by decide +kernel
      have hlen : vs.length ≤ 61 := by rw [hp.length_eq]; exact (split_ok hz).1
      have hb : (vs.map (·.length)).sum ≤ (vs.map (·.length)).length * 60 := sum_le _ 60 fun n hn => by
        obtain ⟨x, h2, rfl⟩ := List.mem_map.mp hn
        exact ((split_ok hz).2 x (hp.subset h2)).1
      rw [List.length_map] at hb
      rw [e1]
      omega
    · obtain ⟨n, rfl⟩ : ∃ n : Nat, spot = (n : Int) := ⟨spot.toNat, by omega⟩
      have hn : n ≤ z.cps.size := by omega
      have c1 := (cut_app z n hn).1
      refine sm_next (sm_ret ?_)
      have key : ∀ (y : Str) (m : Nat), TxB 2 y → n ≤ m → ∀ k, TxB k z → TxB (k + 2) (cutS z none (some (n : Int)) ++ y ++ cutS z (some (m : Int)) none) := fun y m hy hm k hk => by
        constructor
        · rw [app_size, app_size, ← Array.length_toList (xs := (cutS z none (some (n : Int))).cps), c1, ← Array.length_toList (xs := (cutS z (some (m : Int)) none).cps), cut_drop, List.length_take, List.length_drop, Array.length_toList]
          have := hy.1
          have := hk.1
          omega
        · refine app_ok (app_ok ?_ hy.2) ?_
          · rw [strOk_iff, c1]
            exact fun c hc => (strOk_iff z).mp hz.2 c (List.mem_of_mem_take hc)
          · rw [strOk_iff, cut_drop]
            exact fun c hc => (strOk_iff z).mp hz.2 c (List.mem_of_mem_drop hc)
      refine ev_op (ev_op (ev_slS (ev_var rfl (str_ex ⟨hl, ep_none (ep_some (ev_var rfl (int_ex ?_)))⟩))))
      refine Ev.imp (P := fun d => ∃ y : Str, d = .str y ∧ TxB 2 y) ?_ ?_
      · refine ev_if ?_
        repeat walk_at "yx"
        refine ways (fun h => ?_) (fun h => ?_)
        · exact ev_str ⟨_, rfl, by decide +kernel, by decide +kernel⟩
        · exact ev_var rfl ⟨_, rfl, hsig⟩
      rintro _ ⟨y, rfl, hy⟩
      have l1 : (cutS z none (some (n : Int))).length ≤ z.length := cutS_length _ _ _
      have l2 : y.length ≤ 2 := hy.1
      have l3 : (cutS z none (some (n : Int)) ++ y).length = (cutS z none (some (n : Int))).length + y.length := app_size _ _
      refine o_plusS (by omega) ?_
      refine ev_slS (ev_var rfl (str_ex ⟨hl, ep_some (ev_op (ev_var rfl ?_))⟩))
      refine Ev.imp (P := fun d => d = .int 0 ∨ d = .int 1) ?_ ?_
      · refine ev_if ?_
        repeat walk_at "yx"
        refine ways (fun h => ?_) (fun h => ?_)
        · exact ev_int (.inl rfl)
        · exact ev_int (.inr rfl)
      rintro _ (rfl | rfl)
      · refine o_plusI (int_ex (ep_none ?_))
        have l4 : (cutS z (some ((n : Int) + 0)) none).length ≤ z.length := cutS_length _ _ _
        refine o_plusS (by omega) ⟨z, _, rfl, rfl, ?_⟩
        rw [Int.add_zero]
        exact key y n hy (by omega)
      · refine o_plusI (int_ex (ep_none ?_))
        have l4 : (cutS z (some ((n : Int) + 1)) none).length ≤ z.length := cutS_length _ _ _
        refine o_plusS (by omega) ⟨z, _, rfl, rfl, ?_⟩
        exact key y (n + 1) hy (by omega)

end
end Law
namespace Law
open PySem L2 Y
local macro_rules | `(tactic| walk_at "yv") => `(tactic| ((with_reducible show Ev _ (tVar _) _ _); refine ev_var rfl ?_))
local macro_rules | `(tactic| walk_at "ys") => `(tactic| with_reducible first
  | refine sm_seq ?_ | refine sm_ret ?_ | refine sm_if ?_ | refine sm_set ?_ | refine sm_next ?_ | refine sm_par ?_ | refine sm_drop ?_ | refine sm_brk ?_ | refine sm_cont ?_)
local macro_rules | `(tactic| walk_at "ye") => `(tactic| with_reducible first
  | refine ev_op ?_ | refine ev_and ?_ | refine ev_or ?_ | refine ev_not ?_ | refine ev_if ?_ | refine ev_chain ?_ | refine ev_neg ?_ | refine ev_isInt ?_ | refine ev_isBool ?_ | refine ev_isStr ?_ | refine ev_isList ?_ | refine ev_isTuple ?_ | refine ev_isLT ?_ | refine ev_isDict ?_
  | refine ev_int ?_ | refine ev_str ?_ | refine ev_bl ?_ | refine ev_non ?_ | refine ev_call ?_ | refine ev_cb ?_ | refine ev_lst ?_ | refine ev_tup ?_ | refine ev_join ?_
  | refine ea_nil ?_ | refine ea_cons ?_
  | refine et_B ?_ | refine et_test ?_ | refine et_not ?_ | refine et_and ?_ | refine et_or ?_ | refine et_yes ?_
  | refine o_plusI ?_ | refine o_i0 ?_ | refine o_b0 ?_ | refine o_isN ?_ | refine o_notN ?_
  | refine bl_ex ?_ | refine int_ex ?_ | refine str_ex ?_ | refine lst_ex ?_ | refine tup_ex ?_)
local macro_rules | `(tactic| walk_at "yo") => `(tactic| first
  | ((with_reducible show Ev _ (tOp (rIx _) (tVar _) _) _ _); refine ev_ixOwn rfl ?_)
  | ((with_reducible show Ev _ (tCB _ (tCons (tVar _) tNil)) _ _); refine ev_lenOwn rfl ?_)
  | ((with_reducible show Sm _ (tAsg _ (gSub (tVar _) _ _)) _ _); refine sm_setItem rfl ?_)
  | ((with_reducible show Ev _ (tCall (spB _ _ _) _ _ _) _ _); refine ev_callB rfl rfl ?_))
local macro_rules | `(tactic| walk_at "yc") => `(tactic| first
  | ((with_reducible show CMul _ _); first | exact Or.inr ⟨by decide, by decide⟩ | exact Or.inl ⟨by decide, by decide⟩ | exact Or.inr ⟨by omega, by omega⟩ | exact Or.inl ⟨by omega, by omega⟩)
  | ((with_reducible show CDiv _ _); exact ⟨by first | decide | omega, by first | decide | omega⟩)
  | ((with_reducible show CPow _ _); exact ⟨by decide, by decide, by first | decide | omega⟩)
  | ((show (0 : Int) < _); first | decide | omega))
local macro_rules | `(tactic| walk_at "yd") => `(tactic| first
  | ((with_reducible show plainD _ = true ∧ _); refine ⟨by first | rfl | assumption, ?_⟩)
  | ((with_reducible show (_ = true → _) ∧ (_ = false → _)); first | refine way_t rfl ?_ | refine way_f rfl ?_ | refine way_t (by decide +kernel) ?_ | refine way_f (by decide +kernel) ?_)
  | ((with_reducible show Cal _ _ _ _ _); first | (with_reducible refine c_int ?_) | (with_reducible refine c_abs ?_) | (refine c_len rfl ?_) | (refine c_len (if_pos (by assumption)) ?_))
  | ((with_reducible show Op2 _ (rEqA _) _ _ _ _); refine o_eqA rfl ?_)
  | ((with_reducible show Op2 _ (rNeA _) _ _ _ _); refine o_neA rfl ?_)
  | ((with_reducible show Op2 _ (rInA _) _ (Dt.str _) (Dt.lst _) _); refine o_inAL rfl rfl ?_)
  | ((with_reducible show Op2 _ (rInA _) _ (Dt.str _) (Dt.tup _) _); refine o_inAT rfl rfl ?_)
  | ((with_reducible show Op2 _ (rI _ _) _ _ _ _); refine o_i (by walk_at "yc") ?_)
  | ((with_reducible show Op2 _ (rIx _) _ (Dt.tup _) _ _); refine o_ixAT (atI_toNat (by decide) rfl) ?_)
  | ((with_reducible show Op2 _ (rIx _) _ (Dt.lst _) _ _); refine o_ixAL (atI_toNat (by decide) rfl) ?_)
  | ((with_reducible show ∃ x, atI _ _ = some x ∧ _); refine ⟨_, rfl, ?_⟩)
  | ((with_reducible show ∃ x, ixN _ _ = some x ∧ _); refine ⟨_, rfl, ?_⟩)
  | ((with_reducible show List.length _ ≤ 100000 ∧ _); refine ⟨by (try simp only [List.length_cons, List.length_nil]); first | decide | omega, ?_⟩))
local macro_rules | `(tactic| walk_at "y") => `(tactic| first | walk_at "yo" | walk_at "ye" | walk_at "yv" | walk_at "ys" | walk_at "yd")
local macro_rules | `(tactic| walk_at "yx") => `(tactic| first | walk_at "yo" | walk_at "ye" | walk_at "yv" | walk_at "yd")
theorem gkr_row_text_0_row {K : PySem.W.Frag} : ∀ (F : Hp) (vs : List V) (ds : List Dt) (zs : List V) (as : List Dt), RpAll K F vs ds → RpAll K F zs as → RpAll K F (gk_row_text_0_row vs zs) (gk_row_text_0_row ds as) := by
  intro F vs ds zs as h1 h2
  cases h1 with
  | cons _ _ => first | exact .nil | (cases h2 <;> exact .nil)
  | nil =>
    cases h2 with
    | nil => exact .nil
    | cons b0 t20 =>
      cases t20 with
      | cons _ _ => exact .nil
      | nil =>
        exact .cons b0 .nil
theorem gkr_read_row_0_text {K : PySem.W.Frag} : ∀ (F : Hp) (vs : List V) (ds : List Dt) (zs : List V) (as : List Dt), RpAll K F vs ds → RpAll K F zs as → RpAll K F (gk_read_row_0_text vs zs) (gk_read_row_0_text ds as) := by
  intro F vs ds zs as h1 h2
  cases h1 with
  | cons _ _ => first | exact .nil | (cases h2 <;> exact .nil)
  | nil =>
    cases h2 with
    | nil => exact .nil
    | cons b0 t20 =>
      cases t20 with
      | cons _ _ => exact .nil
      | nil =>
        exact .cons b0 .nil

def txB (n : Nat) (d : Dt) : Bool := match d with
  | .str z => decide (z.cps.size ≤ n) && PyData.strOk z
  | _ => false
theorem txB_of {n : Nat} {d : Dt} (h : txB n d = true) : ∃ z, d = .str z ∧ TxB n z := by
  cases d with
  | str z =>
    have h : (decide (z.cps.size ≤ n) && PyData.strOk z) = true := h
    rw [Bool.and_eq_true] at h
    exact ⟨z, rfl, of_decide_eq_true h.1, h.2⟩
  | _ => cases h
def oddR (d : Dt) : Bool := plainD d && (match d with | .str z => txB 90 (.str z) && dNon (readD (.str z)) | _ => true)
theorem odd_read {d : Dt} (h : oddR d = true) : plainD d = true ∧ (∀ z, d = .str z → TxB 90 z) ∧ readD d = .non := by
  unfold oddR at h
  rw [Bool.and_eq_true] at h
  refine ⟨h.1, fun z e => ?_, ?_⟩
  · subst e
    have h2 := h.2
    rw [Bool.and_eq_true] at h2
    obtain ⟨y, e, hy⟩ := txB_of h2.1
    cases e
    exact hy
  · cases d with
    | str z =>
      have h2 := h.2
      rw [Bool.and_eq_true] at h2
      cases e : readD (.str z) with
      | non => rfl
      | _ => rw [e] at h2; cases h2.2
    | _ => rfl
section
variable {P : Program} {w : World} {K : PySem.W.Frag} {mg : Str → Option Value} {base : Heap}

theorem ok_law (T : Tx K mg w) : FnOk P w K mg base CX0 13 T.a_law T.d_law ["_law_script"] (spLaw K) := by
  have G__law_bag := ok__law_bag (P := P) (w := w) (base := base) T
  have G__law_titles := ok__law_titles (P := P) (w := w) (base := base) T
  have G__law_odd := ok__law_odd (P := P) (w := w) (base := base) T
  have G__law_same := ok__law_same (P := P) (w := w) (base := base) T 6
  have G__law_code_row := ok__law_code_row (P := P) (w := w) (base := base) T
  have G__law_data_row := ok__law_data_row (P := P) (w := w) (base := base) T
  have G__law_last_row := ok__law_last_row (P := P) (w := w) (base := base) T
  have G__law_bent_text := ok__law_bent_text (P := P) (w := w) (base := base) T
  have G__law_row_of := ok__law_row_of (P := P) (w := w) (base := base) T
  have G__law_row_text := ok__law_row_text (P := P) (w := w) (base := base) T
  have G_row_text := ok_row_text (P := P) (w := w) (base := base) T
  have G_read_row := ok_read_row (P := P) (w := w) (base := base) T
  have G_is_code_row := ok_is_code_row (P := P) (w := w) (base := base) T
  have G_is_data_row := ok_is_data_row (P := P) (w := w) (base := base) T
  refine fn_law T.F_law sc_law (fun cdv A outer s H E hr => ⟨_, (pss_cons (ps_set (i := 1) sc_law.nd rfl (Or.inl rfl) (pe_call G__law_bag (hr.mono (by decide)) (by rfl) T.m__law_bag T.k__law_bag T.b__law_bag .nil pass0 (pa_cons (pv 0) pa_nil)))
      (pss_cons (ps_set (i := 2) sc_law.nd rfl (Or.inl rfl) (pe_call G__law_titles (hr.mono (by decide)) (by rfl) T.m__law_titles T.k__law_titles T.b__law_titles .nil pass0 (pa_cons (pv 1) (pa_cons pe_int pa_nil))))
      (pss_cons (ps_for PassesOwn.never rfl (pi_range1 (by rfl) T.n_range (pa_cons pe_int pa_nil)) (pg_name (i := 3) sc_law.nd rfl (Or.inl rfl)) (pss_cons (ps_set (i := 4) sc_law.nd rfl (Or.inl rfl) (pe_ifExp (pt_cmpR op_lt (pv 3) pe_int (nomark _)) (pe_call G__law_code_row (hr.mono (by decide)) (by rfl) T.m__law_code_row T.k__law_code_row T.b__law_code_row .nil pass0 (pa_cons (pv 1) (pa_cons (pv 2) pa_nil))) (pe_ifExp (pt_cmpR op_lt (pv 3) pe_int (nomark _)) (pe_call G__law_last_row (hr.mono (by decide)) (by rfl) T.m__law_last_row T.k__law_last_row T.b__law_last_row .nil pass0 (pa_cons (pv 1) (pa_cons (pv 2) pa_nil))) (pe_call G__law_data_row (hr.mono (by decide)) (by rfl) T.m__law_data_row T.k__law_data_row T.b__law_data_row .nil pass0 (pa_cons (pv 1) (pa_cons (pv 2) pa_nil))))))
      (pss_cons (ps_set (i := 5) sc_law.nd rfl (Or.inl rfl) (pe_call G__law_row_text (hr.mono (by decide)) (by rfl) T.m__law_row_text T.k__law_row_text T.b__law_row_text .nil pass0 (pa_cons (pv 4) pa_nil)))
      (pss_cons (ps_if (pt_not (pt_val (pe_call G__law_same (hr.mono (by decide)) (by rfl) T.m__law_same T.k__law_same T.b__law_same .nil pass0 (pa_cons (pe_lst (pa_cons (pe_call G_row_text (hr.mono (by decide)) (by rfl) T.m_row_text T.k_row_text T.b_row_text .nil pass0 (pa_cons (pv 4) pa_nil)) (pa_cons (pe_callN0 G_row_text (hr.mono (by decide)) (by rfl) T.m_row_text T.k_row_text T.kb_row_text_0_row pass0 (pk_cons (pv 4) pk_nil)) (pa_cons (pe_call G_read_row (hr.mono (by decide)) (by rfl) T.m_read_row T.k_read_row T.b_read_row .nil pass0 (pa_cons (pv 5) pa_nil)) (pa_cons (pe_callN0 G_read_row (hr.mono (by decide)) (by rfl) T.m_read_row T.k_read_row T.kb_read_row_0_text pass0 (pk_cons (pv 5) pk_nil)) pa_nil))))) (pa_cons (pe_lst (pa_cons (pv 5) (pa_cons (pv 5) (pa_cons (pv 4) (pa_cons (pv 4) pa_nil))))) pa_nil))))) (pss_one (ps_ret pe_bl)) pss_nil)
      (pss_cons (ps_set (i := 6) sc_law.nd rfl (Or.inl rfl) (pe_ifExp (pt_cmpR op_gt (pv 3) pe_int (nomark _)) (pe_call G__law_bent_text (hr.mono (by decide)) (by rfl) T.m__law_bent_text T.k__law_bent_text T.b__law_bent_text .nil pass0 (pa_cons (pv 1) (pa_cons (pe_call G__law_bent_text (hr.mono (by decide)) (by rfl) T.m__law_bent_text T.k__law_bent_text T.b__law_bent_text .nil pass0 (pa_cons (pv 1) (pa_cons (pv 5) pa_nil))) pa_nil))) (pe_call G__law_bent_text (hr.mono (by decide)) (by rfl) T.m__law_bent_text T.k__law_bent_text T.b__law_bent_text .nil pass0 (pa_cons (pv 1) (pa_cons (pv 5) pa_nil)))))
      (pss_cons (ps_set (i := 7) sc_law.nd rfl (Or.inl rfl) (pe_call G__law_row_of (hr.mono (by decide)) (by rfl) T.m__law_row_of T.k__law_row_of T.b__law_row_of .nil pass0 (pa_cons (pe_split (pv 6) pe_str) (pa_cons pe_str pa_nil))))
      (pss_cons (ps_set (i := 8) sc_law.nd rfl (Or.inl rfl) (pe_call G_read_row (hr.mono (by decide)) (by rfl) T.m_read_row T.k_read_row T.b_read_row .nil pass0 (pa_cons (pv 6) pa_nil)))
      (pss_cons (ps_if (pt_not (pt_val (pe_call G__law_same (hr.mono (by decide)) (by rfl) T.m__law_same T.k__law_same T.b__law_same .nil pass0 (pa_cons (pv 8) (pa_cons (pv 7) pa_nil))))) (pss_one (ps_ret pe_bl)) pss_nil)
      (pss_cons (ps_if (PW.pt (pw_and (pt_cmpR op_notN (pv 7) pe_non (nomark _)) (pw_and1 (PW.pt (pw_or (pt_cmpR (op_neA (K := K) hr.units) (pe_call G_row_text (hr.mono (by decide)) (by rfl) T.m_row_text T.k_row_text T.b_row_text .nil pass0 (pa_cons (pv 8) pa_nil)) (pv 6) (nomark _)) (pw_or1 (pt_not (PW.pt (pw_or (pt_val (pe_call G_is_code_row (hr.mono (by decide)) (by rfl) T.m_is_code_row T.k_is_code_row T.b_is_code_row .nil pass0 (pa_cons (pv 8) pa_nil))) (pw_or1 (pt_val (pe_call G_is_data_row (hr.mono (by decide)) (by rfl) T.m_is_data_row T.k_is_data_row T.b_is_data_row .nil pass0 (pa_cons (pv 8) pa_nil))))))))))))) (pss_one (ps_ret pe_bl)) pss_nil)
      (pss_one (ps_if (pt_cmpR op_notN (pe_call G_read_row (hr.mono (by decide)) (by rfl) T.m_read_row T.k_read_row T.b_read_row .nil pass0 (pa_cons (pe_call G__law_odd (hr.mono (by decide)) (by rfl) T.m__law_odd T.k__law_odd T.b__law_odd .nil pass0 (pa_cons (pv 1) (pa_cons (pe_lst (pa_cons (pv 4) (pa_cons (pe_lst (pa_cons (pv 5) pa_nil)) (pa_cons (pe_tup (pa_cons (pv 5) pa_nil)) (pa_cons pe_int pa_nil))))) pa_nil))) pa_nil)) pe_non (nomark _)) (pss_one (ps_ret pe_bl)) pss_nil)))))))))))
      (pss_cons (ps_set (i := 9) sc_law.nd rfl (Or.inl rfl) (pe_lst (pa_cons pe_str (pa_cons pe_str (pa_cons pe_str (pa_cons pe_str (pa_cons pe_str (pa_cons pe_str (pa_cons pe_str (pa_cons pe_str (pa_cons pe_str pa_nil)))))))))))
      (pss_cons (ps_set (i := 9) sc_law.nd rfl (Or.inl rfl) (pe_op (op_plus (K := K)) (pv 9) (pe_lst (pa_cons pe_str (pa_cons pe_str (pa_cons pe_str (pa_cons pe_str (pa_cons pe_str (pa_cons pe_str (pa_cons pe_str (pa_cons pe_str (pa_cons pe_str (pa_cons pe_str pa_nil)))))))))))))
      (pss_cons (ps_set (i := 9) sc_law.nd rfl (Or.inl rfl) (pe_op (op_plus (K := K)) (pv 9) (pe_lst (pa_cons pe_str (pa_cons pe_str (pa_cons pe_str (pa_cons pe_str (pa_cons pe_str (pa_cons pe_str (pa_cons pe_str (pa_cons pe_str (pa_cons pe_str pa_nil))))))))))))
      (pss_cons (ps_for PassesOwn.never rfl (pi_listA (K := K) (pv 9)) (pg_name (i := 5) sc_law.nd rfl (Or.inl rfl)) (pss_one (ps_if (pt_not (pt_val (pe_call G__law_same (hr.mono (by decide)) (by rfl) T.m__law_same T.k__law_same T.b__law_same .nil pass0 (pa_cons (pe_call G_read_row (hr.mono (by decide)) (by rfl) T.m_read_row T.k_read_row T.b_read_row .nil pass0 (pa_cons (pv 5) pa_nil)) (pa_cons (pe_call G__law_row_of (hr.mono (by decide)) (by rfl) T.m__law_row_of T.k__law_row_of T.b__law_row_of .nil pass0 (pa_cons (pe_split (pv 5) pe_str) (pa_cons pe_str pa_nil))) pa_nil))))) (pss_one (ps_ret pe_bl)) pss_nil)))
      (pss_one (ps_ret pe_bl))))))))), fun F0 H0 a b => ?_⟩) (by decide)
  dsimp only [cxOf, env0, env1, List.map, List.length, List.replicate, List.cons_append, List.nil_append, List.append, Nat.reduceAdd, Nat.reduceSub, Nat.zero_add]
  refine sm_seq (sm_set ?_)
  repeat walk_at "yx"
  refine titles_k ⟨by decide, by decide⟩ fun ss h1 h2 h3 => ?_
  have hN : NamesD (.lst (ss.map Dt.str)) := ⟨ss, rfl, by omega, by omega, h2⟩
  refine sm_seq (sm_for (ei_rng1 (ea_cons (ev_int (ea_nil ⟨14, rfl, by decide, by decide, fun _ e => ∃ s3 s4 s5 s6 s7 s8 s9, e = [.r (.ref a), .r (.ref b), .d (.lst (ss.map Dt.str)), s3, s4, s5, s6, s7, s8, s9], ⟨_, _, _, _, _, _, _, rfl⟩, ?_, ?_⟩)))))
  · rintro i x es' hx ⟨s3, s4, s5, s6, s7, s8, s9, rfl⟩
    obtain ⟨hi, rfl⟩ := rangeD_get hx
    refine tg_name ?_
    refine sm_seq (sm_set ?_)
    refine Ev.imp (P := fun d => (codeRow d || dataRow d) = true) ?_ ?_
    · refine ev_if ?_
      repeat walk_at "yx"
      refine ways (fun h => ?_) (fun h => ?_)
      · repeat walk_at "yx"
        exact code_k2 hN fun d q1 q2 => by rw [q1]; rfl
      · refine ev_if ?_
        repeat walk_at "yx"
        refine ways (fun h => ?_) (fun h => ?_)
        · repeat walk_at "yx"
          exact code_k2 hN fun d q1 q2 => by rw [q1]; rfl
        · repeat walk_at "yx"
          exact data_k2 hN fun d q1 q2 => by rw [q1, Bool.or_true]
    rintro one hone
    obtain ⟨t1, t2, t3, t4, t5, t6⟩ := row_text_ok hone
    have t7 : ∀ z, Dt.str (rowTx one) = .str z → TxB 90 z := fun z e => by cases e; exact t1.mono (by decide)
    refine sm_seq (sm_set ?_)
    repeat walk_at "yx"
    refine rtx_k hone ?_
    refine sm_seq (sm_if (et_not (et_test (ev_call (ea_cons (ev_lst ?_))))))
    refine ea_cons (ev_call (ea_cons (ev_var rfl (ea_nil (rtx_k hone ?_)))))
    refine ea_cons (ev_callN (gD := gk_row_text_0_row) gkr_row_text_0_row ?_)
    repeat walk_at "yx"
    refine ⟨rfl, rfl, rtx_k hone ?_⟩
    refine ea_cons (ev_call (ea_cons (ev_var rfl (ea_nil (read_k rfl t7 ?_)))))
    refine ea_cons (ev_callN (gD := gk_read_row_0_text) gkr_read_row_0_text ?_)
    repeat walk_at "yx"
    refine ⟨rfl, rfl, read_k rfl t7 ?_⟩
    rw [t2]
    repeat walk_at "yx"
    refine same_k rfl (by simp [Dt.pureD, pureAll, t3]) (by simp only [Dt.depth, depthAll, t4]; omega) ?_
    repeat walk_at "yx"
    refine sm_next ?_
    refine sm_seq (sm_set ?_)
    refine Ev.imp (P := fun d => ∃ y : Str, d = .str y ∧ TxB 44 y) ?_ ?_
    · refine ev_if ?_
      repeat walk_at "yx"
      refine ways (fun h => ?_) (fun h => ?_)
      · refine ev_callB rfl rfl (ea_cons ?_)
        refine ev_callB rfl rfl (ea_cons (ev_var rfl (ea_nil ?_)))
        refine bent_k t1 (by decide) fun y hy => ea_nil ?_
        exact bent_k hy (by decide) fun z hz => ⟨z, rfl, hz⟩
      · refine ev_callB rfl rfl (ea_cons (ev_var rfl (ea_nil ?_)))
        exact bent_k t1 (by decide) fun y hy => ⟨y, rfl, hy.mono (by decide)⟩
    rintro _ ⟨bent, rfl, hb⟩
    have hb9 : TxB 90 bent := hb.mono (by decide)
    have hbl : bent.length ≤ 90000 := by have := hb.1; show bent.cps.size ≤ _; omega
    refine sm_seq (sm_set ?_)
    refine ev_call (ea_cons (EvO.ev (eo_split (ev_var rfl (str_ex ⟨hbl, ev_str (str_ex ⟨by decide +kernel, ?_⟩)⟩)))))
    repeat walk_at "yx"
    refine lawRow_k hb9 ?_
    refine sm_seq (sm_set ?_)
    repeat walk_at "yx"
    refine read_k rfl (fun z e => by cases e; exact hb9) ?_
    obtain ⟨p1, p2⟩ := read_pure (z := bent)
    have hback := fun hd => back_text (z := bent) (d := readD (.str bent)) rfl hd
    generalize readD (.str bent) = back at *
    refine sm_seq (sm_if ?_)
    repeat walk_at "yx"
    refine same_k rfl p1 (by omega) ?_
    repeat walk_at "yx"
    refine sm_next ?_
    refine sm_cut (fun e => ∃ s3 s6 s7 s8 s9, e = [.r (.ref a), .r (.ref b), .d (.lst (ss.map Dt.str)), s3, .d one, .d (.str (rowTx one)), s6, s7, s8, s9]) ?_ ?_
    · refine sm_if ?_
      repeat walk_at "yx"
      refine ways (fun h => ?_) (fun h => ?_)
      · have hne : back ≠ .non := fun e => by subst e; cases h
        obtain ⟨q1, q2⟩ := hback hne
        repeat walk_at "yx"
        refine rtx_k q2 ?_
        rw [q1]
        repeat walk_at "yx"
        refine way_f (by simp [dEq]) ?_
        obtain ⟨_, _, _, _, _, q3⟩ := row_text_ok q2
        repeat walk_at "yx"
        refine isCode_k q3 (bl_ex ?_)
        refine ways (fun h4 => ?_) (fun h4 => ?_)
        · repeat walk_at "y"
          exact ⟨_, _, _, _, _, rfl⟩
        · repeat walk_at "yx"
          refine isData_k q3 ?_
          have h5 : dataRow back = true := by rw [h4, Bool.false_or] at q2; exact q2
          rw [h5]
          repeat walk_at "y"
          exact ⟨_, _, _, _, _, rfl⟩
      · repeat walk_at "y"
        exact ⟨_, _, _, _, _, rfl⟩
    rintro es2 ⟨s3, s6, s7, s8, s9, rfl⟩
    refine sm_if ?_
    repeat walk_at "yx"
    refine odd_k (by show 4 ≤ 1000; decide) fun d hd => ?_
    have ho : oddR d = true := by
      rcases List.mem_append.mp hd with hd | hd
      · exact all_mem (p := oddR) (by decide +kernel) hd
      · simp only [List.mem_cons, List.not_mem_nil, or_false] at hd
        rcases hd with rfl | rfl | rfl | rfl
        · obtain ⟨xs, rfl, _⟩ := row_ok hone; rfl
        · rfl
        · rfl
        · rfl
    obtain ⟨o1, o2, o3⟩ := odd_read ho
    repeat walk_at "yx"
    refine read_k o1 o2 ?_
    rw [o3]
    repeat walk_at "y"
    exact ⟨_, _, _, _, _, _, _, rfl⟩
  · rintro es' ⟨s3, s4, s5, s6, s7, s8, s9, rfl⟩
    refine sm_seq (sm_set ?_)
    repeat walk_at "yx"
    refine sm_seq (sm_set ?_)
    repeat walk_at "yx"
    refine o_plusL (by decide) ?_
    refine sm_seq (sm_set ?_)
    repeat walk_at "yx"
    refine o_plusL (by decide) ?_
    refine sm_seq (sm_for (ei_list (ev_var rfl (lst_ex ?_))))
    refine ⟨fun _ e => ∃ s3 s4 s5 s6 s7 s8 s9, e = [.r (.ref a), .r (.ref b), .d (.lst (ss.map Dt.str)), s3, s4, s5, s6, s7, s8, s9], ⟨_, _, _, _, _, _, _, rfl⟩, ?_, ?_⟩
    · rintro j y es2 hy ⟨s3, s4, s5, s6, s7, s8, s9, rfl⟩
      obtain ⟨z, rfl, hz⟩ := txB_of (n := 90) (all_mem (p := txB 90) (by decide +kernel) (List.mem_of_getElem? hy))
      have hl : z.length ≤ 90000 := by have := hz.1; show z.cps.size ≤ _; omega
      refine tg_name ?_
      refine sm_if (et_not (et_test (ev_call (ea_cons (ev_call (ea_cons (ev_var rfl (ea_nil (read_k rfl (fun z e => by cases e; exact hz) ?_)))))))))
      refine ea_cons (ev_call (ea_cons (EvO.ev (eo_split (ev_var rfl (str_ex ⟨hl, ev_str (str_ex ⟨by decide +kernel, ?_⟩)⟩))))))
      repeat walk_at "yx"
      refine lawRow_k hz ?_
      obtain ⟨p1, p2⟩ := read_pure (z := z)
      repeat walk_at "yx"
      refine same_k rfl p1 (by omega) ?_
      repeat walk_at "y"
      exact ⟨_, _, _, _, _, _, _, rfl⟩
    · rintro es2 ⟨s3, s4, s5, s6, s7, s8, s9, rfl⟩
      repeat walk_at "y"
      rfl
end
end Law
namespace Law
open PySem L2 Y
local macro_rules | `(tactic| walk_at "yv") => `(tactic| ((with_reducible show Ev _ (tVar _) _ _); refine ev_var rfl ?_))
local macro_rules | `(tactic| walk_at "ys") => `(tactic| with_reducible first
  | refine sm_seq ?_ | refine sm_ret ?_ | refine sm_if ?_ | refine sm_set ?_ | refine sm_next ?_ | refine sm_par ?_ | refine sm_drop ?_ | refine sm_brk ?_ | refine sm_cont ?_)
local macro_rules | `(tactic| walk_at "ye") => `(tactic| with_reducible first
  | refine ev_op ?_ | refine ev_and ?_ | refine ev_or ?_ | refine ev_not ?_ | refine ev_if ?_ | refine ev_chain ?_ | refine ev_neg ?_ | refine ev_isInt ?_ | refine ev_isBool ?_ | refine ev_isStr ?_ | refine ev_isList ?_ | refine ev_isTuple ?_ | refine ev_isLT ?_ | refine ev_isDict ?_
  | refine ev_int ?_ | refine ev_str ?_ | refine ev_bl ?_ | refine ev_non ?_ | refine ev_call ?_ | refine ev_cb ?_ | refine ev_lst ?_ | refine ev_tup ?_ | refine ev_join ?_
  | refine ea_nil ?_ | refine ea_cons ?_
  | refine et_B ?_ | refine et_test ?_ | refine et_not ?_ | refine et_and ?_ | refine et_or ?_ | refine et_yes ?_
  | refine o_plusI ?_ | refine o_i0 ?_ | refine o_b0 ?_ | refine o_isN ?_ | refine o_notN ?_
  | refine bl_ex ?_ | refine int_ex ?_ | refine str_ex ?_ | refine lst_ex ?_ | refine tup_ex ?_)
local macro_rules | `(tactic| walk_at "yo") => `(tactic| first
  | ((with_reducible show Ev _ (tOp (rIx _) (tVar _) _) _ _); refine ev_ixOwn rfl ?_)
  | ((with_reducible show Ev _ (tCB _ (tCons (tVar _) tNil)) _ _); refine ev_lenOwn rfl ?_)
  | ((with_reducible show Sm _ (tAsg _ (gSub (tVar _) _ _)) _ _); refine sm_setItem rfl ?_)
  | ((with_reducible show Ev _ (tCall (spB _ _ _) _ _ _) _ _); refine ev_callB rfl rfl ?_))
local macro_rules | `(tactic| walk_at "yc") => `(tactic| first
  | ((with_reducible show CMul _ _); first | exact Or.inr ⟨by decide, by decide⟩ | exact Or.inl ⟨by decide, by decide⟩ | exact Or.inr ⟨by omega, by omega⟩ | exact Or.inl ⟨by omega, by omega⟩)
  | ((with_reducible show CDiv _ _); exact ⟨by first | decide | omega, by first | decide | omega⟩)
  | ((with_reducible show CPow _ _); exact ⟨by decide, by decide, by first | decide | omega⟩)
  | ((show (0 : Int) < _); first | decide | omega))
local macro_rules | `(tactic| walk_at "yd") => `(tactic| first
  | ((with_reducible show plainD _ = true ∧ _); refine ⟨by first | rfl | assumption, ?_⟩)
  | ((with_reducible show (_ = true → _) ∧ (_ = false → _)); first | refine way_t rfl ?_ | refine way_f rfl ?_ | refine way_t (by decide +kernel) ?_ | refine way_f (by decide +kernel) ?_)
  | ((with_reducible show Cal _ _ _ _ _); first | (with_reducible refine c_int ?_) | (with_reducible refine c_abs ?_) | (refine c_len rfl ?_) | (refine c_len (if_pos (by assumption)) ?_))
  | ((with_reducible show Op2 _ (rEqA _) _ _ _ _); refine o_eqA rfl ?_)
  | ((with_reducible show Op2 _ (rNeA _) _ _ _ _); refine o_neA rfl ?_)
  | ((with_reducible show Op2 _ (rInA _) _ (Dt.str _) (Dt.lst _) _); refine o_inAL rfl rfl ?_)
  | ((with_reducible show Op2 _ (rInA _) _ (Dt.str _) (Dt.tup _) _); refine o_inAT rfl rfl ?_)
  | ((with_reducible show Op2 _ (rI _ _) _ _ _ _); refine o_i (by walk_at "yc") ?_)
  | ((with_reducible show Op2 _ (rIx _) _ (Dt.tup _) _ _); refine o_ixAT (atI_toNat (by decide) rfl) ?_)
  | ((with_reducible show Op2 _ (rIx _) _ (Dt.lst _) _ _); refine o_ixAL (atI_toNat (by decide) rfl) ?_)
  | ((with_reducible show ∃ x, atI _ _ = some x ∧ _); refine ⟨_, rfl, ?_⟩)
  | ((with_reducible show ∃ x, ixN _ _ = some x ∧ _); refine ⟨_, rfl, ?_⟩)
  | ((with_reducible show List.length _ ≤ 100000 ∧ _); refine ⟨by (try simp only [List.length_cons, List.length_nil]); first | decide | omega, ?_⟩))
local macro_rules | `(tactic| walk_at "y") => `(tactic| first | walk_at "yo" | walk_at "ye" | walk_at "yv" | walk_at "ys" | walk_at "yd")
local macro_rules | `(tactic| walk_at "yx") => `(tactic| first | walk_at "yo" | walk_at "ye" | walk_at "yv" | walk_at "yd")
theorem gkv_row_text_0_row : ∀ (vs : List V) (ds : List Value) (zs : List V) (as : List Value), Vals vs ds → Vals zs as → Vals (gk_row_text_0_row vs zs) (gk_row_text_0_row ds as) := by
  intro vs ds zs as h1 h2
  cases h1 with
  | cons _ _ => first | exact .nil | (cases h2 <;> exact .nil)
  | nil =>
    cases h2 with
    | nil => exact .nil
    | cons b0 t20 =>
      cases t20 with
      | cons _ _ => exact .nil
      | nil =>
        exact .cons b0 .nil
theorem gkv_read_row_0_text : ∀ (vs : List V) (ds : List Value) (zs : List V) (as : List Value), Vals vs ds → Vals zs as → Vals (gk_read_row_0_text vs zs) (gk_read_row_0_text ds as) := by
  intro vs ds zs as h1 h2
  cases h1 with
  | cons _ _ => first | exact .nil | (cases h2 <;> exact .nil)
  | nil =>
    cases h2 with
    | nil => exact .nil
    | cons b0 t20 =>
      cases t20 with
      | cons _ _ => exact .nil
      | nil =>
        exact .cons b0 .nil
theorem all_mk {l : PySem.W.OpenLaw} {w : World} {K : PySem.W.Frag} {h : Heap} {mg : Str → Option Value} {fa : Addr} (X : K.In h) (G : h.Ns mainGlobals mg) (hfa : mg "law" = some (.ref fa))
    {f_has_word : Addr} {od_has_word an_has_word : Option Addr} {sl_has_word : Array (Option Value)} {oc_has_word kV_has_word dc_has_word pm_has_word cd_has_word ct_has_word : Value}
    (a_has_word : PySem.W.nsIn K mainGlobals "has_word" = some (some (.ref f_has_word))) (l_has_word : K.lookup f_has_word = some ⟨oc_has_word, od_has_word, .func (PySem.W.fnOf "has_word" "has_word" (defArgs s_has_word) (defBody s_has_word) (defScope s_has_word) .none kV_has_word dc_has_word pm_has_word an_has_word cd_has_word ct_has_word), sl_has_word⟩) (c_has_word : PySem.W.codeIn K cd_has_word "has_word" = true) (k_has_word : PySem.W.keepIn K (.ref f_has_word) = true)
    {f_is_number : Addr} {od_is_number an_is_number : Option Addr} {sl_is_number : Array (Option Value)} {oc_is_number kV_is_number dc_is_number pm_is_number cd_is_number ct_is_number : Value}
    (a_is_number : PySem.W.nsIn K mainGlobals "is_number" = some (some (.ref f_is_number))) (l_is_number : K.lookup f_is_number = some ⟨oc_is_number, od_is_number, .func (PySem.W.fnOf "is_number" "is_number" (defArgs s_is_number) (defBody s_is_number) (defScope s_is_number) .none kV_is_number dc_is_number pm_is_number an_is_number cd_is_number ct_is_number), sl_is_number⟩) (c_is_number : PySem.W.codeIn K cd_is_number "is_number" = true) (k_is_number : PySem.W.keepIn K (.ref f_is_number) = true)
    {f_is_name : Addr} {od_is_name an_is_name : Option Addr} {sl_is_name : Array (Option Value)} {oc_is_name kV_is_name dc_is_name pm_is_name cd_is_name ct_is_name : Value}
    (a_is_name : PySem.W.nsIn K mainGlobals "is_name" = some (some (.ref f_is_name))) (l_is_name : K.lookup f_is_name = some ⟨oc_is_name, od_is_name, .func (PySem.W.fnOf "is_name" "is_name" (defArgs s_is_name) (defBody s_is_name) (defScope s_is_name) .none kV_is_name dc_is_name pm_is_name an_is_name cd_is_name ct_is_name), sl_is_name⟩) (c_is_name : PySem.W.codeIn K cd_is_name "is_name" = true) (k_is_name : PySem.W.keepIn K (.ref f_is_name) = true)
    {f_is_register : Addr} {od_is_register an_is_register : Option Addr} {sl_is_register : Array (Option Value)} {oc_is_register kV_is_register dc_is_register pm_is_register cd_is_register ct_is_register : Value}
    (a_is_register : PySem.W.nsIn K mainGlobals "is_register" = some (some (.ref f_is_register))) (l_is_register : K.lookup f_is_register = some ⟨oc_is_register, od_is_register, .func (PySem.W.fnOf "is_register" "is_register" (defArgs s_is_register) (defBody s_is_register) (defScope s_is_register) .none kV_is_register dc_is_register pm_is_register an_is_register cd_is_register ct_is_register), sl_is_register⟩) (c_is_register : PySem.W.codeIn K cd_is_register "is_register" = true) (k_is_register : PySem.W.keepIn K (.ref f_is_register) = true)
    {f_is_word : Addr} {od_is_word an_is_word : Option Addr} {sl_is_word : Array (Option Value)} {oc_is_word kV_is_word dc_is_word pm_is_word cd_is_word ct_is_word : Value}
    (a_is_word : PySem.W.nsIn K mainGlobals "is_word" = some (some (.ref f_is_word))) (l_is_word : K.lookup f_is_word = some ⟨oc_is_word, od_is_word, .func (PySem.W.fnOf "is_word" "is_word" (defArgs s_is_word) (defBody s_is_word) (defScope s_is_word) .none kV_is_word dc_is_word pm_is_word an_is_word cd_is_word ct_is_word), sl_is_word⟩) (c_is_word : PySem.W.codeIn K cd_is_word "is_word" = true) (k_is_word : PySem.W.keepIn K (.ref f_is_word) = true)
    {f_fits : Addr} {od_fits an_fits : Option Addr} {sl_fits : Array (Option Value)} {oc_fits kV_fits dc_fits pm_fits cd_fits ct_fits : Value}
    (a_fits : PySem.W.nsIn K mainGlobals "fits" = some (some (.ref f_fits))) (l_fits : K.lookup f_fits = some ⟨oc_fits, od_fits, .func (PySem.W.fnOf "fits" "fits" (defArgs s_fits) (defBody s_fits) (defScope s_fits) .none kV_fits dc_fits pm_fits an_fits cd_fits ct_fits), sl_fits⟩) (c_fits : PySem.W.codeIn K cd_fits "fits" = true) (k_fits : PySem.W.keepIn K (.ref f_fits) = true)
    {f_has_form : Addr} {od_has_form an_has_form : Option Addr} {sl_has_form : Array (Option Value)} {oc_has_form kV_has_form dc_has_form pm_has_form cd_has_form ct_has_form : Value}
    (a_has_form : PySem.W.nsIn K mainGlobals "has_form" = some (some (.ref f_has_form))) (l_has_form : K.lookup f_has_form = some ⟨oc_has_form, od_has_form, .func (PySem.W.fnOf "has_form" "has_form" (defArgs s_has_form) (defBody s_has_form) (defScope s_has_form) .none kV_has_form dc_has_form pm_has_form an_has_form cd_has_form ct_has_form), sl_has_form⟩) (c_has_form : PySem.W.codeIn K cd_has_form "has_form" = true) (k_has_form : PySem.W.keepIn K (.ref f_has_form) = true)
    {f_is_code_row : Addr} {od_is_code_row an_is_code_row : Option Addr} {sl_is_code_row : Array (Option Value)} {oc_is_code_row kV_is_code_row dc_is_code_row pm_is_code_row cd_is_code_row ct_is_code_row : Value}
    (a_is_code_row : PySem.W.nsIn K mainGlobals "is_code_row" = some (some (.ref f_is_code_row))) (l_is_code_row : K.lookup f_is_code_row = some ⟨oc_is_code_row, od_is_code_row, .func (PySem.W.fnOf "is_code_row" "is_code_row" (defArgs s_is_code_row) (defBody s_is_code_row) (defScope s_is_code_row) .none kV_is_code_row dc_is_code_row pm_is_code_row an_is_code_row cd_is_code_row ct_is_code_row), sl_is_code_row⟩) (c_is_code_row : PySem.W.codeIn K cd_is_code_row "is_code_row" = true) (k_is_code_row : PySem.W.keepIn K (.ref f_is_code_row) = true)
    {f_is_data_row : Addr} {od_is_data_row an_is_data_row : Option Addr} {sl_is_data_row : Array (Option Value)} {oc_is_data_row kV_is_data_row dc_is_data_row pm_is_data_row cd_is_data_row ct_is_data_row : Value}
    (a_is_data_row : PySem.W.nsIn K mainGlobals "is_data_row" = some (some (.ref f_is_data_row))) (l_is_data_row : K.lookup f_is_data_row = some ⟨oc_is_data_row, od_is_data_row, .func (PySem.W.fnOf "is_data_row" "is_data_row" (defArgs s_is_data_row) (defBody s_is_data_row) (defScope s_is_data_row) .none kV_is_data_row dc_is_data_row pm_is_data_row an_is_data_row cd_is_data_row ct_is_data_row), sl_is_data_row⟩) (c_is_data_row : PySem.W.codeIn K cd_is_data_row "is_data_row" = true) (k_is_data_row : PySem.W.keepIn K (.ref f_is_data_row) = true)
    {f_row_text : Addr} {od_row_text an_row_text : Option Addr} {sl_row_text : Array (Option Value)} {oc_row_text kV_row_text dc_row_text pm_row_text cd_row_text ct_row_text : Value}
    (a_row_text : PySem.W.nsIn K mainGlobals "row_text" = some (some (.ref f_row_text))) (l_row_text : K.lookup f_row_text = some ⟨oc_row_text, od_row_text, .func (PySem.W.fnOf "row_text" "row_text" (defArgs s_row_text) (defBody s_row_text) (defScope s_row_text) .none kV_row_text dc_row_text pm_row_text an_row_text cd_row_text ct_row_text), sl_row_text⟩) (c_row_text : PySem.W.codeIn K cd_row_text "row_text" = true) (k_row_text : PySem.W.keepIn K (.ref f_row_text) = true)
    {f_item_of : Addr} {od_item_of an_item_of : Option Addr} {sl_item_of : Array (Option Value)} {oc_item_of kV_item_of dc_item_of pm_item_of cd_item_of ct_item_of : Value}
    (a_item_of : PySem.W.nsIn K mainGlobals "item_of" = some (some (.ref f_item_of))) (l_item_of : K.lookup f_item_of = some ⟨oc_item_of, od_item_of, .func (PySem.W.fnOf "item_of" "item_of" (defArgs s_item_of) (defBody s_item_of) (defScope s_item_of) .none kV_item_of dc_item_of pm_item_of an_item_of cd_item_of ct_item_of), sl_item_of⟩) (c_item_of : PySem.W.codeIn K cd_item_of "item_of" = true) (k_item_of : PySem.W.keepIn K (.ref f_item_of) = true)
    {f_read_row : Addr} {od_read_row an_read_row : Option Addr} {sl_read_row : Array (Option Value)} {oc_read_row kV_read_row dc_read_row pm_read_row cd_read_row ct_read_row : Value}
    (a_read_row : PySem.W.nsIn K mainGlobals "read_row" = some (some (.ref f_read_row))) (l_read_row : K.lookup f_read_row = some ⟨oc_read_row, od_read_row, .func (PySem.W.fnOf "read_row" "read_row" (defArgs s_read_row) (defBody s_read_row) (defScope s_read_row) .none kV_read_row dc_read_row pm_read_row an_read_row cd_read_row ct_read_row), sl_read_row⟩) (c_read_row : PySem.W.codeIn K cd_read_row "read_row" = true) (k_read_row : PySem.W.keepIn K (.ref f_read_row) = true)
    {f__law_bag : Addr} {od__law_bag an__law_bag : Option Addr} {sl__law_bag : Array (Option Value)} {oc__law_bag kV__law_bag dc__law_bag pm__law_bag cd__law_bag ct__law_bag : Value}
    (a__law_bag : PySem.W.nsIn K mainGlobals "_law_bag" = some (some (.ref f__law_bag))) (l__law_bag : K.lookup f__law_bag = some ⟨oc__law_bag, od__law_bag, .func (PySem.W.fnOf "_law_bag" "_law_bag" (defArgs s__law_bag) (defBody s__law_bag) (defScope s__law_bag) .none kV__law_bag dc__law_bag pm__law_bag an__law_bag cd__law_bag ct__law_bag), sl__law_bag⟩) (c__law_bag : PySem.W.codeIn K cd__law_bag "_law_bag" = true) (k__law_bag : PySem.W.keepIn K (.ref f__law_bag) = true)
    {f__law_same : Addr} {od__law_same an__law_same : Option Addr} {sl__law_same : Array (Option Value)} {oc__law_same kV__law_same dc__law_same pm__law_same cd__law_same ct__law_same : Value}
    (a__law_same : PySem.W.nsIn K mainGlobals "_law_same" = some (some (.ref f__law_same))) (l__law_same : K.lookup f__law_same = some ⟨oc__law_same, od__law_same, .func (PySem.W.fnOf "_law_same" "_law_same" (defArgs s__law_same) (defBody s__law_same) (defScope s__law_same) .none kV__law_same dc__law_same pm__law_same an__law_same cd__law_same ct__law_same), sl__law_same⟩) (c__law_same : PySem.W.codeIn K cd__law_same "_law_same" = true) (k__law_same : PySem.W.keepIn K (.ref f__law_same) = true)
    {f__law_draw : Addr} {od__law_draw an__law_draw : Option Addr} {sl__law_draw : Array (Option Value)} {oc__law_draw kV__law_draw dc__law_draw pm__law_draw cd__law_draw ct__law_draw : Value}
    (a__law_draw : PySem.W.nsIn K mainGlobals "_law_draw" = some (some (.ref f__law_draw))) (l__law_draw : K.lookup f__law_draw = some ⟨oc__law_draw, od__law_draw, .func (PySem.W.fnOf "_law_draw" "_law_draw" (defArgs s__law_draw) (defBody s__law_draw) (defScope s__law_draw) .none kV__law_draw dc__law_draw pm__law_draw an__law_draw cd__law_draw ct__law_draw), sl__law_draw⟩) (c__law_draw : PySem.W.codeIn K cd__law_draw "_law_draw" = true) (k__law_draw : PySem.W.keepIn K (.ref f__law_draw) = true)
    {f__law_of : Addr} {od__law_of an__law_of : Option Addr} {sl__law_of : Array (Option Value)} {oc__law_of kV__law_of dc__law_of pm__law_of cd__law_of ct__law_of : Value}
    (a__law_of : PySem.W.nsIn K mainGlobals "_law_of" = some (some (.ref f__law_of))) (l__law_of : K.lookup f__law_of = some ⟨oc__law_of, od__law_of, .func (PySem.W.fnOf "_law_of" "_law_of" (defArgs s__law_of) (defBody s__law_of) (defScope s__law_of) .none kV__law_of dc__law_of pm__law_of an__law_of cd__law_of ct__law_of), sl__law_of⟩) (c__law_of : PySem.W.codeIn K cd__law_of "_law_of" = true) (k__law_of : PySem.W.keepIn K (.ref f__law_of) = true)
    {f__law_odd : Addr} {od__law_odd an__law_odd : Option Addr} {sl__law_odd : Array (Option Value)} {oc__law_odd kV__law_odd dc__law_odd pm__law_odd cd__law_odd ct__law_odd : Value}
    (a__law_odd : PySem.W.nsIn K mainGlobals "_law_odd" = some (some (.ref f__law_odd))) (l__law_odd : K.lookup f__law_odd = some ⟨oc__law_odd, od__law_odd, .func (PySem.W.fnOf "_law_odd" "_law_odd" (defArgs s__law_odd) (defBody s__law_odd) (defScope s__law_odd) .none kV__law_odd dc__law_odd pm__law_odd an__law_odd cd__law_odd ct__law_odd), sl__law_odd⟩) (c__law_odd : PySem.W.codeIn K cd__law_odd "_law_odd" = true) (k__law_odd : PySem.W.keepIn K (.ref f__law_odd) = true)
    {f__law_titles : Addr} {od__law_titles an__law_titles : Option Addr} {sl__law_titles : Array (Option Value)} {oc__law_titles kV__law_titles dc__law_titles pm__law_titles cd__law_titles ct__law_titles : Value}
    (a__law_titles : PySem.W.nsIn K mainGlobals "_law_titles" = some (some (.ref f__law_titles))) (l__law_titles : K.lookup f__law_titles = some ⟨oc__law_titles, od__law_titles, .func (PySem.W.fnOf "_law_titles" "_law_titles" (defArgs s__law_titles) (defBody s__law_titles) (defScope s__law_titles) .none kV__law_titles dc__law_titles pm__law_titles an__law_titles cd__law_titles ct__law_titles), sl__law_titles⟩) (c__law_titles : PySem.W.codeIn K cd__law_titles "_law_titles" = true) (k__law_titles : PySem.W.keepIn K (.ref f__law_titles) = true)
    {f__law_number : Addr} {od__law_number an__law_number : Option Addr} {sl__law_number : Array (Option Value)} {oc__law_number kV__law_number dc__law_number pm__law_number cd__law_number ct__law_number : Value}
    (a__law_number : PySem.W.nsIn K mainGlobals "_law_number" = some (some (.ref f__law_number))) (l__law_number : K.lookup f__law_number = some ⟨oc__law_number, od__law_number, .func (PySem.W.fnOf "_law_number" "_law_number" (defArgs s__law_number) (defBody s__law_number) (defScope s__law_number) .none kV__law_number dc__law_number pm__law_number an__law_number cd__law_number ct__law_number), sl__law_number⟩) (c__law_number : PySem.W.codeIn K cd__law_number "_law_number" = true) (k__law_number : PySem.W.keepIn K (.ref f__law_number) = true)
    {f__law_r : Addr} {od__law_r an__law_r : Option Addr} {sl__law_r : Array (Option Value)} {oc__law_r kV__law_r dc__law_r pm__law_r cd__law_r ct__law_r : Value}
    (a__law_r : PySem.W.nsIn K mainGlobals "_law_r" = some (some (.ref f__law_r))) (l__law_r : K.lookup f__law_r = some ⟨oc__law_r, od__law_r, .func (PySem.W.fnOf "_law_r" "_law_r" (defArgs s__law_r) (defBody s__law_r) (defScope s__law_r) .none kV__law_r dc__law_r pm__law_r an__law_r cd__law_r ct__law_r), sl__law_r⟩) (c__law_r : PySem.W.codeIn K cd__law_r "_law_r" = true) (k__law_r : PySem.W.keepIn K (.ref f__law_r) = true)
    {f__law_code_row : Addr} {od__law_code_row an__law_code_row : Option Addr} {sl__law_code_row : Array (Option Value)} {oc__law_code_row kV__law_code_row dc__law_code_row pm__law_code_row cd__law_code_row ct__law_code_row : Value}
    (a__law_code_row : PySem.W.nsIn K mainGlobals "_law_code_row" = some (some (.ref f__law_code_row))) (l__law_code_row : K.lookup f__law_code_row = some ⟨oc__law_code_row, od__law_code_row, .func (PySem.W.fnOf "_law_code_row" "_law_code_row" (defArgs s__law_code_row) (defBody s__law_code_row) (defScope s__law_code_row) .none kV__law_code_row dc__law_code_row pm__law_code_row an__law_code_row cd__law_code_row ct__law_code_row), sl__law_code_row⟩) (c__law_code_row : PySem.W.codeIn K cd__law_code_row "_law_code_row" = true) (k__law_code_row : PySem.W.keepIn K (.ref f__law_code_row) = true)
    {f__law_last_row : Addr} {od__law_last_row an__law_last_row : Option Addr} {sl__law_last_row : Array (Option Value)} {oc__law_last_row kV__law_last_row dc__law_last_row pm__law_last_row cd__law_last_row ct__law_last_row : Value}
    (a__law_last_row : PySem.W.nsIn K mainGlobals "_law_last_row" = some (some (.ref f__law_last_row))) (l__law_last_row : K.lookup f__law_last_row = some ⟨oc__law_last_row, od__law_last_row, .func (PySem.W.fnOf "_law_last_row" "_law_last_row" (defArgs s__law_last_row) (defBody s__law_last_row) (defScope s__law_last_row) .none kV__law_last_row dc__law_last_row pm__law_last_row an__law_last_row cd__law_last_row ct__law_last_row), sl__law_last_row⟩) (c__law_last_row : PySem.W.codeIn K cd__law_last_row "_law_last_row" = true) (k__law_last_row : PySem.W.keepIn K (.ref f__law_last_row) = true)
    {f__law_data_row : Addr} {od__law_data_row an__law_data_row : Option Addr} {sl__law_data_row : Array (Option Value)} {oc__law_data_row kV__law_data_row dc__law_data_row pm__law_data_row cd__law_data_row ct__law_data_row : Value}
    (a__law_data_row : PySem.W.nsIn K mainGlobals "_law_data_row" = some (some (.ref f__law_data_row))) (l__law_data_row : K.lookup f__law_data_row = some ⟨oc__law_data_row, od__law_data_row, .func (PySem.W.fnOf "_law_data_row" "_law_data_row" (defArgs s__law_data_row) (defBody s__law_data_row) (defScope s__law_data_row) .none kV__law_data_row dc__law_data_row pm__law_data_row an__law_data_row cd__law_data_row ct__law_data_row), sl__law_data_row⟩) (c__law_data_row : PySem.W.codeIn K cd__law_data_row "_law_data_row" = true) (k__law_data_row : PySem.W.keepIn K (.ref f__law_data_row) = true)
    {f__law_row_text : Addr} {od__law_row_text an__law_row_text : Option Addr} {sl__law_row_text : Array (Option Value)} {oc__law_row_text kV__law_row_text dc__law_row_text pm__law_row_text cd__law_row_text ct__law_row_text : Value}
    (a__law_row_text : PySem.W.nsIn K mainGlobals "_law_row_text" = some (some (.ref f__law_row_text))) (l__law_row_text : K.lookup f__law_row_text = some ⟨oc__law_row_text, od__law_row_text, .func (PySem.W.fnOf "_law_row_text" "_law_row_text" (defArgs s__law_row_text) (defBody s__law_row_text) (defScope s__law_row_text) .none kV__law_row_text dc__law_row_text pm__law_row_text an__law_row_text cd__law_row_text ct__law_row_text), sl__law_row_text⟩) (c__law_row_text : PySem.W.codeIn K cd__law_row_text "_law_row_text" = true) (k__law_row_text : PySem.W.keepIn K (.ref f__law_row_text) = true)
    {f__law_is_title : Addr} {od__law_is_title an__law_is_title : Option Addr} {sl__law_is_title : Array (Option Value)} {oc__law_is_title kV__law_is_title dc__law_is_title pm__law_is_title cd__law_is_title ct__law_is_title : Value}
    (a__law_is_title : PySem.W.nsIn K mainGlobals "_law_is_title" = some (some (.ref f__law_is_title))) (l__law_is_title : K.lookup f__law_is_title = some ⟨oc__law_is_title, od__law_is_title, .func (PySem.W.fnOf "_law_is_title" "_law_is_title" (defArgs s__law_is_title) (defBody s__law_is_title) (defScope s__law_is_title) .none kV__law_is_title dc__law_is_title pm__law_is_title an__law_is_title cd__law_is_title ct__law_is_title), sl__law_is_title⟩) (c__law_is_title : PySem.W.codeIn K cd__law_is_title "_law_is_title" = true) (k__law_is_title : PySem.W.keepIn K (.ref f__law_is_title) = true)
    {f__law_within : Addr} {od__law_within an__law_within : Option Addr} {sl__law_within : Array (Option Value)} {oc__law_within kV__law_within dc__law_within pm__law_within cd__law_within ct__law_within : Value}
    (a__law_within : PySem.W.nsIn K mainGlobals "_law_within" = some (some (.ref f__law_within))) (l__law_within : K.lookup f__law_within = some ⟨oc__law_within, od__law_within, .func (PySem.W.fnOf "_law_within" "_law_within" (defArgs s__law_within) (defBody s__law_within) (defScope s__law_within) .none kV__law_within dc__law_within pm__law_within an__law_within cd__law_within ct__law_within), sl__law_within⟩) (c__law_within : PySem.W.codeIn K cd__law_within "_law_within" = true) (k__law_within : PySem.W.keepIn K (.ref f__law_within) = true)
    {f__law_code_so : Addr} {od__law_code_so an__law_code_so : Option Addr} {sl__law_code_so : Array (Option Value)} {oc__law_code_so kV__law_code_so dc__law_code_so pm__law_code_so cd__law_code_so ct__law_code_so : Value}
    (a__law_code_so : PySem.W.nsIn K mainGlobals "_law_code_so" = some (some (.ref f__law_code_so))) (l__law_code_so : K.lookup f__law_code_so = some ⟨oc__law_code_so, od__law_code_so, .func (PySem.W.fnOf "_law_code_so" "_law_code_so" (defArgs s__law_code_so) (defBody s__law_code_so) (defScope s__law_code_so) .none kV__law_code_so dc__law_code_so pm__law_code_so an__law_code_so cd__law_code_so ct__law_code_so), sl__law_code_so⟩) (c__law_code_so : PySem.W.codeIn K cd__law_code_so "_law_code_so" = true) (k__law_code_so : PySem.W.keepIn K (.ref f__law_code_so) = true)
    {f__law_data_so : Addr} {od__law_data_so an__law_data_so : Option Addr} {sl__law_data_so : Array (Option Value)} {oc__law_data_so kV__law_data_so dc__law_data_so pm__law_data_so cd__law_data_so ct__law_data_so : Value}
    (a__law_data_so : PySem.W.nsIn K mainGlobals "_law_data_so" = some (some (.ref f__law_data_so))) (l__law_data_so : K.lookup f__law_data_so = some ⟨oc__law_data_so, od__law_data_so, .func (PySem.W.fnOf "_law_data_so" "_law_data_so" (defArgs s__law_data_so) (defBody s__law_data_so) (defScope s__law_data_so) .none kV__law_data_so dc__law_data_so pm__law_data_so an__law_data_so cd__law_data_so ct__law_data_so), sl__law_data_so⟩) (c__law_data_so : PySem.W.codeIn K cd__law_data_so "_law_data_so" = true) (k__law_data_so : PySem.W.keepIn K (.ref f__law_data_so) = true)
    {f__law_figure : Addr} {od__law_figure an__law_figure : Option Addr} {sl__law_figure : Array (Option Value)} {oc__law_figure kV__law_figure dc__law_figure pm__law_figure cd__law_figure ct__law_figure : Value}
    (a__law_figure : PySem.W.nsIn K mainGlobals "_law_figure" = some (some (.ref f__law_figure))) (l__law_figure : K.lookup f__law_figure = some ⟨oc__law_figure, od__law_figure, .func (PySem.W.fnOf "_law_figure" "_law_figure" (defArgs s__law_figure) (defBody s__law_figure) (defScope s__law_figure) .none kV__law_figure dc__law_figure pm__law_figure an__law_figure cd__law_figure ct__law_figure), sl__law_figure⟩) (c__law_figure : PySem.W.codeIn K cd__law_figure "_law_figure" = true) (k__law_figure : PySem.W.keepIn K (.ref f__law_figure) = true)
    {f__law_row_of : Addr} {od__law_row_of an__law_row_of : Option Addr} {sl__law_row_of : Array (Option Value)} {oc__law_row_of kV__law_row_of dc__law_row_of pm__law_row_of cd__law_row_of ct__law_row_of : Value}
    (a__law_row_of : PySem.W.nsIn K mainGlobals "_law_row_of" = some (some (.ref f__law_row_of))) (l__law_row_of : K.lookup f__law_row_of = some ⟨oc__law_row_of, od__law_row_of, .func (PySem.W.fnOf "_law_row_of" "_law_row_of" (defArgs s__law_row_of) (defBody s__law_row_of) (defScope s__law_row_of) .none kV__law_row_of dc__law_row_of pm__law_row_of an__law_row_of cd__law_row_of ct__law_row_of), sl__law_row_of⟩) (c__law_row_of : PySem.W.codeIn K cd__law_row_of "_law_row_of" = true) (k__law_row_of : PySem.W.keepIn K (.ref f__law_row_of) = true)
    {f__law_mixed : Addr} {od__law_mixed an__law_mixed : Option Addr} {sl__law_mixed : Array (Option Value)} {oc__law_mixed kV__law_mixed dc__law_mixed pm__law_mixed cd__law_mixed ct__law_mixed : Value}
    (a__law_mixed : PySem.W.nsIn K mainGlobals "_law_mixed" = some (some (.ref f__law_mixed))) (l__law_mixed : K.lookup f__law_mixed = some ⟨oc__law_mixed, od__law_mixed, .func (PySem.W.fnOf "_law_mixed" "_law_mixed" (defArgs s__law_mixed) (defBody s__law_mixed) (defScope s__law_mixed) .none kV__law_mixed dc__law_mixed pm__law_mixed an__law_mixed cd__law_mixed ct__law_mixed), sl__law_mixed⟩) (c__law_mixed : PySem.W.codeIn K cd__law_mixed "_law_mixed" = true) (k__law_mixed : PySem.W.keepIn K (.ref f__law_mixed) = true)
    {f__law_bent_text : Addr} {od__law_bent_text an__law_bent_text : Option Addr} {sl__law_bent_text : Array (Option Value)} {oc__law_bent_text kV__law_bent_text dc__law_bent_text pm__law_bent_text cd__law_bent_text ct__law_bent_text : Value}
    (a__law_bent_text : PySem.W.nsIn K mainGlobals "_law_bent_text" = some (some (.ref f__law_bent_text))) (l__law_bent_text : K.lookup f__law_bent_text = some ⟨oc__law_bent_text, od__law_bent_text, .func (PySem.W.fnOf "_law_bent_text" "_law_bent_text" (defArgs s__law_bent_text) (defBody s__law_bent_text) (defScope s__law_bent_text) .none kV__law_bent_text dc__law_bent_text pm__law_bent_text an__law_bent_text cd__law_bent_text ct__law_bent_text), sl__law_bent_text⟩) (c__law_bent_text : PySem.W.codeIn K cd__law_bent_text "_law_bent_text" = true) (k__law_bent_text : PySem.W.keepIn K (.ref f__law_bent_text) = true)
    {f_law : Addr} {od_law an_law : Option Addr} {sl_law : Array (Option Value)} {oc_law kV_law dc_law pm_law cd_law ct_law : Value}
    (a_law : PySem.W.nsIn K mainGlobals "law" = some (some (.ref f_law))) (l_law : K.lookup f_law = some ⟨oc_law, od_law, .func (PySem.W.fnOf "law" "law" (defArgs s_law) (defBody s_law) (defScope s_law) .none kV_law dc_law pm_law an_law cd_law ct_law), sl_law⟩) (c_law : PySem.W.codeIn K cd_law "law" = true) (k_law : PySem.W.keepIn K (.ref f_law) = true)
    {u_MOST_LETTERS : Value} (q_MOST_LETTERS : PySem.W.nsIn K mainGlobals "MOST_LETTERS" = some (some u_MOST_LETTERS)) (r_MOST_LETTERS : RelV (.int 6) u_MOST_LETTERS)
    {u_LETTERS : Value} (q_LETTERS : PySem.W.nsIn K mainGlobals "LETTERS" = some (some u_LETTERS)) (r_LETTERS : RelV (.str "abcdefghijklmnopqrstuvwxyz") u_LETTERS)
    {p_REGISTERS : Addr} {dd_REGISTERS : Option Addr} {us_REGISTERS : List Value} {n_REGISTERS : Nat} {sl_REGISTERS : Array (Option Value)} (q_REGISTERS : PySem.W.nsIn K mainGlobals "REGISTERS" = some (some (.ref p_REGISTERS))) (l_REGISTERS : K.lookup p_REGISTERS = some ⟨.type "tuple", dd_REGISTERS, .seq us_REGISTERS.toArray n_REGISTERS, sl_REGISTERS⟩) (v_REGISTERS : Vals [(.str "r0"), (.str "r1"), (.str "r2")] us_REGISTERS)
    {u_MOST_WORD : Value} (q_MOST_WORD : PySem.W.nsIn K mainGlobals "MOST_WORD" = some (some u_MOST_WORD)) (r_MOST_WORD : RelV (.int 65535) u_MOST_WORD)
    {u_MOST_ROOM : Value} (q_MOST_ROOM : PySem.W.nsIn K mainGlobals "MOST_ROOM" = some (some u_MOST_ROOM)) (r_MOST_ROOM : RelV (.int 120) u_MOST_ROOM)
    {u_MOST_DISTANCE : Value} (q_MOST_DISTANCE : PySem.W.nsIn K mainGlobals "MOST_DISTANCE" = some (some u_MOST_DISTANCE)) (r_MOST_DISTANCE : RelV (.int 15) u_MOST_DISTANCE)
    {p_CODE_FORMS : Addr} {es_CODE_FORMS : Array DictEntry} {n_CODE_FORMS : Nat} (q_CODE_FORMS : PySem.W.nsIn K mainGlobals "CODE_FORMS" = some (some (.ref p_CODE_FORMS))) (l_CODE_FORMS : K.lookup p_CODE_FORMS = some ⟨.type "dict", none, .dict es_CODE_FORMS n_CODE_FORMS, #[]⟩) (kl_CODE_FORMS : PySem.W.KeysLit w.params es_CODE_FORMS.toList) (sy_CODE_FORMS : (p_CODE_FORMS == sysModules) = false) (pd_CODE_FORMS : Paired (fun (p : Str × V) (e : DictEntry) => (∃ t, e.key = .str p.1 t) ∧ RelV p.2 e.val) [("put", (.str "rw")), ("name", (.str "rn")), ("add", (.str "rr")), ("take", (.str "rr")), ("load", (.str "rrd")), ("store", (.str "rrd")), ("jump", (.str "n")), ("ifzero", (.str "rn")), ("call", (.str "n")), ("callby", (.str "r")), ("back", (.str "")), ("out", (.str "r")), ("halt", (.str "")), ("room", (.str "k"))] es_CODE_FORMS.toList)
    {p_DATA_FORMS : Addr} {es_DATA_FORMS : Array DictEntry} {n_DATA_FORMS : Nat} (q_DATA_FORMS : PySem.W.nsIn K mainGlobals "DATA_FORMS" = some (some (.ref p_DATA_FORMS))) (l_DATA_FORMS : K.lookup p_DATA_FORMS = some ⟨.type "dict", none, .dict es_DATA_FORMS n_DATA_FORMS, #[]⟩) (kl_DATA_FORMS : PySem.W.KeysLit w.params es_DATA_FORMS.toList) (sy_DATA_FORMS : (p_DATA_FORMS == sysModules) = false) (pd_DATA_FORMS : Paired (fun (p : Str × V) (e : DictEntry) => (∃ t, e.key = .str p.1 t) ∧ RelV p.2 e.val) [("word", (.str "w")), ("address", (.str "n")), ("room", (.str "k"))] es_DATA_FORMS.toList)
    {u_MOST_FIGURES : Value} (q_MOST_FIGURES : PySem.W.nsIn K mainGlobals "MOST_FIGURES" = some (some u_MOST_FIGURES)) (r_MOST_FIGURES : RelV (.int 5) u_MOST_FIGURES)
    {u_FIGURES : Value} (q_FIGURES : PySem.W.nsIn K mainGlobals "FIGURES" = some (some u_FIGURES)) (r_FIGURES : RelV (.str "0123456789") u_FIGURES)
    (z_isinstance : PySem.W.nsIn K mainGlobals "isinstance" = some none)
    (z_tuple : PySem.W.nsIn K mainGlobals "tuple" = some none)
    (z_str : PySem.W.nsIn K mainGlobals "str" = some none)
    (z_len : PySem.W.nsIn K mainGlobals "len" = some none)
    (z_int : PySem.W.nsIn K mainGlobals "int" = some none)
    (z_bool : PySem.W.nsIn K mainGlobals "bool" = some none)
    (z_all : PySem.W.nsIn K mainGlobals "all" = some none)
    (z_zip : PySem.W.nsIn K mainGlobals "zip" = some none)
    (z_list : PySem.W.nsIn K mainGlobals "list" = some none)
    (z_abs : PySem.W.nsIn K mainGlobals "abs" = some none)
    (z_range : PySem.W.nsIn K mainGlobals "range" = some none)
    : ∃ fd : FuncData, (∀ (s : Shared) (v : Value), BindsTo s fd ⟨[v], []⟩ [("_law_script", v)]) ∧ ∀ base : Heap, K.In base → base.Ns mainGlobals mg → FnOk l.prog w K mg base CX0 13 fa fd ["_law_script"] (spLaw K) := by
  have e := hfa.symm.trans (PySem.W.mg_of X G a_law)
  cases e
  have F_has_word := fun_mk (st := s_has_word) l_has_word c_has_word k_has_word
  have F_is_number := fun_mk (st := s_is_number) l_is_number c_is_number k_is_number
  have F_is_name := fun_mk (st := s_is_name) l_is_name c_is_name k_is_name
  have F_is_register := fun_mk (st := s_is_register) l_is_register c_is_register k_is_register
  have F_is_word := fun_mk (st := s_is_word) l_is_word c_is_word k_is_word
  have F_fits := fun_mk (st := s_fits) l_fits c_fits k_fits
  have F_has_form := fun_mk (st := s_has_form) l_has_form c_has_form k_has_form
  have F_is_code_row := fun_mk (st := s_is_code_row) l_is_code_row c_is_code_row k_is_code_row
  have F_is_data_row := fun_mk (st := s_is_data_row) l_is_data_row c_is_data_row k_is_data_row
  have F_row_text := fun_mk (st := s_row_text) l_row_text c_row_text k_row_text
  have F_item_of := fun_mk (st := s_item_of) l_item_of c_item_of k_item_of
  have F_read_row := fun_mk (st := s_read_row) l_read_row c_read_row k_read_row
  have F__law_bag := fun_mk (st := s__law_bag) l__law_bag c__law_bag k__law_bag
  have F__law_same := fun_mk (st := s__law_same) l__law_same c__law_same k__law_same
  have F__law_draw := fun_mk (st := s__law_draw) l__law_draw c__law_draw k__law_draw
  have F__law_of := fun_mk (st := s__law_of) l__law_of c__law_of k__law_of
  have F__law_odd := fun_mk (st := s__law_odd) l__law_odd c__law_odd k__law_odd
  have F__law_titles := fun_mk (st := s__law_titles) l__law_titles c__law_titles k__law_titles
  have F__law_number := fun_mk (st := s__law_number) l__law_number c__law_number k__law_number
  have F__law_r := fun_mk (st := s__law_r) l__law_r c__law_r k__law_r
  have F__law_code_row := fun_mk (st := s__law_code_row) l__law_code_row c__law_code_row k__law_code_row
  have F__law_last_row := fun_mk (st := s__law_last_row) l__law_last_row c__law_last_row k__law_last_row
  have F__law_data_row := fun_mk (st := s__law_data_row) l__law_data_row c__law_data_row k__law_data_row
  have F__law_row_text := fun_mk (st := s__law_row_text) l__law_row_text c__law_row_text k__law_row_text
  have F__law_is_title := fun_mk (st := s__law_is_title) l__law_is_title c__law_is_title k__law_is_title
  have F__law_within := fun_mk (st := s__law_within) l__law_within c__law_within k__law_within
  have F__law_code_so := fun_mk (st := s__law_code_so) l__law_code_so c__law_code_so k__law_code_so
  have F__law_data_so := fun_mk (st := s__law_data_so) l__law_data_so c__law_data_so k__law_data_so
  have F__law_figure := fun_mk (st := s__law_figure) l__law_figure c__law_figure k__law_figure
  have F__law_row_of := fun_mk (st := s__law_row_of) l__law_row_of c__law_row_of k__law_row_of
  have F__law_mixed := fun_mk (st := s__law_mixed) l__law_mixed c__law_mixed k__law_mixed
  have F__law_bent_text := fun_mk (st := s__law_bent_text) l__law_bent_text c__law_bent_text k__law_bent_text
  have F_law := fun_mk (st := s_law) l_law c_law k_law
  let T : Tx K mg w := {
    a_has_word := f_has_word, d_has_word := _, F_has_word := F_has_word, m_has_word := PySem.W.mg_of X G a_has_word, k_has_word := k_has_word
    b_has_word := F_has_word.binds (ps := ["value"]) fun _ _ _ _ _ _ us hl => match us, hl with | [_], _ => rfl
    a_is_number := f_is_number, d_is_number := _, F_is_number := F_is_number, m_is_number := PySem.W.mg_of X G a_is_number, k_is_number := k_is_number
    b_is_number := F_is_number.binds (ps := ["value", "least", "most"]) fun _ _ _ _ _ _ us hl => match us, hl with | [_, _, _], _ => rfl
    a_is_name := f_is_name, d_is_name := _, F_is_name := F_is_name, m_is_name := PySem.W.mg_of X G a_is_name, k_is_name := k_is_name
    b_is_name := F_is_name.binds (ps := ["value"]) fun _ _ _ _ _ _ us hl => match us, hl with | [_], _ => rfl
    a_is_register := f_is_register, d_is_register := _, F_is_register := F_is_register, m_is_register := PySem.W.mg_of X G a_is_register, k_is_register := k_is_register
    b_is_register := F_is_register.binds (ps := ["value"]) fun _ _ _ _ _ _ us hl => match us, hl with | [_], _ => rfl
    a_is_word := f_is_word, d_is_word := _, F_is_word := F_is_word, m_is_word := PySem.W.mg_of X G a_is_word, k_is_word := k_is_word
    b_is_word := F_is_word.binds (ps := ["value"]) fun _ _ _ _ _ _ us hl => match us, hl with | [_], _ => rfl
    a_fits := f_fits, d_fits := _, F_fits := F_fits, m_fits := PySem.W.mg_of X G a_fits, k_fits := k_fits
    b_fits := F_fits.binds (ps := ["kind", "value"]) fun _ _ _ _ _ _ us hl => match us, hl with | [_, _], _ => rfl
    a_has_form := f_has_form, d_has_form := _, F_has_form := F_has_form, m_has_form := PySem.W.mg_of X G a_has_form, k_has_form := k_has_form
    b_has_form := F_has_form.binds (ps := ["value", "form"]) fun _ _ _ _ _ _ us hl => match us, hl with | [_, _], _ => rfl
    a_is_code_row := f_is_code_row, d_is_code_row := _, F_is_code_row := F_is_code_row, m_is_code_row := PySem.W.mg_of X G a_is_code_row, k_is_code_row := k_is_code_row
    b_is_code_row := F_is_code_row.binds (ps := ["value"]) fun _ _ _ _ _ _ us hl => match us, hl with | [_], _ => rfl
    a_is_data_row := f_is_data_row, d_is_data_row := _, F_is_data_row := F_is_data_row, m_is_data_row := PySem.W.mg_of X G a_is_data_row, k_is_data_row := k_is_data_row
    b_is_data_row := F_is_data_row.binds (ps := ["value"]) fun _ _ _ _ _ _ us hl => match us, hl with | [_], _ => rfl
    a_row_text := f_row_text, d_row_text := _, F_row_text := F_row_text, m_row_text := PySem.W.mg_of X G a_row_text, k_row_text := k_row_text
    b_row_text := F_row_text.binds (ps := ["row"]) fun _ _ _ _ _ _ us hl => match us, hl with | [_], _ => rfl
    a_item_of := f_item_of, d_item_of := _, F_item_of := F_item_of, m_item_of := PySem.W.mg_of X G a_item_of, k_item_of := k_item_of
    b_item_of := F_item_of.binds (ps := ["word"]) fun _ _ _ _ _ _ us hl => match us, hl with | [_], _ => rfl
    a_read_row := f_read_row, d_read_row := _, F_read_row := F_read_row, m_read_row := PySem.W.mg_of X G a_read_row, k_read_row := k_read_row
    b_read_row := F_read_row.binds (ps := ["text"]) fun _ _ _ _ _ _ us hl => match us, hl with | [_], _ => rfl
    a__law_bag := f__law_bag, d__law_bag := _, F__law_bag := F__law_bag, m__law_bag := PySem.W.mg_of X G a__law_bag, k__law_bag := k__law_bag
    b__law_bag := F__law_bag.binds (ps := ["_law_script"]) fun _ _ _ _ _ _ us hl => match us, hl with | [_], _ => rfl
    a__law_same := f__law_same, d__law_same := _, F__law_same := F__law_same, m__law_same := PySem.W.mg_of X G a__law_same, k__law_same := k__law_same
    b__law_same := F__law_same.binds (ps := ["_law_found", "_law_due"]) fun _ _ _ _ _ _ us hl => match us, hl with | [_, _], _ => rfl
    a__law_draw := f__law_draw, d__law_draw := _, F__law_draw := F__law_draw, m__law_draw := PySem.W.mg_of X G a__law_draw, k__law_draw := k__law_draw
    b__law_draw := F__law_draw.binds (ps := ["_law_bag_here", "_law_sides"]) fun _ _ _ _ _ _ us hl => match us, hl with | [_, _], _ => rfl
    a__law_of := f__law_of, d__law_of := _, F__law_of := F__law_of, m__law_of := PySem.W.mg_of X G a__law_of, k__law_of := k__law_of
    b__law_of := F__law_of.binds (ps := ["_law_bag_here", "_law_things"]) fun _ _ _ _ _ _ us hl => match us, hl with | [_, _], _ => rfl
    a__law_odd := f__law_odd, d__law_odd := _, F__law_odd := F__law_odd, m__law_odd := PySem.W.mg_of X G a__law_odd, k__law_odd := k__law_odd
    b__law_odd := F__law_odd.binds (ps := ["_law_bag_here", "_law_more"]) fun _ _ _ _ _ _ us hl => match us, hl with | [_, _], _ => rfl
    a__law_titles := f__law_titles, d__law_titles := _, F__law_titles := F__law_titles, m__law_titles := PySem.W.mg_of X G a__law_titles, k__law_titles := k__law_titles
    b__law_titles := F__law_titles.binds (ps := ["_law_bag_here", "_law_many"]) fun _ _ _ _ _ _ us hl => match us, hl with | [_, _], _ => rfl
    a__law_number := f__law_number, d__law_number := _, F__law_number := F__law_number, m__law_number := PySem.W.mg_of X G a__law_number, k__law_number := k__law_number
    b__law_number := F__law_number.binds (ps := ["_law_bag_here"]) fun _ _ _ _ _ _ us hl => match us, hl with | [_], _ => rfl
    a__law_r := f__law_r, d__law_r := _, F__law_r := F__law_r, m__law_r := PySem.W.mg_of X G a__law_r, k__law_r := k__law_r
    b__law_r := F__law_r.binds (ps := ["_law_bag_here"]) fun _ _ _ _ _ _ us hl => match us, hl with | [_], _ => rfl
    a__law_code_row := f__law_code_row, d__law_code_row := _, F__law_code_row := F__law_code_row, m__law_code_row := PySem.W.mg_of X G a__law_code_row, k__law_code_row := k__law_code_row
    b__law_code_row := F__law_code_row.binds (ps := ["_law_bag_here", "_law_titles_here"]) fun _ _ _ _ _ _ us hl => match us, hl with | [_, _], _ => rfl
    a__law_last_row := f__law_last_row, d__law_last_row := _, F__law_last_row := F__law_last_row, m__law_last_row := PySem.W.mg_of X G a__law_last_row, k__law_last_row := k__law_last_row
    b__law_last_row := F__law_last_row.binds (ps := ["_law_bag_here", "_law_titles_here"]) fun _ _ _ _ _ _ us hl => match us, hl with | [_, _], _ => rfl
    a__law_data_row := f__law_data_row, d__law_data_row := _, F__law_data_row := F__law_data_row, m__law_data_row := PySem.W.mg_of X G a__law_data_row, k__law_data_row := k__law_data_row
    b__law_data_row := F__law_data_row.binds (ps := ["_law_bag_here", "_law_titles_here"]) fun _ _ _ _ _ _ us hl => match us, hl with | [_, _], _ => rfl
    a__law_row_text := f__law_row_text, d__law_row_text := _, F__law_row_text := F__law_row_text, m__law_row_text := PySem.W.mg_of X G a__law_row_text, k__law_row_text := k__law_row_text
    b__law_row_text := F__law_row_text.binds (ps := ["_law_one"]) fun _ _ _ _ _ _ us hl => match us, hl with | [_], _ => rfl
    a__law_is_title := f__law_is_title, d__law_is_title := _, F__law_is_title := F__law_is_title, m__law_is_title := PySem.W.mg_of X G a__law_is_title, k__law_is_title := k__law_is_title
    b__law_is_title := F__law_is_title.binds (ps := ["_law_thing"]) fun _ _ _ _ _ _ us hl => match us, hl with | [_], _ => rfl
    a__law_within := f__law_within, d__law_within := _, F__law_within := F__law_within, m__law_within := PySem.W.mg_of X G a__law_within, k__law_within := k__law_within
    b__law_within := F__law_within.binds (ps := ["_law_thing", "_law_low_y", "_law_high_y"]) fun _ _ _ _ _ _ us hl => match us, hl with | [_, _, _], _ => rfl
    a__law_code_so := f__law_code_so, d__law_code_so := _, F__law_code_so := F__law_code_so, m__law_code_so := PySem.W.mg_of X G a__law_code_so, k__law_code_so := k__law_code_so
    b__law_code_so := F__law_code_so.binds (ps := ["_law_thing"]) fun _ _ _ _ _ _ us hl => match us, hl with | [_], _ => rfl
    a__law_data_so := f__law_data_so, d__law_data_so := _, F__law_data_so := F__law_data_so, m__law_data_so := PySem.W.mg_of X G a__law_data_so, k__law_data_so := k__law_data_so
    b__law_data_so := F__law_data_so.binds (ps := ["_law_thing"]) fun _ _ _ _ _ _ us hl => match us, hl with | [_], _ => rfl
    a__law_figure := f__law_figure, d__law_figure := _, F__law_figure := F__law_figure, m__law_figure := PySem.W.mg_of X G a__law_figure, k__law_figure := k__law_figure
    b__law_figure := F__law_figure.binds (ps := ["_law_word_y"]) fun _ _ _ _ _ _ us hl => match us, hl with | [_], _ => rfl
    a__law_row_of := f__law_row_of, d__law_row_of := _, F__law_row_of := F__law_row_of, m__law_row_of := PySem.W.mg_of X G a__law_row_of, k__law_row_of := k__law_row_of
    b__law_row_of := F__law_row_of.binds (ps := ["_law_words", "_law_side"]) fun _ _ _ _ _ _ us hl => match us, hl with | [_, _], _ => rfl
    a__law_mixed := f__law_mixed, d__law_mixed := _, F__law_mixed := F__law_mixed, m__law_mixed := PySem.W.mg_of X G a__law_mixed, k__law_mixed := k__law_mixed
    b__law_mixed := F__law_mixed.binds (ps := ["_law_bag_here", "_law_things"]) fun _ _ _ _ _ _ us hl => match us, hl with | [_, _], _ => rfl
    a__law_bent_text := f__law_bent_text, d__law_bent_text := _, F__law_bent_text := F__law_bent_text, m__law_bent_text := PySem.W.mg_of X G a__law_bent_text, k__law_bent_text := k__law_bent_text
    b__law_bent_text := F__law_bent_text.binds (ps := ["_law_bag_here", "_law_told"]) fun _ _ _ _ _ _ us hl => match us, hl with | [_, _], _ => rfl
    a_law := fa, d_law := _, F_law := F_law, m_law := PySem.W.mg_of X G a_law, k_law := k_law
    b_law := F_law.binds (ps := ["_law_script"]) fun _ _ _ _ _ _ us hl => match us, hl with | [_], _ => rfl
    kb_row_text_0_row := ⟨fun s us ws _ l1 l2 => .of_eq (match us, ws, l1, l2 with | [], [_], _, _ => rfl), fun {vs us zs ws} r1 r2 => gkv_row_text_0_row vs us zs ws r1 r2⟩
    kb_read_row_0_text := ⟨fun s us ws _ l1 l2 => .of_eq (match us, ws, l1, l2 with | [], [_], _, _ => rfl), fun {vs us zs ws} r1 r2 => gkv_read_row_0_text vs us zs ws r1 r2⟩
    u_MOST_LETTERS := u_MOST_LETTERS, m_MOST_LETTERS := PySem.W.mg_of X G q_MOST_LETTERS, r_MOST_LETTERS := r_MOST_LETTERS
    u_LETTERS := u_LETTERS, m_LETTERS := PySem.W.mg_of X G q_LETTERS, r_LETTERS := r_LETTERS
    a_REGISTERS := p_REGISTERS, m_REGISTERS := PySem.W.mg_of X G q_REGISTERS, kd_REGISTERS := fun F => .tup (.inr ⟨_, us_REGISTERS.toArray, n_REGISTERS, l_REGISTERS, rfl, rfl, by have := v_REGISTERS.length; simp at this; simp [← this]; decide, v_REGISTERS⟩) (.cons (.str _) (.cons (.str _) (.cons (.str _) .nil)))
    u_MOST_WORD := u_MOST_WORD, m_MOST_WORD := PySem.W.mg_of X G q_MOST_WORD, r_MOST_WORD := r_MOST_WORD
    u_MOST_ROOM := u_MOST_ROOM, m_MOST_ROOM := PySem.W.mg_of X G q_MOST_ROOM, r_MOST_ROOM := r_MOST_ROOM
    u_MOST_DISTANCE := u_MOST_DISTANCE, m_MOST_DISTANCE := PySem.W.mg_of X G q_MOST_DISTANCE, r_MOST_DISTANCE := r_MOST_DISTANCE
    a_CODE_FORMS := p_CODE_FORMS, m_CODE_FORMS := PySem.W.mg_of X G q_CODE_FORMS, kd_CODE_FORMS := ⟨es_CODE_FORMS, n_CODE_FORMS, l_CODE_FORMS, kl_CODE_FORMS, sy_CODE_FORMS, pd_CODE_FORMS⟩
    a_DATA_FORMS := p_DATA_FORMS, m_DATA_FORMS := PySem.W.mg_of X G q_DATA_FORMS, kd_DATA_FORMS := ⟨es_DATA_FORMS, n_DATA_FORMS, l_DATA_FORMS, kl_DATA_FORMS, sy_DATA_FORMS, pd_DATA_FORMS⟩
    u_MOST_FIGURES := u_MOST_FIGURES, m_MOST_FIGURES := PySem.W.mg_of X G q_MOST_FIGURES, r_MOST_FIGURES := r_MOST_FIGURES
    u_FIGURES := u_FIGURES, m_FIGURES := PySem.W.mg_of X G q_FIGURES, r_FIGURES := r_FIGURES
    n_isinstance := PySem.W.mg_none_of X G z_isinstance
    n_tuple := PySem.W.mg_none_of X G z_tuple
    n_str := PySem.W.mg_none_of X G z_str
    n_len := PySem.W.mg_none_of X G z_len
    n_int := PySem.W.mg_none_of X G z_int
    n_bool := PySem.W.mg_none_of X G z_bool
    n_all := PySem.W.mg_none_of X G z_all
    n_zip := PySem.W.mg_none_of X G z_zip
    n_list := PySem.W.mg_none_of X G z_list
    n_abs := PySem.W.mg_none_of X G z_abs
    n_range := PySem.W.mg_none_of X G z_range
  }
  exact ⟨PySem.W.fnOf "law" "law" (defArgs s_law) (defBody s_law) (defScope s_law) .none kV_law dc_law pm_law an_law cd_law ct_law, fun s v => .of_eq rfl, fun base _ _ => ok_law (P := l.prog) (w := w) (base := base) T⟩
theorem walk {l : PySem.W.OpenLaw} {q : Program} {loose : List Str} {XP : (Str → Option Value) → Heap → Prop} {YP : World → Heap → Prop} {d : DefRec} {K : Params → PySem.W.Frag} (hn : l.most = some 63) (hdf : d.params.defaults = [])
    (hY : ∀ (w : World) (h : Heap), YP w h → (K w.params).In h)
    (F : ∀ (w : World) (mg : Str → Option Value) (fa : Addr) (h : Heap), (K w.params).In h → h.Ns mainGlobals mg → mg d.name = some (.ref fa) →
      ∃ fd : FuncData, (∀ (s : Shared) (u : Value), BindsTo s fd ⟨[u], []⟩ [("_law_script", u)]) ∧ ∀ base : Heap, (K w.params).In base → base.Ns mainGlobals mg → FnOk l.prog w (K w.params) mg base CX0 13 fa fd ["_law_script"] (spLaw (K w.params))) :
    PySem.W.WalkO q loose XP YP l.row.toRowW d [] (fun f vs => PySem.call f vs) :=
  L2.walk_of (n := 63) (k := 13) (x := "_law_script") (CX := fun _ => CX0) (sp := fun w => spLaw (K w.params)) hn (by decide) hdf ⟨rfl, by decide, by decide⟩ hY F (fun _ _ a ns hl _ hS => ⟨a, ns, rfl, hS, hl, fun _ => rfl⟩) fun _ _ _ _ _ z => z
end Law
open PySem PySem.W PyProof.Rows
set_option maxRecDepth 100000 in
set_option maxHeartbeats 0 in
theorem PySem.Challenge.cw_leastimage_k03_whole_texts_of_rows_holds : PySem.Challenge.rw_leastimage_k03_whole_texts_of_rows.Holds := by
  w_on; o_law; k_head; (case hw => w_witness2)
  k_fill
  refine Law.walk (l := PySem.Challenge.rw_leastimage_k03_whole_texts_of_rows) rfl rfl (fun w h Y => PySem.W.kIn_of Y) ?F
  case F =>
    intro w mg fa h KX G hmg
    refine' Law.all_mk KX G hmg ?a_has_word ?l_has_word ?c_has_word ?k_has_word ?a_is_number ?l_is_number ?c_is_number ?k_is_number ?a_is_name ?l_is_name ?c_is_name ?k_is_name ?a_is_register ?l_is_register ?c_is_register ?k_is_register ?a_is_word ?l_is_word ?c_is_word ?k_is_word ?a_fits ?l_fits ?c_fits ?k_fits ?a_has_form ?l_has_form ?c_has_form ?k_has_form ?a_is_code_row ?l_is_code_row ?c_is_code_row ?k_is_code_row ?a_is_data_row ?l_is_data_row ?c_is_data_row ?k_is_data_row ?a_row_text ?l_row_text ?c_row_text ?k_row_text ?a_item_of ?l_item_of ?c_item_of ?k_item_of ?a_read_row ?l_read_row ?c_read_row ?k_read_row ?a__law_bag ?l__law_bag ?c__law_bag ?k__law_bag ?a__law_same ?l__law_same ?c__law_same ?k__law_same ?a__law_draw ?l__law_draw ?c__law_draw ?k__law_draw ?a__law_of ?l__law_of ?c__law_of ?k__law_of ?a__law_odd ?l__law_odd ?c__law_odd ?k__law_odd ?a__law_titles ?l__law_titles ?c__law_titles ?k__law_titles ?a__law_number ?l__law_number ?c__law_number ?k__law_number ?a__law_r ?l__law_r ?c__law_r ?k__law_r ?a__law_code_row ?l__law_code_row ?c__law_code_row ?k__law_code_row ?a__law_last_row ?l__law_last_row ?c__law_last_row ?k__law_last_row ?a__law_data_row ?l__law_data_row ?c__law_data_row ?k__law_data_row ?a__law_row_text ?l__law_row_text ?c__law_row_text ?k__law_row_text ?a__law_is_title ?l__law_is_title ?c__law_is_title ?k__law_is_title ?a__law_within ?l__law_within ?c__law_within ?k__law_within ?a__law_code_so ?l__law_code_so ?c__law_code_so ?k__law_code_so ?a__law_data_so ?l__law_data_so ?c__law_data_so ?k__law_data_so ?a__law_figure ?l__law_figure ?c__law_figure ?k__law_figure ?a__law_row_of ?l__law_row_of ?c__law_row_of ?k__law_row_of ?a__law_mixed ?l__law_mixed ?c__law_mixed ?k__law_mixed ?a__law_bent_text ?l__law_bent_text ?c__law_bent_text ?k__law_bent_text ?a_law ?l_law ?c_law ?k_law ?q_MOST_LETTERS ?r_MOST_LETTERS ?q_LETTERS ?r_LETTERS ?q_REGISTERS ?l_REGISTERS ?v_REGISTERS ?q_MOST_WORD ?r_MOST_WORD ?q_MOST_ROOM ?r_MOST_ROOM ?q_MOST_DISTANCE ?r_MOST_DISTANCE ?q_CODE_FORMS ?l_CODE_FORMS ?kl_CODE_FORMS ?sy_CODE_FORMS ?pd_CODE_FORMS ?q_DATA_FORMS ?l_DATA_FORMS ?kl_DATA_FORMS ?sy_DATA_FORMS ?pd_DATA_FORMS ?q_MOST_FIGURES ?r_MOST_FIGURES ?q_FIGURES ?r_FIGURES ?z_isinstance ?z_tuple ?z_str ?z_len ?z_int ?z_bool ?z_all ?z_zip ?z_list ?z_abs ?z_range
    (case a_has_word => k_is)
    (case l_has_word => k_is)
    (case c_has_word => k_is)
    (case k_has_word => k_is)
    (case a_is_number => k_is)
    (case l_is_number => k_is)
    (case c_is_number => k_is)
    (case k_is_number => k_is)
    (case a_is_name => k_is)
    (case l_is_name => k_is)
    (case c_is_name => k_is)
    (case k_is_name => k_is)
    (case a_is_register => k_is)
    (case l_is_register => k_is)
    (case c_is_register => k_is)
    (case k_is_register => k_is)
    (case a_is_word => k_is)
    (case l_is_word => k_is)
    (case c_is_word => k_is)
    (case k_is_word => k_is)
    (case a_fits => k_is)
    (case l_fits => k_is)
    (case c_fits => k_is)
    (case k_fits => k_is)
    (case a_has_form => k_is)
    (case l_has_form => k_is)
    (case c_has_form => k_is)
    (case k_has_form => k_is)
    (case a_is_code_row => k_is)
    (case l_is_code_row => k_is)
    (case c_is_code_row => k_is)
    (case k_is_code_row => k_is)
    (case a_is_data_row => k_is)
    (case l_is_data_row => k_is)
    (case c_is_data_row => k_is)
    (case k_is_data_row => k_is)
    (case a_row_text => k_is)
    (case l_row_text => k_is)
    (case c_row_text => k_is)
    (case k_row_text => k_is)
    (case a_item_of => k_is)
    (case l_item_of => k_is)
    (case c_item_of => k_is)
    (case k_item_of => k_is)
    (case a_read_row => k_is)
    (case l_read_row => k_is)
    (case c_read_row => k_is)
    (case k_read_row => k_is)
    (case a__law_bag => k_is)
    (case l__law_bag => k_is)
    (case c__law_bag => k_is)
    (case k__law_bag => k_is)
    (case a__law_same => k_is)
    (case l__law_same => k_is)
    (case c__law_same => k_is)
    (case k__law_same => k_is)
    (case a__law_draw => k_is)
    (case l__law_draw => k_is)
    (case c__law_draw => k_is)
    (case k__law_draw => k_is)
    (case a__law_of => k_is)
    (case l__law_of => k_is)
    (case c__law_of => k_is)
    (case k__law_of => k_is)
    (case a__law_odd => k_is)
    (case l__law_odd => k_is)
    (case c__law_odd => k_is)
    (case k__law_odd => k_is)
    (case a__law_titles => k_is)
    (case l__law_titles => k_is)
    (case c__law_titles => k_is)
    (case k__law_titles => k_is)
    (case a__law_number => k_is)
    (case l__law_number => k_is)
    (case c__law_number => k_is)
    (case k__law_number => k_is)
    (case a__law_r => k_is)
    (case l__law_r => k_is)
    (case c__law_r => k_is)
    (case k__law_r => k_is)
    (case a__law_code_row => k_is)
    (case l__law_code_row => k_is)
    (case c__law_code_row => k_is)
    (case k__law_code_row => k_is)
    (case a__law_last_row => k_is)
    (case l__law_last_row => k_is)
    (case c__law_last_row => k_is)
    (case k__law_last_row => k_is)
    (case a__law_data_row => k_is)
    (case l__law_data_row => k_is)
    (case c__law_data_row => k_is)
    (case k__law_data_row => k_is)
    (case a__law_row_text => k_is)
    (case l__law_row_text => k_is)
    (case c__law_row_text => k_is)
    (case k__law_row_text => k_is)
    (case a__law_is_title => k_is)
    (case l__law_is_title => k_is)
    (case c__law_is_title => k_is)
    (case k__law_is_title => k_is)
    (case a__law_within => k_is)
    (case l__law_within => k_is)
    (case c__law_within => k_is)
    (case k__law_within => k_is)
    (case a__law_code_so => k_is)
    (case l__law_code_so => k_is)
    (case c__law_code_so => k_is)
    (case k__law_code_so => k_is)
    (case a__law_data_so => k_is)
    (case l__law_data_so => k_is)
    (case c__law_data_so => k_is)
    (case k__law_data_so => k_is)
    (case a__law_figure => k_is)
    (case l__law_figure => k_is)
    (case c__law_figure => k_is)
    (case k__law_figure => k_is)
    (case a__law_row_of => k_is)
    (case l__law_row_of => k_is)
    (case c__law_row_of => k_is)
    (case k__law_row_of => k_is)
    (case a__law_mixed => k_is)
    (case l__law_mixed => k_is)
    (case c__law_mixed => k_is)
    (case k__law_mixed => k_is)
    (case a__law_bent_text => k_is)
    (case l__law_bent_text => k_is)
    (case c__law_bent_text => k_is)
    (case k__law_bent_text => k_is)
    (case a_law => k_is)
    (case l_law => k_is)
    (case c_law => k_is)
    (case k_law => k_is)
    (case q_MOST_LETTERS => k_is)
    (case q_LETTERS => k_is)
    (case q_REGISTERS => k_is)
    (case l_REGISTERS => k_is)
    (case q_MOST_WORD => k_is)
    (case q_MOST_ROOM => k_is)
    (case q_MOST_DISTANCE => k_is)
    (case q_CODE_FORMS => k_is)
    (case l_CODE_FORMS => k_is)
    (case q_DATA_FORMS => k_is)
    (case l_DATA_FORMS => k_is)
    (case q_MOST_FIGURES => k_is)
    (case q_FIGURES => k_is)
    (case z_isinstance => k_is)
    (case z_tuple => k_is)
    (case z_str => k_is)
    (case z_len => k_is)
    (case z_int => k_is)
    (case z_bool => k_is)
    (case z_all => k_is)
    (case z_zip => k_is)
    (case z_list => k_is)
    (case z_abs => k_is)
    (case z_range => k_is)
    (case r_MOST_LETTERS => exact ⟨_, rfl⟩)
    (case r_LETTERS => exact ⟨_, rfl⟩)
    (case v_REGISTERS => exact (.cons ⟨_, rfl⟩ (.cons ⟨_, rfl⟩ (.cons ⟨_, rfl⟩ .nil))))
    (case r_MOST_WORD => exact ⟨_, rfl⟩)
    (case r_MOST_ROOM => exact ⟨_, rfl⟩)
    (case r_MOST_DISTANCE => exact ⟨_, rfl⟩)
    (case kl_CODE_FORMS => exact ⟨⟨_, _, rfl, rfl⟩, ⟨_, _, rfl, rfl⟩, ⟨_, _, rfl, rfl⟩, ⟨_, _, rfl, rfl⟩, ⟨_, _, rfl, rfl⟩, ⟨_, _, rfl, rfl⟩, ⟨_, _, rfl, rfl⟩, ⟨_, _, rfl, rfl⟩, ⟨_, _, rfl, rfl⟩, ⟨_, _, rfl, rfl⟩, ⟨_, _, rfl, rfl⟩, ⟨_, _, rfl, rfl⟩, ⟨_, _, rfl, rfl⟩, ⟨_, _, rfl, rfl⟩, trivial⟩)
    (case sy_CODE_FORMS => first | rfl | decide)
    (case pd_CODE_FORMS => exact (.cons ⟨⟨_, rfl⟩, ⟨_, rfl⟩⟩ (.cons ⟨⟨_, rfl⟩, ⟨_, rfl⟩⟩ (.cons ⟨⟨_, rfl⟩, ⟨_, rfl⟩⟩ (.cons ⟨⟨_, rfl⟩, ⟨_, rfl⟩⟩ (.cons ⟨⟨_, rfl⟩, ⟨_, rfl⟩⟩ (.cons ⟨⟨_, rfl⟩, ⟨_, rfl⟩⟩ (.cons ⟨⟨_, rfl⟩, ⟨_, rfl⟩⟩ (.cons ⟨⟨_, rfl⟩, ⟨_, rfl⟩⟩ (.cons ⟨⟨_, rfl⟩, ⟨_, rfl⟩⟩ (.cons ⟨⟨_, rfl⟩, ⟨_, rfl⟩⟩ (.cons ⟨⟨_, rfl⟩, ⟨_, rfl⟩⟩ (.cons ⟨⟨_, rfl⟩, ⟨_, rfl⟩⟩ (.cons ⟨⟨_, rfl⟩, ⟨_, rfl⟩⟩ (.cons ⟨⟨_, rfl⟩, ⟨_, rfl⟩⟩ .nil)))))))))))))))
    (case kl_DATA_FORMS => exact ⟨⟨_, _, rfl, rfl⟩, ⟨_, _, rfl, rfl⟩, ⟨_, _, rfl, rfl⟩, trivial⟩)
    (case sy_DATA_FORMS => first | rfl | decide)
    (case pd_DATA_FORMS => exact (.cons ⟨⟨_, rfl⟩, ⟨_, rfl⟩⟩ (.cons ⟨⟨_, rfl⟩, ⟨_, rfl⟩⟩ (.cons ⟨⟨_, rfl⟩, ⟨_, rfl⟩⟩ .nil))))
    (case r_MOST_FIGURES => exact ⟨_, rfl⟩)
    (case r_FIGURES => exact ⟨_, rfl⟩)
