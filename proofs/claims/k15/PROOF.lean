import PyProof.Rows.All
import Wide.All
import OpenK.AllK
import Wide.FinOn
import HandS.ForMost
import HandS.Flow
import HandS.IsInst
import HandS.Walk
import HandS.Zip
import HandS.Defaults
import HandS.MakeKwOnly
import HandS.More
import HandS.Style
import KE.GoesNew
import HandS.Strs
import PySem.Challenge.RW_leastimage_k15_whole_forms_lead_home
set_option Elab.async false
set_option linter.all false
set_option maxRecDepth 100000
set_option maxHeartbeats 4000000
/-! Y1: data, and a logic over data alone: environments of data, expressions that give data, statements. -/
namespace Y
open PySem L2

/-- a datum: what a value means, without addresses -/
inductive Dt where
  | non
  | bl (b : Bool)
  | int (i : Int)
  | str (s : Str)
  | lst (xs : List Dt)
  | tup (xs : List Dt)
  | obj (C : Addr) (ns : List Str) (xs : List Dt)
  | dct (ks : List Key) (xs : List Dt)
  | ali (a : Addr)

mutual
inductive Rp (K : PySem.W.Frag) (F : Hp) : V → Dt → Prop
  | non : Rp K F .non .non
  | bl (b : Bool) : Rp K F (.bl b) (.bl b)
  | int (i : Int) : Rp K F (.int i) (.int i)
  | str (x : Str) : Rp K F (.str x) (.str x)
  | lst {a : Addr} {xs : List V} {ds : List Dt} : F a = some (.lst xs) → RpAll K F xs ds → Rp K F (.ref a) (.lst ds)
  | tup {a : Addr} {xs : List V} {ds : List Dt} : SqT K F a xs → RpAll K F xs ds → Rp K F (.ref a) (.tup ds)
  | obj {a C dx : Addr} {ns : List Str} {fs : List (Str × V)} {xs : List V} {ds : List Dt} : F a = some (.ins C dx fs) → fs.map (·.1) = ns → fs.map (·.2) = xs → RpAll K F xs ds → Rp K F (.ref a) (.obj C ns ds)
  | dct {a : Addr} {ks : List Key} {kvs : List (Key × V)} {xs : List V} {ds : List Dt} : F a = some (.dK kvs) → kvs.map (·.1) = ks → kvs.map (·.2) = xs → RpAll K F xs ds → Rp K F (.ref a) (.dct ks ds)
  | ali (a : Addr) : Rp K F (.ref a) (.ali a)
inductive RpAll (K : PySem.W.Frag) (F : Hp) : List V → List Dt → Prop
  | nil : RpAll K F [] []
  | cons {v : V} {vs : List V} {d : Dt} {ds : List Dt} : Rp K F v d → RpAll K F vs ds → RpAll K F (v :: vs) (d :: ds)
end

section mono
variable {K : PySem.W.Frag} {F F' : Hp}
theorem sqL_mono {a : Addr} {xs : List V} (e : Same F F') (h : SqL K F a xs) : SqL K F' a xs := e.seq h
theorem sqT_mono {a : Addr} {xs : List V} (e : Same F F') (h : SqT K F a xs) : SqT K F' a xs := by
  rcases h with (h | ⟨o, h⟩) | h
  · exact .inl (.inl (e _ _ h))
  · exact .inl (.inr ⟨o, e _ _ h⟩)
  · exact .inr h
mutual
theorem Rp.mono (e : Same F F') : ∀ {v : V} {d : Dt}, Rp K F v d → Rp K F' v d
  | _, _, .non => .non
  | _, _, .bl b => .bl b
  | _, _, .int i => .int i
  | _, _, .str x => .str x
  | _, _, .lst h r => .lst (e _ _ h) (RpAll.mono e r)
  | _, _, .tup h r => .tup (sqT_mono e h) (RpAll.mono e r)
  | _, _, .obj h h1 h2 r => .obj (e _ _ h) h1 h2 (RpAll.mono e r)
  | _, _, .dct h h1 h2 r => .dct (e _ _ h) h1 h2 (RpAll.mono e r)
  | _, _, .ali a => .ali a
theorem RpAll.mono (e : Same F F') : ∀ {vs : List V} {ds : List Dt}, RpAll K F vs ds → RpAll K F' vs ds
  | _, _, .nil => .nil
  | _, _, .cons h t => .cons (Rp.mono e h) (RpAll.mono e t)
end
theorem RpAll.length : ∀ {vs : List V} {ds : List Dt}, RpAll K F vs ds → vs.length = ds.length
  | _, _, .nil => rfl
  | _, _, .cons _ t => congrArg (· + 1) (RpAll.length t)
theorem RpAll.get : ∀ {vs : List V} {ds : List Dt} {i : Nat} {d : Dt}, RpAll K F vs ds → ds[i]? = some d → ∃ v, vs[i]? = some v ∧ Rp K F v d
  | _, _, _, _, .nil, e => by simp at e
  | _, _, 0, _, .cons r _, e => by simp at e; subst e; exact ⟨_, rfl, r⟩
  | _, _, i + 1, d, .cons _ t, e => by
    obtain ⟨v, h1, h2⟩ := RpAll.get (i := i) (d := d) t (by simpa using e)
    exact ⟨v, by simpa using h1, h2⟩
theorem RpAll.getV : ∀ {vs : List V} {ds : List Dt} {i : Nat} {v : V}, RpAll K F vs ds → vs[i]? = some v → ∃ d, ds[i]? = some d ∧ Rp K F v d
  | _, _, _, _, .nil, e => by simp at e
  | _, _, 0, _, .cons r _, e => by simp at e; subst e; exact ⟨_, rfl, r⟩
  | _, _, i + 1, v, .cons _ t, e => by
    obtain ⟨d, h1, h2⟩ := RpAll.getV (i := i) (v := v) t (by simpa using e)
    exact ⟨d, by simpa using h1, h2⟩
theorem RpAll.app : ∀ {vs ws : List V} {ds es : List Dt}, RpAll K F vs ds → RpAll K F ws es → RpAll K F (vs ++ ws) (ds ++ es)
  | _, _, _, _, .nil, s => s
  | _, _, _, _, .cons r t, s => .cons r (RpAll.app t s)
theorem RpAll.take : ∀ {vs : List V} {ds : List Dt} (n : Nat), RpAll K F vs ds → RpAll K F (vs.take n) (ds.take n)
  | _, _, 0, _ => by simp; exact .nil
  | _, _, _ + 1, .nil => .nil
  | _, _, n + 1, .cons r t => .cons r (RpAll.take n t)
theorem RpAll.drop : ∀ {vs : List V} {ds : List Dt} (n : Nat), RpAll K F vs ds → RpAll K F (vs.drop n) (ds.drop n)
  | _, _, 0, r => r
  | _, _, _ + 1, .nil => .nil
  | _, _, n + 1, .cons _ t => RpAll.drop n t
theorem RpAll.set {d : Dt} {v : V} (r : Rp K F v d) : ∀ {vs : List V} {ds : List Dt} (i : Nat), RpAll K F vs ds → RpAll K F (vs.set i v) (ds.set i d)
  | _, _, _, .nil => .nil
  | _, _, 0, .cons _ t => .cons r t
  | _, _, i + 1, .cons q t => .cons q (RpAll.set r i t)
theorem RpAll.ints : ∀ {vs : List V} {ns : List Int}, RpAll K F vs (ns.map Dt.int) → vs = ns.map V.int
  | _, [], h => by cases h; rfl
  | _, n :: ns, h => by
    cases h with
    | cons r t => cases r; rw [RpAll.ints t]; rfl
theorem RpAll.bls : ∀ {vs : List V} {ns : List Bool}, RpAll K F vs (ns.map Dt.bl) → vs = ns.map V.bl
  | _, [], h => by cases h; rfl
  | _, n :: ns, h => by
    cases h with
    | cons r t => cases r; rw [RpAll.bls t]; rfl
theorem RpAll.texts : ∀ {vs : List V} {ns : List Str}, RpAll K F vs (ns.map Dt.str) → vs = ns.map V.str
  | _, [], h => by cases h; rfl
  | _, n :: ns, h => by
    cases h with
    | cons r t => cases r; rw [RpAll.texts t]; rfl
theorem RpAll.of_ints : ∀ {ns : List Int}, RpAll K F (ns.map V.int) (ns.map Dt.int)
  | [] => .nil
  | n :: ns => .cons (.int n) RpAll.of_ints
end mono

/-- the state of the drawing: a list of five, its ints, what was taken, a rest, a mixed number, a count -/
def BagD (xs : List Dt) : Prop := ∃ (ns : List Int) (i r m k : Int), xs = [.lst (ns.map Dt.int), .int i, .int r, .int m, .int k] ∧ 0 ≤ i ∧ 0 ≤ r ∧ 0 ≤ m ∧ m < 2147483648
def BagAt (K : PySem.W.Frag) (F H : Hp) (b : Addr) : Prop := F b = none ∧ ∃ vs xs, H b = some (.lst vs) ∧ RpAll K F vs xs ∧ BagD xs

/-- what a slot of a frame is known to hold -/
inductive Sl where
  | no
  | any
  | d (x : Dt)
  | r (v : V)
  | own (a : Addr) (xs : List Dt)

def SlOk (K : PySem.W.Frag) (F H : Hp) : Option V → Sl → Prop
  | _, .any => True
  | o, .no => o = none
  | o, .d x => ∃ v, o = some v ∧ Rp K F v x
  | o, .r v => o = some v
  | o, .own a xs => ∃ vs, o = some (.ref a) ∧ F a = none ∧ H a = some (.lst vs) ∧ RpAll K F vs xs

/-- what a body of a def stands on: the written part, what is known and the heap at its start, the address of the drawing -/
structure Bs where
  K : PySem.W.Frag
  F0 : Hp
  H0 : Hp
  bag : Option Addr

structure Stt (B : Bs) (es : List Sl) (σ : St) (F H : Hp) : Prop where
  sub : Same F H
  s0 : Same B.F0 F
  ou : ∀ c, B.H0 c ≠ none → B.F0 c = none → F c = none
  fr : ∀ c o, B.H0 c = some o → B.bag ≠ some c → H c = some o
  bg : ∀ b, B.bag = some b → BagAt B.K F H b
  len : σ.length = es.length
  ok : ∀ (i : Nat) e o, es[i]? = some e → σ[i]? = some o → SlOk B.K F H o e
  ow : ∀ (i : Nat) a xs, es[i]? = some (.own a xs) → B.H0 a = none ∧ B.bag ≠ some a
  dis : ∀ (i j : Nat) a b xs ys, i ≠ j → es[i]? = some (.own a xs) → es[j]? = some (.own b ys) → a ≠ b

/-- the heap goes on: all stays but the drawing; what was outside F stays outside -/
structure Go (B : Bs) (F H F' H' : Hp) : Prop where
  s1 : Same F F'
  s2 : Same F' H'
  nw : ∀ c, H c ≠ none → F c = none → F' c = none
  kp : ∀ c o, B.bag ≠ some c → H c = some o → H' c = some o
  bg : ∀ b, B.bag = some b → BagAt B.K F' H' b

theorem same_upd {H : Hp} {p : Addr} {o : HO} (h : H p = none) : Same H (upd H p o) := fun b u e => by
  rw [upd_ne (ne_of_none e h)]
  exact e
theorem same_updF {F H : Hp} {p : Addr} {o : HO} (s : Same F H) : Same (upd F p o) (upd H p o) := fun b u e => by
  by_cases hb : b = p
  · subst hb; rw [upd_same] at e ⊢; exact e
  · rw [upd_ne hb] at e ⊢; exact s b u e
theorem same_none {F H : Hp} {p : Addr} (s : Same F H) (h : H p = none) : F p = none := s.free h

section
variable {B : Bs} {es : List Sl} {σ : St} {F H F1 H1 F2 H2 : Hp}
theorem Go.trans (a : Go B F H F1 H1) (b : Go B F1 H1 F2 H2) : Go B F H F2 H2 where
  s1 := a.s1.trans b.s1
  s2 := b.s2
  nw := fun c h1 h2 => by
    refine b.nw c ?_ (a.nw c h1 h2)
    by_cases hb : B.bag = some c
    · obtain ⟨_, vs, _, k, _⟩ := a.bg c hb
      rw [k]; simp
    · cases e : H c with
      | none => exact absurd e h1
      | some o => rw [a.kp c o hb e]; simp
  kp := fun c o h1 h2 => b.kp c o h1 (a.kp c o h1 h2)
  bg := b.bg
theorem Stt.refl (S : Stt B es σ F H) : Go B F H F H := ⟨Same.refl F, S.sub, fun _ _ h => h, fun _ _ _ h => h, S.bg⟩
theorem Stt.slot {i : Nat} {e : Sl} (S : Stt B es σ F H) (h : es[i]? = some e) : ∃ o, σ[i]? = some o ∧ SlOk B.K F H o e := by
  have hl : i < es.length := (List.getElem?_eq_some_iff.mp h).1
  rw [← S.len] at hl
  exact ⟨σ[i], by simp [hl], S.ok i e _ h (by simp [hl])⟩
theorem Stt.dat {i : Nat} {x : Dt} (S : Stt B es σ F H) (h : es[i]? = some (.d x)) : ∃ v, σ[i]? = some (some v) ∧ Rp B.K F v x := by
  obtain ⟨o, h1, v, rfl, h2⟩ := S.slot h
  exact ⟨v, h1, h2⟩
theorem Stt.raw {i : Nat} {v : V} (S : Stt B es σ F H) (h : es[i]? = some (.r v)) : σ[i]? = some (some v) := by
  obtain ⟨o, h1, h2⟩ := S.slot h
  rw [h1, h2]
theorem Stt.live (S : Stt B es σ F H) {c : Addr} (h : B.H0 c ≠ none) : H c ≠ none := by
  by_cases hb : B.bag = some c
  · obtain ⟨_, vs, _, k, _⟩ := S.bg c hb
    rw [k]; simp
  · cases e : B.H0 c with
    | none => exact absurd e h
    | some o => rw [S.fr c o e hb]; simp
theorem Stt.go {F' H' : Hp} (S : Stt B es σ F H) (g : Go B F H F' H') : Stt B es σ F' H' where
  sub := g.s2
  s0 := S.s0.trans g.s1
  ou := fun c h1 h2 => g.nw c (S.live h1) (S.ou c h1 h2)
  fr := fun c o h1 h2 => g.kp c o h2 (S.fr c o h1 h2)
  bg := g.bg
  len := S.len
  ok := fun i e o h1 h2 => by
    have h := S.ok i e o h1 h2
    cases e with
    | no => exact h
    | any => trivial
    | d x => obtain ⟨v, k1, k2⟩ := h; exact ⟨v, k1, k2.mono g.s1⟩
    | r v => exact h
    | own a xs =>
      obtain ⟨vs, k1, k2, k3, k4⟩ := h
      exact ⟨vs, k1, g.nw a (by rw [k3]; simp) k2, g.kp a _ (S.ow i a xs h1).2 k3, k4.mono g.s1⟩
  ow := S.ow
  dis := S.dis
/-- nothing that stood changes -/
theorem Stt.pure {F' H' : Hp} (S : Stt B es σ F H) (s1 : Same F F') (s2 : Same F' H') (hn : ∀ c, H c ≠ none → F c = none → F' c = none) (s3 : Same H H') : Go B F H F' H' :=
  ⟨s1, s2, hn, fun c o _ h => s3 c o h, fun b hb => by
    obtain ⟨h1, vs, xs, h2, h3, h4⟩ := S.bg b hb
    exact ⟨hn b (by rw [h2]; simp) h1, vs, xs, s3 _ _ h2, h3.mono s1, h4⟩⟩
/-- a new object, known as a datum -/
theorem Stt.alloc {p : Addr} {o : HO} (S : Stt B es σ F H) (h : H p = none) : Go B F H (upd F p o) (upd H p o) :=
  S.pure (same_upd (same_none S.sub h)) (same_updF S.sub) (fun c hc hf => by
    rw [upd_ne (fun e => hc (by rw [e]; exact h))]
    exact hf) (same_upd h)
/-- a new object that is not yet known as a datum -/
theorem Stt.allocO {p : Addr} {o : HO} (S : Stt B es σ F H) (h : H p = none) : Go B F H F (upd H p o) :=
  S.pure (Same.refl F) (S.sub.trans (same_upd h)) (fun _ _ hf => hf) (same_upd h)
theorem Stt.new0 {p : Addr} (S : Stt B es σ F H) (h : H p = none) : B.H0 p = none := by
  cases e : B.H0 p with
  | none => rfl
  | some o => exact absurd h (S.live (by rw [e]; simp))
theorem Stt.newB {p : Addr} (S : Stt B es σ F H) (h : H p = none) : B.bag ≠ some p := fun hb => by
  obtain ⟨_, vs, _, k, _⟩ := S.bg p hb
  rw [h] at k; cases k
theorem Stt.newS {p a : Addr} (S : Stt B es σ F H) (h : H p = none) (i : Nat) (ys : List Dt) (hi : es[i]? = some (.own a ys)) : a ≠ p := fun hs => by
  obtain ⟨o, _, ws, z1, z2, z3, z4⟩ := S.slot hi
  rw [hs, h] at z3; cases z3
end

/-! ### what an expression gives: backwards, from what is wanted of its datum -/
def Ev (B : Bs) (te : TE) (es : List Sl) (P : Dt → Prop) : Prop := ∀ σ F H, Stt B es σ F H → ∀ Q : VK,
  (∀ v d F' H', Go B F H F' H' → Rp B.K F' v d → P d → Q v H') → te σ H Q
def EvT (B : Bs) (tt : TT) (es : List Sl) (P : Bool → Prop) : Prop := ∀ σ F H, Stt B es σ F H → ∀ Q : Bool → Hp → Prop,
  (∀ b F' H', Go B F H F' H' → P b → Q b H') → tt σ H Q
def EvA (B : Bs) (ta : TA) (es : List Sl) (P : List Dt → Prop) : Prop := ∀ σ F H, Stt B es σ F H → ∀ Q : List V → Hp → Prop,
  (∀ vs ds F' H', Go B F H F' H' → RpAll B.K F' vs ds → P ds → Q vs H') → ta σ H Q
def EvO (B : Bs) (te : TE) (es : List Sl) (P : List Dt → Prop) : Prop := ∀ σ F H, Stt B es σ F H → ∀ Q : VK,
  (∀ a vs xs F' H', Go B F H F' H' → H a = none → F' a = none → H' a = some (.lst vs) → RpAll B.K F' vs xs → P xs → Q (.ref a) H') → te σ H Q

section
variable {B : Bs} {es : List Sl} {σ : St} {F H : Hp}
theorem Ev.imp {te : TE} {P P' : Dt → Prop} (h : Ev B te es P) (hp : ∀ d, P d → P' d) : Ev B te es P' := fun σ F H S Q q => h σ F H S Q fun v d F' H' a b c => q v d F' H' a b (hp d c)
theorem EvT.imp {te : TT} {P P' : Bool → Prop} (h : EvT B te es P) (hp : ∀ d, P d → P' d) : EvT B te es P' := fun σ F H S Q q => h σ F H S Q fun d F' H' a b => q d F' H' a (hp d b)
theorem EvO.imp {te : TE} {P P' : List Dt → Prop} (h : EvO B te es P) (hp : ∀ d, P d → P' d) : EvO B te es P' := fun σ F H S Q q => h σ F H S Q fun a vs d F' H' g n f l r c => q a vs d F' H' g n f l r (hp d c)
theorem EvA.imp {te : TA} {P P' : List Dt → Prop} (h : EvA B te es P) (hp : ∀ d, P d → P' d) : EvA B te es P' := fun σ F H S Q q => h σ F H S Q fun v d F' H' a b c => q v d F' H' a b (hp d c)
/-- a new list at a, outside what is known, becomes known -/
theorem Go.freeze {F' H' : Hp} {a : Addr} {vs : List V} (g : Go B F H F' H') (S : Stt B es σ F H) (h0 : H a = none) (h1 : F' a = none) (h2 : H' a = some (.lst vs)) : Go B F H (upd F' a (.lst vs)) H' where
  s1 := g.s1.trans (same_upd h1)
  s2 := fun c o e => by
    by_cases hc : c = a
    · subst hc; rw [upd_same] at e; rw [h2, e]
    · rw [upd_ne hc] at e; exact g.s2 c o e
  nw := fun c hc hf => by
    rw [upd_ne (fun e => hc (by rw [e]; exact h0))]
    exact g.nw c hc hf
  kp := g.kp
  bg := fun b hb => by
    obtain ⟨k1, ws, ys, k2, k3, k4⟩ := g.bg b hb
    have hba : b ≠ a := fun q => S.newB h0 (by rw [hb, q])
    exact ⟨by rw [upd_ne hba]; exact k1, ws, ys, k2, k3.mono (same_upd h1), k4⟩
theorem EvO.ev {te : TE} {P : Dt → Prop} (h : EvO B te es fun xs => P (.lst xs)) : Ev B te es P := fun σ F H S Q q =>
  h σ F H S Q fun a vs xs F' H' g h0 h1 h2 r p => q (.ref a) (.lst xs) (upd F' a (.lst vs)) H' (g.freeze S h0 h1 h2) (.lst upd_same (r.mono (same_upd h1))) p
theorem ev_var {i : Nat} {x : Dt} {P : Dt → Prop} (h : es[i]? = some (.d x)) (hp : P x) : Ev B (tVar i) es P := fun σ F H S Q q => by
  obtain ⟨v, h1, h2⟩ := S.dat h
  exact ⟨v, h1, q v x F H S.refl h2 hp⟩
/-- a list of one's own that is not changed any more in this expression: read as a datum of a copy -/
theorem ev_int {i : Int} {P : Dt → Prop} (hp : P (.int i)) : Ev B (tC (.int i)) es P := fun σ F H S Q q => q _ _ F H S.refl (.int i) hp
theorem ev_str {i : Str} {P : Dt → Prop} (hp : P (.str i)) : Ev B (tC (.str i)) es P := fun σ F H S Q q => q _ _ F H S.refl (.str i) hp
theorem ev_bl {i : Bool} {P : Dt → Prop} (hp : P (.bl i)) : Ev B (tC (.bl i)) es P := fun σ F H S Q q => q _ _ F H S.refl (.bl i) hp
theorem ev_non {P : Dt → Prop} (hp : P .non) : Ev B (tC .non) es P := fun σ F H S Q q => q _ _ F H S.refl .non hp
/-- a datum of the written part -/
def KD (K : PySem.W.Frag) (v : V) (d : Dt) : Prop := ∀ F, Rp K F v d
theorem ev_k {v : V} {d : Dt} {P : Dt → Prop} (k : KD B.K v d) (hp : P d) : Ev B (tC v) es P := fun σ F H S Q q => q _ _ F H S.refl (k F) hp
theorem ea_nil {P : List Dt → Prop} (hp : P []) : EvA B tNil es P := fun σ F H S Q q => q _ _ F H S.refl .nil hp
theorem ea_cons {te : TE} {tr : TA} {P : List Dt → Prop} (h : Ev B te es fun d => EvA B tr es fun ds => P (d :: ds)) : EvA B (tCons te tr) es P := fun σ F H S Q q =>
  h σ F H S _ fun v d F1 H1 g1 r1 p1 => p1 σ F1 H1 (S.go g1) _ fun vs ds F2 H2 g2 r2 p2 => q _ _ F2 H2 (g1.trans g2) (.cons (r1.mono g2.s1) r2) p2
theorem size_of {n : Nat} (h : n ≤ 100000) : n ≤ sizeLine := Nat.le_trans h (by decide)
theorem size_lt {n : Nat} (h : n < 100000) : n < sizeLine := Nat.lt_of_lt_of_le h (by decide)
theorem eo_lst {ta : TA} {P : List Dt → Prop} (h : EvA B ta es fun ds => ds.length ≤ 100000 ∧ P ds) : EvO B (tLst ta) es P := fun σ F H S Q q =>
  h σ F H S _ fun vs ds F1 H1 g1 r1 p1 => ⟨size_of (by rw [r1.length]; exact p1.1), fun p hp => by
    have S1 := S.go g1
    have h0 : H p = none := by
      cases e : H p with
      | none => rfl
      | some o => have := g1.kp p o (S1.newB hp) e; rw [hp] at this; cases this
    exact q p vs ds F1 (upd H1 p (.lst vs)) (g1.trans (S1.allocO hp)) h0 (same_none S1.sub hp) upd_same r1 p1.2⟩
theorem ev_lst {ta : TA} {P : Dt → Prop} (h : EvA B ta es fun ds => ds.length ≤ 100000 ∧ P (.lst ds)) : Ev B (tLst ta) es P := (eo_lst (P := fun ds => P (.lst ds)) h).ev
theorem ev_tup {ta : TA} {P : Dt → Prop} (h : EvA B ta es fun ds => ds.length ≤ 100000 ∧ P (.tup ds)) : Ev B (tTup ta) es P := fun σ F H S Q q =>
  h σ F H S _ fun vs ds F1 H1 g1 r1 p1 => ⟨size_of (by rw [r1.length]; exact p1.1), fun p hp => by
    have S1 := S.go g1
    have hF : F1 p = none := same_none S1.sub hp
    exact q (.ref p) (.tup ds) (upd F1 p (.tup vs)) (upd H1 p (.tup vs)) (g1.trans (S1.alloc hp)) (.tup (SqT.of upd_same) (r1.mono (same_upd hF))) p1.2⟩
theorem Go.new {F' H' : Hp} {p : Addr} (g : Go B F H F' H') (hb : B.bag ≠ some p) (h : H' p = none) : H p = none := by
  cases e : H p with
  | none => rfl
  | some o => have := g.kp p o hb e; rw [h] at this; cases this
end
end Y
/-! Y2: operators, tests, calls, statements, loops over data. -/
namespace Y
open PySem L2

section
variable {B : Bs} {es : List Sl}

/-! ### alternatives: one rule or another -/
theorem pe_alt {X : Cx} {e : Expr} {t u : TE} (h1 : PE X e t) (h2 : PE X e u) : PE X e (fun σ H Q => t σ H Q ∨ u σ H Q) :=
  ⟨fun pins s σ H Q I h => h.elim (h1.run pins s σ H Q I) (h2.run pins s σ H Q I)⟩
theorem pi_alt {X : Cx} {tg e : Expr} {t u : TI} (h1 : PI X tg e t) (h2 : PI X tg e u) : PI X tg e (fun σ H Q => t σ H Q ∨ u σ H Q) :=
  ⟨fun pins s σ H Q I h => h.elim (h1.run pins s σ H Q I) (h2.run pins s σ H Q I)⟩
def rAlt (r q : R2) : R2 := fun x y H Q => r x y H Q ∨ q x y H Q
theorem op_alt {X : Cx} {f : Value → Value → Sem Value} {r q : R2} (h1 : OpR X f r) (h2 : OpR X f q) : OpR X f (rAlt r q) := fun pins s σ H x y u v Q I rx ry h =>
  h.elim (h1 pins s σ H x y u v Q I rx ry) (h2 pins s σ H x y u v Q I rx ry)
def cAlt (r q : List V → Hp → VK → Prop) : List V → Hp → VK → Prop := fun xs H Q => r xs H Q ∨ q xs H Q
theorem call_alt {X : Cx} {f : Value} {r q : List V → Hp → VK → Prop} (h1 : CallR X f r) (h2 : CallR X f q) : CallR X f (cAlt r q) := fun pins s σ H xs us Q I rx h =>
  h.elim (h1 pins s σ H xs us Q I rx) (h2 pins s σ H xs us Q I rx)

/-! ### a two-place operation -/
def Op2 (B : Bs) (r : R2) (es : List Sl) (x y : Dt) (P : Dt → Prop) : Prop := ∀ σ F H v w, Stt B es σ F H → Rp B.K F v x → Rp B.K F w y → ∀ Q : VK,
  (∀ v d F' H', Go B F H F' H' → Rp B.K F' v d → P d → Q v H') → r v w H Q
theorem ev_op {r : R2} {ta tb : TE} {P : Dt → Prop} (h : Ev B ta es fun x => Ev B tb es fun y => Op2 B r es x y P) : Ev B (tOp r ta tb) es P := fun σ F H S Q q =>
  h σ F H S _ fun v x F1 H1 g1 r1 p1 => p1 σ F1 H1 (S.go g1) _ fun w y F2 H2 g2 r2 p2 => p2 σ F2 H2 v w ((S.go g1).go g2) (r1.mono g2.s1) r2 Q fun u d F3 H3 g3 r3 p3 => q u d F3 H3 ((g1.trans g2).trans g3) r3 p3
theorem o_altL {r q : R2} {x y : Dt} {P : Dt → Prop} (h : Op2 B r es x y P) : Op2 B (rAlt r q) es x y P := fun σ F H v w S a b Q k => .inl (h σ F H v w S a b Q k)
theorem o_altR {r q : R2} {x y : Dt} {P : Dt → Prop} (h : Op2 B q es x y P) : Op2 B (rAlt r q) es x y P := fun σ F H v w S a b Q k => .inr (h σ F H v w S a b Q k)
theorem o_i0 {g : Int → Int → Int} {i j : Int} {P : Dt → Prop} (hp : P (.int (g i j))) : Op2 B (rI0 fun i j => .int (g i j)) es (.int i) (.int j) P := fun σ F H v w S a b Q k => by
  cases a; cases b; exact ⟨i, j, rfl, rfl, k _ _ F H S.refl (.int _) hp⟩
theorem o_b0 {g : Int → Int → Bool} {i j : Int} {P : Dt → Prop} (hp : P (.bl (g i j))) : Op2 B (rI0 fun i j => .bl (g i j)) es (.int i) (.int j) P := fun σ F H v w S a b Q k => by
  cases a; cases b; exact ⟨i, j, rfl, rfl, k _ _ F H S.refl (.bl _) hp⟩
theorem o_i {C : Int → Int → Prop} {g : Int → Int → Int} {i j : Int} {P : Dt → Prop} (hc : C i j) (hp : P (.int (g i j))) : Op2 B (rI C fun i j => .int (g i j)) es (.int i) (.int j) P := fun σ F H v w S a b Q k => by
  cases a; cases b; exact ⟨i, j, rfl, rfl, hc, k _ _ F H S.refl (.int _) hp⟩
/-- == and != of scalars (no bool beside an int) -/
def dScal : Dt → Dt → Bool
  | .non, .non => true | .non, .int _ => true | .int _, .non => true | .non, .bl _ => true | .bl _, .non => true | .non, .str _ => true | .str _, .non => true
  | .int _, .int _ => true | .bl _, .bl _ => true | .str _, .str _ => true
  | .int _, .str _ => true | .str _, .int _ => true | .bl _, .str _ => true | .str _, .bl _ => true
  | _, _ => false
def dEq : Dt → Dt → Bool
  | .non, .non => true
  | .int i, .int j => decide (i = j)
  | .bl i, .bl j => decide (i = j)
  | .str i, .str j => decide (i = j)
  | _, _ => false
theorem scal_of {K : PySem.W.Frag} {F : Hp} {v w : V} {x y : Dt} (a : Rp K F v x) (b : Rp K F w y) (h : dScal x y = true) : scal v w = true ∧ decide (v = w) = dEq x y := by
  cases a <;> cases b <;> first | (cases h; done) | (refine ⟨rfl, ?_⟩; first | rfl | (simp [dEq]; done))
theorem o_eq {x y : Dt} {P : Dt → Prop} (hs : dScal x y = true) (hp : P (.bl (dEq x y))) : Op2 B rEq es x y P := fun σ F H v w S a b Q k => by
  obtain ⟨h1, h2⟩ := scal_of a b hs
  refine ⟨h1, ?_⟩
  rw [h2]
  exact k _ _ F H S.refl (.bl _) hp
theorem o_ne {x y : Dt} {P : Dt → Prop} (hs : dScal x y = true) (hp : P (.bl (!dEq x y))) : Op2 B rNe es x y P := fun σ F H v w S a b Q k => by
  obtain ⟨h1, h2⟩ := scal_of a b hs
  refine ⟨h1, ?_⟩
  rw [h2]
  exact k _ _ F H S.refl (.bl _) hp
/-- is None -/
def dNon : Dt → Bool
  | .non => true
  | _ => false
theorem non_of {K : PySem.W.Frag} {F : Hp} {v : V} {x : Dt} (a : Rp K F v x) : decide (v = V.non) = dNon x := by
  cases a <;> rfl
theorem o_isN {x : Dt} {P : Dt → Prop} (hp : P (.bl (dNon x))) : Op2 B (fun x y H Q => y = .non ∧ Q (.bl (decide (x = .non))) H) es x .non P := fun σ F H v w S a b Q k => by
  cases b
  refine ⟨rfl, ?_⟩
  rw [non_of a]
  exact k _ _ F H S.refl (.bl _) hp
theorem o_notN {x : Dt} {P : Dt → Prop} (hp : P (.bl (!dNon x))) : Op2 B (fun x y H Q => y = .non ∧ Q (.bl (!decide (x = .non))) H) es x .non P := fun σ F H v w S a b Q k => by
  cases b
  refine ⟨rfl, ?_⟩
  rw [non_of a]
  exact k _ _ F H S.refl (.bl _) hp
/-- x in (a, b, ..): flat things -/
def flatD : Dt → Bool
  | .non => true | .bl _ => true | .int _ => true | .str _ => true
  | _ => false
def eqD : Dt → Dt → Bool
  | .non, .non => true
  | .bl a, .bl b => a == b
  | .bl a, .int b => (if a then 1 else 0) == b
  | .int a, .bl b => a == (if b then 1 else 0)
  | .int a, .int b => a == b
  | .str a, .str b => a == b
  | _, _ => false
def inD (x : Dt) (ys : List Dt) : Bool := ys.any fun y => eqD y x
theorem flat_of {K : PySem.W.Frag} {F : Hp} {v : V} {x : Dt} (a : Rp K F v x) : flatV v = flatD x := by cases a <;> rfl
theorem eq_of {K : PySem.W.Frag} {F : Hp} {v w : V} {x y : Dt} (a : Rp K F v x) (b : Rp K F w y) (hx : flatD x = true) (hy : flatD y = true) : eqV v w = eqD x y := by
  cases a <;> cases b <;> first | rfl | (cases hx; done) | (cases hy; done)
theorem in_of {K : PySem.W.Frag} {F : Hp} {v : V} {x : Dt} (a : Rp K F v x) (hx : flatD x = true) : ∀ {ws : List V} {ys : List Dt}, RpAll K F ws ys → ys.all flatD = true → inV v ws = inD x ys ∧ ws.all flatV = true
  | _, _, .nil, _ => ⟨rfl, rfl⟩
  | _, _, .cons r t, h => by
    simp only [List.all_cons, Bool.and_eq_true] at h
    obtain ⟨h1, h2⟩ := in_of a hx t h.2
    refine ⟨?_, ?_⟩
    · unfold inV inD at *
      rw [List.any_cons, List.any_cons, h1, eq_of r a h.1 hx]
    · rw [List.all_cons, h2, flat_of r, h.1]; rfl
theorem o_inL {x : Dt} {ys : List Dt} {neg : Bool} {P : Dt → Prop} (hx : flatD x = true) (hy : ys.all flatD = true) (hp : P (.bl (if neg then !inD x ys else inD x ys))) : Op2 B (rIn B.K neg) es x (.lst ys) P := fun σ F H v w S a b Q k => by
  cases b with
  | lst hl hr =>
    obtain ⟨h1, h2⟩ := in_of a hx hr hy
    refine ⟨_, _, rfl, .inl (SqL.of (S.sub _ _ hl)), by rw [flat_of a]; exact hx, h2, ?_⟩
    rw [h1]
    exact k _ _ F H S.refl (.bl _) hp
theorem o_inT {x : Dt} {ys : List Dt} {neg : Bool} {P : Dt → Prop} (hx : flatD x = true) (hy : ys.all flatD = true) (hp : P (.bl (if neg then !inD x ys else inD x ys))) : Op2 B (rIn B.K neg) es x (.tup ys) P := fun σ F H v w S a b Q k => by
  cases b with
  | tup hl hr =>
    obtain ⟨h1, h2⟩ := in_of a hx hr hy
    refine ⟨_, _, rfl, .inr (sqT_mono S.sub hl), by rw [flat_of a]; exact hx, h2, ?_⟩
    rw [h1]
    exact k _ _ F H S.refl (.bl _) hp
/-- one sign in a text -/
theorem o_inS {c : Nat} {z : Str} {P : Dt → Prop} (hp : P (.bl (decide (c ∈ z.cps.toList)))) : Op2 B (fun x y H Q => ∃ (c : Nat) (z : Str), x = .str ⟨#[c]⟩ ∧ y = .str z ∧ Q (.bl (decide (c ∈ z.cps.toList))) H) es (.str ⟨#[c]⟩) (.str z) P := fun σ F H v w S a b Q k => by
  cases a; cases b; exact ⟨c, z, rfl, rfl, k _ _ F H S.refl (.bl _) hp⟩
theorem o_niS {c : Nat} {z : Str} {P : Dt → Prop} (hp : P (.bl (!decide (c ∈ z.cps.toList)))) : Op2 B (fun x y H Q => ∃ (c : Nat) (z : Str), x = .str ⟨#[c]⟩ ∧ y = .str z ∧ Q (.bl (!decide (c ∈ z.cps.toList))) H) es (.str ⟨#[c]⟩) (.str z) P := fun σ F H v w S a b Q k => by
  cases a; cases b; exact ⟨c, z, rfl, rfl, k _ _ F H S.refl (.bl _) hp⟩
/-- items -/
theorem o_ixL {xs : List Dt} {i : Int} {x : Dt} {P : Dt → Prop} (hi : atI xs i = some x) (hp : P x) : Op2 B (rIxL B.K) es (.lst xs) (.int i) P := fun σ F H v w S a b Q k => by
  cases b
  cases a with
  | lst hl hr =>
    unfold atI at hi
    cases e : ixN xs.length i with
    | none => rw [e] at hi; cases hi
    | some j =>
      rw [e] at hi
      obtain ⟨u, h1, h2⟩ := hr.get (show xs[j]? = some x from hi)
      refine ⟨_, _, i, u, rfl, rfl, SqL.of (S.sub _ _ hl), ?_, k _ _ F H S.refl h2 hp⟩
      unfold atI
      rw [hr.length, e]
      exact h1
theorem o_ixT {xs : List Dt} {i : Int} {x : Dt} {P : Dt → Prop} (hi : atI xs i = some x) (hp : P x) : Op2 B (rIxT B.K) es (.tup xs) (.int i) P := fun σ F H v w S a b Q k => by
  cases b
  cases a with
  | tup hl hr =>
    unfold atI at hi
    cases e : ixN xs.length i with
    | none => rw [e] at hi; cases hi
    | some j =>
      rw [e] at hi
      obtain ⟨u, h1, h2⟩ := hr.get (show xs[j]? = some x from hi)
      refine ⟨_, _, i, u, rfl, rfl, sqT_mono S.sub hl, ?_, k _ _ F H S.refl h2 hp⟩
      unfold atI
      rw [hr.length, e]
      exact h1
theorem o_ixS {z : Str} {i : Int} {c : Nat} {P : Dt → Prop} (hl : z.length ≤ 100000) (hi : atI z.cps.toList i = some c) (hp : P (.str ⟨#[c]⟩)) : Op2 B rIxS es (.str z) (.int i) P := fun σ F H v w S a b Q k => by
  cases b; cases a; exact ⟨z, i, c, rfl, rfl, size_of hl, hi, k _ _ F H S.refl (.str _) hp⟩
theorem o_ixAL {xs : List Dt} {i : Int} {x : Dt} {P : Dt → Prop} (hi : atI xs i = some x) (hp : P x) : Op2 B (rIx B.K) es (.lst xs) (.int i) P := fun σ F H v w S a b Q k => .inl (o_ixL hi hp σ F H v w S a b Q k)
theorem o_ixAT {xs : List Dt} {i : Int} {x : Dt} {P : Dt → Prop} (hi : atI xs i = some x) (hp : P x) : Op2 B (rIx B.K) es (.tup xs) (.int i) P := fun σ F H v w S a b Q k => .inr (.inl (o_ixT hi hp σ F H v w S a b Q k))
theorem o_ixAS {z : Str} {i : Int} {c : Nat} {P : Dt → Prop} (hl : z.length ≤ 100000) (hi : atI z.cps.toList i = some c) (hp : P (.str ⟨#[c]⟩)) : Op2 B (rIx B.K) es (.str z) (.int i) P := fun σ F H v w S a b Q k => .inr (.inr (o_ixS hl hi hp σ F H v w S a b Q k))
/-- xs + ys; s + t -/
theorem o_catO {r : R2} (hr : r = rCat) {xs ys : List Dt} {σ : St} {F H : Hp} {v w : V} (S : Stt B es σ F H) (a : Rp B.K F v (.lst xs)) (b : Rp B.K F w (.lst ys)) (hl : xs.length + ys.length ≤ 100000) {Q : VK}
    (k : ∀ a vs F' H', Go B F H F' H' → H a = none → F' a = none → H' a = some (.lst vs) → RpAll B.K F' vs (xs ++ ys) → Q (.ref a) H') : r v w H Q := by
  subst hr
  cases a with
  | lst h1 r1 =>
    cases b with
    | lst h2 r2 =>
      refine ⟨_, _, _, _, rfl, rfl, S.sub _ _ h1, S.sub _ _ h2, size_of (by rw [r1.length, r2.length]; exact hl), fun p hp => ?_⟩
      exact k p _ F _ (S.allocO hp) hp (same_none S.sub hp) upd_same (r1.app r2)
theorem o_cat {xs ys : List Dt} {P : Dt → Prop} (hl : xs.length + ys.length ≤ 100000) (hp : P (.lst (xs ++ ys))) : Op2 B rCat es (.lst xs) (.lst ys) P := fun σ F H v w S a b Q k =>
  o_catO rfl S a b hl fun p vs F' H' g h0 h1 h2 r => k _ _ (upd F' p (.lst vs)) H' (g.freeze S h0 h1 h2) (.lst upd_same (r.mono (same_upd h1))) hp
theorem o_catS {x y : Str} {P : Dt → Prop} (hl : x.length + y.length ≤ 100000) (hp : P (.str (x ++ y))) : Op2 B (fun x y H Q => ∃ i j, x = .str i ∧ y = .str j ∧ i.length + j.length ≤ sizeLine ∧ Q (.str (i ++ j)) H) es (.str x) (.str y) P := fun σ F H v w S a b Q k => by
  cases a; cases b; exact ⟨x, y, rfl, rfl, size_of hl, k _ _ F H S.refl (.str _) hp⟩
/-- a one-place operation -/
theorem ev_neg {ta : TE} {P : Dt → Prop} (h : Ev B ta es fun x => ∃ i, x = .int i ∧ P (.int (-i))) : Ev B (tUn (rU fun i => .int (-i)) ta) es P := fun σ F H S Q q =>
  h σ F H S _ fun v x F1 H1 g1 r1 ⟨i, e, p1⟩ => by
    subst e
    cases r1
    exact ⟨i, rfl, q _ _ F1 H1 g1 (.int _) p1⟩

/-! ### tests -/
theorem et_B {te : TE} {P : Bool → Prop} (h : Ev B te es fun d => ∃ b, d = .bl b ∧ P b) : EvT B (tB te) es P := fun σ F H S Q q =>
  h σ F H S _ fun v x F1 H1 g1 r1 ⟨b, e, p1⟩ => by subst e; cases r1; exact ⟨b, rfl, q b F1 H1 g1 p1⟩
theorem et_test {te : TE} {P : Bool → Prop} (h : Ev B te es fun d => ∃ b, d = .bl b ∧ P b) : EvT B (tTest te) es P := fun σ F H S Q q =>
  h σ F H S _ fun v x F1 H1 g1 r1 ⟨b, e, p1⟩ => by subst e; cases r1; exact ⟨b, rfl, q b F1 H1 g1 p1⟩
theorem et_not {t : TT} {P : Bool → Prop} (h : EvT B t es fun b => P (!b)) : EvT B (tNot t) es P := fun σ F H S Q q => h σ F H S _ fun b F1 H1 g1 p1 => q _ F1 H1 g1 p1
theorem et_and {t u : TT} {P : Bool → Prop} (h : EvT B t es fun b => (b = true → EvT B u es P) ∧ (b = false → P false)) : EvT B (tAnd t u) es P := fun σ F H S Q q => h σ F H S _ fun b F1 H1 g1 p1 => by
  cases b with
  | true =>
    show u σ H1 Q
    exact p1.1 rfl σ F1 H1 (S.go g1) Q fun c F2 H2 g2 p2 => q c F2 H2 (g1.trans g2) p2
  | false =>
    show Q false H1
    exact q false F1 H1 g1 (p1.2 rfl)
theorem et_or {t u : TT} {P : Bool → Prop} (h : EvT B t es fun b => (b = true → P true) ∧ (b = false → EvT B u es P)) : EvT B (tOr t u) es P := fun σ F H S Q q => h σ F H S _ fun b F1 H1 g1 p1 => by
  cases b with
  | false =>
    show u σ H1 Q
    exact p1.2 rfl σ F1 H1 (S.go g1) Q fun c F2 H2 g2 p2 => q c F2 H2 (g1.trans g2) p2
  | true =>
    show Q true H1
    exact q true F1 H1 g1 (p1.1 rfl)
theorem ev_and {ta tb : TE} {P : Dt → Prop} (h : Ev B ta es fun d => ∃ b, d = .bl b ∧ (b = true → Ev B tb es P) ∧ (b = false → P (.bl false))) : Ev B (tAndV ta tb) es P := fun σ F H S Q q => h σ F H S _ fun v d F1 H1 g1 r1 ⟨b, e, p1⟩ => by
  subst e
  cases r1
  refine ⟨b, rfl, ?_⟩
  cases b with
  | true =>
    show tb σ H1 Q
    exact p1.1 rfl σ F1 H1 (S.go g1) Q fun w c F2 H2 g2 r2 p2 => q w c F2 H2 (g1.trans g2) r2 p2
  | false =>
    show Q (.bl false) H1
    exact q _ _ F1 H1 g1 (.bl false) (p1.2 rfl)
theorem ev_or {ta tb : TE} {P : Dt → Prop} (h : Ev B ta es fun d => ∃ b, d = .bl b ∧ (b = true → P (.bl true)) ∧ (b = false → Ev B tb es P)) : Ev B (tOrV ta tb) es P := fun σ F H S Q q => h σ F H S _ fun v d F1 H1 g1 r1 ⟨b, e, p1⟩ => by
  subst e
  cases r1
  refine ⟨b, rfl, ?_⟩
  cases b with
  | false =>
    show tb σ H1 Q
    exact p1.2 rfl σ F1 H1 (S.go g1) Q fun w c F2 H2 g2 r2 p2 => q w c F2 H2 (g1.trans g2) r2 p2
  | true =>
    show Q (.bl true) H1
    exact q _ _ F1 H1 g1 (.bl true) (p1.1 rfl)
theorem ev_not {ta : TE} {P : Dt → Prop} (h : Ev B ta es fun d => ∃ b, d = .bl b ∧ P (.bl (!b))) : Ev B (tNotV ta) es P := fun σ F H S Q q => h σ F H S _ fun v d F1 H1 g1 r1 ⟨b, e, p1⟩ => by
  subst e; cases r1; exact ⟨b, rfl, q _ _ F1 H1 g1 (.bl _) p1⟩
theorem ev_if {t : TT} {ta tb : TE} {P : Dt → Prop} (h : EvT B t es fun b => (b = true → Ev B ta es P) ∧ (b = false → Ev B tb es P)) : Ev B (tIf t ta tb) es P := fun σ F H S Q q => h σ F H S _ fun b F1 H1 g1 p1 => by
  cases b with
  | true =>
    show ta σ H1 Q
    exact p1.1 rfl σ F1 H1 (S.go g1) Q fun w c F2 H2 g2 r2 p2 => q w c F2 H2 (g1.trans g2) r2 p2
  | false =>
    show tb σ H1 Q
    exact p1.2 rfl σ F1 H1 (S.go g1) Q fun w c F2 H2 g2 r2 p2 => q w c F2 H2 (g1.trans g2) r2 p2
theorem ev_chain {r r' : R2} {ta tb tc : TE} {P : Dt → Prop} (h : Ev B ta es fun x => Ev B tb es fun y => Op2 B r es x y fun z => ∃ k, z = .bl k ∧ (k = true → Ev B tc es fun w => Op2 B r' es y w P) ∧ (k = false → P (.bl false))) : Ev B (tChain r r' ta tb tc) es P := fun σ F H S Q q =>
  h σ F H S _ fun v x F1 H1 g1 r1 p1 => p1 σ F1 H1 (S.go g1) _ fun w y F2 H2 g2 r2 p2 => p2 σ F2 H2 v w ((S.go g1).go g2) (r1.mono g2.s1) r2 _ fun u z F3 H3 g3 r3 ⟨b, e, p3⟩ => by
    subst e
    cases r3
    refine ⟨b, rfl, ?_⟩
    have S3 := ((S.go g1).go g2).go g3
    cases b with
    | true =>
      show tc σ H3 _
      exact p3.1 rfl σ F3 H3 S3 _ fun a d F4 H4 g4 r4 p4 => p4 σ F4 H4 w a (S3.go g4) (r2.mono (g3.s1.trans g4.s1)) r4 Q fun b' d' F5 H5 g5 r5 p5 => q b' d' F5 H5 ((((g1.trans g2).trans g3).trans g4).trans g5) r5 p5
    | false =>
      show Q (.bl false) H3
      exact q _ _ F3 H3 ((g1.trans g2).trans g3) (.bl false) (p3.2 rfl)

/-! ### calls of built-ins -/
def Cal (B : Bs) (r : List V → Hp → VK → Prop) (es : List Sl) (ds : List Dt) (P : Dt → Prop) : Prop := ∀ σ F H vs, Stt B es σ F H → RpAll B.K F vs ds → ∀ Q : VK,
  (∀ v d F' H', Go B F H F' H' → Rp B.K F' v d → P d → Q v H') → r vs H Q
theorem ev_cb {r : List V → Hp → VK → Prop} {ta : TA} {P : Dt → Prop} (h : EvA B ta es fun ds => Cal B r es ds P) : Ev B (tCB r ta) es P := fun σ F H S Q q =>
  h σ F H S _ fun vs ds F1 H1 g1 r1 p1 => p1 σ F1 H1 vs (S.go g1) r1 Q fun v d F2 H2 g2 r2 p2 => q v d F2 H2 (g1.trans g2) r2 p2
theorem c_altL {r q : List V → Hp → VK → Prop} {ds : List Dt} {P : Dt → Prop} (h : Cal B r es ds P) : Cal B (cAlt r q) es ds P := fun σ F H vs S a Q k => .inl (h σ F H vs S a Q k)
theorem c_altR {r q : List V → Hp → VK → Prop} {ds : List Dt} {P : Dt → Prop} (h : Cal B q es ds P) : Cal B (cAlt r q) es ds P := fun σ F H vs S a Q k => .inr (h σ F H vs S a Q k)
theorem rp1 {K : PySem.W.Frag} {F : Hp} {vs : List V} {d : Dt} (h : RpAll K F vs [d]) : ∃ v, vs = [v] ∧ Rp K F v d := by
  cases h with
  | cons r t => cases t; exact ⟨_, rfl, r⟩
theorem rp2 {K : PySem.W.Frag} {F : Hp} {vs : List V} {d e : Dt} (h : RpAll K F vs [d, e]) : ∃ v w, vs = [v, w] ∧ Rp K F v d ∧ Rp K F w e := by
  cases h with
  | cons r t =>
    obtain ⟨w, rfl, q⟩ := rp1 t
    exact ⟨_, _, rfl, r, q⟩
/-- len -/
def lenD : Dt → Option Nat
  | .str z => if z.length ≤ 100000 then some z.length else none
  | .lst xs => some xs.length
  | .tup xs => some xs.length
  | _ => none
def rLenA (K : PySem.W.Frag) : List V → Hp → VK → Prop := fun xs H Q => ∃ x n, xs = [x] ∧ LenV K x H n ∧ Q (.int n) H
theorem c_len {x : Dt} {n : Nat} {P : Dt → Prop} (hn : lenD x = some n) (hp : P (.int n)) : Cal B (rLenA B.K) es [x] P := fun σ F H vs S a Q k => by
  obtain ⟨v, rfl, r⟩ := rp1 a
  refine ⟨v, n, rfl, ?_, k _ _ F H S.refl (.int _) hp⟩
  cases r with
  | str z =>
    have hn' : (if z.length ≤ 100000 then some z.length else none) = some n := hn
    split at hn'
    · cases hn'; exact ⟨size_of (by assumption), rfl⟩
    · cases hn'
  | lst h1 h2 => cases hn; exact .inl ⟨_, SqL.of (S.sub _ _ h1), h2.length.symm⟩
  | tup h1 h2 => cases hn; exact .inr ⟨_, sqT_mono S.sub h1, h2.length.symm⟩
  | _ => cases hn
theorem c_int {i : Int} {P : Dt → Prop} (hp : P (.int i)) : Cal B (fun xs H Q => (∃ i, xs = [.int i] ∧ Q (.int i) H) ∨ ∃ k, xs = [.bl k] ∧ Q (.int (if k then 1 else 0)) H) es [.int i] P := fun σ F H vs S a Q k => by
  obtain ⟨v, rfl, r⟩ := rp1 a
  cases r
  exact .inl ⟨i, rfl, k _ _ F H S.refl (.int _) hp⟩
theorem c_intB {b : Bool} {P : Dt → Prop} (hp : P (.int (if b then 1 else 0))) : Cal B (fun xs H Q => (∃ i, xs = [.int i] ∧ Q (.int i) H) ∨ ∃ k, xs = [.bl k] ∧ Q (.int (if k then 1 else 0)) H) es [.bl b] P := fun σ F H vs S a Q k => by
  obtain ⟨v, rfl, r⟩ := rp1 a
  cases r
  exact .inr ⟨b, rfl, k _ _ F H S.refl (.int _) hp⟩
theorem c_abs {i : Int} {P : Dt → Prop} (hp : P (.int (if i < 0 then -i else i))) : Cal B (fun xs H Q => ∃ i, xs = [.int i] ∧ Q (.int (if i < 0 then -i else i)) H) es [.int i] P := fun σ F H vs S a Q k => by
  obtain ⟨v, rfl, r⟩ := rp1 a
  cases r
  exact ⟨i, rfl, k _ _ F H S.refl (.int _) hp⟩
theorem c_all {bs : List Bool} {P : Dt → Prop} (hp : P (.bl (bs.all id))) : Cal B (rAll B.K) es [.lst (bs.map Dt.bl)] P := fun σ F H vs S a Q k => by
  obtain ⟨v, rfl, r⟩ := rp1 a
  cases r with
  | lst h1 h2 =>
    have e := h2.bls
    subst e
    exact ⟨_, bs, rfl, SqL.of (S.sub _ _ h1), k _ _ F H S.refl (.bl _) hp⟩
/-- isinstance(x, T) -/
def dTy : Dt → String
  | .non => "NoneType" | .bl _ => "bool" | .int _ => "int" | .str _ => "str" | .lst _ => "list" | .tup _ => "tuple"
  | .dct _ _ => "dict"
  | .obj _ _ _ => ""
  | .ali _ => ""
def plainD : Dt → Bool
  | .obj _ _ _ => false
  | .ali _ => false
  | _ => true
theorem ty_of {K : PySem.W.Frag} {F H : Hp} {v : V} {x : Dt} (a : Rp K F v x) (s : Same F H) (h : plainD x = true) : TyX K H v (.type (dTy x)) := by
  cases a with
  | non => exact .base .non
  | bl b => exact .base (.bl b)
  | int i => exact .base (.int i)
  | str z => exact .base (.str z)
  | lst h1 _ => exact .base (.lst (s _ _ h1))
  | tup h1 _ =>
    rcases h1 with (h1 | ⟨o, h1⟩) | ⟨o, its, n, k1, k2, k3⟩
    · exact .base (.tup (s _ _ h1))
    · exact .fTuple (s _ _ h1)
    · exact .kTuple k1 k2
  | dct h1 _ _ _ => exact .base (.dK (s _ _ h1))
  | obj _ _ _ _ => cases h
  | ali _ => cases h
def isiD (T : String) : Dt → Option Bool
  | .obj _ _ _ => none
  | .ali _ => none
  | x => kitB (dTy x) T
theorem ev_isi {te : TE} {T : String} {P : Dt → Prop} (h : Ev B te es fun d => ∃ b, isiD T d = some b ∧ P (.bl b)) : Ev B (tCB (rIsi B.K) (tCons te (tCons (tC (.ty T)) tNil))) es P := fun σ F H S Q q =>
  h σ F H S _ fun v x F1 H1 g1 r1 ⟨b, e, p1⟩ => by
    have hx : plainD x = true := by cases x <;> first | rfl | (cases e; done)
    have hk : kitB (dTy x) T = some b := by cases x <;> first | exact e | (cases hx; done)
    exact ⟨v, .ty T, _, _, b, rfl, .ty T, ty_of r1 g1.s2 hx, kit_ty hk, q _ _ F1 H1 g1 (.bl b) p1⟩
def anyIsi (x : String) : List String → Option Bool
  | [] => some false
  | T :: Ts => match kitB x T with
    | some true => some true
    | some false => anyIsi x Ts
    | none => none
theorem kitAny_of {K : PySem.W.Frag} {x : String} : ∀ {Ts : List String} {b : Bool}, anyIsi x Ts = some b → PySem.W.kitAny K (.type x) (Ts.map Value.type) = some b
  | [], b, h => by cases h; rfl
  | T :: Ts, b, h => by
    unfold anyIsi at h
    cases e : kitB x T with
    | none => rw [e] at h; cases h
    | some c =>
      rw [e] at h
      cases c with
      | true => cases h; exact kitAny_cons (kit_ty e) (fun z => nomatch z) fun _ => rfl
      | false => exact kitAny_cons (kit_ty e) (fun _ => kitAny_of h) fun z => nomatch z
def isiDs (Ts : List String) : Dt → Option Bool
  | .obj _ _ _ => none
  | .ali _ => none
  | x => anyIsi (dTy x) Ts
/-- isinstance(x, (T, U)) -/
theorem ev_isi2 {te : TE} {T U : String} {P : Dt → Prop} (h : Ev B te es fun d => ∃ b, isiDs [T, U] d = some b ∧ P (.bl b)) : Ev B (tCB (rIsiT B.K) (tCons te (tCons (tTup (tCons (tC (.ty T)) (tCons (tC (.ty U)) tNil))) tNil))) es P := fun σ F H S Q q =>
  h σ F H S _ fun v x F1 H1 g1 r1 ⟨b, e, p1⟩ => by
    have S1 := S.go g1
    have hx : plainD x = true := by cases x <;> first | rfl | (cases e; done)
    have hk : anyIsi (dTy x) [T, U] = some b := by cases x <;> first | exact e | (cases hx; done)
    refine ⟨by show 2 ≤ sizeLine; decide, fun p hp => ?_⟩
    have g2 := S1.allocO (o := .tup [.ty T, .ty U]) hp
    exact ⟨v, p, [.ty T, .ty U], _, [.type T, .type U], b, rfl, upd_same, .cons (.ty T) (.cons (.ty U) .nil), ty_of r1 (g1.s2.trans (same_upd hp)) hx, kitAny_of hk, q _ _ F1 _ (g1.trans g2) (.bl b) p1⟩

/-! ### calls of defs -/
/-- the promise of a def over data: Pre of the arguments, Post of arguments and result -/
def spD (K : PySem.W.Frag) (Pre : List Dt → Prop) (Post : List Dt → Dt → Prop) : Sp := fun vs H Q _ => ∃ F ds, Same F H ∧ RpAll K F vs ds ∧ Pre ds ∧
  ∀ v d F' H', Same F F' → (∀ c, H c ≠ none → F c = none → F' c = none) → Same F' H' → Same H H' → Rp K F' v d → Post ds d → Q v H'
theorem ev_call {Pre : List Dt → Prop} {Post : List Dt → Dt → Prop} {E : XK} {ta : TA} {P : Dt → Prop} (h : EvA B ta es fun ds => Pre ds ∧ ∀ d, Post ds d → P d) : Ev B (tCall (spD B.K Pre Post) [] E ta) es P := fun σ F H S Q q =>
  h σ F H S _ fun vs ds F1 H1 g1 r1 ⟨p1, p2⟩ => by
    rw [List.append_nil]
    exact ⟨F1, ds, g1.s2, r1, p1, fun v d F2 H2 s1 s2 s3 s4 r2 p3 => q v d F2 H2 (g1.trans ((S.go g1).pure s1 s3 s2 s4)) r2 (p2 d p3)⟩
/-- the same with defaults behind -/
theorem ev_callD {Pre : List Dt → Prop} {Post : List Dt → Dt → Prop} {E : XK} {ta : TA} {P : Dt → Prop} {dvs : List V} {dds : List Dt} (hd : ∀ F, RpAll B.K F dvs dds) (h : EvA B ta es fun ds => Pre (ds ++ dds) ∧ ∀ d, Post (ds ++ dds) d → P d) : Ev B (tCall (spD B.K Pre Post) dvs E ta) es P := fun σ F H S Q q =>
  h σ F H S _ fun vs ds F1 H1 g1 r1 ⟨p1, p2⟩ => ⟨F1, ds ++ dds, g1.s2, r1.app (hd F1), p1, fun v d F2 H2 s1 s2 s3 s4 r2 p3 => q v d F2 H2 (g1.trans ((S.go g1).pure s1 s3 s2 s4)) r2 (p2 d p3)⟩
/-- f(k = v, ..) -/
theorem ev_callN {Pre : List Dt → Prop} {Post : List Dt → Dt → Prop} {E : XK} {ta tk : TA} {P : Dt → Prop} {n m : Nat} {gV : List V → List V → List V} {gD : List Dt → List Dt → List Dt}
    (hg : ∀ F vs ds zs as, RpAll B.K F vs ds → RpAll B.K F zs as → RpAll B.K F (gV vs zs) (gD ds as))
    (h : EvA B ta es fun ds => EvA B tk es fun as => ds.length = n ∧ as.length = m ∧ Pre (gD ds as) ∧ ∀ d, Post (gD ds as) d → P d) : Ev B (tCallN n m (spD B.K Pre Post) gV E ta tk) es P := fun σ F H S Q q =>
  h σ F H S _ fun vs ds F1 H1 g1 r1 p0 => p0 σ F1 H1 (S.go g1) _ fun zs as F2 H2 g2 r2 ⟨l1, l2, p1, p2⟩ => by
    have g := g1.trans g2
    exact ⟨by rw [r1.length]; exact l1, by rw [r2.length]; exact l2, F2, gD ds as, g2.s2, hg F2 _ _ _ _ (r1.mono g2.s1) r2, p1, fun v d F3 H3 s1 s2 s3 s4 r3 p3 => q v d F3 H3 (g.trans ((S.go g).pure s1 s3 s2 s4)) r3 (p2 d p3)⟩
/-- a def that draws: the drawing's list first -/
def spB (K : PySem.W.Frag) (Pre : List Dt → Prop) (Post : List Dt → Dt → Prop) : Sp := fun vs H Q _ => ∃ b ws F ds, vs = .ref b :: ws ∧ Same F H ∧ BagAt K F H b ∧ RpAll K F ws ds ∧ Pre ds ∧
  ∀ v d F' H', Same F F' → (∀ c, H c ≠ none → F c = none → F' c = none) → Same F' H' → (∀ c o, c ≠ b → H c = some o → H' c = some o) → BagAt K F' H' b → Rp K F' v d → Post ds d → Q v H'
theorem ev_callB {Pre : List Dt → Prop} {Post : List Dt → Dt → Prop} {E : XK} {ta : TA} {P : Dt → Prop} {i : Nat} {b : Addr} (hb : B.bag = some b) (hi : es[i]? = some (.r (.ref b))) (h : EvA B ta es fun ds => Pre ds ∧ ∀ d, Post ds d → P d) :
    Ev B (tCall (spB B.K Pre Post) [] E (tCons (tVar i) ta)) es P := fun σ F H S Q q => ⟨_, S.raw hi, h σ F H S _ fun vs ds F1 H1 g1 r1 ⟨p1, p2⟩ => by
    show spB B.K Pre Post ((V.ref b :: vs) ++ []) H1 Q E
    rw [List.append_nil]
    refine ⟨b, vs, F1, ds, rfl, g1.s2, g1.bg b hb, r1, p1, fun v d F2 H2 s1 s2 s3 s4 s5 r2 p3 => q v d F2 H2 (g1.trans ⟨s1, s3, s2, fun c o hc ho => s4 c o (fun e => hc (by rw [e]; exact hb)) ho, fun b' hb' => ?_⟩) r2 (p2 d p3)⟩
    rw [hb] at hb'
    cases hb'
    exact s5⟩
end
end Y
/-! Y3: statements, loops, comprehensions, the promise of a def. -/
namespace Y
open PySem L2

structure Po where
  nx : List Sl → Prop
  bk : List Sl → Prop
  ct : List Sl → Prop
  rt : List Sl → Dt → Prop
  ro : List Dt → Prop := fun _ => False
def Sm (B : Bs) (t : TS) (es : List Sl) (p : Po) : Prop := ∀ σ F H (D : Ends), Stt B es σ F H →
  (∀ es' σ' F' H', Stt B es' σ' F' H' → Same F F' → p.nx es' → D.nx σ' H') →
  (∀ es' σ' F' H', Stt B es' σ' F' H' → Same F F' → p.bk es' → D.bk σ' H') →
  (∀ es' σ' F' H', Stt B es' σ' F' H' → Same F F' → p.ct es' → D.ct σ' H') →
  (∀ v d es' σ' F' H', Stt B es' σ' F' H' → Same F F' → Rp B.K F' v d → p.rt es' d → D.rt v H') →
  (∀ a vs xs es' σ' F' H', Stt B es' σ' F' H' → Same F F' → F' a = none → H' a = some (.lst vs) → RpAll B.K F' vs xs → B.H0 a = none → B.bag ≠ some a → p.ro xs → D.rt (.ref a) H') → t D σ H

section
variable {B : Bs} {es : List Sl} {p : Po}
theorem Stt.set {σ : St} {F H : Hp} {i : Nat} {e : Sl} {o : Option V} (S : Stt B es σ F H) (h : SlOk B.K F H o e) (hw : ∀ a xs, e = .own a xs → B.H0 a = none ∧ B.bag ≠ some a ∧ ∀ (j : Nat) c ys, es[j]? = some (.own c ys) → c ≠ a) : Stt B (es.set i e) (σ.set i o) F H where
  sub := S.sub
  s0 := S.s0
  ou := S.ou
  fr := S.fr
  bg := S.bg
  len := by rw [List.length_set, List.length_set]; exact S.len
  ok := fun j e' o' h1 h2 => by
    by_cases hj : i = j
    · subst hj
      have l1 : i < es.length := by
        have := (List.getElem?_eq_some_iff.mp h1).1
        rwa [List.length_set] at this
      rw [List.getElem?_set_self l1] at h1
      rw [List.getElem?_set_self (by rw [S.len]; exact l1)] at h2
      cases h1; cases h2; exact h
    · rw [List.getElem?_set_ne hj] at h1 h2
      exact S.ok j e' o' h1 h2
  ow := fun j a xs h1 => by
    by_cases hj : i = j
    · subst hj
      have l1 : i < es.length := by
        have := (List.getElem?_eq_some_iff.mp h1).1
        rwa [List.length_set] at this
      rw [List.getElem?_set_self l1] at h1
      cases h1
      obtain ⟨k1, k2, _⟩ := hw a xs rfl
      exact ⟨k1, k2⟩
    · rw [List.getElem?_set_ne hj] at h1
      exact S.ow j a xs h1
  dis := fun j l a b xs ys hjl h1 h2 => by
    by_cases hj : i = j
    · subst hj
      have l1 : i < es.length := by
        have := (List.getElem?_eq_some_iff.mp h1).1
        rwa [List.length_set] at this
      rw [List.getElem?_set_self l1] at h1
      rw [List.getElem?_set_ne hjl] at h2
      cases h1
      exact ((hw a xs rfl).2.2 l b ys h2).symm
    · rw [List.getElem?_set_ne hj] at h1
      by_cases hl : i = l
      · subst hl
        have l1 : i < es.length := by
          have := (List.getElem?_eq_some_iff.mp h2).1
          rwa [List.length_set] at this
        rw [List.getElem?_set_self l1] at h2
        cases h2
        exact (hw b ys rfl).2.2 j a xs h1
      · rw [List.getElem?_set_ne hl] at h2
        exact S.dis j l a b xs ys hjl h1 h2
theorem Stt.setD {σ : St} {F H : Hp} {i : Nat} {v : V} {x : Dt} (S : Stt B es σ F H) (r : Rp B.K F v x) : Stt B (es.set i (.d x)) (σ.set i (some v)) F H := S.set ⟨v, rfl, r⟩ fun _ _ e => nomatch e
theorem Stt.setO {σ : St} {F H : Hp} {i : Nat} {a : Addr} {vs : List V} {xs : List Dt} (S : Stt B es σ F H) (h1 : F a = none) (h2 : H a = some (.lst vs)) (r : RpAll B.K F vs xs) (h3 : B.H0 a = none) (h4 : B.bag ≠ some a) (h5 : ∀ (j : Nat) c ys, es[j]? = some (.own c ys) → c ≠ a) :
    Stt B (es.set i (.own a xs)) (σ.set i (some (.ref a))) F H := S.set ⟨vs, rfl, h1, h2, r⟩ fun _ _ e => by cases e; exact ⟨h3, h4, h5⟩

theorem sm_seq {t u : TS} (h : Sm B t es { p with nx := fun es' => Sm B u es' p }) : Sm B (tSeq t u) es p := fun σ F H D S n b c r ro =>
  h σ F H { D with nx := u D } S (fun es' σ' F' H' S' s' q => q σ' F' H' D S' (fun e2 a2 F2 H2 S2 s2 q2 => n e2 a2 F2 H2 S2 (s'.trans s2) q2) (fun e2 a2 F2 H2 S2 s2 q2 => b e2 a2 F2 H2 S2 (s'.trans s2) q2)
    (fun e2 a2 F2 H2 S2 s2 q2 => c e2 a2 F2 H2 S2 (s'.trans s2) q2) (fun v d e2 a2 F2 H2 S2 s2 q2 => r v d e2 a2 F2 H2 S2 (s'.trans s2) q2) (fun a vs xs e2 a2 F2 H2 S2 s2 => ro a vs xs e2 a2 F2 H2 S2 (s'.trans s2))) b c r ro
theorem sm_next (h : p.nx es) : Sm B tNext es p := fun σ F H D S n _ _ _ _ => n es σ F H S (Same.refl F) h
theorem sm_brk (h : p.bk es) : Sm B tBreak es p := fun σ F H D S _ n _ _ _ => n es σ F H S (Same.refl F) h
theorem sm_cont (h : p.ct es) : Sm B tCont es p := fun σ F H D S _ _ n _ _ => n es σ F H S (Same.refl F) h
theorem sm_imp {t : TS} {p' : Po} (h : Sm B t es p') (h1 : ∀ e, p'.nx e → p.nx e) (h2 : ∀ e, p'.bk e → p.bk e) (h3 : ∀ e, p'.ct e → p.ct e) (h4 : ∀ e d, p'.rt e d → p.rt e d) (h5 : ∀ d, p'.ro d → p.ro d) : Sm B t es p := fun σ F H D S n b c r ro =>
  h σ F H D S (fun e a F' H' S' s q => n e a F' H' S' s (h1 e q)) (fun e a F' H' S' s q => b e a F' H' S' s (h2 e q)) (fun e a F' H' S' s q => c e a F' H' S' s (h3 e q)) (fun v d e a F' H' S' s q z => r v d e a F' H' S' s q (h4 e d z)) fun a vs xs e2 a2 F2 H2 S2 s2 k1 k2 k3 k4 k5 z => ro a vs xs e2 a2 F2 H2 S2 s2 k1 k2 k3 k4 k5 (h5 xs z)
theorem sm_retO {te : TE} (h : EvO B te es p.ro) : Sm B (tRet te) es p := fun σ F H D S _ _ _ _ ro => h σ F H S _ fun a vs xs F1 H1 g1 h0 h1 h2 r1 p1 => ro a vs xs es σ F1 H1 (S.go g1) g1.s1 h1 h2 r1 (S.new0 h0) (S.newB h0) p1
theorem sm_ret {te : TE} (h : Ev B te es (p.rt es)) : Sm B (tRet te) es p := fun σ F H D S _ _ _ r _ => h σ F H S _ fun v d F1 H1 g1 r1 p1 => r v d es σ F1 H1 (S.go g1) g1.s1 r1 p1
theorem sm_if {tc : TT} {t u : TS} (h : EvT B tc es fun b => (b = true → Sm B t es p) ∧ (b = false → Sm B u es p)) : Sm B (tIfS tc t u) es p := fun σ F H D S n b c r ro => h σ F H S _ fun k F1 H1 g1 p1 => by
  have S1 := S.go g1
  cases k with
  | true =>
    show t D σ H1
    exact p1.1 rfl σ F1 H1 D S1 (fun e2 a2 F2 H2 S2 s2 q2 => n e2 a2 F2 H2 S2 (g1.s1.trans s2) q2) (fun e2 a2 F2 H2 S2 s2 q2 => b e2 a2 F2 H2 S2 (g1.s1.trans s2) q2)
      (fun e2 a2 F2 H2 S2 s2 q2 => c e2 a2 F2 H2 S2 (g1.s1.trans s2) q2) (fun v d e2 a2 F2 H2 S2 s2 q2 => r v d e2 a2 F2 H2 S2 (g1.s1.trans s2) q2) (fun a vs xs e2 a2 F2 H2 S2 s2 => ro a vs xs e2 a2 F2 H2 S2 (g1.s1.trans s2))
  | false =>
    show u D σ H1
    exact p1.2 rfl σ F1 H1 D S1 (fun e2 a2 F2 H2 S2 s2 q2 => n e2 a2 F2 H2 S2 (g1.s1.trans s2) q2) (fun e2 a2 F2 H2 S2 s2 q2 => b e2 a2 F2 H2 S2 (g1.s1.trans s2) q2)
      (fun e2 a2 F2 H2 S2 s2 q2 => c e2 a2 F2 H2 S2 (g1.s1.trans s2) q2) (fun v d e2 a2 F2 H2 S2 s2 q2 => r v d e2 a2 F2 H2 S2 (g1.s1.trans s2) q2) (fun a vs xs e2 a2 F2 H2 S2 s2 => ro a vs xs e2 a2 F2 H2 S2 (g1.s1.trans s2))
theorem sm_drop {te : TE} (h : Ev B te es fun _ => p.nx es) : Sm B (tDrop te) es p := fun σ F H D S n _ _ _ _ => h σ F H S _ fun v d F1 H1 g1 r1 p1 => n es σ F1 H1 (S.go g1) g1.s1 p1
/-! ### targets -/
def Tg (B : Bs) (g : TG) (es : List Sl) (x : Dt) (P : List Sl → Prop) : Prop := ∀ σ F H v, Stt B es σ F H → Rp B.K F v x → ∀ Q : St → Hp → Prop, (∀ es' σ' F' H', Stt B es' σ' F' H' → Same F F' → P es' → Q σ' H') → g v σ H Q
def Tgs (B : Bs) (g : TGs) (es : List Sl) (xs : List Dt) (P : List Sl → Prop) : Prop := ∀ σ F H vs, Stt B es σ F H → RpAll B.K F vs xs → ∀ Q : St → Hp → Prop, (∀ es' σ' F' H', Stt B es' σ' F' H' → Same F F' → P es' → Q σ' H') → g vs σ H Q
theorem tg_name {i : Nat} {x : Dt} {P : List Sl → Prop} (h : P (es.set i (.d x))) : Tg B (gName i) es x P := fun σ F H v S r Q q => q _ _ F H (S.setD r) (Same.refl F) h
theorem tgs_nil {P : List Sl → Prop} (h : P es) : Tgs B gNil es [] P := fun σ F H vs S r Q q => by
  cases r
  exact ⟨rfl, q es σ F H S (Same.refl F) h⟩
theorem tgs_cons {t : TG} {u : TGs} {x : Dt} {xs : List Dt} {P : List Sl → Prop} (h : Tg B t es x fun es' => Tgs B u es' xs P) : Tgs B (gCons t u) es (x :: xs) P := fun σ F H vs S r Q q => by
  cases r with
  | cons r1 r2 =>
    exact ⟨_, _, rfl, h σ F H _ S r1 _ fun es' σ' F' H' S' s' p1 => p1 σ' F' H' _ S' (r2.mono s') Q fun e2 a2 F2 H2 S2 s2 p2 => q e2 a2 F2 H2 S2 (s'.trans s2) p2⟩
theorem tg_tup {n : Nat} {t : TGs} {xs : List Dt} {P : List Sl → Prop} (hn : xs.length = n) (h : Tgs B t es xs P) : Tg B (gTup B.K n t) es (.tup xs) P := fun σ F H v S r Q q => by
  cases r with
  | tup h1 h2 => exact ⟨_, _, rfl, sqT_mono S.sub h1, by rw [h2.length]; exact hn, h σ F H _ S h2 Q q⟩
theorem sm_asg {te : TE} {g : TG} (h : Ev B te es fun d => Tg B g es d p.nx) : Sm B (tAsg te g) es p := fun σ F H D S n _ _ _ _ => h σ F H S _ fun v d F1 H1 g1 r1 p1 => p1 σ F1 H1 v (S.go g1) r1 _ fun e2 a2 F2 H2 S2 s2 q2 => n e2 a2 F2 H2 S2 (g1.s1.trans s2) q2
theorem sm_set {te : TE} {i : Nat} (h : Ev B te es fun d => p.nx (es.set i (.d d))) : Sm B (tAsg te (gName i)) es p := sm_asg (h.imp fun d q => tg_name q)
theorem sm_setO {te : TE} {i : Nat} (h : EvO B te es fun xs => ∀ a, p.nx (es.set i (.own a xs))) : Sm B (tAsg te (gName i)) es p := fun σ F H D S n _ _ _ _ => h σ F H S _ fun a vs xs F1 H1 g1 h0 h1 h2 r1 p1 => by
  have S1 := S.go g1
  exact n _ _ F1 H1 (S1.setO h1 h2 r1 (S.new0 h0) (S.newB h0) fun j c ys hj => S.newS h0 j ys hj) g1.s1 (p1 a)
theorem sm_par {i j : Nat} {ta : TA} (h : EvA B ta es fun ds => ∃ x y, ds = [x, y] ∧ p.nx ((es.set i (.d x)).set j (.d y))) : Sm B (tPar i j ta) es p := fun σ F H D S n _ _ _ _ => h σ F H S _ fun vs ds F1 H1 g1 r1 ⟨x, y, e, p1⟩ => by
  subst e
  obtain ⟨v, w, rfl, a, b⟩ := rp2 r1
  exact ⟨v, w, rfl, n _ _ F1 H1 (((S.go g1).setD a).setD b) g1.s1 p1⟩
theorem sm_aug {i : Nat} {te : TE} {f : Int → Int → Int} {a : Int} (hi : es[i]? = some (.d (.int a))) (h : Ev B te es fun d => ∃ b, d = .int b ∧ p.nx (es.set i (.d (.int (f a b))))) : Sm B (tAug i te (ipI f)) es p := fun σ F H D S n _ _ _ _ => by
  obtain ⟨v, h1, h2⟩ := S.dat hi
  cases h2
  exact ⟨_, h1, h σ F H S _ fun w d F1 H1 g1 r1 ⟨b, e, p1⟩ => by
    subst e; cases r1; exact ⟨a, b, rfl, rfl, n _ _ F1 H1 ((S.go g1).setD (.int _)) g1.s1 p1⟩⟩

/-! ### a list of one's own -/
theorem Stt.own {σ : St} {F H : Hp} {i : Nat} {a : Addr} {xs : List Dt} (S : Stt B es σ F H) (h : es[i]? = some (.own a xs)) : ∃ vs, σ[i]? = some (some (.ref a)) ∧ F a = none ∧ H a = some (.lst vs) ∧ RpAll B.K F vs xs := by
  obtain ⟨o, h1, vs, rfl, k⟩ := S.slot h
  exact ⟨vs, h1, k⟩
theorem Stt.freeze {σ : St} {F H : Hp} {i : Nat} {xs : List Dt} {a : Addr} {vs : List V} (S : Stt B es σ F H) (h : es[i]? = some (.own a xs)) (hs : σ[i]? = some (some (.ref a))) (h1 : F a = none) (h2 : H a = some (.lst vs)) (h3 : RpAll B.K F vs xs) :
    Stt B (es.set i (.d (.lst xs))) σ (upd F a (.lst vs)) H where
  sub := fun c o e => by
    by_cases hc : c = a
    · subst hc; rw [upd_same] at e; rw [h2, e]
    · rw [upd_ne hc] at e; exact S.sub c o e
  s0 := S.s0.trans (same_upd h1)
  ou := fun c k1 k2 => by
    have hc : c ≠ a := fun e => k1 (by rw [e]; exact (S.ow i a xs h).1)
    rw [upd_ne hc]; exact S.ou c k1 k2
  fr := S.fr
  bg := fun b hb => by
    obtain ⟨k1, ws, ys, k2, k3, k4⟩ := S.bg b hb
    have hba : b ≠ a := fun q => (S.ow i a xs h).2 (by rw [hb, q])
    exact ⟨by rw [upd_ne hba]; exact k1, ws, ys, k2, k3.mono (same_upd h1), k4⟩
  len := by rw [List.length_set]; exact S.len
  ok := fun j e o k1 k2 => by
    by_cases hj : i = j
    · subst hj
      have l1 : i < es.length := (List.getElem?_eq_some_iff.mp h).1
      rw [List.getElem?_set_self l1] at k1
      cases k1
      rw [hs] at k2
      cases k2
      exact ⟨_, rfl, .lst upd_same (h3.mono (same_upd h1))⟩
    · rw [List.getElem?_set_ne hj] at k1
      have q := S.ok j e o k1 k2
      cases e with
      | no => exact q
      | any => trivial
      | d x => obtain ⟨v, z1, z2⟩ := q; exact ⟨v, z1, z2.mono (same_upd h1)⟩
      | r v => exact q
      | own c ys =>
        obtain ⟨ws, z1, z2, z3, z4⟩ := q
        have hca : c ≠ a := (S.dis i j a c xs ys hj h k1).symm
        exact ⟨ws, z1, by rw [upd_ne hca]; exact z2, z3, z4.mono (same_upd h1)⟩
  ow := fun j c ys k1 => by
    by_cases hj : i = j
    · subst hj
      have l1 : i < es.length := (List.getElem?_eq_some_iff.mp h).1
      rw [List.getElem?_set_self l1] at k1; cases k1
    · rw [List.getElem?_set_ne hj] at k1
      exact S.ow j c ys k1
  dis := fun j l c e ys zs hjl k1 k2 => by
    have l1 : i < es.length := (List.getElem?_eq_some_iff.mp h).1
    by_cases hj : i = j
    · subst hj; rw [List.getElem?_set_self l1] at k1; cases k1
    · by_cases hl : i = l
      · subst hl; rw [List.getElem?_set_self l1] at k2; cases k2
      · rw [List.getElem?_set_ne hj] at k1
        rw [List.getElem?_set_ne hl] at k2
        exact S.dis j l c e ys zs hjl k1 k2
theorem sm_freeze {t : TS} (i : Nat) {a : Addr} {xs : List Dt} (h : es[i]? = some (.own a xs)) (k : Sm B t (es.set i (.d (.lst xs))) p) : Sm B t es p := fun σ F H D S n b c r ro => by
  obtain ⟨vs, h1, h2, h3, h4⟩ := S.own h
  have s : Same F (upd F a (.lst vs)) := same_upd h2
  exact k σ _ H D (S.freeze h h1 h2 h3 h4) (fun e2 a2 F2 H2 S2 s2 q2 => n e2 a2 F2 H2 S2 (s.trans s2) q2) (fun e2 a2 F2 H2 S2 s2 q2 => b e2 a2 F2 H2 S2 (s.trans s2) q2)
    (fun e2 a2 F2 H2 S2 s2 q2 => c e2 a2 F2 H2 S2 (s.trans s2) q2) (fun v d e2 a2 F2 H2 S2 s2 q2 => r v d e2 a2 F2 H2 S2 (s.trans s2) q2) (fun a vs xs e2 a2 F2 H2 S2 s2 => ro a vs xs e2 a2 F2 H2 S2 (s.trans s2))
/-- the list at an own slot is changed -/
theorem Stt.change {σ : St} {F H : Hp} {i : Nat} {xs ys : List Dt} {a : Addr} {ws : List V} (S : Stt B es σ F H) (h : es[i]? = some (.own a xs)) (hs : σ[i]? = some (some (.ref a))) (h1 : F a = none) (h3 : RpAll B.K F ws ys) :
    Stt B (es.set i (.own a ys)) σ F (upd H a (.lst ws)) where
  sub := fun c o e => by
    rw [upd_ne (ne_of_none e h1)]; exact S.sub c o e
  s0 := S.s0
  ou := S.ou
  fr := fun c o k1 k2 => by
    have hc : c ≠ a := fun e => by
      have := (S.ow i a xs h).1
      rw [← e, k1] at this; cases this
    rw [upd_ne hc]; exact S.fr c o k1 k2
  bg := fun b hb => by
    obtain ⟨k1, ws, ys, k2, k3, k4⟩ := S.bg b hb
    have hba : b ≠ a := fun q => (S.ow i a xs h).2 (by rw [hb, q])
    exact ⟨k1, ws, ys, by rw [upd_ne hba]; exact k2, k3, k4⟩
  len := by rw [List.length_set]; exact S.len
  ok := fun j e o k1 k2 => by
    by_cases hj : i = j
    · subst hj
      have l1 : i < es.length := (List.getElem?_eq_some_iff.mp h).1
      rw [List.getElem?_set_self l1] at k1
      cases k1
      rw [hs] at k2
      cases k2
      exact ⟨ws, rfl, h1, upd_same, h3⟩
    · rw [List.getElem?_set_ne hj] at k1
      have q := S.ok j e o k1 k2
      cases e with
      | no => exact q
      | any => trivial
      | d x => exact q
      | r v => exact q
      | own c zs =>
        obtain ⟨us, z1, z2, z3, z4⟩ := q
        have hca : c ≠ a := (S.dis i j a c xs zs hj h k1).symm
        exact ⟨us, z1, z2, by rw [upd_ne hca]; exact z3, z4⟩
  ow := fun j c zs k1 => by
    by_cases hj : i = j
    · subst hj
      have l1 : i < es.length := (List.getElem?_eq_some_iff.mp h).1
      rw [List.getElem?_set_self l1] at k1
      cases k1
      exact S.ow i a xs h
    · rw [List.getElem?_set_ne hj] at k1
      exact S.ow j c zs k1
  dis := fun j l c e ys' zs hjl k1 k2 => by
    have l1 : i < es.length := (List.getElem?_eq_some_iff.mp h).1
    by_cases hj : i = j
    · subst hj
      rw [List.getElem?_set_self l1] at k1
      cases k1
      rw [List.getElem?_set_ne hjl] at k2
      exact S.dis i l a e xs zs hjl h k2
    · rw [List.getElem?_set_ne hj] at k1
      by_cases hl : i = l
      · subst hl
        rw [List.getElem?_set_self l1] at k2
        cases k2
        exact S.dis j i c a ys' xs hjl k1 h
      · rw [List.getElem?_set_ne hl] at k2
        exact S.dis j l c e ys' zs hjl k1 k2
theorem sm_append {i : Nat} {te : TE} {a : Addr} {xs : List Dt} (hi : es[i]? = some (.own a xs)) (h : Ev B te es fun d => xs.length < 100000 ∧ p.nx (es.set i (.own a (xs ++ [d])))) : Sm B (tDrop (tBM B.K "list" rAppend (tVar i) (tCons te tNil))) es p := fun σ F H D S n _ _ _ _ => by
  obtain ⟨vs, h1, h2, h3, h4⟩ := S.own hi
  refine ⟨_, h1, .inl ⟨rfl, _, SqL.of h3⟩, h σ F H S _ fun v d F1 H1 g1 r1 ⟨p1, p2⟩ => ?_⟩
  have S1 := S.go g1
  obtain ⟨vs', k1, k2, k3, k4⟩ := S1.own hi
  refine ⟨a, vs', v, rfl, rfl, k3, size_lt (by rw [k4.length]; exact p1), n _ _ F1 _ (S1.change hi h1 k2 (k4.app (.cons r1 .nil))) g1.s1 p2⟩

/-- an item of an own list is read; is stored; its length -/
theorem ev_ixOwn {i : Nat} {a : Addr} {xs : List Dt} {tb : TE} {P : Dt → Prop} (hi : es[i]? = some (.own a xs)) (h : Ev B tb es fun y => ∃ j, y = .int j ∧ ∃ x, atI xs j = some x ∧ P x) : Ev B (tOp (rIx B.K) (tVar i) tb) es P := fun σ F H S Q q => by
  obtain ⟨vs, h1, h2, h3, h4⟩ := S.own hi
  refine ⟨_, h1, h σ F H S _ fun w y F1 H1 g1 r1 ⟨j, e, x, hx, p1⟩ => ?_⟩
  subst e
  cases r1
  have S1 := S.go g1
  obtain ⟨vs', k1, k2, k3, k4⟩ := S1.own hi
  unfold atI at hx
  cases e : ixN xs.length j with
  | none => rw [e] at hx; cases hx
  | some n =>
    rw [e] at hx
    obtain ⟨u, z1, z2⟩ := k4.get (show xs[n]? = some x from hx)
    refine .inl ⟨a, vs', j, u, rfl, rfl, SqL.of k3, ?_, q _ _ F1 H1 g1 z2 p1⟩
    unfold atI
    rw [k4.length, e]
    exact z1
theorem sm_setItem {i : Nat} {a : Addr} {xs : List Dt} {te tj : TE} (hi : es[i]? = some (.own a xs)) (h : Ev B te es fun d => Ev B tj es fun y => ∃ j, y = .int j ∧ ∃ k, ixN xs.length j = some k ∧ p.nx (es.set i (.own a (xs.set k d)))) : Sm B (tAsg te (gSub (tVar i) tj rSetL)) es p := fun σ F H D S n _ _ _ _ =>
  h σ F H S _ fun v d F1 H1 g1 r1 p1 => by
    have S1 := S.go g1
    obtain ⟨vs, h1, h2, h3, h4⟩ := S1.own hi
    refine ⟨_, h1, p1 σ F1 H1 S1 _ fun w y F2 H2 g2 r2 ⟨j, e, k, hk, p2⟩ => ?_⟩
    subst e
    cases r2
    have S2 := S1.go g2
    obtain ⟨vs', k1, k2, k3, k4⟩ := S2.own hi
    exact ⟨a, vs', j, k, rfl, rfl, k3, by rw [k4.length]; exact hk, n _ _ F2 _ (S2.change hi h1 k2 (k4.set (r1.mono g2.s1) k)) (g1.s1.trans g2.s1) p2⟩
theorem ev_lenOwn {i : Nat} {a : Addr} {xs : List Dt} {P : Dt → Prop} (hi : es[i]? = some (.own a xs)) (h : P (.int xs.length)) : Ev B (tCB (rLenA B.K) (tCons (tVar i) tNil)) es P := fun σ F H S Q q => by
  obtain ⟨vs, h1, h2, h3, h4⟩ := S.own hi
  exact ⟨_, h1, _, xs.length, rfl, .inl ⟨vs, SqL.of h3, h4.length.symm⟩, q _ _ F H S.refl (.int _) h⟩

/-! ### walks -/
def Yl (K : PySem.W.Frag) (F : Hp) (H : Hp) (v : V) (x : Dt) (H' : Hp) : Prop := (H' = H ∧ Rp K F v x) ∨ ∃ T a b x1 x2, v = .ref T ∧ H T = none ∧ H' = upd H T (.tup [a, b]) ∧ Rp K F a x1 ∧ Rp K F b x2 ∧ x = .tup [x1, x2]
structure ItD (K : PySem.W.Frag) (J : It) (F : Hp) (xs : List Dt) : Prop where
  goes : ∀ (i : Nat) H, i < xs.length → Same F H → J.go i H
  stops : ∀ H, Same F H → J.stop xs.length H
  yields : ∀ (i : Nat) H v H', i < xs.length → Same F H → J.yld i H v H' → ∃ x, xs[i]? = some x ∧ Yl K F H v x H'
def EvI (B : Bs) (wi : TI) (es : List Sl) (P : List Dt → Prop) : Prop := ∀ σ F H, Stt B es σ F H → ∀ R : It → Hp → Prop, (∀ J xs F' H', Go B F H F' H' → ItD B.K J F' xs → P xs → R J H') → wi σ H R
theorem Yl.go {σ : St} {F F1 H H' : Hp} {v : V} {x : Dt} (y : Yl B.K F H v x H') (S : Stt B es σ F1 H) (s : Same F F1) : ∃ F2, Go B F1 H F2 H' ∧ Rp B.K F2 v x := by
  rcases y with ⟨rfl, r⟩ | ⟨T, a, b, x1, x2, rfl, h1, rfl, r1, r2, rfl⟩
  · exact ⟨F1, S.refl, r.mono s⟩
  · have hF : F1 T = none := same_none S.sub h1
    have s2 : Same F (upd F1 T (.tup [a, b])) := s.trans (same_upd hF)
    exact ⟨upd F1 T (.tup [a, b]), S.alloc h1, .tup (SqT.of upd_same) (.cons (r1.mono s2) (.cons (r2.mono s2) .nil))⟩
theorem sm_for {wi : TI} {g : TG} {tb : TS} (h : EvI B wi es fun xs => ∃ I : Nat → List Sl → Prop, I 0 es ∧
    (∀ (i : Nat) x es', xs[i]? = some x → I i es' → Tg B g es' x fun e2 => Sm B tb e2 { p with nx := I (i + 1), bk := p.nx, ct := I (i + 1) }) ∧ ∀ es', I xs.length es' → p.nx es') : Sm B (tFor wi g tb) es p := fun σ F H D S n b c r ro =>
  h σ F H S _ fun J xs F1 H1 g1 it ⟨I, i0, is, id⟩ => by
    have S1 := S.go g1
    refine ⟨fun i m σ' H' => m = xs.length - i ∧ i ≤ xs.length ∧ ∃ es' F', Stt B es' σ' F' H' ∧ Same F1 F' ∧ I i es', ⟨xs.length, by simp, Nat.zero_le _, es, F1, S1, Same.refl F1, i0⟩, ?_⟩
    rintro i m σ' H' ⟨rfl, hi, es', F', S', s', hI⟩
    by_cases hlt : i < xs.length
    · refine .inr ⟨it.goes i H' hlt (s'.trans S'.sub), fun σ2 H2 => ∃ es2 F2, Stt B es2 σ2 F2 H2 ∧ Same F1 F2 ∧ I (i + 1) es2, fun σ2 H2 ⟨es2, F2, a1, a2, a3⟩ => ⟨xs.length - (i + 1), by omega, rfl, hlt, es2, F2, a1, a2, a3⟩, fun v H2 y => ?_⟩
      obtain ⟨x, hx, hy⟩ := it.yields i H' v H2 hlt (s'.trans S'.sub) y
      obtain ⟨F2, g2, rx⟩ := hy.go S' s'
      refine is i x es' hx hI σ' F2 H2 v (S'.go g2) rx _ fun es3 σ3 F3 H3 S3 s3 hm => ?_
      have s03 : Same F1 F3 := (s'.trans g2.s1).trans s3
      refine hm σ3 F3 H3 _ S3 (fun e4 a4 F4 H4 S4 s4 q4 => ⟨e4, F4, S4, s03.trans s4, q4⟩) (fun e4 a4 F4 H4 S4 s4 q4 => n e4 a4 F4 H4 S4 ((g1.s1.trans s03).trans s4) q4)
        (fun e4 a4 F4 H4 S4 s4 q4 => ⟨e4, F4, S4, s03.trans s4, q4⟩) (fun v d e4 a4 F4 H4 S4 s4 q4 => r v d e4 a4 F4 H4 S4 ((g1.s1.trans s03).trans s4) q4) (fun a vs xs e2 a2 F2 H2 S2 s2 => ro a vs xs e2 a2 F2 H2 S2 ((g1.s1.trans s03).trans s2))
    · have e : i = xs.length := by omega
      subst e
      exact .inl ⟨it.stops H' (s'.trans S'.sub), n es' σ' F' H' S' (g1.s1.trans s') (id es' hI)⟩
theorem itd_list {K : PySem.W.Frag} {F : Hp} {a : Addr} {vs : List V} {xs : List Dt} (h : F a = some (.lst vs)) (r : RpAll K F vs xs) : ItD K (Itl K a) F xs where
  goes := fun i H hi s => ⟨vs, vs[i]'(by rw [r.length]; exact hi), SqL.of (s _ _ h), by simp⟩
  stops := fun H s => ⟨vs, SqL.of (s _ _ h), by rw [r.length]; exact Nat.le_refl _⟩
  yields := fun i H v H' hi s y => by
    obtain ⟨e, y2⟩ := y
    obtain ⟨d, h1, h2⟩ := r.getV (y2 vs (SqL.of (s _ _ h)))
    exact ⟨d, h1, .inl ⟨e, h2⟩⟩
theorem itd_tup {K : PySem.W.Frag} {F : Hp} {a : Addr} {vs : List V} {xs : List Dt} (h : SqT K F a vs) (r : RpAll K F vs xs) : ItD K (Itt K a) F xs where
  goes := fun i H hi s => ⟨vs, vs[i]'(by rw [r.length]; exact hi), sqT_mono s h, by simp⟩
  stops := fun H s => ⟨vs, sqT_mono s h, by rw [r.length]; exact Nat.le_refl _⟩
  yields := fun i H v H' hi s y => by
    obtain ⟨e, y2⟩ := y
    obtain ⟨d, h1, h2⟩ := r.getV (y2 vs (sqT_mono s h))
    exact ⟨d, h1, .inl ⟨e, h2⟩⟩
def rangeD (lo : Int) (n : Nat) : List Dt := (List.range n).map fun (i : Nat) => Dt.int (lo + (i : Int))
theorem rangeD_len (lo : Int) (n : Nat) : (rangeD lo n).length = n := by simp [rangeD]
theorem rangeD_get {lo : Int} {n i : Nat} {x : Dt} (h : (rangeD lo n)[i]? = some x) : i < n ∧ x = .int (lo + (i : Int)) := by
  have hl := (List.getElem?_eq_some_iff.mp h).1
  rw [rangeD_len] at hl
  refine ⟨hl, ?_⟩
  simp [rangeD, hl] at h
  exact h.symm
theorem itd_range {K : PySem.W.Frag} {F : Hp} {lo : Int} {n : Nat} : ItD K (Itr lo n) F (rangeD lo n) where
  goes := fun i H hi _ => by rw [rangeD_len] at hi; exact hi
  stops := fun H _ => by rw [rangeD_len]; exact Nat.le_refl _
  yields := fun i H v H' hi _ y => by
    rw [rangeD_len] at hi
    obtain ⟨rfl, rfl⟩ := y
    exact ⟨_, by simp [rangeD, hi], .inl ⟨rfl, .int _⟩⟩
def signsD (z : Str) : List Dt := z.cps.toList.map fun c => Dt.str ⟨#[c]⟩
theorem signsD_len (z : Str) : (signsD z).length = z.cps.size := by simp [signsD]
theorem itd_str {K : PySem.W.Frag} {F : Hp} {z : Str} : ItD K (Its z) F (signsD z) where
  goes := fun i H hi _ => by rw [signsD_len] at hi; exact hi
  stops := fun H _ => by rw [signsD_len]; exact Nat.le_refl _
  yields := fun i H v H' hi _ y => by
    obtain ⟨rfl, c, h1, rfl⟩ := y
    refine ⟨.str ⟨#[c]⟩, ?_, .inl ⟨rfl, .str _⟩⟩
    rw [signsD, List.getElem?_map, Array.getElem?_toList, h1]; rfl
def pairD : List Dt → List Dt → List Dt
  | x :: xs, y :: ys => .tup [x, y] :: pairD xs ys
  | _, _ => []
theorem pairD_len : ∀ (xs ys : List Dt), (pairD xs ys).length = min xs.length ys.length
  | [], ys => by simp [pairD]
  | x :: xs, [] => by simp [pairD]
  | x :: xs, y :: ys => by simp only [pairD, List.length_cons, pairD_len xs ys]; omega
theorem pairD_get : ∀ {xs ys : List Dt} {i : Nat} {x y : Dt}, xs[i]? = some x → ys[i]? = some y → (pairD xs ys)[i]? = some (.tup [x, y])
  | [], _, i, _, _, h, _ => by simp at h
  | _ :: _, [], i, _, _, _, h => by simp at h
  | a :: xs, b :: ys, 0, x, y, h1, h2 => by simp at h1 h2; subst h1 h2; rfl
  | a :: xs, b :: ys, i + 1, x, y, h1, h2 => by
    have := pairD_get (i := i) (xs := xs) (ys := ys) (x := x) (y := y) (by simpa using h1) (by simpa using h2)
    simpa [pairD] using this
theorem itd_zip {K : PySem.W.Frag} {F : Hp} {a b : Addr} {vs ws : List V} {xs ys : List Dt} (h : F a = some (.lst vs)) (r : RpAll K F vs xs) (h' : F b = some (.lst ws)) (r' : RpAll K F ws ys) : ItD K (Itz K a b) F (pairD xs ys) where
  goes := fun i H hi s => by
    rw [pairD_len] at hi
    have l1 := r.length
    have l2 := r'.length
    have w := walk_zip (K := K) (a := a) (b := b) (xs := vs) (ys := ws) (n := min vs.length ws.length) rfl
    exact w.goes i H (by omega) ⟨SqL.of (s _ _ h), SqL.of (s _ _ h')⟩
  stops := fun H s => by
    have l1 := r.length
    have l2 := r'.length
    have w := walk_zip (K := K) (a := a) (b := b) (xs := vs) (ys := ws) (n := min vs.length ws.length) rfl
    have q := w.stops H ⟨SqL.of (s _ _ h), SqL.of (s _ _ h')⟩
    rw [pairD_len, ← l1, ← l2]
    exact q
  yields := fun i H v H' hi s y => by
    rw [pairD_len] at hi
    have l1 := r.length
    have l2 := r'.length
    have w := walk_zip (K := K) (a := a) (b := b) (xs := vs) (ys := ws) (n := min vs.length ws.length) rfl
    obtain ⟨T, x, z, e1, e2, e3, e4, e5⟩ := w.yields i H v H' (by omega) ⟨SqL.of (s _ _ h), SqL.of (s _ _ h')⟩ y
    obtain ⟨d1, k1, k2⟩ := r.getV e4
    obtain ⟨d2, k3, k4⟩ := r'.getV e5
    exact ⟨_, pairD_get k1 k3, .inr ⟨T, x, z, d1, d2, e1, e2, e3, k2, k4, rfl⟩⟩
theorem itd_zipT {K : PySem.W.Frag} {F : Hp} {a b : Addr} {vs ws : List V} {xs ys : List Dt} (h : SqT K F a vs) (r : RpAll K F vs xs) (h' : SqT K F b ws) (r' : RpAll K F ws ys) : ItD K (RZ.ItzT K a b) F (pairD xs ys) where
  goes := fun i H hi s => by
    rw [pairD_len] at hi
    have l1 := r.length
    have l2 := r'.length
    have i1 : i < vs.length := by omega
    have i2 : i < ws.length := by omega
    exact ⟨vs, ws, vs[i], ws[i], sqT_mono s h, sqT_mono s h', by simp [i1], by simp [i2]⟩
  stops := fun H s => by
    have l1 := r.length
    have l2 := r'.length
    exact ⟨vs, ws, sqT_mono s h, sqT_mono s h', by rw [pairD_len]; omega⟩
  yields := fun i H v H' hi s y => by
    rw [pairD_len] at hi
    obtain ⟨T, x, z, e1, e2, e3, e4, e5⟩ := y
    obtain ⟨d1, k1, k2⟩ := r.getV (e4 vs (sqT_mono s h))
    obtain ⟨d2, k3, k4⟩ := r'.getV (e5 ws (sqT_mono s h'))
    exact ⟨_, pairD_get k1 k3, .inr ⟨T, x, z, d1, d2, e1, e2, e3, k2, k4, rfl⟩⟩
theorem ei_list {te : TE} {P : List Dt → Prop} (h : Ev B te es fun d => ∃ xs, d = .lst xs ∧ P xs) : EvI B (iList B.K te) es P := fun σ F H S R q => h σ F H S _ fun v d F1 H1 g1 r1 ⟨xs, e, p1⟩ => by
  subst e
  cases r1 with
  | lst h1 h2 => exact ⟨_, rfl, ⟨_, SqL.of (g1.s2 _ _ h1)⟩, q _ xs F1 H1 g1 (itd_list h1 h2) p1⟩
theorem ei_tup {te : TE} {P : List Dt → Prop} (h : Ev B te es fun d => ∃ xs, d = .tup xs ∧ P xs) : EvI B (iTup B.K te) es P := fun σ F H S R q => h σ F H S _ fun v d F1 H1 g1 r1 ⟨xs, e, p1⟩ => by
  subst e
  cases r1 with
  | tup h1 h2 => exact ⟨_, rfl, ⟨_, sqT_mono g1.s2 h1⟩, q _ xs F1 H1 g1 (itd_tup h1 h2) p1⟩
theorem ei_rng1 {ta : TA} {P : List Dt → Prop} (h : EvA B ta es fun ds => ∃ n : Int, ds = [.int n] ∧ -(2 ^ 62) ≤ n ∧ n < 2 ^ 62 ∧ P (rangeD 0 n.toNat)) : EvI B (iRng1 ta) es P := fun σ F H S R q => h σ F H S _ fun vs ds F1 H1 g1 r1 ⟨n, e, l1, l2, p1⟩ => by
  subst e
  obtain ⟨v, rfl, r⟩ := rp1 r1
  cases r
  exact ⟨n, rfl, l1, l2, q _ _ F1 H1 g1 itd_range p1⟩
theorem ei_rng2 {ta : TA} {P : List Dt → Prop} (h : EvA B ta es fun ds => ∃ m n : Int, ds = [.int m, .int n] ∧ (-(2 ^ 62) ≤ m ∧ m < 2 ^ 62 ∧ -(2 ^ 62) ≤ n ∧ n < 2 ^ 62) ∧ P (rangeD m (n - m).toNat)) : EvI B (iRng2 ta) es P := fun σ F H S R q => h σ F H S _ fun vs ds F1 H1 g1 r1 ⟨m, n, e, l1, p1⟩ => by
  subst e
  obtain ⟨v, w, rfl, r, r'⟩ := rp2 r1
  cases r; cases r'
  exact ⟨m, n, rfl, l1, q _ _ F1 H1 g1 itd_range p1⟩
theorem ei_str {te : TE} {P : List Dt → Prop} (h : Ev B te es fun d => ∃ z, d = .str z ∧ P (signsD z)) : EvI B (iStr te) es P := fun σ F H S R q => h σ F H S _ fun v d F1 H1 g1 r1 ⟨z, e, p1⟩ => by
  subst e
  cases r1
  exact ⟨z, rfl, q _ _ F1 H1 g1 itd_str p1⟩
theorem ei_zip {ta : TA} {P : List Dt → Prop} (h : EvA B ta es fun ds => ∃ xs ys, (ds = [.lst xs, .lst ys] ∨ ds = [.tup xs, .tup ys]) ∧ P (pairD xs ys)) : EvI B (RZ.iZipA B.K ta) es P := fun σ F H S R q => h σ F H S _ fun vs ds F1 H1 g1 r1 ⟨xs, ys, e, p1⟩ => by
  rcases e with e | e
  · subst e
    obtain ⟨v, w, rfl, r, r'⟩ := rp2 r1
    cases r with
    | lst h1 h2 =>
      cases r' with
      | lst h3 h4 => exact ⟨_, _, _, _, rfl, .inl ⟨SqL.of (g1.s2 _ _ h1), SqL.of (g1.s2 _ _ h3), q _ _ F1 H1 g1 (itd_zip h1 h2 h3 h4) p1⟩⟩
  · subst e
    obtain ⟨v, w, rfl, r, r'⟩ := rp2 r1
    cases r with
    | tup h1 h2 =>
      cases r' with
      | tup h3 h4 => exact ⟨_, _, _, _, rfl, .inr ⟨sqT_mono g1.s2 h1, sqT_mono g1.s2 h3, q _ _ F1 H1 g1 (itd_zipT h1 h2 h3 h4) p1⟩⟩
/-! ### comprehensions -/
def wipeE (es : List Sl) : List Nat → List Sl
  | [] => es
  | v :: vs => (wipeE es vs).set v .no
theorem Stt.wipe {σ : St} {F H : Hp} (S : Stt B es σ F H) : ∀ vs : List Nat, Stt B (wipeE es vs) (wipe σ vs) F H
  | [] => S
  | v :: vs => (S.wipe vs).set (i := v) (e := .no) (o := none) rfl fun _ _ e => nomatch e
/-- what a target that stores into slots of vs alone does -/
def TgC (B : Bs) (g : TG) (es : List Sl) (vs : List Nat) (x : Dt) (P : List Sl → Prop) : Prop := ∀ σ F H v, Stt B es σ F H → Rp B.K F v x → ∀ Q : St → Hp → Prop, (∀ es' σ', Stt B es' σ' F H → wipe σ' vs = wipe σ vs → P es' → Q σ' H) → g v σ H Q
theorem tc_name {j : Nat} {x : Dt} {P : List Sl → Prop} (h : P (es.set j (.d x))) : TgC B (gName j) es [j] x P := fun σ F H v S r Q q => q _ _ (S.setD r) (by simp [wipe]) h
theorem tc_tup2 {i j : Nat} {x y : Dt} {P : List Sl → Prop} (hij : i ≠ j) (h : P ((es.set i (.d x)).set j (.d y))) : TgC B (gTup B.K 2 (gCons (gName i) (gCons (gName j) gNil))) es [i, j] (.tup [x, y]) P := fun σ F H v S r Q q => by
  cases r with
  | tup h1 h2 =>
    obtain ⟨a, b, rfl, r1, r2⟩ := rp2 h2
    refine ⟨_, _, rfl, sqT_mono S.sub h1, rfl, a, [b], rfl, b, [], rfl, rfl, q _ _ ((S.setD r1).setD r2) ?_ h⟩
    simp only [wipe]
    apply List.ext_getElem?
    intro k
    simp only [List.getElem?_set, List.length_set]
    by_cases h1 : i = k <;> by_cases h2 : j = k <;> simp [h1, h2]
theorem tc_tup2' {i j : Nat} {x y : Dt} {P : List Sl → Prop} (hij : i ≠ j) (h : P ((es.set i (.d x)).set j (.d y))) : TgC B (gTup B.K 2 (gCons (gName i) (gCons (gName j) gNil))) es [j, i] (.tup [x, y]) P := fun σ F H v S r Q q => by
  cases r with
  | tup h1 h2 =>
    obtain ⟨a, b, rfl, r1, r2⟩ := rp2 h2
    refine ⟨_, _, rfl, sqT_mono S.sub h1, rfl, a, [b], rfl, b, [], rfl, rfl, q _ _ ((S.setD r1).setD r2) ?_ h⟩
    simp only [wipe]
    apply List.ext_getElem?
    intro k
    simp only [List.getElem?_set, List.length_set]
    by_cases h1 : i = k <;> by_cases h2 : j = k <;> simp [h1, h2]
theorem wipe_wipe (σ : St) (vs : List Nat) : wipe (wipe σ vs) vs = wipe σ vs := by
  have key : ∀ (us : List Nat) (τ : St) (k : Nat), (wipe τ us)[k]? = if k ∈ us then (τ[k]?).map (fun _ => none) else τ[k]? := by
    intro us
    induction us with
    | nil => intro τ k; simp [wipe]
    | cons u us ih =>
      intro τ k
      rw [wipe, List.getElem?_set, wipe_length]
      by_cases h : u = k
      · subst h
        by_cases hl : u < τ.length
        · simp [hl]
        · simp [hl, ih]
      · rw [if_neg h, ih]
        by_cases h2 : k ∈ us
        · simp [h2]
        · have : ¬ k = u := fun e => h e.symm
          simp [h2, this]
  apply List.ext_getElem?
  intro k
  rw [key, key]
  by_cases h : k ∈ vs
  · simp only [h, if_true]
    cases σ[k]? <;> rfl
  · simp [h]
theorem eo_lc {wi : TI} {g : TG} {tt : TT} {te : TE} {vs : List Nat} {P : List Dt → Prop} (h : EvI B wi es fun xs => xs.length < 100000 ∧ ∃ I : Nat → List Dt → Prop, I 0 [] ∧
    (∀ (i : Nat) x acc, xs[i]? = some x → I i acc → TgC B g (wipeE es vs) vs x fun e2 => EvT B tt e2 fun b => (b = true → Ev B te e2 fun y => I (i + 1) (acc ++ [y])) ∧ (b = false → I (i + 1) acc)) ∧ ∀ acc, I xs.length acc → P acc) : EvO B (tLc wi g tt te vs) es P := fun σ F H S Q q =>
  h σ F H S _ fun J xs F1 H1 g1 it ⟨hlen, I, i0, is, id⟩ => by
    intro Dl hD
    have S1 := S.go g1
    have hH : H Dl = none := g1.new (S1.newB hD) hD
    have gD := S1.allocO (o := .lst []) hD
    refine ⟨fun i m H' => m = xs.length - i ∧ i ≤ xs.length ∧ ∃ F' ws acc, Go B F1 (upd H1 Dl (.lst [])) F' (upd H' Dl (.lst [])) ∧ F' Dl = none ∧ Same F' H' ∧ (∀ b, B.bag = some b → BagAt B.K F' H' b) ∧ H' Dl = some (.lst ws) ∧ RpAll B.K F' ws acc ∧ acc.length ≤ i ∧ I i acc,
      ⟨xs.length, by simp, Nat.zero_le _, F1, [], [], ?_, same_none S1.sub hD, gD.s2, gD.bg, upd_same, .nil, Nat.zero_le _, i0⟩, ?_⟩
    · rw [upd_upd]
      exact (S1.go gD).refl
    rintro i m H' ⟨rfl, hi, F', ws, acc, g', hF', s', b', hw, hr, hal, hI⟩
    have gAll : Go B F1 H1 F' H' := by
      refine ⟨g'.s1, s', fun c h1 h2 => ?_, fun c o h1 h2 => ?_, b'⟩
      · refine g'.nw c ?_ h2
        rw [upd_ne (fun e => h1 (by rw [e]; exact hD))]
        exact h1
      · have hc : c ≠ Dl := ne_of_none h2 hD
        have k := g'.kp c o h1 (by rw [upd_ne hc]; exact h2)
        rw [upd_ne hc] at k
        exact k
    have S' := S1.go gAll
    by_cases hlt : i < xs.length
    · refine .inr ⟨it.goes i H' hlt (g'.s1.trans s'), fun H2 => ∃ F2 ws2 acc2, Go B F1 (upd H1 Dl (.lst [])) F2 (upd H2 Dl (.lst [])) ∧ F2 Dl = none ∧ Same F2 H2 ∧ (∀ b, B.bag = some b → BagAt B.K F2 H2 b) ∧ H2 Dl = some (.lst ws2) ∧ RpAll B.K F2 ws2 acc2 ∧ acc2.length ≤ i + 1 ∧ I (i + 1) acc2,
        fun H2 q2 => ⟨xs.length - (i + 1), by omega, rfl, hlt, q2⟩, fun v H2 y => ?_⟩
      obtain ⟨x, hx, hy⟩ := it.yields i H' v H2 hlt (g'.s1.trans s') y
      obtain ⟨F2, g2, rx⟩ := hy.go S' g'.s1
      have S2 := (S'.go g2).wipe vs
      have hD' : B.bag ≠ some Dl := S1.newB hD
      refine is i x acc hx hI _ F2 H2 v S2 rx _ fun es3 σ3 S3 hw3 p3 => ?_
      rw [wipe_wipe] at hw3
      refine ⟨hw3, p3 σ3 F2 H2 S3 _ fun b F3 H3 g3 p4 => ?_⟩
      -- from (F', H') to (F3, H3): the new list stays
      have g23 : Go B F' H' F3 H3 := g2.trans g3
      have hl3 : H3 Dl = some (.lst ws) := g23.kp Dl _ hD' hw
      have hF3 : F3 Dl = none := g23.nw Dl (by rw [hw]; simp) hF'
      have fin : ∀ F4 H4, Go B F' H' F4 H4 → F4 Dl = none → ∀ o, Go B F1 (upd H1 Dl (.lst [])) F4 (upd (upd H4 Dl o) Dl (.lst [])) := fun F4 H4 g4 hn o => by
        rw [upd_upd]
        refine ⟨g'.s1.trans g4.s1, fun c u e => ?_, fun c h1 h2 => ?_, fun c u h1 h2 => ?_, fun b hb => ?_⟩
        · rw [upd_ne (ne_of_none e hn)]; exact g4.s2 c u e
        · by_cases hc : c = Dl
          · rw [hc]; exact hn
          · rw [upd_ne hc] at h1
            have := gAll.nw c h1 h2
            refine g4.nw c ?_ this
            by_cases hb : B.bag = some c
            · obtain ⟨_, z, _, k, _⟩ := b' c hb; rw [k]; simp
            · cases e : H1 c with
              | none => exact absurd e h1
              | some u => rw [gAll.kp c u hb e]; simp
        · by_cases hc : c = Dl
          · rw [hc, upd_same] at h2 ⊢; exact h2
          · rw [upd_ne hc] at h2 ⊢; exact g4.kp c u h1 (gAll.kp c u h1 h2)
        · obtain ⟨k1, z, zs, k2, k3, k4⟩ := g4.bg b hb
          have hbd : b ≠ Dl := fun e => hD' (by rw [hb, e])
          exact ⟨k1, z, zs, by rw [upd_ne hbd]; exact k2, k3, k4⟩
      cases b with
      | true =>
        show te σ3 H3 _
        refine p4.1 rfl σ3 F3 H3 (S3.go g3) _ fun w y' F4 H4 g4 r4 p5 => ?_
        have g24 := g23.trans g4
        have hl4 : H4 Dl = some (.lst ws) := g24.kp Dl _ hD' hw
        have hF4 : F4 Dl = none := g24.nw Dl (by rw [hw]; simp) hF'
        have hb4 : ∀ b, B.bag = some b → BagAt B.K F4 (upd H4 Dl (.lst (ws ++ [w]))) b := fun b hb => by
          obtain ⟨k1, z, zs, k2, k3, k4⟩ := g4.bg b hb
          have hbd : b ≠ Dl := fun e => hD' (by rw [hb, e])
          exact ⟨k1, z, zs, by rw [upd_ne hbd]; exact k2, k3, k4⟩
        refine ⟨ws, hl4, size_lt (by rw [hr.length]; omega), F4, ws ++ [w], acc ++ [y'], fin F4 H4 g24 hF4 _, hF4, fun c u e => by rw [upd_ne (ne_of_none e hF4)]; exact g4.s2 c u e, hb4, upd_same, (hr.mono g24.s1).app (.cons r4 .nil), by simp; omega, p5⟩
      | false =>
        have e3 : upd H3 Dl (.lst ws) = H3 := by
          funext c
          by_cases hc : c = Dl
          · rw [hc, upd_same, hl3]
          · rw [upd_ne hc]
        refine ⟨F3, ws, acc, ?_, hF3, g3.s2, g3.bg, hl3, hr.mono g23.s1, by omega, p4.2 rfl⟩
        have := fin F3 H3 g23 hF3 (.lst ws)
        rw [e3] at this
        exact this
    · have e : i = xs.length := by omega
      subst e
      exact .inl ⟨it.stops H' (g'.s1.trans s'), q Dl ws acc F' H' (g1.trans gAll) hH hF' hw hr (id acc hI)⟩
theorem et_yes {P : Bool → Prop} (h : P true) : EvT B tYes es P := fun σ F H S Q q => q true F H S.refl h
/-- [f(x) for x in xs] where each item is told -/
theorem eo_map {wi : TI} {g : TG} {te : TE} {vs : List Nat} {P : List Dt → Prop} (h : EvI B wi es fun xs => xs.length < 100000 ∧ ∃ R : Dt → Dt → Prop,
    (∀ (i : Nat) x, xs[i]? = some x → TgC B g (wipeE es vs) vs x fun e2 => Ev B te e2 fun y => R x y) ∧ ∀ ys : List Dt, ys.length = xs.length → (∀ (i : Nat) x y, xs[i]? = some x → ys[i]? = some y → R x y) → P ys) : EvO B (tLc wi g tYes te vs) es P :=
  eo_lc fun σ F H S Q q => h σ F H S Q fun J xs F1 H1 g1 it ⟨hl, R, h1, h2⟩ => q J xs F1 H1 g1 it ⟨hl, fun i acc => i ≤ xs.length ∧ acc.length = i ∧ ∀ (k : Nat) x y, xs[k]? = some x → acc[k]? = some y → R x y, ⟨Nat.zero_le _, rfl, fun k x y _ e => by simp at e⟩,
    fun i x acc hx ⟨hi, ha, hR⟩ σ F H v S r Q q => h1 i x hx σ F H v S r Q fun es' σ' S' hw p => q es' σ' S' hw (et_yes ⟨fun _ => p.imp fun y hy => ⟨(List.getElem?_eq_some_iff.mp hx).1, by rw [List.length_append, ha]; rfl, fun k a b ka kb => by
      by_cases hk : k < acc.length
      · rw [List.getElem?_append_left hk] at kb; exact hR k a b ka kb
      · rw [List.getElem?_append_right (by omega)] at kb
        have hk2 : k = i := by
          have := (List.getElem?_eq_some_iff.mp kb).1
          simp at this; omega
        subst hk2
        rw [hx] at ka
        cases ka
        rw [ha] at kb
        simp at kb
        rw [← kb]
        exact hy⟩, fun z => nomatch z⟩), fun acc ⟨_, ha, hR⟩ => h2 acc ha hR⟩
end

/-! ### the promise of a def -/
/-- a def that hands back a new list -/
def spO (K : PySem.W.Frag) (Pre : List Dt → Prop) (Post : List Dt → List Dt → Prop) : Sp := fun vs H Q _ => ∃ F ds, Same F H ∧ RpAll K F vs ds ∧ Pre ds ∧
  ∀ a ws xs F' H', Same F F' → (∀ c, H c ≠ none → F c = none → F' c = none) → Same F' H' → Same H H' → H a = none → F' a = none → H' a = some (.lst ws) → RpAll K F' ws xs → Post ds xs → Q (.ref a) H'
theorem eo_call {B : Bs} {es : List Sl} {Pre : List Dt → Prop} {Post : List Dt → List Dt → Prop} {E : XK} {ta : TA} {P : List Dt → Prop} (h : EvA B ta es fun ds => Pre ds ∧ ∀ d, Post ds d → P d) : EvO B (tCall (spO B.K Pre Post) [] E ta) es P := fun σ F H S Q q =>
  h σ F H S _ fun vs ds F1 H1 g1 r1 ⟨p1, p2⟩ => by
    rw [List.append_nil]
    exact ⟨F1, ds, g1.s2, r1, p1, fun a ws xs F2 H2 s1 s2 s3 s4 h1 h2 h3 r2 p3 => q a ws xs F2 H2 (g1.trans ((S.go g1).pure s1 s3 s2 s4)) (g1.new ((S.go g1).newB h1) h1) h2 h3 r2 (p2 xs p3)⟩
theorem eo_callD {B : Bs} {es : List Sl} {Pre : List Dt → Prop} {Post : List Dt → List Dt → Prop} {E : XK} {ta : TA} {P : List Dt → Prop} {dvs : List V} {dds : List Dt} (hd : ∀ F, RpAll B.K F dvs dds) (h : EvA B ta es fun ds => Pre (ds ++ dds) ∧ ∀ d, Post (ds ++ dds) d → P d) : EvO B (tCall (spO B.K Pre Post) dvs E ta) es P := fun σ F H S Q q =>
  h σ F H S _ fun vs ds F1 H1 g1 r1 ⟨p1, p2⟩ => ⟨F1, ds ++ dds, g1.s2, r1.app (hd F1), p1, fun a ws xs F2 H2 s1 s2 s3 s4 h1 h2 h3 r2 p3 => q a ws xs F2 H2 (g1.trans ((S.go g1).pure s1 s3 s2 s4)) (g1.new ((S.go g1).newB h1) h1) h2 h3 r2 (p2 xs p3)⟩
theorem eo_callN {B : Bs} {es : List Sl} {Pre : List Dt → Prop} {Post : List Dt → List Dt → Prop} {E : XK} {ta tk : TA} {P : List Dt → Prop} {n m : Nat} {gV : List V → List V → List V} {gD : List Dt → List Dt → List Dt}
    (hg : ∀ F vs ds zs as, RpAll B.K F vs ds → RpAll B.K F zs as → RpAll B.K F (gV vs zs) (gD ds as))
    (h : EvA B ta es fun ds => EvA B tk es fun as => ds.length = n ∧ as.length = m ∧ Pre (gD ds as) ∧ ∀ d, Post (gD ds as) d → P d) : EvO B (tCallN n m (spO B.K Pre Post) gV E ta tk) es P := fun σ F H S Q q =>
  h σ F H S _ fun vs ds F1 H1 g1 r1 p0 => p0 σ F1 H1 (S.go g1) _ fun zs as F2 H2 g2 r2 ⟨l1, l2, p1, p2⟩ => by
    have g := g1.trans g2
    exact ⟨by rw [r1.length]; exact l1, by rw [r2.length]; exact l2, F2, gD ds as, g2.s2, hg F2 _ _ _ _ (r1.mono g2.s1) r2, p1, fun a ws xs F3 H3 s1 s2 s3 s4 h1 h2 h3 r3 p3 => q a ws xs F3 H3 (g.trans ((S.go g).pure s1 s3 s2 s4)) (g.new ((S.go g).newB h1) h1) h2 h3 r3 (p2 xs p3)⟩
theorem start_stt {K : PySem.W.Frag} {F H : Hp} {vs : List V} {ds : List Dt} {N : List Str} {bag : Option Addr} (s : Same F H) (r : RpAll K F vs ds) (hb : ∀ b, bag = some b → BagAt K F H b) :
    Stt ⟨K, F, H, bag⟩ (ds.map Sl.d ++ List.replicate (N.length - ds.length) Sl.no) (L2.start N vs) F H where
  sub := s
  s0 := Same.refl F
  ou := fun c _ h => h
  fr := fun c o h _ => h
  bg := hb
  len := by simp [L2.start, r.length]
  ok := fun i e o h1 h2 => by
    unfold L2.start at h2
    by_cases hi : i < ds.length
    · rw [List.getElem?_append_left (by simpa using hi)] at h1
      rw [List.getElem?_append_left (by simp [r.length]; exact hi)] at h2
      rw [List.getElem?_map] at h1 h2
      cases e1 : ds[i]? with
      | none => rw [e1] at h1; cases h1
      | some d =>
        obtain ⟨v, k1, k2⟩ := r.get e1
        rw [e1] at h1
        rw [k1] at h2
        cases h1; cases h2
        exact ⟨v, rfl, k2⟩
    · rw [List.getElem?_append_right (by simpa using hi)] at h1
      rw [List.getElem?_append_right (by simp [r.length]; omega)] at h2
      have q1 := List.mem_of_getElem? h1
      have q2 := List.mem_of_getElem? h2
      rw [List.eq_of_mem_replicate q1, List.eq_of_mem_replicate q2]
      rfl
  ow := fun i a xs h1 => by
    have hm := List.mem_of_getElem? h1
    rcases List.mem_append.mp hm with h | h
    · obtain ⟨d, _, e⟩ := List.mem_map.mp h; cases e
    · cases List.eq_of_mem_replicate h
  dis := fun i j a b xs ys _ h1 => by
    have hm := List.mem_of_getElem? h1
    rcases List.mem_append.mp hm with h | h
    · obtain ⟨d, _, e⟩ := List.mem_map.mp h; cases e
    · cases List.eq_of_mem_replicate h
abbrev env0 (N : List Str) (ds : List Dt) : List Sl := ds.map Sl.d ++ List.replicate (N.length - ds.length) Sl.no
abbrev env1 (N : List Str) (b : Addr) (ds : List Dt) : List Sl := .r (.ref b) :: (ds.map Sl.d ++ List.replicate (N.length - (ds.length + 1)) Sl.no)
section
variable {P : Program} {w : World} {K : PySem.W.Frag} {mg : Str → Option Value} {base : Heap} {x qual : Str} {st : Stmt} {f : Addr} {fd : FuncData} {N ps : List Str} {k : Nat} {Pre : List Dt → Prop} {Post : List Dt → Dt → Prop}
theorem fn_data (G : Fun K x qual st f fd) (S : FnScope N ps (defScope st)) (hl : ∀ ds, Pre ds → ds.length = ps.length)
    (hb : ∀ (cdv : Value) (A : Around) (outer : List Env) (s : Shared) (H : Hp) (E : XK), Room k (A.deeper (PyProof.Rows.envOfC qual (defScope st) s.heap.objs.size f cdv)) →
      ∃ t, PSs (cxOf CX0 P w K mg base N qual (defScope st) f cdv A outer s H E).nox (defBody st) t ∧ ∀ F0 H0 ds, Pre ds → Sm ⟨K, F0, H0, none⟩ t (env0 N ds) { nx := fun _ => Post ds .non, bk := fun _ => False, ct := fun _ => False, rt := fun _ => Post ds }) :
    FnOk P w K mg base CX0 (k + 1) f fd ps (spD K Pre Post) := by
  refine G.ok S (fun vs H Q E h => ?_) (fun cdv A outer s H vs Q E hr h => ?_)
  · obtain ⟨F, ds, _, r, hp, _⟩ := h
    rw [r.length]; exact hl ds hp
  · obtain ⟨F, ds, hs, r, hp, q⟩ := h
    obtain ⟨t, hd, hm⟩ := hb cdv A outer s H E hr
    refine ⟨t, hd, hm F H ds hp _ F H _ (start_stt hs r (fun _ z => nomatch z)) (fun es' σ' F' H' S' s' p => ?_) (fun _ _ _ _ _ _ z => z.elim) (fun _ _ _ _ _ _ z => z.elim) (fun v d es' σ' F' H' S' s' rv p => ?_) (fun _ _ _ _ _ _ _ _ _ _ _ _ _ _ z => z.elim)⟩
    · exact q _ _ F' H' s' S'.ou S'.sub (fun c o e => S'.fr c o e (fun z => nomatch z)) .non p
    · exact q _ _ F' H' s' S'.ou S'.sub (fun c o e => S'.fr c o e (fun z => nomatch z)) rv p
/-- a def whose first argument is the drawing's list, changed within -/
theorem fn_draw (G : Fun K x qual st f fd) (S : FnScope N ps (defScope st)) (hl : ∀ ds, Pre ds → ds.length + 1 = ps.length)
    (hb : ∀ (cdv : Value) (A : Around) (outer : List Env) (s : Shared) (H : Hp) (E : XK), Room k (A.deeper (PyProof.Rows.envOfC qual (defScope st) s.heap.objs.size f cdv)) →
      ∃ t, PSs (cxOf CX0 P w K mg base N qual (defScope st) f cdv A outer s H E).nox (defBody st) t ∧ ∀ F0 H0 b xs ds, BagD xs → Pre ds →
        Sm ⟨K, F0, H0, none⟩ t (.own b xs :: (ds.map Sl.d ++ List.replicate (N.length - (ds.length + 1)) Sl.no)) { nx := fun _ => False, bk := fun _ => False, ct := fun _ => False, rt := fun es' d => Post ds d ∧ ∃ ys, es'[0]? = some (.own b ys) ∧ BagD ys }) :
    FnOk P w K mg base CX0 (k + 1) f fd ps (spB K Pre Post) := by
  refine G.ok S (fun vs H Q E h => ?_) (fun cdv A outer s H vs Q E hr h => ?_)
  · obtain ⟨b, ws, F, ds, rfl, _, _, r, hp, _⟩ := h
    rw [List.length_cons, r.length]; exact hl ds hp
  · obtain ⟨b, ws, F, ds, rfl, hs, ⟨hFb, us, xs, hus, hr0, hB⟩, r, hp, q⟩ := h
    obtain ⟨t, hd, hm⟩ := hb cdv A outer s H E hr
    let H0 : Hp := fun c => if c = b then none else H c
    have e0 : H0 b = none := if_pos rfl
    have e1 : ∀ c, c ≠ b → H0 c = H c := fun c hc => if_neg hc
    have S0 := start_stt (K := K) (F := F) (H := H) (vs := .non :: ws) (ds := .non :: ds) (N := N) (bag := none) hs (.cons .non r) (fun _ z => nomatch z)
    have no : ∀ (j : Nat) c zs, (Sl.d .non :: (ds.map Sl.d ++ List.replicate (N.length - (ds.length + 1)) Sl.no))[j]? = some (.own c zs) → False := fun j c zs hj => by
      have hm := List.mem_of_getElem? hj
      rcases List.mem_cons.mp hm with h | h
      · cases h
      · rcases List.mem_append.mp h with h | h
        · obtain ⟨d, _, e⟩ := List.mem_map.mp h; cases e
        · cases List.eq_of_mem_replicate h
    have S1 : Stt ⟨K, F, H0, none⟩ (.d .non :: (ds.map Sl.d ++ List.replicate (N.length - (ds.length + 1)) Sl.no)) (L2.start N (.non :: ws)) F H := by
      refine ⟨S0.sub, S0.s0, fun c h1 h2 => h2, fun c o h1 _ => ?_, (fun _ z => nomatch z), S0.len, S0.ok, fun i a ys h1 => (no i a ys h1).elim, S0.dis⟩
      have h1 : H0 c = some o := h1
      by_cases hc : c = b
      · rw [hc, e0] at h1; cases h1
      · rw [e1 c hc] at h1; exact h1
    have S2 : Stt ⟨K, F, H0, none⟩ (.own b xs :: (ds.map Sl.d ++ List.replicate (N.length - (ds.length + 1)) Sl.no)) (L2.start N (.ref b :: ws)) F H :=
      S1.set (i := 0) (e := .own b xs) (o := some (.ref b)) ⟨us, rfl, hFb, hus, hr0⟩ fun c ys e => by
        cases e
        exact ⟨e0, (fun z => nomatch z), fun j c zs hj => (no j c zs hj).elim⟩
    refine ⟨t, hd, hm F H0 b xs ds hB hp _ F H _ S2 (fun _ _ _ _ _ _ z => z.elim) (fun _ _ _ _ _ _ z => z.elim) (fun _ _ _ _ _ _ z => z.elim) (fun v d es' σ' F' H' S' s' rv ⟨p, ys, hy, hB'⟩ => ?_) (fun _ _ _ _ _ _ _ _ _ _ _ _ _ _ z => z.elim)⟩
    obtain ⟨vs', k1, k2, k3, k4⟩ := S'.own hy
    refine q v d F' H' s' (fun c h1 h2 => ?_) S'.sub (fun c o hc ho => S'.fr c o (by show H0 c = some o; rw [e1 c hc]; exact ho) (fun z => nomatch z)) ⟨k2, vs', ys, k3, k4, hB'⟩ rv p
    by_cases hc : c = b
    · rw [hc]; exact k2
    · exact S'.ou c (by show H0 c ≠ none; rw [e1 c hc]; exact h1) h2
/-- the promise of a def that hands back a new list -/
theorem fn_own {PostO : List Dt → List Dt → Prop} (G : Fun K x qual st f fd) (S : FnScope N ps (defScope st)) (hl : ∀ ds, Pre ds → ds.length = ps.length)
    (hb : ∀ (cdv : Value) (A : Around) (outer : List Env) (s : Shared) (H : Hp) (E : XK), Room k (A.deeper (PyProof.Rows.envOfC qual (defScope st) s.heap.objs.size f cdv)) →
      ∃ t, PSs (cxOf CX0 P w K mg base N qual (defScope st) f cdv A outer s H E).nox (defBody st) t ∧ ∀ F0 H0 ds, Pre ds → Sm ⟨K, F0, H0, none⟩ t (env0 N ds) { nx := fun _ => False, bk := fun _ => False, ct := fun _ => False, rt := fun _ _ => False, ro := PostO ds }) :
    FnOk P w K mg base CX0 (k + 1) f fd ps (spO K Pre PostO) := by
  refine G.ok S (fun vs H Q E h => ?_) (fun cdv A outer s H vs Q E hr h => ?_)
  · obtain ⟨F, ds, _, r, hp, _⟩ := h
    rw [r.length]; exact hl ds hp
  · obtain ⟨F, ds, hs, r, hp, q⟩ := h
    obtain ⟨t, hd, hm⟩ := hb cdv A outer s H E hr
    refine ⟨t, hd, hm F H ds hp _ F H _ (start_stt hs r (fun _ z => nomatch z)) (fun _ _ _ _ _ _ z => z.elim) (fun _ _ _ _ _ _ z => z.elim) (fun _ _ _ _ _ _ z => z.elim) (fun _ _ _ _ _ _ _ _ _ z => z.elim) (fun a vs xs es' σ' F' H' S' s' h1 h2 r1 h3 h4 p => ?_)⟩
    exact q a vs xs F' H' s' S'.ou S'.sub (fun c o e => S'.fr c o e (fun z => nomatch z)) h3 h1 h2 r1 p
theorem start_sttB {F H : Hp} {vs : List V} {ds : List Dt} {b : Addr} (s : Same F H) (r : RpAll K F vs ds) (hb : BagAt K F H b) : Stt ⟨K, F, H, some b⟩ (env1 N b ds) (L2.start N (.ref b :: vs)) F H := by
  have S := start_stt (K := K) (F := F) (H := H) (vs := .non :: vs) (ds := .non :: ds) (N := N) (bag := some b) s (.cons .non r) (fun b' e => by cases e; exact hb)
  have S2 := S.set (i := 0) (e := .r (.ref b)) (o := some (.ref b)) rfl fun _ _ e => nomatch e
  exact S2
theorem fn_bag (G : Fun K x qual st f fd) (S : FnScope N ps (defScope st)) (hl : ∀ ds, Pre ds → ds.length + 1 = ps.length)
    (hb : ∀ (cdv : Value) (A : Around) (outer : List Env) (s : Shared) (H : Hp) (E : XK), Room k (A.deeper (PyProof.Rows.envOfC qual (defScope st) s.heap.objs.size f cdv)) →
      ∃ t, PSs (cxOf CX0 P w K mg base N qual (defScope st) f cdv A outer s H E).nox (defBody st) t ∧ ∀ F0 H0 b ds, Pre ds → Sm ⟨K, F0, H0, some b⟩ t (env1 N b ds) { nx := fun _ => Post ds .non, bk := fun _ => False, ct := fun _ => False, rt := fun _ => Post ds }) :
    FnOk P w K mg base CX0 (k + 1) f fd ps (spB K Pre Post) := by
  refine G.ok S (fun vs H Q E h => ?_) (fun cdv A outer s H vs Q E hr h => ?_)
  · obtain ⟨b, ws, F, ds, rfl, _, _, r, hp, _⟩ := h
    rw [List.length_cons, r.length]; exact hl ds hp
  · obtain ⟨b, ws, F, ds, rfl, hs, hB, r, hp, q⟩ := h
    obtain ⟨t, hd, hm⟩ := hb cdv A outer s H E hr
    have nb : ∀ c, c ≠ b → (some b : Option Addr) ≠ some c := fun c h e => h (Option.some.inj e).symm
    refine ⟨t, hd, hm F H b ds hp _ F H _ (start_sttB hs r hB) (fun es' σ' F' H' S' s' p => ?_) (fun _ _ _ _ _ _ z => z.elim) (fun _ _ _ _ _ _ z => z.elim) (fun v d es' σ' F' H' S' s' rv p => ?_) (fun _ _ _ _ _ _ _ _ _ _ _ _ _ _ z => z.elim)⟩
    · exact q _ _ F' H' s' S'.ou S'.sub (fun c o hc e => S'.fr c o e (nb c hc)) (S'.bg b rfl) .non p
    · exact q _ _ F' H' s' S'.ou S'.sub (fun c o hc e => S'.fr c o e (nb c hc)) (S'.bg b rfl) rv p
end
end Y
/-! Y4: rules by union, keyword calls, texts. -/
namespace Y
open PySem L2

/-! ### derivations: one rule for an operator, whatever the kinds -/
def rAddS' : R2 := fun x y H Q => ∃ i j, x = .str i ∧ y = .str j ∧ i.length + j.length ≤ sizeLine ∧ Q (.str (i ++ j)) H
def rPlus (K : PySem.W.Frag) : R2 := rAlt (rI0 fun i j => .int (i + j)) (rAlt rAddS' (rAlt rCat (rCatT K)))
def rInS1 : R2 := fun x y H Q => ∃ (c : Nat) (z : Str), x = .str ⟨#[c]⟩ ∧ y = .str z ∧ Q (.bl (decide (c ∈ z.cps.toList))) H
def rNiS1 : R2 := fun x y H Q => ∃ (c : Nat) (z : Str), x = .str ⟨#[c]⟩ ∧ y = .str z ∧ Q (.bl (!decide (c ∈ z.cps.toList))) H
def rInA (K : PySem.W.Frag) : R2 := rAlt (rIn K false) rInS1
def rNiA (K : PySem.W.Frag) : R2 := rAlt (rIn K true) rNiS1
def rEqA (K : PySem.W.Frag) : R2 := rAlt rEq (rEqD K)
def rNeA (K : PySem.W.Frag) : R2 := rAlt rNe (rNeD K)
def rIsN' : R2 := fun x y H Q => y = .non ∧ Q (.bl (decide (x = .non))) H
def rSlA (K : PySem.W.Frag) : V → Option Int → Option Int → Hp → VK → Prop := fun x lo hi H Q => rSlL K x lo hi H Q ∨ (rSlT K x lo hi H Q ∨ rSlS x lo hi H Q)
def rListA (K : PySem.W.Frag) : List V → Hp → VK → Prop := fun xs H Q => ∃ p ys, xs = [.ref p] ∧ (SqL K H p ys ∨ SqT K H p ys) ∧ ∀ l, H l = none → Q (.ref l) (upd H l (.lst ys))
def rTupleA (K : PySem.W.Frag) : List V → Hp → VK → Prop := fun xs H Q => ∃ p ys, xs = [.ref p] ∧ ((SqL K H p ys ∧ ∀ l, H l = none → Q (.ref l) (upd H l (.tup ys))) ∨ (SqT K H p ys ∧ Q (.ref p) H))
def rJoinA (K : PySem.W.Frag) : V → List V → Hp → VK → Prop := fun x xs H Q => ∃ a p, ∃ ys : List Str, x = .str a ∧ xs = [.ref p] ∧ (SqL K H p (ys.map V.str) ∨ SqT K H p (ys.map V.str)) ∧ (ys.map (·.length)).sum + ys.length * a.length ≤ 16777216 ∧ Q (.str (Txt.join a ys)) H
section
variable {X : Cx} {K : PySem.W.Frag}
theorem op_plus (hK : X.K = K := by rfl) : OpR X (binaryOp .Add) (rPlus K) := hK ▸ op_alt op_add (op_alt op_add_str (op_alt op_cat op_catT))
theorem op_inA (hK : X.K = K := by rfl) : OpR X (compareOp .In) (rInA K) := hK ▸ op_alt op_in_seq op_in_sign
theorem op_niA (hK : X.K = K := by rfl) : OpR X (compareOp .NotIn) (rNiA K) := hK ▸ op_alt op_notIn_seq op_notIn_sign
theorem op_eqA (hu : X.A.units + 64 < cLine) (hK : X.K = K := by rfl) : OpR X (compareOp .Eq) (rEqA K) := hK ▸ op_alt op_eq (op_eqD hu)
theorem op_neA (hu : X.A.units + 64 < cLine) (hK : X.K = K := by rfl) : OpR X (compareOp .NotEq) (rNeA K) := hK ▸ op_alt op_ne (op_neD hu)
theorem sl_any (hK : X.K = K := by rfl) : SlR X (rSlA K) := hK ▸ sl_list.or (sl_tup.or sl_str)
theorem ix_any (hK : X.K = K := by rfl) : IxR X (rIx K) := hK ▸ ix_seq
theorem call_lenA (hK : X.K = K := by rfl) : CallR X (.builtin "len") (rLenA K) := hK ▸ call_len
theorem call_isiA (hK : X.K = K := by rfl) : CallR X (.builtin "isinstance") (rIsi K) := hK ▸ call_isi
theorem call_isiTA (hK : X.K = K := by rfl) : CallR X (.builtin "isinstance") (rIsiT K) := hK ▸ call_isiT
theorem cr_allA (hc : X.calm = true) (hK : X.K = K := by rfl) : CallR X (.builtin "all") (rAll K) := hK ▸ cr_all hc
theorem cr_anyA (hc : X.calm = true) (hK : X.K = K := by rfl) : CallR X (.builtin "any") (rAny K) := hK ▸ cr_any hc
theorem call_listA (hK : X.K = K := by rfl) : CallR X (.type "list") (rListA K) := hK ▸ call_list_of
theorem call_tupleA (hK : X.K = K := by rfl) : CallR X (.type "tuple") (rTupleA K) := hK ▸ call_tuple_of
theorem pi_listA {tg l : Expr} {tl : TE} (hl : PE X l tl) (hK : X.K = K := by rfl) : PI X tg l (iList K tl) := hK ▸ pi_list hl
theorem pi_tupA {tg l : Expr} {tl : TE} (hl : PE X l tl) (hK : X.K = K := by rfl) : PI X tg l (iTup K tl) := hK ▸ pi_tup hl
theorem pi_zipB {e e2 : Expr} {ta : TA} {p pos tpos : Pos} {elts : List Expr} {kk : Nat} (hg : Gl X "zip") (hm : X.mg "zip" = none) (ha : PA X [e, e2] ta) (hK : X.K = K := by rfl)
    (hs : starEach [e, e2] X.env = (false, eval e X.env) :: starEach [e2] X.env := by rfl) (hpl : (backTo pos (starEach [e2] X.env)).any (·.1) = false := by rfl) :
    PI X (.Tuple elts kk tpos) (.Call (.Name "zip" p) [e, e2] [] pos) (RZ.iZipA K ta) := hK ▸ RZ.pi_zipA hg hm ha hs hpl
theorem pe_joinA {o e : Expr} {apos pos : Pos} {to te : TE} (ho : PE X o to) (he : PE X e te) (hK : X.K = K := by rfl) (hs : starEach [e] X.env = [(false, eval e X.env)] := by rfl) (hbase : attributeBase o "join" X.env (eval o X.env) = eval o X.env := by rfl) (hline : (apos.endLine == pos.line) = true := by rfl) :
    PE X (.Call (.Attribute o "join" apos) [e] [] pos) (tM1 (rJoinA K) to te) := hK ▸ pe_join ho he hs hbase hline
theorem pg_tupA {es : List Expr} {k : Nat} {t : TGs} {n : Nat} {pos : Pos} (hc : X.calm = true) (h : PGs X es t) (hK : X.K = K := by rfl)
    (hn : (assignEach es X.env).length = n := by rfl) (hst : (assignEach es X.env).findIdx? (·.1) = none := by rfl) : PG X (.Tuple es k pos) (gTup K n t) := hK ▸ pg_tup hc h hn hst
end
section
variable {X : Cx} {CX : CXT} {k : Nat} {f : Addr} {fd : FuncData} {ps ks : List Str} {sp : Sp} {E : XK} {x : Str} {p pos : Pos} {kws : List Keyword} {tk : TA} {g : List Value → List Value → List Value} {gV : List V → List V → List V}
/-- f(k = v, ..) without positional values -/
theorem pe_callN0 (G : FnOk X.prog X.w X.K X.mg X.base CX k f fd ps sp) (hr : Room k X.A) (hg : Gl X x) (hm : X.mg x = some (.ref f)) (hk : PySem.W.keepIn X.K (.ref f) = true) (hb : KBn X.K fd ps 0 ks g gV) (hx : Passes CX X E)
    (hkw : PK X kws tk) (hall : (backToKw pos (keywordEach kws X.env)).all (·.1.isSome) = true := by rfl) (hks : (backToKw pos (keywordEach kws X.env)).filterMap (·.1) = ks := by rfl)
    (hdb : (x == ("__debug__" : Str)) = false := by decide)
    (hpl : ((backTo pos (starEach [] X.env)).any (·.1) || (backToKw pos (keywordEach kws X.env)).any (·.1.isNone)) = false := by rfl) :
    PE X (.Call (.Name x p) [] kws pos) (tCallN 0 ks.length sp gV E tNil tk) :=
  ⟨fun pins s σ H Q I h => wpAny_Call_Name_kw (ld_glob I hg hm
    (PySem.W.callWith_KW0 (h₀ := X.base) I.ok.mod.kin hk hall (thn (hkw.run pos pins s σ H _ I h) fun ws s2 ⟨zs, H2, I2, rz, l1, l2, q2⟩ => ⟨I2.kIn, by
      rw [hks]
      exact run_fnN (us := []) (vs := []) G hr hb hx I2 .nil rz rfl l2 q2⟩) hpl) hdb)⟩
end

/-! ### the same over data -/
section
variable {B : Bs} {es : List Sl}
theorem o_plusI {i j : Int} {P : Dt → Prop} (hp : P (.int (i + j))) : Op2 B (rPlus B.K) es (.int i) (.int j) P := o_altL (o_i0 hp)
theorem o_plusS {x y : Str} {P : Dt → Prop} (hl : x.length + y.length ≤ 100000) (hp : P (.str (x ++ y))) : Op2 B (rPlus B.K) es (.str x) (.str y) P := o_altR (o_altL (o_catS hl hp))
theorem o_plusL {x y : List Dt} {P : Dt → Prop} (hl : x.length + y.length ≤ 100000) (hp : P (.lst (x ++ y))) : Op2 B (rPlus B.K) es (.lst x) (.lst y) P := o_altR (o_altR (o_altL (o_cat hl hp)))
theorem o_inAL {x : Dt} {ys : List Dt} {P : Dt → Prop} (hx : flatD x = true) (hy : ys.all flatD = true) (hp : P (.bl (inD x ys))) : Op2 B (rInA B.K) es x (.lst ys) P := o_altL (o_inL hx hy hp)
theorem o_inAT {x : Dt} {ys : List Dt} {P : Dt → Prop} (hx : flatD x = true) (hy : ys.all flatD = true) (hp : P (.bl (inD x ys))) : Op2 B (rInA B.K) es x (.tup ys) P := o_altL (o_inT hx hy hp)
theorem o_inAS {c : Nat} {z : Str} {P : Dt → Prop} (hp : P (.bl (decide (c ∈ z.cps.toList)))) : Op2 B (rInA B.K) es (.str ⟨#[c]⟩) (.str z) P := o_altR (o_inS hp)
theorem o_niAL {x : Dt} {ys : List Dt} {P : Dt → Prop} (hx : flatD x = true) (hy : ys.all flatD = true) (hp : P (.bl (!inD x ys))) : Op2 B (rNiA B.K) es x (.lst ys) P := o_altL (o_inL hx hy hp)
theorem o_niAT {x : Dt} {ys : List Dt} {P : Dt → Prop} (hx : flatD x = true) (hy : ys.all flatD = true) (hp : P (.bl (!inD x ys))) : Op2 B (rNiA B.K) es x (.tup ys) P := o_altL (o_inT hx hy hp)
theorem o_niAS {c : Nat} {z : Str} {P : Dt → Prop} (hp : P (.bl (!decide (c ∈ z.cps.toList)))) : Op2 B (rNiA B.K) es (.str ⟨#[c]⟩) (.str z) P := o_altR (o_niS hp)
theorem o_eqA {x y : Dt} {P : Dt → Prop} (hs : dScal x y = true) (hp : P (.bl (dEq x y))) : Op2 B (rEqA B.K) es x y P := o_altL (o_eq hs hp)
theorem o_neA {x y : Dt} {P : Dt → Prop} (hs : dScal x y = true) (hp : P (.bl (!dEq x y))) : Op2 B (rNeA B.K) es x y P := o_altL (o_ne hs hp)
/-! deep == of data without objects -/
mutual
def Dt.py : Dt → PyData
  | .non => .none
  | .bl b => .bool b
  | .int i => .int i
  | .str s => .str s
  | .lst xs => .list (pyAll xs)
  | .tup xs => .tuple (pyAll xs)
  | .obj _ _ _ => .none
  | .dct _ _ => .none
  | .ali _ => .none
def pyAll : List Dt → List PyData
  | [] => []
  | x :: xs => x.py :: pyAll xs
end
mutual
def Dt.pureD : Dt → Bool
  | .non => true
  | .bl _ => true
  | .int _ => true
  | .str _ => true
  | .lst xs => decide (xs.length < 50000) && pureAll xs
  | .tup xs => decide (xs.length < 50000) && pureAll xs
  | .obj _ _ _ => false
  | .dct _ _ => false
  | .ali _ => false
def pureAll : List Dt → Bool
  | [] => true
  | x :: xs => x.pureD && pureAll xs
end
mutual
theorem Rp.dp {K : PySem.W.Frag} {F H : Hp} (s : Same F H) : ∀ {v : V} {d : Dt}, Rp K F v d → d.pureD = true → Dp K H v d.py
  | _, _, .non, _ => by unfold Dt.py; exact .non
  | _, _, .bl b, _ => by unfold Dt.py; exact .bl b
  | _, _, .int i, _ => by unfold Dt.py; exact .int i
  | _, _, .str x, _ => by unfold Dt.py; exact .str x
  | _, _, .lst h r, p => by unfold Dt.py; unfold Dt.pureD at p; rw [Bool.and_eq_true] at p; exact .lst (SqL.of (s _ _ h)) (RpAll.dp s r p.2)
  | _, _, .tup h r, p => by unfold Dt.py; unfold Dt.pureD at p; rw [Bool.and_eq_true] at p; exact .tup (sqT_mono s h) (RpAll.dp s r p.2)
  | _, _, .obj _ _ _ _, p => by unfold Dt.pureD at p; cases p
  | _, _, .dct _ _ _ _, p => by unfold Dt.pureD at p; cases p
  | _, _, .ali _, p => by unfold Dt.pureD at p; cases p
theorem RpAll.dp {K : PySem.W.Frag} {F H : Hp} (s : Same F H) : ∀ {vs : List V} {ds : List Dt}, RpAll K F vs ds → pureAll ds = true → DpAll K H vs (pyAll ds)
  | _, _, .nil, _ => by unfold pyAll; exact .nil
  | _, _, .cons h t, p => by
    unfold pureAll at p
    rw [Bool.and_eq_true] at p
    unfold pyAll
    exact .cons (Rp.dp s h p.1) (RpAll.dp s t p.2)
end
def okD (d : Dt) : Bool := d.pureD && SeqAt.shaped d.py
theorem o_eqAD {x y : Dt} {P : Dt → Prop} (hx : okD x = true) (hy : okD y = true) (hp : P (.bl (PyData.eqv x.py y.py))) : Op2 B (rEqA B.K) es x y P := fun σ F H v w S a b Q k => by
  unfold okD at hx hy
  rw [Bool.and_eq_true] at hx hy
  exact .inr ⟨_, _, a.dp S.sub hx.1, b.dp S.sub hy.1, hx.2, hy.2, k _ _ F H S.refl (.bl _) hp⟩
theorem o_neAD {x y : Dt} {P : Dt → Prop} (hx : okD x = true) (hy : okD y = true) (hp : P (.bl (!PyData.eqv x.py y.py))) : Op2 B (rNeA B.K) es x y P := fun σ F H v w S a b Q k => by
  unfold okD at hx hy
  rw [Bool.and_eq_true] at hx hy
  exact .inr ⟨_, _, a.dp S.sub hx.1, b.dp S.sub hy.1, hx.2, hy.2, k _ _ F H S.refl (.bl _) hp⟩
/-- slices of a list, of a text -/
def EvP (B : Bs) (to : TO) (es : List Sl) (P : Option Int → Prop) : Prop := ∀ σ F H, Stt B es σ F H → ∀ Q : Option Int → Hp → Prop, (∀ o F' H', Go B F H F' H' → P o → Q o H') → to σ H Q
theorem ep_none {P : Option Int → Prop} (h : P none) : EvP B tNoPart es P := fun σ F H S Q q => q none F H S.refl h
theorem ep_some {te : TE} {P : Option Int → Prop} (h : Ev B te es fun d => ∃ i, d = .int i ∧ P (some i)) : EvP B (tPart te) es P := fun σ F H S Q q => h σ F H S _ fun v d F1 H1 g1 r1 ⟨i, e, p1⟩ => by
  subst e; cases r1; exact ⟨i, rfl, q _ F1 H1 g1 p1⟩
def cutD {α : Type} (xs : List α) (lo hi : Option Int) : List α := (xs.drop (HT.sIx xs.length 0 lo)).take (HT.sIx xs.length xs.length hi - HT.sIx xs.length 0 lo)
theorem RpAll.cut {K : PySem.W.Frag} {F : Hp} {vs : List V} {ds : List Dt} (lo hi : Option Int) (r : RpAll K F vs ds) : RpAll K F (cutV vs lo hi) (cutD ds lo hi) := by
  unfold cutV cutD
  rw [r.length]
  exact (r.drop _).take _
theorem eo_slL {te : TE} {tl th : TO} {P : List Dt → Prop} (h : Ev B te es fun d => ∃ xs, d = .lst xs ∧ EvP B tl es fun lo => EvP B th es fun hi => P (cutD xs lo hi)) : EvO B (tSl (rSlA B.K) te tl th) es P := fun σ F H S Q q => h σ F H S _ fun v d F1 H1 g1 r1 ⟨xs, e, p1⟩ => by
  subst e
  refine p1 σ F1 H1 (S.go g1) _ fun lo F2 H2 g2 p2 => p2 σ F2 H2 ((S.go g1).go g2) _ fun hi F3 H3 g3 p3 => ?_
  have g := (g1.trans g2).trans g3
  have S3 := S.go g
  cases r1 with
  | lst h1 h2 =>
    refine .inl ⟨_, _, rfl, SqL.of (g3.s2 _ _ ((g2.s1.trans g3.s1) _ _ h1)), fun p hp => ?_⟩
    exact q p _ _ F3 _ (g.trans (S3.allocO hp)) (g.new (S3.newB hp) hp) (same_none S3.sub hp) upd_same ((h2.mono (g2.s1.trans g3.s1)).cut lo hi) p3
theorem ev_slS {te : TE} {tl th : TO} {P : Dt → Prop} (h : Ev B te es fun d => ∃ z : Str, d = .str z ∧ z.length ≤ 100000 ∧ EvP B tl es fun lo => EvP B th es fun hi => P (.str (cutS z lo hi))) : Ev B (tSl (rSlA B.K) te tl th) es P := fun σ F H S Q q => h σ F H S _ fun v d F1 H1 g1 r1 ⟨z, e, hz, p1⟩ => by
  subst e
  refine p1 σ F1 H1 (S.go g1) _ fun lo F2 H2 g2 p2 => p2 σ F2 H2 ((S.go g1).go g2) _ fun hi F3 H3 g3 p3 => ?_
  cases r1
  exact .inr (.inr ⟨z, rfl, size_of hz, q _ _ F3 H3 ((g1.trans g2).trans g3) (.str _) p3⟩)
/-- sep.join(list of texts) -/
theorem ev_join {to te : TE} {P : Dt → Prop} (h : Ev B to es fun a => ∃ sep : Str, a = .str sep ∧ Ev B te es fun d => ∃ ys : List Str, (d = .lst (ys.map Dt.str) ∨ d = .tup (ys.map Dt.str)) ∧ (ys.map (·.length)).sum + ys.length * sep.length ≤ 16777216 ∧ P (.str (Txt.join sep ys))) :
    Ev B (tM1 (rJoinA B.K) to te) es P := fun σ F H S Q q => h σ F H S _ fun v a F1 H1 g1 r1 ⟨sep, e, p1⟩ => by
  subst e
  cases r1
  refine ⟨⟨sep, rfl⟩, p1 σ F1 H1 (S.go g1) _ fun w d F2 H2 g2 r2 ⟨ys, e2, hl, p2⟩ => ?_⟩
  rcases e2 with rfl | rfl
  · cases r2 with
    | lst h1 h2 =>
      have e := h2.texts
      subst e
      exact ⟨sep, _, ys, rfl, rfl, .inl (SqL.of (g2.s2 _ _ h1)), hl, q _ _ F2 H2 (g1.trans g2) (.str _) p2⟩
  · cases r2 with
    | tup h1 h2 =>
      have e := h2.texts
      subst e
      exact ⟨sep, _, ys, rfl, rfl, .inr (sqT_mono g2.s2 h1), hl, q _ _ F2 H2 (g1.trans g2) (.str _) p2⟩
/-- list(xs) -/
theorem eo_listOf {ta : TA} {P : List Dt → Prop} (h : EvA B ta es fun ds => ∃ xs, (ds = [.lst xs] ∨ ds = [.tup xs]) ∧ P xs) : EvO B (tCB (rListA B.K) ta) es P := fun σ F H S Q q => h σ F H S _ fun vs ds F1 H1 g1 r1 ⟨xs, e, p1⟩ => by
  have S1 := S.go g1
  rcases e with rfl | rfl
  · obtain ⟨v, rfl, r⟩ := rp1 r1
    cases r with
    | lst h1 h2 => exact ⟨_, _, rfl, .inl (SqL.of (g1.s2 _ _ h1)), fun p hp => q p _ _ F1 _ (g1.trans (S1.allocO hp)) (g1.new (S1.newB hp) hp) (same_none S1.sub hp) upd_same h2 p1⟩
  · obtain ⟨v, rfl, r⟩ := rp1 r1
    cases r with
    | tup h1 h2 => exact ⟨_, _, rfl, .inr (sqT_mono g1.s2 h1), fun p hp => q p _ _ F1 _ (g1.trans (S1.allocO hp)) (g1.new (S1.newB hp) hp) (same_none S1.sub hp) upd_same h2 p1⟩
end
end Y
/-! Y5: isinstance by kinds; the drawing; what the helpers of every law promise. -/
namespace Y
open PySem L2
section
variable {B : Bs} {es : List Sl}
def isIntD : Dt → Bool
  | .int _ => true
  | .bl _ => true
  | _ => false
def isBoolD : Dt → Bool
  | .bl _ => true
  | _ => false
def isStrD : Dt → Bool
  | .str _ => true
  | _ => false
def isLstD : Dt → Bool
  | .lst _ => true
  | _ => false
def isTupD : Dt → Bool
  | .tup _ => true
  | _ => false
theorem isi_int {x : Dt} (h : plainD x = true) : isiD "int" x = some (isIntD x) := by
  cases x with
  | non => show kitB "NoneType" "int" = some false; decide +kernel
  | bl _ => show kitB "bool" "int" = some true; decide +kernel
  | int _ => show kitB "int" "int" = some true; decide +kernel
  | str _ => show kitB "str" "int" = some false; decide +kernel
  | lst _ => show kitB "list" "int" = some false; decide +kernel
  | tup _ => show kitB "tuple" "int" = some false; decide +kernel
  | dct _ _ => show kitB "dict" "int" = some false; decide +kernel
  | obj _ _ _ => cases h
  | ali _ => cases h
theorem isi_bool {x : Dt} (h : plainD x = true) : isiD "bool" x = some (isBoolD x) := by
  cases x with
  | non => show kitB "NoneType" "bool" = some false; decide +kernel
  | bl _ => show kitB "bool" "bool" = some true; decide +kernel
  | int _ => show kitB "int" "bool" = some false; decide +kernel
  | str _ => show kitB "str" "bool" = some false; decide +kernel
  | lst _ => show kitB "list" "bool" = some false; decide +kernel
  | tup _ => show kitB "tuple" "bool" = some false; decide +kernel
  | dct _ _ => show kitB "dict" "bool" = some false; decide +kernel
  | obj _ _ _ => cases h
  | ali _ => cases h
theorem isi_str {x : Dt} (h : plainD x = true) : isiD "str" x = some (isStrD x) := by
  cases x with
  | non => show kitB "NoneType" "str" = some false; decide +kernel
  | bl _ => show kitB "bool" "str" = some false; decide +kernel
  | int _ => show kitB "int" "str" = some false; decide +kernel
  | str _ => show kitB "str" "str" = some true; decide +kernel
  | lst _ => show kitB "list" "str" = some false; decide +kernel
  | tup _ => show kitB "tuple" "str" = some false; decide +kernel
  | dct _ _ => show kitB "dict" "str" = some false; decide +kernel
  | obj _ _ _ => cases h
  | ali _ => cases h
theorem isi_list {x : Dt} (h : plainD x = true) : isiD "list" x = some (isLstD x) := by
  cases x with
  | non => show kitB "NoneType" "list" = some false; decide +kernel
  | bl _ => show kitB "bool" "list" = some false; decide +kernel
  | int _ => show kitB "int" "list" = some false; decide +kernel
  | str _ => show kitB "str" "list" = some false; decide +kernel
  | lst _ => show kitB "list" "list" = some true; decide +kernel
  | tup _ => show kitB "tuple" "list" = some false; decide +kernel
  | dct _ _ => show kitB "dict" "list" = some false; decide +kernel
  | obj _ _ _ => cases h
  | ali _ => cases h
theorem isi_tuple {x : Dt} (h : plainD x = true) : isiD "tuple" x = some (isTupD x) := by
  cases x with
  | non => show kitB "NoneType" "tuple" = some false; decide +kernel
  | bl _ => show kitB "bool" "tuple" = some false; decide +kernel
  | int _ => show kitB "int" "tuple" = some false; decide +kernel
  | str _ => show kitB "str" "tuple" = some false; decide +kernel
  | lst _ => show kitB "list" "tuple" = some false; decide +kernel
  | tup _ => show kitB "tuple" "tuple" = some true; decide +kernel
  | dct _ _ => show kitB "dict" "tuple" = some false; decide +kernel
  | obj _ _ _ => cases h
  | ali _ => cases h
theorem isi_lt {x : Dt} (h : plainD x = true) : isiDs ["list", "tuple"] x = some (isLstD x || isTupD x) := by
  cases x with
  | non => show anyIsi "NoneType" ["list", "tuple"] = some false; decide +kernel
  | bl _ => show anyIsi "bool" ["list", "tuple"] = some false; decide +kernel
  | int _ => show anyIsi "int" ["list", "tuple"] = some false; decide +kernel
  | str _ => show anyIsi "str" ["list", "tuple"] = some false; decide +kernel
  | lst _ => show anyIsi "list" ["list", "tuple"] = some true; decide +kernel
  | tup _ => show anyIsi "tuple" ["list", "tuple"] = some true; decide +kernel
  | dct _ _ => show anyIsi "dict" ["list", "tuple"] = some false; decide +kernel
  | obj _ _ _ => cases h
  | ali _ => cases h
theorem ev_isInt {te : TE} {P : Dt → Prop} (h : Ev B te es fun d => plainD d = true ∧ P (.bl (isIntD d))) : Ev B (tCB (rIsi B.K) (tCons te (tCons (tC (.ty "int")) tNil))) es P := ev_isi (h.imp fun d q => ⟨_, isi_int q.1, q.2⟩)
theorem ev_isBool {te : TE} {P : Dt → Prop} (h : Ev B te es fun d => plainD d = true ∧ P (.bl (isBoolD d))) : Ev B (tCB (rIsi B.K) (tCons te (tCons (tC (.ty "bool")) tNil))) es P := ev_isi (h.imp fun d q => ⟨_, isi_bool q.1, q.2⟩)
theorem ev_isStr {te : TE} {P : Dt → Prop} (h : Ev B te es fun d => plainD d = true ∧ P (.bl (isStrD d))) : Ev B (tCB (rIsi B.K) (tCons te (tCons (tC (.ty "str")) tNil))) es P := ev_isi (h.imp fun d q => ⟨_, isi_str q.1, q.2⟩)
theorem ev_isList {te : TE} {P : Dt → Prop} (h : Ev B te es fun d => plainD d = true ∧ P (.bl (isLstD d))) : Ev B (tCB (rIsi B.K) (tCons te (tCons (tC (.ty "list")) tNil))) es P := ev_isi (h.imp fun d q => ⟨_, isi_list q.1, q.2⟩)
theorem ev_isTuple {te : TE} {P : Dt → Prop} (h : Ev B te es fun d => plainD d = true ∧ P (.bl (isTupD d))) : Ev B (tCB (rIsi B.K) (tCons te (tCons (tC (.ty "tuple")) tNil))) es P := ev_isi (h.imp fun d q => ⟨_, isi_tuple q.1, q.2⟩)
theorem ev_isLT {te : TE} {P : Dt → Prop} (h : Ev B te es fun d => plainD d = true ∧ P (.bl (isLstD d || isTupD d))) : Ev B (tCB (rIsiT B.K) (tCons te (tCons (tTup (tCons (tC (.ty "list")) (tCons (tC (.ty "tuple")) tNil))) tNil))) es P := ev_isi2 (h.imp fun d q => ⟨_, isi_lt q.1, q.2⟩)
/-- tests of a value that is True or False -/
theorem bl_ex {b : Bool} {P : Bool → Prop} (h : P b) : ∃ c, Dt.bl b = .bl c ∧ P c := ⟨b, rfl, h⟩
theorem int_ex {b : Int} {P : Int → Prop} (h : P b) : ∃ c, Dt.int b = .int c ∧ P c := ⟨b, rfl, h⟩
theorem str_ex {b : Str} {P : Str → Prop} (h : P b) : ∃ c, Dt.str b = .str c ∧ P c := ⟨b, rfl, h⟩
theorem lst_ex {b : List Dt} {P : List Dt → Prop} (h : P b) : ∃ c, Dt.lst b = .lst c ∧ P c := ⟨b, rfl, h⟩
theorem tup_ex {b : List Dt} {P : List Dt → Prop} (h : P b) : ∃ c, Dt.tup b = .tup c ∧ P c := ⟨b, rfl, h⟩
/-- the two ways of a test -/
theorem ways {b : Bool} {X Y : Prop} (h1 : b = true → X) (h2 : b = false → Y) : (b = true → X) ∧ (b = false → Y) := ⟨h1, h2⟩
theorem way_t {b : Bool} {X Y : Prop} (e : b = true) (h : X) : (b = true → X) ∧ (b = false → Y) := ⟨fun _ => h, fun z => by rw [e] at z; cases z⟩
theorem way_f {b : Bool} {X Y : Prop} (e : b = false) (h : Y) : (b = true → X) ∧ (b = false → Y) := ⟨fun z => (by rw [e] at z; cases z), fun _ => h⟩
end

section
variable {B : Bs} {es : List Sl}
/-- [f(x) for x in xs], f a function -/
theorem eo_mapF {wi : TI} {g : TG} {te : TE} {vs : List Nat} {P : List Dt → Prop} (f : Dt → Dt) (h : EvI B wi es fun xs => xs.length < 100000 ∧
    (∀ x, x ∈ xs → TgC B g (wipeE es vs) vs x fun e2 => Ev B te e2 fun y => y = f x) ∧ P (xs.map f)) : EvO B (tLc wi g tYes te vs) es P :=
  eo_map fun σ F H S Q q => h σ F H S Q fun J xs F1 H1 g1 it ⟨hl, h1, h2⟩ => q J xs F1 H1 g1 it ⟨hl, fun x y => y = f x, fun i x hx => h1 x (List.mem_of_getElem? hx), fun ys hy hR => by
    have e : ys = xs.map f := by
      apply List.ext_getElem?
      intro i
      rw [List.getElem?_map]
      cases e1 : xs[i]? with
      | none =>
        have : xs.length ≤ i := List.getElem?_eq_none_iff.mp e1
        rw [List.getElem?_eq_none (by omega)]; rfl
      | some x =>
        have hi : i < ys.length := by rw [hy]; exact (List.getElem?_eq_some_iff.mp e1).1
        have e2 : ys[i]? = some ys[i] := by simp [hi]
        rw [e2, hR i x ys[i] e1 e2]; rfl
    rw [e]; exact h2⟩
/-- [f(c) for c in text] -/
theorem eo_mapS {te te' : TE} {j : Nat} {P : List Dt → Prop} (f : Nat → Dt) (h : Ev B te es fun d => ∃ z : Str, d = .str z ∧ z.cps.size < 100000 ∧
    (∀ c, c ∈ z.cps.toList → Ev B te' ((es.set j .no).set j (.d (.str ⟨#[c]⟩))) fun y => y = f c) ∧ P (z.cps.toList.map f)) : EvO B (tLc (iStr te) (gName j) tYes te' [j]) es P :=
  eo_map (ei_str (h.imp fun d ⟨z, e, hl, h1, h2⟩ => ⟨z, e, by rw [signsD_len]; exact hl, fun x y => ∀ c, x = .str ⟨#[c]⟩ → y = f c, fun i x hx => by
    have hm := List.mem_of_getElem? hx
    obtain ⟨c, hc, rfl⟩ := List.mem_map.mp hm
    refine tc_name ?_
    refine (h1 c hc).imp fun y hy c' e' => ?_
    injection e' with e'
    injection e' with e'
    have : c = c' := by simpa using e'
    rw [← this]; exact hy, fun ys hy hR => by
      have e : ys = z.cps.toList.map f := by
        apply List.ext_getElem?
        intro i
        rw [List.getElem?_map]
        rw [signsD_len] at hy
        cases e1 : z.cps.toList[i]? with
        | none =>
          have : z.cps.toList.length ≤ i := List.getElem?_eq_none_iff.mp e1
          rw [Array.length_toList] at this
          rw [List.getElem?_eq_none (by omega)]; rfl
        | some c =>
          have hi : i < ys.length := by
            have := (List.getElem?_eq_some_iff.mp e1).1
            rw [Array.length_toList] at this
            omega
          have e2 : ys[i]? = some ys[i] := by simp [hi]
          have e3 : (signsD z)[i]? = some (.str ⟨#[c]⟩) := by rw [signsD, List.getElem?_map, e1]; rfl
          rw [e2, hR i _ ys[i] e3 e2 c rfl]; rfl
      rw [e]; exact h2⟩))
/-- [c for c in text if t(c)] -/
theorem eo_filterS {te : TE} {tt : TT} {j : Nat} {P : List Dt → Prop} (f : Nat → Bool) (h : Ev B te es fun d => ∃ z : Str, d = .str z ∧ z.cps.size < 100000 ∧
    (∀ c, c ∈ z.cps.toList → EvT B tt ((es.set j .no).set j (.d (.str ⟨#[c]⟩))) fun b => b = f c) ∧ P ((z.cps.toList.filter f).map fun c => .str ⟨#[c]⟩)) (hj : j < es.length) : EvO B (tLc (iStr te) (gName j) tt (tVar j) [j]) es P :=
  eo_lc (ei_str (h.imp fun d ⟨z, e, hl, h1, h2⟩ => ⟨z, e, by rw [signsD_len]; exact hl, fun i acc => acc = ((z.cps.toList.take i).filter f).map fun c => .str ⟨#[c]⟩, rfl, fun i x acc hx ha => by
    rw [signsD, List.getElem?_map] at hx
    cases e1 : z.cps.toList[i]? with
    | none => rw [e1] at hx; cases hx
    | some c =>
      rw [e1] at hx
      cases hx
      refine tc_name ?_
      have ht : z.cps.toList.take (i + 1) = z.cps.toList.take i ++ [c] := by
        rw [List.take_add_one, e1]; rfl
      refine (h1 c (List.mem_of_getElem? e1)).imp fun b hb => ⟨fun hbt => ev_var (x := .str ⟨#[c]⟩) ?_ ?_, fun hbf => ?_⟩
      · show ((es.set j .no).set j (.d (.str ⟨#[c]⟩)))[j]? = _
        rw [List.getElem?_set_self (by rw [List.length_set]; exact hj)]
      · show _ = _
        rw [ht, List.filter_append, List.map_append, ha, List.filter_cons, if_pos (by rw [← hb]; exact hbt)]; rfl
      · show _ = _
        rw [ht, List.filter_append, List.map_append, ha, List.filter_cons, if_neg (by rw [← hb, hbf]; decide)]; simp, fun acc ha => by
    rw [ha]
    have : (signsD z).length = z.cps.toList.length := by simp [signsD]
    rw [this, List.take_length]
    exact h2⟩))
theorem c_allF {α : Type} {l : List α} {g : α → Bool} {P : Dt → Prop} (hp : P (.bl (l.all g))) : Cal B (rAll B.K) es [.lst (l.map fun c => .bl (g c))] P := by
  have e : (l.map fun c => Dt.bl (g c)) = (l.map g).map Dt.bl := by rw [List.map_map]; rfl
  rw [e]
  refine c_all ?_
  rw [List.all_map]
  exact hp
/-- the script, as it is handed in, is cut -/
theorem eo_slRaw {i : Nat} {a : Addr} {ns : List Int} {tl th : TO} {P : List Dt → Prop} (hi : es[i]? = some (.r (.ref a))) (hS : SqL B.K B.H0 a (ns.map V.int)) (hb : B.bag ≠ some a) (h : EvP B tl es fun lo => EvP B th es fun hi => P ((cutD ns lo hi).map Dt.int)) : EvO B (tSl (rSlA B.K) (tVar i) tl th) es P := fun σ F H S Q q =>
  ⟨_, S.raw hi, h σ F H S _ fun lo F1 H1 g1 p1 => p1 σ F1 H1 (S.go g1) _ fun hi' F2 H2 g2 p2 => by
    have g := g1.trans g2
    have S2 := S.go g
    have hS2 : SqL B.K H2 a (ns.map V.int) := by
      rcases hS with (k | ⟨o, k⟩) | k
      · exact .inl (.inl (S2.fr a _ k hb))
      · exact .inl (.inr ⟨o, S2.fr a _ k hb⟩)
      · exact .inr k
    have e : cutV (ns.map V.int) lo hi' = (cutD ns lo hi').map V.int := by
      unfold cutV cutD
      rw [List.length_map, List.map_take, List.map_drop]
    refine .inl ⟨a, _, rfl, hS2, fun p hp => q p _ _ F2 _ (g.trans (S2.allocO hp)) (g.new (S2.newB hp) hp) (same_none S2.sub hp) upd_same ?_ p2⟩
    rw [e]
    exact RpAll.of_ints⟩
theorem of_mem_ints {xs : List Int} {i : Nat} {x : Dt} (h : (xs.map Dt.int)[i]? = some x) : ∃ n, x = .int n := by
  obtain ⟨n, _, e⟩ := List.mem_map.mp (List.mem_of_getElem? h)
  exact ⟨n, e.symm⟩
end

theorem sm_cut {B : Bs} {es : List Sl} {p : Po} {t u : TS} (I : List Sl → Prop) (h1 : Sm B t es { p with nx := I }) (h2 : ∀ es', I es' → Sm B u es' p) : Sm B (tSeq t u) es p :=
  sm_seq (sm_imp (p' := { p with nx := I }) h1 h2 (fun _ h => h) (fun _ h => h) (fun _ _ h => h) (fun _ h => h))
theorem atI_of {xs : List Dt} {i : Int} (h0 : 0 ≤ i) (h1 : i < xs.length) : ∃ x, atI xs i = some x ∧ x ∈ xs := by
  have hi : i.toNat < xs.length := by omega
  refine ⟨xs[i.toNat], ?_, List.getElem_mem _⟩
  unfold atI ixN
  rw [if_pos h0, if_pos h1]
  simp [hi]
theorem atI_ofN {xs : List Nat} {i : Int} (h0 : 0 ≤ i) (h1 : i < xs.length) : ∃ x, atI xs i = some x ∧ x ∈ xs := by
  have hi : i.toNat < xs.length := by omega
  refine ⟨xs[i.toNat], ?_, List.getElem_mem _⟩
  unfold atI ixN
  rw [if_pos h0, if_pos h1]
  simp [hi]
theorem pairD_mem : ∀ {xs : List Dt} {p : Dt}, p ∈ pairD xs xs → ∃ x, x ∈ xs ∧ p = .tup [x, x]
  | [], p, h => by simp [pairD] at h
  | x :: xs, p, h => by
    rcases List.mem_cons.mp (show p ∈ .tup [x, x] :: pairD xs xs from h) with rfl | h
    · exact ⟨x, List.mem_cons_self .., rfl⟩
    · obtain ⟨y, hy, e⟩ := pairD_mem h
      exact ⟨y, List.mem_cons_of_mem _ hy, e⟩
theorem fn_none {P : Program} {w : World} {K : PySem.W.Frag} {mg : Str → Option Value} {base : Heap} {f : Addr} {fd : FuncData} {ps : List Str} {k : Nat} {Pre : List Dt → Prop} {Post : List Dt → Dt → Prop} (h : ∀ ds, ¬ Pre ds) : FnOk P w K mg base CX0 k f fd ps (spD K Pre Post) :=
  ⟨fun _ _ _ _ q => (by obtain ⟨F, ds, _, _, hp, _⟩ := q; exact (h ds hp).elim), fun _ _ _ _ _ _ _ _ _ _ _ _ _ q => (by obtain ⟨F, ds, _, _, hp, _⟩ := q; exact (h ds hp).elim)⟩

/-! ### the drawing -/
def drawPre (ds : List Dt) : Prop := ∃ n : Int, ds = [.int n] ∧ 0 < n ∧ n < 1073741824
def drawPost (ds : List Dt) (d : Dt) : Prop := ∃ n i : Int, ds = [.int n] ∧ d = .int i ∧ 0 ≤ i ∧ i < n
def itemsD : Dt → List Dt
  | .lst xs => xs
  | .tup xs => xs
  | .str z => signsD z
  | _ => []
def ofPre (ds : List Dt) : Prop := ∃ x, ds = [x] ∧ 0 < (itemsD x).length ∧ (itemsD x).length ≤ 100000
def ofPost (ds : List Dt) (d : Dt) : Prop := ∃ x, ds = [x] ∧ d ∈ itemsD x
mutual
def Dt.depth : Dt → Nat
  | .lst xs => depthAll xs + 1
  | .tup xs => depthAll xs + 1
  | .non => 0
  | .bl _ => 0
  | .int _ => 0
  | .str _ => 0
  | .obj _ _ _ => 0
  | .dct _ _ => 0
  | .ali _ => 0
def depthAll : List Dt → Nat
  | [] => 0
  | x :: xs => max x.depth (depthAll xs)
end
theorem depthAll_mem {n : Nat} : ∀ {xs : List Dt} {x : Dt}, x ∈ xs → depthAll xs ≤ n → x.depth ≤ n
  | y :: ys, x, h, hn => by
    unfold depthAll at hn
    rcases List.mem_cons.mp h with rfl | h
    · omega
    · exact depthAll_mem h (by omega)
theorem pureAll_mem : ∀ {xs : List Dt} {x : Dt}, x ∈ xs → pureAll xs = true → x.pureD = true
  | y :: ys, x, h, hn => by
    unfold pureAll at hn
    rw [Bool.and_eq_true] at hn
    rcases List.mem_cons.mp h with rfl | h
    · exact hn.1
    · exact pureAll_mem h hn.2
def samePre (n : Nat) (ds : List Dt) : Prop := ∃ x, ds = [x, x] ∧ x.pureD = true ∧ x.depth < n
def sameTrue (_ : List Dt) (d : Dt) : Prop := d = .bl true
/-- what is wrong in many places -/
def oddL : List Dt := [.non, .bl true, .bl false, .str "", .str "A", .int (-1), .int 999999999, .tup [], .lst [], .tup [.int 1], .lst [.str "a"], .str "a b", .tup [.str "a", .str "b"], .lst [.non]]
def oddPre (ds : List Dt) : Prop := ∃ xs, ds = [.lst xs] ∧ xs.length ≤ 1000
def oddPost (ds : List Dt) (d : Dt) : Prop := ∃ xs, ds = [.lst xs] ∧ d ∈ oddL ++ xs
/-- a number from l to m -/
def isNum (x : Dt) (l m : Int) : Bool := match x with
  | .int i => decide (l ≤ i) && decide (i ≤ m)
  | _ => false
def numPre (ds : List Dt) : Prop := ∃ x l m, ds = [x, .int l, .int m] ∧ plainD x = true
def numPost (ds : List Dt) (d : Dt) : Prop := ∃ x l m, ds = [x, .int l, .int m] ∧ d = .bl (isNum x l m)
/-- names: 1 to 6 small letters -/
def letters : List Nat := ("abcdefghijklmnopqrstuvwxyz" : Str).cps.toList
def isNameD (x : Dt) : Bool := match x with
  | .str z => decide ((1 : Int) ≤ z.length) && (decide ((z.length : Int) ≤ 6) && z.cps.toList.all fun c => decide (c ∈ letters))
  | _ => false
def isRegD (x : Dt) : Bool := match x with
  | .str z => inD (.str z) [.str "r0", .str "r1", .str "r2"]
  | _ => false
def txtOk (x : Dt) : Prop := ∀ z, x = .str z → z.cps.size < 1000 ∧ PyData.strOk z = true
def valPre (ds : List Dt) : Prop := ∃ x, ds = [x] ∧ plainD x = true ∧ txtOk x
def namePost (ds : List Dt) (d : Dt) : Prop := ∃ x, ds = [x] ∧ d = .bl (isNameD x)
def regPost (ds : List Dt) (d : Dt) : Prop := ∃ x, ds = [x] ∧ d = .bl (isRegD x)
def wordPost (ds : List Dt) (d : Dt) : Prop := ∃ x, ds = [x] ∧ d = .bl (isNum x 0 65535)
/-- what _law_bag promises: a new drawing -/
def spBag (K : PySem.W.Frag) : Sp := fun vs H Q _ => ∃ (a : Addr) (ns : List Int), vs = [.ref a] ∧ SqL K H a (ns.map V.int) ∧
  ∀ b F H', H b = none → Same F H' → Same H H' → BagAt K F H' b → Q (.ref b) H'
/-- the law: a list of at most 63 ints is handed in, True comes out -/
def spLaw (K : PySem.W.Frag) : Sp := fun vs H Q _ => ∃ (a : Addr) (ns : List Int), vs = [.ref a] ∧ SqL K H a (ns.map V.int) ∧ ns.length ≤ 63 ∧ ∀ H', Q (.bl true) H'
theorem start_raw {K : PySem.W.Frag} {H : Hp} {a : Addr} (N : List Str) : Stt ⟨K, fun _ => none, H, none⟩ (.r (.ref a) :: List.replicate (N.length - 1) Sl.no) (L2.start N [.ref a]) (fun _ => none) H where
  sub := fun _ _ h => nomatch h
  s0 := fun _ _ h => h
  ou := fun _ _ h => h
  fr := fun c o h _ => h
  bg := fun _ z => nomatch z
  len := by simp [L2.start]
  ok := fun i e o h1 h2 => by
    cases i with
    | zero =>
      cases h1
      have : (L2.start N [V.ref a])[0]? = some (some (.ref a)) := rfl
      rw [this] at h2
      cases h2
      rfl
    | succ i =>
      have h1 : (List.replicate (N.length - 1) Sl.no)[i]? = some e := h1
      have h2 : (List.replicate (N.length - 1) (none : Option V))[i]? = some o := h2
      rw [List.eq_of_mem_replicate (List.mem_of_getElem? h1), List.eq_of_mem_replicate (List.mem_of_getElem? h2)]
      rfl
  ow := fun i c xs h1 => by
    rcases List.mem_cons.mp (List.mem_of_getElem? h1) with h | h
    · cases h
    · cases List.eq_of_mem_replicate h
  dis := fun i j c e xs ys _ h1 => by
    rcases List.mem_cons.mp (List.mem_of_getElem? h1) with h | h
    · cases h
    · cases List.eq_of_mem_replicate h
section
variable {P : Program} {w : World} {K : PySem.W.Frag} {mg : Str → Option Value} {base : Heap} {x qual : Str} {st : Stmt} {f : Addr} {fd : FuncData} {N : List Str} {q : Str} {k : Nat}
theorem fn_newBag (G : Fun K x qual st f fd) (S : FnScope N [q] (defScope st))
    (hb : ∀ (cdv : Value) (A : Around) (outer : List Env) (s : Shared) (H : Hp) (E : XK), Room k (A.deeper (PyProof.Rows.envOfC qual (defScope st) s.heap.objs.size f cdv)) →
      ∃ t, PSs (cxOf CX0 P w K mg base N qual (defScope st) f cdv A outer s H E).nox (defBody st) t ∧ ∀ (H0 : Hp) (a : Addr) (ns : List Int), SqL K H0 a (ns.map V.int) → Sm ⟨K, fun _ => none, H0, none⟩ t (.r (.ref a) :: List.replicate (N.length - 1) Sl.no) { nx := fun _ => False, bk := fun _ => False, ct := fun _ => False, rt := fun _ _ => False, ro := BagD }) :
    FnOk P w K mg base CX0 (k + 1) f fd [q] (spBag K) := by
  refine G.ok S (fun vs H Q E h => ?_) (fun cdv A outer s H vs Q E hr h => ?_)
  · obtain ⟨a, ns, rfl, _⟩ := h; rfl
  · obtain ⟨a, ns, rfl, hS, q⟩ := h
    obtain ⟨t, hd, hm⟩ := hb cdv A outer s H E hr
    refine ⟨t, hd, hm H a ns hS _ _ H _ (start_raw N) (fun _ _ _ _ _ _ z => z.elim) (fun _ _ _ _ _ _ z => z.elim) (fun _ _ _ _ _ _ z => z.elim) (fun _ _ _ _ _ _ _ _ _ z => z.elim) (fun b vs xs es' σ' F' H' S' s' h1 h2 r1 h3 h4 p => ?_)⟩
    exact q b F' H' h3 S'.sub (fun c o e => S'.fr c o e (fun z => nomatch z)) ⟨h1, vs, xs, h2, r1, p⟩
/-- the law's own def: its first statement makes the drawing -/
theorem fn_law (G : Fun K x qual st f fd) (S : FnScope N [q] (defScope st))
    (hb : ∀ (cdv : Value) (A : Around) (outer : List Env) (s : Shared) (H : Hp) (E : XK), Room k (A.deeper (PyProof.Rows.envOfC qual (defScope st) s.heap.objs.size f cdv)) →
      ∃ t, PSs (cxOf CX0 P w K mg base N qual (defScope st) f cdv A outer s H E).nox (defBody st) (tSeq (tAsg (tCall (spBag K) [] E0 (tCons (tVar 0) tNil)) (gName 1)) t) ∧ ∀ F0 H0 a b, Sm ⟨K, F0, H0, some b⟩ t (.r (.ref a) :: .r (.ref b) :: List.replicate (N.length - 2) Sl.no) { nx := fun _ => False, bk := fun _ => False, ct := fun _ => False, rt := fun _ d => d = .bl true }) (hN : 2 ≤ N.length) :
    FnOk P w K mg base CX0 (k + 1) f fd [q] (spLaw K) := by
  refine G.ok S (fun vs H Q E h => ?_) (fun cdv A outer s H vs Q E hr h => ?_)
  · obtain ⟨a, ns, rfl, _⟩ := h; rfl
  · obtain ⟨a, ns, rfl, hS, _, q⟩ := h
    obtain ⟨t, hd, hm⟩ := hb cdv A outer s H E hr
    refine ⟨_, hd, .ref a, rfl, a, ns, rfl, hS, fun b F H' hn s1 s2 hB => ?_⟩
    have S0 := start_raw (K := K) (H := H') (a := a) N
    have S1 : Stt ⟨K, F, H', some b⟩ (.r (.ref a) :: List.replicate (N.length - 1) Sl.no) (L2.start N [.ref a]) F H' :=
      ⟨s1, Same.refl F, fun _ _ h => h, fun c o h _ => h, fun c e => by cases e; exact hB, S0.len, fun i e o h1 h2 => by
        have := S0.ok i e o h1 h2
        rcases List.mem_cons.mp (List.mem_of_getElem? h1) with h | h
        · rw [h] at this ⊢; exact this
        · rw [List.eq_of_mem_replicate h] at this ⊢; exact this, (fun i c xs h1 => by
        rcases List.mem_cons.mp (List.mem_of_getElem? h1) with h | h
        · cases h
        · cases List.eq_of_mem_replicate h), S0.dis⟩
    have S2 := S1.set (i := 1) (e := .r (.ref b)) (o := some (.ref b)) rfl fun _ _ e => nomatch e
    have e2 : (Sl.r (.ref a) :: List.replicate (N.length - 1) Sl.no).set 1 (.r (.ref b)) = .r (.ref a) :: .r (.ref b) :: List.replicate (N.length - 2) Sl.no := by
      obtain ⟨m, hm⟩ : ∃ m, N.length = m + 2 := ⟨N.length - 2, by omega⟩
      rw [hm]
      simp [List.replicate_succ]
    rw [e2] at S2
    exact hm F H' a b _ F H' _ S2 (fun _ _ _ _ _ _ z => z.elim) (fun _ _ _ _ _ _ z => z.elim) (fun _ _ _ _ _ _ z => z.elim) (fun v d es' σ' F' H2 S' s' rv e => by subst e; cases rv; exact q H2) (fun _ _ _ _ _ _ _ _ _ _ _ _ _ _ z => z.elim)
end
end Y
/-! Y6: lists of texts; drawn words; values of any kind. -/
namespace Y
open PySem L2
theorem pureAll_strs : ∀ ss : List Str, pureAll (ss.map Dt.str) = true
  | [] => by simp [pureAll]
  | s :: ss => by simp [pureAll, Dt.pureD, pureAll_strs ss]
theorem pyAll_strs : ∀ ss : List Str, pyAll (ss.map Dt.str) = ss.map PyData.str
  | [] => by simp [pyAll]
  | s :: ss => by simp [pyAll, Dt.py, pyAll_strs ss]
theorem lay_strs : ∀ ss : List Str, (∀ s ∈ ss, PyData.strOk s = true) → PyData.canLayAll0 (ss.map PyData.str) = true
  | [], _ => by simp [PyData.canLayAll0]
  | s :: ss, h => by
    simp only [List.map_cons, PyData.canLayAll0, PyData.canLay0, Bool.and_eq_true]
    exact ⟨h s (List.mem_cons_self ..), lay_strs ss fun t ht => h t (List.mem_cons_of_mem _ ht)⟩
theorem depth_strs : ∀ ss : List Str, PyData.depthAll (ss.map PyData.str) = 0
  | [] => by simp [PyData.depthAll]
  | s :: ss => by simp [PyData.depthAll, PyData.depth, depth_strs ss]
theorem okD_strs {ss : List Str} (hl : ss.length < 50000) (h : ∀ s ∈ ss, PyData.strOk s = true) : okD (.lst (ss.map Dt.str)) = true := by
  unfold okD
  simp only [Dt.pureD, Dt.py, List.length_map, pureAll_strs, pyAll_strs, SeqAt.shaped, PyData.canLay0, lay_strs ss h, PyData.depth, depth_strs]
  simp [hl]
theorem okD_nil : okD (.lst []) = true := okD_strs (ss := []) (by decide) (fun _ h => nomatch h)
theorem eqv_nil (xs : List PyData) : PyData.eqv (.list xs) (.list []) = xs.isEmpty := by
  cases xs <;> simp [PyData.eqv, PyData.eqvAll]
section
variable {B : Bs} {es : List Sl}
/-- a list of texts == [] -/
theorem o_eqNil {ss : List Str} {P : Dt → Prop} (hl : ss.length < 50000) (h : ∀ s ∈ ss, PyData.strOk s = true) (hp : P (.bl ss.isEmpty)) : Op2 B (rEqA B.K) es (.lst (ss.map Dt.str)) (.lst []) P := by
  refine o_eqAD (okD_strs hl h) okD_nil ?_
  have e : PyData.eqv (Dt.lst (ss.map Dt.str)).py (Dt.lst []).py = ss.isEmpty := by
    simp only [Dt.py, pyAll, pyAll_strs]
    rw [eqv_nil]
    cases ss <;> rfl
  rw [e]
  exact hp
/-- a joined text of single signs -/
theorem join_signs : ∀ cs : List Nat, (Str.join "" (cs.map fun c => ⟨#[c]⟩)).cps.toList = cs
  | [] => rfl
  | [c] => rfl
  | c :: e :: r => by
    have := TL.tl_join ("" : Str) ((c :: e :: r).map fun c => (⟨#[c]⟩ : Str))
    rw [show (Str.join "" ((c :: e :: r).map fun c => (⟨#[c]⟩ : Str))).cps.toList = TL.tl _ from rfl, this]
    have h0 : TL.tl ("" : Str) = [] := by decide +kernel
    rw [h0]
    have key : ∀ l : List Nat, TL.joinL [] ((l.map fun c => (⟨#[c]⟩ : Str)).map TL.tl) = l := by
      intro l
      induction l with
      | nil => rfl
      | cons a l ih =>
        cases l with
        | nil => rfl
        | cons b l =>
          show [a] ++ ([] ++ TL.joinL [] (((b :: l).map fun c => (⟨#[c]⟩ : Str)).map TL.tl)) = a :: b :: l
          rw [ih]; rfl
    exact key _
/-- ''.join([of(bag, TEXT) for k in range(draw(bag, n))]) -/
theorem ev_word {i j : Nat} {b : Addr} {n : Int} {lit : Str} {E E' : XK} {P : Dt → Prop} (hb : B.bag = some b) (hi : es[i]? = some (.r (.ref b))) (hij : j ≠ i) (hn : 0 < n ∧ n ≤ 1000) (hl : 0 < lit.cps.size ∧ lit.cps.size ≤ 1000)
    (h : ∀ z : Str, (z.cps.size : Int) < n → (∀ c ∈ z.cps.toList, c ∈ lit.cps.toList) → P (.str z)) :
    Ev B (tM1 (rJoinA B.K) (tC (.str "")) (tLc (iRng1 (tCons (tCall (spB B.K drawPre drawPost) [] E (tCons (tVar i) (tCons (tC (.int n)) tNil))) tNil)) (gName j) tYes (tCall (spB B.K ofPre ofPost) [] E' (tCons (tVar i) (tCons (tC (.str lit)) tNil))) [j])) es P := by
  refine ev_join (ev_str (str_ex (EvO.ev (eo_map (ei_rng1 (ea_cons (ev_callB hb hi (ea_cons (ev_int (ea_nil ⟨⟨n, rfl, hn.1, by omega⟩, ?_⟩))))))))))
  rintro d ⟨n', k, e, rfl, k1, k2⟩
  cases e
  refine ea_nil ⟨k, rfl, by omega, by omega, by rw [rangeD_len]; omega, fun _ y => ∃ c, c ∈ lit.cps.toList ∧ y = .str ⟨#[c]⟩, fun m x hx => ?_, fun ys hy hR => ?_⟩
  · refine tc_name (ev_callB hb ?_ (ea_cons (ev_str (ea_nil ⟨⟨_, rfl, ?_, ?_⟩, ?_⟩))))
    · show ((es.set j .no).set j (.d x))[i]? = _
      rw [List.getElem?_set_ne hij, List.getElem?_set_ne hij]; exact hi
    · show 0 < (signsD lit).length; rw [signsD_len]; exact hl.1
    · show (signsD lit).length ≤ _; rw [signsD_len]; omega
    · rintro d ⟨x', e, hm⟩
      cases e
      obtain ⟨c, hc, rfl⟩ := List.mem_map.mp hm
      exact ⟨c, hc, rfl⟩
  · rw [rangeD_len] at hy
    have key : ∀ (l : List Dt), (∀ y ∈ l, ∃ c, c ∈ lit.cps.toList ∧ y = Dt.str ⟨#[c]⟩) → ∃ cs : List Nat, (∀ c ∈ cs, c ∈ lit.cps.toList) ∧ l = (cs.map fun c => (⟨#[c]⟩ : Str)).map Dt.str := by
      intro l
      induction l with
      | nil => intro _; exact ⟨[], (fun _ h => nomatch h), rfl⟩
      | cons y l ih =>
        intro hl
        obtain ⟨c, hc, rfl⟩ := hl y (List.mem_cons_self ..)
        obtain ⟨cs, h1, h2⟩ := ih fun z hz => hl z (List.mem_cons_of_mem _ hz)
        refine ⟨c :: cs, fun e he => ?_, by rw [h2]; rfl⟩
        rcases List.mem_cons.mp he with rfl | he
        · exact hc
        · exact h1 e he
    obtain ⟨cs, h1, rfl⟩ := key ys fun y hm => by
      obtain ⟨m, hm⟩ := List.getElem?_of_mem hm
      have hlt := (List.getElem?_eq_some_iff.mp hm).1
      have hr : m < (rangeD 0 k.toNat).length := by rw [rangeD_len]; omega
      exact hR m _ y (List.getElem?_eq_getElem hr) hm
    rw [List.length_map, List.length_map] at hy
    refine ⟨cs.map fun c => (⟨#[c]⟩ : Str), .inl rfl, ?_, ?_⟩
    · have e1 : ((cs.map fun c => (⟨#[c]⟩ : Str)).map (·.length)).sum = cs.length := by
        clear h1 hR hy
        induction cs with
        | nil => rfl
        | cons c cs ih => simp only [List.map_cons, List.sum_cons, ih, List.length_cons]; show 1 + _ = _; omega
      have e2 : ("" : Str).length = 0 := by decide +kernel
      rw [e1, e2]
      omega
    · rw [TL.join_eq]
      have e := join_signs cs
      refine h _ ?_ ?_
      · rw [← Array.length_toList, e]; omega
      · rw [e]; exact h1
end
/-- a value of any kind, as is_name and its like may be handed -/
def goodV (x : Dt) : Bool := plainD x && (match x with | .str z => decide (z.cps.size < 1000) && PyData.strOk z | _ => true)
theorem goodV_pre {x : Dt} (h : goodV x = true) : plainD x = true ∧ txtOk x := by
  unfold goodV at h
  rw [Bool.and_eq_true] at h
  refine ⟨h.1, fun z e => ?_⟩
  subst e
  have := h.2
  rw [Bool.and_eq_true] at this
  exact ⟨of_decide_eq_true this.1, this.2⟩
theorem strOk_of {z lit : Str} (h : ∀ c ∈ z.cps.toList, c ∈ lit.cps.toList) (hl : PyData.strOk lit = true) : PyData.strOk z = true := by
  unfold PyData.strOk at *
  rw [Array.all_eq_true'] at *
  intro c hc
  exact hl c (by have := h c (by simpa using hc); simpa using this)
theorem all_mem {xs : List Dt} {p : Dt → Bool} (h : xs.all p = true) {x : Dt} (hx : x ∈ xs) : p x = true := List.all_eq_true.mp h x hx
/-! ### calls of the helpers: what is asked, what comes -/
theorem draw_k {n : Int} {R : Dt → Prop} (hn : 0 < n ∧ n < 1073741824) (h : ∀ i : Int, 0 ≤ i → i < n → R (.int i)) : drawPre [.int n] ∧ ∀ d, drawPost [.int n] d → R d :=
  ⟨⟨n, rfl, hn.1, hn.2⟩, fun d ⟨m, i, e, e2, k1, k2⟩ => by cases e; subst e2; exact h i k1 k2⟩
theorem of_k {xs : List Dt} {R : Dt → Prop} (h0 : 0 < xs.length ∧ xs.length ≤ 100000) (h : ∀ d, d ∈ xs → R d) : ofPre [.lst xs] ∧ ∀ d, ofPost [.lst xs] d → R d :=
  ⟨⟨_, rfl, h0.1, h0.2⟩, fun d ⟨y, e, hm⟩ => by cases e; exact h d hm⟩
theorem of_kT {xs : List Dt} {R : Dt → Prop} (h0 : 0 < xs.length ∧ xs.length ≤ 100000) (h : ∀ d, d ∈ xs → R d) : ofPre [.tup xs] ∧ ∀ d, ofPost [.tup xs] d → R d :=
  ⟨⟨_, rfl, h0.1, h0.2⟩, fun d ⟨y, e, hm⟩ => by cases e; exact h d hm⟩
theorem odd_k {xs : List Dt} {R : Dt → Prop} (h0 : xs.length ≤ 1000) (h : ∀ d, d ∈ oddL ++ xs → R d) : oddPre [.lst xs] ∧ ∀ d, oddPost [.lst xs] d → R d :=
  ⟨⟨_, rfl, h0⟩, fun d ⟨y, e, hm⟩ => by cases e; exact h d hm⟩
theorem same_k {n : Nat} {x y : Dt} {R : Dt → Prop} (e : x = y) (hp : y.pureD = true) (hd : y.depth < n) (h : R (.bl true)) : samePre n [x, y] ∧ ∀ d, sameTrue [x, y] d → R d :=
  ⟨⟨y, by rw [e], hp, hd⟩, fun d e => by cases e; exact h⟩
theorem num_k {x : Dt} {l m : Int} {R : Dt → Prop} (hp : plainD x = true) (h : R (.bl (isNum x l m))) : numPre [x, .int l, .int m] ∧ ∀ d, numPost [x, .int l, .int m] d → R d :=
  ⟨⟨_, _, _, rfl, hp⟩, fun d ⟨y, l, m, e, e2⟩ => by cases e; subst e2; exact h⟩
theorem name_k {x : Dt} {R : Dt → Prop} (hp : plainD x = true ∧ txtOk x) (h : R (.bl (isNameD x))) : valPre [x] ∧ ∀ d, namePost [x] d → R d :=
  ⟨⟨_, rfl, hp⟩, fun d ⟨y, e, e2⟩ => by cases e; subst e2; exact h⟩
theorem reg_k {x : Dt} {R : Dt → Prop} (hp : plainD x = true ∧ txtOk x) (h : R (.bl (isRegD x))) : valPre [x] ∧ ∀ d, regPost [x] d → R d :=
  ⟨⟨_, rfl, hp⟩, fun d ⟨y, e, e2⟩ => by cases e; subst e2; exact h⟩
theorem word_k {x : Dt} {R : Dt → Prop} (hp : plainD x = true ∧ txtOk x) (h : R (.bl (isNum x 0 65535))) : valPre [x] ∧ ∀ d, wordPost [x] d → R d :=
  ⟨⟨_, rfl, hp⟩, fun d ⟨y, e, e2⟩ => by cases e; subst e2; exact h⟩
theorem good_str {z lit : Str} {n : Int} (h1 : (z.cps.size : Int) < n) (hn : n ≤ 1000) (h : ∀ c ∈ z.cps.toList, c ∈ lit.cps.toList) (hl : PyData.strOk lit = true) : goodV (.str z) = true := by
  have h2 : z.cps.size < 1000 := by omega
  show (true && (decide (z.cps.size < 1000) && PyData.strOk z)) = true
  rw [decide_eq_true h2, strOk_of h hl]; rfl
theorem good_odd : oddL.all goodV = true := by decide +kernel
end Y
/-! Y7: list(text), dicts, defs with defaults, expressions that change a list of one's own. -/
namespace Y
open PySem L2

/-! ### list(text) -/
def rListS (xs : List V) (H : Hp) (Q : VK) : Prop := ∃ z : Str, xs = [.str z] ∧ z.cps.size ≤ 100000 ∧ ∀ l, H l = none → Q (.ref l) (upd H l (.lst (z.cps.toList.map fun c => V.str ⟨#[c]⟩)))
theorem call_listS {X : Cx} (hc : X.calm = true) : CallR X (.type "list") rListS := by
  intro pins s σ H xs us Q I r h
  obtain ⟨z, rfl, hz, q⟩ := h
  obtain ⟨u, rfl, rx⟩ := vals1 r
  obtain ⟨t, rfl⟩ := rx
  refine call_list_str (I.ok.hd hc) z t (fun h' tk acc c' hk e hi => ?_) (size_of hz)
  refine ⟨.ref s.heap.objs.size, upd H s.heap.objs.size (.lst (z.cps.toList.map fun c => V.str ⟨#[c]⟩)), I.laid hk (Nat.le_refl _) ⟨?_, acc.toList, c', ?_, ?_⟩, rfl, q _ (I.hok.fresh (Nat.le_refl _))⟩
  · rw [List.length_map, Array.length_toList]; exact size_of hz
  · refine vals_of_idx _ _ (by rw [List.length_map, Array.length_toList, Array.length_toList]; exact hi.1) fun j u hj => ?_
    obtain ⟨c, t', hc', rfl⟩ := hi.2 j u (by rw [← Array.getElem?_toList]; exact hj)
    exact ⟨.str ⟨#[c]⟩, by rw [List.getElem?_map, Array.getElem?_toList, hc']; rfl, ⟨_, rfl⟩⟩
  · rw [Array.toArray_toList]; exact e
def rListB (K : PySem.W.Frag) : List V → Hp → VK → Prop := cAlt (rListA K) rListS
theorem call_listB {X : Cx} {K : PySem.W.Frag} (hc : X.calm = true) (hK : X.K = K := by rfl) : CallR X (.type "list") (rListB K) := call_alt (call_listA hK) (call_listS hc)
section
variable {B : Bs} {es : List Sl}
theorem eo_listS {ta : TA} {P : List Dt → Prop} (h : EvA B ta es fun ds => ∃ z : Str, ds = [.str z] ∧ z.cps.size ≤ 100000 ∧ P (signsD z)) : EvO B (tCB (rListB B.K) ta) es P := fun σ F H S Q q => h σ F H S _ fun vs ds F1 H1 g1 r1 ⟨z, e, hz, p1⟩ => by
  subst e
  obtain ⟨v, rfl, r⟩ := rp1 r1
  cases r
  have S1 := S.go g1
  refine .inr ⟨z, rfl, hz, fun p hp => q p _ _ F1 _ (g1.trans (S1.allocO hp)) (g1.new (S1.newB hp) hp) (same_none S1.sub hp) upd_same ?_ p1⟩
  unfold signsD
  generalize z.cps.toList = l
  induction l with
  | nil => exact .nil
  | cons c l ih => exact .cons (.str _) ih
theorem eo_listL {ta : TA} {P : List Dt → Prop} (h : EvA B ta es fun ds => ∃ xs, (ds = [.lst xs] ∨ ds = [.tup xs]) ∧ P xs) : EvO B (tCB (rListB B.K) ta) es P := fun σ F H S Q q => h σ F H S _ fun vs ds F1 H1 g1 r1 ⟨xs, e, p1⟩ => by
  have S1 := S.go g1
  rcases e with rfl | rfl
  · obtain ⟨v, rfl, r⟩ := rp1 r1
    cases r with
    | lst h1 h2 => exact .inl ⟨_, _, rfl, .inl (SqL.of (g1.s2 _ _ h1)), fun p hp => q p _ _ F1 _ (g1.trans (S1.allocO hp)) (g1.new (S1.newB hp) hp) (same_none S1.sub hp) upd_same h2 p1⟩
  · obtain ⟨v, rfl, r⟩ := rp1 r1
    cases r with
    | tup h1 h2 => exact .inl ⟨_, _, rfl, .inr (sqT_mono g1.s2 h1), fun p hp => q p _ _ F1 _ (g1.trans (S1.allocO hp)) (g1.new (S1.newB hp) hp) (same_none S1.sub hp) upd_same h2 p1⟩

/-! ### expressions that change lists of one's own -/
def EvM (B : Bs) (te : TE) (es : List Sl) (P : Dt → List Sl → Prop) : Prop := ∀ σ F H, Stt B es σ F H → ∀ Q : VK,
  (∀ v d es' F' H', Same F F' → Stt B es' σ F' H' → Rp B.K F' v d → P d es' → Q v H') → te σ H Q
theorem Ev.m {te : TE} {P : Dt → List Sl → Prop} (h : Ev B te es fun d => P d es) : EvM B te es P := fun σ F H S Q q => h σ F H S Q fun v d F1 H1 g1 r1 p1 => q v d es F1 H1 g1.s1 (S.go g1) r1 p1
theorem em_op {r : R2} {ta tb : TE} {P : Dt → List Sl → Prop} (h : EvM B ta es fun x e1 => EvM B tb e1 fun y e2 => Op2 B r e2 x y fun d => P d e2) : EvM B (tOp r ta tb) es P := fun σ F H S Q q =>
  h σ F H S _ fun v x e1 F1 H1 s1 S1 r1 p1 => p1 σ F1 H1 S1 _ fun w y e2 F2 H2 s2 S2 r2 p2 => p2 σ F2 H2 v w S2 (r1.mono s2) r2 Q fun u d F3 H3 g3 r3 p3 => q u d e2 F3 H3 ((s1.trans s2).trans g3.s1) (S2.go g3) r3 p3
theorem em_pop {i : Nat} {a : Addr} {xs : List Dt} {te : TE} {P : Dt → List Sl → Prop} (hi : es[i]? = some (.own a xs)) (h : Ev B te es fun y => ∃ j : Int, y = .int j ∧ 0 ≤ j ∧ j < xs.length ∧ j < 100000 ∧ ∀ x, xs[j.toNat]? = some x → P x (es.set i (.own a (xs.eraseIdx j.toNat)))) :
    EvM B (tBM B.K "list" rPopAt (tVar i) (tCons te tNil)) es P := fun σ F H S Q q => by
  obtain ⟨vs, h1, h2, h3, h4⟩ := S.own hi
  refine ⟨_, h1, .inl ⟨rfl, _, SqL.of h3⟩, h σ F H S _ fun w y F1 H1 g1 r1 ⟨j, e, j0, j1, j2, p1⟩ => ?_⟩
  subst e
  cases r1
  have S1 := S.go g1
  obtain ⟨vs', k1, k2, k3, k4⟩ := S1.own hi
  have hj : j.toNat < xs.length := by omega
  have hv : j.toNat < vs'.length := by rw [k4.length]; exact hj
  have ev : vs'[j.toNat]? = some vs'[j.toNat] := by simp [hv]
  obtain ⟨x, hx, rx⟩ := k4.getV ev
  have er : RpAll B.K F1 (vs'.eraseIdx j.toNat) (xs.eraseIdx j.toNat) := by
    rw [List.eraseIdx_eq_take_drop_succ, List.eraseIdx_eq_take_drop_succ]
    exact (k4.take _).app (k4.drop _)
  refine ⟨a, vs', j, j.toNat, vs'[j.toNat], rfl, rfl, k3, by omega, by omega, ?_, ev, q _ _ _ F1 _ g1.s1 (S1.change hi k1 k2 er) rx (p1 x hx)⟩
  have e1 : (if j < 0 then j + (vs'.length : Int) else j) = j := if_neg (by omega)
  have e2 : (decide (0 ≤ j) && decide (j < (vs'.length : Int))) = true := by
    rw [decide_eq_true j0, decide_eq_true (show j < (vs'.length : Int) by omega)]; rfl
  show (if (decide (0 ≤ (if j < 0 then j + (vs'.length : Int) else j)) && decide ((if j < 0 then j + (vs'.length : Int) else j) < (vs'.length : Int))) = true then some (if j < 0 then j + (vs'.length : Int) else j).toNat else none) = some j.toNat
  rw [e1, e2]; rfl
theorem sm_appendM {p : Po} {i : Nat} {te : TE} {a : Addr} {xs : List Dt} (hi : es[i]? = some (.own a xs)) (h : EvM B te es fun d e1 => e1[i]? = some (.own a xs) ∧ xs.length < 100000 ∧ p.nx (e1.set i (.own a (xs ++ [d])))) : Sm B (tDrop (tBM B.K "list" rAppend (tVar i) (tCons te tNil))) es p := fun σ F H D S n _ _ _ _ => by
  obtain ⟨vs, h1, h2, h3, h4⟩ := S.own hi
  refine ⟨_, h1, .inl ⟨rfl, _, SqL.of h3⟩, h σ F H S _ fun v d e1 F1 H1 s1 S1 r1 ⟨hi1, p1, p2⟩ => ?_⟩
  obtain ⟨vs', k1, k2, k3, k4⟩ := S1.own hi1
  exact ⟨a, vs', v, rfl, rfl, k3, size_lt (by rw [k4.length]; exact p1), n _ _ F1 _ (S1.change hi1 h1 k2 (k4.app (.cons r1 .nil))) s1 p2⟩
theorem sm_reverse {p : Po} {i : Nat} {a : Addr} {xs : List Dt} (hi : es[i]? = some (.own a xs)) (h : p.nx (es.set i (.own a xs.reverse))) : Sm B (tDrop (tBM0 B.K "list" rReverse (tVar i))) es p := fun σ F H D S n _ _ _ _ => by
  obtain ⟨vs, h1, h2, h3, h4⟩ := S.own hi
  have er : ∀ {us : List V} {ds : List Dt}, RpAll B.K F us ds → RpAll B.K F us.reverse ds.reverse := by
    intro us ds r
    induction us generalizing ds with
    | nil => cases r; exact .nil
    | cons u us ih =>
      cases r with
      | cons r t =>
        rw [List.reverse_cons, List.reverse_cons]
        exact (ih t).app (.cons r .nil)
  exact ⟨_, h1, .inl ⟨rfl, _, SqL.of h3⟩, a, vs, rfl, rfl, h3, n _ _ F _ (S.change hi h1 h2 (er h4)) (Same.refl F) h⟩

/-! ### a list of one's own within a datum: told by its address, seen as a datum for the time of a call -/
mutual
def Dt.see (a : Addr) (xs : List Dt) : Dt → Dt
  | .ali c => if c = a then .lst xs else .ali c
  | .lst ds => .lst (seeAll a xs ds)
  | .tup ds => .tup (seeAll a xs ds)
  | .non => .non
  | .bl b => .bl b
  | .int i => .int i
  | .str s => .str s
  | .obj C ns ds => .obj C ns (seeAll a xs ds)
  | .dct ks ds => .dct ks (seeAll a xs ds)
def seeAll (a : Addr) (xs : List Dt) : List Dt → List Dt
  | [] => []
  | d :: ds => d.see a xs :: seeAll a xs ds
end
mutual
theorem Rp.see {K : PySem.W.Frag} {F F' : Hp} {a : Addr} {xs : List Dt} (s : Same F F') (h : Rp K F' (.ref a) (.lst xs)) : ∀ {v : V} {d : Dt}, Rp K F v d → Rp K F' v (d.see a xs)
  | _, _, .non => by unfold Dt.see; exact .non
  | _, _, .bl b => by unfold Dt.see; exact .bl b
  | _, _, .int i => by unfold Dt.see; exact .int i
  | _, _, .str x => by unfold Dt.see; exact .str x
  | _, _, .lst h1 r => by unfold Dt.see; exact .lst (s _ _ h1) (RpAll.see s h r)
  | _, _, .tup h1 r => by unfold Dt.see; exact .tup (sqT_mono s h1) (RpAll.see s h r)
  | _, _, .obj h1 h2 h3 r => by unfold Dt.see; exact .obj (s _ _ h1) h2 h3 (RpAll.see s h r)
  | _, _, .dct h1 h2 h3 r => by unfold Dt.see; exact .dct (s _ _ h1) h2 h3 (RpAll.see s h r)
  | _, _, .ali c => by
    unfold Dt.see
    by_cases e : c = a
    · rw [if_pos e, e]; exact h
    · rw [if_neg e]; exact .ali c
theorem RpAll.see {K : PySem.W.Frag} {F F' : Hp} {a : Addr} {xs : List Dt} (s : Same F F') (h : Rp K F' (.ref a) (.lst xs)) : ∀ {vs : List V} {ds : List Dt}, RpAll K F vs ds → RpAll K F' vs (seeAll a xs ds)
  | _, _, .nil => by unfold seeAll; exact .nil
  | _, _, .cons r t => by unfold seeAll; exact .cons (Rp.see s h r) (RpAll.see s h t)
end
theorem ev_varOwn {i : Nat} {a : Addr} {xs : List Dt} {P : Dt → Prop} (hi : es[i]? = some (.own a xs)) (h : P (.ali a)) : Ev B (tVar i) es P := fun σ F H S Q q => by
  obtain ⟨vs, h1, h2, h3, h4⟩ := S.own hi
  exact ⟨_, h1, q _ _ F H S.refl (.ali a) h⟩
def scD : Dt → Bool
  | .non => true | .bl _ => true | .int _ => true | .str _ => true
  | _ => false
theorem rp_sc {K : PySem.W.Frag} {F F' : Hp} {v : V} {d : Dt} (r : Rp K F v d) (h : scD d = true) : Rp K F' v d := by
  cases r <;> first | exact .non | exact .bl _ | exact .int _ | exact .str _ | cases h
/-- a pure def is called with data that tell of the list at slot i -/
theorem ev_callSee {i : Nat} {a : Addr} {xs : List Dt} {Pre : List Dt → Prop} {Post : List Dt → Dt → Prop} {E : XK} {ta : TA} {P : Dt → Prop} (hi : es[i]? = some (.own a xs)) (h : EvA B ta es fun ds => Pre (seeAll a xs ds) ∧ ∀ d, Post (seeAll a xs ds) d → scD d = true ∧ P d) : Ev B (tCall (spD B.K Pre Post) [] E ta) es P := fun σ F H S Q q =>
  h σ F H S _ fun vs ds F1 H1 g1 r1 ⟨p1, p2⟩ => by
    rw [List.append_nil]
    have S1 := S.go g1
    obtain ⟨ws, h1, h2, h3, h4⟩ := S1.own hi
    have s1 : Same F1 (upd F1 a (.lst ws)) := same_upd h2
    have sH : Same (upd F1 a (.lst ws)) H1 := fun c o e => by
      by_cases hc : c = a
      · subst hc; rw [upd_same] at e; rw [h3, e]
      · rw [upd_ne hc] at e; exact S1.sub c o e
    refine ⟨_, _, sH, RpAll.see s1 (.lst upd_same (h4.mono s1)) r1, p1, fun v d F2 H2 s1 s2 s3 s4 r2 p3 => ?_⟩
    obtain ⟨hs, hp⟩ := p2 d p3
    exact q v d F1 H2 (g1.trans (S1.pure (Same.refl F1) (S1.sub.trans s4) (fun _ _ h => h) s4)) (rp_sc r2 hs) hp

/-! ### dicts -/
def getK (ks : List Key) (xs : List Dt) (k : Key) : Option Dt := match ks, xs with
  | a :: ks, x :: xs => if a = k then some x else getK ks xs k
  | _, _ => none
theorem getK_of {K : PySem.W.Frag} {F : Hp} (k : Key) : ∀ {kvs : List (Key × V)} {ds : List Dt}, RpAll K F (kvs.map (·.2)) ds → (∀ d, getK (kvs.map (·.1)) ds k = some d → ∃ v, valV kvs k = some v ∧ Rp K F v d) ∧ (getK (kvs.map (·.1)) ds k = none → valV kvs k = none)
  | [], ds, r => by
    cases r
    exact ⟨(fun d h => nomatch h), fun _ => rfl⟩
  | (a, v) :: kvs, ds, r => by
    cases r with
    | cons r1 r2 =>
      have ih := getK_of k r2
      unfold valV
      show (∀ d, (if a = k then some _ else getK _ _ k) = some d → _) ∧ ((if a = k then some _ else getK _ _ k) = none → _)
      by_cases h : a = k
      · rw [if_pos h]
        refine ⟨fun d e => ?_, fun e => nomatch e⟩
        cases e
        exact ⟨v, by simp [h], r1⟩
      · rw [if_neg h]
        refine ⟨fun d e => ?_, fun e => ?_⟩
        · obtain ⟨u, h1, h2⟩ := ih.1 d e
          refine ⟨u, ?_, h2⟩
          unfold valV at h1
          simpa [List.find?_cons, h] using h1
        · have := ih.2 e
          unfold valV at this
          simpa [List.find?_cons, h] using this
/-- a written dict with text keys -/
def KDic (K : PySem.W.Frag) (w : World) (d : Addr) (kvs : List (Str × V)) : Prop := ∃ es n, K.lookup d = some ⟨.type "dict", none, .dict es n, #[]⟩ ∧ PySem.W.KeysLit w.params es.toList ∧ (d == sysModules) = false ∧ Paired (fun (p : Str × V) (e : DictEntry) => (∃ t, e.key = .str p.1 t) ∧ RelV p.2 e.val) kvs es.toList
theorem KDic.ns {K : PySem.W.Frag} {w : World} {d : Addr} {kvs : List (Str × V)} (h : KDic K w d kvs) (z : Str) : ∃ r, PySem.W.nsIn K d z = some r ∧ RelO (kvs.lookup z) r := by
  obtain ⟨es, n, h1, _, _, h2⟩ := h
  unfold PySem.W.nsIn
  rw [h1]
  show ∃ r, (match es.toList.find? (·.key.isStr z) with | some e => some (some e.val) | none => if es.toList.any (·.refKey) then none else some none) = some r ∧ _
  generalize es.toList = l at h2
  have nr : l.any (·.refKey) = false := by
    clear h1
    induction h2 with
    | nil => rfl
    | cons r _ ih =>
      obtain ⟨⟨t, e⟩, _⟩ := r
      rw [List.any_cons, ih]
      unfold DictEntry.refKey
      rw [e]; rfl
  rw [nr]
  clear h1 nr
  induction h2 with
  | nil => exact ⟨none, rfl, trivial⟩
  | @cons p e kvs l r _ ih =>
    obtain ⟨⟨t, hk⟩, rv⟩ := r
    obtain ⟨x, v⟩ := p
    have e1 : e.key.isStr z = (x == z) := by rw [hk]; rfl
    rw [List.find?_cons, e1]
    by_cases h : x = z
    · subst h
      refine ⟨some e.val, by simp, ?_⟩
      show RelO (List.lookup x ((x, v) :: kvs)) _
      rw [List.lookup_cons]
      simp
      exact rv
    · have h2 : (x == z) = false := by simpa using h
      have h3 : (z == x) = false := by simpa using fun q => h q.symm
      rw [h2]
      show ∃ r, _ = some r ∧ RelO (List.lookup z ((x, v) :: kvs)) r
      rw [List.lookup_cons, h3]
      exact ih
end
end Y
/-! Y8: written dicts read, dicts displayed, defs with defaults. -/
namespace Y
open PySem L2
/-! ### written dicts -/
def rInKD (K : PySem.W.Frag) (w : World) : R2 := fun x y H Q => ∃ z d kvs, x = .str z ∧ y = .ref d ∧ KDic K w d kvs ∧ Q (.bl (kvs.lookup z).isSome) H
def rNiKD (K : PySem.W.Frag) (w : World) : R2 := fun x y H Q => ∃ z d kvs, x = .str z ∧ y = .ref d ∧ KDic K w d kvs ∧ Q (.bl (!(kvs.lookup z).isSome)) H
section
variable {X : Cx} {K : PySem.W.Frag} {w : World}
theorem KDic.kd {K : PySem.W.Frag} {w : World} {d : Addr} {kvs : List (Str × V)} (h : KDic K w d kvs) : ∃ es n, KDict K w d es n := by
  obtain ⟨es, n, h1, h2, h3, _⟩ := h
  exact ⟨es, n, h1, h2, h3⟩
theorem op_inKD (hK : X.K = K := by rfl) (hw : X.w = w := by rfl) : OpR X (compareOp .In) (rInKD K w) := by
  subst hK hw
  intro pins s σ H x y u v Q I rx ry h
  obtain ⟨z, d, kvs, rfl, rfl, D, q⟩ := h
  obtain ⟨es, n, D1⟩ := D.kd
  obtain ⟨r, h1, h2⟩ := D.ns z
  refine op_in_kd D1 pins s σ H _ _ u v Q I rx ry ⟨z, r, rfl, rfl, h1, ?_⟩
  rw [← h2.isSome_eq]
  exact q
theorem op_niKD (hK : X.K = K := by rfl) (hw : X.w = w := by rfl) : OpR X (compareOp .NotIn) (rNiKD K w) := by
  subst hK hw
  intro pins s σ H x y u v Q I rx ry h
  obtain ⟨z, d, kvs, rfl, rfl, D, q⟩ := h
  obtain ⟨es, n, D1⟩ := D.kd
  obtain ⟨r, h1, h2⟩ := D.ns z
  refine op_notIn_kd D1 pins s σ H _ _ u v Q I rx ry ⟨z, r, rfl, rfl, h1, ?_⟩
  rw [← h2.isSome_eq]
  exact q
theorem ix_kd (hK : X.K = K := by rfl) (hw : X.w = w := by rfl) : IxR X (rIxD K w) := by
  subst hK hw
  exact ix_kdict
end
section
variable {B : Bs} {es : List Sl} {w : World}
theorem ev_inKD {d : Addr} {kvs : List (Str × V)} {ta : TE} {P : Dt → Prop} (D : KDic B.K w d kvs) (h : Ev B ta es fun x => ∃ z, x = .str z ∧ P (.bl (kvs.lookup z).isSome)) : Ev B (tOp (rInKD B.K w) ta (tC (.ref d))) es P := fun σ F H S Q q =>
  h σ F H S _ fun v x F1 H1 g1 r1 ⟨z, e, p1⟩ => by
    subst e; cases r1
    exact ⟨z, d, kvs, rfl, rfl, D, q _ _ F1 H1 g1 (.bl _) p1⟩
theorem ev_niKD {d : Addr} {kvs : List (Str × V)} {ta : TE} {P : Dt → Prop} (D : KDic B.K w d kvs) (h : Ev B ta es fun x => ∃ z, x = .str z ∧ P (.bl (!(kvs.lookup z).isSome))) : Ev B (tOp (rNiKD B.K w) ta (tC (.ref d))) es P := fun σ F H S Q q =>
  h σ F H S _ fun v x F1 H1 g1 r1 ⟨z, e, p1⟩ => by
    subst e; cases r1
    exact ⟨z, d, kvs, rfl, rfl, D, q _ _ F1 H1 g1 (.bl _) p1⟩
/-- the datum of a scalar value -/
def vD : V → Dt
  | .non => .non
  | .bl b => .bl b
  | .int i => .int i
  | .str s => .str s
  | _ => .non
def scV : V → Bool
  | .non => true | .bl _ => true | .int _ => true | .str _ => true
  | _ => false
theorem rp_vD {K : PySem.W.Frag} {F : Hp} {v : V} (h : scV v = true) : Rp K F v (vD v) := by
  cases v <;> first | exact .non | exact .bl _ | exact .int _ | exact .str _ | cases h
theorem ev_ixKD {d : Addr} {kvs : List (Str × V)} {tb : TE} {P : Dt → Prop} (D : KDic B.K w d kvs) (h : Ev B tb es fun y => ∃ z, y = .str z ∧ ∃ v, kvs.lookup z = some v ∧ scV v = true ∧ P (vD v)) : Ev B (tOp (rIxD B.K w) (tC (.ref d)) tb) es P := fun σ F H S Q q =>
  h σ F H S _ fun v x F1 H1 g1 r1 ⟨z, e, v0, hv, hs, p1⟩ => by
    subst e; cases r1
    obtain ⟨r, h1, h2⟩ := D.ns z
    rw [hv] at h2
    cases r with
    | none => exact (show False from h2).elim
    | some u =>
      obtain ⟨es, n, k1, k2, _, _⟩ := D
      exact ⟨d, z, v0, rfl, rfl, ⟨es, n, u, k1, k2, h1, h2⟩, q _ _ F1 H1 g1 (rp_vD hs) p1⟩

/-! ### dicts displayed and asked -/
def kD : Key → Dt
  | .inl i => .int i
  | .inr x => .str x
theorem rp_kD {K : PySem.W.Frag} {F : Hp} {v : V} {k : Key} (r : Rp K F v (kD k)) : v = kV k := by
  cases k <;> cases r <;> rfl
def EvPs (B : Bs) (trs : List (TE × TE)) (es : List Sl) (P : List Key → List Dt → Prop) : Prop := ∀ σ F H, Stt B es σ F H → ∀ Q : List (V × V) → Hp → Prop,
  (∀ ks ps ds F' H', Go B F H F' H' → RpAll B.K F' (ps.map (·.2)) ds → ps.map (·.1) = ks.map kV → P ks ds → Q ps H') → tPairs trs σ H Q
theorem eps_nil {P : List Key → List Dt → Prop} (h : P [] []) : EvPs B [] es P := fun σ F H S Q q => q [] [] [] F H S.refl .nil rfl h
theorem eps_cons {tk tv : TE} {r : List (TE × TE)} {P : List Key → List Dt → Prop} (h : Ev B tk es fun x => ∃ k, x = kD k ∧ Ev B tv es fun y => EvPs B r es fun ks ds => P (k :: ks) (y :: ds)) : EvPs B ((tk, tv) :: r) es P := fun σ F H S Q q =>
  h σ F H S _ fun v x F1 H1 g1 r1 ⟨k, e, p1⟩ => p1 σ F1 H1 (S.go g1) _ fun u y F2 H2 g2 r2 p2 => p2 σ F2 H2 ((S.go g1).go g2) _ fun ks ps ds F3 H3 g3 r3 e3 p3 => by
    subst e
    refine q (k :: ks) ((v, u) :: ps) (y :: ds) F3 H3 ((g1.trans g2).trans g3) (.cons (r2.mono g3.s1) r3) ?_ p3
    rw [List.map_cons, List.map_cons, e3, rp_kD r1]
theorem merge_nodup {kvs : List (Key × V)} (h : (kvs.map (·.1)).Nodup) : mergeK [] kvs = kvs := by
  have key : ∀ (more acc : List (Key × V)), ((acc ++ more).map (·.1)).Nodup → mergeK acc more = acc ++ more := by
    intro more
    induction more with
    | nil => intro acc _; simp [mergeK]
    | cons p more ih =>
      intro acc hn
      have hv : valV acc p.1 = none := by
        cases e : valV acc p.1 with
        | none => rfl
        | some v =>
          have hm : p.1 ∈ acc.map (·.1) := valV_in (by rw [e])
          rw [List.map_append, List.map_cons] at hn
          have := List.nodup_append.mp hn
          exact absurd rfl (this.2.2 p.1 hm p.1 (List.mem_cons_self ..))
      show mergeK (putK acc p.1 p.2) more = _
      rw [putK_new _ hv, ih]
      · simp
      · simpa using hn
  simpa using key kvs [] (by simpa using h)
theorem zip_back : ∀ (ps : List (V × V)) (ks : List Key), ps.map (·.1) = ks.map kV → ks.length = ps.length → ps = (ks.zip (ps.map (·.2))).map fun kv => (kV kv.1, kv.2)
  | [], [], _, _ => rfl
  | [], _ :: _, _, h => by simp at h
  | _ :: _, [], _, h => by simp at h
  | a :: ps, k :: ks, e, h => by
    simp only [List.map_cons, List.cons.injEq] at e
    simp only [List.map_cons, List.zip_cons_cons, List.cons.injEq]
    exact ⟨by rw [← e.1], zip_back ps ks e.2 (by simpa using h)⟩
/-- a, b = [..], [..]: two new lists of one's own -/
theorem sm_parOO {p : Po} {i j : Nat} {t1 t2 : TE} (hij : i ≠ j) (hj : ∀ a xs, es[j]? ≠ some (.own a xs)) (hi : ∀ a xs, es[i]? ≠ some (.own a xs)) (h : EvO B t1 es fun xs => EvO B t2 es fun ys => ∀ a b, a ≠ b → p.nx ((es.set i (.own a xs)).set j (.own b ys))) : Sm B (tPar i j (tCons t1 (tCons t2 tNil))) es p := fun σ F H D S n _ _ _ _ =>
  h σ F H S _ fun a vs xs F1 H1 g1 a0 a1 a2 r1 p1 => p1 σ F1 H1 (S.go g1) _ fun b ws ys F2 H2 g2 b0 b1 b2 r2 p2 => by
    have S2 := (S.go g1).go g2
    have hab : a ≠ b := ne_of_none a2 b0
    have ha2 : H2 a = some (.lst vs) := g2.kp a _ (S.newB a0) a2
    have hF2 : F2 a = none := g2.nw a (by rw [a2]; simp) a1
    have S3 := S2.setO (i := i) hF2 ha2 (r1.mono g2.s1) (S.new0 a0) (S.newB a0) fun k c zs hk => S.newS a0 k zs hk
    have S4 := S3.setO (i := j) b1 b2 r2 ((S.go g1).new0 b0) ((S.go g1).newB b0) fun k c zs hk => by
      by_cases e : i = k
      · subst e
        have l1 : i < es.length := by
          have := (List.getElem?_eq_some_iff.mp hk).1
          rwa [List.length_set] at this
        rw [List.getElem?_set_self l1] at hk
        cases hk
        exact hab
      · rw [List.getElem?_set_ne e] at hk
        exact (S.go g1).newS b0 k zs hk
    exact ⟨.ref a, .ref b, rfl, n _ _ F2 H2 S4 (g1.s1.trans g2.s1) (p2 a b hab)⟩
theorem ev_disp {trs : List (TE × TE)} {P : Dt → Prop} (h : EvPs B trs es fun ks ds => ks.Nodup ∧ ks.length ≤ 15 ∧ P (.dct ks ds)) : Ev B (tDisp trs) es P := fun σ F H S Q q p hp => by
  have gD := S.allocO (o := .dK []) hp
  have S1 := S.go gD
  have hb := S.newB hp
  refine h σ F _ S1 _ fun ks ps ds F2 H2 g2 r2 e2 ⟨hn, hl, p2⟩ => ?_
  have h2 : H2 p = some (.dK []) := g2.kp p _ hb upd_same
  have hF2 : F2 p = none := g2.nw p (by rw [upd_same]; simp) (same_none S.sub hp)
  have lk : ks.length = ps.length := by
    have := congrArg List.length e2
    simpa using this.symm
  have e3 : ps = (ks.zip (ps.map (·.2))).map fun kv => (kV kv.1, kv.2) := zip_back ps ks e2 lk
  have k1 : (ks.zip (ps.map (·.2))).map (·.1) = ks := by rw [List.map_fst_zip]; rw [List.length_map]; omega
  have k2 : (ks.zip (ps.map (·.2))).map (·.2) = ps.map (·.2) := by rw [List.map_snd_zip]; rw [List.length_map]; omega
  refine ⟨h2, ks.zip (ps.map (·.2)), e3, by rw [List.length_zip, List.length_map]; omega, ?_⟩
  rw [merge_nodup (by rw [k1]; exact hn)]
  refine q (.ref p) (.dct ks ds) (upd F2 p (.dK (ks.zip (ps.map (·.2))))) _ ?_ (.dct upd_same k1 k2 (r2.mono (same_upd hF2))) p2
  refine ⟨g2.s1.trans (same_upd hF2), same_updF g2.s2, fun c h1 h2 => ?_, fun c o h1 h2 => ?_, fun b hb' => ?_⟩
  · have hc : c ≠ p := fun e => h1 (by rw [e]; exact hp)
    rw [upd_ne hc]
    exact g2.nw c (by rw [upd_ne hc]; exact h1) h2
  · have hc : c ≠ p := ne_of_none h2 hp
    rw [upd_ne hc]
    exact g2.kp c o h1 (by rw [upd_ne hc]; exact h2)
  · obtain ⟨k1, z, zs, k2, k3, k4⟩ := g2.bg b hb'
    have hbp : b ≠ p := fun e => hb (by rw [hb', e])
    exact ⟨by rw [upd_ne hbp]; exact k1, z, zs, by rw [upd_ne hbp]; exact k2, k3.mono (same_upd hF2), k4⟩
/-- d.get(k, x) -/
theorem ev_get2 {td ty tx : TE} {P : Dt → Prop} (h : Ev B td es fun x => ∃ ks xs, x = .dct ks xs ∧ Ev B ty es fun y => ∃ k, y = kD k ∧ Ev B tx es fun z => P ((getK ks xs k).getD z)) : Ev B (tDGet2 td ty tx) es P := fun σ F H S Q q =>
  h σ F H S _ fun v x F1 H1 g1 r1 ⟨ks, xs, e, p1⟩ => by
    subst e
    cases r1 with
    | dct h1 h2 h3 h4 =>
      refine ⟨_, rfl, .inl ⟨_, .inl (g1.s2 _ _ h1)⟩, p1 σ F1 H1 (S.go g1) _ fun u y F2 H2 g2 r2 ⟨k, e2, p2⟩ => p2 σ F2 H2 ((S.go g1).go g2) _ fun t z F3 H3 g3 r3 p3 => ?_⟩
      subst e2
      have ek := rp_kD r2
      subst ek
      subst h2 h3
      have h5 := getK_of k (h4.mono (g2.s1.trans g3.s1))
      refine ⟨_, DGet.k (k := k) (g3.s2 _ _ ((g2.s1.trans g3.s1) _ _ h1)), ?_⟩
      cases e : getK _ xs k with
      | none =>
        rw [h5.2 e]
        rw [e] at p3
        exact q _ _ F3 H3 ((g1.trans g2).trans g3) r3 p3
      | some d =>
        obtain ⟨v', k1, k2⟩ := h5.1 d e
        rw [k1]
        rw [e] at p3
        exact q _ _ F3 H3 ((g1.trans g2).trans g3) k2 p3
end
/-! ### defs with defaults -/
section
variable {P : Program} {w : World} {K : PySem.W.Frag} {mg : Str → Option Value} {base : Heap} {x qual : Str} {pa : Arguments} {bd : List Stmt} {sc : Scope} {dvs : List V} {kws : List (Str × V)} {f : Addr} {fd : FuncData} {N ps : List Str} {k : Nat} {Pre : List Dt → Prop} {Post : List Dt → Dt → Prop} {PostO : List Dt → List Dt → Prop}
theorem fn_dataD (G : FunD K x qual pa bd sc dvs kws f fd) (S : FnScope N ps sc) (hl : ∀ ds, Pre ds → ds.length = ps.length)
    (hb : ∀ (cdv : Value) (A : Around) (outer : List Env) (s : Shared) (H : Hp) (E : XK), Room k (A.deeper (PyProof.Rows.envOfC qual sc s.heap.objs.size f cdv)) →
      ∃ t, PSs (cxOf CX0 P w K mg base N qual sc f cdv A outer s H E).nox bd t ∧ ∀ F0 H0 ds, Pre ds → Sm ⟨K, F0, H0, none⟩ t (env0 N ds) { nx := fun _ => Post ds .non, bk := fun _ => False, ct := fun _ => False, rt := fun _ => Post ds }) :
    FnOk P w K mg base CX0 (k + 1) f fd ps (spD K Pre Post) := by
  refine G.ok S (fun vs H Q E h => ?_) (fun cdv A outer s H vs Q E hr h => ?_)
  · obtain ⟨F, ds, _, r, hp, _⟩ := h
    rw [r.length]; exact hl ds hp
  · obtain ⟨F, ds, hs, r, hp, q⟩ := h
    obtain ⟨t, hd, hm⟩ := hb cdv A outer s H E hr
    refine ⟨t, hd.nox, hm F H ds hp _ F H _ (start_stt hs r (fun _ z => nomatch z)) (fun es' σ' F' H' S' s' p => ?_) (fun _ _ _ _ _ _ z => z.elim) (fun _ _ _ _ _ _ z => z.elim) (fun v d es' σ' F' H' S' s' rv p => ?_) (fun _ _ _ _ _ _ _ _ _ _ _ _ _ _ z => z.elim)⟩
    · exact q _ _ F' H' s' S'.ou S'.sub (fun c o e => S'.fr c o e (fun z => nomatch z)) .non p
    · exact q _ _ F' H' s' S'.ou S'.sub (fun c o e => S'.fr c o e (fun z => nomatch z)) rv p
theorem fn_ownD (G : FunD K x qual pa bd sc dvs kws f fd) (S : FnScope N ps sc) (hl : ∀ ds, Pre ds → ds.length = ps.length)
    (hb : ∀ (cdv : Value) (A : Around) (outer : List Env) (s : Shared) (H : Hp) (E : XK), Room k (A.deeper (PyProof.Rows.envOfC qual sc s.heap.objs.size f cdv)) →
      ∃ t, PSs (cxOf CX0 P w K mg base N qual sc f cdv A outer s H E).nox bd t ∧ ∀ F0 H0 ds, Pre ds → Sm ⟨K, F0, H0, none⟩ t (env0 N ds) { nx := fun _ => False, bk := fun _ => False, ct := fun _ => False, rt := fun _ _ => False, ro := PostO ds }) :
    FnOk P w K mg base CX0 (k + 1) f fd ps (spO K Pre PostO) := by
  refine G.ok S (fun vs H Q E h => ?_) (fun cdv A outer s H vs Q E hr h => ?_)
  · obtain ⟨F, ds, _, r, hp, _⟩ := h
    rw [r.length]; exact hl ds hp
  · obtain ⟨F, ds, hs, r, hp, q⟩ := h
    obtain ⟨t, hd, hm⟩ := hb cdv A outer s H E hr
    refine ⟨t, hd.nox, hm F H ds hp _ F H _ (start_stt hs r (fun _ z => nomatch z)) (fun _ _ _ _ _ _ z => z.elim) (fun _ _ _ _ _ _ z => z.elim) (fun _ _ _ _ _ _ z => z.elim) (fun _ _ _ _ _ _ _ _ _ z => z.elim) (fun a vs xs es' σ' F' H' S' s' h1 h2 r1 h3 h4 p => ?_)⟩
    exact q a vs xs F' H' s' S'.ou S'.sub (fun c o e => S'.fr c o e (fun z => nomatch z)) h3 h1 h2 r1 p
/-- a keyword call of a def with positional defaults: g puts values, defaults and keywords in order -/
theorem kb_dfl (G : FunD K x qual pa bd sc dvs kws f fd) (n : Nat) (ks : List Str) (g : {α : Type} → List α → List α → List α → List α) (hd : dvs ≠ [])
    (hrel : ∀ {fv : List V} {fu : List Value} {vs zs : List V} {us ws : List Value}, Vals fv fu → Vals vs us → Vals zs ws → Vals (g fv vs zs) (g fu us ws))
    (h : ∀ (T : Addr) (kV doc pm : Value) (an : Option Addr) (cdv ct : Value) (us its ws : List Value), us.length = n → its.length = dvs.length → ws.length = ks.length →
      ∃ k, bindArgs (PySem.W.fnOf x qual pa bd sc (.ref T) kV doc pm an cdv ct) ⟨us, ks.zip ws⟩ = seqItems? (.ref T) >>= k ∧ k (some its.toArray) = pure (ps.zip (g its us ws))) :
    ∃ fu : List Value, Vals dvs fu ∧ KBn K fd ps n ks (fun us ws => g fu us ws) (fun vs zs => g dvs vs zs) := by
  obtain ⟨oc, od, dV, kV, doc, pm, an, cdv, ct, osl, rfl, lk, hcd, hD, hK⟩ := G.ex
  rcases hD with ⟨e, _⟩ | ⟨_, T, o, its, m, rfl, lT, oT, rT⟩
  · exact absurd e hd
  · refine ⟨its, rT, ⟨fun s us ws X l1 l2 => ?_, fun r1 r2 => hrel rT r1 r2⟩⟩
    obtain ⟨k, e1, e2⟩ := h T kV doc pm an cdv ct us its ws l1 rT.length.symm l2
    refine BindsTo.of_looks fun M => ?_
    rw [e1]
    exact looks_items X lT oT (.of_pure e2)
end
end Y
/-! Y9: rows as data; what the helpers that draw rows promise. -/
namespace Y
open PySem L2
/-! ### rows -/
def fitsB (k : Nat) (x : Dt) : Bool := if k = 114 then isRegD x else if k = 110 then isNameD x else if k = 119 then isNum x 0 65535 else if k = 100 then isNum x 0 15 else isNum x 1 120
def formB : List Nat → List Dt → Bool
  | [], [] => true
  | k :: ks, x :: xs => fitsB k x && formB ks xs
  | _, _ => false
def codeForms : List (Str × Str) := [("put", "rw"), ("name", "rn"), ("add", "rr"), ("take", "rr"), ("load", "rrd"), ("store", "rrd"), ("jump", "n"), ("ifzero", "rn"), ("call", "n"), ("callby", "r"), ("back", ""), ("out", "r"), ("halt", ""), ("room", "k")]
def dataForms : List (Str × Str) := [("word", "w"), ("address", "n"), ("room", "k")]
def rowBy (fs : List (Str × Str)) (d : Dt) : Bool := match d with
  | .tup (.str w :: rest) => (match fs.lookup w with
    | some f => formB f.cps.toList rest
    | none => false)
  | _ => false
abbrev codeRow (d : Dt) : Bool := rowBy codeForms d
abbrev dataRow (d : Dt) : Bool := rowBy dataForms d
theorem rowBy_of {fs : List (Str × Str)} {w : Str} {rest : List Dt} {ks : List Nat} (h0 : (fs.lookup w).map (fun f => f.cps.toList) = some ks) (hf : formB ks rest = true) : rowBy fs (.tup (.str w :: rest)) = true := by
  obtain ⟨f, h, hk⟩ := Option.map_eq_some_iff.mp h0
  show (match fs.lookup w with | some f => formB f.cps.toList rest | none => false) = true
  rw [h]
  show formB f.cps.toList rest = true
  rw [hk]; exact hf
theorem rowBy_inv {fs : List (Str × Str)} {d : Dt} (h : rowBy fs d = true) : ∃ w f rest, d = .tup (.str w :: rest) ∧ fs.lookup w = some f ∧ formB f.cps.toList rest = true := by
  unfold rowBy at h
  split at h
  · rename_i w rest
    cases e : fs.lookup w with
    | none => rw [e] at h; cases h
    | some f => rw [e] at h; exact ⟨w, f, rest, rfl, e, h⟩
  · cases h
/-- what the sizes of rows ask -/
def RowW (d : Dt) : Prop := ∃ w rest, d = .tup (.str w :: rest) ∧ (w = "room" → ∃ k : Int, rest = [.int k])
theorem formB_k {rest : List Dt} (h : formB [107] rest = true) : ∃ k : Int, rest = [.int k] ∧ 1 ≤ k ∧ k ≤ 120 := by
  cases rest with
  | nil => cases h
  | cons x xs =>
    cases xs with
    | cons y ys =>
      have h : (fitsB 107 x && false) = true := h
      rw [Bool.and_false] at h; cases h
    | nil =>
      have h : (fitsB 107 x && true) = true := h
      rw [Bool.and_true] at h
      have h : isNum x 1 120 = true := h
      cases x with
      | int i =>
        have h : (decide ((1 : Int) ≤ i) && decide (i ≤ 120)) = true := h
        rw [Bool.and_eq_true] at h
        exact ⟨i, rfl, of_decide_eq_true h.1, of_decide_eq_true h.2⟩
      | _ => cases h
theorem rowW_code {d : Dt} (h : codeRow d = true) : RowW d := by
  obtain ⟨w, f, rest, rfl, h1, h2⟩ := rowBy_inv h
  refine ⟨w, rest, rfl, fun e => ?_⟩
  subst e
  have e1 : codeForms.lookup ("room" : Str) = some ("k" : Str) := by decide +kernel
  rw [e1] at h1
  cases h1
  have e2 : ("k" : Str).cps.toList = [107] := by decide +kernel
  rw [e2] at h2
  obtain ⟨k, e, _⟩ := formB_k h2
  exact ⟨k, e⟩
theorem rowW_data {d : Dt} (h : dataRow d = true) : RowW d := by
  obtain ⟨w, f, rest, rfl, h1, h2⟩ := rowBy_inv h
  refine ⟨w, rest, rfl, fun e => ?_⟩
  subst e
  have e1 : dataForms.lookup ("room" : Str) = some ("k" : Str) := by decide +kernel
  rw [e1] at h1
  cases h1
  have e2 : ("k" : Str).cps.toList = [107] := by decide +kernel
  rw [e2] at h2
  obtain ⟨k, e, _⟩ := formB_k h2
  exact ⟨k, e⟩
theorem fit_r {x : Dt} (h : isRegD x = true) : fitsB 114 x = true := h
theorem fit_n {x : Dt} (h : isNameD x = true) : fitsB 110 x = true := h
theorem fit_w {i : Int} (h : 0 ≤ i ∧ i ≤ 65535) : fitsB 119 (.int i) = true := by
  show (decide (_ ≤ _) && decide (_ ≤ _)) = true
  rw [decide_eq_true h.1, decide_eq_true h.2]; rfl
theorem fit_d {i : Int} (h : 0 ≤ i ∧ i ≤ 15) : fitsB 100 (.int i) = true := by
  show (decide (_ ≤ _) && decide (_ ≤ _)) = true
  rw [decide_eq_true h.1, decide_eq_true h.2]; rfl
theorem fit_k {i : Int} (h : 1 ≤ i ∧ i ≤ 120) : fitsB 107 (.int i) = true := by
  show (decide (_ ≤ _) && decide (_ ≤ _)) = true
  rw [decide_eq_true h.1, decide_eq_true h.2]; rfl
theorem form0 : formB [] [] = true := rfl
theorem form1 {a : Nat} {x : Dt} (h : fitsB a x = true) : formB [a] [x] = true := by
  show (fitsB a x && true) = true
  rw [h]; rfl
theorem form2 {a b : Nat} {x y : Dt} (h : fitsB a x = true) (h2 : fitsB b y = true) : formB [a, b] [x, y] = true := by
  show (fitsB a x && (fitsB b y && true)) = true
  rw [h, h2]; rfl
theorem form3 {a b c : Nat} {x y z : Dt} (h : fitsB a x = true) (h2 : fitsB b y = true) (h3 : fitsB c z = true) : formB [a, b, c] [x, y, z] = true := by
  show (fitsB a x && (fitsB b y && (fitsB c z && true))) = true
  rw [h, h2, h3]; rfl
/-! ### drawn names -/
def titlesPre (ds : List Dt) : Prop := ∃ m : Int, ds = [.int m] ∧ 0 ≤ m ∧ m ≤ 26
def titlesPost (ds : List Dt) (d : Dt) : Prop := ∃ (m : Int) (ss : List Str), ds = [.int m] ∧ d = .lst (ss.map Dt.str) ∧ (ss.length : Int) = m ∧ (∀ s ∈ ss, isNameD (.str s) = true) ∧ ss.Nodup
def NamesD (d : Dt) : Prop := ∃ ss : List Str, d = .lst (ss.map Dt.str) ∧ 0 < ss.length ∧ ss.length ≤ 1000 ∧ ∀ s ∈ ss, isNameD (.str s) = true
theorem titles_k {m : Int} {R : Dt → Prop} (hm : 0 ≤ m ∧ m ≤ 26) (h : ∀ ss : List Str, (ss.length : Int) = m → (∀ s ∈ ss, isNameD (.str s) = true) → ss.Nodup → R (.lst (ss.map Dt.str))) : titlesPre [.int m] ∧ ∀ d, titlesPost [.int m] d → R d :=
  ⟨⟨m, rfl, hm⟩, fun d ⟨m', ss, e, e2, h1, h2, h3⟩ => by cases e; subst e2; exact h ss h1 h2 h3⟩
def nilPre (ds : List Dt) : Prop := ds = []
def numberPost (_ : List Dt) (d : Dt) : Prop := ∃ i : Int, d = .int i ∧ 0 ≤ i ∧ i ≤ 65535
def rPost (_ : List Dt) (d : Dt) : Prop := isRegD d = true
theorem number_k {R : Dt → Prop} (h : ∀ i : Int, 0 ≤ i → i ≤ 65535 → R (.int i)) : nilPre [] ∧ ∀ d, numberPost [] d → R d := ⟨rfl, fun d ⟨i, e, h1, h2⟩ => by subst e; exact h i h1 h2⟩
theorem r_k {R : Dt → Prop} (h : ∀ d, isRegD d = true → R d) : nilPre [] ∧ ∀ d, rPost [] d → R d := ⟨rfl, fun d e => h d e⟩
def namesPre (ds : List Dt) : Prop := ∃ t, ds = [t] ∧ NamesD t
def codeRowPost (_ : List Dt) (d : Dt) : Prop := codeRow d = true
def dataRowPost (_ : List Dt) (d : Dt) : Prop := dataRow d = true
theorem code_k {t : Dt} {R : Dt → Prop} (ht : NamesD t) (h : ∀ d, codeRow d = true → R d) : namesPre [t] ∧ ∀ d, codeRowPost [t] d → R d := ⟨⟨t, rfl, ht⟩, fun d e => h d e⟩
theorem data_k {t : Dt} {R : Dt → Prop} (ht : NamesD t) (h : ∀ d, dataRow d = true → R d) : namesPre [t] ∧ ∀ d, dataRowPost [t] d → R d := ⟨⟨t, rfl, ht⟩, fun d e => h d e⟩
/-- one of the names -/
theorem of_names {t : Dt} {R : Dt → Prop} (ht : NamesD t) (h : ∀ d, isNameD d = true → R d) : ofPre [t] ∧ ∀ d, ofPost [t] d → R d := by
  obtain ⟨ss, rfl, h0, h1, h2⟩ := ht
  refine of_k ⟨by simpa using h0, by simp; omega⟩ fun d hd => ?_
  obtain ⟨s, hs, rfl⟩ := List.mem_map.mp hd
  exact h _ (h2 s hs)
/-- one of some written things -/
theorem of_all {xs : List Dt} {p : Dt → Bool} {R : Dt → Prop} (h0 : 0 < xs.length ∧ xs.length ≤ 100000) (hp : xs.all p = true) (h : ∀ d, p d = true → R d) : ofPre [.lst xs] ∧ ∀ d, ofPost [.lst xs] d → R d :=
  of_k h0 fun d hd => h d (all_mem hp hd)
/-- a text cut in two with a sign between is a name -/
theorem isName_mk {z : Str} (h1 : 1 ≤ z.cps.size) (h2 : z.cps.size ≤ 6) (h : ∀ c ∈ z.cps.toList, c ∈ letters) : isNameD (.str z) = true := by
  show (decide ((1 : Int) ≤ (z.cps.size : Int)) && (decide ((z.cps.size : Int) ≤ 6) && z.cps.toList.all fun c => decide (c ∈ letters))) = true
  rw [decide_eq_true (by omega), decide_eq_true (by omega), Bool.true_and, Bool.true_and, List.all_eq_true]
  intro c hc
  exact decide_eq_true (h c hc)
theorem cut_app (z : Str) (n : Nat) (h : n ≤ z.cps.size) : (cutS z none (some (n : Int))).cps.toList = z.cps.toList.take n ∧ (cutS z (some (n : Int)) none).cps.toList = z.cps.toList.drop n := by
  have e0 : z.length = z.cps.size := rfl
  have e1 : HT.sIx z.length z.length (some (n : Int)) = n := by
    show (if (n : Int) < 0 then ((n : Int) + (z.length : Int)).toNat else min (n : Int).toNat z.length) = n
    rw [if_neg (by omega)]; omega
  have e2 : HT.sIx z.length 0 (some (n : Int)) = n := by
    show (if (n : Int) < 0 then ((n : Int) + (z.length : Int)).toNat else min (n : Int).toNat z.length) = n
    rw [if_neg (by omega)]; omega
  have e3 : HT.sIx z.length 0 none = 0 := rfl
  have e4 : HT.sIx z.length z.length none = z.length := rfl
  unfold cutS
  rw [e1, e2, e3, e4]
  constructor
  · simp
  · simp only []
    rw [List.take_of_length_le]
    rw [List.length_drop, Array.length_toList, e0]
    exact Nat.le_refl _
theorem app_toList (x y : Str) : (x ++ y).cps.toList = x.cps.toList ++ y.cps.toList := TL.tl_append x y
theorem perm_erase {α : Type} : ∀ {l : List α} {j : Nat} {c : α}, l[j]? = some c → l.Perm (c :: l.eraseIdx j)
  | [], j, c, h => by simp at h
  | a :: l, 0, c, h => by
    simp at h
    subst h
    exact List.Perm.refl _
  | a :: l, j + 1, c, h => by
    have ih := perm_erase (l := l) (j := j) (c := c) (by simpa using h)
    rw [List.eraseIdx_cons_succ]
    exact (List.Perm.cons a ih).trans (List.Perm.swap c a _)
theorem atI_toNat {α : Type} {xs : List α} {i : Int} {x : α} (h0 : 0 ≤ i) (h : xs[i.toNat]? = some x) : atI xs i = some x := by
  have hl := (List.getElem?_eq_some_iff.mp h).1
  unfold atI ixN
  rw [if_pos h0, if_pos (by omega)]
  exact h
theorem eo_if {B : Bs} {es : List Sl} {t : TT} {ta tb : TE} {P : List Dt → Prop} (h : EvT B t es fun b => (b = true → EvO B ta es P) ∧ (b = false → EvO B tb es P)) : EvO B (tIf t ta tb) es P := fun σ F H S Q q => h σ F H S _ fun b F1 H1 g1 p1 => by
  have S1 := S.go g1
  cases b with
  | true =>
    show ta σ H1 Q
    exact p1.1 rfl σ F1 H1 S1 Q fun a vs xs F2 H2 g2 h0 h1 h2 r p => q a vs xs F2 H2 (g1.trans g2) (g1.new (S1.newB h0) h0) h1 h2 r p
  | false =>
    show tb σ H1 Q
    exact p1.2 rfl σ F1 H1 S1 Q fun a vs xs F2 H2 g2 h0 h1 h2 r p => q a vs xs F2 H2 (g1.trans g2) (g1.new (S1.newB h0) h0) h1 h2 r p
theorem sm_par3 {B : Bs} {es : List Sl} {p : Po} {i j l : Nat} {ta : TA} (h : EvA B ta es fun ds => ∃ x y z, ds = [x, y, z] ∧ p.nx (((es.set i (.d x)).set j (.d y)).set l (.d z))) : Sm B (tPar3 i j l ta) es p := fun σ F H D S n _ _ _ _ => h σ F H S _ fun vs ds F1 H1 g1 r1 ⟨x, y, z, e, p1⟩ => by
  subst e
  cases r1 with
  | cons a r =>
    obtain ⟨v, w, rfl, b, c⟩ := rp2 r
    exact ⟨_, v, w, rfl, n _ _ F1 H1 ((((S.go g1).setD a).setD b).setD c) g1.s1 p1⟩
end Y
/-! Y10: zip of a text and a tuple. -/
namespace Y
open PySem L2 PyProof.Rows
/-- the signs of x with the items of the tuple at b, in new pairs -/
def ItzS (K : PySem.W.Frag) (x : Str) (b : Addr) : It :=
  ⟨fun i H => ∃ ys : List V, SqT K H b ys ∧ i < min x.cps.size ys.length,
    fun i H v H' => ∃ T c y, v = .ref T ∧ H T = none ∧ H' = upd H T (.tup [.str ⟨#[c]⟩, y]) ∧ x.cps[i]? = some c ∧ ∀ ys, SqT K H b ys → ys[i]? = some y,
    fun i H => ∃ ys : List V, SqT K H b ys ∧ i = min x.cps.size ys.length⟩
theorem turn_zipS {P : Program} {w : World} {K : PySem.W.Frag} {elts : List Expr} {kk : Nat} {tpos : Pos} {x : Str} {t : Tok} {b z TI TO i1 i2 : Addr} (S : ZipSep2 z TI TO i1 i2 [i1] [i2, b]) (hb : b ≠ i2) :
    Turn P w K (.Tuple elts kk tpos) (ItzS K x b) [z, TI, TO, i1, i2] z (fun i h => IsZip h z TI TO .none ∧ IsTupOf2 h TI (.ref i1) (.ref i2) ∧ (∃ a1 a2, IsTupOf2 h TO a1 a2) ∧ h.IsStrIter i1 (strIterType x) x t i ∧ h.IsTupleIter i2 b i) where
  mem := by simp
  obj := fun i h st c hc => by
    obtain ⟨hz, hTI, ⟨x, y, hTO⟩, ⟨o1, e1, _, d1⟩, ⟨o2, e2, _, d2⟩⟩ := st
    have e' : c = z ∨ c = TI ∨ c = TO ∨ c = i1 ∨ c = i2 := by simpa using hc
    rcases e' with q | q | q | q | q
    · rw [q]; exact ⟨_, hz, fun v q => nomatch q⟩
    · rw [q]; exact ⟨_, hTI, fun v q => nomatch q⟩
    · rw [q]; exact ⟨_, hTO, fun v q => nomatch q⟩
    · rw [q]; exact ⟨o1, e1, fun v q => by rw [d1] at q; cases q⟩
    · rw [q]; exact ⟨o2, e2, fun v q => by rw [d2] at q; cases q⟩
  keep := fun i h h' st k => by
    obtain ⟨hz, hTI, ⟨x, y, hTO⟩, h1, h2⟩ := st
    obtain ⟨o1, e1, c1, d1⟩ := h1
    exact ⟨k z (by simp) _ hz, k TI (by simp) _ hTI, ⟨x, y, k TO (by simp) _ hTO⟩, ⟨o1, k i1 (by simp) _ e1, c1, d1⟩, h2.at fun o q => k i2 (by simp) o q⟩
  item := by
    intro X hP hw hK hc i pins s σ H E I hf st hg
    subst hP hw hK
    obtain ⟨hz, hTI, hTO, h1, h2⟩ := st
    obtain ⟨ys, hq, hi⟩ := hg
    obtain ⟨its, rv, p, _⟩ := I.tuple hq
    have l := rv.length
    have hiy : i < ys.length := by omega
    have hh : X.A.in1.handled = none := I.ok.hd hc
    have p : s.heap.IsTuple b its.toArray := p
    refine (GoesN.zip2 S (Draws.text hh i1 x t) (Draws.tuple hh i2 b hb its.toArray)).goes i s _ E (by simp; omega) ⟨hz, hTI, hTO, h1, h2, p⟩ ?_
    rintro v h' tk ⟨T, u1, u2, rfl, hnew, ⟨c, tk1, hc1, rfl⟩, e2, hT⟩ st' hk _
    obtain ⟨u, hu, ru⟩ := rv.get (i := i) (x := ys[i]) (by simp [hiy])
    have e3 : u = u2 := by
      have : its[i]? = some u2 := by simpa using e2
      rw [hu] at this; cases this; rfl
    subst e3
    have new : ObjOk X.prog X.w (upd H T (.tup [.str ⟨#[c]⟩, ys[i]])) h' T (.tup [.str ⟨#[c]⟩, ys[i]]) :=
      ⟨by show 2 ≤ sizeLine; decide, [.str ⟨#[c]⟩ tk1, u], .cons ⟨_, rfl⟩ (.cons ru .nil), hT⟩
    have I1 : Inv X pins σ (upd H T (.tup [.str ⟨#[c]⟩, ys[i]])) { s with heap := h', toks := tk } :=
      I.turnedNew (t' := tk) (ch := [z, TI, TO, i1, i2]) (fun b o hb q => hk b o (fun hm => hb (by
        have e' : b = z ∨ b = TO ∨ b = i1 ∨ b = i2 := by simpa using hm
        rcases e' with q | q | q | q <;> simp [q])) q) hf hnew new
    refine ⟨.ref T, _, I1, rfl, ⟨T, c, ys[i], rfl, I.hok.fresh hnew, rfl, hc1, fun l hl => by rw [I.tuple_inj hl hq]; simp [hiy]⟩, ⟨st'.1, st'.2.1, st'.2.2.1, st'.2.2.2.1, st'.2.2.2.2.1⟩, fun c hcm => ?_⟩
    have hlt : c < s.heap.objs.size := by
      have e' : c = z ∨ c = TI ∨ c = TO ∨ c = i1 ∨ c = i2 := by simpa using hcm
      rcases e' with q | q | q | q | q
      · rw [q]; exact Heap.lt_size hz
      · rw [q]; exact Heap.lt_size hTI
      · rw [q]; obtain ⟨_, _, e1⟩ := hTO; exact Heap.lt_size e1
      · rw [q]; obtain ⟨_, e1, _⟩ := h1; exact Heap.lt_size e1
      · rw [q]; obtain ⟨_, e2, _⟩ := h2; exact Heap.lt_size e2
    rw [upd_ne (Nat.ne_of_lt (Nat.lt_of_lt_of_le hlt hnew))]
    exact (hf c hcm).1
  done := by
    intro X hP hw hK hc i pins s σ H E I hf st hg
    subst hP hw hK
    obtain ⟨hz, hTI, hTO, h1, h2⟩ := st
    obtain ⟨ys, hq, hi⟩ := hg
    obtain ⟨its, rv, p, _⟩ := I.tuple hq
    have l := rv.length
    have hh : X.A.in1.handled = none := I.ok.hd hc
    have p : s.heap.IsTuple b its.toArray := p
    have hi : i = min x.cps.size its.toArray.size := by simp; omega
    subst hi
    refine (GoesN.zip2 (elts := elts) (x1 := kk) (pos := tpos) S (Draws.text hh i1 x t) (Draws.tuple hh i2 b hb its.toArray)).stops s _ E ⟨hz, hTI, hTO, h1, h2, p⟩ fun h' tk hk _ => ?_
    exact I.turnedL (t' := tk) (ch := [z, TI, TO, i1, i2]) (fun b o hb q => hk b o (fun hm => hb (by
        have e' : b = z ∨ b = TO ∨ b = i1 ∨ b = i2 := by simpa using hm
        rcases e' with q | q | q | q <;> simp [q])) q) hf
  self := fun A i s Q E st h => wpAny_pyIter_zip st.1 h
def iZipS (K : PySem.W.Frag) (ta : TA) : TI := fun σ H R => ta σ H fun vs H1 => ∃ (x : Str) (b : Addr) (ys : List V), vs = [.str x, .ref b] ∧ SqT K H1 b ys ∧ R (ItzS K x b) H1
theorem pi_zipS {X : Cx} {K : PySem.W.Frag} {e e2 : Expr} {ta : TA} {p pos tpos : Pos} {elts : List Expr} {kk : Nat} (hg : Gl X "zip") (hm : X.mg "zip" = none) (ha : PA X [e, e2] ta) (hK : X.K = K := by rfl)
    (hs : starEach [e, e2] X.env = (false, eval e X.env) :: starEach [e2] X.env := by rfl) (hpl : (backTo pos (starEach [e2] X.env)).any (·.1) = false := by rfl) :
    PI X (.Tuple elts kk tpos) (.Call (.Name "zip" p) [e, e2] [] pos) (iZipS K ta) := by
  subst hK
  refine ⟨fun pins s σ H R I h => ?_⟩
  refine Call_ (ld_blt I hg hm PyProof.Rows.boot_zip (PyProof.Rows.callWith_type1 (thn (ha.run pos pins s σ H _ I h) fun us s1 ⟨vs, H1, I1, r1, q1⟩ => ?_) hs hpl))
  obtain ⟨x, b, ys, ex, hq, q⟩ := q1
  subst ex
  cases r1 with
  | cons r rr =>
    cases rr with
    | cons r' rr =>
      cases rr
      obtain ⟨t, rfl⟩ := r
      cases r'
      have fresh5 : ∀ c, c ∈ [s1.heap.objs.size + 4, s1.heap.objs.size + 2, s1.heap.objs.size + 3, s1.heap.objs.size, s1.heap.objs.size + 1] → FpOk X pins H1 c := fun c hcm => by
        have e' : c = s1.heap.objs.size + 4 ∨ c = s1.heap.objs.size + 2 ∨ c = s1.heap.objs.size + 3 ∨ c = s1.heap.objs.size ∨ c = s1.heap.objs.size + 1 := by simpa using hcm
        have hle : s1.heap.objs.size ≤ c := by
          rcases e' with z | z | z | z | z
          · rw [z]; exact Nat.le_add_right _ _
          · rw [z]; exact Nat.le_add_right _ _
          · rw [z]; exact Nat.le_add_right _ _
          · rw [z]; exact Nat.le_refl _
          · rw [z]; exact Nat.le_add_right _ _
        exact I1.fpOk hle (I1.hok.fresh hle)
      obtain ⟨its, rv, p1, _⟩ := I1.tuple hq
      have p1 : s1.heap.IsTuple b its.toArray := p1
      obtain ⟨o1, ho1, _⟩ := id p1
      have hlt : b < s1.heap.objs.size := Heap.lt_size ho1
      refine zip_begins2 (begins_text x t) (begins_tuple b its.toArray) trivial p1 fun h' hz hTI hTO g1 g2 hsz hk => wpAny_pyIter_zip hz ?_
      have I2 : Inv X pins σ H1 { s1 with heap := h' } := I1.kept (t' := s1.toks) hk
      exact ⟨s1.heap.objs.size + 4, [s1.heap.objs.size + 4, s1.heap.objs.size + 2, s1.heap.objs.size + 3, s1.heap.objs.size, s1.heap.objs.size + 1], _, _, H1, rfl, I2,
        turn_zipS (x := x) (t := t) (zip_sep2 (fp1 := []) (fp2 := [b]) (fun c hc => nomatch hc) (fun c hc => by rw [List.mem_singleton.mp hc]; exact hlt)) (Nat.ne_of_lt (Nat.lt_succ_of_lt hlt)), ⟨hz, hTI, ⟨_, _, hTO⟩, ⟨_, g1, rfl, rfl⟩, ⟨_, g2, rfl, rfl⟩⟩, fresh5, q⟩
theorem pairD_len' (xs ys : List Dt) : (pairD xs ys).length = min xs.length ys.length := pairD_len xs ys
theorem itd_zipS {K : PySem.W.Frag} {F : Hp} {x : Str} {b : Addr} {ws : List V} {ys : List Dt} (h' : SqT K F b ws) (r' : RpAll K F ws ys) : ItD K (ItzS K x b) F (pairD (signsD x) ys) where
  goes := fun i H hi s => by
    rw [pairD_len, signsD_len] at hi
    have l2 := r'.length
    exact ⟨ws, sqT_mono s h', by omega⟩
  stops := fun H s => by
    have l2 := r'.length
    exact ⟨ws, sqT_mono s h', by rw [pairD_len, signsD_len]; omega⟩
  yields := fun i H v H' hi s y => by
    obtain ⟨T, c, z, e1, e2, e3, e4, e5⟩ := y
    obtain ⟨d2, k3, k4⟩ := r'.getV (e5 ws (sqT_mono s h'))
    have k1 : (signsD x)[i]? = some (.str ⟨#[c]⟩) := by rw [signsD, List.getElem?_map, Array.getElem?_toList, e4]; rfl
    exact ⟨_, pairD_get k1 k3, .inr ⟨T, .str ⟨#[c]⟩, z, .str ⟨#[c]⟩, d2, e1, e2, e3, .str _, k4, rfl⟩⟩
theorem ei_zipS {B : Bs} {es : List Sl} {ta : TA} {P : List Dt → Prop} (h : EvA B ta es fun ds => ∃ (x : Str) (ys : List Dt), ds = [.str x, .tup ys] ∧ P (pairD (signsD x) ys)) : EvI B (iZipS B.K ta) es P := fun σ F H S R q => h σ F H S _ fun vs ds F1 H1 g1 r1 ⟨x, ys, e, p1⟩ => by
  subst e
  obtain ⟨v, w, rfl, r, r'⟩ := rp2 r1
  cases r
  cases r' with
  | tup h3 h4 => exact ⟨_, _, _, rfl, sqT_mono g1.s2 h3, q _ _ F1 H1 g1 (itd_zipS h3 h4) p1⟩
end Y
/-! Y11: filters, slices of tuples, tuple(list), find; the shapes of rows. -/
namespace Y
open PySem L2
section
variable {B : Bs} {es : List Sl}
/-- [f(x) for x in xs if t(x)] -/
theorem eo_fm {wi : TI} {g : TG} {tt : TT} {te : TE} {vs : List Nat} {P : List Dt → Prop} (t : Dt → Bool) (f : Dt → Dt) (h : EvI B wi es fun xs => xs.length < 100000 ∧
    (∀ x, x ∈ xs → TgC B g (wipeE es vs) vs x fun e2 => EvT B tt e2 fun b => b = t x ∧ (b = true → Ev B te e2 fun y => y = f x)) ∧ P ((xs.filter t).map f)) : EvO B (tLc wi g tt te vs) es P :=
  eo_lc fun σ F H S Q q => h σ F H S Q fun J xs F1 H1 g1 it ⟨hl, h1, h2⟩ => q J xs F1 H1 g1 it ⟨hl, fun i acc => acc = ((xs.take i).filter t).map f, rfl,
    fun i x acc hx ha σ F H v S r Q q => h1 x (List.mem_of_getElem? hx) σ F H v S r Q fun es' σ' S' hw p => q es' σ' S' hw (p.imp fun b ⟨hb, hy⟩ => by
      have ht : xs.take (i + 1) = xs.take i ++ [x] := by rw [List.take_add_one, hx]; rfl
      refine ⟨fun hbt => (hy hbt).imp fun y e => ?_, fun hbf => ?_⟩
      · show _ = _
        rw [ht, List.filter_append, List.map_append, ← ha, List.filter_cons, if_pos (by rw [← hb]; exact hbt), e]; rfl
      · show _ = _
        rw [ht, List.filter_append, List.map_append, ← ha, List.filter_cons, if_neg (by rw [← hb, hbf]; decide)]; simp), fun acc ha => by rw [ha, List.take_length]; exact h2⟩
theorem ev_slT {te : TE} {tl th : TO} {P : Dt → Prop} (h : Ev B te es fun d => ∃ xs, d = .tup xs ∧ EvP B tl es fun lo => EvP B th es fun hi => ¬ (HT.sIx xs.length 0 lo = 0 ∧ HT.sIx xs.length xs.length hi = xs.length) ∧ P (.tup (cutD xs lo hi))) : Ev B (tSl (rSlA B.K) te tl th) es P := fun σ F H S Q q => h σ F H S _ fun v d F1 H1 g1 r1 ⟨xs, e, p1⟩ => by
  subst e
  refine p1 σ F1 H1 (S.go g1) _ fun lo F2 H2 g2 p2 => p2 σ F2 H2 ((S.go g1).go g2) _ fun hi F3 H3 g3 ⟨hn, p3⟩ => ?_
  have g := (g1.trans g2).trans g3
  have S3 := S.go g
  cases r1 with
  | tup h1 h2 =>
    have r3 := (h2.mono (g2.s1.trans g3.s1)).cut lo hi
    refine .inr (.inl ⟨_, _, rfl, sqT_mono g3.s2 (sqT_mono (g2.s1.trans g3.s1) h1), by rw [h2.length]; exact hn, fun p hp => ?_⟩)
    have hF : F3 p = none := same_none S3.sub hp
    exact q (.ref p) (.tup (cutD xs lo hi)) (upd F3 p (.tup _)) _ (g.trans (S3.alloc hp)) (.tup (SqT.of upd_same) (r3.mono (same_upd hF))) p3
/-- t[1:] of a tuple that is not empty -/
theorem cut1 {α : Type} (x : α) (xs : List α) : cutD (x :: xs) (some 1) none = xs ∧ ¬ (HT.sIx (x :: xs).length 0 (some 1) = 0 ∧ HT.sIx (x :: xs).length (x :: xs).length none = (x :: xs).length) := by
  have e1 : HT.sIx (x :: xs).length 0 (some 1) = 1 := by
    show (if (1 : Int) < 0 then ((1 : Int) + ((x :: xs).length : Int)).toNat else min (1 : Int).toNat (x :: xs).length) = 1
    rw [if_neg (by decide)]
    show min 1 (xs.length + 1) = 1
    omega
  have e2 : HT.sIx (x :: xs).length (x :: xs).length none = (x :: xs).length := rfl
  refine ⟨?_, fun h => ?_⟩
  · unfold cutD
    rw [e1, e2]
    show (List.drop 0 xs).take (xs.length + 1 - 1) = xs
    simp
  · rw [e1] at h; exact absurd h.1 (by decide)
theorem ev_tail {te : TE} {P : Dt → Prop} (h : Ev B te es fun d => ∃ x xs, d = .tup (x :: xs) ∧ P (.tup xs)) : Ev B (tSl (rSlA B.K) te (tPart (tC (.int 1))) tNoPart) es P :=
  ev_slT (h.imp fun d ⟨x, xs, e, p⟩ => ⟨_, e, ep_some (ev_int ⟨1, rfl, ep_none ⟨(cut1 x xs).2, by rw [(cut1 x xs).1]; exact p⟩⟩)⟩)
theorem ev_tupleL {ta : TA} {P : Dt → Prop} (h : EvA B ta es fun ds => ∃ xs, ds = [.lst xs] ∧ P (.tup xs)) : Ev B (tCB (rTupleA B.K) ta) es P := fun σ F H S Q q => h σ F H S _ fun vs ds F1 H1 g1 r1 ⟨xs, e, p1⟩ => by
  subst e
  have S1 := S.go g1
  obtain ⟨v, rfl, r⟩ := rp1 r1
  cases r with
  | lst h1 h2 =>
    refine ⟨_, _, rfl, .inl ⟨SqL.of (g1.s2 _ _ h1), fun l hl => ?_⟩⟩
    have hF : F1 l = none := same_none S1.sub hl
    exact q (.ref l) (.tup xs) (upd F1 l (.tup _)) _ (g1.trans (S1.alloc hl)) (.tup (SqT.of upd_same) (h2.mono (same_upd hF))) p1
theorem ev_find {to te : TE} {P : Dt → Prop} (h : Ev B to es fun a => ∃ x : Str, a = .str x ∧ Ev B te es fun c => ∃ y : Str, c = .str y ∧ P (.int (Txt.find x y))) :
    Ev B (tM1 (fun x xs H Q => ∃ a b, x = .str a ∧ xs = [.str b] ∧ Q (.int (Txt.find a b)) H) to te) es P := fun σ F H S Q q => h σ F H S _ fun v a F1 H1 g1 r1 ⟨x, e, p1⟩ => by
  subst e
  cases r1
  refine ⟨⟨x, rfl⟩, p1 σ F1 H1 (S.go g1) _ fun w d F2 H2 g2 r2 ⟨y, e2, p2⟩ => ?_⟩
  subst e2
  cases r2
  exact ⟨x, y, rfl, rfl, q _ _ F2 H2 (g1.trans g2) (.int _) p2⟩
/-- a list of texts != [] -/
theorem o_neNil {ss : List Str} {P : Dt → Prop} (hl : ss.length < 50000) (h : ∀ s ∈ ss, PyData.strOk s = true) (hp : P (.bl (!ss.isEmpty))) : Op2 B (rNeA B.K) es (.lst (ss.map Dt.str)) (.lst []) P := by
  refine o_neAD (okD_strs hl h) okD_nil ?_
  have e : PyData.eqv (Dt.lst (ss.map Dt.str)).py (Dt.lst []).py = ss.isEmpty := by
    simp only [Dt.py, pyAll, pyAll_strs]
    rw [eqv_nil]
    cases ss <;> rfl
  rw [e]
  exact hp
end
/-! ### signs -/
theorem sign_eq {k c : Nat} {z : Str} (h : z = ⟨#[c]⟩) : decide ((⟨#[k]⟩ : Str) = z) = decide (k = c) := by
  subst h
  have : ((⟨#[k]⟩ : Str) = ⟨#[c]⟩) ↔ k = c := ⟨fun e => by injection e with e; simpa using e, fun e => by rw [e]⟩
  simp [this]
/-! ### lookups -/
theorem lookup_mem {α β : Type} [BEq α] [LawfulBEq α] : ∀ {l : List (α × β)} {a : α} {b : β}, l.lookup a = some b → (a, b) ∈ l
  | [], a, b, h => by cases h
  | (c, d) :: l, a, b, h => by
    rw [List.lookup_cons] at h
    split at h
    · rename_i e
      cases h
      rw [eq_of_beq e]; exact List.mem_cons_self ..
    · exact List.mem_cons_of_mem _ (lookup_mem h)
theorem lookup_strs : ∀ (l : List (Str × Str)) (z : Str), (l.map fun p => (p.1, V.str p.2)).lookup z = (l.lookup z).map V.str
  | [], z => rfl
  | (c, d) :: l, z => by
    rw [List.map_cons, List.lookup_cons, List.lookup_cons]
    show (match z == c with | true => some (V.str d) | false => List.lookup z (List.map (fun (p : Str × Str) => (p.1, V.str p.2)) l)) = _
    cases z == c with
    | true => rfl
    | false => exact lookup_strs l z
/-! ### forms and rows -/
theorem formB_len : ∀ {ks : List Nat} {xs : List Dt}, formB ks xs = true → ks.length = xs.length
  | [], [], _ => rfl
  | [], _ :: _, h => by cases h
  | _ :: _, [], h => by cases h
  | k :: ks, x :: xs, h => by
    have h : (fitsB k x && formB ks xs) = true := h
    rw [Bool.and_eq_true] at h
    rw [List.length_cons, List.length_cons, formB_len h.2]
def fit2 : Dt → Bool
  | .tup [.str z, x] => fitsB (z.cps.toList.headD 0) x
  | _ => false
theorem all_fit2 : ∀ (ks : List Nat) (xs : List Dt), ks.length = xs.length → (pairD (ks.map fun c => .str ⟨#[c]⟩) xs).all fit2 = formB ks xs
  | [], [], _ => rfl
  | [], _ :: _, h => by cases h
  | _ :: _, [], h => by cases h
  | k :: ks, x :: xs, h => by
    show (fit2 (.tup [.str ⟨#[k]⟩, x]) && (pairD (ks.map fun c => .str ⟨#[c]⟩) xs).all fit2) = (fitsB k x && formB ks xs)
    rw [all_fit2 ks xs (by simpa using h)]; rfl
theorem pairD_in : ∀ {xs ys : List Dt} {p : Dt}, p ∈ pairD xs ys → ∃ x y, p = .tup [x, y] ∧ x ∈ xs ∧ y ∈ ys
  | [], ys, p, h => by cases h
  | x :: xs, [], p, h => by cases h
  | x :: xs, y :: ys, p, h => by
    rcases List.mem_cons.mp (show p ∈ .tup [x, y] :: pairD xs ys from h) with rfl | h
    · exact ⟨x, y, rfl, List.mem_cons_self .., List.mem_cons_self ..⟩
    · obtain ⟨a, b, e, h1, h2⟩ := pairD_in h
      exact ⟨a, b, e, List.mem_cons_of_mem _ h1, List.mem_cons_of_mem _ h2⟩
theorem form0_inv {xs : List Dt} (h : formB [] xs = true) : xs = [] := by
  cases xs with
  | nil => rfl
  | cons _ _ => cases h
theorem formS_inv {k : Nat} {ks : List Nat} {xs : List Dt} (h : formB (k :: ks) xs = true) : ∃ x ys, xs = x :: ys ∧ fitsB k x = true ∧ formB ks ys = true := by
  cases xs with
  | nil => cases h
  | cons x ys =>
    have h : (fitsB k x && formB ks ys) = true := h
    rw [Bool.and_eq_true] at h
    exact ⟨x, ys, rfl, h.1, h.2⟩
theorem rowBy_at {fs : List (Str × Str)} {w : Str} {rest : List Dt} {ks : List Nat} (h : (fs.lookup w).map (fun f => f.cps.toList) = some ks) : rowBy fs (.tup (.str w :: rest)) = formB ks rest := by
  obtain ⟨f, h1, hk⟩ := Option.map_eq_some_iff.mp h
  show (match fs.lookup w with | some f => formB f.cps.toList rest | none => false) = _
  rw [h1]
  show formB f.cps.toList rest = _
  rw [hk]
theorem rowBy_none {fs : List (Str × Str)} {w : Str} {rest : List Dt} (h : fs.lookup w = none) : rowBy fs (.tup (.str w :: rest)) = false := by
  show (match fs.lookup w with | some f => formB f.cps.toList rest | none => false) = _
  rw [h]
/-- the rows as they are drawn -/
inductive RowS : Dt → Prop
  | put {r n : Dt} : isRegD r = true → isNum n 0 65535 = true → RowS (.tup [.str "put", r, n])
  | rn {w : Str} {r n : Dt} : w = "name" ∨ w = "ifzero" → isRegD r = true → isNameD n = true → RowS (.tup [.str w, r, n])
  | rr {w : Str} {r s : Dt} : w = "add" ∨ w = "take" → isRegD r = true → isRegD s = true → RowS (.tup [.str w, r, s])
  | rrd {w : Str} {r s d : Dt} : w = "load" ∨ w = "store" → isRegD r = true → isRegD s = true → isNum d 0 15 = true → RowS (.tup [.str w, r, s, d])
  | nm {w : Str} {n : Dt} : w = "jump" ∨ w = "call" ∨ w = "address" → isNameD n = true → RowS (.tup [.str w, n])
  | rg {w : Str} {r : Dt} : w = "callby" ∨ w = "out" → isRegD r = true → RowS (.tup [.str w, r])
  | none {w : Str} : w = "back" ∨ w = "halt" → RowS (.tup [.str w])
  | room {k : Dt} : isNum k 1 120 = true → RowS (.tup [.str "room", k])
  | word {n : Dt} : isNum n 0 65535 = true → RowS (.tup [.str "word", n])
theorem cps_k : ("" : Str).cps.toList = [] ∧ ("k" : Str).cps.toList = [107] ∧ ("r" : Str).cps.toList = [114] ∧ ("n" : Str).cps.toList = [110] ∧ ("w" : Str).cps.toList = [119] ∧ ("rw" : Str).cps.toList = [114, 119] ∧ ("rn" : Str).cps.toList = [114, 110] ∧ ("rr" : Str).cps.toList = [114, 114] ∧ ("rrd" : Str).cps.toList = [114, 114, 100] := by decide +kernel
theorem rowS_code {d : Dt} (h : codeRow d = true) : RowS d := by
  obtain ⟨w, f, rest, rfl, h1, h2⟩ := rowBy_inv h
  have hm := lookup_mem h1
  obtain ⟨c0, ck, cr, cn, cw, crw, crn, crr, crd⟩ := cps_k
  simp only [codeForms, List.mem_cons, List.not_mem_nil, or_false, Prod.mk.injEq] at hm
  rcases hm with ⟨rfl, rfl⟩ | ⟨rfl, rfl⟩ | ⟨rfl, rfl⟩ | ⟨rfl, rfl⟩ | ⟨rfl, rfl⟩ | ⟨rfl, rfl⟩ | ⟨rfl, rfl⟩ | ⟨rfl, rfl⟩ | ⟨rfl, rfl⟩ | ⟨rfl, rfl⟩ | ⟨rfl, rfl⟩ | ⟨rfl, rfl⟩ | ⟨rfl, rfl⟩ | ⟨rfl, rfl⟩
  · rw [crw] at h2; obtain ⟨a, y1, rfl, k1, h2⟩ := formS_inv h2; obtain ⟨b, y2, rfl, k2, h2⟩ := formS_inv h2; rw [form0_inv h2]; exact .put k1 k2
  · rw [crn] at h2; obtain ⟨a, y1, rfl, k1, h2⟩ := formS_inv h2; obtain ⟨b, y2, rfl, k2, h2⟩ := formS_inv h2; rw [form0_inv h2]; exact .rn (.inl rfl) k1 k2
  · rw [crr] at h2; obtain ⟨a, y1, rfl, k1, h2⟩ := formS_inv h2; obtain ⟨b, y2, rfl, k2, h2⟩ := formS_inv h2; rw [form0_inv h2]; exact .rr (.inl rfl) k1 k2
  · rw [crr] at h2; obtain ⟨a, y1, rfl, k1, h2⟩ := formS_inv h2; obtain ⟨b, y2, rfl, k2, h2⟩ := formS_inv h2; rw [form0_inv h2]; exact .rr (.inr rfl) k1 k2
  · rw [crd] at h2; obtain ⟨a, y1, rfl, k1, h2⟩ := formS_inv h2; obtain ⟨b, y2, rfl, k2, h2⟩ := formS_inv h2; obtain ⟨c, y3, rfl, k3, h2⟩ := formS_inv h2; rw [form0_inv h2]; exact .rrd (.inl rfl) k1 k2 k3
  · rw [crd] at h2; obtain ⟨a, y1, rfl, k1, h2⟩ := formS_inv h2; obtain ⟨b, y2, rfl, k2, h2⟩ := formS_inv h2; obtain ⟨c, y3, rfl, k3, h2⟩ := formS_inv h2; rw [form0_inv h2]; exact .rrd (.inr rfl) k1 k2 k3
  · rw [cn] at h2; obtain ⟨a, y1, rfl, k1, h2⟩ := formS_inv h2; rw [form0_inv h2]; exact .nm (.inl rfl) k1
  · rw [crn] at h2; obtain ⟨a, y1, rfl, k1, h2⟩ := formS_inv h2; obtain ⟨b, y2, rfl, k2, h2⟩ := formS_inv h2; rw [form0_inv h2]; exact .rn (.inr rfl) k1 k2
  · rw [cn] at h2; obtain ⟨a, y1, rfl, k1, h2⟩ := formS_inv h2; rw [form0_inv h2]; exact .nm (.inr (.inl rfl)) k1
  · rw [cr] at h2; obtain ⟨a, y1, rfl, k1, h2⟩ := formS_inv h2; rw [form0_inv h2]; exact .rg (.inl rfl) k1
  · rw [c0] at h2; rw [form0_inv h2]; exact .none (.inl rfl)
  · rw [cr] at h2; obtain ⟨a, y1, rfl, k1, h2⟩ := formS_inv h2; rw [form0_inv h2]; exact .rg (.inr rfl) k1
  · rw [c0] at h2; rw [form0_inv h2]; exact .none (.inr rfl)
  · rw [ck] at h2; obtain ⟨a, y1, rfl, k1, h2⟩ := formS_inv h2; rw [form0_inv h2]; exact .room k1
theorem rowS_data {d : Dt} (h : dataRow d = true) : RowS d := by
  obtain ⟨w, f, rest, rfl, h1, h2⟩ := rowBy_inv h
  have hm := lookup_mem h1
  obtain ⟨c0, ck, cr, cn, cw, crw, crn, crr, crd⟩ := cps_k
  simp only [dataForms, List.mem_cons, List.not_mem_nil, or_false, Prod.mk.injEq] at hm
  rcases hm with ⟨rfl, rfl⟩ | ⟨rfl, rfl⟩ | ⟨rfl, rfl⟩
  · rw [cw] at h2; obtain ⟨a, y1, rfl, k1, h2⟩ := formS_inv h2; rw [form0_inv h2]; exact .word k1
  · rw [cn] at h2; obtain ⟨a, y1, rfl, k1, h2⟩ := formS_inv h2; rw [form0_inv h2]; exact .nm (.inr (.inr rfl)) k1
  · rw [ck] at h2; obtain ⟨a, y1, rfl, k1, h2⟩ := formS_inv h2; rw [form0_inv h2]; exact .room k1
/-- rows whose items cannot be good: the first item is no register -/
theorem code_inv {w : Str} {rest : List Dt} (h : codeRow (.tup (.str w :: rest)) = true) : (w = "back" ∨ w = "halt" ∨ w = "room" ∨ w = "jump" ∨ w = "call") ∨ ((w = "callby" ∨ w = "out" ∨ w = "name" ∨ w = "ifzero" ∨ w = "put") ∧ ∃ x ys, rest = x :: ys ∧ isRegD x = true) ∨ ((w = "add" ∨ w = "take" ∨ w = "load" ∨ w = "store") ∧ ∃ x y ys, rest = x :: y :: ys ∧ isRegD x = true ∧ isRegD y = true) := by
  obtain ⟨w', f, rest', e, h1, h2⟩ := rowBy_inv h
  cases e
  have hm := lookup_mem h1
  obtain ⟨c0, ck, cr, cn, cw, crw, crn, crr, crd⟩ := cps_k
  simp only [codeForms, List.mem_cons, List.not_mem_nil, or_false, Prod.mk.injEq] at hm
  rcases hm with ⟨rfl, rfl⟩ | ⟨rfl, rfl⟩ | ⟨rfl, rfl⟩ | ⟨rfl, rfl⟩ | ⟨rfl, rfl⟩ | ⟨rfl, rfl⟩ | ⟨rfl, rfl⟩ | ⟨rfl, rfl⟩ | ⟨rfl, rfl⟩ | ⟨rfl, rfl⟩ | ⟨rfl, rfl⟩ | ⟨rfl, rfl⟩ | ⟨rfl, rfl⟩ | ⟨rfl, rfl⟩
  · rw [crw] at h2; obtain ⟨a, y1, rfl, k1, h2⟩ := formS_inv h2; exact .inr (.inl ⟨by simp, _, _, rfl, k1⟩)
  · rw [crn] at h2; obtain ⟨a, y1, rfl, k1, h2⟩ := formS_inv h2; exact .inr (.inl ⟨by simp, _, _, rfl, k1⟩)
  · rw [crr] at h2; obtain ⟨a, y1, rfl, k1, h2⟩ := formS_inv h2; obtain ⟨b, y2, rfl, k2, h2⟩ := formS_inv h2; exact .inr (.inr ⟨by simp, _, _, _, rfl, k1, k2⟩)
  · rw [crr] at h2; obtain ⟨a, y1, rfl, k1, h2⟩ := formS_inv h2; obtain ⟨b, y2, rfl, k2, h2⟩ := formS_inv h2; exact .inr (.inr ⟨by simp, _, _, _, rfl, k1, k2⟩)
  · rw [crd] at h2; obtain ⟨a, y1, rfl, k1, h2⟩ := formS_inv h2; obtain ⟨b, y2, rfl, k2, h2⟩ := formS_inv h2; exact .inr (.inr ⟨by simp, _, _, _, rfl, k1, k2⟩)
  · rw [crd] at h2; obtain ⟨a, y1, rfl, k1, h2⟩ := formS_inv h2; obtain ⟨b, y2, rfl, k2, h2⟩ := formS_inv h2; exact .inr (.inr ⟨by simp, _, _, _, rfl, k1, k2⟩)
  · exact .inl (by simp)
  · rw [crn] at h2; obtain ⟨a, y1, rfl, k1, h2⟩ := formS_inv h2; exact .inr (.inl ⟨by simp, _, _, rfl, k1⟩)
  · exact .inl (by simp)
  · rw [cr] at h2; obtain ⟨a, y1, rfl, k1, h2⟩ := formS_inv h2; exact .inr (.inl ⟨by simp, _, _, rfl, k1⟩)
  · exact .inl (by simp)
  · rw [cr] at h2; obtain ⟨a, y1, rfl, k1, h2⟩ := formS_inv h2; exact .inr (.inl ⟨by simp, _, _, rfl, k1⟩)
  · exact .inl (by simp)
  · exact .inl (by simp)
/-! ### registers and names -/
theorem reg_cases {x : Dt} (h : isRegD x = true) : x = .str "r0" ∨ x = .str "r1" ∨ x = .str "r2" := by
  cases x with
  | str z =>
    have h : inD (.str z) [.str "r0", .str "r1", .str "r2"] = true := h
    simp only [inD, List.any_cons, List.any_nil, eqD, Bool.or_false, Bool.or_eq_true] at h
    rcases h with h | h | h
    · exact .inl (by rw [show z = "r0" from (by simpa using h : _ = _) ▸ rfl])
    · exact .inr (.inl (by rw [show z = "r1" from (by simpa using h : _ = _) ▸ rfl]))
    · exact .inr (.inr (by rw [show z = "r2" from (by simpa using h : _ = _) ▸ rfl]))
  | _ => cases h
theorem reg_noname {x : Dt} (h : isRegD x = true) : isNameD x = false := by
  rcases reg_cases h with rfl | rfl | rfl <;> decide +kernel
theorem num_int {x : Dt} {l m : Int} (h : isNum x l m = true) : ∃ i, x = .int i ∧ l ≤ i ∧ i ≤ m := by
  cases x with
  | int i =>
    have h : (decide (l ≤ i) && decide (i ≤ m)) = true := h
    rw [Bool.and_eq_true] at h
    exact ⟨i, rfl, of_decide_eq_true h.1, of_decide_eq_true h.2⟩
  | _ => cases h
theorem name_str {x : Dt} (h : isNameD x = true) : ∃ z, x = .str z ∧ z.cps.size ≤ 6 ∧ PyData.strOk z = true := by
  cases x with
  | str z =>
    have h : (decide ((1 : Int) ≤ (z.cps.size : Int)) && (decide ((z.cps.size : Int) ≤ 6) && z.cps.toList.all fun c => decide (c ∈ letters))) = true := h
    rw [Bool.and_eq_true, Bool.and_eq_true, List.all_eq_true] at h
    have h6 := of_decide_eq_true h.2.1
    refine ⟨z, rfl, by omega, strOk_of (lit := "abcdefghijklmnopqrstuvwxyz") (fun c hc => of_decide_eq_true (h.2.2 c hc)) (by decide +kernel)⟩
  | _ => cases h
/-! ### rows whose names are of a list -/
def memT (x t : Dt) : Prop := ∃ ss, t = .lst ss ∧ x ∈ ss
def Nm (t x : Dt) : Prop := isNameD x = true → memT x t
def namesFrom (t d : Dt) : Prop := ∀ w rest, d = .tup (.str w :: rest) → ∀ x ∈ rest, Nm t x
theorem nm_r {t x : Dt} (h : isRegD x = true) : Nm t x := fun e => by rw [reg_noname h] at e; cases e
theorem nm_i {t x : Dt} {l m : Int} (h : isNum x l m = true) : Nm t x := fun e => by obtain ⟨i, rfl, _⟩ := num_int h; cases e
theorem nm_int {t : Dt} {i : Int} : Nm t (.int i) := fun e => by cases e
theorem nm_fit {t x : Dt} (h : fitsB 107 x = true) : Nm t x := nm_i (l := 1) (m := 120) h
theorem nm_fitd {t x : Dt} (h : fitsB 100 x = true) : Nm t x := nm_i (l := 0) (m := 15) h
theorem nf0 {t : Dt} {w : Str} : namesFrom t (.tup [.str w]) := fun w' rest e x hx => by cases e; cases hx
theorem nf1 {t : Dt} {w : Str} {a : Dt} (h : Nm t a) : namesFrom t (.tup [.str w, a]) := fun w' rest e x hx => by
  cases e
  rcases List.mem_cons.mp hx with rfl | hx
  · exact h
  · cases hx
theorem nf2 {t : Dt} {w : Str} {a b : Dt} (h : Nm t a) (h2 : Nm t b) : namesFrom t (.tup [.str w, a, b]) := fun w' rest e x hx => by
  cases e
  rcases List.mem_cons.mp hx with rfl | hx
  · exact h
  rcases List.mem_cons.mp hx with rfl | hx
  · exact h2
  · cases hx
theorem nf3 {t : Dt} {w : Str} {a b c : Dt} (h : Nm t a) (h2 : Nm t b) (h3 : Nm t c) : namesFrom t (.tup [.str w, a, b, c]) := fun w' rest e x hx => by
  cases e
  rcases List.mem_cons.mp hx with rfl | hx
  · exact h
  rcases List.mem_cons.mp hx with rfl | hx
  · exact h2
  rcases List.mem_cons.mp hx with rfl | hx
  · exact h3
  · cases hx
def codeRowPost2 (ds : List Dt) (d : Dt) : Prop := codeRow d = true ∧ ∀ t, ds = [t] → namesFrom t d
def dataRowPost2 (ds : List Dt) (d : Dt) : Prop := dataRow d = true ∧ ∀ t, ds = [t] → namesFrom t d
theorem code_k2 {t : Dt} {R : Dt → Prop} (ht : NamesD t) (h : ∀ d, codeRow d = true → namesFrom t d → R d) : namesPre [t] ∧ ∀ d, codeRowPost2 [t] d → R d := ⟨⟨t, rfl, ht⟩, fun d e => h d e.1 (e.2 t rfl)⟩
theorem data_k2 {t : Dt} {R : Dt → Prop} (ht : NamesD t) (h : ∀ d, dataRow d = true → namesFrom t d → R d) : namesPre [t] ∧ ∀ d, dataRowPost2 [t] d → R d := ⟨⟨t, rfl, ht⟩, fun d e => h d e.1 (e.2 t rfl)⟩
theorem of_namesM {t : Dt} {R : Dt → Prop} (ht : NamesD t) (h : ∀ d, isNameD d = true → Nm t d → R d) : ofPre [t] ∧ ∀ d, ofPost [t] d → R d := by
  obtain ⟨ss, rfl, h0, h1, h2⟩ := ht
  refine of_k ⟨by simpa using h0, by simp; omega⟩ fun d hd => ?_
  obtain ⟨s, hs, rfl⟩ := List.mem_map.mp hd
  exact h _ (h2 s hs) fun _ => ⟨_, rfl, hd⟩
/-! ### things that may be rows -/
def thingB (x : Dt) : Bool := plainD x && (match x with | .tup ys => decide (ys.length ≤ 100) && ys.all goodV | _ => true)
theorem thing_plain {x : Dt} (h : thingB x = true) : plainD x = true := by
  unfold thingB at h; rw [Bool.and_eq_true] at h; exact h.1
theorem thing_tup {ys : List Dt} (h : thingB (.tup ys) = true) : ys.length ≤ 100 ∧ ∀ y ∈ ys, goodV y = true := by
  unfold thingB at h; rw [Bool.and_eq_true] at h
  have h := h.2
  rw [Bool.and_eq_true] at h
  exact ⟨of_decide_eq_true h.1, fun y hy => all_mem h.2 hy⟩
theorem thing_mk {ys : List Dt} (h1 : ys.length ≤ 100) (h2 : ∀ y ∈ ys, goodV y = true) : thingB (.tup ys) = true := by
  show (true && (decide (ys.length ≤ 100) && ys.all goodV)) = true
  rw [decide_eq_true h1, List.all_eq_true.mpr h2]; rfl
theorem good_name {x : Dt} (h : isNameD x = true) : goodV x = true := by
  obtain ⟨z, rfl, h1, h2⟩ := name_str h
  show (true && (decide (z.cps.size < 1000) && PyData.strOk z)) = true
  rw [decide_eq_true (by omega), h2]; rfl
theorem good_reg {x : Dt} (h : isRegD x = true) : goodV x = true := by
  rcases reg_cases h with rfl | rfl | rfl <;> decide +kernel
theorem good_num {x : Dt} {l m : Int} (h : isNum x l m = true) : goodV x = true := by
  obtain ⟨i, rfl, _⟩ := num_int h; rfl
theorem rowS_good {d : Dt} (h : RowS d) : ∃ w rest, d = .tup (.str w :: rest) ∧ rest.length ≤ 3 ∧ goodV (.str w) = true ∧ ∀ y ∈ rest, goodV y = true := by
  cases h with
  | put h1 h2 => exact ⟨_, _, rfl, by simp, by decide +kernel, by simp [good_reg h1, good_num h2]⟩
  | rn hw h1 h2 => exact ⟨_, _, rfl, by simp, by rcases hw with rfl | rfl <;> decide +kernel, by simp [good_reg h1, good_name h2]⟩
  | rr hw h1 h2 => exact ⟨_, _, rfl, by simp, by rcases hw with rfl | rfl <;> decide +kernel, by simp [good_reg h1, good_reg h2]⟩
  | rrd hw h1 h2 h3 => exact ⟨_, _, rfl, by simp, by rcases hw with rfl | rfl <;> decide +kernel, by simp [good_reg h1, good_reg h2, good_num h3]⟩
  | nm hw h1 => exact ⟨_, _, rfl, by simp, by rcases hw with rfl | rfl | rfl <;> decide +kernel, by simp [good_name h1]⟩
  | rg hw h1 => exact ⟨_, _, rfl, by simp, by rcases hw with rfl | rfl <;> decide +kernel, by simp [good_reg h1]⟩
  | none hw => exact ⟨_, _, rfl, by simp, by rcases hw with rfl | rfl <;> decide +kernel, by simp⟩
  | room h1 => exact ⟨_, _, rfl, by simp, by decide +kernel, by simp [good_num h1]⟩
  | word h1 => exact ⟨_, _, rfl, by simp, by decide +kernel, by simp [good_num h1]⟩
theorem rowS_thing {d : Dt} (h : RowS d) : thingB d = true := by
  obtain ⟨w, rest, rfl, h1, h2, h3⟩ := rowS_good h
  refine thing_mk (by simp; omega) fun y hy => ?_
  rcases List.mem_cons.mp hy with rfl | hy
  · exact h2
  · exact h3 y hy
end Y
/-! Y12: statements that are never reached; int(text); tuple.index; list * n. -/
namespace Y
open PySem L2
/-- a statement that is not reached: nothing is asked, nothing can be told -/
def tDead : TS := fun _ _ _ => False
theorem ps_dead {X : Cx} {st : Stmt} : PS X st tDead := ⟨fun pins s σ H D I h => h.elim⟩
def rTupIndex (K : PySem.W.Frag) : V → List V → Hp → VK → Prop := fun x xs H Q => ∃ p, ∃ ys : List Str, ∃ z j, x = .ref p ∧ xs = [.str z] ∧ SqT K H p (ys.map V.str) ∧ ys[j]? = some z ∧ (∀ m, m < j → ys[m]? ≠ some z) ∧ Q (.int (j : Nat)) H
theorem mt_tupIndexA {X : Cx} {K : PySem.W.Frag} (hK : X.K = K := by rfl) : MtR X "tuple.index" (rTupIndex K) := hK ▸ mt_tup_index
/-- a tuple of the top, with no dict of its own -/
def KTup (K : PySem.W.Frag) (a : Addr) : Prop := ∃ o, K.lookup a = some o ∧ o.cls = .type "tuple" ∧ o.dict = none
section
variable {B : Bs} {es : List Sl}
theorem c_intS {z : Str} {n : Int} {P : Dt → Prop} (h : PySem.intText? z = some n) (hl : z.length ≤ 640) (hp : P (.int n)) : Cal B (fun xs H Q => ∃ a n, xs = [.str a] ∧ PySem.intText? a = some n ∧ a.length ≤ 640 ∧ Q (.int n) H) es [.str z] P := fun σ F H vs S a Q k => by
  obtain ⟨v, rfl, r⟩ := rp1 a
  cases r
  exact ⟨z, n, rfl, h, hl, k _ _ F H S.refl (.int _) hp⟩
theorem ev_tupIndex {a : Addr} {ys : List Str} {te : TE} {P : Dt → Prop} (kt : KTup B.K a) (kd : KD B.K (.ref a) (.tup (ys.map Dt.str))) (h : Ev B te es fun d => ∃ (z : Str) (j : Nat), d = .str z ∧ ys[j]? = some z ∧ (∀ m, m < j → ys[m]? ≠ some z) ∧ P (.int (j : Int))) : Ev B (tBM B.K "tuple" (rTupIndex B.K) (tC (.ref a)) (tCons te tNil)) es P := fun σ F H S Q q => by
  refine ⟨.inr (.inl ⟨rfl, kt⟩), h σ F H S _ fun v d F1 H1 g1 r1 ⟨z, j, e, h1, h2, p⟩ => ?_⟩
  subst e
  cases r1
  have r := kd H1
  cases r with
  | tup k1 k2 =>
    have e := k2.texts
    subst e
    exact ⟨a, ys, z, j, rfl, rfl, k1, h1, h2, q _ _ F1 H1 g1 (.int _) p⟩
theorem sm_retOwn {p : Po} {i : Nat} {a : Addr} {xs : List Dt} (hi : es[i]? = some (.own a xs)) (h : p.ro xs) : Sm B (tRet (tVar i)) es p := fun σ F H D S _ _ _ _ ro => by
  obtain ⟨vs, h1, h2, h3, h4⟩ := S.own hi
  exact ⟨_, h1, ro a vs xs es σ F H S (Same.refl F) h2 h3 h4 (S.ow i a xs hi).1 (S.ow i a xs hi).2 h⟩
/-- xs + ys as a new list -/
theorem eo_cat {ta tb : TE} {P : List Dt → Prop} (h : Ev B ta es fun x => ∃ xs, x = .lst xs ∧ Ev B tb es fun y => ∃ ys, y = .lst ys ∧ xs.length + ys.length ≤ 100000 ∧ P (xs ++ ys)) : EvO B (tOp (rPlus B.K) ta tb) es P := fun σ F H S Q q =>
  h σ F H S _ fun v d F1 H1 g1 r1 ⟨xs, e, p1⟩ => p1 σ F1 H1 (S.go g1) _ fun w y F2 H2 g2 r2 ⟨ys, e2, hl, p2⟩ => by
    subst e e2
    have g := g1.trans g2
    have S2 := S.go g
    cases r1 with
    | lst h1 h2 =>
      cases r2 with
      | lst h3 h4 =>
        refine .inr (.inr (.inl ⟨_, _, _, _, rfl, rfl, g2.s2 _ _ (g2.s1 _ _ h1), g2.s2 _ _ h3, size_of (by rw [h2.length, h4.length]; exact hl), fun p hp => ?_⟩))
        exact q p _ _ F2 _ (g.trans (S2.allocO hp)) (g.new (S2.newB hp) hp) (same_none S2.sub hp) upd_same ((h2.mono g2.s1).app h4) p2
theorem eo_rep {ta tb : TE} {P : List Dt → Prop} (h : Ev B ta es fun d => ∃ xs, d = .lst xs ∧ Ev B tb es fun y => ∃ k : Int, y = .int k ∧ (0 ≤ k ∧ k ≤ 1000 ∧ xs.length ≤ 10) ∧ P (List.replicate k.toNat xs).flatten) : EvO B (tOp rRep ta tb) es P := fun σ F H S Q q =>
  h σ F H S _ fun v d F1 H1 g1 r1 ⟨xs, e, p1⟩ => p1 σ F1 H1 (S.go g1) _ fun w y F2 H2 g2 r2 ⟨k, e2, ⟨k0, k1, k2⟩, p2⟩ => by
    subst e e2
    cases r2
    have g := g1.trans g2
    have S2 := S.go g
    cases r1 with
    | @lst a vs _ h1 h2 =>
      have hl := h2.length
      have rr : ∀ n : Nat, RpAll B.K F2 (List.replicate n vs).flatten (List.replicate n xs).flatten := by
        intro n
        induction n with
        | zero => exact .nil
        | succ n ih => rw [List.replicate_succ, List.replicate_succ, List.flatten_cons, List.flatten_cons]; exact (h2.mono g2.s1).app ih
      refine ⟨_, k, vs, rfl, rfl, g2.s2 _ _ (g2.s1 _ _ h1), by omega, by omega, size_of ?_, fun p hp => ?_⟩
      · have : vs.length * k.toNat ≤ 10 * 1000 := Nat.mul_le_mul (by omega) (by omega)
        omega
      · exact q p _ _ F2 _ (g.trans (S2.allocO hp)) (g.new (S2.newB hp) hp) (same_none S2.sub hp) upd_same (rr _) p2
end
end Y
/-! Y13: d[k] of a displayed dict; own lists cleared; cells of rows. -/
namespace Y
open PySem L2
section
variable {B : Bs} {es : List Sl}
theorem ev_dget {td ty : TE} {P : Dt → Prop} (h : Ev B td es fun x => ∃ ks xs, x = .dct ks xs ∧ Ev B ty es fun y => ∃ k, y = kD k ∧ ∃ d, getK ks xs k = some d ∧ P d) : Ev B (tDGet td ty) es P := fun σ F H S Q q =>
  h σ F H S _ fun v x F1 H1 g1 r1 ⟨ks, xs, e, p1⟩ => by
    subst e
    refine p1 σ F1 H1 (S.go g1) _ fun u y F2 H2 g2 r2 ⟨k, e2, d, hd, p2⟩ => ?_
    subst e2
    have ek := rp_kD r2
    subst ek
    cases r1 with
    | dct h1 h2 h3 h4 =>
      subst h2 h3
      obtain ⟨v', k1, k2⟩ := (getK_of k (h4.mono g2.s1)).1 d hd
      exact ⟨_, v', rfl, by rw [← k1]; exact DGet.k (k := k) (g2.s2 _ _ (g2.s1 _ _ h1)), q _ _ F2 H2 (g1.trans g2) k2 p2⟩
theorem sm_clear {p : Po} {i : Nat} {a : Addr} {xs : List Dt} (hi : es[i]? = some (.own a xs)) (h : p.nx (es.set i (.own a []))) : Sm B (tDrop (tBM0 B.K "list" rClear (tVar i))) es p := fun σ F H D S n _ _ _ _ => by
  obtain ⟨vs, h1, h2, h3, h4⟩ := S.own hi
  exact ⟨_, h1, .inl ⟨rfl, _, SqL.of h3⟩, a, vs, rfl, rfl, h3, n _ _ F _ (S.change hi h1 h2 .nil) (Same.refl F) h⟩
end
end Y
/-! Y14: loops unrolled; lists of ints. -/
namespace Y
open PySem L2
section
variable {B : Bs} {es : List Sl}
/-- a loop over a list that is known: turn by turn -/
def unD (B : Bs) (g : TG) (tb : TS) (p : Po) : List Dt → List Sl → Prop
  | [], es => p.nx es
  | x :: xs, es => Tg B g es x fun e2 => Sm B tb e2 { p with nx := unD B g tb p xs, bk := p.nx, ct := unD B g tb p xs }
theorem sm_forU {p : Po} {wi : TI} {g : TG} {tb : TS} (h : EvI B wi es fun xs => unD B g tb p xs es) : Sm B (tFor wi g tb) es p :=
  sm_for fun σ F H S R q => h σ F H S R fun J xs F1 H1 g1 it hu => q J xs F1 H1 g1 it ⟨fun i e => unD B g tb p (xs.drop i) e, hu, fun i x es' hx hI => by
    have e1 : xs.drop i = x :: xs.drop (i + 1) := by
      obtain ⟨hl, rfl⟩ := List.getElem?_eq_some_iff.mp hx
      exact List.drop_eq_getElem_cons hl
    have hI : unD B g tb p (xs.drop i) es' := hI
    rw [e1] at hI
    exact hI, fun es' hI => by
      have hI : unD B g tb p (xs.drop xs.length) es' := hI
      rw [List.drop_length] at hI; exact hI⟩
end
theorem see_ints (a : Addr) (xs : List Dt) : ∀ ns : List Int, seeAll a xs (ns.map Dt.int) = ns.map Dt.int
  | [] => by simp [seeAll]
  | n :: ns => by simp [seeAll, Dt.see, see_ints a xs ns]
theorem pure_ints : ∀ ns : List Int, pureAll (ns.map Dt.int) = true
  | [] => by simp [pureAll]
  | n :: ns => by simp [pureAll, Dt.pureD, pure_ints ns]
theorem depth_ints : ∀ ns : List Int, depthAll (ns.map Dt.int) = 0
  | [] => by simp [depthAll]
  | n :: ns => by simp [depthAll, Dt.depth, depth_ints ns]
/-- a list of ints -/
def IntsD (xs : List Dt) : Prop := ∃ ns : List Int, xs = ns.map Dt.int
theorem IntsD.see {xs ys : List Dt} {a : Addr} (h : IntsD ys) : seeAll a xs ys = ys := by obtain ⟨ns, rfl⟩ := h; exact see_ints a xs ns
theorem IntsD.pure {ys : List Dt} (h : IntsD ys) (hl : ys.length < 50000) : (Dt.lst ys).pureD = true := by
  obtain ⟨ns, rfl⟩ := h
  unfold Dt.pureD
  rw [decide_eq_true hl, pure_ints]; rfl
theorem IntsD.depth {ys : List Dt} (h : IntsD ys) : (Dt.lst ys).depth = 1 := by
  obtain ⟨ns, rfl⟩ := h
  unfold Dt.depth
  rw [depth_ints]
/-- two equal lists of ints beside one another -/
theorem IntsD.pure2 {ys : List Dt} (h : IntsD ys) (hl : ys.length < 50000) : (Dt.lst [.lst ys, .lst ys]).pureD = true ∧ (Dt.lst [.lst ys, .lst ys]).depth = 2 := by
  have h1 := h.pure hl
  have h2 := h.depth
  constructor
  · unfold Dt.pureD
    simp [pureAll, h1]
  · unfold Dt.depth
    simp [depthAll, h2]
theorem IntsD.nil : IntsD [] := ⟨[], rfl⟩
theorem IntsD.cons {i : Int} {xs : List Dt} (h : IntsD xs) : IntsD (.int i :: xs) := by obtain ⟨ns, rfl⟩ := h; exact ⟨i :: ns, rfl⟩
theorem IntsD.app {xs ys : List Dt} (h : IntsD xs) (h2 : IntsD ys) : IntsD (xs ++ ys) := by obtain ⟨ns, rfl⟩ := h; obtain ⟨ms, rfl⟩ := h2; exact ⟨ns ++ ms, by rw [List.map_append]⟩
theorem IntsD.rep (n : Nat) (i : Int) : IntsD (List.replicate n (.int i)) := ⟨List.replicate n i, by rw [List.map_replicate]⟩
end Y
/-! Y15: isinstance(x, dict); shaped data of other kinds. -/
namespace Y
open PySem L2
section
variable {B : Bs} {es : List Sl}
def isDctD : Dt → Bool
  | .dct _ _ => true
  | _ => false
theorem isi_dict {x : Dt} (h : plainD x = true) : isiD "dict" x = some (isDctD x) := by
  cases x with
  | non => show kitB "NoneType" "dict" = some false; decide +kernel
  | bl _ => show kitB "bool" "dict" = some false; decide +kernel
  | int _ => show kitB "int" "dict" = some false; decide +kernel
  | str _ => show kitB "str" "dict" = some false; decide +kernel
  | lst _ => show kitB "list" "dict" = some false; decide +kernel
  | tup _ => show kitB "tuple" "dict" = some false; decide +kernel
  | dct _ _ => show kitB "dict" "dict" = some true; decide +kernel
  | obj _ _ _ => cases h
  | ali _ => cases h
theorem ev_isDict {te : TE} {P : Dt → Prop} (h : Ev B te es fun d => plainD d = true ∧ P (.bl (isDctD d))) : Ev B (tCB (rIsi B.K) (tCons te (tCons (tC (.ty "dict")) tNil))) es P := ev_isi (h.imp fun d q => ⟨_, isi_dict q.1, q.2⟩)
end
end Y
/-! Y16: list(..) as a datum. -/
namespace Y
open PySem L2
section
variable {B : Bs} {es : List Sl}
theorem c_listT {xs : List Dt} {P : Dt → Prop} (hp : P (.lst xs)) : Cal B (rListB B.K) es [.tup xs] P := fun σ F H vs S a Q k => by
  obtain ⟨v, rfl, r⟩ := rp1 a
  cases r with
  | tup h1 h2 => exact .inl ⟨_, _, rfl, .inr (sqT_mono S.sub h1), fun p hp' => k _ (.lst xs) (upd F p (.lst _)) _ (S.alloc hp') (.lst upd_same (h2.mono (same_upd (same_none S.sub hp')))) hp⟩
theorem c_listL {xs : List Dt} {P : Dt → Prop} (hp : P (.lst xs)) : Cal B (rListB B.K) es [.lst xs] P := fun σ F H vs S a Q k => by
  obtain ⟨v, rfl, r⟩ := rp1 a
  cases r with
  | lst h1 h2 => exact .inl ⟨_, _, rfl, .inl (SqL.of (S.sub _ _ h1)), fun p hp' => k _ (.lst xs) (upd F p (.lst _)) _ (S.alloc hp') (.lst upd_same (h2.mono (same_upd (same_none S.sub hp')))) hp⟩
end
end Y
/-! Y17: str(int); three at once, the first a new list of one's own. -/
namespace Y
open PySem L2
section
variable {B : Bs} {es : List Sl}
theorem log_ok {i : Int} (h : -100000000 ≤ i ∧ i ≤ 100000000) : i.natAbs.log2 < 1920 := by
  by_cases h0 : i.natAbs = 0
  · rw [h0]; decide
  · rw [Nat.log2_lt h0]
    have h1 : i.natAbs < 2 ^ 27 := by
      have : (2 : Nat) ^ 27 = 134217728 := by decide
      omega
    exact Nat.lt_of_lt_of_le h1 (Nat.pow_le_pow_right (by decide) (by decide))
theorem c_strI {i : Int} {P : Dt → Prop} (h : -100000000 ≤ i ∧ i ≤ 100000000) (hp : P (.str (toString i))) : Cal B (fun xs H Q => ∃ i, xs = [.int i] ∧ i.natAbs.log2 < 1920 ∧ Q (.str (toString i)) H) es [.int i] P := fun σ F H vs S a Q k => by
  obtain ⟨v, rfl, r⟩ := rp1 a
  cases r
  exact ⟨i, rfl, log_ok h, k _ _ F H S.refl (.str _) hp⟩
theorem sm_par3O {p : Po} {i j l : Nat} {t1 t2 t3 : TE} (h : EvO B t1 es fun xs => Ev B t2 es fun y => Ev B t3 es fun z => ∀ a, p.nx (((es.set i (.own a xs)).set j (.d y)).set l (.d z))) : Sm B (tPar3 i j l (tCons t1 (tCons t2 (tCons t3 tNil)))) es p := fun σ F H D S n _ _ _ _ =>
  h σ F H S _ fun a vs xs F1 H1 g1 a0 a1 a2 r1 p1 => p1 σ F1 H1 (S.go g1) _ fun v y F2 H2 g2 r2 p2 => p2 σ F2 H2 ((S.go g1).go g2) _ fun w z F3 H3 g3 r3 p3 => by
    have g23 := g2.trans g3
    have S3 := ((S.go g1).go g2).go g3
    have ha2 : H3 a = some (.lst vs) := g23.kp a _ (S.newB a0) a2
    have hF2 : F3 a = none := g23.nw a (by rw [a2]; simp) a1
    have S4 := S3.setO (i := i) hF2 ha2 (r1.mono g23.s1) (S.new0 a0) (S.newB a0) fun k c zs hk => S.newS a0 k zs hk
    exact ⟨.ref a, v, w, rfl, n _ _ F3 H3 ((S4.setD (r2.mono g3.s1)).setD r3) ((g1.s1.trans g2.s1).trans g3.s1) (p3 a)⟩
end
end Y
/-! Y18: two at once, the first a new list of one's own. -/
namespace Y
open PySem L2
section
variable {B : Bs} {es : List Sl}
theorem sm_parOD {p : Po} {i j : Nat} {t1 t2 : TE} (h : EvO B t1 es fun xs => Ev B t2 es fun y => ∀ a, p.nx ((es.set i (.own a xs)).set j (.d y))) : Sm B (tPar i j (tCons t1 (tCons t2 tNil))) es p := fun σ F H D S n _ _ _ _ =>
  h σ F H S _ fun a vs xs F1 H1 g1 a0 a1 a2 r1 p1 => p1 σ F1 H1 (S.go g1) _ fun v y F2 H2 g2 r2 p2 => by
    have S3 := (S.go g1).go g2
    have ha2 : H2 a = some (.lst vs) := g2.kp a _ (S.newB a0) a2
    have hF2 : F2 a = none := g2.nw a (by rw [a2]; simp) a1
    have S4 := S3.setO (i := i) hF2 ha2 (r1.mono g2.s1) (S.new0 a0) (S.newB a0) fun k c zs hk => S.newS a0 k zs hk
    exact ⟨.ref a, v, rfl, n _ _ F2 H2 (S4.setD r2) (g1.s1.trans g2.s1) (p2 a)⟩
theorem sm_cut2 {p : Po} {t1 t2 u : TS} (I : List Sl → Prop) (h1 : Sm B t1 es { p with nx := fun e => Sm B t2 e { p with nx := I } }) (h2 : ∀ e, I e → Sm B u e p) : Sm B (tSeq t1 (tSeq t2 u)) es p :=
  sm_seq (sm_imp h1 (fun e h => sm_cut I h h2) (fun _ h => h) (fun _ h => h) (fun _ _ h => h) (fun _ h => h))
theorem sm_cut3 {p : Po} {t1 t2 t3 u : TS} (I : List Sl → Prop) (h1 : Sm B t1 es { p with nx := fun e => Sm B t2 e { p with nx := fun e => Sm B t3 e { p with nx := I } } }) (h2 : ∀ e, I e → Sm B u e p) : Sm B (tSeq t1 (tSeq t2 (tSeq t3 u))) es p :=
  sm_seq (sm_imp h1 (fun e h => sm_cut2 I h h2) (fun _ h => h) (fun _ h => h) (fun _ _ h => h) (fun _ h => h))
theorem sm_cut4 {p : Po} {t1 t2 t3 t4 u : TS} (I : List Sl → Prop) (h1 : Sm B t1 es { p with nx := fun e => Sm B t2 e { p with nx := fun e => Sm B t3 e { p with nx := fun e => Sm B t4 e { p with nx := I } } } }) (h2 : ∀ e, I e → Sm B u e p) : Sm B (tSeq t1 (tSeq t2 (tSeq t3 (tSeq t4 u)))) es p :=
  sm_seq (sm_imp h1 (fun e h => sm_cut3 I h h2) (fun _ h => h) (fun _ h => h) (fun _ _ h => h) (fun _ h => h))
theorem sm_cut5 {p : Po} {t1 t2 t3 t4 t5 u : TS} (I : List Sl → Prop) (h1 : Sm B t1 es { p with nx := fun e => Sm B t2 e { p with nx := fun e => Sm B t3 e { p with nx := fun e => Sm B t4 e { p with nx := fun e => Sm B t5 e { p with nx := I } } } } }) (h2 : ∀ e, I e → Sm B u e p) : Sm B (tSeq t1 (tSeq t2 (tSeq t3 (tSeq t4 (tSeq t5 u))))) es p :=
  sm_seq (sm_imp h1 (fun e h => sm_cut4 I h h2) (fun _ h => h) (fun _ h => h) (fun _ _ h => h) (fun _ h => h))
theorem sm_cut6 {p : Po} {t1 t2 t3 t4 t5 t6 u : TS} (I : List Sl → Prop) (h1 : Sm B t1 es { p with nx := fun e => Sm B t2 e { p with nx := fun e => Sm B t3 e { p with nx := fun e => Sm B t4 e { p with nx := fun e => Sm B t5 e { p with nx := fun e => Sm B t6 e { p with nx := I } } } } } }) (h2 : ∀ e, I e → Sm B u e p) : Sm B (tSeq t1 (tSeq t2 (tSeq t3 (tSeq t4 (tSeq t5 (tSeq t6 u)))))) es p :=
  sm_seq (sm_imp h1 (fun e h => sm_cut5 I h h2) (fun _ h => h) (fun _ h => h) (fun _ _ h => h) (fun _ h => h))
theorem sm_cut7 {p : Po} {t1 t2 t3 t4 t5 t6 t7 u : TS} (I : List Sl → Prop) (h1 : Sm B t1 es { p with nx := fun e => Sm B t2 e { p with nx := fun e => Sm B t3 e { p with nx := fun e => Sm B t4 e { p with nx := fun e => Sm B t5 e { p with nx := fun e => Sm B t6 e { p with nx := fun e => Sm B t7 e { p with nx := I } } } } } } }) (h2 : ∀ e, I e → Sm B u e p) : Sm B (tSeq t1 (tSeq t2 (tSeq t3 (tSeq t4 (tSeq t5 (tSeq t6 (tSeq t7 u))))))) es p :=
  sm_seq (sm_imp h1 (fun e h => sm_cut6 I h h2) (fun _ h => h) (fun _ h => h) (fun _ _ h => h) (fun _ h => h))
theorem sm_cut8 {p : Po} {t1 t2 t3 t4 t5 t6 t7 t8 u : TS} (I : List Sl → Prop) (h1 : Sm B t1 es { p with nx := fun e => Sm B t2 e { p with nx := fun e => Sm B t3 e { p with nx := fun e => Sm B t4 e { p with nx := fun e => Sm B t5 e { p with nx := fun e => Sm B t6 e { p with nx := fun e => Sm B t7 e { p with nx := fun e => Sm B t8 e { p with nx := I } } } } } } } }) (h2 : ∀ e, I e → Sm B u e p) : Sm B (tSeq t1 (tSeq t2 (tSeq t3 (tSeq t4 (tSeq t5 (tSeq t6 (tSeq t7 (tSeq t8 u)))))))) es p :=
  sm_seq (sm_imp h1 (fun e h => sm_cut7 I h h2) (fun _ h => h) (fun _ h => h) (fun _ _ h => h) (fun _ h => h))
theorem sm_cut9 {p : Po} {t1 t2 t3 t4 t5 t6 t7 t8 t9 u : TS} (I : List Sl → Prop) (h1 : Sm B t1 es { p with nx := fun e => Sm B t2 e { p with nx := fun e => Sm B t3 e { p with nx := fun e => Sm B t4 e { p with nx := fun e => Sm B t5 e { p with nx := fun e => Sm B t6 e { p with nx := fun e => Sm B t7 e { p with nx := fun e => Sm B t8 e { p with nx := fun e => Sm B t9 e { p with nx := I } } } } } } } } }) (h2 : ∀ e, I e → Sm B u e p) : Sm B (tSeq t1 (tSeq t2 (tSeq t3 (tSeq t4 (tSeq t5 (tSeq t6 (tSeq t7 (tSeq t8 (tSeq t9 u))))))))) es p :=
  sm_seq (sm_imp h1 (fun e h => sm_cut8 I h h2) (fun _ h => h) (fun _ h => h) (fun _ _ h => h) (fun _ h => h))
theorem sm_cut10 {p : Po} {t1 t2 t3 t4 t5 t6 t7 t8 t9 t10 u : TS} (I : List Sl → Prop) (h1 : Sm B t1 es { p with nx := fun e => Sm B t2 e { p with nx := fun e => Sm B t3 e { p with nx := fun e => Sm B t4 e { p with nx := fun e => Sm B t5 e { p with nx := fun e => Sm B t6 e { p with nx := fun e => Sm B t7 e { p with nx := fun e => Sm B t8 e { p with nx := fun e => Sm B t9 e { p with nx := fun e => Sm B t10 e { p with nx := I } } } } } } } } } }) (h2 : ∀ e, I e → Sm B u e p) : Sm B (tSeq t1 (tSeq t2 (tSeq t3 (tSeq t4 (tSeq t5 (tSeq t6 (tSeq t7 (tSeq t8 (tSeq t9 (tSeq t10 u)))))))))) es p :=
  sm_seq (sm_imp h1 (fun e h => sm_cut9 I h h2) (fun _ h => h) (fun _ h => h) (fun _ _ h => h) (fun _ h => h))
theorem sm_cut11 {p : Po} {t1 t2 t3 t4 t5 t6 t7 t8 t9 t10 t11 u : TS} (I : List Sl → Prop) (h1 : Sm B t1 es { p with nx := fun e => Sm B t2 e { p with nx := fun e => Sm B t3 e { p with nx := fun e => Sm B t4 e { p with nx := fun e => Sm B t5 e { p with nx := fun e => Sm B t6 e { p with nx := fun e => Sm B t7 e { p with nx := fun e => Sm B t8 e { p with nx := fun e => Sm B t9 e { p with nx := fun e => Sm B t10 e { p with nx := fun e => Sm B t11 e { p with nx := I } } } } } } } } } } }) (h2 : ∀ e, I e → Sm B u e p) : Sm B (tSeq t1 (tSeq t2 (tSeq t3 (tSeq t4 (tSeq t5 (tSeq t6 (tSeq t7 (tSeq t8 (tSeq t9 (tSeq t10 (tSeq t11 u))))))))))) es p :=
  sm_seq (sm_imp h1 (fun e h => sm_cut10 I h h2) (fun _ h => h) (fun _ h => h) (fun _ _ h => h) (fun _ h => h))
theorem sm_cut12 {p : Po} {t1 t2 t3 t4 t5 t6 t7 t8 t9 t10 t11 t12 u : TS} (I : List Sl → Prop) (h1 : Sm B t1 es { p with nx := fun e => Sm B t2 e { p with nx := fun e => Sm B t3 e { p with nx := fun e => Sm B t4 e { p with nx := fun e => Sm B t5 e { p with nx := fun e => Sm B t6 e { p with nx := fun e => Sm B t7 e { p with nx := fun e => Sm B t8 e { p with nx := fun e => Sm B t9 e { p with nx := fun e => Sm B t10 e { p with nx := fun e => Sm B t11 e { p with nx := fun e => Sm B t12 e { p with nx := I } } } } } } } } } } } }) (h2 : ∀ e, I e → Sm B u e p) : Sm B (tSeq t1 (tSeq t2 (tSeq t3 (tSeq t4 (tSeq t5 (tSeq t6 (tSeq t7 (tSeq t8 (tSeq t9 (tSeq t10 (tSeq t11 (tSeq t12 u)))))))))))) es p :=
  sm_seq (sm_imp h1 (fun e h => sm_cut11 I h h2) (fun _ h => h) (fun _ h => h) (fun _ _ h => h) (fun _ h => h))
end
end Y
namespace Law
open PySem L2 Y
def top (i : Nat) : Stmt := PySem.Challenge.pw_leastimage_k15_whole_forms_lead_home.main.body.getD i (.Pass ⟨0, 0, 0, 0⟩)
abbrev s_is_number : Stmt := top 5
theorem sc_is_number : FnScope ["value", "least", "most"] ["value", "least", "most"] (defScope s_is_number) := ⟨rfl, rfl, rfl, by decide +kernel, rfl, by decide +kernel, by decide +kernel⟩
abbrev s_cell_of : Stmt := top 13
theorem sc_cell_of : FnScope ["word", "r", "s", "part", "value", "most"] ["word", "r", "s", "part"] (defScope s_cell_of) := ⟨rfl, rfl, rfl, by decide +kernel, rfl, by decide +kernel, by decide +kernel⟩
abbrev s_unsigned : Stmt := top 17
theorem sc_unsigned : FnScope ["value"] ["value"] (defScope s_unsigned) := ⟨rfl, rfl, rfl, by decide +kernel, rfl, by decide +kernel, by decide +kernel⟩
abbrev s_number_of : Stmt := top 27
theorem sc_number_of : FnScope ["name"] ["name"] (defScope s_number_of) := ⟨rfl, rfl, rfl, by decide +kernel, rfl, by decide +kernel, by decide +kernel⟩
abbrev s_short_cells : Stmt := top 29
theorem sc_short_cells : FnScope ["row", "distance", "number"] ["row", "distance"] (defScope s_short_cells) := ⟨rfl, rfl, rfl, by decide +kernel, rfl, by decide +kernel, by decide +kernel⟩
abbrev s_high_half : Stmt := top 18
theorem sc_high_half : FnScope ["address"] ["address"] (defScope s_high_half) := ⟨rfl, rfl, rfl, by decide +kernel, rfl, by decide +kernel, by decide +kernel⟩
abbrev s_low_half : Stmt := top 19
theorem sc_low_half : FnScope ["address"] ["address"] (defScope s_low_half) := ⟨rfl, rfl, rfl, by decide +kernel, rfl, by decide +kernel, by decide +kernel⟩
abbrev s_halves_put : Stmt := top 28
theorem sc_halves_put : FnScope ["number", "address"] ["number", "address"] (defScope s_halves_put) := ⟨rfl, rfl, rfl, by decide +kernel, rfl, by decide +kernel, by decide +kernel⟩
abbrev s_long_cells : Stmt := top 30
theorem sc_long_cells : FnScope ["row", "target", "found"] ["row", "target"] (defScope s_long_cells) := ⟨rfl, rfl, rfl, by decide +kernel, rfl, by decide +kernel, by decide +kernel⟩
abbrev s_plain_cells : Stmt := top 31
theorem sc_plain_cells : FnScope ["row", "word", "k"] ["row"] (defScope s_plain_cells) := ⟨rfl, rfl, rfl, by decide +kernel, rfl, by decide +kernel, by decide +kernel⟩
abbrev s_row_cells : Stmt := top 32
theorem sc_row_cells : FnScope ["row", "at", "target", "long"] ["row", "at", "target", "long"] (defScope s_row_cells) := ⟨rfl, rfl, rfl, by decide +kernel, rfl, by decide +kernel, by decide +kernel⟩
abbrev s_stub_cells : Stmt := top 33
theorem sc_stub_cells : FnScope ["slot"] ["slot"] (defScope s_stub_cells) := ⟨rfl, rfl, rfl, by decide +kernel, rfl, by decide +kernel, by decide +kernel⟩
abbrev s__law_bag : Stmt := top 35
theorem sc__law_bag : FnScope ["_law_script", "_law_mixed", "_law_piled"] ["_law_script"] (defScope s__law_bag) := ⟨rfl, rfl, rfl, by decide +kernel, rfl, by decide +kernel, by decide +kernel⟩
abbrev s__law_draw : Stmt := top 36
theorem sc__law_draw : FnScope ["_law_bag_here", "_law_sides", "_law_piled", "_law_digit", "_law_seed"] ["_law_bag_here", "_law_sides"] (defScope s__law_draw) := ⟨rfl, rfl, rfl, by decide +kernel, rfl, by decide +kernel, by decide +kernel⟩
abbrev s__law_of : Stmt := top 37
theorem sc__law_of : FnScope ["_law_bag_here", "_law_things"] ["_law_bag_here", "_law_things"] (defScope s__law_of) := ⟨rfl, rfl, rfl, by decide +kernel, rfl, by decide +kernel, by decide +kernel⟩
abbrev s__law_same : Stmt := top 38
theorem sc__law_same : FnScope ["_law_found", "_law_due_here", "_law_a", "_law_b"] ["_law_found", "_law_due_here"] (defScope s__law_same) := ⟨rfl, rfl, rfl, by decide +kernel, rfl, by decide +kernel, by decide +kernel⟩
abbrev s__law_titles : Stmt := top 39
theorem sc__law_titles : FnScope ["_law_bag_here", "_law_many", "_law_left", "_law_found", "_law_stem", "_law_k", "_law_spot"] ["_law_bag_here", "_law_many"] (defScope s__law_titles) := ⟨rfl, rfl, rfl, by decide +kernel, rfl, by decide +kernel, by decide +kernel⟩
abbrev s__law_number : Stmt := top 40
theorem sc__law_number : FnScope ["_law_bag_here"] ["_law_bag_here"] (defScope s__law_number) := ⟨rfl, rfl, rfl, by decide +kernel, rfl, by decide +kernel, by decide +kernel⟩
abbrev s__law_r : Stmt := top 41
theorem sc__law_r : FnScope ["_law_bag_here"] ["_law_bag_here"] (defScope s__law_r) := ⟨rfl, rfl, rfl, by decide +kernel, rfl, by decide +kernel, by decide +kernel⟩
abbrev s__law_code_row : Stmt := top 42
theorem sc__law_code_row : FnScope ["_law_bag_here", "_law_titles_here", "_law_way"] ["_law_bag_here", "_law_titles_here"] (defScope s__law_code_row) := ⟨rfl, rfl, rfl, by decide +kernel, rfl, by decide +kernel, by decide +kernel⟩
abbrev s__law_last_row : Stmt := top 43
theorem sc__law_last_row : FnScope ["_law_bag_here", "_law_titles_here"] ["_law_bag_here", "_law_titles_here"] (defScope s__law_last_row) := ⟨rfl, rfl, rfl, by decide +kernel, rfl, by decide +kernel, by decide +kernel⟩
abbrev s__law_done : Stmt := top 44
theorem sc__law_done : FnScope ["_law_lot", "_law_place_y", "_law_registers", "_law_held", "_law_own", "_law_here", "_law_way", "_law_step", "_law_spot", "_law_number_y", "_law_code", "_law_a", "_law_b", "_law_c", "_law_near", "_law_gone"] ["_law_lot", "_law_place_y", "_law_registers", "_law_held"] (defScope s__law_done) := ⟨rfl, rfl, rfl, by decide +kernel, rfl, by decide +kernel, by decide +kernel⟩
abbrev s__law_due : Stmt := top 45
theorem sc__law_due : FnScope ["_law_one", "_law_place_y", "_law_goal", "_law_registers", "_law_held", "_law_size", "_law_own", "_law_behind", "_law_numbers", "_law_item", "_law_a", "_law_b", "_law_way", "_law_words"] ["_law_one", "_law_place_y", "_law_goal", "_law_registers", "_law_held", "_law_size"] (defScope s__law_due) := ⟨rfl, rfl, rfl, by decide +kernel, rfl, by decide +kernel, by decide +kernel⟩
abbrev s__law_without_third : Stmt := top 46
theorem sc__law_without_third : FnScope ["_law_done_here"] ["_law_done_here"] (defScope s__law_without_third) := ⟨rfl, rfl, rfl, by decide +kernel, rfl, by decide +kernel, by decide +kernel⟩
abbrev s_law : Stmt := top 47
theorem sc_law : FnScope ["_law_script", "_law_bag_here", "_law_titles_here", "_law_turn", "_law_one", "_law_place_y", "_law_registers", "_law_k", "_law_numbers", "_law_item", "_law_held", "_law_far", "_law_goal", "_law_lot", "_law_done_here", "_law_slot_y", "_law_answer_y"] ["_law_script"] (defScope s_law) := ⟨rfl, rfl, rfl, by decide +kernel, rfl, by decide +kernel, by decide +kernel⟩
local macro_rules | `(tactic| walk_at "yv") => `(tactic| ((with_reducible show Ev _ (tVar _) _ _); refine ev_var rfl ?_))
local macro_rules | `(tactic| walk_at "ys") => `(tactic| with_reducible first
  | refine sm_seq ?_ | refine sm_ret ?_ | refine sm_if ?_ | refine sm_set ?_ | refine sm_next ?_ | refine sm_par ?_ | refine sm_drop ?_ | refine sm_brk ?_ | refine sm_cont ?_)
local macro_rules | `(tactic| walk_at "ye") => `(tactic| with_reducible first
  | refine ev_op ?_ | refine ev_and ?_ | refine ev_or ?_ | refine ev_not ?_ | refine ev_if ?_ | refine ev_chain ?_ | refine ev_neg ?_ | refine ev_isInt ?_ | refine ev_isBool ?_ | refine ev_isStr ?_ | refine ev_isList ?_ | refine ev_isTuple ?_ | refine ev_isLT ?_ | refine ev_isDict ?_
  | refine ev_int ?_ | refine ev_str ?_ | refine ev_bl ?_ | refine ev_non ?_ | refine ev_call ?_ | refine ev_cb ?_ | refine ev_lst ?_ | refine ev_tup ?_ | refine ev_join ?_
  | refine ea_nil ?_ | refine ea_cons ?_
  | refine et_B ?_ | refine et_test ?_ | refine et_not ?_ | refine et_and ?_ | refine et_or ?_ | refine et_yes ?_
  | refine o_plusI ?_ | refine o_i0 ?_ | refine o_b0 ?_ | refine o_isN ?_ | refine o_notN ?_
  | refine bl_ex ?_ | refine int_ex ?_ | refine str_ex ?_ | refine lst_ex ?_ | refine tup_ex ?_)
local macro_rules | `(tactic| walk_at "yo") => `(tactic| first
  | ((with_reducible show Ev _ (tOp (rIx _) (tVar _) _) _ _); refine ev_ixOwn rfl ?_)
  | ((with_reducible show Ev _ (tCB _ (tCons (tVar _) tNil)) _ _); refine ev_lenOwn rfl ?_)
  | ((with_reducible show Sm _ (tAsg _ (gSub (tVar _) _ _)) _ _); refine sm_setItem rfl ?_)
  | ((with_reducible show Ev _ (tCall (spB _ _ _) _ _ _) _ _); refine ev_callB rfl rfl ?_))
local macro_rules | `(tactic| walk_at "yc") => `(tactic| first
  | ((with_reducible show CMul _ _); first | exact Or.inr ⟨by decide, by decide⟩ | exact Or.inl ⟨by decide, by decide⟩ | exact Or.inr ⟨by omega, by omega⟩ | exact Or.inl ⟨by omega, by omega⟩)
  | ((with_reducible show CDiv _ _); exact ⟨by first | decide | omega, by first | decide | omega⟩)
  | ((with_reducible show CPow _ _); exact ⟨by decide, by decide, by first | decide | omega⟩)
  | ((show (0 : Int) < _); first | decide | omega))
local macro_rules | `(tactic| walk_at "yd") => `(tactic| first
  | ((with_reducible show plainD _ = true ∧ _); refine ⟨by first | rfl | assumption, ?_⟩)
  | ((with_reducible show (_ = true → _) ∧ (_ = false → _)); first | refine way_t rfl ?_ | refine way_f rfl ?_ | refine way_t (by decide +kernel) ?_ | refine way_f (by decide +kernel) ?_)
  | ((with_reducible show Cal _ _ _ _ _); first | (with_reducible refine c_int ?_) | (with_reducible refine c_abs ?_) | (refine c_len rfl ?_) | (refine c_len (if_pos (by assumption)) ?_))
  | ((with_reducible show Op2 _ (rEqA _) _ _ _ _); refine o_eqA rfl ?_)
  | ((with_reducible show Op2 _ (rNeA _) _ _ _ _); refine o_neA rfl ?_)
  | ((with_reducible show Op2 _ (rInA _) _ (Dt.str _) (Dt.lst _) _); refine o_inAL rfl rfl ?_)
  | ((with_reducible show Op2 _ (rInA _) _ (Dt.str _) (Dt.tup _) _); refine o_inAT rfl rfl ?_)
  | ((with_reducible show Op2 _ (rI _ _) _ _ _ _); refine o_i (by walk_at "yc") ?_)
  | ((with_reducible show Op2 _ (rIx _) _ (Dt.tup _) _ _); refine o_ixAT (atI_toNat (by decide) rfl) ?_)
  | ((with_reducible show Op2 _ (rIx _) _ (Dt.lst _) _ _); refine o_ixAL (atI_toNat (by decide) rfl) ?_)
  | ((with_reducible show ∃ x, atI _ _ = some x ∧ _); refine ⟨_, rfl, ?_⟩)
  | ((with_reducible show ∃ x, ixN _ _ = some x ∧ _); refine ⟨_, rfl, ?_⟩)
  | ((with_reducible show List.length _ ≤ 100000 ∧ _); refine ⟨by (try simp only [List.length_cons, List.length_nil]); first | decide | omega, ?_⟩))
local macro_rules | `(tactic| walk_at "y") => `(tactic| first | walk_at "yo" | walk_at "ye" | walk_at "yv" | walk_at "ys" | walk_at "yd")
local macro_rules | `(tactic| walk_at "yx") => `(tactic| first | walk_at "yo" | walk_at "ye" | walk_at "yv" | walk_at "yd")

structure Tx (K : PySem.W.Frag) (mg : Str → Option Value) (w : World) where
  a_is_number : Addr
  d_is_number : FuncData
  F_is_number : Fun K "is_number" "is_number" s_is_number a_is_number d_is_number
  m_is_number : mg "is_number" = some (.ref a_is_number)
  k_is_number : PySem.W.keepIn K (.ref a_is_number) = true
  b_is_number : Binds K d_is_number ["value", "least", "most"] []
  a_cell_of : Addr
  d_cell_of : FuncData
  F_cell_of : FunD K "cell_of" "cell_of" (defArgs s_cell_of) (defBody s_cell_of) (defScope s_cell_of) [((.int 0) : V), ((.int 0) : V), ((.int 0) : V)] [] a_cell_of d_cell_of
  m_cell_of : mg "cell_of" = some (.ref a_cell_of)
  k_cell_of : PySem.W.keepIn K (.ref a_cell_of) = true
  a_unsigned : Addr
  d_unsigned : FuncData
  F_unsigned : Fun K "unsigned" "unsigned" s_unsigned a_unsigned d_unsigned
  m_unsigned : mg "unsigned" = some (.ref a_unsigned)
  k_unsigned : PySem.W.keepIn K (.ref a_unsigned) = true
  b_unsigned : Binds K d_unsigned ["value"] []
  a_number_of : Addr
  d_number_of : FuncData
  F_number_of : Fun K "number_of" "number_of" s_number_of a_number_of d_number_of
  m_number_of : mg "number_of" = some (.ref a_number_of)
  k_number_of : PySem.W.keepIn K (.ref a_number_of) = true
  b_number_of : Binds K d_number_of ["name"] []
  a_short_cells : Addr
  d_short_cells : FuncData
  F_short_cells : Fun K "short_cells" "short_cells" s_short_cells a_short_cells d_short_cells
  m_short_cells : mg "short_cells" = some (.ref a_short_cells)
  k_short_cells : PySem.W.keepIn K (.ref a_short_cells) = true
  b_short_cells : Binds K d_short_cells ["row", "distance"] []
  a_high_half : Addr
  d_high_half : FuncData
  F_high_half : Fun K "high_half" "high_half" s_high_half a_high_half d_high_half
  m_high_half : mg "high_half" = some (.ref a_high_half)
  k_high_half : PySem.W.keepIn K (.ref a_high_half) = true
  b_high_half : Binds K d_high_half ["address"] []
  a_low_half : Addr
  d_low_half : FuncData
  F_low_half : Fun K "low_half" "low_half" s_low_half a_low_half d_low_half
  m_low_half : mg "low_half" = some (.ref a_low_half)
  k_low_half : PySem.W.keepIn K (.ref a_low_half) = true
  b_low_half : Binds K d_low_half ["address"] []
  a_halves_put : Addr
  d_halves_put : FuncData
  F_halves_put : Fun K "halves_put" "halves_put" s_halves_put a_halves_put d_halves_put
  m_halves_put : mg "halves_put" = some (.ref a_halves_put)
  k_halves_put : PySem.W.keepIn K (.ref a_halves_put) = true
  b_halves_put : Binds K d_halves_put ["number", "address"] []
  a_long_cells : Addr
  d_long_cells : FuncData
  F_long_cells : Fun K "long_cells" "long_cells" s_long_cells a_long_cells d_long_cells
  m_long_cells : mg "long_cells" = some (.ref a_long_cells)
  k_long_cells : PySem.W.keepIn K (.ref a_long_cells) = true
  b_long_cells : Binds K d_long_cells ["row", "target"] []
  a_plain_cells : Addr
  d_plain_cells : FuncData
  F_plain_cells : Fun K "plain_cells" "plain_cells" s_plain_cells a_plain_cells d_plain_cells
  m_plain_cells : mg "plain_cells" = some (.ref a_plain_cells)
  k_plain_cells : PySem.W.keepIn K (.ref a_plain_cells) = true
  b_plain_cells : Binds K d_plain_cells ["row"] []
  a_row_cells : Addr
  d_row_cells : FuncData
  F_row_cells : FunD K "row_cells" "row_cells" (defArgs s_row_cells) (defBody s_row_cells) (defScope s_row_cells) [((.bl false) : V)] [] a_row_cells d_row_cells
  m_row_cells : mg "row_cells" = some (.ref a_row_cells)
  k_row_cells : PySem.W.keepIn K (.ref a_row_cells) = true
  a_stub_cells : Addr
  d_stub_cells : FuncData
  F_stub_cells : Fun K "stub_cells" "stub_cells" s_stub_cells a_stub_cells d_stub_cells
  m_stub_cells : mg "stub_cells" = some (.ref a_stub_cells)
  k_stub_cells : PySem.W.keepIn K (.ref a_stub_cells) = true
  b_stub_cells : Binds K d_stub_cells ["slot"] []
  a__law_bag : Addr
  d__law_bag : FuncData
  F__law_bag : Fun K "_law_bag" "_law_bag" s__law_bag a__law_bag d__law_bag
  m__law_bag : mg "_law_bag" = some (.ref a__law_bag)
  k__law_bag : PySem.W.keepIn K (.ref a__law_bag) = true
  b__law_bag : Binds K d__law_bag ["_law_script"] []
  a__law_draw : Addr
  d__law_draw : FuncData
  F__law_draw : Fun K "_law_draw" "_law_draw" s__law_draw a__law_draw d__law_draw
  m__law_draw : mg "_law_draw" = some (.ref a__law_draw)
  k__law_draw : PySem.W.keepIn K (.ref a__law_draw) = true
  b__law_draw : Binds K d__law_draw ["_law_bag_here", "_law_sides"] []
  a__law_of : Addr
  d__law_of : FuncData
  F__law_of : Fun K "_law_of" "_law_of" s__law_of a__law_of d__law_of
  m__law_of : mg "_law_of" = some (.ref a__law_of)
  k__law_of : PySem.W.keepIn K (.ref a__law_of) = true
  b__law_of : Binds K d__law_of ["_law_bag_here", "_law_things"] []
  a__law_same : Addr
  d__law_same : FuncData
  F__law_same : Fun K "_law_same" "_law_same" s__law_same a__law_same d__law_same
  m__law_same : mg "_law_same" = some (.ref a__law_same)
  k__law_same : PySem.W.keepIn K (.ref a__law_same) = true
  b__law_same : Binds K d__law_same ["_law_found", "_law_due_here"] []
  a__law_titles : Addr
  d__law_titles : FuncData
  F__law_titles : Fun K "_law_titles" "_law_titles" s__law_titles a__law_titles d__law_titles
  m__law_titles : mg "_law_titles" = some (.ref a__law_titles)
  k__law_titles : PySem.W.keepIn K (.ref a__law_titles) = true
  b__law_titles : Binds K d__law_titles ["_law_bag_here", "_law_many"] []
  a__law_number : Addr
  d__law_number : FuncData
  F__law_number : Fun K "_law_number" "_law_number" s__law_number a__law_number d__law_number
  m__law_number : mg "_law_number" = some (.ref a__law_number)
  k__law_number : PySem.W.keepIn K (.ref a__law_number) = true
  b__law_number : Binds K d__law_number ["_law_bag_here"] []
  a__law_r : Addr
  d__law_r : FuncData
  F__law_r : Fun K "_law_r" "_law_r" s__law_r a__law_r d__law_r
  m__law_r : mg "_law_r" = some (.ref a__law_r)
  k__law_r : PySem.W.keepIn K (.ref a__law_r) = true
  b__law_r : Binds K d__law_r ["_law_bag_here"] []
  a__law_code_row : Addr
  d__law_code_row : FuncData
  F__law_code_row : Fun K "_law_code_row" "_law_code_row" s__law_code_row a__law_code_row d__law_code_row
  m__law_code_row : mg "_law_code_row" = some (.ref a__law_code_row)
  k__law_code_row : PySem.W.keepIn K (.ref a__law_code_row) = true
  b__law_code_row : Binds K d__law_code_row ["_law_bag_here", "_law_titles_here"] []
  a__law_last_row : Addr
  d__law_last_row : FuncData
  F__law_last_row : Fun K "_law_last_row" "_law_last_row" s__law_last_row a__law_last_row d__law_last_row
  m__law_last_row : mg "_law_last_row" = some (.ref a__law_last_row)
  k__law_last_row : PySem.W.keepIn K (.ref a__law_last_row) = true
  b__law_last_row : Binds K d__law_last_row ["_law_bag_here", "_law_titles_here"] []
  a__law_done : Addr
  d__law_done : FuncData
  F__law_done : Fun K "_law_done" "_law_done" s__law_done a__law_done d__law_done
  m__law_done : mg "_law_done" = some (.ref a__law_done)
  k__law_done : PySem.W.keepIn K (.ref a__law_done) = true
  b__law_done : Binds K d__law_done ["_law_lot", "_law_place_y", "_law_registers", "_law_held"] []
  a__law_due : Addr
  d__law_due : FuncData
  F__law_due : Fun K "_law_due" "_law_due" s__law_due a__law_due d__law_due
  m__law_due : mg "_law_due" = some (.ref a__law_due)
  k__law_due : PySem.W.keepIn K (.ref a__law_due) = true
  b__law_due : Binds K d__law_due ["_law_one", "_law_place_y", "_law_goal", "_law_registers", "_law_held", "_law_size"] []
  a__law_without_third : Addr
  d__law_without_third : FuncData
  F__law_without_third : Fun K "_law_without_third" "_law_without_third" s__law_without_third a__law_without_third d__law_without_third
  m__law_without_third : mg "_law_without_third" = some (.ref a__law_without_third)
  k__law_without_third : PySem.W.keepIn K (.ref a__law_without_third) = true
  b__law_without_third : Binds K d__law_without_third ["_law_done_here"] []
  a_law : Addr
  d_law : FuncData
  F_law : Fun K "law" "law" s_law a_law d_law
  m_law : mg "law" = some (.ref a_law)
  k_law : PySem.W.keepIn K (.ref a_law) = true
  b_law : Binds K d_law ["_law_script"] []
  e_cell_of_4 : List Value
  v_cell_of_4 : Vals [] e_cell_of_4
  b_cell_of_4 : Binds K d_cell_of ["word", "r", "s", "part"] e_cell_of_4
  e_cell_of_2 : List Value
  v_cell_of_2 : Vals [(.int 0), (.int 0)] e_cell_of_2
  b_cell_of_2 : Binds K d_cell_of ["word", "r", "s", "part"] e_cell_of_2
  e_cell_of_3 : List Value
  v_cell_of_3 : Vals [(.int 0)] e_cell_of_3
  b_cell_of_3 : Binds K d_cell_of ["word", "r", "s", "part"] e_cell_of_3
  e_row_cells_4 : List Value
  v_row_cells_4 : Vals [] e_row_cells_4
  b_row_cells_4 : Binds K d_row_cells ["row", "at", "target", "long"] e_row_cells_4
  a_CODES : Addr
  m_CODES : mg "CODES" = some (.ref a_CODES)
  kd_CODES : KD K (.ref a_CODES) (.tup [(.str "fault"), (.str "halt"), (.str "high"), (.str "low"), (.str "add"), (.str "take"), (.str "load"), (.str "store"), (.str "jump"), (.str "ifzero"), (.str "call"), (.str "near"), (.str "jumpby"), (.str "callby"), (.str "back"), (.str "out")])
  kt_CODES : KTup K a_CODES
  u_MOST_REGISTER : Value
  m_MOST_REGISTER : mg "MOST_REGISTER" = some u_MOST_REGISTER
  r_MOST_REGISTER : RelV (.int 3) u_MOST_REGISTER
  u_MOST_PART : Value
  m_MOST_PART : mg "MOST_PART" = some u_MOST_PART
  r_MOST_PART : RelV (.int 255) u_MOST_PART
  u_S_UNIT : Value
  m_S_UNIT : mg "S_UNIT" = some u_S_UNIT
  r_S_UNIT : RelV (.int 256) u_S_UNIT
  u_CODE_UNIT : Value
  m_CODE_UNIT : mg "CODE_UNIT" = some u_CODE_UNIT
  r_CODE_UNIT : RelV (.int 4096) u_CODE_UNIT
  u_R_UNIT : Value
  m_R_UNIT : mg "R_UNIT" = some u_R_UNIT
  r_R_UNIT : RelV (.int 1024) u_R_UNIT
  u_BYTE : Value
  m_BYTE : mg "BYTE" = some u_BYTE
  r_BYTE : RelV (.int 256) u_BYTE
  a_SHORT_WORDS : Addr
  m_SHORT_WORDS : mg "SHORT_WORDS" = some (.ref a_SHORT_WORDS)
  kd_SHORT_WORDS : KDic K w a_SHORT_WORDS [("name", (.str "near")), ("jump", (.str "jump")), ("ifzero", (.str "ifzero")), ("call", (.str "call"))]
  u_MIDDLE : Value
  m_MIDDLE : mg "MIDDLE" = some u_MIDDLE
  r_MIDDLE : RelV (.int 128) u_MIDDLE
  u_FAR : Value
  m_FAR : mg "FAR" = some u_FAR
  r_FAR : RelV (.int 3) u_FAR
  a_FAR_WORDS : Addr
  m_FAR_WORDS : mg "FAR_WORDS" = some (.ref a_FAR_WORDS)
  kd_FAR_WORDS : KDic K w a_FAR_WORDS [("jump", (.str "jumpby")), ("ifzero", (.str "jumpby")), ("call", (.str "callby"))]
  a_PAIRED : Addr
  m_PAIRED : mg "PAIRED" = some (.ref a_PAIRED)
  kd_PAIRED : KD K (.ref a_PAIRED) (.tup [(.str "add"), (.str "take"), (.str "load"), (.str "store")])
  a_LONE : Addr
  m_LONE : mg "LONE" = some (.ref a_LONE)
  kd_LONE : KD K (.ref a_LONE) (.tup [(.str "callby"), (.str "out")])
  a_LONG_SIZES : Addr
  m_LONG_SIZES : mg "LONG_SIZES" = some (.ref a_LONG_SIZES)
  kd_LONG_SIZES : KDic K w a_LONG_SIZES [("name", (.int 2)), ("jump", (.int 3)), ("ifzero", (.int 5)), ("call", (.int 3))]
  n_isinstance : mg "isinstance" = none
  n_int : mg "int" = none
  n_bool : mg "bool" = none
  n_str : mg "str" = none
  n_range : mg "range" = none
  n_len : mg "len" = none
  n_list : mg "list" = none
  n_abs : mg "abs" = none
  n_tuple : mg "tuple" = none
  n_all : mg "all" = none
  n_zip : mg "zip" = none
section
variable {P : Program} {w : World} {K : PySem.W.Frag} {mg : Str → Option Value} {base : Heap}

theorem ok__law_bag (T : Tx K mg w) : FnOk P w K mg base CX0 1 T.a__law_bag T.d__law_bag ["_law_script"] (spBag K) := by
  refine fn_newBag T.F__law_bag sc__law_bag (fun cdv A outer s H E hr => ⟨_, (pss_cons (ps_set (i := 1) sc__law_bag.nd rfl (Or.inl rfl) pe_int)
      (pss_cons (ps_for PassesOwn.never rfl (pi_listA (K := K) (pe_slice (sl_any (K := K)) (pv 0) po_none (po_some pe_int))) (pg_name (i := 2) sc__law_bag.nd rfl (Or.inl rfl)) (pss_one (ps_set (i := 1) sc__law_bag.nd rfl (Or.inl rfl) (pe_op op_mod (pe_callTy call_int1 (by rfl) T.n_int PyProof.Rows.boot_int (pa_cons (pe_op (op_plus (K := K)) (pe_op (op_plus (K := K)) (pe_op op_mul (pv 1) pe_int) (pe_op op_mul (pe_op op_mod (pe_callTy call_int1 (by rfl) T.n_int PyProof.Rows.boot_int (pa_cons (pv 2) pa_nil)) pe_int) pe_int)) pe_int) pa_nil)) pe_int))))
      (pss_one (ps_ret (pe_lst (pa_cons (pe_callTy (call_listB (K := K) rfl) (by rfl) T.n_list PyProof.Rows.boot_list (pa_cons (pe_slice (sl_any (K := K)) (pv 0) po_none (po_some pe_int)) pa_nil)) (pa_cons pe_int (pa_cons pe_int (pa_cons (pv 1) (pa_cons pe_int pa_nil)))))))))), fun H0 a ns hS => ?_⟩)
  dsimp only [cxOf, env0, env1, List.map, List.length, List.replicate, List.cons_append, List.nil_append, List.append, Nat.reduceAdd, Nat.reduceSub, Nat.zero_add]
  refine sm_seq (sm_set (ev_int ?_))
  refine sm_seq (sm_for (ei_list (EvO.ev (eo_slRaw rfl hS (fun z => nomatch z) (ep_none (ep_some (ev_int (int_ex (lst_ex ⟨fun _ e => ∃ m s, e = [.r (.ref a), .d (.int m), s] ∧ 0 ≤ m ∧ m < 2147483648, ⟨12026, .no, rfl, by decide, by decide⟩, ?_, ?_⟩)))))))))
  · rintro i x es' hx ⟨m, s, rfl, h0, h1⟩
    obtain ⟨n, rfl⟩ := of_mem_ints hx
    refine tg_name ?_
    repeat walk_at "y"
    exact ⟨_, _, rfl, by omega, by omega⟩
  · rintro es' ⟨m, s, rfl, h0, h1⟩
    refine sm_retO (eo_lst (ea_cons (EvO.ev (eo_listL (ea_cons (EvO.ev (eo_slRaw rfl hS (fun z => nomatch z) (ep_none (ep_some (ev_int (int_ex (ea_nil ⟨_, Or.inl rfl, ?_⟩))))))))))))
    repeat walk_at "y"
    exact ⟨_, 0, 0, m, 0, rfl, by decide, by decide, h0, h1⟩

theorem ok__law_draw (T : Tx K mg w) : FnOk P w K mg base CX0 1 T.a__law_draw T.d__law_draw ["_law_bag_here", "_law_sides"] (spB K drawPre drawPost) := by
  refine fn_draw T.F__law_draw sc__law_draw (fun ds h => ?_) (fun cdv A outer s H E hr => ⟨_, (pss_cons (ps_asg (pe_op (op_plus (K := K)) (pe_ix (ix_any (K := K)) (pv 0) pe_int (fun _ _ => rfl)) pe_int) (pg_sub (pv 0) pe_int set_list))
      (pss_cons (ps_if (PW.pt (pw_and (pt_cmpR (op_eqA (K := K) hr.units) (pe_ix (ix_any (K := K)) (pv 0) pe_int (fun _ _ => rfl)) pe_int (nomark _)) (pw_and1 (pt_cmpR op_lt (pe_ix (ix_any (K := K)) (pv 0) pe_int (fun _ _ => rfl)) (pe_callB (call_lenA (K := K)) (by rfl) T.n_len PySem.boot_len (pa_cons (pe_ix (ix_any (K := K)) (pv 0) pe_int (fun _ _ => rfl)) pa_nil)) (nomark _))))) (pss_cons (ps_set (i := 2) sc__law_draw.nd rfl (Or.inl rfl) (pe_callTy call_int1 (by rfl) T.n_int PyProof.Rows.boot_int (pa_cons (pe_ix (ix_any (K := K)) (pe_ix (ix_any (K := K)) (pv 0) pe_int (fun _ _ => rfl)) (pe_ix (ix_any (K := K)) (pv 0) pe_int (fun _ _ => rfl)) (fun _ _ => rfl)) pa_nil)))
      (pss_cons (ps_asg (pe_op (op_plus (K := K)) (pe_ix (ix_any (K := K)) (pv 0) pe_int (fun _ _ => rfl)) pe_int) (pg_sub (pv 0) pe_int set_list))
      (pss_one (ps_if (pt_cmpR op_ge (pe_callB call_abs (by rfl) T.n_abs PyProof.Rows.boot_abs (pa_cons (pv 2) pa_nil)) (pe_op op_pow pe_int pe_int) (nomark _)) (pss_one (ps_asg (pe_callB call_abs (by rfl) T.n_abs PyProof.Rows.boot_abs (pa_cons (pv 2) pa_nil)) (pg_sub (pv 0) pe_int set_list))) (pss_one (ps_asg (pe_op op_mod (pe_callTy call_int1 (by rfl) T.n_int PyProof.Rows.boot_int (pa_cons (pe_op (op_plus (K := K)) (pe_op (op_plus (K := K)) (pe_op op_mul (pe_ix (ix_any (K := K)) (pv 0) pe_int (fun _ _ => rfl)) pe_int) (pe_op op_mul (pe_op op_mod (pe_callTy call_int1 (by rfl) T.n_int PyProof.Rows.boot_int (pa_cons (pv 2) pa_nil)) pe_int) pe_int)) pe_int) pa_nil)) pe_int) (pg_sub (pv 0) pe_int set_list))))))) pss_nil)
      (pss_cons (ps_if (pt_cmpR op_gt (pe_ix (ix_any (K := K)) (pv 0) pe_int (fun _ _ => rfl)) pe_int (nomark _)) (pss_cons (ps_set (i := 3) sc__law_draw.nd rfl (Or.inl rfl) (pe_op op_mod (pe_callTy call_int1 (by rfl) T.n_int PyProof.Rows.boot_int (pa_cons (pe_ix (ix_any (K := K)) (pv 0) pe_int (fun _ _ => rfl)) pa_nil)) (pv 1)))
      (pss_cons (ps_asg (pe_op op_fdiv (pe_ix (ix_any (K := K)) (pv 0) pe_int (fun _ _ => rfl)) (pv 1)) (pg_sub (pv 0) pe_int set_list))
      (pss_one (ps_ret (pv 3))))) pss_nil)
      (pss_cons (ps_set (i := 4) sc__law_draw.nd rfl (Or.inl rfl) (pe_callTy call_int1 (by rfl) T.n_int PyProof.Rows.boot_int (pa_cons (pe_ix (ix_any (K := K)) (pv 0) pe_int (fun _ _ => rfl)) pa_nil)))
      (pss_cons (ps_asg (pe_op op_mod (pe_callTy call_int1 (by rfl) T.n_int PyProof.Rows.boot_int (pa_cons (pe_op (op_plus (K := K)) (pe_op (op_plus (K := K)) (pe_op (op_plus (K := K)) (pe_op op_mul (pe_op op_mul (pv 4) (pv 4)) pe_int) (pe_op op_mul (pv 4) pe_int)) (pe_op op_mul (pe_ix (ix_any (K := K)) (pv 0) pe_int (fun _ _ => rfl)) pe_int)) pe_int) pa_nil)) pe_int) (pg_sub (pv 0) pe_int set_list))
      (pss_one (ps_ret (pe_op op_mod (pe_callTy call_int1 (by rfl) T.n_int PyProof.Rows.boot_int (pa_cons (pe_op (op_plus (K := K)) (pe_op op_fdiv (pe_ix (ix_any (K := K)) (pv 0) pe_int (fun _ _ => rfl)) pe_int) (pe_op op_mul (pe_op op_mod (pe_callTy call_int1 (by rfl) T.n_int PyProof.Rows.boot_int (pa_cons (pe_ix (ix_any (K := K)) (pv 0) pe_int (fun _ _ => rfl)) pa_nil)) pe_int) pe_int)) pa_nil)) (pv 1))))))))), fun F0 H0 b xs ds hB h => ?_⟩)
  · obtain ⟨n, rfl, _⟩ := h; rfl
  · obtain ⟨n, rfl, hn, hn2⟩ := h
    obtain ⟨ns, i, r, m, k, rfl, hi, hr0, hm, hm2⟩ := hB
    dsimp only [cxOf, env0, env1, List.map, List.length, List.replicate, List.cons_append, List.nil_append, List.append, Nat.reduceAdd, Nat.reduceSub, Nat.zero_add]
    refine sm_seq ?_
    walk_at "y"
    repeat walk_at "yx"
    refine sm_cut (fun e => ∃ i r m k s, e = [.own b [.lst (ns.map Dt.int), .int i, .int r, .int m, .int k], .d (.int n), s, .no, .no] ∧ 0 ≤ i ∧ 0 ≤ r ∧ 0 ≤ m ∧ m < 2147483648) ?_ ?_
    · repeat walk_at "y"
      refine ways (fun h => ?_) (fun h => ?_)
      · repeat walk_at "y"
        refine ways (fun h => ?_) (fun h => ?_)
        · have h2 := of_decide_eq_true h
          have h3 : i < (ns.map Dt.int).length := h2
          obtain ⟨x, hx, hxm⟩ := atI_of hi h3
          obtain ⟨v, _, rfl⟩ := List.mem_map.mp hxm
          refine sm_seq (sm_set (ev_cb (ea_cons ?_)))
          refine ev_op ?_
          repeat walk_at "y"
          refine o_ixAL hx ?_
          repeat walk_at "y"
          refine ways (fun h => ?_) (fun h => ?_)
          · repeat walk_at "y"
            exact ⟨_, _, _, _, _, rfl, by omega, by split <;> omega, hm, hm2⟩
          · repeat walk_at "y"
            exact ⟨_, _, _, _, _, rfl, by omega, hr0, by omega, by omega⟩
        · repeat walk_at "y"
          exact ⟨_, _, _, _, _, rfl, hi, hr0, hm, hm2⟩
      · repeat walk_at "y"
        exact ⟨_, _, _, _, _, rfl, hi, hr0, hm, hm2⟩
    · rintro es' ⟨i, r, m, k, s, rfl, hi, hr0, hm, hm2⟩
      refine sm_seq (sm_if ?_)
      repeat walk_at "y"
      refine ways (fun h => ?_) (fun h => ?_)
      · repeat walk_at "y"
        exact ⟨⟨n, _, rfl, rfl, Int.emod_nonneg _ (by omega), Int.emod_lt_of_pos _ hn⟩, _, rfl, _, _, _, _, _, rfl, hi, Int.ediv_nonneg hr0 (by omega), hm, hm2⟩
      · repeat walk_at "y"
        refine ⟨⟨n, _, rfl, rfl, Int.emod_nonneg _ (by omega), Int.emod_lt_of_pos _ hn⟩, _, rfl, _, _, _, _, _, rfl, hi, hr0, ?_, ?_⟩
        · exact Int.emod_nonneg _ (by decide)
        · have := Int.emod_lt_of_pos (m * m * 19 + m * 47111 + k * 110323 + 60089) (show (0 : Int) < 2147483549 by decide)
          omega
end
end Law
set_option pp.deepTerms false
set_option pp.deepTerms.threshold 6
namespace Law
open PySem L2 Y
local macro_rules | `(tactic| walk_at "yv") => `(tactic| ((with_reducible show Ev _ (tVar _) _ _); refine ev_var rfl ?_))
local macro_rules | `(tactic| walk_at "ys") => `(tactic| with_reducible first
  | refine sm_seq ?_ | refine sm_ret ?_ | refine sm_if ?_ | refine sm_set ?_ | refine sm_next ?_ | refine sm_par ?_ | refine sm_drop ?_ | refine sm_brk ?_ | refine sm_cont ?_)
local macro_rules | `(tactic| walk_at "ye") => `(tactic| with_reducible first
  | refine ev_op ?_ | refine ev_and ?_ | refine ev_or ?_ | refine ev_not ?_ | refine ev_if ?_ | refine ev_chain ?_ | refine ev_neg ?_ | refine ev_isInt ?_ | refine ev_isBool ?_ | refine ev_isStr ?_ | refine ev_isList ?_ | refine ev_isTuple ?_ | refine ev_isLT ?_ | refine ev_isDict ?_
  | refine ev_int ?_ | refine ev_str ?_ | refine ev_bl ?_ | refine ev_non ?_ | refine ev_call ?_ | refine ev_cb ?_ | refine ev_lst ?_ | refine ev_tup ?_ | refine ev_join ?_
  | refine ea_nil ?_ | refine ea_cons ?_
  | refine et_B ?_ | refine et_test ?_ | refine et_not ?_ | refine et_and ?_ | refine et_or ?_ | refine et_yes ?_
  | refine o_plusI ?_ | refine o_i0 ?_ | refine o_b0 ?_ | refine o_isN ?_ | refine o_notN ?_
  | refine bl_ex ?_ | refine int_ex ?_ | refine str_ex ?_ | refine lst_ex ?_ | refine tup_ex ?_)
local macro_rules | `(tactic| walk_at "yo") => `(tactic| first
  | ((with_reducible show Ev _ (tOp (rIx _) (tVar _) _) _ _); refine ev_ixOwn rfl ?_)
  | ((with_reducible show Ev _ (tCB _ (tCons (tVar _) tNil)) _ _); refine ev_lenOwn rfl ?_)
  | ((with_reducible show Sm _ (tAsg _ (gSub (tVar _) _ _)) _ _); refine sm_setItem rfl ?_)
  | ((with_reducible show Ev _ (tCall (spB _ _ _) _ _ _) _ _); refine ev_callB rfl rfl ?_))
local macro_rules | `(tactic| walk_at "yc") => `(tactic| first
  | ((with_reducible show CMul _ _); first | exact Or.inr ⟨by decide, by decide⟩ | exact Or.inl ⟨by decide, by decide⟩ | exact Or.inr ⟨by omega, by omega⟩ | exact Or.inl ⟨by omega, by omega⟩)
  | ((with_reducible show CDiv _ _); exact ⟨by first | decide | omega, by first | decide | omega⟩)
  | ((with_reducible show CPow _ _); exact ⟨by decide, by decide, by first | decide | omega⟩)
  | ((show (0 : Int) < _); first | decide | omega))
local macro_rules | `(tactic| walk_at "yd") => `(tactic| first
  | ((with_reducible show plainD _ = true ∧ _); refine ⟨by first | rfl | assumption, ?_⟩)
  | ((with_reducible show (_ = true → _) ∧ (_ = false → _)); first | refine way_t rfl ?_ | refine way_f rfl ?_ | refine way_t (by decide +kernel) ?_ | refine way_f (by decide +kernel) ?_)
  | ((with_reducible show Cal _ _ _ _ _); first | (with_reducible refine c_int ?_) | (with_reducible refine c_abs ?_) | (refine c_len rfl ?_) | (refine c_len (if_pos (by assumption)) ?_))
  | ((with_reducible show Op2 _ (rEqA _) _ _ _ _); refine o_eqA rfl ?_)
  | ((with_reducible show Op2 _ (rNeA _) _ _ _ _); refine o_neA rfl ?_)
  | ((with_reducible show Op2 _ (rInA _) _ (Dt.str _) (Dt.lst _) _); refine o_inAL rfl rfl ?_)
  | ((with_reducible show Op2 _ (rInA _) _ (Dt.str _) (Dt.tup _) _); refine o_inAT rfl rfl ?_)
  | ((with_reducible show Op2 _ (rI _ _) _ _ _ _); refine o_i (by walk_at "yc") ?_)
  | ((with_reducible show Op2 _ (rIx _) _ (Dt.tup _) _ _); refine o_ixAT (atI_toNat (by decide) rfl) ?_)
  | ((with_reducible show Op2 _ (rIx _) _ (Dt.lst _) _ _); refine o_ixAL (atI_toNat (by decide) rfl) ?_)
  | ((with_reducible show ∃ x, atI _ _ = some x ∧ _); refine ⟨_, rfl, ?_⟩)
  | ((with_reducible show ∃ x, ixN _ _ = some x ∧ _); refine ⟨_, rfl, ?_⟩)
  | ((with_reducible show List.length _ ≤ 100000 ∧ _); refine ⟨by (try simp only [List.length_cons, List.length_nil]); first | decide | omega, ?_⟩))
local macro_rules | `(tactic| walk_at "y") => `(tactic| first | walk_at "yo" | walk_at "ye" | walk_at "yv" | walk_at "ys" | walk_at "yd")
local macro_rules | `(tactic| walk_at "yx") => `(tactic| first | walk_at "yo" | walk_at "ye" | walk_at "yv" | walk_at "yd")
section
variable {P : Program} {w : World} {K : PySem.W.Frag} {mg : Str → Option Value} {base : Heap}

theorem ok__law_of (T : Tx K mg w) : FnOk P w K mg base CX0 2 T.a__law_of T.d__law_of ["_law_bag_here", "_law_things"] (spB K ofPre ofPost) := by
  have G__law_draw := ok__law_draw (P := P) (w := w) (base := base) T
  refine fn_bag T.F__law_of sc__law_of (fun ds h => ?_) (fun cdv A outer s H E hr => ⟨_, (pss_one (ps_ret (pe_ix (ix_any (K := K)) (pv 1) (pe_call G__law_draw (hr.mono (by decide)) (by rfl) T.m__law_draw T.k__law_draw T.b__law_draw .nil pass0 (pa_cons (pv 0) (pa_cons (pe_callB (call_lenA (K := K)) (by rfl) T.n_len PySem.boot_len (pa_cons (pv 1) pa_nil)) pa_nil))) (fun _ _ => rfl)))), fun F0 H0 b ds h => ?_⟩)
  · obtain ⟨x, rfl, _⟩ := h; rfl
  · obtain ⟨x, rfl, h1, h2⟩ := h
    dsimp only [cxOf, env0, env1, List.map, List.length, List.replicate, List.cons_append, List.nil_append, List.append, Nat.reduceAdd, Nat.reduceSub, Nat.zero_add]
    refine sm_ret (ev_op ?_)
    cases x with
    | lst xs =>
      have h1 : 0 < xs.length := h1
      have h2 : xs.length ≤ 100000 := h2
      repeat walk_at "yx"
      refine ⟨⟨_, rfl, by omega, by omega⟩, ?_⟩
      rintro d ⟨n, i, e, rfl, k1, k2⟩
      cases e
      obtain ⟨y, hy, hm⟩ := atI_of k1 k2
      exact o_ixAL hy ⟨_, rfl, hm⟩
    | tup xs =>
      have h1 : 0 < xs.length := h1
      have h2 : xs.length ≤ 100000 := h2
      repeat walk_at "yx"
      refine ⟨⟨_, rfl, by omega, by omega⟩, ?_⟩
      rintro d ⟨n, i, e, rfl, k1, k2⟩
      cases e
      obtain ⟨y, hy, hm⟩ := atI_of k1 k2
      exact o_ixAT hy ⟨_, rfl, hm⟩
    | str z =>
      have h1 : 0 < (signsD z).length := h1
      have h2 : (signsD z).length ≤ 100000 := h2
      rw [signsD_len] at h1 h2
      have hl : z.length ≤ 100000 := h2
      have e0 : z.length = z.cps.size := rfl
      refine ev_var rfl ?_
      refine ev_callB rfl rfl ?_
      refine ea_cons (ev_cb (ea_cons (ev_var rfl (ea_nil (c_len (n := z.length) (if_pos hl) (ea_nil ?_))))))
      refine ⟨⟨_, rfl, by omega, by omega⟩, ?_⟩
      rintro d ⟨n, i, e, rfl, k1, k2⟩
      cases e
      obtain ⟨y, hy, hm⟩ := atI_ofN (xs := z.cps.toList) k1 (by rw [Array.length_toList]; exact k2)
      exact o_ixAS hl hy ⟨_, rfl, List.mem_map.mpr ⟨y, hm, rfl⟩⟩
    | _ => exact absurd (show 0 < 0 from h1) (Nat.lt_irrefl 0)

theorem ok__law_same (T : Tx K mg w) : ∀ n, FnOk P w K mg base CX0 n T.a__law_same T.d__law_same ["_law_found", "_law_due_here"] (spD K (samePre n) sameTrue)
  | 0 => fn_none fun ds h => by obtain ⟨x, _, _, h⟩ := h; omega
  | n + 1 => by
    have G__law_same := ok__law_same T n
    refine fn_data T.F__law_same sc__law_same (fun ds h => ?_) (fun cdv A outer s H E hr => ⟨_, (pss_cons (ps_if (PW.pt (pw_or (pt_cmpR op_isN (pv 1) pe_non (nomark _)) (pw_or1 (pt_cmpR op_isN (pv 0) pe_non (nomark _))))) (pss_one (ps_ret (pe_and (pe_cmpR op_isN (pv 1) pe_non (nomark _)) (pe_one (pe_cmpR op_isN (pv 0) pe_non (nomark _)))))) pss_nil)
      (pss_cons (ps_if (pt_val (pe_callB (call_isiTA (K := K)) (by rfl) T.n_isinstance PyProof.Rows.boot_isinstance (pa_cons (pv 1) (pa_cons (pe_tup (pa_cons (pe_bltn (v := .ty "list") (by rfl) T.n_list (by decide +kernel) rfl) (pa_cons (pe_bltn (v := .ty "tuple") (by rfl) T.n_tuple (by decide +kernel) rfl) pa_nil))) pa_nil)))) (pss_cons (ps_if (PW.pt (pw_or (pt_cmpR (op_neA (K := K) hr.units) (pe_callB (call_isiA (K := K)) (by rfl) T.n_isinstance PyProof.Rows.boot_isinstance (pa_cons (pv 0) (pa_cons (pe_bltn (v := .ty "list") (by rfl) T.n_list (by decide +kernel) rfl) pa_nil))) (pe_callB (call_isiA (K := K)) (by rfl) T.n_isinstance PyProof.Rows.boot_isinstance (pa_cons (pv 1) (pa_cons (pe_bltn (v := .ty "list") (by rfl) T.n_list (by decide +kernel) rfl) pa_nil))) (nomark _)) (pw_or1 (pt_cmpR (op_neA (K := K) hr.units) (pe_callB (call_isiA (K := K)) (by rfl) T.n_isinstance PyProof.Rows.boot_isinstance (pa_cons (pv 0) (pa_cons (pe_bltn (v := .ty "tuple") (by rfl) T.n_tuple (by decide +kernel) rfl) pa_nil))) (pe_callB (call_isiA (K := K)) (by rfl) T.n_isinstance PyProof.Rows.boot_isinstance (pa_cons (pv 1) (pa_cons (pe_bltn (v := .ty "tuple") (by rfl) T.n_tuple (by decide +kernel) rfl) pa_nil))) (nomark _))))) (pss_one (ps_ret pe_bl)) pss_nil)
      (pss_one (ps_ret (pe_and (pe_cmpR (op_eqA (K := K) hr.units) (pe_callB (call_lenA (K := K)) (by rfl) T.n_len PySem.boot_len (pa_cons (pv 0) pa_nil)) (pe_callB (call_lenA (K := K)) (by rfl) T.n_len PySem.boot_len (pa_cons (pv 1) pa_nil)) (nomark _)) (pe_one (pe_callB (cr_allA (K := K) rfl) (by rfl) T.n_all PyProof.Rows.boot_all (pa_cons (pe_lc (own := [("_law_a", 2), ("_law_b", 3)]) (g := gTup K 2 (gCons (gName 2) (gCons (gName 3) gNil))) rfl sc__law_same.nd (pi_zipB (K := K) (by rfl) T.n_zip (pa_cons (pv 0) (pa_cons (pv 1) pa_nil))) (blkOk_by (N := ["_law_found", "_law_due_here", "_law_a", "_law_b"]) (sc := defScope s__law_same) (by decide +kernel)) (fun _ _ _ _ _ => (pg_tupA (K := K) rfl (pgs_cons (pg_name (i := 2) sc__law_same.nd rfl (Or.inl rfl)) (pgs_cons (pg_name (i := 3) sc__law_same.nd rfl (Or.inl rfl)) pgs_nil)))) (fun _ _ _ _ _ => pts_nil) (fun _ _ _ _ _ => (pe_call G__law_same hr (by rfl) T.m__law_same T.k__law_same T.b__law_same .nil pass0 (pa_cons (pv 2) (pa_cons (pv 3) pa_nil))))) pa_nil))))))) pss_nil)
      (pss_cons (ps_if (PW.pt (pw_or (pt_cmpR (op_neA (K := K) hr.units) (pe_callB (call_isiA (K := K)) (by rfl) T.n_isinstance PyProof.Rows.boot_isinstance (pa_cons (pv 1) (pa_cons (pe_bltn (v := .ty "bool") (by rfl) T.n_bool (by decide +kernel) rfl) pa_nil))) (pe_callB (call_isiA (K := K)) (by rfl) T.n_isinstance PyProof.Rows.boot_isinstance (pa_cons (pv 0) (pa_cons (pe_bltn (v := .ty "bool") (by rfl) T.n_bool (by decide +kernel) rfl) pa_nil))) (nomark _)) (pw_or1 (pt_cmpR (op_neA (K := K) hr.units) (pe_callB (call_isiA (K := K)) (by rfl) T.n_isinstance PyProof.Rows.boot_isinstance (pa_cons (pv 1) (pa_cons (pe_bltn (v := .ty "int") (by rfl) T.n_int (by decide +kernel) rfl) pa_nil))) (pe_callB (call_isiA (K := K)) (by rfl) T.n_isinstance PyProof.Rows.boot_isinstance (pa_cons (pv 0) (pa_cons (pe_bltn (v := .ty "int") (by rfl) T.n_int (by decide +kernel) rfl) pa_nil))) (nomark _))))) (pss_one (ps_ret pe_bl)) pss_nil)
      (pss_one (ps_ret (pe_and (pe_cmpR (op_eqA (K := K) hr.units) (pe_callB (call_isiA (K := K)) (by rfl) T.n_isinstance PyProof.Rows.boot_isinstance (pa_cons (pv 1) (pa_cons (pe_bltn (v := .ty "str") (by rfl) T.n_str (by decide +kernel) rfl) pa_nil))) (pe_callB (call_isiA (K := K)) (by rfl) T.n_isinstance PyProof.Rows.boot_isinstance (pa_cons (pv 0) (pa_cons (pe_bltn (v := .ty "str") (by rfl) T.n_str (by decide +kernel) rfl) pa_nil))) (nomark _)) (pe_one (pe_cmpR (op_eqA (K := K) hr.units) (pv 0) (pv 1) (nomark _))))))))), fun F0 H0 ds h => ?_⟩)
    · obtain ⟨x, rfl, _⟩ := h; rfl
    · obtain ⟨x, rfl, hp, hd⟩ := h
      dsimp only [cxOf, env0, env1, List.map, List.length, List.replicate, List.cons_append, List.nil_append, List.append, Nat.reduceAdd, Nat.reduceSub, Nat.zero_add]
      cases x with
      | obj _ _ _ => unfold Dt.pureD at hp; cases hp
      | dct _ _ => unfold Dt.pureD at hp; cases hp
      | ali _ => unfold Dt.pureD at hp; cases hp
      | lst xs =>
        unfold Dt.depth at hd
        unfold Dt.pureD at hp
        rw [Bool.and_eq_true] at hp
        have hl := of_decide_eq_true hp.1
        repeat walk_at "y"
        refine way_t (by simp [dEq]) ?_
        refine ev_cb (ea_cons (EvO.ev (eo_mapF (fun _ => .bl true) (ei_zip ?_))))
        repeat walk_at "y"
        refine ⟨xs, xs, .inl rfl, ?_, ?_, ?_⟩
        · rw [pairD_len]; omega
        · intro p hpm
          obtain ⟨y, hy, rfl⟩ := pairD_mem hpm
          refine tc_tup2 (by decide) ?_
          repeat walk_at "y"
          exact ⟨⟨y, rfl, pureAll_mem hy hp.2, by have := depthAll_mem (n := n - 1) hy (by omega); omega⟩, fun d e => e⟩
        · refine ea_nil (c_allF (g := fun _ => true) ?_)
          show Dt.bl _ = .bl true
          simp
      | tup xs =>
        unfold Dt.depth at hd
        unfold Dt.pureD at hp
        rw [Bool.and_eq_true] at hp
        have hl := of_decide_eq_true hp.1
        repeat walk_at "y"
        refine way_t (by simp [dEq]) ?_
        refine ev_cb (ea_cons (EvO.ev (eo_mapF (fun _ => .bl true) (ei_zip ?_))))
        repeat walk_at "y"
        refine ⟨xs, xs, .inr rfl, ?_, ?_, ?_⟩
        · rw [pairD_len]; omega
        · intro p hpm
          obtain ⟨y, hy, rfl⟩ := pairD_mem hpm
          refine tc_tup2 (by decide) ?_
          repeat walk_at "y"
          exact ⟨⟨y, rfl, pureAll_mem hy hp.2, by have := depthAll_mem (n := n - 1) hy (by omega); omega⟩, fun d e => e⟩
        · refine ea_nil (c_allF (g := fun _ => true) ?_)
          show Dt.bl _ = .bl true
          simp
      | non =>
        repeat walk_at "y"
        rfl
      | _ =>
        repeat walk_at "y"
        show Dt.bl _ = .bl true
        simp [dEq]

theorem ok_is_number (T : Tx K mg w) : FnOk P w K mg base CX0 1 T.a_is_number T.d_is_number ["value", "least", "most"] (spD K numPre numPost) := by
  refine fn_data T.F_is_number sc_is_number (fun ds h => ?_) (fun cdv A outer s H E hr => ⟨_, (pss_one (ps_ret (pe_and (pe_callB (call_isiA (K := K)) (by rfl) T.n_isinstance PyProof.Rows.boot_isinstance (pa_cons (pv 0) (pa_cons (pe_bltn (v := .ty "int") (by rfl) T.n_int (by decide +kernel) rfl) pa_nil))) (pe_and (pe_not (pe_callB (call_isiA (K := K)) (by rfl) T.n_isinstance PyProof.Rows.boot_isinstance (pa_cons (pv 0) (pa_cons (pe_bltn (v := .ty "bool") (by rfl) T.n_bool (by decide +kernel) rfl) pa_nil)))) (pe_one (pe_chain op_le op_le (pv 1) (pv 0) (pv 2))))))), fun F0 H0 ds h => ?_⟩)
  · obtain ⟨x, l, m, rfl, _⟩ := h; rfl
  · obtain ⟨x, l, m, rfl, hx⟩ := h
    dsimp only [cxOf, env0, env1, List.map, List.length, List.replicate, List.cons_append, List.nil_append, List.append, Nat.reduceAdd, Nat.reduceSub, Nat.zero_add]
    cases x with
    | obj _ _ _ => cases hx
    | ali _ => cases hx
    | int i =>
      repeat walk_at "y"
      refine ways (fun h => ?_) (fun h => ?_)
      · repeat walk_at "y"
        exact ⟨_, l, m, rfl, by show _ = Dt.bl (decide (l ≤ i) && decide (i ≤ m)); rw [h]; rfl⟩
      · repeat walk_at "y"
        exact ⟨_, l, m, rfl, by show _ = Dt.bl (decide (l ≤ i) && decide (i ≤ m)); rw [h]; rfl⟩
    | _ =>
      repeat walk_at "y"
      exact ⟨_, l, m, rfl, rfl⟩
end
end Law
namespace Law
open PySem L2 Y
local macro_rules | `(tactic| walk_at "yv") => `(tactic| ((with_reducible show Ev _ (tVar _) _ _); refine ev_var rfl ?_))
local macro_rules | `(tactic| walk_at "ys") => `(tactic| with_reducible first
  | refine sm_seq ?_ | refine sm_ret ?_ | refine sm_if ?_ | refine sm_set ?_ | refine sm_next ?_ | refine sm_par ?_ | refine sm_drop ?_ | refine sm_brk ?_ | refine sm_cont ?_)
local macro_rules | `(tactic| walk_at "ye") => `(tactic| with_reducible first
  | refine ev_op ?_ | refine ev_and ?_ | refine ev_or ?_ | refine ev_not ?_ | refine ev_if ?_ | refine ev_chain ?_ | refine ev_neg ?_ | refine ev_isInt ?_ | refine ev_isBool ?_ | refine ev_isStr ?_ | refine ev_isList ?_ | refine ev_isTuple ?_ | refine ev_isLT ?_ | refine ev_isDict ?_
  | refine ev_int ?_ | refine ev_str ?_ | refine ev_bl ?_ | refine ev_non ?_ | refine ev_call ?_ | refine ev_cb ?_ | refine ev_lst ?_ | refine ev_tup ?_ | refine ev_join ?_
  | refine ea_nil ?_ | refine ea_cons ?_
  | refine et_B ?_ | refine et_test ?_ | refine et_not ?_ | refine et_and ?_ | refine et_or ?_ | refine et_yes ?_
  | refine o_plusI ?_ | refine o_i0 ?_ | refine o_b0 ?_ | refine o_isN ?_ | refine o_notN ?_
  | refine bl_ex ?_ | refine int_ex ?_ | refine str_ex ?_ | refine lst_ex ?_ | refine tup_ex ?_)
local macro_rules | `(tactic| walk_at "yo") => `(tactic| first
  | ((with_reducible show Ev _ (tOp (rIx _) (tVar _) _) _ _); refine ev_ixOwn rfl ?_)
  | ((with_reducible show Ev _ (tCB _ (tCons (tVar _) tNil)) _ _); refine ev_lenOwn rfl ?_)
  | ((with_reducible show Sm _ (tAsg _ (gSub (tVar _) _ _)) _ _); refine sm_setItem rfl ?_)
  | ((with_reducible show Ev _ (tCall (spB _ _ _) _ _ _) _ _); refine ev_callB rfl rfl ?_))
local macro_rules | `(tactic| walk_at "yc") => `(tactic| first
  | ((with_reducible show CMul _ _); first | exact Or.inr ⟨by decide, by decide⟩ | exact Or.inl ⟨by decide, by decide⟩ | exact Or.inr ⟨by omega, by omega⟩ | exact Or.inl ⟨by omega, by omega⟩)
  | ((with_reducible show CDiv _ _); exact ⟨by first | decide | omega, by first | decide | omega⟩)
  | ((with_reducible show CPow _ _); exact ⟨by decide, by decide, by first | decide | omega⟩)
  | ((show (0 : Int) < _); first | decide | omega))
local macro_rules | `(tactic| walk_at "yd") => `(tactic| first
  | ((with_reducible show plainD _ = true ∧ _); refine ⟨by first | rfl | assumption, ?_⟩)
  | ((with_reducible show (_ = true → _) ∧ (_ = false → _)); first | refine way_t rfl ?_ | refine way_f rfl ?_ | refine way_t (by decide +kernel) ?_ | refine way_f (by decide +kernel) ?_)
  | ((with_reducible show Cal _ _ _ _ _); first | (with_reducible refine c_int ?_) | (with_reducible refine c_abs ?_) | (refine c_len rfl ?_) | (refine c_len (if_pos (by assumption)) ?_))
  | ((with_reducible show Op2 _ (rEqA _) _ _ _ _); refine o_eqA rfl ?_)
  | ((with_reducible show Op2 _ (rNeA _) _ _ _ _); refine o_neA rfl ?_)
  | ((with_reducible show Op2 _ (rInA _) _ (Dt.str _) (Dt.lst _) _); refine o_inAL rfl rfl ?_)
  | ((with_reducible show Op2 _ (rInA _) _ (Dt.str _) (Dt.tup _) _); refine o_inAT rfl rfl ?_)
  | ((with_reducible show Op2 _ (rI _ _) _ _ _ _); refine o_i (by walk_at "yc") ?_)
  | ((with_reducible show Op2 _ (rIx _) _ (Dt.tup _) _ _); refine o_ixAT (atI_toNat (by decide) rfl) ?_)
  | ((with_reducible show Op2 _ (rIx _) _ (Dt.lst _) _ _); refine o_ixAL (atI_toNat (by decide) rfl) ?_)
  | ((with_reducible show ∃ x, atI _ _ = some x ∧ _); refine ⟨_, rfl, ?_⟩)
  | ((with_reducible show ∃ x, ixN _ _ = some x ∧ _); refine ⟨_, rfl, ?_⟩)
  | ((with_reducible show List.length _ ≤ 100000 ∧ _); refine ⟨by (try simp only [List.length_cons, List.length_nil]); first | decide | omega, ?_⟩))
local macro_rules | `(tactic| walk_at "y") => `(tactic| first | walk_at "yo" | walk_at "ye" | walk_at "yv" | walk_at "ys" | walk_at "yd")
local macro_rules | `(tactic| walk_at "yx") => `(tactic| first | walk_at "yo" | walk_at "ye" | walk_at "yv" | walk_at "yd")
section
variable {P : Program} {w : World} {K : PySem.W.Frag} {mg : Str → Option Value} {base : Heap}

theorem ok__law_titles (T : Tx K mg w) : FnOk P w K mg base CX0 3 T.a__law_titles T.d__law_titles ["_law_bag_here", "_law_many"] (spB K titlesPre titlesPost) := by
  have G__law_draw := ok__law_draw (P := P) (w := w) (base := base) T
  have G__law_of := ok__law_of (P := P) (w := w) (base := base) T
  refine fn_bag T.F__law_titles sc__law_titles (fun ds h => ?_) (fun cdv A outer s H E hr => ⟨_, (pss_cons (ps_par rfl sc__law_titles.nd (i := 2) (j := 3) rfl rfl (by decide) rfl rfl (pa_cons (pe_callTy (call_listB (K := K) rfl) (by rfl) T.n_list PyProof.Rows.boot_list (pa_cons pe_str pa_nil)) (pa_cons (pe_lst pa_nil) pa_nil)) rfl)
      (pss_cons (ps_set (i := 4) sc__law_titles.nd rfl (Or.inl rfl) (pe_joinA (K := K) pe_str (pe_lc (own := [("_law_k", 5)]) (g := gName 5) rfl sc__law_titles.nd (pi_range1 (by rfl) T.n_range (pa_cons (pe_call G__law_draw (hr.mono (by decide)) (by rfl) T.m__law_draw T.k__law_draw T.b__law_draw .nil pass0 (pa_cons (pv 0) (pa_cons pe_int pa_nil))) pa_nil)) (blkOk_by (N := ["_law_bag_here", "_law_many", "_law_left", "_law_found", "_law_stem", "_law_k", "_law_spot"]) (sc := defScope s__law_titles) (by decide +kernel)) (fun _ _ _ _ _ => (pg_name (i := 5) sc__law_titles.nd rfl (Or.inl rfl))) (fun _ _ _ _ _ => pts_nil) (fun _ _ _ _ _ => (pe_call G__law_of (hr.mono (by decide)) (by rfl) T.m__law_of T.k__law_of T.b__law_of .nil pass0 (pa_cons (pv 0) (pa_cons pe_str pa_nil)))))))
      (pss_cons (ps_set (i := 6) sc__law_titles.nd rfl (Or.inl rfl) (pe_call G__law_draw (hr.mono (by decide)) (by rfl) T.m__law_draw T.k__law_draw T.b__law_draw .nil pass0 (pa_cons (pv 0) (pa_cons (pe_op (op_plus (K := K)) (pe_callB (call_lenA (K := K)) (by rfl) T.n_len PySem.boot_len (pa_cons (pv 4) pa_nil)) pe_int) pa_nil))))
      (pss_cons (ps_for PassesOwn.never rfl (pi_range1 (by rfl) T.n_range (pa_cons (pv 1) pa_nil)) (pg_name (i := 5) sc__law_titles.nd rfl (Or.inl rfl)) (pss_one (ps_expr (pe_bm PySem.F.plainAttrs_list PySem.F.slot_list_append PySem.F.type_list_append mt_append (pv 3) (pa_cons (pe_op (op_plus (K := K)) (pe_op (op_plus (K := K)) (pe_slice (sl_any (K := K)) (pv 4) po_none (po_some (pv 6))) (pe_bm PySem.F.plainAttrs_list PySem.F.slot_list_pop PySem.F.type_list_pop mt_popAt (pv 2) (pa_cons (pe_call G__law_draw (hr.mono (by decide)) (by rfl) T.m__law_draw T.k__law_draw T.b__law_draw .nil pass0 (pa_cons (pv 0) (pa_cons (pe_callB (call_lenA (K := K)) (by rfl) T.n_len PySem.boot_len (pa_cons (pv 2) pa_nil)) pa_nil))) pa_nil))) (pe_slice (sl_any (K := K)) (pv 4) (po_some (pv 6)) po_none)) pa_nil)))))
      (pss_one (ps_ret (pv 3))))))), fun F0 H0 b ds h => ?_⟩)
  · obtain ⟨m, rfl, _⟩ := h; rfl
  · obtain ⟨m, rfl, hm0, hm1⟩ := h
    dsimp only [cxOf, env0, env1, List.map, List.length, List.replicate, List.cons_append, List.nil_append, List.append, Nat.reduceAdd, Nat.reduceSub, Nat.zero_add]
    have hlen : letters.length = 26 := by decide +kernel
    refine sm_seq (sm_parOO (by decide) (fun a xs e => nomatch e) (fun a xs e => nomatch e) (eo_listS (ea_cons (ev_str (ea_nil ⟨_, rfl, by decide +kernel, ?_⟩)))))
    refine eo_lst (ea_nil ⟨by decide, fun al af hne => ?_⟩)
    refine sm_seq (sm_set (ev_word rfl rfl (by decide) ⟨by decide, by decide⟩ ⟨by decide +kernel, by decide +kernel⟩ fun stem h1 h2 => ?_))
    have hl : stem.length ≤ 100000 := by show stem.cps.size ≤ _; omega
    have e0 : stem.length = stem.cps.size := rfl
    refine sm_seq (sm_set ?_)
    repeat walk_at "yx"
    refine draw_k ⟨by omega, by omega⟩ fun spot k1 k2 => ?_
    obtain ⟨n, rfl⟩ : ∃ n : Nat, spot = (n : Int) := ⟨spot.toNat, by omega⟩
    have hn : n ≤ stem.cps.size := by omega
    obtain ⟨c1, c2⟩ := cut_app stem n hn
    have hs : ∀ c ∈ stem.cps.toList, c ∈ letters := h2
    refine sm_seq (sm_for (ei_rng1 (ea_cons (ev_var rfl (ea_nil ⟨m, rfl, by omega, by omega, fun i e => ∃ (cs ls : List Nat) (s6 : Sl), e = [.r (.ref b), .d (.int m), .own al (ls.map fun c => Dt.str ⟨#[c]⟩), .own af ((cs.map fun c => (cutS stem none (some (n : Int)) ++ ⟨#[c]⟩ ++ cutS stem (some (n : Int)) none)).map Dt.str), .d (.str stem), s6, .d (.int (n : Int))] ∧ (cs ++ ls).Perm letters ∧ cs.length = i, ?_, ?_, ?_⟩)))))
    · exact ⟨[], letters, _, rfl, List.Perm.refl _, rfl⟩
    · rintro i x es' hx ⟨cs, ls, s6, rfl, hp, hc⟩
      obtain ⟨hi, rfl⟩ := rangeD_get hx
      have hls : cs.length + ls.length = 26 := by
        have := hp.length_eq
        rw [List.length_append, hlen] at this
        exact this
      refine tg_name (sm_appendM rfl (em_op (em_op ?_)))
      refine Ev.m (ev_slS (ev_var rfl (str_ex ⟨hl, ep_none (ep_some (ev_var rfl (int_ex ?_)))⟩)))
      refine em_pop (a := al) (xs := ls.map fun c => Dt.str ⟨#[c]⟩) rfl ?_
      refine ev_callB rfl rfl (ea_cons (ev_lenOwn (a := al) (xs := ls.map fun c => Dt.str ⟨#[c]⟩) rfl (ea_nil ?_)))
      rw [List.length_map]
      refine draw_k ⟨by omega, by omega⟩ fun j j1 j2 => ?_
      refine ⟨j, rfl, j1, by simpa using j2, by omega, fun y hy => ?_⟩
      rw [List.getElem?_map] at hy
      cases ec : ls[j.toNat]? with
      | none => rw [ec] at hy; cases hy
      | some c =>
        rw [ec] at hy
        cases hy
        have hcl : c ∈ letters := hp.subset (List.mem_append_right _ (List.mem_of_getElem? ec))
        have l1 : (cutS stem none (some (n : Int))).length ≤ stem.length := cutS_length _ _ _
        have l2 : (cutS stem (some (n : Int)) none).length ≤ stem.length := cutS_length _ _ _
        have l3 : (⟨#[c]⟩ : Str).length = 1 := rfl
        have l4 : (cutS stem none (some (n : Int)) ++ ⟨#[c]⟩).length = (cutS stem none (some (n : Int))).length + 1 := by
          show (cutS stem none (some (n : Int)) ++ ⟨#[c]⟩).cps.size = (cutS stem none (some (n : Int))).cps.size + 1
          rw [← Array.length_toList, app_toList, List.length_append, Array.length_toList]; rfl
        refine o_plusS (by omega) ?_
        refine Ev.m (ev_slS (ev_var rfl (str_ex ⟨hl, ep_some (ev_var rfl (int_ex (ep_none ?_)))⟩)))
        refine o_plusS (by omega) ⟨rfl, ?_, ?_⟩
        · rw [List.length_map, List.length_map]; omega
        · have em : (ls.map fun c => Dt.str ⟨#[c]⟩).eraseIdx j.toNat = (ls.eraseIdx j.toNat).map fun c => Dt.str ⟨#[c]⟩ := by
            rw [List.eraseIdx_eq_take_drop_succ, List.eraseIdx_eq_take_drop_succ, List.map_append, List.map_take, List.map_drop]
          refine ⟨cs ++ [c], ls.eraseIdx j.toNat, .d (.int (0 + (i : Int))), ?_, ?_, ?_⟩
          · rw [← em, List.map_append (l₁ := cs), List.map_append]
            rfl
          · have q1 : ls.Perm (c :: ls.eraseIdx j.toNat) := perm_erase ec
            rw [List.append_assoc]
            exact ((List.Perm.append_left cs q1).symm).trans hp
          · rw [List.length_append, hc]; rfl
    · rintro es' ⟨cs, ls, s6, rfl, hp, hc⟩
      rw [rangeD_len] at hc
      refine sm_freeze 3 rfl (sm_ret (ev_var rfl ?_))
      have hnd : (cs ++ ls).Nodup := hp.nodup_iff.mpr (by decide +kernel)
      have sz : ∀ c, (cutS stem none (some (n : Int)) ++ ⟨#[c]⟩ ++ cutS stem (some (n : Int)) none).cps.toList = stem.cps.toList.take n ++ [c] ++ stem.cps.toList.drop n := fun c => by
        rw [app_toList, app_toList, c1, c2]
      refine ⟨m, cs.map fun c => (cutS stem none (some (n : Int)) ++ ⟨#[c]⟩ ++ cutS stem (some (n : Int)) none), rfl, rfl, by rw [List.length_map]; omega, fun t ht => ?_, ?_⟩
      · obtain ⟨c, hcm, rfl⟩ := List.mem_map.mp ht
        have hz : (cutS stem none (some (n : Int)) ++ ⟨#[c]⟩ ++ cutS stem (some (n : Int)) none).cps.size = stem.cps.size + 1 := by
          rw [← Array.length_toList, sz, List.length_append, List.length_append, List.length_take, List.length_drop, Array.length_toList]
          simp; omega
        refine isName_mk (by omega) (by omega) fun k hk => ?_
        rw [sz] at hk
        rcases List.mem_append.mp hk with hk | hk
        · rcases List.mem_append.mp hk with hk | hk
          · exact hs k (List.mem_of_mem_take hk)
          · rw [List.mem_singleton.mp hk]
            exact hp.subset (List.mem_append_left _ hcm)
        · exact hs k (List.mem_of_mem_drop hk)
      · refine List.pairwise_map.mpr (((List.nodup_append.mp hnd).1).imp fun {x y} hxy e => hxy ?_)
        have e2 := congrArg (fun z : Str => z.cps.toList) e
        simp only [sz] at e2
        have e3 := List.append_cancel_right e2
        have e4 := List.append_cancel_left e3
        simpa using e4
end
end Law
namespace Law
open PySem L2 Y
local macro_rules | `(tactic| walk_at "yv") => `(tactic| ((with_reducible show Ev _ (tVar _) _ _); refine ev_var rfl ?_))
local macro_rules | `(tactic| walk_at "ys") => `(tactic| with_reducible first
  | refine sm_seq ?_ | refine sm_ret ?_ | refine sm_if ?_ | refine sm_set ?_ | refine sm_next ?_ | refine sm_par ?_ | refine sm_drop ?_ | refine sm_brk ?_ | refine sm_cont ?_)
local macro_rules | `(tactic| walk_at "ye") => `(tactic| with_reducible first
  | refine ev_op ?_ | refine ev_and ?_ | refine ev_or ?_ | refine ev_not ?_ | refine ev_if ?_ | refine ev_chain ?_ | refine ev_neg ?_ | refine ev_isInt ?_ | refine ev_isBool ?_ | refine ev_isStr ?_ | refine ev_isList ?_ | refine ev_isTuple ?_ | refine ev_isLT ?_ | refine ev_isDict ?_
  | refine ev_int ?_ | refine ev_str ?_ | refine ev_bl ?_ | refine ev_non ?_ | refine ev_call ?_ | refine ev_cb ?_ | refine ev_lst ?_ | refine ev_tup ?_ | refine ev_join ?_
  | refine ea_nil ?_ | refine ea_cons ?_
  | refine et_B ?_ | refine et_test ?_ | refine et_not ?_ | refine et_and ?_ | refine et_or ?_ | refine et_yes ?_
  | refine o_plusI ?_ | refine o_i0 ?_ | refine o_b0 ?_ | refine o_isN ?_ | refine o_notN ?_
  | refine bl_ex ?_ | refine int_ex ?_ | refine str_ex ?_ | refine lst_ex ?_ | refine tup_ex ?_)
local macro_rules | `(tactic| walk_at "yo") => `(tactic| first
  | ((with_reducible show Ev _ (tOp (rIx _) (tVar _) _) _ _); refine ev_ixOwn rfl ?_)
  | ((with_reducible show Ev _ (tCB _ (tCons (tVar _) tNil)) _ _); refine ev_lenOwn rfl ?_)
  | ((with_reducible show Sm _ (tAsg _ (gSub (tVar _) _ _)) _ _); refine sm_setItem rfl ?_)
  | ((with_reducible show Ev _ (tCall (spB _ _ _) _ _ _) _ _); refine ev_callB rfl rfl ?_))
local macro_rules | `(tactic| walk_at "yc") => `(tactic| first
  | ((with_reducible show CMul _ _); first | exact Or.inr ⟨by decide, by decide⟩ | exact Or.inl ⟨by decide, by decide⟩ | exact Or.inr ⟨by omega, by omega⟩ | exact Or.inl ⟨by omega, by omega⟩)
  | ((with_reducible show CDiv _ _); exact ⟨by first | decide | omega, by first | decide | omega⟩)
  | ((with_reducible show CPow _ _); exact ⟨by decide, by decide, by first | decide | omega⟩)
  | ((show (0 : Int) < _); first | decide | omega))
local macro_rules | `(tactic| walk_at "yd") => `(tactic| first
  | ((with_reducible show plainD _ = true ∧ _); refine ⟨by first | rfl | assumption, ?_⟩)
  | ((with_reducible show (_ = true → _) ∧ (_ = false → _)); first | refine way_t rfl ?_ | refine way_f rfl ?_ | refine way_t (by decide +kernel) ?_ | refine way_f (by decide +kernel) ?_)
  | ((with_reducible show Cal _ _ _ _ _); first | (with_reducible refine c_int ?_) | (with_reducible refine c_abs ?_) | (refine c_len rfl ?_) | (refine c_len (if_pos (by assumption)) ?_))
  | ((with_reducible show Op2 _ (rEqA _) _ _ _ _); refine o_eqA rfl ?_)
  | ((with_reducible show Op2 _ (rNeA _) _ _ _ _); refine o_neA rfl ?_)
  | ((with_reducible show Op2 _ (rInA _) _ (Dt.str _) (Dt.lst _) _); refine o_inAL rfl rfl ?_)
  | ((with_reducible show Op2 _ (rInA _) _ (Dt.str _) (Dt.tup _) _); refine o_inAT rfl rfl ?_)
  | ((with_reducible show Op2 _ (rI _ _) _ _ _ _); refine o_i (by walk_at "yc") ?_)
  | ((with_reducible show Op2 _ (rIx _) _ (Dt.tup _) _ _); refine o_ixAT (atI_toNat (by decide) rfl) ?_)
  | ((with_reducible show Op2 _ (rIx _) _ (Dt.lst _) _ _); refine o_ixAL (atI_toNat (by decide) rfl) ?_)
  | ((with_reducible show ∃ x, atI _ _ = some x ∧ _); refine ⟨_, rfl, ?_⟩)
  | ((with_reducible show ∃ x, ixN _ _ = some x ∧ _); refine ⟨_, rfl, ?_⟩)
  | ((with_reducible show List.length _ ≤ 100000 ∧ _); refine ⟨by (try simp only [List.length_cons, List.length_nil]); first | decide | omega, ?_⟩))
local macro_rules | `(tactic| walk_at "y") => `(tactic| first | walk_at "yo" | walk_at "ye" | walk_at "yv" | walk_at "ys" | walk_at "yd")
local macro_rules | `(tactic| walk_at "yx") => `(tactic| first | walk_at "yo" | walk_at "ye" | walk_at "yv" | walk_at "yd")
section
variable {P : Program} {w : World} {K : PySem.W.Frag} {mg : Str → Option Value} {base : Heap}

theorem ok__law_number (T : Tx K mg w) : FnOk P w K mg base CX0 3 T.a__law_number T.d__law_number ["_law_bag_here"] (spB K nilPre numberPost) := by
  have G__law_draw := ok__law_draw (P := P) (w := w) (base := base) T
  have G__law_of := ok__law_of (P := P) (w := w) (base := base) T
  refine fn_bag T.F__law_number sc__law_number (fun ds h => ?_) (fun cdv A outer s H E hr => ⟨_, (pss_one (ps_ret (pe_call G__law_of (hr.mono (by decide)) (by rfl) T.m__law_of T.k__law_of T.b__law_of .nil pass0 (pa_cons (pv 0) (pa_cons (pe_lst (pa_cons pe_int (pa_cons pe_int (pa_cons pe_int (pa_cons pe_int (pa_cons pe_int (pa_cons pe_int (pa_cons pe_int (pa_cons (pe_call G__law_draw (hr.mono (by decide)) (by rfl) T.m__law_draw T.k__law_draw T.b__law_draw .nil pass0 (pa_cons (pv 0) (pa_cons pe_int pa_nil))) (pa_cons (pe_call G__law_draw (hr.mono (by decide)) (by rfl) T.m__law_draw T.k__law_draw T.b__law_draw .nil pass0 (pa_cons (pv 0) (pa_cons pe_int pa_nil))) (pa_cons (pe_call G__law_draw (hr.mono (by decide)) (by rfl) T.m__law_draw T.k__law_draw T.b__law_draw .nil pass0 (pa_cons (pv 0) (pa_cons pe_int pa_nil))) pa_nil))))))))))) pa_nil))))), fun F0 H0 b ds h => ?_⟩)
  · cases h; rfl
  · cases h
    dsimp only [cxOf, env0, env1, List.map, List.length, List.replicate, List.cons_append, List.nil_append, List.append, Nat.reduceAdd, Nat.reduceSub, Nat.zero_add]
    repeat walk_at "y"
    refine draw_k ⟨by decide, by decide⟩ fun i1 a1 b1 => ?_
    repeat walk_at "y"
    refine draw_k ⟨by decide, by decide⟩ fun i2 a2 b2 => ?_
    repeat walk_at "y"
    refine draw_k ⟨by decide, by decide⟩ fun i3 a3 b3 => ?_
    repeat walk_at "y"
    refine of_k ⟨by show 0 < 10; decide, by show 10 ≤ 100000; decide⟩ fun d hd => ?_
    simp only [List.mem_cons, List.not_mem_nil, or_false] at hd
    rcases hd with rfl | rfl | rfl | rfl | rfl | rfl | rfl | rfl | rfl | rfl <;> exact ⟨_, rfl, by omega, by omega⟩

theorem ok__law_r (T : Tx K mg w) : FnOk P w K mg base CX0 3 T.a__law_r T.d__law_r ["_law_bag_here"] (spB K nilPre rPost) := by
  have G__law_of := ok__law_of (P := P) (w := w) (base := base) T
  refine fn_bag T.F__law_r sc__law_r (fun ds h => ?_) (fun cdv A outer s H E hr => ⟨_, (pss_one (ps_ret (pe_call G__law_of (hr.mono (by decide)) (by rfl) T.m__law_of T.k__law_of T.b__law_of .nil pass0 (pa_cons (pv 0) (pa_cons (pe_lst (pa_cons pe_str (pa_cons pe_str (pa_cons pe_str pa_nil)))) pa_nil))))), fun F0 H0 b ds h => ?_⟩)
  · cases h; rfl
  · cases h
    dsimp only [cxOf, env0, env1, List.map, List.length, List.replicate, List.cons_append, List.nil_append, List.append, Nat.reduceAdd, Nat.reduceSub, Nat.zero_add]
    repeat walk_at "y"
    exact of_all (p := isRegD) ⟨by decide, by decide⟩ (by decide +kernel) fun d hd => hd

theorem ok__law_code_row (T : Tx K mg w) : FnOk P w K mg base CX0 4 T.a__law_code_row T.d__law_code_row ["_law_bag_here", "_law_titles_here"] (spB K namesPre codeRowPost2) := by
  have G__law_draw := ok__law_draw (P := P) (w := w) (base := base) T
  have G__law_of := ok__law_of (P := P) (w := w) (base := base) T
  have G__law_r := ok__law_r (P := P) (w := w) (base := base) T
  have G__law_number := ok__law_number (P := P) (w := w) (base := base) T
  refine fn_bag T.F__law_code_row sc__law_code_row (fun ds h => ?_) (fun cdv A outer s H E hr => ⟨_, (pss_cons (ps_set (i := 2) sc__law_code_row.nd rfl (Or.inl rfl) (pe_call G__law_draw (hr.mono (by decide)) (by rfl) T.m__law_draw T.k__law_draw T.b__law_draw .nil pass0 (pa_cons (pv 0) (pa_cons pe_int pa_nil))))
      (pss_cons (ps_if (pt_cmpR op_lt (pv 2) pe_int (nomark _)) (pss_one (ps_ret (pe_tup (pa_cons pe_str (pa_cons (pe_call G__law_r (hr.mono (by decide)) (by rfl) T.m__law_r T.k__law_r T.b__law_r .nil pass0 (pa_cons (pv 0) pa_nil)) (pa_cons (pe_call G__law_number (hr.mono (by decide)) (by rfl) T.m__law_number T.k__law_number T.b__law_number .nil pass0 (pa_cons (pv 0) pa_nil)) pa_nil)))))) pss_nil)
      (pss_cons (ps_if (pt_cmpR op_lt (pv 2) pe_int (nomark _)) (pss_one (ps_ret (pe_tup (pa_cons (pe_call G__law_of (hr.mono (by decide)) (by rfl) T.m__law_of T.k__law_of T.b__law_of .nil pass0 (pa_cons (pv 0) (pa_cons (pe_lst (pa_cons pe_str (pa_cons pe_str pa_nil))) pa_nil))) (pa_cons (pe_call G__law_r (hr.mono (by decide)) (by rfl) T.m__law_r T.k__law_r T.b__law_r .nil pass0 (pa_cons (pv 0) pa_nil)) (pa_cons (pe_call G__law_of (hr.mono (by decide)) (by rfl) T.m__law_of T.k__law_of T.b__law_of .nil pass0 (pa_cons (pv 0) (pa_cons (pv 1) pa_nil))) pa_nil)))))) pss_nil)
      (pss_cons (ps_if (pt_cmpR op_lt (pv 2) pe_int (nomark _)) (pss_one (ps_ret (pe_tup (pa_cons (pe_call G__law_of (hr.mono (by decide)) (by rfl) T.m__law_of T.k__law_of T.b__law_of .nil pass0 (pa_cons (pv 0) (pa_cons (pe_lst (pa_cons pe_str (pa_cons pe_str pa_nil))) pa_nil))) (pa_cons (pe_call G__law_r (hr.mono (by decide)) (by rfl) T.m__law_r T.k__law_r T.b__law_r .nil pass0 (pa_cons (pv 0) pa_nil)) (pa_cons (pe_call G__law_r (hr.mono (by decide)) (by rfl) T.m__law_r T.k__law_r T.b__law_r .nil pass0 (pa_cons (pv 0) pa_nil)) pa_nil)))))) pss_nil)
      (pss_cons (ps_if (pt_cmpR op_lt (pv 2) pe_int (nomark _)) (pss_one (ps_ret (pe_tup (pa_cons (pe_call G__law_of (hr.mono (by decide)) (by rfl) T.m__law_of T.k__law_of T.b__law_of .nil pass0 (pa_cons (pv 0) (pa_cons (pe_lst (pa_cons pe_str (pa_cons pe_str pa_nil))) pa_nil))) (pa_cons (pe_call G__law_r (hr.mono (by decide)) (by rfl) T.m__law_r T.k__law_r T.b__law_r .nil pass0 (pa_cons (pv 0) pa_nil)) (pa_cons (pe_call G__law_r (hr.mono (by decide)) (by rfl) T.m__law_r T.k__law_r T.b__law_r .nil pass0 (pa_cons (pv 0) pa_nil)) (pa_cons (pe_call G__law_of (hr.mono (by decide)) (by rfl) T.m__law_of T.k__law_of T.b__law_of .nil pass0 (pa_cons (pv 0) (pa_cons (pe_lst (pa_cons pe_int (pa_cons pe_int (pa_cons (pe_call G__law_draw (hr.mono (by decide)) (by rfl) T.m__law_draw T.k__law_draw T.b__law_draw .nil pass0 (pa_cons (pv 0) (pa_cons pe_int pa_nil))) pa_nil)))) pa_nil))) pa_nil))))))) pss_nil)
      (pss_cons (ps_if (pt_cmpR op_lt (pv 2) pe_int (nomark _)) (pss_one (ps_ret (pe_tup (pa_cons (pe_call G__law_of (hr.mono (by decide)) (by rfl) T.m__law_of T.k__law_of T.b__law_of .nil pass0 (pa_cons (pv 0) (pa_cons (pe_lst (pa_cons pe_str (pa_cons pe_str pa_nil))) pa_nil))) (pa_cons (pe_call G__law_of (hr.mono (by decide)) (by rfl) T.m__law_of T.k__law_of T.b__law_of .nil pass0 (pa_cons (pv 0) (pa_cons (pv 1) pa_nil))) pa_nil))))) pss_nil)
      (pss_cons (ps_if (pt_cmpR op_lt (pv 2) pe_int (nomark _)) (pss_one (ps_ret (pe_tup (pa_cons (pe_call G__law_of (hr.mono (by decide)) (by rfl) T.m__law_of T.k__law_of T.b__law_of .nil pass0 (pa_cons (pv 0) (pa_cons (pe_lst (pa_cons pe_str (pa_cons pe_str pa_nil))) pa_nil))) (pa_cons (pe_call G__law_r (hr.mono (by decide)) (by rfl) T.m__law_r T.k__law_r T.b__law_r .nil pass0 (pa_cons (pv 0) pa_nil)) pa_nil))))) pss_nil)
      (pss_one (ps_ret (pe_call G__law_of (hr.mono (by decide)) (by rfl) T.m__law_of T.k__law_of T.b__law_of .nil pass0 (pa_cons (pv 0) (pa_cons (pe_lst (pa_cons (pe_tup (pa_cons pe_str pa_nil)) (pa_cons (pe_tup (pa_cons pe_str pa_nil)) (pa_cons (pe_tup (pa_cons pe_str (pa_cons (pe_call G__law_of (hr.mono (by decide)) (by rfl) T.m__law_of T.k__law_of T.b__law_of .nil pass0 (pa_cons (pv 0) (pa_cons (pe_lst (pa_cons pe_int (pa_cons pe_int (pa_cons pe_int (pa_cons pe_int pa_nil))))) pa_nil))) pa_nil))) pa_nil)))) pa_nil)))))))))))), fun F0 H0 b ds h => ?_⟩)
  · obtain ⟨t, rfl, _⟩ := h; rfl
  · obtain ⟨t, rfl, ht⟩ := h
    dsimp only [cxOf, env0, env1, List.map, List.length, List.replicate, List.cons_append, List.nil_append, List.append, Nat.reduceAdd, Nat.reduceSub, Nat.zero_add]
    refine sm_seq (sm_set ?_)
    repeat walk_at "yx"
    refine draw_k ⟨by decide, by decide⟩ fun way k1 k2 => ?_
    repeat walk_at "y"
    refine ways (fun h => ?_) (fun h => ?_)
    · repeat walk_at "y"
      refine r_k fun r hr' => ?_
      repeat walk_at "y"
      refine number_k fun n n1 n2 => ?_
      repeat walk_at "y"
      exact ⟨rowBy_of (ks := [114, 119]) (by decide +kernel) (form2 (fit_r hr') (fit_w ⟨n1, n2⟩)), fun t' e => by cases e; exact (nf2 (nm_r hr') nm_int)⟩
    repeat walk_at "y"
    refine ways (fun h => ?_) (fun h => ?_)
    · repeat walk_at "y"
      refine of_k ⟨by decide, by decide⟩ fun wd hw => ?_
      repeat walk_at "y"
      refine r_k fun r hr' => ?_
      repeat walk_at "y"
      refine of_namesM ht fun nm hnm hmem => ?_
      repeat walk_at "y"
      simp only [List.mem_cons, List.not_mem_nil, or_false] at hw
      rcases hw with rfl | rfl <;> exact ⟨rowBy_of (ks := [114, 110]) (by decide +kernel) (form2 (fit_r hr') (fit_n hnm)), fun t' e => by cases e; exact (nf2 (nm_r hr') hmem)⟩
    repeat walk_at "y"
    refine ways (fun h => ?_) (fun h => ?_)
    · repeat walk_at "y"
      refine of_k ⟨by decide, by decide⟩ fun wd hw => ?_
      repeat walk_at "y"
      refine r_k fun r hr' => ?_
      repeat walk_at "y"
      refine r_k fun r2 hr2 => ?_
      repeat walk_at "y"
      simp only [List.mem_cons, List.not_mem_nil, or_false] at hw
      rcases hw with rfl | rfl <;> exact ⟨rowBy_of (ks := [114, 114]) (by decide +kernel) (form2 (fit_r hr') (fit_r hr2)), fun t' e => by cases e; exact (nf2 (nm_r hr') (nm_r hr2))⟩
    repeat walk_at "y"
    refine ways (fun h => ?_) (fun h => ?_)
    · repeat walk_at "y"
      refine of_k ⟨by decide, by decide⟩ fun wd hw => ?_
      repeat walk_at "y"
      refine r_k fun r hr' => ?_
      repeat walk_at "y"
      refine r_k fun r2 hr2 => ?_
      repeat walk_at "y"
      refine draw_k ⟨by decide, by decide⟩ fun d d1 d2 => ?_
      repeat walk_at "y"
      refine of_k ⟨by show 0 < 3; decide, by show 3 ≤ 100000; decide⟩ fun dd hd => ?_
      have hd' : fitsB 100 dd = true := by
        simp only [List.mem_cons, List.not_mem_nil, or_false] at hd
        rcases hd with rfl | rfl | rfl <;> exact fit_d ⟨by omega, by omega⟩
      repeat walk_at "y"
      simp only [List.mem_cons, List.not_mem_nil, or_false] at hw
      rcases hw with rfl | rfl <;> exact ⟨rowBy_of (ks := [114, 114, 100]) (by decide +kernel) (form3 (fit_r hr') (fit_r hr2) hd'), fun t' e => by cases e; exact (nf3 (nm_r hr') (nm_r hr2) (nm_fitd hd'))⟩
    repeat walk_at "y"
    refine ways (fun h => ?_) (fun h => ?_)
    · repeat walk_at "y"
      refine of_k ⟨by decide, by decide⟩ fun wd hw => ?_
      repeat walk_at "y"
      refine of_namesM ht fun nm hnm hmem => ?_
      repeat walk_at "y"
      simp only [List.mem_cons, List.not_mem_nil, or_false] at hw
      rcases hw with rfl | rfl <;> exact ⟨rowBy_of (ks := [110]) (by decide +kernel) (form1 (fit_n hnm)), fun t' e => by cases e; exact (nf1 hmem)⟩
    repeat walk_at "y"
    refine ways (fun h => ?_) (fun h => ?_)
    · repeat walk_at "y"
      refine of_k ⟨by decide, by decide⟩ fun wd hw => ?_
      repeat walk_at "y"
      refine r_k fun r hr' => ?_
      repeat walk_at "y"
      simp only [List.mem_cons, List.not_mem_nil, or_false] at hw
      rcases hw with rfl | rfl <;> exact ⟨rowBy_of (ks := [114]) (by decide +kernel) (form1 (fit_r hr')), fun t' e => by cases e; exact (nf1 (nm_r hr'))⟩
    repeat walk_at "y"
    refine of_k ⟨by decide, by decide⟩ fun kk hk => ?_
    have hk' : fitsB 107 kk = true := by
      simp only [List.mem_cons, List.not_mem_nil, or_false] at hk
      rcases hk with rfl | rfl | rfl | rfl <;> exact fit_k ⟨by omega, by omega⟩
    repeat walk_at "y"
    refine of_k ⟨by show 0 < 3; decide, by show 3 ≤ 100000; decide⟩ fun dd hd => ?_
    simp only [List.mem_cons, List.not_mem_nil, or_false] at hd
    rcases hd with rfl | rfl | rfl
    · exact ⟨rowBy_of (ks := []) (by decide +kernel) form0, fun t' e => by cases e; exact nf0⟩
    · exact ⟨rowBy_of (ks := []) (by decide +kernel) form0, fun t' e => by cases e; exact nf0⟩
    · exact ⟨rowBy_of (ks := [107]) (by decide +kernel) (form1 hk'), fun t' e => by cases e; exact (nf1 (nm_fit hk'))⟩

theorem ok__law_last_row (T : Tx K mg w) : FnOk P w K mg base CX0 3 T.a__law_last_row T.d__law_last_row ["_law_bag_here", "_law_titles_here"] (spB K namesPre codeRowPost2) := by
  have G__law_of := ok__law_of (P := P) (w := w) (base := base) T
  refine fn_bag T.F__law_last_row sc__law_last_row (fun ds h => ?_) (fun cdv A outer s H E hr => ⟨_, (pss_one (ps_ret (pe_call G__law_of (hr.mono (by decide)) (by rfl) T.m__law_of T.k__law_of T.b__law_of .nil pass0 (pa_cons (pv 0) (pa_cons (pe_lst (pa_cons (pe_tup (pa_cons pe_str (pa_cons (pe_call G__law_of (hr.mono (by decide)) (by rfl) T.m__law_of T.k__law_of T.b__law_of .nil pass0 (pa_cons (pv 0) (pa_cons (pv 1) pa_nil))) pa_nil))) (pa_cons (pe_tup (pa_cons pe_str pa_nil)) (pa_cons (pe_tup (pa_cons pe_str pa_nil)) pa_nil)))) pa_nil))))), fun F0 H0 b ds h => ?_⟩)
  · obtain ⟨t, rfl, _⟩ := h; rfl
  · obtain ⟨t, rfl, ht⟩ := h
    dsimp only [cxOf, env0, env1, List.map, List.length, List.replicate, List.cons_append, List.nil_append, List.append, Nat.reduceAdd, Nat.reduceSub, Nat.zero_add]
    repeat walk_at "y"
    refine of_namesM ht fun nm hnm hmem => ?_
    repeat walk_at "y"
    refine of_k ⟨by show 0 < 3; decide, by show 3 ≤ 100000; decide⟩ fun dd hd => ?_
    simp only [List.mem_cons, List.not_mem_nil, or_false] at hd
    rcases hd with rfl | rfl | rfl
    · exact ⟨rowBy_of (ks := [110]) (by decide +kernel) (form1 (fit_n hnm)), fun t' e => by cases e; exact nf1 hmem⟩
    · exact ⟨rowBy_of (ks := []) (by decide +kernel) form0, fun t' e => by cases e; exact nf0⟩
    · exact ⟨rowBy_of (ks := []) (by decide +kernel) form0, fun t' e => by cases e; exact nf0⟩
end
end Law
namespace Law
open PySem L2 Y
local macro_rules | `(tactic| walk_at "yv") => `(tactic| ((with_reducible show Ev _ (tVar _) _ _); refine ev_var rfl ?_))
local macro_rules | `(tactic| walk_at "ys") => `(tactic| with_reducible first
  | refine sm_seq ?_ | refine sm_ret ?_ | refine sm_if ?_ | refine sm_set ?_ | refine sm_next ?_ | refine sm_par ?_ | refine sm_drop ?_ | refine sm_brk ?_ | refine sm_cont ?_)
local macro_rules | `(tactic| walk_at "ye") => `(tactic| with_reducible first
  | refine ev_op ?_ | refine ev_and ?_ | refine ev_or ?_ | refine ev_not ?_ | refine ev_if ?_ | refine ev_chain ?_ | refine ev_neg ?_ | refine ev_isInt ?_ | refine ev_isBool ?_ | refine ev_isStr ?_ | refine ev_isList ?_ | refine ev_isTuple ?_ | refine ev_isLT ?_ | refine ev_isDict ?_
  | refine ev_int ?_ | refine ev_str ?_ | refine ev_bl ?_ | refine ev_non ?_ | refine ev_call ?_ | refine ev_cb ?_ | refine ev_lst ?_ | refine ev_tup ?_ | refine ev_join ?_
  | refine ea_nil ?_ | refine ea_cons ?_
  | refine et_B ?_ | refine et_test ?_ | refine et_not ?_ | refine et_and ?_ | refine et_or ?_ | refine et_yes ?_
  | refine o_plusI ?_ | refine o_i0 ?_ | refine o_b0 ?_ | refine o_isN ?_ | refine o_notN ?_
  | refine bl_ex ?_ | refine int_ex ?_ | refine str_ex ?_ | refine lst_ex ?_ | refine tup_ex ?_)
local macro_rules | `(tactic| walk_at "yo") => `(tactic| first
  | ((with_reducible show Ev _ (tOp (rIx _) (tVar _) _) _ _); refine ev_ixOwn rfl ?_)
  | ((with_reducible show Ev _ (tCB _ (tCons (tVar _) tNil)) _ _); refine ev_lenOwn rfl ?_)
  | ((with_reducible show Sm _ (tAsg _ (gSub (tVar _) _ _)) _ _); refine sm_setItem rfl ?_)
  | ((with_reducible show Ev _ (tCall (spB _ _ _) _ _ _) _ _); refine ev_callB rfl rfl ?_))
local macro_rules | `(tactic| walk_at "yc") => `(tactic| first
  | ((with_reducible show CMul _ _); first | exact Or.inr ⟨by decide, by decide⟩ | exact Or.inl ⟨by decide, by decide⟩ | exact Or.inr ⟨by omega, by omega⟩ | exact Or.inl ⟨by omega, by omega⟩)
  | ((with_reducible show CDiv _ _); exact ⟨by first | decide | omega, by first | decide | omega⟩)
  | ((with_reducible show CPow _ _); exact ⟨by decide, by decide, by first | decide | omega⟩)
  | ((show (0 : Int) < _); first | decide | omega))
local macro_rules | `(tactic| walk_at "yd") => `(tactic| first
  | ((with_reducible show plainD _ = true ∧ _); refine ⟨by first | rfl | assumption, ?_⟩)
  | ((with_reducible show (_ = true → _) ∧ (_ = false → _)); first | refine way_t rfl ?_ | refine way_f rfl ?_ | refine way_t (by decide +kernel) ?_ | refine way_f (by decide +kernel) ?_)
  | ((with_reducible show Cal _ _ _ _ _); first | (with_reducible refine c_int ?_) | (with_reducible refine c_abs ?_) | (refine c_len rfl ?_) | (refine c_len (if_pos (by assumption)) ?_))
  | ((with_reducible show Op2 _ (rEqA _) _ _ _ _); refine o_eqA rfl ?_)
  | ((with_reducible show Op2 _ (rNeA _) _ _ _ _); refine o_neA rfl ?_)
  | ((with_reducible show Op2 _ (rInA _) _ (Dt.str _) (Dt.lst _) _); refine o_inAL rfl rfl ?_)
  | ((with_reducible show Op2 _ (rInA _) _ (Dt.str _) (Dt.tup _) _); refine o_inAT rfl rfl ?_)
  | ((with_reducible show Op2 _ (rI _ _) _ _ _ _); refine o_i (by walk_at "yc") ?_)
  | ((with_reducible show Op2 _ (rIx _) _ (Dt.tup _) _ _); refine o_ixAT (atI_toNat (by decide) rfl) ?_)
  | ((with_reducible show Op2 _ (rIx _) _ (Dt.lst _) _ _); refine o_ixAL (atI_toNat (by decide) rfl) ?_)
  | ((with_reducible show ∃ x, atI _ _ = some x ∧ _); refine ⟨_, rfl, ?_⟩)
  | ((with_reducible show ∃ x, ixN _ _ = some x ∧ _); refine ⟨_, rfl, ?_⟩)
  | ((with_reducible show List.length _ ≤ 100000 ∧ _); refine ⟨by (try simp only [List.length_cons, List.length_nil]); first | decide | omega, ?_⟩))
local macro_rules | `(tactic| walk_at "y") => `(tactic| first | walk_at "yo" | walk_at "ye" | walk_at "yv" | walk_at "ys" | walk_at "yd")
local macro_rules | `(tactic| walk_at "yx") => `(tactic| first | walk_at "yo" | walk_at "ye" | walk_at "yv" | walk_at "yd")

def codesL : List Str := ["fault", "halt", "high", "low", "add", "take", "load", "store", "jump", "ifzero", "call", "near", "jumpby", "callby", "back", "out"]
def cellD (j r s p : Int) : Int := j * 4096 + r * 1024 + s * 256 + p
def cellPre (ds : List Dt) : Prop := ∃ (j : Nat) (w : Str) (r s p : Int), ds = [.str w, .int r, .int s, .int p] ∧ codesL[j]? = some w ∧ (0 ≤ r ∧ r ≤ 3) ∧ (0 ≤ s ∧ s ≤ 3) ∧ (0 ≤ p ∧ p ≤ 255)
def cellPost (ds : List Dt) (d : Dt) : Prop := ∃ (j : Nat) (w : Str) (r s p : Int), ds = [.str w, .int r, .int s, .int p] ∧ codesL[j]? = some w ∧ d = .int (cellD j r s p)
theorem codes_inj {i j : Nat} {w : Str} (h1 : codesL[i]? = some w) (h2 : codesL[j]? = some w) : i = j := by
  have key : ∀ i, i < 16 → ∀ j, j < 16 → codesL[i]? = codesL[j]? → i = j := by decide +kernel
  exact key i (List.getElem?_eq_some_iff.mp h1).1 j (List.getElem?_eq_some_iff.mp h2).1 (h1.trans h2.symm)
theorem cell_k {j : Nat} {w : Str} {r s p : Int} {R : Dt → Prop} (h0 : codesL[j]? = some w) (h1 : 0 ≤ r ∧ r ≤ 3) (h2 : 0 ≤ s ∧ s ≤ 3) (h3 : 0 ≤ p ∧ p ≤ 255) (h : R (.int (cellD j r s p))) : cellPre [.str w, .int r, .int s, .int p] ∧ ∀ d, cellPost [.str w, .int r, .int s, .int p] d → R d :=
  ⟨⟨j, w, r, s, p, rfl, h0, h1, h2, h3⟩, fun d ⟨j', w', r', s', p', e, e2, e3⟩ => by cases e; rw [codes_inj h0 e2] at h; rw [e3]; exact h⟩
section
variable {P : Program} {w : World} {K : PySem.W.Frag} {mg : Str → Option Value} {base : Heap}

theorem ok_cell_of (T : Tx K mg w) : FnOk P w K mg base CX0 2 T.a_cell_of T.d_cell_of ["word", "r", "s", "part"] (spD K cellPre cellPost) := by
  have G_is_number := ok_is_number (P := P) (w := w) (base := base) T
  refine fn_dataD T.F_cell_of sc_cell_of (fun ds h => ?_) (fun cdv A outer s H E hr => ⟨_, (pss_cons (ps_if (PW.pt (pw_or (pt_not (pt_val (pe_callB (call_isiA (K := K)) (by rfl) T.n_isinstance PyProof.Rows.boot_isinstance (pa_cons (pv 0) (pa_cons (pe_bltn (v := .ty "str") (by rfl) T.n_str (by decide +kernel) rfl) pa_nil))))) (pw_or1 (pt_cmpR (op_niA (K := K)) (pv 0) (pe_glob (v := .ref T.a_CODES) (by rfl) T.m_CODES rfl) (by rfl))))) (pss_one ps_dead) pss_nil)
      (pss_cons (ps_for PassesOwn.never rfl (pi_tupA (K := K) (pe_tup (pa_cons (pe_tup (pa_cons (pv 1) (pa_cons (pe_glob (v := .int 3) (by rfl) T.m_MOST_REGISTER T.r_MOST_REGISTER) pa_nil))) (pa_cons (pe_tup (pa_cons (pv 2) (pa_cons (pe_glob (v := .int 3) (by rfl) T.m_MOST_REGISTER T.r_MOST_REGISTER) pa_nil))) (pa_cons (pe_tup (pa_cons (pv 3) (pa_cons (pe_glob (v := .int 255) (by rfl) T.m_MOST_PART T.r_MOST_PART) pa_nil))) pa_nil))))) (pg_tupA (K := K) rfl (pgs_cons (pg_name (i := 4) sc_cell_of.nd rfl (Or.inl rfl)) (pgs_cons (pg_name (i := 5) sc_cell_of.nd rfl (Or.inl rfl)) pgs_nil))) (pss_one (ps_if (pt_not (pt_val (pe_call G_is_number (hr.mono (by decide)) (by rfl) T.m_is_number T.k_is_number T.b_is_number .nil pass0 (pa_cons (pv 4) (pa_cons pe_int (pa_cons (pv 5) pa_nil)))))) (pss_one ps_dead) pss_nil)))
      (pss_one (ps_ret (pe_op (op_plus (K := K)) (pe_op (op_plus (K := K)) (pe_op (op_plus (K := K)) (pe_op op_mul (pe_bm PySem.F.plainAttrs_tuple PySem.F.slot_tuple_index PySem.F.type_tuple_index (mt_tupIndexA (K := K)) (pe_glob (v := .ref T.a_CODES) (by rfl) T.m_CODES rfl) (pa_cons (pv 0) pa_nil)) (pe_glob (v := .int 4096) (by rfl) T.m_CODE_UNIT T.r_CODE_UNIT)) (pe_op op_mul (pv 1) (pe_glob (v := .int 1024) (by rfl) T.m_R_UNIT T.r_R_UNIT))) (pe_op op_mul (pv 2) (pe_glob (v := .int 256) (by rfl) T.m_S_UNIT T.r_S_UNIT))) (pv 3)))))), fun F0 H0 ds h => ?_⟩)
  · obtain ⟨j, w', r, s, p, rfl, _⟩ := h; rfl
  obtain ⟨j, w', r, s', p, rfl, hj, hr', hs', hp'⟩ := h
  dsimp only [cxOf, env0, env1, List.map, List.length, List.replicate, List.cons_append, List.nil_append, List.append, Nat.reduceAdd, Nat.reduceSub, Nat.zero_add]
  have hin : inD (.str w') [.str "fault", .str "halt", .str "high", .str "low", .str "add", .str "take", .str "load", .str "store", .str "jump", .str "ifzero", .str "call", .str "near", .str "jumpby", .str "callby", .str "back", .str "out"] = true := by
    have key : ∀ z ∈ codesL, inD (.str z) [.str "fault", .str "halt", .str "high", .str "low", .str "add", .str "take", .str "load", .str "store", .str "jump", .str "ifzero", .str "call", .str "near", .str "jumpby", .str "callby", .str "back", .str "out"] = true := by decide +kernel
    exact key w' (List.mem_of_getElem? hj)
  have nr : isNum (.int r) 0 3 = true := by show (decide _ && decide _) = true; rw [decide_eq_true hr'.1, decide_eq_true hr'.2]; rfl
  have ns : isNum (.int s') 0 3 = true := by show (decide _ && decide _) = true; rw [decide_eq_true hs'.1, decide_eq_true hs'.2]; rfl
  have np : isNum (.int p) 0 255 = true := by show (decide _ && decide _) = true; rw [decide_eq_true hp'.1, decide_eq_true hp'.2]; rfl
  refine sm_seq (sm_if ?_)
  repeat walk_at "yx"
  refine ev_k T.kd_CODES (o_niAT rfl rfl ?_)
  rw [hin]
  repeat walk_at "yx"
  refine sm_next ?_
  refine sm_seq (sm_for (ei_tup ?_))
  repeat walk_at "yx"
  refine ⟨fun _ e => ∃ s4 s5, e = [.d (.str w'), .d (.int r), .d (.int s'), .d (.int p), s4, s5], ⟨_, _, rfl⟩, ?_, ?_⟩
  · rintro i x es' hx ⟨s4, s5, rfl⟩
    have hx2 : ∃ v m : Int, x = .tup [.int v, .int m] ∧ isNum (.int v) 0 m = true := by
      rcases i with _ | _ | _ | i
      · cases hx; exact ⟨_, _, rfl, nr⟩
      · cases hx; exact ⟨_, _, rfl, ns⟩
      · cases hx; exact ⟨_, _, rfl, np⟩
      · cases hx
    obtain ⟨v, m, rfl, hv⟩ := hx2
    refine tg_tup rfl (tgs_cons (tg_name (tgs_cons (tg_name (tgs_nil ?_)))))
    refine sm_if ?_
    repeat walk_at "yx"
    refine num_k rfl ?_
    rw [hv]
    repeat walk_at "yx"
    refine sm_next ?_
    exact ⟨_, _, rfl⟩
  · rintro es' ⟨s4, s5, rfl⟩
    refine sm_ret (ev_op (ev_op (ev_op (ev_op (ev_tupIndex T.kt_CODES (ys := codesL) T.kd_CODES (ev_var rfl ⟨w', j, rfl, hj, fun m hm e => absurd (codes_inj e hj) (by omega), ?_⟩))))))
    have hj2 : j < 16 := (List.getElem?_eq_some_iff.mp hj).1
    repeat walk_at "yx"
    exact ⟨j, w', r, s', p, rfl, hj, rfl⟩
end
end Law
namespace Law
open PySem L2 Y
local macro_rules | `(tactic| walk_at "yv") => `(tactic| ((with_reducible show Ev _ (tVar _) _ _); refine ev_var rfl ?_))
local macro_rules | `(tactic| walk_at "ys") => `(tactic| with_reducible first
  | refine sm_seq ?_ | refine sm_ret ?_ | refine sm_if ?_ | refine sm_set ?_ | refine sm_next ?_ | refine sm_par ?_ | refine sm_drop ?_ | refine sm_brk ?_ | refine sm_cont ?_)
local macro_rules | `(tactic| walk_at "ye") => `(tactic| with_reducible first
  | refine ev_op ?_ | refine ev_and ?_ | refine ev_or ?_ | refine ev_not ?_ | refine ev_if ?_ | refine ev_chain ?_ | refine ev_neg ?_ | refine ev_isInt ?_ | refine ev_isBool ?_ | refine ev_isStr ?_ | refine ev_isList ?_ | refine ev_isTuple ?_ | refine ev_isLT ?_ | refine ev_isDict ?_
  | refine ev_int ?_ | refine ev_str ?_ | refine ev_bl ?_ | refine ev_non ?_ | refine ev_call ?_ | refine ev_cb ?_ | refine ev_lst ?_ | refine ev_tup ?_ | refine ev_join ?_
  | refine ea_nil ?_ | refine ea_cons ?_
  | refine et_B ?_ | refine et_test ?_ | refine et_not ?_ | refine et_and ?_ | refine et_or ?_ | refine et_yes ?_
  | refine o_plusI ?_ | refine o_i0 ?_ | refine o_b0 ?_ | refine o_isN ?_ | refine o_notN ?_
  | refine bl_ex ?_ | refine int_ex ?_ | refine str_ex ?_ | refine lst_ex ?_ | refine tup_ex ?_)
local macro_rules | `(tactic| walk_at "yo") => `(tactic| first
  | ((with_reducible show Ev _ (tOp (rIx _) (tVar _) _) _ _); refine ev_ixOwn rfl ?_)
  | ((with_reducible show Ev _ (tCB _ (tCons (tVar _) tNil)) _ _); refine ev_lenOwn rfl ?_)
  | ((with_reducible show Sm _ (tAsg _ (gSub (tVar _) _ _)) _ _); refine sm_setItem rfl ?_)
  | ((with_reducible show Ev _ (tCall (spB _ _ _) _ _ _) _ _); refine ev_callB rfl rfl ?_))
local macro_rules | `(tactic| walk_at "yc") => `(tactic| first
  | ((with_reducible show CMul _ _); first | exact Or.inr ⟨by decide, by decide⟩ | exact Or.inl ⟨by decide, by decide⟩ | exact Or.inr ⟨by omega, by omega⟩ | exact Or.inl ⟨by omega, by omega⟩)
  | ((with_reducible show CDiv _ _); exact ⟨by first | decide | omega, by first | decide | omega⟩)
  | ((with_reducible show CPow _ _); exact ⟨by decide, by decide, by first | decide | omega⟩)
  | ((show (0 : Int) < _); first | decide | omega))
local macro_rules | `(tactic| walk_at "yd") => `(tactic| first
  | ((with_reducible show plainD _ = true ∧ _); refine ⟨by first | rfl | assumption, ?_⟩)
  | ((with_reducible show (_ = true → _) ∧ (_ = false → _)); first | refine way_t rfl ?_ | refine way_f rfl ?_ | refine way_t (by decide +kernel) ?_ | refine way_f (by decide +kernel) ?_)
  | ((with_reducible show Cal _ _ _ _ _); first | (with_reducible refine c_int ?_) | (with_reducible refine c_abs ?_) | (refine c_len rfl ?_) | (refine c_len (if_pos (by assumption)) ?_))
  | ((with_reducible show Op2 _ (rEqA _) _ _ _ _); refine o_eqA rfl ?_)
  | ((with_reducible show Op2 _ (rNeA _) _ _ _ _); refine o_neA rfl ?_)
  | ((with_reducible show Op2 _ (rInA _) _ (Dt.str _) (Dt.lst _) _); refine o_inAL rfl rfl ?_)
  | ((with_reducible show Op2 _ (rInA _) _ (Dt.str _) (Dt.tup _) _); refine o_inAT rfl rfl ?_)
  | ((with_reducible show Op2 _ (rI _ _) _ _ _ _); refine o_i (by walk_at "yc") ?_)
  | ((with_reducible show Op2 _ (rIx _) _ (Dt.tup _) _ _); refine o_ixAT (atI_toNat (by decide) rfl) ?_)
  | ((with_reducible show Op2 _ (rIx _) _ (Dt.lst _) _ _); refine o_ixAL (atI_toNat (by decide) rfl) ?_)
  | ((with_reducible show ∃ x, atI _ _ = some x ∧ _); refine ⟨_, rfl, ?_⟩)
  | ((with_reducible show ∃ x, ixN _ _ = some x ∧ _); refine ⟨_, rfl, ?_⟩)
  | ((with_reducible show List.length _ ≤ 100000 ∧ _); refine ⟨by (try simp only [List.length_cons, List.length_nil]); first | decide | omega, ?_⟩))
local macro_rules | `(tactic| walk_at "y") => `(tactic| first | walk_at "yo" | walk_at "ye" | walk_at "yv" | walk_at "ys" | walk_at "yd")
local macro_rules | `(tactic| walk_at "yx") => `(tactic| first | walk_at "yo" | walk_at "ye" | walk_at "yv" | walk_at "yd")

def intPre (ds : List Dt) : Prop := ∃ v : Int, ds = [.int v]
def regN (x : Dt) : Int := if eqD x (.str "r1") = true then 1 else if eqD x (.str "r2") = true then 2 else 0
def intN (x : Dt) : Int := match x with | .int i => i | _ => 0
theorem regN_le (x : Dt) : 0 ≤ regN x ∧ regN x ≤ 3 := by
  unfold regN
  split
  · decide
  · split <;> decide
def regPre (ds : List Dt) : Prop := ∃ x, ds = [x] ∧ isRegD x = true
def regNPost (ds : List Dt) (d : Dt) : Prop := ∃ x, ds = [x] ∧ d = .int (regN x)
theorem regN_k {x : Dt} {R : Dt → Prop} (h0 : isRegD x = true) (h : R (.int (regN x))) : regPre [x] ∧ ∀ d, regNPost [x] d → R d := ⟨⟨x, rfl, h0⟩, fun d ⟨y, e, e2⟩ => by cases e; rw [e2]; exact h⟩
def hiN (a : Int) : Int := (a + 128) / 256 % 256
def loN (a : Int) : Int := (a - (a + 128) / 256 * 256) % 256
def halvesD (n a : Int) : List Dt := [.int (cellD 2 n 0 (hiN a)), .int (cellD 3 n 0 (loN a))]
def halvesPre (ds : List Dt) : Prop := ∃ n a : Int, ds = [.int n, .int a] ∧ 0 ≤ n ∧ n ≤ 3
def halvesPost (ds : List Dt) (xs : List Dt) : Prop := ∃ n a : Int, ds = [.int n, .int a] ∧ xs = halvesD n a
theorem halves_k {n a : Int} {R : List Dt → Prop} (h0 : 0 ≤ n ∧ n ≤ 3) (h : R (halvesD n a)) : halvesPre [.int n, .int a] ∧ ∀ d, halvesPost [.int n, .int a] d → R d := ⟨⟨n, a, rfl, h0.1, h0.2⟩, fun d ⟨n', a', e, e2⟩ => by cases e; rw [e2]; exact h⟩
theorem hiN_le (a : Int) : 0 ≤ hiN a ∧ hiN a ≤ 255 := by unfold hiN; omega
theorem loN_le (a : Int) : 0 ≤ loN a ∧ loN a ≤ 255 := by unfold loN; omega
section
variable {P : Program} {w : World} {K : PySem.W.Frag} {mg : Str → Option Value} {base : Heap}

def unsignedPost (ds : List Dt) (d : Dt) : Prop := ∃ v : Int, ds = [.int v] ∧ d = .int (v % 256)
theorem unsigned_k {v : Int} {R : Dt → Prop} (h : R (.int (v % 256))) : intPre [.int v] ∧ ∀ d, unsignedPost [.int v] d → R d := ⟨⟨v, rfl⟩, fun d ⟨v', e, e2⟩ => by cases e; rw [e2]; exact h⟩
theorem ok_unsigned (T : Tx K mg w) : FnOk P w K mg base CX0 1 T.a_unsigned T.d_unsigned ["value"] (spD K intPre unsignedPost) := by
  refine fn_data T.F_unsigned sc_unsigned (fun ds h => ?_) (fun cdv A outer s H E hr => ⟨_, (pss_one (ps_ret (pe_op op_mod (pv 0) (pe_glob (v := .int 256) (by rfl) T.m_BYTE T.r_BYTE)))), fun F0 H0 ds h => ?_⟩)
  · obtain ⟨v, rfl⟩ := h; rfl
  · obtain ⟨v, rfl⟩ := h
    dsimp only [cxOf, env0, env1, List.map, List.length, List.replicate, List.cons_append, List.nil_append, List.append, Nat.reduceAdd, Nat.reduceSub, Nat.zero_add]
    repeat walk_at "y"
    exact ⟨v, rfl, rfl⟩

def high_halfPost (ds : List Dt) (d : Dt) : Prop := ∃ v : Int, ds = [.int v] ∧ d = .int ((v + 128) / 256 % 256)
theorem high_half_k {v : Int} {R : Dt → Prop} (h : R (.int ((v + 128) / 256 % 256))) : intPre [.int v] ∧ ∀ d, high_halfPost [.int v] d → R d := ⟨⟨v, rfl⟩, fun d ⟨v', e, e2⟩ => by cases e; rw [e2]; exact h⟩
theorem ok_high_half (T : Tx K mg w) : FnOk P w K mg base CX0 1 T.a_high_half T.d_high_half ["address"] (spD K intPre high_halfPost) := by
  refine fn_data T.F_high_half sc_high_half (fun ds h => ?_) (fun cdv A outer s H E hr => ⟨_, (pss_one (ps_ret (pe_op op_mod (pe_op op_fdiv (pe_op (op_plus (K := K)) (pv 0) (pe_glob (v := .int 128) (by rfl) T.m_MIDDLE T.r_MIDDLE)) (pe_glob (v := .int 256) (by rfl) T.m_BYTE T.r_BYTE)) (pe_glob (v := .int 256) (by rfl) T.m_BYTE T.r_BYTE)))), fun F0 H0 ds h => ?_⟩)
  · obtain ⟨v, rfl⟩ := h; rfl
  · obtain ⟨v, rfl⟩ := h
    dsimp only [cxOf, env0, env1, List.map, List.length, List.replicate, List.cons_append, List.nil_append, List.append, Nat.reduceAdd, Nat.reduceSub, Nat.zero_add]
    repeat walk_at "y"
    exact ⟨v, rfl, rfl⟩

def low_halfPost (ds : List Dt) (d : Dt) : Prop := ∃ v : Int, ds = [.int v] ∧ d = .int (v - (v + 128) / 256 * 256)
theorem low_half_k {v : Int} {R : Dt → Prop} (h : R (.int (v - (v + 128) / 256 * 256))) : intPre [.int v] ∧ ∀ d, low_halfPost [.int v] d → R d := ⟨⟨v, rfl⟩, fun d ⟨v', e, e2⟩ => by cases e; rw [e2]; exact h⟩
theorem ok_low_half (T : Tx K mg w) : FnOk P w K mg base CX0 1 T.a_low_half T.d_low_half ["address"] (spD K intPre low_halfPost) := by
  refine fn_data T.F_low_half sc_low_half (fun ds h => ?_) (fun cdv A outer s H E hr => ⟨_, (pss_one (ps_ret (pe_op op_sub (pv 0) (pe_op op_mul (pe_op op_fdiv (pe_op (op_plus (K := K)) (pv 0) (pe_glob (v := .int 128) (by rfl) T.m_MIDDLE T.r_MIDDLE)) (pe_glob (v := .int 256) (by rfl) T.m_BYTE T.r_BYTE)) (pe_glob (v := .int 256) (by rfl) T.m_BYTE T.r_BYTE))))), fun F0 H0 ds h => ?_⟩)
  · obtain ⟨v, rfl⟩ := h; rfl
  · obtain ⟨v, rfl⟩ := h
    dsimp only [cxOf, env0, env1, List.map, List.length, List.replicate, List.cons_append, List.nil_append, List.append, Nat.reduceAdd, Nat.reduceSub, Nat.zero_add]
    repeat walk_at "y"
    exact ⟨v, rfl, rfl⟩

theorem ok_number_of (T : Tx K mg w) : FnOk P w K mg base CX0 1 T.a_number_of T.d_number_of ["name"] (spD K regPre regNPost) := by
  refine fn_data T.F_number_of sc_number_of (fun ds h => ?_) (fun cdv A outer s H E hr => ⟨_, (pss_one (ps_ret (pe_callTy call_int_str (by rfl) T.n_int PyProof.Rows.boot_int (pa_cons (pe_slice (sl_any (K := K)) (pv 0) (po_some pe_int) po_none) pa_nil)))), fun F0 H0 ds h => ?_⟩)
  · obtain ⟨x, rfl, _⟩ := h; rfl
  · obtain ⟨x, rfl, hx⟩ := h
    dsimp only [cxOf, env0, env1, List.map, List.length, List.replicate, List.cons_append, List.nil_append, List.append, Nat.reduceAdd, Nat.reduceSub, Nat.zero_add]
    rcases reg_cases hx with rfl | rfl | rfl
    · refine sm_ret (ev_cb (ea_cons (ev_slS (ev_var rfl ⟨_, rfl, by decide +kernel, ep_some (ev_int (int_ex (ep_none (ea_nil ?_))))⟩))))
      exact c_intS (n := 0) (by decide +kernel) (by decide +kernel) ⟨_, rfl, congrArg Dt.int (by decide +kernel)⟩
    · refine sm_ret (ev_cb (ea_cons (ev_slS (ev_var rfl ⟨_, rfl, by decide +kernel, ep_some (ev_int (int_ex (ep_none (ea_nil ?_))))⟩))))
      exact c_intS (n := 1) (by decide +kernel) (by decide +kernel) ⟨_, rfl, congrArg Dt.int (by decide +kernel)⟩
    · refine sm_ret (ev_cb (ea_cons (ev_slS (ev_var rfl ⟨_, rfl, by decide +kernel, ep_some (ev_int (int_ex (ep_none (ea_nil ?_))))⟩))))
      exact c_intS (n := 2) (by decide +kernel) (by decide +kernel) ⟨_, rfl, congrArg Dt.int (by decide +kernel)⟩

theorem ok_halves_put (T : Tx K mg w) : FnOk P w K mg base CX0 3 T.a_halves_put T.d_halves_put ["number", "address"] (spO K halvesPre halvesPost) := by
  have G_cell_of := ok_cell_of (P := P) (w := w) (base := base) T
  have G_high_half := ok_high_half (P := P) (w := w) (base := base) T
  have G_low_half := ok_low_half (P := P) (w := w) (base := base) T
  have G_unsigned := ok_unsigned (P := P) (w := w) (base := base) T
  refine fn_own T.F_halves_put sc_halves_put (fun ds h => ?_) (fun cdv A outer s H E hr => ⟨_, (pss_one (ps_ret (pe_lst (pa_cons (pe_call G_cell_of (hr.mono (by decide)) (by rfl) T.m_cell_of T.k_cell_of (T.b_cell_of_4) (T.v_cell_of_4) pass0 (pa_cons pe_str (pa_cons (pv 0) (pa_cons pe_int (pa_cons (pe_call G_high_half (hr.mono (by decide)) (by rfl) T.m_high_half T.k_high_half T.b_high_half .nil pass0 (pa_cons (pv 1) pa_nil)) pa_nil))))) (pa_cons (pe_call G_cell_of (hr.mono (by decide)) (by rfl) T.m_cell_of T.k_cell_of (T.b_cell_of_4) (T.v_cell_of_4) pass0 (pa_cons pe_str (pa_cons (pv 0) (pa_cons pe_int (pa_cons (pe_call G_unsigned (hr.mono (by decide)) (by rfl) T.m_unsigned T.k_unsigned T.b_unsigned .nil pass0 (pa_cons (pe_call G_low_half (hr.mono (by decide)) (by rfl) T.m_low_half T.k_low_half T.b_low_half .nil pass0 (pa_cons (pv 1) pa_nil)) pa_nil)) pa_nil))))) pa_nil))))), fun F0 H0 ds h => ?_⟩)
  · obtain ⟨n, a, rfl, _⟩ := h; rfl
  · obtain ⟨n, a, rfl, hn⟩ := h
    dsimp only [cxOf, env0, env1, List.map, List.length, List.replicate, List.cons_append, List.nil_append, List.append, Nat.reduceAdd, Nat.reduceSub, Nat.zero_add]
    refine sm_retO (eo_lst ?_)
    repeat walk_at "yx"
    refine high_half_k ?_
    repeat walk_at "yx"
    refine cell_k (j := 2) rfl hn ⟨by decide, by decide⟩ (hiN_le a) ?_
    repeat walk_at "yx"
    refine low_half_k ?_
    repeat walk_at "yx"
    refine unsigned_k ?_
    repeat walk_at "yx"
    refine cell_k (j := 3) rfl hn ⟨by decide, by decide⟩ (loN_le a) ?_
    repeat walk_at "yx"
    exact ⟨n, a, rfl, rfl⟩
end
end Law
namespace Law
open PySem L2 Y
local macro_rules | `(tactic| walk_at "yv") => `(tactic| ((with_reducible show Ev _ (tVar _) _ _); refine ev_var rfl ?_))
local macro_rules | `(tactic| walk_at "ys") => `(tactic| with_reducible first
  | refine sm_seq ?_ | refine sm_ret ?_ | refine sm_if ?_ | refine sm_set ?_ | refine sm_next ?_ | refine sm_par ?_ | refine sm_drop ?_ | refine sm_brk ?_ | refine sm_cont ?_)
local macro_rules | `(tactic| walk_at "ye") => `(tactic| with_reducible first
  | refine ev_op ?_ | refine ev_and ?_ | refine ev_or ?_ | refine ev_not ?_ | refine ev_if ?_ | refine ev_chain ?_ | refine ev_neg ?_ | refine ev_isInt ?_ | refine ev_isBool ?_ | refine ev_isStr ?_ | refine ev_isList ?_ | refine ev_isTuple ?_ | refine ev_isLT ?_ | refine ev_isDict ?_
  | refine ev_int ?_ | refine ev_str ?_ | refine ev_bl ?_ | refine ev_non ?_ | refine ev_call ?_ | refine ev_cb ?_ | refine ev_lst ?_ | refine ev_tup ?_ | refine ev_join ?_
  | refine ea_nil ?_ | refine ea_cons ?_
  | refine et_B ?_ | refine et_test ?_ | refine et_not ?_ | refine et_and ?_ | refine et_or ?_ | refine et_yes ?_
  | refine o_plusI ?_ | refine o_i0 ?_ | refine o_b0 ?_ | refine o_isN ?_ | refine o_notN ?_
  | refine bl_ex ?_ | refine int_ex ?_ | refine str_ex ?_ | refine lst_ex ?_ | refine tup_ex ?_)
local macro_rules | `(tactic| walk_at "yo") => `(tactic| first
  | ((with_reducible show Ev _ (tOp (rIx _) (tVar _) _) _ _); refine ev_ixOwn rfl ?_)
  | ((with_reducible show Ev _ (tCB _ (tCons (tVar _) tNil)) _ _); refine ev_lenOwn rfl ?_)
  | ((with_reducible show Sm _ (tAsg _ (gSub (tVar _) _ _)) _ _); refine sm_setItem rfl ?_)
  | ((with_reducible show Ev _ (tCall (spB _ _ _) _ _ _) _ _); refine ev_callB rfl rfl ?_))
local macro_rules | `(tactic| walk_at "yc") => `(tactic| first
  | ((with_reducible show CMul _ _); first | exact Or.inr ⟨by decide, by decide⟩ | exact Or.inl ⟨by decide, by decide⟩ | exact Or.inr ⟨by omega, by omega⟩ | exact Or.inl ⟨by omega, by omega⟩)
  | ((with_reducible show CDiv _ _); exact ⟨by first | decide | omega, by first | decide | omega⟩)
  | ((with_reducible show CPow _ _); exact ⟨by decide, by decide, by first | decide | omega⟩)
  | ((show (0 : Int) < _); first | decide | omega))
local macro_rules | `(tactic| walk_at "yd") => `(tactic| first
  | ((with_reducible show plainD _ = true ∧ _); refine ⟨by first | rfl | assumption, ?_⟩)
  | ((with_reducible show (_ = true → _) ∧ (_ = false → _)); first | refine way_t rfl ?_ | refine way_f rfl ?_ | refine way_t (by decide +kernel) ?_ | refine way_f (by decide +kernel) ?_)
  | ((with_reducible show Cal _ _ _ _ _); first | (with_reducible refine c_int ?_) | (with_reducible refine c_abs ?_) | (refine c_len rfl ?_) | (refine c_len (if_pos (by assumption)) ?_))
  | ((with_reducible show Op2 _ (rEqA _) _ _ _ _); refine o_eqA rfl ?_)
  | ((with_reducible show Op2 _ (rNeA _) _ _ _ _); refine o_neA rfl ?_)
  | ((with_reducible show Op2 _ (rInA _) _ (Dt.str _) (Dt.lst _) _); refine o_inAL rfl rfl ?_)
  | ((with_reducible show Op2 _ (rInA _) _ (Dt.str _) (Dt.tup _) _); refine o_inAT rfl rfl ?_)
  | ((with_reducible show Op2 _ (rI _ _) _ _ _ _); refine o_i (by walk_at "yc") ?_)
  | ((with_reducible show Op2 _ (rIx _) _ (Dt.tup _) _ _); refine o_ixAT (atI_toNat (by decide) rfl) ?_)
  | ((with_reducible show Op2 _ (rIx _) _ (Dt.lst _) _ _); refine o_ixAL (atI_toNat (by decide) rfl) ?_)
  | ((with_reducible show ∃ x, atI _ _ = some x ∧ _); refine ⟨_, rfl, ?_⟩)
  | ((with_reducible show ∃ x, ixN _ _ = some x ∧ _); refine ⟨_, rfl, ?_⟩)
  | ((with_reducible show List.length _ ≤ 100000 ∧ _); refine ⟨by (try simp only [List.length_cons, List.length_nil]); first | decide | omega, ?_⟩))
local macro_rules | `(tactic| walk_at "y") => `(tactic| first | walk_at "yo" | walk_at "ye" | walk_at "yv" | walk_at "ys" | walk_at "yd")
local macro_rules | `(tactic| walk_at "yx") => `(tactic| first | walk_at "yo" | walk_at "ye" | walk_at "yv" | walk_at "yd")

def wordsR : List Str := ["put", "name", "ifzero", "add", "take", "load", "store", "jump", "call", "address", "callby", "out", "back", "halt", "room", "word"]
def wordNo (w : Str) : Nat := wordsR.findIdx (· == w)
def ledD (code goal : Int) : List Dt := halvesD 3 goal ++ [.int (cellD code 3 0 0)]
def cellsK (k : Nat) (rest : List Dt) (at_ goal : Int) (far : Bool) : List Dt := match k, rest with
  | 0, [a, b] => halvesD (regN a) (intN b)
  | 1, [a, _] => if far = true then halvesD (regN a) goal else [.int (cellD 11 (regN a) 0 ((goal - at_) % 256))]
  | 2, [a, _] => if far = true then [.int (cellD 9 (regN a) 0 2), .int (cellD 8 0 0 4)] ++ ledD 12 goal else [.int (cellD 9 (regN a) 0 ((goal - at_) % 256))]
  | 3, [a, b] => [.int (cellD 4 (regN a) (regN b) 0)]
  | 4, [a, b] => [.int (cellD 5 (regN a) (regN b) 0)]
  | 5, [a, b, c] => [.int (cellD 6 (regN a) (regN b) (intN c))]
  | 6, [a, b, c] => [.int (cellD 7 (regN a) (regN b) (intN c))]
  | 7, [_] => if far = true then ledD 12 goal else [.int (cellD 8 0 0 ((goal - at_) % 256))]
  | 8, [_] => if far = true then ledD 13 goal else [.int (cellD 10 0 0 ((goal - at_) % 256))]
  | 9, [_] => [.int goal]
  | 10, [a] => [.int (cellD 13 (regN a) 0 0)]
  | 11, [a] => [.int (cellD 15 (regN a) 0 0)]
  | 12, [] => [.int (cellD 14 0 0 0)]
  | 13, [] => [.int (cellD 1 0 0 0)]
  | 14, [a] => List.replicate (intN a).toNat (.int 0)
  | 15, [a] => [a]
  | _, _ => []
def cellsD (row : Dt) (at_ goal : Int) (far : Bool) : List Dt := match row with
  | .tup (.str w :: rest) => cellsK (wordNo w) rest at_ goal far
  | _ => []
theorem cells_at {w : Str} {k : Nat} {rest : List Dt} {p q : Int} {far : Bool} (h : wordNo w = k) : cellsD (.tup (.str w :: rest)) p q far = cellsK k rest p q far := by
  show cellsK (wordNo w) rest p q far = _
  rw [h]
/-- the words of two forms -/
def twoForms (w : Str) : Prop := w = "name" ∨ w = "ifzero" ∨ w = "jump" ∨ w = "call"
def LongRow (d : Dt) : Prop := RowS d ∧ ∃ w rest, d = .tup (.str w :: rest) ∧ twoForms w
def shortPre (ds : List Dt) : Prop := ∃ row, ∃ v : Int, ds = [row, .int v] ∧ LongRow row
def shortPost (ds : List Dt) (xs : List Dt) : Prop := ∃ row, ∃ v : Int, ds = [row, .int v] ∧ xs = cellsD row 0 v false
def longPost (ds : List Dt) (xs : List Dt) : Prop := ∃ row, ∃ v : Int, ds = [row, .int v] ∧ xs = cellsD row 0 v true
theorem short_k {row : Dt} {v : Int} {R : List Dt → Prop} (h0 : LongRow row) (h : R (cellsD row 0 v false)) : shortPre [row, .int v] ∧ ∀ d, shortPost [row, .int v] d → R d := ⟨⟨row, v, rfl, h0⟩, fun d ⟨r, v', e, e2⟩ => by cases e; rw [e2]; exact h⟩
theorem long_k {row : Dt} {v : Int} {R : List Dt → Prop} (h0 : LongRow row) (h : R (cellsD row 0 v true)) : shortPre [row, .int v] ∧ ∀ d, longPost [row, .int v] d → R d := ⟨⟨row, v, rfl, h0⟩, fun d ⟨r, v', e, e2⟩ => by cases e; rw [e2]; exact h⟩
theorem long_cases {d : Dt} (h : LongRow d) : (∃ (w : Str) (r n : Dt), (w = "name" ∨ w = "ifzero") ∧ d = .tup [.str w, r, n] ∧ isRegD r = true) ∨ ∃ (w : Str) (n : Dt), (w = "jump" ∨ w = "call") ∧ d = .tup [.str w, n] := by
  obtain ⟨h, w, rest, e, hw⟩ := h
  cases h with
  | put _ _ => cases e; rcases hw with q | q | q | q <;> exact absurd q (by decide +kernel)
  | rr hw2 _ _ => cases e; rcases hw2 with rfl | rfl <;> rcases hw with q | q | q | q <;> exact absurd q (by decide +kernel)
  | rrd hw2 _ _ _ => cases e; rcases hw2 with rfl | rfl <;> rcases hw with q | q | q | q <;> exact absurd q (by decide +kernel)
  | rg hw2 _ => cases e; rcases hw2 with rfl | rfl <;> rcases hw with q | q | q | q <;> exact absurd q (by decide +kernel)
  | none hw2 => cases e; rcases hw2 with rfl | rfl <;> rcases hw with q | q | q | q <;> exact absurd q (by decide +kernel)
  | room _ => cases e; rcases hw with q | q | q | q <;> exact absurd q (by decide +kernel)
  | word _ => cases e; rcases hw with q | q | q | q <;> exact absurd q (by decide +kernel)
  | rn hw2 h1 _ => exact .inl ⟨_, _, _, hw2, rfl, h1⟩
  | nm hw2 _ =>
    rcases hw2 with rfl | rfl | rfl
    · exact .inr ⟨_, _, .inl rfl, rfl⟩
    · exact .inr ⟨_, _, .inr rfl, rfl⟩
    · cases e; rcases hw with q | q | q | q <;> exact absurd q (by decide +kernel)
end Law
namespace Law
open PySem L2 Y
local macro_rules | `(tactic| walk_at "yv") => `(tactic| ((with_reducible show Ev _ (tVar _) _ _); refine ev_var rfl ?_))
local macro_rules | `(tactic| walk_at "ys") => `(tactic| with_reducible first
  | refine sm_seq ?_ | refine sm_ret ?_ | refine sm_if ?_ | refine sm_set ?_ | refine sm_next ?_ | refine sm_par ?_ | refine sm_drop ?_ | refine sm_brk ?_ | refine sm_cont ?_)
local macro_rules | `(tactic| walk_at "ye") => `(tactic| with_reducible first
  | refine ev_op ?_ | refine ev_and ?_ | refine ev_or ?_ | refine ev_not ?_ | refine ev_if ?_ | refine ev_chain ?_ | refine ev_neg ?_ | refine ev_isInt ?_ | refine ev_isBool ?_ | refine ev_isStr ?_ | refine ev_isList ?_ | refine ev_isTuple ?_ | refine ev_isLT ?_ | refine ev_isDict ?_
  | refine ev_int ?_ | refine ev_str ?_ | refine ev_bl ?_ | refine ev_non ?_ | refine ev_call ?_ | refine ev_cb ?_ | refine ev_lst ?_ | refine ev_tup ?_ | refine ev_join ?_
  | refine ea_nil ?_ | refine ea_cons ?_
  | refine et_B ?_ | refine et_test ?_ | refine et_not ?_ | refine et_and ?_ | refine et_or ?_ | refine et_yes ?_
  | refine o_plusI ?_ | refine o_i0 ?_ | refine o_b0 ?_ | refine o_isN ?_ | refine o_notN ?_
  | refine bl_ex ?_ | refine int_ex ?_ | refine str_ex ?_ | refine lst_ex ?_ | refine tup_ex ?_)
local macro_rules | `(tactic| walk_at "yo") => `(tactic| first
  | ((with_reducible show Ev _ (tOp (rIx _) (tVar _) _) _ _); refine ev_ixOwn rfl ?_)
  | ((with_reducible show Ev _ (tCB _ (tCons (tVar _) tNil)) _ _); refine ev_lenOwn rfl ?_)
  | ((with_reducible show Sm _ (tAsg _ (gSub (tVar _) _ _)) _ _); refine sm_setItem rfl ?_)
  | ((with_reducible show Ev _ (tCall (spB _ _ _) _ _ _) _ _); refine ev_callB rfl rfl ?_))
local macro_rules | `(tactic| walk_at "yc") => `(tactic| first
  | ((with_reducible show CMul _ _); first | exact Or.inr ⟨by decide, by decide⟩ | exact Or.inl ⟨by decide, by decide⟩ | exact Or.inr ⟨by omega, by omega⟩ | exact Or.inl ⟨by omega, by omega⟩)
  | ((with_reducible show CDiv _ _); exact ⟨by first | decide | omega, by first | decide | omega⟩)
  | ((with_reducible show CPow _ _); exact ⟨by decide, by decide, by first | decide | omega⟩)
  | ((show (0 : Int) < _); first | decide | omega))
local macro_rules | `(tactic| walk_at "yd") => `(tactic| first
  | ((with_reducible show plainD _ = true ∧ _); refine ⟨by first | rfl | assumption, ?_⟩)
  | ((with_reducible show (_ = true → _) ∧ (_ = false → _)); first | refine way_t rfl ?_ | refine way_f rfl ?_ | refine way_t (by decide +kernel) ?_ | refine way_f (by decide +kernel) ?_)
  | ((with_reducible show Cal _ _ _ _ _); first | (with_reducible refine c_int ?_) | (with_reducible refine c_abs ?_) | (refine c_len rfl ?_) | (refine c_len (if_pos (by assumption)) ?_))
  | ((with_reducible show Op2 _ (rEqA _) _ _ _ _); refine o_eqA rfl ?_)
  | ((with_reducible show Op2 _ (rNeA _) _ _ _ _); refine o_neA rfl ?_)
  | ((with_reducible show Op2 _ (rInA _) _ (Dt.str _) (Dt.lst _) _); refine o_inAL rfl rfl ?_)
  | ((with_reducible show Op2 _ (rInA _) _ (Dt.str _) (Dt.tup _) _); refine o_inAT rfl rfl ?_)
  | ((with_reducible show Op2 _ (rI _ _) _ _ _ _); refine o_i (by walk_at "yc") ?_)
  | ((with_reducible show Op2 _ (rIx _) _ (Dt.tup _) _ _); refine o_ixAT (atI_toNat (by decide) rfl) ?_)
  | ((with_reducible show Op2 _ (rIx _) _ (Dt.lst _) _ _); refine o_ixAL (atI_toNat (by decide) rfl) ?_)
  | ((with_reducible show ∃ x, atI _ _ = some x ∧ _); refine ⟨_, rfl, ?_⟩)
  | ((with_reducible show ∃ x, ixN _ _ = some x ∧ _); refine ⟨_, rfl, ?_⟩)
  | ((with_reducible show List.length _ ≤ 100000 ∧ _); refine ⟨by (try simp only [List.length_cons, List.length_nil]); first | decide | omega, ?_⟩))
local macro_rules | `(tactic| walk_at "y") => `(tactic| first | walk_at "yo" | walk_at "ye" | walk_at "yv" | walk_at "ys" | walk_at "yd")
local macro_rules | `(tactic| walk_at "yx") => `(tactic| first | walk_at "yo" | walk_at "ye" | walk_at "yv" | walk_at "yd")
section
variable {P : Program} {w : World} {K : PySem.W.Frag} {mg : Str → Option Value} {base : Heap}

theorem ok_short_cells (T : Tx K mg w) : FnOk P w K mg base CX0 3 T.a_short_cells T.d_short_cells ["row", "distance"] (spO K shortPre shortPost) := by
  have G_cell_of := ok_cell_of (P := P) (w := w) (base := base) T
  have G_unsigned := ok_unsigned (P := P) (w := w) (base := base) T
  have G_number_of := ok_number_of (P := P) (w := w) (base := base) T
  refine fn_own T.F_short_cells sc_short_cells (fun ds h => ?_) (fun cdv A outer s H E hr => ⟨_, (pss_cons (ps_set (i := 2) sc_short_cells.nd rfl (Or.inl rfl) (pe_ifExp (pt_cmpR (op_inA (K := K)) (pe_ix (ix_any (K := K)) (pv 0) pe_int (fun _ _ => rfl)) (pe_tup (pa_cons pe_str (pa_cons pe_str pa_nil))) (by rfl)) (pe_call G_number_of (hr.mono (by decide)) (by rfl) T.m_number_of T.k_number_of T.b_number_of .nil pass0 (pa_cons (pe_ix (ix_any (K := K)) (pv 0) pe_int (fun _ _ => rfl)) pa_nil)) pe_int))
      (pss_one (ps_ret (pe_lst (pa_cons (pe_call G_cell_of (hr.mono (by decide)) (by rfl) T.m_cell_of T.k_cell_of (T.b_cell_of_4) (T.v_cell_of_4) pass0 (pa_cons (pe_ix (ix_kd (K := K) (w := w)) (pe_glob (v := .ref T.a_SHORT_WORDS) (by rfl) T.m_SHORT_WORDS rfl) (pe_ix (ix_any (K := K)) (pv 0) pe_int (fun _ _ => rfl)) (fun _ _ => rfl)) (pa_cons (pv 2) (pa_cons pe_int (pa_cons (pe_call G_unsigned (hr.mono (by decide)) (by rfl) T.m_unsigned T.k_unsigned T.b_unsigned .nil pass0 (pa_cons (pv 1) pa_nil)) pa_nil))))) pa_nil))))), fun F0 H0 ds h => ?_⟩)
  · obtain ⟨row, v, rfl, _⟩ := h; rfl
  · obtain ⟨row, v, rfl, hrow⟩ := h
    dsimp only [cxOf, env0, env1, List.map, List.length, List.replicate, List.cons_append, List.nil_append, List.append, Nat.reduceAdd, Nat.reduceSub, Nat.zero_add]
    rcases long_cases hrow with ⟨w', r, n, hw, rfl, hreg⟩ | ⟨w', n, hw, rfl⟩
    · rcases hw with rfl | rfl
      · refine sm_seq (sm_set (ev_if ?_))
        repeat walk_at "yx"
        refine regN_k hreg ?_
        refine sm_retO (eo_lst (ea_cons (ev_call ?_)))
        refine ea_cons (ev_ixKD T.kd_SHORT_WORDS ?_)
        refine ev_op (ev_var rfl (ev_int (o_ixAT (atI_toNat (by decide) rfl) (str_ex ?_))))
        refine ⟨.str "near", by decide +kernel, rfl, ?_⟩
        repeat walk_at "yx"
        refine unsigned_k ?_
        repeat walk_at "yx"
        refine cell_k (j := 11) (by decide +kernel) (regN_le _) ⟨by decide, by decide⟩ ⟨by omega, by omega⟩ ?_
        repeat walk_at "yx"
        refine ⟨_, _, rfl, ?_⟩
        rw [cells_at (k := 1) (by decide +kernel)]
        show _ = [Dt.int (cellD 11 (regN r) 0 ((v - 0) % 256))]
        rw [Int.sub_zero]
        rfl

      · refine sm_seq (sm_set (ev_if ?_))
        repeat walk_at "yx"
        refine regN_k hreg ?_
        refine sm_retO (eo_lst (ea_cons (ev_call ?_)))
        refine ea_cons (ev_ixKD T.kd_SHORT_WORDS ?_)
        refine ev_op (ev_var rfl (ev_int (o_ixAT (atI_toNat (by decide) rfl) (str_ex ?_))))
        refine ⟨.str "ifzero", by decide +kernel, rfl, ?_⟩
        repeat walk_at "yx"
        refine unsigned_k ?_
        repeat walk_at "yx"
        refine cell_k (j := 9) (by decide +kernel) (regN_le _) ⟨by decide, by decide⟩ ⟨by omega, by omega⟩ ?_
        repeat walk_at "yx"
        refine ⟨_, _, rfl, ?_⟩
        rw [cells_at (k := 2) (by decide +kernel)]
        show _ = [Dt.int (cellD 9 (regN r) 0 ((v - 0) % 256))]
        rw [Int.sub_zero]
        rfl

    · rcases hw with rfl | rfl
      · refine sm_seq (sm_set (ev_if ?_))
        repeat walk_at "yx"

        refine sm_retO (eo_lst (ea_cons (ev_call ?_)))
        refine ea_cons (ev_ixKD T.kd_SHORT_WORDS ?_)
        refine ev_op (ev_var rfl (ev_int (o_ixAT (atI_toNat (by decide) rfl) (str_ex ?_))))
        refine ⟨.str "jump", by decide +kernel, rfl, ?_⟩
        repeat walk_at "yx"
        refine unsigned_k ?_
        repeat walk_at "yx"
        refine cell_k (j := 8) (by decide +kernel) ⟨by decide, by decide⟩ ⟨by decide, by decide⟩ ⟨by omega, by omega⟩ ?_
        repeat walk_at "yx"
        refine ⟨_, _, rfl, ?_⟩
        rw [cells_at (k := 7) (by decide +kernel)]
        show _ = [Dt.int (cellD 8 0 0 ((v - 0) % 256))]
        rw [Int.sub_zero]
        rfl

      · refine sm_seq (sm_set (ev_if ?_))
        repeat walk_at "yx"

        refine sm_retO (eo_lst (ea_cons (ev_call ?_)))
        refine ea_cons (ev_ixKD T.kd_SHORT_WORDS ?_)
        refine ev_op (ev_var rfl (ev_int (o_ixAT (atI_toNat (by decide) rfl) (str_ex ?_))))
        refine ⟨.str "call", by decide +kernel, rfl, ?_⟩
        repeat walk_at "yx"
        refine unsigned_k ?_
        repeat walk_at "yx"
        refine cell_k (j := 10) (by decide +kernel) ⟨by decide, by decide⟩ ⟨by decide, by decide⟩ ⟨by omega, by omega⟩ ?_
        repeat walk_at "yx"
        refine ⟨_, _, rfl, ?_⟩
        rw [cells_at (k := 8) (by decide +kernel)]
        show _ = [Dt.int (cellD 10 0 0 ((v - 0) % 256))]
        rw [Int.sub_zero]
        rfl

end
end Law
namespace Law
open PySem L2 Y
local macro_rules | `(tactic| walk_at "yv") => `(tactic| ((with_reducible show Ev _ (tVar _) _ _); refine ev_var rfl ?_))
local macro_rules | `(tactic| walk_at "ys") => `(tactic| with_reducible first
  | refine sm_seq ?_ | refine sm_ret ?_ | refine sm_if ?_ | refine sm_set ?_ | refine sm_next ?_ | refine sm_par ?_ | refine sm_drop ?_ | refine sm_brk ?_ | refine sm_cont ?_)
local macro_rules | `(tactic| walk_at "ye") => `(tactic| with_reducible first
  | refine ev_op ?_ | refine ev_and ?_ | refine ev_or ?_ | refine ev_not ?_ | refine ev_if ?_ | refine ev_chain ?_ | refine ev_neg ?_ | refine ev_isInt ?_ | refine ev_isBool ?_ | refine ev_isStr ?_ | refine ev_isList ?_ | refine ev_isTuple ?_ | refine ev_isLT ?_ | refine ev_isDict ?_
  | refine ev_int ?_ | refine ev_str ?_ | refine ev_bl ?_ | refine ev_non ?_ | refine ev_call ?_ | refine ev_cb ?_ | refine ev_lst ?_ | refine ev_tup ?_ | refine ev_join ?_
  | refine ea_nil ?_ | refine ea_cons ?_
  | refine et_B ?_ | refine et_test ?_ | refine et_not ?_ | refine et_and ?_ | refine et_or ?_ | refine et_yes ?_
  | refine o_plusI ?_ | refine o_i0 ?_ | refine o_b0 ?_ | refine o_isN ?_ | refine o_notN ?_
  | refine bl_ex ?_ | refine int_ex ?_ | refine str_ex ?_ | refine lst_ex ?_ | refine tup_ex ?_)
local macro_rules | `(tactic| walk_at "yo") => `(tactic| first
  | ((with_reducible show Ev _ (tOp (rIx _) (tVar _) _) _ _); refine ev_ixOwn rfl ?_)
  | ((with_reducible show Ev _ (tCB _ (tCons (tVar _) tNil)) _ _); refine ev_lenOwn rfl ?_)
  | ((with_reducible show Sm _ (tAsg _ (gSub (tVar _) _ _)) _ _); refine sm_setItem rfl ?_)
  | ((with_reducible show Ev _ (tCall (spB _ _ _) _ _ _) _ _); refine ev_callB rfl rfl ?_))
local macro_rules | `(tactic| walk_at "yc") => `(tactic| first
  | ((with_reducible show CMul _ _); first | exact Or.inr ⟨by decide, by decide⟩ | exact Or.inl ⟨by decide, by decide⟩ | exact Or.inr ⟨by omega, by omega⟩ | exact Or.inl ⟨by omega, by omega⟩)
  | ((with_reducible show CDiv _ _); exact ⟨by first | decide | omega, by first | decide | omega⟩)
  | ((with_reducible show CPow _ _); exact ⟨by decide, by decide, by first | decide | omega⟩)
  | ((show (0 : Int) < _); first | decide | omega))
local macro_rules | `(tactic| walk_at "yd") => `(tactic| first
  | ((with_reducible show plainD _ = true ∧ _); refine ⟨by first | rfl | assumption, ?_⟩)
  | ((with_reducible show (_ = true → _) ∧ (_ = false → _)); first | refine way_t rfl ?_ | refine way_f rfl ?_ | refine way_t (by decide +kernel) ?_ | refine way_f (by decide +kernel) ?_)
  | ((with_reducible show Cal _ _ _ _ _); first | (with_reducible refine c_int ?_) | (with_reducible refine c_abs ?_) | (refine c_len rfl ?_) | (refine c_len (if_pos (by assumption)) ?_))
  | ((with_reducible show Op2 _ (rEqA _) _ _ _ _); refine o_eqA rfl ?_)
  | ((with_reducible show Op2 _ (rNeA _) _ _ _ _); refine o_neA rfl ?_)
  | ((with_reducible show Op2 _ (rInA _) _ (Dt.str _) (Dt.lst _) _); refine o_inAL rfl rfl ?_)
  | ((with_reducible show Op2 _ (rInA _) _ (Dt.str _) (Dt.tup _) _); refine o_inAT rfl rfl ?_)
  | ((with_reducible show Op2 _ (rI _ _) _ _ _ _); refine o_i (by walk_at "yc") ?_)
  | ((with_reducible show Op2 _ (rIx _) _ (Dt.tup _) _ _); refine o_ixAT (atI_toNat (by decide) rfl) ?_)
  | ((with_reducible show Op2 _ (rIx _) _ (Dt.lst _) _ _); refine o_ixAL (atI_toNat (by decide) rfl) ?_)
  | ((with_reducible show ∃ x, atI _ _ = some x ∧ _); refine ⟨_, rfl, ?_⟩)
  | ((with_reducible show ∃ x, ixN _ _ = some x ∧ _); refine ⟨_, rfl, ?_⟩)
  | ((with_reducible show List.length _ ≤ 100000 ∧ _); refine ⟨by (try simp only [List.length_cons, List.length_nil]); first | decide | omega, ?_⟩))
local macro_rules | `(tactic| walk_at "y") => `(tactic| first | walk_at "yo" | walk_at "ye" | walk_at "yv" | walk_at "ys" | walk_at "yd")
local macro_rules | `(tactic| walk_at "yx") => `(tactic| first | walk_at "yo" | walk_at "ye" | walk_at "yv" | walk_at "yd")
section
variable {P : Program} {w : World} {K : PySem.W.Frag} {mg : Str → Option Value} {base : Heap}

theorem ok_long_cells (T : Tx K mg w) : FnOk P w K mg base CX0 4 T.a_long_cells T.d_long_cells ["row", "target"] (spO K shortPre longPost) := by
  have G_cell_of := ok_cell_of (P := P) (w := w) (base := base) T
  have G_halves_put := ok_halves_put (P := P) (w := w) (base := base) T
  have G_number_of := ok_number_of (P := P) (w := w) (base := base) T
  refine fn_own T.F_long_cells sc_long_cells (fun ds h => ?_) (fun cdv A outer s H E hr => ⟨_, (pss_cons (ps_if (pt_cmpR (op_eqA (K := K) hr.units) (pe_ix (ix_any (K := K)) (pv 0) pe_int (fun _ _ => rfl)) pe_str (nomark _)) (pss_one (ps_ret (pe_call G_halves_put (hr.mono (by decide)) (by rfl) T.m_halves_put T.k_halves_put T.b_halves_put .nil pass0 (pa_cons (pe_call G_number_of (hr.mono (by decide)) (by rfl) T.m_number_of T.k_number_of T.b_number_of .nil pass0 (pa_cons (pe_ix (ix_any (K := K)) (pv 0) pe_int (fun _ _ => rfl)) pa_nil)) (pa_cons (pv 1) pa_nil))))) pss_nil)
      (pss_cons (ps_set (i := 2) sc_long_cells.nd rfl (Or.inl rfl) (pe_op (op_plus (K := K)) (pe_call G_halves_put (hr.mono (by decide)) (by rfl) T.m_halves_put T.k_halves_put T.b_halves_put .nil pass0 (pa_cons (pe_glob (v := .int 3) (by rfl) T.m_FAR T.r_FAR) (pa_cons (pv 1) pa_nil))) (pe_lst (pa_cons (pe_call G_cell_of (hr.mono (by decide)) (by rfl) T.m_cell_of T.k_cell_of (T.b_cell_of_2) (T.v_cell_of_2) pass0 (pa_cons (pe_ix (ix_kd (K := K) (w := w)) (pe_glob (v := .ref T.a_FAR_WORDS) (by rfl) T.m_FAR_WORDS rfl) (pe_ix (ix_any (K := K)) (pv 0) pe_int (fun _ _ => rfl)) (fun _ _ => rfl)) (pa_cons (pe_glob (v := .int 3) (by rfl) T.m_FAR T.r_FAR) pa_nil))) pa_nil))))
      (pss_cons (ps_if (pt_cmpR (op_eqA (K := K) hr.units) (pe_ix (ix_any (K := K)) (pv 0) pe_int (fun _ _ => rfl)) pe_str (nomark _)) (pss_one (ps_ret (pe_op (op_plus (K := K)) (pe_lst (pa_cons (pe_call G_cell_of (hr.mono (by decide)) (by rfl) T.m_cell_of T.k_cell_of (T.b_cell_of_4) (T.v_cell_of_4) pass0 (pa_cons pe_str (pa_cons (pe_call G_number_of (hr.mono (by decide)) (by rfl) T.m_number_of T.k_number_of T.b_number_of .nil pass0 (pa_cons (pe_ix (ix_any (K := K)) (pv 0) pe_int (fun _ _ => rfl)) pa_nil)) (pa_cons pe_int (pa_cons pe_int pa_nil))))) (pa_cons (pe_call G_cell_of (hr.mono (by decide)) (by rfl) T.m_cell_of T.k_cell_of (T.b_cell_of_4) (T.v_cell_of_4) pass0 (pa_cons pe_str (pa_cons pe_int (pa_cons pe_int (pa_cons pe_int pa_nil))))) pa_nil))) (pv 2)))) pss_nil)
      (pss_one (ps_ret (pv 2)))))), fun F0 H0 ds h => ?_⟩)
  · obtain ⟨row, v, rfl, _⟩ := h; rfl
  · obtain ⟨row, v, rfl, hrow⟩ := h
    dsimp only [cxOf, env0, env1, List.map, List.length, List.replicate, List.cons_append, List.nil_append, List.append, Nat.reduceAdd, Nat.reduceSub, Nat.zero_add]
    rcases long_cases hrow with ⟨w', r, n, hw, rfl, hreg⟩ | ⟨w', n, hw, rfl⟩
    · rcases hw with rfl | rfl
      · refine sm_seq (sm_if ?_)
        repeat walk_at "yx"
        refine sm_retO (eo_call ?_)
        repeat walk_at "yx"
        refine regN_k hreg ?_
        repeat walk_at "yx"
        refine halves_k (regN_le _) ?_
        exact ⟨_, _, rfl, by rw [cells_at (k := 1) (by decide +kernel)]; rfl⟩
      · refine sm_seq (sm_if ?_)
        repeat walk_at "yx"
        refine sm_next ?_
        refine sm_seq (sm_set (EvO.ev (eo_cat (EvO.ev (eo_call ?_)))))
        repeat walk_at "yx"
        refine halves_k ⟨by decide, by decide⟩ ⟨_, rfl, ?_⟩
        refine ev_lst (ea_cons (ev_callD (dds := [.int 0, .int 0]) (fun F => .cons (.int 0) (.cons (.int 0) .nil)) ?_))
        refine ea_cons (ev_ixKD T.kd_FAR_WORDS ?_)
        refine ev_op (ev_var rfl (ev_int (o_ixAT (atI_toNat (by decide) rfl) (str_ex ?_))))
        refine ⟨.str "jumpby", by decide +kernel, rfl, ?_⟩
        repeat walk_at "yx"
        refine cell_k (j := 12) (by decide +kernel) ⟨by decide, by decide⟩ ⟨by decide, by decide⟩ ⟨by decide, by decide⟩ ?_
        repeat walk_at "yx"
        refine ⟨by show 2 + 1 ≤ 100000; decide, ?_⟩

        refine sm_seq (sm_if ?_)
        repeat walk_at "yx"
        refine sm_retO (eo_cat (ev_lst ?_))
        repeat walk_at "yx"
        refine regN_k hreg ?_
        repeat walk_at "yx"
        refine cell_k (j := 9) (by decide +kernel) (regN_le _) ⟨by decide, by decide⟩ ⟨by decide, by decide⟩ ?_
        repeat walk_at "yx"
        refine cell_k (j := 8) (by decide +kernel) ⟨by decide, by decide⟩ ⟨by decide, by decide⟩ ⟨by decide, by decide⟩ ?_
        repeat walk_at "yx"
        refine ⟨by show 2 + 3 ≤ 100000; decide, ?_⟩
        exact ⟨_, _, rfl, by rw [cells_at (k := 2) (by decide +kernel)]; rfl⟩
    · rcases hw with rfl | rfl
      · refine sm_seq (sm_if ?_)
        repeat walk_at "yx"
        refine sm_next ?_
        refine sm_seq (sm_setO (eo_cat (EvO.ev (eo_call ?_))))
        repeat walk_at "yx"
        refine halves_k ⟨by decide, by decide⟩ ⟨_, rfl, ?_⟩
        refine ev_lst (ea_cons (ev_callD (dds := [.int 0, .int 0]) (fun F => .cons (.int 0) (.cons (.int 0) .nil)) ?_))
        refine ea_cons (ev_ixKD T.kd_FAR_WORDS ?_)
        refine ev_op (ev_var rfl (ev_int (o_ixAT (atI_toNat (by decide) rfl) (str_ex ?_))))
        refine ⟨.str "jumpby", by decide +kernel, rfl, ?_⟩
        repeat walk_at "yx"
        refine cell_k (j := 12) (by decide +kernel) ⟨by decide, by decide⟩ ⟨by decide, by decide⟩ ⟨by decide, by decide⟩ ?_
        repeat walk_at "yx"
        refine ⟨by show 2 + 1 ≤ 100000; decide, ?_⟩

        intro c
        refine sm_seq (sm_if ?_)
        repeat walk_at "yx"
        refine sm_next ?_
        exact sm_retOwn rfl ⟨_, _, rfl, by rw [cells_at (k := 7) (by decide +kernel)]; rfl⟩
      · refine sm_seq (sm_if ?_)
        repeat walk_at "yx"
        refine sm_next ?_
        refine sm_seq (sm_setO (eo_cat (EvO.ev (eo_call ?_))))
        repeat walk_at "yx"
        refine halves_k ⟨by decide, by decide⟩ ⟨_, rfl, ?_⟩
        refine ev_lst (ea_cons (ev_callD (dds := [.int 0, .int 0]) (fun F => .cons (.int 0) (.cons (.int 0) .nil)) ?_))
        refine ea_cons (ev_ixKD T.kd_FAR_WORDS ?_)
        refine ev_op (ev_var rfl (ev_int (o_ixAT (atI_toNat (by decide) rfl) (str_ex ?_))))
        refine ⟨.str "callby", by decide +kernel, rfl, ?_⟩
        repeat walk_at "yx"
        refine cell_k (j := 13) (by decide +kernel) ⟨by decide, by decide⟩ ⟨by decide, by decide⟩ ⟨by decide, by decide⟩ ?_
        repeat walk_at "yx"
        refine ⟨by show 2 + 1 ≤ 100000; decide, ?_⟩

        intro c
        refine sm_seq (sm_if ?_)
        repeat walk_at "yx"
        refine sm_next ?_
        exact sm_retOwn rfl ⟨_, _, rfl, by rw [cells_at (k := 8) (by decide +kernel)]; rfl⟩
end
end Law
namespace Law
open PySem L2 Y
local macro_rules | `(tactic| walk_at "yv") => `(tactic| ((with_reducible show Ev _ (tVar _) _ _); refine ev_var rfl ?_))
local macro_rules | `(tactic| walk_at "ys") => `(tactic| with_reducible first
  | refine sm_seq ?_ | refine sm_ret ?_ | refine sm_if ?_ | refine sm_set ?_ | refine sm_next ?_ | refine sm_par ?_ | refine sm_drop ?_ | refine sm_brk ?_ | refine sm_cont ?_)
local macro_rules | `(tactic| walk_at "ye") => `(tactic| with_reducible first
  | refine ev_op ?_ | refine ev_and ?_ | refine ev_or ?_ | refine ev_not ?_ | refine ev_if ?_ | refine ev_chain ?_ | refine ev_neg ?_ | refine ev_isInt ?_ | refine ev_isBool ?_ | refine ev_isStr ?_ | refine ev_isList ?_ | refine ev_isTuple ?_ | refine ev_isLT ?_ | refine ev_isDict ?_
  | refine ev_int ?_ | refine ev_str ?_ | refine ev_bl ?_ | refine ev_non ?_ | refine ev_call ?_ | refine ev_cb ?_ | refine ev_lst ?_ | refine ev_tup ?_ | refine ev_join ?_
  | refine ea_nil ?_ | refine ea_cons ?_
  | refine et_B ?_ | refine et_test ?_ | refine et_not ?_ | refine et_and ?_ | refine et_or ?_ | refine et_yes ?_
  | refine o_plusI ?_ | refine o_i0 ?_ | refine o_b0 ?_ | refine o_isN ?_ | refine o_notN ?_
  | refine bl_ex ?_ | refine int_ex ?_ | refine str_ex ?_ | refine lst_ex ?_ | refine tup_ex ?_)
local macro_rules | `(tactic| walk_at "yo") => `(tactic| first
  | ((with_reducible show Ev _ (tOp (rIx _) (tVar _) _) _ _); refine ev_ixOwn rfl ?_)
  | ((with_reducible show Ev _ (tCB _ (tCons (tVar _) tNil)) _ _); refine ev_lenOwn rfl ?_)
  | ((with_reducible show Sm _ (tAsg _ (gSub (tVar _) _ _)) _ _); refine sm_setItem rfl ?_)
  | ((with_reducible show Ev _ (tCall (spB _ _ _) _ _ _) _ _); refine ev_callB rfl rfl ?_))
local macro_rules | `(tactic| walk_at "yc") => `(tactic| first
  | ((with_reducible show CMul _ _); first | exact Or.inr ⟨by decide, by decide⟩ | exact Or.inl ⟨by decide, by decide⟩ | exact Or.inr ⟨by omega, by omega⟩ | exact Or.inl ⟨by omega, by omega⟩)
  | ((with_reducible show CDiv _ _); exact ⟨by first | decide | omega, by first | decide | omega⟩)
  | ((with_reducible show CPow _ _); exact ⟨by decide, by decide, by first | decide | omega⟩)
  | ((show (0 : Int) < _); first | decide | omega))
local macro_rules | `(tactic| walk_at "yd") => `(tactic| first
  | ((with_reducible show plainD _ = true ∧ _); refine ⟨by first | rfl | assumption, ?_⟩)
  | ((with_reducible show (_ = true → _) ∧ (_ = false → _)); first | refine way_t rfl ?_ | refine way_f rfl ?_ | refine way_t (by decide +kernel) ?_ | refine way_f (by decide +kernel) ?_)
  | ((with_reducible show Cal _ _ _ _ _); first | (with_reducible refine c_int ?_) | (with_reducible refine c_abs ?_) | (refine c_len rfl ?_) | (refine c_len (if_pos (by assumption)) ?_))
  | ((with_reducible show Op2 _ (rEqA _) _ _ _ _); refine o_eqA rfl ?_)
  | ((with_reducible show Op2 _ (rNeA _) _ _ _ _); refine o_neA rfl ?_)
  | ((with_reducible show Op2 _ (rInA _) _ (Dt.str _) (Dt.lst _) _); refine o_inAL rfl rfl ?_)
  | ((with_reducible show Op2 _ (rInA _) _ (Dt.str _) (Dt.tup _) _); refine o_inAT rfl rfl ?_)
  | ((with_reducible show Op2 _ (rI _ _) _ _ _ _); refine o_i (by walk_at "yc") ?_)
  | ((with_reducible show Op2 _ (rIx _) _ (Dt.tup _) _ _); refine o_ixAT (atI_toNat (by decide) rfl) ?_)
  | ((with_reducible show Op2 _ (rIx _) _ (Dt.lst _) _ _); refine o_ixAL (atI_toNat (by decide) rfl) ?_)
  | ((with_reducible show ∃ x, atI _ _ = some x ∧ _); refine ⟨_, rfl, ?_⟩)
  | ((with_reducible show ∃ x, ixN _ _ = some x ∧ _); refine ⟨_, rfl, ?_⟩)
  | ((with_reducible show List.length _ ≤ 100000 ∧ _); refine ⟨by (try simp only [List.length_cons, List.length_nil]); first | decide | omega, ?_⟩))
local macro_rules | `(tactic| walk_at "y") => `(tactic| first | walk_at "yo" | walk_at "ye" | walk_at "yv" | walk_at "ys" | walk_at "yd")
local macro_rules | `(tactic| walk_at "yx") => `(tactic| first | walk_at "yo" | walk_at "ye" | walk_at "yv" | walk_at "yd")

def plainPre (ds : List Dt) : Prop := ∃ row, ds = [row] ∧ RowS row ∧ ∀ w rest, row = .tup (.str w :: rest) → ¬ (twoForms w ∨ w = "address")
def plainPost (ds : List Dt) (xs : List Dt) : Prop := ∃ row, ds = [row] ∧ xs = cellsD row 0 0 false
theorem plain_k {row : Dt} {R : List Dt → Prop} (h0 : RowS row) (h1 : ∀ w rest, row = .tup (.str w :: rest) → ¬ (twoForms w ∨ w = "address")) (h : R (cellsD row 0 0 false)) : plainPre [row] ∧ ∀ d, plainPost [row] d → R d := ⟨⟨row, rfl, h0, h1⟩, fun d ⟨r, e, e2⟩ => by cases e; rw [e2]; exact h⟩
theorem rep_map (n : Nat) : (rangeD 0 n).map (fun _ => Dt.int 0) = List.replicate n (.int 0) := by
  rw [List.map_const', rangeD_len]
section
variable {P : Program} {w : World} {K : PySem.W.Frag} {mg : Str → Option Value} {base : Heap}

theorem ok_plain_cells (T : Tx K mg w) : FnOk P w K mg base CX0 4 T.a_plain_cells T.d_plain_cells ["row"] (spO K plainPre plainPost) := by
  have G_cell_of := ok_cell_of (P := P) (w := w) (base := base) T
  have G_halves_put := ok_halves_put (P := P) (w := w) (base := base) T
  have G_number_of := ok_number_of (P := P) (w := w) (base := base) T
  refine fn_own T.F_plain_cells sc_plain_cells (fun ds h => ?_) (fun cdv A outer s H E hr => ⟨_, (pss_cons (ps_set (i := 1) sc_plain_cells.nd rfl (Or.inl rfl) (pe_ix (ix_any (K := K)) (pv 0) pe_int (fun _ _ => rfl)))
      (pss_cons (ps_if (pt_cmpR (op_eqA (K := K) hr.units) (pv 1) pe_str (nomark _)) (pss_one (ps_ret (pe_lc (own := [("k", 2)]) (g := gName 2) rfl sc_plain_cells.nd (pi_range1 (by rfl) T.n_range (pa_cons (pe_ix (ix_any (K := K)) (pv 0) pe_int (fun _ _ => rfl)) pa_nil)) (blkOk_by (N := ["row", "word", "k"]) (sc := defScope s_plain_cells) (by decide +kernel)) (fun _ _ _ _ _ => (pg_name (i := 2) sc_plain_cells.nd rfl (Or.inl rfl))) (fun _ _ _ _ _ => pts_nil) (fun _ _ _ _ _ => pe_int)))) pss_nil)
      (pss_cons (ps_if (pt_cmpR (op_eqA (K := K) hr.units) (pv 1) pe_str (nomark _)) (pss_one (ps_ret (pe_lst (pa_cons (pe_ix (ix_any (K := K)) (pv 0) pe_int (fun _ _ => rfl)) pa_nil)))) pss_nil)
      (pss_cons (ps_if (pt_cmpR (op_eqA (K := K) hr.units) (pv 1) pe_str (nomark _)) (pss_one (ps_ret (pe_call G_halves_put (hr.mono (by decide)) (by rfl) T.m_halves_put T.k_halves_put T.b_halves_put .nil pass0 (pa_cons (pe_call G_number_of (hr.mono (by decide)) (by rfl) T.m_number_of T.k_number_of T.b_number_of .nil pass0 (pa_cons (pe_ix (ix_any (K := K)) (pv 0) pe_int (fun _ _ => rfl)) pa_nil)) (pa_cons (pe_ix (ix_any (K := K)) (pv 0) pe_int (fun _ _ => rfl)) pa_nil))))) pss_nil)
      (pss_cons (ps_if (pt_cmpR (op_inA (K := K)) (pv 1) (pe_glob (v := .ref T.a_PAIRED) (by rfl) T.m_PAIRED rfl) (by rfl)) (pss_one (ps_ret (pe_lst (pa_cons (pe_call G_cell_of (hr.mono (by decide)) (by rfl) T.m_cell_of T.k_cell_of (T.b_cell_of_4) (T.v_cell_of_4) pass0 (pa_cons (pv 1) (pa_cons (pe_call G_number_of (hr.mono (by decide)) (by rfl) T.m_number_of T.k_number_of T.b_number_of .nil pass0 (pa_cons (pe_ix (ix_any (K := K)) (pv 0) pe_int (fun _ _ => rfl)) pa_nil)) (pa_cons (pe_call G_number_of (hr.mono (by decide)) (by rfl) T.m_number_of T.k_number_of T.b_number_of .nil pass0 (pa_cons (pe_ix (ix_any (K := K)) (pv 0) pe_int (fun _ _ => rfl)) pa_nil)) (pa_cons (pe_ifExp (pt_cmpR op_gt (pe_callB (call_lenA (K := K)) (by rfl) T.n_len PySem.boot_len (pa_cons (pv 0) pa_nil)) pe_int (nomark _)) (pe_ix (ix_any (K := K)) (pv 0) pe_int (fun _ _ => rfl)) pe_int) pa_nil))))) pa_nil)))) pss_nil)
      (pss_one (ps_ret (pe_lst (pa_cons (pe_call G_cell_of (hr.mono (by decide)) (by rfl) T.m_cell_of T.k_cell_of (T.b_cell_of_2) (T.v_cell_of_2) pass0 (pa_cons (pv 1) (pa_cons (pe_ifExp (pt_cmpR (op_inA (K := K)) (pv 1) (pe_glob (v := .ref T.a_LONE) (by rfl) T.m_LONE rfl) (by rfl)) (pe_call G_number_of (hr.mono (by decide)) (by rfl) T.m_number_of T.k_number_of T.b_number_of .nil pass0 (pa_cons (pe_ix (ix_any (K := K)) (pv 0) pe_int (fun _ _ => rfl)) pa_nil)) pe_int) pa_nil))) pa_nil))))))))), fun F0 H0 ds h => ?_⟩)
  · obtain ⟨row, rfl, _⟩ := h; rfl
  obtain ⟨row, rfl, hrow, hno⟩ := h
  dsimp only [cxOf, env0, env1, List.map, List.length, List.replicate, List.cons_append, List.nil_append, List.append, Nat.reduceAdd, Nat.reduceSub, Nat.zero_add]
  cases hrow with
  | rn hw _ _ => exact absurd (.inl (hw.elim .inl fun q => .inr (.inl q))) (hno _ _ rfl)
  | nm hw _ => exact absurd (by rcases hw with q | q | q; · exact .inl (.inr (.inr (.inl q)))
                                · exact .inl (.inr (.inr (.inr q)))
                                · exact .inr q) (hno _ _ rfl)
  | room h1 =>
      obtain ⟨k, rfl, k0, k1⟩ := num_int h1
      refine sm_seq (sm_set ?_)
      repeat walk_at "yx"
      refine sm_seq (sm_if ?_)
      repeat walk_at "yx"
      refine sm_retO (eo_mapF (fun _ => .int 0) (ei_rng1 ?_))
      repeat walk_at "yx"
      refine ⟨k, rfl, by omega, by omega, ?_, fun x hx => tc_name (ev_int rfl), ?_⟩
      · rw [rangeD_len]; omega
      · exact ⟨_, rfl, by rw [cells_at (k := 14) (by decide +kernel), rep_map]; rfl⟩
  | word h1 =>
      refine sm_seq (sm_set ?_)
      repeat walk_at "yx"
      refine sm_seq (sm_if ?_)
      repeat walk_at "yx"
      refine sm_next ?_
      refine sm_seq (sm_if ?_)
      repeat walk_at "yx"
      refine sm_retO (eo_lst ?_)
      repeat walk_at "yx"
      exact ⟨_, rfl, by rw [cells_at (k := 15) (by decide +kernel)]; rfl⟩
  | put h1 h2 =>
      obtain ⟨k, rfl, k0, k1⟩ := num_int h2
      refine sm_seq (sm_set ?_)
      repeat walk_at "yx"
      refine sm_seq (sm_if ?_)
      repeat walk_at "yx"
      refine sm_next ?_
      refine sm_seq (sm_if ?_)
      repeat walk_at "yx"
      refine sm_next ?_
      refine sm_seq (sm_if ?_)
      repeat walk_at "yx"
      refine sm_retO (eo_call ?_)
      repeat walk_at "yx"
      refine regN_k h1 ?_
      repeat walk_at "yx"
      refine halves_k (regN_le _) ?_
      exact ⟨_, rfl, by rw [cells_at (k := 0) (by decide +kernel)]; rfl⟩
  | rr hw h1 h2 =>
    rcases hw with rfl | rfl
    · refine sm_seq (sm_set ?_)
      repeat walk_at "yx"
      refine sm_seq (sm_if ?_)
      repeat walk_at "yx"
      refine sm_next ?_
      refine sm_seq (sm_if ?_)
      repeat walk_at "yx"
      refine sm_next ?_
      refine sm_seq (sm_if ?_)
      repeat walk_at "yx"
      refine sm_next ?_
      refine sm_seq (sm_if ?_)
      repeat walk_at "yx"
      refine ev_k T.kd_PAIRED (o_inAT rfl rfl (bl_ex (way_t ?_ ?_)))
      · decide +kernel
      refine sm_retO (eo_lst (ea_cons (ev_call ?_)))
      repeat walk_at "yx"
      refine regN_k h1 ?_
      repeat walk_at "yx"
      refine regN_k h2 ?_
      repeat walk_at "yx"
      refine cell_k (j := 4) (by decide +kernel) (regN_le _) (regN_le _) ⟨by decide, by decide⟩ ?_
      repeat walk_at "yx"
      exact ⟨_, rfl, by rw [cells_at (k := 3) (by decide +kernel)]; rfl⟩

    · refine sm_seq (sm_set ?_)
      repeat walk_at "yx"
      refine sm_seq (sm_if ?_)
      repeat walk_at "yx"
      refine sm_next ?_
      refine sm_seq (sm_if ?_)
      repeat walk_at "yx"
      refine sm_next ?_
      refine sm_seq (sm_if ?_)
      repeat walk_at "yx"
      refine sm_next ?_
      refine sm_seq (sm_if ?_)
      repeat walk_at "yx"
      refine ev_k T.kd_PAIRED (o_inAT rfl rfl (bl_ex (way_t ?_ ?_)))
      · decide +kernel
      refine sm_retO (eo_lst (ea_cons (ev_call ?_)))
      repeat walk_at "yx"
      refine regN_k h1 ?_
      repeat walk_at "yx"
      refine regN_k h2 ?_
      repeat walk_at "yx"
      refine cell_k (j := 5) (by decide +kernel) (regN_le _) (regN_le _) ⟨by decide, by decide⟩ ?_
      repeat walk_at "yx"
      exact ⟨_, rfl, by rw [cells_at (k := 4) (by decide +kernel)]; rfl⟩

  | rrd hw h1 h2 h3 =>
    obtain ⟨k, rfl, k0, k1⟩ := num_int h3
    rcases hw with rfl | rfl
    · refine sm_seq (sm_set ?_)
      repeat walk_at "yx"
      refine sm_seq (sm_if ?_)
      repeat walk_at "yx"
      refine sm_next ?_
      refine sm_seq (sm_if ?_)
      repeat walk_at "yx"
      refine sm_next ?_
      refine sm_seq (sm_if ?_)
      repeat walk_at "yx"
      refine sm_next ?_
      refine sm_seq (sm_if ?_)
      repeat walk_at "yx"
      refine ev_k T.kd_PAIRED (o_inAT rfl rfl (bl_ex (way_t ?_ ?_)))
      · decide +kernel
      refine sm_retO (eo_lst (ea_cons (ev_call ?_)))
      repeat walk_at "yx"
      refine regN_k h1 ?_
      repeat walk_at "yx"
      refine regN_k h2 ?_
      repeat walk_at "yx"
      refine cell_k (j := 6) (by decide +kernel) (regN_le _) (regN_le _) ⟨by omega, by omega⟩ ?_
      repeat walk_at "yx"
      exact ⟨_, rfl, by rw [cells_at (k := 5) (by decide +kernel)]; rfl⟩

    · refine sm_seq (sm_set ?_)
      repeat walk_at "yx"
      refine sm_seq (sm_if ?_)
      repeat walk_at "yx"
      refine sm_next ?_
      refine sm_seq (sm_if ?_)
      repeat walk_at "yx"
      refine sm_next ?_
      refine sm_seq (sm_if ?_)
      repeat walk_at "yx"
      refine sm_next ?_
      refine sm_seq (sm_if ?_)
      repeat walk_at "yx"
      refine ev_k T.kd_PAIRED (o_inAT rfl rfl (bl_ex (way_t ?_ ?_)))
      · decide +kernel
      refine sm_retO (eo_lst (ea_cons (ev_call ?_)))
      repeat walk_at "yx"
      refine regN_k h1 ?_
      repeat walk_at "yx"
      refine regN_k h2 ?_
      repeat walk_at "yx"
      refine cell_k (j := 7) (by decide +kernel) (regN_le _) (regN_le _) ⟨by omega, by omega⟩ ?_
      repeat walk_at "yx"
      exact ⟨_, rfl, by rw [cells_at (k := 6) (by decide +kernel)]; rfl⟩

  | rg hw h1 =>
    rcases hw with rfl | rfl
    · refine sm_seq (sm_set ?_)
      repeat walk_at "yx"
      refine sm_seq (sm_if ?_)
      repeat walk_at "yx"
      refine sm_next ?_
      refine sm_seq (sm_if ?_)
      repeat walk_at "yx"
      refine sm_next ?_
      refine sm_seq (sm_if ?_)
      repeat walk_at "yx"
      refine sm_next ?_
      refine sm_seq (sm_if ?_)
      repeat walk_at "yx"
      refine ev_k T.kd_PAIRED (o_inAT rfl rfl (bl_ex (way_f ?_ ?_)))
      · decide +kernel
      refine sm_next ?_
      refine sm_retO (eo_lst (ea_cons (ev_callD (dds := [.int 0, .int 0]) (fun F => .cons (.int 0) (.cons (.int 0) .nil)) ?_)))
      refine ea_cons (ev_var rfl (ea_cons (ev_if ?_)))
      repeat walk_at "yx"
      refine ev_k T.kd_LONE (o_inAT rfl rfl (bl_ex (way_t ?_ ?_)))
      · decide +kernel
      repeat walk_at "yx"
      refine regN_k h1 ?_
      repeat walk_at "yx"
      refine cell_k (j := 13) (by decide +kernel) (regN_le _) ⟨by decide, by decide⟩ ⟨by decide, by decide⟩ ?_
      repeat walk_at "yx"
      exact ⟨_, rfl, by rw [cells_at (k := 10) (by decide +kernel)]; rfl⟩

    · refine sm_seq (sm_set ?_)
      repeat walk_at "yx"
      refine sm_seq (sm_if ?_)
      repeat walk_at "yx"
      refine sm_next ?_
      refine sm_seq (sm_if ?_)
      repeat walk_at "yx"
      refine sm_next ?_
      refine sm_seq (sm_if ?_)
      repeat walk_at "yx"
      refine sm_next ?_
      refine sm_seq (sm_if ?_)
      repeat walk_at "yx"
      refine ev_k T.kd_PAIRED (o_inAT rfl rfl (bl_ex (way_f ?_ ?_)))
      · decide +kernel
      refine sm_next ?_
      refine sm_retO (eo_lst (ea_cons (ev_callD (dds := [.int 0, .int 0]) (fun F => .cons (.int 0) (.cons (.int 0) .nil)) ?_)))
      refine ea_cons (ev_var rfl (ea_cons (ev_if ?_)))
      repeat walk_at "yx"
      refine ev_k T.kd_LONE (o_inAT rfl rfl (bl_ex (way_t ?_ ?_)))
      · decide +kernel
      repeat walk_at "yx"
      refine regN_k h1 ?_
      repeat walk_at "yx"
      refine cell_k (j := 15) (by decide +kernel) (regN_le _) ⟨by decide, by decide⟩ ⟨by decide, by decide⟩ ?_
      repeat walk_at "yx"
      exact ⟨_, rfl, by rw [cells_at (k := 11) (by decide +kernel)]; rfl⟩

  | none hw =>
    rcases hw with rfl | rfl
    · refine sm_seq (sm_set ?_)
      repeat walk_at "yx"
      refine sm_seq (sm_if ?_)
      repeat walk_at "yx"
      refine sm_next ?_
      refine sm_seq (sm_if ?_)
      repeat walk_at "yx"
      refine sm_next ?_
      refine sm_seq (sm_if ?_)
      repeat walk_at "yx"
      refine sm_next ?_
      refine sm_seq (sm_if ?_)
      repeat walk_at "yx"
      refine ev_k T.kd_PAIRED (o_inAT rfl rfl (bl_ex (way_f ?_ ?_)))
      · decide +kernel
      refine sm_next ?_
      refine sm_retO (eo_lst (ea_cons (ev_callD (dds := [.int 0, .int 0]) (fun F => .cons (.int 0) (.cons (.int 0) .nil)) ?_)))
      refine ea_cons (ev_var rfl (ea_cons (ev_if ?_)))
      repeat walk_at "yx"
      refine ev_k T.kd_LONE (o_inAT rfl rfl (bl_ex (way_f ?_ ?_)))
      · decide +kernel
      repeat walk_at "yx"
      repeat walk_at "yx"
      refine cell_k (j := 14) (by decide +kernel) ⟨by decide, by decide⟩ ⟨by decide, by decide⟩ ⟨by decide, by decide⟩ ?_
      repeat walk_at "yx"
      exact ⟨_, rfl, by rw [cells_at (k := 12) (by decide +kernel)]; rfl⟩

    · refine sm_seq (sm_set ?_)
      repeat walk_at "yx"
      refine sm_seq (sm_if ?_)
      repeat walk_at "yx"
      refine sm_next ?_
      refine sm_seq (sm_if ?_)
      repeat walk_at "yx"
      refine sm_next ?_
      refine sm_seq (sm_if ?_)
      repeat walk_at "yx"
      refine sm_next ?_
      refine sm_seq (sm_if ?_)
      repeat walk_at "yx"
      refine ev_k T.kd_PAIRED (o_inAT rfl rfl (bl_ex (way_f ?_ ?_)))
      · decide +kernel
      refine sm_next ?_
      refine sm_retO (eo_lst (ea_cons (ev_callD (dds := [.int 0, .int 0]) (fun F => .cons (.int 0) (.cons (.int 0) .nil)) ?_)))
      refine ea_cons (ev_var rfl (ea_cons (ev_if ?_)))
      repeat walk_at "yx"
      refine ev_k T.kd_LONE (o_inAT rfl rfl (bl_ex (way_f ?_ ?_)))
      · decide +kernel
      repeat walk_at "yx"
      repeat walk_at "yx"
      refine cell_k (j := 1) (by decide +kernel) ⟨by decide, by decide⟩ ⟨by decide, by decide⟩ ⟨by decide, by decide⟩ ?_
      repeat walk_at "yx"
      exact ⟨_, rfl, by rw [cells_at (k := 13) (by decide +kernel)]; rfl⟩

end
end Law
namespace Law
open PySem L2 Y
local macro_rules | `(tactic| walk_at "yv") => `(tactic| ((with_reducible show Ev _ (tVar _) _ _); refine ev_var rfl ?_))
local macro_rules | `(tactic| walk_at "ys") => `(tactic| with_reducible first
  | refine sm_seq ?_ | refine sm_ret ?_ | refine sm_if ?_ | refine sm_set ?_ | refine sm_next ?_ | refine sm_par ?_ | refine sm_drop ?_ | refine sm_brk ?_ | refine sm_cont ?_)
local macro_rules | `(tactic| walk_at "ye") => `(tactic| with_reducible first
  | refine ev_op ?_ | refine ev_and ?_ | refine ev_or ?_ | refine ev_not ?_ | refine ev_if ?_ | refine ev_chain ?_ | refine ev_neg ?_ | refine ev_isInt ?_ | refine ev_isBool ?_ | refine ev_isStr ?_ | refine ev_isList ?_ | refine ev_isTuple ?_ | refine ev_isLT ?_ | refine ev_isDict ?_
  | refine ev_int ?_ | refine ev_str ?_ | refine ev_bl ?_ | refine ev_non ?_ | refine ev_call ?_ | refine ev_cb ?_ | refine ev_lst ?_ | refine ev_tup ?_ | refine ev_join ?_
  | refine ea_nil ?_ | refine ea_cons ?_
  | refine et_B ?_ | refine et_test ?_ | refine et_not ?_ | refine et_and ?_ | refine et_or ?_ | refine et_yes ?_
  | refine o_plusI ?_ | refine o_i0 ?_ | refine o_b0 ?_ | refine o_isN ?_ | refine o_notN ?_
  | refine bl_ex ?_ | refine int_ex ?_ | refine str_ex ?_ | refine lst_ex ?_ | refine tup_ex ?_)
local macro_rules | `(tactic| walk_at "yo") => `(tactic| first
  | ((with_reducible show Ev _ (tOp (rIx _) (tVar _) _) _ _); refine ev_ixOwn rfl ?_)
  | ((with_reducible show Ev _ (tCB _ (tCons (tVar _) tNil)) _ _); refine ev_lenOwn rfl ?_)
  | ((with_reducible show Sm _ (tAsg _ (gSub (tVar _) _ _)) _ _); refine sm_setItem rfl ?_)
  | ((with_reducible show Ev _ (tCall (spB _ _ _) _ _ _) _ _); refine ev_callB rfl rfl ?_))
local macro_rules | `(tactic| walk_at "yc") => `(tactic| first
  | ((with_reducible show CMul _ _); first | exact Or.inr ⟨by decide, by decide⟩ | exact Or.inl ⟨by decide, by decide⟩ | exact Or.inr ⟨by omega, by omega⟩ | exact Or.inl ⟨by omega, by omega⟩)
  | ((with_reducible show CDiv _ _); exact ⟨by first | decide | omega, by first | decide | omega⟩)
  | ((with_reducible show CPow _ _); exact ⟨by decide, by decide, by first | decide | omega⟩)
  | ((show (0 : Int) < _); first | decide | omega))
local macro_rules | `(tactic| walk_at "yd") => `(tactic| first
  | ((with_reducible show plainD _ = true ∧ _); refine ⟨by first | rfl | assumption, ?_⟩)
  | ((with_reducible show (_ = true → _) ∧ (_ = false → _)); first | refine way_t rfl ?_ | refine way_f rfl ?_ | refine way_t (by decide +kernel) ?_ | refine way_f (by decide +kernel) ?_)
  | ((with_reducible show Cal _ _ _ _ _); first | (with_reducible refine c_int ?_) | (with_reducible refine c_abs ?_) | (refine c_len rfl ?_) | (refine c_len (if_pos (by assumption)) ?_))
  | ((with_reducible show Op2 _ (rEqA _) _ _ _ _); refine o_eqA rfl ?_)
  | ((with_reducible show Op2 _ (rNeA _) _ _ _ _); refine o_neA rfl ?_)
  | ((with_reducible show Op2 _ (rInA _) _ (Dt.str _) (Dt.lst _) _); refine o_inAL rfl rfl ?_)
  | ((with_reducible show Op2 _ (rInA _) _ (Dt.str _) (Dt.tup _) _); refine o_inAT rfl rfl ?_)
  | ((with_reducible show Op2 _ (rI _ _) _ _ _ _); refine o_i (by walk_at "yc") ?_)
  | ((with_reducible show Op2 _ (rIx _) _ (Dt.tup _) _ _); refine o_ixAT (atI_toNat (by decide) rfl) ?_)
  | ((with_reducible show Op2 _ (rIx _) _ (Dt.lst _) _ _); refine o_ixAL (atI_toNat (by decide) rfl) ?_)
  | ((with_reducible show ∃ x, atI _ _ = some x ∧ _); refine ⟨_, rfl, ?_⟩)
  | ((with_reducible show ∃ x, ixN _ _ = some x ∧ _); refine ⟨_, rfl, ?_⟩)
  | ((with_reducible show List.length _ ≤ 100000 ∧ _); refine ⟨by (try simp only [List.length_cons, List.length_nil]); first | decide | omega, ?_⟩))
local macro_rules | `(tactic| walk_at "y") => `(tactic| first | walk_at "yo" | walk_at "ye" | walk_at "yv" | walk_at "ys" | walk_at "yd")
local macro_rules | `(tactic| walk_at "yx") => `(tactic| first | walk_at "yo" | walk_at "ye" | walk_at "yv" | walk_at "yd")

def rcPre (ds : List Dt) : Prop := ∃ (row : Dt) (p q : Int) (far : Bool), ds = [row, .int p, .int q, .bl far] ∧ RowS row
def rcPost (ds : List Dt) (xs : List Dt) : Prop := ∃ (row : Dt) (p q : Int) (far : Bool), ds = [row, .int p, .int q, .bl far] ∧ xs = cellsD row p q far
theorem rc_k {row : Dt} {p q : Int} {far : Bool} {R : List Dt → Prop} (h0 : RowS row) (h : R (cellsD row p q far)) : rcPre [row, .int p, .int q, .bl far] ∧ ∀ d, rcPost [row, .int p, .int q, .bl far] d → R d := ⟨⟨row, p, q, far, rfl, h0⟩, fun d ⟨_, _, _, _, e, e2⟩ => by cases e; rw [e2]; exact h⟩
theorem addr_shape {rest : List Dt} (h : RowS (.tup (.str "address" :: rest))) : ∃ n, rest = [n] := by
  generalize e : Dt.tup (.str "address" :: rest) = d at h
  cases h with
  | put _ _ => injection e with e; injection e with e1 e2; injection e1 with e1; exact absurd e1 (by decide +kernel)
  | rn hw _ _ => injection e with e; injection e with e1 e2; injection e1 with e1; rcases hw with rfl | rfl <;> exact absurd e1 (by decide +kernel)
  | rr hw _ _ => injection e with e; injection e with e1 e2; injection e1 with e1; rcases hw with rfl | rfl <;> exact absurd e1 (by decide +kernel)
  | rrd hw _ _ _ => injection e with e; injection e with e1 e2; injection e1 with e1; rcases hw with rfl | rfl <;> exact absurd e1 (by decide +kernel)
  | nm _ _ => cases e; exact ⟨_, rfl⟩
  | rg hw _ => cases e; exact ⟨_, rfl⟩
  | none hw => injection e with e; injection e with e1 e2; injection e1 with e1; rcases hw with rfl | rfl <;> exact absurd e1 (by decide +kernel)
  | room _ => cases e
  | word _ => cases e
theorem plain_same {row : Dt} (h : RowS row) (hno : ∀ w rest, row = .tup (.str w :: rest) → ¬ (twoForms w ∨ w = "address")) (p q : Int) (far : Bool) : cellsD row 0 0 false = cellsD row p q far := by
  cases h with
  | put _ _ => rw [cells_at (k := 0) (by decide +kernel), cells_at (k := 0) (by decide +kernel)]; rfl
  | rn hw _ _ => exact absurd (.inl (hw.elim .inl fun q => .inr (.inl q))) (hno _ _ rfl)
  | nm hw _ => exact absurd (by rcases hw with q | q | q; · exact .inl (.inr (.inr (.inl q)))
                                · exact .inl (.inr (.inr (.inr q)))
                                · exact .inr q) (hno _ _ rfl)
  | rr hw _ _ =>
    rcases hw with rfl | rfl
    · rw [cells_at (k := 3) (by decide +kernel), cells_at (k := 3) (by decide +kernel)]; rfl
    · rw [cells_at (k := 4) (by decide +kernel), cells_at (k := 4) (by decide +kernel)]; rfl
  | rrd hw _ _ _ =>
    rcases hw with rfl | rfl
    · rw [cells_at (k := 5) (by decide +kernel), cells_at (k := 5) (by decide +kernel)]; rfl
    · rw [cells_at (k := 6) (by decide +kernel), cells_at (k := 6) (by decide +kernel)]; rfl
  | rg hw _ =>
    rcases hw with rfl | rfl
    · rw [cells_at (k := 10) (by decide +kernel), cells_at (k := 10) (by decide +kernel)]; rfl
    · rw [cells_at (k := 11) (by decide +kernel), cells_at (k := 11) (by decide +kernel)]; rfl
  | none hw =>
    rcases hw with rfl | rfl
    · rw [cells_at (k := 12) (by decide +kernel), cells_at (k := 12) (by decide +kernel)]; rfl
    · rw [cells_at (k := 13) (by decide +kernel), cells_at (k := 13) (by decide +kernel)]; rfl
  | room _ => rw [cells_at (k := 14) (by decide +kernel), cells_at (k := 14) (by decide +kernel)]; rfl
  | word _ => rw [cells_at (k := 15) (by decide +kernel), cells_at (k := 15) (by decide +kernel)]; rfl
theorem long_same {row : Dt} (h : LongRow row) (p q : Int) : cellsD row 0 q true = cellsD row p q true ∧ cellsD row 0 (q - p) false = cellsD row p q false := by
  have e0 : q - p - 0 = q - p := Int.sub_zero _
  rcases long_cases h with ⟨w', r, n, hw, rfl, hreg⟩ | ⟨w', n, hw, rfl⟩
  · rcases hw with rfl | rfl
    · refine ⟨by rw [cells_at (k := 1) (by decide +kernel), cells_at (k := 1) (by decide +kernel)]; rfl, ?_⟩
      rw [cells_at (k := 1) (by decide +kernel), cells_at (k := 1) (by decide +kernel)]
      show [Dt.int (cellD 11 (regN r) 0 ((q - p - 0) % 256))] = [Dt.int (cellD 11 (regN r) 0 ((q - p) % 256))]
      rw [e0]
    · refine ⟨by rw [cells_at (k := 2) (by decide +kernel), cells_at (k := 2) (by decide +kernel)]; rfl, ?_⟩
      rw [cells_at (k := 2) (by decide +kernel), cells_at (k := 2) (by decide +kernel)]
      show [Dt.int (cellD 9 (regN r) 0 ((q - p - 0) % 256))] = [Dt.int (cellD 9 (regN r) 0 ((q - p) % 256))]
      rw [e0]
  · rcases hw with rfl | rfl
    · refine ⟨by rw [cells_at (k := 7) (by decide +kernel), cells_at (k := 7) (by decide +kernel)]; rfl, ?_⟩
      rw [cells_at (k := 7) (by decide +kernel), cells_at (k := 7) (by decide +kernel)]
      show [Dt.int (cellD 8 0 0 ((q - p - 0) % 256))] = [Dt.int (cellD 8 0 0 ((q - p) % 256))]
      rw [e0]
    · refine ⟨by rw [cells_at (k := 8) (by decide +kernel), cells_at (k := 8) (by decide +kernel)]; rfl, ?_⟩
      rw [cells_at (k := 8) (by decide +kernel), cells_at (k := 8) (by decide +kernel)]
      show [Dt.int (cellD 10 0 0 ((q - p - 0) % 256))] = [Dt.int (cellD 10 0 0 ((q - p) % 256))]
      rw [e0]
theorem long_some {w : Str} : (([("name", .int 2), ("jump", .int 3), ("ifzero", .int 5), ("call", .int 3)] : List (Str × V)).lookup w).isSome = true ↔ twoForms w := by
  constructor
  · intro h
    obtain ⟨v, hv⟩ := Option.isSome_iff_exists.mp h
    have hm := lookup_mem hv
    simp only [List.mem_cons, List.not_mem_nil, or_false, Prod.mk.injEq] at hm
    rcases hm with ⟨q, _⟩ | ⟨q, _⟩ | ⟨q, _⟩ | ⟨q, _⟩
    · exact .inl q
    · exact .inr (.inr (.inl q))
    · exact .inr (.inl q)
    · exact .inr (.inr (.inr q))
  · rintro (rfl | rfl | rfl | rfl) <;> decide +kernel
section
variable {P : Program} {w : World} {K : PySem.W.Frag} {mg : Str → Option Value} {base : Heap}

theorem ok_row_cells (T : Tx K mg w) : FnOk P w K mg base CX0 5 T.a_row_cells T.d_row_cells ["row", "at", "target", "long"] (spO K rcPre rcPost) := by
  have G_plain_cells := ok_plain_cells (P := P) (w := w) (base := base) T
  have G_long_cells := ok_long_cells (P := P) (w := w) (base := base) T
  have G_short_cells := ok_short_cells (P := P) (w := w) (base := base) T
  refine fn_ownD T.F_row_cells sc_row_cells (fun ds h => ?_) (fun cdv A outer s H E hr => ⟨_, (pss_cons (ps_if (pt_cmpR (op_eqA (K := K) hr.units) (pe_ix (ix_any (K := K)) (pv 0) pe_int (fun _ _ => rfl)) pe_str (nomark _)) (pss_one (ps_ret (pe_lst (pa_cons (pv 2) pa_nil)))) pss_nil)
      (pss_cons (ps_if (pt_cmpR (op_niKD (K := K) (w := w)) (pe_ix (ix_any (K := K)) (pv 0) pe_int (fun _ _ => rfl)) (pe_glob (v := .ref T.a_LONG_SIZES) (by rfl) T.m_LONG_SIZES rfl) (by rfl)) (pss_one (ps_ret (pe_call G_plain_cells (hr.mono (by decide)) (by rfl) T.m_plain_cells T.k_plain_cells T.b_plain_cells .nil pass0 (pa_cons (pv 0) pa_nil)))) pss_nil)
      (pss_one (ps_ret (pe_ifExp (pt_val (pv 3)) (pe_call G_long_cells (hr.mono (by decide)) (by rfl) T.m_long_cells T.k_long_cells T.b_long_cells .nil pass0 (pa_cons (pv 0) (pa_cons (pv 2) pa_nil))) (pe_call G_short_cells (hr.mono (by decide)) (by rfl) T.m_short_cells T.k_short_cells T.b_short_cells .nil pass0 (pa_cons (pv 0) (pa_cons (pe_op op_sub (pv 2) (pv 1)) pa_nil)))))))), fun F0 H0 ds h => ?_⟩)
  · obtain ⟨row, p, q, far, rfl, _⟩ := h; rfl
  obtain ⟨row, p, q, far, rfl, hrow⟩ := h
  dsimp only [cxOf, env0, env1, List.map, List.length, List.replicate, List.cons_append, List.nil_append, List.append, Nat.reduceAdd, Nat.reduceSub, Nat.zero_add]
  obtain ⟨w', rest, hone, _⟩ := rowS_good hrow
  subst hone
  refine sm_seq (sm_if ?_)
  repeat walk_at "yx"
  refine ways (fun h => ?_) (fun h => ?_)
  · have hz : w' = "address" := of_decide_eq_true h
    subst hz
    obtain ⟨n, rfl⟩ := addr_shape hrow
    refine sm_retO (eo_lst ?_)
    repeat walk_at "yx"
    exact ⟨_, _, _, _, rfl, by rw [cells_at (k := 9) (by decide +kernel)]; rfl⟩
  have n1 : w' ≠ "address" := of_decide_eq_false h
  refine sm_next ?_
  refine sm_seq (sm_if (et_test (ev_niKD T.kd_LONG_SIZES ?_)))
  refine ev_op (ev_var rfl (ev_int (o_ixAT (atI_toNat (by decide) rfl) (str_ex ?_))))
  refine bl_ex (ways (fun h => ?_) (fun h => ?_))
  · have hno : ∀ w rest', Dt.tup (.str w' :: rest) = .tup (.str w :: rest') → ¬ (twoForms w ∨ w = "address") := fun w rest' e => by
      cases e
      rintro (q | q)
      · rw [long_some.mpr q] at h; cases h
      · exact n1 q
    refine sm_retO (eo_call ?_)
    repeat walk_at "yx"
    refine plain_k hrow hno ?_
    exact ⟨_, _, _, _, rfl, plain_same hrow hno p q far⟩
  · have hl : LongRow (.tup (.str w' :: rest)) := ⟨hrow, w', rest, rfl, long_some.mp (by simpa using h)⟩
    refine sm_next ?_
    refine sm_retO (eo_if ?_)
    repeat walk_at "yx"
    refine ways (fun h => ?_) (fun h => ?_)
    · refine eo_call ?_
      repeat walk_at "yx"
      refine long_k hl ?_
      exact ⟨_, _, _, _, rfl, by rw [h]; exact (long_same hl p q).1⟩
    · refine eo_call ?_
      repeat walk_at "yx"
      refine short_k hl ?_
      exact ⟨_, _, _, _, rfl, by rw [h]; exact (long_same hl p q).2⟩
end
end Law
namespace Law
open PySem L2 Y
local macro_rules | `(tactic| walk_at "yv") => `(tactic| ((with_reducible show Ev _ (tVar _) _ _); refine ev_var rfl ?_))
local macro_rules | `(tactic| walk_at "ys") => `(tactic| with_reducible first
  | refine sm_seq ?_ | refine sm_ret ?_ | refine sm_if ?_ | refine sm_set ?_ | refine sm_next ?_ | refine sm_par ?_ | refine sm_drop ?_ | refine sm_brk ?_ | refine sm_cont ?_)
local macro_rules | `(tactic| walk_at "ye") => `(tactic| with_reducible first
  | refine ev_op ?_ | refine ev_and ?_ | refine ev_or ?_ | refine ev_not ?_ | refine ev_if ?_ | refine ev_chain ?_ | refine ev_neg ?_ | refine ev_isInt ?_ | refine ev_isBool ?_ | refine ev_isStr ?_ | refine ev_isList ?_ | refine ev_isTuple ?_ | refine ev_isLT ?_ | refine ev_isDict ?_
  | refine ev_int ?_ | refine ev_str ?_ | refine ev_bl ?_ | refine ev_non ?_ | refine ev_call ?_ | refine ev_cb ?_ | refine ev_lst ?_ | refine ev_tup ?_ | refine ev_join ?_
  | refine ea_nil ?_ | refine ea_cons ?_
  | refine et_B ?_ | refine et_test ?_ | refine et_not ?_ | refine et_and ?_ | refine et_or ?_ | refine et_yes ?_
  | refine o_plusI ?_ | refine o_i0 ?_ | refine o_b0 ?_ | refine o_isN ?_ | refine o_notN ?_
  | refine bl_ex ?_ | refine int_ex ?_ | refine str_ex ?_ | refine lst_ex ?_ | refine tup_ex ?_)
local macro_rules | `(tactic| walk_at "yo") => `(tactic| first
  | ((with_reducible show Ev _ (tOp (rIx _) (tVar _) _) _ _); refine ev_ixOwn rfl ?_)
  | ((with_reducible show Ev _ (tCB _ (tCons (tVar _) tNil)) _ _); refine ev_lenOwn rfl ?_)
  | ((with_reducible show Sm _ (tAsg _ (gSub (tVar _) _ _)) _ _); refine sm_setItem rfl ?_)
  | ((with_reducible show Ev _ (tCall (spB _ _ _) _ _ _) _ _); refine ev_callB rfl rfl ?_))
local macro_rules | `(tactic| walk_at "yc") => `(tactic| first
  | ((with_reducible show CMul _ _); first | exact Or.inr ⟨by decide, by decide⟩ | exact Or.inl ⟨by decide, by decide⟩ | exact Or.inr ⟨by omega, by omega⟩ | exact Or.inl ⟨by omega, by omega⟩)
  | ((with_reducible show CDiv _ _); exact ⟨by first | decide | omega, by first | decide | omega⟩)
  | ((with_reducible show CPow _ _); exact ⟨by decide, by decide, by first | decide | omega⟩)
  | ((show (0 : Int) < _); first | decide | omega))
local macro_rules | `(tactic| walk_at "yd") => `(tactic| first
  | ((with_reducible show plainD _ = true ∧ _); refine ⟨by first | rfl | assumption, ?_⟩)
  | ((with_reducible show (_ = true → _) ∧ (_ = false → _)); first | refine way_t rfl ?_ | refine way_f rfl ?_ | refine way_t (by decide +kernel) ?_ | refine way_f (by decide +kernel) ?_)
  | ((with_reducible show Cal _ _ _ _ _); first | (with_reducible refine c_int ?_) | (with_reducible refine c_abs ?_) | (refine c_len rfl ?_) | (refine c_len (if_pos (by assumption)) ?_))
  | ((with_reducible show Op2 _ (rEqA _) _ _ _ _); refine o_eqA rfl ?_)
  | ((with_reducible show Op2 _ (rNeA _) _ _ _ _); refine o_neA rfl ?_)
  | ((with_reducible show Op2 _ (rInA _) _ (Dt.str _) (Dt.lst _) _); refine o_inAL rfl rfl ?_)
  | ((with_reducible show Op2 _ (rInA _) _ (Dt.str _) (Dt.tup _) _); refine o_inAT rfl rfl ?_)
  | ((with_reducible show Op2 _ (rI _ _) _ _ _ _); refine o_i (by walk_at "yc") ?_)
  | ((with_reducible show Op2 _ (rIx _) _ (Dt.tup _) _ _); refine o_ixAT (atI_toNat (by decide) rfl) ?_)
  | ((with_reducible show Op2 _ (rIx _) _ (Dt.lst _) _ _); refine o_ixAL (atI_toNat (by decide) rfl) ?_)
  | ((with_reducible show ∃ x, atI _ _ = some x ∧ _); refine ⟨_, rfl, ?_⟩)
  | ((with_reducible show ∃ x, ixN _ _ = some x ∧ _); refine ⟨_, rfl, ?_⟩)
  | ((with_reducible show List.length _ ≤ 100000 ∧ _); refine ⟨by (try simp only [List.length_cons, List.length_nil]); first | decide | omega, ?_⟩))
local macro_rules | `(tactic| walk_at "y") => `(tactic| first | walk_at "yo" | walk_at "ye" | walk_at "yv" | walk_at "ys" | walk_at "yd")
local macro_rules | `(tactic| walk_at "yx") => `(tactic| first | walk_at "yo" | walk_at "ye" | walk_at "yv" | walk_at "yd")
def stubD (a : Int) : List Dt := halvesD 3 a ++ [.int (cellD 6 3 3 0), .int (cellD 12 3 0 0)]
def stubPost (ds : List Dt) (xs : List Dt) : Prop := ∃ v : Int, ds = [.int v] ∧ xs = stubD v
theorem stub_k {v : Int} {R : List Dt → Prop} (h : R (stubD v)) : intPre [.int v] ∧ ∀ d, stubPost [.int v] d → R d := ⟨⟨v, rfl⟩, fun d ⟨_, e, e2⟩ => by cases e; rw [e2]; exact h⟩
section
variable {P : Program} {w : World} {K : PySem.W.Frag} {mg : Str → Option Value} {base : Heap}

theorem ok_stub_cells (T : Tx K mg w) : FnOk P w K mg base CX0 4 T.a_stub_cells T.d_stub_cells ["slot"] (spO K intPre stubPost) := by
  have G_cell_of := ok_cell_of (P := P) (w := w) (base := base) T
  have G_halves_put := ok_halves_put (P := P) (w := w) (base := base) T
  refine fn_own T.F_stub_cells sc_stub_cells (fun ds h => ?_) (fun cdv A outer s H E hr => ⟨_, (pss_one (ps_ret (pe_op (op_plus (K := K)) (pe_call G_halves_put (hr.mono (by decide)) (by rfl) T.m_halves_put T.k_halves_put T.b_halves_put .nil pass0 (pa_cons (pe_glob (v := .int 3) (by rfl) T.m_FAR T.r_FAR) (pa_cons (pv 0) pa_nil))) (pe_lst (pa_cons (pe_call G_cell_of (hr.mono (by decide)) (by rfl) T.m_cell_of T.k_cell_of (T.b_cell_of_3) (T.v_cell_of_3) pass0 (pa_cons pe_str (pa_cons (pe_glob (v := .int 3) (by rfl) T.m_FAR T.r_FAR) (pa_cons (pe_glob (v := .int 3) (by rfl) T.m_FAR T.r_FAR) pa_nil)))) (pa_cons (pe_call G_cell_of (hr.mono (by decide)) (by rfl) T.m_cell_of T.k_cell_of (T.b_cell_of_2) (T.v_cell_of_2) pass0 (pa_cons pe_str (pa_cons (pe_glob (v := .int 3) (by rfl) T.m_FAR T.r_FAR) pa_nil))) pa_nil)))))), fun F0 H0 ds h => ?_⟩)
  · obtain ⟨v, rfl⟩ := h; rfl
  · obtain ⟨v, rfl⟩ := h
    dsimp only [cxOf, env0, env1, List.map, List.length, List.replicate, List.cons_append, List.nil_append, List.append, Nat.reduceAdd, Nat.reduceSub, Nat.zero_add]
    refine sm_retO (eo_cat (EvO.ev (eo_call ?_)))
    repeat walk_at "yx"
    refine halves_k ⟨by decide, by decide⟩ ⟨_, rfl, ?_⟩
    refine ev_lst (ea_cons (ev_callD (dds := [.int 0]) (fun F => .cons (.int 0) .nil) ?_))
    repeat walk_at "yx"
    refine cell_k (j := 6) (by decide +kernel) ⟨by decide, by decide⟩ ⟨by decide, by decide⟩ ⟨by decide, by decide⟩ ?_
    refine ea_cons (ev_callD (dds := [.int 0, .int 0]) (fun F => .cons (.int 0) (.cons (.int 0) .nil)) ?_)
    repeat walk_at "yx"
    refine cell_k (j := 12) (by decide +kernel) ⟨by decide, by decide⟩ ⟨by decide, by decide⟩ ⟨by decide, by decide⟩ ?_
    repeat walk_at "yx"
    exact ⟨by show 2 + 2 ≤ 100000; decide, v, rfl, rfl⟩
end
end Law
namespace Law
open PySem L2 Y
local macro_rules | `(tactic| walk_at "yv") => `(tactic| ((with_reducible show Ev _ (tVar _) _ _); refine ev_var rfl ?_))
local macro_rules | `(tactic| walk_at "ys") => `(tactic| with_reducible first
  | refine sm_seq ?_ | refine sm_ret ?_ | refine sm_if ?_ | refine sm_set ?_ | refine sm_next ?_ | refine sm_par ?_ | refine sm_drop ?_ | refine sm_brk ?_ | refine sm_cont ?_)
local macro_rules | `(tactic| walk_at "ye") => `(tactic| with_reducible first
  | refine ev_op ?_ | refine ev_and ?_ | refine ev_or ?_ | refine ev_not ?_ | refine ev_if ?_ | refine ev_chain ?_ | refine ev_neg ?_ | refine ev_isInt ?_ | refine ev_isBool ?_ | refine ev_isStr ?_ | refine ev_isList ?_ | refine ev_isTuple ?_ | refine ev_isLT ?_ | refine ev_isDict ?_
  | refine ev_int ?_ | refine ev_str ?_ | refine ev_bl ?_ | refine ev_non ?_ | refine ev_call ?_ | refine ev_cb ?_ | refine ev_lst ?_ | refine ev_tup ?_ | refine ev_join ?_
  | refine ea_nil ?_ | refine ea_cons ?_
  | refine et_B ?_ | refine et_test ?_ | refine et_not ?_ | refine et_and ?_ | refine et_or ?_ | refine et_yes ?_
  | refine o_plusI ?_ | refine o_i0 ?_ | refine o_b0 ?_ | refine o_isN ?_ | refine o_notN ?_
  | refine bl_ex ?_ | refine int_ex ?_ | refine str_ex ?_ | refine lst_ex ?_ | refine tup_ex ?_)
local macro_rules | `(tactic| walk_at "yo") => `(tactic| first
  | ((with_reducible show Ev _ (tOp (rIx _) (tVar _) _) _ _); refine ev_ixOwn rfl ?_)
  | ((with_reducible show Ev _ (tCB _ (tCons (tVar _) tNil)) _ _); refine ev_lenOwn rfl ?_)
  | ((with_reducible show Sm _ (tAsg _ (gSub (tVar _) _ _)) _ _); refine sm_setItem rfl ?_)
  | ((with_reducible show Ev _ (tCall (spB _ _ _) _ _ _) _ _); refine ev_callB rfl rfl ?_))
local macro_rules | `(tactic| walk_at "yc") => `(tactic| first
  | ((with_reducible show CMul _ _); first | exact Or.inr ⟨by decide, by decide⟩ | exact Or.inl ⟨by decide, by decide⟩ | exact Or.inr ⟨by omega, by omega⟩ | exact Or.inl ⟨by omega, by omega⟩)
  | ((with_reducible show CDiv _ _); exact ⟨by first | decide | omega, by first | decide | omega⟩)
  | ((with_reducible show CPow _ _); exact ⟨by decide, by decide, by first | decide | omega⟩)
  | ((show (0 : Int) < _); first | decide | omega))
local macro_rules | `(tactic| walk_at "yd") => `(tactic| first
  | ((with_reducible show plainD _ = true ∧ _); refine ⟨by first | rfl | assumption, ?_⟩)
  | ((with_reducible show (_ = true → _) ∧ (_ = false → _)); first | refine way_t rfl ?_ | refine way_f rfl ?_ | refine way_t (by decide +kernel) ?_ | refine way_f (by decide +kernel) ?_)
  | ((with_reducible show Cal _ _ _ _ _); first | (with_reducible refine c_int ?_) | (with_reducible refine c_abs ?_) | (refine c_len rfl ?_) | (refine c_len (if_pos (by assumption)) ?_))
  | ((with_reducible show Op2 _ (rEqA _) _ _ _ _); refine o_eqA rfl ?_)
  | ((with_reducible show Op2 _ (rNeA _) _ _ _ _); refine o_neA rfl ?_)
  | ((with_reducible show Op2 _ (rInA _) _ (Dt.str _) (Dt.lst _) _); refine o_inAL rfl rfl ?_)
  | ((with_reducible show Op2 _ (rInA _) _ (Dt.str _) (Dt.tup _) _); refine o_inAT rfl rfl ?_)
  | ((with_reducible show Op2 _ (rI _ _) _ _ _ _); refine o_i (by walk_at "yc") ?_)
  | ((with_reducible show Op2 _ (rIx _) _ (Dt.tup _) _ _); refine o_ixAT (atI_toNat (by decide) rfl) ?_)
  | ((with_reducible show Op2 _ (rIx _) _ (Dt.lst _) _ _); refine o_ixAL (atI_toNat (by decide) rfl) ?_)
  | ((with_reducible show ∃ x, atI _ _ = some x ∧ _); refine ⟨_, rfl, ?_⟩)
  | ((with_reducible show ∃ x, ixN _ _ = some x ∧ _); refine ⟨_, rfl, ?_⟩)
  | ((with_reducible show List.length _ ≤ 100000 ∧ _); refine ⟨by (try simp only [List.length_cons, List.length_nil]); first | decide | omega, ?_⟩))
local macro_rules | `(tactic| walk_at "y") => `(tactic| first | walk_at "yo" | walk_at "ye" | walk_at "yv" | walk_at "ys" | walk_at "yd")
local macro_rules | `(tactic| walk_at "yx") => `(tactic| first | walk_at "yo" | walk_at "ye" | walk_at "yv" | walk_at "yd")

def nearN (c : Int) : Int := if c < 128 then c else c - 256
structure Ms where
  own : List Int
  app : List Dt
  here : Int
  way : Str
def stepK (h0 h1 : Int) (j a b c : Int) (m : Ms) : Ms :=
  if j = 2 then { m with own := m.own.set a.toNat (c * 256), here := (m.here + 1) % 65536 }
  else if j = 3 then { m with own := m.own.set a.toNat ((m.own.getD a.toNat 0 + nearN c + 65536) % 65536), here := (m.here + 1) % 65536 }
  else if j = 4 then { m with own := m.own.set a.toNat ((m.own.getD a.toNat 0 + m.own.getD b.toNat 0) % 65536), here := (m.here + 1) % 65536 }
  else if j = 5 then { m with own := m.own.set a.toNat ((m.own.getD a.toNat 0 - m.own.getD b.toNat 0 + 65536) % 65536), here := (m.here + 1) % 65536 }
  else if j = 6 then { m with own := m.own.set a.toNat (if (m.own.getD b.toNat 0 + c) % 65536 = h0 then h1 else -1), here := (m.here + 1) % 65536 }
  else if j = 7 then { m with app := [.tup [.int ((m.own.getD b.toNat 0 + c) % 65536), .int (m.own.getD a.toNat 0)]], here := (m.here + 1) % 65536, way := "store" }
  else if j = 8 ∨ (j = 9 ∧ m.own.getD a.toNat 0 = 0) then { m with here := (m.here + nearN c + 65536) % 65536 }
  else if j = 11 then { m with own := m.own.set a.toNat ((m.here + nearN c + 65536) % 65536), here := (m.here + 1) % 65536 }
  else if j = 10 then { m with here := (m.here + nearN c + 65536) % 65536, way := "call" }
  else if j = 12 then { m with here := m.own.getD a.toNat 0, way := "go" }
  else if j = 13 then { m with here := m.own.getD a.toNat 0, way := "call" }
  else if j = 0 then { m with here := (m.here + 1) % 65536, way := "fault" }
  else if j = 1 then { m with here := (m.here + 1) % 65536, way := "halt" }
  else if j = 14 then { m with here := (m.here + 1) % 65536, way := "back" }
  else if j = 15 then { m with here := (m.here + 1) % 65536, way := "out " ++ (toString (m.own.getD a.toNat 0) : String) }
  else { m with here := (m.here + 1) % 65536 }
def runM (cs : List Int) (p h0 h1 : Int) : Nat → Ms → Ms
  | 0, m => m
  | n + 1, m => if m.way = "" then (match cs[((m.here - p + 65536) % 65536).toNat]? with
    | some v => runM cs p h0 h1 n (stepK h0 h1 (v / 4096) (v / 1024 % 4) (v / 256 % 4) (v % 256) m)
    | none => m) else m
def outD (m : Ms) : Dt := .tup [.lst (m.own.map Dt.int ++ m.app), .int m.here, .str m.way]
def doneM (cs : List Int) (p h0 h1 : Int) (rs : List Int) : Ms := runM cs p h0 h1 (cs.length + 1) ⟨rs, [], p, ""⟩
def inW (x : Int) : Prop := -1 ≤ x ∧ x < 65536
def donePre (ds : List Dt) : Prop := ∃ (cs rs : List Int) (p h0 h1 : Int), ds = [.lst (cs.map Dt.int), .int p, .lst (rs.map Dt.int), .tup [.int h0, .int h1]] ∧ cs.length ≤ 1000 ∧ rs.length = 4 ∧ (∀ x ∈ rs, inW x) ∧ inW h1 ∧ (∀ v ∈ cs, 0 ≤ v ∧ v < 65536)
def donePost (ds : List Dt) (d : Dt) : Prop := ∃ (cs rs : List Int) (p h0 h1 : Int), ds = [.lst (cs.map Dt.int), .int p, .lst (rs.map Dt.int), .tup [.int h0, .int h1]] ∧ d = outD (doneM cs p h0 h1 rs)
theorem map_int_inj {a b : List Int} (h : a.map Dt.int = b.map Dt.int) : a = b := by
  induction a generalizing b with
  | nil => cases b with
    | nil => rfl
    | cons y b => simp at h
  | cons x a ih => cases b with
    | nil => simp at h
    | cons y b =>
      simp only [List.map_cons, List.cons.injEq, Dt.int.injEq] at h
      rw [h.1, ih h.2]
theorem done_k {cs rs : List Int} {p h0 h1 : Int} {R : Dt → Prop} (a1 : cs.length ≤ 1000) (a2 : rs.length = 4) (a3 : ∀ x ∈ rs, inW x) (a4 : inW h1) (a5 : ∀ v ∈ cs, 0 ≤ v ∧ v < 65536) (h : R (outD (doneM cs p h0 h1 rs))) :
    donePre [.lst (cs.map Dt.int), .int p, .lst (rs.map Dt.int), .tup [.int h0, .int h1]] ∧ ∀ d, donePost [.lst (cs.map Dt.int), .int p, .lst (rs.map Dt.int), .tup [.int h0, .int h1]] d → R d :=
  ⟨⟨cs, rs, p, h0, h1, rfl, a1, a2, a3, a4, a5⟩, fun d ⟨cs', rs', p', q0, q1, e, e2⟩ => by
    simp only [List.cons.injEq, Dt.lst.injEq, Dt.int.injEq, Dt.tup.injEq, and_true] at e
    obtain ⟨e1, e3, e4, e5, e6⟩ := e
    rw [e2, ← map_int_inj e1, ← map_int_inj e4, ← e3, ← e5, ← e6]; exact h⟩
theorem own_at {l : List Int} {a : Int} (hl : l.length = 4) (h0 : 0 ≤ a) (h1 : a < 4) : atI (l.map Dt.int) a = some (.int (l.getD a.toNat 0)) := by
  refine atI_toNat h0 ?_
  have : a.toNat < l.length := by omega
  rw [List.getElem?_map, List.getD_eq_getElem?_getD, List.getElem?_eq_getElem this]; rfl
theorem own_ix {l : List Int} {a : Int} (hl : l.length = 4) (h0 : 0 ≤ a) (h1 : a < 4) : ixN (l.map Dt.int).length a = some a.toNat := by
  rw [List.length_map]
  unfold ixN
  rw [if_pos h0, if_pos (by omega)]
theorem own_set {l : List Int} {k : Nat} {v : Int} : (l.map Dt.int).set k (.int v) = (l.set k v).map Dt.int := by rw [List.map_set]
theorem set_in {l : List Int} {k : Nat} {v : Int} (h : ∀ x ∈ l, inW x) (hv : inW v) : ∀ x ∈ l.set k v, inW x := fun x hx => by
  rcases List.mem_or_eq_of_mem_set hx with h1 | h1
  · exact h x h1
  · rw [h1]; exact hv
theorem get_in {l : List Int} {k : Nat} (h : ∀ x ∈ l, inW x) : inW (l.getD k 0) := by
  rw [List.getD_eq_getElem?_getD]
  cases e : l[k]? with
  | none => exact ⟨by decide, by decide⟩
  | some v => exact h v (List.mem_of_getElem? e)
theorem inD_3 {j : Int} : inD (.int j) [.int 10, .int 12, .int 13] = true ↔ j = 10 ∨ j = 12 ∨ j = 13 := by
  simp only [inD, List.any_cons, List.any_nil, eqD, Bool.or_false, Bool.or_eq_true, beq_iff_eq]
  constructor <;> (intro h; omega)
theorem inD_4 {j : Int} : inD (.int j) [.int 0, .int 1, .int 14, .int 15] = true ↔ j = 0 ∨ j = 1 ∨ j = 14 ∨ j = 15 := by
  simp only [inD, List.any_cons, List.any_nil, eqD, Bool.or_false, Bool.or_eq_true, beq_iff_eq]
  constructor <;> (intro h; omega)
theorem str_len {i : Int} (h : -1 ≤ i ∧ i < 65536) : ("out " : Str).length + (Str.ofString (toString i)).length ≤ 100000 := by
  by_cases h0 : 0 ≤ i
  · have := PyProof.Rows.toString_length_le (k := 10) h0 (by decide) (by omega)
    have e : ("out " : Str).length = 4 := by decide +kernel
    omega
  · have e : i = -1 := by omega
    subst e
    decide +kernel
/-- what holds of a run's state -/
def MsOk (m : Ms) : Prop := m.own.length = 4 ∧ (∀ x ∈ m.own, inW x) ∧ (m.way = "" → m.app = [])
def slM (cs rs : List Int) (p h0 h1 : Int) (c : Addr) (m : Ms) (r : List Sl) : List Sl := [.d (.lst (cs.map Dt.int)), .d (.int p), .d (.lst (rs.map Dt.int)), .d (.tup [.int h0, .int h1]), .own c (m.own.map Dt.int ++ m.app), .d (.int m.here), .d (.str m.way)] ++ r
section
variable {P : Program} {w : World} {K : PySem.W.Frag} {mg : Str → Option Value} {base : Heap}

theorem ok__law_done (T : Tx K mg w) : FnOk P w K mg base CX0 1 T.a__law_done T.d__law_done ["_law_lot", "_law_place_y", "_law_registers", "_law_held"] (spD K donePre donePost) := by
  refine fn_data T.F__law_done sc__law_done (fun ds h => ?_) (fun cdv A outer s H E hr => ⟨_, (pss_cons (ps_par3 (i := 4) (j := 5) (l := 6) rfl sc__law_done.nd rfl rfl rfl (by decide) (by decide) (by decide) rfl rfl rfl (pa_cons (pe_callTy (call_listB (K := K) rfl) (by rfl) T.n_list PyProof.Rows.boot_list (pa_cons (pv 2) pa_nil)) (pa_cons (pv 1) (pa_cons pe_str pa_nil))) rfl)
      (pss_cons (ps_for PassesOwn.never rfl (pi_range1 (by rfl) T.n_range (pa_cons (pe_op (op_plus (K := K)) (pe_callB (call_lenA (K := K)) (by rfl) T.n_len PySem.boot_len (pa_cons (pv 0) pa_nil)) pe_int) pa_nil)) (pg_name (i := 7) sc__law_done.nd rfl (Or.inl rfl)) (pss_cons (ps_set (i := 8) sc__law_done.nd rfl (Or.inl rfl) (pe_op op_mod (pe_callTy call_int1 (by rfl) T.n_int PyProof.Rows.boot_int (pa_cons (pe_op (op_plus (K := K)) (pe_op op_sub (pv 5) (pv 1)) pe_int) pa_nil)) pe_int))
      (pss_cons (ps_if (PW.pt (pw_or (pt_cmpR op_ge (pv 8) (pe_callB (call_lenA (K := K)) (by rfl) T.n_len PySem.boot_len (pa_cons (pv 0) pa_nil)) (nomark _)) (pw_or1 (pt_cmpR (op_neA (K := K) hr.units) (pv 6) pe_str (nomark _))))) (pss_one ps_break) pss_nil)
      (pss_cons (ps_set (i := 9) sc__law_done.nd rfl (Or.inl rfl) (pe_ix (ix_any (K := K)) (pv 0) (pv 8) (fun _ _ => rfl)))
      (pss_cons (ps_par3 (i := 10) (j := 11) (l := 12) rfl sc__law_done.nd rfl rfl rfl (by decide) (by decide) (by decide) rfl rfl rfl (pa_cons (pe_op op_fdiv (pv 9) pe_int) (pa_cons (pe_op op_mod (pe_op op_fdiv (pv 9) pe_int) pe_int) (pa_cons (pe_op op_mod (pe_op op_fdiv (pv 9) pe_int) pe_int) pa_nil))) rfl)
      (pss_cons (ps_set (i := 13) sc__law_done.nd rfl (Or.inl rfl) (pe_op op_mod (pv 9) pe_int))
      (pss_cons (ps_set (i := 14) sc__law_done.nd rfl (Or.inl rfl) (pe_ifExp (pt_cmpR op_lt (pv 13) pe_int (nomark _)) (pv 13) (pe_op op_sub (pv 13) pe_int)))
      (pss_cons (ps_par rfl sc__law_done.nd (i := 15) (j := 5) rfl rfl (by decide) rfl rfl (pa_cons (pe_op op_mod (pe_callTy call_int1 (by rfl) T.n_int PyProof.Rows.boot_int (pa_cons (pe_op (op_plus (K := K)) (pe_op (op_plus (K := K)) (pv 5) (pv 14)) pe_int) pa_nil)) pe_int) (pa_cons (pe_op op_mod (pe_callTy call_int1 (by rfl) T.n_int PyProof.Rows.boot_int (pa_cons (pe_op (op_plus (K := K)) (pv 5) pe_int) pa_nil)) pe_int) pa_nil)) rfl)
      (pss_one (ps_if (pt_cmpR (op_eqA (K := K) hr.units) (pv 10) pe_int (nomark _)) (pss_one (ps_asg (pe_op op_mul (pv 13) pe_int) (pg_sub (pv 4) (pv 11) set_list))) (pss_one (ps_if (pt_cmpR (op_eqA (K := K) hr.units) (pv 10) pe_int (nomark _)) (pss_one (ps_asg (pe_op op_mod (pe_callTy call_int1 (by rfl) T.n_int PyProof.Rows.boot_int (pa_cons (pe_op (op_plus (K := K)) (pe_op (op_plus (K := K)) (pe_ix (ix_any (K := K)) (pv 4) (pv 11) (fun _ _ => rfl)) (pv 14)) pe_int) pa_nil)) pe_int) (pg_sub (pv 4) (pv 11) set_list))) (pss_one (ps_if (pt_cmpR (op_eqA (K := K) hr.units) (pv 10) pe_int (nomark _)) (pss_one (ps_asg (pe_op op_mod (pe_callTy call_int1 (by rfl) T.n_int PyProof.Rows.boot_int (pa_cons (pe_op (op_plus (K := K)) (pe_ix (ix_any (K := K)) (pv 4) (pv 11) (fun _ _ => rfl)) (pe_ix (ix_any (K := K)) (pv 4) (pv 12) (fun _ _ => rfl))) pa_nil)) pe_int) (pg_sub (pv 4) (pv 11) set_list))) (pss_one (ps_if (pt_cmpR (op_eqA (K := K) hr.units) (pv 10) pe_int (nomark _)) (pss_one (ps_asg (pe_op op_mod (pe_callTy call_int1 (by rfl) T.n_int PyProof.Rows.boot_int (pa_cons (pe_op (op_plus (K := K)) (pe_op op_sub (pe_ix (ix_any (K := K)) (pv 4) (pv 11) (fun _ _ => rfl)) (pe_ix (ix_any (K := K)) (pv 4) (pv 12) (fun _ _ => rfl))) pe_int) pa_nil)) pe_int) (pg_sub (pv 4) (pv 11) set_list))) (pss_one (ps_if (pt_cmpR (op_eqA (K := K) hr.units) (pv 10) pe_int (nomark _)) (pss_one (ps_asg (pe_ifExp (pt_cmpR (op_eqA (K := K) hr.units) (pe_op op_mod (pe_callTy call_int1 (by rfl) T.n_int PyProof.Rows.boot_int (pa_cons (pe_op (op_plus (K := K)) (pe_ix (ix_any (K := K)) (pv 4) (pv 12) (fun _ _ => rfl)) (pv 13)) pa_nil)) pe_int) (pe_ix (ix_any (K := K)) (pv 3) pe_int (fun _ _ => rfl)) (nomark _)) (pe_ix (ix_any (K := K)) (pv 3) pe_int (fun _ _ => rfl)) (pe_un un_neg pe_int)) (pg_sub (pv 4) (pv 11) set_list))) (pss_one (ps_if (pt_cmpR (op_eqA (K := K) hr.units) (pv 10) pe_int (nomark _)) (pss_cons (ps_set (i := 6) sc__law_done.nd rfl (Or.inl rfl) pe_str)
      (pss_one (ps_expr (pe_bm PySem.F.plainAttrs_list PySem.F.slot_list_append PySem.F.type_list_append mt_append (pv 4) (pa_cons (pe_tup (pa_cons (pe_op op_mod (pe_callTy call_int1 (by rfl) T.n_int PyProof.Rows.boot_int (pa_cons (pe_op (op_plus (K := K)) (pe_ix (ix_any (K := K)) (pv 4) (pv 12) (fun _ _ => rfl)) (pv 13)) pa_nil)) pe_int) (pa_cons (pe_ix (ix_any (K := K)) (pv 4) (pv 11) (fun _ _ => rfl)) pa_nil))) pa_nil))))) (pss_one (ps_if (PW.pt (pw_or (pt_cmpR (op_eqA (K := K) hr.units) (pv 10) pe_int (nomark _)) (pw_or1 (PW.pt (pw_and (pt_cmpR (op_eqA (K := K) hr.units) (pv 10) pe_int (nomark _)) (pw_and1 (pt_cmpR (op_eqA (K := K) hr.units) (pe_ix (ix_any (K := K)) (pv 4) (pv 11) (fun _ _ => rfl)) pe_int (nomark _)))))))) (pss_one (ps_set (i := 5) sc__law_done.nd rfl (Or.inl rfl) (pv 15))) (pss_one (ps_if (pt_cmpR (op_eqA (K := K) hr.units) (pv 10) pe_int (nomark _)) (pss_one (ps_asg (pv 15) (pg_sub (pv 4) (pv 11) set_list))) (pss_one (ps_if (pt_cmpR (op_inA (K := K)) (pv 10) (pe_lst (pa_cons pe_int (pa_cons pe_int (pa_cons pe_int pa_nil)))) (by rfl)) (pss_one (ps_par rfl sc__law_done.nd (i := 5) (j := 6) rfl rfl (by decide) rfl rfl (pa_cons (pe_ifExp (pt_cmpR (op_eqA (K := K) hr.units) (pv 10) pe_int (nomark _)) (pv 15) (pe_ix (ix_any (K := K)) (pv 4) (pv 11) (fun _ _ => rfl))) (pa_cons (pe_ifExp (pt_cmpR (op_eqA (K := K) hr.units) (pv 10) pe_int (nomark _)) pe_str pe_str) pa_nil)) rfl)) (pss_one (ps_if (pt_cmpR (op_inA (K := K)) (pv 10) (pe_lst (pa_cons pe_int (pa_cons pe_int (pa_cons pe_int (pa_cons pe_int pa_nil))))) (by rfl)) (pss_one (ps_set (i := 6) sc__law_done.nd rfl (Or.inl rfl) (pe_dget (hu_of hr) (pe_disp (pps_cons pe_int pe_str (pps_cons pe_int pe_str (pps_cons pe_int pe_str (pps_cons pe_int (pe_op (op_plus (K := K)) pe_str (pe_callTy call_str_int (by rfl) T.n_str PyProof.Rows.boot_str (pa_cons (pe_ix (ix_any (K := K)) (pv 4) (pv 11) (fun _ _ => rfl)) pa_nil))) pps_nil)))) (by rfl) (by rfl) (fun z => by cases z) (by decide)) (pv 10) (fun _ _ => rfl)))) pss_nil))))))))))))))))))))))))))))
      (pss_one (ps_ret (pe_tup (pa_cons (pv 4) (pa_cons (pv 5) (pa_cons (pv 6) pa_nil)))))))), fun F0 H0 ds h => ?_⟩)
  · obtain ⟨cs, rs, p, h0, h1, rfl, _⟩ := h; rfl
  obtain ⟨cs, rs, p, h0, h1, rfl, hcl, hrl, hrs, hh1, hcs⟩ := h
  dsimp only [cxOf, env0, env1, List.map, List.length, List.replicate, List.cons_append, List.nil_append, List.append, Nat.reduceAdd, Nat.reduceSub, Nat.zero_add]
  refine sm_seq (sm_par3O (eo_listL (ea_cons (ev_var rfl (ea_nil ⟨_, .inl rfl, ?_⟩)))))
  repeat walk_at "yx"
  intro c
  refine sm_cut (fun e => ∃ s7 s8 s9 s10 s11 s12 s13 s14 s15, e = slM cs rs p h0 h1 c (doneM cs p h0 h1 rs) [s7, s8, s9, s10, s11, s12, s13, s14, s15]) ?_ ?_
  · refine sm_for (ei_rng1 ?_)
    repeat walk_at "yx"
    have hlen : ((cs.map Dt.int).length : Int) = cs.length := by rw [List.length_map]
    refine ⟨_, rfl, by omega, by omega, fun i e => ∃ m s7 s8 s9 s10 s11 s12 s13 s14 s15, e = slM cs rs p h0 h1 c m [s7, s8, s9, s10, s11, s12, s13, s14, s15] ∧ MsOk m ∧ doneM cs p h0 h1 rs = runM cs p h0 h1 (cs.length + 1 - i) m, ?_, ?_, ?_⟩
    · exact ⟨⟨rs, [], p, ""⟩, _, _, _, _, _, _, _, _, _, by unfold slM; rw [List.append_nil]; rfl, ⟨hrl, hrs, fun _ => rfl⟩, rfl⟩
    · rintro i x es' hx ⟨m, s7, s8, s9, s10, s11, s12, s13, s14, s15, rfl, ⟨hm1, hm2, hm3⟩, hrun⟩
      obtain ⟨hi, rfl⟩ := rangeD_get hx
      obtain ⟨n, hn⟩ : ∃ n, cs.length + 1 - i = n + 1 := ⟨cs.length - i, by omega⟩
      rw [hn] at hrun
      have hn2 : cs.length + 1 - (i + 1) = n := by omega
      unfold slM
      refine tg_name ?_
      refine sm_seq (sm_set ?_)
      repeat walk_at "yx"
      generalize hsp : (m.here - p + 65536) % 65536 = sp
      have hsp0 : 0 ≤ sp ∧ sp < 65536 := by omega
      have stop : ¬ (m.way = "" ∧ sp < cs.length) → doneM cs p h0 h1 rs = m := fun hno => by
        rw [hrun]
        show (if m.way = "" then (match cs[((m.here - p + 65536) % 65536).toNat]? with | some v => _ | none => m) else m) = m
        by_cases hw : m.way = ""
        · rw [if_pos hw, hsp, List.getElem?_eq_none (by by_cases hq : sp < cs.length; exact absurd ⟨hw, hq⟩ hno; omega)]
        · rw [if_neg hw]
      refine sm_seq (sm_if ?_)
      repeat walk_at "yx"
      refine ways (fun h => ?_) (fun h => ?_)
      · have h2 : ((cs.map Dt.int).length : Int) ≤ sp := of_decide_eq_true h
        repeat walk_at "y"
        exact ⟨_, _, _, _, _, _, _, _, _, by rw [stop (fun hq => by omega)]; rfl⟩
      have hlt : sp < cs.length := by
        have h2 : ¬ ((cs.map Dt.int).length : Int) ≤ sp := of_decide_eq_false h
        omega
      repeat walk_at "yx"
      refine ways (fun h => ?_) (fun h => ?_)
      · have h2 : ¬ m.way = "" := fun e => by
          have h : (!decide (m.way = "")) = true := h
          rw [decide_eq_true e] at h; cases h
        repeat walk_at "y"
        exact ⟨_, _, _, _, _, _, _, _, _, by rw [stop (fun hq => h2 hq.1)]; rfl⟩
      have hway : m.way = "" := by
        have h : (!decide (m.way = "")) = false := h
        by_cases e : m.way = ""
        · exact e
        · rw [decide_eq_false e] at h; cases h
      have happ := hm3 hway
      have hspn : sp.toNat < cs.length := by omega
      obtain ⟨v, hv⟩ : ∃ v, cs[sp.toNat]? = some v := ⟨_, List.getElem?_eq_getElem hspn⟩
      have hvb := hcs v (List.mem_of_getElem? hv)
      have hstep : doneM cs p h0 h1 rs = runM cs p h0 h1 n (stepK h0 h1 (v / 4096) (v / 1024 % 4) (v / 256 % 4) (v % 256) m) := by
        rw [hrun]
        show (if m.way = "" then (match cs[((m.here - p + 65536) % 65536).toNat]? with | some v => _ | none => m) else m) = _
        rw [if_pos hway, hsp, hv]
      obtain ⟨own, app, here, way⟩ := m
      have happ : app = [] := happ
      have hway : way = "" := hway
      subst happ hway
      have hm1 : own.length = 4 := hm1
      have hm2 : ∀ x ∈ own, inW x := hm2
      rw [List.append_nil]
      refine sm_next ?_
      refine sm_seq (sm_set (ev_op (ev_var rfl (ev_var rfl (o_ixAL (x := .int v) (atI_toNat hsp0.1 (by rw [List.getElem?_map, hv]; rfl)) ?_)))))
      refine sm_seq (sm_par3 ?_)
      repeat walk_at "yx"
      refine ⟨_, _, _, rfl, ?_⟩
      generalize hj : v / 4096 = j at hstep ⊢
      generalize ha : v / 1024 % 4 = a at hstep ⊢
      generalize hb : v / 256 % 4 = b at hstep ⊢
      have ha0 : 0 ≤ a ∧ a < 4 := by omega
      have hb0 : 0 ≤ b ∧ b < 4 := by omega
      refine sm_seq (sm_set ?_)
      repeat walk_at "yx"
      generalize hc : v % 256 = cc at hstep ⊢
      have hc0 : 0 ≤ cc ∧ cc < 256 := by omega
      refine sm_seq (sm_set (Ev.imp (P := fun d => d = .int (nearN cc)) ?_ fun d hd => ?_))
      · refine ev_if ?_
        repeat walk_at "yx"
        refine ways (fun h => ?_) (fun h => ?_)
        · have h2 : cc < 128 := of_decide_eq_true h
          repeat walk_at "yx"
          unfold nearN; rw [if_pos h2]
        · have h2 : ¬ cc < 128 := of_decide_eq_false h
          repeat walk_at "yx"
          unfold nearN; rw [if_neg h2]
      subst hd
      refine sm_seq (sm_par ?_)
      repeat walk_at "yx"
      refine ⟨_, _, rfl, ?_⟩
      have hrest : ∀ (o : List Int) (he : Int) (wy : Str) s7 s8 s9 s10 s11 s12 s13 s14 s15, stepK h0 h1 j a b cc ⟨own, [], here, ""⟩ = ⟨o, [], he, wy⟩ → o.length = 4 → (∀ x ∈ o, inW x) → ∃ m t7 t8 t9 t10 t11 t12 t13 t14 t15, [.d (.lst (cs.map Dt.int)), .d (.int p), .d (.lst (rs.map Dt.int)), .d (.tup [.int h0, .int h1]), .own c (o.map Dt.int), .d (.int he), .d (.str wy), s7, s8, s9, s10, s11, s12, s13, s14, s15] = slM cs rs p h0 h1 c m [t7, t8, t9, t10, t11, t12, t13, t14, t15] ∧ MsOk m ∧ doneM cs p h0 h1 rs = runM cs p h0 h1 (cs.length + 1 - (i + 1)) m := fun o he wy s7 s8 s9 s10 s11 s12 s13 s14 s15 e l w => ⟨⟨o, [], he, wy⟩, s7, s8, s9, s10, s11, s12, s13, s14, s15, by unfold slM; rw [List.append_nil]; rfl, ⟨l, w, fun _ => rfl⟩, by rw [hn2, ← e]; exact hstep⟩
      have hgi : ∀ k, inW (own.getD k 0) := fun k => get_in hm2
      have hga := hgi a.toNat
      have hgb := hgi b.toNat
      have hnr : -128 ≤ nearN cc ∧ nearN cc < 128 := by unfold nearN; split <;> omega
      unfold inW at hga hgb
      refine sm_if ?_
      repeat walk_at "yx"
      refine ways (fun h => ?_) (fun h => ?_)
      · have q : j = 2 := of_decide_eq_true h
        refine sm_setItem rfl ?_
        repeat walk_at "yx"
        refine ⟨_, own_ix hm1 ha0.1 ha0.2, ?_⟩
        rw [own_set]
        exact hrest _ _ _ _ _ _ _ _ _ _ _ _ (by unfold stepK; rw [if_pos q]) (by rw [List.length_set]; exact hm1) (set_in hm2 ⟨by omega, by omega⟩)
      have n2 : ¬ j = 2 := of_decide_eq_false h
      refine sm_if ?_
      repeat walk_at "yx"
      refine ways (fun h => ?_) (fun h => ?_)
      · have q : j = 3 := of_decide_eq_true h
        refine sm_setItem rfl ?_
        repeat walk_at "yx"
        refine ⟨_, own_at hm1 ha0.1 ha0.2, ?_⟩
        repeat walk_at "yx"
        refine ⟨_, own_ix hm1 ha0.1 ha0.2, ?_⟩
        rw [own_set]
        exact hrest _ _ _ _ _ _ _ _ _ _ _ _ (by unfold stepK; rw [if_neg n2, if_pos q]) (by rw [List.length_set]; exact hm1) (set_in hm2 ⟨by omega, by omega⟩)
      have n3 : ¬ j = 3 := of_decide_eq_false h
      refine sm_if ?_
      repeat walk_at "yx"
      refine ways (fun h => ?_) (fun h => ?_)
      · have q : j = 4 := of_decide_eq_true h
        refine sm_setItem rfl ?_
        repeat walk_at "yx"
        refine ⟨_, own_at hm1 ha0.1 ha0.2, ?_⟩
        repeat walk_at "yx"
        refine ⟨_, own_at hm1 hb0.1 hb0.2, ?_⟩
        repeat walk_at "yx"
        refine ⟨_, own_ix hm1 ha0.1 ha0.2, ?_⟩
        rw [own_set]
        exact hrest _ _ _ _ _ _ _ _ _ _ _ _ (by unfold stepK; rw [if_neg n2, if_neg n3, if_pos q]) (by rw [List.length_set]; exact hm1) (set_in hm2 ⟨by omega, by omega⟩)
      have n4 : ¬ j = 4 := of_decide_eq_false h
      refine sm_if ?_
      repeat walk_at "yx"
      refine ways (fun h => ?_) (fun h => ?_)
      · have q : j = 5 := of_decide_eq_true h
        refine sm_setItem rfl ?_
        repeat walk_at "yx"
        refine ⟨_, own_at hm1 ha0.1 ha0.2, ?_⟩
        repeat walk_at "yx"
        refine ⟨_, own_at hm1 hb0.1 hb0.2, ?_⟩
        repeat walk_at "yx"
        refine ⟨_, own_ix hm1 ha0.1 ha0.2, ?_⟩
        rw [own_set]
        exact hrest _ _ _ _ _ _ _ _ _ _ _ _ (by unfold stepK; rw [if_neg n2, if_neg n3, if_neg n4, if_pos q]) (by rw [List.length_set]; exact hm1) (set_in hm2 ⟨by omega, by omega⟩)
      have n5 : ¬ j = 5 := of_decide_eq_false h
      refine sm_if ?_
      repeat walk_at "yx"
      refine ways (fun h => ?_) (fun h => ?_)
      · have q : j = 6 := of_decide_eq_true h
        refine sm_setItem rfl (Ev.imp (P := fun d => d = .int (if (own.getD b.toNat 0 + cc) % 65536 = h0 then h1 else -1)) ?_ fun d hd => ?_)
        · refine ev_if ?_
          repeat walk_at "yx"
          refine ⟨_, own_at hm1 hb0.1 hb0.2, ?_⟩
          repeat walk_at "yx"
          refine ways (fun h => ?_) (fun h => ?_)
          · have h2 : (own.getD b.toNat 0 + cc) % 65536 = h0 := of_decide_eq_true h
            repeat walk_at "yx"
            rw [if_pos h2]
          · have h2 : ¬ (own.getD b.toNat 0 + cc) % 65536 = h0 := of_decide_eq_false h
            repeat walk_at "yx"
            rw [if_neg h2]
        subst hd
        repeat walk_at "yx"
        refine ⟨_, own_ix hm1 ha0.1 ha0.2, ?_⟩
        rw [own_set]
        exact hrest _ _ _ _ _ _ _ _ _ _ _ _ (by unfold stepK; rw [if_neg n2, if_neg n3, if_neg n4, if_neg n5, if_pos q]) (by rw [List.length_set]; exact hm1) (set_in hm2 (by split; exact hh1; exact ⟨by decide, by decide⟩))
      have n6 : ¬ j = 6 := of_decide_eq_false h
      refine sm_if ?_
      repeat walk_at "yx"
      refine ways (fun h => ?_) (fun h => ?_)
      · have q : j = 7 := of_decide_eq_true h
        refine sm_seq (sm_set (ev_str ?_))
        refine sm_append rfl ?_
        repeat walk_at "yx"
        refine ⟨_, own_at hm1 hb0.1 hb0.2, ?_⟩
        repeat walk_at "yx"
        refine ⟨_, own_at hm1 ha0.1 ha0.2, ?_⟩
        repeat walk_at "yx"
        refine ⟨by rw [List.length_map]; omega, ?_⟩
        exact ⟨⟨own, [.tup [.int ((own.getD b.toNat 0 + cc) % 65536), .int (own.getD a.toNat 0)]], (here + 1) % 65536, "store"⟩, _, _, _, _, _, _, _, _, _, rfl, ⟨hm1, hm2, fun e => absurd (show ("store" : Str) = "" from e) (by decide +kernel)⟩, by rw [hn2, hstep]; exact congrArg _ (by unfold stepK; rw [if_neg n2, if_neg n3, if_neg n4, if_neg n5, if_neg n6, if_pos q])⟩
      have n7 : ¬ j = 7 := of_decide_eq_false h
      refine sm_if (EvT.imp (P := fun z => z = decide (j = 8 ∨ (j = 9 ∧ own.getD a.toNat 0 = 0))) ?_ fun z hz => ?_)
      · refine et_or ?_
        repeat walk_at "yx"
        refine ways (fun h => ?_) (fun h => ?_)
        · have q : j = 8 := of_decide_eq_true h
          exact (decide_eq_true (.inl q)).symm
        have n8 : ¬ j = 8 := of_decide_eq_false h
        refine et_and ?_
        repeat walk_at "yx"
        refine ways (fun h => ?_) (fun h => ?_)
        · have q : j = 9 := of_decide_eq_true h
          repeat walk_at "yx"
          refine ⟨_, own_at hm1 ha0.1 ha0.2, ?_⟩
          repeat walk_at "yx"
          show decide (own.getD a.toNat 0 = 0) = _
          by_cases e : own.getD a.toNat 0 = 0
          · rw [decide_eq_true e]; exact (decide_eq_true (.inr ⟨q, e⟩)).symm
          · rw [decide_eq_false e]; exact (decide_eq_false (fun k => k.elim n8 fun k => e k.2)).symm
        · have q : ¬ j = 9 := of_decide_eq_false h
          exact (decide_eq_false (fun k => k.elim n8 fun k => q k.1)).symm
      subst hz
      refine ways (fun h => ?_) (fun h => ?_)
      · have q := of_decide_eq_true h
        refine sm_set (ev_var rfl ?_)
        exact hrest _ _ _ _ _ _ _ _ _ _ _ _ (by unfold stepK; rw [if_neg n2, if_neg n3, if_neg n4, if_neg n5, if_neg n6, if_neg n7, if_pos q]) hm1 hm2
      have n8 := of_decide_eq_false h
      refine sm_if ?_
      repeat walk_at "yx"
      refine ways (fun h => ?_) (fun h => ?_)
      · have q : j = 11 := of_decide_eq_true h
        refine sm_setItem rfl ?_
        repeat walk_at "yx"
        refine ⟨_, own_ix hm1 ha0.1 ha0.2, ?_⟩
        rw [own_set]
        exact hrest _ _ _ _ _ _ _ _ _ _ _ _ (by unfold stepK; rw [if_neg n2, if_neg n3, if_neg n4, if_neg n5, if_neg n6, if_neg n7, if_neg n8, if_pos q]) (by rw [List.length_set]; exact hm1) (set_in hm2 ⟨by omega, by omega⟩)
      have n11 : ¬ j = 11 := of_decide_eq_false h
      refine sm_if (et_B (ev_op (ev_var rfl (ev_lst ?_))))
      repeat walk_at "yx"
      refine o_inAL rfl rfl (bl_ex (ways (fun h => ?_) (fun h => ?_)))
      · refine sm_par ?_
        rcases inD_3.mp h with q | q | q
        · refine ea_cons (ev_if ?_)
          repeat walk_at "yx"
          refine way_t (decide_eq_true q) ?_
          repeat walk_at "yx"
          refine way_f (decide_eq_false (show ¬ j = 12 by omega)) ?_
          repeat walk_at "yx"
          refine ⟨_, _, rfl, ?_⟩
          exact hrest _ _ _ _ _ _ _ _ _ _ _ _ (by unfold stepK; rw [if_neg n2, if_neg n3, if_neg n4, if_neg n5, if_neg n6, if_neg n7, if_neg n8, if_neg n11, if_pos q]) hm1 hm2
        · have m10 : ¬ j = 10 := by omega
          refine ea_cons (ev_if ?_)
          repeat walk_at "yx"
          refine way_f (decide_eq_false m10) ?_
          repeat walk_at "yx"
          refine ⟨_, own_at hm1 ha0.1 ha0.2, ?_⟩
          repeat walk_at "yx"
          refine way_t (decide_eq_true q) ?_
          repeat walk_at "yx"
          refine ⟨_, _, rfl, ?_⟩
          exact hrest _ _ _ _ _ _ _ _ _ _ _ _ (by unfold stepK; rw [if_neg n2, if_neg n3, if_neg n4, if_neg n5, if_neg n6, if_neg n7, if_neg n8, if_neg n11, if_neg m10, if_pos q]) hm1 hm2
        · have m10 : ¬ j = 10 := by omega
          have m12 : ¬ j = 12 := by omega
          refine ea_cons (ev_if ?_)
          repeat walk_at "yx"
          refine way_f (decide_eq_false m10) ?_
          repeat walk_at "yx"
          refine ⟨_, own_at hm1 ha0.1 ha0.2, ?_⟩
          repeat walk_at "yx"
          refine way_f (decide_eq_false (show ¬ j = 12 by omega)) ?_
          repeat walk_at "yx"
          refine ⟨_, _, rfl, ?_⟩
          exact hrest _ _ _ _ _ _ _ _ _ _ _ _ (by unfold stepK; rw [if_neg n2, if_neg n3, if_neg n4, if_neg n5, if_neg n6, if_neg n7, if_neg n8, if_neg n11, if_neg m10, if_neg m12, if_pos q]) hm1 hm2
      have n10 : ¬ j = 10 := fun e => by rw [inD_3.mpr (.inl e)] at h; cases h
      have n12 : ¬ j = 12 := fun e => by rw [inD_3.mpr (.inr (.inl e))] at h; cases h
      have n13 : ¬ j = 13 := fun e => by rw [inD_3.mpr (.inr (.inr e))] at h; cases h
      refine sm_if (et_B (ev_op (ev_var rfl (ev_lst ?_))))
      repeat walk_at "yx"
      refine o_inAL rfl rfl (bl_ex (ways (fun h => ?_) (fun h => ?_)))
      · refine sm_set (ev_dget (ev_disp ?_))
        refine eps_cons (ev_int ⟨.inl _, rfl, ev_str ?_⟩)
        refine eps_cons (ev_int ⟨.inl _, rfl, ev_str ?_⟩)
        refine eps_cons (ev_int ⟨.inl _, rfl, ev_str ?_⟩)
        refine eps_cons (ev_int ⟨.inl _, rfl, ev_op (ev_str (ev_cb (ea_cons ?_)))⟩)
        repeat walk_at "yx"
        refine ⟨_, own_at hm1 ha0.1 ha0.2, ?_⟩
        refine ea_nil (c_strI (i := own.getD a.toNat 0) ⟨by omega, by omega⟩ ?_)
        refine o_plusS (str_len (by omega)) ?_
        refine eps_nil ⟨by decide +kernel, by decide, ⟨_, _, rfl, ev_var rfl ⟨.inl _, rfl, ?_⟩⟩⟩
        rcases inD_4.mp h with q | q | q | q
        · refine ⟨_, by rw [q]; rfl, ?_⟩
          exact hrest _ _ _ _ _ _ _ _ _ _ _ _ (by unfold stepK; rw [if_neg n2, if_neg n3, if_neg n4, if_neg n5, if_neg n6, if_neg n7, if_neg n8, if_neg n11, if_neg n10, if_neg n12, if_neg n13, if_pos q]) hm1 hm2
        · have m0 : ¬ j = 0 := by omega
          refine ⟨_, by rw [q]; rfl, ?_⟩
          exact hrest _ _ _ _ _ _ _ _ _ _ _ _ (by unfold stepK; rw [if_neg n2, if_neg n3, if_neg n4, if_neg n5, if_neg n6, if_neg n7, if_neg n8, if_neg n11, if_neg n10, if_neg n12, if_neg n13, if_neg m0, if_pos q]) hm1 hm2
        · have m0 : ¬ j = 0 := by omega
          have m1 : ¬ j = 1 := by omega
          refine ⟨_, by rw [q]; rfl, ?_⟩
          exact hrest _ _ _ _ _ _ _ _ _ _ _ _ (by unfold stepK; rw [if_neg n2, if_neg n3, if_neg n4, if_neg n5, if_neg n6, if_neg n7, if_neg n8, if_neg n11, if_neg n10, if_neg n12, if_neg n13, if_neg m0, if_neg m1, if_pos q]) hm1 hm2
        · have m0 : ¬ j = 0 := by omega
          have m1 : ¬ j = 1 := by omega
          have m14 : ¬ j = 14 := by omega
          refine ⟨_, by rw [q]; rfl, ?_⟩
          exact hrest _ _ _ _ _ _ _ _ _ _ _ _ (by unfold stepK; rw [if_neg n2, if_neg n3, if_neg n4, if_neg n5, if_neg n6, if_neg n7, if_neg n8, if_neg n11, if_neg n10, if_neg n12, if_neg n13, if_neg m0, if_neg m1, if_neg m14, if_pos q]) hm1 hm2
      have n0 : ¬ j = 0 := fun e => by rw [inD_4.mpr (.inl e)] at h; cases h
      have n1 : ¬ j = 1 := fun e => by rw [inD_4.mpr (.inr (.inl e))] at h; cases h
      have n14 : ¬ j = 14 := fun e => by rw [inD_4.mpr (.inr (.inr (.inl e)))] at h; cases h
      have n15 : ¬ j = 15 := fun e => by rw [inD_4.mpr (.inr (.inr (.inr e)))] at h; cases h
      refine sm_next ?_
      exact hrest _ _ _ _ _ _ _ _ _ _ _ _ (by unfold stepK; rw [if_neg n2, if_neg n3, if_neg n4, if_neg n5, if_neg n6, if_neg n7, if_neg n8, if_neg n11, if_neg n10, if_neg n12, if_neg n13, if_neg n0, if_neg n1, if_neg n14, if_neg n15]) hm1 hm2
    · rintro es' ⟨m, s7, s8, s9, s10, s11, s12, s13, s14, s15, rfl, _, hrun⟩
      refine ⟨s7, s8, s9, s10, s11, s12, s13, s14, s15, ?_⟩
      have e0 : cs.length + 1 - (rangeD 0 ((cs.map Dt.int).length + 1 : Int).toNat).length = 0 := by rw [rangeD_len, List.length_map]; omega
      rw [e0] at hrun
      rw [hrun]; rfl
  · rintro es' ⟨s7, s8, s9, s10, s11, s12, s13, s14, s15, rfl⟩
    refine sm_freeze 4 rfl ?_
    repeat walk_at "y"
    exact ⟨cs, rs, p, h0, h1, rfl, rfl⟩
end
end Law
namespace Law
open PySem L2 Y
local macro_rules | `(tactic| walk_at "yv") => `(tactic| ((with_reducible show Ev _ (tVar _) _ _); refine ev_var rfl ?_))
local macro_rules | `(tactic| walk_at "ys") => `(tactic| with_reducible first
  | refine sm_seq ?_ | refine sm_ret ?_ | refine sm_if ?_ | refine sm_set ?_ | refine sm_next ?_ | refine sm_par ?_ | refine sm_drop ?_ | refine sm_brk ?_ | refine sm_cont ?_)
local macro_rules | `(tactic| walk_at "ye") => `(tactic| with_reducible first
  | refine ev_op ?_ | refine ev_and ?_ | refine ev_or ?_ | refine ev_not ?_ | refine ev_if ?_ | refine ev_chain ?_ | refine ev_neg ?_ | refine ev_isInt ?_ | refine ev_isBool ?_ | refine ev_isStr ?_ | refine ev_isList ?_ | refine ev_isTuple ?_ | refine ev_isLT ?_ | refine ev_isDict ?_
  | refine ev_int ?_ | refine ev_str ?_ | refine ev_bl ?_ | refine ev_non ?_ | refine ev_call ?_ | refine ev_cb ?_ | refine ev_lst ?_ | refine ev_tup ?_ | refine ev_join ?_
  | refine ea_nil ?_ | refine ea_cons ?_
  | refine et_B ?_ | refine et_test ?_ | refine et_not ?_ | refine et_and ?_ | refine et_or ?_ | refine et_yes ?_
  | refine o_plusI ?_ | refine o_i0 ?_ | refine o_b0 ?_ | refine o_isN ?_ | refine o_notN ?_
  | refine bl_ex ?_ | refine int_ex ?_ | refine str_ex ?_ | refine lst_ex ?_ | refine tup_ex ?_)
local macro_rules | `(tactic| walk_at "yo") => `(tactic| first
  | ((with_reducible show Ev _ (tOp (rIx _) (tVar _) _) _ _); refine ev_ixOwn rfl ?_)
  | ((with_reducible show Ev _ (tCB _ (tCons (tVar _) tNil)) _ _); refine ev_lenOwn rfl ?_)
  | ((with_reducible show Sm _ (tAsg _ (gSub (tVar _) _ _)) _ _); refine sm_setItem rfl ?_)
  | ((with_reducible show Ev _ (tCall (spB _ _ _) _ _ _) _ _); refine ev_callB rfl rfl ?_))
local macro_rules | `(tactic| walk_at "yc") => `(tactic| first
  | ((with_reducible show CMul _ _); first | exact Or.inr ⟨by decide, by decide⟩ | exact Or.inl ⟨by decide, by decide⟩ | exact Or.inr ⟨by omega, by omega⟩ | exact Or.inl ⟨by omega, by omega⟩)
  | ((with_reducible show CDiv _ _); exact ⟨by first | decide | omega, by first | decide | omega⟩)
  | ((with_reducible show CPow _ _); exact ⟨by decide, by decide, by first | decide | omega⟩)
  | ((show (0 : Int) < _); first | decide | omega))
local macro_rules | `(tactic| walk_at "yd") => `(tactic| first
  | ((with_reducible show plainD _ = true ∧ _); refine ⟨by first | rfl | assumption, ?_⟩)
  | ((with_reducible show (_ = true → _) ∧ (_ = false → _)); first | refine way_t rfl ?_ | refine way_f rfl ?_ | refine way_t (by decide +kernel) ?_ | refine way_f (by decide +kernel) ?_)
  | ((with_reducible show Cal _ _ _ _ _); first | (with_reducible refine c_int ?_) | (with_reducible refine c_abs ?_) | (refine c_len rfl ?_) | (refine c_len (if_pos (by assumption)) ?_))
  | ((with_reducible show Op2 _ (rEqA _) _ _ _ _); refine o_eqA rfl ?_)
  | ((with_reducible show Op2 _ (rNeA _) _ _ _ _); refine o_neA rfl ?_)
  | ((with_reducible show Op2 _ (rInA _) _ (Dt.str _) (Dt.lst _) _); refine o_inAL rfl rfl ?_)
  | ((with_reducible show Op2 _ (rInA _) _ (Dt.str _) (Dt.tup _) _); refine o_inAT rfl rfl ?_)
  | ((with_reducible show Op2 _ (rI _ _) _ _ _ _); refine o_i (by walk_at "yc") ?_)
  | ((with_reducible show Op2 _ (rIx _) _ (Dt.tup _) _ _); refine o_ixAT (atI_toNat (by decide) rfl) ?_)
  | ((with_reducible show Op2 _ (rIx _) _ (Dt.lst _) _ _); refine o_ixAL (atI_toNat (by decide) rfl) ?_)
  | ((with_reducible show ∃ x, atI _ _ = some x ∧ _); refine ⟨_, rfl, ?_⟩)
  | ((with_reducible show ∃ x, ixN _ _ = some x ∧ _); refine ⟨_, rfl, ?_⟩)
  | ((with_reducible show List.length _ ≤ 100000 ∧ _); refine ⟨by (try simp only [List.length_cons, List.length_nil]); first | decide | omega, ?_⟩))
local macro_rules | `(tactic| walk_at "y") => `(tactic| first | walk_at "yo" | walk_at "ye" | walk_at "yv" | walk_at "ys" | walk_at "yd")
local macro_rules | `(tactic| walk_at "yx") => `(tactic| first | walk_at "yo" | walk_at "ye" | walk_at "yv" | walk_at "yd")
def regB (x : Dt) : Bool := inD x [.str "r0", .str "r1", .str "r2"]
theorem regB_reg {x : Dt} (h : regB x = true) : isRegD x = true := by
  cases x with
  | str z => exact h
  | _ => cases h
theorem reg_B {x : Dt} (h : isRegD x = true) : regB x = true := by
  cases x with
  | str z => exact h
  | _ => cases h
theorem name_B {x : Dt} (h : isNameD x = true) : regB x = false := by
  cases e : regB x with
  | false => rfl
  | true => rw [reg_noname (regB_reg e)] at h; cases h
theorem num_B {x : Dt} {l m : Int} (h : isNum x l m = true) : regB x = false := by
  obtain ⟨i, rfl, _⟩ := num_int h; rfl
def numsD (rest : List Dt) : List Dt := (rest.filter regB).map (fun x => .int (regN x)) ++ [.int 0, .int 0]
def aN (rest : List Dt) : Int := match rest.filter regB with | [] => 0 | x :: _ => regN x
def bN (rest : List Dt) : Int := match rest.filter regB with | _ :: y :: _ => regN y | _ => 0
theorem nums_eq (rest : List Dt) : ∃ t, numsD rest = .int (aN rest) :: .int (bN rest) :: t := by
  unfold numsD aN bN
  generalize rest.filter regB = l
  cases l with
  | nil => exact ⟨[], rfl⟩
  | cons x l =>
    cases l with
    | nil => exact ⟨_, rfl⟩
    | cons y l => exact ⟨_, rfl⟩
theorem flat_reg {x : Dt} (h : isRegD x = true) : flatD x = true := by rcases reg_cases h with rfl | rfl | rfl <;> rfl
theorem flat_name {x : Dt} (h : isNameD x = true) : flatD x = true := by obtain ⟨z, rfl, _⟩ := name_str h; rfl
theorem flat_num {x : Dt} {l m : Int} (h : isNum x l m = true) : flatD x = true := by obtain ⟨i, rfl, _⟩ := num_int h; rfl
theorem rowS_flat {w : Str} {rest : List Dt} (h : RowS (.tup (.str w :: rest))) : ∀ y ∈ rest, flatD y = true := by
  cases h with
  | put h1 h2 => intro y hy; simp only [List.mem_cons, List.not_mem_nil, or_false] at hy; rcases hy with rfl | rfl; · exact flat_reg h1
                 · exact flat_num h2
  | rn _ h1 h2 => intro y hy; simp only [List.mem_cons, List.not_mem_nil, or_false] at hy; rcases hy with rfl | rfl; · exact flat_reg h1
                  · exact flat_name h2
  | rr _ h1 h2 => intro y hy; simp only [List.mem_cons, List.not_mem_nil, or_false] at hy; rcases hy with rfl | rfl; · exact flat_reg h1
                  · exact flat_reg h2
  | rrd _ h1 h2 h3 => intro y hy; simp only [List.mem_cons, List.not_mem_nil, or_false] at hy; rcases hy with rfl | rfl | rfl; · exact flat_reg h1
                      · exact flat_reg h2
                      · exact flat_num h3
  | nm _ h1 => intro y hy; simp only [List.mem_cons, List.not_mem_nil, or_false] at hy; subst hy; exact flat_name h1
  | rg _ h1 => intro y hy; simp only [List.mem_cons, List.not_mem_nil, or_false] at hy; subst hy; exact flat_reg h1
  | none _ => intro y hy; cases hy
  | room h1 => intro y hy; simp only [List.mem_cons, List.not_mem_nil, or_false] at hy; subst hy; exact flat_num h1
  | word h1 => intro y hy; simp only [List.mem_cons, List.not_mem_nil, or_false] at hy; subst hy; exact flat_num h1
theorem a_rn {r n : Dt} (h : isRegD r = true) : aN [r, n] = regN r := by unfold aN; rw [List.filter_cons, if_pos (reg_B h)]
theorem a_r1 {r : Dt} (h : isRegD r = true) : aN [r] = regN r := by unfold aN; rw [List.filter_cons, if_pos (reg_B h)]
theorem a_r3 {r n m : Dt} (h : isRegD r = true) : aN [r, n, m] = regN r := by unfold aN; rw [List.filter_cons, if_pos (reg_B h)]
theorem b_rr {r s : Dt} (h : isRegD r = true) (h2 : isRegD s = true) : bN [r, s] = regN s := by unfold bN; rw [List.filter_cons, if_pos (reg_B h), List.filter_cons, if_pos (reg_B h2)]
theorem b_r3 {r s m : Dt} (h : isRegD r = true) (h2 : isRegD s = true) : bN [r, s, m] = regN s := by unfold bN; rw [List.filter_cons, if_pos (reg_B h), List.filter_cons, if_pos (reg_B h2)]

inductive RunS : Dt → Prop
  | put {r n : Dt} : isRegD r = true → isNum n 0 65535 = true → RunS (.tup [.str "put", r, n])
  | rn {w : Str} {r n : Dt} : w = "name" ∨ w = "ifzero" → isRegD r = true → isNameD n = true → RunS (.tup [.str w, r, n])
  | rr {w : Str} {r s : Dt} : w = "add" ∨ w = "take" → isRegD r = true → isRegD s = true → RunS (.tup [.str w, r, s])
  | rrd {w : Str} {r s d : Dt} : w = "load" ∨ w = "store" → isRegD r = true → isRegD s = true → isNum d 0 15 = true → RunS (.tup [.str w, r, s, d])
  | nm {w : Str} {n : Dt} : w = "jump" ∨ w = "call" → isNameD n = true → RunS (.tup [.str w, n])
  | rg {w : Str} {r : Dt} : w = "callby" ∨ w = "out" → isRegD r = true → RunS (.tup [.str w, r])
  | none {w : Str} : w = "back" ∨ w = "halt" → RunS (.tup [.str w])
theorem RunS.row {d : Dt} (h : RunS d) : RowS d := by
  cases h with
  | put a b => exact .put a b
  | rn a b c => exact .rn a b c
  | rr a b c => exact .rr a b c
  | rrd a b c d => exact .rrd a b c d
  | nm a b => exact .nm (a.elim .inl fun q => .inr (.inl q)) b
  | rg a b => exact .rg a b
  | none a => exact .none a
theorem runS_of {d : Dt} (h : codeRow d = true) (hr : ∀ rest, d ≠ .tup (.str "room" :: rest)) : RunS d := by
  have h2 := rowS_code h
  cases h2 with
  | put a b => exact .put a b
  | rn a b c => exact .rn a b c
  | rr a b c => exact .rr a b c
  | rrd a b c d => exact .rrd a b c d
  | nm a b =>
    rcases a with rfl | rfl | rfl
    · exact .nm (.inl rfl) b
    · exact .nm (.inr rfl) b
    · have h : codeRow (.tup [.str "address", _]) = true := h
      rw [show codeRow (.tup (.str "address" :: [_])) = false from rowBy_none (by decide +kernel)] at h; cases h
  | rg a b => exact .rg a b
  | none a => exact .none a
  | room _ => exact absurd rfl (hr _)
  | word _ => 
    have h : codeRow (.tup [.str "word", _]) = true := h
    rw [show codeRow (.tup (.str "word" :: [_])) = false from rowBy_none (by decide +kernel)] at h; cases h
def resD (o : List Int) (app : List Dt) (he : Int) (wy : Str) : Dt := .tup [.lst (o.map Dt.int ++ app), .int he, .str wy]
def rnN (a : Dt) : Nat := (regN a).toNat
def dueK (k : Nat) (rest : List Dt) (p q : Int) (o : List Int) (h1 size : Int) : Dt := match k, rest with
  | 0, [a, b] => resD (o.set (rnN a) (intN b)) [] ((p + size) % 65536) ""
  | 1, [a, _] => resD (o.set (rnN a) q) [] ((p + size) % 65536) ""
  | 2, [a, _] => resD o [] (if o.getD (rnN a) 0 = 0 then q else (p + size) % 65536) ""
  | 3, [a, b] => resD (o.set (rnN a) ((o.getD (rnN a) 0 + o.getD (rnN b) 0) % 65536)) [] ((p + size) % 65536) ""
  | 4, [a, b] => resD (o.set (rnN a) ((o.getD (rnN a) 0 - o.getD (rnN b) 0 + 65536) % 65536)) [] ((p + size) % 65536) ""
  | 5, [a, _, _] => resD (o.set (rnN a) h1) [] ((p + size) % 65536) ""
  | 6, [a, b, c] => resD o [.tup [.int ((o.getD (rnN b) 0 + intN c) % 65536), .int (o.getD (rnN a) 0)]] ((p + size) % 65536) "store"
  | 7, [_] => resD o [] q ""
  | 8, [_] => resD o [] q "call"
  | 10, [a] => resD o [] (o.getD (rnN a) 0) "call"
  | 11, [a] => resD o [] ((p + size) % 65536) ("out " ++ (toString (o.getD (rnN a) 0) : String))
  | 12, [] => resD o [] ((p + size) % 65536) "back"
  | 13, [] => resD o [] ((p + size) % 65536) "halt"
  | _, _ => .non
def dueD (row : Dt) (p q : Int) (o : List Int) (h1 size : Int) : Dt := match row with
  | .tup (.str w :: rest) => dueK (wordNo w) rest p q o h1 size
  | _ => .non
theorem due_at {w : Str} {k : Nat} {rest : List Dt} {p q h1 size : Int} {o : List Int} (h : wordNo w = k) : dueD (.tup (.str w :: rest)) p q o h1 size = dueK k rest p q o h1 size := by
  show dueK (wordNo w) rest p q o h1 size = _
  rw [h]
def duePre (ds : List Dt) : Prop := ∃ (row : Dt) (p q h0 h1 size x0 x1 x2 x3 : Int), ds = [row, .int p, .int q, .lst [.int x0, .int x1, .int x2, .int x3], .tup [.int h0, .int h1], .int size] ∧ RunS row ∧ inW q ∧ inW h1 ∧ inW x0 ∧ inW x1 ∧ inW x2
def duePost (ds : List Dt) (d : Dt) : Prop := ∃ (row : Dt) (p q h0 h1 size x0 x1 x2 x3 : Int), ds = [row, .int p, .int q, .lst [.int x0, .int x1, .int x2, .int x3], .tup [.int h0, .int h1], .int size] ∧ d = dueD row p q [x0, x1, x2] h1 size
theorem due_k {row : Dt} {p q h0 h1 size x0 x1 x2 x3 : Int} {R : Dt → Prop} (a1 : RunS row) (a2 : inW q) (a3 : inW h1) (a4 : inW x0) (a5 : inW x1) (a6 : inW x2) (h : R (dueD row p q [x0, x1, x2] h1 size)) :
    duePre [row, .int p, .int q, .lst [.int x0, .int x1, .int x2, .int x3], .tup [.int h0, .int h1], .int size] ∧ ∀ d, duePost [row, .int p, .int q, .lst [.int x0, .int x1, .int x2, .int x3], .tup [.int h0, .int h1], .int size] d → R d :=
  ⟨⟨row, p, q, h0, h1, size, x0, x1, x2, x3, rfl, a1, a2, a3, a4, a5, a6⟩, fun d ⟨_, _, _, _, _, _, _, _, _, _, e, e2⟩ => by cases e; rw [e2]; exact h⟩
theorem reg2 {x : Dt} (h : isRegD x = true) : 0 ≤ regN x ∧ regN x < 3 := by
  rcases reg_cases h with rfl | rfl | rfl <;> exact ⟨by decide +kernel, by decide +kernel⟩
theorem own3_at {l : List Int} {a : Int} (hl : l.length = 3) (h0 : 0 ≤ a) (h1 : a < 3) (t : List Dt) : atI (l.map Dt.int ++ t) a = some (.int (l.getD a.toNat 0)) := by
  refine atI_toNat h0 ?_
  have : a.toNat < l.length := by omega
  rw [List.getElem?_append_left (by rw [List.length_map]; exact this), List.getElem?_map, List.getD_eq_getElem?_getD, List.getElem?_eq_getElem this]; rfl
theorem own3_ix {l : List Int} {a : Int} (hl : l.length = 3) (h0 : 0 ≤ a) (h1 : a < 3) : ixN (l.map Dt.int).length a = some a.toNat := by
  rw [List.length_map]
  unfold ixN
  rw [if_pos h0, if_pos (by omega)]
def wayOk (w z r : Str) : Prop := (w = "store" ∧ r = "store") ∨ (w = "call" ∧ r = "call") ∨ (w = "callby" ∧ r = "call") ∨ (w = "halt" ∧ r = "halt") ∨ (w = "back" ∧ r = "back") ∨ (w = "out" ∧ r = z) ∨ ((¬ w = "store" ∧ ¬ w = "call" ∧ ¬ w = "callby" ∧ ¬ w = "halt" ∧ ¬ w = "back" ∧ ¬ w = "out") ∧ r = "")
theorem words_get {w z r : Str} (h : wayOk w z r) : (getK [.inr "store", .inr "call", .inr "callby", .inr "halt", .inr "back", .inr "out"] [.str "store", .str "call", .str "call", .str "halt", .str "back", .str z] (.inr w)).getD (.str "") = .str r := by
  have k : ∀ s : Str, ((Sum.inr s : Key) = Sum.inr w) = (s = w) := fun s => by simp
  simp only [getK, k]
  rcases h with ⟨rfl, rfl⟩ | ⟨rfl, rfl⟩ | ⟨rfl, rfl⟩ | ⟨rfl, rfl⟩ | ⟨rfl, rfl⟩ | ⟨rfl, rfl⟩ | ⟨⟨h1, h2, h3, h4, h5, h6⟩, rfl⟩
  · rw [if_pos rfl]; rfl
  · rw [if_neg (by decide +kernel), if_pos rfl]; rfl
  · rw [if_neg (by decide +kernel), if_neg (by decide +kernel), if_pos rfl]; rfl
  · rw [if_neg (by decide +kernel), if_neg (by decide +kernel), if_neg (by decide +kernel), if_pos rfl]; rfl
  · rw [if_neg (by decide +kernel), if_neg (by decide +kernel), if_neg (by decide +kernel), if_neg (by decide +kernel), if_pos rfl]; rfl
  · rw [if_neg (by decide +kernel), if_neg (by decide +kernel), if_neg (by decide +kernel), if_neg (by decide +kernel), if_neg (by decide +kernel), if_pos rfl]; rfl
  · rw [if_neg (fun e => h1 e.symm), if_neg (fun e => h2 e.symm), if_neg (fun e => h3 e.symm), if_neg (fun e => h4 e.symm), if_neg (fun e => h5 e.symm), if_neg (fun e => h6 e.symm)]; rfl
theorem way_no {w z : Str} (h : (¬ w = "store" ∧ ¬ w = "call" ∧ ¬ w = "callby" ∧ ¬ w = "halt" ∧ ¬ w = "back" ∧ ¬ w = "out")) : wayOk w z "" := .inr (.inr (.inr (.inr (.inr (.inr ⟨h, rfl⟩)))))
theorem a_none : aN [] = 0 := rfl
theorem a_nm {n : Dt} (h : isNameD n = true) : aN [n] = 0 := by unfold aN; rw [List.filter_cons, if_neg (by rw [name_B h]; decide)]; rfl
theorem in3 {x0 x1 x2 : Int} (a4 : inW x0) (a5 : inW x1) (a6 : inW x2) : ∀ x ∈ [x0, x1, x2], inW x := fun x hx => by
  simp only [List.mem_cons, List.not_mem_nil, or_false] at hx
  rcases hx with rfl | rfl | rfl <;> assumption
end Law
namespace Law
open PySem L2 Y
local macro_rules | `(tactic| walk_at "yv") => `(tactic| ((with_reducible show Ev _ (tVar _) _ _); refine ev_var rfl ?_))
local macro_rules | `(tactic| walk_at "ys") => `(tactic| with_reducible first
  | refine sm_seq ?_ | refine sm_ret ?_ | refine sm_if ?_ | refine sm_set ?_ | refine sm_next ?_ | refine sm_par ?_ | refine sm_drop ?_ | refine sm_brk ?_ | refine sm_cont ?_)
local macro_rules | `(tactic| walk_at "ye") => `(tactic| with_reducible first
  | refine ev_op ?_ | refine ev_and ?_ | refine ev_or ?_ | refine ev_not ?_ | refine ev_if ?_ | refine ev_chain ?_ | refine ev_neg ?_ | refine ev_isInt ?_ | refine ev_isBool ?_ | refine ev_isStr ?_ | refine ev_isList ?_ | refine ev_isTuple ?_ | refine ev_isLT ?_ | refine ev_isDict ?_
  | refine ev_int ?_ | refine ev_str ?_ | refine ev_bl ?_ | refine ev_non ?_ | refine ev_call ?_ | refine ev_cb ?_ | refine ev_lst ?_ | refine ev_tup ?_ | refine ev_join ?_
  | refine ea_nil ?_ | refine ea_cons ?_
  | refine et_B ?_ | refine et_test ?_ | refine et_not ?_ | refine et_and ?_ | refine et_or ?_ | refine et_yes ?_
  | refine o_plusI ?_ | refine o_i0 ?_ | refine o_b0 ?_ | refine o_isN ?_ | refine o_notN ?_
  | refine bl_ex ?_ | refine int_ex ?_ | refine str_ex ?_ | refine lst_ex ?_ | refine tup_ex ?_)
local macro_rules | `(tactic| walk_at "yo") => `(tactic| first
  | ((with_reducible show Ev _ (tOp (rIx _) (tVar _) _) _ _); refine ev_ixOwn rfl ?_)
  | ((with_reducible show Ev _ (tCB _ (tCons (tVar _) tNil)) _ _); refine ev_lenOwn rfl ?_)
  | ((with_reducible show Sm _ (tAsg _ (gSub (tVar _) _ _)) _ _); refine sm_setItem rfl ?_)
  | ((with_reducible show Ev _ (tCall (spB _ _ _) _ _ _) _ _); refine ev_callB rfl rfl ?_))
local macro_rules | `(tactic| walk_at "yc") => `(tactic| first
  | ((with_reducible show CMul _ _); first | exact Or.inr ⟨by decide, by decide⟩ | exact Or.inl ⟨by decide, by decide⟩ | exact Or.inr ⟨by omega, by omega⟩ | exact Or.inl ⟨by omega, by omega⟩)
  | ((with_reducible show CDiv _ _); exact ⟨by first | decide | omega, by first | decide | omega⟩)
  | ((with_reducible show CPow _ _); exact ⟨by decide, by decide, by first | decide | omega⟩)
  | ((show (0 : Int) < _); first | decide | omega))
local macro_rules | `(tactic| walk_at "yd") => `(tactic| first
  | ((with_reducible show plainD _ = true ∧ _); refine ⟨by first | rfl | assumption, ?_⟩)
  | ((with_reducible show (_ = true → _) ∧ (_ = false → _)); first | refine way_t rfl ?_ | refine way_f rfl ?_ | refine way_t (by decide +kernel) ?_ | refine way_f (by decide +kernel) ?_)
  | ((with_reducible show Cal _ _ _ _ _); first | (with_reducible refine c_int ?_) | (with_reducible refine c_abs ?_) | (refine c_len rfl ?_) | (refine c_len (if_pos (by assumption)) ?_))
  | ((with_reducible show Op2 _ (rEqA _) _ _ _ _); refine o_eqA rfl ?_)
  | ((with_reducible show Op2 _ (rNeA _) _ _ _ _); refine o_neA rfl ?_)
  | ((with_reducible show Op2 _ (rInA _) _ (Dt.str _) (Dt.lst _) _); refine o_inAL rfl rfl ?_)
  | ((with_reducible show Op2 _ (rInA _) _ (Dt.str _) (Dt.tup _) _); refine o_inAT rfl rfl ?_)
  | ((with_reducible show Op2 _ (rI _ _) _ _ _ _); refine o_i (by walk_at "yc") ?_)
  | ((with_reducible show Op2 _ (rIx _) _ (Dt.tup _) _ _); refine o_ixAT (atI_toNat (by decide) rfl) ?_)
  | ((with_reducible show Op2 _ (rIx _) _ (Dt.lst _) _ _); refine o_ixAL (atI_toNat (by decide) rfl) ?_)
  | ((with_reducible show ∃ x, atI _ _ = some x ∧ _); refine ⟨_, rfl, ?_⟩)
  | ((with_reducible show ∃ x, ixN _ _ = some x ∧ _); refine ⟨_, rfl, ?_⟩)
  | ((with_reducible show List.length _ ≤ 100000 ∧ _); refine ⟨by (try simp only [List.length_cons, List.length_nil]); first | decide | omega, ?_⟩))
local macro_rules | `(tactic| walk_at "y") => `(tactic| first | walk_at "yo" | walk_at "ye" | walk_at "yv" | walk_at "ys" | walk_at "yd")
local macro_rules | `(tactic| walk_at "yx") => `(tactic| first | walk_at "yo" | walk_at "ye" | walk_at "yv" | walk_at "yd")

theorem own3_at0 {l : List Int} {a : Int} (hl : l.length = 3) (h0 : 0 ≤ a) (h1 : a < 3) : atI (l.map Dt.int) a = some (.int (l.getD a.toNat 0)) := by
  have := own3_at hl h0 h1 []
  rwa [List.append_nil] at this
section
variable {P : Program} {w : World} {K : PySem.W.Frag} {mg : Str → Option Value} {base : Heap}

theorem ok__law_due (T : Tx K mg w) : FnOk P w K mg base CX0 1 T.a__law_due T.d__law_due ["_law_one", "_law_place_y", "_law_goal", "_law_registers", "_law_held", "_law_size"] (spD K duePre duePost) := by
  refine fn_data T.F__law_due sc__law_due (fun ds h => ?_) (fun cdv A outer s H E hr => ⟨_, (pss_cons (ps_par rfl sc__law_due.nd (i := 6) (j := 7) rfl rfl (by decide) rfl rfl (pa_cons (pe_slice (sl_any (K := K)) (pe_callTy (call_listB (K := K) rfl) (by rfl) T.n_list PyProof.Rows.boot_list (pa_cons (pv 3) pa_nil)) po_none (po_some pe_int)) (pa_cons (pe_op op_mod (pe_callTy call_int1 (by rfl) T.n_int PyProof.Rows.boot_int (pa_cons (pe_op (op_plus (K := K)) (pv 1) (pv 5)) pa_nil)) pe_int) pa_nil)) rfl)
      (pss_cons (ps_set (i := 8) sc__law_due.nd rfl (Or.inl rfl) (pe_op (op_plus (K := K)) (pe_lc (own := [("_law_item", 9)]) (g := gName 9) rfl sc__law_due.nd (pi_tupA (K := K) (pe_slice (sl_any (K := K)) (pv 0) (po_some pe_int) po_none)) (blkOk_by (N := ["_law_one", "_law_place_y", "_law_goal", "_law_registers", "_law_held", "_law_size", "_law_own", "_law_behind", "_law_numbers", "_law_item", "_law_a", "_law_b", "_law_way", "_law_words"]) (sc := defScope s__law_due) (by decide +kernel)) (fun _ _ _ _ _ => (pg_name (i := 9) sc__law_due.nd rfl (Or.inl rfl))) (fun _ _ _ _ _ => (pts_one (pt_cmpR (op_inA (K := K)) (pv 9) (pe_lst (pa_cons pe_str (pa_cons pe_str (pa_cons pe_str pa_nil)))) (by rfl)))) (fun _ _ _ _ _ => (pe_callTy call_int_str (by rfl) T.n_int PyProof.Rows.boot_int (pa_cons (pe_ix (ix_any (K := K)) (pv 9) pe_int (fun _ _ => rfl)) pa_nil)))) (pe_lst (pa_cons pe_int (pa_cons pe_int pa_nil)))))
      (pss_cons (ps_par3 (i := 10) (j := 11) (l := 12) rfl sc__law_due.nd rfl rfl rfl (by decide) (by decide) (by decide) rfl rfl rfl (pa_cons (pe_ix (ix_any (K := K)) (pv 8) pe_int (fun _ _ => rfl)) (pa_cons (pe_ix (ix_any (K := K)) (pv 8) pe_int (fun _ _ => rfl)) (pa_cons pe_str pa_nil))) rfl)
      (pss_cons (ps_if (pt_cmpR (op_eqA (K := K) hr.units) (pe_ix (ix_any (K := K)) (pv 0) pe_int (fun _ _ => rfl)) pe_str (nomark _)) (pss_one (ps_asg (pe_ix (ix_any (K := K)) (pv 0) pe_int (fun _ _ => rfl)) (pg_sub (pv 6) (pv 10) set_list))) pss_nil)
      (pss_cons (ps_if (pt_cmpR (op_eqA (K := K) hr.units) (pe_ix (ix_any (K := K)) (pv 0) pe_int (fun _ _ => rfl)) pe_str (nomark _)) (pss_one (ps_asg (pv 2) (pg_sub (pv 6) (pv 10) set_list))) pss_nil)
      (pss_cons (ps_if (pt_cmpR (op_eqA (K := K) hr.units) (pe_ix (ix_any (K := K)) (pv 0) pe_int (fun _ _ => rfl)) pe_str (nomark _)) (pss_one (ps_asg (pe_op op_mod (pe_callTy call_int1 (by rfl) T.n_int PyProof.Rows.boot_int (pa_cons (pe_op (op_plus (K := K)) (pe_ix (ix_any (K := K)) (pv 6) (pv 10) (fun _ _ => rfl)) (pe_ix (ix_any (K := K)) (pv 6) (pv 11) (fun _ _ => rfl))) pa_nil)) pe_int) (pg_sub (pv 6) (pv 10) set_list))) pss_nil)
      (pss_cons (ps_if (pt_cmpR (op_eqA (K := K) hr.units) (pe_ix (ix_any (K := K)) (pv 0) pe_int (fun _ _ => rfl)) pe_str (nomark _)) (pss_one (ps_asg (pe_op op_mod (pe_callTy call_int1 (by rfl) T.n_int PyProof.Rows.boot_int (pa_cons (pe_op (op_plus (K := K)) (pe_op op_sub (pe_ix (ix_any (K := K)) (pv 6) (pv 10) (fun _ _ => rfl)) (pe_ix (ix_any (K := K)) (pv 6) (pv 11) (fun _ _ => rfl))) pe_int) pa_nil)) pe_int) (pg_sub (pv 6) (pv 10) set_list))) pss_nil)
      (pss_cons (ps_if (pt_cmpR (op_eqA (K := K) hr.units) (pe_ix (ix_any (K := K)) (pv 0) pe_int (fun _ _ => rfl)) pe_str (nomark _)) (pss_one (ps_asg (pe_ix (ix_any (K := K)) (pv 4) pe_int (fun _ _ => rfl)) (pg_sub (pv 6) (pv 10) set_list))) pss_nil)
      (pss_cons (ps_if (pt_cmpR (op_eqA (K := K) hr.units) (pe_ix (ix_any (K := K)) (pv 0) pe_int (fun _ _ => rfl)) pe_str (nomark _)) (pss_one (ps_set (i := 6) sc__law_due.nd rfl (Or.inl rfl) (pe_op (op_plus (K := K)) (pv 6) (pe_lst (pa_cons (pe_tup (pa_cons (pe_op op_mod (pe_callTy call_int1 (by rfl) T.n_int PyProof.Rows.boot_int (pa_cons (pe_op (op_plus (K := K)) (pe_ix (ix_any (K := K)) (pv 6) (pv 11) (fun _ _ => rfl)) (pe_ix (ix_any (K := K)) (pv 0) pe_int (fun _ _ => rfl))) pa_nil)) pe_int) (pa_cons (pe_ix (ix_any (K := K)) (pv 6) (pv 10) (fun _ _ => rfl)) pa_nil))) pa_nil))))) pss_nil)
      (pss_cons (ps_if (PW.pt (pw_or (pt_cmpR (op_eqA (K := K) hr.units) (pe_ix (ix_any (K := K)) (pv 0) pe_int (fun _ _ => rfl)) pe_str (nomark _)) (pw_or (PW.pt (pw_and (pt_cmpR (op_eqA (K := K) hr.units) (pe_ix (ix_any (K := K)) (pv 0) pe_int (fun _ _ => rfl)) pe_str (nomark _)) (pw_and1 (pt_cmpR (op_eqA (K := K) hr.units) (pe_ix (ix_any (K := K)) (pv 6) (pv 10) (fun _ _ => rfl)) pe_int (nomark _))))) (pw_or1 (pt_cmpR (op_eqA (K := K) hr.units) (pe_ix (ix_any (K := K)) (pv 0) pe_int (fun _ _ => rfl)) pe_str (nomark _)))))) (pss_one (ps_set (i := 7) sc__law_due.nd rfl (Or.inl rfl) (pv 2))) pss_nil)
      (pss_cons (ps_if (pt_cmpR (op_eqA (K := K) hr.units) (pe_ix (ix_any (K := K)) (pv 0) pe_int (fun _ _ => rfl)) pe_str (nomark _)) (pss_one (ps_set (i := 7) sc__law_due.nd rfl (Or.inl rfl) (pe_ix (ix_any (K := K)) (pv 6) (pv 10) (fun _ _ => rfl)))) pss_nil)
      (pss_cons (ps_set (i := 13) sc__law_due.nd rfl (Or.inl rfl) (pe_disp (pps_cons pe_str pe_str (pps_cons pe_str pe_str (pps_cons pe_str pe_str (pps_cons pe_str pe_str (pps_cons pe_str pe_str (pps_cons pe_str (pe_op (op_plus (K := K)) pe_str (pe_callTy call_str_int (by rfl) T.n_str PyProof.Rows.boot_str (pa_cons (pe_ix (ix_any (K := K)) (pv 6) (pv 10) (fun _ _ => rfl)) pa_nil))) pps_nil)))))) (by rfl) (by rfl) (fun z => by cases z) (by decide)))
      (pss_one (ps_ret (pe_tup (pa_cons (pv 6) (pa_cons (pv 7) (pa_cons (pe_dget2 (hu_of hr) (pv 13) (pe_ix (ix_any (K := K)) (pv 0) pe_int (fun _ _ => rfl)) (pv 12) ⟨rfl, rfl, rfl, rfl⟩) pa_nil)))))))))))))))))), fun F0 H0 ds h => ?_⟩)
  · obtain ⟨_, _, _, _, _, _, _, _, _, _, rfl, _⟩ := h; rfl
  obtain ⟨row, p, q, h0, h1, size, x0, x1, x2, x3, rfl, hrow, hq, hh1, hx0, hx1, hx2⟩ := h
  dsimp only [cxOf, env0, env1, List.map, List.length, List.replicate, List.cons_append, List.nil_append, List.append, Nat.reduceAdd, Nat.reduceSub, Nat.zero_add]
  have hin3 := in3 hx0 hx1 hx2
  have hl3 : [x0, x1, x2].length = 3 := rfl
  obtain ⟨w', rest, hone, hlen, _⟩ := rowS_good hrow.row
  subst hone
  have hflat := rowS_flat hrow.row
  refine sm_seq (sm_parOD (eo_slL (ev_cb (ea_cons (ev_var rfl (ea_nil (c_listL ⟨_, rfl, ep_none (ep_some (ev_int (int_ex ?_)))⟩)))))))
  repeat walk_at "yx"
  intro c
  have e3 : cutD [Dt.int x0, .int x1, .int x2, .int x3] none (some 3) = [x0, x1, x2].map Dt.int := rfl
  rw [e3]
  refine sm_seq (sm_set (ev_op (EvO.ev (eo_fm regB (fun x => .int (regN x)) (ei_tup (ev_tail ?_))))))
  repeat walk_at "yx"
  refine ⟨_, _, rfl, _, rfl, by omega, ?_, ?_⟩
  · intro x hx
    refine tc_name ?_
    repeat walk_at "yx"
    refine o_inAL (hflat x hx) rfl ?_
    refine ⟨_, rfl, rfl, fun hb => ?_⟩
    rcases reg_cases (regB_reg hb) with rfl | rfl | rfl
    · exact ev_cb (ea_cons (ev_op (ev_var rfl (ev_int (o_ixAS (c := 48) (by decide +kernel) (by decide +kernel) (ea_nil (c_intS (n := 0) (by decide +kernel) (by decide +kernel) (congrArg Dt.int (by decide +kernel)))))))))
    · exact ev_cb (ea_cons (ev_op (ev_var rfl (ev_int (o_ixAS (c := 49) (by decide +kernel) (by decide +kernel) (ea_nil (c_intS (n := 1) (by decide +kernel) (by decide +kernel) (congrArg Dt.int (by decide +kernel)))))))))
    · exact ev_cb (ea_cons (ev_op (ev_var rfl (ev_int (o_ixAS (c := 50) (by decide +kernel) (by decide +kernel) (ea_nil (c_intS (n := 2) (by decide +kernel) (by decide +kernel) (congrArg Dt.int (by decide +kernel)))))))))
  repeat walk_at "yx"
  refine o_plusL ?_ ?_
  · have := List.length_filter_le regB rest
    simp only [List.length_map, List.length_cons, List.length_nil]; omega
  obtain ⟨t, ht⟩ := nums_eq rest
  have ht : (rest.filter regB).map (fun x => Dt.int (regN x)) ++ [.int 0, .int 0] = .int (aN rest) :: .int (bN rest) :: t := ht
  rw [ht]
  refine sm_seq (sm_par3 ?_)
  repeat walk_at "yx"
  refine ⟨_, _, _, rfl, ?_⟩
  refine sm_cut8 (fun e => ∃ o app beh s8 s9 s11 s13, e = [.d (.tup (.str w' :: rest)), .d (.int p), .d (.int q), .d (.lst [.int x0, .int x1, .int x2, .int x3]), .d (.tup [.int h0, .int h1]), .d (.int size), .d (.lst (o.map Dt.int ++ app)), .d (.int beh), s8, s9, .d (.int (aN rest)), s11, .d (.str ""), s13] ∧ o.length = 3 ∧ (∀ x ∈ o, inW x) ∧ (0 ≤ aN rest ∧ aN rest < 3) ∧ ∃ r, wayOk w' (("out " : Str) ++ (toString (o.getD (aN rest).toNat 0) : String)) r ∧ dueD (.tup (.str w' :: rest)) p q [x0, x1, x2] h1 size = resD o app beh r) ?_ ?_
  · cases hrow with
    | @put r' n' g1 g2 =>
      obtain ⟨k, rfl, k0, k1⟩ := num_int g2
      have r1 := reg2 g1
      rw [a_rn g1]
      refine sm_if ?_
      repeat walk_at "yx"
      refine ⟨_, own3_ix hl3 r1.1 r1.2, ?_⟩
      rw [own_set]
      refine sm_if ?_
      repeat walk_at "yx"
      refine sm_next ?_
      refine sm_if ?_
      repeat walk_at "yx"
      refine sm_next ?_
      refine sm_if ?_
      repeat walk_at "yx"
      refine sm_next ?_
      refine sm_if ?_
      repeat walk_at "yx"
      refine sm_next ?_
      refine sm_freeze 6 rfl ?_
      refine sm_if ?_
      repeat walk_at "yx"
      refine sm_next ?_
      refine sm_if ?_
      repeat walk_at "yx"
      refine sm_next ?_
      refine sm_if ?_
      repeat walk_at "yx"
      refine sm_next ?_
      exact ⟨_, [], _, _, _, _, _, by rw [List.append_nil] <;> rfl, by rw [List.length_set]; rfl, set_in hin3 ⟨show -1 ≤ k by omega, show k < 65536 by omega⟩, r1, _, way_no ⟨by decide +kernel, by decide +kernel, by decide +kernel, by decide +kernel, by decide +kernel, by decide +kernel⟩, due_at (k := 0) (by decide +kernel)⟩
    | @rn _ r' n' hw g1 g2 =>
      have r1 := reg2 g1
      rw [a_rn g1]
      rcases hw with rfl | rfl
      · refine sm_if ?_
        repeat walk_at "yx"
        refine sm_next ?_
        refine sm_if ?_
        repeat walk_at "yx"
        refine ⟨_, own3_ix hl3 r1.1 r1.2, ?_⟩
        rw [own_set]
        refine sm_if ?_
        repeat walk_at "yx"
        refine sm_next ?_
        refine sm_if ?_
        repeat walk_at "yx"
        refine sm_next ?_
        refine sm_if ?_
        repeat walk_at "yx"
        refine sm_next ?_
        refine sm_freeze 6 rfl ?_
        refine sm_if ?_
        repeat walk_at "yx"
        refine sm_next ?_
        refine sm_if ?_
        repeat walk_at "yx"
        refine sm_next ?_
        refine sm_if ?_
        repeat walk_at "yx"
        refine sm_next ?_
        exact ⟨_, [], _, _, _, _, _, by rw [List.append_nil] <;> rfl, by rw [List.length_set]; rfl, set_in hin3 hq, r1, _, way_no ⟨by decide +kernel, by decide +kernel, by decide +kernel, by decide +kernel, by decide +kernel, by decide +kernel⟩, due_at (k := 1) (by decide +kernel)⟩
      · refine sm_if ?_
        repeat walk_at "yx"
        refine sm_next ?_
        refine sm_if ?_
        repeat walk_at "yx"
        refine sm_next ?_
        refine sm_if ?_
        repeat walk_at "yx"
        refine sm_next ?_
        refine sm_if ?_
        repeat walk_at "yx"
        refine sm_next ?_
        refine sm_if ?_
        repeat walk_at "yx"
        refine sm_next ?_
        refine sm_freeze 6 rfl ?_
        refine sm_if ?_
        repeat walk_at "yx"
        refine sm_next ?_
        refine sm_if ?_
        repeat walk_at "yx"
        refine o_ixAL (own3_at0 hl3 r1.1 r1.2) ?_
        repeat walk_at "yx"
        refine ways (fun h => ?_) (fun h => ?_)
        · have h2 : [x0, x1, x2].getD (rnN r') 0 = 0 := of_decide_eq_true h
          repeat walk_at "yx"
          refine sm_set (ev_var rfl ?_)
          refine sm_if ?_
          repeat walk_at "yx"
          refine sm_next ?_
          exact ⟨[x0, x1, x2], [], _, _, _, _, _, by rw [List.append_nil] <;> rfl, rfl, hin3, r1, _, way_no ⟨by decide +kernel, by decide +kernel, by decide +kernel, by decide +kernel, by decide +kernel, by decide +kernel⟩, (due_at (k := 2) (by decide +kernel)).trans (by show resD _ _ (if _ then _ else _) _ = _; rw [if_pos h2])⟩
        · have h2 : ¬ [x0, x1, x2].getD (rnN r') 0 = 0 := of_decide_eq_false h
          repeat walk_at "yx"
          refine sm_next ?_
          refine sm_if ?_
          repeat walk_at "yx"
          refine sm_next ?_
          exact ⟨[x0, x1, x2], [], _, _, _, _, _, by rw [List.append_nil] <;> rfl, rfl, hin3, r1, _, way_no ⟨by decide +kernel, by decide +kernel, by decide +kernel, by decide +kernel, by decide +kernel, by decide +kernel⟩, (due_at (k := 2) (by decide +kernel)).trans (by show resD _ _ (if _ then _ else _) _ = _; rw [if_neg h2])⟩
    | @nm _ n' hw g1 =>
      rw [a_nm g1]
      rcases hw with rfl | rfl
      · refine sm_if ?_
        repeat walk_at "yx"
        refine sm_next ?_
        refine sm_if ?_
        repeat walk_at "yx"
        refine sm_next ?_
        refine sm_if ?_
        repeat walk_at "yx"
        refine sm_next ?_
        refine sm_if ?_
        repeat walk_at "yx"
        refine sm_next ?_
        refine sm_if ?_
        repeat walk_at "yx"
        refine sm_next ?_
        refine sm_freeze 6 rfl ?_
        refine sm_if ?_
        repeat walk_at "yx"
        refine sm_next ?_
        refine sm_if ?_
        repeat walk_at "yx"
        refine sm_set (ev_var rfl ?_)
        refine sm_if ?_
        repeat walk_at "yx"
        refine sm_next ?_
        exact ⟨[x0, x1, x2], [], _, _, _, _, _, by rw [List.append_nil] <;> rfl, rfl, hin3, ⟨by decide, by decide⟩, _, way_no ⟨by decide +kernel, by decide +kernel, by decide +kernel, by decide +kernel, by decide +kernel, by decide +kernel⟩, due_at (k := 7) (by decide +kernel)⟩
      · refine sm_if ?_
        repeat walk_at "yx"
        refine sm_next ?_
        refine sm_if ?_
        repeat walk_at "yx"
        refine sm_next ?_
        refine sm_if ?_
        repeat walk_at "yx"
        refine sm_next ?_
        refine sm_if ?_
        repeat walk_at "yx"
        refine sm_next ?_
        refine sm_if ?_
        repeat walk_at "yx"
        refine sm_next ?_
        refine sm_freeze 6 rfl ?_
        refine sm_if ?_
        repeat walk_at "yx"
        refine sm_next ?_
        refine sm_if ?_
        repeat walk_at "yx"
        refine sm_set (ev_var rfl ?_)
        refine sm_if ?_
        repeat walk_at "yx"
        refine sm_next ?_
        exact ⟨[x0, x1, x2], [], _, _, _, _, _, by rw [List.append_nil] <;> rfl, rfl, hin3, ⟨by decide, by decide⟩, _, .inr (.inl ⟨rfl, rfl⟩), due_at (k := 8) (by decide +kernel)⟩
    | @rr _ r' s' hw g1 g2 =>
      have r1 := reg2 g1
      have r2 := reg2 g2
      have v1 := get_in (k := (regN r').toNat) hin3
      have v2 := get_in (k := (regN s').toNat) hin3
      unfold inW at v1 v2
      rw [a_rn g1, b_rr g1 g2]
      rcases hw with rfl | rfl
      · refine sm_if ?_
        repeat walk_at "yx"
        refine sm_next ?_
        refine sm_if ?_
        repeat walk_at "yx"
        refine sm_next ?_
        refine sm_if ?_
        repeat walk_at "yx"
        refine ⟨_, own3_at0 hl3 r1.1 r1.2, ?_⟩
        repeat walk_at "yx"
        refine ⟨_, own3_at0 hl3 r2.1 r2.2, ?_⟩
        repeat walk_at "yx"
        refine ⟨_, own3_ix hl3 r1.1 r1.2, ?_⟩
        rw [own_set]
        refine sm_if ?_
        repeat walk_at "yx"
        refine sm_next ?_
        refine sm_if ?_
        repeat walk_at "yx"
        refine sm_next ?_
        refine sm_freeze 6 rfl ?_
        refine sm_if ?_
        repeat walk_at "yx"
        refine sm_next ?_
        refine sm_if ?_
        repeat walk_at "yx"
        refine sm_next ?_
        refine sm_if ?_
        repeat walk_at "yx"
        refine sm_next ?_
        exact ⟨_, [], _, _, _, _, _, by rw [List.append_nil] <;> rfl, by rw [List.length_set]; rfl, set_in hin3 ⟨by omega, by omega⟩, r1, _, way_no ⟨by decide +kernel, by decide +kernel, by decide +kernel, by decide +kernel, by decide +kernel, by decide +kernel⟩, due_at (k := 3) (by decide +kernel)⟩
      · refine sm_if ?_
        repeat walk_at "yx"
        refine sm_next ?_
        refine sm_if ?_
        repeat walk_at "yx"
        refine sm_next ?_
        refine sm_if ?_
        repeat walk_at "yx"
        refine sm_next ?_
        refine sm_if ?_
        repeat walk_at "yx"
        refine ⟨_, own3_at0 hl3 r1.1 r1.2, ?_⟩
        repeat walk_at "yx"
        refine ⟨_, own3_at0 hl3 r2.1 r2.2, ?_⟩
        repeat walk_at "yx"
        refine ⟨_, own3_ix hl3 r1.1 r1.2, ?_⟩
        rw [own_set]
        refine sm_if ?_
        repeat walk_at "yx"
        refine sm_next ?_
        refine sm_freeze 6 rfl ?_
        refine sm_if ?_
        repeat walk_at "yx"
        refine sm_next ?_
        refine sm_if ?_
        repeat walk_at "yx"
        refine sm_next ?_
        refine sm_if ?_
        repeat walk_at "yx"
        refine sm_next ?_
        exact ⟨_, [], _, _, _, _, _, by rw [List.append_nil] <;> rfl, by rw [List.length_set]; rfl, set_in hin3 ⟨by omega, by omega⟩, r1, _, way_no ⟨by decide +kernel, by decide +kernel, by decide +kernel, by decide +kernel, by decide +kernel, by decide +kernel⟩, due_at (k := 4) (by decide +kernel)⟩
    | @rrd _ r' s' d' hw g1 g2 g3 =>
      obtain ⟨k, rfl, k0, k1⟩ := num_int g3
      have r1 := reg2 g1
      have r2 := reg2 g2
      rw [a_r3 g1, b_r3 g1 g2]
      rcases hw with rfl | rfl
      · refine sm_if ?_
        repeat walk_at "yx"
        refine sm_next ?_
        refine sm_if ?_
        repeat walk_at "yx"
        refine sm_next ?_
        refine sm_if ?_
        repeat walk_at "yx"
        refine sm_next ?_
        refine sm_if ?_
        repeat walk_at "yx"
        refine sm_next ?_
        refine sm_if ?_
        repeat walk_at "yx"
        refine ⟨_, own3_ix hl3 r1.1 r1.2, ?_⟩
        rw [own_set]
        refine sm_freeze 6 rfl ?_
        refine sm_if ?_
        repeat walk_at "yx"
        refine sm_next ?_
        refine sm_if ?_
        repeat walk_at "yx"
        refine sm_next ?_
        refine sm_if ?_
        repeat walk_at "yx"
        refine sm_next ?_
        exact ⟨_, [], _, _, _, _, _, by rw [List.append_nil] <;> rfl, by rw [List.length_set]; rfl, set_in hin3 hh1, r1, _, way_no ⟨by decide +kernel, by decide +kernel, by decide +kernel, by decide +kernel, by decide +kernel, by decide +kernel⟩, due_at (k := 5) (by decide +kernel)⟩
      · refine sm_if ?_
        repeat walk_at "yx"
        refine sm_next ?_
        refine sm_if ?_
        repeat walk_at "yx"
        refine sm_next ?_
        refine sm_if ?_
        repeat walk_at "yx"
        refine sm_next ?_
        refine sm_if ?_
        repeat walk_at "yx"
        refine sm_next ?_
        refine sm_if ?_
        repeat walk_at "yx"
        refine sm_next ?_
        refine sm_freeze 6 rfl ?_
        refine sm_if ?_
        repeat walk_at "yx"
        refine sm_set (ev_op (ev_var rfl (ev_lst (ea_cons (ev_tup ?_)))))
        repeat walk_at "yx"
        refine o_ixAL (own3_at0 hl3 r2.1 r2.2) ?_
        repeat walk_at "yx"
        refine o_ixAL (own3_at0 hl3 r1.1 r1.2) ?_
        repeat walk_at "yx"
        refine o_plusL (by show 3 + 1 ≤ 100000; decide) ?_
        refine sm_if ?_
        repeat walk_at "yx"
        refine sm_next ?_
        refine sm_if ?_
        repeat walk_at "yx"
        refine sm_next ?_
        exact ⟨[x0, x1, x2], [_], _, _, _, _, _, by rfl, rfl, hin3, r1, _, .inl ⟨rfl, rfl⟩, due_at (k := 6) (by decide +kernel)⟩
    | @rg _ r' hw g1 =>
      have r1 := reg2 g1
      rw [a_r1 g1]
      rcases hw with rfl | rfl
      · refine sm_if ?_
        repeat walk_at "yx"
        refine sm_next ?_
        refine sm_if ?_
        repeat walk_at "yx"
        refine sm_next ?_
        refine sm_if ?_
        repeat walk_at "yx"
        refine sm_next ?_
        refine sm_if ?_
        repeat walk_at "yx"
        refine sm_next ?_
        refine sm_if ?_
        repeat walk_at "yx"
        refine sm_next ?_
        refine sm_freeze 6 rfl ?_
        refine sm_if ?_
        repeat walk_at "yx"
        refine sm_next ?_
        refine sm_if ?_
        repeat walk_at "yx"
        refine sm_next ?_
        refine sm_if ?_
        repeat walk_at "yx"
        refine sm_set ?_
        repeat walk_at "yx"
        refine o_ixAL (own3_at0 hl3 r1.1 r1.2) ?_
        exact ⟨[x0, x1, x2], [], _, _, _, _, _, by rw [List.append_nil] <;> rfl, rfl, hin3, r1, _, .inr (.inr (.inl ⟨rfl, rfl⟩)), due_at (k := 10) (by decide +kernel)⟩
      · refine sm_if ?_
        repeat walk_at "yx"
        refine sm_next ?_
        refine sm_if ?_
        repeat walk_at "yx"
        refine sm_next ?_
        refine sm_if ?_
        repeat walk_at "yx"
        refine sm_next ?_
        refine sm_if ?_
        repeat walk_at "yx"
        refine sm_next ?_
        refine sm_if ?_
        repeat walk_at "yx"
        refine sm_next ?_
        refine sm_freeze 6 rfl ?_
        refine sm_if ?_
        repeat walk_at "yx"
        refine sm_next ?_
        refine sm_if ?_
        repeat walk_at "yx"
        refine sm_next ?_
        refine sm_if ?_
        repeat walk_at "yx"
        refine sm_next ?_
        exact ⟨[x0, x1, x2], [], _, _, _, _, _, by rw [List.append_nil] <;> rfl, rfl, hin3, r1, _, .inr (.inr (.inr (.inr (.inr (.inl ⟨rfl, rfl⟩))))), due_at (k := 11) (by decide +kernel)⟩
    | none hw =>
      rw [a_none]
      rcases hw with rfl | rfl
      · refine sm_if ?_
        repeat walk_at "yx"
        refine sm_next ?_
        refine sm_if ?_
        repeat walk_at "yx"
        refine sm_next ?_
        refine sm_if ?_
        repeat walk_at "yx"
        refine sm_next ?_
        refine sm_if ?_
        repeat walk_at "yx"
        refine sm_next ?_
        refine sm_if ?_
        repeat walk_at "yx"
        refine sm_next ?_
        refine sm_freeze 6 rfl ?_
        refine sm_if ?_
        repeat walk_at "yx"
        refine sm_next ?_
        refine sm_if ?_
        repeat walk_at "yx"
        refine sm_next ?_
        refine sm_if ?_
        repeat walk_at "yx"
        refine sm_next ?_
        exact ⟨[x0, x1, x2], [], _, _, _, _, _, by rw [List.append_nil] <;> rfl, rfl, hin3, ⟨by decide, by decide⟩, _, .inr (.inr (.inr (.inr (.inl ⟨rfl, rfl⟩)))), due_at (k := 12) (by decide +kernel)⟩
      · refine sm_if ?_
        repeat walk_at "yx"
        refine sm_next ?_
        refine sm_if ?_
        repeat walk_at "yx"
        refine sm_next ?_
        refine sm_if ?_
        repeat walk_at "yx"
        refine sm_next ?_
        refine sm_if ?_
        repeat walk_at "yx"
        refine sm_next ?_
        refine sm_if ?_
        repeat walk_at "yx"
        refine sm_next ?_
        refine sm_freeze 6 rfl ?_
        refine sm_if ?_
        repeat walk_at "yx"
        refine sm_next ?_
        refine sm_if ?_
        repeat walk_at "yx"
        refine sm_next ?_
        refine sm_if ?_
        repeat walk_at "yx"
        refine sm_next ?_
        exact ⟨[x0, x1, x2], [], _, _, _, _, _, by rw [List.append_nil] <;> rfl, rfl, hin3, ⟨by decide, by decide⟩, _, .inr (.inr (.inr (.inl ⟨rfl, rfl⟩))), due_at (k := 13) (by decide +kernel)⟩
  · rintro es' ⟨o, app, beh, s8, s9, s11, s13, rfl, ho3, hoin, ⟨a0, a1⟩, r, hway, hdue⟩
    have hv := get_in (k := (aN rest).toNat) hoin
    unfold inW at hv
    refine sm_seq (sm_set (ev_disp ?_))
    refine eps_cons (ev_str ⟨.inr _, rfl, ev_str ?_⟩)
    refine eps_cons (ev_str ⟨.inr _, rfl, ev_str ?_⟩)
    refine eps_cons (ev_str ⟨.inr _, rfl, ev_str ?_⟩)
    refine eps_cons (ev_str ⟨.inr _, rfl, ev_str ?_⟩)
    refine eps_cons (ev_str ⟨.inr _, rfl, ev_str ?_⟩)
    refine eps_cons (ev_str ⟨.inr _, rfl, ev_op (ev_str (ev_cb (ea_cons (ev_op (ev_var rfl (ev_var rfl (o_ixAL (own3_at ho3 a0 a1 app) ?_)))))))⟩)
    refine ea_nil (c_strI ⟨by omega, by omega⟩ (o_plusS (str_len hv) ?_))
    refine eps_nil ⟨by decide +kernel, by decide, ?_⟩
    refine sm_ret (ev_tup (ea_cons (ev_var rfl (ea_cons (ev_var rfl (ea_cons (ev_get2 (ev_var rfl ⟨_, _, rfl, ?_⟩))))))))
    repeat walk_at "yx"
    refine ⟨.inr w', rfl, ev_var rfl ?_⟩
    rw [words_get hway]
    repeat walk_at "yx"
    exact ⟨_, _, _, _, _, _, _, _, _, _, rfl, hdue.symm⟩
end
end Law
namespace Law
open PySem L2 Y
local macro_rules | `(tactic| walk_at "yv") => `(tactic| ((with_reducible show Ev _ (tVar _) _ _); refine ev_var rfl ?_))
local macro_rules | `(tactic| walk_at "ys") => `(tactic| with_reducible first
  | refine sm_seq ?_ | refine sm_ret ?_ | refine sm_if ?_ | refine sm_set ?_ | refine sm_next ?_ | refine sm_par ?_ | refine sm_drop ?_ | refine sm_brk ?_ | refine sm_cont ?_)
local macro_rules | `(tactic| walk_at "ye") => `(tactic| with_reducible first
  | refine ev_op ?_ | refine ev_and ?_ | refine ev_or ?_ | refine ev_not ?_ | refine ev_if ?_ | refine ev_chain ?_ | refine ev_neg ?_ | refine ev_isInt ?_ | refine ev_isBool ?_ | refine ev_isStr ?_ | refine ev_isList ?_ | refine ev_isTuple ?_ | refine ev_isLT ?_ | refine ev_isDict ?_
  | refine ev_int ?_ | refine ev_str ?_ | refine ev_bl ?_ | refine ev_non ?_ | refine ev_call ?_ | refine ev_cb ?_ | refine ev_lst ?_ | refine ev_tup ?_ | refine ev_join ?_
  | refine ea_nil ?_ | refine ea_cons ?_
  | refine et_B ?_ | refine et_test ?_ | refine et_not ?_ | refine et_and ?_ | refine et_or ?_ | refine et_yes ?_
  | refine o_plusI ?_ | refine o_i0 ?_ | refine o_b0 ?_ | refine o_isN ?_ | refine o_notN ?_
  | refine bl_ex ?_ | refine int_ex ?_ | refine str_ex ?_ | refine lst_ex ?_ | refine tup_ex ?_)
local macro_rules | `(tactic| walk_at "yo") => `(tactic| first
  | ((with_reducible show Ev _ (tOp (rIx _) (tVar _) _) _ _); refine ev_ixOwn rfl ?_)
  | ((with_reducible show Ev _ (tCB _ (tCons (tVar _) tNil)) _ _); refine ev_lenOwn rfl ?_)
  | ((with_reducible show Sm _ (tAsg _ (gSub (tVar _) _ _)) _ _); refine sm_setItem rfl ?_)
  | ((with_reducible show Ev _ (tCall (spB _ _ _) _ _ _) _ _); refine ev_callB rfl rfl ?_))
local macro_rules | `(tactic| walk_at "yc") => `(tactic| first
  | ((with_reducible show CMul _ _); first | exact Or.inr ⟨by decide, by decide⟩ | exact Or.inl ⟨by decide, by decide⟩ | exact Or.inr ⟨by omega, by omega⟩ | exact Or.inl ⟨by omega, by omega⟩)
  | ((with_reducible show CDiv _ _); exact ⟨by first | decide | omega, by first | decide | omega⟩)
  | ((with_reducible show CPow _ _); exact ⟨by decide, by decide, by first | decide | omega⟩)
  | ((show (0 : Int) < _); first | decide | omega))
local macro_rules | `(tactic| walk_at "yd") => `(tactic| first
  | ((with_reducible show plainD _ = true ∧ _); refine ⟨by first | rfl | assumption, ?_⟩)
  | ((with_reducible show (_ = true → _) ∧ (_ = false → _)); first | refine way_t rfl ?_ | refine way_f rfl ?_ | refine way_t (by decide +kernel) ?_ | refine way_f (by decide +kernel) ?_)
  | ((with_reducible show Cal _ _ _ _ _); first | (with_reducible refine c_int ?_) | (with_reducible refine c_abs ?_) | (refine c_len rfl ?_) | (refine c_len (if_pos (by assumption)) ?_))
  | ((with_reducible show Op2 _ (rEqA _) _ _ _ _); refine o_eqA rfl ?_)
  | ((with_reducible show Op2 _ (rNeA _) _ _ _ _); refine o_neA rfl ?_)
  | ((with_reducible show Op2 _ (rInA _) _ (Dt.str _) (Dt.lst _) _); refine o_inAL rfl rfl ?_)
  | ((with_reducible show Op2 _ (rInA _) _ (Dt.str _) (Dt.tup _) _); refine o_inAT rfl rfl ?_)
  | ((with_reducible show Op2 _ (rI _ _) _ _ _ _); refine o_i (by walk_at "yc") ?_)
  | ((with_reducible show Op2 _ (rIx _) _ (Dt.tup _) _ _); refine o_ixAT (atI_toNat (by decide) rfl) ?_)
  | ((with_reducible show Op2 _ (rIx _) _ (Dt.lst _) _ _); refine o_ixAL (atI_toNat (by decide) rfl) ?_)
  | ((with_reducible show ∃ x, atI _ _ = some x ∧ _); refine ⟨_, rfl, ?_⟩)
  | ((with_reducible show ∃ x, ixN _ _ = some x ∧ _); refine ⟨_, rfl, ?_⟩)
  | ((with_reducible show List.length _ ≤ 100000 ∧ _); refine ⟨by (try simp only [List.length_cons, List.length_nil]); first | decide | omega, ?_⟩))
local macro_rules | `(tactic| walk_at "y") => `(tactic| first | walk_at "yo" | walk_at "ye" | walk_at "yv" | walk_at "ys" | walk_at "yd")
local macro_rules | `(tactic| walk_at "yx") => `(tactic| first | walk_at "yo" | walk_at "ye" | walk_at "yv" | walk_at "yd")

theorem cell_parts {j a b c : Int} (ha : 0 ≤ a ∧ a ≤ 3) (hb : 0 ≤ b ∧ b ≤ 3) (hc : 0 ≤ c ∧ c ≤ 255) : cellD j a b c / 4096 = j ∧ cellD j a b c / 1024 % 4 = a ∧ cellD j a b c / 256 % 4 = b ∧ cellD j a b c % 256 = c := by
  unfold cellD; omega
theorem cell_fit {j a b c : Int} (hj : 0 ≤ j ∧ j ≤ 15) (ha : 0 ≤ a ∧ a ≤ 3) (hb : 0 ≤ b ∧ b ≤ 3) (hc : 0 ≤ c ∧ c ≤ 255) : 0 ≤ cellD j a b c ∧ cellD j a b c < 65536 := by
  unfold cellD; omega
theorem run_step {cs : List Int} {p h0 h1 : Int} {n : Nat} {m : Ms} {j a b c : Int} (k : Nat) (hw : m.way = "") (hk : (m.here - p + 65536) % 65536 = k) (hc : cs[k]? = some (cellD j a b c)) (ha : 0 ≤ a ∧ a ≤ 3) (hb : 0 ≤ b ∧ b ≤ 3) (hcc : 0 ≤ c ∧ c ≤ 255) : runM cs p h0 h1 (n + 1) m = runM cs p h0 h1 n (stepK h0 h1 j a b c m) := by
  show (if m.way = "" then (match cs[((m.here - p + 65536) % 65536).toNat]? with | some v => _ | none => m) else m) = _
  have e : ((m.here - p + 65536) % 65536).toNat = k := by omega
  rw [if_pos hw, e, hc]
  obtain ⟨e1, e2, e3, e4⟩ := cell_parts (j := j) ha hb hcc
  show runM cs p h0 h1 n (stepK h0 h1 (cellD j a b c / 4096) (cellD j a b c / 1024 % 4) (cellD j a b c / 256 % 4) (cellD j a b c % 256) m) = _
  rw [e1, e2, e3, e4]
theorem run_stop {cs : List Int} {p h0 h1 : Int} {m : Ms} (h : m.way ≠ "" ∨ (cs.length : Int) ≤ (m.here - p + 65536) % 65536) : ∀ n, runM cs p h0 h1 n m = m
  | 0 => rfl
  | n + 1 => by
    show (if m.way = "" then (match cs[((m.here - p + 65536) % 65536).toNat]? with | some v => _ | none => m) else m) = _
    rcases h with h | h
    · rw [if_neg h]
    · rw [List.getElem?_eq_none (by omega)]
      split <;> rfl
section
variable {h0 h1 a b c : Int} {m : Ms}
theorem st2 : stepK h0 h1 2 a b c m = { m with own := m.own.set a.toNat (c * 256), here := (m.here + 1) % 65536 } := rfl
theorem st3 : stepK h0 h1 3 a b c m = { m with own := m.own.set a.toNat ((m.own.getD a.toNat 0 + nearN c + 65536) % 65536), here := (m.here + 1) % 65536 } := rfl
theorem st4 : stepK h0 h1 4 a b c m = { m with own := m.own.set a.toNat ((m.own.getD a.toNat 0 + m.own.getD b.toNat 0) % 65536), here := (m.here + 1) % 65536 } := rfl
theorem st5 : stepK h0 h1 5 a b c m = { m with own := m.own.set a.toNat ((m.own.getD a.toNat 0 - m.own.getD b.toNat 0 + 65536) % 65536), here := (m.here + 1) % 65536 } := rfl
theorem st6 (h : (m.own.getD b.toNat 0 + c) % 65536 = h0) : stepK h0 h1 6 a b c m = { m with own := m.own.set a.toNat h1, here := (m.here + 1) % 65536 } := by
  show Ms.mk (m.own.set a.toNat (if (m.own.getD b.toNat 0 + c) % 65536 = h0 then h1 else -1)) m.app ((m.here + 1) % 65536) m.way = _
  rw [if_pos h]
theorem st7 : stepK h0 h1 7 a b c m = { m with app := [.tup [.int ((m.own.getD b.toNat 0 + c) % 65536), .int (m.own.getD a.toNat 0)]], here := (m.here + 1) % 65536, way := "store" } := rfl
theorem st8 : stepK h0 h1 8 a b c m = { m with here := (m.here + nearN c + 65536) % 65536 } := rfl
theorem st9y (h : m.own.getD a.toNat 0 = 0) : stepK h0 h1 9 a b c m = { m with here := (m.here + nearN c + 65536) % 65536 } := by
  unfold stepK
  rw [if_neg (by decide), if_neg (by decide), if_neg (by decide), if_neg (by decide), if_neg (by decide), if_neg (by decide), if_pos (.inr ⟨rfl, h⟩)]
theorem st9n (h : ¬ m.own.getD a.toNat 0 = 0) : stepK h0 h1 9 a b c m = { m with here := (m.here + 1) % 65536 } := by
  unfold stepK
  rw [if_neg (by decide), if_neg (by decide), if_neg (by decide), if_neg (by decide), if_neg (by decide), if_neg (by decide), if_neg (fun k => k.elim (by decide) fun k => h k.2)]
  rfl
theorem st10 : stepK h0 h1 10 a b c m = { m with here := (m.here + nearN c + 65536) % 65536, way := "call" } := rfl
theorem st11 : stepK h0 h1 11 a b c m = { m with own := m.own.set a.toNat ((m.here + nearN c + 65536) % 65536), here := (m.here + 1) % 65536 } := rfl
theorem st12 : stepK h0 h1 12 a b c m = { m with here := m.own.getD a.toNat 0, way := "go" } := rfl
theorem st13 : stepK h0 h1 13 a b c m = { m with here := m.own.getD a.toNat 0, way := "call" } := rfl
theorem st1 : stepK h0 h1 1 a b c m = { m with here := (m.here + 1) % 65536, way := "halt" } := rfl
theorem st14 : stepK h0 h1 14 a b c m = { m with here := (m.here + 1) % 65536, way := "back" } := rfl
theorem st15 : stepK h0 h1 15 a b c m = { m with here := (m.here + 1) % 65536, way := "out " ++ (toString (m.own.getD a.toNat 0) : String) } := rfl
end
def thirdD (m : Ms) : Dt := .tup [.lst ((m.own.take 3).map Dt.int ++ m.app), .int m.here, .str (if m.way = "go" then "" else m.way)]
theorem whole_of {k : Int} (h : 0 ≤ k ∧ k < 65536) : (hiN k * 256 + nearN (loN k) + 65536) % 65536 = k := by
  unfold hiN loN nearN
  split <;> omega
theorem near_of {p q d : Int} (hp : 0 ≤ p ∧ p < 65536) (hd : 0 ≤ d ∧ d < 256) (hq : q = (p + d + 65408) % 65536) : (p + nearN ((q - p) % 256) + 65536) % 65536 = q := by
  unfold nearN
  split <;> omega
def goN (w : Str) : Str := if w = "go" then "" else w
theorem third_eq {o : List Int} {app : List Dt} {he : Int} {wy : Str} : thirdD ⟨o, app, he, wy⟩ = resD (o.take 3) app he (if wy = "go" then "" else wy) := rfl
theorem res_eq {o o' : List Int} {app : List Dt} {he he' : Int} {wy wy' : Str} (h1 : o = o') (h2 : he = he') (h3 : wy = wy') : resD o app he wy = resD o' app he' wy' := by rw [h1, h2, h3]
theorem start_spot (p : Int) : (p - p + 65536) % 65536 = ((0 : Nat) : Int) := by omega
def LeadH (row : Dt) (far : Bool) (p q h0 x0 x1 x2 : Int) : Prop :=
  (0 ≤ p ∧ p < 65536) ∧ (0 ≤ q ∧ q < 65536) ∧ (∀ w rest, row = .tup (.str w :: rest) → twoForms w → far = false → ∃ d : Int, 0 ≤ d ∧ d < 256 ∧ q = (p + d + 65408) % 65536) ∧
  (∀ w rest, row = .tup (.str w :: rest) → (w = "jump" ∨ w = "ifzero") → ¬ (q - p + 65536) % 65536 < (cellsD row p q far).length) ∧
  (∀ r s d, row = .tup [.str "load", r, s, .int d] → h0 = ([x0, x1, x2].getD (rnN s) 0 + d) % 65536)
def Leads (row : Dt) (far : Bool) (p q h0 h1 x0 x1 x2 x3 : Int) : Prop := ∃ cs : List Int, cellsD row p q far = cs.map Dt.int ∧ cs.length ≤ 5 ∧ (∀ v ∈ cs, 0 ≤ v ∧ v < 65536) ∧ thirdD (doneM cs p h0 h1 [x0, x1, x2, x3]) = dueD row p q [x0, x1, x2] h1 cs.length
theorem fit1 {v : Int} (h : 0 ≤ v ∧ v < 65536) : ∀ x ∈ [v], 0 ≤ x ∧ x < 65536 := fun x hx => by rw [List.mem_singleton.mp hx]; exact h
theorem fitc {v : Int} {l : List Int} (h : 0 ≤ v ∧ v < 65536) (h2 : ∀ x ∈ l, 0 ≤ x ∧ x < 65536) : ∀ x ∈ v :: l, 0 ≤ x ∧ x < 65536 := fun x hx => by
  rcases List.mem_cons.mp hx with rfl | hx
  · exact h
  · exact h2 x hx
theorem fitn : ∀ x ∈ ([] : List Int), 0 ≤ x ∧ x < 65536 := fun x hx => nomatch hx
theorem rn_nat {x : Dt} (h : isRegD x = true) : rnN x = 0 ∨ rnN x = 1 ∨ rnN x = 2 := by
  rcases reg_cases h with rfl | rfl | rfl
  · exact .inl (by decide +kernel)
  · exact .inr (.inl (by decide +kernel))
  · exact .inr (.inr (by decide +kernel))
theorem set3 {x0 x1 x2 x3 v : Int} {k : Nat} (h : k = 0 ∨ k = 1 ∨ k = 2) : ([x0, x1, x2, x3].set k v).take 3 = [x0, x1, x2].set k v := by
  rcases h with rfl | rfl | rfl <;> rfl
theorem get3 {x0 x1 x2 x3 : Int} {k : Nat} (h : k = 0 ∨ k = 1 ∨ k = 2) : [x0, x1, x2, x3].getD k 0 = [x0, x1, x2].getD k 0 := by
  rcases h with rfl | rfl | rfl <;> rfl
theorem ss3 {x0 x1 x2 x3 v w : Int} {k : Nat} (h : k = 0 ∨ k = 1 ∨ k = 2) : (([x0, x1, x2, x3].set k v).set k w).take 3 = [x0, x1, x2].set k w := by
  rcases h with rfl | rfl | rfl <;> rfl
theorem gs3 {x0 x1 x2 x3 v : Int} {k : Nat} (h : k = 0 ∨ k = 1 ∨ k = 2) : ([x0, x1, x2, x3].set k v).getD k 0 = v := by
  rcases h with rfl | rfl | rfl <;> rfl
theorem hl_ok (j n v : Int) (hj : 0 ≤ j ∧ j ≤ 15) (hn : 0 ≤ n ∧ n ≤ 3) : (0 ≤ cellD j n 0 (hiN v) ∧ cellD j n 0 (hiN v) < 65536) ∧ (0 ≤ cellD j n 0 (loN v) ∧ cellD j n 0 (loN v) < 65536) := ⟨cell_fit hj hn ⟨by decide, by decide⟩ (hiN_le v), cell_fit hj hn ⟨by decide, by decide⟩ (loN_le v)⟩
/-- a register is led to a word: two cells -/
theorem run_halves {cs : List Int} {p h0 h1 n v : Int} {i k : Nat} {o : List Int} {app : List Dt} (hn : 0 ≤ n ∧ n ≤ 3) (hp : 0 ≤ p ∧ p < 65536) (hi : i ≤ 100) (h2 : cs[i]? = some (cellD 2 n 0 (hiN v))) (h3 : cs[i + 1]? = some (cellD 3 n 0 (loN v))) (hv : 0 ≤ v ∧ v < 65536) (hg : (o.set n.toNat (hiN v * 256)).getD n.toNat 0 = hiN v * 256) (hs : (o.set n.toNat (hiN v * 256)).set n.toNat v = o.set n.toNat v) :
    runM cs p h0 h1 (k + 2) ⟨o, app, (p + i) % 65536, ""⟩ = runM cs p h0 h1 k ⟨o.set n.toNat v, app, (p + i + 2) % 65536, ""⟩ := by
  rw [run_step i rfl (by show ((p + i) % 65536 - p + 65536) % 65536 = _; omega) h2 hn ⟨by decide, by decide⟩ (hiN_le v), st2]
  rw [run_step (i + 1) rfl (by show (((p + i) % 65536 + 1) % 65536 - p + 65536) % 65536 = _; omega) h3 hn ⟨by decide, by decide⟩ (loN_le v), st3]
  show runM cs p h0 h1 k ⟨(o.set n.toNat (hiN v * 256)).set n.toNat (((o.set n.toNat (hiN v * 256)).getD n.toNat 0 + nearN (loN v) + 65536) % 65536), app, (((p + i) % 65536 + 1) % 65536 + 1) % 65536, ""⟩ = _
  rw [hg, whole_of hv, hs, show (((p + (i : Int)) % 65536 + 1) % 65536 + 1) % 65536 = (p + i + 2) % 65536 by omega]
theorem set_set3 {x0 x1 x2 x3 v w : Int} {k : Nat} : ([x0, x1, x2, x3].set k v).set k w = [x0, x1, x2, x3].set k w := by
  rw [List.set_set]
theorem set_get3 {x0 x1 x2 x3 v : Int} {k : Nat} (h : k < 4) : ([x0, x1, x2, x3].set k v).getD k 0 = v := by
  rcases k with _ | _ | _ | _ | k
  · rfl
  · rfl
  · rfl
  · rfl
  · omega
theorem here0 {p : Int} (h : 0 ≤ p ∧ p < 65536) : p = (p + (0 : Nat)) % 65536 := by omega
end Law
namespace Law
open PySem L2 Y
local macro_rules | `(tactic| walk_at "yv") => `(tactic| ((with_reducible show Ev _ (tVar _) _ _); refine ev_var rfl ?_))
local macro_rules | `(tactic| walk_at "ys") => `(tactic| with_reducible first
  | refine sm_seq ?_ | refine sm_ret ?_ | refine sm_if ?_ | refine sm_set ?_ | refine sm_next ?_ | refine sm_par ?_ | refine sm_drop ?_ | refine sm_brk ?_ | refine sm_cont ?_)
local macro_rules | `(tactic| walk_at "ye") => `(tactic| with_reducible first
  | refine ev_op ?_ | refine ev_and ?_ | refine ev_or ?_ | refine ev_not ?_ | refine ev_if ?_ | refine ev_chain ?_ | refine ev_neg ?_ | refine ev_isInt ?_ | refine ev_isBool ?_ | refine ev_isStr ?_ | refine ev_isList ?_ | refine ev_isTuple ?_ | refine ev_isLT ?_ | refine ev_isDict ?_
  | refine ev_int ?_ | refine ev_str ?_ | refine ev_bl ?_ | refine ev_non ?_ | refine ev_call ?_ | refine ev_cb ?_ | refine ev_lst ?_ | refine ev_tup ?_ | refine ev_join ?_
  | refine ea_nil ?_ | refine ea_cons ?_
  | refine et_B ?_ | refine et_test ?_ | refine et_not ?_ | refine et_and ?_ | refine et_or ?_ | refine et_yes ?_
  | refine o_plusI ?_ | refine o_i0 ?_ | refine o_b0 ?_ | refine o_isN ?_ | refine o_notN ?_
  | refine bl_ex ?_ | refine int_ex ?_ | refine str_ex ?_ | refine lst_ex ?_ | refine tup_ex ?_)
local macro_rules | `(tactic| walk_at "yo") => `(tactic| first
  | ((with_reducible show Ev _ (tOp (rIx _) (tVar _) _) _ _); refine ev_ixOwn rfl ?_)
  | ((with_reducible show Ev _ (tCB _ (tCons (tVar _) tNil)) _ _); refine ev_lenOwn rfl ?_)
  | ((with_reducible show Sm _ (tAsg _ (gSub (tVar _) _ _)) _ _); refine sm_setItem rfl ?_)
  | ((with_reducible show Ev _ (tCall (spB _ _ _) _ _ _) _ _); refine ev_callB rfl rfl ?_))
local macro_rules | `(tactic| walk_at "yc") => `(tactic| first
  | ((with_reducible show CMul _ _); first | exact Or.inr ⟨by decide, by decide⟩ | exact Or.inl ⟨by decide, by decide⟩ | exact Or.inr ⟨by omega, by omega⟩ | exact Or.inl ⟨by omega, by omega⟩)
  | ((with_reducible show CDiv _ _); exact ⟨by first | decide | omega, by first | decide | omega⟩)
  | ((with_reducible show CPow _ _); exact ⟨by decide, by decide, by first | decide | omega⟩)
  | ((show (0 : Int) < _); first | decide | omega))
local macro_rules | `(tactic| walk_at "yd") => `(tactic| first
  | ((with_reducible show plainD _ = true ∧ _); refine ⟨by first | rfl | assumption, ?_⟩)
  | ((with_reducible show (_ = true → _) ∧ (_ = false → _)); first | refine way_t rfl ?_ | refine way_f rfl ?_ | refine way_t (by decide +kernel) ?_ | refine way_f (by decide +kernel) ?_)
  | ((with_reducible show Cal _ _ _ _ _); first | (with_reducible refine c_int ?_) | (with_reducible refine c_abs ?_) | (refine c_len rfl ?_) | (refine c_len (if_pos (by assumption)) ?_))
  | ((with_reducible show Op2 _ (rEqA _) _ _ _ _); refine o_eqA rfl ?_)
  | ((with_reducible show Op2 _ (rNeA _) _ _ _ _); refine o_neA rfl ?_)
  | ((with_reducible show Op2 _ (rInA _) _ (Dt.str _) (Dt.lst _) _); refine o_inAL rfl rfl ?_)
  | ((with_reducible show Op2 _ (rInA _) _ (Dt.str _) (Dt.tup _) _); refine o_inAT rfl rfl ?_)
  | ((with_reducible show Op2 _ (rI _ _) _ _ _ _); refine o_i (by walk_at "yc") ?_)
  | ((with_reducible show Op2 _ (rIx _) _ (Dt.tup _) _ _); refine o_ixAT (atI_toNat (by decide) rfl) ?_)
  | ((with_reducible show Op2 _ (rIx _) _ (Dt.lst _) _ _); refine o_ixAL (atI_toNat (by decide) rfl) ?_)
  | ((with_reducible show ∃ x, atI _ _ = some x ∧ _); refine ⟨_, rfl, ?_⟩)
  | ((with_reducible show ∃ x, ixN _ _ = some x ∧ _); refine ⟨_, rfl, ?_⟩)
  | ((with_reducible show List.length _ ≤ 100000 ∧ _); refine ⟨by (try simp only [List.length_cons, List.length_nil]); first | decide | omega, ?_⟩))
local macro_rules | `(tactic| walk_at "y") => `(tactic| first | walk_at "yo" | walk_at "ye" | walk_at "yv" | walk_at "ys" | walk_at "yd")
local macro_rules | `(tactic| walk_at "yx") => `(tactic| first | walk_at "yo" | walk_at "ye" | walk_at "yv" | walk_at "yd")

theorem leads_of {row : Dt} {far : Bool} {p q h0 h1 x0 x1 x2 x3 he : Int} {wy : Str} {o : List Int} {app : List Dt} (cs : List Int) (hc : cellsD row p q far = cs.map Dt.int) (hl : cs.length ≤ 5) (hf : ∀ v ∈ cs, 0 ≤ v ∧ v < 65536) (hrun : doneM cs p h0 h1 [x0, x1, x2, x3] = ⟨o, app, he, wy⟩) (hd : dueD row p q [x0, x1, x2] h1 cs.length = resD (o.take 3) app he (if wy = "go" then "" else wy)) : Leads row far p q h0 h1 x0 x1 x2 x3 :=
  ⟨cs, hc, hl, hf, by rw [hrun, third_eq, hd]⟩
theorem leads_one {row : Dt} {far : Bool} {p q h0 h1 x0 x1 x2 x3 he j a b c : Int} {wy : Str} {o : List Int} {app : List Dt} (hc : cellsD row p q far = [.int (cellD j a b c)]) (hj : 0 ≤ j ∧ j ≤ 15) (ha : 0 ≤ a ∧ a ≤ 3) (hb : 0 ≤ b ∧ b ≤ 3) (hcc : 0 ≤ c ∧ c ≤ 255) (hs : stepK h0 h1 j a b c ⟨[x0, x1, x2, x3], [], p, ""⟩ = ⟨o, app, he, wy⟩) (hst : wy ≠ "" ∨ 1 ≤ (he - p + 65536) % 65536) (hd : dueD row p q [x0, x1, x2] h1 1 = resD (o.take 3) app he (if wy = "go" then "" else wy)) : Leads row far p q h0 h1 x0 x1 x2 x3 := by
  refine leads_of [cellD j a b c] hc (by decide : 1 ≤ 5) (fit1 (cell_fit hj ha hb hcc)) ?_ hd
  show runM [cellD j a b c] p h0 h1 2 ⟨[x0, x1, x2, x3], [], p, ""⟩ = _
  rw [run_step 0 rfl (start_spot p) rfl ha hb hcc, hs]
  exact run_stop hst 1
theorem leads_halves {row : Dt} {far : Bool} {p q h0 h1 x0 x1 x2 x3 n v : Int} (hc : cellsD row p q far = halvesD n v) (hp : 0 ≤ p ∧ p < 65536) (hn : 0 ≤ n ∧ n < 3) (hv : 0 ≤ v ∧ v < 65536) (hd : dueD row p q [x0, x1, x2] h1 2 = resD ([x0, x1, x2].set n.toNat v) [] ((p + 2) % 65536) "") : Leads row far p q h0 h1 x0 x1 x2 x3 := by
  have hn3 : 0 ≤ n ∧ n ≤ 3 := ⟨hn.1, by omega⟩
  have hk : n.toNat = 0 ∨ n.toNat = 1 ∨ n.toNat = 2 := by omega
  refine leads_of (o := [x0, x1, x2, x3].set n.toNat v) (app := []) (he := (p + 2) % 65536) (wy := "") [cellD 2 n 0 (hiN v), cellD 3 n 0 (loN v)] hc (by decide : 2 ≤ 5) (fitc (hl_ok 2 n v ⟨by decide, by decide⟩ hn3).1 (fit1 (hl_ok 3 n v ⟨by decide, by decide⟩ hn3).2)) ?_ ?_
  · show runM [cellD 2 n 0 (hiN v), cellD 3 n 0 (loN v)] p h0 h1 (1 + 2) ⟨[x0, x1, x2, x3], [], p, ""⟩ = _
    have e := run_halves (cs := [cellD 2 n 0 (hiN v), cellD 3 n 0 (loN v)]) (p := p) (h0 := h0) (h1 := h1) (n := n) (v := v) (i := 0) (k := 1) (o := [x0, x1, x2, x3]) (app := []) hn3 hp (by decide) rfl rfl hv (set_get3 (by omega)) set_set3
    rw [← here0 hp] at e
    rw [e]
    have e2 : (p + ((0 : Nat) : Int) + 2) % 65536 = (p + 2) % 65536 := by omega
    rw [e2]
    exact run_stop (.inr (by show ((2 : Nat) : Int) ≤ ((p + 2) % 65536 - p + 65536) % 65536; omega)) 1
  · refine hd.trans (res_eq ?_ rfl (by decide +kernel))
    exact (set3 hk).symm
theorem led_run {cs : List Int} {p q h0 h1 x0 x1 x2 x3 code : Int} {wy : Str} {i k : Nat} (hc : (code = 12 ∧ wy = "go") ∨ (code = 13 ∧ wy = "call")) (hp : 0 ≤ p ∧ p < 65536) (hq : 0 ≤ q ∧ q < 65536) (hi : i ≤ 90) (c2 : cs[i]? = some (cellD 2 3 0 (hiN q))) (c3 : cs[i + 1]? = some (cellD 3 3 0 (loN q))) (c4 : cs[i + 2]? = some (cellD code 3 0 0)) : runM cs p h0 h1 (k + 1 + 2) ⟨[x0, x1, x2, x3], [], (p + i) % 65536, ""⟩ = ⟨[x0, x1, x2, q], [], q, wy⟩ := by
  rw [run_halves (n := 3) ⟨by decide, by decide⟩ hp (by omega) c2 c3 hq (set_get3 (by decide)) set_set3]
  rw [run_step (i + 2) rfl (by show ((p + i + 2) % 65536 - p + 65536) % 65536 = _; omega) c4 ⟨by decide, by decide⟩ ⟨by decide, by decide⟩ ⟨by decide, by decide⟩]
  rcases hc with ⟨rfl, rfl⟩ | ⟨rfl, rfl⟩
  · rw [st12]; exact run_stop (.inl (by show ("go" : Str) ≠ ""; decide +kernel)) k
  · rw [st13]; exact run_stop (.inl (by show ("call" : Str) ≠ ""; decide +kernel)) k
theorem led_fit {code q : Int} (hc : code = 12 ∨ code = 13) : ∀ x ∈ [cellD 2 3 0 (hiN q), cellD 3 3 0 (loN q), cellD code 3 0 0], 0 ≤ x ∧ x < 65536 :=
  fitc (hl_ok 2 3 q ⟨by decide, by decide⟩ ⟨by decide, by decide⟩).1 (fitc (hl_ok 3 3 q ⟨by decide, by decide⟩ ⟨by decide, by decide⟩).2 (fit1 (cell_fit (by rcases hc with rfl | rfl <;> exact ⟨by decide, by decide⟩) ⟨by decide, by decide⟩ ⟨by decide, by decide⟩ ⟨by decide, by decide⟩)))
theorem leads_led {row : Dt} {far : Bool} {p q h0 h1 x0 x1 x2 x3 code : Int} {wy : Str} (hw : (code = 12 ∧ wy = "go") ∨ (code = 13 ∧ wy = "call")) (hc : cellsD row p q far = ledD code q) (hp : 0 ≤ p ∧ p < 65536) (hq : 0 ≤ q ∧ q < 65536) (hd : dueD row p q [x0, x1, x2] h1 3 = resD [x0, x1, x2] [] q (if wy = "go" then "" else wy)) : Leads row far p q h0 h1 x0 x1 x2 x3 := by
  refine leads_of (o := [x0, x1, x2, q]) (app := []) (he := q) (wy := wy) [cellD 2 3 0 (hiN q), cellD 3 3 0 (loN q), cellD code 3 0 0] hc (by decide : 3 ≤ 5) (led_fit (hw.elim (fun h => .inl h.1) fun h => .inr h.1)) ?_ hd
  show runM _ p h0 h1 (1 + 1 + 2) ⟨[x0, x1, x2, x3], [], p, ""⟩ = _
  have e := led_run (cs := [cellD 2 3 0 (hiN q), cellD 3 3 0 (loN q), cellD code 3 0 0]) (p := p) (q := q) (h0 := h0) (h1 := h1) (x0 := x0) (x1 := x1) (x2 := x2) (x3 := x3) (i := 0) (k := 1) hw hp hq (by decide) rfl rfl rfl
  rw [← here0 hp] at e
  exact e
theorem past {p : Int} (h : 0 ≤ p ∧ p < 65536) : 1 ≤ ((p + 1) % 65536 - p + 65536) % 65536 := by omega
theorem reg3 {x : Dt} (h : isRegD x = true) : 0 ≤ regN x ∧ regN x ≤ 3 := by have := reg2 h; omega
theorem near_c (a : Int) : 0 ≤ a % 256 ∧ a % 256 ≤ 255 := by omega
theorem z3 : (0 : Int) ≤ 0 ∧ (0 : Int) ≤ 3 := ⟨by decide, by decide⟩
theorem z255 : (0 : Int) ≤ 0 ∧ (0 : Int) ≤ 255 := ⟨by decide, by decide⟩
theorem j15 {j : Int} (h : decide (0 ≤ j ∧ j ≤ 15) = true) : 0 ≤ j ∧ j ≤ 15 := of_decide_eq_true h
theorem nogo : ("" : Str) = (if ("" : Str) = "go" then ("" : Str) else "") := by decide +kernel
theorem go_no {w : Str} (h : w ≠ "go") : w = (if w = "go" then ("" : Str) else w) := by rw [if_neg h]
theorem out_go {s : Str} : (("out " : Str) ++ s) ≠ "go" ∧ (("out " : Str) ++ s) ≠ "" := by
  have e : (("out " : Str) ++ s).cps.size = 4 + s.cps.size := Array.size_append
  constructor
  · intro h
    rw [h] at e
    have : ("go" : Str).cps.size = 2 := by decide +kernel
    omega
  · intro h
    rw [h] at e
    have : ("" : Str).cps.size = 0 := by decide +kernel
    omega
theorem row_leads {row : Dt} {far : Bool} {p q h0 h1 x0 x1 x2 x3 : Int} (hrow : RunS row) (hl : LeadH row far p q h0 x0 x1 x2) : Leads row far p q h0 h1 x0 x1 x2 x3 := by
  obtain ⟨hp, hq, hnear, hno, hload⟩ := hl
  cases hrow with
  | @put r n g1 g2 =>
    obtain ⟨k, rfl, k0, k1⟩ := num_int g2
    exact leads_halves (n := regN r) (v := k) (by rw [cells_at (k := 0) (by decide +kernel)]; rfl) hp (reg2 g1) ⟨k0, by omega⟩ (due_at (k := 0) (by decide +kernel))
  | @rn w r n hw g1 g2 =>
    rcases hw with rfl | rfl
    · cases far with
      | true => exact leads_halves (n := regN r) (v := q) (by rw [cells_at (k := 1) (by decide +kernel)]; rfl) hp (reg2 g1) hq (due_at (k := 1) (by decide +kernel))
      | false =>
        obtain ⟨d, d0, d1, hqd⟩ := hnear _ _ rfl (.inl rfl) rfl
        refine leads_one (j := 11) (a := regN r) (b := 0) (c := (q - p) % 256) (by rw [cells_at (k := 1) (by decide +kernel)]; rfl) (j15 rfl) (reg3 g1) z3 (near_c _) st11 (.inr (past hp)) ?_
        refine (due_at (k := 1) (by decide +kernel)).trans (res_eq ?_ rfl (by first | exact nogo | decide +kernel))
        show [x0, x1, x2].set (rnN r) q = ([x0, x1, x2, x3].set (rnN r) ((p + nearN ((q - p) % 256) + 65536) % 65536)).take 3
        rw [near_of hp ⟨d0, d1⟩ hqd, set3 (rn_nat g1)]
    · have hn2 := hno _ _ rfl (.inr rfl)
      cases far with
      | true =>
        rw [cells_at (k := 2) (by decide +kernel)] at hn2
        have hn2 : ¬ (q - p + 65536) % 65536 < ((5 : Nat) : Int) := hn2
        have hfit : ∀ v ∈ [cellD 9 (regN r) 0 2, cellD 8 0 0 4, cellD 2 3 0 (hiN q), cellD 3 3 0 (loN q), cellD 12 3 0 0], 0 ≤ v ∧ v < 65536 := fitc (cell_fit (j15 rfl) (reg3 g1) z3 ⟨by decide, by decide⟩) (fitc (cell_fit (j15 rfl) z3 z3 ⟨by decide, by decide⟩) (led_fit (.inl rfl)))
        by_cases hz : [x0, x1, x2].getD (rnN r) 0 = 0
        · refine leads_of (o := [x0, x1, x2, q]) (app := []) (he := q) (wy := "go") [cellD 9 (regN r) 0 2, cellD 8 0 0 4, cellD 2 3 0 (hiN q), cellD 3 3 0 (loN q), cellD 12 3 0 0] (by rw [cells_at (k := 2) (by decide +kernel)]; rfl) (by decide : 5 ≤ 5) hfit ?_ ?_
          · show runM _ p h0 h1 (5 + 1) ⟨[x0, x1, x2, x3], [], p, ""⟩ = _
            rw [run_step 0 rfl (start_spot p) rfl (reg3 g1) z3 ⟨by decide, by decide⟩, st9y (by rw [show (regN r).toNat = rnN r from rfl, get3 (rn_nat g1)]; exact hz)]
            have e := led_run (cs := [cellD 9 (regN r) 0 2, cellD 8 0 0 4, cellD 2 3 0 (hiN q), cellD 3 3 0 (loN q), cellD 12 3 0 0]) (p := p) (q := q) (h0 := h0) (h1 := h1) (x0 := x0) (x1 := x1) (x2 := x2) (x3 := x3) (i := 2) (k := 2) (.inl ⟨rfl, rfl⟩) hp hq (by decide) rfl rfl rfl
            have e2 : (p + nearN 2 + 65536) % 65536 = (p + ((2 : Nat) : Int)) % 65536 := by unfold nearN; rw [if_pos (by decide)]; omega
            show runM _ p h0 h1 5 ⟨[x0, x1, x2, x3], [], (p + nearN 2 + 65536) % 65536, ""⟩ = _
            rw [e2]; exact e
          · refine (due_at (k := 2) (by decide +kernel)).trans (res_eq rfl ?_ (by first | exact nogo | decide +kernel))
            rw [if_pos hz]
        · refine leads_of (o := [x0, x1, x2, x3]) (app := []) (he := (p + 5) % 65536) (wy := "") [cellD 9 (regN r) 0 2, cellD 8 0 0 4, cellD 2 3 0 (hiN q), cellD 3 3 0 (loN q), cellD 12 3 0 0] (by rw [cells_at (k := 2) (by decide +kernel)]; rfl) (by decide : 5 ≤ 5) hfit ?_ ?_
          · show runM _ p h0 h1 (4 + 1 + 1) ⟨[x0, x1, x2, x3], [], p, ""⟩ = _
            rw [run_step 0 rfl (start_spot p) rfl (reg3 g1) z3 ⟨by decide, by decide⟩, st9n (by rw [show (regN r).toNat = rnN r from rfl, get3 (rn_nat g1)]; exact hz)]
            rw [run_step 1 rfl (by show ((p + 1) % 65536 - p + 65536) % 65536 = _; omega) rfl z3 z3 ⟨by decide, by decide⟩, st8]
            have e2 : ((p + 1) % 65536 + nearN 4 + 65536) % 65536 = (p + 5) % 65536 := by unfold nearN; rw [if_pos (by decide)]; omega
            show runM _ p h0 h1 4 ⟨[x0, x1, x2, x3], [], ((p + 1) % 65536 + nearN 4 + 65536) % 65536, ""⟩ = _
            rw [e2]
            exact run_stop (.inr (by show ((5 : Nat) : Int) ≤ ((p + 5) % 65536 - p + 65536) % 65536; omega)) 4
          · refine (due_at (k := 2) (by decide +kernel)).trans (res_eq rfl ?_ (by first | exact nogo | decide +kernel))
            rw [if_neg hz]; rfl
      | false =>
        rw [cells_at (k := 2) (by decide +kernel)] at hn2
        have hn2 : ¬ (q - p + 65536) % 65536 < ((1 : Nat) : Int) := hn2
        obtain ⟨d, d0, d1, hqd⟩ := hnear _ _ rfl (.inr (.inl rfl)) rfl
        have hcl : cellsD (.tup [.str "ifzero", r, n]) p q false = [.int (cellD 9 (regN r) 0 ((q - p) % 256))] := by rw [cells_at (k := 2) (by decide +kernel)]; rfl
        by_cases hz : [x0, x1, x2].getD (rnN r) 0 = 0
        · refine leads_one (j := 9) (a := regN r) (b := 0) (c := (q - p) % 256) hcl (j15 rfl) (reg3 g1) z3 (near_c _) (st9y (by rw [show (regN r).toNat = rnN r from rfl]; exact (get3 (rn_nat g1)).trans hz)) ?_ ?_
          · refine .inr ?_
            rw [near_of hp ⟨d0, d1⟩ hqd]; omega
          · refine (due_at (k := 2) (by decide +kernel)).trans (res_eq rfl ?_ (by first | exact nogo | decide +kernel))
            rw [if_pos hz]; exact (near_of hp ⟨d0, d1⟩ hqd).symm
        · refine leads_one (j := 9) (a := regN r) (b := 0) (c := (q - p) % 256) hcl (j15 rfl) (reg3 g1) z3 (near_c _) (st9n (by rw [show (regN r).toNat = rnN r from rfl]; exact fun e => hz ((get3 (rn_nat g1)).symm.trans e))) (.inr (past hp)) ?_
          refine (due_at (k := 2) (by decide +kernel)).trans (res_eq rfl ?_ (by first | exact nogo | decide +kernel))
          rw [if_neg hz]
  | @nm w n hw g1 =>
    rcases hw with rfl | rfl
    · have hn2 := hno _ _ rfl (.inl rfl)
      cases far with
      | true => exact leads_led (code := 12) (wy := "go") (.inl ⟨rfl, rfl⟩) (by rw [cells_at (k := 7) (by decide +kernel)]; rfl) hp hq ((due_at (k := 7) (by decide +kernel)).trans (res_eq rfl rfl (by first | exact nogo | decide +kernel)))
      | false =>
        rw [cells_at (k := 7) (by decide +kernel)] at hn2
        have hn2 : ¬ (q - p + 65536) % 65536 < ((1 : Nat) : Int) := hn2
        obtain ⟨d, d0, d1, hqd⟩ := hnear _ _ rfl (.inr (.inr (.inl rfl))) rfl
        refine leads_one (j := 8) (a := 0) (b := 0) (c := (q - p) % 256) (by rw [cells_at (k := 7) (by decide +kernel)]; rfl) (j15 rfl) z3 z3 (near_c _) st8 ?_ ?_
        · refine .inr ?_
          show 1 ≤ ((p + nearN ((q - p) % 256) + 65536) % 65536 - p + 65536) % 65536
          rw [near_of hp ⟨d0, d1⟩ hqd]; omega
        · refine (due_at (k := 7) (by decide +kernel)).trans (res_eq rfl ?_ (by first | exact nogo | decide +kernel))
          exact (near_of hp ⟨d0, d1⟩ hqd).symm
    · cases far with
      | true => exact leads_led (code := 13) (wy := "call") (.inr ⟨rfl, rfl⟩) (by rw [cells_at (k := 8) (by decide +kernel)]; rfl) hp hq ((due_at (k := 8) (by decide +kernel)).trans (res_eq rfl rfl (by first | exact nogo | decide +kernel)))
      | false =>
        obtain ⟨d, d0, d1, hqd⟩ := hnear _ _ rfl (.inr (.inr (.inr rfl))) rfl
        refine leads_one (j := 10) (a := 0) (b := 0) (c := (q - p) % 256) (by rw [cells_at (k := 8) (by decide +kernel)]; rfl) (j15 rfl) z3 z3 (near_c _) st10 (.inl (by decide +kernel)) ?_
        refine (due_at (k := 8) (by decide +kernel)).trans (res_eq rfl ?_ (by first | exact nogo | decide +kernel))
        exact (near_of hp ⟨d0, d1⟩ hqd).symm
  | @rr w r s hw g1 g2 =>
    rcases hw with rfl | rfl
    · refine leads_one (j := 4) (a := regN r) (b := regN s) (c := 0) (by rw [cells_at (k := 3) (by decide +kernel)]; rfl) (j15 rfl) (reg3 g1) (reg3 g2) z255 st4 (.inr (past hp)) ?_
      refine (due_at (k := 3) (by decide +kernel)).trans (res_eq ?_ rfl (by first | exact nogo | decide +kernel))
      show _ = ([x0, x1, x2, x3].set (rnN r) (([x0, x1, x2, x3].getD (rnN r) 0 + [x0, x1, x2, x3].getD (rnN s) 0) % 65536)).take 3
      rw [set3 (rn_nat g1), get3 (rn_nat g1), get3 (rn_nat g2)]
    · refine leads_one (j := 5) (a := regN r) (b := regN s) (c := 0) (by rw [cells_at (k := 4) (by decide +kernel)]; rfl) (j15 rfl) (reg3 g1) (reg3 g2) z255 st5 (.inr (past hp)) ?_
      refine (due_at (k := 4) (by decide +kernel)).trans (res_eq ?_ rfl (by first | exact nogo | decide +kernel))
      show _ = ([x0, x1, x2, x3].set (rnN r) (([x0, x1, x2, x3].getD (rnN r) 0 - [x0, x1, x2, x3].getD (rnN s) 0 + 65536) % 65536)).take 3
      rw [set3 (rn_nat g1), get3 (rn_nat g1), get3 (rn_nat g2)]
  | @rrd w r s d hw g1 g2 g3 =>
    obtain ⟨k, rfl, k0, k1⟩ := num_int g3
    rcases hw with rfl | rfl
    · have hh := hload r s k rfl
      refine leads_one (j := 6) (a := regN r) (b := regN s) (c := k) (by rw [cells_at (k := 5) (by decide +kernel)]; rfl) (j15 rfl) (reg3 g1) (reg3 g2) ⟨k0, by omega⟩ (st6 (by show ([x0, x1, x2, x3].getD (rnN s) 0 + k) % 65536 = h0; rw [get3 (rn_nat g2), hh])) (.inr (past hp)) ?_
      refine (due_at (k := 5) (by decide +kernel)).trans (res_eq ?_ rfl (by first | exact nogo | decide +kernel))
      exact (set3 (rn_nat g1)).symm
    · refine leads_one (j := 7) (a := regN r) (b := regN s) (c := k) (by rw [cells_at (k := 6) (by decide +kernel)]; rfl) (j15 rfl) (reg3 g1) (reg3 g2) ⟨k0, by omega⟩ st7 (.inl (by decide +kernel)) ?_
      refine (due_at (k := 6) (by decide +kernel)).trans ?_
      show resD [x0, x1, x2] [.tup [.int (([x0, x1, x2].getD (rnN s) 0 + k) % 65536), .int ([x0, x1, x2].getD (rnN r) 0)]] _ _ = resD [x0, x1, x2] [.tup [.int (([x0, x1, x2, x3].getD (rnN s) 0 + k) % 65536), .int ([x0, x1, x2, x3].getD (rnN r) 0)]] _ _
      rw [get3 (rn_nat g1), get3 (rn_nat g2)]
      exact res_eq rfl rfl (by decide +kernel)
  | @rg w r hw g1 =>
    rcases hw with rfl | rfl
    · refine leads_one (j := 13) (a := regN r) (b := 0) (c := 0) (by rw [cells_at (k := 10) (by decide +kernel)]; rfl) (j15 rfl) (reg3 g1) z3 z255 st13 (.inl (by decide +kernel)) ?_
      refine (due_at (k := 10) (by decide +kernel)).trans (res_eq rfl ?_ (by first | exact nogo | decide +kernel))
      exact (get3 (rn_nat g1)).symm
    · refine leads_one (j := 15) (a := regN r) (b := 0) (c := 0) (by rw [cells_at (k := 11) (by decide +kernel)]; rfl) (j15 rfl) (reg3 g1) z3 z255 st15 (.inl out_go.2) ?_
      refine (due_at (k := 11) (by decide +kernel)).trans (res_eq rfl rfl ?_)
      show ("out " ++ (toString ([x0, x1, x2].getD (rnN r) 0) : String) : Str) = if ("out " ++ (toString ([x0, x1, x2, x3].getD (rnN r) 0) : String) : Str) = "go" then ("" : Str) else ("out " ++ (toString ([x0, x1, x2, x3].getD (rnN r) 0) : String) : Str)
      rw [get3 (rn_nat g1)]
      exact go_no out_go.1
  | none hw =>
    rcases hw with rfl | rfl
    · refine leads_one (j := 14) (a := 0) (b := 0) (c := 0) (by rw [cells_at (k := 12) (by decide +kernel)]; rfl) (j15 rfl) z3 z3 z255 st14 (.inl (by decide +kernel)) ?_
      exact (due_at (k := 12) (by decide +kernel)).trans (res_eq rfl rfl (by first | exact nogo | decide +kernel))
    · refine leads_one (j := 1) (a := 0) (b := 0) (c := 0) (by rw [cells_at (k := 13) (by decide +kernel)]; rfl) (j15 rfl) z3 z3 z255 st1 (.inl (by decide +kernel)) ?_
      exact (due_at (k := 13) (by decide +kernel)).trans (res_eq rfl rfl (by first | exact nogo | decide +kernel))
end Law
namespace Law
open PySem L2 Y
local macro_rules | `(tactic| walk_at "yv") => `(tactic| ((with_reducible show Ev _ (tVar _) _ _); refine ev_var rfl ?_))
local macro_rules | `(tactic| walk_at "ys") => `(tactic| with_reducible first
  | refine sm_seq ?_ | refine sm_ret ?_ | refine sm_if ?_ | refine sm_set ?_ | refine sm_next ?_ | refine sm_par ?_ | refine sm_drop ?_ | refine sm_brk ?_ | refine sm_cont ?_)
local macro_rules | `(tactic| walk_at "ye") => `(tactic| with_reducible first
  | refine ev_op ?_ | refine ev_and ?_ | refine ev_or ?_ | refine ev_not ?_ | refine ev_if ?_ | refine ev_chain ?_ | refine ev_neg ?_ | refine ev_isInt ?_ | refine ev_isBool ?_ | refine ev_isStr ?_ | refine ev_isList ?_ | refine ev_isTuple ?_ | refine ev_isLT ?_ | refine ev_isDict ?_
  | refine ev_int ?_ | refine ev_str ?_ | refine ev_bl ?_ | refine ev_non ?_ | refine ev_call ?_ | refine ev_cb ?_ | refine ev_lst ?_ | refine ev_tup ?_ | refine ev_join ?_
  | refine ea_nil ?_ | refine ea_cons ?_
  | refine et_B ?_ | refine et_test ?_ | refine et_not ?_ | refine et_and ?_ | refine et_or ?_ | refine et_yes ?_
  | refine o_plusI ?_ | refine o_i0 ?_ | refine o_b0 ?_ | refine o_isN ?_ | refine o_notN ?_
  | refine bl_ex ?_ | refine int_ex ?_ | refine str_ex ?_ | refine lst_ex ?_ | refine tup_ex ?_)
local macro_rules | `(tactic| walk_at "yo") => `(tactic| first
  | ((with_reducible show Ev _ (tOp (rIx _) (tVar _) _) _ _); refine ev_ixOwn rfl ?_)
  | ((with_reducible show Ev _ (tCB _ (tCons (tVar _) tNil)) _ _); refine ev_lenOwn rfl ?_)
  | ((with_reducible show Sm _ (tAsg _ (gSub (tVar _) _ _)) _ _); refine sm_setItem rfl ?_)
  | ((with_reducible show Ev _ (tCall (spB _ _ _) _ _ _) _ _); refine ev_callB rfl rfl ?_))
local macro_rules | `(tactic| walk_at "yc") => `(tactic| first
  | ((with_reducible show CMul _ _); first | exact Or.inr ⟨by decide, by decide⟩ | exact Or.inl ⟨by decide, by decide⟩ | exact Or.inr ⟨by omega, by omega⟩ | exact Or.inl ⟨by omega, by omega⟩)
  | ((with_reducible show CDiv _ _); exact ⟨by first | decide | omega, by first | decide | omega⟩)
  | ((with_reducible show CPow _ _); exact ⟨by decide, by decide, by first | decide | omega⟩)
  | ((show (0 : Int) < _); first | decide | omega))
local macro_rules | `(tactic| walk_at "yd") => `(tactic| first
  | ((with_reducible show plainD _ = true ∧ _); refine ⟨by first | rfl | assumption, ?_⟩)
  | ((with_reducible show (_ = true → _) ∧ (_ = false → _)); first | refine way_t rfl ?_ | refine way_f rfl ?_ | refine way_t (by decide +kernel) ?_ | refine way_f (by decide +kernel) ?_)
  | ((with_reducible show Cal _ _ _ _ _); first | (with_reducible refine c_int ?_) | (with_reducible refine c_abs ?_) | (refine c_len rfl ?_) | (refine c_len (if_pos (by assumption)) ?_))
  | ((with_reducible show Op2 _ (rEqA _) _ _ _ _); refine o_eqA rfl ?_)
  | ((with_reducible show Op2 _ (rNeA _) _ _ _ _); refine o_neA rfl ?_)
  | ((with_reducible show Op2 _ (rInA _) _ (Dt.str _) (Dt.lst _) _); refine o_inAL rfl rfl ?_)
  | ((with_reducible show Op2 _ (rInA _) _ (Dt.str _) (Dt.tup _) _); refine o_inAT rfl rfl ?_)
  | ((with_reducible show Op2 _ (rI _ _) _ _ _ _); refine o_i (by walk_at "yc") ?_)
  | ((with_reducible show Op2 _ (rIx _) _ (Dt.tup _) _ _); refine o_ixAT (atI_toNat (by decide) rfl) ?_)
  | ((with_reducible show Op2 _ (rIx _) _ (Dt.lst _) _ _); refine o_ixAL (atI_toNat (by decide) rfl) ?_)
  | ((with_reducible show ∃ x, atI _ _ = some x ∧ _); refine ⟨_, rfl, ?_⟩)
  | ((with_reducible show ∃ x, ixN _ _ = some x ∧ _); refine ⟨_, rfl, ?_⟩)
  | ((with_reducible show List.length _ ≤ 100000 ∧ _); refine ⟨by (try simp only [List.length_cons, List.length_nil]); first | decide | omega, ?_⟩))
local macro_rules | `(tactic| walk_at "y") => `(tactic| first | walk_at "yo" | walk_at "ye" | walk_at "yv" | walk_at "ys" | walk_at "yd")
local macro_rules | `(tactic| walk_at "yx") => `(tactic| first | walk_at "yo" | walk_at "ye" | walk_at "yv" | walk_at "yd")

def Fine (m : Ms) : Prop := m.own.length = 4 ∧ m.app.length ≤ 1 ∧ ∀ x ∈ m.app, ∃ i j : Int, x = Dt.tup [.int i, .int j]
theorem ite_fine {c : Prop} [Decidable c] {x y : Ms} (hx : Fine x) (hy : Fine y) : Fine (if c then x else y) := by
  by_cases h : c
  · rw [if_pos h]; exact hx
  · rw [if_neg h]; exact hy
theorem step_fine {h0 h1 j a b c : Int} {m : Ms} (h : Fine m) : Fine (stepK h0 h1 j a b c m) := by
  have k1 : ∀ (k : Nat) (v he : Int) (wy : Str), Fine ⟨m.own.set k v, m.app, he, wy⟩ := fun k v he wy => ⟨by show (m.own.set k v).length = 4; rw [List.length_set]; exact h.1, h.2⟩
  have k2 : ∀ (he : Int) (wy : Str), Fine ⟨m.own, m.app, he, wy⟩ := fun he wy => h
  have k3 : ∀ (i j he : Int) (wy : Str), Fine ⟨m.own, [.tup [.int i, .int j]], he, wy⟩ := fun i j he wy => ⟨h.1, Nat.le_refl 1, fun x hx => ⟨i, j, List.mem_singleton.mp hx⟩⟩
  unfold stepK
  exact ite_fine (k1 _ _ _ _) (ite_fine (k1 _ _ _ _) (ite_fine (k1 _ _ _ _) (ite_fine (k1 _ _ _ _) (ite_fine (k1 _ _ _ _) (ite_fine (k3 _ _ _ _) (ite_fine (k2 _ _) (ite_fine (k1 _ _ _ _) (ite_fine (k2 _ _) (ite_fine (k2 _ _) (ite_fine (k2 _ _) (ite_fine (k2 _ _) (ite_fine (k2 _ _) (ite_fine (k2 _ _) (ite_fine (k2 _ _) (k2 _ _)))))))))))))))
theorem run_fine {cs : List Int} {p h0 h1 : Int} : ∀ (n : Nat) {m : Ms}, Fine m → Fine (runM cs p h0 h1 n m)
  | 0, _, h => h
  | n + 1, m, h => by
    unfold runM
    split
    · split
      · exact run_fine n (step_fine h)
      · exact h
    · exact h
theorem done_fine {cs : List Int} {p h0 h1 x0 x1 x2 x3 : Int} : Fine (doneM cs p h0 h1 [x0, x1, x2, x3]) := run_fine _ ⟨rfl, Nat.zero_le 1, fun x hx => nomatch hx⟩
theorem done_len {cs : List Int} {p h0 h1 x0 x1 x2 x3 : Int} : (doneM cs p h0 h1 [x0, x1, x2, x3]).own.length = 4 ∧ (doneM cs p h0 h1 [x0, x1, x2, x3]).app.length ≤ 1 := ⟨done_fine.1, done_fine.2.1⟩
def wtPre (ds : List Dt) : Prop := ∃ m : Ms, ds = [outD m] ∧ m.own.length = 4 ∧ m.app.length ≤ 1
def wtPost (ds : List Dt) (d : Dt) : Prop := ∃ m : Ms, ds = [outD m] ∧ d = thirdD m
theorem out_inj {m m' : Ms} (h : outD m = outD m') (h1 : m.own.length = 4) (h2 : m'.own.length = 4) : thirdD m = thirdD m' := by
  obtain ⟨o, app, he, wy⟩ := m
  obtain ⟨o', app', he', wy'⟩ := m'
  have h1 : o.length = 4 := h1
  have h2 : o'.length = 4 := h2
  have h : Dt.tup [.lst (o.map Dt.int ++ app), .int he, .str wy] = Dt.tup [.lst (o'.map Dt.int ++ app'), .int he', .str wy'] := h
  simp only [Dt.tup.injEq, List.cons.injEq, Dt.lst.injEq, Dt.int.injEq, Dt.str.injEq, and_true] at h
  obtain ⟨e1, e2, e3⟩ := h
  obtain ⟨e4, e5⟩ := List.append_inj e1 (by rw [List.length_map, List.length_map, h1, h2])
  rw [map_int_inj e4, e5, e2, e3]
def wtPost2 (ds : List Dt) (d : Dt) : Prop := ∃ m : Ms, ds = [outD m] ∧ m.own.length = 4 ∧ d = thirdD m
theorem wt_k {m : Ms} {R : Dt → Prop} (h : m.own.length = 4 ∧ m.app.length ≤ 1) (hr : R (thirdD m)) : wtPre [outD m] ∧ ∀ d, wtPost2 [outD m] d → R d :=
  ⟨⟨m, rfl, h⟩, fun d ⟨m', e, e2, e3⟩ => by
    rw [e3, ← out_inj (List.cons.inj e).1 h.1 e2]; exact hr⟩
theorem third_pure {m : Ms} (h : m.own.length = 4 ∧ m.app.length ≤ 1) (ha : ∀ x ∈ m.app, ∃ i j : Int, x = .tup [.int i, .int j]) : (thirdD m).pureD = true ∧ (thirdD m).depth < 6 := by
  obtain ⟨o, app, he, wy⟩ := m
  obtain ⟨h1, h2⟩ := h
  have h1 : o.length = 4 := h1
  have h2 : app.length ≤ 1 := h2
  obtain ⟨a, b, c, d, rfl⟩ : ∃ a b c d, o = [a, b, c, d] := by
    match o, h1 with
    | [a, b, c, d], _ => exact ⟨a, b, c, d, rfl⟩
  match app, h2, ha with
  | [], _, _ => exact ⟨rfl, by show 2 < 6; decide⟩
  | [x], _, ha =>
    obtain ⟨i, j, rfl⟩ := ha x List.mem_cons_self
    exact ⟨rfl, by show 3 < 6; decide⟩
theorem done_pure {cs : List Int} {p h0 h1 x0 x1 x2 x3 : Int} : (thirdD (doneM cs p h0 h1 [x0, x1, x2, x3])).pureD = true ∧ (thirdD (doneM cs p h0 h1 [x0, x1, x2, x3])).depth < 6 := third_pure done_len done_fine.2.2
theorem stub_run {p s v x0 x1 x2 x3 : Int} (hp : 0 ≤ p ∧ p < 65536) (hs : 0 ≤ s ∧ s < 65536) : doneM [cellD 2 3 0 (hiN s), cellD 3 3 0 (loN s), cellD 6 3 3 0, cellD 12 3 0 0] p s v [x0, x1, x2, x3] = ⟨[x0, x1, x2, v], [], v, "go"⟩ := by
  show runM [cellD 2 3 0 (hiN s), cellD 3 3 0 (loN s), cellD 6 3 3 0, cellD 12 3 0 0] p s v (1 + 1 + 1 + 2) ⟨[x0, x1, x2, x3], [], p, ""⟩ = _
  have e := run_halves (cs := [cellD 2 3 0 (hiN s), cellD 3 3 0 (loN s), cellD 6 3 3 0, cellD 12 3 0 0]) (p := p) (h0 := s) (h1 := v) (n := 3) (v := s) (i := 0) (k := 1 + 1 + 1) (o := [x0, x1, x2, x3]) (app := []) ⟨by decide, by decide⟩ hp (by decide) rfl rfl hs (set_get3 (by decide)) set_set3
  rw [← here0 hp] at e
  rw [e]
  rw [run_step 2 rfl (by show ((p + ((0 : Nat) : Int) + 2) % 65536 - p + 65536) % 65536 = _; omega) rfl ⟨by decide, by decide⟩ ⟨by decide, by decide⟩ z255, st6 (by show (s + 0) % 65536 = s; omega)]
  rw [run_step 3 rfl (by show (((p + ((0 : Nat) : Int) + 2) % 65536 + 1) % 65536 - p + 65536) % 65536 = _; omega) rfl ⟨by decide, by decide⟩ z3 z255, st12]
  exact run_stop (.inl (by show ("go" : Str) ≠ ""; decide +kernel)) 1
theorem stub_fit {s : Int} : ∀ x ∈ [cellD 2 3 0 (hiN s), cellD 3 3 0 (loN s), cellD 6 3 3 0, cellD 12 3 0 0], 0 ≤ x ∧ x < 65536 :=
  fitc (hl_ok 2 3 s ⟨by decide, by decide⟩ ⟨by decide, by decide⟩).1 (fitc (hl_ok 3 3 s ⟨by decide, by decide⟩ ⟨by decide, by decide⟩).2 (fitc (by decide) (fit1 (by decide))))
theorem four_of {ys : List Dt} (hl : ys.length = 4) (h : ∀ (i : Nat) y, ys[i]? = some y → ∃ n : Int, y = .int n ∧ 0 ≤ n ∧ n < 65536) : ∃ x0 x1 x2 x3 : Int, ys = [.int x0, .int x1, .int x2, .int x3] ∧ (0 ≤ x0 ∧ x0 < 65536) ∧ (0 ≤ x1 ∧ x1 < 65536) ∧ (0 ≤ x2 ∧ x2 < 65536) ∧ (0 ≤ x3 ∧ x3 < 65536) := by
  match ys, hl, h with
  | [a, b, c, d], _, h =>
    obtain ⟨x0, rfl, b0⟩ := h 0 a rfl
    obtain ⟨x1, rfl, b1⟩ := h 1 b rfl
    obtain ⟨x2, rfl, b2⟩ := h 2 c rfl
    obtain ⟨x3, rfl, b3⟩ := h 3 d rfl
    exact ⟨x0, x1, x2, x3, rfl, b0, b1, b2, b3⟩
theorem b_fit (rest : List Dt) : 0 ≤ bN rest ∧ bN rest < 3 := by
  unfold bN
  split
  · rename_i x y t e
    have : y ∈ rest.filter regB := by rw [e]; simp
    exact reg2 (regB_reg (List.mem_filter.mp this).2)
  · exact ⟨by decide, by decide⟩
theorem ls_in {w : Str} : inD (.str w) [.str "load", .str "store"] = true ↔ w = "load" ∨ w = "store" := by
  simp only [inD, List.any_cons, List.any_nil, eqD, Bool.or_false, Bool.or_eq_true, beq_iff_eq]
  exact ⟨fun h => h.elim (fun e => .inl e.symm) fun e => .inr e.symm, fun h => h.elim (fun e => .inl e.symm) fun e => .inr e.symm⟩
theorem ji_in {w : Str} : inD (.str w) [.str "jump", .str "ifzero"] = true ↔ w = "jump" ∨ w = "ifzero" := by
  simp only [inD, List.any_cons, List.any_nil, eqD, Bool.or_false, Bool.or_eq_true, beq_iff_eq]
  exact ⟨fun h => h.elim (fun e => .inl e.symm) fun e => .inr e.symm, fun h => h.elim (fun e => .inl e.symm) fun e => .inr e.symm⟩
theorem tf_in {w : Str} : inD (.str w) [.str "name", .str "jump", .str "ifzero", .str "call"] = true ↔ twoForms w := by
  simp only [inD, List.any_cons, List.any_nil, eqD, Bool.or_false, Bool.or_eq_true, beq_iff_eq]
  unfold twoForms
  constructor
  · rintro (h | h | h | h)
    · exact .inl h.symm
    · exact .inr (.inr (.inl h.symm))
    · exact .inr (.inl h.symm)
    · exact .inr (.inr (.inr h.symm))
  · rintro (h | h | h | h)
    · exact .inl h.symm
    · exact .inr (.inr (.inl h.symm))
    · exact .inr (.inl h.symm)
    · exact .inr (.inr (.inr h.symm))
theorem rrd_of {w : Str} {rest : List Dt} (h : RunS (.tup (.str w :: rest))) (hw : w = "load" ∨ w = "store") : ∃ r s k, rest = [r, s, .int k] ∧ isRegD r = true ∧ isRegD s = true ∧ 0 ≤ k ∧ k ≤ 15 := by
  cases h with
  | rrd h1 h2 h3 h4 =>
    obtain ⟨k, rfl, k0, k1⟩ := num_int h4
    exact ⟨_, _, k, rfl, h2, h3, k0, k1⟩
  | put _ _ => exact absurd hw (by decide +kernel)
  | rn h1 _ _ => rcases h1 with rfl | rfl <;> exact absurd hw (by decide +kernel)
  | rr h1 _ _ => rcases h1 with rfl | rfl <;> exact absurd hw (by decide +kernel)
  | nm h1 _ => rcases h1 with rfl | rfl <;> exact absurd hw (by decide +kernel)
  | rg h1 _ => rcases h1 with rfl | rfl <;> exact absurd hw (by decide +kernel)
  | none h1 => rcases h1 with rfl | rfl <;> exact absurd hw (by decide +kernel)
section
variable {P : Program} {w : World} {K : PySem.W.Frag} {mg : Str → Option Value} {base : Heap}

theorem ok__law_without_third (T : Tx K mg w) : FnOk P w K mg base CX0 1 T.a__law_without_third T.d__law_without_third ["_law_done_here"] (spD K wtPre wtPost2) := by
  refine fn_data T.F__law_without_third sc__law_without_third (fun ds h => ?_) (fun cdv A outer s H E hr => ⟨_, (pss_one (ps_ret (pe_tup (pa_cons (pe_op (op_plus (K := K)) (pe_slice (sl_any (K := K)) (pe_ix (ix_any (K := K)) (pv 0) pe_int (fun _ _ => rfl)) po_none (po_some pe_int)) (pe_slice (sl_any (K := K)) (pe_ix (ix_any (K := K)) (pv 0) pe_int (fun _ _ => rfl)) (po_some pe_int) po_none)) (pa_cons (pe_ix (ix_any (K := K)) (pv 0) pe_int (fun _ _ => rfl)) (pa_cons (pe_ifExp (pt_cmpR (op_eqA (K := K) hr.units) (pe_ix (ix_any (K := K)) (pv 0) pe_int (fun _ _ => rfl)) pe_str (nomark _)) pe_str (pe_ix (ix_any (K := K)) (pv 0) pe_int (fun _ _ => rfl))) pa_nil)))))), fun F0 H0 ds h => ?_⟩)
  · obtain ⟨m, rfl, _⟩ := h; rfl
  obtain ⟨m, rfl, h1, h2⟩ := h
  dsimp only [cxOf, env0, env1, List.map, List.length, List.replicate, List.cons_append, List.nil_append, List.append, Nat.reduceAdd, Nat.reduceSub, Nat.zero_add]
  obtain ⟨o, app, he, wy⟩ := m
  have h1 : o.length = 4 := h1
  have h2 : app.length ≤ 1 := h2
  obtain ⟨a, b, c, d, rfl⟩ : ∃ a b c d, o = [a, b, c, d] := by
    match o, h1 with
    | [a, b, c, d], _ => exact ⟨a, b, c, d, rfl⟩
  have ha : app = [] ∨ ∃ x, app = [x] := by
    match app, h2 with
    | [], _ => exact .inl rfl
    | [x], _ => exact .inr ⟨x, rfl⟩
  unfold outD
  refine sm_ret (ev_tup (ea_cons (ev_op (EvO.ev (eo_slL ?_)))))
  repeat walk_at "yx"
  refine ep_none (ep_some (ev_int (int_ex ?_)))
  refine EvO.ev (eo_slL ?_)
  repeat walk_at "yx"
  refine ep_some (ev_int (int_ex (ep_none ?_)))
  have e1 : cutD ([a, b, c, d].map Dt.int ++ app) none (some 3) = [.int a, .int b, .int c] := by rcases ha with rfl | ⟨x, rfl⟩ <;> rfl
  have e2 : cutD ([a, b, c, d].map Dt.int ++ app) (some 4) none = app := by rcases ha with rfl | ⟨x, rfl⟩ <;> rfl
  rw [e1, e2]
  refine o_plusL (by show 3 + app.length ≤ 100000; omega) ?_
  repeat walk_at "yx"
  refine ways (fun h => ?_) (fun h => ?_)
  · have h := of_decide_eq_true h
    repeat walk_at "yx"
    exact ⟨⟨[a, b, c, d], app, he, wy⟩, rfl, rfl, by unfold thirdD; rw [if_pos h] <;> rfl⟩
  · have h := of_decide_eq_false h
    repeat walk_at "yx"
    exact ⟨⟨[a, b, c, d], app, he, wy⟩, rfl, rfl, by unfold thirdD; rw [if_neg h] <;> rfl⟩
end
end Law
namespace Law
open PySem L2 Y
local macro_rules | `(tactic| walk_at "yv") => `(tactic| ((with_reducible show Ev _ (tVar _) _ _); refine ev_var rfl ?_))
local macro_rules | `(tactic| walk_at "ys") => `(tactic| with_reducible first
  | refine sm_seq ?_ | refine sm_ret ?_ | refine sm_if ?_ | refine sm_set ?_ | refine sm_next ?_ | refine sm_par ?_ | refine sm_drop ?_ | refine sm_brk ?_ | refine sm_cont ?_)
local macro_rules | `(tactic| walk_at "ye") => `(tactic| with_reducible first
  | refine ev_op ?_ | refine ev_and ?_ | refine ev_or ?_ | refine ev_not ?_ | refine ev_if ?_ | refine ev_chain ?_ | refine ev_neg ?_ | refine ev_isInt ?_ | refine ev_isBool ?_ | refine ev_isStr ?_ | refine ev_isList ?_ | refine ev_isTuple ?_ | refine ev_isLT ?_ | refine ev_isDict ?_
  | refine ev_int ?_ | refine ev_str ?_ | refine ev_bl ?_ | refine ev_non ?_ | refine ev_call ?_ | refine ev_cb ?_ | refine ev_lst ?_ | refine ev_tup ?_ | refine ev_join ?_
  | refine ea_nil ?_ | refine ea_cons ?_
  | refine et_B ?_ | refine et_test ?_ | refine et_not ?_ | refine et_and ?_ | refine et_or ?_ | refine et_yes ?_
  | refine o_plusI ?_ | refine o_i0 ?_ | refine o_b0 ?_ | refine o_isN ?_ | refine o_notN ?_
  | refine bl_ex ?_ | refine int_ex ?_ | refine str_ex ?_ | refine lst_ex ?_ | refine tup_ex ?_)
local macro_rules | `(tactic| walk_at "yo") => `(tactic| first
  | ((with_reducible show Ev _ (tOp (rIx _) (tVar _) _) _ _); refine ev_ixOwn rfl ?_)
  | ((with_reducible show Ev _ (tCB _ (tCons (tVar _) tNil)) _ _); refine ev_lenOwn rfl ?_)
  | ((with_reducible show Sm _ (tAsg _ (gSub (tVar _) _ _)) _ _); refine sm_setItem rfl ?_)
  | ((with_reducible show Ev _ (tCall (spB _ _ _) _ _ _) _ _); refine ev_callB rfl rfl ?_))
local macro_rules | `(tactic| walk_at "yc") => `(tactic| first
  | ((with_reducible show CMul _ _); first | exact Or.inr ⟨by decide, by decide⟩ | exact Or.inl ⟨by decide, by decide⟩ | exact Or.inr ⟨by omega, by omega⟩ | exact Or.inl ⟨by omega, by omega⟩)
  | ((with_reducible show CDiv _ _); exact ⟨by first | decide | omega, by first | decide | omega⟩)
  | ((with_reducible show CPow _ _); exact ⟨by decide, by decide, by first | decide | omega⟩)
  | ((show (0 : Int) < _); first | decide | omega))
local macro_rules | `(tactic| walk_at "yd") => `(tactic| first
  | ((with_reducible show plainD _ = true ∧ _); refine ⟨by first | rfl | assumption, ?_⟩)
  | ((with_reducible show (_ = true → _) ∧ (_ = false → _)); first | refine way_t rfl ?_ | refine way_f rfl ?_ | refine way_t (by decide +kernel) ?_ | refine way_f (by decide +kernel) ?_)
  | ((with_reducible show Cal _ _ _ _ _); first | (with_reducible refine c_int ?_) | (with_reducible refine c_abs ?_) | (refine c_len rfl ?_) | (refine c_len (if_pos (by assumption)) ?_))
  | ((with_reducible show Op2 _ (rEqA _) _ _ _ _); refine o_eqA rfl ?_)
  | ((with_reducible show Op2 _ (rNeA _) _ _ _ _); refine o_neA rfl ?_)
  | ((with_reducible show Op2 _ (rInA _) _ (Dt.str _) (Dt.lst _) _); refine o_inAL rfl rfl ?_)
  | ((with_reducible show Op2 _ (rInA _) _ (Dt.str _) (Dt.tup _) _); refine o_inAT rfl rfl ?_)
  | ((with_reducible show Op2 _ (rI _ _) _ _ _ _); refine o_i (by walk_at "yc") ?_)
  | ((with_reducible show Op2 _ (rIx _) _ (Dt.tup _) _ _); refine o_ixAT (atI_toNat (by decide) rfl) ?_)
  | ((with_reducible show Op2 _ (rIx _) _ (Dt.lst _) _ _); refine o_ixAL (atI_toNat (by decide) rfl) ?_)
  | ((with_reducible show ∃ x, atI _ _ = some x ∧ _); refine ⟨_, rfl, ?_⟩)
  | ((with_reducible show ∃ x, ixN _ _ = some x ∧ _); refine ⟨_, rfl, ?_⟩)
  | ((with_reducible show List.length _ ≤ 100000 ∧ _); refine ⟨by (try simp only [List.length_cons, List.length_nil]); first | decide | omega, ?_⟩))
local macro_rules | `(tactic| walk_at "y") => `(tactic| first | walk_at "yo" | walk_at "ye" | walk_at "yv" | walk_at "ys" | walk_at "yd")
local macro_rules | `(tactic| walk_at "yx") => `(tactic| first | walk_at "yo" | walk_at "ye" | walk_at "yv" | walk_at "yd")


section
variable {P : Program} {w : World} {K : PySem.W.Frag} {mg : Str → Option Value} {base : Heap}

theorem ok_law (T : Tx K mg w) : FnOk P w K mg base CX0 13 T.a_law T.d_law ["_law_script"] (spLaw K) := by
  have G__law_bag := ok__law_bag (P := P) (w := w) (base := base) T
  have G__law_draw := ok__law_draw (P := P) (w := w) (base := base) T
  have G__law_of := ok__law_of (P := P) (w := w) (base := base) T
  have G__law_titles := ok__law_titles (P := P) (w := w) (base := base) T
  have G__law_number := ok__law_number (P := P) (w := w) (base := base) T
  have G__law_code_row := ok__law_code_row (P := P) (w := w) (base := base) T
  have G__law_last_row := ok__law_last_row (P := P) (w := w) (base := base) T
  have G__law_same := ok__law_same (P := P) (w := w) (base := base) T 6
  have G__law_done := ok__law_done (P := P) (w := w) (base := base) T
  have G__law_due := ok__law_due (P := P) (w := w) (base := base) T
  have G__law_without_third := ok__law_without_third (P := P) (w := w) (base := base) T
  have G_row_cells := ok_row_cells (P := P) (w := w) (base := base) T
  have G_stub_cells := ok_stub_cells (P := P) (w := w) (base := base) T
  refine fn_law T.F_law sc_law (fun cdv A outer s H E hr => ⟨_, (pss_cons (ps_set (i := 1) sc_law.nd rfl (Or.inr rfl) (pe_call G__law_bag (hr.mono (by decide)) (by rfl) T.m__law_bag T.k__law_bag T.b__law_bag .nil pass0 (pa_cons (pv 0) pa_nil)))
      (pss_cons (ps_set (i := 2) sc_law.nd rfl (Or.inl rfl) (pe_call G__law_titles (hr.mono (by decide)) (by rfl) T.m__law_titles T.k__law_titles T.b__law_titles .nil pass0 (pa_cons (pv 1) (pa_cons pe_int pa_nil))))
      (pss_cons (ps_for PassesOwn.never rfl (pi_range1 (by rfl) T.n_range (pa_cons pe_int pa_nil)) (pg_name (i := 3) sc_law.nd rfl (Or.inl rfl)) (pss_cons (ps_set (i := 4) sc_law.nd rfl (Or.inl rfl) (pe_ifExp (pt_cmpR op_lt (pv 3) pe_int (nomark _)) (pe_call G__law_code_row (hr.mono (by decide)) (by rfl) T.m__law_code_row T.k__law_code_row T.b__law_code_row .nil pass0 (pa_cons (pv 1) (pa_cons (pv 2) pa_nil))) (pe_call G__law_last_row (hr.mono (by decide)) (by rfl) T.m__law_last_row T.k__law_last_row T.b__law_last_row .nil pass0 (pa_cons (pv 1) (pa_cons (pv 2) pa_nil)))))
      (pss_cons (ps_if (pt_cmpR (op_eqA (K := K) hr.units) (pe_ix (ix_any (K := K)) (pv 4) pe_int (fun _ _ => rfl)) pe_str (nomark _)) (pss_one ps_continue) pss_nil)
      (pss_cons (ps_set (i := 5) sc_law.nd rfl (Or.inl rfl) (pe_call G__law_of (hr.mono (by decide)) (by rfl) T.m__law_of T.k__law_of T.b__law_of .nil pass0 (pa_cons (pv 1) (pa_cons (pe_lst (pa_cons pe_int (pa_cons pe_int (pa_cons pe_int (pa_cons (pe_call G__law_draw (hr.mono (by decide)) (by rfl) T.m__law_draw T.k__law_draw T.b__law_draw .nil pass0 (pa_cons (pv 1) (pa_cons pe_int pa_nil))) pa_nil))))) pa_nil))))
      (pss_cons (ps_setLc (i := 6) (own := [("_law_k", 7)]) (g := gName 7) rfl sc_law.nd rfl rfl (sw_true rfl rfl rfl (by decide +kernel)) (pi_range1 (by rfl) T.n_range (pa_cons pe_int pa_nil)) (blkOk_by (N := ["_law_script", "_law_bag_here", "_law_titles_here", "_law_turn", "_law_one", "_law_place_y", "_law_registers", "_law_k", "_law_numbers", "_law_item", "_law_held", "_law_far", "_law_goal", "_law_lot", "_law_done_here", "_law_slot_y", "_law_answer_y"]) (sc := defScope s_law) (by decide +kernel)) (fun _ _ _ _ _ => (pg_name (i := 7) sc_law.nd rfl (Or.inl rfl))) (fun _ _ _ _ _ => pts_nil) (fun _ _ _ _ _ => (pe_call G__law_of (hr.mono (by decide)) (by rfl) T.m__law_of T.k__law_of T.b__law_of .nil pass0 (pa_cons (pv 1) (pa_cons (pe_lst (pa_cons pe_int (pa_cons pe_int (pa_cons (pe_call G__law_number (hr.mono (by decide)) (by rfl) T.m__law_number T.k__law_number T.b__law_number .nil pass0 (pa_cons (pv 1) pa_nil)) pa_nil)))) pa_nil)))))
      (pss_cons (ps_set (i := 8) sc_law.nd rfl (Or.inl rfl) (pe_op (op_plus (K := K)) (pe_lc (own := [("_law_item", 9)]) (g := gName 9) rfl sc_law.nd (pi_tupA (K := K) (pe_slice (sl_any (K := K)) (pv 4) (po_some pe_int) po_none)) (blkOk_by (N := ["_law_script", "_law_bag_here", "_law_titles_here", "_law_turn", "_law_one", "_law_place_y", "_law_registers", "_law_k", "_law_numbers", "_law_item", "_law_held", "_law_far", "_law_goal", "_law_lot", "_law_done_here", "_law_slot_y", "_law_answer_y"]) (sc := defScope s_law) (by decide +kernel)) (fun _ _ _ _ _ => (pg_name (i := 9) sc_law.nd rfl (Or.inl rfl))) (fun _ _ _ _ _ => (pts_one (pt_cmpR (op_inA (K := K)) (pv 9) (pe_lst (pa_cons pe_str (pa_cons pe_str (pa_cons pe_str pa_nil)))) (by rfl)))) (fun _ _ _ _ _ => (pe_callTy call_int_str (by rfl) T.n_int PyProof.Rows.boot_int (pa_cons (pe_ix (ix_any (K := K)) (pv 9) pe_int (fun _ _ => rfl)) pa_nil)))) (pe_lst (pa_cons pe_int (pa_cons pe_int pa_nil)))))
      (pss_cons (ps_set (i := 10) sc_law.nd rfl (Or.inl rfl) (pe_tup (pa_cons (pe_op op_mod (pe_callTy call_int1 (by rfl) T.n_int PyProof.Rows.boot_int (pa_cons (pe_op (op_plus (K := K)) (pe_ix (ix_any (K := K)) (pv 6) (pe_ix (ix_any (K := K)) (pv 8) pe_int (fun _ _ => rfl)) (fun _ _ => rfl)) (pe_ifExp (pt_cmpR (op_inA (K := K)) (pe_ix (ix_any (K := K)) (pv 4) pe_int (fun _ _ => rfl)) (pe_lst (pa_cons pe_str (pa_cons pe_str pa_nil))) (by rfl)) (pe_ix (ix_any (K := K)) (pv 4) pe_int (fun _ _ => rfl)) pe_int)) pa_nil)) pe_int) (pa_cons (pe_call G__law_number (hr.mono (by decide)) (by rfl) T.m__law_number T.k__law_number T.b__law_number .nil pass0 (pa_cons (pv 1) pa_nil)) pa_nil))))
      (pss_one (ps_for PassesOwn.never rfl (pi_listA (K := K) (pe_lst (pa_cons pe_bl (pa_cons pe_bl pa_nil)))) (pg_name (i := 11) sc_law.nd rfl (Or.inl rfl)) (pss_cons (ps_set (i := 12) sc_law.nd rfl (Or.inl rfl) (pe_op op_mod (pe_callTy call_int1 (by rfl) T.n_int PyProof.Rows.boot_int (pa_cons (pe_op (op_plus (K := K)) (pe_op (op_plus (K := K)) (pv 5) (pe_call G__law_draw (hr.mono (by decide)) (by rfl) T.m__law_draw T.k__law_draw T.b__law_draw .nil pass0 (pa_cons (pv 1) (pa_cons pe_int pa_nil)))) pe_int) pa_nil)) pe_int))
      (pss_cons (ps_if (PW.pt (pw_or (pt_val (pv 11)) (pw_or1 (pt_cmpR (op_niA (K := K)) (pe_ix (ix_any (K := K)) (pv 4) pe_int (fun _ _ => rfl)) (pe_lst (pa_cons pe_str (pa_cons pe_str (pa_cons pe_str (pa_cons pe_str pa_nil))))) (by rfl))))) (pss_one (ps_set (i := 12) sc_law.nd rfl (Or.inl rfl) (pe_call G__law_of (hr.mono (by decide)) (by rfl) T.m__law_of T.k__law_of T.b__law_of .nil pass0 (pa_cons (pv 1) (pa_cons (pe_lst (pa_cons (pv 12) (pa_cons (pe_call G__law_number (hr.mono (by decide)) (by rfl) T.m__law_number T.k__law_number T.b__law_number .nil pass0 (pa_cons (pv 1) pa_nil)) (pa_cons pe_int (pa_cons pe_int (pa_cons pe_int pa_nil)))))) pa_nil))))) pss_nil)
      (pss_cons (ps_set (i := 13) sc_law.nd rfl (Or.inl rfl) (pe_call G_row_cells (hr.mono (by decide)) (by rfl) T.m_row_cells T.k_row_cells (T.b_row_cells_4) (T.v_row_cells_4) pass0 (pa_cons (pv 4) (pa_cons (pv 5) (pa_cons (pv 12) (pa_cons (pv 11) pa_nil))))))
      (pss_cons (ps_if (PW.pt (pw_and (pt_cmpR op_lt (pe_op op_mod (pe_callTy call_int1 (by rfl) T.n_int PyProof.Rows.boot_int (pa_cons (pe_op (op_plus (K := K)) (pe_op op_sub (pv 12) (pv 5)) pe_int) pa_nil)) pe_int) (pe_callB (call_lenA (K := K)) (by rfl) T.n_len PySem.boot_len (pa_cons (pv 13) pa_nil)) (nomark _)) (pw_and1 (pt_cmpR (op_inA (K := K)) (pe_ix (ix_any (K := K)) (pv 4) pe_int (fun _ _ => rfl)) (pe_lst (pa_cons pe_str (pa_cons pe_str pa_nil))) (by rfl))))) (pss_one ps_continue) pss_nil)
      (pss_cons (ps_set (i := 14) sc_law.nd rfl (Or.inl rfl) (pe_call G__law_without_third (hr.mono (by decide)) (by rfl) T.m__law_without_third T.k__law_without_third T.b__law_without_third .nil pass0 (pa_cons (pe_call G__law_done (hr.mono (by decide)) (by rfl) T.m__law_done T.k__law_done T.b__law_done .nil pass0 (pa_cons (pv 13) (pa_cons (pv 5) (pa_cons (pv 6) (pa_cons (pv 10) pa_nil))))) pa_nil)))
      (pss_one (ps_if (pt_not (pt_val (pe_call G__law_same (hr.mono (by decide)) (by rfl) T.m__law_same T.k__law_same T.b__law_same .nil pass0 (pa_cons (pv 14) (pa_cons (pe_call G__law_due (hr.mono (by decide)) (by rfl) T.m__law_due T.k__law_due T.b__law_due .nil pass0 (pa_cons (pv 4) (pa_cons (pv 5) (pa_cons (pv 12) (pa_cons (pv 6) (pa_cons (pv 10) (pa_cons (pe_callB (call_lenA (K := K)) (by rfl) T.n_len PySem.boot_len (pa_cons (pv 13) pa_nil)) pa_nil))))))) pa_nil))))) (pss_one (ps_ret pe_bl)) pss_nil))))))))))))))))
      (pss_cons (ps_for PassesOwn.never rfl (pi_range1 (by rfl) T.n_range (pa_cons pe_int pa_nil)) (pg_name (i := 3) sc_law.nd rfl (Or.inl rfl)) (pss_cons (ps_par3 (i := 5) (j := 15) (l := 16) rfl sc_law.nd rfl rfl rfl (by decide) (by decide) (by decide) rfl rfl rfl (pa_cons (pe_call G__law_draw (hr.mono (by decide)) (by rfl) T.m__law_draw T.k__law_draw T.b__law_draw .nil pass0 (pa_cons (pv 1) (pa_cons pe_int pa_nil))) (pa_cons (pe_call G__law_number (hr.mono (by decide)) (by rfl) T.m__law_number T.k__law_number T.b__law_number .nil pass0 (pa_cons (pv 1) pa_nil)) (pa_cons (pe_call G__law_number (hr.mono (by decide)) (by rfl) T.m__law_number T.k__law_number T.b__law_number .nil pass0 (pa_cons (pv 1) pa_nil)) pa_nil))) rfl)
      (pss_cons (ps_setLc (i := 6) (own := [("_law_k", 7)]) (g := gName 7) rfl sc_law.nd rfl rfl (sw_true rfl rfl rfl (by decide +kernel)) (pi_range1 (by rfl) T.n_range (pa_cons pe_int pa_nil)) (blkOk_by (N := ["_law_script", "_law_bag_here", "_law_titles_here", "_law_turn", "_law_one", "_law_place_y", "_law_registers", "_law_k", "_law_numbers", "_law_item", "_law_held", "_law_far", "_law_goal", "_law_lot", "_law_done_here", "_law_slot_y", "_law_answer_y"]) (sc := defScope s_law) (by decide +kernel)) (fun _ _ _ _ _ => (pg_name (i := 7) sc_law.nd rfl (Or.inl rfl))) (fun _ _ _ _ _ => pts_nil) (fun _ _ _ _ _ => (pe_call G__law_number (hr.mono (by decide)) (by rfl) T.m__law_number T.k__law_number T.b__law_number .nil pass0 (pa_cons (pv 1) pa_nil))))
      (pss_cons (ps_set (i := 14) sc_law.nd rfl (Or.inl rfl) (pe_call G__law_done (hr.mono (by decide)) (by rfl) T.m__law_done T.k__law_done T.b__law_done .nil pass0 (pa_cons (pe_call G_stub_cells (hr.mono (by decide)) (by rfl) T.m_stub_cells T.k_stub_cells T.b_stub_cells .nil pass0 (pa_cons (pv 15) pa_nil)) (pa_cons (pv 5) (pa_cons (pv 6) (pa_cons (pe_tup (pa_cons (pv 15) (pa_cons (pv 16) pa_nil))) pa_nil))))))
      (pss_one (ps_if (pt_not (pt_val (pe_call G__law_same (hr.mono (by decide)) (by rfl) T.m__law_same T.k__law_same T.b__law_same .nil pass0 (pa_cons (pv 14) (pa_cons (pe_tup (pa_cons (pe_op (op_plus (K := K)) (pe_slice (sl_any (K := K)) (pv 6) po_none (po_some pe_int)) (pe_lst (pa_cons (pv 16) pa_nil))) (pa_cons (pv 16) (pa_cons pe_str pa_nil)))) pa_nil))))) (pss_one (ps_ret pe_bl)) pss_nil))))))
      (pss_one (ps_ret pe_bl)))))), fun F0 H0 a b => ?_⟩) (by decide)
  dsimp only [cxOf, env0, env1, List.map, List.length, List.replicate, List.cons_append, List.nil_append, List.append, Nat.reduceAdd, Nat.reduceSub, Nat.zero_add]
  refine sm_seq (sm_set ?_)
  repeat walk_at "yx"
  refine titles_k ⟨by decide, by decide⟩ fun ss h1 h2 h3 => ?_
  have ht : NamesD (.lst (ss.map Dt.str)) := ⟨ss, rfl, by omega, by omega, h2⟩
  generalize hT : Dt.lst (ss.map Dt.str) = tt at ht
  refine sm_seq (sm_for (ei_rng1 ?_))
  repeat walk_at "yx"
  refine ⟨20, rfl, by decide, by decide, fun _ e => ∃ s3 s4 s5 s6 s7 s8 s9 s10 s11 s12 s13 s14 s15 s16, e = [.r (.ref a), .r (.ref b), .d tt, s3, s4, s5, s6, s7, s8, s9, s10, s11, s12, s13, s14, s15, s16], ⟨_, _, _, _, _, _, _, _, _, _, _, _, _, _, rfl⟩, ?_, ?_⟩
  · rintro i x es' hx ⟨s3, s4, s5, s6, s7, s8, s9, s10, s11, s12, s13, s14, s15, s16, rfl⟩
    obtain ⟨hi, rfl⟩ := rangeD_get hx
    refine tg_name ?_
    refine sm_seq (sm_set (Ev.imp (P := fun d => codeRow d = true) ?_ fun row hcode => ?_))
    · refine ev_if ?_
      repeat walk_at "yx"
      refine ways (fun h => ?_) (fun h => ?_)
      · repeat walk_at "yx"
        exact code_k2 ht fun d hd _ => hd
      · repeat walk_at "yx"
        exact code_k2 ht fun d hd _ => hd
    obtain ⟨w', rest, rfl, hlen, _⟩ := rowS_good (rowS_code hcode)
    refine sm_seq (sm_if ?_)
    repeat walk_at "yx"
    refine ways (fun h => ?_) (fun h => ?_)
    · refine sm_cont ?_
      exact ⟨_, _, _, _, _, _, _, _, _, _, _, _, _, _, rfl⟩
    have hroom : ¬ w' = "room" := of_decide_eq_false h
    have hrow : RunS (.tup (.str w' :: rest)) := runS_of hcode fun r e => hroom (by
      simp only [Dt.tup.injEq, List.cons.injEq, Dt.str.injEq] at e
      exact e.1)
    refine sm_next ?_
    refine sm_seq (sm_set ?_)
    repeat walk_at "yx"
    refine draw_k ⟨by decide, by decide⟩ fun d d0 d1 => ?_
    repeat walk_at "yx"
    refine of_k ⟨by show 0 < 4; decide, by show 4 ≤ 100000; decide⟩ fun x hx => ?_
    have hx2 : ∃ p : Int, x = .int p ∧ 0 ≤ p ∧ p < 65536 := by
      simp only [List.mem_cons, List.not_mem_nil, or_false] at hx
      rcases hx with rfl | rfl | rfl | rfl <;> exact ⟨_, rfl, by omega, by omega⟩
    obtain ⟨p, rfl, hp⟩ := hx2
    refine sm_seq (sm_set (EvO.ev (eo_map (ei_rng1 ?_))))
    repeat walk_at "yx"
    refine ⟨4, rfl, by decide, by decide, by rw [rangeD_len]; decide, fun _ y => ∃ n : Int, y = .int n ∧ 0 ≤ n ∧ n < 65536, ?_, ?_⟩
    · intro i x hx
      refine tc_name ?_
      repeat walk_at "yx"
      refine number_k fun n n0 n1 => ?_
      repeat walk_at "yx"
      refine of_k ⟨by show 0 < 3; decide, by show 3 ≤ 100000; decide⟩ fun x hx => ?_
      simp only [List.mem_cons, List.not_mem_nil, or_false] at hx
      rcases hx with rfl | rfl | rfl <;> exact ⟨_, rfl, by omega, by omega⟩
    intro ys hyl hys
    rw [rangeD_len] at hyl
    obtain ⟨x0, x1, x2, x3, rfl, hx0, hx1, hx2, hx3⟩ := four_of hyl fun i y hy => hys i _ y (List.getElem?_eq_getElem (by rw [rangeD_len]; have := (List.getElem?_eq_some_iff.mp hy).1; rw [hyl] at this; exact this)) hy
    have hflat := rowS_flat hrow.row
    refine sm_seq (sm_set (ev_op (EvO.ev (eo_fm regB (fun x => .int (regN x)) (ei_tup (ev_tail ?_))))))
    repeat walk_at "yx"
    refine ⟨_, _, rfl, _, rfl, by omega, ?_, ?_⟩
    · intro x hx
      refine tc_name ?_
      repeat walk_at "yx"
      refine o_inAL (hflat x hx) rfl ?_
      refine ⟨_, rfl, rfl, fun hb => ?_⟩
      rcases reg_cases (regB_reg hb) with rfl | rfl | rfl
      · exact ev_cb (ea_cons (ev_op (ev_var rfl (ev_int (o_ixAS (c := 48) (by decide +kernel) (by decide +kernel) (ea_nil (c_intS (n := 0) (by decide +kernel) (by decide +kernel) (congrArg Dt.int (by decide +kernel)))))))))
      · exact ev_cb (ea_cons (ev_op (ev_var rfl (ev_int (o_ixAS (c := 49) (by decide +kernel) (by decide +kernel) (ea_nil (c_intS (n := 1) (by decide +kernel) (by decide +kernel) (congrArg Dt.int (by decide +kernel)))))))))
      · exact ev_cb (ea_cons (ev_op (ev_var rfl (ev_int (o_ixAS (c := 50) (by decide +kernel) (by decide +kernel) (ea_nil (c_intS (n := 2) (by decide +kernel) (by decide +kernel) (congrArg Dt.int (by decide +kernel)))))))))
    repeat walk_at "yx"
    refine o_plusL ?_ ?_
    · have := List.length_filter_le regB rest
      simp only [List.length_map, List.length_cons, List.length_nil]; omega
    obtain ⟨t, ht2⟩ := nums_eq rest
    have ht2 : (rest.filter regB).map (fun x => Dt.int (regN x)) ++ [.int 0, .int 0] = .int (aN rest) :: .int (bN rest) :: t := ht2
    rw [ht2]
    refine sm_seq (sm_set (ev_tup (ea_cons (Ev.imp (P := fun d => ∃ h0 : Int, d = .int h0 ∧ (∀ r s k, Dt.tup (.str w' :: rest) = .tup [.str "load", r, s, .int k] → h0 = ([x0, x1, x2].getD (rnN s) 0 + k) % 65536)) ?_ fun d hd => ?_))))
    · refine ev_op (ev_cb (ea_cons (ev_op (ev_op (ev_var rfl ?_)))))
      repeat walk_at "yx"
      refine o_ixAL (x := .int ([x0, x1, x2, x3].getD (bN rest).toNat 0)) (own_at (l := [x0, x1, x2, x3]) rfl (b_fit rest).1 (by have := (b_fit rest).2; omega)) ?_
      refine ev_if (et_B (ev_op ?_))
      repeat walk_at "yx"
      refine ways (fun h => ?_) (fun h => ?_)
      · obtain ⟨r, s, k, rfl, g1, g2, k0, k1⟩ := rrd_of hrow (ls_in.mp h)
        repeat walk_at "yx"
        intro r' s' k' e
        simp only [Dt.tup.injEq, List.cons.injEq, Dt.int.injEq, and_true] at e
        obtain ⟨_, e1, e2, e3⟩ := e
        subst e1 e2 e3
        rw [b_r3 g1 g2]
        show ([x0, x1, x2, x3].getD (rnN s) 0 + k) % 65536 = _
        rw [get3 (rn_nat g2)]
      · repeat walk_at "yx"
        intro r' s' k' e
        simp only [Dt.tup.injEq, List.cons.injEq, Dt.str.injEq] at e
        rw [ls_in.mpr (.inl e.1)] at h; cases h
    obtain ⟨h0, rfl, hload⟩ := hd
    repeat walk_at "yx"
    refine number_k fun v v0 v1 => ?_
    repeat walk_at "yx"
    refine sm_for (ei_list ?_)
    repeat walk_at "yx"
    refine ⟨fun _ e => ∃ s7 s8 s9 s11 s12 s13 s14 s15 s16, e = [.r (.ref a), .r (.ref b), .d tt, .d (.int (0 + (i : Int))), .d (.tup (.str w' :: rest)), .d (.int p), .d (.lst [.int x0, .int x1, .int x2, .int x3]), s7, s8, s9, .d (.tup [.int h0, .int v]), s11, s12, s13, s14, s15, s16], ⟨_, _, _, _, _, _, _, _, _, rfl⟩, ?_, ?_⟩
    · rintro j y es' hy ⟨s7, s8, s9, s11, s12, s13, s14, s15, s16, rfl⟩
      have hf : ∃ far, y = .bl far := by
        rcases j with _ | _ | j
        · cases hy; exact ⟨_, rfl⟩
        · cases hy; exact ⟨_, rfl⟩
        · cases hy
      obtain ⟨far, rfl⟩ := hf
      refine tg_name ?_
      refine sm_seq (sm_set ?_)
      repeat walk_at "yx"
      refine draw_k ⟨by decide, by decide⟩ fun dd dd0 dd1 => ?_
      repeat walk_at "yx"
      refine sm_cut (fun e => ∃ q : Int, e = [.r (.ref a), .r (.ref b), .d tt, .d (.int (0 + (i : Int))), .d (.tup (.str w' :: rest)), .d (.int p), .d (.lst [.int x0, .int x1, .int x2, .int x3]), s7, s8, s9, .d (.tup [.int h0, .int v]), .d (.bl far), .d (.int q), s13, s14, s15, s16] ∧ (0 ≤ q ∧ q < 65536) ∧ (twoForms w' → far = false → ∃ d : Int, 0 ≤ d ∧ d < 256 ∧ q = (p + d + 65408) % 65536)) ?_ ?_
      · refine sm_if (EvT.imp (P := fun z => z = (far || !inD (.str w') [.str "name", .str "jump", .str "ifzero", .str "call"])) ?_ fun z hz => ?_)
        · refine et_or (et_B (ev_var rfl ?_))
          cases far with
          | true => repeat walk_at "yx"
                    rfl
          | false => repeat walk_at "yx"
                     exact o_niAL rfl rfl ⟨_, rfl, rfl⟩
        subst hz
        refine ways (fun h => ?_) (fun h => ?_)
        · refine sm_set ?_
          repeat walk_at "yx"
          refine number_k fun n n0 n1 => ?_
          repeat walk_at "yx"
          refine of_k ⟨by show 0 < 5; decide, by show 5 ≤ 100000; decide⟩ fun x hx => ?_
          have hx2 : ∃ q : Int, x = .int q ∧ 0 ≤ q ∧ q < 65536 := by
            simp only [List.mem_cons, List.not_mem_nil, or_false] at hx
            rcases hx with rfl | rfl | rfl | rfl | rfl <;> exact ⟨_, rfl, by omega, by omega⟩
          obtain ⟨q, rfl, hq⟩ := hx2
          refine ⟨q, rfl, hq, fun h2 h3 => ?_⟩
          rw [h3, tf_in.mpr h2] at h; cases h
        · refine sm_next ⟨_, rfl, ⟨by omega, by omega⟩, fun _ _ => ⟨dd, dd0, dd1, rfl⟩⟩
      · rintro es' ⟨q, rfl, hq, hnear⟩
        refine sm_seq (sm_set (EvO.ev (eo_call ?_)))
        repeat walk_at "yx"
        refine rc_k hrow.row ?_
        refine sm_cut (fun e => e = [.r (.ref a), .r (.ref b), .d tt, .d (.int (0 + (i : Int))), .d (.tup (.str w' :: rest)), .d (.int p), .d (.lst [.int x0, .int x1, .int x2, .int x3]), s7, s8, s9, .d (.tup [.int h0, .int v]), .d (.bl far), .d (.int q), .d (.lst (cellsD (.tup (.str w' :: rest)) p q far)), s14, s15, s16] ∧ ((w' = "jump" ∨ w' = "ifzero") → ¬ (q - p + 65536) % 65536 < (cellsD (.tup (.str w' :: rest)) p q far).length)) ?_ ?_
        · refine sm_if (et_and ?_)
          repeat walk_at "yx"
          refine ways (fun h => ?_) (fun h => ?_)
          · refine et_B (ev_op ?_)
            repeat walk_at "yx"
            refine ways (fun h2 => ?_) (fun h2 => ?_)
            · refine sm_cont ?_
              exact ⟨_, _, _, _, _, _, _, _, _, rfl⟩
            · refine sm_next ⟨rfl, fun e => ?_⟩
              rw [ji_in.mpr e] at h2; cases h2
          · refine way_f rfl ?_
            refine sm_next ⟨rfl, fun _ => of_decide_eq_false h⟩
        · rintro es' ⟨rfl, hno⟩
          obtain ⟨cs, hcs, hcl, hfit, hlead⟩ := row_leads (h1 := v) (x3 := x3) (far := far) (p := p) (q := q) (h0 := h0) (x0 := x0) (x1 := x1) (x2 := x2) hrow ⟨hp, hq, fun w2 r2 e => by
            simp only [Dt.tup.injEq, List.cons.injEq, Dt.str.injEq] at e
            rw [← e.1]; exact hnear, fun w2 r2 e => by
            simp only [Dt.tup.injEq, List.cons.injEq, Dt.str.injEq] at e
            rw [← e.1]; exact hno, hload⟩
          rw [hcs]
          refine sm_seq (sm_set ?_)
          repeat walk_at "yx"
          refine done_k (rs := [x0, x1, x2, x3]) (by omega) rfl (fun x hx => ?_) ⟨by omega, by omega⟩ hfit ?_
          · simp only [List.mem_cons, List.not_mem_nil, or_false] at hx
            rcases hx with rfl | rfl | rfl | rfl <;> exact ⟨by omega, by omega⟩
          repeat walk_at "yx"
          refine wt_k done_len ?_
          obtain ⟨hpu, hde⟩ := done_pure (cs := cs) (p := p) (h0 := h0) (h1 := v) (x0 := x0) (x1 := x1) (x2 := x2) (x3 := x3)
          rw [hlead] at hpu hde ⊢
          refine sm_if ?_
          repeat walk_at "yx"
          refine due_k hrow ⟨by omega, by omega⟩ ⟨by omega, by omega⟩ ⟨by omega, by omega⟩ ⟨by omega, by omega⟩ ⟨by omega, by omega⟩ ?_
          repeat walk_at "yx"
          rw [List.length_map]
          refine same_k rfl hpu hde ?_
          repeat walk_at "y"
          exact ⟨_, _, _, _, _, _, _, _, _, rfl⟩
    · rintro es' ⟨s7, s8, s9, s11, s12, s13, s14, s15, s16, rfl⟩
      exact ⟨_, _, _, _, _, _, _, _, _, _, _, _, _, _, rfl⟩
  · rintro es' ⟨s3, s4, s5, s6, s7, s8, s9, s10, s11, s12, s13, s14, s15, s16, rfl⟩
    refine sm_seq (sm_for (ei_rng1 ?_))
    repeat walk_at "yx"
    refine ⟨3, rfl, by decide, by decide, fun _ e => ∃ s3 s4 s5 s6 s7 s8 s9 s10 s11 s12 s13 s14 s15 s16, e = [.r (.ref a), .r (.ref b), .d tt, s3, s4, s5, s6, s7, s8, s9, s10, s11, s12, s13, s14, s15, s16], ⟨_, _, _, _, _, _, _, _, _, _, _, _, _, _, rfl⟩, ?_, ?_⟩
    · rintro i x es' hx ⟨s3, s4, s5, s6, s7, s8, s9, s10, s11, s12, s13, s14, s15, s16, rfl⟩
      refine tg_name ?_
      refine sm_seq (sm_par3 ?_)
      repeat walk_at "yx"
      refine draw_k ⟨by decide, by decide⟩ fun p p0 p1 => ?_
      repeat walk_at "yx"
      refine number_k fun sl sl0 sl1 => ?_
      repeat walk_at "yx"
      refine number_k fun v v0 v1 => ?_
      repeat walk_at "yx"
      refine ⟨_, _, _, rfl, ?_⟩
      refine sm_seq (sm_set (EvO.ev (eo_map (ei_rng1 ?_))))
      repeat walk_at "yx"
      refine ⟨4, rfl, by decide, by decide, by rw [rangeD_len]; decide, fun _ y => ∃ n : Int, y = .int n ∧ 0 ≤ n ∧ n < 65536, ?_, ?_⟩
      · intro i x hx
        refine tc_name ?_
        repeat walk_at "yx"
        exact number_k fun n n0 n1 => ⟨_, rfl, by omega, by omega⟩
      intro ys hyl hys
      rw [rangeD_len] at hyl
      obtain ⟨x0, x1, x2, x3, rfl, hx0, hx1, hx2, hx3⟩ := four_of hyl fun i y hy => hys i _ y (List.getElem?_eq_getElem (by rw [rangeD_len]; have := (List.getElem?_eq_some_iff.mp hy).1; rw [hyl] at this; exact this)) hy
      refine sm_seq (sm_set (ev_call (ea_cons (EvO.ev (eo_call ?_)))))
      repeat walk_at "yx"
      refine stub_k ?_
      repeat walk_at "yx"
      refine done_k (cs := [cellD 2 3 0 (hiN sl), cellD 3 3 0 (loN sl), cellD 6 3 3 0, cellD 12 3 0 0]) (rs := [x0, x1, x2, x3]) (by decide : 4 ≤ 1000) rfl (fun x hx => ?_) ⟨by omega, by omega⟩ stub_fit ?_
      · simp only [List.mem_cons, List.not_mem_nil, or_false] at hx
        rcases hx with rfl | rfl | rfl | rfl <;> exact ⟨by omega, by omega⟩
      rw [stub_run ⟨p0, p1⟩ ⟨sl0, by omega⟩]
      refine sm_if (et_not (et_test (ev_call (ea_cons (ev_var rfl (ea_cons (ev_tup (ea_cons (ev_op (EvO.ev (eo_slL (ev_var rfl (lst_ex ?_)))))))))))))
      refine ep_none (ep_some (ev_int (int_ex ?_)))
      have e3 : cutD [Dt.int x0, .int x1, .int x2, .int x3] none (some 3) = [.int x0, .int x1, .int x2] := rfl
      rw [e3]
      repeat walk_at "yx"
      refine o_plusL (by show 3 + 1 ≤ 100000; decide) ?_
      repeat walk_at "yx"
      refine same_k rfl rfl (by show 2 < 6; decide) ?_
      repeat walk_at "y"
      exact ⟨_, _, _, _, _, _, _, _, _, _, _, _, _, _, rfl⟩
    · rintro es' ⟨s3, s4, s5, s6, s7, s8, s9, s10, s11, s12, s13, s14, s15, s16, rfl⟩
      repeat walk_at "y"
      rfl
end
theorem all_mk {l : PySem.W.OpenLaw} {w : World} {K : PySem.W.Frag} {h : Heap} {mg : Str → Option Value} {fa : Addr} (X : K.In h) (G : h.Ns mainGlobals mg) (hfa : mg "law" = some (.ref fa))
    {f_is_number : Addr} {od_is_number an_is_number : Option Addr} {sl_is_number : Array (Option Value)} {oc_is_number kV_is_number dc_is_number pm_is_number cd_is_number ct_is_number : Value}
    (a_is_number : PySem.W.nsIn K mainGlobals "is_number" = some (some (.ref f_is_number))) (l_is_number : K.lookup f_is_number = some ⟨oc_is_number, od_is_number, .func (PySem.W.fnOf "is_number" "is_number" (defArgs s_is_number) (defBody s_is_number) (defScope s_is_number) .none kV_is_number dc_is_number pm_is_number an_is_number cd_is_number ct_is_number), sl_is_number⟩) (c_is_number : PySem.W.codeIn K cd_is_number "is_number" = true) (k_is_number : PySem.W.keepIn K (.ref f_is_number) = true)
    {f_cell_of : Addr} {od_cell_of an_cell_of : Option Addr} {sl_cell_of : Array (Option Value)} {oc_cell_of kV_cell_of dc_cell_of pm_cell_of cd_cell_of ct_cell_of : Value}
    {t_cell_of : Addr} {ot_cell_of : Value} {dt_cell_of : Option Addr} {it_cell_of : List Value} {nt_cell_of : Nat} {st_cell_of : Array (Option Value)}
    (a_cell_of : PySem.W.nsIn K mainGlobals "cell_of" = some (some (.ref f_cell_of))) (l_cell_of : K.lookup f_cell_of = some ⟨oc_cell_of, od_cell_of, .func (PySem.W.fnOf "cell_of" "cell_of" (defArgs s_cell_of) (defBody s_cell_of) (defScope s_cell_of) (.ref t_cell_of) kV_cell_of dc_cell_of pm_cell_of an_cell_of cd_cell_of ct_cell_of), sl_cell_of⟩) (c_cell_of : PySem.W.codeIn K cd_cell_of "cell_of" = true) (k_cell_of : PySem.W.keepIn K (.ref f_cell_of) = true)
    (lt_cell_of : K.lookup t_cell_of = some ⟨ot_cell_of, dt_cell_of, .seq it_cell_of.toArray nt_cell_of, st_cell_of⟩) (vt_cell_of : Vals [(.int 0), (.int 0), (.int 0)] it_cell_of)
    {f_unsigned : Addr} {od_unsigned an_unsigned : Option Addr} {sl_unsigned : Array (Option Value)} {oc_unsigned kV_unsigned dc_unsigned pm_unsigned cd_unsigned ct_unsigned : Value}
    (a_unsigned : PySem.W.nsIn K mainGlobals "unsigned" = some (some (.ref f_unsigned))) (l_unsigned : K.lookup f_unsigned = some ⟨oc_unsigned, od_unsigned, .func (PySem.W.fnOf "unsigned" "unsigned" (defArgs s_unsigned) (defBody s_unsigned) (defScope s_unsigned) .none kV_unsigned dc_unsigned pm_unsigned an_unsigned cd_unsigned ct_unsigned), sl_unsigned⟩) (c_unsigned : PySem.W.codeIn K cd_unsigned "unsigned" = true) (k_unsigned : PySem.W.keepIn K (.ref f_unsigned) = true)
    {f_number_of : Addr} {od_number_of an_number_of : Option Addr} {sl_number_of : Array (Option Value)} {oc_number_of kV_number_of dc_number_of pm_number_of cd_number_of ct_number_of : Value}
    (a_number_of : PySem.W.nsIn K mainGlobals "number_of" = some (some (.ref f_number_of))) (l_number_of : K.lookup f_number_of = some ⟨oc_number_of, od_number_of, .func (PySem.W.fnOf "number_of" "number_of" (defArgs s_number_of) (defBody s_number_of) (defScope s_number_of) .none kV_number_of dc_number_of pm_number_of an_number_of cd_number_of ct_number_of), sl_number_of⟩) (c_number_of : PySem.W.codeIn K cd_number_of "number_of" = true) (k_number_of : PySem.W.keepIn K (.ref f_number_of) = true)
    {f_short_cells : Addr} {od_short_cells an_short_cells : Option Addr} {sl_short_cells : Array (Option Value)} {oc_short_cells kV_short_cells dc_short_cells pm_short_cells cd_short_cells ct_short_cells : Value}
    (a_short_cells : PySem.W.nsIn K mainGlobals "short_cells" = some (some (.ref f_short_cells))) (l_short_cells : K.lookup f_short_cells = some ⟨oc_short_cells, od_short_cells, .func (PySem.W.fnOf "short_cells" "short_cells" (defArgs s_short_cells) (defBody s_short_cells) (defScope s_short_cells) .none kV_short_cells dc_short_cells pm_short_cells an_short_cells cd_short_cells ct_short_cells), sl_short_cells⟩) (c_short_cells : PySem.W.codeIn K cd_short_cells "short_cells" = true) (k_short_cells : PySem.W.keepIn K (.ref f_short_cells) = true)
    {f_high_half : Addr} {od_high_half an_high_half : Option Addr} {sl_high_half : Array (Option Value)} {oc_high_half kV_high_half dc_high_half pm_high_half cd_high_half ct_high_half : Value}
    (a_high_half : PySem.W.nsIn K mainGlobals "high_half" = some (some (.ref f_high_half))) (l_high_half : K.lookup f_high_half = some ⟨oc_high_half, od_high_half, .func (PySem.W.fnOf "high_half" "high_half" (defArgs s_high_half) (defBody s_high_half) (defScope s_high_half) .none kV_high_half dc_high_half pm_high_half an_high_half cd_high_half ct_high_half), sl_high_half⟩) (c_high_half : PySem.W.codeIn K cd_high_half "high_half" = true) (k_high_half : PySem.W.keepIn K (.ref f_high_half) = true)
    {f_low_half : Addr} {od_low_half an_low_half : Option Addr} {sl_low_half : Array (Option Value)} {oc_low_half kV_low_half dc_low_half pm_low_half cd_low_half ct_low_half : Value}
    (a_low_half : PySem.W.nsIn K mainGlobals "low_half" = some (some (.ref f_low_half))) (l_low_half : K.lookup f_low_half = some ⟨oc_low_half, od_low_half, .func (PySem.W.fnOf "low_half" "low_half" (defArgs s_low_half) (defBody s_low_half) (defScope s_low_half) .none kV_low_half dc_low_half pm_low_half an_low_half cd_low_half ct_low_half), sl_low_half⟩) (c_low_half : PySem.W.codeIn K cd_low_half "low_half" = true) (k_low_half : PySem.W.keepIn K (.ref f_low_half) = true)
    {f_halves_put : Addr} {od_halves_put an_halves_put : Option Addr} {sl_halves_put : Array (Option Value)} {oc_halves_put kV_halves_put dc_halves_put pm_halves_put cd_halves_put ct_halves_put : Value}
    (a_halves_put : PySem.W.nsIn K mainGlobals "halves_put" = some (some (.ref f_halves_put))) (l_halves_put : K.lookup f_halves_put = some ⟨oc_halves_put, od_halves_put, .func (PySem.W.fnOf "halves_put" "halves_put" (defArgs s_halves_put) (defBody s_halves_put) (defScope s_halves_put) .none kV_halves_put dc_halves_put pm_halves_put an_halves_put cd_halves_put ct_halves_put), sl_halves_put⟩) (c_halves_put : PySem.W.codeIn K cd_halves_put "halves_put" = true) (k_halves_put : PySem.W.keepIn K (.ref f_halves_put) = true)
    {f_long_cells : Addr} {od_long_cells an_long_cells : Option Addr} {sl_long_cells : Array (Option Value)} {oc_long_cells kV_long_cells dc_long_cells pm_long_cells cd_long_cells ct_long_cells : Value}
    (a_long_cells : PySem.W.nsIn K mainGlobals "long_cells" = some (some (.ref f_long_cells))) (l_long_cells : K.lookup f_long_cells = some ⟨oc_long_cells, od_long_cells, .func (PySem.W.fnOf "long_cells" "long_cells" (defArgs s_long_cells) (defBody s_long_cells) (defScope s_long_cells) .none kV_long_cells dc_long_cells pm_long_cells an_long_cells cd_long_cells ct_long_cells), sl_long_cells⟩) (c_long_cells : PySem.W.codeIn K cd_long_cells "long_cells" = true) (k_long_cells : PySem.W.keepIn K (.ref f_long_cells) = true)
    {f_plain_cells : Addr} {od_plain_cells an_plain_cells : Option Addr} {sl_plain_cells : Array (Option Value)} {oc_plain_cells kV_plain_cells dc_plain_cells pm_plain_cells cd_plain_cells ct_plain_cells : Value}
    (a_plain_cells : PySem.W.nsIn K mainGlobals "plain_cells" = some (some (.ref f_plain_cells))) (l_plain_cells : K.lookup f_plain_cells = some ⟨oc_plain_cells, od_plain_cells, .func (PySem.W.fnOf "plain_cells" "plain_cells" (defArgs s_plain_cells) (defBody s_plain_cells) (defScope s_plain_cells) .none kV_plain_cells dc_plain_cells pm_plain_cells an_plain_cells cd_plain_cells ct_plain_cells), sl_plain_cells⟩) (c_plain_cells : PySem.W.codeIn K cd_plain_cells "plain_cells" = true) (k_plain_cells : PySem.W.keepIn K (.ref f_plain_cells) = true)
    {f_row_cells : Addr} {od_row_cells an_row_cells : Option Addr} {sl_row_cells : Array (Option Value)} {oc_row_cells kV_row_cells dc_row_cells pm_row_cells cd_row_cells ct_row_cells : Value}
    {t_row_cells : Addr} {ot_row_cells : Value} {dt_row_cells : Option Addr} {it_row_cells : List Value} {nt_row_cells : Nat} {st_row_cells : Array (Option Value)}
    (a_row_cells : PySem.W.nsIn K mainGlobals "row_cells" = some (some (.ref f_row_cells))) (l_row_cells : K.lookup f_row_cells = some ⟨oc_row_cells, od_row_cells, .func (PySem.W.fnOf "row_cells" "row_cells" (defArgs s_row_cells) (defBody s_row_cells) (defScope s_row_cells) (.ref t_row_cells) kV_row_cells dc_row_cells pm_row_cells an_row_cells cd_row_cells ct_row_cells), sl_row_cells⟩) (c_row_cells : PySem.W.codeIn K cd_row_cells "row_cells" = true) (k_row_cells : PySem.W.keepIn K (.ref f_row_cells) = true)
    (lt_row_cells : K.lookup t_row_cells = some ⟨ot_row_cells, dt_row_cells, .seq it_row_cells.toArray nt_row_cells, st_row_cells⟩) (vt_row_cells : Vals [(.bl false)] it_row_cells)
    {f_stub_cells : Addr} {od_stub_cells an_stub_cells : Option Addr} {sl_stub_cells : Array (Option Value)} {oc_stub_cells kV_stub_cells dc_stub_cells pm_stub_cells cd_stub_cells ct_stub_cells : Value}
    (a_stub_cells : PySem.W.nsIn K mainGlobals "stub_cells" = some (some (.ref f_stub_cells))) (l_stub_cells : K.lookup f_stub_cells = some ⟨oc_stub_cells, od_stub_cells, .func (PySem.W.fnOf "stub_cells" "stub_cells" (defArgs s_stub_cells) (defBody s_stub_cells) (defScope s_stub_cells) .none kV_stub_cells dc_stub_cells pm_stub_cells an_stub_cells cd_stub_cells ct_stub_cells), sl_stub_cells⟩) (c_stub_cells : PySem.W.codeIn K cd_stub_cells "stub_cells" = true) (k_stub_cells : PySem.W.keepIn K (.ref f_stub_cells) = true)
    {f__law_bag : Addr} {od__law_bag an__law_bag : Option Addr} {sl__law_bag : Array (Option Value)} {oc__law_bag kV__law_bag dc__law_bag pm__law_bag cd__law_bag ct__law_bag : Value}
    (a__law_bag : PySem.W.nsIn K mainGlobals "_law_bag" = some (some (.ref f__law_bag))) (l__law_bag : K.lookup f__law_bag = some ⟨oc__law_bag, od__law_bag, .func (PySem.W.fnOf "_law_bag" "_law_bag" (defArgs s__law_bag) (defBody s__law_bag) (defScope s__law_bag) .none kV__law_bag dc__law_bag pm__law_bag an__law_bag cd__law_bag ct__law_bag), sl__law_bag⟩) (c__law_bag : PySem.W.codeIn K cd__law_bag "_law_bag" = true) (k__law_bag : PySem.W.keepIn K (.ref f__law_bag) = true)
    {f__law_draw : Addr} {od__law_draw an__law_draw : Option Addr} {sl__law_draw : Array (Option Value)} {oc__law_draw kV__law_draw dc__law_draw pm__law_draw cd__law_draw ct__law_draw : Value}
    (a__law_draw : PySem.W.nsIn K mainGlobals "_law_draw" = some (some (.ref f__law_draw))) (l__law_draw : K.lookup f__law_draw = some ⟨oc__law_draw, od__law_draw, .func (PySem.W.fnOf "_law_draw" "_law_draw" (defArgs s__law_draw) (defBody s__law_draw) (defScope s__law_draw) .none kV__law_draw dc__law_draw pm__law_draw an__law_draw cd__law_draw ct__law_draw), sl__law_draw⟩) (c__law_draw : PySem.W.codeIn K cd__law_draw "_law_draw" = true) (k__law_draw : PySem.W.keepIn K (.ref f__law_draw) = true)
    {f__law_of : Addr} {od__law_of an__law_of : Option Addr} {sl__law_of : Array (Option Value)} {oc__law_of kV__law_of dc__law_of pm__law_of cd__law_of ct__law_of : Value}
    (a__law_of : PySem.W.nsIn K mainGlobals "_law_of" = some (some (.ref f__law_of))) (l__law_of : K.lookup f__law_of = some ⟨oc__law_of, od__law_of, .func (PySem.W.fnOf "_law_of" "_law_of" (defArgs s__law_of) (defBody s__law_of) (defScope s__law_of) .none kV__law_of dc__law_of pm__law_of an__law_of cd__law_of ct__law_of), sl__law_of⟩) (c__law_of : PySem.W.codeIn K cd__law_of "_law_of" = true) (k__law_of : PySem.W.keepIn K (.ref f__law_of) = true)
    {f__law_same : Addr} {od__law_same an__law_same : Option Addr} {sl__law_same : Array (Option Value)} {oc__law_same kV__law_same dc__law_same pm__law_same cd__law_same ct__law_same : Value}
    (a__law_same : PySem.W.nsIn K mainGlobals "_law_same" = some (some (.ref f__law_same))) (l__law_same : K.lookup f__law_same = some ⟨oc__law_same, od__law_same, .func (PySem.W.fnOf "_law_same" "_law_same" (defArgs s__law_same) (defBody s__law_same) (defScope s__law_same) .none kV__law_same dc__law_same pm__law_same an__law_same cd__law_same ct__law_same), sl__law_same⟩) (c__law_same : PySem.W.codeIn K cd__law_same "_law_same" = true) (k__law_same : PySem.W.keepIn K (.ref f__law_same) = true)
    {f__law_titles : Addr} {od__law_titles an__law_titles : Option Addr} {sl__law_titles : Array (Option Value)} {oc__law_titles kV__law_titles dc__law_titles pm__law_titles cd__law_titles ct__law_titles : Value}
    (a__law_titles : PySem.W.nsIn K mainGlobals "_law_titles" = some (some (.ref f__law_titles))) (l__law_titles : K.lookup f__law_titles = some ⟨oc__law_titles, od__law_titles, .func (PySem.W.fnOf "_law_titles" "_law_titles" (defArgs s__law_titles) (defBody s__law_titles) (defScope s__law_titles) .none kV__law_titles dc__law_titles pm__law_titles an__law_titles cd__law_titles ct__law_titles), sl__law_titles⟩) (c__law_titles : PySem.W.codeIn K cd__law_titles "_law_titles" = true) (k__law_titles : PySem.W.keepIn K (.ref f__law_titles) = true)
    {f__law_number : Addr} {od__law_number an__law_number : Option Addr} {sl__law_number : Array (Option Value)} {oc__law_number kV__law_number dc__law_number pm__law_number cd__law_number ct__law_number : Value}
    (a__law_number : PySem.W.nsIn K mainGlobals "_law_number" = some (some (.ref f__law_number))) (l__law_number : K.lookup f__law_number = some ⟨oc__law_number, od__law_number, .func (PySem.W.fnOf "_law_number" "_law_number" (defArgs s__law_number) (defBody s__law_number) (defScope s__law_number) .none kV__law_number dc__law_number pm__law_number an__law_number cd__law_number ct__law_number), sl__law_number⟩) (c__law_number : PySem.W.codeIn K cd__law_number "_law_number" = true) (k__law_number : PySem.W.keepIn K (.ref f__law_number) = true)
    {f__law_r : Addr} {od__law_r an__law_r : Option Addr} {sl__law_r : Array (Option Value)} {oc__law_r kV__law_r dc__law_r pm__law_r cd__law_r ct__law_r : Value}
    (a__law_r : PySem.W.nsIn K mainGlobals "_law_r" = some (some (.ref f__law_r))) (l__law_r : K.lookup f__law_r = some ⟨oc__law_r, od__law_r, .func (PySem.W.fnOf "_law_r" "_law_r" (defArgs s__law_r) (defBody s__law_r) (defScope s__law_r) .none kV__law_r dc__law_r pm__law_r an__law_r cd__law_r ct__law_r), sl__law_r⟩) (c__law_r : PySem.W.codeIn K cd__law_r "_law_r" = true) (k__law_r : PySem.W.keepIn K (.ref f__law_r) = true)
    {f__law_code_row : Addr} {od__law_code_row an__law_code_row : Option Addr} {sl__law_code_row : Array (Option Value)} {oc__law_code_row kV__law_code_row dc__law_code_row pm__law_code_row cd__law_code_row ct__law_code_row : Value}
    (a__law_code_row : PySem.W.nsIn K mainGlobals "_law_code_row" = some (some (.ref f__law_code_row))) (l__law_code_row : K.lookup f__law_code_row = some ⟨oc__law_code_row, od__law_code_row, .func (PySem.W.fnOf "_law_code_row" "_law_code_row" (defArgs s__law_code_row) (defBody s__law_code_row) (defScope s__law_code_row) .none kV__law_code_row dc__law_code_row pm__law_code_row an__law_code_row cd__law_code_row ct__law_code_row), sl__law_code_row⟩) (c__law_code_row : PySem.W.codeIn K cd__law_code_row "_law_code_row" = true) (k__law_code_row : PySem.W.keepIn K (.ref f__law_code_row) = true)
    {f__law_last_row : Addr} {od__law_last_row an__law_last_row : Option Addr} {sl__law_last_row : Array (Option Value)} {oc__law_last_row kV__law_last_row dc__law_last_row pm__law_last_row cd__law_last_row ct__law_last_row : Value}
    (a__law_last_row : PySem.W.nsIn K mainGlobals "_law_last_row" = some (some (.ref f__law_last_row))) (l__law_last_row : K.lookup f__law_last_row = some ⟨oc__law_last_row, od__law_last_row, .func (PySem.W.fnOf "_law_last_row" "_law_last_row" (defArgs s__law_last_row) (defBody s__law_last_row) (defScope s__law_last_row) .none kV__law_last_row dc__law_last_row pm__law_last_row an__law_last_row cd__law_last_row ct__law_last_row), sl__law_last_row⟩) (c__law_last_row : PySem.W.codeIn K cd__law_last_row "_law_last_row" = true) (k__law_last_row : PySem.W.keepIn K (.ref f__law_last_row) = true)
    {f__law_done : Addr} {od__law_done an__law_done : Option Addr} {sl__law_done : Array (Option Value)} {oc__law_done kV__law_done dc__law_done pm__law_done cd__law_done ct__law_done : Value}
    (a__law_done : PySem.W.nsIn K mainGlobals "_law_done" = some (some (.ref f__law_done))) (l__law_done : K.lookup f__law_done = some ⟨oc__law_done, od__law_done, .func (PySem.W.fnOf "_law_done" "_law_done" (defArgs s__law_done) (defBody s__law_done) (defScope s__law_done) .none kV__law_done dc__law_done pm__law_done an__law_done cd__law_done ct__law_done), sl__law_done⟩) (c__law_done : PySem.W.codeIn K cd__law_done "_law_done" = true) (k__law_done : PySem.W.keepIn K (.ref f__law_done) = true)
    {f__law_due : Addr} {od__law_due an__law_due : Option Addr} {sl__law_due : Array (Option Value)} {oc__law_due kV__law_due dc__law_due pm__law_due cd__law_due ct__law_due : Value}
    (a__law_due : PySem.W.nsIn K mainGlobals "_law_due" = some (some (.ref f__law_due))) (l__law_due : K.lookup f__law_due = some ⟨oc__law_due, od__law_due, .func (PySem.W.fnOf "_law_due" "_law_due" (defArgs s__law_due) (defBody s__law_due) (defScope s__law_due) .none kV__law_due dc__law_due pm__law_due an__law_due cd__law_due ct__law_due), sl__law_due⟩) (c__law_due : PySem.W.codeIn K cd__law_due "_law_due" = true) (k__law_due : PySem.W.keepIn K (.ref f__law_due) = true)
    {f__law_without_third : Addr} {od__law_without_third an__law_without_third : Option Addr} {sl__law_without_third : Array (Option Value)} {oc__law_without_third kV__law_without_third dc__law_without_third pm__law_without_third cd__law_without_third ct__law_without_third : Value}
    (a__law_without_third : PySem.W.nsIn K mainGlobals "_law_without_third" = some (some (.ref f__law_without_third))) (l__law_without_third : K.lookup f__law_without_third = some ⟨oc__law_without_third, od__law_without_third, .func (PySem.W.fnOf "_law_without_third" "_law_without_third" (defArgs s__law_without_third) (defBody s__law_without_third) (defScope s__law_without_third) .none kV__law_without_third dc__law_without_third pm__law_without_third an__law_without_third cd__law_without_third ct__law_without_third), sl__law_without_third⟩) (c__law_without_third : PySem.W.codeIn K cd__law_without_third "_law_without_third" = true) (k__law_without_third : PySem.W.keepIn K (.ref f__law_without_third) = true)
    {f_law : Addr} {od_law an_law : Option Addr} {sl_law : Array (Option Value)} {oc_law kV_law dc_law pm_law cd_law ct_law : Value}
    (a_law : PySem.W.nsIn K mainGlobals "law" = some (some (.ref f_law))) (l_law : K.lookup f_law = some ⟨oc_law, od_law, .func (PySem.W.fnOf "law" "law" (defArgs s_law) (defBody s_law) (defScope s_law) .none kV_law dc_law pm_law an_law cd_law ct_law), sl_law⟩) (c_law : PySem.W.codeIn K cd_law "law" = true) (k_law : PySem.W.keepIn K (.ref f_law) = true)
    {p_CODES : Addr} {us_CODES : List Value} {n_CODES : Nat} {sl_CODES : Array (Option Value)} (q_CODES : PySem.W.nsIn K mainGlobals "CODES" = some (some (.ref p_CODES))) (l_CODES : K.lookup p_CODES = some ⟨.type "tuple", none, .seq us_CODES.toArray n_CODES, sl_CODES⟩) (v_CODES : Vals [(.str "fault"), (.str "halt"), (.str "high"), (.str "low"), (.str "add"), (.str "take"), (.str "load"), (.str "store"), (.str "jump"), (.str "ifzero"), (.str "call"), (.str "near"), (.str "jumpby"), (.str "callby"), (.str "back"), (.str "out")] us_CODES)
    {u_MOST_REGISTER : Value} (q_MOST_REGISTER : PySem.W.nsIn K mainGlobals "MOST_REGISTER" = some (some u_MOST_REGISTER)) (r_MOST_REGISTER : RelV (.int 3) u_MOST_REGISTER)
    {u_MOST_PART : Value} (q_MOST_PART : PySem.W.nsIn K mainGlobals "MOST_PART" = some (some u_MOST_PART)) (r_MOST_PART : RelV (.int 255) u_MOST_PART)
    {u_S_UNIT : Value} (q_S_UNIT : PySem.W.nsIn K mainGlobals "S_UNIT" = some (some u_S_UNIT)) (r_S_UNIT : RelV (.int 256) u_S_UNIT)
    {u_CODE_UNIT : Value} (q_CODE_UNIT : PySem.W.nsIn K mainGlobals "CODE_UNIT" = some (some u_CODE_UNIT)) (r_CODE_UNIT : RelV (.int 4096) u_CODE_UNIT)
    {u_R_UNIT : Value} (q_R_UNIT : PySem.W.nsIn K mainGlobals "R_UNIT" = some (some u_R_UNIT)) (r_R_UNIT : RelV (.int 1024) u_R_UNIT)
    {u_BYTE : Value} (q_BYTE : PySem.W.nsIn K mainGlobals "BYTE" = some (some u_BYTE)) (r_BYTE : RelV (.int 256) u_BYTE)
    {p_SHORT_WORDS : Addr} {es_SHORT_WORDS : Array DictEntry} {n_SHORT_WORDS : Nat} (q_SHORT_WORDS : PySem.W.nsIn K mainGlobals "SHORT_WORDS" = some (some (.ref p_SHORT_WORDS))) (l_SHORT_WORDS : K.lookup p_SHORT_WORDS = some ⟨.type "dict", none, .dict es_SHORT_WORDS n_SHORT_WORDS, #[]⟩) (kl_SHORT_WORDS : PySem.W.KeysLit w.params es_SHORT_WORDS.toList) (sy_SHORT_WORDS : (p_SHORT_WORDS == sysModules) = false) (pd_SHORT_WORDS : Paired (fun (p : Str × V) (e : DictEntry) => (∃ t, e.key = .str p.1 t) ∧ RelV p.2 e.val) [("name", (.str "near")), ("jump", (.str "jump")), ("ifzero", (.str "ifzero")), ("call", (.str "call"))] es_SHORT_WORDS.toList)
    {u_MIDDLE : Value} (q_MIDDLE : PySem.W.nsIn K mainGlobals "MIDDLE" = some (some u_MIDDLE)) (r_MIDDLE : RelV (.int 128) u_MIDDLE)
    {u_FAR : Value} (q_FAR : PySem.W.nsIn K mainGlobals "FAR" = some (some u_FAR)) (r_FAR : RelV (.int 3) u_FAR)
    {p_FAR_WORDS : Addr} {es_FAR_WORDS : Array DictEntry} {n_FAR_WORDS : Nat} (q_FAR_WORDS : PySem.W.nsIn K mainGlobals "FAR_WORDS" = some (some (.ref p_FAR_WORDS))) (l_FAR_WORDS : K.lookup p_FAR_WORDS = some ⟨.type "dict", none, .dict es_FAR_WORDS n_FAR_WORDS, #[]⟩) (kl_FAR_WORDS : PySem.W.KeysLit w.params es_FAR_WORDS.toList) (sy_FAR_WORDS : (p_FAR_WORDS == sysModules) = false) (pd_FAR_WORDS : Paired (fun (p : Str × V) (e : DictEntry) => (∃ t, e.key = .str p.1 t) ∧ RelV p.2 e.val) [("jump", (.str "jumpby")), ("ifzero", (.str "jumpby")), ("call", (.str "callby"))] es_FAR_WORDS.toList)
    {p_PAIRED : Addr} {dd_PAIRED : Option Addr} {us_PAIRED : List Value} {n_PAIRED : Nat} {sl_PAIRED : Array (Option Value)} (q_PAIRED : PySem.W.nsIn K mainGlobals "PAIRED" = some (some (.ref p_PAIRED))) (l_PAIRED : K.lookup p_PAIRED = some ⟨.type "tuple", dd_PAIRED, .seq us_PAIRED.toArray n_PAIRED, sl_PAIRED⟩) (v_PAIRED : Vals [(.str "add"), (.str "take"), (.str "load"), (.str "store")] us_PAIRED)
    {p_LONE : Addr} {dd_LONE : Option Addr} {us_LONE : List Value} {n_LONE : Nat} {sl_LONE : Array (Option Value)} (q_LONE : PySem.W.nsIn K mainGlobals "LONE" = some (some (.ref p_LONE))) (l_LONE : K.lookup p_LONE = some ⟨.type "tuple", dd_LONE, .seq us_LONE.toArray n_LONE, sl_LONE⟩) (v_LONE : Vals [(.str "callby"), (.str "out")] us_LONE)
    {p_LONG_SIZES : Addr} {es_LONG_SIZES : Array DictEntry} {n_LONG_SIZES : Nat} (q_LONG_SIZES : PySem.W.nsIn K mainGlobals "LONG_SIZES" = some (some (.ref p_LONG_SIZES))) (l_LONG_SIZES : K.lookup p_LONG_SIZES = some ⟨.type "dict", none, .dict es_LONG_SIZES n_LONG_SIZES, #[]⟩) (kl_LONG_SIZES : PySem.W.KeysLit w.params es_LONG_SIZES.toList) (sy_LONG_SIZES : (p_LONG_SIZES == sysModules) = false) (pd_LONG_SIZES : Paired (fun (p : Str × V) (e : DictEntry) => (∃ t, e.key = .str p.1 t) ∧ RelV p.2 e.val) [("name", (.int 2)), ("jump", (.int 3)), ("ifzero", (.int 5)), ("call", (.int 3))] es_LONG_SIZES.toList)
    (z_isinstance : PySem.W.nsIn K mainGlobals "isinstance" = some none)
    (z_int : PySem.W.nsIn K mainGlobals "int" = some none)
    (z_bool : PySem.W.nsIn K mainGlobals "bool" = some none)
    (z_str : PySem.W.nsIn K mainGlobals "str" = some none)
    (z_range : PySem.W.nsIn K mainGlobals "range" = some none)
    (z_len : PySem.W.nsIn K mainGlobals "len" = some none)
    (z_list : PySem.W.nsIn K mainGlobals "list" = some none)
    (z_abs : PySem.W.nsIn K mainGlobals "abs" = some none)
    (z_tuple : PySem.W.nsIn K mainGlobals "tuple" = some none)
    (z_all : PySem.W.nsIn K mainGlobals "all" = some none)
    (z_zip : PySem.W.nsIn K mainGlobals "zip" = some none)
    : ∃ fd : FuncData, (∀ (s : Shared) (v : Value), BindsTo s fd ⟨[v], []⟩ [("_law_script", v)]) ∧ ∀ base : Heap, K.In base → base.Ns mainGlobals mg → FnOk l.prog w K mg base CX0 13 fa fd ["_law_script"] (spLaw K) := by
  have e := hfa.symm.trans (PySem.W.mg_of X G a_law)
  cases e
  have F_is_number := fun_mk (st := s_is_number) l_is_number c_is_number k_is_number
  have F_cell_of : FunD K "cell_of" "cell_of" (defArgs s_cell_of) (defBody s_cell_of) (defScope s_cell_of) [(.int 0), (.int 0), (.int 0)] [] f_cell_of _ := ⟨⟨_, _, _, _, _, _, _, _, _, _, rfl, l_cell_of, c_cell_of, .inr ⟨by simp, t_cell_of, _, it_cell_of, nt_cell_of, rfl, lt_cell_of, rfl, vt_cell_of⟩, .inl rfl⟩, k_cell_of⟩
  have F_unsigned := fun_mk (st := s_unsigned) l_unsigned c_unsigned k_unsigned
  have F_number_of := fun_mk (st := s_number_of) l_number_of c_number_of k_number_of
  have F_short_cells := fun_mk (st := s_short_cells) l_short_cells c_short_cells k_short_cells
  have F_high_half := fun_mk (st := s_high_half) l_high_half c_high_half k_high_half
  have F_low_half := fun_mk (st := s_low_half) l_low_half c_low_half k_low_half
  have F_halves_put := fun_mk (st := s_halves_put) l_halves_put c_halves_put k_halves_put
  have F_long_cells := fun_mk (st := s_long_cells) l_long_cells c_long_cells k_long_cells
  have F_plain_cells := fun_mk (st := s_plain_cells) l_plain_cells c_plain_cells k_plain_cells
  have F_row_cells : FunD K "row_cells" "row_cells" (defArgs s_row_cells) (defBody s_row_cells) (defScope s_row_cells) [(.bl false)] [] f_row_cells _ := ⟨⟨_, _, _, _, _, _, _, _, _, _, rfl, l_row_cells, c_row_cells, .inr ⟨by simp, t_row_cells, _, it_row_cells, nt_row_cells, rfl, lt_row_cells, rfl, vt_row_cells⟩, .inl rfl⟩, k_row_cells⟩
  have F_stub_cells := fun_mk (st := s_stub_cells) l_stub_cells c_stub_cells k_stub_cells
  have F__law_bag := fun_mk (st := s__law_bag) l__law_bag c__law_bag k__law_bag
  have F__law_draw := fun_mk (st := s__law_draw) l__law_draw c__law_draw k__law_draw
  have F__law_of := fun_mk (st := s__law_of) l__law_of c__law_of k__law_of
  have F__law_same := fun_mk (st := s__law_same) l__law_same c__law_same k__law_same
  have F__law_titles := fun_mk (st := s__law_titles) l__law_titles c__law_titles k__law_titles
  have F__law_number := fun_mk (st := s__law_number) l__law_number c__law_number k__law_number
  have F__law_r := fun_mk (st := s__law_r) l__law_r c__law_r k__law_r
  have F__law_code_row := fun_mk (st := s__law_code_row) l__law_code_row c__law_code_row k__law_code_row
  have F__law_last_row := fun_mk (st := s__law_last_row) l__law_last_row c__law_last_row k__law_last_row
  have F__law_done := fun_mk (st := s__law_done) l__law_done c__law_done k__law_done
  have F__law_due := fun_mk (st := s__law_due) l__law_due c__law_due k__law_due
  have F__law_without_third := fun_mk (st := s__law_without_third) l__law_without_third c__law_without_third k__law_without_third
  have F_law := fun_mk (st := s_law) l_law c_law k_law
  obtain ⟨e_cell_of_4, v_cell_of_4, b_cell_of_4⟩ := F_cell_of.binds1 (ps := ["word", "r", "s", "part"]) 4 3 (by simp) rfl fun _ _ _ _ _ _ _ us its h1 h2 => match us, its, h1, h2 with | [_, _, _, _], [_, _, _], _, _ => ⟨_, rfl, rfl⟩
  obtain ⟨e_cell_of_2, v_cell_of_2, b_cell_of_2⟩ := F_cell_of.binds1 (ps := ["word", "r", "s", "part"]) 2 1 (by simp) rfl fun _ _ _ _ _ _ _ us its h1 h2 => match us, its, h1, h2 with | [_, _], [_, _, _], _, _ => ⟨_, rfl, rfl⟩
  obtain ⟨e_cell_of_3, v_cell_of_3, b_cell_of_3⟩ := F_cell_of.binds1 (ps := ["word", "r", "s", "part"]) 3 2 (by simp) rfl fun _ _ _ _ _ _ _ us its h1 h2 => match us, its, h1, h2 with | [_, _, _], [_, _, _], _, _ => ⟨_, rfl, rfl⟩
  obtain ⟨e_row_cells_4, v_row_cells_4, b_row_cells_4⟩ := F_row_cells.binds1 (ps := ["row", "at", "target", "long"]) 4 1 (by simp) rfl fun _ _ _ _ _ _ _ us its h1 h2 => match us, its, h1, h2 with | [_, _, _, _], [_], _, _ => ⟨_, rfl, rfl⟩
  let T : Tx K mg w := {
    a_is_number := f_is_number, d_is_number := _, F_is_number := F_is_number, m_is_number := PySem.W.mg_of X G a_is_number, k_is_number := k_is_number
    b_is_number := F_is_number.binds (ps := ["value", "least", "most"]) fun _ _ _ _ _ _ us hl => match us, hl with | [_, _, _], _ => rfl
    a_cell_of := f_cell_of, d_cell_of := _, F_cell_of := F_cell_of, m_cell_of := PySem.W.mg_of X G a_cell_of, k_cell_of := k_cell_of
    a_unsigned := f_unsigned, d_unsigned := _, F_unsigned := F_unsigned, m_unsigned := PySem.W.mg_of X G a_unsigned, k_unsigned := k_unsigned
    b_unsigned := F_unsigned.binds (ps := ["value"]) fun _ _ _ _ _ _ us hl => match us, hl with | [_], _ => rfl
    a_number_of := f_number_of, d_number_of := _, F_number_of := F_number_of, m_number_of := PySem.W.mg_of X G a_number_of, k_number_of := k_number_of
    b_number_of := F_number_of.binds (ps := ["name"]) fun _ _ _ _ _ _ us hl => match us, hl with | [_], _ => rfl
    a_short_cells := f_short_cells, d_short_cells := _, F_short_cells := F_short_cells, m_short_cells := PySem.W.mg_of X G a_short_cells, k_short_cells := k_short_cells
    b_short_cells := F_short_cells.binds (ps := ["row", "distance"]) fun _ _ _ _ _ _ us hl => match us, hl with | [_, _], _ => rfl
    a_high_half := f_high_half, d_high_half := _, F_high_half := F_high_half, m_high_half := PySem.W.mg_of X G a_high_half, k_high_half := k_high_half
    b_high_half := F_high_half.binds (ps := ["address"]) fun _ _ _ _ _ _ us hl => match us, hl with | [_], _ => rfl
    a_low_half := f_low_half, d_low_half := _, F_low_half := F_low_half, m_low_half := PySem.W.mg_of X G a_low_half, k_low_half := k_low_half
    b_low_half := F_low_half.binds (ps := ["address"]) fun _ _ _ _ _ _ us hl => match us, hl with | [_], _ => rfl
    a_halves_put := f_halves_put, d_halves_put := _, F_halves_put := F_halves_put, m_halves_put := PySem.W.mg_of X G a_halves_put, k_halves_put := k_halves_put
    b_halves_put := F_halves_put.binds (ps := ["number", "address"]) fun _ _ _ _ _ _ us hl => match us, hl with | [_, _], _ => rfl
    a_long_cells := f_long_cells, d_long_cells := _, F_long_cells := F_long_cells, m_long_cells := PySem.W.mg_of X G a_long_cells, k_long_cells := k_long_cells
    b_long_cells := F_long_cells.binds (ps := ["row", "target"]) fun _ _ _ _ _ _ us hl => match us, hl with | [_, _], _ => rfl
    a_plain_cells := f_plain_cells, d_plain_cells := _, F_plain_cells := F_plain_cells, m_plain_cells := PySem.W.mg_of X G a_plain_cells, k_plain_cells := k_plain_cells
    b_plain_cells := F_plain_cells.binds (ps := ["row"]) fun _ _ _ _ _ _ us hl => match us, hl with | [_], _ => rfl
    a_row_cells := f_row_cells, d_row_cells := _, F_row_cells := F_row_cells, m_row_cells := PySem.W.mg_of X G a_row_cells, k_row_cells := k_row_cells
    a_stub_cells := f_stub_cells, d_stub_cells := _, F_stub_cells := F_stub_cells, m_stub_cells := PySem.W.mg_of X G a_stub_cells, k_stub_cells := k_stub_cells
    b_stub_cells := F_stub_cells.binds (ps := ["slot"]) fun _ _ _ _ _ _ us hl => match us, hl with | [_], _ => rfl
    a__law_bag := f__law_bag, d__law_bag := _, F__law_bag := F__law_bag, m__law_bag := PySem.W.mg_of X G a__law_bag, k__law_bag := k__law_bag
    b__law_bag := F__law_bag.binds (ps := ["_law_script"]) fun _ _ _ _ _ _ us hl => match us, hl with | [_], _ => rfl
    a__law_draw := f__law_draw, d__law_draw := _, F__law_draw := F__law_draw, m__law_draw := PySem.W.mg_of X G a__law_draw, k__law_draw := k__law_draw
    b__law_draw := F__law_draw.binds (ps := ["_law_bag_here", "_law_sides"]) fun _ _ _ _ _ _ us hl => match us, hl with | [_, _], _ => rfl
    a__law_of := f__law_of, d__law_of := _, F__law_of := F__law_of, m__law_of := PySem.W.mg_of X G a__law_of, k__law_of := k__law_of
    b__law_of := F__law_of.binds (ps := ["_law_bag_here", "_law_things"]) fun _ _ _ _ _ _ us hl => match us, hl with | [_, _], _ => rfl
    a__law_same := f__law_same, d__law_same := _, F__law_same := F__law_same, m__law_same := PySem.W.mg_of X G a__law_same, k__law_same := k__law_same
    b__law_same := F__law_same.binds (ps := ["_law_found", "_law_due_here"]) fun _ _ _ _ _ _ us hl => match us, hl with | [_, _], _ => rfl
    a__law_titles := f__law_titles, d__law_titles := _, F__law_titles := F__law_titles, m__law_titles := PySem.W.mg_of X G a__law_titles, k__law_titles := k__law_titles
    b__law_titles := F__law_titles.binds (ps := ["_law_bag_here", "_law_many"]) fun _ _ _ _ _ _ us hl => match us, hl with | [_, _], _ => rfl
    a__law_number := f__law_number, d__law_number := _, F__law_number := F__law_number, m__law_number := PySem.W.mg_of X G a__law_number, k__law_number := k__law_number
    b__law_number := F__law_number.binds (ps := ["_law_bag_here"]) fun _ _ _ _ _ _ us hl => match us, hl with | [_], _ => rfl
    a__law_r := f__law_r, d__law_r := _, F__law_r := F__law_r, m__law_r := PySem.W.mg_of X G a__law_r, k__law_r := k__law_r
    b__law_r := F__law_r.binds (ps := ["_law_bag_here"]) fun _ _ _ _ _ _ us hl => match us, hl with | [_], _ => rfl
    a__law_code_row := f__law_code_row, d__law_code_row := _, F__law_code_row := F__law_code_row, m__law_code_row := PySem.W.mg_of X G a__law_code_row, k__law_code_row := k__law_code_row
    b__law_code_row := F__law_code_row.binds (ps := ["_law_bag_here", "_law_titles_here"]) fun _ _ _ _ _ _ us hl => match us, hl with | [_, _], _ => rfl
    a__law_last_row := f__law_last_row, d__law_last_row := _, F__law_last_row := F__law_last_row, m__law_last_row := PySem.W.mg_of X G a__law_last_row, k__law_last_row := k__law_last_row
    b__law_last_row := F__law_last_row.binds (ps := ["_law_bag_here", "_law_titles_here"]) fun _ _ _ _ _ _ us hl => match us, hl with | [_, _], _ => rfl
    a__law_done := f__law_done, d__law_done := _, F__law_done := F__law_done, m__law_done := PySem.W.mg_of X G a__law_done, k__law_done := k__law_done
    b__law_done := F__law_done.binds (ps := ["_law_lot", "_law_place_y", "_law_registers", "_law_held"]) fun _ _ _ _ _ _ us hl => match us, hl with | [_, _, _, _], _ => rfl
    a__law_due := f__law_due, d__law_due := _, F__law_due := F__law_due, m__law_due := PySem.W.mg_of X G a__law_due, k__law_due := k__law_due
    b__law_due := F__law_due.binds (ps := ["_law_one", "_law_place_y", "_law_goal", "_law_registers", "_law_held", "_law_size"]) fun _ _ _ _ _ _ us hl => match us, hl with | [_, _, _, _, _, _], _ => rfl
    a__law_without_third := f__law_without_third, d__law_without_third := _, F__law_without_third := F__law_without_third, m__law_without_third := PySem.W.mg_of X G a__law_without_third, k__law_without_third := k__law_without_third
    b__law_without_third := F__law_without_third.binds (ps := ["_law_done_here"]) fun _ _ _ _ _ _ us hl => match us, hl with | [_], _ => rfl
    a_law := fa, d_law := _, F_law := F_law, m_law := PySem.W.mg_of X G a_law, k_law := k_law
    b_law := F_law.binds (ps := ["_law_script"]) fun _ _ _ _ _ _ us hl => match us, hl with | [_], _ => rfl
    e_cell_of_4 := e_cell_of_4, v_cell_of_4 := v_cell_of_4, b_cell_of_4 := b_cell_of_4
    e_cell_of_2 := e_cell_of_2, v_cell_of_2 := v_cell_of_2, b_cell_of_2 := b_cell_of_2
    e_cell_of_3 := e_cell_of_3, v_cell_of_3 := v_cell_of_3, b_cell_of_3 := b_cell_of_3
    e_row_cells_4 := e_row_cells_4, v_row_cells_4 := v_row_cells_4, b_row_cells_4 := b_row_cells_4
    a_CODES := p_CODES, m_CODES := PySem.W.mg_of X G q_CODES, kd_CODES := fun F => .tup (.inr ⟨_, us_CODES.toArray, n_CODES, l_CODES, rfl, rfl, by have := v_CODES.length; simp at this; simp [← this]; decide, v_CODES⟩) (.cons (.str _) (.cons (.str _) (.cons (.str _) (.cons (.str _) (.cons (.str _) (.cons (.str _) (.cons (.str _) (.cons (.str _) (.cons (.str _) (.cons (.str _) (.cons (.str _) (.cons (.str _) (.cons (.str _) (.cons (.str _) (.cons (.str _) (.cons (.str _) .nil))))))))))))))))
    kt_CODES := ⟨_, l_CODES, rfl, rfl⟩
    u_MOST_REGISTER := u_MOST_REGISTER, m_MOST_REGISTER := PySem.W.mg_of X G q_MOST_REGISTER, r_MOST_REGISTER := r_MOST_REGISTER
    u_MOST_PART := u_MOST_PART, m_MOST_PART := PySem.W.mg_of X G q_MOST_PART, r_MOST_PART := r_MOST_PART
    u_S_UNIT := u_S_UNIT, m_S_UNIT := PySem.W.mg_of X G q_S_UNIT, r_S_UNIT := r_S_UNIT
    u_CODE_UNIT := u_CODE_UNIT, m_CODE_UNIT := PySem.W.mg_of X G q_CODE_UNIT, r_CODE_UNIT := r_CODE_UNIT
    u_R_UNIT := u_R_UNIT, m_R_UNIT := PySem.W.mg_of X G q_R_UNIT, r_R_UNIT := r_R_UNIT
    u_BYTE := u_BYTE, m_BYTE := PySem.W.mg_of X G q_BYTE, r_BYTE := r_BYTE
    a_SHORT_WORDS := p_SHORT_WORDS, m_SHORT_WORDS := PySem.W.mg_of X G q_SHORT_WORDS, kd_SHORT_WORDS := ⟨es_SHORT_WORDS, n_SHORT_WORDS, l_SHORT_WORDS, kl_SHORT_WORDS, sy_SHORT_WORDS, pd_SHORT_WORDS⟩
    u_MIDDLE := u_MIDDLE, m_MIDDLE := PySem.W.mg_of X G q_MIDDLE, r_MIDDLE := r_MIDDLE
    u_FAR := u_FAR, m_FAR := PySem.W.mg_of X G q_FAR, r_FAR := r_FAR
    a_FAR_WORDS := p_FAR_WORDS, m_FAR_WORDS := PySem.W.mg_of X G q_FAR_WORDS, kd_FAR_WORDS := ⟨es_FAR_WORDS, n_FAR_WORDS, l_FAR_WORDS, kl_FAR_WORDS, sy_FAR_WORDS, pd_FAR_WORDS⟩
    a_PAIRED := p_PAIRED, m_PAIRED := PySem.W.mg_of X G q_PAIRED, kd_PAIRED := fun F => .tup (.inr ⟨_, us_PAIRED.toArray, n_PAIRED, l_PAIRED, rfl, rfl, by have := v_PAIRED.length; simp at this; simp [← this]; decide, v_PAIRED⟩) (.cons (.str _) (.cons (.str _) (.cons (.str _) (.cons (.str _) .nil))))
    a_LONE := p_LONE, m_LONE := PySem.W.mg_of X G q_LONE, kd_LONE := fun F => .tup (.inr ⟨_, us_LONE.toArray, n_LONE, l_LONE, rfl, rfl, by have := v_LONE.length; simp at this; simp [← this]; decide, v_LONE⟩) (.cons (.str _) (.cons (.str _) .nil))
    a_LONG_SIZES := p_LONG_SIZES, m_LONG_SIZES := PySem.W.mg_of X G q_LONG_SIZES, kd_LONG_SIZES := ⟨es_LONG_SIZES, n_LONG_SIZES, l_LONG_SIZES, kl_LONG_SIZES, sy_LONG_SIZES, pd_LONG_SIZES⟩
    n_isinstance := PySem.W.mg_none_of X G z_isinstance
    n_int := PySem.W.mg_none_of X G z_int
    n_bool := PySem.W.mg_none_of X G z_bool
    n_str := PySem.W.mg_none_of X G z_str
    n_range := PySem.W.mg_none_of X G z_range
    n_len := PySem.W.mg_none_of X G z_len
    n_list := PySem.W.mg_none_of X G z_list
    n_abs := PySem.W.mg_none_of X G z_abs
    n_tuple := PySem.W.mg_none_of X G z_tuple
    n_all := PySem.W.mg_none_of X G z_all
    n_zip := PySem.W.mg_none_of X G z_zip
  }
  exact ⟨PySem.W.fnOf "law" "law" (defArgs s_law) (defBody s_law) (defScope s_law) .none kV_law dc_law pm_law an_law cd_law ct_law, fun s v => .of_eq rfl, fun base _ _ => ok_law (P := l.prog) (w := w) (base := base) T⟩
theorem walk {l : PySem.W.OpenLaw} {q : Program} {loose : List Str} {XP : (Str → Option Value) → Heap → Prop} {YP : World → Heap → Prop} {d : DefRec} {K : Params → PySem.W.Frag} (hn : l.most = some 63) (hdf : d.params.defaults = [])
    (hY : ∀ (w : World) (h : Heap), YP w h → (K w.params).In h)
    (F : ∀ (w : World) (mg : Str → Option Value) (fa : Addr) (h : Heap), (K w.params).In h → h.Ns mainGlobals mg → mg d.name = some (.ref fa) →
      ∃ fd : FuncData, (∀ (s : Shared) (u : Value), BindsTo s fd ⟨[u], []⟩ [("_law_script", u)]) ∧ ∀ base : Heap, (K w.params).In base → base.Ns mainGlobals mg → FnOk l.prog w (K w.params) mg base CX0 13 fa fd ["_law_script"] (spLaw (K w.params))) :
    PySem.W.WalkO q loose XP YP l.row.toRowW d [] (fun f vs => PySem.call f vs) :=
  L2.walk_of (n := 63) (k := 13) (x := "_law_script") (CX := fun _ => CX0) (sp := fun w => spLaw (K w.params)) hn (by decide) hdf ⟨rfl, by decide, by decide⟩ hY F (fun _ _ a ns hl _ hS => ⟨a, ns, rfl, hS, hl, fun _ => rfl⟩) fun _ _ _ _ _ z => z
end Law
open PySem PySem.W PyProof.Rows
set_option maxRecDepth 100000 in
set_option maxHeartbeats 0 in
theorem PySem.Challenge.cw_leastimage_k15_whole_forms_lead_home_holds : PySem.Challenge.rw_leastimage_k15_whole_forms_lead_home.Holds := by
  w_on; o_law; k_head; (case hw => w_witness2)
  k_fill
  refine Law.walk (l := PySem.Challenge.rw_leastimage_k15_whole_forms_lead_home) rfl rfl (fun w h Y => PySem.W.kIn_of Y) ?F
  case F =>
    intro w mg fa h KX G hmg
    refine' Law.all_mk KX G hmg ?a_is_number ?l_is_number ?c_is_number ?k_is_number ?a_cell_of ?l_cell_of ?c_cell_of ?k_cell_of ?lt_cell_of ?vt_cell_of ?a_unsigned ?l_unsigned ?c_unsigned ?k_unsigned ?a_number_of ?l_number_of ?c_number_of ?k_number_of ?a_short_cells ?l_short_cells ?c_short_cells ?k_short_cells ?a_high_half ?l_high_half ?c_high_half ?k_high_half ?a_low_half ?l_low_half ?c_low_half ?k_low_half ?a_halves_put ?l_halves_put ?c_halves_put ?k_halves_put ?a_long_cells ?l_long_cells ?c_long_cells ?k_long_cells ?a_plain_cells ?l_plain_cells ?c_plain_cells ?k_plain_cells ?a_row_cells ?l_row_cells ?c_row_cells ?k_row_cells ?lt_row_cells ?vt_row_cells ?a_stub_cells ?l_stub_cells ?c_stub_cells ?k_stub_cells ?a__law_bag ?l__law_bag ?c__law_bag ?k__law_bag ?a__law_draw ?l__law_draw ?c__law_draw ?k__law_draw ?a__law_of ?l__law_of ?c__law_of ?k__law_of ?a__law_same ?l__law_same ?c__law_same ?k__law_same ?a__law_titles ?l__law_titles ?c__law_titles ?k__law_titles ?a__law_number ?l__law_number ?c__law_number ?k__law_number ?a__law_r ?l__law_r ?c__law_r ?k__law_r ?a__law_code_row ?l__law_code_row ?c__law_code_row ?k__law_code_row ?a__law_last_row ?l__law_last_row ?c__law_last_row ?k__law_last_row ?a__law_done ?l__law_done ?c__law_done ?k__law_done ?a__law_due ?l__law_due ?c__law_due ?k__law_due ?a__law_without_third ?l__law_without_third ?c__law_without_third ?k__law_without_third ?a_law ?l_law ?c_law ?k_law ?q_CODES ?l_CODES ?v_CODES ?q_MOST_REGISTER ?r_MOST_REGISTER ?q_MOST_PART ?r_MOST_PART ?q_S_UNIT ?r_S_UNIT ?q_CODE_UNIT ?r_CODE_UNIT ?q_R_UNIT ?r_R_UNIT ?q_BYTE ?r_BYTE ?q_SHORT_WORDS ?l_SHORT_WORDS ?kl_SHORT_WORDS ?sy_SHORT_WORDS ?pd_SHORT_WORDS ?q_MIDDLE ?r_MIDDLE ?q_FAR ?r_FAR ?q_FAR_WORDS ?l_FAR_WORDS ?kl_FAR_WORDS ?sy_FAR_WORDS ?pd_FAR_WORDS ?q_PAIRED ?l_PAIRED ?v_PAIRED ?q_LONE ?l_LONE ?v_LONE ?q_LONG_SIZES ?l_LONG_SIZES ?kl_LONG_SIZES ?sy_LONG_SIZES ?pd_LONG_SIZES ?z_isinstance ?z_int ?z_bool ?z_str ?z_range ?z_len ?z_list ?z_abs ?z_tuple ?z_all ?z_zip
    (case a_is_number => k_is)
    (case l_is_number => k_is)
    (case c_is_number => k_is)
    (case k_is_number => k_is)
    (case a_cell_of => k_is)
    (case l_cell_of => k_is)
    (case c_cell_of => k_is)
    (case k_cell_of => k_is)
    (case lt_cell_of => k_is)
    (case a_unsigned => k_is)
    (case l_unsigned => k_is)
    (case c_unsigned => k_is)
    (case k_unsigned => k_is)
    (case a_number_of => k_is)
    (case l_number_of => k_is)
    (case c_number_of => k_is)
    (case k_number_of => k_is)
    (case a_short_cells => k_is)
    (case l_short_cells => k_is)
    (case c_short_cells => k_is)
    (case k_short_cells => k_is)
    (case a_high_half => k_is)
    (case l_high_half => k_is)
    (case c_high_half => k_is)
    (case k_high_half => k_is)
    (case a_low_half => k_is)
    (case l_low_half => k_is)
    (case c_low_half => k_is)
    (case k_low_half => k_is)
    (case a_halves_put => k_is)
    (case l_halves_put => k_is)
    (case c_halves_put => k_is)
    (case k_halves_put => k_is)
    (case a_long_cells => k_is)
    (case l_long_cells => k_is)
    (case c_long_cells => k_is)
    (case k_long_cells => k_is)
    (case a_plain_cells => k_is)
    (case l_plain_cells => k_is)
    (case c_plain_cells => k_is)
    (case k_plain_cells => k_is)
    (case a_row_cells => k_is)
    (case l_row_cells => k_is)
    (case c_row_cells => k_is)
    (case k_row_cells => k_is)
    (case lt_row_cells => k_is)
    (case a_stub_cells => k_is)
    (case l_stub_cells => k_is)
    (case c_stub_cells => k_is)
    (case k_stub_cells => k_is)
    (case a__law_bag => k_is)
    (case l__law_bag => k_is)
    (case c__law_bag => k_is)
    (case k__law_bag => k_is)
    (case a__law_draw => k_is)
    (case l__law_draw => k_is)
    (case c__law_draw => k_is)
    (case k__law_draw => k_is)
    (case a__law_of => k_is)
    (case l__law_of => k_is)
    (case c__law_of => k_is)
    (case k__law_of => k_is)
    (case a__law_same => k_is)
    (case l__law_same => k_is)
    (case c__law_same => k_is)
    (case k__law_same => k_is)
    (case a__law_titles => k_is)
    (case l__law_titles => k_is)
    (case c__law_titles => k_is)
    (case k__law_titles => k_is)
    (case a__law_number => k_is)
    (case l__law_number => k_is)
    (case c__law_number => k_is)
    (case k__law_number => k_is)
    (case a__law_r => k_is)
    (case l__law_r => k_is)
    (case c__law_r => k_is)
    (case k__law_r => k_is)
    (case a__law_code_row => k_is)
    (case l__law_code_row => k_is)
    (case c__law_code_row => k_is)
    (case k__law_code_row => k_is)
    (case a__law_last_row => k_is)
    (case l__law_last_row => k_is)
    (case c__law_last_row => k_is)
    (case k__law_last_row => k_is)
    (case a__law_done => k_is)
    (case l__law_done => k_is)
    (case c__law_done => k_is)
    (case k__law_done => k_is)
    (case a__law_due => k_is)
    (case l__law_due => k_is)
    (case c__law_due => k_is)
    (case k__law_due => k_is)
    (case a__law_without_third => k_is)
    (case l__law_without_third => k_is)
    (case c__law_without_third => k_is)
    (case k__law_without_third => k_is)
    (case a_law => k_is)
    (case l_law => k_is)
    (case c_law => k_is)
    (case k_law => k_is)
    (case q_CODES => k_is)
    (case l_CODES => k_is)
    (case q_MOST_REGISTER => k_is)
    (case q_MOST_PART => k_is)
    (case q_S_UNIT => k_is)
    (case q_CODE_UNIT => k_is)
    (case q_R_UNIT => k_is)
    (case q_BYTE => k_is)
    (case q_SHORT_WORDS => k_is)
    (case l_SHORT_WORDS => k_is)
    (case q_MIDDLE => k_is)
    (case q_FAR => k_is)
    (case q_FAR_WORDS => k_is)
    (case l_FAR_WORDS => k_is)
    (case q_PAIRED => k_is)
    (case l_PAIRED => k_is)
    (case q_LONE => k_is)
    (case l_LONE => k_is)
    (case q_LONG_SIZES => k_is)
    (case l_LONG_SIZES => k_is)
    (case z_isinstance => k_is)
    (case z_int => k_is)
    (case z_bool => k_is)
    (case z_str => k_is)
    (case z_range => k_is)
    (case z_len => k_is)
    (case z_list => k_is)
    (case z_abs => k_is)
    (case z_tuple => k_is)
    (case z_all => k_is)
    (case z_zip => k_is)
    (case vt_cell_of => exact (.cons ⟨_, rfl⟩ (.cons ⟨_, rfl⟩ (.cons ⟨_, rfl⟩ .nil))))
    (case vt_row_cells => exact (.cons rfl .nil))
    (case v_CODES => exact (.cons ⟨_, rfl⟩ (.cons ⟨_, rfl⟩ (.cons ⟨_, rfl⟩ (.cons ⟨_, rfl⟩ (.cons ⟨_, rfl⟩ (.cons ⟨_, rfl⟩ (.cons ⟨_, rfl⟩ (.cons ⟨_, rfl⟩ (.cons ⟨_, rfl⟩ (.cons ⟨_, rfl⟩ (.cons ⟨_, rfl⟩ (.cons ⟨_, rfl⟩ (.cons ⟨_, rfl⟩ (.cons ⟨_, rfl⟩ (.cons ⟨_, rfl⟩ (.cons ⟨_, rfl⟩ .nil)))))))))))))))))
    (case r_MOST_REGISTER => exact ⟨_, rfl⟩)
    (case r_MOST_PART => exact ⟨_, rfl⟩)
    (case r_S_UNIT => exact ⟨_, rfl⟩)
    (case r_CODE_UNIT => exact ⟨_, rfl⟩)
    (case r_R_UNIT => exact ⟨_, rfl⟩)
    (case r_BYTE => exact ⟨_, rfl⟩)
    (case kl_SHORT_WORDS => exact ⟨⟨_, _, rfl, rfl⟩, ⟨_, _, rfl, rfl⟩, ⟨_, _, rfl, rfl⟩, ⟨_, _, rfl, rfl⟩, trivial⟩)
    (case sy_SHORT_WORDS => first | rfl | decide)
    (case pd_SHORT_WORDS => exact (.cons ⟨⟨_, rfl⟩, ⟨_, rfl⟩⟩ (.cons ⟨⟨_, rfl⟩, ⟨_, rfl⟩⟩ (.cons ⟨⟨_, rfl⟩, ⟨_, rfl⟩⟩ (.cons ⟨⟨_, rfl⟩, ⟨_, rfl⟩⟩ .nil)))))
    (case r_MIDDLE => exact ⟨_, rfl⟩)
    (case r_FAR => exact ⟨_, rfl⟩)
    (case kl_FAR_WORDS => exact ⟨⟨_, _, rfl, rfl⟩, ⟨_, _, rfl, rfl⟩, ⟨_, _, rfl, rfl⟩, trivial⟩)
    (case sy_FAR_WORDS => first | rfl | decide)
    (case pd_FAR_WORDS => exact (.cons ⟨⟨_, rfl⟩, ⟨_, rfl⟩⟩ (.cons ⟨⟨_, rfl⟩, ⟨_, rfl⟩⟩ (.cons ⟨⟨_, rfl⟩, ⟨_, rfl⟩⟩ .nil))))
    (case v_PAIRED => exact (.cons ⟨_, rfl⟩ (.cons ⟨_, rfl⟩ (.cons ⟨_, rfl⟩ (.cons ⟨_, rfl⟩ .nil)))))
    (case v_LONE => exact (.cons ⟨_, rfl⟩ (.cons ⟨_, rfl⟩ .nil)))
    (case kl_LONG_SIZES => exact ⟨⟨_, _, rfl, rfl⟩, ⟨_, _, rfl, rfl⟩, ⟨_, _, rfl, rfl⟩, ⟨_, _, rfl, rfl⟩, trivial⟩)
    (case sy_LONG_SIZES => first | rfl | decide)
    (case pd_LONG_SIZES => exact (.cons ⟨⟨_, rfl⟩, ⟨_, rfl⟩⟩ (.cons ⟨⟨_, rfl⟩, ⟨_, rfl⟩⟩ (.cons ⟨⟨_, rfl⟩, ⟨_, rfl⟩⟩ (.cons ⟨⟨_, rfl⟩, ⟨_, rfl⟩⟩ .nil)))))
