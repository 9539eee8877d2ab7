import PyProof.Rows.All
import Wide.All
import OpenK.AllK
import Wide.FinOn
import HandS.ForMost
import HandS.Flow
import HandS.IsInst
import HandS.Walk
import HandS.Zip
import HandS.Defaults
import HandS.MakeKwOnly
import HandS.Lambda
import HandS.More
import HandS.Style
import KE.GoesNew
import HandS.Strs
import HandS.Nested
import HandS.Exc
import HandS.ExcInit
import HandS.HotCalls
import KE.KTryMore
import HandS.ExcField
import HandS.EndTab
import PySem.Challenge.RW_leastimage_k12_cells_apart_and_together
set_option Elab.async false
set_option linter.all false
set_option maxRecDepth 100000
set_option maxHeartbeats 4000000
/-! Y1: data, and a logic over data alone: environments of data, expressions that give data, statements. -/
namespace Y
open PySem L2

/-- a datum: what a value means, without addresses -/
inductive Dt where
  | non
  | bl (b : Bool)
  | int (i : Int)
  | str (s : Str)
  | lst (xs : List Dt)
  | tup (xs : List Dt)
  | obj (C : Addr) (ns : List Str) (xs : List Dt)
  | dct (ks : List Key) (xs : List Dt)
  | ali (a : Addr)

mutual
inductive Rp (K : PySem.W.Frag) (F : Hp) : V → Dt → Prop
  | non : Rp K F .non .non
  | bl (b : Bool) : Rp K F (.bl b) (.bl b)
  | int (i : Int) : Rp K F (.int i) (.int i)
  | str (x : Str) : Rp K F (.str x) (.str x)
  | lst {a : Addr} {xs : List V} {ds : List Dt} : F a = some (.lst xs) → RpAll K F xs ds → Rp K F (.ref a) (.lst ds)
  | tup {a : Addr} {xs : List V} {ds : List Dt} : SqT K F a xs → RpAll K F xs ds → Rp K F (.ref a) (.tup ds)
  | obj {a C dx : Addr} {ns : List Str} {fs : List (Str × V)} {xs : List V} {ds : List Dt} : F a = some (.ins C dx fs) → fs.map (·.1) = ns → fs.map (·.2) = xs → RpAll K F xs ds → Rp K F (.ref a) (.obj C ns ds)
  | dct {a : Addr} {ks : List Key} {kvs : List (Key × V)} {xs : List V} {ds : List Dt} : F a = some (.dK kvs) → kvs.map (·.1) = ks → kvs.map (·.2) = xs → RpAll K F xs ds → Rp K F (.ref a) (.dct ks ds)
  | ali (a : Addr) : Rp K F (.ref a) (.ali a)
inductive RpAll (K : PySem.W.Frag) (F : Hp) : List V → List Dt → Prop
  | nil : RpAll K F [] []
  | cons {v : V} {vs : List V} {d : Dt} {ds : List Dt} : Rp K F v d → RpAll K F vs ds → RpAll K F (v :: vs) (d :: ds)
end

section mono
variable {K : PySem.W.Frag} {F F' : Hp}
theorem sqL_mono {a : Addr} {xs : List V} (e : Same F F') (h : SqL K F a xs) : SqL K F' a xs := e.seq h
theorem sqT_mono {a : Addr} {xs : List V} (e : Same F F') (h : SqT K F a xs) : SqT K F' a xs := by
  rcases h with (h | ⟨o, h⟩) | h
  · exact .inl (.inl (e _ _ h))
  · exact .inl (.inr ⟨o, e _ _ h⟩)
  · exact .inr h
mutual
theorem Rp.mono (e : Same F F') : ∀ {v : V} {d : Dt}, Rp K F v d → Rp K F' v d
  | _, _, .non => .non
  | _, _, .bl b => .bl b
  | _, _, .int i => .int i
  | _, _, .str x => .str x
  | _, _, .lst h r => .lst (e _ _ h) (RpAll.mono e r)
  | _, _, .tup h r => .tup (sqT_mono e h) (RpAll.mono e r)
  | _, _, .obj h h1 h2 r => .obj (e _ _ h) h1 h2 (RpAll.mono e r)
  | _, _, .dct h h1 h2 r => .dct (e _ _ h) h1 h2 (RpAll.mono e r)
  | _, _, .ali a => .ali a
theorem RpAll.mono (e : Same F F') : ∀ {vs : List V} {ds : List Dt}, RpAll K F vs ds → RpAll K F' vs ds
  | _, _, .nil => .nil
  | _, _, .cons h t => .cons (Rp.mono e h) (RpAll.mono e t)
end
theorem RpAll.length : ∀ {vs : List V} {ds : List Dt}, RpAll K F vs ds → vs.length = ds.length
  | _, _, .nil => rfl
  | _, _, .cons _ t => congrArg (· + 1) (RpAll.length t)
theorem RpAll.get : ∀ {vs : List V} {ds : List Dt} {i : Nat} {d : Dt}, RpAll K F vs ds → ds[i]? = some d → ∃ v, vs[i]? = some v ∧ Rp K F v d
  | _, _, _, _, .nil, e => by simp at e
  | _, _, 0, _, .cons r _, e => by simp at e; subst e; exact ⟨_, rfl, r⟩
  | _, _, i + 1, d, .cons _ t, e => by
    obtain ⟨v, h1, h2⟩ := RpAll.get (i := i) (d := d) t (by simpa using e)
    exact ⟨v, by simpa using h1, h2⟩
theorem RpAll.getV : ∀ {vs : List V} {ds : List Dt} {i : Nat} {v : V}, RpAll K F vs ds → vs[i]? = some v → ∃ d, ds[i]? = some d ∧ Rp K F v d
  | _, _, _, _, .nil, e => by simp at e
  | _, _, 0, _, .cons r _, e => by simp at e; subst e; exact ⟨_, rfl, r⟩
  | _, _, i + 1, v, .cons _ t, e => by
    obtain ⟨d, h1, h2⟩ := RpAll.getV (i := i) (v := v) t (by simpa using e)
    exact ⟨d, by simpa using h1, h2⟩
theorem RpAll.app : ∀ {vs ws : List V} {ds es : List Dt}, RpAll K F vs ds → RpAll K F ws es → RpAll K F (vs ++ ws) (ds ++ es)
  | _, _, _, _, .nil, s => s
  | _, _, _, _, .cons r t, s => .cons r (RpAll.app t s)
theorem RpAll.take : ∀ {vs : List V} {ds : List Dt} (n : Nat), RpAll K F vs ds → RpAll K F (vs.take n) (ds.take n)
  | _, _, 0, _ => by simp; exact .nil
  | _, _, _ + 1, .nil => .nil
  | _, _, n + 1, .cons r t => .cons r (RpAll.take n t)
theorem RpAll.drop : ∀ {vs : List V} {ds : List Dt} (n : Nat), RpAll K F vs ds → RpAll K F (vs.drop n) (ds.drop n)
  | _, _, 0, r => r
  | _, _, _ + 1, .nil => .nil
  | _, _, n + 1, .cons _ t => RpAll.drop n t
theorem RpAll.set {d : Dt} {v : V} (r : Rp K F v d) : ∀ {vs : List V} {ds : List Dt} (i : Nat), RpAll K F vs ds → RpAll K F (vs.set i v) (ds.set i d)
  | _, _, _, .nil => .nil
  | _, _, 0, .cons _ t => .cons r t
  | _, _, i + 1, .cons q t => .cons q (RpAll.set r i t)
theorem RpAll.ints : ∀ {vs : List V} {ns : List Int}, RpAll K F vs (ns.map Dt.int) → vs = ns.map V.int
  | _, [], h => by cases h; rfl
  | _, n :: ns, h => by
    cases h with
    | cons r t => cases r; rw [RpAll.ints t]; rfl
theorem RpAll.bls : ∀ {vs : List V} {ns : List Bool}, RpAll K F vs (ns.map Dt.bl) → vs = ns.map V.bl
  | _, [], h => by cases h; rfl
  | _, n :: ns, h => by
    cases h with
    | cons r t => cases r; rw [RpAll.bls t]; rfl
theorem RpAll.texts : ∀ {vs : List V} {ns : List Str}, RpAll K F vs (ns.map Dt.str) → vs = ns.map V.str
  | _, [], h => by cases h; rfl
  | _, n :: ns, h => by
    cases h with
    | cons r t => cases r; rw [RpAll.texts t]; rfl
theorem RpAll.of_ints : ∀ {ns : List Int}, RpAll K F (ns.map V.int) (ns.map Dt.int)
  | [] => .nil
  | n :: ns => .cons (.int n) RpAll.of_ints
end mono

/-- the state of the drawing: a list of five, its ints, what was taken, a rest, a mixed number, a count -/
def BagD (xs : List Dt) : Prop := ∃ (ns : List Int) (i r m k : Int), xs = [.lst (ns.map Dt.int), .int i, .int r, .int m, .int k] ∧ 0 ≤ i ∧ 0 ≤ r ∧ 0 ≤ m ∧ m < 2147483648
def BagAt (K : PySem.W.Frag) (F H : Hp) (b : Addr) : Prop := F b = none ∧ ∃ vs xs, H b = some (.lst vs) ∧ RpAll K F vs xs ∧ BagD xs

/-- the words of a lambda, its captured cells, its code object, its defaults -/
structure LF where
  qual : Str
  params : Arguments
  body : Expr
  scope : Scope
  cl : List (Str × Addr)
  c : Addr
  dv : Option Addr
def LF.dval (F : LF) : Value := match F.dv with
  | none => .none
  | some t => .ref t
def LF.fd (F : LF) (pm ctv : Value) : FuncData := { name := "<lambda>", qualname := F.qual, params := F.params, body := .expr F.body, scope := F.scope, globals := mainGlobals, closure := F.cl, defaults := F.dval, kwdefaults := .none, doc := .none, pyModule := pm, annotations := none, code := .ref F.c, closureTuple := ctv, builtins := builtinsNs }
/-- the object at f is the lambda F -/
def FnL (f : Addr) (F : LF) : HO := .ext fun h => ∃ (od : Option Addr) (sl : Array (Option Value)) (pm ctv : Value), h.get? f = some (⟨.type "function", od, .func (F.fd pm ctv), sl⟩ : Obj)
/-- .. with all that it leans on -/
def FnAtH (H : Hp) (f : Addr) (F : LF) : Prop := H f = some (FnL f F) ∧ H F.c = some (LamX.CodeO F.c F.qual) ∧ ∀ t, F.dv = some t → H t = some (.tup [.int 0])
/-- what a slot of a frame is known to hold -/
inductive Sl where
  | no
  | any
  | d (x : Dt)
  | r (v : V)
  | own (a : Addr) (xs : List Dt)
  /-- an instance of one's own, under way: its fields; which of them hold a new list -/
  | ob (a C dx : Addr) (ns : List Str) (xs : List Dt) (bs : List Bool)
  /-- a list of lambdas -/
  | fs (a : Addr) (ls : List (Addr × LF))

def SlOk (K : PySem.W.Frag) (F H : Hp) : Option V → Sl → Prop
  | _, .any => True
  | o, .no => o = none
  | o, .d x => ∃ v, o = some v ∧ Rp K F v x
  | o, .r v => o = some v
  | o, .own a xs => ∃ vs, o = some (.ref a) ∧ F a = none ∧ H a = some (.lst vs) ∧ RpAll K F vs xs
  | o, .ob a C dx ns xs _ => ∃ fs : List (Str × V), o = some (.ref a) ∧ F a = none ∧ H a = some (.ins C dx fs) ∧ fs.map (·.1) = ns ∧ RpAll K F (fs.map (·.2)) xs
  | o, .fs a ls => o = some (.ref a) ∧ F a = some (.lst (ls.map fun p => .ref p.1)) ∧ ∀ p ∈ ls, FnAtH H p.1 p.2

/-- what a body of a def stands on: the written part, what is known and the heap at its start, the address of the drawing -/
structure Bs where
  K : PySem.W.Frag
  F0 : Hp
  H0 : Hp
  bag : Option Addr
  T : List (Addr × Str)
/-- neither the drawing's list nor a table of code objects -/
def Bs.off (B : Bs) (c : Addr) : Prop := B.bag ≠ some c ∧ ∀ p ∈ B.T, p.1 ≠ c

structure Stt (B : Bs) (es : List Sl) (σ : St) (F H : Hp) : Prop where
  sub : Same F H
  s0 : Same B.F0 F
  ou : ∀ c, B.H0 c ≠ none → B.F0 c = none → F c = none
  fr : ∀ c o, B.H0 c = some o → B.off c → H c = some o
  bg : ∀ b, B.bag = some b → BagAt B.K F H b
  tb : LamX.Tabs B.T H
  tn : ∀ p ∈ B.T, F p.1 = none
  len : σ.length = es.length
  ok : ∀ (i : Nat) e o, es[i]? = some e → σ[i]? = some o → SlOk B.K F H o e
  ow : ∀ (i : Nat) a xs, es[i]? = some (.own a xs) → B.H0 a = none ∧ B.off a
  dis : ∀ (i j : Nat) a b xs ys, i ≠ j → es[i]? = some (.own a xs) → es[j]? = some (.own b ys) → a ≠ b
  obw : ∀ (i : Nat) a C dx ns xs bs, es[i]? = some (.ob a C dx ns xs bs) → B.H0 a = none ∧ B.off a ∧ ∀ fs, H a = some (.ins C dx fs) → ∀ k : Nat, bs[k]? = some true → ∃ n b vs, fs[k]? = some (n, .ref b) ∧ B.H0 b = none ∧ F b = some (.lst vs)

/-- the heap goes on: all stays but the drawing; what was outside F stays outside -/
structure Go (B : Bs) (F H F' H' : Hp) : Prop where
  s1 : Same F F'
  s2 : Same F' H'
  nw : ∀ c, H c ≠ none → F c = none → F' c = none
  kp : ∀ c o, B.off c → H c = some o → H' c = some o
  bg : ∀ b, B.bag = some b → BagAt B.K F' H' b
  tb : LamX.Tabs B.T H'

theorem same_upd {H : Hp} {p : Addr} {o : HO} (h : H p = none) : Same H (upd H p o) := fun b u e => by
  rw [upd_ne (ne_of_none e h)]
  exact e
theorem same_updF {F H : Hp} {p : Addr} {o : HO} (s : Same F H) : Same (upd F p o) (upd H p o) := fun b u e => by
  by_cases hb : b = p
  · subst hb; rw [upd_same] at e ⊢; exact e
  · rw [upd_ne hb] at e ⊢; exact s b u e
theorem same_none {F H : Hp} {p : Addr} (s : Same F H) (h : H p = none) : F p = none := s.free h

section
variable {B : Bs} {es : List Sl} {σ : St} {F H F1 H1 F2 H2 : Hp}
theorem Bs.off_or (B : Bs) (c : Addr) : B.bag = some c ∨ (∃ p ∈ B.T, p.1 = c) ∨ B.off c := by
  by_cases h1 : B.bag = some c
  · exact .inl h1
  · by_cases h2 : ∃ p ∈ B.T, p.1 = c
    · exact .inr (.inl h2)
    · exact .inr (.inr ⟨h1, fun p hp e => h2 ⟨p, hp, e⟩⟩)
theorem Go.live (g : Go B F H F1 H1) {c : Addr} (h : H c ≠ none) : H1 c ≠ none := by
  rcases B.off_or c with hb | ⟨p, hp, e⟩ | hb
  · obtain ⟨_, vs, _, k, _⟩ := g.bg c hb
    rw [k]; simp
  · obtain ⟨ps, k, _⟩ := g.tb p hp
    rw [← e, k]; simp
  · cases e : H c with
    | none => exact absurd e h
    | some o => rw [g.kp c o hb e]; simp
/-- what functions, code objects and their tables are made of -/
def Gh : HO → Prop
  | .ext _ => True
  | .tbl _ => True
  | .tup _ => True
  | _ => False
theorem tabS_kept {P : Addr} {q : Str} (t : LamX.TabS H P q) (kp : ∀ c o, H c = some o → Gh o → H1 c = some o) : LamX.TabS H1 P q := by
  obtain ⟨ps, h1, h2, h3⟩ := t
  refine ⟨ps, kp _ _ h1 True.intro, h2, fun pos cv hc => ?_⟩
  obtain ⟨c, e1, e2⟩ := h3 pos cv hc
  exact ⟨c, e1, kp _ _ e2 True.intro⟩
theorem FnAtH.kept {f : Addr} {L : LF} (q : FnAtH H f L) (kp : ∀ c o, H c = some o → Gh o → (∀ ps, o ≠ .tbl ps) → H1 c = some o) : FnAtH H1 f L :=
  ⟨kp _ _ q.1 True.intro (fun _ z => by unfold FnL at z; cases z), kp _ _ q.2.1 True.intro (fun _ z => by unfold LamX.CodeO at z; cases z), fun t e => kp _ _ (q.2.2 t e) True.intro (fun _ z => by cases z)⟩
/-- at a something else is laid -/
theorem gh_upd {a c : Addr} {o u v : HO} (ha : H a = some u) (hu : ¬ Gh u) (h : H c = some o) (g : Gh o) : upd H a v c = some o := by
  rw [upd_ne (fun e => by rw [e, ha] at h; cases h; exact hu g)]; exact h
theorem Stt.offX (S : Stt B es σ F H) {c : Addr} {o : HO} (h : H c = some o) (h1 : ∀ xs, o ≠ .lst xs) (h2 : ∀ ps, o ≠ .tbl ps) : B.off c := by
  constructor
  · intro hb
    obtain ⟨_, vs, _, k, _⟩ := S.bg c hb
    rw [h] at k
    exact h1 _ (Option.some.inj k)
  · intro q hq e
    obtain ⟨ps, k, _⟩ := S.tb q hq
    rw [e, h] at k
    exact h2 _ (Option.some.inj k)
theorem Go.trans (a : Go B F H F1 H1) (b : Go B F1 H1 F2 H2) : Go B F H F2 H2 where
  s1 := a.s1.trans b.s1
  s2 := b.s2
  nw := fun c h1 h2 => by
    exact b.nw c (a.live h1) (a.nw c h1 h2)
  kp := fun c o h1 h2 => b.kp c o h1 (a.kp c o h1 h2)
  bg := b.bg
  tb := b.tb
theorem Stt.refl (S : Stt B es σ F H) : Go B F H F H := ⟨Same.refl F, S.sub, fun _ _ h => h, fun _ _ _ h => h, S.bg, S.tb⟩
theorem Stt.slot {i : Nat} {e : Sl} (S : Stt B es σ F H) (h : es[i]? = some e) : ∃ o, σ[i]? = some o ∧ SlOk B.K F H o e := by
  have hl : i < es.length := (List.getElem?_eq_some_iff.mp h).1
  rw [← S.len] at hl
  exact ⟨σ[i], by simp [hl], S.ok i e _ h (by simp [hl])⟩
theorem Stt.dat {i : Nat} {x : Dt} (S : Stt B es σ F H) (h : es[i]? = some (.d x)) : ∃ v, σ[i]? = some (some v) ∧ Rp B.K F v x := by
  obtain ⟨o, h1, v, rfl, h2⟩ := S.slot h
  exact ⟨v, h1, h2⟩
theorem Stt.raw {i : Nat} {v : V} (S : Stt B es σ F H) (h : es[i]? = some (.r v)) : σ[i]? = some (some v) := by
  obtain ⟨o, h1, h2⟩ := S.slot h
  rw [h1, h2]
theorem Stt.live (S : Stt B es σ F H) {c : Addr} (h : B.H0 c ≠ none) : H c ≠ none := by
  rcases B.off_or c with hb | ⟨p, hp, e⟩ | hb
  · obtain ⟨_, vs, _, k, _⟩ := S.bg c hb
    rw [k]; simp
  · obtain ⟨ps, k, _⟩ := S.tb p hp
    rw [← e, k]; simp
  · cases e : B.H0 c with
    | none => exact absurd e h
    | some o => rw [S.fr c o e hb]; simp
theorem Stt.go {F' H' : Hp} (S : Stt B es σ F H) (g : Go B F H F' H') : Stt B es σ F' H' where
  sub := g.s2
  s0 := S.s0.trans g.s1
  ou := fun c h1 h2 => g.nw c (S.live h1) (S.ou c h1 h2)
  fr := fun c o h1 h2 => g.kp c o h2 (S.fr c o h1 h2)
  bg := g.bg
  tb := g.tb
  tn := fun p hp => g.nw p.1 (by obtain ⟨ps, k, _⟩ := S.tb p hp; rw [k]; simp) (S.tn p hp)
  len := S.len
  ok := fun i e o h1 h2 => by
    have h := S.ok i e o h1 h2
    cases e with
    | no => exact h
    | any => trivial
    | d x => obtain ⟨v, k1, k2⟩ := h; exact ⟨v, k1, k2.mono g.s1⟩
    | r v => exact h
    | own a xs =>
      obtain ⟨vs, k1, k2, k3, k4⟩ := h
      exact ⟨vs, k1, g.nw a (by rw [k3]; simp) k2, g.kp a _ (S.ow i a xs h1).2 k3, k4.mono g.s1⟩
    | ob a C dx ns xs bs =>
      obtain ⟨fs, k1, k2, k3, k4, k5⟩ := h
      exact ⟨fs, k1, g.nw a (by rw [k3]; simp) k2, g.kp a _ (S.obw i a C dx ns xs bs h1).2.1 k3, k4, k5.mono g.s1⟩
    | fs a ls =>
      obtain ⟨k1, k2, k3⟩ := h
      exact ⟨k1, g.s1 _ _ k2, fun p hp => (k3 p hp).kept fun c o q h1 h2 => g.kp c o (S.offX q (fun _ z => by rw [z] at h1; exact h1) h2) q⟩
  ow := S.ow
  dis := S.dis
  obw := fun i a C dx ns xs bs h1 => by
    obtain ⟨w1, w2, w3⟩ := S.obw i a C dx ns xs bs h1
    refine ⟨w1, w2, fun fs hf k hk => ?_⟩
    obtain ⟨o, _, fs0, _, _, k3, _⟩ := S.slot h1
    have e : H a = some (.ins C dx fs) := by
      rw [g.kp a _ w2 k3] at hf
      rw [k3, hf]
    obtain ⟨n, b, vs, z1, z2, z3⟩ := w3 fs e k hk
    exact ⟨n, b, vs, z1, z2, g.s1 _ _ z3⟩
/-- nothing that stood changes -/
theorem Stt.pure {F' H' : Hp} (S : Stt B es σ F H) (s1 : Same F F') (s2 : Same F' H') (hn : ∀ c, H c ≠ none → F c = none → F' c = none) (s3 : Same H H') : Go B F H F' H' :=
  ⟨s1, s2, hn, fun c o _ h => s3 c o h, fun b hb => by
    obtain ⟨h1, vs, xs, h2, h3, h4⟩ := S.bg b hb
    exact ⟨hn b (by rw [h2]; simp) h1, vs, xs, s3 _ _ h2, h3.mono s1, h4⟩, S.tb.ext s3⟩
/-- a new object, known as a datum -/
theorem Stt.alloc {p : Addr} {o : HO} (S : Stt B es σ F H) (h : H p = none) : Go B F H (upd F p o) (upd H p o) :=
  S.pure (same_upd (same_none S.sub h)) (same_updF S.sub) (fun c hc hf => by
    rw [upd_ne (fun e => hc (by rw [e]; exact h))]
    exact hf) (same_upd h)
/-- a new object that is not yet known as a datum -/
theorem Stt.allocO {p : Addr} {o : HO} (S : Stt B es σ F H) (h : H p = none) : Go B F H F (upd H p o) :=
  S.pure (Same.refl F) (S.sub.trans (same_upd h)) (fun _ _ hf => hf) (same_upd h)
theorem Stt.new0 {p : Addr} (S : Stt B es σ F H) (h : H p = none) : B.H0 p = none := by
  cases e : B.H0 p with
  | none => rfl
  | some o => exact absurd h (S.live (by rw [e]; simp))
theorem Stt.newB {p : Addr} (S : Stt B es σ F H) (h : H p = none) : B.off p := by
  constructor
  · intro hb
    obtain ⟨_, vs, _, k, _⟩ := S.bg p hb
    rw [h] at k
    cases k
  · intro q hq e
    obtain ⟨ps, k, _⟩ := S.tb q hq
    rw [e, h] at k
    cases k
theorem Stt.newS {p a : Addr} (S : Stt B es σ F H) (h : H p = none) (i : Nat) (ys : List Dt) (hi : es[i]? = some (.own a ys)) : a ≠ p := fun hs => by
  obtain ⟨o, _, ws, z1, z2, z3, z4⟩ := S.slot hi
  rw [hs, h] at z3; cases z3
end

/-! ### what an expression gives: backwards, from what is wanted of its datum -/
def Ev (B : Bs) (te : TE) (es : List Sl) (P : Dt → Prop) : Prop := ∀ σ F H, Stt B es σ F H → ∀ Q : VK,
  (∀ v d F' H', Go B F H F' H' → Rp B.K F' v d → P d → Q v H') → te σ H Q
def EvT (B : Bs) (tt : TT) (es : List Sl) (P : Bool → Prop) : Prop := ∀ σ F H, Stt B es σ F H → ∀ Q : Bool → Hp → Prop,
  (∀ b F' H', Go B F H F' H' → P b → Q b H') → tt σ H Q
def EvA (B : Bs) (ta : TA) (es : List Sl) (P : List Dt → Prop) : Prop := ∀ σ F H, Stt B es σ F H → ∀ Q : List V → Hp → Prop,
  (∀ vs ds F' H', Go B F H F' H' → RpAll B.K F' vs ds → P ds → Q vs H') → ta σ H Q
def EvO (B : Bs) (te : TE) (es : List Sl) (P : List Dt → Prop) : Prop := ∀ σ F H, Stt B es σ F H → ∀ Q : VK,
  (∀ a vs xs F' H', Go B F H F' H' → H a = none → F' a = none → H' a = some (.lst vs) → RpAll B.K F' vs xs → P xs → Q (.ref a) H') → te σ H Q

section
variable {B : Bs} {es : List Sl} {σ : St} {F H : Hp}
theorem Ev.imp {te : TE} {P P' : Dt → Prop} (h : Ev B te es P) (hp : ∀ d, P d → P' d) : Ev B te es P' := fun σ F H S Q q => h σ F H S Q fun v d F' H' a b c => q v d F' H' a b (hp d c)
theorem EvT.imp {te : TT} {P P' : Bool → Prop} (h : EvT B te es P) (hp : ∀ d, P d → P' d) : EvT B te es P' := fun σ F H S Q q => h σ F H S Q fun d F' H' a b => q d F' H' a (hp d b)
theorem EvO.imp {te : TE} {P P' : List Dt → Prop} (h : EvO B te es P) (hp : ∀ d, P d → P' d) : EvO B te es P' := fun σ F H S Q q => h σ F H S Q fun a vs d F' H' g n f l r c => q a vs d F' H' g n f l r (hp d c)
theorem EvA.imp {te : TA} {P P' : List Dt → Prop} (h : EvA B te es P) (hp : ∀ d, P d → P' d) : EvA B te es P' := fun σ F H S Q q => h σ F H S Q fun v d F' H' a b c => q v d F' H' a b (hp d c)
/-- a new list at a, outside what is known, becomes known -/
theorem Go.freeze {F' H' : Hp} {a : Addr} {vs : List V} (g : Go B F H F' H') (S : Stt B es σ F H) (h0 : H a = none) (h1 : F' a = none) (h2 : H' a = some (.lst vs)) : Go B F H (upd F' a (.lst vs)) H' where
  s1 := g.s1.trans (same_upd h1)
  s2 := fun c o e => by
    by_cases hc : c = a
    · subst hc; rw [upd_same] at e; rw [h2, e]
    · rw [upd_ne hc] at e; exact g.s2 c o e
  nw := fun c hc hf => by
    rw [upd_ne (fun e => hc (by rw [e]; exact h0))]
    exact g.nw c hc hf
  kp := g.kp
  bg := fun b hb => by
    obtain ⟨k1, ws, ys, k2, k3, k4⟩ := g.bg b hb
    have hba : b ≠ a := fun q => (S.newB h0).1 (by rw [hb, q])
    exact ⟨by rw [upd_ne hba]; exact k1, ws, ys, k2, k3.mono (same_upd h1), k4⟩
  tb := g.tb
theorem EvO.ev {te : TE} {P : Dt → Prop} (h : EvO B te es fun xs => P (.lst xs)) : Ev B te es P := fun σ F H S Q q =>
  h σ F H S Q fun a vs xs F' H' g h0 h1 h2 r p => q (.ref a) (.lst xs) (upd F' a (.lst vs)) H' (g.freeze S h0 h1 h2) (.lst upd_same (r.mono (same_upd h1))) p
theorem ev_var {i : Nat} {x : Dt} {P : Dt → Prop} (h : es[i]? = some (.d x)) (hp : P x) : Ev B (tVar i) es P := fun σ F H S Q q => by
  obtain ⟨v, h1, h2⟩ := S.dat h
  exact ⟨v, h1, q v x F H S.refl h2 hp⟩
/-- a list of one's own that is not changed any more in this expression: read as a datum of a copy -/
theorem ev_int {i : Int} {P : Dt → Prop} (hp : P (.int i)) : Ev B (tC (.int i)) es P := fun σ F H S Q q => q _ _ F H S.refl (.int i) hp
theorem ev_str {i : Str} {P : Dt → Prop} (hp : P (.str i)) : Ev B (tC (.str i)) es P := fun σ F H S Q q => q _ _ F H S.refl (.str i) hp
theorem ev_bl {i : Bool} {P : Dt → Prop} (hp : P (.bl i)) : Ev B (tC (.bl i)) es P := fun σ F H S Q q => q _ _ F H S.refl (.bl i) hp
theorem ev_non {P : Dt → Prop} (hp : P .non) : Ev B (tC .non) es P := fun σ F H S Q q => q _ _ F H S.refl .non hp
/-- a datum of the written part -/
def KD (K : PySem.W.Frag) (v : V) (d : Dt) : Prop := ∀ F, Rp K F v d
theorem ev_k {v : V} {d : Dt} {P : Dt → Prop} (k : KD B.K v d) (hp : P d) : Ev B (tC v) es P := fun σ F H S Q q => q _ _ F H S.refl (k F) hp
theorem ea_nil {P : List Dt → Prop} (hp : P []) : EvA B tNil es P := fun σ F H S Q q => q _ _ F H S.refl .nil hp
theorem ea_cons {te : TE} {tr : TA} {P : List Dt → Prop} (h : Ev B te es fun d => EvA B tr es fun ds => P (d :: ds)) : EvA B (tCons te tr) es P := fun σ F H S Q q =>
  h σ F H S _ fun v d F1 H1 g1 r1 p1 => p1 σ F1 H1 (S.go g1) _ fun vs ds F2 H2 g2 r2 p2 => q _ _ F2 H2 (g1.trans g2) (.cons (r1.mono g2.s1) r2) p2
theorem size_of {n : Nat} (h : n ≤ 100000) : n ≤ sizeLine := Nat.le_trans h (by decide)
theorem size_lt {n : Nat} (h : n < 100000) : n < sizeLine := Nat.lt_of_lt_of_le h (by decide)
theorem eo_lst {ta : TA} {P : List Dt → Prop} (h : EvA B ta es fun ds => ds.length ≤ 100000 ∧ P ds) : EvO B (tLst ta) es P := fun σ F H S Q q =>
  h σ F H S _ fun vs ds F1 H1 g1 r1 p1 => ⟨size_of (by rw [r1.length]; exact p1.1), fun p hp => by
    have S1 := S.go g1
    have h0 : H p = none := by
      cases e : H p with
      | none => rfl
      | some o => have := g1.kp p o (S1.newB hp) e; rw [hp] at this; cases this
    exact q p vs ds F1 (upd H1 p (.lst vs)) (g1.trans (S1.allocO hp)) h0 (same_none S1.sub hp) upd_same r1 p1.2⟩
theorem ev_lst {ta : TA} {P : Dt → Prop} (h : EvA B ta es fun ds => ds.length ≤ 100000 ∧ P (.lst ds)) : Ev B (tLst ta) es P := (eo_lst (P := fun ds => P (.lst ds)) h).ev
theorem ev_tup {ta : TA} {P : Dt → Prop} (h : EvA B ta es fun ds => ds.length ≤ 100000 ∧ P (.tup ds)) : Ev B (tTup ta) es P := fun σ F H S Q q =>
  h σ F H S _ fun vs ds F1 H1 g1 r1 p1 => ⟨size_of (by rw [r1.length]; exact p1.1), fun p hp => by
    have S1 := S.go g1
    have hF : F1 p = none := same_none S1.sub hp
    exact q (.ref p) (.tup ds) (upd F1 p (.tup vs)) (upd H1 p (.tup vs)) (g1.trans (S1.alloc hp)) (.tup (SqT.of upd_same) (r1.mono (same_upd hF))) p1.2⟩
theorem Go.new {F' H' : Hp} {p : Addr} (g : Go B F H F' H') (hb : B.off p) (h : H' p = none) : H p = none := by
  cases e : H p with
  | none => rfl
  | some o => have := g.kp p o hb e; rw [h] at this; cases this
end
end Y
/-! Y2: operators, tests, calls, statements, loops over data. -/
namespace Y
open PySem L2

section
variable {B : Bs} {es : List Sl}

/-! ### alternatives: one rule or another -/
theorem pe_alt {X : Cx} {e : Expr} {t u : TE} (h1 : PE X e t) (h2 : PE X e u) : PE X e (fun σ H Q => t σ H Q ∨ u σ H Q) :=
  ⟨fun pins s σ H Q I h => h.elim (h1.run pins s σ H Q I) (h2.run pins s σ H Q I)⟩
theorem pi_alt {X : Cx} {tg e : Expr} {t u : TI} (h1 : PI X tg e t) (h2 : PI X tg e u) : PI X tg e (fun σ H Q => t σ H Q ∨ u σ H Q) :=
  ⟨fun pins s σ H Q I h => h.elim (h1.run pins s σ H Q I) (h2.run pins s σ H Q I)⟩
def rAlt (r q : R2) : R2 := fun x y H Q => r x y H Q ∨ q x y H Q
theorem op_alt {X : Cx} {f : Value → Value → Sem Value} {r q : R2} (h1 : OpR X f r) (h2 : OpR X f q) : OpR X f (rAlt r q) := fun pins s σ H x y u v Q I rx ry h =>
  h.elim (h1 pins s σ H x y u v Q I rx ry) (h2 pins s σ H x y u v Q I rx ry)
def cAlt (r q : List V → Hp → VK → Prop) : List V → Hp → VK → Prop := fun xs H Q => r xs H Q ∨ q xs H Q
theorem call_alt {X : Cx} {f : Value} {r q : List V → Hp → VK → Prop} (h1 : CallR X f r) (h2 : CallR X f q) : CallR X f (cAlt r q) := fun pins s σ H xs us Q I rx h =>
  h.elim (h1 pins s σ H xs us Q I rx) (h2 pins s σ H xs us Q I rx)

/-! ### a two-place operation -/
def Op2 (B : Bs) (r : R2) (es : List Sl) (x y : Dt) (P : Dt → Prop) : Prop := ∀ σ F H v w, Stt B es σ F H → Rp B.K F v x → Rp B.K F w y → ∀ Q : VK,
  (∀ v d F' H', Go B F H F' H' → Rp B.K F' v d → P d → Q v H') → r v w H Q
theorem ev_op {r : R2} {ta tb : TE} {P : Dt → Prop} (h : Ev B ta es fun x => Ev B tb es fun y => Op2 B r es x y P) : Ev B (tOp r ta tb) es P := fun σ F H S Q q =>
  h σ F H S _ fun v x F1 H1 g1 r1 p1 => p1 σ F1 H1 (S.go g1) _ fun w y F2 H2 g2 r2 p2 => p2 σ F2 H2 v w ((S.go g1).go g2) (r1.mono g2.s1) r2 Q fun u d F3 H3 g3 r3 p3 => q u d F3 H3 ((g1.trans g2).trans g3) r3 p3
theorem o_altL {r q : R2} {x y : Dt} {P : Dt → Prop} (h : Op2 B r es x y P) : Op2 B (rAlt r q) es x y P := fun σ F H v w S a b Q k => .inl (h σ F H v w S a b Q k)
theorem o_altR {r q : R2} {x y : Dt} {P : Dt → Prop} (h : Op2 B q es x y P) : Op2 B (rAlt r q) es x y P := fun σ F H v w S a b Q k => .inr (h σ F H v w S a b Q k)
theorem o_i0 {g : Int → Int → Int} {i j : Int} {P : Dt → Prop} (hp : P (.int (g i j))) : Op2 B (rI0 fun i j => .int (g i j)) es (.int i) (.int j) P := fun σ F H v w S a b Q k => by
  cases a; cases b; exact ⟨i, j, rfl, rfl, k _ _ F H S.refl (.int _) hp⟩
theorem o_b0 {g : Int → Int → Bool} {i j : Int} {P : Dt → Prop} (hp : P (.bl (g i j))) : Op2 B (rI0 fun i j => .bl (g i j)) es (.int i) (.int j) P := fun σ F H v w S a b Q k => by
  cases a; cases b; exact ⟨i, j, rfl, rfl, k _ _ F H S.refl (.bl _) hp⟩
theorem o_i {C : Int → Int → Prop} {g : Int → Int → Int} {i j : Int} {P : Dt → Prop} (hc : C i j) (hp : P (.int (g i j))) : Op2 B (rI C fun i j => .int (g i j)) es (.int i) (.int j) P := fun σ F H v w S a b Q k => by
  cases a; cases b; exact ⟨i, j, rfl, rfl, hc, k _ _ F H S.refl (.int _) hp⟩
/-- == and != of scalars (no bool beside an int) -/
def dScal : Dt → Dt → Bool
  | .non, .non => true | .non, .int _ => true | .int _, .non => true | .non, .bl _ => true | .bl _, .non => true | .non, .str _ => true | .str _, .non => true
  | .int _, .int _ => true | .bl _, .bl _ => true | .str _, .str _ => true
  | .int _, .str _ => true | .str _, .int _ => true | .bl _, .str _ => true | .str _, .bl _ => true
  | _, _ => false
def dEq : Dt → Dt → Bool
  | .non, .non => true
  | .int i, .int j => decide (i = j)
  | .bl i, .bl j => decide (i = j)
  | .str i, .str j => decide (i = j)
  | _, _ => false
theorem scal_of {K : PySem.W.Frag} {F : Hp} {v w : V} {x y : Dt} (a : Rp K F v x) (b : Rp K F w y) (h : dScal x y = true) : scal v w = true ∧ decide (v = w) = dEq x y := by
  cases a <;> cases b <;> first | (cases h; done) | (refine ⟨rfl, ?_⟩; first | rfl | (simp [dEq]; done))
theorem o_eq {x y : Dt} {P : Dt → Prop} (hs : dScal x y = true) (hp : P (.bl (dEq x y))) : Op2 B rEq es x y P := fun σ F H v w S a b Q k => by
  obtain ⟨h1, h2⟩ := scal_of a b hs
  refine ⟨h1, ?_⟩
  rw [h2]
  exact k _ _ F H S.refl (.bl _) hp
theorem o_ne {x y : Dt} {P : Dt → Prop} (hs : dScal x y = true) (hp : P (.bl (!dEq x y))) : Op2 B rNe es x y P := fun σ F H v w S a b Q k => by
  obtain ⟨h1, h2⟩ := scal_of a b hs
  refine ⟨h1, ?_⟩
  rw [h2]
  exact k _ _ F H S.refl (.bl _) hp
/-- is None -/
def dNon : Dt → Bool
  | .non => true
  | _ => false
theorem non_of {K : PySem.W.Frag} {F : Hp} {v : V} {x : Dt} (a : Rp K F v x) : decide (v = V.non) = dNon x := by
  cases a <;> rfl
theorem o_isN {x : Dt} {P : Dt → Prop} (hp : P (.bl (dNon x))) : Op2 B (fun x y H Q => y = .non ∧ Q (.bl (decide (x = .non))) H) es x .non P := fun σ F H v w S a b Q k => by
  cases b
  refine ⟨rfl, ?_⟩
  rw [non_of a]
  exact k _ _ F H S.refl (.bl _) hp
theorem o_notN {x : Dt} {P : Dt → Prop} (hp : P (.bl (!dNon x))) : Op2 B (fun x y H Q => y = .non ∧ Q (.bl (!decide (x = .non))) H) es x .non P := fun σ F H v w S a b Q k => by
  cases b
  refine ⟨rfl, ?_⟩
  rw [non_of a]
  exact k _ _ F H S.refl (.bl _) hp
/-- x in (a, b, ..): flat things -/
def flatD : Dt → Bool
  | .non => true | .bl _ => true | .int _ => true | .str _ => true
  | _ => false
def eqD : Dt → Dt → Bool
  | .non, .non => true
  | .bl a, .bl b => a == b
  | .bl a, .int b => (if a then 1 else 0) == b
  | .int a, .bl b => a == (if b then 1 else 0)
  | .int a, .int b => a == b
  | .str a, .str b => a == b
  | _, _ => false
def inD (x : Dt) (ys : List Dt) : Bool := ys.any fun y => eqD y x
theorem flat_of {K : PySem.W.Frag} {F : Hp} {v : V} {x : Dt} (a : Rp K F v x) : flatV v = flatD x := by cases a <;> rfl
theorem eq_of {K : PySem.W.Frag} {F : Hp} {v w : V} {x y : Dt} (a : Rp K F v x) (b : Rp K F w y) (hx : flatD x = true) (hy : flatD y = true) : eqV v w = eqD x y := by
  cases a <;> cases b <;> first | rfl | (cases hx; done) | (cases hy; done)
theorem in_of {K : PySem.W.Frag} {F : Hp} {v : V} {x : Dt} (a : Rp K F v x) (hx : flatD x = true) : ∀ {ws : List V} {ys : List Dt}, RpAll K F ws ys → ys.all flatD = true → inV v ws = inD x ys ∧ ws.all flatV = true
  | _, _, .nil, _ => ⟨rfl, rfl⟩
  | _, _, .cons r t, h => by
    simp only [List.all_cons, Bool.and_eq_true] at h
    obtain ⟨h1, h2⟩ := in_of a hx t h.2
    refine ⟨?_, ?_⟩
    · unfold inV inD at *
      rw [List.any_cons, List.any_cons, h1, eq_of r a h.1 hx]
    · rw [List.all_cons, h2, flat_of r, h.1]; rfl
theorem o_inL {x : Dt} {ys : List Dt} {neg : Bool} {P : Dt → Prop} (hx : flatD x = true) (hy : ys.all flatD = true) (hp : P (.bl (if neg then !inD x ys else inD x ys))) : Op2 B (rIn B.K neg) es x (.lst ys) P := fun σ F H v w S a b Q k => by
  cases b with
  | lst hl hr =>
    obtain ⟨h1, h2⟩ := in_of a hx hr hy
    refine ⟨_, _, rfl, .inl (SqL.of (S.sub _ _ hl)), by rw [flat_of a]; exact hx, h2, ?_⟩
    rw [h1]
    exact k _ _ F H S.refl (.bl _) hp
theorem o_inT {x : Dt} {ys : List Dt} {neg : Bool} {P : Dt → Prop} (hx : flatD x = true) (hy : ys.all flatD = true) (hp : P (.bl (if neg then !inD x ys else inD x ys))) : Op2 B (rIn B.K neg) es x (.tup ys) P := fun σ F H v w S a b Q k => by
  cases b with
  | tup hl hr =>
    obtain ⟨h1, h2⟩ := in_of a hx hr hy
    refine ⟨_, _, rfl, .inr (sqT_mono S.sub hl), by rw [flat_of a]; exact hx, h2, ?_⟩
    rw [h1]
    exact k _ _ F H S.refl (.bl _) hp
/-- one sign in a text -/
theorem o_inS {c : Nat} {z : Str} {P : Dt → Prop} (hp : P (.bl (decide (c ∈ z.cps.toList)))) : Op2 B (fun x y H Q => ∃ (c : Nat) (z : Str), x = .str ⟨#[c]⟩ ∧ y = .str z ∧ Q (.bl (decide (c ∈ z.cps.toList))) H) es (.str ⟨#[c]⟩) (.str z) P := fun σ F H v w S a b Q k => by
  cases a; cases b; exact ⟨c, z, rfl, rfl, k _ _ F H S.refl (.bl _) hp⟩
theorem o_niS {c : Nat} {z : Str} {P : Dt → Prop} (hp : P (.bl (!decide (c ∈ z.cps.toList)))) : Op2 B (fun x y H Q => ∃ (c : Nat) (z : Str), x = .str ⟨#[c]⟩ ∧ y = .str z ∧ Q (.bl (!decide (c ∈ z.cps.toList))) H) es (.str ⟨#[c]⟩) (.str z) P := fun σ F H v w S a b Q k => by
  cases a; cases b; exact ⟨c, z, rfl, rfl, k _ _ F H S.refl (.bl _) hp⟩
/-- items -/
theorem o_ixL {xs : List Dt} {i : Int} {x : Dt} {P : Dt → Prop} (hi : atI xs i = some x) (hp : P x) : Op2 B (rIxL B.K) es (.lst xs) (.int i) P := fun σ F H v w S a b Q k => by
  cases b
  cases a with
  | lst hl hr =>
    unfold atI at hi
    cases e : ixN xs.length i with
    | none => rw [e] at hi; cases hi
    | some j =>
      rw [e] at hi
      obtain ⟨u, h1, h2⟩ := hr.get (show xs[j]? = some x from hi)
      refine ⟨_, _, i, u, rfl, rfl, SqL.of (S.sub _ _ hl), ?_, k _ _ F H S.refl h2 hp⟩
      unfold atI
      rw [hr.length, e]
      exact h1
theorem o_ixT {xs : List Dt} {i : Int} {x : Dt} {P : Dt → Prop} (hi : atI xs i = some x) (hp : P x) : Op2 B (rIxT B.K) es (.tup xs) (.int i) P := fun σ F H v w S a b Q k => by
  cases b
  cases a with
  | tup hl hr =>
    unfold atI at hi
    cases e : ixN xs.length i with
    | none => rw [e] at hi; cases hi
    | some j =>
      rw [e] at hi
      obtain ⟨u, h1, h2⟩ := hr.get (show xs[j]? = some x from hi)
      refine ⟨_, _, i, u, rfl, rfl, sqT_mono S.sub hl, ?_, k _ _ F H S.refl h2 hp⟩
      unfold atI
      rw [hr.length, e]
      exact h1
theorem o_ixS {z : Str} {i : Int} {c : Nat} {P : Dt → Prop} (hl : z.length ≤ 100000) (hi : atI z.cps.toList i = some c) (hp : P (.str ⟨#[c]⟩)) : Op2 B rIxS es (.str z) (.int i) P := fun σ F H v w S a b Q k => by
  cases b; cases a; exact ⟨z, i, c, rfl, rfl, size_of hl, hi, k _ _ F H S.refl (.str _) hp⟩
theorem o_ixAL {xs : List Dt} {i : Int} {x : Dt} {P : Dt → Prop} (hi : atI xs i = some x) (hp : P x) : Op2 B (rIx B.K) es (.lst xs) (.int i) P := fun σ F H v w S a b Q k => .inl (o_ixL hi hp σ F H v w S a b Q k)
theorem o_ixAT {xs : List Dt} {i : Int} {x : Dt} {P : Dt → Prop} (hi : atI xs i = some x) (hp : P x) : Op2 B (rIx B.K) es (.tup xs) (.int i) P := fun σ F H v w S a b Q k => .inr (.inl (o_ixT hi hp σ F H v w S a b Q k))
theorem o_ixAS {z : Str} {i : Int} {c : Nat} {P : Dt → Prop} (hl : z.length ≤ 100000) (hi : atI z.cps.toList i = some c) (hp : P (.str ⟨#[c]⟩)) : Op2 B (rIx B.K) es (.str z) (.int i) P := fun σ F H v w S a b Q k => .inr (.inr (o_ixS hl hi hp σ F H v w S a b Q k))
/-- xs + ys; s + t -/
theorem o_catO {r : R2} (hr : r = rCat) {xs ys : List Dt} {σ : St} {F H : Hp} {v w : V} (S : Stt B es σ F H) (a : Rp B.K F v (.lst xs)) (b : Rp B.K F w (.lst ys)) (hl : xs.length + ys.length ≤ 100000) {Q : VK}
    (k : ∀ a vs F' H', Go B F H F' H' → H a = none → F' a = none → H' a = some (.lst vs) → RpAll B.K F' vs (xs ++ ys) → Q (.ref a) H') : r v w H Q := by
  subst hr
  cases a with
  | lst h1 r1 =>
    cases b with
    | lst h2 r2 =>
      refine ⟨_, _, _, _, rfl, rfl, S.sub _ _ h1, S.sub _ _ h2, size_of (by rw [r1.length, r2.length]; exact hl), fun p hp => ?_⟩
      exact k p _ F _ (S.allocO hp) hp (same_none S.sub hp) upd_same (r1.app r2)
theorem o_cat {xs ys : List Dt} {P : Dt → Prop} (hl : xs.length + ys.length ≤ 100000) (hp : P (.lst (xs ++ ys))) : Op2 B rCat es (.lst xs) (.lst ys) P := fun σ F H v w S a b Q k =>
  o_catO rfl S a b hl fun p vs F' H' g h0 h1 h2 r => k _ _ (upd F' p (.lst vs)) H' (g.freeze S h0 h1 h2) (.lst upd_same (r.mono (same_upd h1))) hp
theorem o_catS {x y : Str} {P : Dt → Prop} (hl : x.length + y.length ≤ 100000) (hp : P (.str (x ++ y))) : Op2 B (fun x y H Q => ∃ i j, x = .str i ∧ y = .str j ∧ i.length + j.length ≤ sizeLine ∧ Q (.str (i ++ j)) H) es (.str x) (.str y) P := fun σ F H v w S a b Q k => by
  cases a; cases b; exact ⟨x, y, rfl, rfl, size_of hl, k _ _ F H S.refl (.str _) hp⟩
/-- a one-place operation -/
theorem ev_neg {ta : TE} {P : Dt → Prop} (h : Ev B ta es fun x => ∃ i, x = .int i ∧ P (.int (-i))) : Ev B (tUn (rU fun i => .int (-i)) ta) es P := fun σ F H S Q q =>
  h σ F H S _ fun v x F1 H1 g1 r1 ⟨i, e, p1⟩ => by
    subst e
    cases r1
    exact ⟨i, rfl, q _ _ F1 H1 g1 (.int _) p1⟩

/-! ### tests -/
theorem et_B {te : TE} {P : Bool → Prop} (h : Ev B te es fun d => ∃ b, d = .bl b ∧ P b) : EvT B (tB te) es P := fun σ F H S Q q =>
  h σ F H S _ fun v x F1 H1 g1 r1 ⟨b, e, p1⟩ => by subst e; cases r1; exact ⟨b, rfl, q b F1 H1 g1 p1⟩
theorem et_test {te : TE} {P : Bool → Prop} (h : Ev B te es fun d => ∃ b, d = .bl b ∧ P b) : EvT B (tTest te) es P := fun σ F H S Q q =>
  h σ F H S _ fun v x F1 H1 g1 r1 ⟨b, e, p1⟩ => by subst e; cases r1; exact ⟨b, rfl, q b F1 H1 g1 p1⟩
theorem et_not {t : TT} {P : Bool → Prop} (h : EvT B t es fun b => P (!b)) : EvT B (tNot t) es P := fun σ F H S Q q => h σ F H S _ fun b F1 H1 g1 p1 => q _ F1 H1 g1 p1
theorem et_and {t u : TT} {P : Bool → Prop} (h : EvT B t es fun b => (b = true → EvT B u es P) ∧ (b = false → P false)) : EvT B (tAnd t u) es P := fun σ F H S Q q => h σ F H S _ fun b F1 H1 g1 p1 => by
  cases b with
  | true =>
    show u σ H1 Q
    exact p1.1 rfl σ F1 H1 (S.go g1) Q fun c F2 H2 g2 p2 => q c F2 H2 (g1.trans g2) p2
  | false =>
    show Q false H1
    exact q false F1 H1 g1 (p1.2 rfl)
theorem et_or {t u : TT} {P : Bool → Prop} (h : EvT B t es fun b => (b = true → P true) ∧ (b = false → EvT B u es P)) : EvT B (tOr t u) es P := fun σ F H S Q q => h σ F H S _ fun b F1 H1 g1 p1 => by
  cases b with
  | false =>
    show u σ H1 Q
    exact p1.2 rfl σ F1 H1 (S.go g1) Q fun c F2 H2 g2 p2 => q c F2 H2 (g1.trans g2) p2
  | true =>
    show Q true H1
    exact q true F1 H1 g1 (p1.1 rfl)
theorem ev_and {ta tb : TE} {P : Dt → Prop} (h : Ev B ta es fun d => ∃ b, d = .bl b ∧ (b = true → Ev B tb es P) ∧ (b = false → P (.bl false))) : Ev B (tAndV ta tb) es P := fun σ F H S Q q => h σ F H S _ fun v d F1 H1 g1 r1 ⟨b, e, p1⟩ => by
  subst e
  cases r1
  refine ⟨b, rfl, ?_⟩
  cases b with
  | true =>
    show tb σ H1 Q
    exact p1.1 rfl σ F1 H1 (S.go g1) Q fun w c F2 H2 g2 r2 p2 => q w c F2 H2 (g1.trans g2) r2 p2
  | false =>
    show Q (.bl false) H1
    exact q _ _ F1 H1 g1 (.bl false) (p1.2 rfl)
theorem ev_or {ta tb : TE} {P : Dt → Prop} (h : Ev B ta es fun d => ∃ b, d = .bl b ∧ (b = true → P (.bl true)) ∧ (b = false → Ev B tb es P)) : Ev B (tOrV ta tb) es P := fun σ F H S Q q => h σ F H S _ fun v d F1 H1 g1 r1 ⟨b, e, p1⟩ => by
  subst e
  cases r1
  refine ⟨b, rfl, ?_⟩
  cases b with
  | false =>
    show tb σ H1 Q
    exact p1.2 rfl σ F1 H1 (S.go g1) Q fun w c F2 H2 g2 r2 p2 => q w c F2 H2 (g1.trans g2) r2 p2
  | true =>
    show Q (.bl true) H1
    exact q _ _ F1 H1 g1 (.bl true) (p1.1 rfl)
theorem ev_not {ta : TE} {P : Dt → Prop} (h : Ev B ta es fun d => ∃ b, d = .bl b ∧ P (.bl (!b))) : Ev B (tNotV ta) es P := fun σ F H S Q q => h σ F H S _ fun v d F1 H1 g1 r1 ⟨b, e, p1⟩ => by
  subst e; cases r1; exact ⟨b, rfl, q _ _ F1 H1 g1 (.bl _) p1⟩
theorem ev_if {t : TT} {ta tb : TE} {P : Dt → Prop} (h : EvT B t es fun b => (b = true → Ev B ta es P) ∧ (b = false → Ev B tb es P)) : Ev B (tIf t ta tb) es P := fun σ F H S Q q => h σ F H S _ fun b F1 H1 g1 p1 => by
  cases b with
  | true =>
    show ta σ H1 Q
    exact p1.1 rfl σ F1 H1 (S.go g1) Q fun w c F2 H2 g2 r2 p2 => q w c F2 H2 (g1.trans g2) r2 p2
  | false =>
    show tb σ H1 Q
    exact p1.2 rfl σ F1 H1 (S.go g1) Q fun w c F2 H2 g2 r2 p2 => q w c F2 H2 (g1.trans g2) r2 p2
theorem ev_chain {r r' : R2} {ta tb tc : TE} {P : Dt → Prop} (h : Ev B ta es fun x => Ev B tb es fun y => Op2 B r es x y fun z => ∃ k, z = .bl k ∧ (k = true → Ev B tc es fun w => Op2 B r' es y w P) ∧ (k = false → P (.bl false))) : Ev B (tChain r r' ta tb tc) es P := fun σ F H S Q q =>
  h σ F H S _ fun v x F1 H1 g1 r1 p1 => p1 σ F1 H1 (S.go g1) _ fun w y F2 H2 g2 r2 p2 => p2 σ F2 H2 v w ((S.go g1).go g2) (r1.mono g2.s1) r2 _ fun u z F3 H3 g3 r3 ⟨b, e, p3⟩ => by
    subst e
    cases r3
    refine ⟨b, rfl, ?_⟩
    have S3 := ((S.go g1).go g2).go g3
    cases b with
    | true =>
      show tc σ H3 _
      exact p3.1 rfl σ F3 H3 S3 _ fun a d F4 H4 g4 r4 p4 => p4 σ F4 H4 w a (S3.go g4) (r2.mono (g3.s1.trans g4.s1)) r4 Q fun b' d' F5 H5 g5 r5 p5 => q b' d' F5 H5 ((((g1.trans g2).trans g3).trans g4).trans g5) r5 p5
    | false =>
      show Q (.bl false) H3
      exact q _ _ F3 H3 ((g1.trans g2).trans g3) (.bl false) (p3.2 rfl)

/-! ### calls of built-ins -/
def Cal (B : Bs) (r : List V → Hp → VK → Prop) (es : List Sl) (ds : List Dt) (P : Dt → Prop) : Prop := ∀ σ F H vs, Stt B es σ F H → RpAll B.K F vs ds → ∀ Q : VK,
  (∀ v d F' H', Go B F H F' H' → Rp B.K F' v d → P d → Q v H') → r vs H Q
theorem ev_cb {r : List V → Hp → VK → Prop} {ta : TA} {P : Dt → Prop} (h : EvA B ta es fun ds => Cal B r es ds P) : Ev B (tCB r ta) es P := fun σ F H S Q q =>
  h σ F H S _ fun vs ds F1 H1 g1 r1 p1 => p1 σ F1 H1 vs (S.go g1) r1 Q fun v d F2 H2 g2 r2 p2 => q v d F2 H2 (g1.trans g2) r2 p2
theorem c_altL {r q : List V → Hp → VK → Prop} {ds : List Dt} {P : Dt → Prop} (h : Cal B r es ds P) : Cal B (cAlt r q) es ds P := fun σ F H vs S a Q k => .inl (h σ F H vs S a Q k)
theorem c_altR {r q : List V → Hp → VK → Prop} {ds : List Dt} {P : Dt → Prop} (h : Cal B q es ds P) : Cal B (cAlt r q) es ds P := fun σ F H vs S a Q k => .inr (h σ F H vs S a Q k)
theorem rp1 {K : PySem.W.Frag} {F : Hp} {vs : List V} {d : Dt} (h : RpAll K F vs [d]) : ∃ v, vs = [v] ∧ Rp K F v d := by
  cases h with
  | cons r t => cases t; exact ⟨_, rfl, r⟩
theorem rp2 {K : PySem.W.Frag} {F : Hp} {vs : List V} {d e : Dt} (h : RpAll K F vs [d, e]) : ∃ v w, vs = [v, w] ∧ Rp K F v d ∧ Rp K F w e := by
  cases h with
  | cons r t =>
    obtain ⟨w, rfl, q⟩ := rp1 t
    exact ⟨_, _, rfl, r, q⟩
/-- len -/
def lenD : Dt → Option Nat
  | .str z => if z.length ≤ 100000 then some z.length else none
  | .lst xs => some xs.length
  | .tup xs => some xs.length
  | _ => none
def rLenA (K : PySem.W.Frag) : List V → Hp → VK → Prop := fun xs H Q => ∃ x n, xs = [x] ∧ LenV K x H n ∧ Q (.int n) H
theorem c_len {x : Dt} {n : Nat} {P : Dt → Prop} (hn : lenD x = some n) (hp : P (.int n)) : Cal B (rLenA B.K) es [x] P := fun σ F H vs S a Q k => by
  obtain ⟨v, rfl, r⟩ := rp1 a
  refine ⟨v, n, rfl, ?_, k _ _ F H S.refl (.int _) hp⟩
  cases r with
  | str z =>
    have hn' : (if z.length ≤ 100000 then some z.length else none) = some n := hn
    split at hn'
    · cases hn'; exact ⟨size_of (by assumption), rfl⟩
    · cases hn'
  | lst h1 h2 => cases hn; exact .inl ⟨_, SqL.of (S.sub _ _ h1), h2.length.symm⟩
  | tup h1 h2 => cases hn; exact .inr ⟨_, sqT_mono S.sub h1, h2.length.symm⟩
  | _ => cases hn
theorem c_int {i : Int} {P : Dt → Prop} (hp : P (.int i)) : Cal B (fun xs H Q => (∃ i, xs = [.int i] ∧ Q (.int i) H) ∨ ∃ k, xs = [.bl k] ∧ Q (.int (if k then 1 else 0)) H) es [.int i] P := fun σ F H vs S a Q k => by
  obtain ⟨v, rfl, r⟩ := rp1 a
  cases r
  exact .inl ⟨i, rfl, k _ _ F H S.refl (.int _) hp⟩
theorem c_intB {b : Bool} {P : Dt → Prop} (hp : P (.int (if b then 1 else 0))) : Cal B (fun xs H Q => (∃ i, xs = [.int i] ∧ Q (.int i) H) ∨ ∃ k, xs = [.bl k] ∧ Q (.int (if k then 1 else 0)) H) es [.bl b] P := fun σ F H vs S a Q k => by
  obtain ⟨v, rfl, r⟩ := rp1 a
  cases r
  exact .inr ⟨b, rfl, k _ _ F H S.refl (.int _) hp⟩
theorem c_abs {i : Int} {P : Dt → Prop} (hp : P (.int (if i < 0 then -i else i))) : Cal B (fun xs H Q => ∃ i, xs = [.int i] ∧ Q (.int (if i < 0 then -i else i)) H) es [.int i] P := fun σ F H vs S a Q k => by
  obtain ⟨v, rfl, r⟩ := rp1 a
  cases r
  exact ⟨i, rfl, k _ _ F H S.refl (.int _) hp⟩
theorem c_all {bs : List Bool} {P : Dt → Prop} (hp : P (.bl (bs.all id))) : Cal B (rAll B.K) es [.lst (bs.map Dt.bl)] P := fun σ F H vs S a Q k => by
  obtain ⟨v, rfl, r⟩ := rp1 a
  cases r with
  | lst h1 h2 =>
    have e := h2.bls
    subst e
    exact ⟨_, bs, rfl, SqL.of (S.sub _ _ h1), k _ _ F H S.refl (.bl _) hp⟩
/-- isinstance(x, T) -/
def dTy : Dt → String
  | .non => "NoneType" | .bl _ => "bool" | .int _ => "int" | .str _ => "str" | .lst _ => "list" | .tup _ => "tuple"
  | .dct _ _ => "dict"
  | .obj _ _ _ => ""
  | .ali _ => ""
def plainD : Dt → Bool
  | .obj _ _ _ => false
  | .ali _ => false
  | _ => true
theorem ty_of {K : PySem.W.Frag} {F H : Hp} {v : V} {x : Dt} (a : Rp K F v x) (s : Same F H) (h : plainD x = true) : TyX K H v (.type (dTy x)) := by
  cases a with
  | non => exact .base .non
  | bl b => exact .base (.bl b)
  | int i => exact .base (.int i)
  | str z => exact .base (.str z)
  | lst h1 _ => exact .base (.lst (s _ _ h1))
  | tup h1 _ =>
    rcases h1 with (h1 | ⟨o, h1⟩) | ⟨o, its, n, k1, k2, k3⟩
    · exact .base (.tup (s _ _ h1))
    · exact .fTuple (s _ _ h1)
    · exact .kTuple k1 k2
  | dct h1 _ _ _ => exact .base (.dK (s _ _ h1))
  | obj _ _ _ _ => cases h
  | ali _ => cases h
def isiD (T : String) : Dt → Option Bool
  | .obj _ _ _ => none
  | .ali _ => none
  | x => kitB (dTy x) T
theorem ev_isi {te : TE} {T : String} {P : Dt → Prop} (h : Ev B te es fun d => ∃ b, isiD T d = some b ∧ P (.bl b)) : Ev B (tCB (rIsi B.K) (tCons te (tCons (tC (.ty T)) tNil))) es P := fun σ F H S Q q =>
  h σ F H S _ fun v x F1 H1 g1 r1 ⟨b, e, p1⟩ => by
    have hx : plainD x = true := by cases x <;> first | rfl | (cases e; done)
    have hk : kitB (dTy x) T = some b := by cases x <;> first | exact e | (cases hx; done)
    exact ⟨v, .ty T, _, _, b, rfl, .ty T, ty_of r1 g1.s2 hx, kit_ty hk, q _ _ F1 H1 g1 (.bl b) p1⟩
def anyIsi (x : String) : List String → Option Bool
  | [] => some false
  | T :: Ts => match kitB x T with
    | some true => some true
    | some false => anyIsi x Ts
    | none => none
theorem kitAny_of {K : PySem.W.Frag} {x : String} : ∀ {Ts : List String} {b : Bool}, anyIsi x Ts = some b → PySem.W.kitAny K (.type x) (Ts.map Value.type) = some b
  | [], b, h => by cases h; rfl
  | T :: Ts, b, h => by
    unfold anyIsi at h
    cases e : kitB x T with
    | none => rw [e] at h; cases h
    | some c =>
      rw [e] at h
      cases c with
      | true => cases h; exact kitAny_cons (kit_ty e) (fun z => nomatch z) fun _ => rfl
      | false => exact kitAny_cons (kit_ty e) (fun _ => kitAny_of h) fun z => nomatch z
def isiDs (Ts : List String) : Dt → Option Bool
  | .obj _ _ _ => none
  | .ali _ => none
  | x => anyIsi (dTy x) Ts
/-- isinstance(x, (T, U)) -/
theorem ev_isi2 {te : TE} {T U : String} {P : Dt → Prop} (h : Ev B te es fun d => ∃ b, isiDs [T, U] d = some b ∧ P (.bl b)) : Ev B (tCB (rIsiT B.K) (tCons te (tCons (tTup (tCons (tC (.ty T)) (tCons (tC (.ty U)) tNil))) tNil))) es P := fun σ F H S Q q =>
  h σ F H S _ fun v x F1 H1 g1 r1 ⟨b, e, p1⟩ => by
    have S1 := S.go g1
    have hx : plainD x = true := by cases x <;> first | rfl | (cases e; done)
    have hk : anyIsi (dTy x) [T, U] = some b := by cases x <;> first | exact e | (cases hx; done)
    refine ⟨by show 2 ≤ sizeLine; decide, fun p hp => ?_⟩
    have g2 := S1.allocO (o := .tup [.ty T, .ty U]) hp
    exact ⟨v, p, [.ty T, .ty U], _, [.type T, .type U], b, rfl, upd_same, .cons (.ty T) (.cons (.ty U) .nil), ty_of r1 (g1.s2.trans (same_upd hp)) hx, kitAny_of hk, q _ _ F1 _ (g1.trans g2) (.bl b) p1⟩

/-! ### calls of defs -/
/-- the promise of a def over data: Pre of the arguments, Post of arguments and result -/
def spD (K : PySem.W.Frag) (Pre : List Dt → Prop) (Post : List Dt → Dt → Prop) : Sp := fun vs H Q _ => ∃ F ds, Same F H ∧ RpAll K F vs ds ∧ Pre ds ∧
  ∀ v d F' H', Same F F' → (∀ c, H c ≠ none → F c = none → F' c = none) → Same F' H' → Same H H' → Rp K F' v d → Post ds d → Q v H'
theorem ev_call {Pre : List Dt → Prop} {Post : List Dt → Dt → Prop} {E : XK} {ta : TA} {P : Dt → Prop} (h : EvA B ta es fun ds => Pre ds ∧ ∀ d, Post ds d → P d) : Ev B (tCall (spD B.K Pre Post) [] E ta) es P := fun σ F H S Q q =>
  h σ F H S _ fun vs ds F1 H1 g1 r1 ⟨p1, p2⟩ => by
    rw [List.append_nil]
    exact ⟨F1, ds, g1.s2, r1, p1, fun v d F2 H2 s1 s2 s3 s4 r2 p3 => q v d F2 H2 (g1.trans ((S.go g1).pure s1 s3 s2 s4)) r2 (p2 d p3)⟩
/-- the same with defaults behind -/
theorem ev_callD {Pre : List Dt → Prop} {Post : List Dt → Dt → Prop} {E : XK} {ta : TA} {P : Dt → Prop} {dvs : List V} {dds : List Dt} (hd : ∀ F, RpAll B.K F dvs dds) (h : EvA B ta es fun ds => Pre (ds ++ dds) ∧ ∀ d, Post (ds ++ dds) d → P d) : Ev B (tCall (spD B.K Pre Post) dvs E ta) es P := fun σ F H S Q q =>
  h σ F H S _ fun vs ds F1 H1 g1 r1 ⟨p1, p2⟩ => ⟨F1, ds ++ dds, g1.s2, r1.app (hd F1), p1, fun v d F2 H2 s1 s2 s3 s4 r2 p3 => q v d F2 H2 (g1.trans ((S.go g1).pure s1 s3 s2 s4)) r2 (p2 d p3)⟩
/-- f(k = v, ..) -/
theorem ev_callN {Pre : List Dt → Prop} {Post : List Dt → Dt → Prop} {E : XK} {ta tk : TA} {P : Dt → Prop} {n m : Nat} {gV : List V → List V → List V} {gD : List Dt → List Dt → List Dt}
    (hg : ∀ F vs ds zs as, RpAll B.K F vs ds → RpAll B.K F zs as → RpAll B.K F (gV vs zs) (gD ds as))
    (h : EvA B ta es fun ds => EvA B tk es fun as => ds.length = n ∧ as.length = m ∧ Pre (gD ds as) ∧ ∀ d, Post (gD ds as) d → P d) : Ev B (tCallN n m (spD B.K Pre Post) gV E ta tk) es P := fun σ F H S Q q =>
  h σ F H S _ fun vs ds F1 H1 g1 r1 p0 => p0 σ F1 H1 (S.go g1) _ fun zs as F2 H2 g2 r2 ⟨l1, l2, p1, p2⟩ => by
    have g := g1.trans g2
    exact ⟨by rw [r1.length]; exact l1, by rw [r2.length]; exact l2, F2, gD ds as, g2.s2, hg F2 _ _ _ _ (r1.mono g2.s1) r2, p1, fun v d F3 H3 s1 s2 s3 s4 r3 p3 => q v d F3 H3 (g.trans ((S.go g).pure s1 s3 s2 s4)) r3 (p2 d p3)⟩
/-- a def that draws: the drawing's list first -/
def spB (K : PySem.W.Frag) (Pre : List Dt → Prop) (Post : List Dt → Dt → Prop) : Sp := fun vs H Q _ => ∃ b ws F ds, vs = .ref b :: ws ∧ Same F H ∧ BagAt K F H b ∧ RpAll K F ws ds ∧ Pre ds ∧
  ∀ v d F' H', Same F F' → (∀ c, H c ≠ none → F c = none → F' c = none) → Same F' H' → (∀ c o, c ≠ b → H c = some o → H' c = some o) → BagAt K F' H' b → Rp K F' v d → Post ds d → Q v H'
theorem ev_callB {Pre : List Dt → Prop} {Post : List Dt → Dt → Prop} {E : XK} {ta : TA} {P : Dt → Prop} {i : Nat} {b : Addr} (hb : B.bag = some b) (hi : es[i]? = some (.r (.ref b))) (h : EvA B ta es fun ds => Pre ds ∧ ∀ d, Post ds d → P d) :
    Ev B (tCall (spB B.K Pre Post) [] E (tCons (tVar i) ta)) es P := fun σ F H S Q q => ⟨_, S.raw hi, h σ F H S _ fun vs ds F1 H1 g1 r1 ⟨p1, p2⟩ => by
    show spB B.K Pre Post ((V.ref b :: vs) ++ []) H1 Q E
    rw [List.append_nil]
    refine ⟨b, vs, F1, ds, rfl, g1.s2, g1.bg b hb, r1, p1, fun v d F2 H2 s1 s2 s3 s4 s5 r2 p3 => q v d F2 H2 (g1.trans ⟨s1, s3, s2, fun c o hc ho => s4 c o (fun e => hc.1 (by rw [e]; exact hb)) ho, fun b' hb' => ?_, fun q hq => ?_⟩) r2 (p2 d p3)⟩
    · rw [hb] at hb'
      cases hb'
      exact s5
    · have S1 := S.go g1
      refine tabS_kept (S1.tb q hq) fun c o ho hn => s4 c o (fun e => ?_) ho
      obtain ⟨_, vs, _, k, _⟩ := S1.bg b hb
      rw [e, k] at ho
      cases ho
      exact hn⟩
end
end Y
/-! Y3: statements, loops, comprehensions, the promise of a def. -/
namespace Y
open PySem L2

structure Po where
  nx : List Sl → Prop
  bk : List Sl → Prop
  ct : List Sl → Prop
  rt : List Sl → Dt → Prop
  ro : List Dt → Prop := fun _ => False
def Sm (B : Bs) (t : TS) (es : List Sl) (p : Po) : Prop := ∀ σ F H (D : Ends), Stt B es σ F H →
  (∀ es' σ' F' H', Stt B es' σ' F' H' → Same F F' → p.nx es' → D.nx σ' H') →
  (∀ es' σ' F' H', Stt B es' σ' F' H' → Same F F' → p.bk es' → D.bk σ' H') →
  (∀ es' σ' F' H', Stt B es' σ' F' H' → Same F F' → p.ct es' → D.ct σ' H') →
  (∀ v d es' σ' F' H', Stt B es' σ' F' H' → Same F F' → Rp B.K F' v d → p.rt es' d → D.rt v H') →
  (∀ a vs xs es' σ' F' H', Stt B es' σ' F' H' → Same F F' → F' a = none → H' a = some (.lst vs) → RpAll B.K F' vs xs → B.H0 a = none → B.off a → p.ro xs → D.rt (.ref a) H') → t D σ H

section
variable {B : Bs} {es : List Sl} {p : Po}
theorem Stt.set {σ : St} {F H : Hp} {i : Nat} {e : Sl} {o : Option V} (S : Stt B es σ F H) (h : SlOk B.K F H o e) (hw : ∀ a xs, e = .own a xs → B.H0 a = none ∧ B.off a ∧ ∀ (j : Nat) c ys, es[j]? = some (.own c ys) → c ≠ a) (hob : ∀ a C dx ns xs bs, e ≠ .ob a C dx ns xs bs := by intro a C dx ns xs bs z; cases z) : Stt B (es.set i e) (σ.set i o) F H where
  sub := S.sub
  s0 := S.s0
  ou := S.ou
  fr := S.fr
  bg := S.bg
  tb := S.tb
  tn := S.tn
  len := by rw [List.length_set, List.length_set]; exact S.len
  ok := fun j e' o' h1 h2 => by
    by_cases hj : i = j
    · subst hj
      have l1 : i < es.length := by
        have := (List.getElem?_eq_some_iff.mp h1).1
        rwa [List.length_set] at this
      rw [List.getElem?_set_self l1] at h1
      rw [List.getElem?_set_self (by rw [S.len]; exact l1)] at h2
      cases h1; cases h2; exact h
    · rw [List.getElem?_set_ne hj] at h1 h2
      exact S.ok j e' o' h1 h2
  ow := fun j a xs h1 => by
    by_cases hj : i = j
    · subst hj
      have l1 : i < es.length := by
        have := (List.getElem?_eq_some_iff.mp h1).1
        rwa [List.length_set] at this
      rw [List.getElem?_set_self l1] at h1
      cases h1
      obtain ⟨k1, k2, _⟩ := hw a xs rfl
      exact ⟨k1, k2⟩
    · rw [List.getElem?_set_ne hj] at h1
      exact S.ow j a xs h1
  dis := fun j l a b xs ys hjl h1 h2 => by
    by_cases hj : i = j
    · subst hj
      have l1 : i < es.length := by
        have := (List.getElem?_eq_some_iff.mp h1).1
        rwa [List.length_set] at this
      rw [List.getElem?_set_self l1] at h1
      rw [List.getElem?_set_ne hjl] at h2
      cases h1
      exact ((hw a xs rfl).2.2 l b ys h2).symm
    · rw [List.getElem?_set_ne hj] at h1
      by_cases hl : i = l
      · subst hl
        have l1 : i < es.length := by
          have := (List.getElem?_eq_some_iff.mp h2).1
          rwa [List.length_set] at this
        rw [List.getElem?_set_self l1] at h2
        cases h2
        exact (hw b ys rfl).2.2 j a xs h1
      · rw [List.getElem?_set_ne hl] at h2
        exact S.dis j l a b xs ys hjl h1 h2
  obw := fun j a C dx ns xs bs h1 => by
    by_cases hj : i = j
    · subst hj
      have l1 : i < es.length := by
        have := (List.getElem?_eq_some_iff.mp h1).1
        rwa [List.length_set] at this
      rw [List.getElem?_set_self l1] at h1
      cases h1
      exact absurd rfl (hob a C dx ns xs bs)
    · rw [List.getElem?_set_ne hj] at h1
      exact S.obw j a C dx ns xs bs h1
theorem Stt.setD {σ : St} {F H : Hp} {i : Nat} {v : V} {x : Dt} (S : Stt B es σ F H) (r : Rp B.K F v x) : Stt B (es.set i (.d x)) (σ.set i (some v)) F H := S.set ⟨v, rfl, r⟩ fun _ _ e => nomatch e
theorem Stt.setO {σ : St} {F H : Hp} {i : Nat} {a : Addr} {vs : List V} {xs : List Dt} (S : Stt B es σ F H) (h1 : F a = none) (h2 : H a = some (.lst vs)) (r : RpAll B.K F vs xs) (h3 : B.H0 a = none) (h4 : B.off a) (h5 : ∀ (j : Nat) c ys, es[j]? = some (.own c ys) → c ≠ a) :
    Stt B (es.set i (.own a xs)) (σ.set i (some (.ref a))) F H := S.set ⟨vs, rfl, h1, h2, r⟩ fun _ _ e => by cases e; exact ⟨h3, h4, h5⟩

theorem sm_seq {t u : TS} (h : Sm B t es { p with nx := fun es' => Sm B u es' p }) : Sm B (tSeq t u) es p := fun σ F H D S n b c r ro =>
  h σ F H { D with nx := u D } S (fun es' σ' F' H' S' s' q => q σ' F' H' D S' (fun e2 a2 F2 H2 S2 s2 q2 => n e2 a2 F2 H2 S2 (s'.trans s2) q2) (fun e2 a2 F2 H2 S2 s2 q2 => b e2 a2 F2 H2 S2 (s'.trans s2) q2)
    (fun e2 a2 F2 H2 S2 s2 q2 => c e2 a2 F2 H2 S2 (s'.trans s2) q2) (fun v d e2 a2 F2 H2 S2 s2 q2 => r v d e2 a2 F2 H2 S2 (s'.trans s2) q2) (fun a vs xs e2 a2 F2 H2 S2 s2 => ro a vs xs e2 a2 F2 H2 S2 (s'.trans s2))) b c r ro
theorem sm_next (h : p.nx es) : Sm B tNext es p := fun σ F H D S n _ _ _ _ => n es σ F H S (Same.refl F) h
theorem sm_brk (h : p.bk es) : Sm B tBreak es p := fun σ F H D S _ n _ _ _ => n es σ F H S (Same.refl F) h
theorem sm_cont (h : p.ct es) : Sm B tCont es p := fun σ F H D S _ _ n _ _ => n es σ F H S (Same.refl F) h
theorem sm_imp {t : TS} {p' : Po} (h : Sm B t es p') (h1 : ∀ e, p'.nx e → p.nx e) (h2 : ∀ e, p'.bk e → p.bk e) (h3 : ∀ e, p'.ct e → p.ct e) (h4 : ∀ e d, p'.rt e d → p.rt e d) (h5 : ∀ d, p'.ro d → p.ro d) : Sm B t es p := fun σ F H D S n b c r ro =>
  h σ F H D S (fun e a F' H' S' s q => n e a F' H' S' s (h1 e q)) (fun e a F' H' S' s q => b e a F' H' S' s (h2 e q)) (fun e a F' H' S' s q => c e a F' H' S' s (h3 e q)) (fun v d e a F' H' S' s q z => r v d e a F' H' S' s q (h4 e d z)) fun a vs xs e2 a2 F2 H2 S2 s2 k1 k2 k3 k4 k5 z => ro a vs xs e2 a2 F2 H2 S2 s2 k1 k2 k3 k4 k5 (h5 xs z)
theorem sm_retO {te : TE} (h : EvO B te es p.ro) : Sm B (tRet te) es p := fun σ F H D S _ _ _ _ ro => h σ F H S _ fun a vs xs F1 H1 g1 h0 h1 h2 r1 p1 => ro a vs xs es σ F1 H1 (S.go g1) g1.s1 h1 h2 r1 (S.new0 h0) (S.newB h0) p1
theorem sm_ret {te : TE} (h : Ev B te es (p.rt es)) : Sm B (tRet te) es p := fun σ F H D S _ _ _ r _ => h σ F H S _ fun v d F1 H1 g1 r1 p1 => r v d es σ F1 H1 (S.go g1) g1.s1 r1 p1
theorem sm_if {tc : TT} {t u : TS} (h : EvT B tc es fun b => (b = true → Sm B t es p) ∧ (b = false → Sm B u es p)) : Sm B (tIfS tc t u) es p := fun σ F H D S n b c r ro => h σ F H S _ fun k F1 H1 g1 p1 => by
  have S1 := S.go g1
  cases k with
  | true =>
    show t D σ H1
    exact p1.1 rfl σ F1 H1 D S1 (fun e2 a2 F2 H2 S2 s2 q2 => n e2 a2 F2 H2 S2 (g1.s1.trans s2) q2) (fun e2 a2 F2 H2 S2 s2 q2 => b e2 a2 F2 H2 S2 (g1.s1.trans s2) q2)
      (fun e2 a2 F2 H2 S2 s2 q2 => c e2 a2 F2 H2 S2 (g1.s1.trans s2) q2) (fun v d e2 a2 F2 H2 S2 s2 q2 => r v d e2 a2 F2 H2 S2 (g1.s1.trans s2) q2) (fun a vs xs e2 a2 F2 H2 S2 s2 => ro a vs xs e2 a2 F2 H2 S2 (g1.s1.trans s2))
  | false =>
    show u D σ H1
    exact p1.2 rfl σ F1 H1 D S1 (fun e2 a2 F2 H2 S2 s2 q2 => n e2 a2 F2 H2 S2 (g1.s1.trans s2) q2) (fun e2 a2 F2 H2 S2 s2 q2 => b e2 a2 F2 H2 S2 (g1.s1.trans s2) q2)
      (fun e2 a2 F2 H2 S2 s2 q2 => c e2 a2 F2 H2 S2 (g1.s1.trans s2) q2) (fun v d e2 a2 F2 H2 S2 s2 q2 => r v d e2 a2 F2 H2 S2 (g1.s1.trans s2) q2) (fun a vs xs e2 a2 F2 H2 S2 s2 => ro a vs xs e2 a2 F2 H2 S2 (g1.s1.trans s2))
theorem sm_drop {te : TE} (h : Ev B te es fun _ => p.nx es) : Sm B (tDrop te) es p := fun σ F H D S n _ _ _ _ => h σ F H S _ fun v d F1 H1 g1 r1 p1 => n es σ F1 H1 (S.go g1) g1.s1 p1
/-! ### targets -/
def Tg (B : Bs) (g : TG) (es : List Sl) (x : Dt) (P : List Sl → Prop) : Prop := ∀ σ F H v, Stt B es σ F H → Rp B.K F v x → ∀ Q : St → Hp → Prop, (∀ es' σ' F' H', Stt B es' σ' F' H' → Same F F' → P es' → Q σ' H') → g v σ H Q
def Tgs (B : Bs) (g : TGs) (es : List Sl) (xs : List Dt) (P : List Sl → Prop) : Prop := ∀ σ F H vs, Stt B es σ F H → RpAll B.K F vs xs → ∀ Q : St → Hp → Prop, (∀ es' σ' F' H', Stt B es' σ' F' H' → Same F F' → P es' → Q σ' H') → g vs σ H Q
theorem tg_name {i : Nat} {x : Dt} {P : List Sl → Prop} (h : P (es.set i (.d x))) : Tg B (gName i) es x P := fun σ F H v S r Q q => q _ _ F H (S.setD r) (Same.refl F) h
theorem tgs_nil {P : List Sl → Prop} (h : P es) : Tgs B gNil es [] P := fun σ F H vs S r Q q => by
  cases r
  exact ⟨rfl, q es σ F H S (Same.refl F) h⟩
theorem tgs_cons {t : TG} {u : TGs} {x : Dt} {xs : List Dt} {P : List Sl → Prop} (h : Tg B t es x fun es' => Tgs B u es' xs P) : Tgs B (gCons t u) es (x :: xs) P := fun σ F H vs S r Q q => by
  cases r with
  | cons r1 r2 =>
    exact ⟨_, _, rfl, h σ F H _ S r1 _ fun es' σ' F' H' S' s' p1 => p1 σ' F' H' _ S' (r2.mono s') Q fun e2 a2 F2 H2 S2 s2 p2 => q e2 a2 F2 H2 S2 (s'.trans s2) p2⟩
theorem tg_tup {n : Nat} {t : TGs} {xs : List Dt} {P : List Sl → Prop} (hn : xs.length = n) (h : Tgs B t es xs P) : Tg B (gTup B.K n t) es (.tup xs) P := fun σ F H v S r Q q => by
  cases r with
  | tup h1 h2 => exact ⟨_, _, rfl, sqT_mono S.sub h1, by rw [h2.length]; exact hn, h σ F H _ S h2 Q q⟩
theorem sm_asg {te : TE} {g : TG} (h : Ev B te es fun d => Tg B g es d p.nx) : Sm B (tAsg te g) es p := fun σ F H D S n _ _ _ _ => h σ F H S _ fun v d F1 H1 g1 r1 p1 => p1 σ F1 H1 v (S.go g1) r1 _ fun e2 a2 F2 H2 S2 s2 q2 => n e2 a2 F2 H2 S2 (g1.s1.trans s2) q2
theorem sm_set {te : TE} {i : Nat} (h : Ev B te es fun d => p.nx (es.set i (.d d))) : Sm B (tAsg te (gName i)) es p := sm_asg (h.imp fun d q => tg_name q)
theorem sm_setO {te : TE} {i : Nat} (h : EvO B te es fun xs => ∀ a, p.nx (es.set i (.own a xs))) : Sm B (tAsg te (gName i)) es p := fun σ F H D S n _ _ _ _ => h σ F H S _ fun a vs xs F1 H1 g1 h0 h1 h2 r1 p1 => by
  have S1 := S.go g1
  exact n _ _ F1 H1 (S1.setO h1 h2 r1 (S.new0 h0) (S.newB h0) fun j c ys hj => S.newS h0 j ys hj) g1.s1 (p1 a)
theorem sm_par {i j : Nat} {ta : TA} (h : EvA B ta es fun ds => ∃ x y, ds = [x, y] ∧ p.nx ((es.set i (.d x)).set j (.d y))) : Sm B (tPar i j ta) es p := fun σ F H D S n _ _ _ _ => h σ F H S _ fun vs ds F1 H1 g1 r1 ⟨x, y, e, p1⟩ => by
  subst e
  obtain ⟨v, w, rfl, a, b⟩ := rp2 r1
  exact ⟨v, w, rfl, n _ _ F1 H1 (((S.go g1).setD a).setD b) g1.s1 p1⟩
theorem sm_aug {i : Nat} {te : TE} {f : Int → Int → Int} {a : Int} (hi : es[i]? = some (.d (.int a))) (h : Ev B te es fun d => ∃ b, d = .int b ∧ p.nx (es.set i (.d (.int (f a b))))) : Sm B (tAug i te (ipI f)) es p := fun σ F H D S n _ _ _ _ => by
  obtain ⟨v, h1, h2⟩ := S.dat hi
  cases h2
  exact ⟨_, h1, h σ F H S _ fun w d F1 H1 g1 r1 ⟨b, e, p1⟩ => by
    subst e; cases r1; exact ⟨a, b, rfl, rfl, n _ _ F1 H1 ((S.go g1).setD (.int _)) g1.s1 p1⟩⟩

/-! ### a list of one's own -/
theorem Stt.own {σ : St} {F H : Hp} {i : Nat} {a : Addr} {xs : List Dt} (S : Stt B es σ F H) (h : es[i]? = some (.own a xs)) : ∃ vs, σ[i]? = some (some (.ref a)) ∧ F a = none ∧ H a = some (.lst vs) ∧ RpAll B.K F vs xs := by
  obtain ⟨o, h1, vs, rfl, k⟩ := S.slot h
  exact ⟨vs, h1, k⟩
theorem Stt.freeze {σ : St} {F H : Hp} {i : Nat} {xs : List Dt} {a : Addr} {vs : List V} (S : Stt B es σ F H) (h : es[i]? = some (.own a xs)) (hs : σ[i]? = some (some (.ref a))) (h1 : F a = none) (h2 : H a = some (.lst vs)) (h3 : RpAll B.K F vs xs) :
    Stt B (es.set i (.d (.lst xs))) σ (upd F a (.lst vs)) H where
  sub := fun c o e => by
    by_cases hc : c = a
    · subst hc; rw [upd_same] at e; rw [h2, e]
    · rw [upd_ne hc] at e; exact S.sub c o e
  s0 := S.s0.trans (same_upd h1)
  ou := fun c k1 k2 => by
    have hc : c ≠ a := fun e => k1 (by rw [e]; exact (S.ow i a xs h).1)
    rw [upd_ne hc]; exact S.ou c k1 k2
  fr := S.fr
  bg := fun b hb => by
    obtain ⟨k1, ws, ys, k2, k3, k4⟩ := S.bg b hb
    have hba : b ≠ a := fun q => (S.ow i a xs h).2.1 (by rw [hb, q])
    exact ⟨by rw [upd_ne hba]; exact k1, ws, ys, k2, k3.mono (same_upd h1), k4⟩
  tb := S.tb
  tn := fun q hq => by
    obtain ⟨ps, k, _⟩ := S.tb q hq
    rw [upd_ne (fun e => by rw [e, h2] at k; cases k)]; exact S.tn q hq
  len := by rw [List.length_set]; exact S.len
  ok := fun j e o k1 k2 => by
    by_cases hj : i = j
    · subst hj
      have l1 : i < es.length := (List.getElem?_eq_some_iff.mp h).1
      rw [List.getElem?_set_self l1] at k1
      cases k1
      rw [hs] at k2
      cases k2
      exact ⟨_, rfl, .lst upd_same (h3.mono (same_upd h1))⟩
    · rw [List.getElem?_set_ne hj] at k1
      have q := S.ok j e o k1 k2
      cases e with
      | no => exact q
      | any => trivial
      | d x => obtain ⟨v, z1, z2⟩ := q; exact ⟨v, z1, z2.mono (same_upd h1)⟩
      | r v => exact q
      | own c ys =>
        obtain ⟨ws, z1, z2, z3, z4⟩ := q
        have hca : c ≠ a := (S.dis i j a c xs ys hj h k1).symm
        exact ⟨ws, z1, by rw [upd_ne hca]; exact z2, z3, z4.mono (same_upd h1)⟩
      | ob c C dx ns ys bs =>
        obtain ⟨fs, z1, z2, z3, z4, z5⟩ := q
        have hca : c ≠ a := fun e => by rw [e, h2] at z3; cases z3
        exact ⟨fs, z1, by rw [upd_ne hca]; exact z2, z3, z4, z5.mono (same_upd h1)⟩
      | fs c ls => exact ⟨q.1, same_upd h1 _ _ q.2.1, q.2.2⟩
  ow := fun j c ys k1 => by
    by_cases hj : i = j
    · subst hj
      have l1 : i < es.length := (List.getElem?_eq_some_iff.mp h).1
      rw [List.getElem?_set_self l1] at k1; cases k1
    · rw [List.getElem?_set_ne hj] at k1
      exact S.ow j c ys k1
  dis := fun j l c e ys zs hjl k1 k2 => by
    have l1 : i < es.length := (List.getElem?_eq_some_iff.mp h).1
    by_cases hj : i = j
    · subst hj; rw [List.getElem?_set_self l1] at k1; cases k1
    · by_cases hl : i = l
      · subst hl; rw [List.getElem?_set_self l1] at k2; cases k2
      · rw [List.getElem?_set_ne hj] at k1
        rw [List.getElem?_set_ne hl] at k2
        exact S.dis j l c e ys zs hjl k1 k2
  obw := fun j c C dx ns ys bs k1 => by
    have l1 : i < es.length := (List.getElem?_eq_some_iff.mp h).1
    by_cases hj : i = j
    · subst hj; rw [List.getElem?_set_self l1] at k1; cases k1
    · rw [List.getElem?_set_ne hj] at k1
      obtain ⟨w1, w2, w3⟩ := S.obw j c C dx ns ys bs k1
      refine ⟨w1, w2, fun fs hf k hk => ?_⟩
      obtain ⟨n, b, us, z1, z2, z3⟩ := w3 fs hf k hk
      exact ⟨n, b, us, z1, z2, same_upd h1 _ _ z3⟩
theorem sm_freeze {t : TS} (i : Nat) {a : Addr} {xs : List Dt} (h : es[i]? = some (.own a xs)) (k : Sm B t (es.set i (.d (.lst xs))) p) : Sm B t es p := fun σ F H D S n b c r ro => by
  obtain ⟨vs, h1, h2, h3, h4⟩ := S.own h
  have s : Same F (upd F a (.lst vs)) := same_upd h2
  exact k σ _ H D (S.freeze h h1 h2 h3 h4) (fun e2 a2 F2 H2 S2 s2 q2 => n e2 a2 F2 H2 S2 (s.trans s2) q2) (fun e2 a2 F2 H2 S2 s2 q2 => b e2 a2 F2 H2 S2 (s.trans s2) q2)
    (fun e2 a2 F2 H2 S2 s2 q2 => c e2 a2 F2 H2 S2 (s.trans s2) q2) (fun v d e2 a2 F2 H2 S2 s2 q2 => r v d e2 a2 F2 H2 S2 (s.trans s2) q2) (fun a vs xs e2 a2 F2 H2 S2 s2 => ro a vs xs e2 a2 F2 H2 S2 (s.trans s2))
/-- the list at an own slot is changed -/
theorem Stt.change {σ : St} {F H : Hp} {i : Nat} {xs ys : List Dt} {a : Addr} {ws : List V} (S : Stt B es σ F H) (h : es[i]? = some (.own a xs)) (hs : σ[i]? = some (some (.ref a))) (h1 : F a = none) (h3 : RpAll B.K F ws ys) :
    Stt B (es.set i (.own a ys)) σ F (upd H a (.lst ws)) where
  sub := fun c o e => by
    rw [upd_ne (ne_of_none e h1)]; exact S.sub c o e
  s0 := S.s0
  ou := S.ou
  fr := fun c o k1 k2 => by
    have hc : c ≠ a := fun e => by
      have := (S.ow i a xs h).1
      rw [← e, k1] at this; cases this
    rw [upd_ne hc]; exact S.fr c o k1 k2
  bg := fun b hb => by
    obtain ⟨k1, ws, ys, k2, k3, k4⟩ := S.bg b hb
    have hba : b ≠ a := fun q => (S.ow i a xs h).2.1 (by rw [hb, q])
    exact ⟨k1, ws, ys, by rw [upd_ne hba]; exact k2, k3, k4⟩
  tb := fun q hq => by
    obtain ⟨o', _, vs', _, _, w3, _⟩ := S.slot h
    exact tabS_kept (S.tb q hq) fun c o ho hn => gh_upd w3 (fun z => z) ho hn
  tn := S.tn
  len := by rw [List.length_set]; exact S.len
  ok := fun j e o k1 k2 => by
    by_cases hj : i = j
    · subst hj
      have l1 : i < es.length := (List.getElem?_eq_some_iff.mp h).1
      rw [List.getElem?_set_self l1] at k1
      cases k1
      rw [hs] at k2
      cases k2
      exact ⟨ws, rfl, h1, upd_same, h3⟩
    · rw [List.getElem?_set_ne hj] at k1
      have q := S.ok j e o k1 k2
      cases e with
      | no => exact q
      | any => trivial
      | d x => exact q
      | r v => exact q
      | own c zs =>
        obtain ⟨us, z1, z2, z3, z4⟩ := q
        have hca : c ≠ a := (S.dis i j a c xs zs hj h k1).symm
        exact ⟨us, z1, z2, by rw [upd_ne hca]; exact z3, z4⟩
      | ob c C dx ns zs bs =>
        obtain ⟨fs, z1, z2, z3, z4, z5⟩ := q
        obtain ⟨o', _, vs', _, _, w3, _⟩ := S.slot h
        have hca : c ≠ a := fun e => by rw [e, w3] at z3; cases z3
        exact ⟨fs, z1, z2, by rw [upd_ne hca]; exact z3, z4, z5⟩
      | fs c ls =>
        obtain ⟨o', _, vs', _, _, w3, _⟩ := S.slot h
        exact ⟨q.1, q.2.1, fun p hp => (q.2.2 p hp).kept fun c o k hn _ => gh_upd w3 (fun z => z) k hn⟩
  ow := fun j c zs k1 => by
    by_cases hj : i = j
    · subst hj
      have l1 : i < es.length := (List.getElem?_eq_some_iff.mp h).1
      rw [List.getElem?_set_self l1] at k1
      cases k1
      exact S.ow i a xs h
    · rw [List.getElem?_set_ne hj] at k1
      exact S.ow j c zs k1
  dis := fun j l c e ys' zs hjl k1 k2 => by
    have l1 : i < es.length := (List.getElem?_eq_some_iff.mp h).1
    by_cases hj : i = j
    · subst hj
      rw [List.getElem?_set_self l1] at k1
      cases k1
      rw [List.getElem?_set_ne hjl] at k2
      exact S.dis i l a e xs zs hjl h k2
    · rw [List.getElem?_set_ne hj] at k1
      by_cases hl : i = l
      · subst hl
        rw [List.getElem?_set_self l1] at k2
        cases k2
        exact S.dis j i c a ys' xs hjl k1 h
      · rw [List.getElem?_set_ne hl] at k2
        exact S.dis j l c e ys' zs hjl k1 k2
  obw := fun j c C dx ns zs bs k1 => by
    have l1 : i < es.length := (List.getElem?_eq_some_iff.mp h).1
    by_cases hj : i = j
    · subst hj; rw [List.getElem?_set_self l1] at k1; cases k1
    · rw [List.getElem?_set_ne hj] at k1
      obtain ⟨w1, w2, w3⟩ := S.obw j c C dx ns zs bs k1
      refine ⟨w1, w2, fun fs hf => w3 fs ?_⟩
      obtain ⟨o1, _, fs1, _, _, y3, _⟩ := S.slot k1
      obtain ⟨o', _, vs', _, _, y4, _⟩ := S.slot h
      have hca : c ≠ a := fun e => by rw [e, y4] at y3; cases y3
      rw [upd_ne hca] at hf
      exact hf
theorem sm_append {i : Nat} {te : TE} {a : Addr} {xs : List Dt} (hi : es[i]? = some (.own a xs)) (h : Ev B te es fun d => xs.length < 100000 ∧ p.nx (es.set i (.own a (xs ++ [d])))) : Sm B (tDrop (tBM B.K "list" rAppend (tVar i) (tCons te tNil))) es p := fun σ F H D S n _ _ _ _ => by
  obtain ⟨vs, h1, h2, h3, h4⟩ := S.own hi
  refine ⟨_, h1, .inl ⟨rfl, _, SqL.of h3⟩, h σ F H S _ fun v d F1 H1 g1 r1 ⟨p1, p2⟩ => ?_⟩
  have S1 := S.go g1
  obtain ⟨vs', k1, k2, k3, k4⟩ := S1.own hi
  refine ⟨a, vs', v, rfl, rfl, k3, size_lt (by rw [k4.length]; exact p1), n _ _ F1 _ (S1.change hi h1 k2 (k4.app (.cons r1 .nil))) g1.s1 p2⟩

/-- an item of an own list is read; is stored; its length -/
theorem ev_ixOwn {i : Nat} {a : Addr} {xs : List Dt} {tb : TE} {P : Dt → Prop} (hi : es[i]? = some (.own a xs)) (h : Ev B tb es fun y => ∃ j, y = .int j ∧ ∃ x, atI xs j = some x ∧ P x) : Ev B (tOp (rIx B.K) (tVar i) tb) es P := fun σ F H S Q q => by
  obtain ⟨vs, h1, h2, h3, h4⟩ := S.own hi
  refine ⟨_, h1, h σ F H S _ fun w y F1 H1 g1 r1 ⟨j, e, x, hx, p1⟩ => ?_⟩
  subst e
  cases r1
  have S1 := S.go g1
  obtain ⟨vs', k1, k2, k3, k4⟩ := S1.own hi
  unfold atI at hx
  cases e : ixN xs.length j with
  | none => rw [e] at hx; cases hx
  | some n =>
    rw [e] at hx
    obtain ⟨u, z1, z2⟩ := k4.get (show xs[n]? = some x from hx)
    refine .inl ⟨a, vs', j, u, rfl, rfl, SqL.of k3, ?_, q _ _ F1 H1 g1 z2 p1⟩
    unfold atI
    rw [k4.length, e]
    exact z1
theorem sm_setItem {i : Nat} {a : Addr} {xs : List Dt} {te tj : TE} (hi : es[i]? = some (.own a xs)) (h : Ev B te es fun d => Ev B tj es fun y => ∃ j, y = .int j ∧ ∃ k, ixN xs.length j = some k ∧ p.nx (es.set i (.own a (xs.set k d)))) : Sm B (tAsg te (gSub (tVar i) tj rSetL)) es p := fun σ F H D S n _ _ _ _ =>
  h σ F H S _ fun v d F1 H1 g1 r1 p1 => by
    have S1 := S.go g1
    obtain ⟨vs, h1, h2, h3, h4⟩ := S1.own hi
    refine ⟨_, h1, p1 σ F1 H1 S1 _ fun w y F2 H2 g2 r2 ⟨j, e, k, hk, p2⟩ => ?_⟩
    subst e
    cases r2
    have S2 := S1.go g2
    obtain ⟨vs', k1, k2, k3, k4⟩ := S2.own hi
    exact ⟨a, vs', j, k, rfl, rfl, k3, by rw [k4.length]; exact hk, n _ _ F2 _ (S2.change hi h1 k2 (k4.set (r1.mono g2.s1) k)) (g1.s1.trans g2.s1) p2⟩
theorem ev_lenOwn {i : Nat} {a : Addr} {xs : List Dt} {P : Dt → Prop} (hi : es[i]? = some (.own a xs)) (h : P (.int xs.length)) : Ev B (tCB (rLenA B.K) (tCons (tVar i) tNil)) es P := fun σ F H S Q q => by
  obtain ⟨vs, h1, h2, h3, h4⟩ := S.own hi
  exact ⟨_, h1, _, xs.length, rfl, .inl ⟨vs, SqL.of h3, h4.length.symm⟩, q _ _ F H S.refl (.int _) h⟩

/-! ### walks -/
def Yl (K : PySem.W.Frag) (F : Hp) (H : Hp) (v : V) (x : Dt) (H' : Hp) : Prop := (H' = H ∧ Rp K F v x) ∨ ∃ T a b x1 x2, v = .ref T ∧ H T = none ∧ H' = upd H T (.tup [a, b]) ∧ Rp K F a x1 ∧ Rp K F b x2 ∧ x = .tup [x1, x2]
structure ItD (K : PySem.W.Frag) (J : It) (F : Hp) (xs : List Dt) : Prop where
  goes : ∀ (i : Nat) H, i < xs.length → Same F H → J.go i H
  stops : ∀ H, Same F H → J.stop xs.length H
  yields : ∀ (i : Nat) H v H', i < xs.length → Same F H → J.yld i H v H' → ∃ x, xs[i]? = some x ∧ Yl K F H v x H'
def EvI (B : Bs) (wi : TI) (es : List Sl) (P : List Dt → Prop) : Prop := ∀ σ F H, Stt B es σ F H → ∀ R : It → Hp → Prop, (∀ J xs F' H', Go B F H F' H' → ItD B.K J F' xs → P xs → R J H') → wi σ H R
theorem Yl.go {σ : St} {F F1 H H' : Hp} {v : V} {x : Dt} (y : Yl B.K F H v x H') (S : Stt B es σ F1 H) (s : Same F F1) : ∃ F2, Go B F1 H F2 H' ∧ Rp B.K F2 v x := by
  rcases y with ⟨rfl, r⟩ | ⟨T, a, b, x1, x2, rfl, h1, rfl, r1, r2, rfl⟩
  · exact ⟨F1, S.refl, r.mono s⟩
  · have hF : F1 T = none := same_none S.sub h1
    have s2 : Same F (upd F1 T (.tup [a, b])) := s.trans (same_upd hF)
    exact ⟨upd F1 T (.tup [a, b]), S.alloc h1, .tup (SqT.of upd_same) (.cons (r1.mono s2) (.cons (r2.mono s2) .nil))⟩
theorem sm_for {wi : TI} {g : TG} {tb : TS} (h : EvI B wi es fun xs => ∃ I : Nat → List Sl → Prop, I 0 es ∧
    (∀ (i : Nat) x es', xs[i]? = some x → I i es' → Tg B g es' x fun e2 => Sm B tb e2 { p with nx := I (i + 1), bk := p.nx, ct := I (i + 1) }) ∧ ∀ es', I xs.length es' → p.nx es') : Sm B (tFor wi g tb) es p := fun σ F H D S n b c r ro =>
  h σ F H S _ fun J xs F1 H1 g1 it ⟨I, i0, is, id⟩ => by
    have S1 := S.go g1
    refine ⟨fun i m σ' H' => m = xs.length - i ∧ i ≤ xs.length ∧ ∃ es' F', Stt B es' σ' F' H' ∧ Same F1 F' ∧ I i es', ⟨xs.length, by simp, Nat.zero_le _, es, F1, S1, Same.refl F1, i0⟩, ?_⟩
    rintro i m σ' H' ⟨rfl, hi, es', F', S', s', hI⟩
    by_cases hlt : i < xs.length
    · refine .inr ⟨it.goes i H' hlt (s'.trans S'.sub), fun σ2 H2 => ∃ es2 F2, Stt B es2 σ2 F2 H2 ∧ Same F1 F2 ∧ I (i + 1) es2, fun σ2 H2 ⟨es2, F2, a1, a2, a3⟩ => ⟨xs.length - (i + 1), by omega, rfl, hlt, es2, F2, a1, a2, a3⟩, fun v H2 y => ?_⟩
      obtain ⟨x, hx, hy⟩ := it.yields i H' v H2 hlt (s'.trans S'.sub) y
      obtain ⟨F2, g2, rx⟩ := hy.go S' s'
      refine is i x es' hx hI σ' F2 H2 v (S'.go g2) rx _ fun es3 σ3 F3 H3 S3 s3 hm => ?_
      have s03 : Same F1 F3 := (s'.trans g2.s1).trans s3
      refine hm σ3 F3 H3 _ S3 (fun e4 a4 F4 H4 S4 s4 q4 => ⟨e4, F4, S4, s03.trans s4, q4⟩) (fun e4 a4 F4 H4 S4 s4 q4 => n e4 a4 F4 H4 S4 ((g1.s1.trans s03).trans s4) q4)
        (fun e4 a4 F4 H4 S4 s4 q4 => ⟨e4, F4, S4, s03.trans s4, q4⟩) (fun v d e4 a4 F4 H4 S4 s4 q4 => r v d e4 a4 F4 H4 S4 ((g1.s1.trans s03).trans s4) q4) (fun a vs xs e2 a2 F2 H2 S2 s2 => ro a vs xs e2 a2 F2 H2 S2 ((g1.s1.trans s03).trans s2))
    · have e : i = xs.length := by omega
      subst e
      exact .inl ⟨it.stops H' (s'.trans S'.sub), n es' σ' F' H' S' (g1.s1.trans s') (id es' hI)⟩
theorem itd_list {K : PySem.W.Frag} {F : Hp} {a : Addr} {vs : List V} {xs : List Dt} (h : F a = some (.lst vs)) (r : RpAll K F vs xs) : ItD K (Itl K a) F xs where
  goes := fun i H hi s => ⟨vs, vs[i]'(by rw [r.length]; exact hi), SqL.of (s _ _ h), by simp⟩
  stops := fun H s => ⟨vs, SqL.of (s _ _ h), by rw [r.length]; exact Nat.le_refl _⟩
  yields := fun i H v H' hi s y => by
    obtain ⟨e, y2⟩ := y
    obtain ⟨d, h1, h2⟩ := r.getV (y2 vs (SqL.of (s _ _ h)))
    exact ⟨d, h1, .inl ⟨e, h2⟩⟩
theorem itd_tup {K : PySem.W.Frag} {F : Hp} {a : Addr} {vs : List V} {xs : List Dt} (h : SqT K F a vs) (r : RpAll K F vs xs) : ItD K (Itt K a) F xs where
  goes := fun i H hi s => ⟨vs, vs[i]'(by rw [r.length]; exact hi), sqT_mono s h, by simp⟩
  stops := fun H s => ⟨vs, sqT_mono s h, by rw [r.length]; exact Nat.le_refl _⟩
  yields := fun i H v H' hi s y => by
    obtain ⟨e, y2⟩ := y
    obtain ⟨d, h1, h2⟩ := r.getV (y2 vs (sqT_mono s h))
    exact ⟨d, h1, .inl ⟨e, h2⟩⟩
def rangeD (lo : Int) (n : Nat) : List Dt := (List.range n).map fun (i : Nat) => Dt.int (lo + (i : Int))
theorem rangeD_len (lo : Int) (n : Nat) : (rangeD lo n).length = n := by simp [rangeD]
theorem rangeD_get {lo : Int} {n i : Nat} {x : Dt} (h : (rangeD lo n)[i]? = some x) : i < n ∧ x = .int (lo + (i : Int)) := by
  have hl := (List.getElem?_eq_some_iff.mp h).1
  rw [rangeD_len] at hl
  refine ⟨hl, ?_⟩
  simp [rangeD, hl] at h
  exact h.symm
theorem itd_range {K : PySem.W.Frag} {F : Hp} {lo : Int} {n : Nat} : ItD K (Itr lo n) F (rangeD lo n) where
  goes := fun i H hi _ => by rw [rangeD_len] at hi; exact hi
  stops := fun H _ => by rw [rangeD_len]; exact Nat.le_refl _
  yields := fun i H v H' hi _ y => by
    rw [rangeD_len] at hi
    obtain ⟨rfl, rfl⟩ := y
    exact ⟨_, by simp [rangeD, hi], .inl ⟨rfl, .int _⟩⟩
def signsD (z : Str) : List Dt := z.cps.toList.map fun c => Dt.str ⟨#[c]⟩
theorem signsD_len (z : Str) : (signsD z).length = z.cps.size := by simp [signsD]
theorem itd_str {K : PySem.W.Frag} {F : Hp} {z : Str} : ItD K (Its z) F (signsD z) where
  goes := fun i H hi _ => by rw [signsD_len] at hi; exact hi
  stops := fun H _ => by rw [signsD_len]; exact Nat.le_refl _
  yields := fun i H v H' hi _ y => by
    obtain ⟨rfl, c, h1, rfl⟩ := y
    refine ⟨.str ⟨#[c]⟩, ?_, .inl ⟨rfl, .str _⟩⟩
    rw [signsD, List.getElem?_map, Array.getElem?_toList, h1]; rfl
def pairD : List Dt → List Dt → List Dt
  | x :: xs, y :: ys => .tup [x, y] :: pairD xs ys
  | _, _ => []
theorem pairD_len : ∀ (xs ys : List Dt), (pairD xs ys).length = min xs.length ys.length
  | [], ys => by simp [pairD]
  | x :: xs, [] => by simp [pairD]
  | x :: xs, y :: ys => by simp only [pairD, List.length_cons, pairD_len xs ys]; omega
theorem pairD_get : ∀ {xs ys : List Dt} {i : Nat} {x y : Dt}, xs[i]? = some x → ys[i]? = some y → (pairD xs ys)[i]? = some (.tup [x, y])
  | [], _, i, _, _, h, _ => by simp at h
  | _ :: _, [], i, _, _, _, h => by simp at h
  | a :: xs, b :: ys, 0, x, y, h1, h2 => by simp at h1 h2; subst h1 h2; rfl
  | a :: xs, b :: ys, i + 1, x, y, h1, h2 => by
    have := pairD_get (i := i) (xs := xs) (ys := ys) (x := x) (y := y) (by simpa using h1) (by simpa using h2)
    simpa [pairD] using this
theorem itd_zip {K : PySem.W.Frag} {F : Hp} {a b : Addr} {vs ws : List V} {xs ys : List Dt} (h : F a = some (.lst vs)) (r : RpAll K F vs xs) (h' : F b = some (.lst ws)) (r' : RpAll K F ws ys) : ItD K (Itz K a b) F (pairD xs ys) where
  goes := fun i H hi s => by
    rw [pairD_len] at hi
    have l1 := r.length
    have l2 := r'.length
    have w := walk_zip (K := K) (a := a) (b := b) (xs := vs) (ys := ws) (n := min vs.length ws.length) rfl
    exact w.goes i H (by omega) ⟨SqL.of (s _ _ h), SqL.of (s _ _ h')⟩
  stops := fun H s => by
    have l1 := r.length
    have l2 := r'.length
    have w := walk_zip (K := K) (a := a) (b := b) (xs := vs) (ys := ws) (n := min vs.length ws.length) rfl
    have q := w.stops H ⟨SqL.of (s _ _ h), SqL.of (s _ _ h')⟩
    rw [pairD_len, ← l1, ← l2]
    exact q
  yields := fun i H v H' hi s y => by
    rw [pairD_len] at hi
    have l1 := r.length
    have l2 := r'.length
    have w := walk_zip (K := K) (a := a) (b := b) (xs := vs) (ys := ws) (n := min vs.length ws.length) rfl
    obtain ⟨T, x, z, e1, e2, e3, e4, e5⟩ := w.yields i H v H' (by omega) ⟨SqL.of (s _ _ h), SqL.of (s _ _ h')⟩ y
    obtain ⟨d1, k1, k2⟩ := r.getV e4
    obtain ⟨d2, k3, k4⟩ := r'.getV e5
    exact ⟨_, pairD_get k1 k3, .inr ⟨T, x, z, d1, d2, e1, e2, e3, k2, k4, rfl⟩⟩
theorem itd_zipT {K : PySem.W.Frag} {F : Hp} {a b : Addr} {vs ws : List V} {xs ys : List Dt} (h : SqT K F a vs) (r : RpAll K F vs xs) (h' : SqT K F b ws) (r' : RpAll K F ws ys) : ItD K (RZ.ItzT K a b) F (pairD xs ys) where
  goes := fun i H hi s => by
    rw [pairD_len] at hi
    have l1 := r.length
    have l2 := r'.length
    have i1 : i < vs.length := by omega
    have i2 : i < ws.length := by omega
    exact ⟨vs, ws, vs[i], ws[i], sqT_mono s h, sqT_mono s h', by simp [i1], by simp [i2]⟩
  stops := fun H s => by
    have l1 := r.length
    have l2 := r'.length
    exact ⟨vs, ws, sqT_mono s h, sqT_mono s h', by rw [pairD_len]; omega⟩
  yields := fun i H v H' hi s y => by
    rw [pairD_len] at hi
    obtain ⟨T, x, z, e1, e2, e3, e4, e5⟩ := y
    obtain ⟨d1, k1, k2⟩ := r.getV (e4 vs (sqT_mono s h))
    obtain ⟨d2, k3, k4⟩ := r'.getV (e5 ws (sqT_mono s h'))
    exact ⟨_, pairD_get k1 k3, .inr ⟨T, x, z, d1, d2, e1, e2, e3, k2, k4, rfl⟩⟩
theorem ei_list {te : TE} {P : List Dt → Prop} (h : Ev B te es fun d => ∃ xs, d = .lst xs ∧ P xs) : EvI B (iList B.K te) es P := fun σ F H S R q => h σ F H S _ fun v d F1 H1 g1 r1 ⟨xs, e, p1⟩ => by
  subst e
  cases r1 with
  | lst h1 h2 => exact ⟨_, rfl, ⟨_, SqL.of (g1.s2 _ _ h1)⟩, q _ xs F1 H1 g1 (itd_list h1 h2) p1⟩
theorem ei_tup {te : TE} {P : List Dt → Prop} (h : Ev B te es fun d => ∃ xs, d = .tup xs ∧ P xs) : EvI B (iTup B.K te) es P := fun σ F H S R q => h σ F H S _ fun v d F1 H1 g1 r1 ⟨xs, e, p1⟩ => by
  subst e
  cases r1 with
  | tup h1 h2 => exact ⟨_, rfl, ⟨_, sqT_mono g1.s2 h1⟩, q _ xs F1 H1 g1 (itd_tup h1 h2) p1⟩
theorem ei_rng1 {ta : TA} {P : List Dt → Prop} (h : EvA B ta es fun ds => ∃ n : Int, ds = [.int n] ∧ -(2 ^ 62) ≤ n ∧ n < 2 ^ 62 ∧ P (rangeD 0 n.toNat)) : EvI B (iRng1 ta) es P := fun σ F H S R q => h σ F H S _ fun vs ds F1 H1 g1 r1 ⟨n, e, l1, l2, p1⟩ => by
  subst e
  obtain ⟨v, rfl, r⟩ := rp1 r1
  cases r
  exact ⟨n, rfl, l1, l2, q _ _ F1 H1 g1 itd_range p1⟩
theorem ei_rng2 {ta : TA} {P : List Dt → Prop} (h : EvA B ta es fun ds => ∃ m n : Int, ds = [.int m, .int n] ∧ (-(2 ^ 62) ≤ m ∧ m < 2 ^ 62 ∧ -(2 ^ 62) ≤ n ∧ n < 2 ^ 62) ∧ P (rangeD m (n - m).toNat)) : EvI B (iRng2 ta) es P := fun σ F H S R q => h σ F H S _ fun vs ds F1 H1 g1 r1 ⟨m, n, e, l1, p1⟩ => by
  subst e
  obtain ⟨v, w, rfl, r, r'⟩ := rp2 r1
  cases r; cases r'
  exact ⟨m, n, rfl, l1, q _ _ F1 H1 g1 itd_range p1⟩
theorem ei_str {te : TE} {P : List Dt → Prop} (h : Ev B te es fun d => ∃ z, d = .str z ∧ P (signsD z)) : EvI B (iStr te) es P := fun σ F H S R q => h σ F H S _ fun v d F1 H1 g1 r1 ⟨z, e, p1⟩ => by
  subst e
  cases r1
  exact ⟨z, rfl, q _ _ F1 H1 g1 itd_str p1⟩
theorem ei_zip {ta : TA} {P : List Dt → Prop} (h : EvA B ta es fun ds => ∃ xs ys, (ds = [.lst xs, .lst ys] ∨ ds = [.tup xs, .tup ys]) ∧ P (pairD xs ys)) : EvI B (RZ.iZipA B.K ta) es P := fun σ F H S R q => h σ F H S _ fun vs ds F1 H1 g1 r1 ⟨xs, ys, e, p1⟩ => by
  rcases e with e | e
  · subst e
    obtain ⟨v, w, rfl, r, r'⟩ := rp2 r1
    cases r with
    | lst h1 h2 =>
      cases r' with
      | lst h3 h4 => exact ⟨_, _, _, _, rfl, .inl ⟨SqL.of (g1.s2 _ _ h1), SqL.of (g1.s2 _ _ h3), q _ _ F1 H1 g1 (itd_zip h1 h2 h3 h4) p1⟩⟩
  · subst e
    obtain ⟨v, w, rfl, r, r'⟩ := rp2 r1
    cases r with
    | tup h1 h2 =>
      cases r' with
      | tup h3 h4 => exact ⟨_, _, _, _, rfl, .inr ⟨sqT_mono g1.s2 h1, sqT_mono g1.s2 h3, q _ _ F1 H1 g1 (itd_zipT h1 h2 h3 h4) p1⟩⟩
/-! ### comprehensions -/
def wipeE (es : List Sl) : List Nat → List Sl
  | [] => es
  | v :: vs => (wipeE es vs).set v .no
theorem Stt.wipe {σ : St} {F H : Hp} (S : Stt B es σ F H) : ∀ vs : List Nat, Stt B (wipeE es vs) (wipe σ vs) F H
  | [] => S
  | v :: vs => (S.wipe vs).set (i := v) (e := .no) (o := none) rfl fun _ _ e => nomatch e
/-- what a target that stores into slots of vs alone does -/
def TgC (B : Bs) (g : TG) (es : List Sl) (vs : List Nat) (x : Dt) (P : List Sl → Prop) : Prop := ∀ σ F H v, Stt B es σ F H → Rp B.K F v x → ∀ Q : St → Hp → Prop, (∀ es' σ', Stt B es' σ' F H → wipe σ' vs = wipe σ vs → P es' → Q σ' H) → g v σ H Q
theorem tc_name {j : Nat} {x : Dt} {P : List Sl → Prop} (h : P (es.set j (.d x))) : TgC B (gName j) es [j] x P := fun σ F H v S r Q q => q _ _ (S.setD r) (by simp [wipe]) h
theorem tc_tup2 {i j : Nat} {x y : Dt} {P : List Sl → Prop} (hij : i ≠ j) (h : P ((es.set i (.d x)).set j (.d y))) : TgC B (gTup B.K 2 (gCons (gName i) (gCons (gName j) gNil))) es [i, j] (.tup [x, y]) P := fun σ F H v S r Q q => by
  cases r with
  | tup h1 h2 =>
    obtain ⟨a, b, rfl, r1, r2⟩ := rp2 h2
    refine ⟨_, _, rfl, sqT_mono S.sub h1, rfl, a, [b], rfl, b, [], rfl, rfl, q _ _ ((S.setD r1).setD r2) ?_ h⟩
    simp only [wipe]
    apply List.ext_getElem?
    intro k
    simp only [List.getElem?_set, List.length_set]
    by_cases h1 : i = k <;> by_cases h2 : j = k <;> simp [h1, h2]
theorem tc_tup2' {i j : Nat} {x y : Dt} {P : List Sl → Prop} (hij : i ≠ j) (h : P ((es.set i (.d x)).set j (.d y))) : TgC B (gTup B.K 2 (gCons (gName i) (gCons (gName j) gNil))) es [j, i] (.tup [x, y]) P := fun σ F H v S r Q q => by
  cases r with
  | tup h1 h2 =>
    obtain ⟨a, b, rfl, r1, r2⟩ := rp2 h2
    refine ⟨_, _, rfl, sqT_mono S.sub h1, rfl, a, [b], rfl, b, [], rfl, rfl, q _ _ ((S.setD r1).setD r2) ?_ h⟩
    simp only [wipe]
    apply List.ext_getElem?
    intro k
    simp only [List.getElem?_set, List.length_set]
    by_cases h1 : i = k <;> by_cases h2 : j = k <;> simp [h1, h2]
theorem wipe_wipe (σ : St) (vs : List Nat) : wipe (wipe σ vs) vs = wipe σ vs := by
  have key : ∀ (us : List Nat) (τ : St) (k : Nat), (wipe τ us)[k]? = if k ∈ us then (τ[k]?).map (fun _ => none) else τ[k]? := by
    intro us
    induction us with
    | nil => intro τ k; simp [wipe]
    | cons u us ih =>
      intro τ k
      rw [wipe, List.getElem?_set, wipe_length]
      by_cases h : u = k
      · subst h
        by_cases hl : u < τ.length
        · simp [hl]
        · simp [hl, ih]
      · rw [if_neg h, ih]
        by_cases h2 : k ∈ us
        · simp [h2]
        · have : ¬ k = u := fun e => h e.symm
          simp [h2, this]
  apply List.ext_getElem?
  intro k
  rw [key, key]
  by_cases h : k ∈ vs
  · simp only [h, if_true]
    cases σ[k]? <;> rfl
  · simp [h]
theorem eo_lc {wi : TI} {g : TG} {tt : TT} {te : TE} {vs : List Nat} {P : List Dt → Prop} (h : EvI B wi es fun xs => xs.length < 100000 ∧ ∃ I : Nat → List Dt → Prop, I 0 [] ∧
    (∀ (i : Nat) x acc, xs[i]? = some x → I i acc → TgC B g (wipeE es vs) vs x fun e2 => EvT B tt e2 fun b => (b = true → Ev B te e2 fun y => I (i + 1) (acc ++ [y])) ∧ (b = false → I (i + 1) acc)) ∧ ∀ acc, I xs.length acc → P acc) : EvO B (tLc wi g tt te vs) es P := fun σ F H S Q q =>
  h σ F H S _ fun J xs F1 H1 g1 it ⟨hlen, I, i0, is, id⟩ => by
    intro Dl hD
    have S1 := S.go g1
    have hH : H Dl = none := g1.new (S1.newB hD) hD
    have gD := S1.allocO (o := .lst []) hD
    refine ⟨fun i m H' => m = xs.length - i ∧ i ≤ xs.length ∧ ∃ F' ws acc, Go B F1 (upd H1 Dl (.lst [])) F' (upd H' Dl (.lst [])) ∧ F' Dl = none ∧ Same F' H' ∧ (∀ b, B.bag = some b → BagAt B.K F' H' b) ∧ LamX.Tabs B.T H' ∧ H' Dl = some (.lst ws) ∧ RpAll B.K F' ws acc ∧ acc.length ≤ i ∧ I i acc,
      ⟨xs.length, by simp, Nat.zero_le _, F1, [], [], ?_, same_none S1.sub hD, gD.s2, gD.bg, gD.tb, upd_same, .nil, Nat.zero_le _, i0⟩, ?_⟩
    · rw [upd_upd]
      exact (S1.go gD).refl
    rintro i m H' ⟨rfl, hi, F', ws, acc, g', hF', s', b', t', hw, hr, hal, hI⟩
    have gAll : Go B F1 H1 F' H' := by
      refine ⟨g'.s1, s', fun c h1 h2 => ?_, fun c o h1 h2 => ?_, b', t'⟩
      · refine g'.nw c ?_ h2
        rw [upd_ne (fun e => h1 (by rw [e]; exact hD))]
        exact h1
      · have hc : c ≠ Dl := ne_of_none h2 hD
        have k := g'.kp c o h1 (by rw [upd_ne hc]; exact h2)
        rw [upd_ne hc] at k
        exact k
    have S' := S1.go gAll
    by_cases hlt : i < xs.length
    · refine .inr ⟨it.goes i H' hlt (g'.s1.trans s'), fun H2 => ∃ F2 ws2 acc2, Go B F1 (upd H1 Dl (.lst [])) F2 (upd H2 Dl (.lst [])) ∧ F2 Dl = none ∧ Same F2 H2 ∧ (∀ b, B.bag = some b → BagAt B.K F2 H2 b) ∧ LamX.Tabs B.T H2 ∧ H2 Dl = some (.lst ws2) ∧ RpAll B.K F2 ws2 acc2 ∧ acc2.length ≤ i + 1 ∧ I (i + 1) acc2,
        fun H2 q2 => ⟨xs.length - (i + 1), by omega, rfl, hlt, q2⟩, fun v H2 y => ?_⟩
      obtain ⟨x, hx, hy⟩ := it.yields i H' v H2 hlt (g'.s1.trans s') y
      obtain ⟨F2, g2, rx⟩ := hy.go S' g'.s1
      have S2 := (S'.go g2).wipe vs
      have hD' : B.off Dl := S1.newB hD
      refine is i x acc hx hI _ F2 H2 v S2 rx _ fun es3 σ3 S3 hw3 p3 => ?_
      rw [wipe_wipe] at hw3
      refine ⟨hw3, p3 σ3 F2 H2 S3 _ fun b F3 H3 g3 p4 => ?_⟩
      -- from (F', H') to (F3, H3): the new list stays
      have g23 : Go B F' H' F3 H3 := g2.trans g3
      have hl3 : H3 Dl = some (.lst ws) := g23.kp Dl _ hD' hw
      have hF3 : F3 Dl = none := g23.nw Dl (by rw [hw]; simp) hF'
      have fin : ∀ F4 H4, Go B F' H' F4 H4 → F4 Dl = none → ∀ o, Go B F1 (upd H1 Dl (.lst [])) F4 (upd (upd H4 Dl o) Dl (.lst [])) := fun F4 H4 g4 hn o => by
        rw [upd_upd]
        have hl4' : H4 Dl = some (.lst ws) := g4.kp Dl _ hD' hw
        refine ⟨g'.s1.trans g4.s1, fun c u e => ?_, fun c h1 h2 => ?_, fun c u h1 h2 => ?_, fun b hb => ?_, fun q hq => tabS_kept (g4.tb q hq) fun c o k hn => gh_upd hl4' (fun z => z) k hn⟩
        · rw [upd_ne (ne_of_none e hn)]; exact g4.s2 c u e
        · by_cases hc : c = Dl
          · rw [hc]; exact hn
          · rw [upd_ne hc] at h1
            have := gAll.nw c h1 h2
            exact g4.nw c (gAll.live h1) this
        · by_cases hc : c = Dl
          · rw [hc, upd_same] at h2 ⊢; exact h2
          · rw [upd_ne hc] at h2 ⊢; exact g4.kp c u h1 (gAll.kp c u h1 h2)
        · obtain ⟨k1, z, zs, k2, k3, k4⟩ := g4.bg b hb
          have hbd : b ≠ Dl := fun e => hD'.1 (by rw [hb, e])
          exact ⟨k1, z, zs, by rw [upd_ne hbd]; exact k2, k3, k4⟩
      cases b with
      | true =>
        show te σ3 H3 _
        refine p4.1 rfl σ3 F3 H3 (S3.go g3) _ fun w y' F4 H4 g4 r4 p5 => ?_
        have g24 := g23.trans g4
        have hl4 : H4 Dl = some (.lst ws) := g24.kp Dl _ hD' hw
        have hF4 : F4 Dl = none := g24.nw Dl (by rw [hw]; simp) hF'
        have hb4 : ∀ b, B.bag = some b → BagAt B.K F4 (upd H4 Dl (.lst (ws ++ [w]))) b := fun b hb => by
          obtain ⟨k1, z, zs, k2, k3, k4⟩ := g4.bg b hb
          have hbd : b ≠ Dl := fun e => hD'.1 (by rw [hb, e])
          exact ⟨k1, z, zs, by rw [upd_ne hbd]; exact k2, k3, k4⟩
        refine ⟨ws, hl4, size_lt (by rw [hr.length]; omega), F4, ws ++ [w], acc ++ [y'], fin F4 H4 g24 hF4 _, hF4, fun c u e => by rw [upd_ne (ne_of_none e hF4)]; exact g4.s2 c u e, hb4, fun q hq => tabS_kept (g4.tb q hq) fun c o k hn => gh_upd hl4 (fun z => z) k hn, upd_same, (hr.mono g24.s1).app (.cons r4 .nil), by simp; omega, p5⟩
      | false =>
        have e3 : upd H3 Dl (.lst ws) = H3 := by
          funext c
          by_cases hc : c = Dl
          · rw [hc, upd_same, hl3]
          · rw [upd_ne hc]
        refine ⟨F3, ws, acc, ?_, hF3, g3.s2, g3.bg, g23.tb, hl3, hr.mono g23.s1, by omega, p4.2 rfl⟩
        have := fin F3 H3 g23 hF3 (.lst ws)
        rw [e3] at this
        exact this
    · have e : i = xs.length := by omega
      subst e
      exact .inl ⟨it.stops H' (g'.s1.trans s'), q Dl ws acc F' H' (g1.trans gAll) hH hF' hw hr (id acc hI)⟩
theorem et_yes {P : Bool → Prop} (h : P true) : EvT B tYes es P := fun σ F H S Q q => q true F H S.refl h
/-- [f(x) for x in xs] where each item is told -/
theorem eo_map {wi : TI} {g : TG} {te : TE} {vs : List Nat} {P : List Dt → Prop} (h : EvI B wi es fun xs => xs.length < 100000 ∧ ∃ R : Dt → Dt → Prop,
    (∀ (i : Nat) x, xs[i]? = some x → TgC B g (wipeE es vs) vs x fun e2 => Ev B te e2 fun y => R x y) ∧ ∀ ys : List Dt, ys.length = xs.length → (∀ (i : Nat) x y, xs[i]? = some x → ys[i]? = some y → R x y) → P ys) : EvO B (tLc wi g tYes te vs) es P :=
  eo_lc fun σ F H S Q q => h σ F H S Q fun J xs F1 H1 g1 it ⟨hl, R, h1, h2⟩ => q J xs F1 H1 g1 it ⟨hl, fun i acc => i ≤ xs.length ∧ acc.length = i ∧ ∀ (k : Nat) x y, xs[k]? = some x → acc[k]? = some y → R x y, ⟨Nat.zero_le _, rfl, fun k x y _ e => by simp at e⟩,
    fun i x acc hx ⟨hi, ha, hR⟩ σ F H v S r Q q => h1 i x hx σ F H v S r Q fun es' σ' S' hw p => q es' σ' S' hw (et_yes ⟨fun _ => p.imp fun y hy => ⟨(List.getElem?_eq_some_iff.mp hx).1, by rw [List.length_append, ha]; rfl, fun k a b ka kb => by
      by_cases hk : k < acc.length
      · rw [List.getElem?_append_left hk] at kb; exact hR k a b ka kb
      · rw [List.getElem?_append_right (by omega)] at kb
        have hk2 : k = i := by
          have := (List.getElem?_eq_some_iff.mp kb).1
          simp at this; omega
        subst hk2
        rw [hx] at ka
        cases ka
        rw [ha] at kb
        simp at kb
        rw [← kb]
        exact hy⟩, fun z => nomatch z⟩), fun acc ⟨_, ha, hR⟩ => h2 acc ha hR⟩
end

/-! ### the promise of a def -/
/-- a def that hands back a new list -/
def spO (K : PySem.W.Frag) (Pre : List Dt → Prop) (Post : List Dt → List Dt → Prop) : Sp := fun vs H Q _ => ∃ F ds, Same F H ∧ RpAll K F vs ds ∧ Pre ds ∧
  ∀ a ws xs F' H', Same F F' → (∀ c, H c ≠ none → F c = none → F' c = none) → Same F' H' → Same H H' → H a = none → F' a = none → H' a = some (.lst ws) → RpAll K F' ws xs → Post ds xs → Q (.ref a) H'
theorem eo_call {B : Bs} {es : List Sl} {Pre : List Dt → Prop} {Post : List Dt → List Dt → Prop} {E : XK} {ta : TA} {P : List Dt → Prop} (h : EvA B ta es fun ds => Pre ds ∧ ∀ d, Post ds d → P d) : EvO B (tCall (spO B.K Pre Post) [] E ta) es P := fun σ F H S Q q =>
  h σ F H S _ fun vs ds F1 H1 g1 r1 ⟨p1, p2⟩ => by
    rw [List.append_nil]
    exact ⟨F1, ds, g1.s2, r1, p1, fun a ws xs F2 H2 s1 s2 s3 s4 h1 h2 h3 r2 p3 => q a ws xs F2 H2 (g1.trans ((S.go g1).pure s1 s3 s2 s4)) (g1.new ((S.go g1).newB h1) h1) h2 h3 r2 (p2 xs p3)⟩
theorem eo_callD {B : Bs} {es : List Sl} {Pre : List Dt → Prop} {Post : List Dt → List Dt → Prop} {E : XK} {ta : TA} {P : List Dt → Prop} {dvs : List V} {dds : List Dt} (hd : ∀ F, RpAll B.K F dvs dds) (h : EvA B ta es fun ds => Pre (ds ++ dds) ∧ ∀ d, Post (ds ++ dds) d → P d) : EvO B (tCall (spO B.K Pre Post) dvs E ta) es P := fun σ F H S Q q =>
  h σ F H S _ fun vs ds F1 H1 g1 r1 ⟨p1, p2⟩ => ⟨F1, ds ++ dds, g1.s2, r1.app (hd F1), p1, fun a ws xs F2 H2 s1 s2 s3 s4 h1 h2 h3 r2 p3 => q a ws xs F2 H2 (g1.trans ((S.go g1).pure s1 s3 s2 s4)) (g1.new ((S.go g1).newB h1) h1) h2 h3 r2 (p2 xs p3)⟩
theorem eo_callN {B : Bs} {es : List Sl} {Pre : List Dt → Prop} {Post : List Dt → List Dt → Prop} {E : XK} {ta tk : TA} {P : List Dt → Prop} {n m : Nat} {gV : List V → List V → List V} {gD : List Dt → List Dt → List Dt}
    (hg : ∀ F vs ds zs as, RpAll B.K F vs ds → RpAll B.K F zs as → RpAll B.K F (gV vs zs) (gD ds as))
    (h : EvA B ta es fun ds => EvA B tk es fun as => ds.length = n ∧ as.length = m ∧ Pre (gD ds as) ∧ ∀ d, Post (gD ds as) d → P d) : EvO B (tCallN n m (spO B.K Pre Post) gV E ta tk) es P := fun σ F H S Q q =>
  h σ F H S _ fun vs ds F1 H1 g1 r1 p0 => p0 σ F1 H1 (S.go g1) _ fun zs as F2 H2 g2 r2 ⟨l1, l2, p1, p2⟩ => by
    have g := g1.trans g2
    exact ⟨by rw [r1.length]; exact l1, by rw [r2.length]; exact l2, F2, gD ds as, g2.s2, hg F2 _ _ _ _ (r1.mono g2.s1) r2, p1, fun a ws xs F3 H3 s1 s2 s3 s4 h1 h2 h3 r3 p3 => q a ws xs F3 H3 (g.trans ((S.go g).pure s1 s3 s2 s4)) (g.new ((S.go g).newB h1) h1) h2 h3 r3 (p2 xs p3)⟩
theorem off_nil {K : PySem.W.Frag} {F H : Hp} {c : Addr} : (⟨K, F, H, none, []⟩ : Bs).off c := ⟨(fun z => nomatch z), (fun _ z => nomatch z)⟩
theorem start_stt {K : PySem.W.Frag} {F H : Hp} {vs : List V} {ds : List Dt} {N : List Str} {bag : Option Addr} {T : List (Addr × Str)} (s : Same F H) (r : RpAll K F vs ds) (hb : ∀ b, bag = some b → BagAt K F H b) (ht : LamX.Tabs T H) (htn : ∀ p ∈ T, F p.1 = none) :
    Stt ⟨K, F, H, bag, T⟩ (ds.map Sl.d ++ List.replicate (N.length - ds.length) Sl.no) (L2.start N vs) F H where
  sub := s
  s0 := Same.refl F
  ou := fun c _ h => h
  fr := fun c o h _ => h
  bg := hb
  tb := ht
  tn := htn
  len := by simp [L2.start, r.length]
  ok := fun i e o h1 h2 => by
    unfold L2.start at h2
    by_cases hi : i < ds.length
    · rw [List.getElem?_append_left (by simpa using hi)] at h1
      rw [List.getElem?_append_left (by simp [r.length]; exact hi)] at h2
      rw [List.getElem?_map] at h1 h2
      cases e1 : ds[i]? with
      | none => rw [e1] at h1; cases h1
      | some d =>
        obtain ⟨v, k1, k2⟩ := r.get e1
        rw [e1] at h1
        rw [k1] at h2
        cases h1; cases h2
        exact ⟨v, rfl, k2⟩
    · rw [List.getElem?_append_right (by simpa using hi)] at h1
      rw [List.getElem?_append_right (by simp [r.length]; omega)] at h2
      have q1 := List.mem_of_getElem? h1
      have q2 := List.mem_of_getElem? h2
      rw [List.eq_of_mem_replicate q1, List.eq_of_mem_replicate q2]
      rfl
  ow := fun i a xs h1 => by
    have hm := List.mem_of_getElem? h1
    rcases List.mem_append.mp hm with h | h
    · obtain ⟨d, _, e⟩ := List.mem_map.mp h; cases e
    · cases List.eq_of_mem_replicate h
  dis := fun i j a b xs ys _ h1 => by
    have hm := List.mem_of_getElem? h1
    rcases List.mem_append.mp hm with h | h
    · obtain ⟨d, _, e⟩ := List.mem_map.mp h; cases e
    · cases List.eq_of_mem_replicate h
  obw := fun i a C dx ns xs bs h1 => by
    have hm := List.mem_of_getElem? h1
    rcases List.mem_append.mp hm with h | h
    · obtain ⟨d, _, e⟩ := List.mem_map.mp h; cases e
    · cases List.eq_of_mem_replicate h
abbrev env0 (N : List Str) (ds : List Dt) : List Sl := ds.map Sl.d ++ List.replicate (N.length - ds.length) Sl.no
abbrev env1 (N : List Str) (b : Addr) (ds : List Dt) : List Sl := .r (.ref b) :: (ds.map Sl.d ++ List.replicate (N.length - (ds.length + 1)) Sl.no)
section
variable {P : Program} {w : World} {K : PySem.W.Frag} {mg : Str → Option Value} {base : Heap} {x qual : Str} {st : Stmt} {f : Addr} {fd : FuncData} {N ps : List Str} {k : Nat} {Pre : List Dt → Prop} {Post : List Dt → Dt → Prop}
theorem fn_data (G : Fun K x qual st f fd) (S : FnScope N ps (defScope st)) (hl : ∀ ds, Pre ds → ds.length = ps.length)
    (hb : ∀ (cdv : Value) (A : Around) (outer : List Env) (s : Shared) (H : Hp) (E : XK), Room k (A.deeper (PyProof.Rows.envOfC qual (defScope st) s.heap.objs.size f cdv)) →
      ∃ t, PSs (cxOf CX0 P w K mg base N qual (defScope st) f cdv A outer s H E).nox (defBody st) t ∧ ∀ F0 H0 ds, Pre ds → Sm ⟨K, F0, H0, none, []⟩ t (env0 N ds) { nx := fun _ => Post ds .non, bk := fun _ => False, ct := fun _ => False, rt := fun _ => Post ds }) :
    FnOk P w K mg base CX0 (k + 1) f fd ps (spD K Pre Post) := by
  refine G.ok S (fun vs H Q E h => ?_) (fun cdv A outer s H vs Q E hr h => ?_)
  · obtain ⟨F, ds, _, r, hp, _⟩ := h
    rw [r.length]; exact hl ds hp
  · obtain ⟨F, ds, hs, r, hp, q⟩ := h
    obtain ⟨t, hd, hm⟩ := hb cdv A outer s H E hr
    refine ⟨t, hd, hm F H ds hp _ F H _ (start_stt hs r (fun _ z => nomatch z) (fun _ z => nomatch z) (fun _ z => nomatch z)) (fun es' σ' F' H' S' s' p => ?_) (fun _ _ _ _ _ _ z => z.elim) (fun _ _ _ _ _ _ z => z.elim) (fun v d es' σ' F' H' S' s' rv p => ?_) (fun _ _ _ _ _ _ _ _ _ _ _ _ _ _ z => z.elim)⟩
    · exact q _ _ F' H' s' S'.ou S'.sub (fun c o e => S'.fr c o e off_nil) .non p
    · exact q _ _ F' H' s' S'.ou S'.sub (fun c o e => S'.fr c o e off_nil) rv p
/-- a def whose first argument is the drawing's list, changed within -/
theorem fn_draw (G : Fun K x qual st f fd) (S : FnScope N ps (defScope st)) (hl : ∀ ds, Pre ds → ds.length + 1 = ps.length)
    (hb : ∀ (cdv : Value) (A : Around) (outer : List Env) (s : Shared) (H : Hp) (E : XK), Room k (A.deeper (PyProof.Rows.envOfC qual (defScope st) s.heap.objs.size f cdv)) →
      ∃ t, PSs (cxOf CX0 P w K mg base N qual (defScope st) f cdv A outer s H E).nox (defBody st) t ∧ ∀ F0 H0 b xs ds, BagD xs → Pre ds →
        Sm ⟨K, F0, H0, none, []⟩ t (.own b xs :: (ds.map Sl.d ++ List.replicate (N.length - (ds.length + 1)) Sl.no)) { nx := fun _ => False, bk := fun _ => False, ct := fun _ => False, rt := fun es' d => Post ds d ∧ ∃ ys, es'[0]? = some (.own b ys) ∧ BagD ys }) :
    FnOk P w K mg base CX0 (k + 1) f fd ps (spB K Pre Post) := by
  refine G.ok S (fun vs H Q E h => ?_) (fun cdv A outer s H vs Q E hr h => ?_)
  · obtain ⟨b, ws, F, ds, rfl, _, _, r, hp, _⟩ := h
    rw [List.length_cons, r.length]; exact hl ds hp
  · obtain ⟨b, ws, F, ds, rfl, hs, ⟨hFb, us, xs, hus, hr0, hB⟩, r, hp, q⟩ := h
    obtain ⟨t, hd, hm⟩ := hb cdv A outer s H E hr
    let H0 : Hp := fun c => if c = b then none else H c
    have e0 : H0 b = none := if_pos rfl
    have e1 : ∀ c, c ≠ b → H0 c = H c := fun c hc => if_neg hc
    have S0 := start_stt (K := K) (F := F) (H := H) (vs := .non :: ws) (ds := .non :: ds) (N := N) (bag := none) (T := []) hs (.cons .non r) (fun _ z => nomatch z) (fun _ z => nomatch z) (fun _ z => nomatch z)
    have no : ∀ (j : Nat) c zs, (Sl.d .non :: (ds.map Sl.d ++ List.replicate (N.length - (ds.length + 1)) Sl.no))[j]? = some (.own c zs) → False := fun j c zs hj => by
      have hm := List.mem_of_getElem? hj
      rcases List.mem_cons.mp hm with h | h
      · cases h
      · rcases List.mem_append.mp h with h | h
        · obtain ⟨d, _, e⟩ := List.mem_map.mp h; cases e
        · cases List.eq_of_mem_replicate h
    have S1 : Stt ⟨K, F, H0, none, []⟩ (.d .non :: (ds.map Sl.d ++ List.replicate (N.length - (ds.length + 1)) Sl.no)) (L2.start N (.non :: ws)) F H := by
      refine ⟨S0.sub, S0.s0, fun c h1 h2 => h2, fun c o h1 _ => ?_, (fun _ z => nomatch z), (fun _ z => nomatch z), (fun _ z => nomatch z), S0.len, S0.ok, fun i a ys h1 => (no i a ys h1).elim, S0.dis, fun i a C dx ns xs bs h1 => by
        have hm := List.mem_of_getElem? h1
        rcases List.mem_cons.mp hm with h | h
        · cases h
        · rcases List.mem_append.mp h with h | h
          · obtain ⟨d, _, e⟩ := List.mem_map.mp h; cases e
          · cases List.eq_of_mem_replicate h⟩
      have h1 : H0 c = some o := h1
      by_cases hc : c = b
      · rw [hc, e0] at h1; cases h1
      · rw [e1 c hc] at h1; exact h1
    have S2 : Stt ⟨K, F, H0, none, []⟩ (.own b xs :: (ds.map Sl.d ++ List.replicate (N.length - (ds.length + 1)) Sl.no)) (L2.start N (.ref b :: ws)) F H :=
      S1.set (i := 0) (e := .own b xs) (o := some (.ref b)) ⟨us, rfl, hFb, hus, hr0⟩ fun c ys e => by
        cases e
        exact ⟨e0, off_nil, fun j c zs hj => (no j c zs hj).elim⟩
    refine ⟨t, hd, hm F H0 b xs ds hB hp _ F H _ S2 (fun _ _ _ _ _ _ z => z.elim) (fun _ _ _ _ _ _ z => z.elim) (fun _ _ _ _ _ _ z => z.elim) (fun v d es' σ' F' H' S' s' rv ⟨p, ys, hy, hB'⟩ => ?_) (fun _ _ _ _ _ _ _ _ _ _ _ _ _ _ z => z.elim)⟩
    obtain ⟨vs', k1, k2, k3, k4⟩ := S'.own hy
    refine q v d F' H' s' (fun c h1 h2 => ?_) S'.sub (fun c o hc ho => S'.fr c o (by show H0 c = some o; rw [e1 c hc]; exact ho) off_nil) ⟨k2, vs', ys, k3, k4, hB'⟩ rv p
    by_cases hc : c = b
    · rw [hc]; exact k2
    · exact S'.ou c (by show H0 c ≠ none; rw [e1 c hc]; exact h1) h2
/-- the promise of a def that hands back a new list -/
theorem fn_own {PostO : List Dt → List Dt → Prop} (G : Fun K x qual st f fd) (S : FnScope N ps (defScope st)) (hl : ∀ ds, Pre ds → ds.length = ps.length)
    (hb : ∀ (cdv : Value) (A : Around) (outer : List Env) (s : Shared) (H : Hp) (E : XK), Room k (A.deeper (PyProof.Rows.envOfC qual (defScope st) s.heap.objs.size f cdv)) →
      ∃ t, PSs (cxOf CX0 P w K mg base N qual (defScope st) f cdv A outer s H E).nox (defBody st) t ∧ ∀ F0 H0 ds, Pre ds → Sm ⟨K, F0, H0, none, []⟩ t (env0 N ds) { nx := fun _ => False, bk := fun _ => False, ct := fun _ => False, rt := fun _ _ => False, ro := PostO ds }) :
    FnOk P w K mg base CX0 (k + 1) f fd ps (spO K Pre PostO) := by
  refine G.ok S (fun vs H Q E h => ?_) (fun cdv A outer s H vs Q E hr h => ?_)
  · obtain ⟨F, ds, _, r, hp, _⟩ := h
    rw [r.length]; exact hl ds hp
  · obtain ⟨F, ds, hs, r, hp, q⟩ := h
    obtain ⟨t, hd, hm⟩ := hb cdv A outer s H E hr
    refine ⟨t, hd, hm F H ds hp _ F H _ (start_stt hs r (fun _ z => nomatch z) (fun _ z => nomatch z) (fun _ z => nomatch z)) (fun _ _ _ _ _ _ z => z.elim) (fun _ _ _ _ _ _ z => z.elim) (fun _ _ _ _ _ _ z => z.elim) (fun _ _ _ _ _ _ _ _ _ z => z.elim) (fun a vs xs es' σ' F' H' S' s' h1 h2 r1 h3 h4 p => ?_)⟩
    exact q a vs xs F' H' s' S'.ou S'.sub (fun c o e => S'.fr c o e off_nil) h3 h1 h2 r1 p
theorem start_sttB {F H : Hp} {vs : List V} {ds : List Dt} {b : Addr} (s : Same F H) (r : RpAll K F vs ds) (hb : BagAt K F H b) : Stt ⟨K, F, H, some b, []⟩ (env1 N b ds) (L2.start N (.ref b :: vs)) F H := by
  have S := start_stt (K := K) (F := F) (H := H) (vs := .non :: vs) (ds := .non :: ds) (N := N) (bag := some b) (T := []) s (.cons .non r) (fun b' e => by cases e; exact hb) (fun _ z => nomatch z) (fun _ z => nomatch z)
  have S2 := S.set (i := 0) (e := .r (.ref b)) (o := some (.ref b)) rfl fun _ _ e => nomatch e
  exact S2
theorem fn_bag (G : Fun K x qual st f fd) (S : FnScope N ps (defScope st)) (hl : ∀ ds, Pre ds → ds.length + 1 = ps.length)
    (hb : ∀ (cdv : Value) (A : Around) (outer : List Env) (s : Shared) (H : Hp) (E : XK), Room k (A.deeper (PyProof.Rows.envOfC qual (defScope st) s.heap.objs.size f cdv)) →
      ∃ t, PSs (cxOf CX0 P w K mg base N qual (defScope st) f cdv A outer s H E).nox (defBody st) t ∧ ∀ F0 H0 b ds, Pre ds → Sm ⟨K, F0, H0, some b, []⟩ t (env1 N b ds) { nx := fun _ => Post ds .non, bk := fun _ => False, ct := fun _ => False, rt := fun _ => Post ds }) :
    FnOk P w K mg base CX0 (k + 1) f fd ps (spB K Pre Post) := by
  refine G.ok S (fun vs H Q E h => ?_) (fun cdv A outer s H vs Q E hr h => ?_)
  · obtain ⟨b, ws, F, ds, rfl, _, _, r, hp, _⟩ := h
    rw [List.length_cons, r.length]; exact hl ds hp
  · obtain ⟨b, ws, F, ds, rfl, hs, hB, r, hp, q⟩ := h
    obtain ⟨t, hd, hm⟩ := hb cdv A outer s H E hr
    have nb : ∀ c, c ≠ b → (⟨K, F, H, some b, []⟩ : Bs).off c := fun c h => ⟨fun e => h (Option.some.inj e).symm, fun _ z => nomatch z⟩
    refine ⟨t, hd, hm F H b ds hp _ F H _ (start_sttB hs r hB) (fun es' σ' F' H' S' s' p => ?_) (fun _ _ _ _ _ _ z => z.elim) (fun _ _ _ _ _ _ z => z.elim) (fun v d es' σ' F' H' S' s' rv p => ?_) (fun _ _ _ _ _ _ _ _ _ _ _ _ _ _ z => z.elim)⟩
    · exact q _ _ F' H' s' S'.ou S'.sub (fun c o hc e => S'.fr c o e (nb c hc)) (S'.bg b rfl) .non p
    · exact q _ _ F' H' s' S'.ou S'.sub (fun c o hc e => S'.fr c o e (nb c hc)) (S'.bg b rfl) rv p
end
end Y
/-! Y4: rules by union, keyword calls, texts. -/
namespace Y
open PySem L2

/-! ### derivations: one rule for an operator, whatever the kinds -/
def rAddS' : R2 := fun x y H Q => ∃ i j, x = .str i ∧ y = .str j ∧ i.length + j.length ≤ sizeLine ∧ Q (.str (i ++ j)) H
def rPlus (K : PySem.W.Frag) : R2 := rAlt (rI0 fun i j => .int (i + j)) (rAlt rAddS' (rAlt rCat (rCatT K)))
def rInS1 : R2 := fun x y H Q => ∃ (c : Nat) (z : Str), x = .str ⟨#[c]⟩ ∧ y = .str z ∧ Q (.bl (decide (c ∈ z.cps.toList))) H
def rNiS1 : R2 := fun x y H Q => ∃ (c : Nat) (z : Str), x = .str ⟨#[c]⟩ ∧ y = .str z ∧ Q (.bl (!decide (c ∈ z.cps.toList))) H
def rInA (K : PySem.W.Frag) : R2 := rAlt (rIn K false) rInS1
def rNiA (K : PySem.W.Frag) : R2 := rAlt (rIn K true) rNiS1
def rEqA (K : PySem.W.Frag) : R2 := rAlt rEq (rEqD K)
def rNeA (K : PySem.W.Frag) : R2 := rAlt rNe (rNeD K)
def rIsN' : R2 := fun x y H Q => y = .non ∧ Q (.bl (decide (x = .non))) H
def rSlA (K : PySem.W.Frag) : V → Option Int → Option Int → Hp → VK → Prop := fun x lo hi H Q => rSlL K x lo hi H Q ∨ (rSlT K x lo hi H Q ∨ rSlS x lo hi H Q)
def rListA (K : PySem.W.Frag) : List V → Hp → VK → Prop := fun xs H Q => ∃ p ys, xs = [.ref p] ∧ (SqL K H p ys ∨ SqT K H p ys) ∧ ∀ l, H l = none → Q (.ref l) (upd H l (.lst ys))
def rTupleA (K : PySem.W.Frag) : List V → Hp → VK → Prop := fun xs H Q => ∃ p ys, xs = [.ref p] ∧ ((SqL K H p ys ∧ ∀ l, H l = none → Q (.ref l) (upd H l (.tup ys))) ∨ (SqT K H p ys ∧ Q (.ref p) H))
def rJoinA (K : PySem.W.Frag) : V → List V → Hp → VK → Prop := fun x xs H Q => ∃ a p, ∃ ys : List Str, x = .str a ∧ xs = [.ref p] ∧ (SqL K H p (ys.map V.str) ∨ SqT K H p (ys.map V.str)) ∧ (ys.map (·.length)).sum + ys.length * a.length ≤ 16777216 ∧ Q (.str (Txt.join a ys)) H
section
variable {X : Cx} {K : PySem.W.Frag}
theorem op_plus (hK : X.K = K := by rfl) : OpR X (binaryOp .Add) (rPlus K) := hK ▸ op_alt op_add (op_alt op_add_str (op_alt op_cat op_catT))
theorem op_inA (hK : X.K = K := by rfl) : OpR X (compareOp .In) (rInA K) := hK ▸ op_alt op_in_seq op_in_sign
theorem op_niA (hK : X.K = K := by rfl) : OpR X (compareOp .NotIn) (rNiA K) := hK ▸ op_alt op_notIn_seq op_notIn_sign
theorem op_eqA (hu : X.A.units + 64 < cLine) (hK : X.K = K := by rfl) : OpR X (compareOp .Eq) (rEqA K) := hK ▸ op_alt op_eq (op_eqD hu)
theorem op_neA (hu : X.A.units + 64 < cLine) (hK : X.K = K := by rfl) : OpR X (compareOp .NotEq) (rNeA K) := hK ▸ op_alt op_ne (op_neD hu)
theorem sl_any (hK : X.K = K := by rfl) : SlR X (rSlA K) := hK ▸ sl_list.or (sl_tup.or sl_str)
theorem ix_any (hK : X.K = K := by rfl) : IxR X (rIx K) := hK ▸ ix_seq
theorem call_lenA (hK : X.K = K := by rfl) : CallR X (.builtin "len") (rLenA K) := hK ▸ call_len
theorem call_isiA (hK : X.K = K := by rfl) : CallR X (.builtin "isinstance") (rIsi K) := hK ▸ call_isi
theorem call_isiTA (hK : X.K = K := by rfl) : CallR X (.builtin "isinstance") (rIsiT K) := hK ▸ call_isiT
theorem cr_allA (hc : X.calm = true) (hK : X.K = K := by rfl) : CallR X (.builtin "all") (rAll K) := hK ▸ cr_all hc
theorem cr_anyA (hc : X.calm = true) (hK : X.K = K := by rfl) : CallR X (.builtin "any") (rAny K) := hK ▸ cr_any hc
theorem call_listA (hK : X.K = K := by rfl) : CallR X (.type "list") (rListA K) := hK ▸ call_list_of
theorem call_tupleA (hK : X.K = K := by rfl) : CallR X (.type "tuple") (rTupleA K) := hK ▸ call_tuple_of
theorem pi_listA {tg l : Expr} {tl : TE} (hl : PE X l tl) (hK : X.K = K := by rfl) : PI X tg l (iList K tl) := hK ▸ pi_list hl
theorem pi_tupA {tg l : Expr} {tl : TE} (hl : PE X l tl) (hK : X.K = K := by rfl) : PI X tg l (iTup K tl) := hK ▸ pi_tup hl
theorem pi_zipB {e e2 : Expr} {ta : TA} {p pos tpos : Pos} {elts : List Expr} {kk : Nat} (hg : Gl X "zip") (hm : X.mg "zip" = none) (ha : PA X [e, e2] ta) (hK : X.K = K := by rfl)
    (hs : starEach [e, e2] X.env = (false, eval e X.env) :: starEach [e2] X.env := by rfl) (hpl : (backTo pos (starEach [e2] X.env)).any (·.1) = false := by rfl) :
    PI X (.Tuple elts kk tpos) (.Call (.Name "zip" p) [e, e2] [] pos) (RZ.iZipA K ta) := hK ▸ RZ.pi_zipA hg hm ha hs hpl
theorem pe_joinA {o e : Expr} {apos pos : Pos} {to te : TE} (ho : PE X o to) (he : PE X e te) (hK : X.K = K := by rfl) (hs : starEach [e] X.env = [(false, eval e X.env)] := by rfl) (hbase : attributeBase o "join" X.env (eval o X.env) = eval o X.env := by rfl) (hline : (apos.endLine == pos.line) = true := by rfl) :
    PE X (.Call (.Attribute o "join" apos) [e] [] pos) (tM1 (rJoinA K) to te) := hK ▸ pe_join ho he hs hbase hline
theorem pg_tupA {es : List Expr} {k : Nat} {t : TGs} {n : Nat} {pos : Pos} (hc : X.calm = true) (h : PGs X es t) (hK : X.K = K := by rfl)
    (hn : (assignEach es X.env).length = n := by rfl) (hst : (assignEach es X.env).findIdx? (·.1) = none := by rfl) : PG X (.Tuple es k pos) (gTup K n t) := hK ▸ pg_tup hc h hn hst
end
section
variable {X : Cx} {CX : CXT} {k : Nat} {f : Addr} {fd : FuncData} {ps ks : List Str} {sp : Sp} {E : XK} {x : Str} {p pos : Pos} {kws : List Keyword} {tk : TA} {g : List Value → List Value → List Value} {gV : List V → List V → List V}
/-- f(k = v, ..) without positional values -/
theorem pe_callN0 (G : FnOk X.prog X.w X.K X.mg X.base CX k f fd ps sp) (hr : Room k X.A) (hg : Gl X x) (hm : X.mg x = some (.ref f)) (hk : PySem.W.keepIn X.K (.ref f) = true) (hb : KBn X.K fd ps 0 ks g gV) (hx : Passes CX X E)
    (hkw : PK X kws tk) (hall : (backToKw pos (keywordEach kws X.env)).all (·.1.isSome) = true := by rfl) (hks : (backToKw pos (keywordEach kws X.env)).filterMap (·.1) = ks := by rfl)
    (hdb : (x == ("__debug__" : Str)) = false := by decide)
    (hpl : ((backTo pos (starEach [] X.env)).any (·.1) || (backToKw pos (keywordEach kws X.env)).any (·.1.isNone)) = false := by rfl) :
    PE X (.Call (.Name x p) [] kws pos) (tCallN 0 ks.length sp gV E tNil tk) :=
  ⟨fun pins s σ H Q I h => wpAny_Call_Name_kw (ld_glob I hg hm
    (PySem.W.callWith_KW0 (h₀ := X.base) I.ok.mod.kin hk hall (thn (hkw.run pos pins s σ H _ I h) fun ws s2 ⟨zs, H2, I2, rz, l1, l2, q2⟩ => ⟨I2.kIn, by
      rw [hks]
      exact run_fnN (us := []) (vs := []) G hr hb hx I2 .nil rz rfl l2 q2⟩) hpl) hdb)⟩
end

/-! ### the same over data -/
section
variable {B : Bs} {es : List Sl}
theorem o_plusI {i j : Int} {P : Dt → Prop} (hp : P (.int (i + j))) : Op2 B (rPlus B.K) es (.int i) (.int j) P := o_altL (o_i0 hp)
theorem o_plusS {x y : Str} {P : Dt → Prop} (hl : x.length + y.length ≤ 100000) (hp : P (.str (x ++ y))) : Op2 B (rPlus B.K) es (.str x) (.str y) P := o_altR (o_altL (o_catS hl hp))
theorem o_plusL {x y : List Dt} {P : Dt → Prop} (hl : x.length + y.length ≤ 100000) (hp : P (.lst (x ++ y))) : Op2 B (rPlus B.K) es (.lst x) (.lst y) P := o_altR (o_altR (o_altL (o_cat hl hp)))
theorem o_inAL {x : Dt} {ys : List Dt} {P : Dt → Prop} (hx : flatD x = true) (hy : ys.all flatD = true) (hp : P (.bl (inD x ys))) : Op2 B (rInA B.K) es x (.lst ys) P := o_altL (o_inL hx hy hp)
theorem o_inAT {x : Dt} {ys : List Dt} {P : Dt → Prop} (hx : flatD x = true) (hy : ys.all flatD = true) (hp : P (.bl (inD x ys))) : Op2 B (rInA B.K) es x (.tup ys) P := o_altL (o_inT hx hy hp)
theorem o_inAS {c : Nat} {z : Str} {P : Dt → Prop} (hp : P (.bl (decide (c ∈ z.cps.toList)))) : Op2 B (rInA B.K) es (.str ⟨#[c]⟩) (.str z) P := o_altR (o_inS hp)
theorem o_niAL {x : Dt} {ys : List Dt} {P : Dt → Prop} (hx : flatD x = true) (hy : ys.all flatD = true) (hp : P (.bl (!inD x ys))) : Op2 B (rNiA B.K) es x (.lst ys) P := o_altL (o_inL hx hy hp)
theorem o_niAT {x : Dt} {ys : List Dt} {P : Dt → Prop} (hx : flatD x = true) (hy : ys.all flatD = true) (hp : P (.bl (!inD x ys))) : Op2 B (rNiA B.K) es x (.tup ys) P := o_altL (o_inT hx hy hp)
theorem o_niAS {c : Nat} {z : Str} {P : Dt → Prop} (hp : P (.bl (!decide (c ∈ z.cps.toList)))) : Op2 B (rNiA B.K) es (.str ⟨#[c]⟩) (.str z) P := o_altR (o_niS hp)
theorem o_eqA {x y : Dt} {P : Dt → Prop} (hs : dScal x y = true) (hp : P (.bl (dEq x y))) : Op2 B (rEqA B.K) es x y P := o_altL (o_eq hs hp)
theorem o_neA {x y : Dt} {P : Dt → Prop} (hs : dScal x y = true) (hp : P (.bl (!dEq x y))) : Op2 B (rNeA B.K) es x y P := o_altL (o_ne hs hp)
/-! deep == of data without objects -/
mutual
def Dt.py : Dt → PyData
  | .non => .none
  | .bl b => .bool b
  | .int i => .int i
  | .str s => .str s
  | .lst xs => .list (pyAll xs)
  | .tup xs => .tuple (pyAll xs)
  | .obj _ _ _ => .none
  | .dct _ _ => .none
  | .ali _ => .none
def pyAll : List Dt → List PyData
  | [] => []
  | x :: xs => x.py :: pyAll xs
end
mutual
def Dt.pureD : Dt → Bool
  | .non => true
  | .bl _ => true
  | .int _ => true
  | .str _ => true
  | .lst xs => decide (xs.length < 50000) && pureAll xs
  | .tup xs => decide (xs.length < 50000) && pureAll xs
  | .obj _ _ _ => false
  | .dct _ _ => false
  | .ali _ => false
def pureAll : List Dt → Bool
  | [] => true
  | x :: xs => x.pureD && pureAll xs
end
mutual
theorem Rp.dp {K : PySem.W.Frag} {F H : Hp} (s : Same F H) : ∀ {v : V} {d : Dt}, Rp K F v d → d.pureD = true → Dp K H v d.py
  | _, _, .non, _ => by unfold Dt.py; exact .non
  | _, _, .bl b, _ => by unfold Dt.py; exact .bl b
  | _, _, .int i, _ => by unfold Dt.py; exact .int i
  | _, _, .str x, _ => by unfold Dt.py; exact .str x
  | _, _, .lst h r, p => by unfold Dt.py; unfold Dt.pureD at p; rw [Bool.and_eq_true] at p; exact .lst (SqL.of (s _ _ h)) (RpAll.dp s r p.2)
  | _, _, .tup h r, p => by unfold Dt.py; unfold Dt.pureD at p; rw [Bool.and_eq_true] at p; exact .tup (sqT_mono s h) (RpAll.dp s r p.2)
  | _, _, .obj _ _ _ _, p => by unfold Dt.pureD at p; cases p
  | _, _, .dct _ _ _ _, p => by unfold Dt.pureD at p; cases p
  | _, _, .ali _, p => by unfold Dt.pureD at p; cases p
theorem RpAll.dp {K : PySem.W.Frag} {F H : Hp} (s : Same F H) : ∀ {vs : List V} {ds : List Dt}, RpAll K F vs ds → pureAll ds = true → DpAll K H vs (pyAll ds)
  | _, _, .nil, _ => by unfold pyAll; exact .nil
  | _, _, .cons h t, p => by
    unfold pureAll at p
    rw [Bool.and_eq_true] at p
    unfold pyAll
    exact .cons (Rp.dp s h p.1) (RpAll.dp s t p.2)
end
def okD (d : Dt) : Bool := d.pureD && SeqAt.shaped d.py
theorem o_eqAD {x y : Dt} {P : Dt → Prop} (hx : okD x = true) (hy : okD y = true) (hp : P (.bl (PyData.eqv x.py y.py))) : Op2 B (rEqA B.K) es x y P := fun σ F H v w S a b Q k => by
  unfold okD at hx hy
  rw [Bool.and_eq_true] at hx hy
  exact .inr ⟨_, _, a.dp S.sub hx.1, b.dp S.sub hy.1, hx.2, hy.2, k _ _ F H S.refl (.bl _) hp⟩
theorem o_neAD {x y : Dt} {P : Dt → Prop} (hx : okD x = true) (hy : okD y = true) (hp : P (.bl (!PyData.eqv x.py y.py))) : Op2 B (rNeA B.K) es x y P := fun σ F H v w S a b Q k => by
  unfold okD at hx hy
  rw [Bool.and_eq_true] at hx hy
  exact .inr ⟨_, _, a.dp S.sub hx.1, b.dp S.sub hy.1, hx.2, hy.2, k _ _ F H S.refl (.bl _) hp⟩
/-- slices of a list, of a text -/
def EvP (B : Bs) (to : TO) (es : List Sl) (P : Option Int → Prop) : Prop := ∀ σ F H, Stt B es σ F H → ∀ Q : Option Int → Hp → Prop, (∀ o F' H', Go B F H F' H' → P o → Q o H') → to σ H Q
theorem ep_none {P : Option Int → Prop} (h : P none) : EvP B tNoPart es P := fun σ F H S Q q => q none F H S.refl h
theorem ep_some {te : TE} {P : Option Int → Prop} (h : Ev B te es fun d => ∃ i, d = .int i ∧ P (some i)) : EvP B (tPart te) es P := fun σ F H S Q q => h σ F H S _ fun v d F1 H1 g1 r1 ⟨i, e, p1⟩ => by
  subst e; cases r1; exact ⟨i, rfl, q _ F1 H1 g1 p1⟩
def cutD {α : Type} (xs : List α) (lo hi : Option Int) : List α := (xs.drop (HT.sIx xs.length 0 lo)).take (HT.sIx xs.length xs.length hi - HT.sIx xs.length 0 lo)
theorem RpAll.cut {K : PySem.W.Frag} {F : Hp} {vs : List V} {ds : List Dt} (lo hi : Option Int) (r : RpAll K F vs ds) : RpAll K F (cutV vs lo hi) (cutD ds lo hi) := by
  unfold cutV cutD
  rw [r.length]
  exact (r.drop _).take _
theorem eo_slL {te : TE} {tl th : TO} {P : List Dt → Prop} (h : Ev B te es fun d => ∃ xs, d = .lst xs ∧ EvP B tl es fun lo => EvP B th es fun hi => P (cutD xs lo hi)) : EvO B (tSl (rSlA B.K) te tl th) es P := fun σ F H S Q q => h σ F H S _ fun v d F1 H1 g1 r1 ⟨xs, e, p1⟩ => by
  subst e
  refine p1 σ F1 H1 (S.go g1) _ fun lo F2 H2 g2 p2 => p2 σ F2 H2 ((S.go g1).go g2) _ fun hi F3 H3 g3 p3 => ?_
  have g := (g1.trans g2).trans g3
  have S3 := S.go g
  cases r1 with
  | lst h1 h2 =>
    refine .inl ⟨_, _, rfl, SqL.of (g3.s2 _ _ ((g2.s1.trans g3.s1) _ _ h1)), fun p hp => ?_⟩
    exact q p _ _ F3 _ (g.trans (S3.allocO hp)) (g.new (S3.newB hp) hp) (same_none S3.sub hp) upd_same ((h2.mono (g2.s1.trans g3.s1)).cut lo hi) p3
theorem ev_slS {te : TE} {tl th : TO} {P : Dt → Prop} (h : Ev B te es fun d => ∃ z : Str, d = .str z ∧ z.length ≤ 100000 ∧ EvP B tl es fun lo => EvP B th es fun hi => P (.str (cutS z lo hi))) : Ev B (tSl (rSlA B.K) te tl th) es P := fun σ F H S Q q => h σ F H S _ fun v d F1 H1 g1 r1 ⟨z, e, hz, p1⟩ => by
  subst e
  refine p1 σ F1 H1 (S.go g1) _ fun lo F2 H2 g2 p2 => p2 σ F2 H2 ((S.go g1).go g2) _ fun hi F3 H3 g3 p3 => ?_
  cases r1
  exact .inr (.inr ⟨z, rfl, size_of hz, q _ _ F3 H3 ((g1.trans g2).trans g3) (.str _) p3⟩)
/-- sep.join(list of texts) -/
theorem ev_join {to te : TE} {P : Dt → Prop} (h : Ev B to es fun a => ∃ sep : Str, a = .str sep ∧ Ev B te es fun d => ∃ ys : List Str, (d = .lst (ys.map Dt.str) ∨ d = .tup (ys.map Dt.str)) ∧ (ys.map (·.length)).sum + ys.length * sep.length ≤ 16777216 ∧ P (.str (Txt.join sep ys))) :
    Ev B (tM1 (rJoinA B.K) to te) es P := fun σ F H S Q q => h σ F H S _ fun v a F1 H1 g1 r1 ⟨sep, e, p1⟩ => by
  subst e
  cases r1
  refine ⟨⟨sep, rfl⟩, p1 σ F1 H1 (S.go g1) _ fun w d F2 H2 g2 r2 ⟨ys, e2, hl, p2⟩ => ?_⟩
  rcases e2 with rfl | rfl
  · cases r2 with
    | lst h1 h2 =>
      have e := h2.texts
      subst e
      exact ⟨sep, _, ys, rfl, rfl, .inl (SqL.of (g2.s2 _ _ h1)), hl, q _ _ F2 H2 (g1.trans g2) (.str _) p2⟩
  · cases r2 with
    | tup h1 h2 =>
      have e := h2.texts
      subst e
      exact ⟨sep, _, ys, rfl, rfl, .inr (sqT_mono g2.s2 h1), hl, q _ _ F2 H2 (g1.trans g2) (.str _) p2⟩
/-- list(xs) -/
theorem eo_listOf {ta : TA} {P : List Dt → Prop} (h : EvA B ta es fun ds => ∃ xs, (ds = [.lst xs] ∨ ds = [.tup xs]) ∧ P xs) : EvO B (tCB (rListA B.K) ta) es P := fun σ F H S Q q => h σ F H S _ fun vs ds F1 H1 g1 r1 ⟨xs, e, p1⟩ => by
  have S1 := S.go g1
  rcases e with rfl | rfl
  · obtain ⟨v, rfl, r⟩ := rp1 r1
    cases r with
    | lst h1 h2 => exact ⟨_, _, rfl, .inl (SqL.of (g1.s2 _ _ h1)), fun p hp => q p _ _ F1 _ (g1.trans (S1.allocO hp)) (g1.new (S1.newB hp) hp) (same_none S1.sub hp) upd_same h2 p1⟩
  · obtain ⟨v, rfl, r⟩ := rp1 r1
    cases r with
    | tup h1 h2 => exact ⟨_, _, rfl, .inr (sqT_mono g1.s2 h1), fun p hp => q p _ _ F1 _ (g1.trans (S1.allocO hp)) (g1.new (S1.newB hp) hp) (same_none S1.sub hp) upd_same h2 p1⟩
end
end Y
/-! Y5: isinstance by kinds; the drawing; what the helpers of every law promise. -/
namespace Y
open PySem L2
section
variable {B : Bs} {es : List Sl}
def isIntD : Dt → Bool
  | .int _ => true
  | .bl _ => true
  | _ => false
def isBoolD : Dt → Bool
  | .bl _ => true
  | _ => false
def isStrD : Dt → Bool
  | .str _ => true
  | _ => false
def isLstD : Dt → Bool
  | .lst _ => true
  | _ => false
def isTupD : Dt → Bool
  | .tup _ => true
  | _ => false
theorem isi_int {x : Dt} (h : plainD x = true) : isiD "int" x = some (isIntD x) := by
  cases x with
  | non => show kitB "NoneType" "int" = some false; decide +kernel
  | bl _ => show kitB "bool" "int" = some true; decide +kernel
  | int _ => show kitB "int" "int" = some true; decide +kernel
  | str _ => show kitB "str" "int" = some false; decide +kernel
  | lst _ => show kitB "list" "int" = some false; decide +kernel
  | tup _ => show kitB "tuple" "int" = some false; decide +kernel
  | dct _ _ => show kitB "dict" "int" = some false; decide +kernel
  | obj _ _ _ => cases h
  | ali _ => cases h
theorem isi_bool {x : Dt} (h : plainD x = true) : isiD "bool" x = some (isBoolD x) := by
  cases x with
  | non => show kitB "NoneType" "bool" = some false; decide +kernel
  | bl _ => show kitB "bool" "bool" = some true; decide +kernel
  | int _ => show kitB "int" "bool" = some false; decide +kernel
  | str _ => show kitB "str" "bool" = some false; decide +kernel
  | lst _ => show kitB "list" "bool" = some false; decide +kernel
  | tup _ => show kitB "tuple" "bool" = some false; decide +kernel
  | dct _ _ => show kitB "dict" "bool" = some false; decide +kernel
  | obj _ _ _ => cases h
  | ali _ => cases h
theorem isi_str {x : Dt} (h : plainD x = true) : isiD "str" x = some (isStrD x) := by
  cases x with
  | non => show kitB "NoneType" "str" = some false; decide +kernel
  | bl _ => show kitB "bool" "str" = some false; decide +kernel
  | int _ => show kitB "int" "str" = some false; decide +kernel
  | str _ => show kitB "str" "str" = some true; decide +kernel
  | lst _ => show kitB "list" "str" = some false; decide +kernel
  | tup _ => show kitB "tuple" "str" = some false; decide +kernel
  | dct _ _ => show kitB "dict" "str" = some false; decide +kernel
  | obj _ _ _ => cases h
  | ali _ => cases h
theorem isi_list {x : Dt} (h : plainD x = true) : isiD "list" x = some (isLstD x) := by
  cases x with
  | non => show kitB "NoneType" "list" = some false; decide +kernel
  | bl _ => show kitB "bool" "list" = some false; decide +kernel
  | int _ => show kitB "int" "list" = some false; decide +kernel
  | str _ => show kitB "str" "list" = some false; decide +kernel
  | lst _ => show kitB "list" "list" = some true; decide +kernel
  | tup _ => show kitB "tuple" "list" = some false; decide +kernel
  | dct _ _ => show kitB "dict" "list" = some false; decide +kernel
  | obj _ _ _ => cases h
  | ali _ => cases h
theorem isi_tuple {x : Dt} (h : plainD x = true) : isiD "tuple" x = some (isTupD x) := by
  cases x with
  | non => show kitB "NoneType" "tuple" = some false; decide +kernel
  | bl _ => show kitB "bool" "tuple" = some false; decide +kernel
  | int _ => show kitB "int" "tuple" = some false; decide +kernel
  | str _ => show kitB "str" "tuple" = some false; decide +kernel
  | lst _ => show kitB "list" "tuple" = some false; decide +kernel
  | tup _ => show kitB "tuple" "tuple" = some true; decide +kernel
  | dct _ _ => show kitB "dict" "tuple" = some false; decide +kernel
  | obj _ _ _ => cases h
  | ali _ => cases h
theorem isi_lt {x : Dt} (h : plainD x = true) : isiDs ["list", "tuple"] x = some (isLstD x || isTupD x) := by
  cases x with
  | non => show anyIsi "NoneType" ["list", "tuple"] = some false; decide +kernel
  | bl _ => show anyIsi "bool" ["list", "tuple"] = some false; decide +kernel
  | int _ => show anyIsi "int" ["list", "tuple"] = some false; decide +kernel
  | str _ => show anyIsi "str" ["list", "tuple"] = some false; decide +kernel
  | lst _ => show anyIsi "list" ["list", "tuple"] = some true; decide +kernel
  | tup _ => show anyIsi "tuple" ["list", "tuple"] = some true; decide +kernel
  | dct _ _ => show anyIsi "dict" ["list", "tuple"] = some false; decide +kernel
  | obj _ _ _ => cases h
  | ali _ => cases h
theorem ev_isInt {te : TE} {P : Dt → Prop} (h : Ev B te es fun d => plainD d = true ∧ P (.bl (isIntD d))) : Ev B (tCB (rIsi B.K) (tCons te (tCons (tC (.ty "int")) tNil))) es P := ev_isi (h.imp fun d q => ⟨_, isi_int q.1, q.2⟩)
theorem ev_isBool {te : TE} {P : Dt → Prop} (h : Ev B te es fun d => plainD d = true ∧ P (.bl (isBoolD d))) : Ev B (tCB (rIsi B.K) (tCons te (tCons (tC (.ty "bool")) tNil))) es P := ev_isi (h.imp fun d q => ⟨_, isi_bool q.1, q.2⟩)
theorem ev_isStr {te : TE} {P : Dt → Prop} (h : Ev B te es fun d => plainD d = true ∧ P (.bl (isStrD d))) : Ev B (tCB (rIsi B.K) (tCons te (tCons (tC (.ty "str")) tNil))) es P := ev_isi (h.imp fun d q => ⟨_, isi_str q.1, q.2⟩)
theorem ev_isList {te : TE} {P : Dt → Prop} (h : Ev B te es fun d => plainD d = true ∧ P (.bl (isLstD d))) : Ev B (tCB (rIsi B.K) (tCons te (tCons (tC (.ty "list")) tNil))) es P := ev_isi (h.imp fun d q => ⟨_, isi_list q.1, q.2⟩)
theorem ev_isTuple {te : TE} {P : Dt → Prop} (h : Ev B te es fun d => plainD d = true ∧ P (.bl (isTupD d))) : Ev B (tCB (rIsi B.K) (tCons te (tCons (tC (.ty "tuple")) tNil))) es P := ev_isi (h.imp fun d q => ⟨_, isi_tuple q.1, q.2⟩)
theorem ev_isLT {te : TE} {P : Dt → Prop} (h : Ev B te es fun d => plainD d = true ∧ P (.bl (isLstD d || isTupD d))) : Ev B (tCB (rIsiT B.K) (tCons te (tCons (tTup (tCons (tC (.ty "list")) (tCons (tC (.ty "tuple")) tNil))) tNil))) es P := ev_isi2 (h.imp fun d q => ⟨_, isi_lt q.1, q.2⟩)
/-- tests of a value that is True or False -/
theorem bl_ex {b : Bool} {P : Bool → Prop} (h : P b) : ∃ c, Dt.bl b = .bl c ∧ P c := ⟨b, rfl, h⟩
theorem int_ex {b : Int} {P : Int → Prop} (h : P b) : ∃ c, Dt.int b = .int c ∧ P c := ⟨b, rfl, h⟩
theorem str_ex {b : Str} {P : Str → Prop} (h : P b) : ∃ c, Dt.str b = .str c ∧ P c := ⟨b, rfl, h⟩
theorem lst_ex {b : List Dt} {P : List Dt → Prop} (h : P b) : ∃ c, Dt.lst b = .lst c ∧ P c := ⟨b, rfl, h⟩
theorem tup_ex {b : List Dt} {P : List Dt → Prop} (h : P b) : ∃ c, Dt.tup b = .tup c ∧ P c := ⟨b, rfl, h⟩
/-- the two ways of a test -/
theorem ways {b : Bool} {X Y : Prop} (h1 : b = true → X) (h2 : b = false → Y) : (b = true → X) ∧ (b = false → Y) := ⟨h1, h2⟩
theorem way_t {b : Bool} {X Y : Prop} (e : b = true) (h : X) : (b = true → X) ∧ (b = false → Y) := ⟨fun _ => h, fun z => by rw [e] at z; cases z⟩
theorem way_f {b : Bool} {X Y : Prop} (e : b = false) (h : Y) : (b = true → X) ∧ (b = false → Y) := ⟨fun z => (by rw [e] at z; cases z), fun _ => h⟩
end

section
variable {B : Bs} {es : List Sl}
/-- [f(x) for x in xs], f a function -/
theorem eo_mapF {wi : TI} {g : TG} {te : TE} {vs : List Nat} {P : List Dt → Prop} (f : Dt → Dt) (h : EvI B wi es fun xs => xs.length < 100000 ∧
    (∀ x, x ∈ xs → TgC B g (wipeE es vs) vs x fun e2 => Ev B te e2 fun y => y = f x) ∧ P (xs.map f)) : EvO B (tLc wi g tYes te vs) es P :=
  eo_map fun σ F H S Q q => h σ F H S Q fun J xs F1 H1 g1 it ⟨hl, h1, h2⟩ => q J xs F1 H1 g1 it ⟨hl, fun x y => y = f x, fun i x hx => h1 x (List.mem_of_getElem? hx), fun ys hy hR => by
    have e : ys = xs.map f := by
      apply List.ext_getElem?
      intro i
      rw [List.getElem?_map]
      cases e1 : xs[i]? with
      | none =>
        have : xs.length ≤ i := List.getElem?_eq_none_iff.mp e1
        rw [List.getElem?_eq_none (by omega)]; rfl
      | some x =>
        have hi : i < ys.length := by rw [hy]; exact (List.getElem?_eq_some_iff.mp e1).1
        have e2 : ys[i]? = some ys[i] := by simp [hi]
        rw [e2, hR i x ys[i] e1 e2]; rfl
    rw [e]; exact h2⟩
/-- [f(c) for c in text] -/
theorem eo_mapS {te te' : TE} {j : Nat} {P : List Dt → Prop} (f : Nat → Dt) (h : Ev B te es fun d => ∃ z : Str, d = .str z ∧ z.cps.size < 100000 ∧
    (∀ c, c ∈ z.cps.toList → Ev B te' ((es.set j .no).set j (.d (.str ⟨#[c]⟩))) fun y => y = f c) ∧ P (z.cps.toList.map f)) : EvO B (tLc (iStr te) (gName j) tYes te' [j]) es P :=
  eo_map (ei_str (h.imp fun d ⟨z, e, hl, h1, h2⟩ => ⟨z, e, by rw [signsD_len]; exact hl, fun x y => ∀ c, x = .str ⟨#[c]⟩ → y = f c, fun i x hx => by
    have hm := List.mem_of_getElem? hx
    obtain ⟨c, hc, rfl⟩ := List.mem_map.mp hm
    refine tc_name ?_
    refine (h1 c hc).imp fun y hy c' e' => ?_
    injection e' with e'
    injection e' with e'
    have : c = c' := by simpa using e'
    rw [← this]; exact hy, fun ys hy hR => by
      have e : ys = z.cps.toList.map f := by
        apply List.ext_getElem?
        intro i
        rw [List.getElem?_map]
        rw [signsD_len] at hy
        cases e1 : z.cps.toList[i]? with
        | none =>
          have : z.cps.toList.length ≤ i := List.getElem?_eq_none_iff.mp e1
          rw [Array.length_toList] at this
          rw [List.getElem?_eq_none (by omega)]; rfl
        | some c =>
          have hi : i < ys.length := by
            have := (List.getElem?_eq_some_iff.mp e1).1
            rw [Array.length_toList] at this
            omega
          have e2 : ys[i]? = some ys[i] := by simp [hi]
          have e3 : (signsD z)[i]? = some (.str ⟨#[c]⟩) := by rw [signsD, List.getElem?_map, e1]; rfl
          rw [e2, hR i _ ys[i] e3 e2 c rfl]; rfl
      rw [e]; exact h2⟩))
/-- [c for c in text if t(c)] -/
theorem eo_filterS {te : TE} {tt : TT} {j : Nat} {P : List Dt → Prop} (f : Nat → Bool) (h : Ev B te es fun d => ∃ z : Str, d = .str z ∧ z.cps.size < 100000 ∧
    (∀ c, c ∈ z.cps.toList → EvT B tt ((es.set j .no).set j (.d (.str ⟨#[c]⟩))) fun b => b = f c) ∧ P ((z.cps.toList.filter f).map fun c => .str ⟨#[c]⟩)) (hj : j < es.length) : EvO B (tLc (iStr te) (gName j) tt (tVar j) [j]) es P :=
  eo_lc (ei_str (h.imp fun d ⟨z, e, hl, h1, h2⟩ => ⟨z, e, by rw [signsD_len]; exact hl, fun i acc => acc = ((z.cps.toList.take i).filter f).map fun c => .str ⟨#[c]⟩, rfl, fun i x acc hx ha => by
    rw [signsD, List.getElem?_map] at hx
    cases e1 : z.cps.toList[i]? with
    | none => rw [e1] at hx; cases hx
    | some c =>
      rw [e1] at hx
      cases hx
      refine tc_name ?_
      have ht : z.cps.toList.take (i + 1) = z.cps.toList.take i ++ [c] := by
        rw [List.take_add_one, e1]; rfl
      refine (h1 c (List.mem_of_getElem? e1)).imp fun b hb => ⟨fun hbt => ev_var (x := .str ⟨#[c]⟩) ?_ ?_, fun hbf => ?_⟩
      · show ((es.set j .no).set j (.d (.str ⟨#[c]⟩)))[j]? = _
        rw [List.getElem?_set_self (by rw [List.length_set]; exact hj)]
      · show _ = _
        rw [ht, List.filter_append, List.map_append, ha, List.filter_cons, if_pos (by rw [← hb]; exact hbt)]; rfl
      · show _ = _
        rw [ht, List.filter_append, List.map_append, ha, List.filter_cons, if_neg (by rw [← hb, hbf]; decide)]; simp, fun acc ha => by
    rw [ha]
    have : (signsD z).length = z.cps.toList.length := by simp [signsD]
    rw [this, List.take_length]
    exact h2⟩))
theorem c_allF {α : Type} {l : List α} {g : α → Bool} {P : Dt → Prop} (hp : P (.bl (l.all g))) : Cal B (rAll B.K) es [.lst (l.map fun c => .bl (g c))] P := by
  have e : (l.map fun c => Dt.bl (g c)) = (l.map g).map Dt.bl := by rw [List.map_map]; rfl
  rw [e]
  refine c_all ?_
  rw [List.all_map]
  exact hp
/-- the script, as it is handed in, is cut -/
theorem eo_slRaw {i : Nat} {a : Addr} {ns : List Int} {tl th : TO} {P : List Dt → Prop} (hi : es[i]? = some (.r (.ref a))) (hS : SqL B.K B.H0 a (ns.map V.int)) (hb : B.off a) (h : EvP B tl es fun lo => EvP B th es fun hi => P ((cutD ns lo hi).map Dt.int)) : EvO B (tSl (rSlA B.K) (tVar i) tl th) es P := fun σ F H S Q q =>
  ⟨_, S.raw hi, h σ F H S _ fun lo F1 H1 g1 p1 => p1 σ F1 H1 (S.go g1) _ fun hi' F2 H2 g2 p2 => by
    have g := g1.trans g2
    have S2 := S.go g
    have hS2 : SqL B.K H2 a (ns.map V.int) := by
      rcases hS with (k | ⟨o, k⟩) | k
      · exact .inl (.inl (S2.fr a _ k hb))
      · exact .inl (.inr ⟨o, S2.fr a _ k hb⟩)
      · exact .inr k
    have e : cutV (ns.map V.int) lo hi' = (cutD ns lo hi').map V.int := by
      unfold cutV cutD
      rw [List.length_map, List.map_take, List.map_drop]
    refine .inl ⟨a, _, rfl, hS2, fun p hp => q p _ _ F2 _ (g.trans (S2.allocO hp)) (g.new (S2.newB hp) hp) (same_none S2.sub hp) upd_same ?_ p2⟩
    rw [e]
    exact RpAll.of_ints⟩
theorem of_mem_ints {xs : List Int} {i : Nat} {x : Dt} (h : (xs.map Dt.int)[i]? = some x) : ∃ n, x = .int n := by
  obtain ⟨n, _, e⟩ := List.mem_map.mp (List.mem_of_getElem? h)
  exact ⟨n, e.symm⟩
end

theorem sm_cut {B : Bs} {es : List Sl} {p : Po} {t u : TS} (I : List Sl → Prop) (h1 : Sm B t es { p with nx := I }) (h2 : ∀ es', I es' → Sm B u es' p) : Sm B (tSeq t u) es p :=
  sm_seq (sm_imp (p' := { p with nx := I }) h1 h2 (fun _ h => h) (fun _ h => h) (fun _ _ h => h) (fun _ h => h))
theorem atI_of {xs : List Dt} {i : Int} (h0 : 0 ≤ i) (h1 : i < xs.length) : ∃ x, atI xs i = some x ∧ x ∈ xs := by
  have hi : i.toNat < xs.length := by omega
  refine ⟨xs[i.toNat], ?_, List.getElem_mem _⟩
  unfold atI ixN
  rw [if_pos h0, if_pos h1]
  simp [hi]
theorem atI_ofN {xs : List Nat} {i : Int} (h0 : 0 ≤ i) (h1 : i < xs.length) : ∃ x, atI xs i = some x ∧ x ∈ xs := by
  have hi : i.toNat < xs.length := by omega
  refine ⟨xs[i.toNat], ?_, List.getElem_mem _⟩
  unfold atI ixN
  rw [if_pos h0, if_pos h1]
  simp [hi]
theorem pairD_mem : ∀ {xs : List Dt} {p : Dt}, p ∈ pairD xs xs → ∃ x, x ∈ xs ∧ p = .tup [x, x]
  | [], p, h => by simp [pairD] at h
  | x :: xs, p, h => by
    rcases List.mem_cons.mp (show p ∈ .tup [x, x] :: pairD xs xs from h) with rfl | h
    · exact ⟨x, List.mem_cons_self .., rfl⟩
    · obtain ⟨y, hy, e⟩ := pairD_mem h
      exact ⟨y, List.mem_cons_of_mem _ hy, e⟩
theorem fn_none {P : Program} {w : World} {K : PySem.W.Frag} {mg : Str → Option Value} {base : Heap} {f : Addr} {fd : FuncData} {ps : List Str} {k : Nat} {Pre : List Dt → Prop} {Post : List Dt → Dt → Prop} (h : ∀ ds, ¬ Pre ds) : FnOk P w K mg base CX0 k f fd ps (spD K Pre Post) :=
  ⟨fun _ _ _ _ q => (by obtain ⟨F, ds, _, _, hp, _⟩ := q; exact (h ds hp).elim), fun _ _ _ _ _ _ _ _ _ _ _ _ _ q => (by obtain ⟨F, ds, _, _, hp, _⟩ := q; exact (h ds hp).elim)⟩

/-! ### the drawing -/
def drawPre (ds : List Dt) : Prop := ∃ n : Int, ds = [.int n] ∧ 0 < n ∧ n < 1073741824
def drawPost (ds : List Dt) (d : Dt) : Prop := ∃ n i : Int, ds = [.int n] ∧ d = .int i ∧ 0 ≤ i ∧ i < n
def itemsD : Dt → List Dt
  | .lst xs => xs
  | .tup xs => xs
  | .str z => signsD z
  | _ => []
def ofPre (ds : List Dt) : Prop := ∃ x, ds = [x] ∧ 0 < (itemsD x).length ∧ (itemsD x).length ≤ 100000
def ofPost (ds : List Dt) (d : Dt) : Prop := ∃ x, ds = [x] ∧ d ∈ itemsD x
mutual
def Dt.depth : Dt → Nat
  | .lst xs => depthAll xs + 1
  | .tup xs => depthAll xs + 1
  | .non => 0
  | .bl _ => 0
  | .int _ => 0
  | .str _ => 0
  | .obj _ _ _ => 0
  | .dct _ _ => 0
  | .ali _ => 0
def depthAll : List Dt → Nat
  | [] => 0
  | x :: xs => max x.depth (depthAll xs)
end
theorem depthAll_mem {n : Nat} : ∀ {xs : List Dt} {x : Dt}, x ∈ xs → depthAll xs ≤ n → x.depth ≤ n
  | y :: ys, x, h, hn => by
    unfold depthAll at hn
    rcases List.mem_cons.mp h with rfl | h
    · omega
    · exact depthAll_mem h (by omega)
theorem pureAll_mem : ∀ {xs : List Dt} {x : Dt}, x ∈ xs → pureAll xs = true → x.pureD = true
  | y :: ys, x, h, hn => by
    unfold pureAll at hn
    rw [Bool.and_eq_true] at hn
    rcases List.mem_cons.mp h with rfl | h
    · exact hn.1
    · exact pureAll_mem h hn.2
def samePre (n : Nat) (ds : List Dt) : Prop := ∃ x, ds = [x, x] ∧ x.pureD = true ∧ x.depth < n
def sameTrue (_ : List Dt) (d : Dt) : Prop := d = .bl true
/-- what is wrong in many places -/
def oddL : List Dt := [.non, .bl true, .bl false, .str "", .str "A", .int (-1), .int 999999999, .tup [], .lst [], .tup [.int 1], .lst [.str "a"], .str "a b", .tup [.str "a", .str "b"], .lst [.non]]
def oddPre (ds : List Dt) : Prop := ∃ xs, ds = [.lst xs] ∧ xs.length ≤ 1000
def oddPost (ds : List Dt) (d : Dt) : Prop := ∃ xs, ds = [.lst xs] ∧ d ∈ oddL ++ xs
/-- a number from l to m -/
def isNum (x : Dt) (l m : Int) : Bool := match x with
  | .int i => decide (l ≤ i) && decide (i ≤ m)
  | _ => false
def numPre (ds : List Dt) : Prop := ∃ x l m, ds = [x, .int l, .int m] ∧ plainD x = true
def numPost (ds : List Dt) (d : Dt) : Prop := ∃ x l m, ds = [x, .int l, .int m] ∧ d = .bl (isNum x l m)
/-- names: 1 to 6 small letters -/
def letters : List Nat := ("abcdefghijklmnopqrstuvwxyz" : Str).cps.toList
def isNameD (x : Dt) : Bool := match x with
  | .str z => decide ((1 : Int) ≤ z.length) && (decide ((z.length : Int) ≤ 6) && z.cps.toList.all fun c => decide (c ∈ letters))
  | _ => false
def isRegD (x : Dt) : Bool := match x with
  | .str z => inD (.str z) [.str "r0", .str "r1", .str "r2"]
  | _ => false
def txtOk (x : Dt) : Prop := ∀ z, x = .str z → z.cps.size < 1000 ∧ PyData.strOk z = true
def valPre (ds : List Dt) : Prop := ∃ x, ds = [x] ∧ plainD x = true ∧ txtOk x
def namePost (ds : List Dt) (d : Dt) : Prop := ∃ x, ds = [x] ∧ d = .bl (isNameD x)
def regPost (ds : List Dt) (d : Dt) : Prop := ∃ x, ds = [x] ∧ d = .bl (isRegD x)
def wordPost (ds : List Dt) (d : Dt) : Prop := ∃ x, ds = [x] ∧ d = .bl (isNum x 0 65535)
/-- what _law_bag promises: a new drawing -/
def spBag (K : PySem.W.Frag) : Sp := fun vs H Q _ => ∃ (a : Addr) (ns : List Int), vs = [.ref a] ∧ SqL K H a (ns.map V.int) ∧
  ∀ b F H', H b = none → Same F H' → Same H H' → (∀ c, H c ≠ none → F c = none) → BagAt K F H' b → Q (.ref b) H'
/-- the law: a list of at most 63 ints is handed in, True comes out -/
def spLaw (K : PySem.W.Frag) : Sp := fun vs H Q _ => ∃ (a : Addr) (ns : List Int), vs = [.ref a] ∧ SqL K H a (ns.map V.int) ∧ ns.length ≤ 63 ∧ ∀ H', Q (.bl true) H'
/-- .. with tables of code objects -/
def spLawT (K : PySem.W.Frag) (T : List (Addr × Str)) : Sp := fun vs H Q _ => ∃ (a : Addr) (ns : List Int), vs = [.ref a] ∧ SqL K H a (ns.map V.int) ∧ LamX.Tabs T H ∧ ns.length ≤ 63 ∧ ∀ H', Q (.bl true) H'
theorem start_raw {K : PySem.W.Frag} {H : Hp} {a : Addr} (N : List Str) : Stt ⟨K, fun _ => none, H, none, []⟩ (.r (.ref a) :: List.replicate (N.length - 1) Sl.no) (L2.start N [.ref a]) (fun _ => none) H where
  sub := fun _ _ h => nomatch h
  s0 := fun _ _ h => h
  ou := fun _ _ h => h
  fr := fun c o h _ => h
  bg := fun _ z => nomatch z
  tb := fun _ z => nomatch z
  tn := fun _ z => nomatch z
  len := by simp [L2.start]
  ok := fun i e o h1 h2 => by
    cases i with
    | zero =>
      cases h1
      have : (L2.start N [V.ref a])[0]? = some (some (.ref a)) := rfl
      rw [this] at h2
      cases h2
      rfl
    | succ i =>
      have h1 : (List.replicate (N.length - 1) Sl.no)[i]? = some e := h1
      have h2 : (List.replicate (N.length - 1) (none : Option V))[i]? = some o := h2
      rw [List.eq_of_mem_replicate (List.mem_of_getElem? h1), List.eq_of_mem_replicate (List.mem_of_getElem? h2)]
      rfl
  ow := fun i c xs h1 => by
    rcases List.mem_cons.mp (List.mem_of_getElem? h1) with h | h
    · cases h
    · cases List.eq_of_mem_replicate h
  dis := fun i j c e xs ys _ h1 => by
    rcases List.mem_cons.mp (List.mem_of_getElem? h1) with h | h
    · cases h
    · cases List.eq_of_mem_replicate h
  obw := fun i c C dx ns xs bs h1 => by
    rcases List.mem_cons.mp (List.mem_of_getElem? h1) with h | h
    · cases h
    · cases List.eq_of_mem_replicate h
section
variable {P : Program} {w : World} {K : PySem.W.Frag} {mg : Str → Option Value} {base : Heap} {x qual : Str} {st : Stmt} {f : Addr} {fd : FuncData} {N : List Str} {q : Str} {k : Nat}
theorem fn_newBag (G : Fun K x qual st f fd) (S : FnScope N [q] (defScope st))
    (hb : ∀ (cdv : Value) (A : Around) (outer : List Env) (s : Shared) (H : Hp) (E : XK), Room k (A.deeper (PyProof.Rows.envOfC qual (defScope st) s.heap.objs.size f cdv)) →
      ∃ t, PSs (cxOf CX0 P w K mg base N qual (defScope st) f cdv A outer s H E).nox (defBody st) t ∧ ∀ (H0 : Hp) (a : Addr) (ns : List Int), SqL K H0 a (ns.map V.int) → Sm ⟨K, fun _ => none, H0, none, []⟩ t (.r (.ref a) :: List.replicate (N.length - 1) Sl.no) { nx := fun _ => False, bk := fun _ => False, ct := fun _ => False, rt := fun _ _ => False, ro := BagD }) :
    FnOk P w K mg base CX0 (k + 1) f fd [q] (spBag K) := by
  refine G.ok S (fun vs H Q E h => ?_) (fun cdv A outer s H vs Q E hr h => ?_)
  · obtain ⟨a, ns, rfl, _⟩ := h; rfl
  · obtain ⟨a, ns, rfl, hS, q⟩ := h
    obtain ⟨t, hd, hm⟩ := hb cdv A outer s H E hr
    refine ⟨t, hd, hm H a ns hS _ _ H _ (start_raw N) (fun _ _ _ _ _ _ z => z.elim) (fun _ _ _ _ _ _ z => z.elim) (fun _ _ _ _ _ _ z => z.elim) (fun _ _ _ _ _ _ _ _ _ z => z.elim) (fun b vs xs es' σ' F' H' S' s' h1 h2 r1 h3 h4 p => ?_)⟩
    exact q b F' H' h3 S'.sub (fun c o e => S'.fr c o e off_nil) (fun c h => S'.ou c h rfl) ⟨h1, vs, xs, h2, r1, p⟩
/-- the law's own def: its first statement makes the drawing -/
theorem fn_law (G : Fun K x qual st f fd) (S : FnScope N [q] (defScope st))
    (hb : ∀ (cdv : Value) (A : Around) (outer : List Env) (s : Shared) (H : Hp) (E : XK), Room k (A.deeper (PyProof.Rows.envOfC qual (defScope st) s.heap.objs.size f cdv)) →
      ∃ t, PSs (cxOf CX0 P w K mg base N qual (defScope st) f cdv A outer s H E).nox (defBody st) (tSeq (tAsg (tCall (spBag K) [] E0 (tCons (tVar 0) tNil)) (gName 1)) t) ∧ ∀ F0 H0 a b, Sm ⟨K, F0, H0, some b, []⟩ t (.r (.ref a) :: .r (.ref b) :: List.replicate (N.length - 2) Sl.no) { nx := fun _ => False, bk := fun _ => False, ct := fun _ => False, rt := fun _ d => d = .bl true }) (hN : 2 ≤ N.length) :
    FnOk P w K mg base CX0 (k + 1) f fd [q] (spLaw K) := by
  refine G.ok S (fun vs H Q E h => ?_) (fun cdv A outer s H vs Q E hr h => ?_)
  · obtain ⟨a, ns, rfl, _⟩ := h; rfl
  · obtain ⟨a, ns, rfl, hS, _, q⟩ := h
    obtain ⟨t, hd, hm⟩ := hb cdv A outer s H E hr
    refine ⟨_, hd, .ref a, rfl, a, ns, rfl, hS, fun b F H' hn s1 s2 _ hB => ?_⟩
    have S0 := start_raw (K := K) (H := H') (a := a) N
    have S1 : Stt ⟨K, F, H', some b, []⟩ (.r (.ref a) :: List.replicate (N.length - 1) Sl.no) (L2.start N [.ref a]) F H' :=
      ⟨s1, Same.refl F, fun _ _ h => h, fun c o h _ => h, fun c e => by cases e; exact hB, (fun _ z => nomatch z), (fun _ z => nomatch z), S0.len, fun i e o h1 h2 => by
        have := S0.ok i e o h1 h2
        rcases List.mem_cons.mp (List.mem_of_getElem? h1) with h | h
        · rw [h] at this ⊢; exact this
        · rw [List.eq_of_mem_replicate h] at this ⊢; exact this, (fun i c xs h1 => by
        rcases List.mem_cons.mp (List.mem_of_getElem? h1) with h | h
        · cases h
        · cases List.eq_of_mem_replicate h), S0.dis, (fun i c C dx ns xs bs h1 => by
        rcases List.mem_cons.mp (List.mem_of_getElem? h1) with h | h
        · cases h
        · cases List.eq_of_mem_replicate h)⟩
    have S2 := S1.set (i := 1) (e := .r (.ref b)) (o := some (.ref b)) rfl fun _ _ e => nomatch e
    have e2 : (Sl.r (.ref a) :: List.replicate (N.length - 1) Sl.no).set 1 (.r (.ref b)) = .r (.ref a) :: .r (.ref b) :: List.replicate (N.length - 2) Sl.no := by
      obtain ⟨m, hm⟩ : ∃ m, N.length = m + 2 := ⟨N.length - 2, by omega⟩
      rw [hm]
      simp [List.replicate_succ]
    rw [e2] at S2
    exact hm F H' a b _ F H' _ S2 (fun _ _ _ _ _ _ z => z.elim) (fun _ _ _ _ _ _ z => z.elim) (fun _ _ _ _ _ _ z => z.elim) (fun v d es' σ' F' H2 S' s' rv e => by subst e; cases rv; exact q H2) (fun _ _ _ _ _ _ _ _ _ _ _ _ _ _ z => z.elim)
/-- .. with tables of code objects -/
theorem fn_lawT {T : List (Addr × Str)} (G : Fun K x qual st f fd) (S : FnScope N [q] (defScope st))
    (hb : ∀ (cdv : Value) (A : Around) (outer : List Env) (s : Shared) (H : Hp) (E : XK), Room k (A.deeper (PyProof.Rows.envOfC qual (defScope st) s.heap.objs.size f cdv)) →
      ∃ t, PSs (cxOf CX0 P w K mg base N qual (defScope st) f cdv A outer s H E).nox (defBody st) (tSeq (tAsg (tCall (spBag K) [] E0 (tCons (tVar 0) tNil)) (gName 1)) t) ∧ ∀ F0 H0 a b, Sm ⟨K, F0, H0, some b, T⟩ t (.r (.ref a) :: .r (.ref b) :: List.replicate (N.length - 2) Sl.no) { nx := fun _ => False, bk := fun _ => False, ct := fun _ => False, rt := fun _ d => d = .bl true }) (hN : 2 ≤ N.length) :
    FnOk P w K mg base CX0 (k + 1) f fd [q] (spLawT K T) := by
  refine G.ok S (fun vs H Q E h => ?_) (fun cdv A outer s H vs Q E hr h => ?_)
  · obtain ⟨a, ns, rfl, _⟩ := h; rfl
  · obtain ⟨a, ns, rfl, hS, hT, _, q⟩ := h
    obtain ⟨t, hd, hm⟩ := hb cdv A outer s H E hr
    refine ⟨_, hd, .ref a, rfl, a, ns, rfl, hS, fun b F H' hn s1 s2 hn0 hB => ?_⟩
    have S0 := start_raw (K := K) (H := H') (a := a) N
    have hF : ∀ p ∈ T, F p.1 = none := fun p hp => hn0 p.1 (by obtain ⟨ps, k, _⟩ := hT p hp; rw [k]; simp)
    have S1 : Stt ⟨K, F, H', some b, T⟩ (.r (.ref a) :: List.replicate (N.length - 1) Sl.no) (L2.start N [.ref a]) F H' :=
      ⟨s1, Same.refl F, fun _ _ h => h, fun c o h _ => h, fun c e => by cases e; exact hB, hT.ext s2, hF, S0.len, fun i e o h1 h2 => by
        have := S0.ok i e o h1 h2
        rcases List.mem_cons.mp (List.mem_of_getElem? h1) with h | h
        · rw [h] at this ⊢; exact this
        · rw [List.eq_of_mem_replicate h] at this ⊢; exact this, (fun i c xs h1 => by
        rcases List.mem_cons.mp (List.mem_of_getElem? h1) with h | h
        · cases h
        · cases List.eq_of_mem_replicate h), S0.dis, (fun i c C dx ns xs bs h1 => by
        rcases List.mem_cons.mp (List.mem_of_getElem? h1) with h | h
        · cases h
        · cases List.eq_of_mem_replicate h)⟩
    have S2 := S1.set (i := 1) (e := .r (.ref b)) (o := some (.ref b)) rfl fun _ _ e => nomatch e
    have e2 : (Sl.r (.ref a) :: List.replicate (N.length - 1) Sl.no).set 1 (.r (.ref b)) = .r (.ref a) :: .r (.ref b) :: List.replicate (N.length - 2) Sl.no := by
      obtain ⟨m, hm⟩ : ∃ m, N.length = m + 2 := ⟨N.length - 2, by omega⟩
      rw [hm]
      simp [List.replicate_succ]
    rw [e2] at S2
    exact hm F H' a b _ F H' _ S2 (fun _ _ _ _ _ _ z => z.elim) (fun _ _ _ _ _ _ z => z.elim) (fun _ _ _ _ _ _ z => z.elim) (fun v d es' σ' F' H2 S' s' rv e => by subst e; cases rv; exact q H2) (fun _ _ _ _ _ _ _ _ _ _ _ _ _ _ z => z.elim)
end
end Y
/-! Y6: lists of texts; drawn words; values of any kind. -/
namespace Y
open PySem L2
theorem pureAll_strs : ∀ ss : List Str, pureAll (ss.map Dt.str) = true
  | [] => by simp [pureAll]
  | s :: ss => by simp [pureAll, Dt.pureD, pureAll_strs ss]
theorem pyAll_strs : ∀ ss : List Str, pyAll (ss.map Dt.str) = ss.map PyData.str
  | [] => by simp [pyAll]
  | s :: ss => by simp [pyAll, Dt.py, pyAll_strs ss]
theorem lay_strs : ∀ ss : List Str, (∀ s ∈ ss, PyData.strOk s = true) → PyData.canLayAll0 (ss.map PyData.str) = true
  | [], _ => by simp [PyData.canLayAll0]
  | s :: ss, h => by
    simp only [List.map_cons, PyData.canLayAll0, PyData.canLay0, Bool.and_eq_true]
    exact ⟨h s (List.mem_cons_self ..), lay_strs ss fun t ht => h t (List.mem_cons_of_mem _ ht)⟩
theorem depth_strs : ∀ ss : List Str, PyData.depthAll (ss.map PyData.str) = 0
  | [] => by simp [PyData.depthAll]
  | s :: ss => by simp [PyData.depthAll, PyData.depth, depth_strs ss]
theorem okD_strs {ss : List Str} (hl : ss.length < 50000) (h : ∀ s ∈ ss, PyData.strOk s = true) : okD (.lst (ss.map Dt.str)) = true := by
  unfold okD
  simp only [Dt.pureD, Dt.py, List.length_map, pureAll_strs, pyAll_strs, SeqAt.shaped, PyData.canLay0, lay_strs ss h, PyData.depth, depth_strs]
  simp [hl]
theorem okD_nil : okD (.lst []) = true := okD_strs (ss := []) (by decide) (fun _ h => nomatch h)
theorem eqv_nil (xs : List PyData) : PyData.eqv (.list xs) (.list []) = xs.isEmpty := by
  cases xs <;> simp [PyData.eqv, PyData.eqvAll]
section
variable {B : Bs} {es : List Sl}
/-- a list of texts == [] -/
theorem o_eqNil {ss : List Str} {P : Dt → Prop} (hl : ss.length < 50000) (h : ∀ s ∈ ss, PyData.strOk s = true) (hp : P (.bl ss.isEmpty)) : Op2 B (rEqA B.K) es (.lst (ss.map Dt.str)) (.lst []) P := by
  refine o_eqAD (okD_strs hl h) okD_nil ?_
  have e : PyData.eqv (Dt.lst (ss.map Dt.str)).py (Dt.lst []).py = ss.isEmpty := by
    simp only [Dt.py, pyAll, pyAll_strs]
    rw [eqv_nil]
    cases ss <;> rfl
  rw [e]
  exact hp
/-- a joined text of single signs -/
theorem join_signs : ∀ cs : List Nat, (Str.join "" (cs.map fun c => ⟨#[c]⟩)).cps.toList = cs
  | [] => rfl
  | [c] => rfl
  | c :: e :: r => by
    have := TL.tl_join ("" : Str) ((c :: e :: r).map fun c => (⟨#[c]⟩ : Str))
    rw [show (Str.join "" ((c :: e :: r).map fun c => (⟨#[c]⟩ : Str))).cps.toList = TL.tl _ from rfl, this]
    have h0 : TL.tl ("" : Str) = [] := by decide +kernel
    rw [h0]
    have key : ∀ l : List Nat, TL.joinL [] ((l.map fun c => (⟨#[c]⟩ : Str)).map TL.tl) = l := by
      intro l
      induction l with
      | nil => rfl
      | cons a l ih =>
        cases l with
        | nil => rfl
        | cons b l =>
          show [a] ++ ([] ++ TL.joinL [] (((b :: l).map fun c => (⟨#[c]⟩ : Str)).map TL.tl)) = a :: b :: l
          rw [ih]; rfl
    exact key _
/-- ''.join([of(bag, TEXT) for k in range(draw(bag, n))]) -/
theorem ev_word {i j : Nat} {b : Addr} {n : Int} {lit : Str} {E E' : XK} {P : Dt → Prop} (hb : B.bag = some b) (hi : es[i]? = some (.r (.ref b))) (hij : j ≠ i) (hn : 0 < n ∧ n ≤ 1000) (hl : 0 < lit.cps.size ∧ lit.cps.size ≤ 1000)
    (h : ∀ z : Str, (z.cps.size : Int) < n → (∀ c ∈ z.cps.toList, c ∈ lit.cps.toList) → P (.str z)) :
    Ev B (tM1 (rJoinA B.K) (tC (.str "")) (tLc (iRng1 (tCons (tCall (spB B.K drawPre drawPost) [] E (tCons (tVar i) (tCons (tC (.int n)) tNil))) tNil)) (gName j) tYes (tCall (spB B.K ofPre ofPost) [] E' (tCons (tVar i) (tCons (tC (.str lit)) tNil))) [j])) es P := by
  refine ev_join (ev_str (str_ex (EvO.ev (eo_map (ei_rng1 (ea_cons (ev_callB hb hi (ea_cons (ev_int (ea_nil ⟨⟨n, rfl, hn.1, by omega⟩, ?_⟩))))))))))
  rintro d ⟨n', k, e, rfl, k1, k2⟩
  cases e
  refine ea_nil ⟨k, rfl, by omega, by omega, by rw [rangeD_len]; omega, fun _ y => ∃ c, c ∈ lit.cps.toList ∧ y = .str ⟨#[c]⟩, fun m x hx => ?_, fun ys hy hR => ?_⟩
  · refine tc_name (ev_callB hb ?_ (ea_cons (ev_str (ea_nil ⟨⟨_, rfl, ?_, ?_⟩, ?_⟩))))
    · show ((es.set j .no).set j (.d x))[i]? = _
      rw [List.getElem?_set_ne hij, List.getElem?_set_ne hij]; exact hi
    · show 0 < (signsD lit).length; rw [signsD_len]; exact hl.1
    · show (signsD lit).length ≤ _; rw [signsD_len]; omega
    · rintro d ⟨x', e, hm⟩
      cases e
      obtain ⟨c, hc, rfl⟩ := List.mem_map.mp hm
      exact ⟨c, hc, rfl⟩
  · rw [rangeD_len] at hy
    have key : ∀ (l : List Dt), (∀ y ∈ l, ∃ c, c ∈ lit.cps.toList ∧ y = Dt.str ⟨#[c]⟩) → ∃ cs : List Nat, (∀ c ∈ cs, c ∈ lit.cps.toList) ∧ l = (cs.map fun c => (⟨#[c]⟩ : Str)).map Dt.str := by
      intro l
      induction l with
      | nil => intro _; exact ⟨[], (fun _ h => nomatch h), rfl⟩
      | cons y l ih =>
        intro hl
        obtain ⟨c, hc, rfl⟩ := hl y (List.mem_cons_self ..)
        obtain ⟨cs, h1, h2⟩ := ih fun z hz => hl z (List.mem_cons_of_mem _ hz)
        refine ⟨c :: cs, fun e he => ?_, by rw [h2]; rfl⟩
        rcases List.mem_cons.mp he with rfl | he
        · exact hc
        · exact h1 e he
    obtain ⟨cs, h1, rfl⟩ := key ys fun y hm => by
      obtain ⟨m, hm⟩ := List.getElem?_of_mem hm
      have hlt := (List.getElem?_eq_some_iff.mp hm).1
      have hr : m < (rangeD 0 k.toNat).length := by rw [rangeD_len]; omega
      exact hR m _ y (List.getElem?_eq_getElem hr) hm
    rw [List.length_map, List.length_map] at hy
    refine ⟨cs.map fun c => (⟨#[c]⟩ : Str), .inl rfl, ?_, ?_⟩
    · have e1 : ((cs.map fun c => (⟨#[c]⟩ : Str)).map (·.length)).sum = cs.length := by
        clear h1 hR hy
        induction cs with
        | nil => rfl
        | cons c cs ih => simp only [List.map_cons, List.sum_cons, ih, List.length_cons]; show 1 + _ = _; omega
      have e2 : ("" : Str).length = 0 := by decide +kernel
      rw [e1, e2]
      omega
    · rw [TL.join_eq]
      have e := join_signs cs
      refine h _ ?_ ?_
      · rw [← Array.length_toList, e]; omega
      · rw [e]; exact h1
end
/-- a value of any kind, as is_name and its like may be handed -/
def goodV (x : Dt) : Bool := plainD x && (match x with | .str z => decide (z.cps.size < 1000) && PyData.strOk z | _ => true)
theorem goodV_pre {x : Dt} (h : goodV x = true) : plainD x = true ∧ txtOk x := by
  unfold goodV at h
  rw [Bool.and_eq_true] at h
  refine ⟨h.1, fun z e => ?_⟩
  subst e
  have := h.2
  rw [Bool.and_eq_true] at this
  exact ⟨of_decide_eq_true this.1, this.2⟩
theorem strOk_of {z lit : Str} (h : ∀ c ∈ z.cps.toList, c ∈ lit.cps.toList) (hl : PyData.strOk lit = true) : PyData.strOk z = true := by
  unfold PyData.strOk at *
  rw [Array.all_eq_true'] at *
  intro c hc
  exact hl c (by have := h c (by simpa using hc); simpa using this)
theorem all_mem {xs : List Dt} {p : Dt → Bool} (h : xs.all p = true) {x : Dt} (hx : x ∈ xs) : p x = true := List.all_eq_true.mp h x hx
/-! ### calls of the helpers: what is asked, what comes -/
theorem draw_k {n : Int} {R : Dt → Prop} (hn : 0 < n ∧ n < 1073741824) (h : ∀ i : Int, 0 ≤ i → i < n → R (.int i)) : drawPre [.int n] ∧ ∀ d, drawPost [.int n] d → R d :=
  ⟨⟨n, rfl, hn.1, hn.2⟩, fun d ⟨m, i, e, e2, k1, k2⟩ => by cases e; subst e2; exact h i k1 k2⟩
theorem of_k {xs : List Dt} {R : Dt → Prop} (h0 : 0 < xs.length ∧ xs.length ≤ 100000) (h : ∀ d, d ∈ xs → R d) : ofPre [.lst xs] ∧ ∀ d, ofPost [.lst xs] d → R d :=
  ⟨⟨_, rfl, h0.1, h0.2⟩, fun d ⟨y, e, hm⟩ => by cases e; exact h d hm⟩
theorem of_kT {xs : List Dt} {R : Dt → Prop} (h0 : 0 < xs.length ∧ xs.length ≤ 100000) (h : ∀ d, d ∈ xs → R d) : ofPre [.tup xs] ∧ ∀ d, ofPost [.tup xs] d → R d :=
  ⟨⟨_, rfl, h0.1, h0.2⟩, fun d ⟨y, e, hm⟩ => by cases e; exact h d hm⟩
theorem odd_k {xs : List Dt} {R : Dt → Prop} (h0 : xs.length ≤ 1000) (h : ∀ d, d ∈ oddL ++ xs → R d) : oddPre [.lst xs] ∧ ∀ d, oddPost [.lst xs] d → R d :=
  ⟨⟨_, rfl, h0⟩, fun d ⟨y, e, hm⟩ => by cases e; exact h d hm⟩
theorem same_k {n : Nat} {x y : Dt} {R : Dt → Prop} (e : x = y) (hp : y.pureD = true) (hd : y.depth < n) (h : R (.bl true)) : samePre n [x, y] ∧ ∀ d, sameTrue [x, y] d → R d :=
  ⟨⟨y, by rw [e], hp, hd⟩, fun d e => by cases e; exact h⟩
theorem num_k {x : Dt} {l m : Int} {R : Dt → Prop} (hp : plainD x = true) (h : R (.bl (isNum x l m))) : numPre [x, .int l, .int m] ∧ ∀ d, numPost [x, .int l, .int m] d → R d :=
  ⟨⟨_, _, _, rfl, hp⟩, fun d ⟨y, l, m, e, e2⟩ => by cases e; subst e2; exact h⟩
theorem name_k {x : Dt} {R : Dt → Prop} (hp : plainD x = true ∧ txtOk x) (h : R (.bl (isNameD x))) : valPre [x] ∧ ∀ d, namePost [x] d → R d :=
  ⟨⟨_, rfl, hp⟩, fun d ⟨y, e, e2⟩ => by cases e; subst e2; exact h⟩
theorem reg_k {x : Dt} {R : Dt → Prop} (hp : plainD x = true ∧ txtOk x) (h : R (.bl (isRegD x))) : valPre [x] ∧ ∀ d, regPost [x] d → R d :=
  ⟨⟨_, rfl, hp⟩, fun d ⟨y, e, e2⟩ => by cases e; subst e2; exact h⟩
theorem word_k {x : Dt} {R : Dt → Prop} (hp : plainD x = true ∧ txtOk x) (h : R (.bl (isNum x 0 65535))) : valPre [x] ∧ ∀ d, wordPost [x] d → R d :=
  ⟨⟨_, rfl, hp⟩, fun d ⟨y, e, e2⟩ => by cases e; subst e2; exact h⟩
theorem good_str {z lit : Str} {n : Int} (h1 : (z.cps.size : Int) < n) (hn : n ≤ 1000) (h : ∀ c ∈ z.cps.toList, c ∈ lit.cps.toList) (hl : PyData.strOk lit = true) : goodV (.str z) = true := by
  have h2 : z.cps.size < 1000 := by omega
  show (true && (decide (z.cps.size < 1000) && PyData.strOk z)) = true
  rw [decide_eq_true h2, strOk_of h hl]; rfl
theorem good_odd : oddL.all goodV = true := by decide +kernel
end Y
/-! Y7: list(text), dicts, defs with defaults, expressions that change a list of one's own. -/
namespace Y
open PySem L2

/-! ### list(text) -/
def rListS (xs : List V) (H : Hp) (Q : VK) : Prop := ∃ z : Str, xs = [.str z] ∧ z.cps.size ≤ 100000 ∧ ∀ l, H l = none → Q (.ref l) (upd H l (.lst (z.cps.toList.map fun c => V.str ⟨#[c]⟩)))
theorem call_listS {X : Cx} (hc : X.calm = true) : CallR X (.type "list") rListS := by
  intro pins s σ H xs us Q I r h
  obtain ⟨z, rfl, hz, q⟩ := h
  obtain ⟨u, rfl, rx⟩ := vals1 r
  obtain ⟨t, rfl⟩ := rx
  refine call_list_str (I.ok.hd hc) z t (fun h' tk acc c' hk e hi => ?_) (size_of hz)
  refine ⟨.ref s.heap.objs.size, upd H s.heap.objs.size (.lst (z.cps.toList.map fun c => V.str ⟨#[c]⟩)), I.laid hk (Nat.le_refl _) ⟨?_, acc.toList, c', ?_, ?_⟩, rfl, q _ (I.hok.fresh (Nat.le_refl _))⟩
  · rw [List.length_map, Array.length_toList]; exact size_of hz
  · refine vals_of_idx _ _ (by rw [List.length_map, Array.length_toList, Array.length_toList]; exact hi.1) fun j u hj => ?_
    obtain ⟨c, t', hc', rfl⟩ := hi.2 j u (by rw [← Array.getElem?_toList]; exact hj)
    exact ⟨.str ⟨#[c]⟩, by rw [List.getElem?_map, Array.getElem?_toList, hc']; rfl, ⟨_, rfl⟩⟩
  · rw [Array.toArray_toList]; exact e
def rListB (K : PySem.W.Frag) : List V → Hp → VK → Prop := cAlt (rListA K) rListS
theorem call_listB {X : Cx} {K : PySem.W.Frag} (hc : X.calm = true) (hK : X.K = K := by rfl) : CallR X (.type "list") (rListB K) := call_alt (call_listA hK) (call_listS hc)
section
variable {B : Bs} {es : List Sl}
theorem eo_listS {ta : TA} {P : List Dt → Prop} (h : EvA B ta es fun ds => ∃ z : Str, ds = [.str z] ∧ z.cps.size ≤ 100000 ∧ P (signsD z)) : EvO B (tCB (rListB B.K) ta) es P := fun σ F H S Q q => h σ F H S _ fun vs ds F1 H1 g1 r1 ⟨z, e, hz, p1⟩ => by
  subst e
  obtain ⟨v, rfl, r⟩ := rp1 r1
  cases r
  have S1 := S.go g1
  refine .inr ⟨z, rfl, hz, fun p hp => q p _ _ F1 _ (g1.trans (S1.allocO hp)) (g1.new (S1.newB hp) hp) (same_none S1.sub hp) upd_same ?_ p1⟩
  unfold signsD
  generalize z.cps.toList = l
  induction l with
  | nil => exact .nil
  | cons c l ih => exact .cons (.str _) ih
theorem eo_listL {ta : TA} {P : List Dt → Prop} (h : EvA B ta es fun ds => ∃ xs, (ds = [.lst xs] ∨ ds = [.tup xs]) ∧ P xs) : EvO B (tCB (rListB B.K) ta) es P := fun σ F H S Q q => h σ F H S _ fun vs ds F1 H1 g1 r1 ⟨xs, e, p1⟩ => by
  have S1 := S.go g1
  rcases e with rfl | rfl
  · obtain ⟨v, rfl, r⟩ := rp1 r1
    cases r with
    | lst h1 h2 => exact .inl ⟨_, _, rfl, .inl (SqL.of (g1.s2 _ _ h1)), fun p hp => q p _ _ F1 _ (g1.trans (S1.allocO hp)) (g1.new (S1.newB hp) hp) (same_none S1.sub hp) upd_same h2 p1⟩
  · obtain ⟨v, rfl, r⟩ := rp1 r1
    cases r with
    | tup h1 h2 => exact .inl ⟨_, _, rfl, .inr (sqT_mono g1.s2 h1), fun p hp => q p _ _ F1 _ (g1.trans (S1.allocO hp)) (g1.new (S1.newB hp) hp) (same_none S1.sub hp) upd_same h2 p1⟩

/-! ### expressions that change lists of one's own -/
def EvM (B : Bs) (te : TE) (es : List Sl) (P : Dt → List Sl → Prop) : Prop := ∀ σ F H, Stt B es σ F H → ∀ Q : VK,
  (∀ v d es' F' H', Same F F' → Stt B es' σ F' H' → Rp B.K F' v d → P d es' → Q v H') → te σ H Q
theorem Ev.m {te : TE} {P : Dt → List Sl → Prop} (h : Ev B te es fun d => P d es) : EvM B te es P := fun σ F H S Q q => h σ F H S Q fun v d F1 H1 g1 r1 p1 => q v d es F1 H1 g1.s1 (S.go g1) r1 p1
theorem em_op {r : R2} {ta tb : TE} {P : Dt → List Sl → Prop} (h : EvM B ta es fun x e1 => EvM B tb e1 fun y e2 => Op2 B r e2 x y fun d => P d e2) : EvM B (tOp r ta tb) es P := fun σ F H S Q q =>
  h σ F H S _ fun v x e1 F1 H1 s1 S1 r1 p1 => p1 σ F1 H1 S1 _ fun w y e2 F2 H2 s2 S2 r2 p2 => p2 σ F2 H2 v w S2 (r1.mono s2) r2 Q fun u d F3 H3 g3 r3 p3 => q u d e2 F3 H3 ((s1.trans s2).trans g3.s1) (S2.go g3) r3 p3
theorem em_pop {i : Nat} {a : Addr} {xs : List Dt} {te : TE} {P : Dt → List Sl → Prop} (hi : es[i]? = some (.own a xs)) (h : Ev B te es fun y => ∃ j : Int, y = .int j ∧ 0 ≤ j ∧ j < xs.length ∧ j < 100000 ∧ ∀ x, xs[j.toNat]? = some x → P x (es.set i (.own a (xs.eraseIdx j.toNat)))) :
    EvM B (tBM B.K "list" rPopAt (tVar i) (tCons te tNil)) es P := fun σ F H S Q q => by
  obtain ⟨vs, h1, h2, h3, h4⟩ := S.own hi
  refine ⟨_, h1, .inl ⟨rfl, _, SqL.of h3⟩, h σ F H S _ fun w y F1 H1 g1 r1 ⟨j, e, j0, j1, j2, p1⟩ => ?_⟩
  subst e
  cases r1
  have S1 := S.go g1
  obtain ⟨vs', k1, k2, k3, k4⟩ := S1.own hi
  have hj : j.toNat < xs.length := by omega
  have hv : j.toNat < vs'.length := by rw [k4.length]; exact hj
  have ev : vs'[j.toNat]? = some vs'[j.toNat] := by simp [hv]
  obtain ⟨x, hx, rx⟩ := k4.getV ev
  have er : RpAll B.K F1 (vs'.eraseIdx j.toNat) (xs.eraseIdx j.toNat) := by
    rw [List.eraseIdx_eq_take_drop_succ, List.eraseIdx_eq_take_drop_succ]
    exact (k4.take _).app (k4.drop _)
  refine ⟨a, vs', j, j.toNat, vs'[j.toNat], rfl, rfl, k3, by omega, by omega, ?_, ev, q _ _ _ F1 _ g1.s1 (S1.change hi k1 k2 er) rx (p1 x hx)⟩
  have e1 : (if j < 0 then j + (vs'.length : Int) else j) = j := if_neg (by omega)
  have e2 : (decide (0 ≤ j) && decide (j < (vs'.length : Int))) = true := by
    rw [decide_eq_true j0, decide_eq_true (show j < (vs'.length : Int) by omega)]; rfl
  show (if (decide (0 ≤ (if j < 0 then j + (vs'.length : Int) else j)) && decide ((if j < 0 then j + (vs'.length : Int) else j) < (vs'.length : Int))) = true then some (if j < 0 then j + (vs'.length : Int) else j).toNat else none) = some j.toNat
  rw [e1, e2]; rfl
theorem sm_appendM {p : Po} {i : Nat} {te : TE} {a : Addr} {xs : List Dt} (hi : es[i]? = some (.own a xs)) (h : EvM B te es fun d e1 => e1[i]? = some (.own a xs) ∧ xs.length < 100000 ∧ p.nx (e1.set i (.own a (xs ++ [d])))) : Sm B (tDrop (tBM B.K "list" rAppend (tVar i) (tCons te tNil))) es p := fun σ F H D S n _ _ _ _ => by
  obtain ⟨vs, h1, h2, h3, h4⟩ := S.own hi
  refine ⟨_, h1, .inl ⟨rfl, _, SqL.of h3⟩, h σ F H S _ fun v d e1 F1 H1 s1 S1 r1 ⟨hi1, p1, p2⟩ => ?_⟩
  obtain ⟨vs', k1, k2, k3, k4⟩ := S1.own hi1
  exact ⟨a, vs', v, rfl, rfl, k3, size_lt (by rw [k4.length]; exact p1), n _ _ F1 _ (S1.change hi1 h1 k2 (k4.app (.cons r1 .nil))) s1 p2⟩
theorem sm_reverse {p : Po} {i : Nat} {a : Addr} {xs : List Dt} (hi : es[i]? = some (.own a xs)) (h : p.nx (es.set i (.own a xs.reverse))) : Sm B (tDrop (tBM0 B.K "list" rReverse (tVar i))) es p := fun σ F H D S n _ _ _ _ => by
  obtain ⟨vs, h1, h2, h3, h4⟩ := S.own hi
  have er : ∀ {us : List V} {ds : List Dt}, RpAll B.K F us ds → RpAll B.K F us.reverse ds.reverse := by
    intro us ds r
    induction us generalizing ds with
    | nil => cases r; exact .nil
    | cons u us ih =>
      cases r with
      | cons r t =>
        rw [List.reverse_cons, List.reverse_cons]
        exact (ih t).app (.cons r .nil)
  exact ⟨_, h1, .inl ⟨rfl, _, SqL.of h3⟩, a, vs, rfl, rfl, h3, n _ _ F _ (S.change hi h1 h2 (er h4)) (Same.refl F) h⟩

/-! ### a list of one's own within a datum: told by its address, seen as a datum for the time of a call -/
mutual
def Dt.see (a : Addr) (xs : List Dt) : Dt → Dt
  | .ali c => if c = a then .lst xs else .ali c
  | .lst ds => .lst (seeAll a xs ds)
  | .tup ds => .tup (seeAll a xs ds)
  | .non => .non
  | .bl b => .bl b
  | .int i => .int i
  | .str s => .str s
  | .obj C ns ds => .obj C ns (seeAll a xs ds)
  | .dct ks ds => .dct ks (seeAll a xs ds)
def seeAll (a : Addr) (xs : List Dt) : List Dt → List Dt
  | [] => []
  | d :: ds => d.see a xs :: seeAll a xs ds
end
mutual
theorem Rp.see {K : PySem.W.Frag} {F F' : Hp} {a : Addr} {xs : List Dt} (s : Same F F') (h : Rp K F' (.ref a) (.lst xs)) : ∀ {v : V} {d : Dt}, Rp K F v d → Rp K F' v (d.see a xs)
  | _, _, .non => by unfold Dt.see; exact .non
  | _, _, .bl b => by unfold Dt.see; exact .bl b
  | _, _, .int i => by unfold Dt.see; exact .int i
  | _, _, .str x => by unfold Dt.see; exact .str x
  | _, _, .lst h1 r => by unfold Dt.see; exact .lst (s _ _ h1) (RpAll.see s h r)
  | _, _, .tup h1 r => by unfold Dt.see; exact .tup (sqT_mono s h1) (RpAll.see s h r)
  | _, _, .obj h1 h2 h3 r => by unfold Dt.see; exact .obj (s _ _ h1) h2 h3 (RpAll.see s h r)
  | _, _, .dct h1 h2 h3 r => by unfold Dt.see; exact .dct (s _ _ h1) h2 h3 (RpAll.see s h r)
  | _, _, .ali c => by
    unfold Dt.see
    by_cases e : c = a
    · rw [if_pos e, e]; exact h
    · rw [if_neg e]; exact .ali c
theorem RpAll.see {K : PySem.W.Frag} {F F' : Hp} {a : Addr} {xs : List Dt} (s : Same F F') (h : Rp K F' (.ref a) (.lst xs)) : ∀ {vs : List V} {ds : List Dt}, RpAll K F vs ds → RpAll K F' vs (seeAll a xs ds)
  | _, _, .nil => by unfold seeAll; exact .nil
  | _, _, .cons r t => by unfold seeAll; exact .cons (Rp.see s h r) (RpAll.see s h t)
end
theorem ev_varOwn {i : Nat} {a : Addr} {xs : List Dt} {P : Dt → Prop} (hi : es[i]? = some (.own a xs)) (h : P (.ali a)) : Ev B (tVar i) es P := fun σ F H S Q q => by
  obtain ⟨vs, h1, h2, h3, h4⟩ := S.own hi
  exact ⟨_, h1, q _ _ F H S.refl (.ali a) h⟩
def scD : Dt → Bool
  | .non => true | .bl _ => true | .int _ => true | .str _ => true
  | _ => false
theorem rp_sc {K : PySem.W.Frag} {F F' : Hp} {v : V} {d : Dt} (r : Rp K F v d) (h : scD d = true) : Rp K F' v d := by
  cases r <;> first | exact .non | exact .bl _ | exact .int _ | exact .str _ | cases h
/-- a pure def is called with data that tell of the list at slot i -/
theorem ev_callSee {i : Nat} {a : Addr} {xs : List Dt} {Pre : List Dt → Prop} {Post : List Dt → Dt → Prop} {E : XK} {ta : TA} {P : Dt → Prop} (hi : es[i]? = some (.own a xs)) (h : EvA B ta es fun ds => Pre (seeAll a xs ds) ∧ ∀ d, Post (seeAll a xs ds) d → scD d = true ∧ P d) : Ev B (tCall (spD B.K Pre Post) [] E ta) es P := fun σ F H S Q q =>
  h σ F H S _ fun vs ds F1 H1 g1 r1 ⟨p1, p2⟩ => by
    rw [List.append_nil]
    have S1 := S.go g1
    obtain ⟨ws, h1, h2, h3, h4⟩ := S1.own hi
    have s1 : Same F1 (upd F1 a (.lst ws)) := same_upd h2
    have sH : Same (upd F1 a (.lst ws)) H1 := fun c o e => by
      by_cases hc : c = a
      · subst hc; rw [upd_same] at e; rw [h3, e]
      · rw [upd_ne hc] at e; exact S1.sub c o e
    refine ⟨_, _, sH, RpAll.see s1 (.lst upd_same (h4.mono s1)) r1, p1, fun v d F2 H2 s1 s2 s3 s4 r2 p3 => ?_⟩
    obtain ⟨hs, hp⟩ := p2 d p3
    exact q v d F1 H2 (g1.trans (S1.pure (Same.refl F1) (S1.sub.trans s4) (fun _ _ h => h) s4)) (rp_sc r2 hs) hp

/-! ### dicts -/
def getK (ks : List Key) (xs : List Dt) (k : Key) : Option Dt := match ks, xs with
  | a :: ks, x :: xs => if a = k then some x else getK ks xs k
  | _, _ => none
theorem getK_of {K : PySem.W.Frag} {F : Hp} (k : Key) : ∀ {kvs : List (Key × V)} {ds : List Dt}, RpAll K F (kvs.map (·.2)) ds → (∀ d, getK (kvs.map (·.1)) ds k = some d → ∃ v, valV kvs k = some v ∧ Rp K F v d) ∧ (getK (kvs.map (·.1)) ds k = none → valV kvs k = none)
  | [], ds, r => by
    cases r
    exact ⟨(fun d h => nomatch h), fun _ => rfl⟩
  | (a, v) :: kvs, ds, r => by
    cases r with
    | cons r1 r2 =>
      have ih := getK_of k r2
      unfold valV
      show (∀ d, (if a = k then some _ else getK _ _ k) = some d → _) ∧ ((if a = k then some _ else getK _ _ k) = none → _)
      by_cases h : a = k
      · rw [if_pos h]
        refine ⟨fun d e => ?_, fun e => nomatch e⟩
        cases e
        exact ⟨v, by simp [h], r1⟩
      · rw [if_neg h]
        refine ⟨fun d e => ?_, fun e => ?_⟩
        · obtain ⟨u, h1, h2⟩ := ih.1 d e
          refine ⟨u, ?_, h2⟩
          unfold valV at h1
          simpa [List.find?_cons, h] using h1
        · have := ih.2 e
          unfold valV at this
          simpa [List.find?_cons, h] using this
/-- a written dict with text keys -/
def KDic (K : PySem.W.Frag) (w : World) (d : Addr) (kvs : List (Str × V)) : Prop := ∃ es n, K.lookup d = some ⟨.type "dict", none, .dict es n, #[]⟩ ∧ PySem.W.KeysLit w.params es.toList ∧ (d == sysModules) = false ∧ Paired (fun (p : Str × V) (e : DictEntry) => (∃ t, e.key = .str p.1 t) ∧ RelV p.2 e.val) kvs es.toList
theorem KDic.ns {K : PySem.W.Frag} {w : World} {d : Addr} {kvs : List (Str × V)} (h : KDic K w d kvs) (z : Str) : ∃ r, PySem.W.nsIn K d z = some r ∧ RelO (kvs.lookup z) r := by
  obtain ⟨es, n, h1, _, _, h2⟩ := h
  unfold PySem.W.nsIn
  rw [h1]
  show ∃ r, (match es.toList.find? (·.key.isStr z) with | some e => some (some e.val) | none => if es.toList.any (·.refKey) then none else some none) = some r ∧ _
  generalize es.toList = l at h2
  have nr : l.any (·.refKey) = false := by
    clear h1
    induction h2 with
    | nil => rfl
    | cons r _ ih =>
      obtain ⟨⟨t, e⟩, _⟩ := r
      rw [List.any_cons, ih]
      unfold DictEntry.refKey
      rw [e]; rfl
  rw [nr]
  clear h1 nr
  induction h2 with
  | nil => exact ⟨none, rfl, trivial⟩
  | @cons p e kvs l r _ ih =>
    obtain ⟨⟨t, hk⟩, rv⟩ := r
    obtain ⟨x, v⟩ := p
    have e1 : e.key.isStr z = (x == z) := by rw [hk]; rfl
    rw [List.find?_cons, e1]
    by_cases h : x = z
    · subst h
      refine ⟨some e.val, by simp, ?_⟩
      show RelO (List.lookup x ((x, v) :: kvs)) _
      rw [List.lookup_cons]
      simp
      exact rv
    · have h2 : (x == z) = false := by simpa using h
      have h3 : (z == x) = false := by simpa using fun q => h q.symm
      rw [h2]
      show ∃ r, _ = some r ∧ RelO (List.lookup z ((x, v) :: kvs)) r
      rw [List.lookup_cons, h3]
      exact ih
end
end Y
/-! Y8: written dicts read, dicts displayed, defs with defaults. -/
namespace Y
open PySem L2
/-! ### written dicts -/
def rInKD (K : PySem.W.Frag) (w : World) : R2 := fun x y H Q => ∃ z d kvs, x = .str z ∧ y = .ref d ∧ KDic K w d kvs ∧ Q (.bl (kvs.lookup z).isSome) H
def rNiKD (K : PySem.W.Frag) (w : World) : R2 := fun x y H Q => ∃ z d kvs, x = .str z ∧ y = .ref d ∧ KDic K w d kvs ∧ Q (.bl (!(kvs.lookup z).isSome)) H
section
variable {X : Cx} {K : PySem.W.Frag} {w : World}
theorem KDic.kd {K : PySem.W.Frag} {w : World} {d : Addr} {kvs : List (Str × V)} (h : KDic K w d kvs) : ∃ es n, KDict K w d es n := by
  obtain ⟨es, n, h1, h2, h3, _⟩ := h
  exact ⟨es, n, h1, h2, h3⟩
theorem op_inKD (hK : X.K = K := by rfl) (hw : X.w = w := by rfl) : OpR X (compareOp .In) (rInKD K w) := by
  subst hK hw
  intro pins s σ H x y u v Q I rx ry h
  obtain ⟨z, d, kvs, rfl, rfl, D, q⟩ := h
  obtain ⟨es, n, D1⟩ := D.kd
  obtain ⟨r, h1, h2⟩ := D.ns z
  refine op_in_kd D1 pins s σ H _ _ u v Q I rx ry ⟨z, r, rfl, rfl, h1, ?_⟩
  rw [← h2.isSome_eq]
  exact q
theorem op_niKD (hK : X.K = K := by rfl) (hw : X.w = w := by rfl) : OpR X (compareOp .NotIn) (rNiKD K w) := by
  subst hK hw
  intro pins s σ H x y u v Q I rx ry h
  obtain ⟨z, d, kvs, rfl, rfl, D, q⟩ := h
  obtain ⟨es, n, D1⟩ := D.kd
  obtain ⟨r, h1, h2⟩ := D.ns z
  refine op_notIn_kd D1 pins s σ H _ _ u v Q I rx ry ⟨z, r, rfl, rfl, h1, ?_⟩
  rw [← h2.isSome_eq]
  exact q
theorem ix_kd (hK : X.K = K := by rfl) (hw : X.w = w := by rfl) : IxR X (rIxD K w) := by
  subst hK hw
  exact ix_kdict
end
section
variable {B : Bs} {es : List Sl} {w : World}
theorem ev_inKD {d : Addr} {kvs : List (Str × V)} {ta : TE} {P : Dt → Prop} (D : KDic B.K w d kvs) (h : Ev B ta es fun x => ∃ z, x = .str z ∧ P (.bl (kvs.lookup z).isSome)) : Ev B (tOp (rInKD B.K w) ta (tC (.ref d))) es P := fun σ F H S Q q =>
  h σ F H S _ fun v x F1 H1 g1 r1 ⟨z, e, p1⟩ => by
    subst e; cases r1
    exact ⟨z, d, kvs, rfl, rfl, D, q _ _ F1 H1 g1 (.bl _) p1⟩
theorem ev_niKD {d : Addr} {kvs : List (Str × V)} {ta : TE} {P : Dt → Prop} (D : KDic B.K w d kvs) (h : Ev B ta es fun x => ∃ z, x = .str z ∧ P (.bl (!(kvs.lookup z).isSome))) : Ev B (tOp (rNiKD B.K w) ta (tC (.ref d))) es P := fun σ F H S Q q =>
  h σ F H S _ fun v x F1 H1 g1 r1 ⟨z, e, p1⟩ => by
    subst e; cases r1
    exact ⟨z, d, kvs, rfl, rfl, D, q _ _ F1 H1 g1 (.bl _) p1⟩
/-- the datum of a scalar value -/
def vD : V → Dt
  | .non => .non
  | .bl b => .bl b
  | .int i => .int i
  | .str s => .str s
  | _ => .non
def scV : V → Bool
  | .non => true | .bl _ => true | .int _ => true | .str _ => true
  | _ => false
theorem rp_vD {K : PySem.W.Frag} {F : Hp} {v : V} (h : scV v = true) : Rp K F v (vD v) := by
  cases v <;> first | exact .non | exact .bl _ | exact .int _ | exact .str _ | cases h
theorem ev_ixKD {d : Addr} {kvs : List (Str × V)} {tb : TE} {P : Dt → Prop} (D : KDic B.K w d kvs) (h : Ev B tb es fun y => ∃ z, y = .str z ∧ ∃ v, kvs.lookup z = some v ∧ scV v = true ∧ P (vD v)) : Ev B (tOp (rIxD B.K w) (tC (.ref d)) tb) es P := fun σ F H S Q q =>
  h σ F H S _ fun v x F1 H1 g1 r1 ⟨z, e, v0, hv, hs, p1⟩ => by
    subst e; cases r1
    obtain ⟨r, h1, h2⟩ := D.ns z
    rw [hv] at h2
    cases r with
    | none => exact (show False from h2).elim
    | some u =>
      obtain ⟨es, n, k1, k2, _, _⟩ := D
      exact ⟨d, z, v0, rfl, rfl, ⟨es, n, u, k1, k2, h1, h2⟩, q _ _ F1 H1 g1 (rp_vD hs) p1⟩

/-! ### dicts displayed and asked -/
def kD : Key → Dt
  | .inl i => .int i
  | .inr x => .str x
theorem rp_kD {K : PySem.W.Frag} {F : Hp} {v : V} {k : Key} (r : Rp K F v (kD k)) : v = kV k := by
  cases k <;> cases r <;> rfl
def EvPs (B : Bs) (trs : List (TE × TE)) (es : List Sl) (P : List Key → List Dt → Prop) : Prop := ∀ σ F H, Stt B es σ F H → ∀ Q : List (V × V) → Hp → Prop,
  (∀ ks ps ds F' H', Go B F H F' H' → RpAll B.K F' (ps.map (·.2)) ds → ps.map (·.1) = ks.map kV → P ks ds → Q ps H') → tPairs trs σ H Q
theorem eps_nil {P : List Key → List Dt → Prop} (h : P [] []) : EvPs B [] es P := fun σ F H S Q q => q [] [] [] F H S.refl .nil rfl h
theorem eps_cons {tk tv : TE} {r : List (TE × TE)} {P : List Key → List Dt → Prop} (h : Ev B tk es fun x => ∃ k, x = kD k ∧ Ev B tv es fun y => EvPs B r es fun ks ds => P (k :: ks) (y :: ds)) : EvPs B ((tk, tv) :: r) es P := fun σ F H S Q q =>
  h σ F H S _ fun v x F1 H1 g1 r1 ⟨k, e, p1⟩ => p1 σ F1 H1 (S.go g1) _ fun u y F2 H2 g2 r2 p2 => p2 σ F2 H2 ((S.go g1).go g2) _ fun ks ps ds F3 H3 g3 r3 e3 p3 => by
    subst e
    refine q (k :: ks) ((v, u) :: ps) (y :: ds) F3 H3 ((g1.trans g2).trans g3) (.cons (r2.mono g3.s1) r3) ?_ p3
    rw [List.map_cons, List.map_cons, e3, rp_kD r1]
theorem merge_nodup {kvs : List (Key × V)} (h : (kvs.map (·.1)).Nodup) : mergeK [] kvs = kvs := by
  have key : ∀ (more acc : List (Key × V)), ((acc ++ more).map (·.1)).Nodup → mergeK acc more = acc ++ more := by
    intro more
    induction more with
    | nil => intro acc _; simp [mergeK]
    | cons p more ih =>
      intro acc hn
      have hv : valV acc p.1 = none := by
        cases e : valV acc p.1 with
        | none => rfl
        | some v =>
          have hm : p.1 ∈ acc.map (·.1) := valV_in (by rw [e])
          rw [List.map_append, List.map_cons] at hn
          have := List.nodup_append.mp hn
          exact absurd rfl (this.2.2 p.1 hm p.1 (List.mem_cons_self ..))
      show mergeK (putK acc p.1 p.2) more = _
      rw [putK_new _ hv, ih]
      · simp
      · simpa using hn
  simpa using key kvs [] (by simpa using h)
theorem zip_back : ∀ (ps : List (V × V)) (ks : List Key), ps.map (·.1) = ks.map kV → ks.length = ps.length → ps = (ks.zip (ps.map (·.2))).map fun kv => (kV kv.1, kv.2)
  | [], [], _, _ => rfl
  | [], _ :: _, _, h => by simp at h
  | _ :: _, [], _, h => by simp at h
  | a :: ps, k :: ks, e, h => by
    simp only [List.map_cons, List.cons.injEq] at e
    simp only [List.map_cons, List.zip_cons_cons, List.cons.injEq]
    exact ⟨by rw [← e.1], zip_back ps ks e.2 (by simpa using h)⟩
/-- a, b = [..], [..]: two new lists of one's own -/
theorem sm_parOO {p : Po} {i j : Nat} {t1 t2 : TE} (hij : i ≠ j) (hj : ∀ a xs, es[j]? ≠ some (.own a xs)) (hi : ∀ a xs, es[i]? ≠ some (.own a xs)) (h : EvO B t1 es fun xs => EvO B t2 es fun ys => ∀ a b, a ≠ b → p.nx ((es.set i (.own a xs)).set j (.own b ys))) : Sm B (tPar i j (tCons t1 (tCons t2 tNil))) es p := fun σ F H D S n _ _ _ _ =>
  h σ F H S _ fun a vs xs F1 H1 g1 a0 a1 a2 r1 p1 => p1 σ F1 H1 (S.go g1) _ fun b ws ys F2 H2 g2 b0 b1 b2 r2 p2 => by
    have S2 := (S.go g1).go g2
    have hab : a ≠ b := ne_of_none a2 b0
    have ha2 : H2 a = some (.lst vs) := g2.kp a _ (S.newB a0) a2
    have hF2 : F2 a = none := g2.nw a (by rw [a2]; simp) a1
    have S3 := S2.setO (i := i) hF2 ha2 (r1.mono g2.s1) (S.new0 a0) (S.newB a0) fun k c zs hk => S.newS a0 k zs hk
    have S4 := S3.setO (i := j) b1 b2 r2 ((S.go g1).new0 b0) ((S.go g1).newB b0) fun k c zs hk => by
      by_cases e : i = k
      · subst e
        have l1 : i < es.length := by
          have := (List.getElem?_eq_some_iff.mp hk).1
          rwa [List.length_set] at this
        rw [List.getElem?_set_self l1] at hk
        cases hk
        exact hab
      · rw [List.getElem?_set_ne e] at hk
        exact (S.go g1).newS b0 k zs hk
    exact ⟨.ref a, .ref b, rfl, n _ _ F2 H2 S4 (g1.s1.trans g2.s1) (p2 a b hab)⟩
theorem ev_disp {trs : List (TE × TE)} {P : Dt → Prop} (h : EvPs B trs es fun ks ds => ks.Nodup ∧ ks.length ≤ 15 ∧ P (.dct ks ds)) : Ev B (tDisp trs) es P := fun σ F H S Q q p hp => by
  have gD := S.allocO (o := .dK []) hp
  have S1 := S.go gD
  have hb := S.newB hp
  refine h σ F _ S1 _ fun ks ps ds F2 H2 g2 r2 e2 ⟨hn, hl, p2⟩ => ?_
  have h2 : H2 p = some (.dK []) := g2.kp p _ hb upd_same
  have hF2 : F2 p = none := g2.nw p (by rw [upd_same]; simp) (same_none S.sub hp)
  have lk : ks.length = ps.length := by
    have := congrArg List.length e2
    simpa using this.symm
  have e3 : ps = (ks.zip (ps.map (·.2))).map fun kv => (kV kv.1, kv.2) := zip_back ps ks e2 lk
  have k1 : (ks.zip (ps.map (·.2))).map (·.1) = ks := by rw [List.map_fst_zip]; rw [List.length_map]; omega
  have k2 : (ks.zip (ps.map (·.2))).map (·.2) = ps.map (·.2) := by rw [List.map_snd_zip]; rw [List.length_map]; omega
  refine ⟨h2, ks.zip (ps.map (·.2)), e3, by rw [List.length_zip, List.length_map]; omega, ?_⟩
  rw [merge_nodup (by rw [k1]; exact hn)]
  refine q (.ref p) (.dct ks ds) (upd F2 p (.dK (ks.zip (ps.map (·.2))))) _ ?_ (.dct upd_same k1 k2 (r2.mono (same_upd hF2))) p2
  refine ⟨g2.s1.trans (same_upd hF2), same_updF g2.s2, fun c h1 h2 => ?_, fun c o h1 h2 => ?_, fun b hb' => ?_, fun q hq => tabS_kept (g2.tb q hq) fun c o k hn => gh_upd h2 (fun z => z) k hn⟩
  · have hc : c ≠ p := fun e => h1 (by rw [e]; exact hp)
    rw [upd_ne hc]
    exact g2.nw c (by rw [upd_ne hc]; exact h1) h2
  · have hc : c ≠ p := ne_of_none h2 hp
    rw [upd_ne hc]
    exact g2.kp c o h1 (by rw [upd_ne hc]; exact h2)
  · obtain ⟨k1, z, zs, k2, k3, k4⟩ := g2.bg b hb'
    have hbp : b ≠ p := fun e => hb.1 (by rw [hb', e])
    exact ⟨by rw [upd_ne hbp]; exact k1, z, zs, by rw [upd_ne hbp]; exact k2, k3.mono (same_upd hF2), k4⟩
/-- d.get(k, x) -/
theorem ev_get2 {td ty tx : TE} {P : Dt → Prop} (h : Ev B td es fun x => ∃ ks xs, x = .dct ks xs ∧ Ev B ty es fun y => ∃ k, y = kD k ∧ Ev B tx es fun z => P ((getK ks xs k).getD z)) : Ev B (tDGet2 td ty tx) es P := fun σ F H S Q q =>
  h σ F H S _ fun v x F1 H1 g1 r1 ⟨ks, xs, e, p1⟩ => by
    subst e
    cases r1 with
    | dct h1 h2 h3 h4 =>
      refine ⟨_, rfl, .inl ⟨_, .inl (g1.s2 _ _ h1)⟩, p1 σ F1 H1 (S.go g1) _ fun u y F2 H2 g2 r2 ⟨k, e2, p2⟩ => p2 σ F2 H2 ((S.go g1).go g2) _ fun t z F3 H3 g3 r3 p3 => ?_⟩
      subst e2
      have ek := rp_kD r2
      subst ek
      subst h2 h3
      have h5 := getK_of k (h4.mono (g2.s1.trans g3.s1))
      refine ⟨_, DGet.k (k := k) (g3.s2 _ _ ((g2.s1.trans g3.s1) _ _ h1)), ?_⟩
      cases e : getK _ xs k with
      | none =>
        rw [h5.2 e]
        rw [e] at p3
        exact q _ _ F3 H3 ((g1.trans g2).trans g3) r3 p3
      | some d =>
        obtain ⟨v', k1, k2⟩ := h5.1 d e
        rw [k1]
        rw [e] at p3
        exact q _ _ F3 H3 ((g1.trans g2).trans g3) k2 p3
end
/-! ### defs with defaults -/
section
variable {P : Program} {w : World} {K : PySem.W.Frag} {mg : Str → Option Value} {base : Heap} {x qual : Str} {pa : Arguments} {bd : List Stmt} {sc : Scope} {dvs : List V} {kws : List (Str × V)} {f : Addr} {fd : FuncData} {N ps : List Str} {k : Nat} {Pre : List Dt → Prop} {Post : List Dt → Dt → Prop} {PostO : List Dt → List Dt → Prop}
theorem fn_dataD (G : FunD K x qual pa bd sc dvs kws f fd) (S : FnScope N ps sc) (hl : ∀ ds, Pre ds → ds.length = ps.length)
    (hb : ∀ (cdv : Value) (A : Around) (outer : List Env) (s : Shared) (H : Hp) (E : XK), Room k (A.deeper (PyProof.Rows.envOfC qual sc s.heap.objs.size f cdv)) →
      ∃ t, PSs (cxOf CX0 P w K mg base N qual sc f cdv A outer s H E).nox bd t ∧ ∀ F0 H0 ds, Pre ds → Sm ⟨K, F0, H0, none, []⟩ t (env0 N ds) { nx := fun _ => Post ds .non, bk := fun _ => False, ct := fun _ => False, rt := fun _ => Post ds }) :
    FnOk P w K mg base CX0 (k + 1) f fd ps (spD K Pre Post) := by
  refine G.ok S (fun vs H Q E h => ?_) (fun cdv A outer s H vs Q E hr h => ?_)
  · obtain ⟨F, ds, _, r, hp, _⟩ := h
    rw [r.length]; exact hl ds hp
  · obtain ⟨F, ds, hs, r, hp, q⟩ := h
    obtain ⟨t, hd, hm⟩ := hb cdv A outer s H E hr
    refine ⟨t, hd.nox, hm F H ds hp _ F H _ (start_stt hs r (fun _ z => nomatch z) (fun _ z => nomatch z) (fun _ z => nomatch z)) (fun es' σ' F' H' S' s' p => ?_) (fun _ _ _ _ _ _ z => z.elim) (fun _ _ _ _ _ _ z => z.elim) (fun v d es' σ' F' H' S' s' rv p => ?_) (fun _ _ _ _ _ _ _ _ _ _ _ _ _ _ z => z.elim)⟩
    · exact q _ _ F' H' s' S'.ou S'.sub (fun c o e => S'.fr c o e off_nil) .non p
    · exact q _ _ F' H' s' S'.ou S'.sub (fun c o e => S'.fr c o e off_nil) rv p
theorem fn_ownD (G : FunD K x qual pa bd sc dvs kws f fd) (S : FnScope N ps sc) (hl : ∀ ds, Pre ds → ds.length = ps.length)
    (hb : ∀ (cdv : Value) (A : Around) (outer : List Env) (s : Shared) (H : Hp) (E : XK), Room k (A.deeper (PyProof.Rows.envOfC qual sc s.heap.objs.size f cdv)) →
      ∃ t, PSs (cxOf CX0 P w K mg base N qual sc f cdv A outer s H E).nox bd t ∧ ∀ F0 H0 ds, Pre ds → Sm ⟨K, F0, H0, none, []⟩ t (env0 N ds) { nx := fun _ => False, bk := fun _ => False, ct := fun _ => False, rt := fun _ _ => False, ro := PostO ds }) :
    FnOk P w K mg base CX0 (k + 1) f fd ps (spO K Pre PostO) := by
  refine G.ok S (fun vs H Q E h => ?_) (fun cdv A outer s H vs Q E hr h => ?_)
  · obtain ⟨F, ds, _, r, hp, _⟩ := h
    rw [r.length]; exact hl ds hp
  · obtain ⟨F, ds, hs, r, hp, q⟩ := h
    obtain ⟨t, hd, hm⟩ := hb cdv A outer s H E hr
    refine ⟨t, hd.nox, hm F H ds hp _ F H _ (start_stt hs r (fun _ z => nomatch z) (fun _ z => nomatch z) (fun _ z => nomatch z)) (fun _ _ _ _ _ _ z => z.elim) (fun _ _ _ _ _ _ z => z.elim) (fun _ _ _ _ _ _ z => z.elim) (fun _ _ _ _ _ _ _ _ _ z => z.elim) (fun a vs xs es' σ' F' H' S' s' h1 h2 r1 h3 h4 p => ?_)⟩
    exact q a vs xs F' H' s' S'.ou S'.sub (fun c o e => S'.fr c o e off_nil) h3 h1 h2 r1 p
/-- a keyword call of a def with positional defaults: g puts values, defaults and keywords in order -/
theorem kb_dfl (G : FunD K x qual pa bd sc dvs kws f fd) (n : Nat) (ks : List Str) (g : {α : Type} → List α → List α → List α → List α) (hd : dvs ≠ [])
    (hrel : ∀ {fv : List V} {fu : List Value} {vs zs : List V} {us ws : List Value}, Vals fv fu → Vals vs us → Vals zs ws → Vals (g fv vs zs) (g fu us ws))
    (h : ∀ (T : Addr) (kV doc pm : Value) (an : Option Addr) (cdv ct : Value) (us its ws : List Value), us.length = n → its.length = dvs.length → ws.length = ks.length →
      ∃ k, bindArgs (PySem.W.fnOf x qual pa bd sc (.ref T) kV doc pm an cdv ct) ⟨us, ks.zip ws⟩ = seqItems? (.ref T) >>= k ∧ k (some its.toArray) = pure (ps.zip (g its us ws))) :
    ∃ fu : List Value, Vals dvs fu ∧ KBn K fd ps n ks (fun us ws => g fu us ws) (fun vs zs => g dvs vs zs) := by
  obtain ⟨oc, od, dV, kV, doc, pm, an, cdv, ct, osl, rfl, lk, hcd, hD, hK⟩ := G.ex
  rcases hD with ⟨e, _⟩ | ⟨_, T, o, its, m, rfl, lT, oT, rT⟩
  · exact absurd e hd
  · refine ⟨its, rT, ⟨fun s us ws X l1 l2 => ?_, fun r1 r2 => hrel rT r1 r2⟩⟩
    obtain ⟨k, e1, e2⟩ := h T kV doc pm an cdv ct us its ws l1 rT.length.symm l2
    refine BindsTo.of_looks fun M => ?_
    rw [e1]
    exact looks_items X lT oT (.of_pure e2)
end
end Y
/-! Y9: rows as data; what the helpers that draw rows promise. -/
namespace Y
open PySem L2
/-! ### rows -/
def fitsB (k : Nat) (x : Dt) : Bool := if k = 114 then isRegD x else if k = 110 then isNameD x else if k = 119 then isNum x 0 65535 else if k = 100 then isNum x 0 15 else isNum x 1 120
def formB : List Nat → List Dt → Bool
  | [], [] => true
  | k :: ks, x :: xs => fitsB k x && formB ks xs
  | _, _ => false
def codeForms : List (Str × Str) := [("put", "rw"), ("name", "rn"), ("add", "rr"), ("take", "rr"), ("load", "rrd"), ("store", "rrd"), ("jump", "n"), ("ifzero", "rn"), ("call", "n"), ("callby", "r"), ("back", ""), ("out", "r"), ("halt", ""), ("room", "k")]
def dataForms : List (Str × Str) := [("word", "w"), ("address", "n"), ("room", "k")]
def rowBy (fs : List (Str × Str)) (d : Dt) : Bool := match d with
  | .tup (.str w :: rest) => (match fs.lookup w with
    | some f => formB f.cps.toList rest
    | none => false)
  | _ => false
abbrev codeRow (d : Dt) : Bool := rowBy codeForms d
abbrev dataRow (d : Dt) : Bool := rowBy dataForms d
theorem rowBy_of {fs : List (Str × Str)} {w : Str} {rest : List Dt} {ks : List Nat} (h0 : (fs.lookup w).map (fun f => f.cps.toList) = some ks) (hf : formB ks rest = true) : rowBy fs (.tup (.str w :: rest)) = true := by
  obtain ⟨f, h, hk⟩ := Option.map_eq_some_iff.mp h0
  show (match fs.lookup w with | some f => formB f.cps.toList rest | none => false) = true
  rw [h]
  show formB f.cps.toList rest = true
  rw [hk]; exact hf
theorem rowBy_inv {fs : List (Str × Str)} {d : Dt} (h : rowBy fs d = true) : ∃ w f rest, d = .tup (.str w :: rest) ∧ fs.lookup w = some f ∧ formB f.cps.toList rest = true := by
  unfold rowBy at h
  split at h
  · rename_i w rest
    cases e : fs.lookup w with
    | none => rw [e] at h; cases h
    | some f => rw [e] at h; exact ⟨w, f, rest, rfl, e, h⟩
  · cases h
/-- what the sizes of rows ask -/
def RowW (d : Dt) : Prop := ∃ w rest, d = .tup (.str w :: rest) ∧ (w = "room" → ∃ k : Int, rest = [.int k])
theorem formB_k {rest : List Dt} (h : formB [107] rest = true) : ∃ k : Int, rest = [.int k] ∧ 1 ≤ k ∧ k ≤ 120 := by
  cases rest with
  | nil => cases h
  | cons x xs =>
    cases xs with
    | cons y ys =>
      have h : (fitsB 107 x && false) = true := h
      rw [Bool.and_false] at h; cases h
    | nil =>
      have h : (fitsB 107 x && true) = true := h
      rw [Bool.and_true] at h
      have h : isNum x 1 120 = true := h
      cases x with
      | int i =>
        have h : (decide ((1 : Int) ≤ i) && decide (i ≤ 120)) = true := h
        rw [Bool.and_eq_true] at h
        exact ⟨i, rfl, of_decide_eq_true h.1, of_decide_eq_true h.2⟩
      | _ => cases h
theorem rowW_code {d : Dt} (h : codeRow d = true) : RowW d := by
  obtain ⟨w, f, rest, rfl, h1, h2⟩ := rowBy_inv h
  refine ⟨w, rest, rfl, fun e => ?_⟩
  subst e
  have e1 : codeForms.lookup ("room" : Str) = some ("k" : Str) := by decide +kernel
  rw [e1] at h1
  cases h1
  have e2 : ("k" : Str).cps.toList = [107] := by decide +kernel
  rw [e2] at h2
  obtain ⟨k, e, _⟩ := formB_k h2
  exact ⟨k, e⟩
theorem rowW_data {d : Dt} (h : dataRow d = true) : RowW d := by
  obtain ⟨w, f, rest, rfl, h1, h2⟩ := rowBy_inv h
  refine ⟨w, rest, rfl, fun e => ?_⟩
  subst e
  have e1 : dataForms.lookup ("room" : Str) = some ("k" : Str) := by decide +kernel
  rw [e1] at h1
  cases h1
  have e2 : ("k" : Str).cps.toList = [107] := by decide +kernel
  rw [e2] at h2
  obtain ⟨k, e, _⟩ := formB_k h2
  exact ⟨k, e⟩
theorem fit_r {x : Dt} (h : isRegD x = true) : fitsB 114 x = true := h
theorem fit_n {x : Dt} (h : isNameD x = true) : fitsB 110 x = true := h
theorem fit_w {i : Int} (h : 0 ≤ i ∧ i ≤ 65535) : fitsB 119 (.int i) = true := by
  show (decide (_ ≤ _) && decide (_ ≤ _)) = true
  rw [decide_eq_true h.1, decide_eq_true h.2]; rfl
theorem fit_d {i : Int} (h : 0 ≤ i ∧ i ≤ 15) : fitsB 100 (.int i) = true := by
  show (decide (_ ≤ _) && decide (_ ≤ _)) = true
  rw [decide_eq_true h.1, decide_eq_true h.2]; rfl
theorem fit_k {i : Int} (h : 1 ≤ i ∧ i ≤ 120) : fitsB 107 (.int i) = true := by
  show (decide (_ ≤ _) && decide (_ ≤ _)) = true
  rw [decide_eq_true h.1, decide_eq_true h.2]; rfl
theorem form0 : formB [] [] = true := rfl
theorem form1 {a : Nat} {x : Dt} (h : fitsB a x = true) : formB [a] [x] = true := by
  show (fitsB a x && true) = true
  rw [h]; rfl
theorem form2 {a b : Nat} {x y : Dt} (h : fitsB a x = true) (h2 : fitsB b y = true) : formB [a, b] [x, y] = true := by
  show (fitsB a x && (fitsB b y && true)) = true
  rw [h, h2]; rfl
theorem form3 {a b c : Nat} {x y z : Dt} (h : fitsB a x = true) (h2 : fitsB b y = true) (h3 : fitsB c z = true) : formB [a, b, c] [x, y, z] = true := by
  show (fitsB a x && (fitsB b y && (fitsB c z && true))) = true
  rw [h, h2, h3]; rfl
/-! ### drawn names -/
def titlesPre (ds : List Dt) : Prop := ∃ m : Int, ds = [.int m] ∧ 0 ≤ m ∧ m ≤ 26
def titlesPost (ds : List Dt) (d : Dt) : Prop := ∃ (m : Int) (ss : List Str), ds = [.int m] ∧ d = .lst (ss.map Dt.str) ∧ (ss.length : Int) = m ∧ (∀ s ∈ ss, isNameD (.str s) = true) ∧ ss.Nodup
def NamesD (d : Dt) : Prop := ∃ ss : List Str, d = .lst (ss.map Dt.str) ∧ 0 < ss.length ∧ ss.length ≤ 1000 ∧ ∀ s ∈ ss, isNameD (.str s) = true
theorem titles_k {m : Int} {R : Dt → Prop} (hm : 0 ≤ m ∧ m ≤ 26) (h : ∀ ss : List Str, (ss.length : Int) = m → (∀ s ∈ ss, isNameD (.str s) = true) → ss.Nodup → R (.lst (ss.map Dt.str))) : titlesPre [.int m] ∧ ∀ d, titlesPost [.int m] d → R d :=
  ⟨⟨m, rfl, hm⟩, fun d ⟨m', ss, e, e2, h1, h2, h3⟩ => by cases e; subst e2; exact h ss h1 h2 h3⟩
def nilPre (ds : List Dt) : Prop := ds = []
def numberPost (_ : List Dt) (d : Dt) : Prop := ∃ i : Int, d = .int i ∧ 0 ≤ i ∧ i ≤ 65535
def rPost (_ : List Dt) (d : Dt) : Prop := isRegD d = true
theorem number_k {R : Dt → Prop} (h : ∀ i : Int, 0 ≤ i → i ≤ 65535 → R (.int i)) : nilPre [] ∧ ∀ d, numberPost [] d → R d := ⟨rfl, fun d ⟨i, e, h1, h2⟩ => by subst e; exact h i h1 h2⟩
theorem r_k {R : Dt → Prop} (h : ∀ d, isRegD d = true → R d) : nilPre [] ∧ ∀ d, rPost [] d → R d := ⟨rfl, fun d e => h d e⟩
def namesPre (ds : List Dt) : Prop := ∃ t, ds = [t] ∧ NamesD t
def codeRowPost (_ : List Dt) (d : Dt) : Prop := codeRow d = true
def dataRowPost (_ : List Dt) (d : Dt) : Prop := dataRow d = true
theorem code_k {t : Dt} {R : Dt → Prop} (ht : NamesD t) (h : ∀ d, codeRow d = true → R d) : namesPre [t] ∧ ∀ d, codeRowPost [t] d → R d := ⟨⟨t, rfl, ht⟩, fun d e => h d e⟩
theorem data_k {t : Dt} {R : Dt → Prop} (ht : NamesD t) (h : ∀ d, dataRow d = true → R d) : namesPre [t] ∧ ∀ d, dataRowPost [t] d → R d := ⟨⟨t, rfl, ht⟩, fun d e => h d e⟩
/-- one of the names -/
theorem of_names {t : Dt} {R : Dt → Prop} (ht : NamesD t) (h : ∀ d, isNameD d = true → R d) : ofPre [t] ∧ ∀ d, ofPost [t] d → R d := by
  obtain ⟨ss, rfl, h0, h1, h2⟩ := ht
  refine of_k ⟨by simpa using h0, by simp; omega⟩ fun d hd => ?_
  obtain ⟨s, hs, rfl⟩ := List.mem_map.mp hd
  exact h _ (h2 s hs)
/-- one of some written things -/
theorem of_all {xs : List Dt} {p : Dt → Bool} {R : Dt → Prop} (h0 : 0 < xs.length ∧ xs.length ≤ 100000) (hp : xs.all p = true) (h : ∀ d, p d = true → R d) : ofPre [.lst xs] ∧ ∀ d, ofPost [.lst xs] d → R d :=
  of_k h0 fun d hd => h d (all_mem hp hd)
/-- a text cut in two with a sign between is a name -/
theorem isName_mk {z : Str} (h1 : 1 ≤ z.cps.size) (h2 : z.cps.size ≤ 6) (h : ∀ c ∈ z.cps.toList, c ∈ letters) : isNameD (.str z) = true := by
  show (decide ((1 : Int) ≤ (z.cps.size : Int)) && (decide ((z.cps.size : Int) ≤ 6) && z.cps.toList.all fun c => decide (c ∈ letters))) = true
  rw [decide_eq_true (by omega), decide_eq_true (by omega), Bool.true_and, Bool.true_and, List.all_eq_true]
  intro c hc
  exact decide_eq_true (h c hc)
theorem cut_app (z : Str) (n : Nat) (h : n ≤ z.cps.size) : (cutS z none (some (n : Int))).cps.toList = z.cps.toList.take n ∧ (cutS z (some (n : Int)) none).cps.toList = z.cps.toList.drop n := by
  have e0 : z.length = z.cps.size := rfl
  have e1 : HT.sIx z.length z.length (some (n : Int)) = n := by
    show (if (n : Int) < 0 then ((n : Int) + (z.length : Int)).toNat else min (n : Int).toNat z.length) = n
    rw [if_neg (by omega)]; omega
  have e2 : HT.sIx z.length 0 (some (n : Int)) = n := by
    show (if (n : Int) < 0 then ((n : Int) + (z.length : Int)).toNat else min (n : Int).toNat z.length) = n
    rw [if_neg (by omega)]; omega
  have e3 : HT.sIx z.length 0 none = 0 := rfl
  have e4 : HT.sIx z.length z.length none = z.length := rfl
  unfold cutS
  rw [e1, e2, e3, e4]
  constructor
  · simp
  · simp only []
    rw [List.take_of_length_le]
    rw [List.length_drop, Array.length_toList, e0]
    exact Nat.le_refl _
theorem app_toList (x y : Str) : (x ++ y).cps.toList = x.cps.toList ++ y.cps.toList := TL.tl_append x y
theorem perm_erase {α : Type} : ∀ {l : List α} {j : Nat} {c : α}, l[j]? = some c → l.Perm (c :: l.eraseIdx j)
  | [], j, c, h => by simp at h
  | a :: l, 0, c, h => by
    simp at h
    subst h
    exact List.Perm.refl _
  | a :: l, j + 1, c, h => by
    have ih := perm_erase (l := l) (j := j) (c := c) (by simpa using h)
    rw [List.eraseIdx_cons_succ]
    exact (List.Perm.cons a ih).trans (List.Perm.swap c a _)
theorem atI_toNat {α : Type} {xs : List α} {i : Int} {x : α} (h0 : 0 ≤ i) (h : xs[i.toNat]? = some x) : atI xs i = some x := by
  have hl := (List.getElem?_eq_some_iff.mp h).1
  unfold atI ixN
  rw [if_pos h0, if_pos (by omega)]
  exact h
theorem eo_if {B : Bs} {es : List Sl} {t : TT} {ta tb : TE} {P : List Dt → Prop} (h : EvT B t es fun b => (b = true → EvO B ta es P) ∧ (b = false → EvO B tb es P)) : EvO B (tIf t ta tb) es P := fun σ F H S Q q => h σ F H S _ fun b F1 H1 g1 p1 => by
  have S1 := S.go g1
  cases b with
  | true =>
    show ta σ H1 Q
    exact p1.1 rfl σ F1 H1 S1 Q fun a vs xs F2 H2 g2 h0 h1 h2 r p => q a vs xs F2 H2 (g1.trans g2) (g1.new (S1.newB h0) h0) h1 h2 r p
  | false =>
    show tb σ H1 Q
    exact p1.2 rfl σ F1 H1 S1 Q fun a vs xs F2 H2 g2 h0 h1 h2 r p => q a vs xs F2 H2 (g1.trans g2) (g1.new (S1.newB h0) h0) h1 h2 r p
theorem sm_par3 {B : Bs} {es : List Sl} {p : Po} {i j l : Nat} {ta : TA} (h : EvA B ta es fun ds => ∃ x y z, ds = [x, y, z] ∧ p.nx (((es.set i (.d x)).set j (.d y)).set l (.d z))) : Sm B (tPar3 i j l ta) es p := fun σ F H D S n _ _ _ _ => h σ F H S _ fun vs ds F1 H1 g1 r1 ⟨x, y, z, e, p1⟩ => by
  subst e
  cases r1 with
  | cons a r =>
    obtain ⟨v, w, rfl, b, c⟩ := rp2 r
    exact ⟨_, v, w, rfl, n _ _ F1 H1 ((((S.go g1).setD a).setD b).setD c) g1.s1 p1⟩
end Y
/-! Y10: zip of a text and a tuple. -/
namespace Y
open PySem L2 PyProof.Rows
/-- the signs of x with the items of the tuple at b, in new pairs -/
def ItzS (K : PySem.W.Frag) (x : Str) (b : Addr) : It :=
  ⟨fun i H => ∃ ys : List V, SqT K H b ys ∧ i < min x.cps.size ys.length,
    fun i H v H' => ∃ T c y, v = .ref T ∧ H T = none ∧ H' = upd H T (.tup [.str ⟨#[c]⟩, y]) ∧ x.cps[i]? = some c ∧ ∀ ys, SqT K H b ys → ys[i]? = some y,
    fun i H => ∃ ys : List V, SqT K H b ys ∧ i = min x.cps.size ys.length⟩
theorem turn_zipS {P : Program} {w : World} {K : PySem.W.Frag} {elts : List Expr} {kk : Nat} {tpos : Pos} {x : Str} {t : Tok} {b z TI TO i1 i2 : Addr} (S : ZipSep2 z TI TO i1 i2 [i1] [i2, b]) (hb : b ≠ i2) :
    Turn P w K (.Tuple elts kk tpos) (ItzS K x b) [z, TI, TO, i1, i2] z (fun i h => IsZip h z TI TO .none ∧ IsTupOf2 h TI (.ref i1) (.ref i2) ∧ (∃ a1 a2, IsTupOf2 h TO a1 a2) ∧ h.IsStrIter i1 (strIterType x) x t i ∧ h.IsTupleIter i2 b i) where
  mem := by simp
  obj := fun i h st c hc => by
    obtain ⟨hz, hTI, ⟨x, y, hTO⟩, ⟨o1, e1, _, d1⟩, ⟨o2, e2, _, d2⟩⟩ := st
    have e' : c = z ∨ c = TI ∨ c = TO ∨ c = i1 ∨ c = i2 := by simpa using hc
    rcases e' with q | q | q | q | q
    · rw [q]; exact ⟨_, hz, fun v q => nomatch q⟩
    · rw [q]; exact ⟨_, hTI, fun v q => nomatch q⟩
    · rw [q]; exact ⟨_, hTO, fun v q => nomatch q⟩
    · rw [q]; exact ⟨o1, e1, fun v q => by rw [d1] at q; cases q⟩
    · rw [q]; exact ⟨o2, e2, fun v q => by rw [d2] at q; cases q⟩
  keep := fun i h h' st k => by
    obtain ⟨hz, hTI, ⟨x, y, hTO⟩, h1, h2⟩ := st
    obtain ⟨o1, e1, c1, d1⟩ := h1
    exact ⟨k z (by simp) _ hz, k TI (by simp) _ hTI, ⟨x, y, k TO (by simp) _ hTO⟩, ⟨o1, k i1 (by simp) _ e1, c1, d1⟩, h2.at fun o q => k i2 (by simp) o q⟩
  item := by
    intro X hP hw hK hc i pins s σ H E I hf st hg
    subst hP hw hK
    obtain ⟨hz, hTI, hTO, h1, h2⟩ := st
    obtain ⟨ys, hq, hi⟩ := hg
    obtain ⟨its, rv, p, _⟩ := I.tuple hq
    have l := rv.length
    have hiy : i < ys.length := by omega
    have hh : X.A.in1.handled = none := I.ok.hd hc
    have p : s.heap.IsTuple b its.toArray := p
    refine (GoesN.zip2 S (Draws.text hh i1 x t) (Draws.tuple hh i2 b hb its.toArray)).goes i s _ E (by simp; omega) ⟨hz, hTI, hTO, h1, h2, p⟩ ?_
    rintro v h' tk ⟨T, u1, u2, rfl, hnew, ⟨c, tk1, hc1, rfl⟩, e2, hT⟩ st' hk _
    obtain ⟨u, hu, ru⟩ := rv.get (i := i) (x := ys[i]) (by simp [hiy])
    have e3 : u = u2 := by
      have : its[i]? = some u2 := by simpa using e2
      rw [hu] at this; cases this; rfl
    subst e3
    have new : ObjOk X.prog X.w (upd H T (.tup [.str ⟨#[c]⟩, ys[i]])) h' T (.tup [.str ⟨#[c]⟩, ys[i]]) :=
      ⟨by show 2 ≤ sizeLine; decide, [.str ⟨#[c]⟩ tk1, u], .cons ⟨_, rfl⟩ (.cons ru .nil), hT⟩
    have I1 : Inv X pins σ (upd H T (.tup [.str ⟨#[c]⟩, ys[i]])) { s with heap := h', toks := tk } :=
      I.turnedNew (t' := tk) (ch := [z, TI, TO, i1, i2]) (fun b o hb q => hk b o (fun hm => hb (by
        have e' : b = z ∨ b = TO ∨ b = i1 ∨ b = i2 := by simpa using hm
        rcases e' with q | q | q | q <;> simp [q])) q) hf hnew new
    refine ⟨.ref T, _, I1, rfl, ⟨T, c, ys[i], rfl, I.hok.fresh hnew, rfl, hc1, fun l hl => by rw [I.tuple_inj hl hq]; simp [hiy]⟩, ⟨st'.1, st'.2.1, st'.2.2.1, st'.2.2.2.1, st'.2.2.2.2.1⟩, fun c hcm => ?_⟩
    have hlt : c < s.heap.objs.size := by
      have e' : c = z ∨ c = TI ∨ c = TO ∨ c = i1 ∨ c = i2 := by simpa using hcm
      rcases e' with q | q | q | q | q
      · rw [q]; exact Heap.lt_size hz
      · rw [q]; exact Heap.lt_size hTI
      · rw [q]; obtain ⟨_, _, e1⟩ := hTO; exact Heap.lt_size e1
      · rw [q]; obtain ⟨_, e1, _⟩ := h1; exact Heap.lt_size e1
      · rw [q]; obtain ⟨_, e2, _⟩ := h2; exact Heap.lt_size e2
    rw [upd_ne (Nat.ne_of_lt (Nat.lt_of_lt_of_le hlt hnew))]
    exact (hf c hcm).1
  done := by
    intro X hP hw hK hc i pins s σ H E I hf st hg
    subst hP hw hK
    obtain ⟨hz, hTI, hTO, h1, h2⟩ := st
    obtain ⟨ys, hq, hi⟩ := hg
    obtain ⟨its, rv, p, _⟩ := I.tuple hq
    have l := rv.length
    have hh : X.A.in1.handled = none := I.ok.hd hc
    have p : s.heap.IsTuple b its.toArray := p
    have hi : i = min x.cps.size its.toArray.size := by simp; omega
    subst hi
    refine (GoesN.zip2 (elts := elts) (x1 := kk) (pos := tpos) S (Draws.text hh i1 x t) (Draws.tuple hh i2 b hb its.toArray)).stops s _ E ⟨hz, hTI, hTO, h1, h2, p⟩ fun h' tk hk _ => ?_
    exact I.turnedL (t' := tk) (ch := [z, TI, TO, i1, i2]) (fun b o hb q => hk b o (fun hm => hb (by
        have e' : b = z ∨ b = TO ∨ b = i1 ∨ b = i2 := by simpa using hm
        rcases e' with q | q | q | q <;> simp [q])) q) hf
  self := fun A i s Q E st h => wpAny_pyIter_zip st.1 h
def iZipS (K : PySem.W.Frag) (ta : TA) : TI := fun σ H R => ta σ H fun vs H1 => ∃ (x : Str) (b : Addr) (ys : List V), vs = [.str x, .ref b] ∧ SqT K H1 b ys ∧ R (ItzS K x b) H1
theorem pi_zipS {X : Cx} {K : PySem.W.Frag} {e e2 : Expr} {ta : TA} {p pos tpos : Pos} {elts : List Expr} {kk : Nat} (hg : Gl X "zip") (hm : X.mg "zip" = none) (ha : PA X [e, e2] ta) (hK : X.K = K := by rfl)
    (hs : starEach [e, e2] X.env = (false, eval e X.env) :: starEach [e2] X.env := by rfl) (hpl : (backTo pos (starEach [e2] X.env)).any (·.1) = false := by rfl) :
    PI X (.Tuple elts kk tpos) (.Call (.Name "zip" p) [e, e2] [] pos) (iZipS K ta) := by
  subst hK
  refine ⟨fun pins s σ H R I h => ?_⟩
  refine Call_ (ld_blt I hg hm PyProof.Rows.boot_zip (PyProof.Rows.callWith_type1 (thn (ha.run pos pins s σ H _ I h) fun us s1 ⟨vs, H1, I1, r1, q1⟩ => ?_) hs hpl))
  obtain ⟨x, b, ys, ex, hq, q⟩ := q1
  subst ex
  cases r1 with
  | cons r rr =>
    cases rr with
    | cons r' rr =>
      cases rr
      obtain ⟨t, rfl⟩ := r
      cases r'
      have fresh5 : ∀ c, c ∈ [s1.heap.objs.size + 4, s1.heap.objs.size + 2, s1.heap.objs.size + 3, s1.heap.objs.size, s1.heap.objs.size + 1] → FpOk X pins H1 c := fun c hcm => by
        have e' : c = s1.heap.objs.size + 4 ∨ c = s1.heap.objs.size + 2 ∨ c = s1.heap.objs.size + 3 ∨ c = s1.heap.objs.size ∨ c = s1.heap.objs.size + 1 := by simpa using hcm
        have hle : s1.heap.objs.size ≤ c := by
          rcases e' with z | z | z | z | z
          · rw [z]; exact Nat.le_add_right _ _
          · rw [z]; exact Nat.le_add_right _ _
          · rw [z]; exact Nat.le_add_right _ _
          · rw [z]; exact Nat.le_refl _
          · rw [z]; exact Nat.le_add_right _ _
        exact I1.fpOk hle (I1.hok.fresh hle)
      obtain ⟨its, rv, p1, _⟩ := I1.tuple hq
      have p1 : s1.heap.IsTuple b its.toArray := p1
      obtain ⟨o1, ho1, _⟩ := id p1
      have hlt : b < s1.heap.objs.size := Heap.lt_size ho1
      refine zip_begins2 (begins_text x t) (begins_tuple b its.toArray) trivial p1 fun h' hz hTI hTO g1 g2 hsz hk => wpAny_pyIter_zip hz ?_
      have I2 : Inv X pins σ H1 { s1 with heap := h' } := I1.kept (t' := s1.toks) hk
      exact ⟨s1.heap.objs.size + 4, [s1.heap.objs.size + 4, s1.heap.objs.size + 2, s1.heap.objs.size + 3, s1.heap.objs.size, s1.heap.objs.size + 1], _, _, H1, rfl, I2,
        turn_zipS (x := x) (t := t) (zip_sep2 (fp1 := []) (fp2 := [b]) (fun c hc => nomatch hc) (fun c hc => by rw [List.mem_singleton.mp hc]; exact hlt)) (Nat.ne_of_lt (Nat.lt_succ_of_lt hlt)), ⟨hz, hTI, ⟨_, _, hTO⟩, ⟨_, g1, rfl, rfl⟩, ⟨_, g2, rfl, rfl⟩⟩, fresh5, q⟩
theorem pairD_len' (xs ys : List Dt) : (pairD xs ys).length = min xs.length ys.length := pairD_len xs ys
theorem itd_zipS {K : PySem.W.Frag} {F : Hp} {x : Str} {b : Addr} {ws : List V} {ys : List Dt} (h' : SqT K F b ws) (r' : RpAll K F ws ys) : ItD K (ItzS K x b) F (pairD (signsD x) ys) where
  goes := fun i H hi s => by
    rw [pairD_len, signsD_len] at hi
    have l2 := r'.length
    exact ⟨ws, sqT_mono s h', by omega⟩
  stops := fun H s => by
    have l2 := r'.length
    exact ⟨ws, sqT_mono s h', by rw [pairD_len, signsD_len]; omega⟩
  yields := fun i H v H' hi s y => by
    obtain ⟨T, c, z, e1, e2, e3, e4, e5⟩ := y
    obtain ⟨d2, k3, k4⟩ := r'.getV (e5 ws (sqT_mono s h'))
    have k1 : (signsD x)[i]? = some (.str ⟨#[c]⟩) := by rw [signsD, List.getElem?_map, Array.getElem?_toList, e4]; rfl
    exact ⟨_, pairD_get k1 k3, .inr ⟨T, .str ⟨#[c]⟩, z, .str ⟨#[c]⟩, d2, e1, e2, e3, .str _, k4, rfl⟩⟩
theorem ei_zipS {B : Bs} {es : List Sl} {ta : TA} {P : List Dt → Prop} (h : EvA B ta es fun ds => ∃ (x : Str) (ys : List Dt), ds = [.str x, .tup ys] ∧ P (pairD (signsD x) ys)) : EvI B (iZipS B.K ta) es P := fun σ F H S R q => h σ F H S _ fun vs ds F1 H1 g1 r1 ⟨x, ys, e, p1⟩ => by
  subst e
  obtain ⟨v, w, rfl, r, r'⟩ := rp2 r1
  cases r
  cases r' with
  | tup h3 h4 => exact ⟨_, _, _, rfl, sqT_mono g1.s2 h3, q _ _ F1 H1 g1 (itd_zipS h3 h4) p1⟩
end Y
/-! Y11: filters, slices of tuples, tuple(list), find; the shapes of rows. -/
namespace Y
open PySem L2
section
variable {B : Bs} {es : List Sl}
/-- [f(x) for x in xs if t(x)] -/
theorem eo_fm {wi : TI} {g : TG} {tt : TT} {te : TE} {vs : List Nat} {P : List Dt → Prop} (t : Dt → Bool) (f : Dt → Dt) (h : EvI B wi es fun xs => xs.length < 100000 ∧
    (∀ x, x ∈ xs → TgC B g (wipeE es vs) vs x fun e2 => EvT B tt e2 fun b => b = t x ∧ (b = true → Ev B te e2 fun y => y = f x)) ∧ P ((xs.filter t).map f)) : EvO B (tLc wi g tt te vs) es P :=
  eo_lc fun σ F H S Q q => h σ F H S Q fun J xs F1 H1 g1 it ⟨hl, h1, h2⟩ => q J xs F1 H1 g1 it ⟨hl, fun i acc => acc = ((xs.take i).filter t).map f, rfl,
    fun i x acc hx ha σ F H v S r Q q => h1 x (List.mem_of_getElem? hx) σ F H v S r Q fun es' σ' S' hw p => q es' σ' S' hw (p.imp fun b ⟨hb, hy⟩ => by
      have ht : xs.take (i + 1) = xs.take i ++ [x] := by rw [List.take_add_one, hx]; rfl
      refine ⟨fun hbt => (hy hbt).imp fun y e => ?_, fun hbf => ?_⟩
      · show _ = _
        rw [ht, List.filter_append, List.map_append, ← ha, List.filter_cons, if_pos (by rw [← hb]; exact hbt), e]; rfl
      · show _ = _
        rw [ht, List.filter_append, List.map_append, ← ha, List.filter_cons, if_neg (by rw [← hb, hbf]; decide)]; simp), fun acc ha => by rw [ha, List.take_length]; exact h2⟩
theorem ev_slT {te : TE} {tl th : TO} {P : Dt → Prop} (h : Ev B te es fun d => ∃ xs, d = .tup xs ∧ EvP B tl es fun lo => EvP B th es fun hi => ¬ (HT.sIx xs.length 0 lo = 0 ∧ HT.sIx xs.length xs.length hi = xs.length) ∧ P (.tup (cutD xs lo hi))) : Ev B (tSl (rSlA B.K) te tl th) es P := fun σ F H S Q q => h σ F H S _ fun v d F1 H1 g1 r1 ⟨xs, e, p1⟩ => by
  subst e
  refine p1 σ F1 H1 (S.go g1) _ fun lo F2 H2 g2 p2 => p2 σ F2 H2 ((S.go g1).go g2) _ fun hi F3 H3 g3 ⟨hn, p3⟩ => ?_
  have g := (g1.trans g2).trans g3
  have S3 := S.go g
  cases r1 with
  | tup h1 h2 =>
    have r3 := (h2.mono (g2.s1.trans g3.s1)).cut lo hi
    refine .inr (.inl ⟨_, _, rfl, sqT_mono g3.s2 (sqT_mono (g2.s1.trans g3.s1) h1), by rw [h2.length]; exact hn, fun p hp => ?_⟩)
    have hF : F3 p = none := same_none S3.sub hp
    exact q (.ref p) (.tup (cutD xs lo hi)) (upd F3 p (.tup _)) _ (g.trans (S3.alloc hp)) (.tup (SqT.of upd_same) (r3.mono (same_upd hF))) p3
/-- t[1:] of a tuple that is not empty -/
theorem cut1 {α : Type} (x : α) (xs : List α) : cutD (x :: xs) (some 1) none = xs ∧ ¬ (HT.sIx (x :: xs).length 0 (some 1) = 0 ∧ HT.sIx (x :: xs).length (x :: xs).length none = (x :: xs).length) := by
  have e1 : HT.sIx (x :: xs).length 0 (some 1) = 1 := by
    show (if (1 : Int) < 0 then ((1 : Int) + ((x :: xs).length : Int)).toNat else min (1 : Int).toNat (x :: xs).length) = 1
    rw [if_neg (by decide)]
    show min 1 (xs.length + 1) = 1
    omega
  have e2 : HT.sIx (x :: xs).length (x :: xs).length none = (x :: xs).length := rfl
  refine ⟨?_, fun h => ?_⟩
  · unfold cutD
    rw [e1, e2]
    show (List.drop 0 xs).take (xs.length + 1 - 1) = xs
    simp
  · rw [e1] at h; exact absurd h.1 (by decide)
theorem ev_tail {te : TE} {P : Dt → Prop} (h : Ev B te es fun d => ∃ x xs, d = .tup (x :: xs) ∧ P (.tup xs)) : Ev B (tSl (rSlA B.K) te (tPart (tC (.int 1))) tNoPart) es P :=
  ev_slT (h.imp fun d ⟨x, xs, e, p⟩ => ⟨_, e, ep_some (ev_int ⟨1, rfl, ep_none ⟨(cut1 x xs).2, by rw [(cut1 x xs).1]; exact p⟩⟩)⟩)
theorem ev_tupleL {ta : TA} {P : Dt → Prop} (h : EvA B ta es fun ds => ∃ xs, ds = [.lst xs] ∧ P (.tup xs)) : Ev B (tCB (rTupleA B.K) ta) es P := fun σ F H S Q q => h σ F H S _ fun vs ds F1 H1 g1 r1 ⟨xs, e, p1⟩ => by
  subst e
  have S1 := S.go g1
  obtain ⟨v, rfl, r⟩ := rp1 r1
  cases r with
  | lst h1 h2 =>
    refine ⟨_, _, rfl, .inl ⟨SqL.of (g1.s2 _ _ h1), fun l hl => ?_⟩⟩
    have hF : F1 l = none := same_none S1.sub hl
    exact q (.ref l) (.tup xs) (upd F1 l (.tup _)) _ (g1.trans (S1.alloc hl)) (.tup (SqT.of upd_same) (h2.mono (same_upd hF))) p1
theorem ev_find {to te : TE} {P : Dt → Prop} (h : Ev B to es fun a => ∃ x : Str, a = .str x ∧ Ev B te es fun c => ∃ y : Str, c = .str y ∧ P (.int (Txt.find x y))) :
    Ev B (tM1 (fun x xs H Q => ∃ a b, x = .str a ∧ xs = [.str b] ∧ Q (.int (Txt.find a b)) H) to te) es P := fun σ F H S Q q => h σ F H S _ fun v a F1 H1 g1 r1 ⟨x, e, p1⟩ => by
  subst e
  cases r1
  refine ⟨⟨x, rfl⟩, p1 σ F1 H1 (S.go g1) _ fun w d F2 H2 g2 r2 ⟨y, e2, p2⟩ => ?_⟩
  subst e2
  cases r2
  exact ⟨x, y, rfl, rfl, q _ _ F2 H2 (g1.trans g2) (.int _) p2⟩
/-- a list of texts != [] -/
theorem o_neNil {ss : List Str} {P : Dt → Prop} (hl : ss.length < 50000) (h : ∀ s ∈ ss, PyData.strOk s = true) (hp : P (.bl (!ss.isEmpty))) : Op2 B (rNeA B.K) es (.lst (ss.map Dt.str)) (.lst []) P := by
  refine o_neAD (okD_strs hl h) okD_nil ?_
  have e : PyData.eqv (Dt.lst (ss.map Dt.str)).py (Dt.lst []).py = ss.isEmpty := by
    simp only [Dt.py, pyAll, pyAll_strs]
    rw [eqv_nil]
    cases ss <;> rfl
  rw [e]
  exact hp
end
/-! ### signs -/
theorem sign_eq {k c : Nat} {z : Str} (h : z = ⟨#[c]⟩) : decide ((⟨#[k]⟩ : Str) = z) = decide (k = c) := by
  subst h
  have : ((⟨#[k]⟩ : Str) = ⟨#[c]⟩) ↔ k = c := ⟨fun e => by injection e with e; simpa using e, fun e => by rw [e]⟩
  simp [this]
/-! ### lookups -/
theorem lookup_mem {α β : Type} [BEq α] [LawfulBEq α] : ∀ {l : List (α × β)} {a : α} {b : β}, l.lookup a = some b → (a, b) ∈ l
  | [], a, b, h => by cases h
  | (c, d) :: l, a, b, h => by
    rw [List.lookup_cons] at h
    split at h
    · rename_i e
      cases h
      rw [eq_of_beq e]; exact List.mem_cons_self ..
    · exact List.mem_cons_of_mem _ (lookup_mem h)
theorem lookup_strs : ∀ (l : List (Str × Str)) (z : Str), (l.map fun p => (p.1, V.str p.2)).lookup z = (l.lookup z).map V.str
  | [], z => rfl
  | (c, d) :: l, z => by
    rw [List.map_cons, List.lookup_cons, List.lookup_cons]
    show (match z == c with | true => some (V.str d) | false => List.lookup z (List.map (fun (p : Str × Str) => (p.1, V.str p.2)) l)) = _
    cases z == c with
    | true => rfl
    | false => exact lookup_strs l z
/-! ### forms and rows -/
theorem formB_len : ∀ {ks : List Nat} {xs : List Dt}, formB ks xs = true → ks.length = xs.length
  | [], [], _ => rfl
  | [], _ :: _, h => by cases h
  | _ :: _, [], h => by cases h
  | k :: ks, x :: xs, h => by
    have h : (fitsB k x && formB ks xs) = true := h
    rw [Bool.and_eq_true] at h
    rw [List.length_cons, List.length_cons, formB_len h.2]
def fit2 : Dt → Bool
  | .tup [.str z, x] => fitsB (z.cps.toList.headD 0) x
  | _ => false
theorem all_fit2 : ∀ (ks : List Nat) (xs : List Dt), ks.length = xs.length → (pairD (ks.map fun c => .str ⟨#[c]⟩) xs).all fit2 = formB ks xs
  | [], [], _ => rfl
  | [], _ :: _, h => by cases h
  | _ :: _, [], h => by cases h
  | k :: ks, x :: xs, h => by
    show (fit2 (.tup [.str ⟨#[k]⟩, x]) && (pairD (ks.map fun c => .str ⟨#[c]⟩) xs).all fit2) = (fitsB k x && formB ks xs)
    rw [all_fit2 ks xs (by simpa using h)]; rfl
theorem pairD_in : ∀ {xs ys : List Dt} {p : Dt}, p ∈ pairD xs ys → ∃ x y, p = .tup [x, y] ∧ x ∈ xs ∧ y ∈ ys
  | [], ys, p, h => by cases h
  | x :: xs, [], p, h => by cases h
  | x :: xs, y :: ys, p, h => by
    rcases List.mem_cons.mp (show p ∈ .tup [x, y] :: pairD xs ys from h) with rfl | h
    · exact ⟨x, y, rfl, List.mem_cons_self .., List.mem_cons_self ..⟩
    · obtain ⟨a, b, e, h1, h2⟩ := pairD_in h
      exact ⟨a, b, e, List.mem_cons_of_mem _ h1, List.mem_cons_of_mem _ h2⟩
theorem form0_inv {xs : List Dt} (h : formB [] xs = true) : xs = [] := by
  cases xs with
  | nil => rfl
  | cons _ _ => cases h
theorem formS_inv {k : Nat} {ks : List Nat} {xs : List Dt} (h : formB (k :: ks) xs = true) : ∃ x ys, xs = x :: ys ∧ fitsB k x = true ∧ formB ks ys = true := by
  cases xs with
  | nil => cases h
  | cons x ys =>
    have h : (fitsB k x && formB ks ys) = true := h
    rw [Bool.and_eq_true] at h
    exact ⟨x, ys, rfl, h.1, h.2⟩
theorem rowBy_at {fs : List (Str × Str)} {w : Str} {rest : List Dt} {ks : List Nat} (h : (fs.lookup w).map (fun f => f.cps.toList) = some ks) : rowBy fs (.tup (.str w :: rest)) = formB ks rest := by
  obtain ⟨f, h1, hk⟩ := Option.map_eq_some_iff.mp h
  show (match fs.lookup w with | some f => formB f.cps.toList rest | none => false) = _
  rw [h1]
  show formB f.cps.toList rest = _
  rw [hk]
theorem rowBy_none {fs : List (Str × Str)} {w : Str} {rest : List Dt} (h : fs.lookup w = none) : rowBy fs (.tup (.str w :: rest)) = false := by
  show (match fs.lookup w with | some f => formB f.cps.toList rest | none => false) = _
  rw [h]
/-- the rows as they are drawn -/
inductive RowS : Dt → Prop
  | put {r n : Dt} : isRegD r = true → isNum n 0 65535 = true → RowS (.tup [.str "put", r, n])
  | rn {w : Str} {r n : Dt} : w = "name" ∨ w = "ifzero" → isRegD r = true → isNameD n = true → RowS (.tup [.str w, r, n])
  | rr {w : Str} {r s : Dt} : w = "add" ∨ w = "take" → isRegD r = true → isRegD s = true → RowS (.tup [.str w, r, s])
  | rrd {w : Str} {r s d : Dt} : w = "load" ∨ w = "store" → isRegD r = true → isRegD s = true → isNum d 0 15 = true → RowS (.tup [.str w, r, s, d])
  | nm {w : Str} {n : Dt} : w = "jump" ∨ w = "call" ∨ w = "address" → isNameD n = true → RowS (.tup [.str w, n])
  | rg {w : Str} {r : Dt} : w = "callby" ∨ w = "out" → isRegD r = true → RowS (.tup [.str w, r])
  | none {w : Str} : w = "back" ∨ w = "halt" → RowS (.tup [.str w])
  | room {k : Dt} : isNum k 1 120 = true → RowS (.tup [.str "room", k])
  | word {n : Dt} : isNum n 0 65535 = true → RowS (.tup [.str "word", n])
theorem cps_k : ("" : Str).cps.toList = [] ∧ ("k" : Str).cps.toList = [107] ∧ ("r" : Str).cps.toList = [114] ∧ ("n" : Str).cps.toList = [110] ∧ ("w" : Str).cps.toList = [119] ∧ ("rw" : Str).cps.toList = [114, 119] ∧ ("rn" : Str).cps.toList = [114, 110] ∧ ("rr" : Str).cps.toList = [114, 114] ∧ ("rrd" : Str).cps.toList = [114, 114, 100] := by decide +kernel
theorem rowS_code {d : Dt} (h : codeRow d = true) : RowS d := by
  obtain ⟨w, f, rest, rfl, h1, h2⟩ := rowBy_inv h
  have hm := lookup_mem h1
  obtain ⟨c0, ck, cr, cn, cw, crw, crn, crr, crd⟩ := cps_k
  simp only [codeForms, List.mem_cons, List.not_mem_nil, or_false, Prod.mk.injEq] at hm
  rcases hm with ⟨rfl, rfl⟩ | ⟨rfl, rfl⟩ | ⟨rfl, rfl⟩ | ⟨rfl, rfl⟩ | ⟨rfl, rfl⟩ | ⟨rfl, rfl⟩ | ⟨rfl, rfl⟩ | ⟨rfl, rfl⟩ | ⟨rfl, rfl⟩ | ⟨rfl, rfl⟩ | ⟨rfl, rfl⟩ | ⟨rfl, rfl⟩ | ⟨rfl, rfl⟩ | ⟨rfl, rfl⟩
  · rw [crw] at h2; obtain ⟨a, y1, rfl, k1, h2⟩ := formS_inv h2; obtain ⟨b, y2, rfl, k2, h2⟩ := formS_inv h2; rw [form0_inv h2]; exact .put k1 k2
  · rw [crn] at h2; obtain ⟨a, y1, rfl, k1, h2⟩ := formS_inv h2; obtain ⟨b, y2, rfl, k2, h2⟩ := formS_inv h2; rw [form0_inv h2]; exact .rn (.inl rfl) k1 k2
  · rw [crr] at h2; obtain ⟨a, y1, rfl, k1, h2⟩ := formS_inv h2; obtain ⟨b, y2, rfl, k2, h2⟩ := formS_inv h2; rw [form0_inv h2]; exact .rr (.inl rfl) k1 k2
  · rw [crr] at h2; obtain ⟨a, y1, rfl, k1, h2⟩ := formS_inv h2; obtain ⟨b, y2, rfl, k2, h2⟩ := formS_inv h2; rw [form0_inv h2]; exact .rr (.inr rfl) k1 k2
  · rw [crd] at h2; obtain ⟨a, y1, rfl, k1, h2⟩ := formS_inv h2; obtain ⟨b, y2, rfl, k2, h2⟩ := formS_inv h2; obtain ⟨c, y3, rfl, k3, h2⟩ := formS_inv h2; rw [form0_inv h2]; exact .rrd (.inl rfl) k1 k2 k3
  · rw [crd] at h2; obtain ⟨a, y1, rfl, k1, h2⟩ := formS_inv h2; obtain ⟨b, y2, rfl, k2, h2⟩ := formS_inv h2; obtain ⟨c, y3, rfl, k3, h2⟩ := formS_inv h2; rw [form0_inv h2]; exact .rrd (.inr rfl) k1 k2 k3
  · rw [cn] at h2; obtain ⟨a, y1, rfl, k1, h2⟩ := formS_inv h2; rw [form0_inv h2]; exact .nm (.inl rfl) k1
  · rw [crn] at h2; obtain ⟨a, y1, rfl, k1, h2⟩ := formS_inv h2; obtain ⟨b, y2, rfl, k2, h2⟩ := formS_inv h2; rw [form0_inv h2]; exact .rn (.inr rfl) k1 k2
  · rw [cn] at h2; obtain ⟨a, y1, rfl, k1, h2⟩ := formS_inv h2; rw [form0_inv h2]; exact .nm (.inr (.inl rfl)) k1
  · rw [cr] at h2; obtain ⟨a, y1, rfl, k1, h2⟩ := formS_inv h2; rw [form0_inv h2]; exact .rg (.inl rfl) k1
  · rw [c0] at h2; rw [form0_inv h2]; exact .none (.inl rfl)
  · rw [cr] at h2; obtain ⟨a, y1, rfl, k1, h2⟩ := formS_inv h2; rw [form0_inv h2]; exact .rg (.inr rfl) k1
  · rw [c0] at h2; rw [form0_inv h2]; exact .none (.inr rfl)
  · rw [ck] at h2; obtain ⟨a, y1, rfl, k1, h2⟩ := formS_inv h2; rw [form0_inv h2]; exact .room k1
theorem rowS_data {d : Dt} (h : dataRow d = true) : RowS d := by
  obtain ⟨w, f, rest, rfl, h1, h2⟩ := rowBy_inv h
  have hm := lookup_mem h1
  obtain ⟨c0, ck, cr, cn, cw, crw, crn, crr, crd⟩ := cps_k
  simp only [dataForms, List.mem_cons, List.not_mem_nil, or_false, Prod.mk.injEq] at hm
  rcases hm with ⟨rfl, rfl⟩ | ⟨rfl, rfl⟩ | ⟨rfl, rfl⟩
  · rw [cw] at h2; obtain ⟨a, y1, rfl, k1, h2⟩ := formS_inv h2; rw [form0_inv h2]; exact .word k1
  · rw [cn] at h2; obtain ⟨a, y1, rfl, k1, h2⟩ := formS_inv h2; rw [form0_inv h2]; exact .nm (.inr (.inr rfl)) k1
  · rw [ck] at h2; obtain ⟨a, y1, rfl, k1, h2⟩ := formS_inv h2; rw [form0_inv h2]; exact .room k1
/-- rows whose items cannot be good: the first item is no register -/
theorem code_inv {w : Str} {rest : List Dt} (h : codeRow (.tup (.str w :: rest)) = true) : (w = "back" ∨ w = "halt" ∨ w = "room" ∨ w = "jump" ∨ w = "call") ∨ ((w = "callby" ∨ w = "out" ∨ w = "name" ∨ w = "ifzero" ∨ w = "put") ∧ ∃ x ys, rest = x :: ys ∧ isRegD x = true) ∨ ((w = "add" ∨ w = "take" ∨ w = "load" ∨ w = "store") ∧ ∃ x y ys, rest = x :: y :: ys ∧ isRegD x = true ∧ isRegD y = true) := by
  obtain ⟨w', f, rest', e, h1, h2⟩ := rowBy_inv h
  cases e
  have hm := lookup_mem h1
  obtain ⟨c0, ck, cr, cn, cw, crw, crn, crr, crd⟩ := cps_k
  simp only [codeForms, List.mem_cons, List.not_mem_nil, or_false, Prod.mk.injEq] at hm
  rcases hm with ⟨rfl, rfl⟩ | ⟨rfl, rfl⟩ | ⟨rfl, rfl⟩ | ⟨rfl, rfl⟩ | ⟨rfl, rfl⟩ | ⟨rfl, rfl⟩ | ⟨rfl, rfl⟩ | ⟨rfl, rfl⟩ | ⟨rfl, rfl⟩ | ⟨rfl, rfl⟩ | ⟨rfl, rfl⟩ | ⟨rfl, rfl⟩ | ⟨rfl, rfl⟩ | ⟨rfl, rfl⟩
  · rw [crw] at h2; obtain ⟨a, y1, rfl, k1, h2⟩ := formS_inv h2; exact .inr (.inl ⟨by simp, _, _, rfl, k1⟩)
  · rw [crn] at h2; obtain ⟨a, y1, rfl, k1, h2⟩ := formS_inv h2; exact .inr (.inl ⟨by simp, _, _, rfl, k1⟩)
  · rw [crr] at h2; obtain ⟨a, y1, rfl, k1, h2⟩ := formS_inv h2; obtain ⟨b, y2, rfl, k2, h2⟩ := formS_inv h2; exact .inr (.inr ⟨by simp, _, _, _, rfl, k1, k2⟩)
  · rw [crr] at h2; obtain ⟨a, y1, rfl, k1, h2⟩ := formS_inv h2; obtain ⟨b, y2, rfl, k2, h2⟩ := formS_inv h2; exact .inr (.inr ⟨by simp, _, _, _, rfl, k1, k2⟩)
  · rw [crd] at h2; obtain ⟨a, y1, rfl, k1, h2⟩ := formS_inv h2; obtain ⟨b, y2, rfl, k2, h2⟩ := formS_inv h2; exact .inr (.inr ⟨by simp, _, _, _, rfl, k1, k2⟩)
  · rw [crd] at h2; obtain ⟨a, y1, rfl, k1, h2⟩ := formS_inv h2; obtain ⟨b, y2, rfl, k2, h2⟩ := formS_inv h2; exact .inr (.inr ⟨by simp, _, _, _, rfl, k1, k2⟩)
  · exact .inl (by simp)
  · rw [crn] at h2; obtain ⟨a, y1, rfl, k1, h2⟩ := formS_inv h2; exact .inr (.inl ⟨by simp, _, _, rfl, k1⟩)
  · exact .inl (by simp)
  · rw [cr] at h2; obtain ⟨a, y1, rfl, k1, h2⟩ := formS_inv h2; exact .inr (.inl ⟨by simp, _, _, rfl, k1⟩)
  · exact .inl (by simp)
  · rw [cr] at h2; obtain ⟨a, y1, rfl, k1, h2⟩ := formS_inv h2; exact .inr (.inl ⟨by simp, _, _, rfl, k1⟩)
  · exact .inl (by simp)
  · exact .inl (by simp)
/-! ### registers and names -/
theorem reg_cases {x : Dt} (h : isRegD x = true) : x = .str "r0" ∨ x = .str "r1" ∨ x = .str "r2" := by
  cases x with
  | str z =>
    have h : inD (.str z) [.str "r0", .str "r1", .str "r2"] = true := h
    simp only [inD, List.any_cons, List.any_nil, eqD, Bool.or_false, Bool.or_eq_true] at h
    rcases h with h | h | h
    · exact .inl (by rw [show z = "r0" from (by simpa using h : _ = _) ▸ rfl])
    · exact .inr (.inl (by rw [show z = "r1" from (by simpa using h : _ = _) ▸ rfl]))
    · exact .inr (.inr (by rw [show z = "r2" from (by simpa using h : _ = _) ▸ rfl]))
  | _ => cases h
theorem reg_noname {x : Dt} (h : isRegD x = true) : isNameD x = false := by
  rcases reg_cases h with rfl | rfl | rfl <;> decide +kernel
theorem num_int {x : Dt} {l m : Int} (h : isNum x l m = true) : ∃ i, x = .int i ∧ l ≤ i ∧ i ≤ m := by
  cases x with
  | int i =>
    have h : (decide (l ≤ i) && decide (i ≤ m)) = true := h
    rw [Bool.and_eq_true] at h
    exact ⟨i, rfl, of_decide_eq_true h.1, of_decide_eq_true h.2⟩
  | _ => cases h
theorem name_str {x : Dt} (h : isNameD x = true) : ∃ z, x = .str z ∧ z.cps.size ≤ 6 ∧ PyData.strOk z = true := by
  cases x with
  | str z =>
    have h : (decide ((1 : Int) ≤ (z.cps.size : Int)) && (decide ((z.cps.size : Int) ≤ 6) && z.cps.toList.all fun c => decide (c ∈ letters))) = true := h
    rw [Bool.and_eq_true, Bool.and_eq_true, List.all_eq_true] at h
    have h6 := of_decide_eq_true h.2.1
    refine ⟨z, rfl, by omega, strOk_of (lit := "abcdefghijklmnopqrstuvwxyz") (fun c hc => of_decide_eq_true (h.2.2 c hc)) (by decide +kernel)⟩
  | _ => cases h
/-! ### rows whose names are of a list -/
def memT (x t : Dt) : Prop := ∃ ss, t = .lst ss ∧ x ∈ ss
def Nm (t x : Dt) : Prop := isNameD x = true → memT x t
def namesFrom (t d : Dt) : Prop := ∀ w rest, d = .tup (.str w :: rest) → ∀ x ∈ rest, Nm t x
theorem nm_r {t x : Dt} (h : isRegD x = true) : Nm t x := fun e => by rw [reg_noname h] at e; cases e
theorem nm_i {t x : Dt} {l m : Int} (h : isNum x l m = true) : Nm t x := fun e => by obtain ⟨i, rfl, _⟩ := num_int h; cases e
theorem nm_int {t : Dt} {i : Int} : Nm t (.int i) := fun e => by cases e
theorem nm_fit {t x : Dt} (h : fitsB 107 x = true) : Nm t x := nm_i (l := 1) (m := 120) h
theorem nm_fitd {t x : Dt} (h : fitsB 100 x = true) : Nm t x := nm_i (l := 0) (m := 15) h
theorem nf0 {t : Dt} {w : Str} : namesFrom t (.tup [.str w]) := fun w' rest e x hx => by cases e; cases hx
theorem nf1 {t : Dt} {w : Str} {a : Dt} (h : Nm t a) : namesFrom t (.tup [.str w, a]) := fun w' rest e x hx => by
  cases e
  rcases List.mem_cons.mp hx with rfl | hx
  · exact h
  · cases hx
theorem nf2 {t : Dt} {w : Str} {a b : Dt} (h : Nm t a) (h2 : Nm t b) : namesFrom t (.tup [.str w, a, b]) := fun w' rest e x hx => by
  cases e
  rcases List.mem_cons.mp hx with rfl | hx
  · exact h
  rcases List.mem_cons.mp hx with rfl | hx
  · exact h2
  · cases hx
theorem nf3 {t : Dt} {w : Str} {a b c : Dt} (h : Nm t a) (h2 : Nm t b) (h3 : Nm t c) : namesFrom t (.tup [.str w, a, b, c]) := fun w' rest e x hx => by
  cases e
  rcases List.mem_cons.mp hx with rfl | hx
  · exact h
  rcases List.mem_cons.mp hx with rfl | hx
  · exact h2
  rcases List.mem_cons.mp hx with rfl | hx
  · exact h3
  · cases hx
def codeRowPost2 (ds : List Dt) (d : Dt) : Prop := codeRow d = true ∧ ∀ t, ds = [t] → namesFrom t d
def dataRowPost2 (ds : List Dt) (d : Dt) : Prop := dataRow d = true ∧ ∀ t, ds = [t] → namesFrom t d
theorem code_k2 {t : Dt} {R : Dt → Prop} (ht : NamesD t) (h : ∀ d, codeRow d = true → namesFrom t d → R d) : namesPre [t] ∧ ∀ d, codeRowPost2 [t] d → R d := ⟨⟨t, rfl, ht⟩, fun d e => h d e.1 (e.2 t rfl)⟩
theorem data_k2 {t : Dt} {R : Dt → Prop} (ht : NamesD t) (h : ∀ d, dataRow d = true → namesFrom t d → R d) : namesPre [t] ∧ ∀ d, dataRowPost2 [t] d → R d := ⟨⟨t, rfl, ht⟩, fun d e => h d e.1 (e.2 t rfl)⟩
theorem of_namesM {t : Dt} {R : Dt → Prop} (ht : NamesD t) (h : ∀ d, isNameD d = true → Nm t d → R d) : ofPre [t] ∧ ∀ d, ofPost [t] d → R d := by
  obtain ⟨ss, rfl, h0, h1, h2⟩ := ht
  refine of_k ⟨by simpa using h0, by simp; omega⟩ fun d hd => ?_
  obtain ⟨s, hs, rfl⟩ := List.mem_map.mp hd
  exact h _ (h2 s hs) fun _ => ⟨_, rfl, hd⟩
/-! ### things that may be rows -/
def thingB (x : Dt) : Bool := plainD x && (match x with | .tup ys => decide (ys.length ≤ 100) && ys.all goodV | _ => true)
theorem thing_plain {x : Dt} (h : thingB x = true) : plainD x = true := by
  unfold thingB at h; rw [Bool.and_eq_true] at h; exact h.1
theorem thing_tup {ys : List Dt} (h : thingB (.tup ys) = true) : ys.length ≤ 100 ∧ ∀ y ∈ ys, goodV y = true := by
  unfold thingB at h; rw [Bool.and_eq_true] at h
  have h := h.2
  rw [Bool.and_eq_true] at h
  exact ⟨of_decide_eq_true h.1, fun y hy => all_mem h.2 hy⟩
theorem thing_mk {ys : List Dt} (h1 : ys.length ≤ 100) (h2 : ∀ y ∈ ys, goodV y = true) : thingB (.tup ys) = true := by
  show (true && (decide (ys.length ≤ 100) && ys.all goodV)) = true
  rw [decide_eq_true h1, List.all_eq_true.mpr h2]; rfl
theorem good_name {x : Dt} (h : isNameD x = true) : goodV x = true := by
  obtain ⟨z, rfl, h1, h2⟩ := name_str h
  show (true && (decide (z.cps.size < 1000) && PyData.strOk z)) = true
  rw [decide_eq_true (by omega), h2]; rfl
theorem good_reg {x : Dt} (h : isRegD x = true) : goodV x = true := by
  rcases reg_cases h with rfl | rfl | rfl <;> decide +kernel
theorem good_num {x : Dt} {l m : Int} (h : isNum x l m = true) : goodV x = true := by
  obtain ⟨i, rfl, _⟩ := num_int h; rfl
theorem rowS_good {d : Dt} (h : RowS d) : ∃ w rest, d = .tup (.str w :: rest) ∧ rest.length ≤ 3 ∧ goodV (.str w) = true ∧ ∀ y ∈ rest, goodV y = true := by
  cases h with
  | put h1 h2 => exact ⟨_, _, rfl, by simp, by decide +kernel, by simp [good_reg h1, good_num h2]⟩
  | rn hw h1 h2 => exact ⟨_, _, rfl, by simp, by rcases hw with rfl | rfl <;> decide +kernel, by simp [good_reg h1, good_name h2]⟩
  | rr hw h1 h2 => exact ⟨_, _, rfl, by simp, by rcases hw with rfl | rfl <;> decide +kernel, by simp [good_reg h1, good_reg h2]⟩
  | rrd hw h1 h2 h3 => exact ⟨_, _, rfl, by simp, by rcases hw with rfl | rfl <;> decide +kernel, by simp [good_reg h1, good_reg h2, good_num h3]⟩
  | nm hw h1 => exact ⟨_, _, rfl, by simp, by rcases hw with rfl | rfl | rfl <;> decide +kernel, by simp [good_name h1]⟩
  | rg hw h1 => exact ⟨_, _, rfl, by simp, by rcases hw with rfl | rfl <;> decide +kernel, by simp [good_reg h1]⟩
  | none hw => exact ⟨_, _, rfl, by simp, by rcases hw with rfl | rfl <;> decide +kernel, by simp⟩
  | room h1 => exact ⟨_, _, rfl, by simp, by decide +kernel, by simp [good_num h1]⟩
  | word h1 => exact ⟨_, _, rfl, by simp, by decide +kernel, by simp [good_num h1]⟩
theorem rowS_thing {d : Dt} (h : RowS d) : thingB d = true := by
  obtain ⟨w, rest, rfl, h1, h2, h3⟩ := rowS_good h
  refine thing_mk (by simp; omega) fun y hy => ?_
  rcases List.mem_cons.mp hy with rfl | hy
  · exact h2
  · exact h3 y hy
end Y
/-! Y12: statements that are never reached; int(text); tuple.index; list * n. -/
namespace Y
open PySem L2
/-- a statement that is not reached: nothing is asked, nothing can be told -/
def tDead : TS := fun _ _ _ => False
theorem ps_dead {X : Cx} {st : Stmt} : PS X st tDead := ⟨fun pins s σ H D I h => h.elim⟩
def rTupIndex (K : PySem.W.Frag) : V → List V → Hp → VK → Prop := fun x xs H Q => ∃ p, ∃ ys : List Str, ∃ z j, x = .ref p ∧ xs = [.str z] ∧ SqT K H p (ys.map V.str) ∧ ys[j]? = some z ∧ (∀ m, m < j → ys[m]? ≠ some z) ∧ Q (.int (j : Nat)) H
theorem mt_tupIndexA {X : Cx} {K : PySem.W.Frag} (hK : X.K = K := by rfl) : MtR X "tuple.index" (rTupIndex K) := hK ▸ mt_tup_index
/-- a tuple of the top, with no dict of its own -/
def KTup (K : PySem.W.Frag) (a : Addr) : Prop := ∃ o, K.lookup a = some o ∧ o.cls = .type "tuple" ∧ o.dict = none
section
variable {B : Bs} {es : List Sl}
theorem c_intS {z : Str} {n : Int} {P : Dt → Prop} (h : PySem.intText? z = some n) (hl : z.length ≤ 640) (hp : P (.int n)) : Cal B (fun xs H Q => ∃ a n, xs = [.str a] ∧ PySem.intText? a = some n ∧ a.length ≤ 640 ∧ Q (.int n) H) es [.str z] P := fun σ F H vs S a Q k => by
  obtain ⟨v, rfl, r⟩ := rp1 a
  cases r
  exact ⟨z, n, rfl, h, hl, k _ _ F H S.refl (.int _) hp⟩
theorem ev_tupIndex {a : Addr} {ys : List Str} {te : TE} {P : Dt → Prop} (kt : KTup B.K a) (kd : KD B.K (.ref a) (.tup (ys.map Dt.str))) (h : Ev B te es fun d => ∃ (z : Str) (j : Nat), d = .str z ∧ ys[j]? = some z ∧ (∀ m, m < j → ys[m]? ≠ some z) ∧ P (.int (j : Int))) : Ev B (tBM B.K "tuple" (rTupIndex B.K) (tC (.ref a)) (tCons te tNil)) es P := fun σ F H S Q q => by
  refine ⟨.inr (.inl ⟨rfl, kt⟩), h σ F H S _ fun v d F1 H1 g1 r1 ⟨z, j, e, h1, h2, p⟩ => ?_⟩
  subst e
  cases r1
  have r := kd H1
  cases r with
  | tup k1 k2 =>
    have e := k2.texts
    subst e
    exact ⟨a, ys, z, j, rfl, rfl, k1, h1, h2, q _ _ F1 H1 g1 (.int _) p⟩
theorem sm_retOwn {p : Po} {i : Nat} {a : Addr} {xs : List Dt} (hi : es[i]? = some (.own a xs)) (h : p.ro xs) : Sm B (tRet (tVar i)) es p := fun σ F H D S _ _ _ _ ro => by
  obtain ⟨vs, h1, h2, h3, h4⟩ := S.own hi
  exact ⟨_, h1, ro a vs xs es σ F H S (Same.refl F) h2 h3 h4 (S.ow i a xs hi).1 (S.ow i a xs hi).2 h⟩
/-- xs + ys as a new list -/
theorem eo_cat {ta tb : TE} {P : List Dt → Prop} (h : Ev B ta es fun x => ∃ xs, x = .lst xs ∧ Ev B tb es fun y => ∃ ys, y = .lst ys ∧ xs.length + ys.length ≤ 100000 ∧ P (xs ++ ys)) : EvO B (tOp (rPlus B.K) ta tb) es P := fun σ F H S Q q =>
  h σ F H S _ fun v d F1 H1 g1 r1 ⟨xs, e, p1⟩ => p1 σ F1 H1 (S.go g1) _ fun w y F2 H2 g2 r2 ⟨ys, e2, hl, p2⟩ => by
    subst e e2
    have g := g1.trans g2
    have S2 := S.go g
    cases r1 with
    | lst h1 h2 =>
      cases r2 with
      | lst h3 h4 =>
        refine .inr (.inr (.inl ⟨_, _, _, _, rfl, rfl, g2.s2 _ _ (g2.s1 _ _ h1), g2.s2 _ _ h3, size_of (by rw [h2.length, h4.length]; exact hl), fun p hp => ?_⟩))
        exact q p _ _ F2 _ (g.trans (S2.allocO hp)) (g.new (S2.newB hp) hp) (same_none S2.sub hp) upd_same ((h2.mono g2.s1).app h4) p2
theorem eo_rep {ta tb : TE} {P : List Dt → Prop} (h : Ev B ta es fun d => ∃ xs, d = .lst xs ∧ Ev B tb es fun y => ∃ k : Int, y = .int k ∧ (0 ≤ k ∧ k ≤ 1000 ∧ xs.length ≤ 10) ∧ P (List.replicate k.toNat xs).flatten) : EvO B (tOp rRep ta tb) es P := fun σ F H S Q q =>
  h σ F H S _ fun v d F1 H1 g1 r1 ⟨xs, e, p1⟩ => p1 σ F1 H1 (S.go g1) _ fun w y F2 H2 g2 r2 ⟨k, e2, ⟨k0, k1, k2⟩, p2⟩ => by
    subst e e2
    cases r2
    have g := g1.trans g2
    have S2 := S.go g
    cases r1 with
    | @lst a vs _ h1 h2 =>
      have hl := h2.length
      have rr : ∀ n : Nat, RpAll B.K F2 (List.replicate n vs).flatten (List.replicate n xs).flatten := by
        intro n
        induction n with
        | zero => exact .nil
        | succ n ih => rw [List.replicate_succ, List.replicate_succ, List.flatten_cons, List.flatten_cons]; exact (h2.mono g2.s1).app ih
      refine ⟨_, k, vs, rfl, rfl, g2.s2 _ _ (g2.s1 _ _ h1), by omega, by omega, size_of ?_, fun p hp => ?_⟩
      · have : vs.length * k.toNat ≤ 10 * 1000 := Nat.mul_le_mul (by omega) (by omega)
        omega
      · exact q p _ _ F2 _ (g.trans (S2.allocO hp)) (g.new (S2.newB hp) hp) (same_none S2.sub hp) upd_same (rr _) p2
end
end Y
/-! Y13: d[k] of a displayed dict; own lists cleared; cells of rows. -/
namespace Y
open PySem L2
section
variable {B : Bs} {es : List Sl}
theorem ev_dget {td ty : TE} {P : Dt → Prop} (h : Ev B td es fun x => ∃ ks xs, x = .dct ks xs ∧ Ev B ty es fun y => ∃ k, y = kD k ∧ ∃ d, getK ks xs k = some d ∧ P d) : Ev B (tDGet td ty) es P := fun σ F H S Q q =>
  h σ F H S _ fun v x F1 H1 g1 r1 ⟨ks, xs, e, p1⟩ => by
    subst e
    refine p1 σ F1 H1 (S.go g1) _ fun u y F2 H2 g2 r2 ⟨k, e2, d, hd, p2⟩ => ?_
    subst e2
    have ek := rp_kD r2
    subst ek
    cases r1 with
    | dct h1 h2 h3 h4 =>
      subst h2 h3
      obtain ⟨v', k1, k2⟩ := (getK_of k (h4.mono g2.s1)).1 d hd
      exact ⟨_, v', rfl, by rw [← k1]; exact DGet.k (k := k) (g2.s2 _ _ (g2.s1 _ _ h1)), q _ _ F2 H2 (g1.trans g2) k2 p2⟩
theorem sm_clear {p : Po} {i : Nat} {a : Addr} {xs : List Dt} (hi : es[i]? = some (.own a xs)) (h : p.nx (es.set i (.own a []))) : Sm B (tDrop (tBM0 B.K "list" rClear (tVar i))) es p := fun σ F H D S n _ _ _ _ => by
  obtain ⟨vs, h1, h2, h3, h4⟩ := S.own hi
  exact ⟨_, h1, .inl ⟨rfl, _, SqL.of h3⟩, a, vs, rfl, rfl, h3, n _ _ F _ (S.change hi h1 h2 .nil) (Same.refl F) h⟩
end
end Y
/-! Y14: loops unrolled; lists of ints. -/
namespace Y
open PySem L2
section
variable {B : Bs} {es : List Sl}
/-- a loop over a list that is known: turn by turn -/
def unD (B : Bs) (g : TG) (tb : TS) (p : Po) : List Dt → List Sl → Prop
  | [], es => p.nx es
  | x :: xs, es => Tg B g es x fun e2 => Sm B tb e2 { p with nx := unD B g tb p xs, bk := p.nx, ct := unD B g tb p xs }
theorem sm_forU {p : Po} {wi : TI} {g : TG} {tb : TS} (h : EvI B wi es fun xs => unD B g tb p xs es) : Sm B (tFor wi g tb) es p :=
  sm_for fun σ F H S R q => h σ F H S R fun J xs F1 H1 g1 it hu => q J xs F1 H1 g1 it ⟨fun i e => unD B g tb p (xs.drop i) e, hu, fun i x es' hx hI => by
    have e1 : xs.drop i = x :: xs.drop (i + 1) := by
      obtain ⟨hl, rfl⟩ := List.getElem?_eq_some_iff.mp hx
      exact List.drop_eq_getElem_cons hl
    have hI : unD B g tb p (xs.drop i) es' := hI
    rw [e1] at hI
    exact hI, fun es' hI => by
      have hI : unD B g tb p (xs.drop xs.length) es' := hI
      rw [List.drop_length] at hI; exact hI⟩
end
theorem see_ints (a : Addr) (xs : List Dt) : ∀ ns : List Int, seeAll a xs (ns.map Dt.int) = ns.map Dt.int
  | [] => by simp [seeAll]
  | n :: ns => by simp [seeAll, Dt.see, see_ints a xs ns]
theorem pure_ints : ∀ ns : List Int, pureAll (ns.map Dt.int) = true
  | [] => by simp [pureAll]
  | n :: ns => by simp [pureAll, Dt.pureD, pure_ints ns]
theorem depth_ints : ∀ ns : List Int, depthAll (ns.map Dt.int) = 0
  | [] => by simp [depthAll]
  | n :: ns => by simp [depthAll, Dt.depth, depth_ints ns]
/-- a list of ints -/
def IntsD (xs : List Dt) : Prop := ∃ ns : List Int, xs = ns.map Dt.int
theorem IntsD.see {xs ys : List Dt} {a : Addr} (h : IntsD ys) : seeAll a xs ys = ys := by obtain ⟨ns, rfl⟩ := h; exact see_ints a xs ns
theorem IntsD.pure {ys : List Dt} (h : IntsD ys) (hl : ys.length < 50000) : (Dt.lst ys).pureD = true := by
  obtain ⟨ns, rfl⟩ := h
  unfold Dt.pureD
  rw [decide_eq_true hl, pure_ints]; rfl
theorem IntsD.depth {ys : List Dt} (h : IntsD ys) : (Dt.lst ys).depth = 1 := by
  obtain ⟨ns, rfl⟩ := h
  unfold Dt.depth
  rw [depth_ints]
/-- two equal lists of ints beside one another -/
theorem IntsD.pure2 {ys : List Dt} (h : IntsD ys) (hl : ys.length < 50000) : (Dt.lst [.lst ys, .lst ys]).pureD = true ∧ (Dt.lst [.lst ys, .lst ys]).depth = 2 := by
  have h1 := h.pure hl
  have h2 := h.depth
  constructor
  · unfold Dt.pureD
    simp [pureAll, h1]
  · unfold Dt.depth
    simp [depthAll, h2]
theorem IntsD.nil : IntsD [] := ⟨[], rfl⟩
theorem IntsD.cons {i : Int} {xs : List Dt} (h : IntsD xs) : IntsD (.int i :: xs) := by obtain ⟨ns, rfl⟩ := h; exact ⟨i :: ns, rfl⟩
theorem IntsD.app {xs ys : List Dt} (h : IntsD xs) (h2 : IntsD ys) : IntsD (xs ++ ys) := by obtain ⟨ns, rfl⟩ := h; obtain ⟨ms, rfl⟩ := h2; exact ⟨ns ++ ms, by rw [List.map_append]⟩
theorem IntsD.rep (n : Nat) (i : Int) : IntsD (List.replicate n (.int i)) := ⟨List.replicate n i, by rw [List.map_replicate]⟩
end Y
/-! Y15: isinstance(x, dict); shaped data of other kinds. -/
namespace Y
open PySem L2
section
variable {B : Bs} {es : List Sl}
def isDctD : Dt → Bool
  | .dct _ _ => true
  | _ => false
theorem isi_dict {x : Dt} (h : plainD x = true) : isiD "dict" x = some (isDctD x) := by
  cases x with
  | non => show kitB "NoneType" "dict" = some false; decide +kernel
  | bl _ => show kitB "bool" "dict" = some false; decide +kernel
  | int _ => show kitB "int" "dict" = some false; decide +kernel
  | str _ => show kitB "str" "dict" = some false; decide +kernel
  | lst _ => show kitB "list" "dict" = some false; decide +kernel
  | tup _ => show kitB "tuple" "dict" = some false; decide +kernel
  | dct _ _ => show kitB "dict" "dict" = some true; decide +kernel
  | obj _ _ _ => cases h
  | ali _ => cases h
theorem ev_isDict {te : TE} {P : Dt → Prop} (h : Ev B te es fun d => plainD d = true ∧ P (.bl (isDctD d))) : Ev B (tCB (rIsi B.K) (tCons te (tCons (tC (.ty "dict")) tNil))) es P := ev_isi (h.imp fun d q => ⟨_, isi_dict q.1, q.2⟩)
end
end Y
/-! Y16: list(..) as a datum. -/
namespace Y
open PySem L2
section
variable {B : Bs} {es : List Sl}
theorem c_listT {xs : List Dt} {P : Dt → Prop} (hp : P (.lst xs)) : Cal B (rListB B.K) es [.tup xs] P := fun σ F H vs S a Q k => by
  obtain ⟨v, rfl, r⟩ := rp1 a
  cases r with
  | tup h1 h2 => exact .inl ⟨_, _, rfl, .inr (sqT_mono S.sub h1), fun p hp' => k _ (.lst xs) (upd F p (.lst _)) _ (S.alloc hp') (.lst upd_same (h2.mono (same_upd (same_none S.sub hp')))) hp⟩
theorem c_listL {xs : List Dt} {P : Dt → Prop} (hp : P (.lst xs)) : Cal B (rListB B.K) es [.lst xs] P := fun σ F H vs S a Q k => by
  obtain ⟨v, rfl, r⟩ := rp1 a
  cases r with
  | lst h1 h2 => exact .inl ⟨_, _, rfl, .inl (SqL.of (S.sub _ _ h1)), fun p hp' => k _ (.lst xs) (upd F p (.lst _)) _ (S.alloc hp') (.lst upd_same (h2.mono (same_upd (same_none S.sub hp')))) hp⟩
end
end Y
/-! Y17: str(int); three at once, the first a new list of one's own. -/
namespace Y
open PySem L2
section
variable {B : Bs} {es : List Sl}
theorem log_ok {i : Int} (h : -100000000 ≤ i ∧ i ≤ 100000000) : i.natAbs.log2 < 1920 := by
  by_cases h0 : i.natAbs = 0
  · rw [h0]; decide
  · rw [Nat.log2_lt h0]
    have h1 : i.natAbs < 2 ^ 27 := by
      have : (2 : Nat) ^ 27 = 134217728 := by decide
      omega
    exact Nat.lt_of_lt_of_le h1 (Nat.pow_le_pow_right (by decide) (by decide))
theorem c_strI {i : Int} {P : Dt → Prop} (h : -100000000 ≤ i ∧ i ≤ 100000000) (hp : P (.str (toString i))) : Cal B (fun xs H Q => ∃ i, xs = [.int i] ∧ i.natAbs.log2 < 1920 ∧ Q (.str (toString i)) H) es [.int i] P := fun σ F H vs S a Q k => by
  obtain ⟨v, rfl, r⟩ := rp1 a
  cases r
  exact ⟨i, rfl, log_ok h, k _ _ F H S.refl (.str _) hp⟩
theorem sm_par3O {p : Po} {i j l : Nat} {t1 t2 t3 : TE} (h : EvO B t1 es fun xs => Ev B t2 es fun y => Ev B t3 es fun z => ∀ a, p.nx (((es.set i (.own a xs)).set j (.d y)).set l (.d z))) : Sm B (tPar3 i j l (tCons t1 (tCons t2 (tCons t3 tNil)))) es p := fun σ F H D S n _ _ _ _ =>
  h σ F H S _ fun a vs xs F1 H1 g1 a0 a1 a2 r1 p1 => p1 σ F1 H1 (S.go g1) _ fun v y F2 H2 g2 r2 p2 => p2 σ F2 H2 ((S.go g1).go g2) _ fun w z F3 H3 g3 r3 p3 => by
    have g23 := g2.trans g3
    have S3 := ((S.go g1).go g2).go g3
    have ha2 : H3 a = some (.lst vs) := g23.kp a _ (S.newB a0) a2
    have hF2 : F3 a = none := g23.nw a (by rw [a2]; simp) a1
    have S4 := S3.setO (i := i) hF2 ha2 (r1.mono g23.s1) (S.new0 a0) (S.newB a0) fun k c zs hk => S.newS a0 k zs hk
    exact ⟨.ref a, v, w, rfl, n _ _ F3 H3 ((S4.setD (r2.mono g3.s1)).setD r3) ((g1.s1.trans g2.s1).trans g3.s1) (p3 a)⟩
end
end Y
/-! Y18: two at once, the first a new list of one's own. -/
namespace Y
open PySem L2
section
variable {B : Bs} {es : List Sl}
theorem sm_parOD {p : Po} {i j : Nat} {t1 t2 : TE} (h : EvO B t1 es fun xs => Ev B t2 es fun y => ∀ a, p.nx ((es.set i (.own a xs)).set j (.d y))) : Sm B (tPar i j (tCons t1 (tCons t2 tNil))) es p := fun σ F H D S n _ _ _ _ =>
  h σ F H S _ fun a vs xs F1 H1 g1 a0 a1 a2 r1 p1 => p1 σ F1 H1 (S.go g1) _ fun v y F2 H2 g2 r2 p2 => by
    have S3 := (S.go g1).go g2
    have ha2 : H2 a = some (.lst vs) := g2.kp a _ (S.newB a0) a2
    have hF2 : F2 a = none := g2.nw a (by rw [a2]; simp) a1
    have S4 := S3.setO (i := i) hF2 ha2 (r1.mono g2.s1) (S.new0 a0) (S.newB a0) fun k c zs hk => S.newS a0 k zs hk
    exact ⟨.ref a, v, rfl, n _ _ F2 H2 (S4.setD r2) (g1.s1.trans g2.s1) (p2 a)⟩
theorem sm_cut2 {p : Po} {t1 t2 u : TS} (I : List Sl → Prop) (h1 : Sm B t1 es { p with nx := fun e => Sm B t2 e { p with nx := I } }) (h2 : ∀ e, I e → Sm B u e p) : Sm B (tSeq t1 (tSeq t2 u)) es p :=
  sm_seq (sm_imp h1 (fun e h => sm_cut I h h2) (fun _ h => h) (fun _ h => h) (fun _ _ h => h) (fun _ h => h))
theorem sm_cut3 {p : Po} {t1 t2 t3 u : TS} (I : List Sl → Prop) (h1 : Sm B t1 es { p with nx := fun e => Sm B t2 e { p with nx := fun e => Sm B t3 e { p with nx := I } } }) (h2 : ∀ e, I e → Sm B u e p) : Sm B (tSeq t1 (tSeq t2 (tSeq t3 u))) es p :=
  sm_seq (sm_imp h1 (fun e h => sm_cut2 I h h2) (fun _ h => h) (fun _ h => h) (fun _ _ h => h) (fun _ h => h))
theorem sm_cut4 {p : Po} {t1 t2 t3 t4 u : TS} (I : List Sl → Prop) (h1 : Sm B t1 es { p with nx := fun e => Sm B t2 e { p with nx := fun e => Sm B t3 e { p with nx := fun e => Sm B t4 e { p with nx := I } } } }) (h2 : ∀ e, I e → Sm B u e p) : Sm B (tSeq t1 (tSeq t2 (tSeq t3 (tSeq t4 u)))) es p :=
  sm_seq (sm_imp h1 (fun e h => sm_cut3 I h h2) (fun _ h => h) (fun _ h => h) (fun _ _ h => h) (fun _ h => h))
theorem sm_cut5 {p : Po} {t1 t2 t3 t4 t5 u : TS} (I : List Sl → Prop) (h1 : Sm B t1 es { p with nx := fun e => Sm B t2 e { p with nx := fun e => Sm B t3 e { p with nx := fun e => Sm B t4 e { p with nx := fun e => Sm B t5 e { p with nx := I } } } } }) (h2 : ∀ e, I e → Sm B u e p) : Sm B (tSeq t1 (tSeq t2 (tSeq t3 (tSeq t4 (tSeq t5 u))))) es p :=
  sm_seq (sm_imp h1 (fun e h => sm_cut4 I h h2) (fun _ h => h) (fun _ h => h) (fun _ _ h => h) (fun _ h => h))
theorem sm_cut6 {p : Po} {t1 t2 t3 t4 t5 t6 u : TS} (I : List Sl → Prop) (h1 : Sm B t1 es { p with nx := fun e => Sm B t2 e { p with nx := fun e => Sm B t3 e { p with nx := fun e => Sm B t4 e { p with nx := fun e => Sm B t5 e { p with nx := fun e => Sm B t6 e { p with nx := I } } } } } }) (h2 : ∀ e, I e → Sm B u e p) : Sm B (tSeq t1 (tSeq t2 (tSeq t3 (tSeq t4 (tSeq t5 (tSeq t6 u)))))) es p :=
  sm_seq (sm_imp h1 (fun e h => sm_cut5 I h h2) (fun _ h => h) (fun _ h => h) (fun _ _ h => h) (fun _ h => h))
theorem sm_cut7 {p : Po} {t1 t2 t3 t4 t5 t6 t7 u : TS} (I : List Sl → Prop) (h1 : Sm B t1 es { p with nx := fun e => Sm B t2 e { p with nx := fun e => Sm B t3 e { p with nx := fun e => Sm B t4 e { p with nx := fun e => Sm B t5 e { p with nx := fun e => Sm B t6 e { p with nx := fun e => Sm B t7 e { p with nx := I } } } } } } }) (h2 : ∀ e, I e → Sm B u e p) : Sm B (tSeq t1 (tSeq t2 (tSeq t3 (tSeq t4 (tSeq t5 (tSeq t6 (tSeq t7 u))))))) es p :=
  sm_seq (sm_imp h1 (fun e h => sm_cut6 I h h2) (fun _ h => h) (fun _ h => h) (fun _ _ h => h) (fun _ h => h))
theorem sm_cut8 {p : Po} {t1 t2 t3 t4 t5 t6 t7 t8 u : TS} (I : List Sl → Prop) (h1 : Sm B t1 es { p with nx := fun e => Sm B t2 e { p with nx := fun e => Sm B t3 e { p with nx := fun e => Sm B t4 e { p with nx := fun e => Sm B t5 e { p with nx := fun e => Sm B t6 e { p with nx := fun e => Sm B t7 e { p with nx := fun e => Sm B t8 e { p with nx := I } } } } } } } }) (h2 : ∀ e, I e → Sm B u e p) : Sm B (tSeq t1 (tSeq t2 (tSeq t3 (tSeq t4 (tSeq t5 (tSeq t6 (tSeq t7 (tSeq t8 u)))))))) es p :=
  sm_seq (sm_imp h1 (fun e h => sm_cut7 I h h2) (fun _ h => h) (fun _ h => h) (fun _ _ h => h) (fun _ h => h))
theorem sm_cut9 {p : Po} {t1 t2 t3 t4 t5 t6 t7 t8 t9 u : TS} (I : List Sl → Prop) (h1 : Sm B t1 es { p with nx := fun e => Sm B t2 e { p with nx := fun e => Sm B t3 e { p with nx := fun e => Sm B t4 e { p with nx := fun e => Sm B t5 e { p with nx := fun e => Sm B t6 e { p with nx := fun e => Sm B t7 e { p with nx := fun e => Sm B t8 e { p with nx := fun e => Sm B t9 e { p with nx := I } } } } } } } } }) (h2 : ∀ e, I e → Sm B u e p) : Sm B (tSeq t1 (tSeq t2 (tSeq t3 (tSeq t4 (tSeq t5 (tSeq t6 (tSeq t7 (tSeq t8 (tSeq t9 u))))))))) es p :=
  sm_seq (sm_imp h1 (fun e h => sm_cut8 I h h2) (fun _ h => h) (fun _ h => h) (fun _ _ h => h) (fun _ h => h))
theorem sm_cut10 {p : Po} {t1 t2 t3 t4 t5 t6 t7 t8 t9 t10 u : TS} (I : List Sl → Prop) (h1 : Sm B t1 es { p with nx := fun e => Sm B t2 e { p with nx := fun e => Sm B t3 e { p with nx := fun e => Sm B t4 e { p with nx := fun e => Sm B t5 e { p with nx := fun e => Sm B t6 e { p with nx := fun e => Sm B t7 e { p with nx := fun e => Sm B t8 e { p with nx := fun e => Sm B t9 e { p with nx := fun e => Sm B t10 e { p with nx := I } } } } } } } } } }) (h2 : ∀ e, I e → Sm B u e p) : Sm B (tSeq t1 (tSeq t2 (tSeq t3 (tSeq t4 (tSeq t5 (tSeq t6 (tSeq t7 (tSeq t8 (tSeq t9 (tSeq t10 u)))))))))) es p :=
  sm_seq (sm_imp h1 (fun e h => sm_cut9 I h h2) (fun _ h => h) (fun _ h => h) (fun _ _ h => h) (fun _ h => h))
theorem sm_cut11 {p : Po} {t1 t2 t3 t4 t5 t6 t7 t8 t9 t10 t11 u : TS} (I : List Sl → Prop) (h1 : Sm B t1 es { p with nx := fun e => Sm B t2 e { p with nx := fun e => Sm B t3 e { p with nx := fun e => Sm B t4 e { p with nx := fun e => Sm B t5 e { p with nx := fun e => Sm B t6 e { p with nx := fun e => Sm B t7 e { p with nx := fun e => Sm B t8 e { p with nx := fun e => Sm B t9 e { p with nx := fun e => Sm B t10 e { p with nx := fun e => Sm B t11 e { p with nx := I } } } } } } } } } } }) (h2 : ∀ e, I e → Sm B u e p) : Sm B (tSeq t1 (tSeq t2 (tSeq t3 (tSeq t4 (tSeq t5 (tSeq t6 (tSeq t7 (tSeq t8 (tSeq t9 (tSeq t10 (tSeq t11 u))))))))))) es p :=
  sm_seq (sm_imp h1 (fun e h => sm_cut10 I h h2) (fun _ h => h) (fun _ h => h) (fun _ _ h => h) (fun _ h => h))
theorem sm_cut12 {p : Po} {t1 t2 t3 t4 t5 t6 t7 t8 t9 t10 t11 t12 u : TS} (I : List Sl → Prop) (h1 : Sm B t1 es { p with nx := fun e => Sm B t2 e { p with nx := fun e => Sm B t3 e { p with nx := fun e => Sm B t4 e { p with nx := fun e => Sm B t5 e { p with nx := fun e => Sm B t6 e { p with nx := fun e => Sm B t7 e { p with nx := fun e => Sm B t8 e { p with nx := fun e => Sm B t9 e { p with nx := fun e => Sm B t10 e { p with nx := fun e => Sm B t11 e { p with nx := fun e => Sm B t12 e { p with nx := I } } } } } } } } } } } }) (h2 : ∀ e, I e → Sm B u e p) : Sm B (tSeq t1 (tSeq t2 (tSeq t3 (tSeq t4 (tSeq t5 (tSeq t6 (tSeq t7 (tSeq t8 (tSeq t9 (tSeq t10 (tSeq t11 (tSeq t12 u)))))))))))) es p :=
  sm_seq (sm_imp h1 (fun e h => sm_cut11 I h h2) (fun _ h => h) (fun _ h => h) (fun _ _ h => h) (fun _ h => h))
end
end Y
/-! Y29: a lambda as an expression, with no parameter or one that has the default 0. -/
namespace PySem.W
open PySem PySem.Spec PySem.Calls PyProof.Rows
section
variable {M : Model} {A : Around} {E : Value → Shared → Prop} {s : Shared} {qual : Str} {params : Arguments} {body : Expr} {scope : Scope} {env : Env} {c P : Addr} {ps : Array Value} {pos : Pos} {firstLine : Nat} {mg : Str → Option Value}
  {clos : List (Str × Addr)} {Q : Value → Shared → Prop} {dV : Value}
abbrev lx_fd (qual : Str) (params : Arguments) (body : Expr) (scope : Scope) (cl : List (Str × Addr)) (dV pm cdv ct : Value) : FuncData :=
  { name := "<lambda>", qualname := qual, params, body := .expr body, scope, globals := mainGlobals, closure := cl, defaults := dV, kwdefaults := .none, doc := .none, pyModule := pm, annotations := none, code := cdv, closureTuple := ct, builtins := builtinsNs }
theorem lx_tail (hcl : closureFor scope env = pure clos) (hge0 : env.globals = mainGlobals) (hg : s.heap.Ns mainGlobals mg) (hcode : env.code = .ref c) (C : CodeHd s.heap c P) (hP : s.heap.get? P = some (tabObj ps)) (ht : TriplesOk ps.toList)
    (hnf : codeAmong pos ps.toList = none) (hgP : mainGlobals ≠ P) (hb : s.heap.BuiltinsAt mg P)
    (h : ∀ c' ctv h' tk, Heap.ExtBut P s.heap h' → s.heap.objs.size ≤ c' → c' < h'.objs.size → h'.CodeRec (.ref c') qual → h'.get? P = some (tabObj (ps ++ #[rawInt pos.line, rawInt pos.col, .ref c'])) →
      Q (.ref h'.objs.size) { s with heap := h'.push { cls := .type "function", data := .func (lx_fd qual params body scope clos dV ((mg "__name__").getD .none) (.ref c') ctv) }, toks := tk }) :
    wpAny M A (makeTail "<lambda>" qual params (.expr body) scope env dV .none none pos firstLine) Q E s := by
  obtain ⟨bm, ob, hbm, hne0, _, hneP, hbo, hcls, hdict, hdata⟩ := hb
  unfold makeTail
  rw [hcl, hge0]
  refine wpAny_bind (wpAny_pure ?_)
  cases clos with
  | nil =>
    simp only [List.isEmpty_nil, if_true]
    refine wpAny_bind (wpAny_pure ?_)
    refine wpAny_bind (wpAny_functionCodeX hcode (C.code hP ht) (C.tab hP) hnf fun c' h' tk hx hge hlt _ hrec htb _ => ?_)
    have hg' := hg.extBut hx hgP
    refine wpAny_bind (wpAny_builtinsFor hg' hbm hne0 (hx _ _ hneP hbo) hcls hdict hdata ?_)
    refine wpAny_bind (wpAny_nsGet hg' ?_)
    exact wpAny_bind (wpAny_pure (wpAny_newObj_type (h c' .none h' tk hx hge hlt hrec htb.2) (by size_fits)))
  | cons q r =>
    simp only [List.isEmpty_cons, Bool.false_eq_true, if_false]
    refine wpAny_bind (wpAny_newTextTuple ?_)
    refine wpAny_bind (wpAny_functionCodeX hcode ((C.keeps fun b o e => Heap.get?_push_of_some _ e).code (Heap.get?_push_of_some _ hP) ht) ((C.keeps fun b o e => Heap.get?_push_of_some _ e).tab (Heap.get?_push_of_some _ hP)) hnf fun c' h' tk hx hge hlt _ hrec htb _ => ?_)
    have hg' := (hg.push _).extBut hx hgP
    have hx' : Heap.ExtBut P s.heap h' := fun b o hb' e => hx b o hb' (Heap.get?_push_of_some _ e)
    have hge' : s.heap.objs.size ≤ c' := Nat.le_trans (by rw [Heap.size_push]; omega) hge
    refine wpAny_bind (wpAny_builtinsFor hg' hbm hne0 (hx' _ _ hneP hbo) hcls hdict hdata ?_)
    refine wpAny_bind (wpAny_nsGet hg' ?_)
    exact wpAny_bind (wpAny_pure (wpAny_newObj_type (h c' _ h' tk hx' hge' hlt hrec htb.2) (by size_fits)))
theorem lx_tailHit {cv : Value} (hcl : closureFor scope env = pure clos) (hge0 : env.globals = mainGlobals) (hg : s.heap.Ns mainGlobals mg) (hcode : env.code = .ref c) (C : CodeHd s.heap c P) (hP : s.heap.get? P = some (tabObj ps)) (ht : TriplesOk ps.toList)
    (hf : codeAmong pos ps.toList = some cv) (hb : s.heap.BuiltinsAt mg P)
    (h : ∀ (ctv : Value) (h' : Heap) (tk : Tok), (∀ b o, s.heap.get? b = some o → h'.get? b = some o) → s.heap.objs.size ≤ h'.objs.size →
      Q (.ref h'.objs.size) { s with heap := h'.push { cls := .type "function", data := .func (lx_fd qual params body scope clos dV ((mg "__name__").getD .none) cv ctv) }, toks := tk }) :
    wpAny M A (makeTail "<lambda>" qual params (.expr body) scope env dV .none none pos firstLine) Q E s := by
  obtain ⟨bm, ob, hbm, hne0, _, hneP, hbo, hcls, hdict, hdata⟩ := hb
  unfold makeTail
  rw [hcl, hge0]
  refine wpAny_bind (wpAny_pure ?_)
  cases clos with
  | nil =>
    simp only [List.isEmpty_nil, if_true]
    refine wpAny_bind (wpAny_pure ?_)
    refine wpAny_bind (wpAny_functionCode_hit hcode (C.code hP ht) hf ?_)
    refine wpAny_bind (wpAny_builtinsFor hg hbm hne0 hbo hcls hdict hdata ?_)
    refine wpAny_bind (wpAny_nsGet hg ?_)
    exact wpAny_bind (wpAny_pure (wpAny_newObj_type (h .none s.heap s.toks (fun _ _ e => e) (Nat.le_refl _)) (by size_fits)))
  | cons q r =>
    simp only [List.isEmpty_cons, Bool.false_eq_true, if_false]
    refine wpAny_bind (wpAny_newTextTuple ?_)
    refine wpAny_bind (wpAny_functionCode_hit hcode ((C.keeps fun b o e => Heap.get?_push_of_some _ e).code (Heap.get?_push_of_some _ hP) ht) hf ?_)
    refine wpAny_bind (wpAny_builtinsFor (hg.push _) hbm hne0 (Heap.get?_push_of_some _ hbo) hcls hdict hdata ?_)
    refine wpAny_bind (wpAny_nsGet (hg.push _) ?_)
    have hsz : ∀ oT : Obj, s.heap.objs.size ≤ (s.heap.push oT).objs.size := fun oT => by rw [Heap.size_push]; omega
    exact wpAny_bind (wpAny_pure (wpAny_newObj_type (h _ _ s.toks (fun b o e => Heap.get?_push_of_some _ e) (hsz _)) (by size_fits)))
end
end PySem.W

namespace Y
open PySem PySem.Spec PyProof.Rows L2 LamX
section
variable {X : Cx} {pins : List (Addr × Obj)} {σ : L2.St} {H : Hp} {s : Shared}
theorem inv_fnL {L : LF} {o : Obj} {t' : Nat} {pm ctv : Value} (I : Inv X pins σ H s) (ho : o = { cls := .type "function", data := .func (L.fd pm ctv) }) :
    Inv X pins σ (upd H s.heap.objs.size (FnL s.heap.objs.size L)) { s with heap := s.heap.push o, toks := t' } := by
  subst ho
  refine I.laid (a := s.heap.objs.size) (fun b u e => Heap.get?_push_of_some _ e) (Nat.le_refl _) ?_
  have e : (s.heap.push ({ cls := .type "function", data := .func (L.fd pm ctv) } : Obj)).get? s.heap.objs.size = some ({ cls := .type "function", data := .func (L.fd pm ctv) } : Obj) := Heap.get?_push_size _ rfl
  exact ⟨⟨_, _, pm, ctv, e⟩, ⟨_, e⟩, fun h1 h2 ⟨od, sl, p, t, z⟩ st => ⟨od, sl, p, t, st _ z⟩⟩
/-- the lambda's object is made: its code object is new, or found in the table -/
theorem lx_make {T : List (Addr × Str)} {c P : Addr} {params : Arguments} {body : Expr} {scope : Scope} {pos : Pos} {E : Value → Shared → Prop} {Q : Value → Shared → Prop} {dv : Option Addr} (hdv : ∀ t, dv = some t → H t = some (.tup [.int 0])) (I : Inv X pins σ H s) (TB : TabB X.base X.mg c P) (hcode : X.env.code = .ref c)
    (hm : (P, X.env.qual ++ "<lambda>") ∈ T) (hu : ∀ p ∈ T, p.1 = P → p.2 = X.env.qual ++ "<lambda>") (hT : Tabs T H) (hfree : ∀ y ∈ scope.names, y.2 = .free → ∃ c, X.env.cells.lookup y.1 = some c)
    (h : ∀ (f c' : Addr) (H1 : Hp) (s' : Shared), Inv X pins σ H1 s' → (∀ b o, b ≠ P → H b = some o → H1 b = some o) → (∀ b, H1 b = none → H b = none) → Tabs T H1 → H f = none →
      FnAtH H1 f ⟨X.env.qual ++ "<lambda>", params, body, scope, cloFrom X.env.cells scope.names [], c', dv⟩ → Q (.ref f) s') :
    wpAny (model X.prog X.w) X.A (makeTail "<lambda>" (X.env.qual ++ "<lambda>") params (.expr body) scope X.env (match dv with | none => .none | some t => .ref t) .none none pos pos.line) Q E s := by
  obtain ⟨ps, hP, ht, ha⟩ := hT _ hm
  have bP : s.heap.BuiltinsAt X.mg P := TB.bm.keeps I.bk
  have hP' : s.heap.get? P = some { cls := .none, data := .fields ps } := I.hok P _ hP
  have nt : ∀ t, dv = some t → t ≠ P := fun t e z => by
    have := hdv t e
    rw [z, hP] at this
    cases this
  cases hc : codeAmong pos ps.toList with
  | none =>
    refine PySem.W.lx_tail (mg := X.mg) (c := c) (P := P) (ps := ps) (closure_ok hfree) I.ok.glob (I.mod.glob.keeps I.bk) hcode (TB.code.keeps I.bk) hP' ht hc TB.gP bP fun c' ctv h' tk hx hge hlt hrec htb => ?_
    obtain ⟨c2, oc, vs, t, e2, hoc, hd, hv⟩ := hrec
    cases e2
    have nC : H c' = none := I.hok.fresh hge
    have I1 := inv_table (t' := tk) (more := #[rawInt pos.line, rawInt pos.col, .ref c']) (h' := h') I hP (fun b o hb e => hx b o hb e) htb hge ⟨oc, vs, t, hoc, hd, hv⟩
    have hE : ∀ b o, b ≠ P → H b = some o → upd (upd H P (.tbl (ps ++ #[rawInt pos.line, rawInt pos.col, .ref c']))) c' (CodeO c' (X.env.qual ++ "<lambda>")) b = some o := fun b o n e => by
      rw [upd_ne (ne_of_none e nC), upd_ne n]
      exact e
    have eL : (ps ++ #[rawInt pos.line, rawInt pos.col, .ref c']).toList = ps.toList ++ [rawInt pos.line, rawInt pos.col, .ref c'] := by simp
    have nT : ∀ {b o}, H b = some o → (∀ ps, o ≠ .tbl ps) → b ≠ P := fun {b o} e n z => n ps (Option.some.inj (e.symm.trans (by rw [z]; exact hP)))
    have T1 : Tabs T (upd (upd H P (.tbl (ps ++ #[rawInt pos.line, rawInt pos.col, .ref c']))) c' (CodeO c' (X.env.qual ++ "<lambda>"))) := fun p hp => by
      by_cases hb : p.1 = P
      · rw [hu p hp hb, hb]
        refine ⟨_, by rw [upd_ne (ne_of_none hP nC), upd_same], by rw [eL]; exact PySem.TriplesOk_snoc _ _ _ _ ht, fun p' cv hcv => ?_⟩
        rw [eL] at hcv
        rcases among_app _ ht hcv with z | z
        · obtain ⟨c0, e1, e2⟩ := ha p' cv z
          exact ⟨c0, e1, hE _ _ (nT e2 codeO_ne) e2⟩
        · exact ⟨c', z, upd_same⟩
      · obtain ⟨ps', a1, a2, a3⟩ := hT p hp
        refine ⟨ps', by rw [upd_ne (ne_of_none a1 nC), upd_ne hb]; exact a1, a2, fun p' cv hcv => ?_⟩
        obtain ⟨c0, e1, e2⟩ := a3 p' cv hcv
        exact ⟨c0, e1, hE _ _ (nT e2 codeO_ne) e2⟩
    have nF := I1.hok.fresh (Nat.le_refl _)
    have I2 := inv_fnL (L := ⟨X.env.qual ++ "<lambda>", params, body, scope, cloFrom X.env.cells scope.names [], c', dv⟩) (t' := tk) (pm := (X.mg "__name__").getD .none) (ctv := ctv) I1 rfl
    have kk : ∀ b o, upd (upd H P (.tbl (ps ++ #[rawInt pos.line, rawInt pos.col, .ref c']))) c' (CodeO c' (X.env.qual ++ "<lambda>")) b = some o → upd (upd (upd H P (.tbl (ps ++ #[rawInt pos.line, rawInt pos.col, .ref c']))) c' (CodeO c' (X.env.qual ++ "<lambda>"))) h'.objs.size (FnL h'.objs.size ⟨X.env.qual ++ "<lambda>", params, body, scope, cloFrom X.env.cells scope.names [], c', dv⟩) b = some o := fun b o e => (upd_ne (ne_of_none e nF)).trans e
    cases dv with
    | none => exact h h'.objs.size c' _ _ I2 (fun b o n e => kk b o (hE b o n e)) (fun b e => NdefX.upd_none (NdefX.upd_none (NdefX.upd_none e))) (T1.ext kk) (I.hok.fresh (Nat.le_trans hge (Nat.le_of_lt hlt))) ⟨upd_same, kk _ _ upd_same, fun t e => nomatch e⟩
    | some t0 => exact h h'.objs.size c' _ _ I2 (fun b o n e => kk b o (hE b o n e)) (fun b e => NdefX.upd_none (NdefX.upd_none (NdefX.upd_none e))) (T1.ext kk) (I.hok.fresh (Nat.le_trans hge (Nat.le_of_lt hlt))) ⟨upd_same, kk _ _ upd_same, fun t e => kk _ _ (hE _ _ (nt t e) (hdv t e))⟩
  | some cv =>
    obtain ⟨c', e, hco⟩ := ha pos cv hc
    subst e
    refine PySem.W.lx_tailHit (mg := X.mg) (c := c) (P := P) (ps := ps) (closure_ok hfree) I.ok.glob (I.mod.glob.keeps I.bk) hcode (TB.code.keeps I.bk) hP' ht hc bP fun ctv h' tk hx hsz => ?_
    have I1 : Inv X pins σ H { s with heap := h', toks := tk } := I.kept hx
    have nF : H h'.objs.size = none := I1.hok.fresh (Nat.le_refl _)
    have I2 := inv_fnL (L := ⟨X.env.qual ++ "<lambda>", params, body, scope, cloFrom X.env.cells scope.names [], c', dv⟩) (t' := tk) (pm := (X.mg "__name__").getD .none) (ctv := ctv) I1 rfl
    have kk : ∀ b o, H b = some o → upd H h'.objs.size (FnL h'.objs.size ⟨X.env.qual ++ "<lambda>", params, body, scope, cloFrom X.env.cells scope.names [], c', dv⟩) b = some o := fun b o e => (upd_ne (ne_of_none e nF)).trans e
    cases dv with
    | none => exact h h'.objs.size c' _ _ I2 (fun b o n e => kk b o e) (fun b e => NdefX.upd_none e) (hT.ext kk) nF ⟨upd_same, kk _ _ hco, fun t e => nomatch e⟩
    | some t0 => exact h h'.objs.size c' _ _ I2 (fun b o n e => kk b o e) (fun b e => NdefX.upd_none e) (hT.ext kk) nF ⟨upd_same, kk _ _ hco, fun t e => kk _ _ (hdv t e)⟩
end
/-- the readings of a lambda: without parameters, with one that has the default 0 -/
def tLam0 (P : Addr) (T : List (Addr × Str)) (mk : Addr → Option Addr → LF) : TE := fun σ H Q => Tabs T H ∧ ∀ f c' H1, (∀ b o, b ≠ P → H b = some o → H1 b = some o) → (∀ b, H1 b = none → H b = none) → Tabs T H1 → H f = none → FnAtH H1 f (mk c' none) → Q (.ref f) H1
def tLam1 (P : Addr) (T : List (Addr × Str)) (mk : Addr → Option Addr → LF) : TE := fun σ H Q => Tabs T H ∧ ∀ f c' t H1, (∀ b o, b ≠ P → H b = some o → H1 b = some o) → (∀ b, H1 b = none → H b = none) → Tabs T H1 → H f = none → FnAtH H1 f (mk c' (some t)) → Q (.ref f) H1
def mkLF (X : Cx) (params : Arguments) (body : Expr) (scope : Scope) (c' : Addr) (dv : Option Addr) : LF := ⟨X.env.qual ++ "<lambda>", params, body, scope, cloFrom X.env.cells scope.names [], c', dv⟩
section
variable {X : Cx} {T : List (Addr × Str)} {c P : Addr} {params : Arguments} {body : Expr} {scope : Scope} {pos : Pos}
theorem pe_lam0 (TB : TabB X.base X.mg c P) (hcode : X.env.code = .ref c) (hm : (P, X.env.qual ++ "<lambda>") ∈ T) (hu : ∀ p ∈ T, p.1 = P → p.2 = X.env.qual ++ "<lambda>") (hfree : ∀ y ∈ scope.names, y.2 = .free → X.env.scope.names.lookup y.1 = some .cell)
    (hdef : defaultsOf params X.env = ([], []) := by rfl) : PE X (.Lambda params body scope pos) (tLam0 P T (mkLF X params body scope)) := by
  refine ⟨fun pins s σ H Q I h => ?_⟩
  obtain ⟨hT, h⟩ := h
  refine PySem.W.kla_eval hdef ?_
  rw [makeFunction_eq]
  simp only [List.zip_nil_right, List.filterMap_nil, List.isEmpty_nil, if_true, pure_bind]
  exact lx_make (dv := none) (fun t e => nomatch e) I TB hcode hm hu hT (fun y hy e => I.ok.has _ (.inl (hfree y hy e))) fun f c' H1 s' I1 e n T1 f0 f1 => ⟨.ref f, H1, I1, rfl, h f c' H1 e n T1 f0 f1⟩
theorem pe_lam1 {j : Nat} {p0 : Pos} (TB : TabB X.base X.mg c P) (hcode : X.env.code = .ref c) (hm : (P, X.env.qual ++ "<lambda>") ∈ T) (hu : ∀ p ∈ T, p.1 = P → p.2 = X.env.qual ++ "<lambda>") (hfree : ∀ y ∈ scope.names, y.2 = .free → X.env.scope.names.lookup y.1 = some .cell)
    (hdef : defaultsOf params X.env = ([eval (.Constant (.int 0) j p0) X.env], []) := by rfl) : PE X (.Lambda params body scope pos) (tLam1 P T (mkLF X params body scope)) := by
  refine ⟨fun pins s σ H Q I h => ?_⟩
  obtain ⟨hT, h⟩ := h
  rw [arm_eval_Lambda, hdef]
  show wpAny _ _ (do let dv ← evalAll [eval (.Constant (.int 0) j p0) X.env]; let kdv ← holding dv (evalAllOpt []); makeFunction "<lambda>" (X.env.qual ++ "<lambda>") params (.expr body) scope X.env dv kdv [] pos pos.line) _ _ s
  refine wpAny_bind (wpAny_evalAll_cons (thn ((pe_int (X := X) (i := 0) (j := j) (pos := p0)).run pins s σ H (fun v H1 => v = .int 0 ∧ H1 = H) I ⟨rfl, rfl⟩) fun u s1 ⟨v, H1, I1, r1, q1⟩ => ?_))
  obtain ⟨ev, eH⟩ := q1
  subst ev
  rw [eH] at I1
  refine wpAny_evalAll_nil (wpAny_bind (wpAny_holding (wpAny_pure ?_)))
  rw [makeFunction_eq]
  simp only [List.zip_nil_right, List.filterMap_nil, List.isEmpty_nil, if_true, pure_bind, List.isEmpty_cons, Bool.false_eq_true, if_false]
  refine wpAny_bind (wpAny_newTextTuple ?_)
  have hf : H s1.heap.objs.size = none := I1.hok.fresh (Nat.le_refl _)
  have I2 : Inv X pins σ (upd H s1.heap.objs.size (.tup [.int 0])) { s1 with heap := s1.heap.push { cls := .type "tuple", data := .seq [u].toArray } } :=
    I1.laid (t' := s1.toks) (fun b w e => Heap.get?_push_of_some _ e) (Nat.le_refl _) ⟨by show 1 ≤ sizeLine; decide, [u], .cons r1 .nil, ⟨_, Heap.get?_push_size _ rfl, rfl, _, rfl⟩⟩
  have k1 : ∀ b o, H b = some o → upd H s1.heap.objs.size (.tup [.int 0]) b = some o := fun b o e => (upd_ne (ne_of_none e hf)).trans e
  exact lx_make (dv := some s1.heap.objs.size) (fun t e => by cases e; exact upd_same) I2 TB hcode hm hu (hT.ext k1) (fun y hy e => I.ok.has _ (.inl (hfree y hy e))) fun f c' H2 s' I3 e n T1 f0 f1 =>
    ⟨.ref f, H2, I3, rfl, h f c' _ H2 (fun b o hb z => e b o hb (k1 b o z)) (fun b z => NdefX.upd_none (n b z)) T1 (NdefX.upd_none f0) f1⟩
end

/-! ### over data -/
/-- a list of lambdas, known as a list -/
def EvL (B : Bs) (te : TE) (es : List Sl) (P : List (Addr × LF) → Prop) : Prop := ∀ σ F H, Stt B es σ F H → ∀ Q : VK,
  (∀ a ls F' H', Go B F H F' H' → F' a = some (.lst (ls.map fun p => .ref p.1)) → (∀ p ∈ ls, FnAtH H' p.1 p.2) → P ls → Q (.ref a) H') → te σ H Q
def EvLs (B : Bs) (ta : TA) (es : List Sl) (P : List (Addr × LF) → Prop) : Prop := ∀ σ F H, Stt B es σ F H → ∀ Q : List V → Hp → Prop,
  (∀ ls F' H', Go B F H F' H' → (∀ p ∈ ls, FnAtH H' p.1 p.2) → P ls → Q (ls.map fun p => .ref p.1) H') → ta σ H Q
section
variable {B : Bs} {es : List Sl} {σ : L2.St} {F H : Hp}
theorem Stt.lam {H1 : Hp} {P : Addr} (S : Stt B es σ F H) (hP : ∃ q, (P, q) ∈ B.T) (k : ∀ b o, b ≠ P → H b = some o → H1 b = some o) (t : Tabs B.T H1) : Go B F H F H1 := by
  obtain ⟨q, hq⟩ := hP
  have nP : ∀ c, B.off c → c ≠ P := fun c h z => h.2 _ hq z.symm
  have fP : F P = none := S.tn _ hq
  have bP : ∀ b, B.bag = some b → b ≠ P := fun b hb z => by
    obtain ⟨_, vs, _, k2, _⟩ := S.bg b hb
    obtain ⟨ps, k3, _⟩ := S.tb _ hq
    rw [z] at k2
    rw [show H P = _ from k3] at k2
    cases k2
  refine ⟨Same.refl F, fun c o e => k c o (fun z => by rw [z, fP] at e; cases e) (S.sub c o e), fun c _ h => h, fun c o h e => k c o (nP c h) e, fun b hb => ?_, t⟩
  obtain ⟨h1, vs, xs, h2, h3, h4⟩ := S.bg b hb
  exact ⟨h1, vs, xs, k b _ (bP b hb) h2, h3, h4⟩
theorem FnAtH.later {H1 : Hp} {f : Addr} {L : LF} (S : Stt B es σ F H) (g : ∀ c o, B.off c → H c = some o → H1 c = some o) (q : FnAtH H f L) : FnAtH H1 f L :=
  q.kept fun c o e h1 h2 => g c o (S.offX e (fun _ z => by rw [z] at h1; exact h1) h2) e
theorem el_nil {P : List (Addr × LF) → Prop} (hp : P []) : EvLs B tNil es P := fun σ F H S Q q => q [] F H S.refl (fun _ z => nomatch z) hp
theorem el_cons0 {P0 : Addr} {mk : Addr → Option Addr → LF} {tr : TA} {P : List (Addr × LF) → Prop} (hP : ∃ q, (P0, q) ∈ B.T) (h : ∀ f c', EvLs B tr es fun ls => P ((f, mk c' none) :: ls)) : EvLs B (tCons (tLam0 P0 B.T mk) tr) es P := fun σ F H S Q q =>
  ⟨S.tb, fun f c' H1 k n t f0 f1 => by
    have g1 := S.lam hP k t
    have S1 := S.go g1
    exact h f c' σ F H1 S1 _ fun ls F2 H2 g2 a p => q _ F2 H2 (g1.trans g2) (fun p hp => by
      rcases List.mem_cons.mp hp with e | hp
      · rw [e]; exact f1.later S1 g2.kp
      · exact a p hp) p⟩
theorem el_cons1 {P0 : Addr} {mk : Addr → Option Addr → LF} {tr : TA} {P : List (Addr × LF) → Prop} (hP : ∃ q, (P0, q) ∈ B.T) (h : ∀ f c' t, EvLs B tr es fun ls => P ((f, mk c' (some t)) :: ls)) : EvLs B (tCons (tLam1 P0 B.T mk) tr) es P := fun σ F H S Q q =>
  ⟨S.tb, fun f c' t' H1 k n t f0 f1 => by
    have g1 := S.lam hP k t
    have S1 := S.go g1
    exact h f c' t' σ F H1 S1 _ fun ls F2 H2 g2 a p => q _ F2 H2 (g1.trans g2) (fun p hp => by
      rcases List.mem_cons.mp hp with e | hp
      · rw [e]; exact f1.later S1 g2.kp
      · exact a p hp) p⟩
theorem el_lst {ta : TA} {P : List (Addr × LF) → Prop} (h : EvLs B ta es fun ls => ls.length ≤ 100000 ∧ P ls) : EvL B (tLst ta) es P := fun σ F H S Q q =>
  h σ F H S _ fun ls F1 H1 g1 a p1 => ⟨size_of (by rw [List.length_map]; exact p1.1), fun p hp => by
    have S1 := S.go g1
    have g2 := S1.alloc (o := .lst (ls.map fun p => .ref p.1)) hp
    exact q p ls _ _ (g1.trans g2) upd_same (fun x hx => (a x hx).later S1 g2.kp) p1.2⟩
theorem sm_setL {p : Po} {te : TE} {i : Nat} (h : EvL B te es fun ls => ∀ a, p.nx (es.set i (.fs a ls))) : Sm B (tAsg te (gName i)) es p := fun σ F H D S n _ _ _ _ => h σ F H S _ fun a ls F1 H1 g1 h1 h2 p1 => by
  have S1 := S.go g1
  exact n _ _ F1 H1 (S1.set (i := i) (e := .fs a ls) (o := some (.ref a)) ⟨rfl, h1, h2⟩ fun _ _ e => nomatch e) g1.s1 (p1 a)
end
end Y
/-! Y30: cells that are known while a callee runs; a lambda's call. -/
namespace Y
open PySem PySem.Spec PyProof.Rows L2 LamX
/-- the object at c is o, a cell -/
def CellX (c : Addr) (o : Obj) : HO := .ext fun h => h.get? c = some o
def untrk (H : Hp) (C : List Addr) : Hp := fun b => if C.contains b then none else H b
def trk (H : Hp) (C : List Addr) (os : Addr → Obj) : Hp := fun b => if C.contains b then some (CellX b (os b)) else H b
theorem untrk_in {H : Hp} {C : List Addr} {b : Addr} (h : b ∈ C) : untrk H C b = none := if_pos (by simpa using h)
theorem untrk_out {H : Hp} {C : List Addr} {b : Addr} (h : b ∉ C) : untrk H C b = H b := if_neg (by simpa using h)
theorem trk_in {H : Hp} {C : List Addr} {os : Addr → Obj} {b : Addr} (h : b ∈ C) : trk H C os b = some (CellX b (os b)) := if_pos (by simpa using h)
theorem trk_out {H : Hp} {C : List Addr} {os : Addr → Obj} {b : Addr} (h : b ∉ C) : trk H C os b = H b := if_neg (by simpa using h)
theorem cellX_ok {P : Program} {w : World} {H : Hp} {h : Heap} {c : Addr} {o : Obj} (e : h.get? c = some o) : ObjOk P w H h c (CellX c o) := ⟨e, ⟨o, e⟩, fun _ _ z k => k o z⟩
theorem cellX_at {P : Program} {w : World} {H : Hp} {h : Heap} {c : Addr} {o : Obj} (hok : HOk P w H h) (e : H c = some (CellX c o)) : h.get? c = some o := by
  obtain ⟨z, _, _⟩ := hok c _ e
  exact z
section
variable {P : Program} {w : World} {H H' : Hp} {h h' : Heap} {C : List Addr} {os : Addr → Obj} {fs : List Addr}
theorem hok_untrk (x : HOk P w H h) (hC : ∀ c ∈ C, H c = some (CellX c (os c))) : HOk P w (untrk H C) h := fun b o e => by
  by_cases hb : b ∈ C
  · rw [untrk_in hb] at e; cases e
  · rw [untrk_out hb] at e
    refine (x b o e).stay (fun c v _ q => q) (fun c q => ?_) fun c xs q => ?_
    · rw [untrk_out (fun z => by rw [hC c z] at q; cases q)]; exact q
    · rw [untrk_out (fun z => by rw [hC c z] at q; cases q)]; exact q
theorem hok_trk (x : HOk P w H h) (hC : ∀ c ∈ C, h.get? c = some (os c)) (hn : ∀ c ∈ C, H c = none) : HOk P w (trk H C os) h := fun b o e => by
  by_cases hb : b ∈ C
  · rw [trk_in hb] at e; cases e
    exact cellX_ok (hC b hb)
  · rw [trk_out hb] at e
    refine (x b o e).stay (fun c v _ q => q) (fun c q => ?_) fun c xs q => ?_
    · rw [trk_out (fun z => by rw [hn c z] at q; cases q)]; exact q
    · rw [trk_out (fun z => by rw [hn c z] at q; cases q)]; exact q
/-- back in the caller: the cells are known again -/
theorem un_retrk (u : Un fs [] (untrk H C) H' h h') (hC : ∀ c ∈ C, H c = some (CellX c (os c))) (hg : ∀ c ∈ C, h.get? c = some (os c)) (hf : ∀ b ∈ fs, H b = none) : (∀ c ∈ C, h'.get? c = some (os c)) ∧ (∀ c ∈ C, H' c = none) ∧ Un fs [] H (trk H' C os) h h' := by
  have nC : ∀ {b}, H b = none → b ∉ C := fun {b} n z => by rw [hC b z] at n; cases n
  have nc : ∀ c ∈ C, H' c = none := fun c hc => u.free c _ (hg c hc) (untrk_in hc) (by simp)
  refine ⟨fun c hc => u.keep c _ (hg c hc) (untrk_in hc) (fun z => by have := hC c hc; rw [hf c z] at this; cases this) (by simp), nc, fun b o e n hb hx => u.keep b o e (by rw [untrk_out (nC n)]; exact n) hb hx, fun b o e n hb hx => u.slot b o e (by rw [untrk_out (nC n)]; exact n) hb hx,
    fun b o e n hx => by rw [trk_out (nC n)]; exact u.free b o e (by rw [untrk_out (nC n)]; exact n) hx, u.there, fun b xs e => ?_, fun b o v e => ?_, fun b ps e => ?_⟩
  · have hb : b ∉ C := fun z => by rw [hC b z] at e; cases e
    rw [trk_out hb]; exact u.tups b xs (by rw [untrk_out hb]; exact e)
  · have hb : b ∉ C := fun z => by rw [hC b z] at e; cases e
    rw [trk_out hb]; exact u.frzs b o v (by rw [untrk_out hb]; exact e)
  · have hb : b ∉ C := fun z => by rw [hC b z] at e; cases e
    rw [trk_out hb]; exact u.tbls b ps (by rw [untrk_out hb]; exact e)
theorem ub_retrk {B : Heap} (u : UB fs (untrk H C) H' h B h') (hC : ∀ c ∈ C, H c = some (CellX c (os c))) (hg : ∀ c ∈ C, h.get? c = some (os c)) (hf : ∀ b ∈ fs, H b = none) : (∀ c ∈ C, B.get? c = some (os c)) ∧ (∀ c ∈ C, H' c = none) ∧ UB fs H (trk H' C os) h B h' := by
  have nC : ∀ {b}, H b = none → b ∉ C := fun {b} n z => by rw [hC b z] at n; cases n
  have nc : ∀ c ∈ C, H' c = none := fun c hc => u.free c _ (hg c hc) (untrk_in hc)
  refine ⟨fun c hc => u.keep c _ (hg c hc) (untrk_in hc) (fun z => by have := hC c hc; rw [hf c z] at this; cases this), nc, fun b o e n hb => u.keep b o e (by rw [untrk_out (nC n)]; exact n) hb, u.slot,
    fun b o e n => by rw [trk_out (nC n)]; exact u.free b o e (by rw [untrk_out (nC n)]; exact n), u.there, fun b xs e => ?_, fun b o v e => ?_, fun b ps e => ?_⟩
  · have hb : b ∉ C := fun z => by rw [hC b z] at e; cases e
    rw [trk_out hb]; exact u.tups b xs (by rw [untrk_out hb]; exact e)
  · have hb : b ∉ C := fun z => by rw [hC b z] at e; cases e
    rw [trk_out hb]; exact u.frzs b o v (by rw [untrk_out hb]; exact e)
  · have hb : b ∉ C := fun z => by rw [hC b z] at e; cases e
    rw [trk_out hb]; exact u.tbls b ps (by rw [untrk_out hb]; exact e)
/-- out of a call during which the cells were known -/
theorem un_untrk (u : Un fs [] (trk H C os) H' h h') (hg : ∀ c ∈ C, h.get? c = some (os c)) (hn : ∀ c ∈ C, H c = none) (hg' : ∀ c ∈ C, h'.get? c = some (os c)) : Un fs [] H (untrk H' C) h h' := by
  refine ⟨fun b o e n hb hx => ?_, fun b o e n hb hx => ?_, fun b o e n hx => ?_, u.there, fun b xs e => ?_, fun b o v e => ?_, fun b ps e => ?_⟩
  · by_cases hc : b ∈ C
    · rw [hg b hc] at e; cases e; exact hg' b hc
    · exact u.keep b o e (by rw [trk_out hc]; exact n) hb hx
  · by_cases hc : b ∈ C
    · rw [hg b hc] at e; cases e; exact ⟨_, hg' b hc⟩
    · exact u.slot b o e (by rw [trk_out hc]; exact n) hb hx
  · by_cases hc : b ∈ C
    · exact untrk_in hc
    · rw [untrk_out hc]; exact u.free b o e (by rw [trk_out hc]; exact n) hx
  · have hb : b ∉ C := fun z => by rw [hn b z] at e; cases e
    rw [untrk_out hb]; exact u.tups b xs (by rw [trk_out hb]; exact e)
  · have hb : b ∉ C := fun z => by rw [hn b z] at e; cases e
    rw [untrk_out hb]; exact u.frzs b o v (by rw [trk_out hb]; exact e)
  · have hb : b ∉ C := fun z => by rw [hn b z] at e; cases e
    rw [untrk_out hb]; exact u.tbls b ps (by rw [trk_out hb]; exact e)
end

/-! ### the lambda's own frame -/
abbrev envL (L : LF) (f locals : Addr) : Env := PySem.W.envX L.qual L.scope locals f (.ref L.c) L.cl
def lamC (P : Program) (w : World) (K : PySem.W.Frag) (mg : Str → Option Value) (base : Heap) (N : List Str) (L : LF) (f : Addr) (A : Around) (outer : List Env) (s : Shared) (H : Hp) (E : XK) : Cx where
  prog := P
  w := w
  K := K
  mg := mg
  base := base
  A := A.deeper (envL L f s.heap.objs.size)
  N := N
  s_0 := s
  H_0 := H
  env := envL L f s.heap.objs.size
  outer := outer
  stack := envL L f s.heap.objs.size :: outer
  ex := []
  fn := fun _ => false
  calm := true
  pn := []
  xe := fun e s' => wpAny (model P w) (A.deeper (envL L f s.heap.objs.size)) (leaving (envL L f s.heap.objs.size) e) (fun _ s'' => L2.CX P w outer H s E e s'') (fun e' s'' => L2.CX P w outer H s E e' s'') s'
/-- the words of a lambda that may be called so -/
structure LamW (L : LF) : Prop where
  kind : L.scope.kind = .function
  co : L.scope.isCoroutine = false
  gen : L.scope.isGenerator = false
  cell : ∀ y ∈ L.scope.names, y.2 ≠ .cell
  b0 : L.dv = none → ∀ pm ctv, bindArgs (L.fd pm ctv) ⟨[], []⟩ = pure []
  b1 : ∀ t, L.dv = some t → ∃ x, L.scope.names.lookup x = some .local ∧ ∀ pm ctv v, ∃ k, bindArgs (L.fd pm ctv) ⟨[], []⟩ = seqItems? (.ref t) >>= k ∧ k (some #[v]) = pure [(x, v)]
  inj : ∀ x y c, L.cl.lookup x = some c → L.cl.lookup y = some c → x = y
  has : ∀ y ∈ L.scope.names, y.2 = .free → ∃ c, L.cl.lookup y.1 = some c
section
variable {P : Program} {w : World} {K : PySem.W.Frag} {mg : Str → Option Value} {base : Heap} {N : List Str} {L : LF} {f : Addr} {σ : L2.St} {os : Addr → Obj} {k : Nat} {tb : XK → TE}
theorem cl_mem {l : List (Str × Addr)} {y : Str} {c : Addr} (h : l.lookup y = some c) : c ∈ l.map (·.2) := List.mem_map.mpr ⟨(y, c), PySem.mem_of_lookup h, rfl⟩
theorem lam_run (W : LamW L) (hbody : ∀ (A : Around) (outer : List Env) (s : Shared) (H : Hp) (E : XK), Room k (A.deeper (envL L f s.heap.objs.size)) → PE (lamC P w K mg base N L f A outer s H E) L.body (tb E))
    {A : Around} {outer : List Env} {s : Shared} {H : Hp} {Q : VK} {E : XK} (hr : Room (k + 1) A) (e0 : Env0 P w K mg base A outer s H) (hf : FnAtH H f L)
    (hc : ∀ c ∈ L.cl.map (·.2), H c = some (CellX c (os c)) ∧ ∃ v, (os c).data = .cell v)
    (hN : ∀ (i : Nat) y v, N[i]? = some y → σ[i]? = some (some v) → Vis L.scope y → L.scope.names.lookup y = some .free ∧ ∃ c u, L.cl.lookup y = some c ∧ (os c).data = .cell (some u) ∧ RelV v u) (hl : σ.length = N.length)
    (ht : tb (fun cls d H' => (∀ c ∈ L.cl.map (·.2), H' c = none) → E cls d (trk H' (L.cl.map (·.2)) os)) σ (untrk H (L.cl.map (·.2))) (fun v H' => (∀ c ∈ L.cl.map (·.2), H' c = none) → Q v (trk H' (L.cl.map (·.2)) os))) :
    codeAny (model P w) A (.call (.ref f) ⟨[], []⟩) (CR (L2.CX P w) outer P w H s Q E) s := by
  have hC : ∀ c ∈ L.cl.map (·.2), H c = some (CellX c (os c)) := fun c h => (hc c h).1
  have hg : ∀ c ∈ L.cl.map (·.2), s.heap.get? c = some (os c) := fun c h => cellX_at e0.hok (hC c h)
  have nCn : ∀ {b}, H b = none → b ∉ L.cl.map (·.2) := fun {b} n z => by rw [hC b z] at n; cases n
  obtain ⟨⟨od, sl, pm, ctv, hfo⟩, _, _⟩ := e0.hok f _ hf.1
  obtain ⟨⟨oc, vs, tk, hoc, hdc, hvc⟩, _, _⟩ := e0.hok L.c _ hf.2.1
  have lim : s.heap.NoLimit := e0.mod.nolimit.keeps fun b o e => (e0.bs b o e).1
  have ok' : HOk P w (untrk H (L.cl.map (·.2))) s.heap := hok_untrk e0.hok hC
  -- behind the binding
  have go : ∀ binds : List (Str × Value), (∀ y ∈ binds, L.scope.names.lookup y.1 = some .local) → wpAny (model P w) A.in1 (newFunctionEnv L.scope mainGlobals L.cl binds (L.qual ++ ".<locals>.") (some f) (.ref L.c) none builtinsNs)
      (fun env s₂ => s₂.heap.NoLimit ∧ codeAny (model P w) A (.expr L.body env) (CR (L2.CX P w) outer P w H s Q E) s₂) (fun e s' => CR (L2.CX P w) outer P w H s Q E (.error e) s') s := by
    intro binds hbl
    refine wpAny_newFunctionEnv W.cell hbl (fun h₁ hns hsb => ⟨lim.fresh _ hsb, ?_⟩) W.kind
    show codeAny _ _ (.expr L.body (envL L f s.heap.objs.size)) _ _
    have kp : ∀ b o, s.heap.get? b = some o → h₁.get? b = some o := fun b o e => hsb.extBut b o (Nat.ne_of_lt (Heap.lt_size e)) (Heap.get?_push_of_some _ e)
    have noA : ∀ b : Addr, b ∉ (lamC P w K mg base N L f A outer s (untrk H (L.cl.map (·.2))) (fun cls d H' => (∀ c ∈ L.cl.map (·.2), H' c = none) → E cls d (trk H' (L.cl.map (·.2)) os))).ex := fun b z => absurd (show b ∈ ([] : List Addr) from z) (by simp)
    have J : Inv (lamC P w K mg base N L f A outer s (untrk H (L.cl.map (·.2))) (fun cls d H' => (∀ c ∈ L.cl.map (·.2), H' c = none) → E cls d (trk H' (L.cl.map (·.2)) os))) [] σ (untrk H (L.cl.map (·.2))) { s with heap := h₁, toks := s.toks + binds.length } := by
      refine ⟨⟨e0.mod, W.kind, rfl, rfl, Nat.le_refl _, W.inj, fun y hy => ?_, fun y c z _ => ?_, fun _ => hr.hd, Around.frames_deeper e0.frames, .inr ⟨rfl, rfl⟩, fun b z => absurd z (noA b), fun b o e => ⟨(e0.bs b o e).1, (untrk_out (nCn (e0.bs b o e).2)).trans (e0.bs b o e).2⟩, e0.bsz, fun b _ _ => noA b,
          fun b z => absurd z (noA b), e0.funs, fun b hb => (untrk_out (nCn (e0.frf b hb))).trans (e0.frf b hb)⟩,
        rfl, e0.bare, Un.kept kp, ⟨_, hns, fun i y v e1 e2 e3 => ?_⟩, fun y c e => ?_, ok'.fresh (Nat.le_refl _), fun y c e => untrk_in (cl_mem e), fun q hq => absurd (show q ∈ ([] : List (Addr × Obj)) ++ [] from hq) (by simp), ok'.kept kp, hl⟩
      · have hy : L.scope.names.lookup y = some .cell ∨ L.scope.names.lookup y = some .free := hy
        rcases hy with hy | hy
        · exact absurd rfl (W.cell _ (PySem.mem_of_lookup hy))
        · exact W.has _ (PySem.mem_of_lookup hy) rfl
      · have z : false = true := z
        cases z
      · obtain ⟨hfr, c, u, h1, h2, h3⟩ := hN i y v e1 e2 e3
        exact ⟨u, h3, .inr ⟨.inr hfr, c, h1, ⟨os c, kp _ _ (hg c (cl_mem h1)), h2⟩⟩⟩
      · obtain ⟨v, hv⟩ := (hc c (cl_mem e)).2
        exact ⟨v, os c, kp _ _ (hg c (cl_mem e)), hv⟩
    refine PySem.W.kla_codeExpr (wpAny_mono ((hbody A outer s (untrk H (L.cl.map (·.2))) (fun cls d H' => (∀ c ∈ L.cl.map (·.2), H' c = none) → E cls d (trk H' (L.cl.map (·.2)) os)) (hr.deeper _)).run [] _ _ _ _ J ht) (fun v s' hq => ?_) fun e s' hq => ?_)
    · obtain ⟨w', H', J', rv, q⟩ := hq
      obtain ⟨g1, g2, g3⟩ := un_retrk J'.base hC hg e0.frf
      exact ⟨w', _, J'.os, J'.bare, g3, hok_trk J'.hok g1 g2, rv, q g2⟩
    · refine wpAny_mono hq (fun _ s'' hx => ?_) fun e' s'' hx => ?_
      all_goals
        obtain ⟨a, B, H', cls, d, rfl, fl, hok', ub, na, os', ag, hE⟩ := hx
        obtain ⟨g1, g2, g3⟩ := ub_retrk ub hC hg e0.frf
        have naC : a ∉ L.cl.map (·.2) := fun z => by
          have h1 := g1 a z
          rw [fl.2.1] at h1; cases h1
        exact ⟨a, B, _, cls, d, rfl, fl, hok_trk hok' g1 g2, g3, by rw [trk_out naC]; exact na, os', ag, hE g2⟩
  refine PySem.W.kla_callFunE hr.depth hfo rfl W.co W.gen rfl ⟨L.c, oc, vs, tk, rfl, hoc, hdc, hvc⟩ ?_
  cases hd : L.dv with
  | none =>
    rw [W.b0 hd]
    exact wpAny_pure (go [] fun y hy => nomatch hy)
  | some t =>
    obtain ⟨x, hx, hb⟩ := W.b1 t hd
    obtain ⟨_, its, rv, ot, hot, hcls, n, hdt⟩ := e0.hok t _ (hf.2.2 t hd)
    cases rv with
    | @cons _ v _ rest r0 r1 =>
      cases r1
      obtain ⟨kk, e1, e2⟩ := hb pm ctv v
      rw [e1]
      refine wpAny_bind (wpAny_seqItems hot hdt ?_)
      rw [show ([v] : List Value).toArray = #[v] from rfl, e2]
      exact wpAny_pure (go [(x, v)] fun y hy => by
        rcases List.mem_cons.mp hy with e | hy
        · rw [e]; exact hx
        · cases hy)
end

/-! ### a call during which the frame's cells are known -/
/-- the cells' addresses -/
def cellsL (cells : List (Str × Addr)) (sc : Scope) : List Addr := sc.names.filterMap fun y => cells.lookup y.1
theorem cellsL_has {cells : List (Str × Addr)} {sc : Scope} {c : Addr} (h : c ∈ cellsL cells sc) : ∃ y, cells.lookup y = some c := by
  obtain ⟨y, _, h⟩ := List.mem_filterMap.mp h
  exact ⟨y.1, h⟩
def tCallTr (cells : List (Str × Addr)) (N : List Str) (sc : Scope) (sp : Sp) (t : TA) : TE := fun σ H Q => t σ H fun vs H1 => ∀ os : Addr → Obj, (∀ x y c, cells.lookup x = some c → cells.lookup y = some c → x = y) → (∀ y, sc.names.lookup y = some .cell → ∃ c, cells.lookup y = some c) → σ.length = N.length → (∀ c ∈ cellsL cells sc, H1 c = none ∧ ∃ v, (os c).data = .cell v) →
  (∀ (i : Nat) y c v, sc.names.lookup y = some .cell → cells.lookup y = some c → N[i]? = some y → σ[i]? = some (some v) → ∃ u, (os c).data = .cell (some u) ∧ RelV v u) →
  sp vs (trk H1 (cellsL cells sc) os) (fun v H' => (∀ c ∈ cellsL cells sc, H' c = some (CellX c (os c))) ∧ Q v (untrk H' (cellsL cells sc))) fun _ _ _ => False
section
variable {X : Cx} {k : Nat} {f : Addr} {fd : FuncData} {ps : List Str} {sp : Sp} {x : Str} {e : Expr} {es : List Expr} {t : TA} {p pos : Pos}
theorem pe_callTr (hcab : ∀ y, X.fn y = true) (F : FnOk X.prog X.w X.K X.mg X.base CX0 k f fd ps sp) (hr : Room k X.A) (hg : Gl X x) (hm : X.mg x = some (.ref f)) (hk : PySem.W.keepIn X.K (.ref f) = true) (hb : Binds X.K fd ps [])
    (ha : PA X (e :: es) t) (hdb : (x == ("__debug__" : Str)) = false := by decide) (he : starEach (e :: es) X.env = (false, eval e X.env) :: starEach es X.env := by rfl) (hpl : (backTo pos (starEach es X.env)).any (·.1) = false := by rfl) :
    PE X (.Call (.Name x p) (e :: es) [] pos) (tCallTr X.env.cells X.N X.env.scope sp t) := by
  refine ⟨fun pins s σ H Q I h => ?_⟩
  refine wpAny_Call_Name_kw (ld_glob I hg hm ?_ hdb)
  refine PySem.W.callWith_K (h₀ := X.base) I.ok.mod.kin hk (thn (ha.run pos pins s σ H _ I h) fun us s1 ⟨vs, H1, I1, r, q⟩ => ⟨I1.kIn, ?_⟩) he hpl
  show wpAny _ _ (call (.ref f) us) _ _ _
  let os : Addr → Obj := fun c => (s1.heap.get? c).getD { cls := .none, data := .plain }
  have hos : ∀ c ∈ cellsL X.env.cells X.env.scope, s1.heap.get? c = some (os c) ∧ ∃ v, (os c).data = .cell v := fun c hc => by
    obtain ⟨y, hy⟩ := cellsL_has hc
    obtain ⟨v, o, ho, hd⟩ := I1.cell y c hy
    have e : os c = o := by show (s1.heap.get? c).getD _ = o; rw [ho] <;> rfl
    rw [e]
    exact ⟨ho, v, hd⟩
  have hn : ∀ c ∈ cellsL X.env.cells X.env.scope, H1 c = none := fun c hc => by
    obtain ⟨y, hy⟩ := cellsL_has hc
    exact I1.freeC y c hy
  have big : ∀ c ∈ cellsL X.env.cells X.env.scope, X.s_0.heap.objs.size ≤ c := fun c hc => by
    obtain ⟨y, hy⟩ := cellsL_has hc
    exact I1.ok.cab y c (hcab y) hy
  have hq := q os I1.ok.inj (fun y h => I1.ok.has y (.inl h)) I1.len (fun c hc => ⟨hn c hc, (hos c hc).2⟩) fun i y c v h1 h2 h3 h4 => by
    obtain ⟨m, hns, hl⟩ := I1.loc
    obtain ⟨u, rv, l⟩ := hl i y v h3 h4 (.inr (.inl h1))
    rcases l with ⟨z, _⟩ | ⟨_, c', e', o, ho, hd⟩
    · have z : X.env.scope.names.lookup y = some .local := z
      rw [h1] at z; cases z
    · rw [h2] at e'; cases e'
      have e : os c = o := by show (s1.heap.get? c).getD _ = o; rw [ho] <;> rfl
      exact ⟨u, by rw [e]; exact hd, rv⟩
  have E := I1.env0
  have ltS : ∀ {b o}, X.base.get? b = some o → b ∉ cellsL X.env.cells X.env.scope := fun {b o} e z => by
    have h1 := Heap.lt_size (I1.ok.bs b o e).1
    exact absurd (Nat.lt_of_lt_of_le h1 (big b z)) (Nat.lt_irrefl _)
  have frS : ∀ b ∈ frs X.stack, b ∉ cellsL X.env.cells X.env.scope := fun b hb z => by
    rcases List.mem_cons.mp (I1.stkSub b hb) with e | hb
    · obtain ⟨y, hy⟩ := cellsL_has z
      exact I1.cne y b hy e
    · obtain ⟨_, o, ho, _⟩ := I1.ok.funs.mem hb
      exact absurd (Nat.lt_of_lt_of_le (Heap.lt_size ho) (big b z)) (Nat.lt_irrefl _)
  have e0 : Env0 X.prog X.w X.K X.mg X.base X.A X.stack s1 (trk H1 (cellsL X.env.cells X.env.scope) os) :=
    ⟨E.frames, E.mod, fun b o e => ⟨(E.bs b o e).1, by rw [trk_out (ltS e)]; exact (E.bs b o e).2⟩, E.bsz, E.funs, fun b hb => by rw [trk_out (frS b hb)]; exact E.frf b hb, hok_trk E.hok (fun c hc => (hos c hc).1) hn, E.bare⟩
  have hl : (us ++ []).length = ps.length := by
    rw [List.append_nil, ← r.length]; exact F.len _ _ _ _ hq
  have b := hb s1 us I1.kIn hl
  rw [List.append_nil] at b
  refine wpAny_call (codeAny_mono (F.run X.A X.stack s1 _ ⟨us, []⟩ us vs _ _ hr e0 b r hq) fun r' s' hq' => ?_)
  cases r' with
  | error e => exact (show False from hq').elim
  | ok fl =>
    cases fl with
    | ret u =>
      obtain ⟨v, H', os', bare, un, hok, rv, hcs, q2⟩ := hq'
      have hg' : ∀ c ∈ cellsL X.env.cells X.env.scope, s'.heap.get? c = some (os c) := fun c hc => cellX_at hok (hcs c hc)
      exact I1.after ⟨v, _, os', bare, un_untrk un (fun c hc => (hos c hc).1) hn hg', hok_untrk hok hcs, rv, q2⟩
    | next => exact False.elim hq'
    | brk => exact False.elim hq'
    | cont => exact False.elim hq'
end
end Y
/-! Y31: raising over data; except (A, B) as n; a def that is handed the caught exception. -/
namespace Y
open PySem PySem.Spec PyProof.Rows L2
/-- the fields of an exception, as data -/
def RpF (K : PySem.W.Frag) (F : Hp) (fs : List (Str × V)) (fds : List (Str × Dt)) : Prop := fs.map (·.1) = fds.map (·.1) ∧ RpAll K F (fs.map (·.2)) (fds.map (·.2))
theorem RpF.mono {K : PySem.W.Frag} {F F' : Hp} {fs : List (Str × V)} {fds : List (Str × Dt)} (e : Same F F') (h : RpF K F fs fds) : RpF K F' fs fds := ⟨h.1, h.2.mono e⟩
theorem RpF.look {K : PySem.W.Frag} {F : Hp} : ∀ {fs : List (Str × V)} {fds : List (Str × Dt)} {n : Str} {d : Dt}, RpF K F fs fds → fds.lookup n = some d → ∃ v, fs.lookup n = some v ∧ Rp K F v d
  | [], [], _, _, _, h => by cases h
  | [], _ :: _, _, _, h, _ => by have := h.1; simp at this
  | _ :: _, [], _, _, h, _ => by have := h.1; simp at this
  | (a, v) :: fs, (b, d) :: fds, n, x, ⟨h1, h2⟩, h => by
    simp only [List.map_cons, List.cons.injEq] at h1
    obtain ⟨rfl, h1⟩ := h1
    cases h2 with
    | cons r0 r1 =>
      rw [List.lookup_cons] at h ⊢
      split at h
      · rename_i e
        cases h
        exact ⟨v, rfl, r0⟩
      · exact RpF.look ⟨h1, r1⟩ h
/-- E takes an exception of the class at C with the fields fds, whatever else was made -/
def XOk (B : Bs) (E : XK) (P : Addr → List (Str × Dt) → Prop) : Prop := ∀ F H C dd fs fds, Same B.F0 F → Same F H → (∀ c, B.H0 c ≠ none → B.F0 c = none → F c = none) → (∀ c o, B.H0 c = some o → B.off c → H c = some o) → F dd = some (.xd fs) → RpF B.K F fs fds → P C fds → E (.ref C) (some dd) H
/-- what an own exception's __init__ promises: the fields it leaves -/
def spXI (C : Addr) (mk : List V → List (Str × V)) (n : Nat) : Sp := fun vs H Q _ => ∃ a ws, vs = .ref a :: ws ∧ ws.length = n ∧ H a = some (exo a C none) ∧
  ∀ d H2, H d = none → d ≠ a → H2 a = some (exo a C (some d)) → H2 d = some (exd d (mk ws)) → (∀ c, c ≠ a → c ≠ d → H2 c = H c) → Q .non H2
section
variable {B : Bs} {es : List Sl} {p : Po}
theorem sm_raise {E : XK} {C : Addr} {mk : List V → List (Str × V)} {mkD : List Dt → List (Str × Dt)} {n : Nat} {ta : TA} {PE : Addr → List (Str × Dt) → Prop} (hx : XOk B E PE) (hn : n ≤ 900)
    (hmk : ∀ F vs ds, vs.length = n → RpAll B.K F vs ds → RpF B.K F (mk vs) (mkD ds)) (h : EvA B ta es fun ds => ds.length = n ∧ PE C (mkD ds)) :
    Sm B (fun _ σ H => tMkO C (spXI C mk n) [] ta σ H fun cls d H' => (fun cls d (_ : L2.St) H => E cls d H) cls d σ H') es p := fun σ F H D S _ _ _ _ _ => by
  refine h σ F H S _ fun vs ds F1 H1 g1 r1 ⟨hl, hp⟩ => ?_
  have S1 := S.go g1
  have hv : vs.length = n := by rw [r1.length]; exact hl
  refine ⟨by omega, fun a ha => ⟨a, vs, by rw [List.append_nil], hv, upd_same, fun d H2 hd hda h2a h2d h2 => ?_⟩⟩
  rw [upd_ne hda] at hd
  have e : upd (del H2 a) d (.xd (mk vs)) = upd H1 d (.xd (mk vs)) := by
    funext c
    by_cases hc : c = d
    · rw [hc, upd_same, upd_same]
    · rw [upd_ne hc, upd_ne hc]
      by_cases hca : c = a
      · rw [hca, del_same, ha]
      · rw [del_ne hca, h2 c hca hc, upd_ne hca]
  refine ⟨rfl, d, mk vs, h2a, h2d, hd, ?_⟩
  rw [e]
  have g2 := S1.alloc (o := .xd (mk vs)) hd
  have S2 := S1.go g2
  exact hx _ _ C d (mk vs) (mkD ds) S2.s0 S2.sub S2.ou S2.fr upd_same ((hmk F1 vs ds hv r1).mono g2.s1) hp
end
/-- a def that may raise -/
def spR (K : PySem.W.Frag) (Pre : List Dt → Prop) (Post : List Dt → Dt → Prop) (Err : List Dt → Addr → List (Str × Dt) → Prop) : Sp := fun vs H Q E => ∃ F ds, Same F H ∧ RpAll K F vs ds ∧ Pre ds ∧
  (∀ v d F' H', Same F F' → (∀ c, H c ≠ none → F c = none → F' c = none) → Same F' H' → Same H H' → Rp K F' v d → Post ds d → Q v H') ∧
  (∀ C dd fs fds F' H', Same F F' → (∀ c, H c ≠ none → F c = none → F' c = none) → Same F' H' → Same H H' → F' dd = some (.xd fs) → RpF K F' fs fds → Err ds C fds → E (.ref C) (some dd) H')
section
variable {B : Bs} {es : List Sl}
theorem ev_callR {Pre : List Dt → Prop} {Post : List Dt → Dt → Prop} {Err : List Dt → Addr → List (Str × Dt) → Prop} {PE : Addr → List (Str × Dt) → Prop} {E : XK} {ta : TA} {P : Dt → Prop} (hx : XOk B E PE) (h : EvA B ta es fun ds => Pre ds ∧ (∀ d, Post ds d → P d) ∧ ∀ C fds, Err ds C fds → PE C fds) :
    Ev B (tCall (spR B.K Pre Post Err) [] E ta) es P := fun σ F H S Q q =>
  h σ F H S _ fun vs ds F1 H1 g1 r1 ⟨p1, p2, p3⟩ => by
    rw [List.append_nil]
    have S1 := S.go g1
    refine ⟨F1, ds, g1.s2, r1, p1, fun v d F2 H2 s1 s2 s3 s4 r2 p4 => q v d F2 H2 (g1.trans (S1.pure s1 s3 s2 s4)) r2 (p2 d p4), fun C dd fs fds F2 H2 s1 s2 s3 s4 hd r2 p4 => ?_⟩
    have S2 := S1.go (S1.pure s1 s3 s2 s4)
    exact hx F2 H2 C dd fs fds S2.s0 S2.sub S2.ou S2.fr hd r2 (p3 C fds p4)
theorem ev_callRD {Pre : List Dt → Prop} {Post : List Dt → Dt → Prop} {Err : List Dt → Addr → List (Str × Dt) → Prop} {PE : Addr → List (Str × Dt) → Prop} {E : XK} {ta : TA} {P : Dt → Prop} {dvs : List V} {dds : List Dt} (hd : ∀ F, RpAll B.K F dvs dds) (hx : XOk B E PE) (h : EvA B ta es fun ds => Pre (ds ++ dds) ∧ (∀ d, Post (ds ++ dds) d → P d) ∧ ∀ C fds, Err (ds ++ dds) C fds → PE C fds) :
    Ev B (tCall (spR B.K Pre Post Err) dvs E ta) es P := fun σ F H S Q q =>
  h σ F H S _ fun vs ds F1 H1 g1 r1 ⟨p1, p2, p3⟩ => by
    have S1 := S.go g1
    refine ⟨F1, ds ++ dds, g1.s2, r1.app (hd F1), p1, fun v d F2 H2 s1 s2 s3 s4 r2 p4 => q v d F2 H2 (g1.trans (S1.pure s1 s3 s2 s4)) r2 (p2 d p4), fun C dd fs fds F2 H2 s1 s2 s3 s4 hd r2 p4 => ?_⟩
    have S2 := S1.go (S1.pure s1 s3 s2 s4)
    exact hx F2 H2 C dd fs fds S2.s0 S2.sub S2.ou S2.fr hd r2 (p3 C fds p4)
theorem ev_callRN {Pre : List Dt → Prop} {Post : List Dt → Dt → Prop} {Err : List Dt → Addr → List (Str × Dt) → Prop} {PE : Addr → List (Str × Dt) → Prop} {E : XK} {ta tk : TA} {P : Dt → Prop} {n m : Nat} {gV : List V → List V → List V} {gD : List Dt → List Dt → List Dt}
    (hg : ∀ F vs ds zs as, RpAll B.K F vs ds → RpAll B.K F zs as → RpAll B.K F (gV vs zs) (gD ds as)) (hx : XOk B E PE)
    (h : EvA B ta es fun ds => EvA B tk es fun as => ds.length = n ∧ as.length = m ∧ Pre (gD ds as) ∧ (∀ d, Post (gD ds as) d → P d) ∧ ∀ C fds, Err (gD ds as) C fds → PE C fds) : Ev B (tCallN n m (spR B.K Pre Post Err) gV E ta tk) es P := fun σ F H S Q q =>
  h σ F H S _ fun vs ds F1 H1 g1 r1 p0 => p0 σ F1 H1 (S.go g1) _ fun zs as F2 H2 g2 r2 ⟨l1, l2, p1, p2, p3⟩ => by
    have g := g1.trans g2
    have S1 := S.go g
    refine ⟨by rw [r1.length]; exact l1, by rw [r2.length]; exact l2, F2, gD ds as, g2.s2, hg F2 _ _ _ _ (r1.mono g2.s1) r2, p1, fun v d F3 H3 s1 s2 s3 s4 r3 p4 => q v d F3 H3 (g.trans (S1.pure s1 s3 s2 s4)) r3 (p2 d p4), fun C dd fs fds F3 H3 s1 s2 s3 s4 hd r3 p4 => ?_⟩
    have S2 := S1.go (S1.pure s1 s3 s2 s4)
    exact hx F3 H3 C dd fs fds S2.s0 S2.sub S2.ou S2.fr hd r3 (p3 C fds p4)
end
abbrev CXX (P : Program) (w : World) : CXT := L2.CX P w
section
variable {P : Program} {w : World} {K : PySem.W.Frag} {mg : Str → Option Value} {base : Heap} {x qual : Str} {st : Stmt} {f : Addr} {fd : FuncData} {N ps : List Str} {k : Nat} {Pre : List Dt → Prop} {Post : List Dt → Dt → Prop} {Err : List Dt → Addr → List (Str × Dt) → Prop}
/-- a def by its body, whatever it lets out -/
theorem fun_okX {CX : CXT} {sp : Sp} (G : Fun K x qual st f fd) (S : FnScope N ps (defScope st)) (len : ∀ vs H Q E, sp vs H Q E → vs.length = ps.length)
    (hb : ∀ (cdv : Value) (A : Around) (outer : List Env) (s : Shared) (H : Hp) (vs : List V) (Q : VK) (E : XK), Room k (A.deeper (envOfC qual (defScope st) s.heap.objs.size f cdv)) → sp vs H Q E →
      ∃ t, PSs (cxOf CX P w K mg base N qual (defScope st) f cdv A outer s H E) (defBody st) t ∧ t { nx := fun _ H' => Q .non H', rt := Q } (L2.start N vs) H) : FnOk P w K mg base CX (k + 1) f fd ps sp := by
  obtain ⟨oc, od, kV, doc, pm, an, cdv, ct, osl, rfl, lk, hcd⟩ := G.ex
  exact fn_of lk hcd S len fun A outer s H vs Q E hr hsp => hb cdv A outer s H vs Q E hr hsp
theorem fn_raise (G : Fun K x qual st f fd) (S : FnScope N ps (defScope st)) (hl : ∀ ds, Pre ds → ds.length = ps.length)
    (hb : ∀ (cdv : Value) (A : Around) (outer : List Env) (s : Shared) (H : Hp) (E : XK), Room k (A.deeper (envOfC qual (defScope st) s.heap.objs.size f cdv)) →
      ∃ t, PSs (cxOf (CXX P w) P w K mg base N qual (defScope st) f cdv A outer s H E) (defBody st) t ∧ ∀ F0 H0 ds, Pre ds → XOk ⟨K, F0, H0, none, []⟩ E (Err ds) → Sm ⟨K, F0, H0, none, []⟩ t (env0 N ds) { nx := fun _ => Post ds .non, bk := fun _ => False, ct := fun _ => False, rt := fun _ => Post ds }) :
    FnOk P w K mg base (CXX P w) (k + 1) f fd ps (spR K Pre Post Err) := by
  refine fun_okX G S (fun vs H Q E h => ?_) (fun cdv A outer s H vs Q E hr h => ?_)
  · obtain ⟨F, ds, _, r, hp, _⟩ := h
    rw [r.length]; exact hl ds hp
  · obtain ⟨F, ds, hs, r, hp, q, qe⟩ := h
    obtain ⟨t, hd, hm⟩ := hb cdv A outer s H E hr
    refine ⟨t, hd, hm F H ds hp (fun F' H' C dd fs fds s1 s2 s3 s4 hdd rf pe => qe C dd fs fds F' H' s1 s3 s2 (fun c o e => s4 c o e off_nil) hdd rf pe) _ F H _ (start_stt hs r (fun _ z => nomatch z) (fun _ z => nomatch z) (fun _ z => nomatch z)) (fun es' σ' F' H' S' s' p => ?_) (fun _ _ _ _ _ _ z => z.elim) (fun _ _ _ _ _ _ z => z.elim) (fun v d es' σ' F' H' S' s' rv p => ?_) (fun _ _ _ _ _ _ _ _ _ _ _ _ _ _ z => z.elim)⟩
    · exact q _ _ F' H' s' S'.ou S'.sub (fun c o e => S'.fr c o e off_nil) .non p
    · exact q _ _ F' H' s' S'.ou S'.sub (fun c o e => S'.fr c o e off_nil) rv p
theorem takesE {cdv : Value} {A : Around} {outer : List Env} {s : Shared} {H : Hp} {E : XK} : Takes (cxOf (CXX P w) P w K mg base N qual (defScope st) f cdv A outer s H E) (fun cls d _ H => E cls d H) := takes_of rfl rfl rfl rfl
theorem passE {cdv : Value} {A : Around} {outer : List Env} {s : Shared} {H : Hp} {E : XK} : Passes (CXX P w) (cxOf (CXX P w) P w K mg base N qual (defScope st) f cdv A outer s H E) E := passes_call takesE fun _ _ _ _ h => h
theorem ownE {cdv : Value} {A : Around} {outer : List Env} {s : Shared} {H : Hp} {E : XK} : PassesOwn (model P w) (cxOf (CXX P w) P w K mg base N qual (defScope st) f cdv A outer s H E).A (cxOf (CXX P w) P w K mg base N qual (defScope st) f cdv A outer s H E).env (cxOf (CXX P w) P w K mg base N qual (defScope st) f cdv A outer s H E).xe := passes_of (X := cxOf (CXX P w) P w K mg base N qual (defScope st) f cdv A outer s H E) rfl
end
end Y
/-! Y32: try .. except (A, B) as n: the exceptions that the body lets out are of A or B. -/
namespace Y
open PySem PySem.Spec PyProof.Rows L2
theorem flying_keeps {B h h' : Heap} {l : List Env} {a : Addr} {Z : Obj → Prop} (x : HandSPX.FlyingZ B l a Z h) (k : ∀ b o, h.get? b = some o → h'.get? b = some o) : HandSPX.FlyingZ B l a Z h' := by
  obtain ⟨x1, x2, x3, oe, vs, T, oT, ts, y1, y2, y3, y4, y5, y6, y7, y8, y9⟩ := x
  exact ⟨fun b o q => k b o (x1 b o q), x2, Heap.FunFrames.of_keeps (fun b o q _ => ⟨o, k b o q, rfl⟩) x3, oe, vs, T, oT, ts, k _ _ y1, y2, y3, y4, y5, y6, k _ _ y7, y8, y9⟩
/-- what the clause wishes of an exception of the body -/
def wAs2 (K : PySem.W.Frag) (c1 c2 : Value) (i : Nat) (ts : Addr → Value → Option Addr → TS) (D : Ends) : WX := fun cls d σ H =>
  PySem.W.exmAny K cls [c1, c2] = some true ∧ ∀ a, H a = none → ts a cls d { nx := fun σ' H' => D.nx (σ'.set i none) H', rt := D.rt, bk := fun σ' H' => D.bk (σ'.set i none) H', ct := fun σ' H' => D.ct (σ'.set i none) H' } (σ.set i (some (.ref a))) H
section
variable {X : Cx} {x1 x2 n : Str} {C1 C2 : Addr} {i kk : Nat} {body suite : List Stmt} {b₀ : Stmt} {p1 p2 tpos pos pos' : Pos} {tb : WX → TS} {ts : Addr → Value → Option Addr → TS}
theorem ps_try_as2 (hs : X.stack = X.env :: X.outer) (hf : X.env.frame = some X.env.locals) (hN : X.N.Nodup) (hi : X.N[i]? = some n) (hln : X.env.kindOf n = some .local)
    (g1 : Gl X x1) (m1 : X.mg x1 = some (.ref C1)) (g2 : Gl X x2) (m2 : X.mg x2 = some (.ref C2))
    (hb : ∀ (W : WX) (pn : List (Addr × Obj)) (xe : Value → Shared → Prop), Takes (X.tr pn xe) W → PassesOwn (model X.prog X.w) X.A X.env xe → PSs (X.tr pn xe) body (tb W))
    (hsu : ∀ (a : Addr) (oe : Obj) (cls : Value) (d : Option Addr) (pn : List (Addr × Obj)), Zc cls d oe → (∃ vs, oe.data = .fields vs) → PSs (X.suite a ((a, oe) :: pn)) (b₀ :: suite) (ts a cls d))
    (hd1 : (x1 == ("__debug__" : Str)) = false := by decide) (hd2 : (x2 == ("__debug__" : Str)) = false := by decide) :
    PS X (.Try body [.ExceptHandler (some (.Tuple [.Name x1 p1, .Name x2 p2] kk tpos)) (some n) (b₀ :: suite) pos'] [] [] pos) (fun D σ H => tb (wAs2 X.K (.ref C1) (.ref C2) i ts D) D σ H) := by
  refine ⟨fun pins s σ H D I h => ?_⟩
  have ok := I.ok
  have hfr : X.A.frames = some (X.env :: X.outer) := by rw [ok.frames, hs]
  have hloc : Loc X.env.scope n := .inl hln
  refine wpAny_Try_except ?_
  refine wpAny_mono ((hb (wAs2 X.K (.ref C1) (.ref C2) i ts D) (X.pn ++ pins) (fun e s₁ => wpAny (model X.prog X.w) X.A (noteFrame e X.env) (fun _ s₂ => wpAny (model X.prog X.w) X.A (setFlight e none) (fun _ s₃ =>
    wpAny (model X.prog X.w) X.A (handleBy e X.env [.ExceptHandler (some (.Tuple [.Name x1 p1, .Name x2 p2] kk tpos)) (some n) (b₀ :: suite) pos']) (SP X pins D) X.xe s₃) X.xe s₂) X.xe s₁) (fun u s' xx => ?_) PassesOwn.looking).run [] s σ H D (I.toTry _) h) (fun f s1 hsp => ?_) (fun e s1 he => he)
  · -- the catch
    obtain ⟨a, B, sI, pins', σ', H', cls, d, rfl, J', nb, up, sky, na, os, ag, hb1, hyes⟩ := xx
    have J : Inv X pins σ' H' sI := J'.ofTry ok
    have sky' : Sky B (X.env :: X.outer) a (Zc cls d) X.env.locals s'.heap := by rw [← hs]; exact sky
    show wpAny (model X.prog X.w) X.A (noteFrame (.ref a) X.env) _ _ _
    refine Sky.land Zc.steady hfr hf sky' fun h3 fl3 up3 => ?_
    have J3 : Inv X pins σ' H' { s' with heap := h3 } := J.landed nb fl3.1 (up.trans up3) os ag
    obtain ⟨oe3, vs3, he3, hz3, hd3⟩ := fl3.there
    have notFr : ∀ {h : Heap} {o : Obj} {vs : Array Value}, h.FunFrames B (X.env :: X.outer) → h.get? a = some o → o.data = .fields vs → a ∉ frs (X.env :: X.outer) := fun {h o vs} ff e dd hm => by
      obtain ⟨_, o', e', hnf⟩ := ff.mem hm
      rw [e] at e'; cases e'
      exact hnf _ dd
    have nfr := notFr fl3.2.2.1 he3 hd3
    have nL : a ≠ X.env.locals := fun z => nfr (List.mem_filterMap.mpr ⟨X.env, List.mem_cons_self, by rw [hf, z]⟩)
    have nF : a ∉ X.fs := fun hm => by
      obtain ⟨e, he, q⟩ := List.mem_filterMap.mp hm
      exact nfr (List.mem_filterMap.mpr ⟨e, List.mem_cons_of_mem _ he, q⟩)
    have S3 := J3.suite he3 hd3 na nL nF
    refine wpAny_handleBy_cons (codeAny_handlers_test ?_) (by intro q; cases q)
    -- the tuple of classes is made
    refine wpAny_Tuple_spliced ?_
    show wpAny _ _ (spliced ((false, eval (.Name x1 p1) X.env) :: backTo tpos (starEach [.Name x2 p2] X.env))) _ _ _
    refine Calls.spliced_cons (ld_glob (X := X.suite a ((a, oe3) :: (X.pn ++ pins))) S3 g1 m1 ?_ hd1)
    show wpAny _ _ (spliced ((false, _) :: backTo tpos (starEach [] X.env))) _ _ _
    refine Calls.spliced_cons (ld_glob (X := X.suite a ((a, oe3) :: (X.pn ++ pins))) S3 g2 m2 (Calls.spliced_nil ⟨by show 2 ≤ sizeLine; decide, ?_⟩) hd2)
    have kT : ∀ b o, h3.get? b = some o → (h3.push { cls := .type "tuple", data := .seq [Value.ref C1, Value.ref C2].toArray }).get? b = some o := fun b o e => Heap.get?_push_of_some _ e
    have flT := flying_keeps fl3 kT
    have JT : Inv X pins σ' H' { s' with heap := h3.push { cls := .type "tuple", data := .seq [Value.ref C1, Value.ref C2].toArray } } := J.landed nb flT.1 ((up.trans up3).trans (Heap.UpToSlots.of_keeps kT)) os ag
    have LT : PySem.W.Looks (model X.prog X.w) (h3.push { cls := .type "tuple", data := .seq [Value.ref C1, Value.ref C2].toArray }) (typeOf (.ref a)) cls := fun A Q E s k q => wpAny_typeOf_ref (k _ _ (kT _ _ he3)) (by rw [hz3.1]; exact q)
    have LM := PySem.W.exm_tup2 (M := model X.prog X.w) (tp := h3.objs.size) JT.kIn LT (Heap.get?_push_size _ rfl) hb1
    refine LM.here ?_
    refine codeAny_handlers_suite_as ?_
    refine HandSPX.lands_againZ (s := { s' with heap := h3.push { cls := .type "tuple", data := .seq [Value.ref C1, Value.ref C2].toArray } }) flT fun h4 fl4 up4 => ?_
    have J4 : Inv X pins σ' H' { s' with heap := h4 } := J.landed nb fl4.1 (((up.trans up3).trans (Heap.UpToSlots.of_keeps kT)).trans up4) os ag
    obtain ⟨oe4, vs4, he4, hz4, hd4⟩ := fl4.there
    have S4 := J4.suite he4 hd4 na nL nF
    refine store_ok (X := X.suite a ((a, oe4) :: (X.pn ++ pins))) (v := .ref a) S4 hN hi hloc rfl (fun s5 S5 => ?_) (.inr hln)
    refine wpAny_mono ((hsu a oe4 cls d (X.pn ++ pins) hz4 ⟨_, hd4⟩).run [] s5 _ H' _ S5 (hyes a na)) (fun f s6 hsp => ?_) (fun _ _ z => False.elim z)
    have end_ : ∀ {σ6 : L2.St} {H6 : Hp} {Q : Shared → Prop}, Inv (X.suite a ((a, oe4) :: (X.pn ++ pins))) [] σ6 H6 s6 → (∀ s7, Inv X pins (σ6.set i none) H6 s7 → Q s7) →
        wpAny (model X.prog X.w) X.A (do bindName X.env n .none; unbindBehindTheSuite X.env n pos') (fun _ s7 => Q s7) X.xe s6 := fun {σ6 H6 Q} S6 hq => gone_ok (S6.unsuite ok) hN hi hln hq
    cases f with
    | next =>
      obtain ⟨σ6, H6, S6, q6⟩ := hsp
      exact end_ S6 fun s7 J7 => ⟨_, _, J7, q6⟩
    | brk =>
      obtain ⟨σ6, H6, S6, q6⟩ := hsp
      exact end_ S6 fun s7 J7 => ⟨_, _, J7, q6⟩
    | cont =>
      obtain ⟨σ6, H6, S6, q6⟩ := hsp
      exact end_ S6 fun s7 J7 => ⟨_, _, J7, q6⟩
    | ret u =>
      obtain ⟨v6, σ6, H6, S6, r6, q6⟩ := hsp
      exact end_ S6 fun s7 J7 => ⟨_, _, _, J7, r6, q6⟩
  · cases f with
    | next =>
      obtain ⟨σ', H', J', q⟩ := hsp
      exact wpAny_execs_nil ⟨σ', H', J'.ofTry ok, q⟩
    | brk =>
      obtain ⟨σ', H', J', q⟩ := hsp
      exact ⟨σ', H', J'.ofTry ok, q⟩
    | cont =>
      obtain ⟨σ', H', J', q⟩ := hsp
      exact ⟨σ', H', J'.ofTry ok, q⟩
    | ret u =>
      obtain ⟨v, σ', H', J', r, q⟩ := hsp
      exact ⟨v, σ', H', J'.ofTry ok, r, q⟩
end
end Y
/-! Y33: questions (lambdas as callables), the def that is handed the caught exception, what a question answers. -/
namespace Y
open PySem PySem.Spec PyProof.Rows L2
/-- the fields that the laws tell of an error -/
def fieldOf (code : Str) (fds : List (Str × Dt)) : Option (List Dt) :=
  if inD (.str code) [.str "InvalidRow", .str "InvalidPiece", .str "InvalidOutside", .str "InvalidMember", .str "InvalidUnit"] then (fds.lookup ("at" : Str)).map fun x => [x]
  else if inD (.str code) [.str "DuplicateName", .str "UnknownName"] then (fds.lookup ("name" : Str)).map fun x => [x]
  else if code = "Double" then (match fds.lookup ("name" : Str), fds.lookup ("first" : Str), fds.lookup ("second" : Str) with | some x, some y, some z => some [x, y, z] | _, _, _ => none)
  else if code = "InvalidText" then (match fds.lookup ("line" : Str), fds.lookup ("why" : Str) with | some x, some y => some [x, y] | _, _ => none)
  else if code = "TooMany" then (fds.lookup ("most" : Str)).map fun x => [x]
  else if code = "UnknownPiece" then (fds.lookup ("key" : Str)).map fun x => [x]
  else if code = "UnknownPlace" then (fds.lookup ("spot" : Str)).map fun x => [x]
  else if code = "NotClosing" then some [] else (fds.lookup ("value" : Str)).map fun x => [x]
/-- an error that the laws catch: its code, its fields -/
structure ErrD (K : PySem.W.Frag) (IE MI C : Addr) (fds : List (Str × Dt)) (code : Str) (xs : List Dt) : Prop where
  ex : PySem.W.exmAny K (.ref C) [.ref IE, .ref MI] = some true
  xf : XfC K C
  no : ∀ n d, fds.lookup n = some d → PySem.W.findIn K (.ref C) n = some none
  cd : fds.lookup ("code" : Str) = some (.str code)
  fld : fieldOf code fds = some xs
  ne : code ≠ ""
section
variable (P : Program) (w : World) (K : PySem.W.Frag) (mg : Str → Option Value) (base : Heap) (IE MI : Addr) (k : Nat)
/-- calling f answers by Pok, or lets out an error by Pe -/
def AskOk (Fb G : Hp) (Z : List Addr) (f : Addr) (Pok : Dt → Prop) (Pe : Str → List Dt → Prop) : Prop := (∃ L, G f = some (FnL f L)) ∧ ∀ (A : Around) (outer : List Env) (s : Shared) (H : Hp) (Q : VK) (E : XK) (F : Hp), Room k A → Env0 P w K mg base A outer s H → Same Fb F → Same F H → Same G H → (∀ c ∈ Z, F c = none) →
  (∀ v d F' H', Same F F' → (∀ c, H c ≠ none → F c = none → F' c = none) → Same F' H' → Same H H' → Rp K F' v d → Pok d → Q v H') →
  (∀ C dd fs fds code xs F' H', Same F F' → (∀ c, H c ≠ none → F c = none → F' c = none) → Same F' H' → Same H H' → F' dd = some (.xd fs) → RpF K F' fs fds → ErrD K IE MI C fds code xs → Pe code xs → E (.ref C) (some dd) H') →
  codeAny (model P w) A (.call (.ref f) ⟨[], []⟩) (CR (CXX P w) outer P w H s Q E) s
end
theorem AskOk.mono {P : Program} {w : World} {K : PySem.W.Frag} {mg : Str → Option Value} {base : Heap} {IE MI : Addr} {k : Nat} {Fb F G : Hp} {Z : List Addr} {f : Addr} {Pok : Dt → Prop} {Pe : Str → List Dt → Prop} (a : AskOk P w K mg base IE MI k Fb G Z f Pok Pe) (h : Same Fb F) : AskOk P w K mg base IE MI k F G Z f Pok Pe :=
  ⟨a.1, fun A outer s H Q E F2 hr e0 h1 => a.2 A outer s H Q E F2 hr e0 (h.trans h1)⟩

/-! ### an attribute of the caught exception -/
def tXfA (K : PySem.W.Frag) (a : Addr) (cls : Value) (d : Option Addr) (f : Str) (te : TE) : TE := fun σ H Q => te σ H fun x H1 => x = .ref a ∧ ∃ (C dd : Addr) (fs : List (Str × V)) (v : V), cls = .ref C ∧ XfC K C ∧ PySem.W.findIn K (.ref C) f = some none ∧ d = some dd ∧ H1 dd = some (.xd fs) ∧ fs.lookup f = some v ∧ Q v H1
theorem pe_xfA {X : Cx} {a : Addr} {oe : Obj} {cls : Value} {d : Option Addr} {e : Expr} {te : TE} {pos : Pos} {n : Str} (hp : (a, oe) ∈ X.pn) (hz : Zc cls d oe) (hf : ∃ vs, oe.data = .fields vs) (he : PE X e te) (hb : attributeBase e n X.env (eval e X.env) = eval e X.env := by rfl) :
    PE X (.Attribute e n pos) (tXfA X.K a cls d n te) := by
  refine ⟨fun pins s σ H Q I h => ?_⟩
  refine attr_of hb (thn (he.run pins s σ H _ I h) fun u s1 hh => ?_)
  obtain ⟨x, H1, I1, rx, ex, C, dd, fs, v, ec, T, hno, ed, ea, l, q⟩ := hh
  subst ex
  obtain rfl : u = Value.ref a := rx
  subst ec
  subst ed
  obtain ⟨ha, _⟩ := I1.pin (a, oe) (List.mem_append_left _ hp)
  obtain ⟨vs, hd⟩ := hf
  have hx : ObjOk X.prog X.w H1 s1.heap dd (.xd fs) := I1.hok dd _ ea
  obtain ⟨mA, hns, hr⟩ := hx
  obtain ⟨od, ho, hl⟩ := lookIn_ns hns
  obtain ⟨u, hu, ru⟩ := RelO.some_of (v := v) (o := mA n) (by rw [← l]; exact hr n)
  have J : PySem.W.InstAt s1.heap a oe C (some od) := ⟨ha, hz.1, by unfold PySem.W.notCls; rw [hd] <;> rfl, by rw [hz.2]; exact ho⟩
  exact HandSPX.exc_get I1.kIn J T.ga T.gg T.exC (PySem.W.findObj_own T.hdC hno rfl (by rw [hl, hu])) (handed_of ru) ⟨v, H1, I1.tok _, ru, q⟩
section
variable {B : Bs} {es : List Sl}
theorem ev_xfA {i : Nat} {a C dd : Addr} {fs : List (Str × V)} {fds : List (Str × Dt)} {n : Str} {d0 : Dt} {P : Dt → Prop} (hi : es[i]? = some (.r (.ref a))) (T : XfC B.K C) (hno : ∀ n d, fds.lookup n = some d → PySem.W.findIn B.K (.ref C) n = some none) (hF : B.F0 dd = some (.xd fs)) (hf : RpF B.K B.F0 fs fds) (hl : fds.lookup n = some d0) (hp : P d0) :
    Ev B (tXfA B.K a (.ref C) (some dd) n (tVar i)) es P := fun σ F H S Q q => by
  obtain ⟨v, hv, rv⟩ := hf.look hl
  exact ⟨.ref a, S.raw hi, rfl, C, dd, fs, v, rfl, T, hno _ _ hl, rfl, S.sub _ _ (S.s0 _ _ hF), hv, q v d0 F H S.refl (rv.mono S.s0) hp⟩
end

/-! ### a def that is handed the caught exception -/
def FnE (P : Program) (w : World) (K : PySem.W.Frag) (mg : Str → Option Value) (base : Heap) (k : Nat) (f : Addr) (fd : FuncData) (ps : List Str) (sp : Addr → Addr → Addr → Sp) : Prop :=
  ∀ (A : Around) (outer : List Env) (s : Shared) (H : Hp) (args : Args) (us : List Value) (vs : List V) (Q : VK) (E : XK) (p : Addr × Obj) (C dd : Addr), L2H.RoomH k A → L2H.PinOk outer H s p → Zc (.ref C) (some dd) p.2 → (∃ vs, p.2.data = .fields vs) → Env0 P w K mg base A outer s H → BindsTo s fd args (ps.zip us) → Vals vs us → vs.length = ps.length → sp p.1 C dd vs H Q E →
    codeAny (model P w) A (.call (.ref f) args) (CR CX0 outer P w H s Q E) s
theorem fn_ofE {P : Program} {w : World} {K : PySem.W.Frag} {mg : Str → Option Value} {base : Heap} {k : Nat} {f : Addr} {x qual : Str} {st : Stmt} {fd : FuncData} {N ps : List Str} {sp : Addr → Addr → Addr → Sp} (G : Fun K x qual st f fd) (S : FnScope N ps (defScope st))
    (hbody : ∀ (cdv : Value) (A : Around) (outer : List Env) (s : Shared) (H : Hp) (vs : List V) (Q : VK) (E : XK) (p : Addr × Obj) (C dd : Addr), Zc (.ref C) (some dd) p.2 → (∃ vs, p.2.data = .fields vs) → L2H.RoomH k (A.deeper (envOfC qual (defScope st) s.heap.objs.size f cdv)) → sp p.1 C dd vs H Q E →
      ∃ t, PSs (L2H.cxH CX0 P w K mg base N qual (defScope st) f cdv A outer s H E p) (defBody st) t ∧ t { nx := fun _ H' => Q .non H', rt := Q } (L2.start N vs) H) :
    FnE P w K mg base (k + 1) f fd ps sp := by
  obtain ⟨oc, od, kV, doc, pm, an, cdv, ct, osl, rfl, lk, hcd⟩ := G.ex
  intro A outer s H args us vs Q E p C dd hr hpin hz hf e0 hb r hl hsp
  have KX : K.In s.heap := e0.mod.kin.keeps fun b o e => (e0.bs b o e).1
  have lim : s.heap.NoLimit := e0.mod.nolimit.keeps fun b o e => (e0.bs b o e).1
  have hkind : ∀ y ∈ ps.zip us, (defScope st).names.lookup y.1 = some .local ∨ ((defScope st).names.lookup y.1 = some .cell ∧ ((cellsFrom (s.heap.objs.size + 1) (defScope st).names []).lookup y.1).isSome = true) := fun ⟨n, v⟩ hy => by
    rcases S.par n (List.of_mem_zip hy).1 with q | q
    · exact .inl q
    · exact .inr ⟨q, PySem.W.cellsFrom_some _ _ _ (.inl q)⟩
  refine codeAny_call_function hr.depth (KX _ _ lk) rfl S.co S.gen rfl (PySem.W.codeRec_of KX hcd) (hb _ _ _ _ ?_)
  refine wpAny_newFunctionEnv_cells S.kind hkind fun env he s1 x => ?_
  subst he
  refine ⟨lim.keeps x.toInCall.keep, codeAny_func ?_⟩
  obtain ⟨t, ht, hq⟩ := hbody cdv A outer s H vs Q E p C dd hz hf (hr.deeper _) hsp
  have I : Inv (L2H.cxH CX0 P w K mg base N qual (defScope st) f cdv A outer s H E p) [] (L2.start N vs) H s1 := L2H.inv_startH S hpin e0 hl r x
  refine wpAny_mono (ht.run [] s1 (L2.start N vs) H _ I hq) (fun fl s' hs => ?_) fun e s' hs => hs
  have fin : ∀ {σ' : L2.St} {H' : Hp} {v : V} {u : Value}, Inv (L2H.cxH CX0 P w K mg base N qual (defScope st) f cdv A outer s H E p) [] σ' H' s' → L2.RelV v u → Q v H' → CE outer P w H s Q u s' :=
    fun {σ' H' v u} J rv q => ⟨v, H', J.os, J.bare, J.base, J.hok, rv, q⟩
  cases fl with
  | ret u =>
    obtain ⟨v, σ', H', J, rv, q⟩ := hs
    exact fin J rv q
  | next =>
    obtain ⟨σ', H', J, q⟩ := hs
    exact fin (v := V.non) (u := Value.none) J rfl q
  | brk =>
    obtain ⟨_, _, _, q⟩ := hs
    exact False.elim q
  | cont =>
    obtain ⟨_, _, _, q⟩ := hs
    exact False.elim q
/-- f(e), in an except suite -/
def tCallE (a : Addr) (cls : Value) (d : Option Addr) (sp : Addr → Addr → Addr → Sp) (t : TA) : TE := fun σ H Q => t σ H fun vs H1 => ∃ C dd, cls = .ref C ∧ d = some dd ∧ sp a C dd vs H1 Q fun _ _ _ => False
theorem pe_callE {X : Cx} {a : Addr} {oe : Obj} {cls : Value} {d : Option Addr} {k : Nat} {f : Addr} {fd : FuncData} {ps : List Str} {sp : Addr → Addr → Addr → Sp} {x : Str} {e : Expr} {es : List Expr} {t : TA} {p pos : Pos} (hp : (a, oe) ∈ X.pn) (hz : Zc cls d oe) (hf : ∃ vs, oe.data = .fields vs)
    (F : FnE X.prog X.w X.K X.mg X.base k f fd ps sp) (hr : L2H.RoomH k X.A) (hg : Gl X x) (hm : X.mg x = some (.ref f)) (hk : PySem.W.keepIn X.K (.ref f) = true) (hb : Binds X.K fd ps []) (hl : ∀ a C dd vs H Q E, sp a C dd vs H Q E → vs.length = ps.length)
    (ha : PA X (e :: es) t) (hdb : (x == ("__debug__" : Str)) = false := by decide) (he : starEach (e :: es) X.env = (false, eval e X.env) :: starEach es X.env := by rfl) (hpl : (backTo pos (starEach es X.env)).any (·.1) = false := by rfl) :
    PE X (.Call (.Name x p) (e :: es) [] pos) (tCallE a cls d sp t) := by
  refine ⟨fun pins s σ H Q I h => ?_⟩
  refine wpAny_Call_Name_kw (ld_glob I hg hm ?_ hdb)
  refine PySem.W.callWith_K (h₀ := X.base) I.ok.mod.kin hk (thn (ha.run pos pins s σ H _ I h) fun us s1 ⟨vs, H1, I1, r, q⟩ => ⟨I1.kIn, ?_⟩) he hpl
  show wpAny _ _ (call (.ref f) us) _ _ _
  obtain ⟨C, dd, rfl, rfl, q⟩ := q
  have hv := hl _ _ _ _ _ _ _ q
  have hlu : us.length = ps.length := by rw [← r.length]; exact hv
  have b := hb s1 us I1.kIn (by rw [List.append_nil]; exact hlu)
  rw [List.append_nil] at b
  have P1 := I1.pin (a, oe) (List.mem_append_left _ hp)
  have hpin : L2H.PinOk X.stack H1 s1 (a, oe) := ⟨P1.1, P1.2.1, fun hm => (List.mem_cons.mp (I1.stkSub a hm)).elim P1.2.2.1 P1.2.2.2.1, P1.2.2.2.2⟩
  refine wpAny_call (codeAny_mono (F X.A X.stack s1 H1 ⟨us, []⟩ us vs Q _ (a, oe) C dd hr hpin hz hf I1.env0 b r hv q) fun r' s' hq' => ?_)
  cases r' with
  | error e => exact (show False from hq').elim
  | ok fl =>
    cases fl with
    | ret u => exact I1.after hq'
    | next => exact False.elim hq'
    | brk => exact False.elim hq'
    | cont => exact False.elim hq'

/-! ### x(), x what is asked -/
def tAsk (P : Program) (w : World) (K : PySem.W.Frag) (mg : Str → Option Value) (base : Heap) (k : Nat) (W : WX) (i : Nat) : TE := fun σ H Q => ∃ f L, σ[i]? = some (some (.ref f)) ∧ H f = some (FnL f L) ∧
  ∀ (A : Around) (outer : List Env) (s : Shared), Room k A → Env0 P w K mg base A outer s H → codeAny (model P w) A (.call (.ref f) ⟨[], []⟩) (CR (CXX P w) outer P w H s Q fun cls d H' => W cls d σ H') s
theorem pe_ask {X : Cx} {k i : Nat} {x : Str} {p pos : Pos} {W : WX} (tk : Takes X W) (hr : Room k X.A) (hN : X.N[i]? = some x) (hv : Vis X.env.scope x) (hd : (x == ("__debug__" : Str)) = false := by decide) (hcd : (x == ("__classdict__" : Str)) = false := by decide) :
    PE X (.Call (.Name x p) [] [] pos) (tAsk X.prog X.w X.K X.mg X.base k W i) := by
  refine ⟨fun pins s σ H Q I h => ?_⟩
  obtain ⟨f, L, hs, hf, h⟩ := h
  refine wpAny_Call_Name_kw (thn ((pe_var (pos := p) hN hv hd hcd).run pins s σ H (fun v H1 => v = .ref f ∧ H1 = H) I ⟨.ref f, hs, rfl, rfl⟩) fun u s1 ⟨v, H1, I1, r1, q1⟩ => ?_)
  obtain ⟨ev, eH⟩ := q1
  subst ev
  rw [eH] at I1
  obtain rfl : u = Value.ref f := r1
  obtain ⟨⟨od, sl, pm, ctv, ho⟩, _, _⟩ := I1.hok f _ hf
  refine PySem.W.callWith_F0 (first := []) ⟨_, od, _, sl, ho⟩ ?_
  show wpAny _ _ (call (.ref f) []) _ _ _
  refine wpAny_call (codeAny_mono (h X.A X.stack s1 hr I1.env0) fun r' s' hq' => ?_)
  cases r' with
  | error e => exact tk e s' (XE.of_call I1 (fun _ _ _ z => z) hq')
  | ok fl =>
    cases fl with
    | ret u => exact I1.after hq'
    | next => exact False.elim hq'
    | brk => exact False.elim hq'
    | cont => exact False.elim hq'
end Y
/-! Y34: _law_try, _law_why, _law_whys: what is asked and what is told of it. -/
namespace Y
open PySem PySem.Spec PyProof.Rows L2
theorem _root_.L2H.RoomH.units {k : Nat} {A : Around} (r : L2H.RoomH k A) : A.units + 64 < cLine := by have := r.un; omega
/-- what was known stays out of what was not -/
def NW (H F F' : Hp) : Prop := ∀ c, H c ≠ none → F c = none → F' c = none
def tryD (Pok : Dt → Prop) (Pe : Str → List Dt → Prop) (d : Dt) : Prop := (∃ x, Pok x ∧ d = .tup [.str "", x]) ∨ ∃ code xs, Pe code xs ∧ code ≠ "" ∧ d = .tup [.str code, .tup xs]
def whyD (Pok : Dt → Prop) (Pe : Str → List Dt → Prop) (d : Dt) : Prop := ((∃ x, Pok x) ∧ d = .tup [.str "", .non]) ∨ ∃ code xs, Pe code xs ∧ code ≠ "" ∧ d = .tup [.str code, .tup xs]
section
variable (P : Program) (w : World) (K : PySem.W.Frag) (mg : Str → Option Value) (base : Heap) (IE MI : Addr) (k : Nat)
def spField : Addr → Addr → Addr → Sp := fun a C dd vs H Q _ => ∃ F fs fds code xs, vs = [.ref a] ∧ Same F H ∧ F dd = some (.xd fs) ∧ RpF K F fs fds ∧ ErrD K IE MI C fds code xs ∧
  ∀ v F' H', Same F F' → (∀ c, H c ≠ none → F c = none → F' c = none) → Same F' H' → Same H H' → Rp K F' v (.tup xs) → Q v H'
def spAsk (R : (Dt → Prop) → (Str → List Dt → Prop) → Dt → Prop) : Sp := fun vs H Q _ => ∃ f F G Z Pok Pe, vs = [.ref f] ∧ Same F H ∧ Same G H ∧ (∀ c ∈ Z, G c ≠ none ∧ F c = none) ∧ AskOk P w K mg base IE MI k F G Z f Pok Pe ∧
  ∀ v d F' H', Same F F' → (∀ c, H c ≠ none → F c = none → F' c = none) → Same F' H' → Same H H' → Rp K F' v d → R Pok Pe d → Q v H'
abbrev spTry : Sp := spAsk P w K mg base IE MI k tryD
abbrev spWhy : Sp := spAsk P w K mg base IE MI k whyD
/-- a list of questions, each with what it answers -/
def spWhys : Sp := fun vs H Q _ => ∃ a F G Z, ∃ as : List (Addr × (Dt → Prop) × (Str → List Dt → Prop)), vs = [.ref a] ∧ F a = some (.lst (as.map fun q => .ref q.1)) ∧ as.length < 100000 ∧ Same F H ∧ Same G H ∧ (∀ c ∈ Z, G c ≠ none ∧ F c = none) ∧ (∀ q ∈ as, AskOk P w K mg base IE MI k F G Z q.1 q.2.1 q.2.2) ∧
  ∀ v ds F' H', Same F F' → (∀ c, H c ≠ none → F c = none → F' c = none) → Same F' H' → Same H H' → Rp K F' v (.lst ds) → ds.length = as.length → (∀ (i : Nat) q d, as[i]? = some q → ds[i]? = some d → whyD q.2.1 q.2.2 d) → Q v H'
end
theorem start_rawF {K : PySem.W.Frag} {F H : Hp} {a : Addr} (N : List Str) (s : Same F H) : Stt ⟨K, F, H, none, []⟩ (.r (.ref a) :: List.replicate (N.length - 1) Sl.no) (L2.start N [.ref a]) F H := by
  have S := start_stt (K := K) (F := F) (H := H) (vs := [.non]) (ds := [.non]) (N := N) (bag := none) (T := []) s (.cons .non .nil) (fun _ z => nomatch z) (fun _ z => nomatch z) (fun _ z => nomatch z)
  exact S.set (i := 0) (e := .r (.ref a)) (o := some (.ref a)) rfl fun _ _ e => nomatch e
section
variable {P : Program} {w : World} {K : PySem.W.Frag} {mg : Str → Option Value} {base : Heap} {IE MI : Addr} {k : Nat} {x qual : Str} {st : Stmt} {f : Addr} {fd : FuncData} {N : List Str} {q : Str}
theorem fn_field (G : Fun K x qual st f fd) (S : FnScope N [q] (defScope st))
    (hb : ∀ (cdv : Value) (A : Around) (outer : List Env) (s : Shared) (H : Hp) (E : XK) (p : Addr × Obj) (C dd : Addr), Zc (.ref C) (some dd) p.2 → (∃ vs, p.2.data = .fields vs) → L2H.RoomH k (A.deeper (envOfC qual (defScope st) s.heap.objs.size f cdv)) →
      ∃ t, PSs (L2H.cxH CX0 P w K mg base N qual (defScope st) f cdv A outer s H E p) (defBody st) t ∧ ∀ F0 H0 fs fds code xs, F0 dd = some (.xd fs) → RpF K F0 fs fds → ErrD K IE MI C fds code xs →
        Sm ⟨K, F0, H0, none, []⟩ t (.r (.ref p.1) :: List.replicate (N.length - 1) Sl.no) { nx := fun _ => False, bk := fun _ => False, ct := fun _ => False, rt := fun _ d => d = .tup xs }) : FnE P w K mg base (k + 1) f fd [q] (spField K IE MI) := by
  refine fn_ofE G S fun cdv A outer s H vs Q E p C dd hz hf hr h => ?_
  obtain ⟨F, fs, fds, code, xs, rfl, hs, hF, hR, hD, hq⟩ := h
  obtain ⟨t, hd, hm⟩ := hb cdv A outer s H E p C dd hz hf hr
  refine ⟨t, hd, hm F H fs fds code xs hF hR hD _ F H _ (start_rawF N hs) (fun _ _ _ _ _ _ z => z.elim) (fun _ _ _ _ _ _ z => z.elim) (fun _ _ _ _ _ _ z => z.elim) (fun v d es' σ' F' H' S' s' rv e => ?_) (fun _ _ _ _ _ _ _ _ _ _ _ _ _ _ z => z.elim)⟩
  subst e
  exact hq v F' H' s' S'.ou S'.sub (fun c o e => S'.fr c o e off_nil) rv
theorem spField_len (a C dd : Addr) (vs : List V) (H : Hp) (Q : VK) (E : XK) (h : spField K IE MI a C dd vs H Q E) : vs.length = 1 := by
  obtain ⟨F, fs, fds, code, xs, rfl, _⟩ := h; rfl
theorem spAsk_len {R : (Dt → Prop) → (Str → List Dt → Prop) → Dt → Prop} (vs : List V) (H : Hp) (Q : VK) (E : XK) (h : spAsk P w K mg base IE MI k R vs H Q E) : vs.length = 1 := by
  obtain ⟨f, F, G, Z, Pok, Pe, rfl, _⟩ := h; rfl
theorem spWhys_len (vs : List V) (H : Hp) (Q : VK) (E : XK) (h : spWhys P w K mg base IE MI k vs H Q E) : vs.length = 1 := by
  obtain ⟨a, F, G, Z, as, rfl, _⟩ := h; rfl
/-- the reading of _law_try's body -/
theorem try_reads {H : Hp} {Q : VK} {vs : List V} {E : XK} {n0 n1 : Str} (h : spTry P w K mg base IE MI k vs H Q E) :
    (fun D σ H => (fun W => tRet (tTup (tCons (tC (.str "")) (tCons (tAsk P w K mg base k W 0) tNil)))) (wAs2 K (.ref IE) (.ref MI) 1 (fun a cls d => tRet (tTup (tCons (tXfA K a cls d "code" (tVar 1)) (tCons (tCallE a cls d (spField K IE MI) (tCons (tVar 1) tNil)) tNil)))) D) D σ H : TS) { nx := fun _ H' => Q .non H', rt := Q } (L2.start [n0, n1] vs) H := by
  obtain ⟨f, F, G, Z, Pok, Pe, rfl, hs, hG, hZ, ⟨⟨L, hL⟩, ask⟩, hq⟩ := h
  refine ⟨f, L, rfl, hG _ _ hL, fun A outer s hr e0 => ask A outer s H _ _ F hr e0 (Same.refl F) hs hG (fun c hc => (hZ c hc).2) (fun v d F' H' s1 nw s2 s3 r p => ?_) (fun C dd fs fds code xs F' H' s1 nw s2 s3 hdd hR hD hp => ?_)⟩
  · refine ⟨by show 2 ≤ sizeLine; decide, fun p0 hp0 => ?_⟩
    have hF' : F' p0 = none := same_none s2 hp0
    refine hq (.ref p0) (.tup [.str "", d]) (upd F' p0 (.tup [.str "", v])) _ (s1.trans (same_upd hF')) (fun c h1 h2 => ?_) (same_updF s2) (s3.trans (same_upd hp0)) (.tup (SqT.of upd_same) (.cons (.str _) (.cons (r.mono (same_upd hF')) .nil))) (.inl ⟨d, p, rfl⟩)
    rw [upd_ne (fun e => h1 (by cases e' : H c with | none => rfl | some o => have := s3 c o e'; rw [e, hp0] at this; cases this))]
    exact nw c h1 h2
  · refine ⟨hD.ex, fun a ha => ⟨.ref a, rfl, rfl, C, dd, fs, ?_⟩⟩
    obtain ⟨vc, hvc, rvc⟩ := hR.look hD.cd
    refine ⟨vc, rfl, hD.xf, hD.no _ _ hD.cd, rfl, s2 _ _ hdd, hvc, .ref a, rfl, C, dd, rfl, rfl, F', fs, fds, code, xs, rfl, s2, hdd, hR, hD, fun v F2 H2 t1 tn t2 t3 r => ?_⟩
    refine ⟨by show 2 ≤ sizeLine; decide, fun p0 hp0 => ?_⟩
    have hF2 : F2 p0 = none := same_none t2 hp0
    have hH' : ∀ c, H c ≠ none → H' c ≠ none := fun c h1 => by
      cases e' : H c with
      | none => exact absurd e' h1
      | some o => rw [s3 c o e']; simp
    refine hq (.ref p0) (.tup [.str code, .tup xs]) (upd F2 p0 (.tup [vc, v])) _ ((s1.trans t1).trans (same_upd hF2)) (fun c h1 h2 => ?_) (same_updF t2) ((s3.trans t3).trans (same_upd hp0)) (.tup (SqT.of upd_same) (.cons (rvc.mono (t1.trans (same_upd hF2))) (.cons (r.mono (same_upd hF2)) .nil))) (.inr ⟨code, xs, hp, hD.ne, rfl⟩)
    rw [upd_ne (fun e => hH' c h1 (by cases e' : H' c with | none => rfl | some o => have := t3 c o e'; rw [e, hp0] at this; cases this))]
    exact tn c (hH' c h1) (nw c h1 h2)
end
section
variable {P : Program} {w : World} {K : PySem.W.Frag} {mg : Str → Option Value} {base : Heap} {IE MI : Addr} {k : Nat} {F0 H0 G : Hp} {Z : List Addr} {es : List Sl}
/-- a question is asked: the slot holds its address -/
theorem ev_ask {R : (Dt → Prop) → (Str → List Dt → Prop) → Dt → Prop} {i : Nat} {f : Addr} {Pok : Dt → Prop} {Pe : Str → List Dt → Prop} {E : XK} {Pd : Dt → Prop} (hi : es[i]? = some (.d (.ali f))) (hG : Same G H0) (hZ : ∀ c ∈ Z, G c ≠ none ∧ F0 c = none) (ha : AskOk P w K mg base IE MI k F0 G Z f Pok Pe) (h : ∀ d, R Pok Pe d → Pd d) :
    Ev ⟨K, F0, H0, none, []⟩ (tCall (spAsk P w K mg base IE MI k R) [] E (tCons (tVar i) tNil)) es Pd := fun σ F H S Q q => by
  obtain ⟨v, h1, h2⟩ := S.dat hi
  cases h2
  have gH : Same G H := fun c o e => S.fr c o (hG c o e) off_nil
  refine ⟨_, h1, f, F, G, Z, Pok, Pe, rfl, S.sub, gH, fun c hc => ⟨(hZ c hc).1, S.ou c (by
    cases e : G c with
    | none => exact absurd e (hZ c hc).1
    | some o => show H0 c ≠ none; rw [hG c o e]; simp) (hZ c hc).2⟩, ha.mono S.s0, fun v d F' H' s1 nw s2 s3 r p => q v d F' H' (S.pure s1 s2 nw s3) r (h d p)⟩
theorem fn_why {x qual : Str} {st : Stmt} {f : Addr} {fd : FuncData} {N : List Str} {q : Str} {kk : Nat} (G : Fun K x qual st f fd) (S : FnScope N [q] (defScope st))
    (hb : ∀ (cdv : Value) (A : Around) (outer : List Env) (s : Shared) (H : Hp) (E : XK), Room kk (A.deeper (envOfC qual (defScope st) s.heap.objs.size f cdv)) →
      ∃ t, PSs (cxOf CX0 P w K mg base N qual (defScope st) f cdv A outer s H E).nox (defBody st) t ∧ ∀ F0 H0 G Z g Pok Pe, Same G H0 → (∀ c ∈ Z, G c ≠ none ∧ F0 c = none) → AskOk P w K mg base IE MI k F0 G Z g Pok Pe →
        Sm ⟨K, F0, H0, none, []⟩ t (env0 N [.ali g]) { nx := fun _ => False, bk := fun _ => False, ct := fun _ => False, rt := fun _ d => whyD Pok Pe d }) : FnOk P w K mg base CX0 (kk + 1) f fd [q] (spWhy P w K mg base IE MI k) := by
  refine G.ok S spAsk_len (fun cdv A outer s H vs Q E hr h => ?_)
  obtain ⟨g, F, G', Z, Pok, Pe, rfl, hs, hG, hZ, ha, hq⟩ := h
  obtain ⟨t, hd, hm⟩ := hb cdv A outer s H E hr
  refine ⟨t, hd, hm F H G' Z g Pok Pe hG hZ ha _ F H _ (start_stt (bag := none) (T := []) (vs := [.ref g]) (ds := [.ali g]) hs (.cons (.ali g) .nil) (fun _ z => nomatch z) (fun _ z => nomatch z) (fun _ z => nomatch z)) (fun _ _ _ _ _ _ z => z.elim) (fun _ _ _ _ _ _ z => z.elim) (fun _ _ _ _ _ _ z => z.elim) (fun v d es' σ' F' H' S' s' rv p => ?_) (fun _ _ _ _ _ _ _ _ _ _ _ _ _ _ z => z.elim)⟩
  exact hq v d F' H' s' S'.ou S'.sub (fun c o e => S'.fr c o e off_nil) rv p
theorem fn_whys {x qual : Str} {st : Stmt} {f : Addr} {fd : FuncData} {N : List Str} {q : Str} {kk : Nat} (G : Fun K x qual st f fd) (S : FnScope N [q] (defScope st))
    (hb : ∀ (cdv : Value) (A : Around) (outer : List Env) (s : Shared) (H : Hp) (E : XK), Room kk (A.deeper (envOfC qual (defScope st) s.heap.objs.size f cdv)) →
      ∃ t, PSs (cxOf CX0 P w K mg base N qual (defScope st) f cdv A outer s H E).nox (defBody st) t ∧ ∀ F0 H0 G Z, ∀ as : List (Addr × (Dt → Prop) × (Str → List Dt → Prop)), Same G H0 → (∀ c ∈ Z, G c ≠ none ∧ F0 c = none) → as.length < 100000 → (∀ q ∈ as, AskOk P w K mg base IE MI k F0 G Z q.1 q.2.1 q.2.2) →
        Sm ⟨K, F0, H0, none, []⟩ t (env0 N [.lst (as.map fun q => .ali q.1)]) { nx := fun _ => False, bk := fun _ => False, ct := fun _ => False, rt := fun _ d => ∃ ds, d = .lst ds ∧ ds.length = as.length ∧ ∀ (i : Nat) q d, as[i]? = some q → ds[i]? = some d → whyD q.2.1 q.2.2 d }) : FnOk P w K mg base CX0 (kk + 1) f fd [q] (spWhys P w K mg base IE MI k) := by
  refine G.ok S spWhys_len (fun cdv A outer s H vs Q E hr h => ?_)
  obtain ⟨a, F, G', Z, as, rfl, hFa, hl, hs, hG, hZ, ha, hq⟩ := h
  obtain ⟨t, hd, hm⟩ := hb cdv A outer s H E hr
  have r0 : ∀ l : List (Addr × (Dt → Prop) × (Str → List Dt → Prop)), RpAll K F (l.map fun q => .ref q.1) (l.map fun q => .ali q.1) := fun l => by
    induction l with
    | nil => exact .nil
    | cons q l ih => exact .cons (.ali _) ih
  refine ⟨t, hd, hm F H G' Z as hG hZ hl ha _ F H _ (start_stt (bag := none) (T := []) (vs := [.ref a]) (ds := [.lst (as.map fun q => .ali q.1)]) hs (.cons (.lst hFa (r0 as)) .nil) (fun _ z => nomatch z) (fun _ z => nomatch z) (fun _ z => nomatch z)) (fun _ _ _ _ _ _ z => z.elim) (fun _ _ _ _ _ _ z => z.elim) (fun _ _ _ _ _ _ z => z.elim) (fun v d es' σ' F' H' S' s' rv p => ?_) (fun _ _ _ _ _ _ _ _ _ _ _ _ _ _ z => z.elim)⟩
  obtain ⟨ds, rfl, hl2, hw⟩ := p
  exact hq v ds F' H' s' S'.ou S'.sub (fun c o e => S'.fr c o e off_nil) rv hl2 hw
end

/-! ### lambdas as questions -/
/-- a slot as a lambda sees it: data that are known and raw values -/
def seeS : Sl → Sl
  | .d x => .d x
  | .r v => .r v
  | _ => .any
theorem Stt.see {B : Bs} {es : List Sl} {σ : L2.St} {F H F2 H2 : Hp} (S : Stt B es σ F H) (h1 : Same F F2) (h2 : Same F2 H2) : Stt ⟨B.K, F2, H2, none, []⟩ (es.map seeS) σ F2 H2 where
  sub := h2
  s0 := Same.refl _
  ou := fun _ _ h => h
  fr := fun c o h _ => h
  bg := fun _ z => nomatch z
  tb := fun _ z => nomatch z
  tn := fun _ z => nomatch z
  len := by rw [List.length_map]; exact S.len
  ok := fun i e o h3 h4 => by
    rw [List.getElem?_map] at h3
    cases e1 : es[i]? with
    | none => rw [e1] at h3; cases h3
    | some e0 =>
      rw [e1] at h3
      have h3 : seeS e0 = e := Option.some.inj h3
      have q := S.ok i e0 o e1 h4
      subst h3
      cases e0 with
      | d x => obtain ⟨v, a, b⟩ := q; exact ⟨v, a, b.mono h1⟩
      | r v => exact q
      | _ => trivial
  ow := fun i a xs h => by
    rw [List.getElem?_map] at h
    cases e1 : es[i]? with
    | none => rw [e1] at h; cases h
    | some e0 =>
      rw [e1] at h
      have h : seeS e0 = .own a xs := Option.some.inj h
      cases e0 <;> cases h
  dis := fun i j a b xs ys _ h => by
    rw [List.getElem?_map] at h
    cases e1 : es[i]? with
    | none => rw [e1] at h; cases h
    | some e0 =>
      rw [e1] at h
      have h : seeS e0 = .own a xs := Option.some.inj h
      cases e0 <;> cases h
  obw := fun i a C dx ns xs bs h => by
    rw [List.getElem?_map] at h
    cases e1 : es[i]? with
    | none => rw [e1] at h; cases h
    | some e0 =>
      rw [e1] at h
      have h : seeS e0 = .ob a C dx ns xs bs := Option.some.inj h
      cases e0 <;> cases h
/-- what a lambda's words ask of the frame that makes it: N' its names as the frame numbers them -/
structure LamIn (N N' : List Str) (sc scope : Scope) : Prop where
  len : N'.length = N.length
  own : ∀ y ∈ scope.names, y.2 = .free → sc.names.lookup y.1 = some .cell
  vis : ∀ (i : Nat) y, N'[i]? = some y → Vis scope y → N[i]? = some y ∧ scope.names.lookup y = some .free
theorem clo_in {cells : List (Str × Addr)} {names : List (Str × NameKind)} (hfree : ∀ y ∈ names, y.2 = .free → ∃ c, cells.lookup y.1 = some c) : ∀ c ∈ (cloFrom cells names []).map (·.2), c ∈ cells.map (·.2) := fun c hc => by
  obtain ⟨⟨y, c'⟩, hm, rfl⟩ := List.mem_map.mp hc
  rcases cloFrom_mem hm with h | ⟨h1, h2⟩
  · cases h
  · obtain ⟨c1, hc1⟩ := hfree _ h1 rfl
    have : c' = c1 := by
      rw [h2, show cells.lookup y = some c1 from hc1]
      rfl
    subst this
    exact cl_mem hc1
/-- the words of a lambda in its frame: N' its names as the frame numbers them, tb its body's reading -/
structure LamLit (P : Program) (w : World) (K : PySem.W.Frag) (mg : Str → Option Value) (base : Heap) (k : Nat) (N N' : List Str) (sc : Scope) (qual : Str) (params : Arguments) (body : Expr) (scope : Scope) (dvb : Bool) (tb : XK → TE) : Prop where
  inn : LamIn N N' sc scope
  kind : scope.kind = .function
  co : scope.isCoroutine = false
  gen : scope.isGenerator = false
  cell : ∀ y ∈ scope.names, y.2 ≠ .cell
  b0 : dvb = false → ∀ cl c pm ctv, bindArgs ((⟨qual, params, body, scope, cl, c, none⟩ : LF).fd pm ctv) ⟨[], []⟩ = pure []
  b1 : dvb = true → ∃ x, scope.names.lookup x = some .local ∧ ∀ cl c t pm ctv v, ∃ k, bindArgs ((⟨qual, params, body, scope, cl, c, some t⟩ : LF).fd pm ctv) ⟨[], []⟩ = seqItems? (.ref t) >>= k ∧ k (some #[v]) = pure [(x, v)]
  run : ∀ (cl : List (Str × Addr)) (c : Addr) (dv : Option Addr) (f : Addr) (A : Around) (outer : List Env) (s : Shared) (H : Hp) (E : XK), Room k (A.deeper (envL ⟨qual, params, body, scope, cl, c, dv⟩ f s.heap.objs.size)) → PE (lamC P w K mg base N' ⟨qual, params, body, scope, cl, c, dv⟩ f A outer s H E) body (tb E)
theorem same_un {F H : Hp} {C : List Addr} (h : Same F H) (hF : ∀ c ∈ C, F c = none) : Same F (untrk H C) := fun c o e => by
  rw [untrk_out (fun z => by rw [hF c z] at e; cases e)]
  exact h c o e
theorem ask_of {P : Program} {w : World} {mg : Str → Option Value} {base : Heap} {IE MI : Addr} {k : Nat} {N N' : List Str} {sc : Scope} {qual : Str} {params : Arguments} {body : Expr} {scope : Scope} {dvb : Bool} {tb : XK → TE} {cells : List (Str × Addr)} {os : Addr → Obj} {B : Bs} {es : List Sl} {σ : L2.St} {F1 H1 : Hp}
    (LL : LamLit P w B.K mg base k N N' sc qual params body scope dvb tb) (S : Stt B es σ F1 H1) (inj : ∀ x y c, cells.lookup x = some c → cells.lookup y = some c → x = y) (has : ∀ y, sc.names.lookup y = some .cell → ∃ c, cells.lookup y = some c) (hlen : σ.length = N.length)
    (h0 : ∀ c ∈ cellsL cells sc, H1 c = none ∧ ∃ v, (os c).data = .cell v) (hv : ∀ (i : Nat) y c v, sc.names.lookup y = some .cell → cells.lookup y = some c → N[i]? = some y → σ[i]? = some (some v) → ∃ u, (os c).data = .cell (some u) ∧ RelV v u)
    {f c' : Addr} {dv : Option Addr} (hdv : dv.isSome = dvb) (hf : FnAtH H1 f ⟨qual, params, body, scope, cloFrom cells scope.names [], c', dv⟩) {Pok : Dt → Prop} {Pe : Str → List Dt → Prop}
    (hev : ∀ F H E, XOk ⟨B.K, F, H, none, []⟩ E (fun C fds => ∃ code xs, ErrD B.K IE MI C fds code xs ∧ Pe code xs) → Ev ⟨B.K, F, H, none, []⟩ (tb E) (es.map seeS) Pok) :
    AskOk P w B.K mg base IE MI (k + 1) F1 (trk H1 (cellsL cells sc) os) (cellsL cells sc) f Pok Pe := by
  have hfree : ∀ y ∈ scope.names, y.2 = .free → ∃ c, cells.lookup y.1 = some c := fun y hy e => has _ (LL.inn.own y hy e)
  have inC : ∀ c ∈ (cloFrom cells scope.names []).map (·.2), c ∈ cellsL cells sc := fun c hc => by
    obtain ⟨⟨y, c1⟩, hm, rfl⟩ := List.mem_map.mp hc
    rcases cloFrom_mem hm with h | ⟨h1, h2⟩
    · cases h
    · obtain ⟨c2, hc2⟩ := hfree _ h1 rfl
      have e : c1 = c2 := by
        rw [h2, show cells.lookup y = some c2 from hc2]
        rfl
      have ky := LL.inn.own _ h1 rfl
      refine List.mem_filterMap.mpr ⟨(y, .cell), PySem.mem_of_lookup ky, ?_⟩
      rw [e]; exact hc2
  have nC : ∀ {b o}, H1 b = some o → b ∉ cellsL cells sc := fun {b o} e z => by rw [(h0 b z).1] at e; cases e
  have W : LamW ⟨qual, params, body, scope, cloFrom cells scope.names [], c', dv⟩ := {
    kind := LL.kind
    co := LL.co
    gen := LL.gen
    cell := LL.cell
    b0 := fun e pm ctv => by
      have e : dv = none := e
      subst e
      exact LL.b0 hdv.symm _ _ pm ctv
    b1 := fun t e => by
      have e : dv = some t := e
      subst e
      obtain ⟨x, hx, hb⟩ := LL.b1 hdv.symm
      exact ⟨x, hx, fun pm ctv v => hb _ _ t pm ctv v⟩
    inj := fun x y c h1 h2 => inj x y c (NdefX.clo_cm hfree h1) (NdefX.clo_cm hfree h2)
    has := fun y hy e => by
      have hm := cloFrom_has (cells := cells) (acc := []) (show (y.1, NameKind.free) ∈ scope.names by rw [← e]; exact hy)
      obtain ⟨c, hc⟩ := mem_lookup hm
      exact ⟨c, hc⟩ }
  refine ⟨⟨_, by rw [trk_out (nC hf.1)]; exact hf.1⟩, fun A outer s H Q E F hr e0 hF1 hFH hG hZ hQ hE => ?_⟩
  have up : ∀ {b o}, H1 b = some o → H b = some o := fun {b o} e => hG b o (by rw [trk_out (nC e)]; exact e)
  have hcs : ∀ c ∈ cellsL cells sc, H c = some (CellX c (os c)) := fun c hc => hG c _ (trk_in hc)
  have hFc : ∀ c ∈ (cloFrom cells scope.names []).map (·.2), F c = none := fun c hc => hZ c (inC c hc)
  have sF : Same F (untrk H ((cloFrom cells scope.names []).map (·.2))) := same_un hFH hFc
  have S2 := S.see hF1 sF
  -- back: the cells are known again
  have back : ∀ {F' H'}, Same F F' → (∀ c, untrk H ((cloFrom cells scope.names []).map (·.2)) c ≠ none → F c = none → F' c = none) → Same F' H' → (∀ c o, untrk H ((cloFrom cells scope.names []).map (·.2)) c = some o → H' c = some o) → (∀ c ∈ (cloFrom cells scope.names []).map (·.2), H' c = none) →
      (∀ c, H c ≠ none → F c = none → F' c = none) ∧ Same F' (trk H' ((cloFrom cells scope.names []).map (·.2)) os) ∧ Same H (trk H' ((cloFrom cells scope.names []).map (·.2)) os) := fun {F' H'} g1 g2 g3 g4 nc => by
    have nF' : ∀ c ∈ (cloFrom cells scope.names []).map (·.2), F' c = none := fun c hc => same_none g3 (nc c hc)
    refine ⟨fun c h1 h2 => ?_, fun c o e => ?_, fun c o e => ?_⟩
    · by_cases hc : c ∈ (cloFrom cells scope.names []).map (·.2)
      · exact nF' c hc
      · exact g2 c (by rw [untrk_out hc]; exact h1) h2
    · have hc : c ∉ (cloFrom cells scope.names []).map (·.2) := fun z => by rw [nF' c z] at e; cases e
      rw [trk_out hc]; exact g3 c o e
    · by_cases hc : c ∈ (cloFrom cells scope.names []).map (·.2)
      · rw [trk_in hc, ← hcs c (inC c hc)]; exact e
      · rw [trk_out hc]; exact g4 c o (by rw [untrk_out hc]; exact e)
  refine lam_run (N := N') (σ := σ) (os := os) (tb := tb) W (fun A outer s H E hr => LL.run _ _ _ f A outer s H E hr) hr e0 ⟨up hf.1, up hf.2.1, fun t e => up (hf.2.2 t e)⟩ (fun c hc => ⟨hcs c (inC c hc), (h0 c (inC c hc)).2⟩) (fun i y v e1 e2 e3 => ?_) (by rw [hlen]; exact LL.inn.len.symm) ?_
  · obtain ⟨k1, k2⟩ := LL.inn.vis i y e1 e3
    have hy : (y, NameKind.free) ∈ scope.names := PySem.mem_of_lookup k2
    have kc := LL.inn.own _ hy rfl
    obtain ⟨c, hc⟩ := has y kc
    obtain ⟨u, hu1, hu2⟩ := hv i y c v kc hc k1 e2
    exact ⟨k2, c, u, NdefX.clo_has hfree hy hc, hu1, hu2⟩
  · refine hev F _ _ ?_ σ F _ S2 _ ?_
    · intro F' H' C dd fs fds s1 s2 s3 s4 hdd hR hp nc
      obtain ⟨code, xs, hD, hPe⟩ := hp
      obtain ⟨b1, b2, b3⟩ := back s1 s3 s2 (fun c o e => s4 c o e off_nil) nc
      exact hE C dd fs fds code xs F' _ s1 b1 b2 b3 hdd hR hD hPe
    · intro v d F' H' g r p nc
      obtain ⟨b1, b2, b3⟩ := back g.s1 g.nw g.s2 (fun c o e => g.kp c o off_nil e) nc
      exact hQ v d F' _ g.s1 b1 b2 b3 r p

/-! ### outcomes -/
abbrev Out := Option (Str × List Dt)
def whyO : Out → Dt
  | none => .tup [.str "", .non]
  | some (c, xs) => .tup [.str c, .tup xs]
def okP (o : Out) : Dt → Prop := fun _ => o = none
def errP (o : Out) : Str → List Dt → Prop := fun c xs => o = some (c, xs)
theorem whyD_out {o : Out} {d : Dt} (h : whyD (okP o) (errP o) d) : d = whyO o := by
  rcases h with ⟨⟨x, h1⟩, h2⟩ | ⟨c, xs, h1, _, h2⟩
  · have h1 : o = none := h1
    subst h1; exact h2
  · have h1 : o = some (c, xs) := h1
    subst h1; exact h2
def AskAll (R : Addr × LF → Out → Prop) : List (Addr × LF) → List Out → Prop
  | [], [] => True
  | p :: ps, o :: os => R p o ∧ AskAll R ps os
  | _, _ => False
theorem askAll_as {R : Addr × LF → Out → Prop} {M : Addr × (Dt → Prop) × (Str → List Dt → Prop) → Prop} (hR : ∀ p o, R p o → M (p.1, okP o, errP o)) : ∀ {ls : List (Addr × LF)} {os : List Out}, AskAll R ls os → ∃ as : List (Addr × (Dt → Prop) × (Str → List Dt → Prop)), (as.map fun q => (V.ref q.1)) = (ls.map fun p => V.ref p.1) ∧ as.length = os.length ∧ (∀ q ∈ as, M q) ∧
    ∀ ds : List Dt, ds.length = as.length → (∀ (i : Nat) q d, as[i]? = some q → ds[i]? = some d → whyD q.2.1 q.2.2 d) → ds = os.map whyO
  | [], [], _ => ⟨[], rfl, rfl, (fun _ z => nomatch z), fun ds h _ => List.length_eq_zero_iff.mp h⟩
  | p :: ps, o :: os, ⟨h1, h2⟩ => by
    obtain ⟨as, a1, a2, a3, a4⟩ := askAll_as hR h2
    refine ⟨(p.1, okP o, errP o) :: as, by simp only [List.map_cons, a1], by simp only [List.length_cons, a2], fun q hq => ?_, fun ds hl hw => ?_⟩
    · rcases List.mem_cons.mp hq with e | hq
      · rw [e]; exact hR p o h1
      · exact a3 q hq
    · cases ds with
      | nil => simp at hl
      | cons d ds =>
        have e1 := whyD_out (hw 0 _ d rfl rfl)
        have e2 := a4 ds (by simpa using hl) fun i q d' k1 k2 => hw (i + 1) q d' (by simpa using k1) (by simpa using k2)
        rw [e1, e2]; rfl
section
variable {P : Program} {w : World} {mg : Str → Option Value} {base : Heap} {IE MI : Addr} {k : Nat} {B : Bs} {es : List Sl}
theorem el_var {i : Nat} {a : Addr} {ls : List (Addr × LF)} {Pl : List (Addr × LF) → Prop} (hi : es[i]? = some (.fs a ls)) (hp : Pl ls) : EvL B (tVar i) es Pl := fun σ F H S Q q => by
  obtain ⟨o, h1, h2, h3, h4⟩ := S.slot hi
  subst h2
  exact ⟨.ref a, h1, q a ls F H S.refl h3 h4 hp⟩
/-- _law_whys(..): each question is answered -/
theorem ev_whys {cells : List (Str × Addr)} {N : List Str} {sc : Scope} {te : TE} {Pd : Dt → Prop} (h : EvL B te es fun ls => ∃ outs : List Out, outs.length < 100000 ∧
      (∀ σ F1 H1 os, Stt B es σ F1 H1 → (∀ x y c, cells.lookup x = some c → cells.lookup y = some c → x = y) → (∀ y, sc.names.lookup y = some .cell → ∃ c, cells.lookup y = some c) → σ.length = N.length → (∀ c ∈ cellsL cells sc, H1 c = none ∧ ∃ v, (os c).data = .cell v) →
        (∀ (i : Nat) y c v, sc.names.lookup y = some .cell → cells.lookup y = some c → N[i]? = some y → σ[i]? = some (some v) → ∃ u, (os c).data = .cell (some u) ∧ RelV v u) → (∀ p ∈ ls, FnAtH H1 p.1 p.2) →
        AskAll (fun p o => AskOk P w B.K mg base IE MI k F1 (trk H1 (cellsL cells sc) os) (cellsL cells sc) p.1 (okP o) (errP o)) ls outs) ∧ Pd (.lst (outs.map whyO))) :
    Ev B (tCallTr cells N sc (spWhys P w B.K mg base IE MI k) (tCons te tNil)) es Pd := fun σ F H S Q q =>
  h σ F H S _ fun a ls F1 H1 g1 hFa hls ⟨outs, hlo, hask, hp⟩ => by
    intro os inj has hlen h0 hv
    have S1 := S.go g1
    obtain ⟨as, a1, a2, a3, a4⟩ := askAll_as (M := fun q => AskOk P w B.K mg base IE MI k F1 (trk H1 (cellsL cells sc) os) (cellsL cells sc) q.1 q.2.1 q.2.2) (fun p o h => h) (hask σ F1 H1 os S1 inj has hlen h0 hv hls)
    have nC : ∀ {b o}, H1 b = some o → b ∉ cellsL cells sc := fun {b o} e z => by rw [(h0 b z).1] at e; cases e
    have F1C : ∀ c ∈ cellsL cells sc, F1 c = none := fun c hc => same_none S1.sub (h0 c hc).1
    have sG : Same F1 (trk H1 (cellsL cells sc) os) := fun c o e => by rw [trk_out (nC (S1.sub c o e))]; exact S1.sub c o e
    refine ⟨a, F1, trk H1 (cellsL cells sc) os, cellsL cells sc, as, rfl, by rw [a1]; exact hFa, by rw [a2]; exact hlo, sG, Same.refl _, fun c hc => ⟨by rw [trk_in hc]; simp, F1C c hc⟩, a3, fun v ds F' H' s1 nw s2 s3 r hl hw => ?_⟩
    have F'C : ∀ c ∈ cellsL cells sc, F' c = none := fun c hc => nw c (by rw [trk_in hc]; simp) (F1C c hc)
    have up : ∀ {b o}, H1 b = some o → untrk H' (cellsL cells sc) b = some o := fun {b o} e => by
      rw [untrk_out (nC e)]
      exact s3 b o (by rw [trk_out (nC e)]; exact e)
    have e := a4 ds hl hw
    subst e
    refine ⟨fun c hc => s3 c _ (trk_in hc), q v _ F' _ (g1.trans (S1.pure s1 (same_un s2 F'C) (fun c h1 h2 => nw c ?_ h2) fun c o e => up e)) r hp⟩
    cases e : H1 c with
    | none => exact absurd e h1
    | some o => rw [trk_out (nC e), e]; simp
end
end Y
/-! Y35: defs that make lambdas; looks at the texts by decide; the end with tables. -/
namespace Y
open PySem PySem.Spec PyProof.Rows L2
/-- a def whose code object stands at c -/
structure FunC (K : PySem.W.Frag) (x qual : Str) (st : Stmt) (f : Addr) (fd : FuncData) (c : Addr) : Prop where
  ex : ∃ (oc : Value) (od : Option Addr) (kV doc pm : Value) (an : Option Addr) (ct : Value) (osl : Array (Option Value)),
    fd = PySem.W.fnOf x qual (defArgs st) (defBody st) (defScope st) .none kV doc pm an (.ref c) ct ∧ K.lookup f = some ⟨oc, od, .func fd, osl⟩ ∧ PySem.W.codeIn K (.ref c) qual = true
  kp : PySem.W.keepIn K (.ref f) = true
section
variable {P : Program} {w : World} {K : PySem.W.Frag} {mg : Str → Option Value} {base : Heap}
theorem FunC.ok {x qual : Str} {st : Stmt} {f c : Addr} {fd : FuncData} {N ps : List Str} {k : Nat} {sp : Sp} (F : FunC K x qual st f fd c) (S : FnScope N ps (defScope st)) (len : ∀ vs H Q E, sp vs H Q E → vs.length = ps.length)
    (hbody : ∀ (A : Around) (outer : List Env) (s : Shared) (H : Hp) (vs : List V) (Q : VK) (E : XK), Room k (A.deeper (envOfC qual (defScope st) s.heap.objs.size f (.ref c))) → sp vs H Q E →
      ∃ t, PSs (cxOf CX0 P w K mg base N qual (defScope st) f (.ref c) A outer s H E).nox (defBody st) t ∧ t { nx := fun _ H' => Q .non H', rt := Q } (L2.start N vs) H) : FnOk P w K mg base CX0 (k + 1) f fd ps sp := by
  obtain ⟨oc, od, kV, doc, pm, an, ct, osl, rfl, lk, hcd⟩ := F.ex
  refine fn_of lk hcd S len fun A outer s H vs Q E hr hsp => ?_
  obtain ⟨t, h, q⟩ := hbody A outer s H vs Q E hr hsp
  exact ⟨t, h.nox, q⟩
theorem FunC.binds {x qual : Str} {st : Stmt} {f c : Addr} {fd : FuncData} {ps : List Str} (F : FunC K x qual st f fd c)
    (h : ∀ (kV doc pm : Value) (an : Option Addr) (cdv ct : Value) (us : List Value), us.length = ps.length → bindArgs (PySem.W.fnOf x qual (defArgs st) (defBody st) (defScope st) .none kV doc pm an cdv ct) ⟨us, []⟩ = pure (ps.zip us)) : Binds K fd ps [] := by
  obtain ⟨oc, od, kV, doc, pm, an, ct, osl, rfl, lk, hcd⟩ := F.ex
  exact .all (h kV doc pm an _ ct)
theorem funC_mk {x qual : Str} {st : Stmt} {f c : Addr} {oc : Value} {od an : Option Addr} {osl : Array (Option Value)} {kV doc pm ct : Value} (l : K.lookup f = some ⟨oc, od, .func (PySem.W.fnOf x qual (defArgs st) (defBody st) (defScope st) .none kV doc pm an (.ref c) ct), osl⟩)
    (c' : PySem.W.codeIn K (.ref c) qual = true) (k : PySem.W.keepIn K (.ref f) = true) : FunC K x qual st f (PySem.W.fnOf x qual (defArgs st) (defBody st) (defScope st) .none kV doc pm an (.ref c) ct) c := ⟨⟨oc, od, kV, doc, pm, an, ct, osl, rfl, l, c'⟩, k⟩
end
/-- all but the tables (and the drawing) stays -/
def spDT (K : PySem.W.Frag) (T : List (Addr × Str)) (Pre : List Dt → Prop) (Post : List Dt → Dt → Prop) : Sp := fun vs H Q _ => ∃ F ds, Same F H ∧ RpAll K F vs ds ∧ Pre ds ∧ LamX.Tabs T H ∧ (∀ p ∈ T, F p.1 = none) ∧
  ∀ v d F' H', Same F F' → (∀ c, H c ≠ none → F c = none → F' c = none) → Same F' H' → (∀ c o, (∀ p ∈ T, p.1 ≠ c) → H c = some o → H' c = some o) → LamX.Tabs T H' → Rp K F' v d → Post ds d → Q v H'
def spBT (K : PySem.W.Frag) (T : List (Addr × Str)) (Pre : List Dt → Prop) (Post : List Dt → Dt → Prop) : Sp := fun vs H Q _ => ∃ b ws F ds, vs = .ref b :: ws ∧ Same F H ∧ BagAt K F H b ∧ RpAll K F ws ds ∧ Pre ds ∧ LamX.Tabs T H ∧ (∀ p ∈ T, F p.1 = none) ∧
  ∀ v d F' H', Same F F' → (∀ c, H c ≠ none → F c = none → F' c = none) → Same F' H' → (∀ c o, c ≠ b → (∀ p ∈ T, p.1 ≠ c) → H c = some o → H' c = some o) → LamX.Tabs T H' → BagAt K F' H' b → Rp K F' v d → Post ds d → Q v H'
section
variable {B : Bs} {es : List Sl}
theorem Stt.bagT {σ : L2.St} {F H : Hp} (S : Stt B es σ F H) {b : Addr} (hb : B.bag = some b) : ∀ p ∈ B.T, p.1 ≠ b := fun p hp e => by
  obtain ⟨_, vs, _, k, _⟩ := S.bg b hb
  obtain ⟨ps, k2, _⟩ := S.tb p hp
  rw [e, k] at k2; cases k2
theorem Stt.goT {σ : L2.St} {F H F' H' : Hp} (S : Stt B es σ F H) (s1 : Same F F') (nw : ∀ c, H c ≠ none → F c = none → F' c = none) (s2 : Same F' H') (kp : ∀ c o, (∀ p ∈ B.T, p.1 ≠ c) → H c = some o → H' c = some o) (t : LamX.Tabs B.T H') : Go B F H F' H' :=
  ⟨s1, s2, nw, fun c o h e => kp c o h.2 e, fun b hb => by
    obtain ⟨h1, vs, xs, h2, h3, h4⟩ := S.bg b hb
    exact ⟨nw b (by rw [h2]; simp) h1, vs, xs, kp b _ (S.bagT hb) h2, h3.mono s1, h4⟩, t⟩
theorem ev_callT {Pre : List Dt → Prop} {Post : List Dt → Dt → Prop} {E : XK} {ta : TA} {P : Dt → Prop} (h : EvA B ta es fun ds => Pre ds ∧ ∀ d, Post ds d → P d) : Ev B (tCall (spDT B.K B.T Pre Post) [] E ta) es P := fun σ F H S Q q =>
  h σ F H S _ fun vs ds F1 H1 g1 r1 ⟨p1, p2⟩ => by
    rw [List.append_nil]
    have S1 := S.go g1
    exact ⟨F1, ds, g1.s2, r1, p1, S1.tb, S1.tn, fun v d F2 H2 s1 nw s2 kp t r2 p3 => q v d F2 H2 (g1.trans (S1.goT s1 nw s2 kp t)) r2 (p2 d p3)⟩
theorem ev_callBT {Pre : List Dt → Prop} {Post : List Dt → Dt → Prop} {E : XK} {ta : TA} {P : Dt → Prop} {i : Nat} {b : Addr} (hb : B.bag = some b) (hi : es[i]? = some (.r (.ref b))) (h : EvA B ta es fun ds => Pre ds ∧ ∀ d, Post ds d → P d) :
    Ev B (tCall (spBT B.K B.T Pre Post) [] E (tCons (tVar i) ta)) es P := fun σ F H S Q q => ⟨_, S.raw hi, h σ F H S _ fun vs ds F1 H1 g1 r1 ⟨p1, p2⟩ => by
    show spBT B.K B.T Pre Post ((V.ref b :: vs) ++ []) H1 Q E
    rw [List.append_nil]
    have S1 := S.go g1
    refine ⟨b, vs, F1, ds, rfl, g1.s2, g1.bg b hb, r1, p1, S1.tb, S1.tn, fun v d F2 H2 s1 nw s2 kp t hB r2 p3 => q v d F2 H2 (g1.trans ⟨s1, s2, nw, fun c o hc ho => kp c o (fun e => hc.1 (by rw [e]; exact hb)) hc.2 ho, fun b' hb' => ?_, t⟩) r2 (p2 d p3)⟩
    rw [hb] at hb'
    cases hb'
    exact hB⟩
end
section
variable {P : Program} {w : World} {K : PySem.W.Frag} {mg : Str → Option Value} {base : Heap} {x qual : Str} {st : Stmt} {f c : Addr} {fd : FuncData} {N ps : List Str} {k : Nat} {Pre : List Dt → Prop} {Post : List Dt → Dt → Prop} {T : List (Addr × Str)}
theorem fn_dataT (G : FunC K x qual st f fd c) (S : FnScope N ps (defScope st)) (hl : ∀ ds, Pre ds → ds.length = ps.length)
    (hb : ∀ (A : Around) (outer : List Env) (s : Shared) (H : Hp) (E : XK), Room k (A.deeper (envOfC qual (defScope st) s.heap.objs.size f (.ref c))) →
      ∃ t, PSs (cxOf CX0 P w K mg base N qual (defScope st) f (.ref c) A outer s H E).nox (defBody st) t ∧ ∀ F0 H0 ds, Pre ds → Sm ⟨K, F0, H0, none, T⟩ t (env0 N ds) { nx := fun _ => Post ds .non, bk := fun _ => False, ct := fun _ => False, rt := fun _ => Post ds }) :
    FnOk P w K mg base CX0 (k + 1) f fd ps (spDT K T Pre Post) := by
  refine G.ok S (fun vs H Q E h => ?_) (fun A outer s H vs Q E hr h => ?_)
  · obtain ⟨F, ds, _, r, hp, _⟩ := h
    rw [r.length]; exact hl ds hp
  · obtain ⟨F, ds, hs, r, hp, hT, hn, q⟩ := h
    obtain ⟨t, hd, hm⟩ := hb A outer s H E hr
    have off : ∀ c, (∀ p ∈ T, p.1 ≠ c) → (⟨K, F, H, none, T⟩ : Bs).off c := fun c h => ⟨(fun z => nomatch z), h⟩
    refine ⟨t, hd, hm F H ds hp _ F H _ (start_stt hs r (fun _ z => nomatch z) hT hn) (fun es' σ' F' H' S' s' p => ?_) (fun _ _ _ _ _ _ z => z.elim) (fun _ _ _ _ _ _ z => z.elim) (fun v d es' σ' F' H' S' s' rv p => ?_) (fun _ _ _ _ _ _ _ _ _ _ _ _ _ _ z => z.elim)⟩
    · exact q _ _ F' H' s' S'.ou S'.sub (fun c o h e => S'.fr c o e (off c h)) S'.tb .non p
    · exact q _ _ F' H' s' S'.ou S'.sub (fun c o h e => S'.fr c o e (off c h)) S'.tb rv p
theorem start_sttBT {F H : Hp} {vs : List V} {ds : List Dt} {b : Addr} (s : Same F H) (r : RpAll K F vs ds) (hb : BagAt K F H b) (hT : LamX.Tabs T H) (hn : ∀ p ∈ T, F p.1 = none) : Stt ⟨K, F, H, some b, T⟩ (env1 N b ds) (L2.start N (.ref b :: vs)) F H := by
  have S := start_stt (K := K) (F := F) (H := H) (vs := .non :: vs) (ds := .non :: ds) (N := N) (bag := some b) (T := T) s (.cons .non r) (fun b' e => by cases e; exact hb) hT hn
  exact S.set (i := 0) (e := .r (.ref b)) (o := some (.ref b)) rfl fun _ _ e => nomatch e
theorem fn_lawC {q : Str} {T : List (Addr × Str)} (G : FunC K x qual st f fd c) (S : FnScope N [q] (defScope st))
    (hb : ∀ (A : Around) (outer : List Env) (s : Shared) (H : Hp) (E : XK), Room k (A.deeper (envOfC qual (defScope st) s.heap.objs.size f (.ref c))) →
      ∃ t, PSs (cxOf CX0 P w K mg base N qual (defScope st) f (.ref c) A outer s H E).nox (defBody st) (tSeq (tAsg (tCall (spBag K) [] E0 (tCons (tVar 0) tNil)) (gName 1)) t) ∧ ∀ F0 H0 a b, Sm ⟨K, F0, H0, some b, T⟩ t (.r (.ref a) :: .r (.ref b) :: List.replicate (N.length - 2) Sl.no) { nx := fun _ => False, bk := fun _ => False, ct := fun _ => False, rt := fun _ d => d = .bl true }) (hN : 2 ≤ N.length) :
    FnOk P w K mg base CX0 (k + 1) f fd [q] (spLawT K T) := by
  refine G.ok S (fun vs H Q E h => ?_) (fun A outer s H vs Q E hr h => ?_)
  · obtain ⟨a, ns, rfl, _⟩ := h; rfl
  · obtain ⟨a, ns, rfl, hS, hT, _, q⟩ := h
    obtain ⟨t, hd, hm⟩ := hb A outer s H E hr
    refine ⟨_, hd, .ref a, rfl, a, ns, rfl, hS, fun b F H' hn s1 s2 hn0 hB => ?_⟩
    have S0 := start_raw (K := K) (H := H') (a := a) N
    have hF : ∀ p ∈ T, F p.1 = none := fun p hp => hn0 p.1 (by obtain ⟨ps, k, _⟩ := hT p hp; rw [k]; simp)
    have S1 : Stt ⟨K, F, H', some b, T⟩ (.r (.ref a) :: List.replicate (N.length - 1) Sl.no) (L2.start N [.ref a]) F H' :=
      ⟨s1, Same.refl F, fun _ _ h => h, fun c o h _ => h, fun c e => by cases e; exact hB, hT.ext s2, hF, S0.len, fun i e o h1 h2 => by
        have := S0.ok i e o h1 h2
        rcases List.mem_cons.mp (List.mem_of_getElem? h1) with h | h
        · rw [h] at this ⊢; exact this
        · rw [List.eq_of_mem_replicate h] at this ⊢; exact this, (fun i c xs h1 => by
        rcases List.mem_cons.mp (List.mem_of_getElem? h1) with h | h
        · cases h
        · cases List.eq_of_mem_replicate h), S0.dis, (fun i c C dx ns xs bs h1 => by
        rcases List.mem_cons.mp (List.mem_of_getElem? h1) with h | h
        · cases h
        · cases List.eq_of_mem_replicate h)⟩
    have S2 := S1.set (i := 1) (e := .r (.ref b)) (o := some (.ref b)) rfl fun _ _ e => nomatch e
    have e2 : (Sl.r (.ref a) :: List.replicate (N.length - 1) Sl.no).set 1 (.r (.ref b)) = .r (.ref a) :: .r (.ref b) :: List.replicate (N.length - 2) Sl.no := by
      obtain ⟨m, hm⟩ : ∃ m, N.length = m + 2 := ⟨N.length - 2, by omega⟩
      rw [hm]
      simp [List.replicate_succ]
    rw [e2] at S2
    exact hm F H' a b _ F H' _ S2 (fun _ _ _ _ _ _ z => z.elim) (fun _ _ _ _ _ _ z => z.elim) (fun _ _ _ _ _ _ z => z.elim) (fun v d es' σ' F' H2 S' s' rv e => by subst e; cases rv; exact q H2) (fun _ _ _ _ _ _ _ _ _ _ _ _ _ _ z => z.elim)
theorem fn_bagT (G : FunC K x qual st f fd c) (S : FnScope N ps (defScope st)) (hl : ∀ ds, Pre ds → ds.length + 1 = ps.length)
    (hb : ∀ (A : Around) (outer : List Env) (s : Shared) (H : Hp) (E : XK), Room k (A.deeper (envOfC qual (defScope st) s.heap.objs.size f (.ref c))) →
      ∃ t, PSs (cxOf CX0 P w K mg base N qual (defScope st) f (.ref c) A outer s H E).nox (defBody st) t ∧ ∀ F0 H0 b ds, Pre ds → Sm ⟨K, F0, H0, some b, T⟩ t (env1 N b ds) { nx := fun _ => Post ds .non, bk := fun _ => False, ct := fun _ => False, rt := fun _ => Post ds }) :
    FnOk P w K mg base CX0 (k + 1) f fd ps (spBT K T Pre Post) := by
  refine G.ok S (fun vs H Q E h => ?_) (fun A outer s H vs Q E hr h => ?_)
  · obtain ⟨b, ws, F, ds, rfl, _, _, r, hp, _⟩ := h
    rw [List.length_cons, r.length]; exact hl ds hp
  · obtain ⟨b, ws, F, ds, rfl, hs, hB, r, hp, hT, hn, q⟩ := h
    obtain ⟨t, hd, hm⟩ := hb A outer s H E hr
    have off : ∀ c, c ≠ b → (∀ p ∈ T, p.1 ≠ c) → (⟨K, F, H, some b, T⟩ : Bs).off c := fun c h h2 => ⟨fun e => h (Option.some.inj e).symm, h2⟩
    refine ⟨t, hd, hm F H b ds hp _ F H _ (start_sttBT hs r hB hT hn) (fun es' σ' F' H' S' s' p => ?_) (fun _ _ _ _ _ _ z => z.elim) (fun _ _ _ _ _ _ z => z.elim) (fun v d es' σ' F' H' S' s' rv p => ?_) (fun _ _ _ _ _ _ _ _ _ _ _ _ _ _ z => z.elim)⟩
    · exact q _ _ F' H' s' S'.ou S'.sub (fun c o hc h e => S'.fr c o e (off c hc h)) S'.tb (S'.bg b rfl) .non p
    · exact q _ _ F' H' s' S'.ou S'.sub (fun c o hc h e => S'.fr c o e (off c hc h)) S'.tb (S'.bg b rfl) rv p
end
theorem opt_map {α : Type} {o : Option α} {xs : List α} (h : (o.map fun x => [x]) = some xs) : ∃ x, o = some x ∧ [x] = xs := by
  cases o with
  | none => cases h
  | some x => cases h; exact ⟨x, rfl, rfl⟩
/-- an outcome that is asked of a lambda's body: what it answers, what it lets out -/
theorem xok_err {B : Bs} {E : XK} {PE PE' : Addr → List (Str × Dt) → Prop} (h : XOk B E PE) (hp : ∀ C fds, PE' C fds → PE C fds) : XOk B E PE' := fun F H C dd fs fds s1 s2 s3 s4 hd hR p => h F H C dd fs fds s1 s2 s3 s4 hd hR (hp C fds p)
theorem roomH_mark {j k : Nat} {A : Around} {e : Option Value} (r : Room j A) (h : k ≤ j) : L2H.RoomH k (A.mark e) := ⟨by have := r.dp; show A.depth + 3 * k + 5 < _; omega, by have := r.un; show A.units + 16 * k + 200 < _; omega⟩
/-! ### looks by decide -/
def lamFreeB (sc scope : Scope) : Bool := scope.names.all fun y => !decide (y.2 = .free) || decide (sc.names.lookup y.1 = some .cell)
theorem lamFree_by {sc scope : Scope} (h : lamFreeB sc scope = true) : ∀ y ∈ scope.names, y.2 = .free → sc.names.lookup y.1 = some .cell := fun y hy e => by
  have := List.all_eq_true.mp h y hy
  simp only [Bool.or_eq_true, Bool.not_eq_true', decide_eq_true_eq, decide_eq_false_iff_not] at this
  exact this.resolve_left fun z => z e
def lamVisB (N N' : List Str) (scope : Scope) : Bool := (List.range N'.length).all fun i => match N'[i]? with
  | none => true
  | some y => match scope.names.lookup y with
    | some .local => false
    | some .cell => false
    | some .free => decide (N[i]? = some y)
    | _ => true
theorem lamIn_by {N N' : List Str} {sc scope : Scope} (hl : N'.length = N.length) (h1 : lamFreeB sc scope = true) (h2 : lamVisB N N' scope = true) : LamIn N N' sc scope := ⟨hl, lamFree_by h1, fun i y hi hv => by
  have hlt : i < N'.length := (List.getElem?_eq_some_iff.mp hi).1
  have q := List.all_eq_true.mp h2 i (List.mem_range.mpr hlt)
  rw [hi] at q
  rcases hv with e | e | e
  · simp only [e] at q; cases q
  · simp only [e] at q; cases q
  · simp only [e] at q
    exact ⟨of_decide_eq_true q, e⟩⟩
def noCellB (scope : Scope) : Bool := scope.names.all fun y => !decide (y.2 = .cell)
theorem noCell_by {scope : Scope} (h : noCellB scope = true) : ∀ y ∈ scope.names, y.2 ≠ .cell := fun y hy e => by
  have := List.all_eq_true.mp h y hy
  simp [e] at this
theorem tabs_one {T : List (Addr × Str)} (nd : (T.map (·.1)).Nodup) {P : Addr} {q : Str} (h : (P, q) ∈ T) : ∀ p ∈ T, p.1 = P → p.2 = q := by
  induction T with
  | nil => cases h
  | cons a l ih =>
    intro p hp e
    simp only [List.map_cons, List.nodup_cons] at nd
    rcases List.mem_cons.mp h with h | h
    · rcases List.mem_cons.mp hp with hp | hp
      · rw [hp, ← h]
      · exact absurd (List.mem_map.mpr ⟨p, hp, by rw [e, ← h]⟩) nd.1
    · rcases List.mem_cons.mp hp with hp | hp
      · have hm : p.1 ∈ l.map (·.1) := List.mem_map.mpr ⟨(P, q), h, e.symm⟩
        rw [hp] at hm
        exact absurd hm nd.1
      · exact ih nd.2 h p hp e
/-! ### what raising defs are handed -/
theorem passF {P : Program} {w : World} {X : Cx} : Passes (CXX P w) X (fun _ _ _ => False) := fun _ _ _ _ _ _ _ ⟨_, _, _, _, _, _, _, _, _, _, _, _, z⟩ => z.elim
theorem xok_no {B : Bs} : XOk B (fun _ _ _ => False) fun _ _ => False := fun _ _ _ _ _ _ _ _ _ _ _ _ z => z
theorem takesL {P : Program} {w : World} {K : PySem.W.Frag} {mg : Str → Option Value} {base : Heap} {N : List Str} {L : LF} {f : Addr} {A : Around} {outer : List Env} {s : Shared} {H : Hp} {E : XK} : Takes (lamC P w K mg base N L f A outer s H E) (fun cls d _ H => E cls d H) := takes_of rfl rfl rfl rfl
theorem passL {P : Program} {w : World} {K : PySem.W.Frag} {mg : Str → Option Value} {base : Heap} {N : List Str} {L : LF} {f : Addr} {A : Around} {outer : List Env} {s : Shared} {H : Hp} {E : XK} : Passes (CXX P w) (lamC P w K mg base N L f A outer s H E) E := passes_call takesL fun _ _ _ _ h => h
/-- a, b = x, y, one of the names captured -/
theorem sm_parC {B : Bs} {es : List Sl} {p : Po} {i j : Nat} {ta : TA} (h : EvA B ta es fun ds => ∃ x y, ds = [x, y] ∧ p.nx ((es.set i (.d x)).set j (.d y))) : Sm B (tAsg (tTup ta) (gTup B.K 2 (gCons (gName i) (gCons (gName j) gNil)))) es p :=
  sm_asg (ev_tup (h.imp fun ds ⟨x, y, e, q⟩ => by
    subst e
    exact ⟨by simp only [List.length_cons, List.length_nil]; decide, tg_tup rfl (tgs_cons (tg_name (tgs_cons (tg_name (tgs_nil q)))))⟩))
/-! ### the end -/
theorem tab_code {K : PySem.W.Frag} {x : Str} {f c P : Addr} {oc : Value} {od : Option Addr} {fd : FuncData} {osl : Array (Option Value)} (a : PySem.W.nsIn K mainGlobals x = some (some (.ref f))) (l : K.lookup f = some ⟨oc, od, .func fd, osl⟩) (t : PySem.W.tabIn K x = some (c, P)) : fd.code = .ref c := by
  unfold PySem.W.tabIn at t
  rw [a] at t
  simp only [l] at t
  split at t
  · rename_i c' hc
    rw [hc]
    split at t
    · split at t
      · cases t; rfl
      · cases t
    · cases t
  · cases t
end Y
/-! Y37: raising defs with defaults; an own list in a captured name. -/
namespace Y
open PySem PySem.Spec PyProof.Rows L2
section
variable {P : Program} {w : World} {K : PySem.W.Frag} {mg : Str → Option Value} {base : Heap} {x qual : Str} {pa : Arguments} {bd : List Stmt} {sc : Scope} {dvs : List V} {kws : List (Str × V)} {f : Addr} {fd : FuncData} {N ps : List Str} {k : Nat} {Pre : List Dt → Prop} {Post : List Dt → Dt → Prop} {Err : List Dt → Addr → List (Str × Dt) → Prop}
theorem fn_raiseD (G : FunD K x qual pa bd sc dvs kws f fd) (S : FnScope N ps sc) (hl : ∀ ds, Pre ds → ds.length = ps.length)
    (hb : ∀ (cdv : Value) (A : Around) (outer : List Env) (s : Shared) (H : Hp) (E : XK), Room k (A.deeper (envOfC qual sc s.heap.objs.size f cdv)) →
      ∃ t, PSs (cxOf (CXX P w) P w K mg base N qual sc f cdv A outer s H E) bd t ∧ ∀ F0 H0 ds, Pre ds → XOk ⟨K, F0, H0, none, []⟩ E (Err ds) → Sm ⟨K, F0, H0, none, []⟩ t (env0 N ds) { nx := fun _ => Post ds .non, bk := fun _ => False, ct := fun _ => False, rt := fun _ => Post ds }) :
    FnOk P w K mg base (CXX P w) (k + 1) f fd ps (spR K Pre Post Err) := by
  refine G.ok S (fun vs H Q E h => ?_) (fun cdv A outer s H vs Q E hr h => ?_)
  · obtain ⟨F, ds, _, r, hp, _⟩ := h
    rw [r.length]; exact hl ds hp
  · obtain ⟨F, ds, hs, r, hp, q, qe⟩ := h
    obtain ⟨t, hd, hm⟩ := hb cdv A outer s H E hr
    refine ⟨t, hd, hm F H ds hp (fun F' H' C dd fs fds s1 s2 s3 s4 hdd rf pe => qe C dd fs fds F' H' s1 s3 s2 (fun c o e => s4 c o e off_nil) hdd rf pe) _ F H _ (start_stt hs r (fun _ z => nomatch z) (fun _ z => nomatch z) (fun _ z => nomatch z)) (fun es' σ' F' H' S' s' p => ?_) (fun _ _ _ _ _ _ z => z.elim) (fun _ _ _ _ _ _ z => z.elim) (fun v d es' σ' F' H' S' s' rv p => ?_) (fun _ _ _ _ _ _ _ _ _ _ _ _ _ _ z => z.elim)⟩
    · exact q _ _ F' H' s' S'.ou S'.sub (fun c o e => S'.fr c o e off_nil) .non p
    · exact q _ _ F' H' s' S'.ou S'.sub (fun c o e => S'.fr c o e off_nil) rv p
end
/-- a, b = [..], y, a captured: a its own list -/
theorem sm_parODC {B : Bs} {es : List Sl} {p : Po} {i j : Nat} {t1 t2 : TE} (h : EvO B t1 es fun xs => Ev B t2 es fun y => ∀ a, p.nx ((es.set i (.own a xs)).set j (.d y))) : Sm B (tAsg (tTup (tCons t1 (tCons t2 tNil))) (gTup B.K 2 (gCons (gName i) (gCons (gName j) gNil)))) es p := fun σ F H D S n _ _ _ _ =>
  h σ F H S _ fun a vs xs F1 H1 g1 a0 a1 a2 r1 p1 => p1 σ F1 H1 (S.go g1) _ fun v y F2 H2 g2 r2 p2 => ⟨by simp only [List.length_cons, List.length_nil]; decide, fun q hq => by
    have S3 := (S.go g1).go g2
    have ha2 : H2 a = some (.lst vs) := g2.kp a _ (S.newB a0) a2
    have hF2 : F2 a = none := g2.nw a (by rw [a2]; simp) a1
    have g3 := S3.alloc (o := .tup [.ref a, v]) hq
    have ha3 := g3.kp a _ (S.newB a0) ha2
    have hF3 := g3.nw a (by rw [ha2]; simp) hF2
    have S4 := (S3.go g3).setO (i := i) hF3 ha3 (r1.mono (g2.s1.trans g3.s1)) (S.new0 a0) (S.newB a0) fun k c zs hk => S.newS a0 k zs hk
    exact ⟨q, [.ref a, v], rfl, SqT.of upd_same, rfl, .ref a, [v], rfl, v, [], rfl, rfl, n _ _ _ _ (S4.setD (r2.mono g3.s1)) ((g1.s1.trans g2.s1).trans g3.s1) (p2 a)⟩⟩
end Y
/-! Y38: list.index on a list of texts that is data; a text in a list of texts. -/
namespace Y
open PySem L2
theorem inD_text {z : Str} : ∀ {ls : List Str}, inD (.str z) (ls.map Dt.str) = decide (z ∈ ls)
  | [] => rfl
  | a :: l => by
    have e : inD (.str z) ((a :: l).map Dt.str) = ((a == z) || inD (.str z) (l.map Dt.str)) := rfl
    rw [e, inD_text (ls := l)]
    by_cases h : a = z
    · subst h; simp
    · simp [h, Ne.symm h]
theorem flat_texts : ∀ ls : List Str, (ls.map V.str).all flatV = true
  | [] => rfl
  | a :: l => by rw [List.map_cons, List.all_cons, flat_texts l]; rfl
theorem ev_listIndex {B : Bs} {es : List Sl} {i : Nat} {ys : List Str} {te : TE} {P : Dt → Prop} (hi : es[i]? = some (.d (.lst (ys.map Dt.str)))) (h : Ev B te es fun d => ∃ (z : Str) (j : Nat), d = .str z ∧ ys[j]? = some z ∧ (∀ m, m < j → ys[m]? ≠ some z) ∧ P (.int (j : Int))) : Ev B (tBM B.K "list" (rIndex B.K) (tVar i) (tCons te tNil)) es P := fun σ F H S Q q => by
  obtain ⟨v, h1, h2⟩ := S.dat hi
  cases h2 with
  | lst hl hr =>
    have e := hr.texts
    subst e
    refine ⟨_, h1, .inl ⟨rfl, _, SqL.of (S.sub _ _ hl)⟩, h σ F H S _ fun v d F1 H1 g1 r1 ⟨z, j, e, k1, k2, p⟩ => ?_⟩
    subst e
    cases r1
    refine ⟨_, ys.map V.str, .str z, j, .str z, rfl, rfl, SqL.of ((S.go g1).sub _ _ (g1.s1 _ _ hl)), rfl, flat_texts ys, by rw [List.getElem?_map, k1]; rfl, beq_self_eq_true z, fun m z' hm e => ?_, q _ _ F1 H1 g1 (.int _) p⟩
    rw [List.getElem?_map] at e
    cases ey : ys[m]? with
    | none => rw [ey] at e; cases e
    | some y =>
      rw [ey] at e
      cases e
      have hne : y ≠ z := fun e => k2 m hm (by rw [ey, e])
      exact beq_eq_false_iff_ne.mpr hne
/-- a list of four keeps its four places -/
theorem set4 {R : Dt → Prop} {a b c d x : Dt} (ha : R a) (hb : R b) (hc : R c) (hd : R d) (hx : R x) {k : Nat} (hk : k < 4) : ∃ a' b' c' d', [a, b, c, d].set k x = [a', b', c', d'] ∧ R a' ∧ R b' ∧ R c' ∧ R d' := by
  rcases k with _ | _ | _ | _ | k
  · exact ⟨_, _, _, _, rfl, hx, hb, hc, hd⟩
  · exact ⟨_, _, _, _, rfl, ha, hx, hc, hd⟩
  · exact ⟨_, _, _, _, rfl, ha, hb, hx, hd⟩
  · exact ⟨_, _, _, _, rfl, ha, hb, hc, hx⟩
  · omega
end Y
namespace Law
open PySem L2 Y
def top (i : Nat) : Stmt := PySem.Challenge.pw_leastimage_k12_cells_apart_and_together.main.body.getD i (.Pass ⟨0, 0, 0, 0⟩)
abbrev s_InvalidName___init__ : Stmt := inClass (top 3) 0
theorem sc_InvalidName___init__ : FnScope ["self", "value"] ["self", "value"] (defScope s_InvalidName___init__) := ⟨rfl, rfl, rfl, by decide +kernel, rfl, by decide +kernel, by decide +kernel⟩
abbrev s_InvalidNumber___init__ : Stmt := inClass (top 4) 0
theorem sc_InvalidNumber___init__ : FnScope ["self", "value"] ["self", "value"] (defScope s_InvalidNumber___init__) := ⟨rfl, rfl, rfl, by decide +kernel, rfl, by decide +kernel, by decide +kernel⟩
abbrev s_is_number : Stmt := top 7
theorem sc_is_number : FnScope ["value", "least", "most"] ["value", "least", "most"] (defScope s_is_number) := ⟨rfl, rfl, rfl, by decide +kernel, rfl, by decide +kernel, by decide +kernel⟩
abbrev s_cell_of : Stmt := top 16
theorem sc_cell_of : FnScope ["word", "r", "s", "part", "value", "most"] ["word", "r", "s", "part"] (defScope s_cell_of) := ⟨rfl, rfl, rfl, by decide +kernel, rfl, by decide +kernel, by decide +kernel⟩
abbrev s_is_word : Stmt := top 8
theorem sc_is_word : FnScope ["value"] ["value"] (defScope s_is_word) := ⟨rfl, rfl, rfl, by decide +kernel, rfl, by decide +kernel, by decide +kernel⟩
abbrev s_parted : Stmt := top 17
theorem sc_parted : FnScope ["cell"] ["cell"] (defScope s_parted) := ⟨rfl, rfl, rfl, by decide +kernel, rfl, by decide +kernel, by decide +kernel⟩
abbrev s_with_part : Stmt := top 18
theorem sc_with_part : FnScope ["cell", "part"] ["cell", "part"] (defScope s_with_part) := ⟨rfl, rfl, rfl, by decide +kernel, rfl, by decide +kernel, by decide +kernel⟩
abbrev s__law_bag : Stmt := top 20
theorem sc__law_bag : FnScope ["_law_script", "_law_mixed", "_law_piled"] ["_law_script"] (defScope s__law_bag) := ⟨rfl, rfl, rfl, by decide +kernel, rfl, by decide +kernel, by decide +kernel⟩
abbrev s__law_draw : Stmt := top 21
theorem sc__law_draw : FnScope ["_law_bag_here", "_law_sides", "_law_piled", "_law_digit", "_law_seed"] ["_law_bag_here", "_law_sides"] (defScope s__law_draw) := ⟨rfl, rfl, rfl, by decide +kernel, rfl, by decide +kernel, by decide +kernel⟩
abbrev s__law_of : Stmt := top 22
theorem sc__law_of : FnScope ["_law_bag_here", "_law_things"] ["_law_bag_here", "_law_things"] (defScope s__law_of) := ⟨rfl, rfl, rfl, by decide +kernel, rfl, by decide +kernel, by decide +kernel⟩
abbrev s__law_same : Stmt := top 23
theorem sc__law_same : FnScope ["_law_found", "_law_due", "_law_a", "_law_b"] ["_law_found", "_law_due"] (defScope s__law_same) := ⟨rfl, rfl, rfl, by decide +kernel, rfl, by decide +kernel, by decide +kernel⟩
abbrev s__law_number : Stmt := top 29
theorem sc__law_number : FnScope ["_law_bag_here"] ["_law_bag_here"] (defScope s__law_number) := ⟨rfl, rfl, rfl, by decide +kernel, rfl, by decide +kernel, by decide +kernel⟩
abbrev s__law_codes : Stmt := top 31
theorem sc__law_codes : FnScope ["_law_found"] [] (defScope s__law_codes) := ⟨rfl, rfl, rfl, by decide +kernel, rfl, by decide +kernel, by decide +kernel⟩
abbrev s__law_fours : Stmt := top 32
theorem sc__law_fours : FnScope ["_law_number_y", "_law_items", "_law_size"] ["_law_number_y"] (defScope s__law_fours) := ⟨rfl, rfl, rfl, by decide +kernel, rfl, by decide +kernel, by decide +kernel⟩
abbrev s__law_field : Stmt := top 24
theorem sc__law_field : FnScope ["_law_e"] ["_law_e"] (defScope s__law_field) := ⟨rfl, rfl, rfl, by decide +kernel, rfl, by decide +kernel, by decide +kernel⟩
abbrev s__law_try : Stmt := top 25
theorem sc__law_try : FnScope ["_law_ask", "_law_e"] ["_law_ask"] (defScope s__law_try) := ⟨rfl, rfl, rfl, by decide +kernel, rfl, by decide +kernel, by decide +kernel⟩
abbrev s__law_why : Stmt := top 26
theorem sc__law_why : FnScope ["_law_ask", "_law_found"] ["_law_ask"] (defScope s__law_why) := ⟨rfl, rfl, rfl, by decide +kernel, rfl, by decide +kernel, by decide +kernel⟩
abbrev s__law_whys : Stmt := top 27
theorem sc__law_whys : FnScope ["_law_asks", "_law_ask"] ["_law_asks"] (defScope s__law_whys) := ⟨rfl, rfl, rfl, by decide +kernel, rfl, by decide +kernel, by decide +kernel⟩
abbrev s__law_odd : Stmt := top 28
theorem sc__law_odd : FnScope ["_law_bag_here", "_law_more"] ["_law_bag_here", "_law_more"] (defScope s__law_odd) := ⟨rfl, rfl, rfl, by decide +kernel, rfl, by decide +kernel, by decide +kernel⟩
abbrev s__law_within : Stmt := top 30
theorem sc__law_within : FnScope ["_law_thing", "_law_low_y", "_law_high_y"] ["_law_thing", "_law_low_y", "_law_high_y"] (defScope s__law_within) := ⟨rfl, rfl, rfl, by decide +kernel, rfl, by decide +kernel, by decide +kernel⟩
abbrev s__law_cell_due : Stmt := top 33
theorem sc__law_cell_due : FnScope ["_law_values", "_law_spot", "_law_most_y"] ["_law_values"] (defScope s__law_cell_due) := ⟨rfl, rfl, rfl, by decide +kernel, rfl, by decide +kernel, by decide +kernel⟩
abbrev s__law_wrong_so : Stmt := top 34
theorem sc__law_wrong_so : FnScope ["_law_bag_here", "_law_own", "_law_a", "_law_b", "_law_c", "_law_values", "_law_spot", "_law_due", "_law_asks", "_law_bad"] ["_law_bag_here", "_law_own", "_law_a", "_law_b", "_law_c"] (defScope s__law_wrong_so) := ⟨rfl, rfl, rfl, by decide +kernel, rfl, by decide +kernel, by decide +kernel⟩
abbrev s__law_codes_so : Stmt := top 35
theorem sc__law_codes_so : FnScope ["_law_codes_here", "_law_asks", "_law_due"] ["_law_codes_here"] (defScope s__law_codes_so) := ⟨rfl, rfl, rfl, by decide +kernel, rfl, by decide +kernel, by decide +kernel⟩
abbrev s_law : Stmt := top 36
theorem sc_law : FnScope ["_law_script", "_law_bag_here", "_law_codes_here", "_law_turn", "_law_own", "_law_a", "_law_b", "_law_c", "_law_due", "_law_found", "_law_few", "_law_number_y", "_law_late", "_law_apart", "_law_put"] ["_law_script"] (defScope s_law) := ⟨rfl, rfl, rfl, by decide +kernel, rfl, by decide +kernel, by decide +kernel⟩
local macro_rules | `(tactic| walk_at "yv") => `(tactic| ((with_reducible show Ev _ (tVar _) _ _); refine ev_var rfl ?_))
local macro_rules | `(tactic| walk_at "ys") => `(tactic| with_reducible first
  | refine sm_seq ?_ | refine sm_ret ?_ | refine sm_if ?_ | refine sm_set ?_ | refine sm_next ?_ | refine sm_par ?_ | refine sm_drop ?_ | refine sm_brk ?_ | refine sm_cont ?_)
local macro_rules | `(tactic| walk_at "ye") => `(tactic| with_reducible first
  | refine ev_op ?_ | refine ev_and ?_ | refine ev_or ?_ | refine ev_not ?_ | refine ev_if ?_ | refine ev_chain ?_ | refine ev_neg ?_ | refine ev_isInt ?_ | refine ev_isBool ?_ | refine ev_isStr ?_ | refine ev_isList ?_ | refine ev_isTuple ?_ | refine ev_isLT ?_ | refine ev_isDict ?_
  | refine ev_int ?_ | refine ev_str ?_ | refine ev_bl ?_ | refine ev_non ?_ | refine ev_call ?_ | refine ev_cb ?_ | refine ev_lst ?_ | refine ev_tup ?_ | refine ev_join ?_
  | refine ea_nil ?_ | refine ea_cons ?_
  | refine et_B ?_ | refine et_test ?_ | refine et_not ?_ | refine et_and ?_ | refine et_or ?_ | refine et_yes ?_
  | refine o_plusI ?_ | refine o_i0 ?_ | refine o_b0 ?_ | refine o_isN ?_ | refine o_notN ?_
  | refine bl_ex ?_ | refine int_ex ?_ | refine str_ex ?_ | refine lst_ex ?_ | refine tup_ex ?_)
local macro_rules | `(tactic| walk_at "yo") => `(tactic| first
  | ((with_reducible show Ev _ (tOp (rIx _) (tVar _) _) _ _); refine ev_ixOwn rfl ?_)
  | ((with_reducible show Ev _ (tCB _ (tCons (tVar _) tNil)) _ _); refine ev_lenOwn rfl ?_)
  | ((with_reducible show Sm _ (tAsg _ (gSub (tVar _) _ _)) _ _); refine sm_setItem rfl ?_)
  | ((with_reducible show Ev _ (tCall (spB _ _ _) _ _ _) _ _); refine ev_callB rfl rfl ?_))
local macro_rules | `(tactic| walk_at "yc") => `(tactic| first
  | ((with_reducible show CMul _ _); first | exact Or.inr ⟨by decide, by decide⟩ | exact Or.inl ⟨by decide, by decide⟩ | exact Or.inr ⟨by omega, by omega⟩ | exact Or.inl ⟨by omega, by omega⟩)
  | ((with_reducible show CDiv _ _); exact ⟨by first | decide | omega, by first | decide | omega⟩)
  | ((with_reducible show CPow _ _); exact ⟨by decide, by decide, by first | decide | omega⟩)
  | ((show (0 : Int) < _); first | decide | omega))
local macro_rules | `(tactic| walk_at "yd") => `(tactic| first
  | ((with_reducible show plainD _ = true ∧ _); refine ⟨by first | rfl | assumption, ?_⟩)
  | ((with_reducible show (_ = true → _) ∧ (_ = false → _)); first | refine way_t rfl ?_ | refine way_f rfl ?_ | refine way_t (by decide +kernel) ?_ | refine way_f (by decide +kernel) ?_)
  | ((with_reducible show Cal _ _ _ _ _); first | (with_reducible refine c_int ?_) | (with_reducible refine c_abs ?_) | (refine c_len rfl ?_) | (refine c_len (if_pos (by assumption)) ?_))
  | ((with_reducible show Op2 _ (rEqA _) _ _ _ _); refine o_eqA rfl ?_)
  | ((with_reducible show Op2 _ (rNeA _) _ _ _ _); refine o_neA rfl ?_)
  | ((with_reducible show Op2 _ (rInA _) _ (Dt.str _) (Dt.lst _) _); refine o_inAL rfl rfl ?_)
  | ((with_reducible show Op2 _ (rInA _) _ (Dt.str _) (Dt.tup _) _); refine o_inAT rfl rfl ?_)
  | ((with_reducible show Op2 _ (rI _ _) _ _ _ _); refine o_i (by walk_at "yc") ?_)
  | ((with_reducible show Op2 _ (rIx _) _ (Dt.tup _) _ _); refine o_ixAT (atI_toNat (by decide) rfl) ?_)
  | ((with_reducible show Op2 _ (rIx _) _ (Dt.lst _) _ _); refine o_ixAL (atI_toNat (by decide) rfl) ?_)
  | ((with_reducible show ∃ x, atI _ _ = some x ∧ _); refine ⟨_, rfl, ?_⟩)
  | ((with_reducible show ∃ x, ixN _ _ = some x ∧ _); refine ⟨_, rfl, ?_⟩)
  | ((with_reducible show List.length _ ≤ 100000 ∧ _); refine ⟨by (try simp only [List.length_cons, List.length_nil]); first | decide | omega, ?_⟩))
local macro_rules | `(tactic| walk_at "y") => `(tactic| first | walk_at "yo" | walk_at "ye" | walk_at "yv" | walk_at "ys" | walk_at "yd")
local macro_rules | `(tactic| walk_at "yx") => `(tactic| first | walk_at "yo" | walk_at "ye" | walk_at "yv" | walk_at "yd")
def gk_cell_of_0_r_s_part_word {α : Type} : List α → List α → List α → List α
  | [f0, f1, f2], [], [w0, w1, w2, w3] => [w3, w0, w1, w2]
  | _, _, _ => []
def gk_cell_of_0_part_s_r_word {α : Type} : List α → List α → List α → List α
  | [f0, f1, f2], [], [w0, w1, w2, w3] => [w3, w2, w1, w0]
  | _, _, _ => []
def gk_parted_0_cell {α : Type} : List α → List α → List α
  | [], [w0] => [w0]
  | _, _ => []
def gk_cell_of_1_part {α : Type} : List α → List α → List α → List α
  | [f0, f1, f2], [u0], [w0] => [u0, f0, f1, w0]
  | _, _, _ => []
def gk_cell_of_1_s {α : Type} : List α → List α → List α → List α
  | [f0, f1, f2], [u0], [w0] => [u0, f0, w0, f2]
  | _, _, _ => []
def gk_with_part_0_part_cell {α : Type} : List α → List α → List α
  | [], [w0, w1] => [w1, w0]
  | _, _ => []
structure Tx (K : PySem.W.Frag) (mg : Str → Option Value) (w : World) where
  a_ImageError : Addr
  m_ImageError : mg "ImageError" = some (.ref a_ImageError)
  a_Missing : Addr
  m_Missing : mg "Missing" = some (.ref a_Missing)
  a_InvalidName : Addr
  m_InvalidName : mg "InvalidName" = some (.ref a_InvalidName)
  oe_InvalidName : OexC K a_InvalidName
  xf_InvalidName : XfC K a_InvalidName
  ex_InvalidName : PySem.W.exmAny K (.ref a_InvalidName) [.ref a_ImageError, .ref a_Missing] = some true
  no_InvalidName_code : PySem.W.findIn K (.ref a_InvalidName) "code" = some none
  no_InvalidName_value : PySem.W.findIn K (.ref a_InvalidName) "value" = some none
  a_InvalidNumber : Addr
  m_InvalidNumber : mg "InvalidNumber" = some (.ref a_InvalidNumber)
  oe_InvalidNumber : OexC K a_InvalidNumber
  xf_InvalidNumber : XfC K a_InvalidNumber
  ex_InvalidNumber : PySem.W.exmAny K (.ref a_InvalidNumber) [.ref a_ImageError, .ref a_Missing] = some true
  no_InvalidNumber_code : PySem.W.findIn K (.ref a_InvalidNumber) "code" = some none
  no_InvalidNumber_value : PySem.W.findIn K (.ref a_InvalidNumber) "value" = some none
  a_InvalidName___init__ : Addr
  d_InvalidName___init__ : FuncData
  i_InvalidName : PySem.W.findIn K (.ref a_InvalidName) "__init__" = some (some (.ref a_InvalidName___init__))
  ty_InvalidName : PySem.W.typeIn K (.ref a_InvalidName___init__) = some (.type "function")
  F_InvalidName___init__ : Fun K "__init__" "InvalidName.__init__" s_InvalidName___init__ a_InvalidName___init__ d_InvalidName___init__
  k_InvalidName___init__ : PySem.W.keepIn K (.ref a_InvalidName___init__) = true
  b_InvalidName___init__ : Binds K d_InvalidName___init__ ["self", "value"] []
  a_InvalidNumber___init__ : Addr
  d_InvalidNumber___init__ : FuncData
  i_InvalidNumber : PySem.W.findIn K (.ref a_InvalidNumber) "__init__" = some (some (.ref a_InvalidNumber___init__))
  ty_InvalidNumber : PySem.W.typeIn K (.ref a_InvalidNumber___init__) = some (.type "function")
  F_InvalidNumber___init__ : Fun K "__init__" "InvalidNumber.__init__" s_InvalidNumber___init__ a_InvalidNumber___init__ d_InvalidNumber___init__
  k_InvalidNumber___init__ : PySem.W.keepIn K (.ref a_InvalidNumber___init__) = true
  b_InvalidNumber___init__ : Binds K d_InvalidNumber___init__ ["self", "value"] []
  a_is_number : Addr
  d_is_number : FuncData
  F_is_number : Fun K "is_number" "is_number" s_is_number a_is_number d_is_number
  m_is_number : mg "is_number" = some (.ref a_is_number)
  k_is_number : PySem.W.keepIn K (.ref a_is_number) = true
  b_is_number : Binds K d_is_number ["value", "least", "most"] []
  a_cell_of : Addr
  d_cell_of : FuncData
  F_cell_of : FunD K "cell_of" "cell_of" (defArgs s_cell_of) (defBody s_cell_of) (defScope s_cell_of) [((.int 0) : V), ((.int 0) : V), ((.int 0) : V)] [] a_cell_of d_cell_of
  m_cell_of : mg "cell_of" = some (.ref a_cell_of)
  k_cell_of : PySem.W.keepIn K (.ref a_cell_of) = true
  a_is_word : Addr
  d_is_word : FuncData
  F_is_word : Fun K "is_word" "is_word" s_is_word a_is_word d_is_word
  m_is_word : mg "is_word" = some (.ref a_is_word)
  k_is_word : PySem.W.keepIn K (.ref a_is_word) = true
  b_is_word : Binds K d_is_word ["value"] []
  a_parted : Addr
  d_parted : FuncData
  F_parted : Fun K "parted" "parted" s_parted a_parted d_parted
  m_parted : mg "parted" = some (.ref a_parted)
  k_parted : PySem.W.keepIn K (.ref a_parted) = true
  b_parted : Binds K d_parted ["cell"] []
  a_with_part : Addr
  d_with_part : FuncData
  F_with_part : Fun K "with_part" "with_part" s_with_part a_with_part d_with_part
  m_with_part : mg "with_part" = some (.ref a_with_part)
  k_with_part : PySem.W.keepIn K (.ref a_with_part) = true
  b_with_part : Binds K d_with_part ["cell", "part"] []
  a__law_bag : Addr
  d__law_bag : FuncData
  F__law_bag : Fun K "_law_bag" "_law_bag" s__law_bag a__law_bag d__law_bag
  m__law_bag : mg "_law_bag" = some (.ref a__law_bag)
  k__law_bag : PySem.W.keepIn K (.ref a__law_bag) = true
  b__law_bag : Binds K d__law_bag ["_law_script"] []
  a__law_draw : Addr
  d__law_draw : FuncData
  F__law_draw : Fun K "_law_draw" "_law_draw" s__law_draw a__law_draw d__law_draw
  m__law_draw : mg "_law_draw" = some (.ref a__law_draw)
  k__law_draw : PySem.W.keepIn K (.ref a__law_draw) = true
  b__law_draw : Binds K d__law_draw ["_law_bag_here", "_law_sides"] []
  a__law_of : Addr
  d__law_of : FuncData
  F__law_of : Fun K "_law_of" "_law_of" s__law_of a__law_of d__law_of
  m__law_of : mg "_law_of" = some (.ref a__law_of)
  k__law_of : PySem.W.keepIn K (.ref a__law_of) = true
  b__law_of : Binds K d__law_of ["_law_bag_here", "_law_things"] []
  a__law_same : Addr
  d__law_same : FuncData
  F__law_same : Fun K "_law_same" "_law_same" s__law_same a__law_same d__law_same
  m__law_same : mg "_law_same" = some (.ref a__law_same)
  k__law_same : PySem.W.keepIn K (.ref a__law_same) = true
  b__law_same : Binds K d__law_same ["_law_found", "_law_due"] []
  a__law_number : Addr
  d__law_number : FuncData
  F__law_number : Fun K "_law_number" "_law_number" s__law_number a__law_number d__law_number
  m__law_number : mg "_law_number" = some (.ref a__law_number)
  k__law_number : PySem.W.keepIn K (.ref a__law_number) = true
  b__law_number : Binds K d__law_number ["_law_bag_here"] []
  a__law_codes : Addr
  d__law_codes : FuncData
  F__law_codes : Fun K "_law_codes" "_law_codes" s__law_codes a__law_codes d__law_codes
  m__law_codes : mg "_law_codes" = some (.ref a__law_codes)
  k__law_codes : PySem.W.keepIn K (.ref a__law_codes) = true
  b__law_codes : Binds K d__law_codes [] []
  a__law_fours : Addr
  d__law_fours : FuncData
  F__law_fours : Fun K "_law_fours" "_law_fours" s__law_fours a__law_fours d__law_fours
  m__law_fours : mg "_law_fours" = some (.ref a__law_fours)
  k__law_fours : PySem.W.keepIn K (.ref a__law_fours) = true
  b__law_fours : Binds K d__law_fours ["_law_number_y"] []
  a__law_field : Addr
  d__law_field : FuncData
  F__law_field : Fun K "_law_field" "_law_field" s__law_field a__law_field d__law_field
  m__law_field : mg "_law_field" = some (.ref a__law_field)
  k__law_field : PySem.W.keepIn K (.ref a__law_field) = true
  b__law_field : Binds K d__law_field ["_law_e"] []
  a__law_try : Addr
  d__law_try : FuncData
  F__law_try : Fun K "_law_try" "_law_try" s__law_try a__law_try d__law_try
  m__law_try : mg "_law_try" = some (.ref a__law_try)
  k__law_try : PySem.W.keepIn K (.ref a__law_try) = true
  b__law_try : Binds K d__law_try ["_law_ask"] []
  a__law_why : Addr
  d__law_why : FuncData
  F__law_why : Fun K "_law_why" "_law_why" s__law_why a__law_why d__law_why
  m__law_why : mg "_law_why" = some (.ref a__law_why)
  k__law_why : PySem.W.keepIn K (.ref a__law_why) = true
  b__law_why : Binds K d__law_why ["_law_ask"] []
  a__law_whys : Addr
  d__law_whys : FuncData
  F__law_whys : Fun K "_law_whys" "_law_whys" s__law_whys a__law_whys d__law_whys
  m__law_whys : mg "_law_whys" = some (.ref a__law_whys)
  k__law_whys : PySem.W.keepIn K (.ref a__law_whys) = true
  b__law_whys : Binds K d__law_whys ["_law_asks"] []
  a__law_odd : Addr
  d__law_odd : FuncData
  F__law_odd : Fun K "_law_odd" "_law_odd" s__law_odd a__law_odd d__law_odd
  m__law_odd : mg "_law_odd" = some (.ref a__law_odd)
  k__law_odd : PySem.W.keepIn K (.ref a__law_odd) = true
  b__law_odd : Binds K d__law_odd ["_law_bag_here", "_law_more"] []
  a__law_within : Addr
  d__law_within : FuncData
  F__law_within : Fun K "_law_within" "_law_within" s__law_within a__law_within d__law_within
  m__law_within : mg "_law_within" = some (.ref a__law_within)
  k__law_within : PySem.W.keepIn K (.ref a__law_within) = true
  b__law_within : Binds K d__law_within ["_law_thing", "_law_low_y", "_law_high_y"] []
  a__law_cell_due : Addr
  d__law_cell_due : FuncData
  F__law_cell_due : Fun K "_law_cell_due" "_law_cell_due" s__law_cell_due a__law_cell_due d__law_cell_due
  m__law_cell_due : mg "_law_cell_due" = some (.ref a__law_cell_due)
  k__law_cell_due : PySem.W.keepIn K (.ref a__law_cell_due) = true
  b__law_cell_due : Binds K d__law_cell_due ["_law_values"] []
  a__law_wrong_so : Addr
  d__law_wrong_so : FuncData
  cc__law_wrong_so : Addr
  tp__law_wrong_so : Addr
  F__law_wrong_so : FunC K "_law_wrong_so" "_law_wrong_so" s__law_wrong_so a__law_wrong_so d__law_wrong_so cc__law_wrong_so
  m__law_wrong_so : mg "_law_wrong_so" = some (.ref a__law_wrong_so)
  k__law_wrong_so : PySem.W.keepIn K (.ref a__law_wrong_so) = true
  b__law_wrong_so : Binds K d__law_wrong_so ["_law_bag_here", "_law_own", "_law_a", "_law_b", "_law_c"] []
  a__law_codes_so : Addr
  d__law_codes_so : FuncData
  cc__law_codes_so : Addr
  tp__law_codes_so : Addr
  F__law_codes_so : FunC K "_law_codes_so" "_law_codes_so" s__law_codes_so a__law_codes_so d__law_codes_so cc__law_codes_so
  m__law_codes_so : mg "_law_codes_so" = some (.ref a__law_codes_so)
  k__law_codes_so : PySem.W.keepIn K (.ref a__law_codes_so) = true
  b__law_codes_so : Binds K d__law_codes_so ["_law_codes_here"] []
  a_law : Addr
  d_law : FuncData
  F_law : Fun K "law" "law" s_law a_law d_law
  m_law : mg "law" = some (.ref a_law)
  k_law : PySem.W.keepIn K (.ref a_law) = true
  b_law : Binds K d_law ["_law_script"] []
  e_cell_of_4 : List Value
  v_cell_of_4 : Vals [] e_cell_of_4
  b_cell_of_4 : Binds K d_cell_of ["word", "r", "s", "part"] e_cell_of_4
  e_cell_of_1 : List Value
  v_cell_of_1 : Vals [(.int 0), (.int 0), (.int 0)] e_cell_of_1
  b_cell_of_1 : Binds K d_cell_of ["word", "r", "s", "part"] e_cell_of_1
  e_cell_of_2 : List Value
  v_cell_of_2 : Vals [(.int 0), (.int 0)] e_cell_of_2
  b_cell_of_2 : Binds K d_cell_of ["word", "r", "s", "part"] e_cell_of_2
  fu_cell_of_0_r_s_part_word : List Value
  kb_cell_of_0_r_s_part_word : KBn K d_cell_of ["word", "r", "s", "part"] 0 ["r", "s", "part", "word"] (fun us ws => gk_cell_of_0_r_s_part_word fu_cell_of_0_r_s_part_word us ws) (fun vs zs => gk_cell_of_0_r_s_part_word [(.int 0), (.int 0), (.int 0)] vs zs)
  fu_cell_of_0_part_s_r_word : List Value
  kb_cell_of_0_part_s_r_word : KBn K d_cell_of ["word", "r", "s", "part"] 0 ["part", "s", "r", "word"] (fun us ws => gk_cell_of_0_part_s_r_word fu_cell_of_0_part_s_r_word us ws) (fun vs zs => gk_cell_of_0_part_s_r_word [(.int 0), (.int 0), (.int 0)] vs zs)
  kb_parted_0_cell : KBn K d_parted ["cell"] 0 ["cell"] (gk_parted_0_cell (α := Value)) (gk_parted_0_cell (α := V))
  fu_cell_of_1_part : List Value
  kb_cell_of_1_part : KBn K d_cell_of ["word", "r", "s", "part"] 1 ["part"] (fun us ws => gk_cell_of_1_part fu_cell_of_1_part us ws) (fun vs zs => gk_cell_of_1_part [(.int 0), (.int 0), (.int 0)] vs zs)
  fu_cell_of_1_s : List Value
  kb_cell_of_1_s : KBn K d_cell_of ["word", "r", "s", "part"] 1 ["s"] (fun us ws => gk_cell_of_1_s fu_cell_of_1_s us ws) (fun vs zs => gk_cell_of_1_s [(.int 0), (.int 0), (.int 0)] vs zs)
  kb_with_part_0_part_cell : KBn K d_with_part ["cell", "part"] 0 ["part", "cell"] (gk_with_part_0_part_cell (α := Value)) (gk_with_part_0_part_cell (α := V))
  a_CODES : Addr
  m_CODES : mg "CODES" = some (.ref a_CODES)
  kd_CODES : KD K (.ref a_CODES) (.tup [(.str "fault"), (.str "halt"), (.str "high"), (.str "low"), (.str "add"), (.str "take"), (.str "load"), (.str "store"), (.str "jump"), (.str "ifzero"), (.str "call"), (.str "near"), (.str "jumpby"), (.str "callby"), (.str "back"), (.str "out")])
  kt_CODES : KTup K a_CODES
  u_MOST_REGISTER : Value
  m_MOST_REGISTER : mg "MOST_REGISTER" = some u_MOST_REGISTER
  r_MOST_REGISTER : RelV (.int 3) u_MOST_REGISTER
  u_MOST_PART : Value
  m_MOST_PART : mg "MOST_PART" = some u_MOST_PART
  r_MOST_PART : RelV (.int 255) u_MOST_PART
  u_S_UNIT : Value
  m_S_UNIT : mg "S_UNIT" = some u_S_UNIT
  r_S_UNIT : RelV (.int 256) u_S_UNIT
  u_CODE_UNIT : Value
  m_CODE_UNIT : mg "CODE_UNIT" = some u_CODE_UNIT
  r_CODE_UNIT : RelV (.int 4096) u_CODE_UNIT
  u_R_UNIT : Value
  m_R_UNIT : mg "R_UNIT" = some u_R_UNIT
  r_R_UNIT : RelV (.int 1024) u_R_UNIT
  u_MOST_WORD : Value
  m_MOST_WORD : mg "MOST_WORD" = some u_MOST_WORD
  r_MOST_WORD : RelV (.int 65535) u_MOST_WORD
  n_isinstance : mg "isinstance" = none
  n_int : mg "int" = none
  n_bool : mg "bool" = none
  n_str : mg "str" = none
  n_list : mg "list" = none
  n_len : mg "len" = none
  n_abs : mg "abs" = none
  n_tuple : mg "tuple" = none
  n_all : mg "all" = none
  n_zip : mg "zip" = none
  n_range : mg "range" = none
  nd : ([tp__law_wrong_so, tp__law_codes_so] : List Addr).Nodup
abbrev Tx.tabs {K : PySem.W.Frag} {mg : Str → Option Value} {w : World} (T : Tx K mg w) : List (Addr × Str) := [(T.tp__law_wrong_so, (("_law_wrong_so" : Str) ++ ".<locals>.") ++ "<lambda>"), (T.tp__law_codes_so, (("_law_codes_so" : Str) ++ ".<locals>.") ++ "<lambda>")]
abbrev Tx.cs {K : PySem.W.Frag} {mg : Str → Option Value} {w : World} (T : Tx K mg w) : List (Addr × Addr) := [(T.cc__law_wrong_so, T.tp__law_wrong_so), (T.cc__law_codes_so, T.tp__law_codes_so)]
theorem Tx.in__law_wrong_so {K : PySem.W.Frag} {mg : Str → Option Value} {w : World} (T : Tx K mg w) : (T.cc__law_wrong_so, T.tp__law_wrong_so) ∈ T.cs := List.mem_cons_self
theorem Tx.tm__law_wrong_so {K : PySem.W.Frag} {mg : Str → Option Value} {w : World} (T : Tx K mg w) : (T.tp__law_wrong_so, (("_law_wrong_so" : Str) ++ ".<locals>.") ++ "<lambda>") ∈ T.tabs := List.mem_cons_self
theorem Tx.hu__law_wrong_so {K : PySem.W.Frag} {mg : Str → Option Value} {w : World} (T : Tx K mg w) : ∀ p ∈ T.tabs, p.1 = T.tp__law_wrong_so → p.2 = (("_law_wrong_so" : Str) ++ ".<locals>.") ++ "<lambda>" := tabs_one (T := T.tabs) T.nd T.tm__law_wrong_so
theorem Tx.in__law_codes_so {K : PySem.W.Frag} {mg : Str → Option Value} {w : World} (T : Tx K mg w) : (T.cc__law_codes_so, T.tp__law_codes_so) ∈ T.cs := (List.mem_cons_of_mem _ List.mem_cons_self)
theorem Tx.tm__law_codes_so {K : PySem.W.Frag} {mg : Str → Option Value} {w : World} (T : Tx K mg w) : (T.tp__law_codes_so, (("_law_codes_so" : Str) ++ ".<locals>.") ++ "<lambda>") ∈ T.tabs := (List.mem_cons_of_mem _ List.mem_cons_self)
theorem Tx.hu__law_codes_so {K : PySem.W.Frag} {mg : Str → Option Value} {w : World} (T : Tx K mg w) : ∀ p ∈ T.tabs, p.1 = T.tp__law_codes_so → p.2 = (("_law_codes_so" : Str) ++ ".<locals>.") ++ "<lambda>" := tabs_one (T := T.tabs) T.nd T.tm__law_codes_so
section
variable {P : Program} {w : World} {K : PySem.W.Frag} {mg : Str → Option Value} {base : Heap}

theorem ok__law_bag (T : Tx K mg w) : FnOk P w K mg base CX0 1 T.a__law_bag T.d__law_bag ["_law_script"] (spBag K) := by
  refine fn_newBag T.F__law_bag sc__law_bag (fun cdv A outer s H E hr => ⟨_, (pss_cons (ps_set (i := 1) sc__law_bag.nd rfl (Or.inl rfl) pe_int)
      (pss_cons (ps_for PassesOwn.never rfl (pi_listA (K := K) (pe_slice (sl_any (K := K)) (pv 0) po_none (po_some pe_int))) (pg_name (i := 2) sc__law_bag.nd rfl (Or.inl rfl)) (pss_one (ps_set (i := 1) sc__law_bag.nd rfl (Or.inl rfl) (pe_op op_mod (pe_callTy call_int1 (by rfl) T.n_int PyProof.Rows.boot_int (pa_cons (pe_op (op_plus (K := K)) (pe_op (op_plus (K := K)) (pe_op op_mul (pv 1) pe_int) (pe_op op_mul (pe_op op_mod (pe_callTy call_int1 (by rfl) T.n_int PyProof.Rows.boot_int (pa_cons (pv 2) pa_nil)) pe_int) pe_int)) pe_int) pa_nil)) pe_int))))
      (pss_one (ps_ret (pe_lst (pa_cons (pe_callTy (call_listB (K := K) rfl) (by rfl) T.n_list PyProof.Rows.boot_list (pa_cons (pe_slice (sl_any (K := K)) (pv 0) po_none (po_some pe_int)) pa_nil)) (pa_cons pe_int (pa_cons pe_int (pa_cons (pv 1) (pa_cons pe_int pa_nil)))))))))), fun H0 a ns hS => ?_⟩)
  dsimp only [cxOf, env0, env1, List.map, List.length, List.replicate, List.cons_append, List.nil_append, List.append, Nat.reduceAdd, Nat.reduceSub, Nat.zero_add]
  refine sm_seq (sm_set (ev_int ?_))
  refine sm_seq (sm_for (ei_list (EvO.ev (eo_slRaw rfl hS off_nil (ep_none (ep_some (ev_int (int_ex (lst_ex ⟨fun _ e => ∃ m s, e = [.r (.ref a), .d (.int m), s] ∧ 0 ≤ m ∧ m < 2147483648, ⟨12026, .no, rfl, by decide, by decide⟩, ?_, ?_⟩)))))))))
  · rintro i x es' hx ⟨m, s, rfl, h0, h1⟩
    obtain ⟨n, rfl⟩ := of_mem_ints hx
    refine tg_name ?_
    repeat walk_at "y"
    exact ⟨_, _, rfl, by omega, by omega⟩
  · rintro es' ⟨m, s, rfl, h0, h1⟩
    refine sm_retO (eo_lst (ea_cons (EvO.ev (eo_listL (ea_cons (EvO.ev (eo_slRaw rfl hS off_nil (ep_none (ep_some (ev_int (int_ex (ea_nil ⟨_, Or.inl rfl, ?_⟩))))))))))))
    repeat walk_at "y"
    exact ⟨_, 0, 0, m, 0, rfl, by decide, by decide, h0, h1⟩

theorem ok__law_draw (T : Tx K mg w) : FnOk P w K mg base CX0 1 T.a__law_draw T.d__law_draw ["_law_bag_here", "_law_sides"] (spB K drawPre drawPost) := by
  refine fn_draw T.F__law_draw sc__law_draw (fun ds h => ?_) (fun cdv A outer s H E hr => ⟨_, (pss_cons (ps_asg (pe_op (op_plus (K := K)) (pe_ix (ix_any (K := K)) (pv 0) pe_int (fun _ _ => rfl)) pe_int) (pg_sub (pv 0) pe_int set_list))
      (pss_cons (ps_if (PW.pt (pw_and (pt_cmpR (op_eqA (K := K) hr.units) (pe_ix (ix_any (K := K)) (pv 0) pe_int (fun _ _ => rfl)) pe_int (nomark _)) (pw_and1 (pt_cmpR op_lt (pe_ix (ix_any (K := K)) (pv 0) pe_int (fun _ _ => rfl)) (pe_callB (call_lenA (K := K)) (by rfl) T.n_len PySem.boot_len (pa_cons (pe_ix (ix_any (K := K)) (pv 0) pe_int (fun _ _ => rfl)) pa_nil)) (nomark _))))) (pss_cons (ps_set (i := 2) sc__law_draw.nd rfl (Or.inl rfl) (pe_callTy call_int1 (by rfl) T.n_int PyProof.Rows.boot_int (pa_cons (pe_ix (ix_any (K := K)) (pe_ix (ix_any (K := K)) (pv 0) pe_int (fun _ _ => rfl)) (pe_ix (ix_any (K := K)) (pv 0) pe_int (fun _ _ => rfl)) (fun _ _ => rfl)) pa_nil)))
      (pss_cons (ps_asg (pe_op (op_plus (K := K)) (pe_ix (ix_any (K := K)) (pv 0) pe_int (fun _ _ => rfl)) pe_int) (pg_sub (pv 0) pe_int set_list))
      (pss_one (ps_if (pt_cmpR op_ge (pe_callB call_abs (by rfl) T.n_abs PyProof.Rows.boot_abs (pa_cons (pv 2) pa_nil)) (pe_op op_pow pe_int pe_int) (nomark _)) (pss_one (ps_asg (pe_callB call_abs (by rfl) T.n_abs PyProof.Rows.boot_abs (pa_cons (pv 2) pa_nil)) (pg_sub (pv 0) pe_int set_list))) (pss_one (ps_asg (pe_op op_mod (pe_callTy call_int1 (by rfl) T.n_int PyProof.Rows.boot_int (pa_cons (pe_op (op_plus (K := K)) (pe_op (op_plus (K := K)) (pe_op op_mul (pe_ix (ix_any (K := K)) (pv 0) pe_int (fun _ _ => rfl)) pe_int) (pe_op op_mul (pe_op op_mod (pe_callTy call_int1 (by rfl) T.n_int PyProof.Rows.boot_int (pa_cons (pv 2) pa_nil)) pe_int) pe_int)) pe_int) pa_nil)) pe_int) (pg_sub (pv 0) pe_int set_list))))))) pss_nil)
      (pss_cons (ps_if (pt_cmpR op_gt (pe_ix (ix_any (K := K)) (pv 0) pe_int (fun _ _ => rfl)) pe_int (nomark _)) (pss_cons (ps_set (i := 3) sc__law_draw.nd rfl (Or.inl rfl) (pe_op op_mod (pe_callTy call_int1 (by rfl) T.n_int PyProof.Rows.boot_int (pa_cons (pe_ix (ix_any (K := K)) (pv 0) pe_int (fun _ _ => rfl)) pa_nil)) (pv 1)))
      (pss_cons (ps_asg (pe_op op_fdiv (pe_ix (ix_any (K := K)) (pv 0) pe_int (fun _ _ => rfl)) (pv 1)) (pg_sub (pv 0) pe_int set_list))
      (pss_one (ps_ret (pv 3))))) pss_nil)
      (pss_cons (ps_set (i := 4) sc__law_draw.nd rfl (Or.inl rfl) (pe_callTy call_int1 (by rfl) T.n_int PyProof.Rows.boot_int (pa_cons (pe_ix (ix_any (K := K)) (pv 0) pe_int (fun _ _ => rfl)) pa_nil)))
      (pss_cons (ps_asg (pe_op op_mod (pe_callTy call_int1 (by rfl) T.n_int PyProof.Rows.boot_int (pa_cons (pe_op (op_plus (K := K)) (pe_op (op_plus (K := K)) (pe_op (op_plus (K := K)) (pe_op op_mul (pe_op op_mul (pv 4) (pv 4)) pe_int) (pe_op op_mul (pv 4) pe_int)) (pe_op op_mul (pe_ix (ix_any (K := K)) (pv 0) pe_int (fun _ _ => rfl)) pe_int)) pe_int) pa_nil)) pe_int) (pg_sub (pv 0) pe_int set_list))
      (pss_one (ps_ret (pe_op op_mod (pe_callTy call_int1 (by rfl) T.n_int PyProof.Rows.boot_int (pa_cons (pe_op (op_plus (K := K)) (pe_op op_fdiv (pe_ix (ix_any (K := K)) (pv 0) pe_int (fun _ _ => rfl)) pe_int) (pe_op op_mul (pe_op op_mod (pe_callTy call_int1 (by rfl) T.n_int PyProof.Rows.boot_int (pa_cons (pe_ix (ix_any (K := K)) (pv 0) pe_int (fun _ _ => rfl)) pa_nil)) pe_int) pe_int)) pa_nil)) (pv 1))))))))), fun F0 H0 b xs ds hB h => ?_⟩)
  · obtain ⟨n, rfl, _⟩ := h; rfl
  · obtain ⟨n, rfl, hn, hn2⟩ := h
    obtain ⟨ns, i, r, m, k, rfl, hi, hr0, hm, hm2⟩ := hB
    dsimp only [cxOf, env0, env1, List.map, List.length, List.replicate, List.cons_append, List.nil_append, List.append, Nat.reduceAdd, Nat.reduceSub, Nat.zero_add]
    refine sm_seq ?_
    walk_at "y"
    repeat walk_at "yx"
    refine sm_cut (fun e => ∃ i r m k s, e = [.own b [.lst (ns.map Dt.int), .int i, .int r, .int m, .int k], .d (.int n), s, .no, .no] ∧ 0 ≤ i ∧ 0 ≤ r ∧ 0 ≤ m ∧ m < 2147483648) ?_ ?_
    · repeat walk_at "y"
      refine ways (fun h => ?_) (fun h => ?_)
      · repeat walk_at "y"
        refine ways (fun h => ?_) (fun h => ?_)
        · have h2 := of_decide_eq_true h
          have h3 : i < (ns.map Dt.int).length := h2
          obtain ⟨x, hx, hxm⟩ := atI_of hi h3
          obtain ⟨v, _, rfl⟩ := List.mem_map.mp hxm
          refine sm_seq (sm_set (ev_cb (ea_cons ?_)))
          refine ev_op ?_
          repeat walk_at "y"
          refine o_ixAL hx ?_
          repeat walk_at "y"
          refine ways (fun h => ?_) (fun h => ?_)
          · repeat walk_at "y"
            exact ⟨_, _, _, _, _, rfl, by omega, by split <;> omega, hm, hm2⟩
          · repeat walk_at "y"
            exact ⟨_, _, _, _, _, rfl, by omega, hr0, by omega, by omega⟩
        · repeat walk_at "y"
          exact ⟨_, _, _, _, _, rfl, hi, hr0, hm, hm2⟩
      · repeat walk_at "y"
        exact ⟨_, _, _, _, _, rfl, hi, hr0, hm, hm2⟩
    · rintro es' ⟨i, r, m, k, s, rfl, hi, hr0, hm, hm2⟩
      refine sm_seq (sm_if ?_)
      repeat walk_at "y"
      refine ways (fun h => ?_) (fun h => ?_)
      · repeat walk_at "y"
        exact ⟨⟨n, _, rfl, rfl, Int.emod_nonneg _ (by omega), Int.emod_lt_of_pos _ hn⟩, _, rfl, _, _, _, _, _, rfl, hi, Int.ediv_nonneg hr0 (by omega), hm, hm2⟩
      · repeat walk_at "y"
        refine ⟨⟨n, _, rfl, rfl, Int.emod_nonneg _ (by omega), Int.emod_lt_of_pos _ hn⟩, _, rfl, _, _, _, _, _, rfl, hi, hr0, ?_, ?_⟩
        · exact Int.emod_nonneg _ (by decide)
        · have := Int.emod_lt_of_pos (m * m * 19 + m * 47111 + k * 110323 + 60089) (show (0 : Int) < 2147483549 by decide)
          omega
end
end Law
set_option pp.deepTerms false
set_option pp.deepTerms.threshold 6
namespace Law
open PySem L2 Y
local macro_rules | `(tactic| walk_at "yv") => `(tactic| ((with_reducible show Ev _ (tVar _) _ _); refine ev_var rfl ?_))
local macro_rules | `(tactic| walk_at "ys") => `(tactic| with_reducible first
  | refine sm_seq ?_ | refine sm_ret ?_ | refine sm_if ?_ | refine sm_set ?_ | refine sm_next ?_ | refine sm_par ?_ | refine sm_drop ?_ | refine sm_brk ?_ | refine sm_cont ?_)
local macro_rules | `(tactic| walk_at "ye") => `(tactic| with_reducible first
  | refine ev_op ?_ | refine ev_and ?_ | refine ev_or ?_ | refine ev_not ?_ | refine ev_if ?_ | refine ev_chain ?_ | refine ev_neg ?_ | refine ev_isInt ?_ | refine ev_isBool ?_ | refine ev_isStr ?_ | refine ev_isList ?_ | refine ev_isTuple ?_ | refine ev_isLT ?_ | refine ev_isDict ?_
  | refine ev_int ?_ | refine ev_str ?_ | refine ev_bl ?_ | refine ev_non ?_ | refine ev_call ?_ | refine ev_cb ?_ | refine ev_lst ?_ | refine ev_tup ?_ | refine ev_join ?_
  | refine ea_nil ?_ | refine ea_cons ?_
  | refine et_B ?_ | refine et_test ?_ | refine et_not ?_ | refine et_and ?_ | refine et_or ?_ | refine et_yes ?_
  | refine o_plusI ?_ | refine o_i0 ?_ | refine o_b0 ?_ | refine o_isN ?_ | refine o_notN ?_
  | refine bl_ex ?_ | refine int_ex ?_ | refine str_ex ?_ | refine lst_ex ?_ | refine tup_ex ?_)
local macro_rules | `(tactic| walk_at "yo") => `(tactic| first
  | ((with_reducible show Ev _ (tOp (rIx _) (tVar _) _) _ _); refine ev_ixOwn rfl ?_)
  | ((with_reducible show Ev _ (tCB _ (tCons (tVar _) tNil)) _ _); refine ev_lenOwn rfl ?_)
  | ((with_reducible show Sm _ (tAsg _ (gSub (tVar _) _ _)) _ _); refine sm_setItem rfl ?_)
  | ((with_reducible show Ev _ (tCall (spB _ _ _) _ _ _) _ _); refine ev_callB rfl rfl ?_))
local macro_rules | `(tactic| walk_at "yc") => `(tactic| first
  | ((with_reducible show CMul _ _); first | exact Or.inr ⟨by decide, by decide⟩ | exact Or.inl ⟨by decide, by decide⟩ | exact Or.inr ⟨by omega, by omega⟩ | exact Or.inl ⟨by omega, by omega⟩)
  | ((with_reducible show CDiv _ _); exact ⟨by first | decide | omega, by first | decide | omega⟩)
  | ((with_reducible show CPow _ _); exact ⟨by decide, by decide, by first | decide | omega⟩)
  | ((show (0 : Int) < _); first | decide | omega))
local macro_rules | `(tactic| walk_at "yd") => `(tactic| first
  | ((with_reducible show plainD _ = true ∧ _); refine ⟨by first | rfl | assumption, ?_⟩)
  | ((with_reducible show (_ = true → _) ∧ (_ = false → _)); first | refine way_t rfl ?_ | refine way_f rfl ?_ | refine way_t (by decide +kernel) ?_ | refine way_f (by decide +kernel) ?_)
  | ((with_reducible show Cal _ _ _ _ _); first | (with_reducible refine c_int ?_) | (with_reducible refine c_abs ?_) | (refine c_len rfl ?_) | (refine c_len (if_pos (by assumption)) ?_))
  | ((with_reducible show Op2 _ (rEqA _) _ _ _ _); refine o_eqA rfl ?_)
  | ((with_reducible show Op2 _ (rNeA _) _ _ _ _); refine o_neA rfl ?_)
  | ((with_reducible show Op2 _ (rInA _) _ (Dt.str _) (Dt.lst _) _); refine o_inAL rfl rfl ?_)
  | ((with_reducible show Op2 _ (rInA _) _ (Dt.str _) (Dt.tup _) _); refine o_inAT rfl rfl ?_)
  | ((with_reducible show Op2 _ (rI _ _) _ _ _ _); refine o_i (by walk_at "yc") ?_)
  | ((with_reducible show Op2 _ (rIx _) _ (Dt.tup _) _ _); refine o_ixAT (atI_toNat (by decide) rfl) ?_)
  | ((with_reducible show Op2 _ (rIx _) _ (Dt.lst _) _ _); refine o_ixAL (atI_toNat (by decide) rfl) ?_)
  | ((with_reducible show ∃ x, atI _ _ = some x ∧ _); refine ⟨_, rfl, ?_⟩)
  | ((with_reducible show ∃ x, ixN _ _ = some x ∧ _); refine ⟨_, rfl, ?_⟩)
  | ((with_reducible show List.length _ ≤ 100000 ∧ _); refine ⟨by (try simp only [List.length_cons, List.length_nil]); first | decide | omega, ?_⟩))
local macro_rules | `(tactic| walk_at "y") => `(tactic| first | walk_at "yo" | walk_at "ye" | walk_at "yv" | walk_at "ys" | walk_at "yd")
local macro_rules | `(tactic| walk_at "yx") => `(tactic| first | walk_at "yo" | walk_at "ye" | walk_at "yv" | walk_at "yd")
section
variable {P : Program} {w : World} {K : PySem.W.Frag} {mg : Str → Option Value} {base : Heap}

theorem ok__law_of (T : Tx K mg w) : FnOk P w K mg base CX0 2 T.a__law_of T.d__law_of ["_law_bag_here", "_law_things"] (spB K ofPre ofPost) := by
  have G__law_draw := ok__law_draw (P := P) (w := w) (base := base) T
  refine fn_bag T.F__law_of sc__law_of (fun ds h => ?_) (fun cdv A outer s H E hr => ⟨_, (pss_one (ps_ret (pe_ix (ix_any (K := K)) (pv 1) (pe_call G__law_draw (hr.mono (by decide)) (by rfl) T.m__law_draw T.k__law_draw T.b__law_draw .nil pass0 (pa_cons (pv 0) (pa_cons (pe_callB (call_lenA (K := K)) (by rfl) T.n_len PySem.boot_len (pa_cons (pv 1) pa_nil)) pa_nil))) (fun _ _ => rfl)))), fun F0 H0 b ds h => ?_⟩)
  · obtain ⟨x, rfl, _⟩ := h; rfl
  · obtain ⟨x, rfl, h1, h2⟩ := h
    dsimp only [cxOf, env0, env1, List.map, List.length, List.replicate, List.cons_append, List.nil_append, List.append, Nat.reduceAdd, Nat.reduceSub, Nat.zero_add]
    refine sm_ret (ev_op ?_)
    cases x with
    | lst xs =>
      have h1 : 0 < xs.length := h1
      have h2 : xs.length ≤ 100000 := h2
      repeat walk_at "yx"
      refine ⟨⟨_, rfl, by omega, by omega⟩, ?_⟩
      rintro d ⟨n, i, e, rfl, k1, k2⟩
      cases e
      obtain ⟨y, hy, hm⟩ := atI_of k1 k2
      exact o_ixAL hy ⟨_, rfl, hm⟩
    | tup xs =>
      have h1 : 0 < xs.length := h1
      have h2 : xs.length ≤ 100000 := h2
      repeat walk_at "yx"
      refine ⟨⟨_, rfl, by omega, by omega⟩, ?_⟩
      rintro d ⟨n, i, e, rfl, k1, k2⟩
      cases e
      obtain ⟨y, hy, hm⟩ := atI_of k1 k2
      exact o_ixAT hy ⟨_, rfl, hm⟩
    | str z =>
      have h1 : 0 < (signsD z).length := h1
      have h2 : (signsD z).length ≤ 100000 := h2
      rw [signsD_len] at h1 h2
      have hl : z.length ≤ 100000 := h2
      have e0 : z.length = z.cps.size := rfl
      refine ev_var rfl ?_
      refine ev_callB rfl rfl ?_
      refine ea_cons (ev_cb (ea_cons (ev_var rfl (ea_nil (c_len (n := z.length) (if_pos hl) (ea_nil ?_))))))
      refine ⟨⟨_, rfl, by omega, by omega⟩, ?_⟩
      rintro d ⟨n, i, e, rfl, k1, k2⟩
      cases e
      obtain ⟨y, hy, hm⟩ := atI_ofN (xs := z.cps.toList) k1 (by rw [Array.length_toList]; exact k2)
      exact o_ixAS hl hy ⟨_, rfl, List.mem_map.mpr ⟨y, hm, rfl⟩⟩
    | _ => exact absurd (show 0 < 0 from h1) (Nat.lt_irrefl 0)

theorem ok__law_same (T : Tx K mg w) : ∀ n, FnOk P w K mg base CX0 n T.a__law_same T.d__law_same ["_law_found", "_law_due"] (spD K (samePre n) sameTrue)
  | 0 => fn_none fun ds h => by obtain ⟨x, _, _, h⟩ := h; omega
  | n + 1 => by
    have G__law_same := ok__law_same T n
    refine fn_data T.F__law_same sc__law_same (fun ds h => ?_) (fun cdv A outer s H E hr => ⟨_, (pss_cons (ps_if (PW.pt (pw_or (pt_cmpR op_isN (pv 1) pe_non (nomark _)) (pw_or1 (pt_cmpR op_isN (pv 0) pe_non (nomark _))))) (pss_one (ps_ret (pe_and (pe_cmpR op_isN (pv 1) pe_non (nomark _)) (pe_one (pe_cmpR op_isN (pv 0) pe_non (nomark _)))))) pss_nil)
      (pss_cons (ps_if (pt_val (pe_callB (call_isiTA (K := K)) (by rfl) T.n_isinstance PyProof.Rows.boot_isinstance (pa_cons (pv 1) (pa_cons (pe_tup (pa_cons (pe_bltn (v := .ty "list") (by rfl) T.n_list (by decide +kernel) rfl) (pa_cons (pe_bltn (v := .ty "tuple") (by rfl) T.n_tuple (by decide +kernel) rfl) pa_nil))) pa_nil)))) (pss_cons (ps_if (PW.pt (pw_or (pt_cmpR (op_neA (K := K) hr.units) (pe_callB (call_isiA (K := K)) (by rfl) T.n_isinstance PyProof.Rows.boot_isinstance (pa_cons (pv 0) (pa_cons (pe_bltn (v := .ty "list") (by rfl) T.n_list (by decide +kernel) rfl) pa_nil))) (pe_callB (call_isiA (K := K)) (by rfl) T.n_isinstance PyProof.Rows.boot_isinstance (pa_cons (pv 1) (pa_cons (pe_bltn (v := .ty "list") (by rfl) T.n_list (by decide +kernel) rfl) pa_nil))) (nomark _)) (pw_or1 (pt_cmpR (op_neA (K := K) hr.units) (pe_callB (call_isiA (K := K)) (by rfl) T.n_isinstance PyProof.Rows.boot_isinstance (pa_cons (pv 0) (pa_cons (pe_bltn (v := .ty "tuple") (by rfl) T.n_tuple (by decide +kernel) rfl) pa_nil))) (pe_callB (call_isiA (K := K)) (by rfl) T.n_isinstance PyProof.Rows.boot_isinstance (pa_cons (pv 1) (pa_cons (pe_bltn (v := .ty "tuple") (by rfl) T.n_tuple (by decide +kernel) rfl) pa_nil))) (nomark _))))) (pss_one (ps_ret pe_bl)) pss_nil)
      (pss_one (ps_ret (pe_and (pe_cmpR (op_eqA (K := K) hr.units) (pe_callB (call_lenA (K := K)) (by rfl) T.n_len PySem.boot_len (pa_cons (pv 0) pa_nil)) (pe_callB (call_lenA (K := K)) (by rfl) T.n_len PySem.boot_len (pa_cons (pv 1) pa_nil)) (nomark _)) (pe_one (pe_callB (cr_allA (K := K) rfl) (by rfl) T.n_all PyProof.Rows.boot_all (pa_cons (pe_lc (own := [("_law_a", 2), ("_law_b", 3)]) (g := gTup K 2 (gCons (gName 2) (gCons (gName 3) gNil))) rfl sc__law_same.nd (pi_zipB (K := K) (by rfl) T.n_zip (pa_cons (pv 0) (pa_cons (pv 1) pa_nil))) (blkOk_by (N := ["_law_found", "_law_due", "_law_a", "_law_b"]) (sc := defScope s__law_same) (by decide +kernel)) (fun _ _ _ _ _ => (pg_tupA (K := K) rfl (pgs_cons (pg_name (i := 2) sc__law_same.nd rfl (Or.inl rfl)) (pgs_cons (pg_name (i := 3) sc__law_same.nd rfl (Or.inl rfl)) pgs_nil)))) (fun _ _ _ _ _ => pts_nil) (fun _ _ _ _ _ => (pe_call G__law_same hr (by rfl) T.m__law_same T.k__law_same T.b__law_same .nil pass0 (pa_cons (pv 2) (pa_cons (pv 3) pa_nil))))) pa_nil))))))) pss_nil)
      (pss_cons (ps_if (PW.pt (pw_or (pt_cmpR (op_neA (K := K) hr.units) (pe_callB (call_isiA (K := K)) (by rfl) T.n_isinstance PyProof.Rows.boot_isinstance (pa_cons (pv 1) (pa_cons (pe_bltn (v := .ty "bool") (by rfl) T.n_bool (by decide +kernel) rfl) pa_nil))) (pe_callB (call_isiA (K := K)) (by rfl) T.n_isinstance PyProof.Rows.boot_isinstance (pa_cons (pv 0) (pa_cons (pe_bltn (v := .ty "bool") (by rfl) T.n_bool (by decide +kernel) rfl) pa_nil))) (nomark _)) (pw_or1 (pt_cmpR (op_neA (K := K) hr.units) (pe_callB (call_isiA (K := K)) (by rfl) T.n_isinstance PyProof.Rows.boot_isinstance (pa_cons (pv 1) (pa_cons (pe_bltn (v := .ty "int") (by rfl) T.n_int (by decide +kernel) rfl) pa_nil))) (pe_callB (call_isiA (K := K)) (by rfl) T.n_isinstance PyProof.Rows.boot_isinstance (pa_cons (pv 0) (pa_cons (pe_bltn (v := .ty "int") (by rfl) T.n_int (by decide +kernel) rfl) pa_nil))) (nomark _))))) (pss_one (ps_ret pe_bl)) pss_nil)
      (pss_one (ps_ret (pe_and (pe_cmpR (op_eqA (K := K) hr.units) (pe_callB (call_isiA (K := K)) (by rfl) T.n_isinstance PyProof.Rows.boot_isinstance (pa_cons (pv 1) (pa_cons (pe_bltn (v := .ty "str") (by rfl) T.n_str (by decide +kernel) rfl) pa_nil))) (pe_callB (call_isiA (K := K)) (by rfl) T.n_isinstance PyProof.Rows.boot_isinstance (pa_cons (pv 0) (pa_cons (pe_bltn (v := .ty "str") (by rfl) T.n_str (by decide +kernel) rfl) pa_nil))) (nomark _)) (pe_one (pe_cmpR (op_eqA (K := K) hr.units) (pv 0) (pv 1) (nomark _))))))))), fun F0 H0 ds h => ?_⟩)
    · obtain ⟨x, rfl, _⟩ := h; rfl
    · obtain ⟨x, rfl, hp, hd⟩ := h
      dsimp only [cxOf, env0, env1, List.map, List.length, List.replicate, List.cons_append, List.nil_append, List.append, Nat.reduceAdd, Nat.reduceSub, Nat.zero_add]
      cases x with
      | obj _ _ _ => unfold Dt.pureD at hp; cases hp
      | dct _ _ => unfold Dt.pureD at hp; cases hp
      | ali _ => unfold Dt.pureD at hp; cases hp
      | lst xs =>
        unfold Dt.depth at hd
        unfold Dt.pureD at hp
        rw [Bool.and_eq_true] at hp
        have hl := of_decide_eq_true hp.1
        repeat walk_at "y"
        refine way_t (by simp [dEq]) ?_
        refine ev_cb (ea_cons (EvO.ev (eo_mapF (fun _ => .bl true) (ei_zip ?_))))
        repeat walk_at "y"
        refine ⟨xs, xs, .inl rfl, ?_, ?_, ?_⟩
        · rw [pairD_len]; omega
        · intro p hpm
          obtain ⟨y, hy, rfl⟩ := pairD_mem hpm
          refine tc_tup2 (by decide) ?_
          repeat walk_at "y"
          exact ⟨⟨y, rfl, pureAll_mem hy hp.2, by have := depthAll_mem (n := n - 1) hy (by omega); omega⟩, fun d e => e⟩
        · refine ea_nil (c_allF (g := fun _ => true) ?_)
          show Dt.bl _ = .bl true
          simp
      | tup xs =>
        unfold Dt.depth at hd
        unfold Dt.pureD at hp
        rw [Bool.and_eq_true] at hp
        have hl := of_decide_eq_true hp.1
        repeat walk_at "y"
        refine way_t (by simp [dEq]) ?_
        refine ev_cb (ea_cons (EvO.ev (eo_mapF (fun _ => .bl true) (ei_zip ?_))))
        repeat walk_at "y"
        refine ⟨xs, xs, .inr rfl, ?_, ?_, ?_⟩
        · rw [pairD_len]; omega
        · intro p hpm
          obtain ⟨y, hy, rfl⟩ := pairD_mem hpm
          refine tc_tup2 (by decide) ?_
          repeat walk_at "y"
          exact ⟨⟨y, rfl, pureAll_mem hy hp.2, by have := depthAll_mem (n := n - 1) hy (by omega); omega⟩, fun d e => e⟩
        · refine ea_nil (c_allF (g := fun _ => true) ?_)
          show Dt.bl _ = .bl true
          simp
      | non =>
        repeat walk_at "y"
        rfl
      | _ =>
        repeat walk_at "y"
        show Dt.bl _ = .bl true
        simp [dEq]
end
end Law
namespace Law
open PySem L2 Y
local macro_rules | `(tactic| walk_at "yv") => `(tactic| ((with_reducible show Ev _ (tVar _) _ _); refine ev_var rfl ?_))
local macro_rules | `(tactic| walk_at "ys") => `(tactic| with_reducible first
  | refine sm_seq ?_ | refine sm_ret ?_ | refine sm_if ?_ | refine sm_set ?_ | refine sm_next ?_ | refine sm_par ?_ | refine sm_drop ?_ | refine sm_brk ?_ | refine sm_cont ?_)
local macro_rules | `(tactic| walk_at "ye") => `(tactic| with_reducible first
  | refine ev_op ?_ | refine ev_and ?_ | refine ev_or ?_ | refine ev_not ?_ | refine ev_if ?_ | refine ev_chain ?_ | refine ev_neg ?_ | refine ev_isInt ?_ | refine ev_isBool ?_ | refine ev_isStr ?_ | refine ev_isList ?_ | refine ev_isTuple ?_ | refine ev_isLT ?_ | refine ev_isDict ?_
  | refine ev_int ?_ | refine ev_str ?_ | refine ev_bl ?_ | refine ev_non ?_ | refine ev_call ?_ | refine ev_cb ?_ | refine ev_lst ?_ | refine ev_tup ?_ | refine ev_join ?_
  | refine ea_nil ?_ | refine ea_cons ?_
  | refine et_B ?_ | refine et_test ?_ | refine et_not ?_ | refine et_and ?_ | refine et_or ?_ | refine et_yes ?_
  | refine o_plusI ?_ | refine o_i0 ?_ | refine o_b0 ?_ | refine o_isN ?_ | refine o_notN ?_
  | refine bl_ex ?_ | refine int_ex ?_ | refine str_ex ?_ | refine lst_ex ?_ | refine tup_ex ?_)
local macro_rules | `(tactic| walk_at "yo") => `(tactic| first
  | ((with_reducible show Ev _ (tOp (rIx _) (tVar _) _) _ _); refine ev_ixOwn rfl ?_)
  | ((with_reducible show Ev _ (tCB _ (tCons (tVar _) tNil)) _ _); refine ev_lenOwn rfl ?_)
  | ((with_reducible show Sm _ (tAsg _ (gSub (tVar _) _ _)) _ _); refine sm_setItem rfl ?_)
  | ((with_reducible show Ev _ (tCall (spB _ _ _) _ _ _) _ _); refine ev_callB rfl rfl ?_))
local macro_rules | `(tactic| walk_at "yc") => `(tactic| first
  | ((with_reducible show CMul _ _); first | exact Or.inr ⟨by decide, by decide⟩ | exact Or.inl ⟨by decide, by decide⟩ | exact Or.inr ⟨by omega, by omega⟩ | exact Or.inl ⟨by omega, by omega⟩)
  | ((with_reducible show CDiv _ _); exact ⟨by first | decide | omega, by first | decide | omega⟩)
  | ((with_reducible show CPow _ _); exact ⟨by decide, by decide, by first | decide | omega⟩)
  | ((show (0 : Int) < _); first | decide | omega))
local macro_rules | `(tactic| walk_at "yd") => `(tactic| first
  | ((with_reducible show plainD _ = true ∧ _); refine ⟨by first | rfl | assumption, ?_⟩)
  | ((with_reducible show (_ = true → _) ∧ (_ = false → _)); first | refine way_t rfl ?_ | refine way_f rfl ?_ | refine way_t (by decide +kernel) ?_ | refine way_f (by decide +kernel) ?_)
  | ((with_reducible show Cal _ _ _ _ _); first | (with_reducible refine c_int ?_) | (with_reducible refine c_abs ?_) | (refine c_len rfl ?_) | (refine c_len (if_pos (by assumption)) ?_))
  | ((with_reducible show Op2 _ (rEqA _) _ _ _ _); refine o_eqA rfl ?_)
  | ((with_reducible show Op2 _ (rNeA _) _ _ _ _); refine o_neA rfl ?_)
  | ((with_reducible show Op2 _ (rInA _) _ (Dt.str _) (Dt.lst _) _); refine o_inAL rfl rfl ?_)
  | ((with_reducible show Op2 _ (rInA _) _ (Dt.str _) (Dt.tup _) _); refine o_inAT rfl rfl ?_)
  | ((with_reducible show Op2 _ (rI _ _) _ _ _ _); refine o_i (by walk_at "yc") ?_)
  | ((with_reducible show Op2 _ (rIx _) _ (Dt.tup _) _ _); refine o_ixAT (atI_toNat (by decide) rfl) ?_)
  | ((with_reducible show Op2 _ (rIx _) _ (Dt.lst _) _ _); refine o_ixAL (atI_toNat (by decide) rfl) ?_)
  | ((with_reducible show ∃ x, atI _ _ = some x ∧ _); refine ⟨_, rfl, ?_⟩)
  | ((with_reducible show ∃ x, ixN _ _ = some x ∧ _); refine ⟨_, rfl, ?_⟩)
  | ((with_reducible show List.length _ ≤ 100000 ∧ _); refine ⟨by (try simp only [List.length_cons, List.length_nil]); first | decide | omega, ?_⟩))
local macro_rules | `(tactic| walk_at "y") => `(tactic| first | walk_at "yo" | walk_at "ye" | walk_at "yv" | walk_at "ys" | walk_at "yd")
local macro_rules | `(tactic| walk_at "yx") => `(tactic| first | walk_at "yo" | walk_at "ye" | walk_at "yv" | walk_at "yd")
def xmk_InvalidName {α : Type} (s : Str → α) : List α → List (Str × α)
  | [v0] => [("value", v0), ("code", s "InvalidName")]
  | _ => []
theorem xrel_InvalidName {K : PySem.W.Frag} : ∀ (F : Hp) (vs : List V) (ds : List Dt), vs.length = 1 → RpAll K F vs ds → RpF K F (xmk_InvalidName V.str vs) (xmk_InvalidName Dt.str ds) := by
  intro F vs ds hl h
  cases h with
  | nil => simp at hl
  | cons r0 t0 =>
    cases t0 with
    | cons _ _ => simp at hl
    | nil => exact ⟨rfl, (.cons r0 (.cons (.str _) .nil))⟩
def xmk_InvalidNumber {α : Type} (s : Str → α) : List α → List (Str × α)
  | [v0] => [("value", v0), ("code", s "InvalidNumber")]
  | _ => []
theorem xrel_InvalidNumber {K : PySem.W.Frag} : ∀ (F : Hp) (vs : List V) (ds : List Dt), vs.length = 1 → RpAll K F vs ds → RpF K F (xmk_InvalidNumber V.str vs) (xmk_InvalidNumber Dt.str ds) := by
  intro F vs ds hl h
  cases h with
  | nil => simp at hl
  | cons r0 t0 =>
    cases t0 with
    | cons _ _ => simp at hl
    | nil => exact ⟨rfl, (.cons r0 (.cons (.str _) .nil))⟩
section
variable {P : Program} {w : World} {K : PySem.W.Frag} {mg : Str → Option Value} {base : Heap}
theorem ok_InvalidName___init__ (T : Tx K mg w) : FnOk P w K mg base CX0 1 T.a_InvalidName___init__ T.d_InvalidName___init__ ["self", "value"] (spXI T.a_InvalidName (xmk_InvalidName V.str) 1) := by
  refine T.F_InvalidName___init__.ok sc_InvalidName___init__ (fun vs H Q E h => ?_) (fun cdv A outer s H vs Q E hr h => ?_)
  · obtain ⟨a, ws, rfl, hl, _⟩ := h
    rw [List.length_cons, hl]; rfl
  · obtain ⟨a, ws, rfl, hl, ha, q⟩ := h
    match ws, hl, q with
    | [v0], _, q =>
      refine ⟨_, (pss_cons (ps_ost (pv 0) pe_str) (pss_one (ps_ost (pv 0) (pv 1)))), ?_⟩
      exact ⟨.ref a, rfl, a, T.a_InvalidName, rfl, T.oe_InvalidName, T.no_InvalidName_code, .inl ⟨ha, fun dx hdx hne => ⟨v0, rfl, ⟨.ref a, rfl, a, T.a_InvalidName, rfl, T.oe_InvalidName, T.no_InvalidName_value, .inr ⟨dx, _, (by first | (simp [upd, hne, Ne.symm hne]; done) | (simp [upd, hne, Ne.symm hne]; rfl)), (by first | (simp [upd, hne, Ne.symm hne]; done) | (simp [upd, hne, Ne.symm hne]; rfl)), by simp, q dx _ hdx hne (by simp [upd, Ne.symm hne]) (by simp [upd, hne, xmk_InvalidName]) (fun c h1 h2 => by simp [upd, h1, h2])⟩⟩⟩⟩⟩
theorem ok_InvalidNumber___init__ (T : Tx K mg w) : FnOk P w K mg base CX0 1 T.a_InvalidNumber___init__ T.d_InvalidNumber___init__ ["self", "value"] (spXI T.a_InvalidNumber (xmk_InvalidNumber V.str) 1) := by
  refine T.F_InvalidNumber___init__.ok sc_InvalidNumber___init__ (fun vs H Q E h => ?_) (fun cdv A outer s H vs Q E hr h => ?_)
  · obtain ⟨a, ws, rfl, hl, _⟩ := h
    rw [List.length_cons, hl]; rfl
  · obtain ⟨a, ws, rfl, hl, ha, q⟩ := h
    match ws, hl, q with
    | [v0], _, q =>
      refine ⟨_, (pss_cons (ps_ost (pv 0) pe_str) (pss_one (ps_ost (pv 0) (pv 1)))), ?_⟩
      exact ⟨.ref a, rfl, a, T.a_InvalidNumber, rfl, T.oe_InvalidNumber, T.no_InvalidNumber_code, .inl ⟨ha, fun dx hdx hne => ⟨v0, rfl, ⟨.ref a, rfl, a, T.a_InvalidNumber, rfl, T.oe_InvalidNumber, T.no_InvalidNumber_value, .inr ⟨dx, _, (by first | (simp [upd, hne, Ne.symm hne]; done) | (simp [upd, hne, Ne.symm hne]; rfl)), (by first | (simp [upd, hne, Ne.symm hne]; done) | (simp [upd, hne, Ne.symm hne]; rfl)), by simp, q dx _ hdx hne (by simp [upd, Ne.symm hne]) (by simp [upd, hne, xmk_InvalidNumber]) (fun c h1 h2 => by simp [upd, h1, h2])⟩⟩⟩⟩⟩

theorem ok__law_field (T : Tx K mg w) : FnE P w K mg base 1 T.a__law_field T.d__law_field ["_law_e"] (spField K T.a_ImageError T.a_Missing) := by
  refine fn_field T.F__law_field sc__law_field (fun cdv A outer s H E p C dd hz hf hr => ⟨_, (pss_cons (ps_if (pt_cmpR (op_inA (K := K)) (pe_xfA List.mem_cons_self hz hf (pv 0)) (pe_lst (pa_cons pe_str (pa_cons pe_str (pa_cons pe_str (pa_cons pe_str (pa_cons pe_str pa_nil)))))) (by rfl)) (pss_one (ps_ret (pe_tup (pa_cons (pe_xfA List.mem_cons_self hz hf (pv 0)) pa_nil)))) pss_nil)
      (pss_cons (ps_if (pt_cmpR (op_inA (K := K)) (pe_xfA List.mem_cons_self hz hf (pv 0)) (pe_lst (pa_cons pe_str (pa_cons pe_str pa_nil))) (by rfl)) (pss_one (ps_ret (pe_tup (pa_cons (pe_xfA List.mem_cons_self hz hf (pv 0)) pa_nil)))) pss_nil)
      (pss_cons (ps_if (pt_cmpR (op_eqA (K := K) hr.units) (pe_xfA List.mem_cons_self hz hf (pv 0)) pe_str (nomark _)) (pss_one (ps_ret (pe_tup (pa_cons (pe_xfA List.mem_cons_self hz hf (pv 0)) (pa_cons (pe_xfA List.mem_cons_self hz hf (pv 0)) (pa_cons (pe_xfA List.mem_cons_self hz hf (pv 0)) pa_nil)))))) pss_nil)
      (pss_cons (ps_if (pt_cmpR (op_eqA (K := K) hr.units) (pe_xfA List.mem_cons_self hz hf (pv 0)) pe_str (nomark _)) (pss_one (ps_ret (pe_tup (pa_cons (pe_xfA List.mem_cons_self hz hf (pv 0)) (pa_cons (pe_xfA List.mem_cons_self hz hf (pv 0)) pa_nil))))) pss_nil)
      (pss_cons (ps_if (pt_cmpR (op_eqA (K := K) hr.units) (pe_xfA List.mem_cons_self hz hf (pv 0)) pe_str (nomark _)) (pss_one (ps_ret (pe_tup (pa_cons (pe_xfA List.mem_cons_self hz hf (pv 0)) pa_nil)))) pss_nil)
      (pss_cons (ps_if (pt_cmpR (op_eqA (K := K) hr.units) (pe_xfA List.mem_cons_self hz hf (pv 0)) pe_str (nomark _)) (pss_one (ps_ret (pe_tup (pa_cons (pe_xfA List.mem_cons_self hz hf (pv 0)) pa_nil)))) pss_nil)
      (pss_cons (ps_if (pt_cmpR (op_eqA (K := K) hr.units) (pe_xfA List.mem_cons_self hz hf (pv 0)) pe_str (nomark _)) (pss_one (ps_ret (pe_tup (pa_cons (pe_xfA List.mem_cons_self hz hf (pv 0)) pa_nil)))) pss_nil)
      (pss_one (ps_ret (pe_ifExp (pt_cmpR (op_eqA (K := K) hr.units) (pe_xfA List.mem_cons_self hz hf (pv 0)) pe_str (nomark _)) (pe_tup pa_nil) (pe_tup (pa_cons (pe_xfA List.mem_cons_self hz hf (pv 0)) pa_nil)))))))))))), fun F0 H0 fs fds code xs hF hR hD => ?_⟩)
  dsimp only [cxOf, env0, env1, List.map, List.length, List.replicate, List.cons_append, List.nil_append, List.append, Nat.reduceAdd, Nat.reduceSub, Nat.zero_add]
  have fld := hD.fld
  unfold fieldOf at fld
  refine sm_seq (sm_if (et_test (ev_op (ev_xfA rfl hD.xf hD.no hF hR hD.cd ?_))))
  repeat walk_at "yx"
  refine ways (fun h => ?_) (fun h => ?_)
  · rw [h, if_pos rfl] at fld
    obtain ⟨x, hx, rfl⟩ := opt_map fld
    refine sm_ret (ev_tup (ea_cons (ev_xfA rfl hD.xf hD.no hF hR hx (ea_nil ⟨by simp, rfl⟩))))
  rw [h, if_neg (by decide)] at fld
  refine sm_next ?_
  refine sm_seq (sm_if (et_test (ev_op (ev_xfA rfl hD.xf hD.no hF hR hD.cd ?_))))
  repeat walk_at "yx"
  refine ways (fun h => ?_) (fun h => ?_)
  · rw [h, if_pos rfl] at fld
    obtain ⟨x, hx, rfl⟩ := opt_map fld
    refine sm_ret (ev_tup (ea_cons (ev_xfA rfl hD.xf hD.no hF hR hx (ea_nil ⟨by simp, rfl⟩))))
  rw [h, if_neg (by decide)] at fld
  refine sm_next ?_
  refine sm_seq (sm_if (et_test (ev_op (ev_xfA rfl hD.xf hD.no hF hR hD.cd ?_))))
  repeat walk_at "yx"
  refine ways (fun h => ?_) (fun h => ?_)
  · rw [if_pos (of_decide_eq_true h)] at fld
    split at fld
    · rename_i x y z hx hy hz'
      cases fld
      refine sm_ret (ev_tup (ea_cons (ev_xfA rfl hD.xf hD.no hF hR hx (ea_cons (ev_xfA rfl hD.xf hD.no hF hR hy (ea_cons (ev_xfA rfl hD.xf hD.no hF hR hz' (ea_nil ⟨by simp, rfl⟩))))))))
    · cases fld
  rw [if_neg (of_decide_eq_false h)] at fld
  refine sm_next ?_
  refine sm_seq (sm_if (et_test (ev_op (ev_xfA rfl hD.xf hD.no hF hR hD.cd ?_))))
  repeat walk_at "yx"
  refine ways (fun h => ?_) (fun h => ?_)
  · rw [if_pos (of_decide_eq_true h)] at fld
    split at fld
    · rename_i x y hx hy
      cases fld
      refine sm_ret (ev_tup (ea_cons (ev_xfA rfl hD.xf hD.no hF hR hx (ea_cons (ev_xfA rfl hD.xf hD.no hF hR hy (ea_nil ⟨by simp, rfl⟩))))))
    · cases fld
  rw [if_neg (of_decide_eq_false h)] at fld
  refine sm_next ?_
  refine sm_seq (sm_if (et_test (ev_op (ev_xfA rfl hD.xf hD.no hF hR hD.cd ?_))))
  repeat walk_at "yx"
  refine ways (fun h => ?_) (fun h => ?_)
  · rw [if_pos (of_decide_eq_true h)] at fld
    obtain ⟨x, hx, rfl⟩ := opt_map fld
    refine sm_ret (ev_tup (ea_cons (ev_xfA rfl hD.xf hD.no hF hR hx (ea_nil ⟨by simp, rfl⟩))))
  rw [if_neg (of_decide_eq_false h)] at fld
  refine sm_next ?_
  refine sm_seq (sm_if (et_test (ev_op (ev_xfA rfl hD.xf hD.no hF hR hD.cd ?_))))
  repeat walk_at "yx"
  refine ways (fun h => ?_) (fun h => ?_)
  · rw [if_pos (of_decide_eq_true h)] at fld
    obtain ⟨x, hx, rfl⟩ := opt_map fld
    refine sm_ret (ev_tup (ea_cons (ev_xfA rfl hD.xf hD.no hF hR hx (ea_nil ⟨by simp, rfl⟩))))
  rw [if_neg (of_decide_eq_false h)] at fld
  refine sm_next ?_
  refine sm_seq (sm_if (et_test (ev_op (ev_xfA rfl hD.xf hD.no hF hR hD.cd ?_))))
  repeat walk_at "yx"
  refine ways (fun h => ?_) (fun h => ?_)
  · rw [if_pos (of_decide_eq_true h)] at fld
    obtain ⟨x, hx, rfl⟩ := opt_map fld
    refine sm_ret (ev_tup (ea_cons (ev_xfA rfl hD.xf hD.no hF hR hx (ea_nil ⟨by simp, rfl⟩))))
  rw [if_neg (of_decide_eq_false h)] at fld
  refine sm_next ?_
  refine sm_ret (ev_if (et_test (ev_op (ev_xfA rfl hD.xf hD.no hF hR hD.cd ?_))))
  repeat walk_at "yx"
  refine ways (fun h => ?_) (fun h => ?_)
  · rw [if_pos (of_decide_eq_true h)] at fld
    cases fld
    exact ev_tup (ea_nil ⟨by decide, rfl⟩)
  rw [if_neg (of_decide_eq_false h)] at fld
  obtain ⟨x, hx, rfl⟩ := opt_map fld
  refine ev_tup (ea_cons (ev_xfA rfl hD.xf hD.no hF hR hx (ea_nil ⟨by simp, rfl⟩)))
end
end Law
namespace Law
open PySem L2 Y
local macro_rules | `(tactic| walk_at "yv") => `(tactic| ((with_reducible show Ev _ (tVar _) _ _); refine ev_var rfl ?_))
local macro_rules | `(tactic| walk_at "ys") => `(tactic| with_reducible first
  | refine sm_seq ?_ | refine sm_ret ?_ | refine sm_if ?_ | refine sm_set ?_ | refine sm_next ?_ | refine sm_par ?_ | refine sm_drop ?_ | refine sm_brk ?_ | refine sm_cont ?_)
local macro_rules | `(tactic| walk_at "ye") => `(tactic| with_reducible first
  | refine ev_op ?_ | refine ev_and ?_ | refine ev_or ?_ | refine ev_not ?_ | refine ev_if ?_ | refine ev_chain ?_ | refine ev_neg ?_ | refine ev_isInt ?_ | refine ev_isBool ?_ | refine ev_isStr ?_ | refine ev_isList ?_ | refine ev_isTuple ?_ | refine ev_isLT ?_ | refine ev_isDict ?_
  | refine ev_int ?_ | refine ev_str ?_ | refine ev_bl ?_ | refine ev_non ?_ | refine ev_call ?_ | refine ev_cb ?_ | refine ev_lst ?_ | refine ev_tup ?_ | refine ev_join ?_
  | refine ea_nil ?_ | refine ea_cons ?_
  | refine et_B ?_ | refine et_test ?_ | refine et_not ?_ | refine et_and ?_ | refine et_or ?_ | refine et_yes ?_
  | refine o_plusI ?_ | refine o_i0 ?_ | refine o_b0 ?_ | refine o_isN ?_ | refine o_notN ?_
  | refine bl_ex ?_ | refine int_ex ?_ | refine str_ex ?_ | refine lst_ex ?_ | refine tup_ex ?_)
local macro_rules | `(tactic| walk_at "yo") => `(tactic| first
  | ((with_reducible show Ev _ (tOp (rIx _) (tVar _) _) _ _); refine ev_ixOwn rfl ?_)
  | ((with_reducible show Ev _ (tCB _ (tCons (tVar _) tNil)) _ _); refine ev_lenOwn rfl ?_)
  | ((with_reducible show Sm _ (tAsg _ (gSub (tVar _) _ _)) _ _); refine sm_setItem rfl ?_)
  | ((with_reducible show Ev _ (tCall (spB _ _ _) _ _ _) _ _); refine ev_callB rfl rfl ?_))
local macro_rules | `(tactic| walk_at "yc") => `(tactic| first
  | ((with_reducible show CMul _ _); first | exact Or.inr ⟨by decide, by decide⟩ | exact Or.inl ⟨by decide, by decide⟩ | exact Or.inr ⟨by omega, by omega⟩ | exact Or.inl ⟨by omega, by omega⟩)
  | ((with_reducible show CDiv _ _); exact ⟨by first | decide | omega, by first | decide | omega⟩)
  | ((with_reducible show CPow _ _); exact ⟨by decide, by decide, by first | decide | omega⟩)
  | ((show (0 : Int) < _); first | decide | omega))
local macro_rules | `(tactic| walk_at "yd") => `(tactic| first
  | ((with_reducible show plainD _ = true ∧ _); refine ⟨by first | rfl | assumption, ?_⟩)
  | ((with_reducible show (_ = true → _) ∧ (_ = false → _)); first | refine way_t rfl ?_ | refine way_f rfl ?_ | refine way_t (by decide +kernel) ?_ | refine way_f (by decide +kernel) ?_)
  | ((with_reducible show Cal _ _ _ _ _); first | (with_reducible refine c_int ?_) | (with_reducible refine c_abs ?_) | (refine c_len rfl ?_) | (refine c_len (if_pos (by assumption)) ?_))
  | ((with_reducible show Op2 _ (rEqA _) _ _ _ _); refine o_eqA rfl ?_)
  | ((with_reducible show Op2 _ (rNeA _) _ _ _ _); refine o_neA rfl ?_)
  | ((with_reducible show Op2 _ (rInA _) _ (Dt.str _) (Dt.lst _) _); refine o_inAL rfl rfl ?_)
  | ((with_reducible show Op2 _ (rInA _) _ (Dt.str _) (Dt.tup _) _); refine o_inAT rfl rfl ?_)
  | ((with_reducible show Op2 _ (rI _ _) _ _ _ _); refine o_i (by walk_at "yc") ?_)
  | ((with_reducible show Op2 _ (rIx _) _ (Dt.tup _) _ _); refine o_ixAT (atI_toNat (by decide) rfl) ?_)
  | ((with_reducible show Op2 _ (rIx _) _ (Dt.lst _) _ _); refine o_ixAL (atI_toNat (by decide) rfl) ?_)
  | ((with_reducible show ∃ x, atI _ _ = some x ∧ _); refine ⟨_, rfl, ?_⟩)
  | ((with_reducible show ∃ x, ixN _ _ = some x ∧ _); refine ⟨_, rfl, ?_⟩)
  | ((with_reducible show List.length _ ≤ 100000 ∧ _); refine ⟨by (try simp only [List.length_cons, List.length_nil]); first | decide | omega, ?_⟩))
local macro_rules | `(tactic| walk_at "y") => `(tactic| first | walk_at "yo" | walk_at "ye" | walk_at "yv" | walk_at "ys" | walk_at "yd")
local macro_rules | `(tactic| walk_at "yx") => `(tactic| first | walk_at "yo" | walk_at "ye" | walk_at "yv" | walk_at "yd")
section
variable {P : Program} {w : World} {K : PySem.W.Frag} {mg : Str → Option Value} {base : Heap}

theorem ok__law_try (T : Tx K mg w) : FnOk P w K mg base CX0 5 T.a__law_try T.d__law_try ["_law_ask"] (spTry P w K mg base T.a_ImageError T.a_Missing 4) := by
  refine T.F__law_try.ok sc__law_try spAsk_len (fun cdv A outer s H vs Q E hr h => ⟨_, pss_one (ps_try_as2 (i := 1) (tb := fun W => tRet (tTup (tCons (tC (.str "")) (tCons (tAsk P w K mg base 4 W 0) tNil)))) (ts := fun a cls d => tRet (tTup (tCons (tXfA K a cls d "code" (tVar 1)) (tCons (tCallE a cls d (spField K T.a_ImageError T.a_Missing) (tCons (tVar 1) tNil)) tNil)))) rfl rfl sc__law_try.nd rfl rfl (by rfl) T.m_ImageError (by rfl) T.m_Missing
    (by intro W pn xe tk _; exact pss_one (ps_ret (pe_tup (pa_cons pe_str (pa_cons (pe_ask (k := 4) (i := 0) tk (hr.mono (by decide)) rfl (.inl rfl)) pa_nil)))))
    (by intro a oe cls d pn hz hf; exact pss_one (ps_ret (pe_tup (pa_cons (pe_xfA List.mem_cons_self hz hf (pv 1)) (pa_cons (pe_callE (k := 1) List.mem_cons_self hz hf (ok__law_field (P := P) (w := w) (base := base) T) (roomH_mark hr (by decide)) (by rfl) T.m__law_field T.k__law_field T.b__law_field spField_len (pa_cons (pv 1) pa_nil)) pa_nil)))))), ?_⟩)
  exact try_reads h
theorem ok__law_why (T : Tx K mg w) : FnOk P w K mg base CX0 6 T.a__law_why T.d__law_why ["_law_ask"] (spWhy P w K mg base T.a_ImageError T.a_Missing 4) := by
  have G__law_try := ok__law_try (P := P) (w := w) (base := base) T
  refine fn_why T.F__law_why sc__law_why (fun cdv A outer s H E hr => ⟨_, (pss_cons (ps_set (i := 1) sc__law_why.nd rfl (Or.inl rfl) (pe_call G__law_try (hr.mono (by decide)) (by rfl) T.m__law_try T.k__law_try T.b__law_try .nil pass0 (pa_cons (pv 0) pa_nil)))
      (pss_one (ps_ret (pe_ifExp (pt_cmpR (op_neA (K := K) hr.units) (pe_ix (ix_any (K := K)) (pv 1) pe_int (fun _ _ => rfl)) pe_str (nomark _)) (pv 1) (pe_tup (pa_cons pe_str (pa_cons pe_non pa_nil))))))), fun F0 H0 G Z g Pok Pe hG hZ ha => ?_⟩)
  dsimp only [cxOf, env0, env1, List.map, List.length, List.replicate, List.cons_append, List.nil_append, List.append, Nat.reduceAdd, Nat.reduceSub, Nat.zero_add]
  refine sm_seq (sm_set (ev_ask rfl hG hZ ha fun d hd => ?_))
  rcases hd with ⟨x, hx, rfl⟩ | ⟨code, xs, hp, hne, rfl⟩
  · repeat walk_at "y"
    exact .inl ⟨⟨x, hx⟩, rfl⟩
  · repeat walk_at "y"
    refine way_t (by show (!decide (code = ("" : Str))) = true; rw [decide_eq_false hne]; rfl) ?_
    repeat walk_at "y"
    exact .inr ⟨code, xs, hp, hne, rfl⟩
theorem ok__law_whys (T : Tx K mg w) : FnOk P w K mg base CX0 7 T.a__law_whys T.d__law_whys ["_law_asks"] (spWhys P w K mg base T.a_ImageError T.a_Missing 4) := by
  have G__law_why := ok__law_why (P := P) (w := w) (base := base) T
  refine fn_whys T.F__law_whys sc__law_whys (fun cdv A outer s H E hr => ⟨_, (pss_one (ps_ret (pe_lc (own := [("_law_ask", 1)]) (g := gName 1) rfl sc__law_whys.nd (pi_listA (K := K) (pv 0)) (blkOk_by (N := ["_law_asks", "_law_ask"]) (sc := defScope s__law_whys) (by decide +kernel)) (fun _ _ _ _ _ => (pg_name (i := 1) sc__law_whys.nd rfl (Or.inl rfl))) (fun _ _ _ _ _ => pts_nil) (fun _ _ _ _ _ => (pe_call G__law_why (hr.mono (by decide)) (by rfl) T.m__law_why T.k__law_why T.b__law_why .nil pass0 (pa_cons (pv 1) pa_nil)))))), fun F0 H0 G Z as hG hZ hl ha => ?_⟩)
  dsimp only [cxOf, env0, env1, List.map, List.length, List.replicate, List.cons_append, List.nil_append, List.append, Nat.reduceAdd, Nat.reduceSub, Nat.zero_add]
  refine sm_ret (EvO.ev (eo_lc (ei_list (ev_var rfl ⟨_, rfl, by rw [List.length_map]; exact hl, fun i acc => acc.length = i ∧ ∀ (k : Nat) q d, as[k]? = some q → acc[k]? = some d → whyD q.2.1 q.2.2 d, ⟨rfl, fun k q d _ e => by simp at e⟩, ?_, ?_⟩))))
  · rintro i x acc hx ⟨hl2, hw⟩
    obtain ⟨q, hq, rfl⟩ : ∃ q, as[i]? = some q ∧ Dt.ali q.1 = x := by simpa using hx
    refine tc_name (et_yes ⟨fun _ => ?_, fun z => nomatch z⟩)
    refine ev_ask rfl hG hZ (ha q (List.mem_of_getElem? hq)) fun d hd => ⟨by simp [hl2], fun k q' d' k1 k2 => ?_⟩
    by_cases hk : k < acc.length
    · rw [List.getElem?_append_left hk] at k2; exact hw k q' d' k1 k2
    · have hk2 : k = i := by
        have := (List.getElem?_eq_some_iff.mp k2).1
        simp at this; omega
      subst hk2
      rw [hq] at k1
      cases k1
      rw [List.getElem?_append_right (by omega), hl2] at k2
      simp at k2
      rw [← k2]
      exact hd
  · rintro acc ⟨hl2, hw⟩
    exact ⟨acc, rfl, by rw [hl2, List.length_map], hw⟩
end
end Law
namespace Law
open PySem L2 Y
local macro_rules | `(tactic| walk_at "yv") => `(tactic| ((with_reducible show Ev _ (tVar _) _ _); refine ev_var rfl ?_))
local macro_rules | `(tactic| walk_at "ys") => `(tactic| with_reducible first
  | refine sm_seq ?_ | refine sm_ret ?_ | refine sm_if ?_ | refine sm_set ?_ | refine sm_next ?_ | refine sm_par ?_ | refine sm_drop ?_ | refine sm_brk ?_ | refine sm_cont ?_)
local macro_rules | `(tactic| walk_at "ye") => `(tactic| with_reducible first
  | refine ev_op ?_ | refine ev_and ?_ | refine ev_or ?_ | refine ev_not ?_ | refine ev_if ?_ | refine ev_chain ?_ | refine ev_neg ?_ | refine ev_isInt ?_ | refine ev_isBool ?_ | refine ev_isStr ?_ | refine ev_isList ?_ | refine ev_isTuple ?_ | refine ev_isLT ?_ | refine ev_isDict ?_
  | refine ev_int ?_ | refine ev_str ?_ | refine ev_bl ?_ | refine ev_non ?_ | refine ev_call ?_ | refine ev_cb ?_ | refine ev_lst ?_ | refine ev_tup ?_ | refine ev_join ?_
  | refine ea_nil ?_ | refine ea_cons ?_
  | refine et_B ?_ | refine et_test ?_ | refine et_not ?_ | refine et_and ?_ | refine et_or ?_ | refine et_yes ?_
  | refine o_plusI ?_ | refine o_i0 ?_ | refine o_b0 ?_ | refine o_isN ?_ | refine o_notN ?_
  | refine bl_ex ?_ | refine int_ex ?_ | refine str_ex ?_ | refine lst_ex ?_ | refine tup_ex ?_)
local macro_rules | `(tactic| walk_at "yo") => `(tactic| first
  | ((with_reducible show Ev _ (tOp (rIx _) (tVar _) _) _ _); refine ev_ixOwn rfl ?_)
  | ((with_reducible show Ev _ (tCB _ (tCons (tVar _) tNil)) _ _); refine ev_lenOwn rfl ?_)
  | ((with_reducible show Sm _ (tAsg _ (gSub (tVar _) _ _)) _ _); refine sm_setItem rfl ?_)
  | ((with_reducible show Ev _ (tCall (spB _ _ _) _ _ _) _ _); refine ev_callB rfl rfl ?_))
local macro_rules | `(tactic| walk_at "yc") => `(tactic| first
  | ((with_reducible show CMul _ _); first | exact Or.inr ⟨by decide, by decide⟩ | exact Or.inl ⟨by decide, by decide⟩ | exact Or.inr ⟨by omega, by omega⟩ | exact Or.inl ⟨by omega, by omega⟩)
  | ((with_reducible show CDiv _ _); exact ⟨by first | decide | omega, by first | decide | omega⟩)
  | ((with_reducible show CPow _ _); exact ⟨by decide, by decide, by first | decide | omega⟩)
  | ((show (0 : Int) < _); first | decide | omega))
local macro_rules | `(tactic| walk_at "yd") => `(tactic| first
  | ((with_reducible show plainD _ = true ∧ _); refine ⟨by first | rfl | assumption, ?_⟩)
  | ((with_reducible show (_ = true → _) ∧ (_ = false → _)); first | refine way_t rfl ?_ | refine way_f rfl ?_ | refine way_t (by decide +kernel) ?_ | refine way_f (by decide +kernel) ?_)
  | ((with_reducible show Cal _ _ _ _ _); first | (with_reducible refine c_int ?_) | (with_reducible refine c_abs ?_) | (refine c_len rfl ?_) | (refine c_len (if_pos (by assumption)) ?_))
  | ((with_reducible show Op2 _ (rEqA _) _ _ _ _); refine o_eqA rfl ?_)
  | ((with_reducible show Op2 _ (rNeA _) _ _ _ _); refine o_neA rfl ?_)
  | ((with_reducible show Op2 _ (rInA _) _ (Dt.str _) (Dt.lst _) _); refine o_inAL rfl rfl ?_)
  | ((with_reducible show Op2 _ (rInA _) _ (Dt.str _) (Dt.tup _) _); refine o_inAT rfl rfl ?_)
  | ((with_reducible show Op2 _ (rI _ _) _ _ _ _); refine o_i (by walk_at "yc") ?_)
  | ((with_reducible show Op2 _ (rIx _) _ (Dt.tup _) _ _); refine o_ixAT (atI_toNat (by decide) rfl) ?_)
  | ((with_reducible show Op2 _ (rIx _) _ (Dt.lst _) _ _); refine o_ixAL (atI_toNat (by decide) rfl) ?_)
  | ((with_reducible show ∃ x, atI _ _ = some x ∧ _); refine ⟨_, rfl, ?_⟩)
  | ((with_reducible show ∃ x, ixN _ _ = some x ∧ _); refine ⟨_, rfl, ?_⟩)
  | ((with_reducible show List.length _ ≤ 100000 ∧ _); refine ⟨by (try simp only [List.length_cons, List.length_nil]); first | decide | omega, ?_⟩))
local macro_rules | `(tactic| walk_at "y") => `(tactic| first | walk_at "yo" | walk_at "ye" | walk_at "yv" | walk_at "ys" | walk_at "yd")
local macro_rules | `(tactic| walk_at "yx") => `(tactic| first | walk_at "yo" | walk_at "ye" | walk_at "yv" | walk_at "yd")

def codesL : List Str := ["fault", "halt", "high", "low", "add", "take", "load", "store", "jump", "ifzero", "call", "near", "jumpby", "callby", "back", "out"]
def codesD : List Dt := [.str "fault", .str "halt", .str "high", .str "low", .str "add", .str "take", .str "load", .str "store", .str "jump", .str "ifzero", .str "call", .str "near", .str "jumpby", .str "callby", .str "back", .str "out"]
def isCode (d : Dt) : Bool := match d with | .str z => decide (z ∈ codesL) | _ => false
def codeIx (z : Str) : Nat := codesL.findIdx (· == z)
theorem code_at {z : Str} (h : z ∈ codesL) : codesL[codeIx z]? = some z := by
  have key : ∀ z ∈ codesL, codesL[codeIx z]? = some z := by decide +kernel
  exact key z h
theorem codes_inj {i j : Nat} {w : Str} (h1 : codesL[i]? = some w) (h2 : codesL[j]? = some w) : i = j := by
  have key : ∀ i, i < 16 → ∀ j, j < 16 → codesL[i]? = codesL[j]? → i = j := by decide +kernel
  exact key i (List.getElem?_eq_some_iff.mp h1).1 j (List.getElem?_eq_some_iff.mp h2).1 (h1.trans h2.symm)
theorem code_le {z : Str} (h : z ∈ codesL) : codeIx z < 16 := (List.getElem?_eq_some_iff.mp (code_at h)).1
def cellD (j r s p : Int) : Int := j * 4096 + r * 1024 + s * 256 + p
def codeOf (n : Int) : Str := codesL.getD (n / 4096).toNat ""
theorem codeOf_at {n : Int} (h0 : 0 ≤ n) (h1 : n < 65536) : atI codesD (n / 4096) = some (.str (codeOf n)) ∧ codeOf n ∈ codesL ∧ (codeIx (codeOf n) : Int) = n / 4096 := by
  have key : ∀ i, i < 16 → codesL[i]? = some (codesL.getD i "") ∧ codesL.getD i "" ∈ codesL ∧ codeIx (codesL.getD i "") = i := by decide +kernel
  obtain ⟨i, hi⟩ : ∃ i : Nat, n / 4096 = (i : Int) := ⟨(n / 4096).toNat, by omega⟩
  have hi2 : i < 16 := by omega
  unfold codeOf
  rw [hi]
  obtain ⟨k1, k2, k3⟩ := key i hi2
  refine ⟨atI_toNat (by omega) ?_, k2, ?_⟩
  · show (codesL.map Dt.str)[((i : Nat) : Int).toNat]? = _
    rw [List.getElem?_map, Int.toNat_natCast, k1]; rfl
  · show (codeIx (codesL.getD i "") : Int) = i
    rw [k3]
/-- what cell_of lets out, what it answers -/
def cellO (x r s p : Dt) : Out := if isCode x = false then some (("InvalidName" : Str), [x]) else if isNum r 0 3 = false then some (("InvalidNumber" : Str), [r]) else if isNum s 0 3 = false then some (("InvalidNumber" : Str), [s]) else if isNum p 0 255 = false then some (("InvalidNumber" : Str), [p]) else none
def cellV (x r s p : Dt) : Dt := match x, r, s, p with
  | .str z, .int a, .int b, .int c => .int (cellD (codeIx z : Nat) a b c)
  | _, _, _, _ => .non
def partO (x : Dt) : Out := if isNum x 0 65535 = false then some (("InvalidNumber" : Str), [x]) else none
def partV (x : Dt) : Dt := match x with | .int n => .tup [.str (codeOf n), .int (n / 1024 % 4), .int (n / 256 % 4), .int (n % 256)] | _ => .non
theorem isNum_int {x : Dt} {l m : Int} (h : isNum x l m = true) : ∃ i : Int, x = .int i ∧ l ≤ i ∧ i ≤ m := by
  cases x with
  | int i =>
    have h : (decide (l ≤ i) && decide (i ≤ m)) = true := h
    rw [Bool.and_eq_true] at h
    exact ⟨i, rfl, of_decide_eq_true h.1, of_decide_eq_true h.2⟩
  | _ => cases h
theorem num_t {i l m : Int} (h : l ≤ i ∧ i ≤ m) : isNum (.int i) l m = true := by show (decide _ && decide _) = true; rw [decide_eq_true h.1, decide_eq_true h.2]; rfl
def errIs (CN CI : Addr) (o : Out) (C : Addr) (fds : List (Str × Dt)) : Prop := ∃ z, (o = some (("InvalidName" : Str), [z]) ∧ C = CN ∧ fds = xmk_InvalidName Dt.str [z]) ∨ (o = some (("InvalidNumber" : Str), [z]) ∧ C = CI ∧ fds = xmk_InvalidNumber Dt.str [z])
def cellPre (ds : List Dt) : Prop := ∃ x r s p, ds = [x, r, s, p] ∧ (plainD x = true ∧ plainD r = true ∧ plainD s = true ∧ plainD p = true)
def cellPost (ds : List Dt) (d : Dt) : Prop := ∃ x r s p, ds = [x, r, s, p] ∧ cellO x r s p = none ∧ d = cellV x r s p
def cellErr (CN CI : Addr) (ds : List Dt) (C : Addr) (fds : List (Str × Dt)) : Prop := ∃ x r s p, ds = [x, r, s, p] ∧ errIs CN CI (cellO x r s p) C fds
theorem cell_k {CN CI : Addr} {x r s p : Dt} {R : Dt → Prop} {PE : Addr → List (Str × Dt) → Prop} (h : plainD x = true ∧ plainD r = true ∧ plainD s = true ∧ plainD p = true) (h1 : cellO x r s p = none → R (cellV x r s p)) (h2 : ∀ C fds, errIs CN CI (cellO x r s p) C fds → PE C fds) :
    cellPre [x, r, s, p] ∧ (∀ d, cellPost [x, r, s, p] d → R d) ∧ ∀ C fds, cellErr CN CI [x, r, s, p] C fds → PE C fds :=
  ⟨⟨x, r, s, p, rfl, h⟩, fun d ⟨_, _, _, _, e, o, e2⟩ => by cases e; rw [e2]; exact h1 o, fun C fds ⟨_, _, _, _, e, o⟩ => by cases e; exact h2 C fds o⟩
theorem cell_none {z : Str} {a b c : Int} (hz : z ∈ codesL) (ha : 0 ≤ a ∧ a ≤ 3) (hb : 0 ≤ b ∧ b ≤ 3) (hc : 0 ≤ c ∧ c ≤ 255) : cellO (.str z) (.int a) (.int b) (.int c) = none := by
  have hC : isCode (.str z) = true := decide_eq_true hz
  rw [cellO, if_neg (by rw [hC]; decide), if_neg (by rw [num_t ha]; decide), if_neg (by rw [num_t hb]; decide), if_neg (by rw [num_t hc]; decide)]
theorem no_err {CN CI C : Addr} {o : Out} {fds : List (Str × Dt)} (h : o = none) (e : errIs CN CI o C fds) : False := by
  obtain ⟨z, ⟨e, _⟩ | ⟨e, _⟩⟩ := e <;> (rw [h] at e; cases e)
theorem cell_ok {CN CI : Addr} {z : Str} {a b c : Int} {R : Dt → Prop} (hz : z ∈ codesL) (ha : 0 ≤ a ∧ a ≤ 3) (hb : 0 ≤ b ∧ b ≤ 3) (hc : 0 ≤ c ∧ c ≤ 255) (h : R (.int (cellD (codeIx z : Nat) a b c))) :
    cellPre [.str z, .int a, .int b, .int c] ∧ (∀ d, cellPost [.str z, .int a, .int b, .int c] d → R d) ∧ ∀ C fds, cellErr CN CI [.str z, .int a, .int b, .int c] C fds → False :=
  cell_k (PE := fun _ _ => False) ⟨rfl, rfl, rfl, rfl⟩ (fun _ => h) fun _ _ e => no_err (cell_none hz ha hb hc) e
def partPre (ds : List Dt) : Prop := ∃ x, ds = [x] ∧ plainD x = true
def partPost (ds : List Dt) (d : Dt) : Prop := ∃ x, ds = [x] ∧ partO x = none ∧ d = partV x
def partErr (CN CI : Addr) (ds : List Dt) (C : Addr) (fds : List (Str × Dt)) : Prop := ∃ x, ds = [x] ∧ errIs CN CI (partO x) C fds
theorem part_k {CN CI : Addr} {x : Dt} {R : Dt → Prop} {PE : Addr → List (Str × Dt) → Prop} (h : plainD x = true) (h1 : partO x = none → R (partV x)) (h2 : ∀ C fds, errIs CN CI (partO x) C fds → PE C fds) :
    partPre [x] ∧ (∀ d, partPost [x] d → R d) ∧ ∀ C fds, partErr CN CI [x] C fds → PE C fds :=
  ⟨⟨x, rfl, h⟩, fun d ⟨_, e, o, e2⟩ => by cases e; rw [e2]; exact h1 o, fun C fds ⟨_, e, o⟩ => by cases e; exact h2 C fds o⟩
theorem part_none {n : Int} (h : 0 ≤ n ∧ n ≤ 65535) : partO (.int n) = none := by rw [partO, if_neg (by rw [num_t h]; decide)]
theorem part_ok {CN CI : Addr} {n : Int} {R : Dt → Prop} (h0 : 0 ≤ n ∧ n ≤ 65535) (h : R (.tup [.str (codeOf n), .int (n / 1024 % 4), .int (n / 256 % 4), .int (n % 256)])) :
    partPre [.int n] ∧ (∀ d, partPost [.int n] d → R d) ∧ ∀ C fds, partErr CN CI [.int n] C fds → False :=
  part_k (PE := fun _ _ => False) rfl (fun _ => h) fun _ _ e => no_err (part_none h0) e
def wordPost (ds : List Dt) (d : Dt) : Prop := ∃ x, ds = [x] ∧ d = .bl (isNum x 0 65535)
theorem word_k {x : Dt} {R : Dt → Prop} (hp : plainD x = true) (h : R (.bl (isNum x 0 65535))) : partPre [x] ∧ ∀ d, wordPost [x] d → R d := ⟨⟨x, rfl, hp⟩, fun d ⟨y, e, e2⟩ => by cases e; rw [e2]; exact h⟩
def int2 (ds : List Dt) : Prop := ∃ i j : Int, ds = [.int i, .int j]
def withPost (ds : List Dt) (d : Dt) : Prop := ∃ i j : Int, ds = [.int i, .int j] ∧ d = .int (i - i % 256 + j)
theorem with_k {i j : Int} {R : Dt → Prop} (h : R (.int (i - i % 256 + j))) : int2 [.int i, .int j] ∧ ∀ d, withPost [.int i, .int j] d → R d := ⟨⟨i, j, rfl⟩, fun d ⟨_, _, e, e2⟩ => by cases e; rw [e2]; exact h⟩
def codesPost (_ : List Dt) (d : Dt) : Prop := d = .lst codesD
theorem codes_k {R : Dt → Prop} (h : R (.lst codesD)) : nilPre [] ∧ ∀ d, codesPost [] d → R d := ⟨rfl, fun d e => by rw [e]; exact h⟩
section
variable {P : Program} {w : World} {K : PySem.W.Frag} {mg : Str → Option Value} {base : Heap}

theorem ok_is_number (T : Tx K mg w) : FnOk P w K mg base CX0 1 T.a_is_number T.d_is_number ["value", "least", "most"] (spD K numPre numPost) := by
  refine fn_data T.F_is_number sc_is_number (fun ds h => ?_) (fun cdv A outer s H E hr => ⟨_, (pss_one (ps_ret (pe_and (pe_callB (call_isiA (K := K)) (by rfl) T.n_isinstance PyProof.Rows.boot_isinstance (pa_cons (pv 0) (pa_cons (pe_bltn (v := .ty "int") (by rfl) T.n_int (by decide +kernel) rfl) pa_nil))) (pe_and (pe_not (pe_callB (call_isiA (K := K)) (by rfl) T.n_isinstance PyProof.Rows.boot_isinstance (pa_cons (pv 0) (pa_cons (pe_bltn (v := .ty "bool") (by rfl) T.n_bool (by decide +kernel) rfl) pa_nil)))) (pe_one (pe_chain op_le op_le (pv 1) (pv 0) (pv 2))))))), fun F0 H0 ds h => ?_⟩)
  · obtain ⟨x, l, m, rfl, _⟩ := h; rfl
  · obtain ⟨x, l, m, rfl, hx⟩ := h
    dsimp only [cxOf, env0, env1, List.map, List.length, List.replicate, List.cons_append, List.nil_append, List.append, Nat.reduceAdd, Nat.reduceSub, Nat.zero_add]
    cases x with
    | obj _ _ _ => cases hx
    | ali _ => cases hx
    | int i =>
      repeat walk_at "y"
      refine ways (fun h => ?_) (fun h => ?_)
      · repeat walk_at "y"
        exact ⟨_, l, m, rfl, by show _ = Dt.bl (decide (l ≤ i) && decide (i ≤ m)); rw [h]; rfl⟩
      · repeat walk_at "y"
        exact ⟨_, l, m, rfl, by show _ = Dt.bl (decide (l ≤ i) && decide (i ≤ m)); rw [h]; rfl⟩
    | _ =>
      repeat walk_at "y"
      exact ⟨_, l, m, rfl, rfl⟩

theorem ok__law_within (T : Tx K mg w) : FnOk P w K mg base CX0 1 T.a__law_within T.d__law_within ["_law_thing", "_law_low_y", "_law_high_y"] (spD K numPre numPost) := by
  refine fn_data T.F__law_within sc__law_within (fun ds h => ?_) (fun cdv A outer s H E hr => ⟨_, (pss_one (ps_ret (pe_and (pe_callB (call_isiA (K := K)) (by rfl) T.n_isinstance PyProof.Rows.boot_isinstance (pa_cons (pv 0) (pa_cons (pe_bltn (v := .ty "int") (by rfl) T.n_int (by decide +kernel) rfl) pa_nil))) (pe_and (pe_not (pe_callB (call_isiA (K := K)) (by rfl) T.n_isinstance PyProof.Rows.boot_isinstance (pa_cons (pv 0) (pa_cons (pe_bltn (v := .ty "bool") (by rfl) T.n_bool (by decide +kernel) rfl) pa_nil)))) (pe_and (pe_cmpR op_le (pv 1) (pv 0) (nomark _)) (pe_one (pe_cmpR op_le (pv 0) (pv 2) (nomark _)))))))), fun F0 H0 ds h => ?_⟩)
  · obtain ⟨x, l, m, rfl, _⟩ := h; rfl
  · obtain ⟨x, l, m, rfl, hx⟩ := h
    dsimp only [cxOf, env0, env1, List.map, List.length, List.replicate, List.cons_append, List.nil_append, List.append, Nat.reduceAdd, Nat.reduceSub, Nat.zero_add]
    cases x with
    | obj _ _ _ => cases hx
    | ali _ => cases hx
    | int i =>
      repeat walk_at "y"
      refine ways (fun h => ?_) (fun h => ?_)
      · repeat walk_at "y"
        exact ⟨_, l, m, rfl, by show _ = Dt.bl (decide (l ≤ i) && decide (i ≤ m)); rw [h]; rfl⟩
      · repeat walk_at "y"
        exact ⟨_, l, m, rfl, by show _ = Dt.bl (decide (l ≤ i) && decide (i ≤ m)); rw [h]; rfl⟩
    | _ =>
      repeat walk_at "y"
      exact ⟨_, l, m, rfl, rfl⟩

theorem ok_is_word (T : Tx K mg w) : FnOk P w K mg base CX0 2 T.a_is_word T.d_is_word ["value"] (spD K partPre wordPost) := by
  have G_is_number := ok_is_number (P := P) (w := w) (base := base) T
  refine fn_data T.F_is_word sc_is_word (fun ds h => ?_) (fun cdv A outer s H E hr => ⟨_, (pss_one (ps_ret (pe_call G_is_number (hr.mono (by decide)) (by rfl) T.m_is_number T.k_is_number T.b_is_number .nil pass0 (pa_cons (pv 0) (pa_cons pe_int (pa_cons (pe_glob (v := .int 65535) (by rfl) T.m_MOST_WORD T.r_MOST_WORD) pa_nil)))))), fun F0 H0 ds h => ?_⟩)
  · obtain ⟨x, rfl, _⟩ := h; rfl
  · obtain ⟨x, rfl, hx⟩ := h
    dsimp only [cxOf, env0, env1, List.map, List.length, List.replicate, List.cons_append, List.nil_append, List.append, Nat.reduceAdd, Nat.reduceSub, Nat.zero_add]
    repeat walk_at "y"
    exact num_k hx ⟨x, rfl, rfl⟩
theorem ok_with_part (T : Tx K mg w) : FnOk P w K mg base CX0 1 T.a_with_part T.d_with_part ["cell", "part"] (spD K int2 withPost) := by
  refine fn_data T.F_with_part sc_with_part (fun ds h => ?_) (fun cdv A outer s H E hr => ⟨_, (pss_one (ps_ret (pe_op (op_plus (K := K)) (pe_op op_sub (pv 0) (pe_op op_mod (pv 0) (pe_op (op_plus (K := K)) pe_int (pe_glob (v := .int 255) (by rfl) T.m_MOST_PART T.r_MOST_PART)))) (pv 1)))), fun F0 H0 ds h => ?_⟩)
  · obtain ⟨i, j, rfl⟩ := h; rfl
  · obtain ⟨i, j, rfl⟩ := h
    dsimp only [cxOf, env0, env1, List.map, List.length, List.replicate, List.cons_append, List.nil_append, List.append, Nat.reduceAdd, Nat.reduceSub, Nat.zero_add]
    repeat walk_at "y"
    exact ⟨_, _, rfl, rfl⟩
theorem ok__law_codes (T : Tx K mg w) : FnOk P w K mg base CX0 1 T.a__law_codes T.d__law_codes [] (spD K nilPre codesPost) := by
  refine fn_data T.F__law_codes sc__law_codes (fun ds h => ?_) (fun cdv A outer s H E hr => ⟨_, (pss_cons (ps_set (i := 0) sc__law_codes.nd rfl (Or.inl rfl) (pe_lst (pa_cons pe_str (pa_cons pe_str (pa_cons pe_str (pa_cons pe_str (pa_cons pe_str (pa_cons pe_str (pa_cons pe_str (pa_cons pe_str pa_nil))))))))))
      (pss_one (ps_ret (pe_op (op_plus (K := K)) (pv 0) (pe_lst (pa_cons pe_str (pa_cons pe_str (pa_cons pe_str (pa_cons pe_str (pa_cons pe_str (pa_cons pe_str (pa_cons pe_str (pa_cons pe_str pa_nil))))))))))))), fun F0 H0 ds h => ?_⟩)
  · cases h; rfl
  · cases h
    dsimp only [cxOf, env0, env1, List.map, List.length, List.replicate, List.cons_append, List.nil_append, List.append, Nat.reduceAdd, Nat.reduceSub, Nat.zero_add]
    repeat walk_at "y"
    refine o_plusL (by decide) ?_
    exact rfl
end
end Law
namespace Law
open PySem L2 Y
local macro_rules | `(tactic| walk_at "yv") => `(tactic| ((with_reducible show Ev _ (tVar _) _ _); refine ev_var rfl ?_))
local macro_rules | `(tactic| walk_at "ys") => `(tactic| with_reducible first
  | refine sm_seq ?_ | refine sm_ret ?_ | refine sm_if ?_ | refine sm_set ?_ | refine sm_next ?_ | refine sm_par ?_ | refine sm_drop ?_ | refine sm_brk ?_ | refine sm_cont ?_)
local macro_rules | `(tactic| walk_at "ye") => `(tactic| with_reducible first
  | refine ev_op ?_ | refine ev_and ?_ | refine ev_or ?_ | refine ev_not ?_ | refine ev_if ?_ | refine ev_chain ?_ | refine ev_neg ?_ | refine ev_isInt ?_ | refine ev_isBool ?_ | refine ev_isStr ?_ | refine ev_isList ?_ | refine ev_isTuple ?_ | refine ev_isLT ?_ | refine ev_isDict ?_
  | refine ev_int ?_ | refine ev_str ?_ | refine ev_bl ?_ | refine ev_non ?_ | refine ev_call ?_ | refine ev_cb ?_ | refine ev_lst ?_ | refine ev_tup ?_ | refine ev_join ?_
  | refine ea_nil ?_ | refine ea_cons ?_
  | refine et_B ?_ | refine et_test ?_ | refine et_not ?_ | refine et_and ?_ | refine et_or ?_ | refine et_yes ?_
  | refine o_plusI ?_ | refine o_i0 ?_ | refine o_b0 ?_ | refine o_isN ?_ | refine o_notN ?_
  | refine bl_ex ?_ | refine int_ex ?_ | refine str_ex ?_ | refine lst_ex ?_ | refine tup_ex ?_)
local macro_rules | `(tactic| walk_at "yo") => `(tactic| first
  | ((with_reducible show Ev _ (tOp (rIx _) (tVar _) _) _ _); refine ev_ixOwn rfl ?_)
  | ((with_reducible show Ev _ (tCB _ (tCons (tVar _) tNil)) _ _); refine ev_lenOwn rfl ?_)
  | ((with_reducible show Sm _ (tAsg _ (gSub (tVar _) _ _)) _ _); refine sm_setItem rfl ?_)
  | ((with_reducible show Ev _ (tCall (spB _ _ _) _ _ _) _ _); refine ev_callB rfl rfl ?_))
local macro_rules | `(tactic| walk_at "yc") => `(tactic| first
  | ((with_reducible show CMul _ _); first | exact Or.inr ⟨by decide, by decide⟩ | exact Or.inl ⟨by decide, by decide⟩ | exact Or.inr ⟨by omega, by omega⟩ | exact Or.inl ⟨by omega, by omega⟩)
  | ((with_reducible show CDiv _ _); exact ⟨by first | decide | omega, by first | decide | omega⟩)
  | ((with_reducible show CPow _ _); exact ⟨by decide, by decide, by first | decide | omega⟩)
  | ((show (0 : Int) < _); first | decide | omega))
local macro_rules | `(tactic| walk_at "yd") => `(tactic| first
  | ((with_reducible show plainD _ = true ∧ _); refine ⟨by first | rfl | assumption, ?_⟩)
  | ((with_reducible show (_ = true → _) ∧ (_ = false → _)); first | refine way_t rfl ?_ | refine way_f rfl ?_ | refine way_t (by decide +kernel) ?_ | refine way_f (by decide +kernel) ?_)
  | ((with_reducible show Cal _ _ _ _ _); first | (with_reducible refine c_int ?_) | (with_reducible refine c_abs ?_) | (refine c_len rfl ?_) | (refine c_len (if_pos (by assumption)) ?_))
  | ((with_reducible show Op2 _ (rEqA _) _ _ _ _); refine o_eqA rfl ?_)
  | ((with_reducible show Op2 _ (rNeA _) _ _ _ _); refine o_neA rfl ?_)
  | ((with_reducible show Op2 _ (rInA _) _ (Dt.str _) (Dt.lst _) _); refine o_inAL rfl rfl ?_)
  | ((with_reducible show Op2 _ (rInA _) _ (Dt.str _) (Dt.tup _) _); refine o_inAT rfl rfl ?_)
  | ((with_reducible show Op2 _ (rI _ _) _ _ _ _); refine o_i (by walk_at "yc") ?_)
  | ((with_reducible show Op2 _ (rIx _) _ (Dt.tup _) _ _); refine o_ixAT (atI_toNat (by decide) rfl) ?_)
  | ((with_reducible show Op2 _ (rIx _) _ (Dt.lst _) _ _); refine o_ixAL (atI_toNat (by decide) rfl) ?_)
  | ((with_reducible show ∃ x, atI _ _ = some x ∧ _); refine ⟨_, rfl, ?_⟩)
  | ((with_reducible show ∃ x, ixN _ _ = some x ∧ _); refine ⟨_, rfl, ?_⟩)
  | ((with_reducible show List.length _ ≤ 100000 ∧ _); refine ⟨by (try simp only [List.length_cons, List.length_nil]); first | decide | omega, ?_⟩))
local macro_rules | `(tactic| walk_at "y") => `(tactic| first | walk_at "yo" | walk_at "ye" | walk_at "yv" | walk_at "ys" | walk_at "yd")
local macro_rules | `(tactic| walk_at "yx") => `(tactic| first | walk_at "yo" | walk_at "ye" | walk_at "yv" | walk_at "yd")
section
variable {P : Program} {w : World} {K : PySem.W.Frag} {mg : Str → Option Value} {base : Heap}

theorem ok_cell_of (T : Tx K mg w) : FnOk P w K mg base (CXX P w) 3 T.a_cell_of T.d_cell_of ["word", "r", "s", "part"] (spR K cellPre cellPost (cellErr T.a_InvalidName T.a_InvalidNumber)) := by
  have G_is_number := ok_is_number (P := P) (w := w) (base := base) T
  have G_InvalidName___init__ := ok_InvalidName___init__ (P := P) (w := w) (base := base) T
  have G_InvalidNumber___init__ := ok_InvalidNumber___init__ (P := P) (w := w) (base := base) T
  refine fn_raiseD T.F_cell_of sc_cell_of (fun ds h => ?_) (fun cdv A outer s H E hr => ⟨_, (pss_cons (ps_if (PW.pt (pw_or (pt_not (pt_val (pe_callB (call_isiA (K := K)) (by rfl) T.n_isinstance PyProof.Rows.boot_isinstance (pa_cons (pv 0) (pa_cons (pe_bltn (v := .ty "str") (by rfl) T.n_str (by decide +kernel) rfl) pa_nil))))) (pw_or1 (pt_cmpR (op_niA (K := K)) (pv 0) (pe_glob (v := .ref T.a_CODES) (by rfl) T.m_CODES rfl) (by rfl))))) (pss_one (ps_raise rfl takesE (pmk_oex T.oe_InvalidName T.i_InvalidName T.ty_InvalidName G_InvalidName___init__ (hr.mono (by decide)) T.b_InvalidName___init__ .nil pass0 (by rfl) T.m_InvalidName (pa_cons (pv 0) pa_nil)))) pss_nil)
      (pss_cons (ps_for ownE rfl (pi_tupA (K := K) (pe_tup (pa_cons (pe_tup (pa_cons (pv 1) (pa_cons (pe_glob (v := .int 3) (by rfl) T.m_MOST_REGISTER T.r_MOST_REGISTER) pa_nil))) (pa_cons (pe_tup (pa_cons (pv 2) (pa_cons (pe_glob (v := .int 3) (by rfl) T.m_MOST_REGISTER T.r_MOST_REGISTER) pa_nil))) (pa_cons (pe_tup (pa_cons (pv 3) (pa_cons (pe_glob (v := .int 255) (by rfl) T.m_MOST_PART T.r_MOST_PART) pa_nil))) pa_nil))))) (pg_tupA (K := K) rfl (pgs_cons (pg_name (i := 4) sc_cell_of.nd rfl (Or.inl rfl)) (pgs_cons (pg_name (i := 5) sc_cell_of.nd rfl (Or.inl rfl)) pgs_nil))) (pss_one (ps_if (pt_not (pt_val (pe_call G_is_number (hr.mono (by decide)) (by rfl) T.m_is_number T.k_is_number T.b_is_number .nil pass0 (pa_cons (pv 4) (pa_cons pe_int (pa_cons (pv 5) pa_nil)))))) (pss_one (ps_raise rfl takesE (pmk_oex T.oe_InvalidNumber T.i_InvalidNumber T.ty_InvalidNumber G_InvalidNumber___init__ (hr.mono (by decide)) T.b_InvalidNumber___init__ .nil pass0 (by rfl) T.m_InvalidNumber (pa_cons (pv 4) pa_nil)))) pss_nil)))
      (pss_one (ps_ret (pe_op (op_plus (K := K)) (pe_op (op_plus (K := K)) (pe_op (op_plus (K := K)) (pe_op op_mul (pe_bm PySem.F.plainAttrs_tuple PySem.F.slot_tuple_index PySem.F.type_tuple_index (mt_tupIndexA (K := K)) (pe_glob (v := .ref T.a_CODES) (by rfl) T.m_CODES rfl) (pa_cons (pv 0) pa_nil)) (pe_glob (v := .int 4096) (by rfl) T.m_CODE_UNIT T.r_CODE_UNIT)) (pe_op op_mul (pv 1) (pe_glob (v := .int 1024) (by rfl) T.m_R_UNIT T.r_R_UNIT))) (pe_op op_mul (pv 2) (pe_glob (v := .int 256) (by rfl) T.m_S_UNIT T.r_S_UNIT))) (pv 3)))))), fun F0 H0 ds h hx => ?_⟩)
  · obtain ⟨x, r, s, p, rfl, _⟩ := h; rfl
  obtain ⟨x, r, q, p, rfl, hpx, hpr, hpq, hpp⟩ := h
  dsimp only [cxOf, env0, env1, List.map, List.length, List.replicate, List.cons_append, List.nil_append, List.append, Nat.reduceAdd, Nat.reduceSub, Nat.zero_add]
  cases x with
  | obj _ _ _ => cases hpx
  | ali _ => cases hpx
  | str z =>
    refine sm_seq (sm_if ?_)
    repeat walk_at "yx"
    refine ev_k T.kd_CODES (o_niAT rfl rfl ?_)
    have hin := inD_text (z := z) (ls := codesL)
    have hin2 : inD (.str z) [.str "fault", .str "halt", .str "high", .str "low", .str "add", .str "take", .str "load", .str "store", .str "jump", .str "ifzero", .str "call", .str "near", .str "jumpby", .str "callby", .str "back", .str "out"] = decide (z ∈ codesL) := hin
    rw [hin2]
    refine bl_ex (ways (fun h => ?_) (fun h => ?_))
    · have h : isCode (.str z) = false := by simpa [isCode] using h
      refine sm_raise hx (by decide) xrel_InvalidName ?_
      repeat walk_at "yx"
      exact ⟨rfl, _, _, _, _, rfl, .str z, .inl ⟨by rw [cellO, if_pos h], rfl, rfl⟩⟩
    have hz : z ∈ codesL := by simpa using h
    have hC : isCode (.str z) = true := decide_eq_true hz
    refine sm_next ?_
    refine sm_seq (sm_forU (ei_tup ?_))
    repeat walk_at "yx"
    refine tg_tup rfl (tgs_cons (tg_name (tgs_cons (tg_name (tgs_nil ?_)))))
    refine sm_if ?_
    repeat walk_at "yx"
    refine num_k hpr (bl_ex ?_)
    refine ways (fun h => ?_) (fun h => ?_)
    · have h : isNum r 0 3 = false := by simpa using h
      refine sm_raise hx (by decide) xrel_InvalidNumber ?_
      repeat walk_at "yx"
      exact ⟨rfl, _, _, _, _, rfl, r, .inr ⟨by rw [cellO, if_neg (by rw [hC]; decide), if_pos h], rfl, rfl⟩⟩
    have hr : isNum r 0 3 = true := by simpa using h
    refine sm_next ?_
    refine tg_tup rfl (tgs_cons (tg_name (tgs_cons (tg_name (tgs_nil ?_)))))
    refine sm_if ?_
    repeat walk_at "yx"
    refine num_k hpq (bl_ex ?_)
    refine ways (fun h => ?_) (fun h => ?_)
    · have h : isNum q 0 3 = false := by simpa using h
      refine sm_raise hx (by decide) xrel_InvalidNumber ?_
      repeat walk_at "yx"
      exact ⟨rfl, _, _, _, _, rfl, q, .inr ⟨by rw [cellO, if_neg (by rw [hC]; decide), if_neg (by rw [hr]; decide), if_pos h], rfl, rfl⟩⟩
    have hq : isNum q 0 3 = true := by simpa using h
    refine sm_next ?_
    refine tg_tup rfl (tgs_cons (tg_name (tgs_cons (tg_name (tgs_nil ?_)))))
    refine sm_if ?_
    repeat walk_at "yx"
    refine num_k hpp (bl_ex ?_)
    refine ways (fun h => ?_) (fun h => ?_)
    · have h : isNum p 0 255 = false := by simpa using h
      refine sm_raise hx (by decide) xrel_InvalidNumber ?_
      repeat walk_at "yx"
      exact ⟨rfl, _, _, _, _, rfl, p, .inr ⟨by rw [cellO, if_neg (by rw [hC]; decide), if_neg (by rw [hr]; decide), if_neg (by rw [hq]; decide), if_pos h], rfl, rfl⟩⟩
    have hp : isNum p 0 255 = true := by simpa using h
    refine sm_next ?_
    refine sm_ret (ev_op (ev_op (ev_op (ev_op (ev_tupIndex T.kt_CODES (ys := codesL) T.kd_CODES (ev_var rfl ⟨z, codeIx z, rfl, code_at hz, fun m hm e => absurd (codes_inj e (code_at hz)) (by omega), ?_⟩))))))
    have hj2 := code_le hz
    obtain ⟨ri, rfl, r1, r2⟩ := isNum_int hr
    obtain ⟨qi, rfl, q1, q2⟩ := isNum_int hq
    obtain ⟨pi, rfl, p1, p2⟩ := isNum_int hp
    repeat walk_at "yx"
    exact ⟨_, _, _, _, rfl, cell_none hz ⟨r1, r2⟩ ⟨q1, q2⟩ ⟨p1, p2⟩, rfl⟩
  | _ =>
    refine sm_seq (sm_if ?_)
    repeat walk_at "yx"
    refine sm_raise hx (by decide) xrel_InvalidName ?_
    repeat walk_at "yx"
    exact ⟨rfl, _, _, _, _, rfl, _, .inl ⟨rfl, rfl, rfl⟩⟩
theorem ok_parted (T : Tx K mg w) : FnOk P w K mg base (CXX P w) 3 T.a_parted T.d_parted ["cell"] (spR K partPre partPost (partErr T.a_InvalidName T.a_InvalidNumber)) := by
  have G_is_word := ok_is_word (P := P) (w := w) (base := base) T
  have G_InvalidNumber___init__ := ok_InvalidNumber___init__ (P := P) (w := w) (base := base) T
  refine fn_raise T.F_parted sc_parted (fun ds h => ?_) (fun cdv A outer s H E hr => ⟨_, (pss_cons (ps_if (pt_not (pt_val (pe_call G_is_word (hr.mono (by decide)) (by rfl) T.m_is_word T.k_is_word T.b_is_word .nil pass0 (pa_cons (pv 0) pa_nil)))) (pss_one (ps_raise rfl takesE (pmk_oex T.oe_InvalidNumber T.i_InvalidNumber T.ty_InvalidNumber G_InvalidNumber___init__ (hr.mono (by decide)) T.b_InvalidNumber___init__ .nil pass0 (by rfl) T.m_InvalidNumber (pa_cons (pv 0) pa_nil)))) pss_nil)
      (pss_one (ps_ret (pe_tup (pa_cons (pe_ix (ix_any (K := K)) (pe_glob (v := .ref T.a_CODES) (by rfl) T.m_CODES rfl) (pe_op op_fdiv (pv 0) (pe_glob (v := .int 4096) (by rfl) T.m_CODE_UNIT T.r_CODE_UNIT)) (fun _ _ => rfl)) (pa_cons (pe_op op_mod (pe_op op_fdiv (pv 0) (pe_glob (v := .int 1024) (by rfl) T.m_R_UNIT T.r_R_UNIT)) (pe_op (op_plus (K := K)) pe_int (pe_glob (v := .int 3) (by rfl) T.m_MOST_REGISTER T.r_MOST_REGISTER))) (pa_cons (pe_op op_mod (pe_op op_fdiv (pv 0) (pe_glob (v := .int 256) (by rfl) T.m_S_UNIT T.r_S_UNIT)) (pe_op (op_plus (K := K)) pe_int (pe_glob (v := .int 3) (by rfl) T.m_MOST_REGISTER T.r_MOST_REGISTER))) (pa_cons (pe_op op_mod (pv 0) (pe_op (op_plus (K := K)) pe_int (pe_glob (v := .int 255) (by rfl) T.m_MOST_PART T.r_MOST_PART))) pa_nil)))))))), fun F0 H0 ds h hx => ?_⟩)
  · obtain ⟨x, rfl, _⟩ := h; rfl
  · obtain ⟨x, rfl, hpx⟩ := h
    dsimp only [cxOf, env0, env1, List.map, List.length, List.replicate, List.cons_append, List.nil_append, List.append, Nat.reduceAdd, Nat.reduceSub, Nat.zero_add]
    repeat walk_at "y"
    refine word_k hpx (bl_ex ?_)
    refine ways (fun h => ?_) (fun h => ?_)
    · have h : isNum x 0 65535 = false := by simpa using h
      refine sm_raise hx (by decide) xrel_InvalidNumber ?_
      repeat walk_at "yx"
      exact ⟨rfl, _, rfl, x, .inr ⟨by rw [partO, if_pos h], rfl, rfl⟩⟩
    have hX : isNum x 0 65535 = true := by simpa using h
    obtain ⟨n, rfl, n0, n1⟩ := isNum_int hX
    refine sm_next ?_
    refine sm_ret (ev_tup (ea_cons (ev_op (ev_k T.kd_CODES ?_))))
    repeat walk_at "yx"
    refine o_ixAT (codeOf_at n0 (by omega)).1 ?_
    repeat walk_at "yx"
    exact ⟨_, rfl, part_none ⟨n0, n1⟩, rfl⟩
end
end Law
namespace Law
open PySem L2 Y
local macro_rules | `(tactic| walk_at "yv") => `(tactic| ((with_reducible show Ev _ (tVar _) _ _); refine ev_var rfl ?_))
local macro_rules | `(tactic| walk_at "ys") => `(tactic| with_reducible first
  | refine sm_seq ?_ | refine sm_ret ?_ | refine sm_if ?_ | refine sm_set ?_ | refine sm_next ?_ | refine sm_par ?_ | refine sm_drop ?_ | refine sm_brk ?_ | refine sm_cont ?_)
local macro_rules | `(tactic| walk_at "ye") => `(tactic| with_reducible first
  | refine ev_op ?_ | refine ev_and ?_ | refine ev_or ?_ | refine ev_not ?_ | refine ev_if ?_ | refine ev_chain ?_ | refine ev_neg ?_ | refine ev_isInt ?_ | refine ev_isBool ?_ | refine ev_isStr ?_ | refine ev_isList ?_ | refine ev_isTuple ?_ | refine ev_isLT ?_ | refine ev_isDict ?_
  | refine ev_int ?_ | refine ev_str ?_ | refine ev_bl ?_ | refine ev_non ?_ | refine ev_call ?_ | refine ev_cb ?_ | refine ev_lst ?_ | refine ev_tup ?_ | refine ev_join ?_
  | refine ea_nil ?_ | refine ea_cons ?_
  | refine et_B ?_ | refine et_test ?_ | refine et_not ?_ | refine et_and ?_ | refine et_or ?_ | refine et_yes ?_
  | refine o_plusI ?_ | refine o_i0 ?_ | refine o_b0 ?_ | refine o_isN ?_ | refine o_notN ?_
  | refine bl_ex ?_ | refine int_ex ?_ | refine str_ex ?_ | refine lst_ex ?_ | refine tup_ex ?_)
local macro_rules | `(tactic| walk_at "yo") => `(tactic| first
  | ((with_reducible show Ev _ (tOp (rIx _) (tVar _) _) _ _); refine ev_ixOwn rfl ?_)
  | ((with_reducible show Ev _ (tCB _ (tCons (tVar _) tNil)) _ _); refine ev_lenOwn rfl ?_)
  | ((with_reducible show Sm _ (tAsg _ (gSub (tVar _) _ _)) _ _); refine sm_setItem rfl ?_)
  | ((with_reducible show Ev _ (tCall (spB _ _ _) _ _ _) _ _); refine ev_callB rfl rfl ?_))
local macro_rules | `(tactic| walk_at "yc") => `(tactic| first
  | ((with_reducible show CMul _ _); first | exact Or.inr ⟨by decide, by decide⟩ | exact Or.inl ⟨by decide, by decide⟩ | exact Or.inr ⟨by omega, by omega⟩ | exact Or.inl ⟨by omega, by omega⟩)
  | ((with_reducible show CDiv _ _); exact ⟨by first | decide | omega, by first | decide | omega⟩)
  | ((with_reducible show CPow _ _); exact ⟨by decide, by decide, by first | decide | omega⟩)
  | ((show (0 : Int) < _); first | decide | omega))
local macro_rules | `(tactic| walk_at "yd") => `(tactic| first
  | ((with_reducible show plainD _ = true ∧ _); refine ⟨by first | rfl | assumption, ?_⟩)
  | ((with_reducible show (_ = true → _) ∧ (_ = false → _)); first | refine way_t rfl ?_ | refine way_f rfl ?_ | refine way_t (by decide +kernel) ?_ | refine way_f (by decide +kernel) ?_)
  | ((with_reducible show Cal _ _ _ _ _); first | (with_reducible refine c_int ?_) | (with_reducible refine c_abs ?_) | (refine c_len rfl ?_) | (refine c_len (if_pos (by assumption)) ?_))
  | ((with_reducible show Op2 _ (rEqA _) _ _ _ _); refine o_eqA rfl ?_)
  | ((with_reducible show Op2 _ (rNeA _) _ _ _ _); refine o_neA rfl ?_)
  | ((with_reducible show Op2 _ (rInA _) _ (Dt.str _) (Dt.lst _) _); refine o_inAL rfl rfl ?_)
  | ((with_reducible show Op2 _ (rInA _) _ (Dt.str _) (Dt.tup _) _); refine o_inAT rfl rfl ?_)
  | ((with_reducible show Op2 _ (rI _ _) _ _ _ _); refine o_i (by walk_at "yc") ?_)
  | ((with_reducible show Op2 _ (rIx _) _ (Dt.tup _) _ _); refine o_ixAT (atI_toNat (by decide) rfl) ?_)
  | ((with_reducible show Op2 _ (rIx _) _ (Dt.lst _) _ _); refine o_ixAL (atI_toNat (by decide) rfl) ?_)
  | ((with_reducible show ∃ x, atI _ _ = some x ∧ _); refine ⟨_, rfl, ?_⟩)
  | ((with_reducible show ∃ x, ixN _ _ = some x ∧ _); refine ⟨_, rfl, ?_⟩)
  | ((with_reducible show List.length _ ≤ 100000 ∧ _); refine ⟨by (try simp only [List.length_cons, List.length_nil]); first | decide | omega, ?_⟩))
local macro_rules | `(tactic| walk_at "y") => `(tactic| first | walk_at "yo" | walk_at "ye" | walk_at "yv" | walk_at "ys" | walk_at "yd")
local macro_rules | `(tactic| walk_at "yx") => `(tactic| first | walk_at "yo" | walk_at "ye" | walk_at "yv" | walk_at "yd")

theorem tup4 {z : Str} {a b c a' b' c' : Int} (h1 : a = a') (h2 : b = b') (h3 : c = c') : Dt.tup [.str z, .int a, .int b, .int c] = .tup [.str z, .int a', .int b', .int c'] := by rw [h1, h2, h3]
theorem ixN_toNat {n : Nat} {i : Int} (h0 : 0 ≤ i) (h : i.toNat < n) : ixN n i = some i.toNat := by
  unfold ixN
  rw [if_pos h0, if_pos (by omega)]
def foursPre (ds : List Dt) : Prop := ∃ n : Int, ds = [.int n] ∧ 0 ≤ n ∧ n ≤ 65535
def foursPost (ds : List Dt) (d : Dt) : Prop := ∃ n : Int, ds = [.int n] ∧ d = .tup [.str (codeOf n), .int (n / 1024 % 4), .int (n / 256 % 4), .int (n % 256)]
theorem fours_k {n : Int} {R : Dt → Prop} (h0 : 0 ≤ n ∧ n ≤ 65535) (h : R (.tup [.str (codeOf n), .int (n / 1024 % 4), .int (n / 256 % 4), .int (n % 256)])) : foursPre [.int n] ∧ ∀ d, foursPost [.int n] d → R d := ⟨⟨n, rfl, h0⟩, fun d ⟨_, e, e2⟩ => by cases e; rw [e2]; exact h⟩
def duePre (ds : List Dt) : Prop := ∃ x r s p, ds = [.lst [x, r, s, p]] ∧ (plainD x = true ∧ plainD r = true ∧ plainD s = true ∧ plainD p = true)
def duePost (ds : List Dt) (d : Dt) : Prop := ∃ x r s p, ds = [.lst [x, r, s, p]] ∧ d = whyO (cellO x r s p)
theorem due_k {x r s p : Dt} {R : Dt → Prop} (h : plainD x = true ∧ plainD r = true ∧ plainD s = true ∧ plainD p = true) (k : R (whyO (cellO x r s p))) : duePre [.lst [x, r, s, p]] ∧ ∀ d, duePost [.lst [x, r, s, p]] d → R d := ⟨⟨x, r, s, p, rfl, h⟩, fun d ⟨_, _, _, _, e, e2⟩ => by cases e; rw [e2]; exact k⟩
section
variable {P : Program} {w : World} {K : PySem.W.Frag} {mg : Str → Option Value} {base : Heap}

theorem ok__law_odd (T : Tx K mg w) : FnOk P w K mg base CX0 3 T.a__law_odd T.d__law_odd ["_law_bag_here", "_law_more"] (spB K oddPre oddPost) := by
  have G__law_of := ok__law_of (P := P) (w := w) (base := base) T
  refine fn_bag T.F__law_odd sc__law_odd (fun ds h => ?_) (fun cdv A outer s H E hr => ⟨_, (pss_one (ps_ret (pe_call G__law_of (hr.mono (by decide)) (by rfl) T.m__law_of T.k__law_of T.b__law_of .nil pass0 (pa_cons (pv 0) (pa_cons (pe_op (op_plus (K := K)) (pe_lst (pa_cons pe_non (pa_cons pe_bl (pa_cons pe_bl (pa_cons pe_str (pa_cons pe_str (pa_cons (pe_un un_neg pe_int) (pa_cons pe_int (pa_cons (pe_tup pa_nil) (pa_cons (pe_lst pa_nil) (pa_cons (pe_tup (pa_cons pe_int pa_nil)) (pa_cons (pe_lst (pa_cons pe_str pa_nil)) (pa_cons pe_str (pa_cons (pe_tup (pa_cons pe_str (pa_cons pe_str pa_nil))) (pa_cons (pe_lst (pa_cons pe_non pa_nil)) pa_nil))))))))))))))) (pv 1)) pa_nil))))), fun F0 H0 b ds h => ?_⟩)
  · obtain ⟨x, rfl, _⟩ := h; rfl
  · obtain ⟨xs, rfl, h1⟩ := h
    dsimp only [cxOf, env0, env1, List.map, List.length, List.replicate, List.cons_append, List.nil_append, List.append, Nat.reduceAdd, Nat.reduceSub, Nat.zero_add]
    repeat walk_at "y"
    have hl : oddL.length = 14 := rfl
    refine o_plusL (by show oddL.length + _ ≤ _; omega) ?_
    repeat walk_at "y"
    refine ⟨⟨_, rfl, by show 0 < (oddL ++ xs).length; rw [List.length_append]; omega, by show (oddL ++ xs).length ≤ _; rw [List.length_append]; omega⟩, ?_⟩
    rintro d ⟨x, e, hm⟩
    cases e
    exact ⟨xs, rfl, hm⟩

theorem ok__law_number (T : Tx K mg w) : FnOk P w K mg base CX0 3 T.a__law_number T.d__law_number ["_law_bag_here"] (spB K nilPre numberPost) := by
  have G__law_draw := ok__law_draw (P := P) (w := w) (base := base) T
  have G__law_of := ok__law_of (P := P) (w := w) (base := base) T
  refine fn_bag T.F__law_number sc__law_number (fun ds h => ?_) (fun cdv A outer s H E hr => ⟨_, (pss_one (ps_ret (pe_call G__law_of (hr.mono (by decide)) (by rfl) T.m__law_of T.k__law_of T.b__law_of .nil pass0 (pa_cons (pv 0) (pa_cons (pe_lst (pa_cons pe_int (pa_cons pe_int (pa_cons pe_int (pa_cons pe_int (pa_cons pe_int (pa_cons pe_int (pa_cons pe_int (pa_cons (pe_call G__law_draw (hr.mono (by decide)) (by rfl) T.m__law_draw T.k__law_draw T.b__law_draw .nil pass0 (pa_cons (pv 0) (pa_cons pe_int pa_nil))) (pa_cons (pe_call G__law_draw (hr.mono (by decide)) (by rfl) T.m__law_draw T.k__law_draw T.b__law_draw .nil pass0 (pa_cons (pv 0) (pa_cons pe_int pa_nil))) (pa_cons (pe_call G__law_draw (hr.mono (by decide)) (by rfl) T.m__law_draw T.k__law_draw T.b__law_draw .nil pass0 (pa_cons (pv 0) (pa_cons pe_int pa_nil))) pa_nil))))))))))) pa_nil))))), fun F0 H0 b ds h => ?_⟩)
  · cases h; rfl
  · cases h
    dsimp only [cxOf, env0, env1, List.map, List.length, List.replicate, List.cons_append, List.nil_append, List.append, Nat.reduceAdd, Nat.reduceSub, Nat.zero_add]
    repeat walk_at "y"
    refine draw_k ⟨by decide, by decide⟩ fun i1 a1 b1 => ?_
    repeat walk_at "y"
    refine draw_k ⟨by decide, by decide⟩ fun i2 a2 b2 => ?_
    repeat walk_at "y"
    refine draw_k ⟨by decide, by decide⟩ fun i3 a3 b3 => ?_
    repeat walk_at "y"
    refine of_k ⟨by show 0 < 10; decide, by show 10 ≤ 100000; decide⟩ fun d hd => ?_
    simp only [List.mem_cons, List.not_mem_nil, or_false] at hd
    rcases hd with rfl | rfl | rfl | rfl | rfl | rfl | rfl | rfl | rfl | rfl <;> exact ⟨_, rfl, by omega, by omega⟩

theorem ok__law_fours (T : Tx K mg w) : FnOk P w K mg base CX0 2 T.a__law_fours T.d__law_fours ["_law_number_y"] (spD K foursPre foursPost) := by
  have G__law_codes := ok__law_codes (P := P) (w := w) (base := base) T
  refine fn_data T.F__law_fours sc__law_fours (fun ds h => ?_) (fun cdv A outer s H E hr => ⟨_, (pss_cons (ps_set (i := 1) sc__law_fours.nd rfl (Or.inl rfl) (pe_lst pa_nil))
      (pss_cons (ps_for PassesOwn.never rfl (pi_listA (K := K) (pe_lst (pa_cons pe_int (pa_cons pe_int (pa_cons pe_int (pa_cons pe_int pa_nil)))))) (pg_name (i := 2) sc__law_fours.nd rfl (Or.inl rfl)) (pss_one (ps_par rfl sc__law_fours.nd (i := 1) (j := 0) rfl rfl (by decide) rfl rfl (pa_cons (pe_op (op_plus (K := K)) (pe_lst (pa_cons (pe_op op_sub (pv 0) (pe_op op_mul (pe_op op_fdiv (pv 0) (pv 2)) (pv 2))) pa_nil)) (pv 1)) (pa_cons (pe_op op_fdiv (pv 0) (pv 2)) pa_nil)) rfl)))
      (pss_one (ps_ret (pe_tup (pa_cons (pe_ix (ix_any (K := K)) (pe_call0 G__law_codes (hr.mono (by decide)) (by rfl) T.m__law_codes T.k__law_codes T.b__law_codes .nil pass0) (pe_ix (ix_any (K := K)) (pv 1) pe_int (fun _ _ => rfl)) (fun _ _ => rfl)) (pa_cons (pe_ix (ix_any (K := K)) (pv 1) pe_int (fun _ _ => rfl)) (pa_cons (pe_ix (ix_any (K := K)) (pv 1) pe_int (fun _ _ => rfl)) (pa_cons (pe_ix (ix_any (K := K)) (pv 1) pe_int (fun _ _ => rfl)) pa_nil))))))))), fun F0 H0 ds h => ?_⟩)
  · obtain ⟨n, rfl, _⟩ := h; rfl
  · obtain ⟨n, rfl, h0, h1⟩ := h
    dsimp only [cxOf, env0, env1, List.map, List.length, List.replicate, List.cons_append, List.nil_append, List.append, Nat.reduceAdd, Nat.reduceSub, Nat.zero_add]
    refine sm_seq (sm_set ?_)
    repeat walk_at "yx"
    refine sm_seq (sm_forU (ei_list ?_))
    repeat walk_at "yx"
    refine tg_name (sm_par ?_)
    repeat (first | walk_at "yx" | refine o_plusL (by simp) ?_)
    refine ⟨_, _, rfl, ?_⟩
    refine tg_name (sm_par ?_)
    repeat (first | walk_at "yx" | refine o_plusL (by simp) ?_)
    refine ⟨_, _, rfl, ?_⟩
    refine tg_name (sm_par ?_)
    repeat (first | walk_at "yx" | refine o_plusL (by simp) ?_)
    refine ⟨_, _, rfl, ?_⟩
    refine tg_name (sm_par ?_)
    repeat (first | walk_at "yx" | refine o_plusL (by simp) ?_)
    refine ⟨_, _, rfl, ?_⟩
    refine sm_ret (ev_tup (ea_cons (ev_op ?_)))
    repeat walk_at "yx"
    refine codes_k ?_
    repeat walk_at "yx"
    refine o_ixAL (Eq.trans (congrArg (atI codesD) (by omega)) (codeOf_at h0 (by omega)).1) ?_
    repeat walk_at "yx"
    exact ⟨n, rfl, tup4 (by omega) (by omega) (by omega)⟩
theorem ok__law_cell_due (T : Tx K mg w) : FnOk P w K mg base CX0 2 T.a__law_cell_due T.d__law_cell_due ["_law_values"] (spD K duePre duePost) := by
  have G__law_codes := ok__law_codes (P := P) (w := w) (base := base) T
  have G__law_within := ok__law_within (P := P) (w := w) (base := base) T
  refine fn_data T.F__law_cell_due sc__law_cell_due (fun ds h => ?_) (fun cdv A outer s H E hr => ⟨_, (pss_cons (ps_if (PW.pt (pw_or (pt_not (pt_val (pe_callB (call_isiA (K := K)) (by rfl) T.n_isinstance PyProof.Rows.boot_isinstance (pa_cons (pe_ix (ix_any (K := K)) (pv 0) pe_int (fun _ _ => rfl)) (pa_cons (pe_bltn (v := .ty "str") (by rfl) T.n_str (by decide +kernel) rfl) pa_nil))))) (pw_or1 (pt_cmpR (op_niA (K := K)) (pe_ix (ix_any (K := K)) (pv 0) pe_int (fun _ _ => rfl)) (pe_call0 G__law_codes (hr.mono (by decide)) (by rfl) T.m__law_codes T.k__law_codes T.b__law_codes .nil pass0) (by rfl))))) (pss_one (ps_ret (pe_tup (pa_cons pe_str (pa_cons (pe_tup (pa_cons (pe_ix (ix_any (K := K)) (pv 0) pe_int (fun _ _ => rfl)) pa_nil)) pa_nil))))) pss_nil)
      (pss_cons (ps_for PassesOwn.never rfl (pi_listA (K := K) (pe_lst (pa_cons (pe_tup (pa_cons pe_int (pa_cons pe_int pa_nil))) (pa_cons (pe_tup (pa_cons pe_int (pa_cons pe_int pa_nil))) (pa_cons (pe_tup (pa_cons pe_int (pa_cons pe_int pa_nil))) pa_nil))))) (pg_tupA (K := K) rfl (pgs_cons (pg_name (i := 1) sc__law_cell_due.nd rfl (Or.inl rfl)) (pgs_cons (pg_name (i := 2) sc__law_cell_due.nd rfl (Or.inl rfl)) pgs_nil))) (pss_one (ps_if (pt_not (pt_val (pe_call G__law_within (hr.mono (by decide)) (by rfl) T.m__law_within T.k__law_within T.b__law_within .nil pass0 (pa_cons (pe_ix (ix_any (K := K)) (pv 0) (pv 1) (fun _ _ => rfl)) (pa_cons pe_int (pa_cons (pv 2) pa_nil)))))) (pss_one (ps_ret (pe_tup (pa_cons pe_str (pa_cons (pe_tup (pa_cons (pe_ix (ix_any (K := K)) (pv 0) (pv 1) (fun _ _ => rfl)) pa_nil)) pa_nil))))) pss_nil)))
      (pss_one (ps_ret (pe_tup (pa_cons pe_str (pa_cons pe_non pa_nil))))))), fun F0 H0 ds h => ?_⟩)
  · obtain ⟨x, r, q, p, rfl, _⟩ := h; rfl
  obtain ⟨x, r, q, p, rfl, hpx, hpr, hpq, hpp⟩ := h
  dsimp only [cxOf, env0, env1, List.map, List.length, List.replicate, List.cons_append, List.nil_append, List.append, Nat.reduceAdd, Nat.reduceSub, Nat.zero_add]
  cases x with
  | obj _ _ _ => cases hpx
  | ali _ => cases hpx
  | str z =>
    refine sm_seq (sm_if ?_)
    repeat walk_at "yx"
    refine codes_k (o_niAL rfl rfl ?_)
    have hin : inD (.str z) codesD = decide (z ∈ codesL) := inD_text (z := z) (ls := codesL)
    rw [hin]
    refine bl_ex (ways (fun h => ?_) (fun h => ?_))
    · have h : isCode (.str z) = false := by simpa [isCode] using h
      repeat walk_at "y"
      exact ⟨_, _, _, _, rfl, by rw [cellO, if_pos h]; rfl⟩
    have hz : z ∈ codesL := by simpa using h
    have hC : isCode (.str z) = true := decide_eq_true hz
    refine sm_next ?_
    refine sm_seq (sm_forU (ei_list ?_))
    repeat walk_at "yx"
    refine tg_tup rfl (tgs_cons (tg_name (tgs_cons (tg_name (tgs_nil ?_)))))
    refine sm_if ?_
    repeat walk_at "yx"
    refine num_k hpr (bl_ex ?_)
    refine ways (fun h => ?_) (fun h => ?_)
    · have h : isNum r 0 3 = false := by simpa using h
      repeat walk_at "y"
      exact ⟨_, _, _, _, rfl, by rw [cellO, if_neg (by rw [hC]; decide), if_pos h]; rfl⟩
    have hr : isNum r 0 3 = true := by simpa using h
    refine sm_next ?_
    refine tg_tup rfl (tgs_cons (tg_name (tgs_cons (tg_name (tgs_nil ?_)))))
    refine sm_if ?_
    repeat walk_at "yx"
    refine num_k hpq (bl_ex ?_)
    refine ways (fun h => ?_) (fun h => ?_)
    · have h : isNum q 0 3 = false := by simpa using h
      repeat walk_at "y"
      exact ⟨_, _, _, _, rfl, by rw [cellO, if_neg (by rw [hC]; decide), if_neg (by rw [hr]; decide), if_pos h]; rfl⟩
    have hq : isNum q 0 3 = true := by simpa using h
    refine sm_next ?_
    refine tg_tup rfl (tgs_cons (tg_name (tgs_cons (tg_name (tgs_nil ?_)))))
    refine sm_if ?_
    repeat walk_at "yx"
    refine num_k hpp (bl_ex ?_)
    refine ways (fun h => ?_) (fun h => ?_)
    · have h : isNum p 0 255 = false := by simpa using h
      repeat walk_at "y"
      exact ⟨_, _, _, _, rfl, by rw [cellO, if_neg (by rw [hC]; decide), if_neg (by rw [hr]; decide), if_neg (by rw [hq]; decide), if_pos h]; rfl⟩
    have hp : isNum p 0 255 = true := by simpa using h
    refine sm_next ?_
    refine sm_ret ?_
    repeat walk_at "yx"
    exact ⟨_, _, _, _, rfl, by rw [cellO, if_neg (by rw [hC]; decide), if_neg (by rw [hr]; decide), if_neg (by rw [hq]; decide), if_neg (by rw [hp]; decide)]; rfl⟩
  | _ =>
    refine sm_seq (sm_if ?_)
    repeat walk_at "yx"
    repeat walk_at "y"
    exact ⟨_, _, _, _, rfl, rfl⟩
end
end Law
namespace Law
open PySem L2 Y
local macro_rules | `(tactic| walk_at "yv") => `(tactic| ((with_reducible show Ev _ (tVar _) _ _); refine ev_var rfl ?_))
local macro_rules | `(tactic| walk_at "ys") => `(tactic| with_reducible first
  | refine sm_seq ?_ | refine sm_ret ?_ | refine sm_if ?_ | refine sm_set ?_ | refine sm_next ?_ | refine sm_par ?_ | refine sm_drop ?_ | refine sm_brk ?_ | refine sm_cont ?_)
local macro_rules | `(tactic| walk_at "ye") => `(tactic| with_reducible first
  | refine ev_op ?_ | refine ev_and ?_ | refine ev_or ?_ | refine ev_not ?_ | refine ev_if ?_ | refine ev_chain ?_ | refine ev_neg ?_ | refine ev_isInt ?_ | refine ev_isBool ?_ | refine ev_isStr ?_ | refine ev_isList ?_ | refine ev_isTuple ?_ | refine ev_isLT ?_ | refine ev_isDict ?_
  | refine ev_int ?_ | refine ev_str ?_ | refine ev_bl ?_ | refine ev_non ?_ | refine ev_call ?_ | refine ev_cb ?_ | refine ev_lst ?_ | refine ev_tup ?_ | refine ev_join ?_
  | refine ea_nil ?_ | refine ea_cons ?_
  | refine et_B ?_ | refine et_test ?_ | refine et_not ?_ | refine et_and ?_ | refine et_or ?_ | refine et_yes ?_
  | refine o_plusI ?_ | refine o_i0 ?_ | refine o_b0 ?_ | refine o_isN ?_ | refine o_notN ?_
  | refine bl_ex ?_ | refine int_ex ?_ | refine str_ex ?_ | refine lst_ex ?_ | refine tup_ex ?_)
local macro_rules | `(tactic| walk_at "yo") => `(tactic| first
  | ((with_reducible show Ev _ (tOp (rIx _) (tVar _) _) _ _); refine ev_ixOwn rfl ?_)
  | ((with_reducible show Ev _ (tCB _ (tCons (tVar _) tNil)) _ _); refine ev_lenOwn rfl ?_)
  | ((with_reducible show Sm _ (tAsg _ (gSub (tVar _) _ _)) _ _); refine sm_setItem rfl ?_)
  | ((with_reducible show Ev _ (tCall (spB _ _ _) _ _ _) _ _); refine ev_callB rfl rfl ?_))
local macro_rules | `(tactic| walk_at "yc") => `(tactic| first
  | ((with_reducible show CMul _ _); first | exact Or.inr ⟨by decide, by decide⟩ | exact Or.inl ⟨by decide, by decide⟩ | exact Or.inr ⟨by omega, by omega⟩ | exact Or.inl ⟨by omega, by omega⟩)
  | ((with_reducible show CDiv _ _); exact ⟨by first | decide | omega, by first | decide | omega⟩)
  | ((with_reducible show CPow _ _); exact ⟨by decide, by decide, by first | decide | omega⟩)
  | ((show (0 : Int) < _); first | decide | omega))
local macro_rules | `(tactic| walk_at "yd") => `(tactic| first
  | ((with_reducible show plainD _ = true ∧ _); refine ⟨by first | rfl | assumption, ?_⟩)
  | ((with_reducible show (_ = true → _) ∧ (_ = false → _)); first | refine way_t rfl ?_ | refine way_f rfl ?_ | refine way_t (by decide +kernel) ?_ | refine way_f (by decide +kernel) ?_)
  | ((with_reducible show Cal _ _ _ _ _); first | (with_reducible refine c_int ?_) | (with_reducible refine c_abs ?_) | (refine c_len rfl ?_) | (refine c_len (if_pos (by assumption)) ?_))
  | ((with_reducible show Op2 _ (rEqA _) _ _ _ _); refine o_eqA rfl ?_)
  | ((with_reducible show Op2 _ (rNeA _) _ _ _ _); refine o_neA rfl ?_)
  | ((with_reducible show Op2 _ (rInA _) _ (Dt.str _) (Dt.lst _) _); refine o_inAL rfl rfl ?_)
  | ((with_reducible show Op2 _ (rInA _) _ (Dt.str _) (Dt.tup _) _); refine o_inAT rfl rfl ?_)
  | ((with_reducible show Op2 _ (rI _ _) _ _ _ _); refine o_i (by walk_at "yc") ?_)
  | ((with_reducible show Op2 _ (rIx _) _ (Dt.tup _) _ _); refine o_ixAT (atI_toNat (by decide) rfl) ?_)
  | ((with_reducible show Op2 _ (rIx _) _ (Dt.lst _) _ _); refine o_ixAL (atI_toNat (by decide) rfl) ?_)
  | ((with_reducible show ∃ x, atI _ _ = some x ∧ _); refine ⟨_, rfl, ?_⟩)
  | ((with_reducible show ∃ x, ixN _ _ = some x ∧ _); refine ⟨_, rfl, ?_⟩)
  | ((with_reducible show List.length _ ≤ 100000 ∧ _); refine ⟨by (try simp only [List.length_cons, List.length_nil]); first | decide | omega, ?_⟩))
local macro_rules | `(tactic| walk_at "y") => `(tactic| first | walk_at "yo" | walk_at "ye" | walk_at "yv" | walk_at "ys" | walk_at "yd")
local macro_rules | `(tactic| walk_at "yx") => `(tactic| first | walk_at "yo" | walk_at "ye" | walk_at "yv" | walk_at "yd")
theorem gkr_cell_of_0_r_s_part_word {K : PySem.W.Frag} : ∀ (F : Hp) (vs : List V) (ds : List Dt) (zs : List V) (as : List Dt), RpAll K F vs ds → RpAll K F zs as → RpAll K F (gk_cell_of_0_r_s_part_word [(.int 0), (.int 0), (.int 0)] vs zs) (gk_cell_of_0_r_s_part_word [(.int 0), (.int 0), (.int 0)] ds as) := by
  intro F vs ds zs as h1 h2
  cases h1 with
  | cons _ _ => first | exact .nil | (cases h2 <;> exact .nil)
  | nil =>
    cases h2 with
    | nil => exact .nil
    | cons b0 t20 =>
      cases t20 with
      | nil => exact .nil
      | cons b1 t21 =>
        cases t21 with
        | nil => exact .nil
        | cons b2 t22 =>
          cases t22 with
          | nil => exact .nil
          | cons b3 t23 =>
            cases t23 with
            | cons _ _ => exact .nil
            | nil =>
              exact .cons b3 (.cons b0 (.cons b1 (.cons b2 .nil)))
theorem gkr_cell_of_0_part_s_r_word {K : PySem.W.Frag} : ∀ (F : Hp) (vs : List V) (ds : List Dt) (zs : List V) (as : List Dt), RpAll K F vs ds → RpAll K F zs as → RpAll K F (gk_cell_of_0_part_s_r_word [(.int 0), (.int 0), (.int 0)] vs zs) (gk_cell_of_0_part_s_r_word [(.int 0), (.int 0), (.int 0)] ds as) := by
  intro F vs ds zs as h1 h2
  cases h1 with
  | cons _ _ => first | exact .nil | (cases h2 <;> exact .nil)
  | nil =>
    cases h2 with
    | nil => exact .nil
    | cons b0 t20 =>
      cases t20 with
      | nil => exact .nil
      | cons b1 t21 =>
        cases t21 with
        | nil => exact .nil
        | cons b2 t22 =>
          cases t22 with
          | nil => exact .nil
          | cons b3 t23 =>
            cases t23 with
            | cons _ _ => exact .nil
            | nil =>
              exact .cons b3 (.cons b2 (.cons b1 (.cons b0 .nil)))
theorem gkr_parted_0_cell {K : PySem.W.Frag} : ∀ (F : Hp) (vs : List V) (ds : List Dt) (zs : List V) (as : List Dt), RpAll K F vs ds → RpAll K F zs as → RpAll K F (gk_parted_0_cell vs zs) (gk_parted_0_cell ds as) := by
  intro F vs ds zs as h1 h2
  cases h1 with
  | cons _ _ => first | exact .nil | (cases h2 <;> exact .nil)
  | nil =>
    cases h2 with
    | nil => exact .nil
    | cons b0 t20 =>
      cases t20 with
      | cons _ _ => exact .nil
      | nil =>
        exact .cons b0 .nil
theorem gkr_cell_of_1_part {K : PySem.W.Frag} : ∀ (F : Hp) (vs : List V) (ds : List Dt) (zs : List V) (as : List Dt), RpAll K F vs ds → RpAll K F zs as → RpAll K F (gk_cell_of_1_part [(.int 0), (.int 0), (.int 0)] vs zs) (gk_cell_of_1_part [(.int 0), (.int 0), (.int 0)] ds as) := by
  intro F vs ds zs as h1 h2
  cases h1 with
  | nil => first | exact .nil | (cases h2 <;> exact .nil)
  | cons a0 t10 =>
    cases t10 with
    | cons _ _ => first | exact .nil | (cases h2 <;> exact .nil)
    | nil =>
      cases h2 with
      | nil => exact .nil
      | cons b0 t20 =>
        cases t20 with
        | cons _ _ => exact .nil
        | nil =>
          exact .cons a0 (.cons (.int 0) (.cons (.int 0) (.cons b0 .nil)))
theorem gkr_cell_of_1_s {K : PySem.W.Frag} : ∀ (F : Hp) (vs : List V) (ds : List Dt) (zs : List V) (as : List Dt), RpAll K F vs ds → RpAll K F zs as → RpAll K F (gk_cell_of_1_s [(.int 0), (.int 0), (.int 0)] vs zs) (gk_cell_of_1_s [(.int 0), (.int 0), (.int 0)] ds as) := by
  intro F vs ds zs as h1 h2
  cases h1 with
  | nil => first | exact .nil | (cases h2 <;> exact .nil)
  | cons a0 t10 =>
    cases t10 with
    | cons _ _ => first | exact .nil | (cases h2 <;> exact .nil)
    | nil =>
      cases h2 with
      | nil => exact .nil
      | cons b0 t20 =>
        cases t20 with
        | cons _ _ => exact .nil
        | nil =>
          exact .cons a0 (.cons (.int 0) (.cons b0 (.cons (.int 0) .nil)))
theorem gkr_with_part_0_part_cell {K : PySem.W.Frag} : ∀ (F : Hp) (vs : List V) (ds : List Dt) (zs : List V) (as : List Dt), RpAll K F vs ds → RpAll K F zs as → RpAll K F (gk_with_part_0_part_cell vs zs) (gk_with_part_0_part_cell ds as) := by
  intro F vs ds zs as h1 h2
  cases h1 with
  | cons _ _ => first | exact .nil | (cases h2 <;> exact .nil)
  | nil =>
    cases h2 with
    | nil => exact .nil
    | cons b0 t20 =>
      cases t20 with
      | nil => exact .nil
      | cons b1 t21 =>
        cases t21 with
        | cons _ _ => exact .nil
        | nil =>
          exact .cons b1 (.cons b0 .nil)

theorem err_InvalidName {K : PySem.W.Frag} {mg : Str → Option Value} {w : World} (T : Tx K mg w) (z : Dt) : ErrD K T.a_ImageError T.a_Missing T.a_InvalidName (xmk_InvalidName Dt.str [z]) "InvalidName" [z] where
  ex := T.ex_InvalidName
  xf := T.xf_InvalidName
  no := fun n d h => by
    have h : List.lookup n [(("value" : Str), z), ("code", .str "InvalidName")] = some d := h
    rw [List.lookup_cons] at h
    split at h
    · rename_i e
      rw [beq_iff_eq.mp e]; exact T.no_InvalidName_value
    · rw [List.lookup_cons] at h
      split at h
      · rename_i e
        rw [beq_iff_eq.mp e]; exact T.no_InvalidName_code
      · cases h
  cd := rfl
  fld := rfl
  ne := by decide

theorem err_InvalidNumber {K : PySem.W.Frag} {mg : Str → Option Value} {w : World} (T : Tx K mg w) (z : Dt) : ErrD K T.a_ImageError T.a_Missing T.a_InvalidNumber (xmk_InvalidNumber Dt.str [z]) "InvalidNumber" [z] where
  ex := T.ex_InvalidNumber
  xf := T.xf_InvalidNumber
  no := fun n d h => by
    have h : List.lookup n [(("value" : Str), z), ("code", .str "InvalidNumber")] = some d := h
    rw [List.lookup_cons] at h
    split at h
    · rename_i e
      rw [beq_iff_eq.mp e]; exact T.no_InvalidNumber_value
    · rw [List.lookup_cons] at h
      split at h
      · rename_i e
        rw [beq_iff_eq.mp e]; exact T.no_InvalidNumber_code
      · cases h
  cd := rfl
  fld := rfl
  ne := by decide

theorem err_of {K : PySem.W.Frag} {mg : Str → Option Value} {w : World} (T : Tx K mg w) {o : Out} {C : Addr} {fds : List (Str × Dt)} (h : errIs T.a_InvalidName T.a_InvalidNumber o C fds) : ∃ code xs, ErrD K T.a_ImageError T.a_Missing C fds code xs ∧ errP o code xs := by
  obtain ⟨z, ⟨h1, h2, h3⟩ | ⟨h1, h2, h3⟩⟩ := h
  · rw [h2, h3]; exact ⟨_, _, err_InvalidName T z, h1⟩
  · rw [h2, h3]; exact ⟨_, _, err_InvalidNumber T z, h1⟩
def goodO (d : Dt) : Bool := plainD d && (d.pureD && decide (d.depth ≤ 1))
theorem goodO_of {d : Dt} (h : goodO d = true) : plainD d = true ∧ d.pureD = true ∧ d.depth ≤ 1 := by
  unfold goodO at h
  rw [Bool.and_eq_true, Bool.and_eq_true] at h
  exact ⟨h.1, h.2.1, of_decide_eq_true h.2.2⟩
theorem good_in {xs : List Dt} {d : Dt} (h : (oddL ++ xs).all goodO = true) (hm : d ∈ oddL ++ xs) : goodO d = true := List.all_eq_true.mp h d hm
theorem why_none : (whyO none).pureD = true ∧ (whyO none).depth ≤ 3 := ⟨by simp [whyO, Dt.pureD, pureAll], by simp [whyO, Dt.depth, depthAll]⟩
theorem why_some {z : Dt} {c : Str} (h : goodO z = true) : (whyO (some (c, [z]))).pureD = true ∧ (whyO (some (c, [z]))).depth ≤ 3 := by
  obtain ⟨_, h1, h2⟩ := goodO_of h
  exact ⟨by simp [whyO, Dt.pureD, pureAll, h1], by simp only [whyO, Dt.depth, depthAll]; omega⟩
theorem cell_why {x r s p : Dt} (hx : goodO x = true) (hr : goodO r = true) (hs : goodO s = true) (hp : goodO p = true) : (whyO (cellO x r s p)).pureD = true ∧ (whyO (cellO x r s p)).depth ≤ 3 := by
  unfold cellO
  split
  · exact why_some hx
  · split
    · exact why_some hr
    · split
      · exact why_some hs
      · split
        · exact why_some hp
        · exact why_none
theorem part_why {x : Dt} (hx : goodO x = true) : (whyO (partO x)).pureD = true ∧ (whyO (partO x)).depth ≤ 3 := by
  unfold partO
  split
  · exact why_some hx
  · exact why_none
def wrongPre (ds : List Dt) : Prop := ∃ x r s p, ds = [x, r, s, p] ∧ goodO x = true ∧ goodO r = true ∧ goodO s = true ∧ goodO p = true
theorem wrong_k {x r s p : Dt} {R : Dt → Prop} (h : goodO x = true ∧ goodO r = true ∧ goodO s = true ∧ goodO p = true) (k : R (.bl true)) : wrongPre [x, r, s, p] ∧ ∀ d, sameTrue [x, r, s, p] d → R d := ⟨⟨x, r, s, p, rfl, h⟩, fun d e => by rw [e]; exact k⟩
def codesPre (ds : List Dt) : Prop := ds = [.lst codesD]
section
variable {P : Program} {w : World} {K : PySem.W.Frag} {mg : Str → Option Value} {base : Heap}

theorem ok__law_wrong_so (T : Tx K mg w) (TB : ∀ p ∈ T.cs, LamX.TabB base mg p.1 p.2) : FnOk P w K mg base CX0 8 T.a__law_wrong_so T.d__law_wrong_so ["_law_bag_here", "_law_own", "_law_a", "_law_b", "_law_c"] (spBT K T.tabs wrongPre sameTrue) := by
  have G__law_draw := ok__law_draw (P := P) (w := w) (base := base) T
  have G__law_odd := ok__law_odd (P := P) (w := w) (base := base) T
  have G__law_within := ok__law_within (P := P) (w := w) (base := base) T
  have G__law_cell_due := ok__law_cell_due (P := P) (w := w) (base := base) T
  have G_cell_of := ok_cell_of (P := P) (w := w) (base := base) T
  have G_parted := ok_parted (P := P) (w := w) (base := base) T
  have G__law_same := ok__law_same (P := P) (w := w) (base := base) T 6
  have G__law_whys := ok__law_whys (P := P) (w := w) (base := base) T
  refine fn_bagT T.F__law_wrong_so sc__law_wrong_so (fun ds h => ?_) (fun A outer s H E hr => ⟨_, (pss_cons (ps_asg (pe_tup (pa_cons (pe_lst (pa_cons (pv 1) (pa_cons (pv 2) (pa_cons (pv 3) (pa_cons (pv 4) pa_nil))))) (pa_cons (pe_call G__law_draw (hr.mono (by decide)) (by rfl) T.m__law_draw T.k__law_draw T.b__law_draw .nil pass0 (pa_cons (pv 0) (pa_cons pe_int pa_nil))) pa_nil))) (pg_tupA (K := K) rfl (pgs_cons (pg_name (i := 5) sc__law_wrong_so.nd rfl (Or.inr rfl)) (pgs_cons (pg_name (i := 6) sc__law_wrong_so.nd rfl (Or.inl rfl)) pgs_nil))))
      (pss_cons (ps_asg (pe_call G__law_odd (hr.mono (by decide)) (by rfl) T.m__law_odd T.k__law_odd T.b__law_odd .nil pass0 (pa_cons (pv 0) (pa_cons (pe_lst (pa_cons pe_int (pa_cons pe_int (pa_cons pe_int (pa_cons pe_str (pa_cons pe_str (pa_cons (pe_tup (pa_cons pe_str pa_nil)) pa_nil))))))) pa_nil))) (pg_sub (pv 5) (pv 6) set_list))
      (pss_cons (ps_if (pt_cmpR (op_eqA (K := K) hr.units) (pe_call G__law_draw (hr.mono (by decide)) (by rfl) T.m__law_draw T.k__law_draw T.b__law_draw .nil pass0 (pa_cons (pv 0) (pa_cons pe_int pa_nil))) pe_int (nomark _)) (pss_one (ps_asg (pe_call G__law_odd (hr.mono (by decide)) (by rfl) T.m__law_odd T.k__law_odd T.b__law_odd .nil pass0 (pa_cons (pv 0) (pa_cons (pe_lst (pa_cons pe_str (pa_cons pe_int (pa_cons pe_int pa_nil)))) pa_nil))) (pg_sub (pv 5) (pe_call G__law_draw (hr.mono (by decide)) (by rfl) T.m__law_draw T.k__law_draw T.b__law_draw .nil pass0 (pa_cons (pv 0) (pa_cons pe_int pa_nil))) set_list))) pss_nil)
      (pss_cons (ps_set (i := 7) sc__law_wrong_so.nd rfl (Or.inl rfl) (pe_call G__law_cell_due (hr.mono (by decide)) (by rfl) T.m__law_cell_due T.k__law_cell_due T.b__law_cell_due .nil pass0 (pa_cons (pv 5) pa_nil)))
      (pss_cons (ps_set (i := 8) sc__law_wrong_so.nd rfl (Or.inl rfl) (pe_lst (pa_cons (pe_lam0 (TB _ T.in__law_wrong_so) rfl T.tm__law_wrong_so T.hu__law_wrong_so (lamFree_by (sc := defScope s__law_wrong_so) (by decide +kernel))) (pa_cons (pe_lam1 (TB _ T.in__law_wrong_so) rfl T.tm__law_wrong_so T.hu__law_wrong_so (lamFree_by (sc := defScope s__law_wrong_so) (by decide +kernel))) pa_nil))))
      (pss_cons (ps_if (pt_not (pt_val (pe_call G__law_same (hr.mono (by decide)) (by rfl) T.m__law_same T.k__law_same T.b__law_same .nil pass0 (pa_cons (pe_callTr (fun _ => rfl) G__law_whys (hr.mono (by decide)) (by rfl) T.m__law_whys T.k__law_whys T.b__law_whys (pa_cons (pv 8) pa_nil)) (pa_cons (pe_lst (pa_cons (pv 7) (pa_cons (pv 7) pa_nil))) pa_nil))))) (pss_one (ps_ret pe_bl)) pss_nil)
      (pss_cons (ps_set (i := 9) sc__law_wrong_so.nd rfl (Or.inr rfl) (pe_call G__law_odd (hr.mono (by decide)) (by rfl) T.m__law_odd T.k__law_odd T.b__law_odd .nil pass0 (pa_cons (pv 0) (pa_cons (pe_lst (pa_cons pe_int (pa_cons pe_str (pa_cons (pe_tup (pa_cons pe_int pa_nil)) pa_nil)))) pa_nil))))
      (pss_cons (ps_if (pt_not (pt_val (pe_call G__law_same (hr.mono (by decide)) (by rfl) T.m__law_same T.k__law_same T.b__law_same .nil pass0 (pa_cons (pe_callTr (fun _ => rfl) G__law_whys (hr.mono (by decide)) (by rfl) T.m__law_whys T.k__law_whys T.b__law_whys (pa_cons (pe_lst (pa_cons (pe_lam0 (TB _ T.in__law_wrong_so) rfl T.tm__law_wrong_so T.hu__law_wrong_so (lamFree_by (sc := defScope s__law_wrong_so) (by decide +kernel))) pa_nil)) pa_nil)) (pa_cons (pe_lst (pa_cons (pe_ifExp (pt_not (pt_val (pe_call G__law_within (hr.mono (by decide)) (by rfl) T.m__law_within T.k__law_within T.b__law_within .nil pass0 (pa_cons (pv 9) (pa_cons pe_int (pa_cons pe_int pa_nil)))))) (pe_tup (pa_cons pe_str (pa_cons (pe_tup (pa_cons (pv 9) pa_nil)) pa_nil))) (pe_tup (pa_cons pe_str (pa_cons pe_non pa_nil)))) pa_nil)) pa_nil))))) (pss_one (ps_ret pe_bl)) pss_nil)
      (pss_one (ps_ret pe_bl)))))))))), fun F0 H0 b ds h => ?_⟩)
  · obtain ⟨x, r, q, p, rfl, _⟩ := h; rfl
  obtain ⟨x, r, q, p, rfl, gx, gr, gq, gp⟩ := h
  dsimp only [cxOf, env0, env1, List.map, List.length, List.replicate, List.cons_append, List.nil_append, List.append, Nat.reduceAdd, Nat.reduceSub, Nat.zero_add]
  refine sm_seq (sm_parODC (eo_lst ?_))
  repeat walk_at "yx"
  refine draw_k ⟨by decide, by decide⟩ fun i1 a1 b1 => ?_
  intro a
  refine sm_seq (sm_setItem rfl ?_)
  repeat walk_at "yx"
  refine odd_k (by decide) fun o1 ho1 => ?_
  repeat walk_at "yx"
  refine ⟨i1.toNat, ixN_toNat a1 (by show _ < 4; omega), ?_⟩
  obtain ⟨w0, w1, w2, w3, e1, k0, k1, k2, k3⟩ := set4 (R := fun d => goodO d = true) gx gr gq gp (good_in (by decide +kernel) ho1) (show i1.toNat < 4 by omega)
  rw [e1]
  refine sm_cut (fun e => ∃ v0 v1 v2 v3, e = [.r (.ref b), .d x, .d r, .d q, .d p, .own a [v0, v1, v2, v3], .d (.int i1), .no, .no, .no] ∧ goodO v0 = true ∧ goodO v1 = true ∧ goodO v2 = true ∧ goodO v3 = true) ?_ ?_
  · refine sm_if ?_
    repeat walk_at "yx"
    refine draw_k ⟨by decide, by decide⟩ fun i2 a2 b2 => ?_
    repeat walk_at "yx"
    refine ways (fun h => ?_) (fun h => ?_)
    · refine sm_setItem rfl ?_
      repeat walk_at "yx"
      refine odd_k (by decide) fun o2 ho2 => ?_
      repeat walk_at "yx"
      refine draw_k ⟨by decide, by decide⟩ fun i3 a3 b3 => ?_
      repeat walk_at "yx"
      refine ⟨i3.toNat, ixN_toNat a3 (by show _ < 4; omega), ?_⟩
      obtain ⟨v0, v1, v2, v3, e2, m0, m1, m2, m3⟩ := set4 (R := fun d => goodO d = true) k0 k1 k2 k3 (good_in (by decide +kernel) ho2) (show i3.toNat < 4 by omega)
      rw [e2]
      exact ⟨v0, v1, v2, v3, rfl, m0, m1, m2, m3⟩
    · repeat walk_at "y"
      exact ⟨w0, w1, w2, w3, rfl, k0, k1, k2, k3⟩
  rintro es' ⟨v0, v1, v2, v3, rfl, m0, m1, m2, m3⟩
  refine sm_freeze 5 rfl ?_
  obtain ⟨p0, _, _⟩ := goodO_of m0
  obtain ⟨p1, _, _⟩ := goodO_of m1
  obtain ⟨p2, _, _⟩ := goodO_of m2
  obtain ⟨p3, _, _⟩ := goodO_of m3
  have pd := cell_why m0 m1 m2 m3
  refine sm_seq (sm_set ?_)
  repeat walk_at "yx"
  refine due_k ⟨p0, p1, p2, p3⟩ ?_
  refine sm_seq (sm_setL (el_lst (el_cons0 ⟨_, T.tm__law_wrong_so⟩ fun f0 c0 => el_cons1 ⟨_, T.tm__law_wrong_so⟩ fun f1 c1 t1 => el_nil ⟨by simp, ?_⟩)))
  intro a0
  refine sm_seq (sm_if (et_not (et_test (ev_call (ea_cons ?_)))))
  refine ev_whys (el_var rfl ⟨[cellO v0 v1 v2 v3, cellO v0 v1 v2 v3], by simp, fun σ F1 H1 os S inj has hlen h0 hv hls => ?_, ?_⟩)
  · refine ⟨?_, ?_, True.intro⟩
    · refine' ask_of (N' := ["_law_bag_here", "_law_own", "_law_a", "_law_b", "_law_c", "_law_values", "_law_spot", "_law_due", "_law_asks", "_law_bad"]) (dvb := false) ?LL0 S inj has hlen h0 hv rfl (hls _ List.mem_cons_self) ?EV0
      case LL0 => exact ⟨lamIn_by (sc := defScope s__law_wrong_so) rfl (by decide +kernel) (by decide +kernel), rfl, rfl, rfl, noCell_by (by decide +kernel), (fun _ _ _ _ _ => rfl), (fun z => nomatch z), fun cl c dv f A outer s H E hr => (pe_call G_cell_of (hr.mono (by decide)) (by rfl) T.m_cell_of T.k_cell_of (T.b_cell_of_4) (T.v_cell_of_4) passL (pa_cons (pe_ix (ix_any (K := K)) (pv 5) pe_int (fun _ _ => rfl)) (pa_cons (pe_ix (ix_any (K := K)) (pv 5) pe_int (fun _ _ => rfl)) (pa_cons (pe_ix (ix_any (K := K)) (pv 5) pe_int (fun _ _ => rfl)) (pa_cons (pe_ix (ix_any (K := K)) (pv 5) pe_int (fun _ _ => rfl)) pa_nil)))))⟩
      intro F H E hx
      refine ev_callR hx ?_
      repeat walk_at "yx"
      exact cell_k ⟨p0, p1, p2, p3⟩ (fun h => h) fun _ _ e => err_of T e
    · refine' ask_of (N' := ["_law_bag_here", "_law_own", "", "_law_b", "_law_c", "_law_values", "_law_spot", "_law_due", "_law_asks", "_law_bad"]) (dvb := true) ?LL1 S inj has hlen h0 hv rfl (hls _ (List.mem_cons_of_mem _ List.mem_cons_self)) ?EV1
      case LL1 => exact ⟨lamIn_by (sc := defScope s__law_wrong_so) rfl (by decide +kernel) (by decide +kernel), rfl, rfl, rfl, noCell_by (by decide +kernel), (fun z => nomatch z), (fun _ => ⟨"_law_a", by decide +kernel, fun cl c t pm ctv v => ⟨_, rfl, rfl⟩⟩), fun cl c dv f A outer s H E hr => (pe_callN0 G_cell_of (hr.mono (by decide)) (by rfl) T.m_cell_of T.k_cell_of T.kb_cell_of_0_r_s_part_word passL (pk_cons (pe_ix (ix_any (K := K)) (pv 5) pe_int (fun _ _ => rfl)) (pk_cons (pe_ix (ix_any (K := K)) (pv 5) pe_int (fun _ _ => rfl)) (pk_cons (pe_ix (ix_any (K := K)) (pv 5) pe_int (fun _ _ => rfl)) (pk_cons (pe_ix (ix_any (K := K)) (pv 5) pe_int (fun _ _ => rfl)) pk_nil)))))⟩
      intro F H E hx
      refine ev_callRN (gD := gk_cell_of_0_r_s_part_word [.int 0, .int 0, .int 0]) gkr_cell_of_0_r_s_part_word hx ?_
      repeat walk_at "yx"
      refine ⟨rfl, rfl, ?_⟩
      exact cell_k ⟨p0, p1, p2, p3⟩ (fun h => h) fun _ _ e => err_of T e

  repeat walk_at "yx"
  refine same_k rfl (by simp [Dt.pureD, pureAll, pd.1]) (by simp only [List.map, Dt.depth, depthAll]; omega) ?_
  repeat walk_at "y"
  refine odd_k (by decide) fun bad hbad => ?_
  have gb := good_in (by decide +kernel) hbad
  obtain ⟨pb, _, _⟩ := goodO_of gb
  have pp := part_why gb
  refine sm_seq (sm_if (et_not (et_test (ev_call (ea_cons ?_)))))
  refine ev_whys (el_lst (el_cons0 ⟨_, T.tm__law_wrong_so⟩ fun f0 c0 => el_nil ⟨by simp, [partO bad], by simp, fun σ F1 H1 os S inj has hlen h0 hv hls => ?_, ?_⟩))
  · refine ⟨?_, True.intro⟩
    · refine' ask_of (N' := ["_law_bag_here", "_law_own", "_law_a", "_law_b", "_law_c", "_law_values", "_law_spot", "_law_due", "_law_asks", "_law_bad"]) (dvb := false) ?LL2 S inj has hlen h0 hv rfl (hls _ List.mem_cons_self) ?EV2
      case LL2 => exact ⟨lamIn_by (sc := defScope s__law_wrong_so) rfl (by decide +kernel) (by decide +kernel), rfl, rfl, rfl, noCell_by (by decide +kernel), (fun _ _ _ _ _ => rfl), (fun z => nomatch z), fun cl c dv f A outer s H E hr => (pe_call G_parted (hr.mono (by decide)) (by rfl) T.m_parted T.k_parted T.b_parted .nil passL (pa_cons (pv 9) pa_nil))⟩
      intro F H E hx
      refine ev_callR hx ?_
      repeat walk_at "yx"
      exact part_k pb (fun h => h) fun _ _ e => err_of T e

  refine ea_cons (ev_lst (ea_cons (Ev.imp (P := fun d => d = whyO (partO bad)) ?_ ?_)))
  · repeat walk_at "yx"
    refine num_k pb (bl_ex ?_)
    refine ways (fun h => ?_) (fun h => ?_)
    · have h : isNum bad 0 65535 = false := by simpa using h
      repeat walk_at "yx"
      rw [partO, if_pos h]; rfl
    · have h : isNum bad 0 65535 = true := by simpa using h
      repeat walk_at "yx"
      rw [partO, if_neg (by rw [h]; decide)]; rfl
  rintro _ rfl
  repeat walk_at "yx"
  refine same_k rfl (by simp [Dt.pureD, pureAll, pp.1]) (by simp only [List.map, Dt.depth, depthAll]; omega) ?_
  repeat walk_at "y"
  rfl
end
end Law
namespace Law
open PySem L2 Y
local macro_rules | `(tactic| walk_at "yv") => `(tactic| ((with_reducible show Ev _ (tVar _) _ _); refine ev_var rfl ?_))
local macro_rules | `(tactic| walk_at "ys") => `(tactic| with_reducible first
  | refine sm_seq ?_ | refine sm_ret ?_ | refine sm_if ?_ | refine sm_set ?_ | refine sm_next ?_ | refine sm_par ?_ | refine sm_drop ?_ | refine sm_brk ?_ | refine sm_cont ?_)
local macro_rules | `(tactic| walk_at "ye") => `(tactic| with_reducible first
  | refine ev_op ?_ | refine ev_and ?_ | refine ev_or ?_ | refine ev_not ?_ | refine ev_if ?_ | refine ev_chain ?_ | refine ev_neg ?_ | refine ev_isInt ?_ | refine ev_isBool ?_ | refine ev_isStr ?_ | refine ev_isList ?_ | refine ev_isTuple ?_ | refine ev_isLT ?_ | refine ev_isDict ?_
  | refine ev_int ?_ | refine ev_str ?_ | refine ev_bl ?_ | refine ev_non ?_ | refine ev_call ?_ | refine ev_cb ?_ | refine ev_lst ?_ | refine ev_tup ?_ | refine ev_join ?_
  | refine ea_nil ?_ | refine ea_cons ?_
  | refine et_B ?_ | refine et_test ?_ | refine et_not ?_ | refine et_and ?_ | refine et_or ?_ | refine et_yes ?_
  | refine o_plusI ?_ | refine o_i0 ?_ | refine o_b0 ?_ | refine o_isN ?_ | refine o_notN ?_
  | refine bl_ex ?_ | refine int_ex ?_ | refine str_ex ?_ | refine lst_ex ?_ | refine tup_ex ?_)
local macro_rules | `(tactic| walk_at "yo") => `(tactic| first
  | ((with_reducible show Ev _ (tOp (rIx _) (tVar _) _) _ _); refine ev_ixOwn rfl ?_)
  | ((with_reducible show Ev _ (tCB _ (tCons (tVar _) tNil)) _ _); refine ev_lenOwn rfl ?_)
  | ((with_reducible show Sm _ (tAsg _ (gSub (tVar _) _ _)) _ _); refine sm_setItem rfl ?_)
  | ((with_reducible show Ev _ (tCall (spB _ _ _) _ _ _) _ _); refine ev_callB rfl rfl ?_))
local macro_rules | `(tactic| walk_at "yc") => `(tactic| first
  | ((with_reducible show CMul _ _); first | exact Or.inr ⟨by decide, by decide⟩ | exact Or.inl ⟨by decide, by decide⟩ | exact Or.inr ⟨by omega, by omega⟩ | exact Or.inl ⟨by omega, by omega⟩)
  | ((with_reducible show CDiv _ _); exact ⟨by first | decide | omega, by first | decide | omega⟩)
  | ((with_reducible show CPow _ _); exact ⟨by decide, by decide, by first | decide | omega⟩)
  | ((show (0 : Int) < _); first | decide | omega))
local macro_rules | `(tactic| walk_at "yd") => `(tactic| first
  | ((with_reducible show plainD _ = true ∧ _); refine ⟨by first | rfl | assumption, ?_⟩)
  | ((with_reducible show (_ = true → _) ∧ (_ = false → _)); first | refine way_t rfl ?_ | refine way_f rfl ?_ | refine way_t (by decide +kernel) ?_ | refine way_f (by decide +kernel) ?_)
  | ((with_reducible show Cal _ _ _ _ _); first | (with_reducible refine c_int ?_) | (with_reducible refine c_abs ?_) | (refine c_len rfl ?_) | (refine c_len (if_pos (by assumption)) ?_))
  | ((with_reducible show Op2 _ (rEqA _) _ _ _ _); refine o_eqA rfl ?_)
  | ((with_reducible show Op2 _ (rNeA _) _ _ _ _); refine o_neA rfl ?_)
  | ((with_reducible show Op2 _ (rInA _) _ (Dt.str _) (Dt.lst _) _); refine o_inAL rfl rfl ?_)
  | ((with_reducible show Op2 _ (rInA _) _ (Dt.str _) (Dt.tup _) _); refine o_inAT rfl rfl ?_)
  | ((with_reducible show Op2 _ (rI _ _) _ _ _ _); refine o_i (by walk_at "yc") ?_)
  | ((with_reducible show Op2 _ (rIx _) _ (Dt.tup _) _ _); refine o_ixAT (atI_toNat (by decide) rfl) ?_)
  | ((with_reducible show Op2 _ (rIx _) _ (Dt.lst _) _ _); refine o_ixAL (atI_toNat (by decide) rfl) ?_)
  | ((with_reducible show ∃ x, atI _ _ = some x ∧ _); refine ⟨_, rfl, ?_⟩)
  | ((with_reducible show ∃ x, ixN _ _ = some x ∧ _); refine ⟨_, rfl, ?_⟩)
  | ((with_reducible show List.length _ ≤ 100000 ∧ _); refine ⟨by (try simp only [List.length_cons, List.length_nil]); first | decide | omega, ?_⟩))
local macro_rules | `(tactic| walk_at "y") => `(tactic| first | walk_at "yo" | walk_at "ye" | walk_at "yv" | walk_at "ys" | walk_at "yd")
local macro_rules | `(tactic| walk_at "yx") => `(tactic| first | walk_at "yo" | walk_at "ye" | walk_at "yv" | walk_at "yd")

theorem co1 : cellO (.str "out") (.int 4) (.int 4) (.int 256) = some (("InvalidNumber" : Str), [Dt.int 4]) := by rw [cellO, if_neg (by decide +kernel), if_pos (by decide +kernel)]
theorem co2 : cellO (.str "out") (.int 3) (.int 3) (.int 255) = none := by rw [cellO, if_neg (by decide +kernel), if_neg (by decide +kernel), if_neg (by decide +kernel), if_neg (by decide +kernel)]
theorem co3 : cellO (.str "out") (.int 0) (.int 0) (.bl true) = some (("InvalidNumber" : Str), [Dt.bl true]) := by rw [cellO, if_neg (by decide +kernel), if_neg (by decide +kernel), if_neg (by decide +kernel), if_pos (by decide +kernel)]
theorem co4 : partO (.int 65536) = some (("InvalidNumber" : Str), [Dt.int 65536]) := by rw [partO, if_pos (by decide +kernel)]
theorem cv1 : Dt.int (cellD (codeIx "out" : Nat) 3 3 255) = .int 65535 := congrArg Dt.int (by decide +kernel)
theorem cv2 : codeOf 65535 = "out" ∧ codeOf 0 = "fault" := by decide +kernel
section
variable {P : Program} {w : World} {K : PySem.W.Frag} {mg : Str → Option Value} {base : Heap}

local macro_rules | `(tactic| walk_at "yo") => `(tactic| ((with_reducible show Ev _ (tCall (spR _ _ _ _) _ _ _) _ _); refine ev_callR xok_no ?_))
theorem ok__law_codes_so (T : Tx K mg w) (TB : ∀ p ∈ T.cs, LamX.TabB base mg p.1 p.2) : FnOk P w K mg base CX0 8 T.a__law_codes_so T.d__law_codes_so ["_law_codes_here"] (spDT K T.tabs codesPre sameTrue) := by
  have G_cell_of := ok_cell_of (P := P) (w := w) (base := base) T
  have G_parted := ok_parted (P := P) (w := w) (base := base) T
  have G__law_same := ok__law_same (P := P) (w := w) (base := base) T 6
  have G__law_whys := ok__law_whys (P := P) (w := w) (base := base) T
  refine fn_dataT T.F__law_codes_so sc__law_codes_so (fun ds h => ?_) (fun A outer s H E hr => ⟨_, (pss_cons (ps_if (PW.pt (pw_or (pt_not (pt_val (pe_callB (call_isiA (K := K)) (by rfl) T.n_isinstance PyProof.Rows.boot_isinstance (pa_cons (pe_glob (v := .ref T.a_CODES) (by rfl) T.m_CODES rfl) (pa_cons (pe_bltn (v := .ty "tuple") (by rfl) T.n_tuple (by decide +kernel) rfl) pa_nil))))) (pw_or1 (pt_not (pt_val (pe_call G__law_same (hr.mono (by decide)) (by rfl) T.m__law_same T.k__law_same T.b__law_same .nil pass0 (pa_cons (pe_callTy (call_listB (K := K) rfl) (by rfl) T.n_list PyProof.Rows.boot_list (pa_cons (pe_glob (v := .ref T.a_CODES) (by rfl) T.m_CODES rfl) pa_nil)) (pa_cons (pv 0) pa_nil)))))))) (pss_one (ps_ret pe_bl)) pss_nil)
      (pss_cons (ps_set (i := 1) sc__law_codes_so.nd rfl (Or.inl rfl) (pe_lst (pa_cons (pe_lam0 (TB _ T.in__law_codes_so) rfl T.tm__law_codes_so T.hu__law_codes_so (lamFree_by (sc := defScope s__law_codes_so) (by decide +kernel))) (pa_cons (pe_lam1 (TB _ T.in__law_codes_so) rfl T.tm__law_codes_so T.hu__law_codes_so (lamFree_by (sc := defScope s__law_codes_so) (by decide +kernel))) (pa_cons (pe_lam1 (TB _ T.in__law_codes_so) rfl T.tm__law_codes_so T.hu__law_codes_so (lamFree_by (sc := defScope s__law_codes_so) (by decide +kernel))) (pa_cons (pe_lam1 (TB _ T.in__law_codes_so) rfl T.tm__law_codes_so T.hu__law_codes_so (lamFree_by (sc := defScope s__law_codes_so) (by decide +kernel))) pa_nil))))))
      (pss_cons (ps_set (i := 2) sc__law_codes_so.nd rfl (Or.inl rfl) (pe_lst (pa_cons (pe_tup (pa_cons pe_str (pa_cons (pe_tup (pa_cons pe_int pa_nil)) pa_nil))) (pa_cons (pe_tup (pa_cons pe_str (pa_cons pe_non pa_nil))) (pa_cons (pe_tup (pa_cons pe_str (pa_cons (pe_tup (pa_cons pe_bl pa_nil)) pa_nil))) (pa_cons (pe_tup (pa_cons pe_str (pa_cons (pe_tup (pa_cons pe_int pa_nil)) pa_nil))) pa_nil))))))
      (pss_one (ps_ret (pe_and (pe_call G__law_same (hr.mono (by decide)) (by rfl) T.m__law_same T.k__law_same T.b__law_same .nil pass0 (pa_cons (pe_callTr (fun _ => rfl) G__law_whys (hr.mono (by decide)) (by rfl) T.m__law_whys T.k__law_whys T.b__law_whys (pa_cons (pv 1) pa_nil)) (pa_cons (pv 2) pa_nil))) (pe_one (pe_call G__law_same (hr.mono (by decide)) (by rfl) T.m__law_same T.k__law_same T.b__law_same .nil pass0 (pa_cons (pe_lst (pa_cons (pe_call G_cell_of (hr.mono (by decide)) (by rfl) T.m_cell_of T.k_cell_of (T.b_cell_of_4) (T.v_cell_of_4) passF (pa_cons pe_str (pa_cons pe_int (pa_cons pe_int (pa_cons pe_int pa_nil))))) (pa_cons (pe_call G_parted (hr.mono (by decide)) (by rfl) T.m_parted T.k_parted T.b_parted .nil passF (pa_cons pe_int pa_nil)) (pa_cons (pe_call G_parted (hr.mono (by decide)) (by rfl) T.m_parted T.k_parted T.b_parted .nil passF (pa_cons pe_int pa_nil)) pa_nil)))) (pa_cons (pe_lst (pa_cons pe_int (pa_cons (pe_tup (pa_cons pe_str (pa_cons pe_int (pa_cons pe_int (pa_cons pe_int pa_nil))))) (pa_cons (pe_tup (pa_cons pe_str (pa_cons pe_int (pa_cons pe_int (pa_cons pe_int pa_nil))))) pa_nil)))) pa_nil)))))))))), fun F0 H0 ds h => ?_⟩)
  · cases h; rfl
  · cases h
    dsimp only [cxOf, env0, env1, List.map, List.length, List.replicate, List.cons_append, List.nil_append, List.append, Nat.reduceAdd, Nat.reduceSub, Nat.zero_add]
    refine sm_seq (sm_if ?_)
    repeat (first | walk_at "yx" | refine ev_k T.kd_CODES ?_ | refine c_listT ?_)
    refine same_k rfl (by simp [codesD, Dt.pureD, pureAll]) (by simp [codesD, Dt.depth, depthAll]) ?_
    repeat walk_at "yx"
    refine sm_next ?_
    refine sm_seq (sm_setL (el_lst ?_))
    refine el_cons0 ⟨_, T.tm__law_codes_so⟩ fun f0 c0 => ?_
    refine el_cons1 ⟨_, T.tm__law_codes_so⟩ fun f1 c1 t1 => ?_
    refine el_cons1 ⟨_, T.tm__law_codes_so⟩ fun f2 c2 t2 => ?_
    refine el_cons1 ⟨_, T.tm__law_codes_so⟩ fun f3 c3 t3 => ?_
    refine el_nil ⟨by simp, ?_⟩
    intro a0
    refine sm_seq (sm_set ?_)
    repeat walk_at "yx"
    refine sm_ret (ev_and ?_)
    repeat walk_at "yx"
    refine ev_whys (el_var rfl ⟨[cellO (.str "out") (.int 4) (.int 4) (.int 256), cellO (.str "out") (.int 3) (.int 3) (.int 255), cellO (.str "out") (.int 0) (.int 0) (.bl true), partO (.int 65536)], by simp, fun σ F1 H1 os S inj has hlen h0 hv hls => ?_, ?_⟩)
    · refine ⟨?_, ?_, ?_, ?_, True.intro⟩
      · refine' ask_of (N' := ["_law_codes_here", "_law_asks", "_law_due"]) (dvb := false) ?LL0 S inj has hlen h0 hv rfl (hls _ List.mem_cons_self) ?EV0
        case LL0 => exact ⟨lamIn_by (sc := defScope s__law_codes_so) rfl (by decide +kernel) (by decide +kernel), rfl, rfl, rfl, noCell_by (by decide +kernel), (fun _ _ _ _ _ => rfl), (fun z => nomatch z), fun cl c dv f A outer s H E hr => (pe_call G_cell_of (hr.mono (by decide)) (by rfl) T.m_cell_of T.k_cell_of (T.b_cell_of_4) (T.v_cell_of_4) passL (pa_cons pe_str (pa_cons pe_int (pa_cons pe_int (pa_cons pe_int pa_nil)))))⟩
        intro F H E hx
        refine ev_callR hx ?_
        repeat walk_at "yx"
        exact cell_k ⟨rfl, rfl, rfl, rfl⟩ (fun h => h) fun _ _ e => err_of T e
      · refine' ask_of (N' := ["_law_codes_here", "_law_asks", "_law_due"]) (dvb := true) ?LL1 S inj has hlen h0 hv rfl (hls _ (List.mem_cons_of_mem _ List.mem_cons_self)) ?EV1
        case LL1 => exact ⟨lamIn_by (sc := defScope s__law_codes_so) rfl (by decide +kernel) (by decide +kernel), rfl, rfl, rfl, noCell_by (by decide +kernel), (fun z => nomatch z), (fun _ => ⟨"_law_a", by decide +kernel, fun cl c t pm ctv v => ⟨_, rfl, rfl⟩⟩), fun cl c dv f A outer s H E hr => (pe_call G_cell_of (hr.mono (by decide)) (by rfl) T.m_cell_of T.k_cell_of (T.b_cell_of_4) (T.v_cell_of_4) passL (pa_cons pe_str (pa_cons pe_int (pa_cons pe_int (pa_cons pe_int pa_nil)))))⟩
        intro F H E hx
        refine ev_callR hx ?_
        repeat walk_at "yx"
        exact cell_k ⟨rfl, rfl, rfl, rfl⟩ (fun h => h) fun _ _ e => err_of T e
      · refine' ask_of (N' := ["_law_codes_here", "_law_asks", "_law_due"]) (dvb := true) ?LL2 S inj has hlen h0 hv rfl (hls _ (List.mem_cons_of_mem _ (List.mem_cons_of_mem _ List.mem_cons_self))) ?EV2
        case LL2 => exact ⟨lamIn_by (sc := defScope s__law_codes_so) rfl (by decide +kernel) (by decide +kernel), rfl, rfl, rfl, noCell_by (by decide +kernel), (fun z => nomatch z), (fun _ => ⟨"_law_b", by decide +kernel, fun cl c t pm ctv v => ⟨_, rfl, rfl⟩⟩), fun cl c dv f A outer s H E hr => (pe_call G_cell_of (hr.mono (by decide)) (by rfl) T.m_cell_of T.k_cell_of (T.b_cell_of_4) (T.v_cell_of_4) passL (pa_cons pe_str (pa_cons pe_int (pa_cons pe_int (pa_cons pe_bl pa_nil)))))⟩
        intro F H E hx
        refine ev_callR hx ?_
        repeat walk_at "yx"
        exact cell_k ⟨rfl, rfl, rfl, rfl⟩ (fun h => h) fun _ _ e => err_of T e
      · refine' ask_of (N' := ["_law_codes_here", "_law_asks", "_law_due"]) (dvb := true) ?LL3 S inj has hlen h0 hv rfl (hls _ (List.mem_cons_of_mem _ (List.mem_cons_of_mem _ (List.mem_cons_of_mem _ List.mem_cons_self)))) ?EV3
        case LL3 => exact ⟨lamIn_by (sc := defScope s__law_codes_so) rfl (by decide +kernel) (by decide +kernel), rfl, rfl, rfl, noCell_by (by decide +kernel), (fun z => nomatch z), (fun _ => ⟨"_law_c", by decide +kernel, fun cl c t pm ctv v => ⟨_, rfl, rfl⟩⟩), fun cl c dv f A outer s H E hr => (pe_call G_parted (hr.mono (by decide)) (by rfl) T.m_parted T.k_parted T.b_parted .nil passL (pa_cons pe_int pa_nil))⟩
        intro F H E hx
        refine ev_callR hx ?_
        repeat walk_at "yx"
        exact part_k rfl (fun h => h) fun _ _ e => err_of T e

    repeat walk_at "yx"
    refine same_k (by rw [co1, co2, co3, co4]; rfl) (by simp [Dt.pureD, pureAll]) (by simp [Dt.depth, depthAll]) ?_
    repeat walk_at "y"
    refine cell_ok (by decide +kernel) ⟨by decide, by decide⟩ ⟨by decide, by decide⟩ ⟨by decide, by decide⟩ ?_
    repeat walk_at "yx"
    refine part_ok ⟨by decide, by decide⟩ ?_
    repeat walk_at "yx"
    refine part_ok ⟨by decide, by decide⟩ ?_
    repeat walk_at "yx"
    refine same_k (by rw [cv1, cv2.1, cv2.2]; rfl) (by simp [Dt.pureD, pureAll]) (by simp [Dt.depth, depthAll]) ?_
    repeat walk_at "y"
    rfl
end
end Law
namespace Law
open PySem L2 Y
local macro_rules | `(tactic| walk_at "yv") => `(tactic| ((with_reducible show Ev _ (tVar _) _ _); refine ev_var rfl ?_))
local macro_rules | `(tactic| walk_at "ys") => `(tactic| with_reducible first
  | refine sm_seq ?_ | refine sm_ret ?_ | refine sm_if ?_ | refine sm_set ?_ | refine sm_next ?_ | refine sm_par ?_ | refine sm_drop ?_ | refine sm_brk ?_ | refine sm_cont ?_)
local macro_rules | `(tactic| walk_at "ye") => `(tactic| with_reducible first
  | refine ev_op ?_ | refine ev_and ?_ | refine ev_or ?_ | refine ev_not ?_ | refine ev_if ?_ | refine ev_chain ?_ | refine ev_neg ?_ | refine ev_isInt ?_ | refine ev_isBool ?_ | refine ev_isStr ?_ | refine ev_isList ?_ | refine ev_isTuple ?_ | refine ev_isLT ?_ | refine ev_isDict ?_
  | refine ev_int ?_ | refine ev_str ?_ | refine ev_bl ?_ | refine ev_non ?_ | refine ev_call ?_ | refine ev_cb ?_ | refine ev_lst ?_ | refine ev_tup ?_ | refine ev_join ?_
  | refine ea_nil ?_ | refine ea_cons ?_
  | refine et_B ?_ | refine et_test ?_ | refine et_not ?_ | refine et_and ?_ | refine et_or ?_ | refine et_yes ?_
  | refine o_plusI ?_ | refine o_i0 ?_ | refine o_b0 ?_ | refine o_isN ?_ | refine o_notN ?_
  | refine bl_ex ?_ | refine int_ex ?_ | refine str_ex ?_ | refine lst_ex ?_ | refine tup_ex ?_)
local macro_rules | `(tactic| walk_at "yo") => `(tactic| first
  | ((with_reducible show Ev _ (tOp (rIx _) (tVar _) _) _ _); refine ev_ixOwn rfl ?_)
  | ((with_reducible show Ev _ (tCB _ (tCons (tVar _) tNil)) _ _); refine ev_lenOwn rfl ?_)
  | ((with_reducible show Sm _ (tAsg _ (gSub (tVar _) _ _)) _ _); refine sm_setItem rfl ?_)
  | ((with_reducible show Ev _ (tCall (spB _ _ _) _ _ _) _ _); refine ev_callB rfl rfl ?_))
local macro_rules | `(tactic| walk_at "yc") => `(tactic| first
  | ((with_reducible show CMul _ _); first | exact Or.inr ⟨by decide, by decide⟩ | exact Or.inl ⟨by decide, by decide⟩ | exact Or.inr ⟨by omega, by omega⟩ | exact Or.inl ⟨by omega, by omega⟩)
  | ((with_reducible show CDiv _ _); exact ⟨by first | decide | omega, by first | decide | omega⟩)
  | ((with_reducible show CPow _ _); exact ⟨by decide, by decide, by first | decide | omega⟩)
  | ((show (0 : Int) < _); first | decide | omega))
local macro_rules | `(tactic| walk_at "yd") => `(tactic| first
  | ((with_reducible show plainD _ = true ∧ _); refine ⟨by first | rfl | assumption, ?_⟩)
  | ((with_reducible show (_ = true → _) ∧ (_ = false → _)); first | refine way_t rfl ?_ | refine way_f rfl ?_ | refine way_t (by decide +kernel) ?_ | refine way_f (by decide +kernel) ?_)
  | ((with_reducible show Cal _ _ _ _ _); first | (with_reducible refine c_int ?_) | (with_reducible refine c_abs ?_) | (refine c_len rfl ?_) | (refine c_len (if_pos (by assumption)) ?_))
  | ((with_reducible show Op2 _ (rEqA _) _ _ _ _); refine o_eqA rfl ?_)
  | ((with_reducible show Op2 _ (rNeA _) _ _ _ _); refine o_neA rfl ?_)
  | ((with_reducible show Op2 _ (rInA _) _ (Dt.str _) (Dt.lst _) _); refine o_inAL rfl rfl ?_)
  | ((with_reducible show Op2 _ (rInA _) _ (Dt.str _) (Dt.tup _) _); refine o_inAT rfl rfl ?_)
  | ((with_reducible show Op2 _ (rI _ _) _ _ _ _); refine o_i (by walk_at "yc") ?_)
  | ((with_reducible show Op2 _ (rIx _) _ (Dt.tup _) _ _); refine o_ixAT (atI_toNat (by decide) rfl) ?_)
  | ((with_reducible show Op2 _ (rIx _) _ (Dt.lst _) _ _); refine o_ixAL (atI_toNat (by decide) rfl) ?_)
  | ((with_reducible show ∃ x, atI _ _ = some x ∧ _); refine ⟨_, rfl, ?_⟩)
  | ((with_reducible show ∃ x, ixN _ _ = some x ∧ _); refine ⟨_, rfl, ?_⟩)
  | ((with_reducible show List.length _ ≤ 100000 ∧ _); refine ⟨by (try simp only [List.length_cons, List.length_nil]); first | decide | omega, ?_⟩))
local macro_rules | `(tactic| walk_at "y") => `(tactic| first | walk_at "yo" | walk_at "ye" | walk_at "yv" | walk_at "ys" | walk_at "yd")
local macro_rules | `(tactic| walk_at "yx") => `(tactic| first | walk_at "yo" | walk_at "ye" | walk_at "yv" | walk_at "yd")

theorem lst4 {a b c d a' b' c' d' : Int} (h1 : a = a') (h2 : b = b') (h3 : c = c') (h4 : d = d') : Dt.lst [.int a, .int b, .int c, .int d] = .lst [.int a', .int b', .int c', .int d'] := by rw [h1, h2, h3, h4]
theorem lst3 {a b c a' b' c' : Int} (h1 : a = a') (h2 : b = b') (h3 : c = c') : Dt.lst [.int a, .int b, .int c] = .lst [.int a', .int b', .int c'] := by rw [h1, h2, h3]
theorem codeOf_cell {z : Str} {a b c n : Int} (hz : z ∈ codesL) (ha : 0 ≤ a ∧ a ≤ 3) (hb : 0 ≤ b ∧ b ≤ 3) (hc : 0 ≤ c ∧ c ≤ 255) (hn : n = (((codeIx z : Nat) * 4 + a) * 4 + b) * 256 + c) : codeOf n = z ∧ n / 1024 % 4 = a ∧ n / 256 % 4 = b ∧ n % 256 = c ∧ 0 ≤ n ∧ n ≤ 65535 := by
  have hj := code_le hz
  refine ⟨?_, by omega, by omega, by omega, by omega, by omega⟩
  have e : (n / 4096).toNat = codeIx z := by omega
  unfold codeOf
  rw [e, List.getD_eq_getElem?_getD, code_at hz]; rfl
theorem found_eq {z z' : Str} {n m m' a b c a' b' c' : Int} (h0 : m = n) (h1 : m' = n) (hz : z' = z) (ha : a' = a) (hb : b' = b) (hc : c' = c) : Dt.lst [.int m, .int m', .tup [.str z', .int a', .int b', .int c'], .tup [.str z', .int a', .int b', .int c']] = .lst [.int n, .int n, .tup [.str z, .int a, .int b, .int c], .tup [.str z, .int a, .int b, .int c]] := by rw [h0, h1, hz, ha, hb, hc]
theorem apart_eq {d : Dt} {n m : Int} (h : m = n) : Dt.lst [d, .int m] = .lst [d, .int n] := by rw [h]
theorem text_of {d : Dt} (h : d ∈ codesD) : ∃ z, d = .str z ∧ z ∈ codesL := by
  have h : d ∈ codesL.map Dt.str := h
  obtain ⟨z, hz, e⟩ := List.mem_map.mp h
  exact ⟨z, e.symm, hz⟩
section
variable {P : Program} {w : World} {K : PySem.W.Frag} {mg : Str → Option Value} {base : Heap}

local macro_rules | `(tactic| walk_at "yo") => `(tactic| ((with_reducible show Ev _ (tCall (spR _ _ _ _) _ _ _) _ _); refine ev_callR xok_no ?_))
theorem ok_law (T : Tx K mg w) (TB : ∀ p ∈ T.cs, LamX.TabB base mg p.1 p.2) : FnOk P w K mg base CX0 9 T.a_law T.d_law ["_law_script"] (spLawT K T.tabs) := by
  have G__law_bag := ok__law_bag (P := P) (w := w) (base := base) T
  have G__law_draw := ok__law_draw (P := P) (w := w) (base := base) T
  have G__law_of := ok__law_of (P := P) (w := w) (base := base) T
  have G__law_number := ok__law_number (P := P) (w := w) (base := base) T
  have G__law_codes := ok__law_codes (P := P) (w := w) (base := base) T
  have G__law_fours := ok__law_fours (P := P) (w := w) (base := base) T
  have G_cell_of := ok_cell_of (P := P) (w := w) (base := base) T
  have G_parted := ok_parted (P := P) (w := w) (base := base) T
  have G_with_part := ok_with_part (P := P) (w := w) (base := base) T
  have G__law_same := ok__law_same (P := P) (w := w) (base := base) T 6
  have G__law_wrong_so := ok__law_wrong_so (P := P) (w := w) (base := base) T TB
  have G__law_codes_so := ok__law_codes_so (P := P) (w := w) (base := base) T TB
  refine fn_lawT (T := T.tabs) T.F_law sc_law (fun cdv A outer s H E hr => ⟨_, (pss_cons (ps_set (i := 1) sc_law.nd rfl (Or.inl rfl) (pe_call G__law_bag (hr.mono (by decide)) (by rfl) T.m__law_bag T.k__law_bag T.b__law_bag .nil pass0 (pa_cons (pv 0) pa_nil)))
      (pss_cons (ps_set (i := 2) sc_law.nd rfl (Or.inl rfl) (pe_call0 G__law_codes (hr.mono (by decide)) (by rfl) T.m__law_codes T.k__law_codes T.b__law_codes .nil pass0))
      (pss_cons (ps_for PassesOwn.never rfl (pi_range1 (by rfl) T.n_range (pa_cons pe_int pa_nil)) (pg_name (i := 3) sc_law.nd rfl (Or.inl rfl)) (pss_cons (ps_asg (pe_tup (pa_cons (pe_call G__law_of (hr.mono (by decide)) (by rfl) T.m__law_of T.k__law_of T.b__law_of .nil pass0 (pa_cons (pv 1) (pa_cons (pv 2) pa_nil))) (pa_cons (pe_call G__law_draw (hr.mono (by decide)) (by rfl) T.m__law_draw T.k__law_draw T.b__law_draw .nil pass0 (pa_cons (pv 1) (pa_cons pe_int pa_nil))) (pa_cons (pe_call G__law_draw (hr.mono (by decide)) (by rfl) T.m__law_draw T.k__law_draw T.b__law_draw .nil pass0 (pa_cons (pv 1) (pa_cons pe_int pa_nil))) (pa_cons (pe_call G__law_of (hr.mono (by decide)) (by rfl) T.m__law_of T.k__law_of T.b__law_of .nil pass0 (pa_cons (pv 1) (pa_cons (pe_lst (pa_cons pe_int (pa_cons pe_int (pa_cons pe_int (pa_cons pe_int (pa_cons (pe_call G__law_draw (hr.mono (by decide)) (by rfl) T.m__law_draw T.k__law_draw T.b__law_draw .nil pass0 (pa_cons (pv 1) (pa_cons pe_int pa_nil))) pa_nil)))))) pa_nil))) pa_nil))))) (pg_tupA (K := K) rfl (pgs_cons (pg_name (i := 4) sc_law.nd rfl (Or.inl rfl)) (pgs_cons (pg_name (i := 5) sc_law.nd rfl (Or.inl rfl)) (pgs_cons (pg_name (i := 6) sc_law.nd rfl (Or.inl rfl)) (pgs_cons (pg_name (i := 7) sc_law.nd rfl (Or.inl rfl)) pgs_nil))))))
      (pss_cons (ps_set (i := 8) sc_law.nd rfl (Or.inl rfl) (pe_op (op_plus (K := K)) (pe_op op_mul (pe_op (op_plus (K := K)) (pe_op op_mul (pe_op (op_plus (K := K)) (pe_op op_mul (pe_bm PySem.F.plainAttrs_list PySem.F.slot_list_index PySem.F.type_list_index mt_index (pv 2) (pa_cons (pv 4) pa_nil)) pe_int) (pv 5)) pe_int) (pv 6)) pe_int) (pv 7)))
      (pss_cons (ps_set (i := 9) sc_law.nd rfl (Or.inl rfl) (pe_lst (pa_cons (pe_call G_cell_of (hr.mono (by decide)) (by rfl) T.m_cell_of T.k_cell_of (T.b_cell_of_4) (T.v_cell_of_4) passF (pa_cons (pv 4) (pa_cons (pv 5) (pa_cons (pv 6) (pa_cons (pv 7) pa_nil))))) (pa_cons (pe_callN0 G_cell_of (hr.mono (by decide)) (by rfl) T.m_cell_of T.k_cell_of T.kb_cell_of_0_part_s_r_word passF (pk_cons (pv 7) (pk_cons (pv 6) (pk_cons (pv 5) (pk_cons (pv 4) pk_nil))))) (pa_cons (pe_call G_parted (hr.mono (by decide)) (by rfl) T.m_parted T.k_parted T.b_parted .nil passF (pa_cons (pv 8) pa_nil)) (pa_cons (pe_callN0 G_parted (hr.mono (by decide)) (by rfl) T.m_parted T.k_parted T.kb_parted_0_cell passF (pk_cons (pv 8) pk_nil)) pa_nil))))))
      (pss_cons (ps_if (pt_not (pt_val (pe_call G__law_same (hr.mono (by decide)) (by rfl) T.m__law_same T.k__law_same T.b__law_same .nil pass0 (pa_cons (pv 9) (pa_cons (pe_lst (pa_cons (pv 8) (pa_cons (pv 8) (pa_cons (pe_tup (pa_cons (pv 4) (pa_cons (pv 5) (pa_cons (pv 6) (pa_cons (pv 7) pa_nil))))) (pa_cons (pe_tup (pa_cons (pv 4) (pa_cons (pv 5) (pa_cons (pv 6) (pa_cons (pv 7) pa_nil))))) pa_nil))))) pa_nil))))) (pss_one (ps_ret pe_bl)) pss_nil)
      (pss_cons (ps_set (i := 10) sc_law.nd rfl (Or.inl rfl) (pe_lst (pa_cons (pe_call G_cell_of (hr.mono (by decide)) (by rfl) T.m_cell_of T.k_cell_of (T.b_cell_of_1) (T.v_cell_of_1) passF (pa_cons (pv 4) pa_nil)) (pa_cons (pe_call G_cell_of (hr.mono (by decide)) (by rfl) T.m_cell_of T.k_cell_of (T.b_cell_of_2) (T.v_cell_of_2) passF (pa_cons (pv 4) (pa_cons (pv 5) pa_nil))) (pa_cons (pe_callN G_cell_of (hr.mono (by decide)) (by rfl) T.m_cell_of T.k_cell_of T.kb_cell_of_1_part passF (pa_cons (pv 4) pa_nil) (pk_cons (pv 7) pk_nil)) (pa_cons (pe_callN G_cell_of (hr.mono (by decide)) (by rfl) T.m_cell_of T.k_cell_of T.kb_cell_of_1_s passF (pa_cons (pv 4) pa_nil) (pk_cons (pv 6) pk_nil)) pa_nil))))))
      (pss_cons (ps_if (pt_not (pt_val (pe_call G__law_same (hr.mono (by decide)) (by rfl) T.m__law_same T.k__law_same T.b__law_same .nil pass0 (pa_cons (pv 10) (pa_cons (pe_lst (pa_cons (pe_op op_sub (pe_op op_sub (pe_op op_sub (pv 8) (pe_op op_mul (pv 5) pe_int)) (pe_op op_mul (pv 6) pe_int)) (pv 7)) (pa_cons (pe_op op_sub (pe_op op_sub (pv 8) (pe_op op_mul (pv 6) pe_int)) (pv 7)) (pa_cons (pe_op op_sub (pe_op op_sub (pv 8) (pe_op op_mul (pv 5) pe_int)) (pe_op op_mul (pv 6) pe_int)) (pa_cons (pe_op op_sub (pe_op op_sub (pv 8) (pe_op op_mul (pv 5) pe_int)) (pv 7)) pa_nil))))) pa_nil))))) (pss_one (ps_ret pe_bl)) pss_nil)
      (pss_cons (ps_par rfl sc_law.nd (i := 11) (j := 12) rfl rfl (by decide) rfl rfl (pa_cons (pe_call G__law_number (hr.mono (by decide)) (by rfl) T.m__law_number T.k__law_number T.b__law_number .nil pass0 (pa_cons (pv 1) pa_nil)) (pa_cons (pe_call G__law_draw (hr.mono (by decide)) (by rfl) T.m__law_draw T.k__law_draw T.b__law_draw .nil pass0 (pa_cons (pv 1) (pa_cons pe_int pa_nil))) pa_nil)) rfl)
      (pss_cons (ps_set (i := 13) sc_law.nd rfl (Or.inl rfl) (pe_call G__law_fours (hr.mono (by decide)) (by rfl) T.m__law_fours T.k__law_fours T.b__law_fours .nil pass0 (pa_cons (pv 11) pa_nil)))
      (pss_cons (ps_if (pt_not (pt_val (pe_call G__law_same (hr.mono (by decide)) (by rfl) T.m__law_same T.k__law_same T.b__law_same .nil pass0 (pa_cons (pe_lst (pa_cons (pe_call G_parted (hr.mono (by decide)) (by rfl) T.m_parted T.k_parted T.b_parted .nil passF (pa_cons (pv 11) pa_nil)) (pa_cons (pe_call G_cell_of (hr.mono (by decide)) (by rfl) T.m_cell_of T.k_cell_of (T.b_cell_of_4) (T.v_cell_of_4) passF (pa_cons (pe_ix (ix_any (K := K)) (pv 13) pe_int (fun _ _ => rfl)) (pa_cons (pe_ix (ix_any (K := K)) (pv 13) pe_int (fun _ _ => rfl)) (pa_cons (pe_ix (ix_any (K := K)) (pv 13) pe_int (fun _ _ => rfl)) (pa_cons (pe_ix (ix_any (K := K)) (pv 13) pe_int (fun _ _ => rfl)) pa_nil))))) pa_nil))) (pa_cons (pe_lst (pa_cons (pv 13) (pa_cons (pv 11) pa_nil))) pa_nil))))) (pss_one (ps_ret pe_bl)) pss_nil)
      (pss_cons (ps_set (i := 14) sc_law.nd rfl (Or.inl rfl) (pe_lst (pa_cons (pe_call G_with_part (hr.mono (by decide)) (by rfl) T.m_with_part T.k_with_part T.b_with_part .nil pass0 (pa_cons (pv 11) (pa_cons (pv 12) pa_nil))) (pa_cons (pe_callN0 G_with_part (hr.mono (by decide)) (by rfl) T.m_with_part T.k_with_part T.kb_with_part_0_part_cell pass0 (pk_cons (pv 12) (pk_cons (pv 11) pk_nil))) (pa_cons (pe_call G_with_part (hr.mono (by decide)) (by rfl) T.m_with_part T.k_with_part T.b_with_part .nil pass0 (pa_cons (pv 11) (pa_cons (pe_ix (ix_any (K := K)) (pv 13) pe_int (fun _ _ => rfl)) pa_nil))) pa_nil)))))
      (pss_cons (ps_if (pt_not (pt_val (pe_call G__law_same (hr.mono (by decide)) (by rfl) T.m__law_same T.k__law_same T.b__law_same .nil pass0 (pa_cons (pv 14) (pa_cons (pe_lst (pa_cons (pe_op (op_plus (K := K)) (pe_op op_sub (pv 11) (pe_ix (ix_any (K := K)) (pv 13) pe_int (fun _ _ => rfl))) (pv 12)) (pa_cons (pe_op (op_plus (K := K)) (pe_op op_sub (pv 11) (pe_ix (ix_any (K := K)) (pv 13) pe_int (fun _ _ => rfl))) (pv 12)) (pa_cons (pv 11) pa_nil)))) pa_nil))))) (pss_one (ps_ret pe_bl)) pss_nil)
      (pss_one (ps_if (pt_not (pt_val (pe_call G__law_wrong_so (hr.mono (by decide)) (by rfl) T.m__law_wrong_so T.k__law_wrong_so T.b__law_wrong_so .nil pass0 (pa_cons (pv 1) (pa_cons (pv 4) (pa_cons (pv 5) (pa_cons (pv 6) (pa_cons (pv 7) pa_nil)))))))) (pss_one (ps_ret pe_bl)) pss_nil))))))))))))))
      (pss_one (ps_ret (pe_call G__law_codes_so (hr.mono (by decide)) (by rfl) T.m__law_codes_so T.k__law_codes_so T.b__law_codes_so .nil pass0 (pa_cons (pv 2) pa_nil))))))), fun F0 H0 a b => ?_⟩) (by decide)
  dsimp only [cxOf, env0, env1, List.map, List.length, List.replicate, List.cons_append, List.nil_append, List.append, Nat.reduceAdd, Nat.reduceSub, Nat.zero_add]
  refine sm_seq (sm_set ?_)
  repeat walk_at "yx"
  refine codes_k ?_
  refine sm_seq (sm_for (ei_rng1 ?_))
  repeat walk_at "yx"
  refine ⟨8, rfl, by decide, by decide, fun _ e => ∃ s3 s4 s5 s6 s7 s8 s9 s10 s11 s12 s13 s14, e = [.r (.ref a), .r (.ref b), .d (.lst codesD), s3, s4, s5, s6, s7, s8, s9, s10, s11, s12, s13, s14], ⟨_, _, _, _, _, _, _, _, _, _, _, _, rfl⟩, ?_, ?_⟩
  · rintro it x es' hx ⟨s3, s4, s5, s6, s7, s8, s9, s10, s11, s12, s13, s14, rfl⟩
    obtain ⟨hi, rfl⟩ := rangeD_get hx
    refine tg_name ?_
    refine sm_seq (sm_asg (ev_tup ?_))
    repeat walk_at "yx"
    refine of_k ⟨by show 0 < 16; decide, by show 16 ≤ 100000; decide⟩ fun d0 hd0 => ?_
    obtain ⟨z, rfl, hz⟩ := text_of hd0
    repeat walk_at "yx"
    refine draw_k ⟨by decide, by decide⟩ fun ra ra0 ra1 => ?_
    repeat walk_at "yx"
    refine draw_k ⟨by decide, by decide⟩ fun rb rb0 rb1 => ?_
    repeat walk_at "yx"
    refine draw_k ⟨by decide, by decide⟩ fun pc pc0 pc1 => ?_
    repeat walk_at "yx"
    refine of_k ⟨by show 0 < 5; decide, by show 5 ≤ 100000; decide⟩ fun c0 hc0 => ?_
    obtain ⟨rc, rfl, rc0, rc1⟩ : ∃ rc : Int, c0 = .int rc ∧ 0 ≤ rc ∧ rc ≤ 255 := by
      simp only [List.mem_cons, List.not_mem_nil, or_false] at hc0
      rcases hc0 with rfl | rfl | rfl | rfl | rfl <;> exact ⟨_, rfl, by omega, by omega⟩
    clear hc0 hd0
    repeat walk_at "yx"
    refine tg_tup rfl (tgs_cons (tg_name (tgs_cons (tg_name (tgs_cons (tg_name (tgs_cons (tg_name (tgs_nil ?_)))))))))
    have hj := code_le hz
    obtain ⟨n, hn⟩ : ∃ n : Int, n = (((codeIx z : Nat) * 4 + ra) * 4 + rb) * 256 + rc := ⟨_, rfl⟩
    obtain ⟨c1, c2, c3, c4, n0, n1⟩ := codeOf_cell hz ⟨ra0, by omega⟩ ⟨rb0, by omega⟩ ⟨rc0, rc1⟩ hn
    refine sm_seq (sm_set (Ev.imp (P := fun d => d = .int n) (ev_op (ev_op (ev_op (ev_op (ev_op (ev_op (ev_listIndex (ys := codesL) rfl (ev_var rfl ⟨z, codeIx z, rfl, code_at hz, fun m hm e => absurd (codes_inj e (code_at hz)) (by omega), ?_⟩)))))))) ?_))
    · repeat walk_at "yx"
      rw [hn]
    rintro _ rfl
    refine sm_seq (sm_set ?_)
    repeat walk_at "yx"
    refine cell_ok hz ⟨ra0, by omega⟩ ⟨rb0, by omega⟩ ⟨rc0, rc1⟩ ?_
    refine ea_cons (ev_callRN (gD := gk_cell_of_0_part_s_r_word [.int 0, .int 0, .int 0]) gkr_cell_of_0_part_s_r_word xok_no ?_)
    repeat walk_at "yx"
    refine ⟨rfl, rfl, cell_ok hz ⟨ra0, by omega⟩ ⟨rb0, by omega⟩ ⟨rc0, rc1⟩ ?_⟩
    repeat walk_at "yx"
    refine part_ok ⟨n0, n1⟩ ?_
    refine ea_cons (ev_callRN (gD := gk_parted_0_cell) gkr_parted_0_cell xok_no ?_)
    repeat walk_at "yx"
    refine ⟨rfl, rfl, part_ok ⟨n0, n1⟩ ?_⟩
    repeat walk_at "yx"
    refine sm_seq (sm_if (et_not (et_test ?_)))
    repeat walk_at "yx"
    refine same_k (found_eq (by unfold cellD; omega) (by unfold cellD; omega) c1 c2 c3 c4) (by simp [Dt.pureD, pureAll]) (by simp [Dt.depth, depthAll]) ?_
    repeat walk_at "y"
    refine ev_callRD (dds := [.int 0, .int 0, .int 0]) (fun F => .cons (.int _) (.cons (.int _) (.cons (.int _) .nil))) xok_no ?_
    repeat walk_at "yx"
    refine cell_ok hz ⟨by decide, by decide⟩ ⟨by decide, by decide⟩ ⟨by decide, by decide⟩ ?_
    refine ea_cons (ev_callRD (dds := [.int 0, .int 0]) (fun F => .cons (.int _) (.cons (.int _) .nil)) xok_no ?_)
    repeat walk_at "yx"
    refine cell_ok hz ⟨ra0, by omega⟩ ⟨by decide, by decide⟩ ⟨by decide, by decide⟩ ?_
    refine ea_cons (ev_callRN (gD := gk_cell_of_1_part [.int 0, .int 0, .int 0]) gkr_cell_of_1_part xok_no ?_)
    repeat walk_at "yx"
    refine ⟨rfl, rfl, cell_ok hz ⟨by decide, by decide⟩ ⟨by decide, by decide⟩ ⟨rc0, rc1⟩ ?_⟩
    refine ea_cons (ev_callRN (gD := gk_cell_of_1_s [.int 0, .int 0, .int 0]) gkr_cell_of_1_s xok_no ?_)
    repeat walk_at "yx"
    refine ⟨rfl, rfl, cell_ok hz ⟨by decide, by decide⟩ ⟨rb0, by omega⟩ ⟨by decide, by decide⟩ ?_⟩
    repeat walk_at "yx"
    refine sm_seq (sm_if (et_not (et_test ?_)))
    repeat walk_at "yx"
    refine same_k (lst4 (by unfold cellD; omega) (by unfold cellD; omega) (by unfold cellD; omega) (by unfold cellD; omega)) (by simp [Dt.pureD, pureAll]) (by simp [Dt.depth, depthAll]) ?_
    repeat walk_at "y"
    refine number_k fun m m0 m1 => ?_
    repeat walk_at "yx"
    refine draw_k ⟨by decide, by decide⟩ fun lt lt0 lt1 => ?_
    repeat walk_at "yx"
    refine ⟨_, _, rfl, ?_⟩
    obtain ⟨q1, q2, q3⟩ := codeOf_at m0 (by omega)
    refine sm_seq (sm_set ?_)
    repeat walk_at "yx"
    refine fours_k ⟨m0, m1⟩ ?_
    refine sm_seq (sm_if (et_not (et_test ?_)))
    repeat walk_at "yx"
    refine part_ok ⟨m0, m1⟩ ?_
    repeat walk_at "yx"
    refine cell_ok q2 ⟨by omega, by omega⟩ ⟨by omega, by omega⟩ ⟨by omega, by omega⟩ ?_
    repeat walk_at "yx"
    refine same_k (apart_eq (by unfold cellD; omega)) (by simp [Dt.pureD, pureAll]) (by simp [Dt.depth, depthAll]) ?_
    repeat walk_at "y"
    refine with_k ?_
    refine ea_cons (ev_callN (gD := gk_with_part_0_part_cell) gkr_with_part_0_part_cell ?_)
    repeat walk_at "yx"
    refine ⟨rfl, rfl, with_k ?_⟩
    repeat walk_at "yx"
    refine with_k ?_
    repeat walk_at "yx"
    refine sm_seq (sm_if (et_not (et_test ?_)))
    repeat walk_at "yx"
    refine same_k (lst3 (by omega) (by omega) (by omega)) (by simp [Dt.pureD, pureAll]) (by simp [Dt.depth, depthAll]) ?_
    repeat walk_at "y"
    first | refine ev_callBT rfl rfl ?_ | refine et_test (ev_callBT rfl rfl ?_) | refine et_not (et_test (ev_callBT rfl rfl ?_)) | refine sm_if (et_not (et_test (ev_callBT rfl rfl ?_)))
    repeat walk_at "yx"
    refine wrong_k ⟨rfl, rfl, rfl, rfl⟩ ?_
    repeat walk_at "y"
    exact ⟨_, _, _, _, _, _, _, _, _, _, _, _, rfl⟩
  · rintro es' ⟨s3, s4, s5, s6, s7, s8, s9, s10, s11, s12, s13, s14, rfl⟩
    refine sm_ret (ev_callT ?_)
    repeat walk_at "yx"
    exact ⟨rfl, fun d h => h⟩
end
end Law
namespace Law
open PySem L2 Y
local macro_rules | `(tactic| walk_at "yv") => `(tactic| ((with_reducible show Ev _ (tVar _) _ _); refine ev_var rfl ?_))
local macro_rules | `(tactic| walk_at "ys") => `(tactic| with_reducible first
  | refine sm_seq ?_ | refine sm_ret ?_ | refine sm_if ?_ | refine sm_set ?_ | refine sm_next ?_ | refine sm_par ?_ | refine sm_drop ?_ | refine sm_brk ?_ | refine sm_cont ?_)
local macro_rules | `(tactic| walk_at "ye") => `(tactic| with_reducible first
  | refine ev_op ?_ | refine ev_and ?_ | refine ev_or ?_ | refine ev_not ?_ | refine ev_if ?_ | refine ev_chain ?_ | refine ev_neg ?_ | refine ev_isInt ?_ | refine ev_isBool ?_ | refine ev_isStr ?_ | refine ev_isList ?_ | refine ev_isTuple ?_ | refine ev_isLT ?_ | refine ev_isDict ?_
  | refine ev_int ?_ | refine ev_str ?_ | refine ev_bl ?_ | refine ev_non ?_ | refine ev_call ?_ | refine ev_cb ?_ | refine ev_lst ?_ | refine ev_tup ?_ | refine ev_join ?_
  | refine ea_nil ?_ | refine ea_cons ?_
  | refine et_B ?_ | refine et_test ?_ | refine et_not ?_ | refine et_and ?_ | refine et_or ?_ | refine et_yes ?_
  | refine o_plusI ?_ | refine o_i0 ?_ | refine o_b0 ?_ | refine o_isN ?_ | refine o_notN ?_
  | refine bl_ex ?_ | refine int_ex ?_ | refine str_ex ?_ | refine lst_ex ?_ | refine tup_ex ?_)
local macro_rules | `(tactic| walk_at "yo") => `(tactic| first
  | ((with_reducible show Ev _ (tOp (rIx _) (tVar _) _) _ _); refine ev_ixOwn rfl ?_)
  | ((with_reducible show Ev _ (tCB _ (tCons (tVar _) tNil)) _ _); refine ev_lenOwn rfl ?_)
  | ((with_reducible show Sm _ (tAsg _ (gSub (tVar _) _ _)) _ _); refine sm_setItem rfl ?_)
  | ((with_reducible show Ev _ (tCall (spB _ _ _) _ _ _) _ _); refine ev_callB rfl rfl ?_))
local macro_rules | `(tactic| walk_at "yc") => `(tactic| first
  | ((with_reducible show CMul _ _); first | exact Or.inr ⟨by decide, by decide⟩ | exact Or.inl ⟨by decide, by decide⟩ | exact Or.inr ⟨by omega, by omega⟩ | exact Or.inl ⟨by omega, by omega⟩)
  | ((with_reducible show CDiv _ _); exact ⟨by first | decide | omega, by first | decide | omega⟩)
  | ((with_reducible show CPow _ _); exact ⟨by decide, by decide, by first | decide | omega⟩)
  | ((show (0 : Int) < _); first | decide | omega))
local macro_rules | `(tactic| walk_at "yd") => `(tactic| first
  | ((with_reducible show plainD _ = true ∧ _); refine ⟨by first | rfl | assumption, ?_⟩)
  | ((with_reducible show (_ = true → _) ∧ (_ = false → _)); first | refine way_t rfl ?_ | refine way_f rfl ?_ | refine way_t (by decide +kernel) ?_ | refine way_f (by decide +kernel) ?_)
  | ((with_reducible show Cal _ _ _ _ _); first | (with_reducible refine c_int ?_) | (with_reducible refine c_abs ?_) | (refine c_len rfl ?_) | (refine c_len (if_pos (by assumption)) ?_))
  | ((with_reducible show Op2 _ (rEqA _) _ _ _ _); refine o_eqA rfl ?_)
  | ((with_reducible show Op2 _ (rNeA _) _ _ _ _); refine o_neA rfl ?_)
  | ((with_reducible show Op2 _ (rInA _) _ (Dt.str _) (Dt.lst _) _); refine o_inAL rfl rfl ?_)
  | ((with_reducible show Op2 _ (rInA _) _ (Dt.str _) (Dt.tup _) _); refine o_inAT rfl rfl ?_)
  | ((with_reducible show Op2 _ (rI _ _) _ _ _ _); refine o_i (by walk_at "yc") ?_)
  | ((with_reducible show Op2 _ (rIx _) _ (Dt.tup _) _ _); refine o_ixAT (atI_toNat (by decide) rfl) ?_)
  | ((with_reducible show Op2 _ (rIx _) _ (Dt.lst _) _ _); refine o_ixAL (atI_toNat (by decide) rfl) ?_)
  | ((with_reducible show ∃ x, atI _ _ = some x ∧ _); refine ⟨_, rfl, ?_⟩)
  | ((with_reducible show ∃ x, ixN _ _ = some x ∧ _); refine ⟨_, rfl, ?_⟩)
  | ((with_reducible show List.length _ ≤ 100000 ∧ _); refine ⟨by (try simp only [List.length_cons, List.length_nil]); first | decide | omega, ?_⟩))
local macro_rules | `(tactic| walk_at "y") => `(tactic| first | walk_at "yo" | walk_at "ye" | walk_at "yv" | walk_at "ys" | walk_at "yd")
local macro_rules | `(tactic| walk_at "yx") => `(tactic| first | walk_at "yo" | walk_at "ye" | walk_at "yv" | walk_at "yd")
theorem gkv_parted_0_cell : ∀ (vs : List V) (ds : List Value) (zs : List V) (as : List Value), Vals vs ds → Vals zs as → Vals (gk_parted_0_cell vs zs) (gk_parted_0_cell ds as) := by
  intro vs ds zs as h1 h2
  cases h1 with
  | cons _ _ => first | exact .nil | (cases h2 <;> exact .nil)
  | nil =>
    cases h2 with
    | nil => exact .nil
    | cons b0 t20 =>
      cases t20 with
      | cons _ _ => exact .nil
      | nil =>
        exact .cons b0 .nil
theorem gkv_with_part_0_part_cell : ∀ (vs : List V) (ds : List Value) (zs : List V) (as : List Value), Vals vs ds → Vals zs as → Vals (gk_with_part_0_part_cell vs zs) (gk_with_part_0_part_cell ds as) := by
  intro vs ds zs as h1 h2
  cases h1 with
  | cons _ _ => first | exact .nil | (cases h2 <;> exact .nil)
  | nil =>
    cases h2 with
    | nil => exact .nil
    | cons b0 t20 =>
      cases t20 with
      | nil => exact .nil
      | cons b1 t21 =>
        cases t21 with
        | cons _ _ => exact .nil
        | nil =>
          exact .cons b1 (.cons b0 .nil)
theorem gkw_cell_of_0_r_s_part_word {fv : List V} {fu : List Value} {vs zs : List V} {us ws : List Value} (h0 : Vals fv fu) (h1 : Vals vs us) (h2 : Vals zs ws) : Vals (gk_cell_of_0_r_s_part_word fv vs zs) (gk_cell_of_0_r_s_part_word fu us ws) := by
  cases h0 with
  | nil => (first | exact .nil | (cases h1 <;> first | exact .nil | (cases h2 <;> exact .nil)) | (cases h2 <;> exact .nil))
  | cons c0 tc0 =>
    cases tc0 with
    | nil => (first | exact .nil | (cases h1 <;> first | exact .nil | (cases h2 <;> exact .nil)) | (cases h2 <;> exact .nil))
    | cons c1 tc1 =>
      cases tc1 with
      | nil => (first | exact .nil | (cases h1 <;> first | exact .nil | (cases h2 <;> exact .nil)) | (cases h2 <;> exact .nil))
      | cons c2 tc2 =>
        cases tc2 with
        | cons _ _ => (first | exact .nil | (cases h1 <;> first | exact .nil | (cases h2 <;> exact .nil)) | (cases h2 <;> exact .nil))
        | nil =>
          cases h1 with
          | cons _ _ => (first | exact .nil | (cases h1 <;> first | exact .nil | (cases h2 <;> exact .nil)) | (cases h2 <;> exact .nil))
          | nil =>
            cases h2 with
            | nil => (first | exact .nil | (cases h1 <;> first | exact .nil | (cases h2 <;> exact .nil)) | (cases h2 <;> exact .nil))
            | cons b0 tb0 =>
              cases tb0 with
              | nil => (first | exact .nil | (cases h1 <;> first | exact .nil | (cases h2 <;> exact .nil)) | (cases h2 <;> exact .nil))
              | cons b1 tb1 =>
                cases tb1 with
                | nil => (first | exact .nil | (cases h1 <;> first | exact .nil | (cases h2 <;> exact .nil)) | (cases h2 <;> exact .nil))
                | cons b2 tb2 =>
                  cases tb2 with
                  | nil => (first | exact .nil | (cases h1 <;> first | exact .nil | (cases h2 <;> exact .nil)) | (cases h2 <;> exact .nil))
                  | cons b3 tb3 =>
                    cases tb3 with
                    | cons _ _ => (first | exact .nil | (cases h1 <;> first | exact .nil | (cases h2 <;> exact .nil)) | (cases h2 <;> exact .nil))
                    | nil =>
                      exact .cons b3 (.cons b0 (.cons b1 (.cons b2 (.nil))))
theorem gkw_cell_of_0_part_s_r_word {fv : List V} {fu : List Value} {vs zs : List V} {us ws : List Value} (h0 : Vals fv fu) (h1 : Vals vs us) (h2 : Vals zs ws) : Vals (gk_cell_of_0_part_s_r_word fv vs zs) (gk_cell_of_0_part_s_r_word fu us ws) := by
  cases h0 with
  | nil => (first | exact .nil | (cases h1 <;> first | exact .nil | (cases h2 <;> exact .nil)) | (cases h2 <;> exact .nil))
  | cons c0 tc0 =>
    cases tc0 with
    | nil => (first | exact .nil | (cases h1 <;> first | exact .nil | (cases h2 <;> exact .nil)) | (cases h2 <;> exact .nil))
    | cons c1 tc1 =>
      cases tc1 with
      | nil => (first | exact .nil | (cases h1 <;> first | exact .nil | (cases h2 <;> exact .nil)) | (cases h2 <;> exact .nil))
      | cons c2 tc2 =>
        cases tc2 with
        | cons _ _ => (first | exact .nil | (cases h1 <;> first | exact .nil | (cases h2 <;> exact .nil)) | (cases h2 <;> exact .nil))
        | nil =>
          cases h1 with
          | cons _ _ => (first | exact .nil | (cases h1 <;> first | exact .nil | (cases h2 <;> exact .nil)) | (cases h2 <;> exact .nil))
          | nil =>
            cases h2 with
            | nil => (first | exact .nil | (cases h1 <;> first | exact .nil | (cases h2 <;> exact .nil)) | (cases h2 <;> exact .nil))
            | cons b0 tb0 =>
              cases tb0 with
              | nil => (first | exact .nil | (cases h1 <;> first | exact .nil | (cases h2 <;> exact .nil)) | (cases h2 <;> exact .nil))
              | cons b1 tb1 =>
                cases tb1 with
                | nil => (first | exact .nil | (cases h1 <;> first | exact .nil | (cases h2 <;> exact .nil)) | (cases h2 <;> exact .nil))
                | cons b2 tb2 =>
                  cases tb2 with
                  | nil => (first | exact .nil | (cases h1 <;> first | exact .nil | (cases h2 <;> exact .nil)) | (cases h2 <;> exact .nil))
                  | cons b3 tb3 =>
                    cases tb3 with
                    | cons _ _ => (first | exact .nil | (cases h1 <;> first | exact .nil | (cases h2 <;> exact .nil)) | (cases h2 <;> exact .nil))
                    | nil =>
                      exact .cons b3 (.cons b2 (.cons b1 (.cons b0 (.nil))))
theorem gkw_cell_of_1_part {fv : List V} {fu : List Value} {vs zs : List V} {us ws : List Value} (h0 : Vals fv fu) (h1 : Vals vs us) (h2 : Vals zs ws) : Vals (gk_cell_of_1_part fv vs zs) (gk_cell_of_1_part fu us ws) := by
  cases h0 with
  | nil => (first | exact .nil | (cases h1 <;> first | exact .nil | (cases h2 <;> exact .nil)) | (cases h2 <;> exact .nil))
  | cons c0 tc0 =>
    cases tc0 with
    | nil => (first | exact .nil | (cases h1 <;> first | exact .nil | (cases h2 <;> exact .nil)) | (cases h2 <;> exact .nil))
    | cons c1 tc1 =>
      cases tc1 with
      | nil => (first | exact .nil | (cases h1 <;> first | exact .nil | (cases h2 <;> exact .nil)) | (cases h2 <;> exact .nil))
      | cons c2 tc2 =>
        cases tc2 with
        | cons _ _ => (first | exact .nil | (cases h1 <;> first | exact .nil | (cases h2 <;> exact .nil)) | (cases h2 <;> exact .nil))
        | nil =>
          cases h1 with
          | nil => (first | exact .nil | (cases h1 <;> first | exact .nil | (cases h2 <;> exact .nil)) | (cases h2 <;> exact .nil))
          | cons a0 ta0 =>
            cases ta0 with
            | cons _ _ => (first | exact .nil | (cases h1 <;> first | exact .nil | (cases h2 <;> exact .nil)) | (cases h2 <;> exact .nil))
            | nil =>
              cases h2 with
              | nil => (first | exact .nil | (cases h1 <;> first | exact .nil | (cases h2 <;> exact .nil)) | (cases h2 <;> exact .nil))
              | cons b0 tb0 =>
                cases tb0 with
                | cons _ _ => (first | exact .nil | (cases h1 <;> first | exact .nil | (cases h2 <;> exact .nil)) | (cases h2 <;> exact .nil))
                | nil =>
                  exact .cons a0 (.cons c0 (.cons c1 (.cons b0 (.nil))))
theorem gkw_cell_of_1_s {fv : List V} {fu : List Value} {vs zs : List V} {us ws : List Value} (h0 : Vals fv fu) (h1 : Vals vs us) (h2 : Vals zs ws) : Vals (gk_cell_of_1_s fv vs zs) (gk_cell_of_1_s fu us ws) := by
  cases h0 with
  | nil => (first | exact .nil | (cases h1 <;> first | exact .nil | (cases h2 <;> exact .nil)) | (cases h2 <;> exact .nil))
  | cons c0 tc0 =>
    cases tc0 with
    | nil => (first | exact .nil | (cases h1 <;> first | exact .nil | (cases h2 <;> exact .nil)) | (cases h2 <;> exact .nil))
    | cons c1 tc1 =>
      cases tc1 with
      | nil => (first | exact .nil | (cases h1 <;> first | exact .nil | (cases h2 <;> exact .nil)) | (cases h2 <;> exact .nil))
      | cons c2 tc2 =>
        cases tc2 with
        | cons _ _ => (first | exact .nil | (cases h1 <;> first | exact .nil | (cases h2 <;> exact .nil)) | (cases h2 <;> exact .nil))
        | nil =>
          cases h1 with
          | nil => (first | exact .nil | (cases h1 <;> first | exact .nil | (cases h2 <;> exact .nil)) | (cases h2 <;> exact .nil))
          | cons a0 ta0 =>
            cases ta0 with
            | cons _ _ => (first | exact .nil | (cases h1 <;> first | exact .nil | (cases h2 <;> exact .nil)) | (cases h2 <;> exact .nil))
            | nil =>
              cases h2 with
              | nil => (first | exact .nil | (cases h1 <;> first | exact .nil | (cases h2 <;> exact .nil)) | (cases h2 <;> exact .nil))
              | cons b0 tb0 =>
                cases tb0 with
                | cons _ _ => (first | exact .nil | (cases h1 <;> first | exact .nil | (cases h2 <;> exact .nil)) | (cases h2 <;> exact .nil))
                | nil =>
                  exact .cons a0 (.cons c0 (.cons b0 (.cons c2 (.nil))))
theorem exm_one_of {K : PySem.W.Frag} {cls : Value} {B : Addr} {b : Bool} (e : PySem.W.subIn K (.ref B) (.type "BaseException") = some true) (i : PySem.W.isClsIn K B = true) (t : PySem.W.typeIn K (.ref B) = some (.type "type")) (s : PySem.W.subIn K cls (.ref B) = some b) : PySem.W.exmOne K cls (.ref B) = some b := by
  unfold PySem.W.exmOne
  rw [e, if_pos (by decide)]
  have i2 : (PySem.W.clsIn K B).isSome = true := i
  show (if ((PySem.W.clsIn K B).isSome && PySem.W.typeIn K (.ref B) == some (.type "type")) = true then PySem.W.subIn K cls (.ref B) else none) = some b
  rw [t, i2, if_pos (by decide)]
  exact s
theorem exm_any2 {K : PySem.W.Frag} {cls c1 c2 : Value} {b1 b2 : Bool} (h1 : PySem.W.exmOne K cls c1 = some b1) (h2 : PySem.W.exmOne K cls c2 = some b2) (h : (b1 || (b2 || false)) = true) : PySem.W.exmAny K cls [c1, c2] = some true := by
  have e2 : PySem.W.exmAny K cls [c2] = some (b2 || false) := by unfold PySem.W.exmAny; rw [h2]; rfl
  unfold PySem.W.exmAny
  rw [h1, e2]
  exact congrArg some h
theorem all_mk {l : PySem.W.OpenLaw} {w : World} {K : PySem.W.Frag} {h : Heap} {mg : Str → Option Value} {fa : Addr} (X : K.In h) (G : h.Ns mainGlobals mg) (hfa : mg "law" = some (.ref fa))
    {C_ImageError : Addr} (aC_ImageError : PySem.W.nsIn K mainGlobals "ImageError" = some (some (.ref C_ImageError)))
    (eB_ImageError : PySem.W.subIn K (.ref C_ImageError) (.type "BaseException") = some true) (iB_ImageError : PySem.W.isClsIn K C_ImageError = true) (tB_ImageError : PySem.W.typeIn K (.ref C_ImageError) = some (.type "type"))
    {C_Missing : Addr} (aC_Missing : PySem.W.nsIn K mainGlobals "Missing" = some (some (.ref C_Missing)))
    (eB_Missing : PySem.W.subIn K (.ref C_Missing) (.type "BaseException") = some true) (iB_Missing : PySem.W.isClsIn K C_Missing = true) (tB_Missing : PySem.W.typeIn K (.ref C_Missing) = some (.type "type"))
    {C_InvalidName N_InvalidName : Addr} {nm_InvalidName q_InvalidName : Str} {bs_InvalidName bm_InvalidName sub_InvalidName : List Value} {sn_InvalidName : List Str} {ab_InvalidName : Bool} {col_InvalidName : Option Bool} {dd_InvalidName : Option Addr} {m0_InvalidName m1_InvalidName m2_InvalidName m3_InvalidName m5_InvalidName : Option Value} (aC_InvalidName : PySem.W.nsIn K mainGlobals "InvalidName" = some (some (.ref C_InvalidName)))
    (xL_InvalidName : K.lookup C_InvalidName = some (excClassObj nm_InvalidName q_InvalidName C_InvalidName N_InvalidName bs_InvalidName bm_InvalidName true sn_InvalidName sub_InvalidName ab_InvalidName col_InvalidName dd_InvalidName m0_InvalidName m1_InvalidName m2_InvalidName m3_InvalidName m5_InvalidName "ValueError.__new__")) (rv_InvalidName : PySem.HandSPX.refsVE bm_InvalidName = true)
    (sa_InvalidName : PySem.W.findIn K (.ref C_InvalidName) "__setattr__" = some (some (.builtin "object.__setattr__"))) (ga_InvalidName : PySem.W.findIn K (.ref C_InvalidName) "__getattribute__" = some (some (.builtin "BaseException.__getattribute__"))) (gg_InvalidName : PySem.W.findIn K (.ref C_InvalidName) "__getattr__" = some none)
    (kC_InvalidName : PySem.W.keepIn K (.ref C_InvalidName) = true) (eC_InvalidName : PySem.W.subIn K (.ref C_InvalidName) (.type "BaseException") = some true) (tC_InvalidName : PySem.W.typeIn K (.ref C_InvalidName) = some (.type "type")) (hC_InvalidName : PySem.W.hasDictIn K C_InvalidName = true)
    (x1_InvalidName : PySem.W.subIn K (.ref C_InvalidName) (.ref C_ImageError) = some true) (x2_InvalidName : PySem.W.subIn K (.ref C_InvalidName) (.ref C_Missing) = some false)
    (nq_InvalidName_code : PySem.W.findIn K (.ref C_InvalidName) "code" = some none)
    (nq_InvalidName_value : PySem.W.findIn K (.ref C_InvalidName) "value" = some none)
    {C_InvalidNumber N_InvalidNumber : Addr} {nm_InvalidNumber q_InvalidNumber : Str} {bs_InvalidNumber bm_InvalidNumber sub_InvalidNumber : List Value} {sn_InvalidNumber : List Str} {ab_InvalidNumber : Bool} {col_InvalidNumber : Option Bool} {dd_InvalidNumber : Option Addr} {m0_InvalidNumber m1_InvalidNumber m2_InvalidNumber m3_InvalidNumber m5_InvalidNumber : Option Value} (aC_InvalidNumber : PySem.W.nsIn K mainGlobals "InvalidNumber" = some (some (.ref C_InvalidNumber)))
    (xL_InvalidNumber : K.lookup C_InvalidNumber = some (excClassObj nm_InvalidNumber q_InvalidNumber C_InvalidNumber N_InvalidNumber bs_InvalidNumber bm_InvalidNumber true sn_InvalidNumber sub_InvalidNumber ab_InvalidNumber col_InvalidNumber dd_InvalidNumber m0_InvalidNumber m1_InvalidNumber m2_InvalidNumber m3_InvalidNumber m5_InvalidNumber "ValueError.__new__")) (rv_InvalidNumber : PySem.HandSPX.refsVE bm_InvalidNumber = true)
    (sa_InvalidNumber : PySem.W.findIn K (.ref C_InvalidNumber) "__setattr__" = some (some (.builtin "object.__setattr__"))) (ga_InvalidNumber : PySem.W.findIn K (.ref C_InvalidNumber) "__getattribute__" = some (some (.builtin "BaseException.__getattribute__"))) (gg_InvalidNumber : PySem.W.findIn K (.ref C_InvalidNumber) "__getattr__" = some none)
    (kC_InvalidNumber : PySem.W.keepIn K (.ref C_InvalidNumber) = true) (eC_InvalidNumber : PySem.W.subIn K (.ref C_InvalidNumber) (.type "BaseException") = some true) (tC_InvalidNumber : PySem.W.typeIn K (.ref C_InvalidNumber) = some (.type "type")) (hC_InvalidNumber : PySem.W.hasDictIn K C_InvalidNumber = true)
    (x1_InvalidNumber : PySem.W.subIn K (.ref C_InvalidNumber) (.ref C_ImageError) = some true) (x2_InvalidNumber : PySem.W.subIn K (.ref C_InvalidNumber) (.ref C_Missing) = some false)
    (nq_InvalidNumber_code : PySem.W.findIn K (.ref C_InvalidNumber) "code" = some none)
    (nq_InvalidNumber_value : PySem.W.findIn K (.ref C_InvalidNumber) "value" = some none)
    {f_InvalidName___init__ : Addr} {od_InvalidName___init__ an_InvalidName___init__ : Option Addr} {sl_InvalidName___init__ : Array (Option Value)} {oc_InvalidName___init__ kV_InvalidName___init__ dc_InvalidName___init__ pm_InvalidName___init__ cd_InvalidName___init__ ct_InvalidName___init__ : Value}
    (a_InvalidName___init__ : PySem.W.findIn K (.ref C_InvalidName) "__init__" = some (some (.ref f_InvalidName___init__))) (i_InvalidName___init__ : PySem.W.typeIn K (.ref f_InvalidName___init__) = some (.type "function"))
    (l_InvalidName___init__ : K.lookup f_InvalidName___init__ = some ⟨oc_InvalidName___init__, od_InvalidName___init__, .func (PySem.W.fnOf "__init__" "InvalidName.__init__" (defArgs s_InvalidName___init__) (defBody s_InvalidName___init__) (defScope s_InvalidName___init__) .none kV_InvalidName___init__ dc_InvalidName___init__ pm_InvalidName___init__ an_InvalidName___init__ cd_InvalidName___init__ ct_InvalidName___init__), sl_InvalidName___init__⟩) (c_InvalidName___init__ : PySem.W.codeIn K cd_InvalidName___init__ "InvalidName.__init__" = true) (k_InvalidName___init__ : PySem.W.keepIn K (.ref f_InvalidName___init__) = true)
    {f_InvalidNumber___init__ : Addr} {od_InvalidNumber___init__ an_InvalidNumber___init__ : Option Addr} {sl_InvalidNumber___init__ : Array (Option Value)} {oc_InvalidNumber___init__ kV_InvalidNumber___init__ dc_InvalidNumber___init__ pm_InvalidNumber___init__ cd_InvalidNumber___init__ ct_InvalidNumber___init__ : Value}
    (a_InvalidNumber___init__ : PySem.W.findIn K (.ref C_InvalidNumber) "__init__" = some (some (.ref f_InvalidNumber___init__))) (i_InvalidNumber___init__ : PySem.W.typeIn K (.ref f_InvalidNumber___init__) = some (.type "function"))
    (l_InvalidNumber___init__ : K.lookup f_InvalidNumber___init__ = some ⟨oc_InvalidNumber___init__, od_InvalidNumber___init__, .func (PySem.W.fnOf "__init__" "InvalidNumber.__init__" (defArgs s_InvalidNumber___init__) (defBody s_InvalidNumber___init__) (defScope s_InvalidNumber___init__) .none kV_InvalidNumber___init__ dc_InvalidNumber___init__ pm_InvalidNumber___init__ an_InvalidNumber___init__ cd_InvalidNumber___init__ ct_InvalidNumber___init__), sl_InvalidNumber___init__⟩) (c_InvalidNumber___init__ : PySem.W.codeIn K cd_InvalidNumber___init__ "InvalidNumber.__init__" = true) (k_InvalidNumber___init__ : PySem.W.keepIn K (.ref f_InvalidNumber___init__) = true)
    {f_is_number : Addr} {od_is_number an_is_number : Option Addr} {sl_is_number : Array (Option Value)} {oc_is_number kV_is_number dc_is_number pm_is_number cd_is_number ct_is_number : Value}
    (a_is_number : PySem.W.nsIn K mainGlobals "is_number" = some (some (.ref f_is_number)))
    (l_is_number : K.lookup f_is_number = some ⟨oc_is_number, od_is_number, .func (PySem.W.fnOf "is_number" "is_number" (defArgs s_is_number) (defBody s_is_number) (defScope s_is_number) .none kV_is_number dc_is_number pm_is_number an_is_number cd_is_number ct_is_number), sl_is_number⟩) (c_is_number : PySem.W.codeIn K cd_is_number "is_number" = true) (k_is_number : PySem.W.keepIn K (.ref f_is_number) = true)
    {f_cell_of : Addr} {od_cell_of an_cell_of : Option Addr} {sl_cell_of : Array (Option Value)} {oc_cell_of kV_cell_of dc_cell_of pm_cell_of cd_cell_of ct_cell_of : Value}
    {t_cell_of : Addr} {ot_cell_of : Value} {dt_cell_of : Option Addr} {it_cell_of : List Value} {nt_cell_of : Nat} {st_cell_of : Array (Option Value)}
    (a_cell_of : PySem.W.nsIn K mainGlobals "cell_of" = some (some (.ref f_cell_of)))
    (l_cell_of : K.lookup f_cell_of = some ⟨oc_cell_of, od_cell_of, .func (PySem.W.fnOf "cell_of" "cell_of" (defArgs s_cell_of) (defBody s_cell_of) (defScope s_cell_of) (.ref t_cell_of) kV_cell_of dc_cell_of pm_cell_of an_cell_of cd_cell_of ct_cell_of), sl_cell_of⟩) (c_cell_of : PySem.W.codeIn K cd_cell_of "cell_of" = true) (k_cell_of : PySem.W.keepIn K (.ref f_cell_of) = true)
    (lt_cell_of : K.lookup t_cell_of = some ⟨ot_cell_of, dt_cell_of, .seq it_cell_of.toArray nt_cell_of, st_cell_of⟩) (vt_cell_of : Vals [(.int 0), (.int 0), (.int 0)] it_cell_of)
    {f_is_word : Addr} {od_is_word an_is_word : Option Addr} {sl_is_word : Array (Option Value)} {oc_is_word kV_is_word dc_is_word pm_is_word cd_is_word ct_is_word : Value}
    (a_is_word : PySem.W.nsIn K mainGlobals "is_word" = some (some (.ref f_is_word)))
    (l_is_word : K.lookup f_is_word = some ⟨oc_is_word, od_is_word, .func (PySem.W.fnOf "is_word" "is_word" (defArgs s_is_word) (defBody s_is_word) (defScope s_is_word) .none kV_is_word dc_is_word pm_is_word an_is_word cd_is_word ct_is_word), sl_is_word⟩) (c_is_word : PySem.W.codeIn K cd_is_word "is_word" = true) (k_is_word : PySem.W.keepIn K (.ref f_is_word) = true)
    {f_parted : Addr} {od_parted an_parted : Option Addr} {sl_parted : Array (Option Value)} {oc_parted kV_parted dc_parted pm_parted cd_parted ct_parted : Value}
    (a_parted : PySem.W.nsIn K mainGlobals "parted" = some (some (.ref f_parted)))
    (l_parted : K.lookup f_parted = some ⟨oc_parted, od_parted, .func (PySem.W.fnOf "parted" "parted" (defArgs s_parted) (defBody s_parted) (defScope s_parted) .none kV_parted dc_parted pm_parted an_parted cd_parted ct_parted), sl_parted⟩) (c_parted : PySem.W.codeIn K cd_parted "parted" = true) (k_parted : PySem.W.keepIn K (.ref f_parted) = true)
    {f_with_part : Addr} {od_with_part an_with_part : Option Addr} {sl_with_part : Array (Option Value)} {oc_with_part kV_with_part dc_with_part pm_with_part cd_with_part ct_with_part : Value}
    (a_with_part : PySem.W.nsIn K mainGlobals "with_part" = some (some (.ref f_with_part)))
    (l_with_part : K.lookup f_with_part = some ⟨oc_with_part, od_with_part, .func (PySem.W.fnOf "with_part" "with_part" (defArgs s_with_part) (defBody s_with_part) (defScope s_with_part) .none kV_with_part dc_with_part pm_with_part an_with_part cd_with_part ct_with_part), sl_with_part⟩) (c_with_part : PySem.W.codeIn K cd_with_part "with_part" = true) (k_with_part : PySem.W.keepIn K (.ref f_with_part) = true)
    {f__law_bag : Addr} {od__law_bag an__law_bag : Option Addr} {sl__law_bag : Array (Option Value)} {oc__law_bag kV__law_bag dc__law_bag pm__law_bag cd__law_bag ct__law_bag : Value}
    (a__law_bag : PySem.W.nsIn K mainGlobals "_law_bag" = some (some (.ref f__law_bag)))
    (l__law_bag : K.lookup f__law_bag = some ⟨oc__law_bag, od__law_bag, .func (PySem.W.fnOf "_law_bag" "_law_bag" (defArgs s__law_bag) (defBody s__law_bag) (defScope s__law_bag) .none kV__law_bag dc__law_bag pm__law_bag an__law_bag cd__law_bag ct__law_bag), sl__law_bag⟩) (c__law_bag : PySem.W.codeIn K cd__law_bag "_law_bag" = true) (k__law_bag : PySem.W.keepIn K (.ref f__law_bag) = true)
    {f__law_draw : Addr} {od__law_draw an__law_draw : Option Addr} {sl__law_draw : Array (Option Value)} {oc__law_draw kV__law_draw dc__law_draw pm__law_draw cd__law_draw ct__law_draw : Value}
    (a__law_draw : PySem.W.nsIn K mainGlobals "_law_draw" = some (some (.ref f__law_draw)))
    (l__law_draw : K.lookup f__law_draw = some ⟨oc__law_draw, od__law_draw, .func (PySem.W.fnOf "_law_draw" "_law_draw" (defArgs s__law_draw) (defBody s__law_draw) (defScope s__law_draw) .none kV__law_draw dc__law_draw pm__law_draw an__law_draw cd__law_draw ct__law_draw), sl__law_draw⟩) (c__law_draw : PySem.W.codeIn K cd__law_draw "_law_draw" = true) (k__law_draw : PySem.W.keepIn K (.ref f__law_draw) = true)
    {f__law_of : Addr} {od__law_of an__law_of : Option Addr} {sl__law_of : Array (Option Value)} {oc__law_of kV__law_of dc__law_of pm__law_of cd__law_of ct__law_of : Value}
    (a__law_of : PySem.W.nsIn K mainGlobals "_law_of" = some (some (.ref f__law_of)))
    (l__law_of : K.lookup f__law_of = some ⟨oc__law_of, od__law_of, .func (PySem.W.fnOf "_law_of" "_law_of" (defArgs s__law_of) (defBody s__law_of) (defScope s__law_of) .none kV__law_of dc__law_of pm__law_of an__law_of cd__law_of ct__law_of), sl__law_of⟩) (c__law_of : PySem.W.codeIn K cd__law_of "_law_of" = true) (k__law_of : PySem.W.keepIn K (.ref f__law_of) = true)
    {f__law_same : Addr} {od__law_same an__law_same : Option Addr} {sl__law_same : Array (Option Value)} {oc__law_same kV__law_same dc__law_same pm__law_same cd__law_same ct__law_same : Value}
    (a__law_same : PySem.W.nsIn K mainGlobals "_law_same" = some (some (.ref f__law_same)))
    (l__law_same : K.lookup f__law_same = some ⟨oc__law_same, od__law_same, .func (PySem.W.fnOf "_law_same" "_law_same" (defArgs s__law_same) (defBody s__law_same) (defScope s__law_same) .none kV__law_same dc__law_same pm__law_same an__law_same cd__law_same ct__law_same), sl__law_same⟩) (c__law_same : PySem.W.codeIn K cd__law_same "_law_same" = true) (k__law_same : PySem.W.keepIn K (.ref f__law_same) = true)
    {f__law_number : Addr} {od__law_number an__law_number : Option Addr} {sl__law_number : Array (Option Value)} {oc__law_number kV__law_number dc__law_number pm__law_number cd__law_number ct__law_number : Value}
    (a__law_number : PySem.W.nsIn K mainGlobals "_law_number" = some (some (.ref f__law_number)))
    (l__law_number : K.lookup f__law_number = some ⟨oc__law_number, od__law_number, .func (PySem.W.fnOf "_law_number" "_law_number" (defArgs s__law_number) (defBody s__law_number) (defScope s__law_number) .none kV__law_number dc__law_number pm__law_number an__law_number cd__law_number ct__law_number), sl__law_number⟩) (c__law_number : PySem.W.codeIn K cd__law_number "_law_number" = true) (k__law_number : PySem.W.keepIn K (.ref f__law_number) = true)
    {f__law_codes : Addr} {od__law_codes an__law_codes : Option Addr} {sl__law_codes : Array (Option Value)} {oc__law_codes kV__law_codes dc__law_codes pm__law_codes cd__law_codes ct__law_codes : Value}
    (a__law_codes : PySem.W.nsIn K mainGlobals "_law_codes" = some (some (.ref f__law_codes)))
    (l__law_codes : K.lookup f__law_codes = some ⟨oc__law_codes, od__law_codes, .func (PySem.W.fnOf "_law_codes" "_law_codes" (defArgs s__law_codes) (defBody s__law_codes) (defScope s__law_codes) .none kV__law_codes dc__law_codes pm__law_codes an__law_codes cd__law_codes ct__law_codes), sl__law_codes⟩) (c__law_codes : PySem.W.codeIn K cd__law_codes "_law_codes" = true) (k__law_codes : PySem.W.keepIn K (.ref f__law_codes) = true)
    {f__law_fours : Addr} {od__law_fours an__law_fours : Option Addr} {sl__law_fours : Array (Option Value)} {oc__law_fours kV__law_fours dc__law_fours pm__law_fours cd__law_fours ct__law_fours : Value}
    (a__law_fours : PySem.W.nsIn K mainGlobals "_law_fours" = some (some (.ref f__law_fours)))
    (l__law_fours : K.lookup f__law_fours = some ⟨oc__law_fours, od__law_fours, .func (PySem.W.fnOf "_law_fours" "_law_fours" (defArgs s__law_fours) (defBody s__law_fours) (defScope s__law_fours) .none kV__law_fours dc__law_fours pm__law_fours an__law_fours cd__law_fours ct__law_fours), sl__law_fours⟩) (c__law_fours : PySem.W.codeIn K cd__law_fours "_law_fours" = true) (k__law_fours : PySem.W.keepIn K (.ref f__law_fours) = true)
    {f__law_field : Addr} {od__law_field an__law_field : Option Addr} {sl__law_field : Array (Option Value)} {oc__law_field kV__law_field dc__law_field pm__law_field cd__law_field ct__law_field : Value}
    (a__law_field : PySem.W.nsIn K mainGlobals "_law_field" = some (some (.ref f__law_field)))
    (l__law_field : K.lookup f__law_field = some ⟨oc__law_field, od__law_field, .func (PySem.W.fnOf "_law_field" "_law_field" (defArgs s__law_field) (defBody s__law_field) (defScope s__law_field) .none kV__law_field dc__law_field pm__law_field an__law_field cd__law_field ct__law_field), sl__law_field⟩) (c__law_field : PySem.W.codeIn K cd__law_field "_law_field" = true) (k__law_field : PySem.W.keepIn K (.ref f__law_field) = true)
    {f__law_try : Addr} {od__law_try an__law_try : Option Addr} {sl__law_try : Array (Option Value)} {oc__law_try kV__law_try dc__law_try pm__law_try cd__law_try ct__law_try : Value}
    (a__law_try : PySem.W.nsIn K mainGlobals "_law_try" = some (some (.ref f__law_try)))
    (l__law_try : K.lookup f__law_try = some ⟨oc__law_try, od__law_try, .func (PySem.W.fnOf "_law_try" "_law_try" (defArgs s__law_try) (defBody s__law_try) (defScope s__law_try) .none kV__law_try dc__law_try pm__law_try an__law_try cd__law_try ct__law_try), sl__law_try⟩) (c__law_try : PySem.W.codeIn K cd__law_try "_law_try" = true) (k__law_try : PySem.W.keepIn K (.ref f__law_try) = true)
    {f__law_why : Addr} {od__law_why an__law_why : Option Addr} {sl__law_why : Array (Option Value)} {oc__law_why kV__law_why dc__law_why pm__law_why cd__law_why ct__law_why : Value}
    (a__law_why : PySem.W.nsIn K mainGlobals "_law_why" = some (some (.ref f__law_why)))
    (l__law_why : K.lookup f__law_why = some ⟨oc__law_why, od__law_why, .func (PySem.W.fnOf "_law_why" "_law_why" (defArgs s__law_why) (defBody s__law_why) (defScope s__law_why) .none kV__law_why dc__law_why pm__law_why an__law_why cd__law_why ct__law_why), sl__law_why⟩) (c__law_why : PySem.W.codeIn K cd__law_why "_law_why" = true) (k__law_why : PySem.W.keepIn K (.ref f__law_why) = true)
    {f__law_whys : Addr} {od__law_whys an__law_whys : Option Addr} {sl__law_whys : Array (Option Value)} {oc__law_whys kV__law_whys dc__law_whys pm__law_whys cd__law_whys ct__law_whys : Value}
    (a__law_whys : PySem.W.nsIn K mainGlobals "_law_whys" = some (some (.ref f__law_whys)))
    (l__law_whys : K.lookup f__law_whys = some ⟨oc__law_whys, od__law_whys, .func (PySem.W.fnOf "_law_whys" "_law_whys" (defArgs s__law_whys) (defBody s__law_whys) (defScope s__law_whys) .none kV__law_whys dc__law_whys pm__law_whys an__law_whys cd__law_whys ct__law_whys), sl__law_whys⟩) (c__law_whys : PySem.W.codeIn K cd__law_whys "_law_whys" = true) (k__law_whys : PySem.W.keepIn K (.ref f__law_whys) = true)
    {f__law_odd : Addr} {od__law_odd an__law_odd : Option Addr} {sl__law_odd : Array (Option Value)} {oc__law_odd kV__law_odd dc__law_odd pm__law_odd cd__law_odd ct__law_odd : Value}
    (a__law_odd : PySem.W.nsIn K mainGlobals "_law_odd" = some (some (.ref f__law_odd)))
    (l__law_odd : K.lookup f__law_odd = some ⟨oc__law_odd, od__law_odd, .func (PySem.W.fnOf "_law_odd" "_law_odd" (defArgs s__law_odd) (defBody s__law_odd) (defScope s__law_odd) .none kV__law_odd dc__law_odd pm__law_odd an__law_odd cd__law_odd ct__law_odd), sl__law_odd⟩) (c__law_odd : PySem.W.codeIn K cd__law_odd "_law_odd" = true) (k__law_odd : PySem.W.keepIn K (.ref f__law_odd) = true)
    {f__law_within : Addr} {od__law_within an__law_within : Option Addr} {sl__law_within : Array (Option Value)} {oc__law_within kV__law_within dc__law_within pm__law_within cd__law_within ct__law_within : Value}
    (a__law_within : PySem.W.nsIn K mainGlobals "_law_within" = some (some (.ref f__law_within)))
    (l__law_within : K.lookup f__law_within = some ⟨oc__law_within, od__law_within, .func (PySem.W.fnOf "_law_within" "_law_within" (defArgs s__law_within) (defBody s__law_within) (defScope s__law_within) .none kV__law_within dc__law_within pm__law_within an__law_within cd__law_within ct__law_within), sl__law_within⟩) (c__law_within : PySem.W.codeIn K cd__law_within "_law_within" = true) (k__law_within : PySem.W.keepIn K (.ref f__law_within) = true)
    {f__law_cell_due : Addr} {od__law_cell_due an__law_cell_due : Option Addr} {sl__law_cell_due : Array (Option Value)} {oc__law_cell_due kV__law_cell_due dc__law_cell_due pm__law_cell_due cd__law_cell_due ct__law_cell_due : Value}
    (a__law_cell_due : PySem.W.nsIn K mainGlobals "_law_cell_due" = some (some (.ref f__law_cell_due)))
    (l__law_cell_due : K.lookup f__law_cell_due = some ⟨oc__law_cell_due, od__law_cell_due, .func (PySem.W.fnOf "_law_cell_due" "_law_cell_due" (defArgs s__law_cell_due) (defBody s__law_cell_due) (defScope s__law_cell_due) .none kV__law_cell_due dc__law_cell_due pm__law_cell_due an__law_cell_due cd__law_cell_due ct__law_cell_due), sl__law_cell_due⟩) (c__law_cell_due : PySem.W.codeIn K cd__law_cell_due "_law_cell_due" = true) (k__law_cell_due : PySem.W.keepIn K (.ref f__law_cell_due) = true)
    {f__law_wrong_so : Addr} {od__law_wrong_so an__law_wrong_so : Option Addr} {sl__law_wrong_so : Array (Option Value)} {oc__law_wrong_so kV__law_wrong_so dc__law_wrong_so pm__law_wrong_so ct__law_wrong_so : Value}
    {cc__law_wrong_so tp__law_wrong_so : Addr} {oo__law_wrong_so : Option Addr} {vk__law_wrong_so : Array Value} {sk__law_wrong_so : Array (Option Value)} (lk__law_wrong_so : K.lookup cc__law_wrong_so = some ⟨.type "code", oo__law_wrong_so, .fields vk__law_wrong_so, sk__law_wrong_so⟩) (vt__law_wrong_so : vk__law_wrong_so[11]? = some (.ref tp__law_wrong_so)) (ch__law_wrong_so : PySem.W.codeHdIn K cc__law_wrong_so tp__law_wrong_so = true) (nl__law_wrong_so : K.lookup tp__law_wrong_so = none) (ht__law_wrong_so : h.get? tp__law_wrong_so = some { cls := .none, data := .fields #[] })
    (a__law_wrong_so : PySem.W.nsIn K mainGlobals "_law_wrong_so" = some (some (.ref f__law_wrong_so)))
    (l__law_wrong_so : K.lookup f__law_wrong_so = some ⟨oc__law_wrong_so, od__law_wrong_so, .func (PySem.W.fnOf "_law_wrong_so" "_law_wrong_so" (defArgs s__law_wrong_so) (defBody s__law_wrong_so) (defScope s__law_wrong_so) .none kV__law_wrong_so dc__law_wrong_so pm__law_wrong_so an__law_wrong_so (.ref cc__law_wrong_so) ct__law_wrong_so), sl__law_wrong_so⟩) (c__law_wrong_so : PySem.W.codeIn K (.ref cc__law_wrong_so) "_law_wrong_so" = true) (k__law_wrong_so : PySem.W.keepIn K (.ref f__law_wrong_so) = true)
    {f__law_codes_so : Addr} {od__law_codes_so an__law_codes_so : Option Addr} {sl__law_codes_so : Array (Option Value)} {oc__law_codes_so kV__law_codes_so dc__law_codes_so pm__law_codes_so ct__law_codes_so : Value}
    {cc__law_codes_so tp__law_codes_so : Addr} {oo__law_codes_so : Option Addr} {vk__law_codes_so : Array Value} {sk__law_codes_so : Array (Option Value)} (lk__law_codes_so : K.lookup cc__law_codes_so = some ⟨.type "code", oo__law_codes_so, .fields vk__law_codes_so, sk__law_codes_so⟩) (vt__law_codes_so : vk__law_codes_so[11]? = some (.ref tp__law_codes_so)) (ch__law_codes_so : PySem.W.codeHdIn K cc__law_codes_so tp__law_codes_so = true) (nl__law_codes_so : K.lookup tp__law_codes_so = none) (ht__law_codes_so : h.get? tp__law_codes_so = some { cls := .none, data := .fields #[] })
    (a__law_codes_so : PySem.W.nsIn K mainGlobals "_law_codes_so" = some (some (.ref f__law_codes_so)))
    (l__law_codes_so : K.lookup f__law_codes_so = some ⟨oc__law_codes_so, od__law_codes_so, .func (PySem.W.fnOf "_law_codes_so" "_law_codes_so" (defArgs s__law_codes_so) (defBody s__law_codes_so) (defScope s__law_codes_so) .none kV__law_codes_so dc__law_codes_so pm__law_codes_so an__law_codes_so (.ref cc__law_codes_so) ct__law_codes_so), sl__law_codes_so⟩) (c__law_codes_so : PySem.W.codeIn K (.ref cc__law_codes_so) "_law_codes_so" = true) (k__law_codes_so : PySem.W.keepIn K (.ref f__law_codes_so) = true)
    {f_law : Addr} {od_law an_law : Option Addr} {sl_law : Array (Option Value)} {oc_law kV_law dc_law pm_law cd_law ct_law : Value}
    (a_law : PySem.W.nsIn K mainGlobals "law" = some (some (.ref f_law)))
    (l_law : K.lookup f_law = some ⟨oc_law, od_law, .func (PySem.W.fnOf "law" "law" (defArgs s_law) (defBody s_law) (defScope s_law) .none kV_law dc_law pm_law an_law cd_law ct_law), sl_law⟩) (c_law : PySem.W.codeIn K cd_law "law" = true) (k_law : PySem.W.keepIn K (.ref f_law) = true)
    {p_CODES : Addr} {us_CODES : List Value} {n_CODES : Nat} {sl_CODES : Array (Option Value)} (q_CODES : PySem.W.nsIn K mainGlobals "CODES" = some (some (.ref p_CODES))) (l_CODES : K.lookup p_CODES = some ⟨.type "tuple", none, .seq us_CODES.toArray n_CODES, sl_CODES⟩) (v_CODES : Vals [(.str "fault"), (.str "halt"), (.str "high"), (.str "low"), (.str "add"), (.str "take"), (.str "load"), (.str "store"), (.str "jump"), (.str "ifzero"), (.str "call"), (.str "near"), (.str "jumpby"), (.str "callby"), (.str "back"), (.str "out")] us_CODES)
    {u_MOST_REGISTER : Value} (q_MOST_REGISTER : PySem.W.nsIn K mainGlobals "MOST_REGISTER" = some (some u_MOST_REGISTER)) (r_MOST_REGISTER : RelV (.int 3) u_MOST_REGISTER)
    {u_MOST_PART : Value} (q_MOST_PART : PySem.W.nsIn K mainGlobals "MOST_PART" = some (some u_MOST_PART)) (r_MOST_PART : RelV (.int 255) u_MOST_PART)
    {u_S_UNIT : Value} (q_S_UNIT : PySem.W.nsIn K mainGlobals "S_UNIT" = some (some u_S_UNIT)) (r_S_UNIT : RelV (.int 256) u_S_UNIT)
    {u_CODE_UNIT : Value} (q_CODE_UNIT : PySem.W.nsIn K mainGlobals "CODE_UNIT" = some (some u_CODE_UNIT)) (r_CODE_UNIT : RelV (.int 4096) u_CODE_UNIT)
    {u_R_UNIT : Value} (q_R_UNIT : PySem.W.nsIn K mainGlobals "R_UNIT" = some (some u_R_UNIT)) (r_R_UNIT : RelV (.int 1024) u_R_UNIT)
    {u_MOST_WORD : Value} (q_MOST_WORD : PySem.W.nsIn K mainGlobals "MOST_WORD" = some (some u_MOST_WORD)) (r_MOST_WORD : RelV (.int 65535) u_MOST_WORD)
    (z_isinstance : PySem.W.nsIn K mainGlobals "isinstance" = some none)
    (z_int : PySem.W.nsIn K mainGlobals "int" = some none)
    (z_bool : PySem.W.nsIn K mainGlobals "bool" = some none)
    (z_str : PySem.W.nsIn K mainGlobals "str" = some none)
    (z_list : PySem.W.nsIn K mainGlobals "list" = some none)
    (z_len : PySem.W.nsIn K mainGlobals "len" = some none)
    (z_abs : PySem.W.nsIn K mainGlobals "abs" = some none)
    (z_tuple : PySem.W.nsIn K mainGlobals "tuple" = some none)
    (z_all : PySem.W.nsIn K mainGlobals "all" = some none)
    (z_zip : PySem.W.nsIn K mainGlobals "zip" = some none)
    (z_range : PySem.W.nsIn K mainGlobals "range" = some none)
    (nd : ([tp__law_wrong_so, tp__law_codes_so] : List Addr).Nodup)
    : LamX.LawAtS l w K CX0 9 63 "_law_script" mg fa h := by
  have e := hfa.symm.trans (PySem.W.mg_of X G a_law)
  cases e
  have F__law_wrong_so := funC_mk (st := s__law_wrong_so) l__law_wrong_so c__law_wrong_so k__law_wrong_so
  have F__law_codes_so := funC_mk (st := s__law_codes_so) l__law_codes_so c__law_codes_so k__law_codes_so
  have F_InvalidName___init__ := fun_mk (st := s_InvalidName___init__) l_InvalidName___init__ c_InvalidName___init__ k_InvalidName___init__
  have F_InvalidNumber___init__ := fun_mk (st := s_InvalidNumber___init__) l_InvalidNumber___init__ c_InvalidNumber___init__ k_InvalidNumber___init__
  have F_is_number := fun_mk (st := s_is_number) l_is_number c_is_number k_is_number
  have F_cell_of : FunD K "cell_of" "cell_of" (defArgs s_cell_of) (defBody s_cell_of) (defScope s_cell_of) [(.int 0), (.int 0), (.int 0)] [] f_cell_of _ := ⟨⟨_, _, _, _, _, _, _, _, _, _, rfl, l_cell_of, c_cell_of, .inr ⟨by simp, t_cell_of, _, it_cell_of, nt_cell_of, rfl, lt_cell_of, rfl, vt_cell_of⟩, .inl rfl⟩, k_cell_of⟩
  have F_is_word := fun_mk (st := s_is_word) l_is_word c_is_word k_is_word
  have F_parted := fun_mk (st := s_parted) l_parted c_parted k_parted
  have F_with_part := fun_mk (st := s_with_part) l_with_part c_with_part k_with_part
  have F__law_bag := fun_mk (st := s__law_bag) l__law_bag c__law_bag k__law_bag
  have F__law_draw := fun_mk (st := s__law_draw) l__law_draw c__law_draw k__law_draw
  have F__law_of := fun_mk (st := s__law_of) l__law_of c__law_of k__law_of
  have F__law_same := fun_mk (st := s__law_same) l__law_same c__law_same k__law_same
  have F__law_number := fun_mk (st := s__law_number) l__law_number c__law_number k__law_number
  have F__law_codes := fun_mk (st := s__law_codes) l__law_codes c__law_codes k__law_codes
  have F__law_fours := fun_mk (st := s__law_fours) l__law_fours c__law_fours k__law_fours
  have F__law_field := fun_mk (st := s__law_field) l__law_field c__law_field k__law_field
  have F__law_try := fun_mk (st := s__law_try) l__law_try c__law_try k__law_try
  have F__law_why := fun_mk (st := s__law_why) l__law_why c__law_why k__law_why
  have F__law_whys := fun_mk (st := s__law_whys) l__law_whys c__law_whys k__law_whys
  have F__law_odd := fun_mk (st := s__law_odd) l__law_odd c__law_odd k__law_odd
  have F__law_within := fun_mk (st := s__law_within) l__law_within c__law_within k__law_within
  have F__law_cell_due := fun_mk (st := s__law_cell_due) l__law_cell_due c__law_cell_due k__law_cell_due
  have F_law := fun_mk (st := s_law) l_law c_law k_law
  obtain ⟨e_cell_of_4, v_cell_of_4, b_cell_of_4⟩ := F_cell_of.binds1 (ps := ["word", "r", "s", "part"]) 4 3 (by simp) rfl fun _ _ _ _ _ _ _ us its h1 h2 => match us, its, h1, h2 with | [_, _, _, _], [_, _, _], _, _ => ⟨_, rfl, rfl⟩
  obtain ⟨e_cell_of_1, v_cell_of_1, b_cell_of_1⟩ := F_cell_of.binds1 (ps := ["word", "r", "s", "part"]) 1 0 (by simp) rfl fun _ _ _ _ _ _ _ us its h1 h2 => match us, its, h1, h2 with | [_], [_, _, _], _, _ => ⟨_, rfl, rfl⟩
  obtain ⟨e_cell_of_2, v_cell_of_2, b_cell_of_2⟩ := F_cell_of.binds1 (ps := ["word", "r", "s", "part"]) 2 1 (by simp) rfl fun _ _ _ _ _ _ _ us its h1 h2 => match us, its, h1, h2 with | [_, _], [_, _, _], _, _ => ⟨_, rfl, rfl⟩
  obtain ⟨fu_cell_of_0_r_s_part_word, _, kb_cell_of_0_r_s_part_word⟩ := kb_dfl (ps := ["word", "r", "s", "part"]) F_cell_of 0 ["r", "s", "part", "word"] gk_cell_of_0_r_s_part_word (by simp) (fun h1 h2 h3 => gkw_cell_of_0_r_s_part_word h1 h2 h3) fun _ _ _ _ _ _ _ us its ws h1 h2 h3 => match us, its, ws, h1, h2, h3 with | [], [_, _, _], [_, _, _, _], _, _, _ => ⟨_, rfl, rfl⟩
  obtain ⟨fu_cell_of_0_part_s_r_word, _, kb_cell_of_0_part_s_r_word⟩ := kb_dfl (ps := ["word", "r", "s", "part"]) F_cell_of 0 ["part", "s", "r", "word"] gk_cell_of_0_part_s_r_word (by simp) (fun h1 h2 h3 => gkw_cell_of_0_part_s_r_word h1 h2 h3) fun _ _ _ _ _ _ _ us its ws h1 h2 h3 => match us, its, ws, h1, h2, h3 with | [], [_, _, _], [_, _, _, _], _, _, _ => ⟨_, rfl, rfl⟩
  obtain ⟨fu_cell_of_1_part, _, kb_cell_of_1_part⟩ := kb_dfl (ps := ["word", "r", "s", "part"]) F_cell_of 1 ["part"] gk_cell_of_1_part (by simp) (fun h1 h2 h3 => gkw_cell_of_1_part h1 h2 h3) fun _ _ _ _ _ _ _ us its ws h1 h2 h3 => match us, its, ws, h1, h2, h3 with | [_], [_, _, _], [_], _, _, _ => ⟨_, rfl, rfl⟩
  obtain ⟨fu_cell_of_1_s, _, kb_cell_of_1_s⟩ := kb_dfl (ps := ["word", "r", "s", "part"]) F_cell_of 1 ["s"] gk_cell_of_1_s (by simp) (fun h1 h2 h3 => gkw_cell_of_1_s h1 h2 h3) fun _ _ _ _ _ _ _ us its ws h1 h2 h3 => match us, its, ws, h1, h2, h3 with | [_], [_, _, _], [_], _, _, _ => ⟨_, rfl, rfl⟩
  let T : Tx K mg w := {
    a_ImageError := C_ImageError, m_ImageError := PySem.W.mg_of X G aC_ImageError
    a_Missing := C_Missing, m_Missing := PySem.W.mg_of X G aC_Missing
    a_InvalidName := C_InvalidName, m_InvalidName := PySem.W.mg_of X G aC_InvalidName, oe_InvalidName := ⟨⟨_, _, _, _, _, _, _, _, _, _, _, _, _, _, _, xL_InvalidName, rv_InvalidName⟩, sa_InvalidName, eC_InvalidName, tC_InvalidName, kC_InvalidName⟩, xf_InvalidName := ⟨ga_InvalidName, gg_InvalidName, eC_InvalidName, hC_InvalidName⟩
    ex_InvalidName := exm_any2 (exm_one_of eB_ImageError iB_ImageError tB_ImageError x1_InvalidName) (exm_one_of eB_Missing iB_Missing tB_Missing x2_InvalidName) rfl
    no_InvalidName_code := nq_InvalidName_code
    no_InvalidName_value := nq_InvalidName_value
    a_InvalidNumber := C_InvalidNumber, m_InvalidNumber := PySem.W.mg_of X G aC_InvalidNumber, oe_InvalidNumber := ⟨⟨_, _, _, _, _, _, _, _, _, _, _, _, _, _, _, xL_InvalidNumber, rv_InvalidNumber⟩, sa_InvalidNumber, eC_InvalidNumber, tC_InvalidNumber, kC_InvalidNumber⟩, xf_InvalidNumber := ⟨ga_InvalidNumber, gg_InvalidNumber, eC_InvalidNumber, hC_InvalidNumber⟩
    ex_InvalidNumber := exm_any2 (exm_one_of eB_ImageError iB_ImageError tB_ImageError x1_InvalidNumber) (exm_one_of eB_Missing iB_Missing tB_Missing x2_InvalidNumber) rfl
    no_InvalidNumber_code := nq_InvalidNumber_code
    no_InvalidNumber_value := nq_InvalidNumber_value
    nd := nd
    a_InvalidName___init__ := f_InvalidName___init__, d_InvalidName___init__ := _, F_InvalidName___init__ := F_InvalidName___init__, k_InvalidName___init__ := k_InvalidName___init__, i_InvalidName := a_InvalidName___init__, ty_InvalidName := i_InvalidName___init__
    b_InvalidName___init__ := F_InvalidName___init__.binds (ps := ["self", "value"]) fun _ _ _ _ _ _ us hl => match us, hl with | [_, _], _ => rfl
    a_InvalidNumber___init__ := f_InvalidNumber___init__, d_InvalidNumber___init__ := _, F_InvalidNumber___init__ := F_InvalidNumber___init__, k_InvalidNumber___init__ := k_InvalidNumber___init__, i_InvalidNumber := a_InvalidNumber___init__, ty_InvalidNumber := i_InvalidNumber___init__
    b_InvalidNumber___init__ := F_InvalidNumber___init__.binds (ps := ["self", "value"]) fun _ _ _ _ _ _ us hl => match us, hl with | [_, _], _ => rfl
    a_is_number := f_is_number, d_is_number := _, F_is_number := F_is_number, m_is_number := PySem.W.mg_of X G a_is_number, k_is_number := k_is_number
    b_is_number := F_is_number.binds (ps := ["value", "least", "most"]) fun _ _ _ _ _ _ us hl => match us, hl with | [_, _, _], _ => rfl
    a_cell_of := f_cell_of, d_cell_of := _, F_cell_of := F_cell_of, m_cell_of := PySem.W.mg_of X G a_cell_of, k_cell_of := k_cell_of
    a_is_word := f_is_word, d_is_word := _, F_is_word := F_is_word, m_is_word := PySem.W.mg_of X G a_is_word, k_is_word := k_is_word
    b_is_word := F_is_word.binds (ps := ["value"]) fun _ _ _ _ _ _ us hl => match us, hl with | [_], _ => rfl
    a_parted := f_parted, d_parted := _, F_parted := F_parted, m_parted := PySem.W.mg_of X G a_parted, k_parted := k_parted
    b_parted := F_parted.binds (ps := ["cell"]) fun _ _ _ _ _ _ us hl => match us, hl with | [_], _ => rfl
    a_with_part := f_with_part, d_with_part := _, F_with_part := F_with_part, m_with_part := PySem.W.mg_of X G a_with_part, k_with_part := k_with_part
    b_with_part := F_with_part.binds (ps := ["cell", "part"]) fun _ _ _ _ _ _ us hl => match us, hl with | [_, _], _ => rfl
    a__law_bag := f__law_bag, d__law_bag := _, F__law_bag := F__law_bag, m__law_bag := PySem.W.mg_of X G a__law_bag, k__law_bag := k__law_bag
    b__law_bag := F__law_bag.binds (ps := ["_law_script"]) fun _ _ _ _ _ _ us hl => match us, hl with | [_], _ => rfl
    a__law_draw := f__law_draw, d__law_draw := _, F__law_draw := F__law_draw, m__law_draw := PySem.W.mg_of X G a__law_draw, k__law_draw := k__law_draw
    b__law_draw := F__law_draw.binds (ps := ["_law_bag_here", "_law_sides"]) fun _ _ _ _ _ _ us hl => match us, hl with | [_, _], _ => rfl
    a__law_of := f__law_of, d__law_of := _, F__law_of := F__law_of, m__law_of := PySem.W.mg_of X G a__law_of, k__law_of := k__law_of
    b__law_of := F__law_of.binds (ps := ["_law_bag_here", "_law_things"]) fun _ _ _ _ _ _ us hl => match us, hl with | [_, _], _ => rfl
    a__law_same := f__law_same, d__law_same := _, F__law_same := F__law_same, m__law_same := PySem.W.mg_of X G a__law_same, k__law_same := k__law_same
    b__law_same := F__law_same.binds (ps := ["_law_found", "_law_due"]) fun _ _ _ _ _ _ us hl => match us, hl with | [_, _], _ => rfl
    a__law_number := f__law_number, d__law_number := _, F__law_number := F__law_number, m__law_number := PySem.W.mg_of X G a__law_number, k__law_number := k__law_number
    b__law_number := F__law_number.binds (ps := ["_law_bag_here"]) fun _ _ _ _ _ _ us hl => match us, hl with | [_], _ => rfl
    a__law_codes := f__law_codes, d__law_codes := _, F__law_codes := F__law_codes, m__law_codes := PySem.W.mg_of X G a__law_codes, k__law_codes := k__law_codes
    b__law_codes := F__law_codes.binds (ps := []) fun _ _ _ _ _ _ us hl => match us, hl with | [], _ => rfl
    a__law_fours := f__law_fours, d__law_fours := _, F__law_fours := F__law_fours, m__law_fours := PySem.W.mg_of X G a__law_fours, k__law_fours := k__law_fours
    b__law_fours := F__law_fours.binds (ps := ["_law_number_y"]) fun _ _ _ _ _ _ us hl => match us, hl with | [_], _ => rfl
    a__law_field := f__law_field, d__law_field := _, F__law_field := F__law_field, m__law_field := PySem.W.mg_of X G a__law_field, k__law_field := k__law_field
    b__law_field := F__law_field.binds (ps := ["_law_e"]) fun _ _ _ _ _ _ us hl => match us, hl with | [_], _ => rfl
    a__law_try := f__law_try, d__law_try := _, F__law_try := F__law_try, m__law_try := PySem.W.mg_of X G a__law_try, k__law_try := k__law_try
    b__law_try := F__law_try.binds (ps := ["_law_ask"]) fun _ _ _ _ _ _ us hl => match us, hl with | [_], _ => rfl
    a__law_why := f__law_why, d__law_why := _, F__law_why := F__law_why, m__law_why := PySem.W.mg_of X G a__law_why, k__law_why := k__law_why
    b__law_why := F__law_why.binds (ps := ["_law_ask"]) fun _ _ _ _ _ _ us hl => match us, hl with | [_], _ => rfl
    a__law_whys := f__law_whys, d__law_whys := _, F__law_whys := F__law_whys, m__law_whys := PySem.W.mg_of X G a__law_whys, k__law_whys := k__law_whys
    b__law_whys := F__law_whys.binds (ps := ["_law_asks"]) fun _ _ _ _ _ _ us hl => match us, hl with | [_], _ => rfl
    a__law_odd := f__law_odd, d__law_odd := _, F__law_odd := F__law_odd, m__law_odd := PySem.W.mg_of X G a__law_odd, k__law_odd := k__law_odd
    b__law_odd := F__law_odd.binds (ps := ["_law_bag_here", "_law_more"]) fun _ _ _ _ _ _ us hl => match us, hl with | [_, _], _ => rfl
    a__law_within := f__law_within, d__law_within := _, F__law_within := F__law_within, m__law_within := PySem.W.mg_of X G a__law_within, k__law_within := k__law_within
    b__law_within := F__law_within.binds (ps := ["_law_thing", "_law_low_y", "_law_high_y"]) fun _ _ _ _ _ _ us hl => match us, hl with | [_, _, _], _ => rfl
    a__law_cell_due := f__law_cell_due, d__law_cell_due := _, F__law_cell_due := F__law_cell_due, m__law_cell_due := PySem.W.mg_of X G a__law_cell_due, k__law_cell_due := k__law_cell_due
    b__law_cell_due := F__law_cell_due.binds (ps := ["_law_values"]) fun _ _ _ _ _ _ us hl => match us, hl with | [_], _ => rfl
    cc__law_wrong_so := cc__law_wrong_so, tp__law_wrong_so := tp__law_wrong_so
    a__law_wrong_so := f__law_wrong_so, d__law_wrong_so := _, F__law_wrong_so := F__law_wrong_so, m__law_wrong_so := PySem.W.mg_of X G a__law_wrong_so, k__law_wrong_so := k__law_wrong_so
    b__law_wrong_so := F__law_wrong_so.binds (ps := ["_law_bag_here", "_law_own", "_law_a", "_law_b", "_law_c"]) fun _ _ _ _ _ _ us hl => match us, hl with | [_, _, _, _, _], _ => rfl
    cc__law_codes_so := cc__law_codes_so, tp__law_codes_so := tp__law_codes_so
    a__law_codes_so := f__law_codes_so, d__law_codes_so := _, F__law_codes_so := F__law_codes_so, m__law_codes_so := PySem.W.mg_of X G a__law_codes_so, k__law_codes_so := k__law_codes_so
    b__law_codes_so := F__law_codes_so.binds (ps := ["_law_codes_here"]) fun _ _ _ _ _ _ us hl => match us, hl with | [_], _ => rfl
    a_law := fa, d_law := _, F_law := F_law, m_law := PySem.W.mg_of X G a_law, k_law := k_law
    b_law := F_law.binds (ps := ["_law_script"]) fun _ _ _ _ _ _ us hl => match us, hl with | [_], _ => rfl
    e_cell_of_4 := e_cell_of_4, v_cell_of_4 := v_cell_of_4, b_cell_of_4 := b_cell_of_4
    e_cell_of_1 := e_cell_of_1, v_cell_of_1 := v_cell_of_1, b_cell_of_1 := b_cell_of_1
    e_cell_of_2 := e_cell_of_2, v_cell_of_2 := v_cell_of_2, b_cell_of_2 := b_cell_of_2
    fu_cell_of_0_r_s_part_word := fu_cell_of_0_r_s_part_word, kb_cell_of_0_r_s_part_word := kb_cell_of_0_r_s_part_word
    fu_cell_of_0_part_s_r_word := fu_cell_of_0_part_s_r_word, kb_cell_of_0_part_s_r_word := kb_cell_of_0_part_s_r_word
    kb_parted_0_cell := ⟨fun s us ws _ l1 l2 => .of_eq (match us, ws, l1, l2 with | [], [_], _, _ => rfl), fun {vs us zs ws} r1 r2 => gkv_parted_0_cell vs us zs ws r1 r2⟩
    fu_cell_of_1_part := fu_cell_of_1_part, kb_cell_of_1_part := kb_cell_of_1_part
    fu_cell_of_1_s := fu_cell_of_1_s, kb_cell_of_1_s := kb_cell_of_1_s
    kb_with_part_0_part_cell := ⟨fun s us ws _ l1 l2 => .of_eq (match us, ws, l1, l2 with | [], [_, _], _, _ => rfl), fun {vs us zs ws} r1 r2 => gkv_with_part_0_part_cell vs us zs ws r1 r2⟩
    a_CODES := p_CODES, m_CODES := PySem.W.mg_of X G q_CODES, kd_CODES := fun F => .tup (.inr ⟨_, us_CODES.toArray, n_CODES, l_CODES, rfl, rfl, by have := v_CODES.length; simp at this; simp [← this]; decide, v_CODES⟩) (.cons (.str _) (.cons (.str _) (.cons (.str _) (.cons (.str _) (.cons (.str _) (.cons (.str _) (.cons (.str _) (.cons (.str _) (.cons (.str _) (.cons (.str _) (.cons (.str _) (.cons (.str _) (.cons (.str _) (.cons (.str _) (.cons (.str _) (.cons (.str _) .nil))))))))))))))))
    kt_CODES := ⟨_, l_CODES, rfl, rfl⟩
    u_MOST_REGISTER := u_MOST_REGISTER, m_MOST_REGISTER := PySem.W.mg_of X G q_MOST_REGISTER, r_MOST_REGISTER := r_MOST_REGISTER
    u_MOST_PART := u_MOST_PART, m_MOST_PART := PySem.W.mg_of X G q_MOST_PART, r_MOST_PART := r_MOST_PART
    u_S_UNIT := u_S_UNIT, m_S_UNIT := PySem.W.mg_of X G q_S_UNIT, r_S_UNIT := r_S_UNIT
    u_CODE_UNIT := u_CODE_UNIT, m_CODE_UNIT := PySem.W.mg_of X G q_CODE_UNIT, r_CODE_UNIT := r_CODE_UNIT
    u_R_UNIT := u_R_UNIT, m_R_UNIT := PySem.W.mg_of X G q_R_UNIT, r_R_UNIT := r_R_UNIT
    u_MOST_WORD := u_MOST_WORD, m_MOST_WORD := PySem.W.mg_of X G q_MOST_WORD, r_MOST_WORD := r_MOST_WORD
    n_isinstance := PySem.W.mg_none_of X G z_isinstance
    n_int := PySem.W.mg_none_of X G z_int
    n_bool := PySem.W.mg_none_of X G z_bool
    n_str := PySem.W.mg_none_of X G z_str
    n_list := PySem.W.mg_none_of X G z_list
    n_len := PySem.W.mg_none_of X G z_len
    n_abs := PySem.W.mg_none_of X G z_abs
    n_tuple := PySem.W.mg_none_of X G z_tuple
    n_all := PySem.W.mg_none_of X G z_all
    n_zip := PySem.W.mg_none_of X G z_zip
    n_range := PySem.W.mg_none_of X G z_range
  }
  have tabs0 : ∀ H : Hp, (∀ p ∈ T.cs, H p.2 = some (.tbl #[])) → LamX.Tabs T.tabs H := fun H hH p hp => by
    simp only [List.mem_cons, List.not_mem_nil, or_false] at hp
    rcases hp with rfl | rfl
    · exact LamX.TabS.nil (hH _ T.in__law_wrong_so)
    · exact LamX.TabS.nil (hH _ T.in__law_codes_so)
  refine ⟨PySem.W.fnOf "law" "law" (defArgs s_law) (defBody s_law) (defScope s_law) .none kV_law dc_law pm_law an_law _ ct_law, T.cs, spLawT K T.tabs, fun p hp => ?_, fun p hp => ?_, fun p hp => ?_, fun s v => .of_eq rfl, fun H a ns hl _ hH hS => ⟨a, ns, rfl, hS, tabs0 H hH, hl, fun _ => rfl⟩, fun base _ _ TB => ok_law (P := l.prog) (w := w) (base := base) T TB⟩
  · simp only [List.mem_cons, List.not_mem_nil, or_false] at hp
    rcases hp with rfl | rfl
    · exact ht__law_wrong_so
    · exact ht__law_codes_so
  · simp only [List.mem_cons, List.not_mem_nil, or_false] at hp
    rcases hp with rfl | rfl
    · exact nl__law_wrong_so
    · exact nl__law_codes_so
  · simp only [List.mem_cons, List.not_mem_nil, or_false] at hp
    rcases hp with rfl | rfl
    · exact PySem.W.codeHd_of_K X ch__law_wrong_so
    · exact PySem.W.codeHd_of_K X ch__law_codes_so
theorem walk {l : PySem.W.OpenLaw} {q : Program} {loose : List Str} {XP : (Str → Option Value) → Heap → Prop} {YP : World → Heap → Prop} {d : DefRec} {K : Params → PySem.W.Frag} (hn : l.most = some 63) (hdf : d.params.defaults = [])
    (hY : ∀ (w : World) (h : Heap), YP w h → (K w.params).In h)
    (F : ∀ (w : World) (mg : Str → Option Value) (fa : Addr) (h : Heap), YP w h → (K w.params).In h → h.Ns mainGlobals mg → mg d.name = some (.ref fa) → LamX.LawAtS l w (K w.params) CX0 9 63 "_law_script" mg fa h) :
    PySem.W.WalkO q loose XP YP l.row.toRowW d [] (fun f vs => PySem.call f vs) :=
  LamX.walk_ofTs (n := 63) (k := 9) (x := "_law_script") (CX := fun _ => CX0) hn (by decide) hdf ⟨rfl, by decide, by decide⟩ hY F fun _ _ _ _ _ z => z
end Law
open PySem PySem.W PyProof.Rows
set_option maxRecDepth 100000 in
set_option maxHeartbeats 0 in
theorem PySem.Challenge.cw_leastimage_k12_cells_apart_and_together_holds : PySem.Challenge.rw_leastimage_k12_cells_apart_and_together.Holds := by
  w_on; o_law; k_head; (case hw => w_witness2)
  k_fill
  refine Law.walk (l := PySem.Challenge.rw_leastimage_k12_cells_apart_and_together) rfl rfl (fun w h Y => PySem.W.km_in_of Y) ?F
  case F =>
    intro w mg fa h Y KX G hmg
    have hts := PySem.W.km_tabs_of Y
    refine' Law.all_mk KX G hmg ?aC_ImageError ?eB_ImageError ?iB_ImageError ?tB_ImageError ?aC_Missing ?eB_Missing ?iB_Missing ?tB_Missing ?aC_InvalidName ?xL_InvalidName ?rv_InvalidName ?sa_InvalidName ?ga_InvalidName ?gg_InvalidName ?kC_InvalidName ?eC_InvalidName ?tC_InvalidName ?hC_InvalidName ?x1_InvalidName ?x2_InvalidName ?nq_InvalidName_code ?nq_InvalidName_value ?aC_InvalidNumber ?xL_InvalidNumber ?rv_InvalidNumber ?sa_InvalidNumber ?ga_InvalidNumber ?gg_InvalidNumber ?kC_InvalidNumber ?eC_InvalidNumber ?tC_InvalidNumber ?hC_InvalidNumber ?x1_InvalidNumber ?x2_InvalidNumber ?nq_InvalidNumber_code ?nq_InvalidNumber_value ?a_InvalidName___init__ ?i_InvalidName___init__ ?l_InvalidName___init__ ?c_InvalidName___init__ ?k_InvalidName___init__ ?a_InvalidNumber___init__ ?i_InvalidNumber___init__ ?l_InvalidNumber___init__ ?c_InvalidNumber___init__ ?k_InvalidNumber___init__ ?a_is_number ?l_is_number ?c_is_number ?k_is_number ?a_cell_of ?l_cell_of ?c_cell_of ?k_cell_of ?lt_cell_of ?vt_cell_of ?a_is_word ?l_is_word ?c_is_word ?k_is_word ?a_parted ?l_parted ?c_parted ?k_parted ?a_with_part ?l_with_part ?c_with_part ?k_with_part ?a__law_bag ?l__law_bag ?c__law_bag ?k__law_bag ?a__law_draw ?l__law_draw ?c__law_draw ?k__law_draw ?a__law_of ?l__law_of ?c__law_of ?k__law_of ?a__law_same ?l__law_same ?c__law_same ?k__law_same ?a__law_number ?l__law_number ?c__law_number ?k__law_number ?a__law_codes ?l__law_codes ?c__law_codes ?k__law_codes ?a__law_fours ?l__law_fours ?c__law_fours ?k__law_fours ?a__law_field ?l__law_field ?c__law_field ?k__law_field ?a__law_try ?l__law_try ?c__law_try ?k__law_try ?a__law_why ?l__law_why ?c__law_why ?k__law_why ?a__law_whys ?l__law_whys ?c__law_whys ?k__law_whys ?a__law_odd ?l__law_odd ?c__law_odd ?k__law_odd ?a__law_within ?l__law_within ?c__law_within ?k__law_within ?a__law_cell_due ?l__law_cell_due ?c__law_cell_due ?k__law_cell_due ?lk__law_wrong_so ?vt__law_wrong_so ?ch__law_wrong_so ?nl__law_wrong_so ?ht__law_wrong_so ?a__law_wrong_so ?l__law_wrong_so ?c__law_wrong_so ?k__law_wrong_so ?lk__law_codes_so ?vt__law_codes_so ?ch__law_codes_so ?nl__law_codes_so ?ht__law_codes_so ?a__law_codes_so ?l__law_codes_so ?c__law_codes_so ?k__law_codes_so ?a_law ?l_law ?c_law ?k_law ?q_CODES ?l_CODES ?v_CODES ?q_MOST_REGISTER ?r_MOST_REGISTER ?q_MOST_PART ?r_MOST_PART ?q_S_UNIT ?r_S_UNIT ?q_CODE_UNIT ?r_CODE_UNIT ?q_R_UNIT ?r_R_UNIT ?q_MOST_WORD ?r_MOST_WORD ?z_isinstance ?z_int ?z_bool ?z_str ?z_list ?z_len ?z_abs ?z_tuple ?z_all ?z_zip ?z_range ?nd
    (case aC_ImageError => k_is)
    (case eB_ImageError => k_is)
    (case iB_ImageError => k_is)
    (case tB_ImageError => k_is)
    (case aC_Missing => k_is)
    (case eB_Missing => k_is)
    (case iB_Missing => k_is)
    (case tB_Missing => k_is)
    (case aC_InvalidName => k_is)
    (case xL_InvalidName => k_is)
    (case rv_InvalidName => decide +kernel)
    (case sa_InvalidName => k_is)
    (case ga_InvalidName => k_is)
    (case gg_InvalidName => k_is)
    (case kC_InvalidName => k_is)
    (case eC_InvalidName => k_is)
    (case tC_InvalidName => k_is)
    (case hC_InvalidName => k_is)
    (case x1_InvalidName => k_is)
    (case x2_InvalidName => k_is)
    (case nq_InvalidName_code => k_is)
    (case nq_InvalidName_value => k_is)
    (case aC_InvalidNumber => k_is)
    (case xL_InvalidNumber => k_is)
    (case rv_InvalidNumber => decide +kernel)
    (case sa_InvalidNumber => k_is)
    (case ga_InvalidNumber => k_is)
    (case gg_InvalidNumber => k_is)
    (case kC_InvalidNumber => k_is)
    (case eC_InvalidNumber => k_is)
    (case tC_InvalidNumber => k_is)
    (case hC_InvalidNumber => k_is)
    (case x1_InvalidNumber => k_is)
    (case x2_InvalidNumber => k_is)
    (case nq_InvalidNumber_code => k_is)
    (case nq_InvalidNumber_value => k_is)
    (case a_InvalidName___init__ => k_is)
    (case i_InvalidName___init__ => k_is)
    (case l_InvalidName___init__ => k_is)
    (case c_InvalidName___init__ => k_is)
    (case k_InvalidName___init__ => k_is)
    (case a_InvalidNumber___init__ => k_is)
    (case i_InvalidNumber___init__ => k_is)
    (case l_InvalidNumber___init__ => k_is)
    (case c_InvalidNumber___init__ => k_is)
    (case k_InvalidNumber___init__ => k_is)
    (case a_is_number => k_is)
    (case l_is_number => k_is)
    (case c_is_number => k_is)
    (case k_is_number => k_is)
    (case a_cell_of => k_is)
    (case l_cell_of => k_is)
    (case c_cell_of => k_is)
    (case k_cell_of => k_is)
    (case lt_cell_of => k_is)
    (case a_is_word => k_is)
    (case l_is_word => k_is)
    (case c_is_word => k_is)
    (case k_is_word => k_is)
    (case a_parted => k_is)
    (case l_parted => k_is)
    (case c_parted => k_is)
    (case k_parted => k_is)
    (case a_with_part => k_is)
    (case l_with_part => k_is)
    (case c_with_part => k_is)
    (case k_with_part => k_is)
    (case a__law_bag => k_is)
    (case l__law_bag => k_is)
    (case c__law_bag => k_is)
    (case k__law_bag => k_is)
    (case a__law_draw => k_is)
    (case l__law_draw => k_is)
    (case c__law_draw => k_is)
    (case k__law_draw => k_is)
    (case a__law_of => k_is)
    (case l__law_of => k_is)
    (case c__law_of => k_is)
    (case k__law_of => k_is)
    (case a__law_same => k_is)
    (case l__law_same => k_is)
    (case c__law_same => k_is)
    (case k__law_same => k_is)
    (case a__law_number => k_is)
    (case l__law_number => k_is)
    (case c__law_number => k_is)
    (case k__law_number => k_is)
    (case a__law_codes => k_is)
    (case l__law_codes => k_is)
    (case c__law_codes => k_is)
    (case k__law_codes => k_is)
    (case a__law_fours => k_is)
    (case l__law_fours => k_is)
    (case c__law_fours => k_is)
    (case k__law_fours => k_is)
    (case a__law_field => k_is)
    (case l__law_field => k_is)
    (case c__law_field => k_is)
    (case k__law_field => k_is)
    (case a__law_try => k_is)
    (case l__law_try => k_is)
    (case c__law_try => k_is)
    (case k__law_try => k_is)
    (case a__law_why => k_is)
    (case l__law_why => k_is)
    (case c__law_why => k_is)
    (case k__law_why => k_is)
    (case a__law_whys => k_is)
    (case l__law_whys => k_is)
    (case c__law_whys => k_is)
    (case k__law_whys => k_is)
    (case a__law_odd => k_is)
    (case l__law_odd => k_is)
    (case c__law_odd => k_is)
    (case k__law_odd => k_is)
    (case a__law_within => k_is)
    (case l__law_within => k_is)
    (case c__law_within => k_is)
    (case k__law_within => k_is)
    (case a__law_cell_due => k_is)
    (case l__law_cell_due => k_is)
    (case c__law_cell_due => k_is)
    (case k__law_cell_due => k_is)
    (case a__law_wrong_so => k_is)
    (case l__law_wrong_so => k_is)
    (case c__law_wrong_so => k_is)
    (case k__law_wrong_so => k_is)
    (case a__law_codes_so => k_is)
    (case l__law_codes_so => k_is)
    (case c__law_codes_so => k_is)
    (case k__law_codes_so => k_is)
    (case a_law => k_is)
    (case l_law => k_is)
    (case c_law => k_is)
    (case k_law => k_is)
    (case q_CODES => k_is)
    (case l_CODES => k_is)
    (case q_MOST_REGISTER => k_is)
    (case q_MOST_PART => k_is)
    (case q_S_UNIT => k_is)
    (case q_CODE_UNIT => k_is)
    (case q_R_UNIT => k_is)
    (case q_MOST_WORD => k_is)
    (case z_isinstance => k_is)
    (case z_int => k_is)
    (case z_bool => k_is)
    (case z_str => k_is)
    (case z_list => k_is)
    (case z_len => k_is)
    (case z_abs => k_is)
    (case z_tuple => k_is)
    (case z_all => k_is)
    (case z_zip => k_is)
    (case z_range => k_is)
    (case vt_cell_of => exact (.cons ⟨_, rfl⟩ (.cons ⟨_, rfl⟩ (.cons ⟨_, rfl⟩ .nil))))
    (case lk__law_wrong_so => k_is)
    (case vt__law_wrong_so => rfl)
    (case ch__law_wrong_so => first | kernel_rfl | rfl)
    (case nl__law_wrong_so => first | k_is | kernel_rfl)
    (case ht__law_wrong_so => exact hts _ (by decide))
    (case lk__law_codes_so => k_is)
    (case vt__law_codes_so => rfl)
    (case ch__law_codes_so => first | kernel_rfl | rfl)
    (case nl__law_codes_so => first | k_is | kernel_rfl)
    (case ht__law_codes_so => exact hts _ (by decide))
    (case v_CODES => exact (.cons ⟨_, rfl⟩ (.cons ⟨_, rfl⟩ (.cons ⟨_, rfl⟩ (.cons ⟨_, rfl⟩ (.cons ⟨_, rfl⟩ (.cons ⟨_, rfl⟩ (.cons ⟨_, rfl⟩ (.cons ⟨_, rfl⟩ (.cons ⟨_, rfl⟩ (.cons ⟨_, rfl⟩ (.cons ⟨_, rfl⟩ (.cons ⟨_, rfl⟩ (.cons ⟨_, rfl⟩ (.cons ⟨_, rfl⟩ (.cons ⟨_, rfl⟩ (.cons ⟨_, rfl⟩ .nil)))))))))))))))))
    (case r_MOST_REGISTER => exact ⟨_, rfl⟩)
    (case r_MOST_PART => exact ⟨_, rfl⟩)
    (case r_S_UNIT => exact ⟨_, rfl⟩)
    (case r_CODE_UNIT => exact ⟨_, rfl⟩)
    (case r_R_UNIT => exact ⟨_, rfl⟩)
    (case r_MOST_WORD => exact ⟨_, rfl⟩)
    (case nd => decide)
