import PyProof.Rows.All
import Wide.All
import OpenK.AllK
import Wide.FinOn
import HandS.ForMost
import HandS.Flow
import HandS.IsInst
import HandS.Walk
import HandS.Zip
import HandS.Defaults
import HandS.MakeKwOnly
import HandS.Lambda
import HandS.More
import HandS.Style
import KE.GoesNew
import HandS.Strs
import HandS.RaiseMore
import HandS.Text
import KE.IntTextText
import HandS.OwnEq
import HandS.FStr
import OpenK.KOps
import KE.GoesEnum
import HandS.Nested
import HandS.Exc
import HandS.ExcInit
import HandS.HotCalls
import KE.KTryMore
import HandS.ExcField
import HandS.EndTab
import HandS.Deep
import HandS.NoneIn
import PySem.Challenge.RW_leastimage_k05_pieces_refused
set_option Elab.async false
set_option linter.all false
set_option maxRecDepth 100000
set_option maxHeartbeats 4000000
/-! Y1: data, and a logic over data alone: environments of data, expressions that give data, statements. -/
namespace Y
open PySem L2

/-- a datum: what a value means, without addresses -/
inductive Dt where
  | non
  | bl (b : Bool)
  | int (i : Int)
  | str (s : Str)
  | lst (xs : List Dt)
  | tup (xs : List Dt)
  | obj (C : Addr) (ns : List Str) (xs : List Dt)
  | dct (ks : List Key) (xs : List Dt)
  | ali (a : Addr)

mutual
inductive Rp (K : PySem.W.Frag) (F : Hp) : V → Dt → Prop
  | non : Rp K F .non .non
  | bl (b : Bool) : Rp K F (.bl b) (.bl b)
  | int (i : Int) : Rp K F (.int i) (.int i)
  | str (x : Str) : Rp K F (.str x) (.str x)
  | lst {a : Addr} {xs : List V} {ds : List Dt} : F a = some (.lst xs) → RpAll K F xs ds → Rp K F (.ref a) (.lst ds)
  | tup {a : Addr} {xs : List V} {ds : List Dt} : SqT K F a xs → RpAll K F xs ds → Rp K F (.ref a) (.tup ds)
  | obj {a C dx : Addr} {ns : List Str} {fs : List (Str × V)} {xs : List V} {ds : List Dt} : F a = some (.ins C dx fs) → fs.map (·.1) = ns → fs.map (·.2) = xs → RpAll K F xs ds → Rp K F (.ref a) (.obj C ns ds)
  | dct {a : Addr} {ks : List Key} {kvs : List (Key × V)} {xs : List V} {ds : List Dt} : F a = some (.dK kvs) → kvs.map (·.1) = ks → kvs.map (·.2) = xs → RpAll K F xs ds → Rp K F (.ref a) (.dct ks ds)
  | ali (a : Addr) : Rp K F (.ref a) (.ali a)
inductive RpAll (K : PySem.W.Frag) (F : Hp) : List V → List Dt → Prop
  | nil : RpAll K F [] []
  | cons {v : V} {vs : List V} {d : Dt} {ds : List Dt} : Rp K F v d → RpAll K F vs ds → RpAll K F (v :: vs) (d :: ds)
end

section mono
variable {K : PySem.W.Frag} {F F' : Hp}
theorem sqL_mono {a : Addr} {xs : List V} (e : Same F F') (h : SqL K F a xs) : SqL K F' a xs := e.seq h
theorem sqT_mono {a : Addr} {xs : List V} (e : Same F F') (h : SqT K F a xs) : SqT K F' a xs := by
  rcases h with (h | ⟨o, h⟩) | h
  · exact .inl (.inl (e _ _ h))
  · exact .inl (.inr ⟨o, e _ _ h⟩)
  · exact .inr h
mutual
theorem Rp.mono (e : Same F F') : ∀ {v : V} {d : Dt}, Rp K F v d → Rp K F' v d
  | _, _, .non => .non
  | _, _, .bl b => .bl b
  | _, _, .int i => .int i
  | _, _, .str x => .str x
  | _, _, .lst h r => .lst (e _ _ h) (RpAll.mono e r)
  | _, _, .tup h r => .tup (sqT_mono e h) (RpAll.mono e r)
  | _, _, .obj h h1 h2 r => .obj (e _ _ h) h1 h2 (RpAll.mono e r)
  | _, _, .dct h h1 h2 r => .dct (e _ _ h) h1 h2 (RpAll.mono e r)
  | _, _, .ali a => .ali a
theorem RpAll.mono (e : Same F F') : ∀ {vs : List V} {ds : List Dt}, RpAll K F vs ds → RpAll K F' vs ds
  | _, _, .nil => .nil
  | _, _, .cons h t => .cons (Rp.mono e h) (RpAll.mono e t)
end
theorem RpAll.length : ∀ {vs : List V} {ds : List Dt}, RpAll K F vs ds → vs.length = ds.length
  | _, _, .nil => rfl
  | _, _, .cons _ t => congrArg (· + 1) (RpAll.length t)
theorem RpAll.get : ∀ {vs : List V} {ds : List Dt} {i : Nat} {d : Dt}, RpAll K F vs ds → ds[i]? = some d → ∃ v, vs[i]? = some v ∧ Rp K F v d
  | _, _, _, _, .nil, e => by simp at e
  | _, _, 0, _, .cons r _, e => by simp at e; subst e; exact ⟨_, rfl, r⟩
  | _, _, i + 1, d, .cons _ t, e => by
    obtain ⟨v, h1, h2⟩ := RpAll.get (i := i) (d := d) t (by simpa using e)
    exact ⟨v, by simpa using h1, h2⟩
theorem RpAll.getV : ∀ {vs : List V} {ds : List Dt} {i : Nat} {v : V}, RpAll K F vs ds → vs[i]? = some v → ∃ d, ds[i]? = some d ∧ Rp K F v d
  | _, _, _, _, .nil, e => by simp at e
  | _, _, 0, _, .cons r _, e => by simp at e; subst e; exact ⟨_, rfl, r⟩
  | _, _, i + 1, v, .cons _ t, e => by
    obtain ⟨d, h1, h2⟩ := RpAll.getV (i := i) (v := v) t (by simpa using e)
    exact ⟨d, by simpa using h1, h2⟩
theorem RpAll.app : ∀ {vs ws : List V} {ds es : List Dt}, RpAll K F vs ds → RpAll K F ws es → RpAll K F (vs ++ ws) (ds ++ es)
  | _, _, _, _, .nil, s => s
  | _, _, _, _, .cons r t, s => .cons r (RpAll.app t s)
theorem RpAll.take : ∀ {vs : List V} {ds : List Dt} (n : Nat), RpAll K F vs ds → RpAll K F (vs.take n) (ds.take n)
  | _, _, 0, _ => by simp; exact .nil
  | _, _, _ + 1, .nil => .nil
  | _, _, n + 1, .cons r t => .cons r (RpAll.take n t)
theorem RpAll.drop : ∀ {vs : List V} {ds : List Dt} (n : Nat), RpAll K F vs ds → RpAll K F (vs.drop n) (ds.drop n)
  | _, _, 0, r => r
  | _, _, _ + 1, .nil => .nil
  | _, _, n + 1, .cons _ t => RpAll.drop n t
theorem RpAll.set {d : Dt} {v : V} (r : Rp K F v d) : ∀ {vs : List V} {ds : List Dt} (i : Nat), RpAll K F vs ds → RpAll K F (vs.set i v) (ds.set i d)
  | _, _, _, .nil => .nil
  | _, _, 0, .cons _ t => .cons r t
  | _, _, i + 1, .cons q t => .cons q (RpAll.set r i t)
theorem RpAll.ints : ∀ {vs : List V} {ns : List Int}, RpAll K F vs (ns.map Dt.int) → vs = ns.map V.int
  | _, [], h => by cases h; rfl
  | _, n :: ns, h => by
    cases h with
    | cons r t => cases r; rw [RpAll.ints t]; rfl
theorem RpAll.bls : ∀ {vs : List V} {ns : List Bool}, RpAll K F vs (ns.map Dt.bl) → vs = ns.map V.bl
  | _, [], h => by cases h; rfl
  | _, n :: ns, h => by
    cases h with
    | cons r t => cases r; rw [RpAll.bls t]; rfl
theorem RpAll.texts : ∀ {vs : List V} {ns : List Str}, RpAll K F vs (ns.map Dt.str) → vs = ns.map V.str
  | _, [], h => by cases h; rfl
  | _, n :: ns, h => by
    cases h with
    | cons r t => cases r; rw [RpAll.texts t]; rfl
theorem RpAll.of_ints : ∀ {ns : List Int}, RpAll K F (ns.map V.int) (ns.map Dt.int)
  | [] => .nil
  | n :: ns => .cons (.int n) RpAll.of_ints
end mono

/-- the state of the drawing: a list of five, its ints, what was taken, a rest, a mixed number, a count -/
def BagD (xs : List Dt) : Prop := ∃ (ns : List Int) (i r m k : Int), xs = [.lst (ns.map Dt.int), .int i, .int r, .int m, .int k] ∧ 0 ≤ i ∧ 0 ≤ r ∧ 0 ≤ m ∧ m < 2147483648
def BagAt (K : PySem.W.Frag) (F H : Hp) (b : Addr) : Prop := F b = none ∧ ∃ vs xs, H b = some (.lst vs) ∧ RpAll K F vs xs ∧ BagD xs

/-- the words of a lambda, its captured cells, its code object, its defaults -/
structure LF where
  qual : Str
  params : Arguments
  body : Expr
  scope : Scope
  cl : List (Str × Addr)
  c : Addr
  dv : Option Addr
def LF.dval (F : LF) : Value := match F.dv with
  | none => .none
  | some t => .ref t
def LF.fd (F : LF) (pm ctv : Value) : FuncData := { name := "<lambda>", qualname := F.qual, params := F.params, body := .expr F.body, scope := F.scope, globals := mainGlobals, closure := F.cl, defaults := F.dval, kwdefaults := .none, doc := .none, pyModule := pm, annotations := none, code := .ref F.c, closureTuple := ctv, builtins := builtinsNs }
/-- the object at f is the lambda F -/
def FnL (f : Addr) (F : LF) : HO := .ext fun h => ∃ (od : Option Addr) (sl : Array (Option Value)) (pm ctv : Value), h.get? f = some (⟨.type "function", od, .func (F.fd pm ctv), sl⟩ : Obj)
/-- .. with all that it leans on -/
def FnAtH (H : Hp) (f : Addr) (F : LF) : Prop := H f = some (FnL f F) ∧ H F.c = some (LamX.CodeO F.c F.qual) ∧ ∀ t, F.dv = some t → H t = some (.tup [.int 0])
/-- what a slot of a frame is known to hold -/
inductive Sl where
  | no
  | any
  | d (x : Dt)
  | r (v : V)
  | own (a : Addr) (xs : List Dt)
  /-- an instance of one's own, under way: its fields; which of them hold a new list -/
  | ob (a C dx : Addr) (ns : List Str) (xs : List Dt) (bs : List Bool)
  /-- a list of lambdas -/
  | fs (a : Addr) (ls : List (Addr × LF))

def SlOk (K : PySem.W.Frag) (F H : Hp) : Option V → Sl → Prop
  | _, .any => True
  | o, .no => o = none
  | o, .d x => ∃ v, o = some v ∧ Rp K F v x
  | o, .r v => o = some v
  | o, .own a xs => ∃ vs, o = some (.ref a) ∧ F a = none ∧ H a = some (.lst vs) ∧ RpAll K F vs xs
  | o, .ob a C dx ns xs _ => ∃ fs : List (Str × V), o = some (.ref a) ∧ F a = none ∧ H a = some (.ins C dx fs) ∧ fs.map (·.1) = ns ∧ RpAll K F (fs.map (·.2)) xs
  | o, .fs a ls => o = some (.ref a) ∧ F a = some (.lst (ls.map fun p => .ref p.1)) ∧ ∀ p ∈ ls, FnAtH H p.1 p.2

/-- what a body of a def stands on: the written part, what is known and the heap at its start, the address of the drawing -/
structure Bs where
  K : PySem.W.Frag
  F0 : Hp
  H0 : Hp
  bag : Option Addr
  T : List (Addr × Str)
/-- neither the drawing's list nor a table of code objects -/
def Bs.off (B : Bs) (c : Addr) : Prop := B.bag ≠ some c ∧ ∀ p ∈ B.T, p.1 ≠ c

structure Stt (B : Bs) (es : List Sl) (σ : St) (F H : Hp) : Prop where
  sub : Same F H
  s0 : Same B.F0 F
  ou : ∀ c, B.H0 c ≠ none → B.F0 c = none → F c = none
  fr : ∀ c o, B.H0 c = some o → B.off c → H c = some o
  bg : ∀ b, B.bag = some b → BagAt B.K F H b
  tb : LamX.Tabs B.T H
  tn : ∀ p ∈ B.T, F p.1 = none
  len : σ.length = es.length
  ok : ∀ (i : Nat) e o, es[i]? = some e → σ[i]? = some o → SlOk B.K F H o e
  ow : ∀ (i : Nat) a xs, es[i]? = some (.own a xs) → B.H0 a = none ∧ B.off a
  dis : ∀ (i j : Nat) a b xs ys, i ≠ j → es[i]? = some (.own a xs) → es[j]? = some (.own b ys) → a ≠ b
  obw : ∀ (i : Nat) a C dx ns xs bs, es[i]? = some (.ob a C dx ns xs bs) → B.H0 a = none ∧ B.off a ∧ ∀ fs, H a = some (.ins C dx fs) → ∀ k : Nat, bs[k]? = some true → ∃ n b vs, fs[k]? = some (n, .ref b) ∧ B.H0 b = none ∧ F b = some (.lst vs)

/-- the heap goes on: all stays but the drawing; what was outside F stays outside -/
structure Go (B : Bs) (F H F' H' : Hp) : Prop where
  s1 : Same F F'
  s2 : Same F' H'
  nw : ∀ c, H c ≠ none → F c = none → F' c = none
  kp : ∀ c o, B.off c → H c = some o → H' c = some o
  bg : ∀ b, B.bag = some b → BagAt B.K F' H' b
  tb : LamX.Tabs B.T H'

theorem same_upd {H : Hp} {p : Addr} {o : HO} (h : H p = none) : Same H (upd H p o) := fun b u e => by
  rw [upd_ne (ne_of_none e h)]
  exact e
theorem same_updF {F H : Hp} {p : Addr} {o : HO} (s : Same F H) : Same (upd F p o) (upd H p o) := fun b u e => by
  by_cases hb : b = p
  · subst hb; rw [upd_same] at e ⊢; exact e
  · rw [upd_ne hb] at e ⊢; exact s b u e
theorem same_none {F H : Hp} {p : Addr} (s : Same F H) (h : H p = none) : F p = none := s.free h

section
variable {B : Bs} {es : List Sl} {σ : St} {F H F1 H1 F2 H2 : Hp}
theorem Bs.off_or (B : Bs) (c : Addr) : B.bag = some c ∨ (∃ p ∈ B.T, p.1 = c) ∨ B.off c := by
  by_cases h1 : B.bag = some c
  · exact .inl h1
  · by_cases h2 : ∃ p ∈ B.T, p.1 = c
    · exact .inr (.inl h2)
    · exact .inr (.inr ⟨h1, fun p hp e => h2 ⟨p, hp, e⟩⟩)
theorem Go.live (g : Go B F H F1 H1) {c : Addr} (h : H c ≠ none) : H1 c ≠ none := by
  rcases B.off_or c with hb | ⟨p, hp, e⟩ | hb
  · obtain ⟨_, vs, _, k, _⟩ := g.bg c hb
    rw [k]; simp
  · obtain ⟨ps, k, _⟩ := g.tb p hp
    rw [← e, k]; simp
  · cases e : H c with
    | none => exact absurd e h
    | some o => rw [g.kp c o hb e]; simp
/-- what functions, code objects and their tables are made of -/
def Gh : HO → Prop
  | .ext _ => True
  | .tbl _ => True
  | .tup _ => True
  | _ => False
theorem tabS_kept {P : Addr} {q : Str} (t : LamX.TabS H P q) (kp : ∀ c o, H c = some o → Gh o → H1 c = some o) : LamX.TabS H1 P q := by
  obtain ⟨ps, h1, h2, h3⟩ := t
  refine ⟨ps, kp _ _ h1 True.intro, h2, fun pos cv hc => ?_⟩
  obtain ⟨c, e1, e2⟩ := h3 pos cv hc
  exact ⟨c, e1, kp _ _ e2 True.intro⟩
theorem FnAtH.kept {f : Addr} {L : LF} (q : FnAtH H f L) (kp : ∀ c o, H c = some o → Gh o → (∀ ps, o ≠ .tbl ps) → H1 c = some o) : FnAtH H1 f L :=
  ⟨kp _ _ q.1 True.intro (fun _ z => by unfold FnL at z; cases z), kp _ _ q.2.1 True.intro (fun _ z => by unfold LamX.CodeO at z; cases z), fun t e => kp _ _ (q.2.2 t e) True.intro (fun _ z => by cases z)⟩
/-- at a something else is laid -/
theorem gh_upd {a c : Addr} {o u v : HO} (ha : H a = some u) (hu : ¬ Gh u) (h : H c = some o) (g : Gh o) : upd H a v c = some o := by
  rw [upd_ne (fun e => by rw [e, ha] at h; cases h; exact hu g)]; exact h
theorem Stt.offX (S : Stt B es σ F H) {c : Addr} {o : HO} (h : H c = some o) (h1 : ∀ xs, o ≠ .lst xs) (h2 : ∀ ps, o ≠ .tbl ps) : B.off c := by
  constructor
  · intro hb
    obtain ⟨_, vs, _, k, _⟩ := S.bg c hb
    rw [h] at k
    exact h1 _ (Option.some.inj k)
  · intro q hq e
    obtain ⟨ps, k, _⟩ := S.tb q hq
    rw [e, h] at k
    exact h2 _ (Option.some.inj k)
theorem Go.trans (a : Go B F H F1 H1) (b : Go B F1 H1 F2 H2) : Go B F H F2 H2 where
  s1 := a.s1.trans b.s1
  s2 := b.s2
  nw := fun c h1 h2 => by
    exact b.nw c (a.live h1) (a.nw c h1 h2)
  kp := fun c o h1 h2 => b.kp c o h1 (a.kp c o h1 h2)
  bg := b.bg
  tb := b.tb
theorem Stt.refl (S : Stt B es σ F H) : Go B F H F H := ⟨Same.refl F, S.sub, fun _ _ h => h, fun _ _ _ h => h, S.bg, S.tb⟩
theorem Stt.slot {i : Nat} {e : Sl} (S : Stt B es σ F H) (h : es[i]? = some e) : ∃ o, σ[i]? = some o ∧ SlOk B.K F H o e := by
  have hl : i < es.length := (List.getElem?_eq_some_iff.mp h).1
  rw [← S.len] at hl
  exact ⟨σ[i], by simp [hl], S.ok i e _ h (by simp [hl])⟩
theorem Stt.dat {i : Nat} {x : Dt} (S : Stt B es σ F H) (h : es[i]? = some (.d x)) : ∃ v, σ[i]? = some (some v) ∧ Rp B.K F v x := by
  obtain ⟨o, h1, v, rfl, h2⟩ := S.slot h
  exact ⟨v, h1, h2⟩
theorem Stt.raw {i : Nat} {v : V} (S : Stt B es σ F H) (h : es[i]? = some (.r v)) : σ[i]? = some (some v) := by
  obtain ⟨o, h1, h2⟩ := S.slot h
  rw [h1, h2]
theorem Stt.live (S : Stt B es σ F H) {c : Addr} (h : B.H0 c ≠ none) : H c ≠ none := by
  rcases B.off_or c with hb | ⟨p, hp, e⟩ | hb
  · obtain ⟨_, vs, _, k, _⟩ := S.bg c hb
    rw [k]; simp
  · obtain ⟨ps, k, _⟩ := S.tb p hp
    rw [← e, k]; simp
  · cases e : B.H0 c with
    | none => exact absurd e h
    | some o => rw [S.fr c o e hb]; simp
theorem Stt.go {F' H' : Hp} (S : Stt B es σ F H) (g : Go B F H F' H') : Stt B es σ F' H' where
  sub := g.s2
  s0 := S.s0.trans g.s1
  ou := fun c h1 h2 => g.nw c (S.live h1) (S.ou c h1 h2)
  fr := fun c o h1 h2 => g.kp c o h2 (S.fr c o h1 h2)
  bg := g.bg
  tb := g.tb
  tn := fun p hp => g.nw p.1 (by obtain ⟨ps, k, _⟩ := S.tb p hp; rw [k]; simp) (S.tn p hp)
  len := S.len
  ok := fun i e o h1 h2 => by
    have h := S.ok i e o h1 h2
    cases e with
    | no => exact h
    | any => trivial
    | d x => obtain ⟨v, k1, k2⟩ := h; exact ⟨v, k1, k2.mono g.s1⟩
    | r v => exact h
    | own a xs =>
      obtain ⟨vs, k1, k2, k3, k4⟩ := h
      exact ⟨vs, k1, g.nw a (by rw [k3]; simp) k2, g.kp a _ (S.ow i a xs h1).2 k3, k4.mono g.s1⟩
    | ob a C dx ns xs bs =>
      obtain ⟨fs, k1, k2, k3, k4, k5⟩ := h
      exact ⟨fs, k1, g.nw a (by rw [k3]; simp) k2, g.kp a _ (S.obw i a C dx ns xs bs h1).2.1 k3, k4, k5.mono g.s1⟩
    | fs a ls =>
      obtain ⟨k1, k2, k3⟩ := h
      exact ⟨k1, g.s1 _ _ k2, fun p hp => (k3 p hp).kept fun c o q h1 h2 => g.kp c o (S.offX q (fun _ z => by rw [z] at h1; exact h1) h2) q⟩
  ow := S.ow
  dis := S.dis
  obw := fun i a C dx ns xs bs h1 => by
    obtain ⟨w1, w2, w3⟩ := S.obw i a C dx ns xs bs h1
    refine ⟨w1, w2, fun fs hf k hk => ?_⟩
    obtain ⟨o, _, fs0, _, _, k3, _⟩ := S.slot h1
    have e : H a = some (.ins C dx fs) := by
      rw [g.kp a _ w2 k3] at hf
      rw [k3, hf]
    obtain ⟨n, b, vs, z1, z2, z3⟩ := w3 fs e k hk
    exact ⟨n, b, vs, z1, z2, g.s1 _ _ z3⟩
/-- nothing that stood changes -/
theorem Stt.pure {F' H' : Hp} (S : Stt B es σ F H) (s1 : Same F F') (s2 : Same F' H') (hn : ∀ c, H c ≠ none → F c = none → F' c = none) (s3 : Same H H') : Go B F H F' H' :=
  ⟨s1, s2, hn, fun c o _ h => s3 c o h, fun b hb => by
    obtain ⟨h1, vs, xs, h2, h3, h4⟩ := S.bg b hb
    exact ⟨hn b (by rw [h2]; simp) h1, vs, xs, s3 _ _ h2, h3.mono s1, h4⟩, S.tb.ext s3⟩
/-- a new object, known as a datum -/
theorem Stt.alloc {p : Addr} {o : HO} (S : Stt B es σ F H) (h : H p = none) : Go B F H (upd F p o) (upd H p o) :=
  S.pure (same_upd (same_none S.sub h)) (same_updF S.sub) (fun c hc hf => by
    rw [upd_ne (fun e => hc (by rw [e]; exact h))]
    exact hf) (same_upd h)
/-- a new object that is not yet known as a datum -/
theorem Stt.allocO {p : Addr} {o : HO} (S : Stt B es σ F H) (h : H p = none) : Go B F H F (upd H p o) :=
  S.pure (Same.refl F) (S.sub.trans (same_upd h)) (fun _ _ hf => hf) (same_upd h)
theorem Stt.new0 {p : Addr} (S : Stt B es σ F H) (h : H p = none) : B.H0 p = none := by
  cases e : B.H0 p with
  | none => rfl
  | some o => exact absurd h (S.live (by rw [e]; simp))
theorem Stt.newB {p : Addr} (S : Stt B es σ F H) (h : H p = none) : B.off p := by
  constructor
  · intro hb
    obtain ⟨_, vs, _, k, _⟩ := S.bg p hb
    rw [h] at k
    cases k
  · intro q hq e
    obtain ⟨ps, k, _⟩ := S.tb q hq
    rw [e, h] at k
    cases k
theorem Stt.newS {p a : Addr} (S : Stt B es σ F H) (h : H p = none) (i : Nat) (ys : List Dt) (hi : es[i]? = some (.own a ys)) : a ≠ p := fun hs => by
  obtain ⟨o, _, ws, z1, z2, z3, z4⟩ := S.slot hi
  rw [hs, h] at z3; cases z3
end

/-! ### what an expression gives: backwards, from what is wanted of its datum -/
def Ev (B : Bs) (te : TE) (es : List Sl) (P : Dt → Prop) : Prop := ∀ σ F H, Stt B es σ F H → ∀ Q : VK,
  (∀ v d F' H', Go B F H F' H' → Rp B.K F' v d → P d → Q v H') → te σ H Q
def EvT (B : Bs) (tt : TT) (es : List Sl) (P : Bool → Prop) : Prop := ∀ σ F H, Stt B es σ F H → ∀ Q : Bool → Hp → Prop,
  (∀ b F' H', Go B F H F' H' → P b → Q b H') → tt σ H Q
def EvA (B : Bs) (ta : TA) (es : List Sl) (P : List Dt → Prop) : Prop := ∀ σ F H, Stt B es σ F H → ∀ Q : List V → Hp → Prop,
  (∀ vs ds F' H', Go B F H F' H' → RpAll B.K F' vs ds → P ds → Q vs H') → ta σ H Q
def EvO (B : Bs) (te : TE) (es : List Sl) (P : List Dt → Prop) : Prop := ∀ σ F H, Stt B es σ F H → ∀ Q : VK,
  (∀ a vs xs F' H', Go B F H F' H' → H a = none → F' a = none → H' a = some (.lst vs) → RpAll B.K F' vs xs → P xs → Q (.ref a) H') → te σ H Q

section
variable {B : Bs} {es : List Sl} {σ : St} {F H : Hp}
theorem Ev.imp {te : TE} {P P' : Dt → Prop} (h : Ev B te es P) (hp : ∀ d, P d → P' d) : Ev B te es P' := fun σ F H S Q q => h σ F H S Q fun v d F' H' a b c => q v d F' H' a b (hp d c)
theorem EvT.imp {te : TT} {P P' : Bool → Prop} (h : EvT B te es P) (hp : ∀ d, P d → P' d) : EvT B te es P' := fun σ F H S Q q => h σ F H S Q fun d F' H' a b => q d F' H' a (hp d b)
theorem EvO.imp {te : TE} {P P' : List Dt → Prop} (h : EvO B te es P) (hp : ∀ d, P d → P' d) : EvO B te es P' := fun σ F H S Q q => h σ F H S Q fun a vs d F' H' g n f l r c => q a vs d F' H' g n f l r (hp d c)
theorem EvA.imp {te : TA} {P P' : List Dt → Prop} (h : EvA B te es P) (hp : ∀ d, P d → P' d) : EvA B te es P' := fun σ F H S Q q => h σ F H S Q fun v d F' H' a b c => q v d F' H' a b (hp d c)
/-- a new list at a, outside what is known, becomes known -/
theorem Go.freeze {F' H' : Hp} {a : Addr} {vs : List V} (g : Go B F H F' H') (S : Stt B es σ F H) (h0 : H a = none) (h1 : F' a = none) (h2 : H' a = some (.lst vs)) : Go B F H (upd F' a (.lst vs)) H' where
  s1 := g.s1.trans (same_upd h1)
  s2 := fun c o e => by
    by_cases hc : c = a
    · subst hc; rw [upd_same] at e; rw [h2, e]
    · rw [upd_ne hc] at e; exact g.s2 c o e
  nw := fun c hc hf => by
    rw [upd_ne (fun e => hc (by rw [e]; exact h0))]
    exact g.nw c hc hf
  kp := g.kp
  bg := fun b hb => by
    obtain ⟨k1, ws, ys, k2, k3, k4⟩ := g.bg b hb
    have hba : b ≠ a := fun q => (S.newB h0).1 (by rw [hb, q])
    exact ⟨by rw [upd_ne hba]; exact k1, ws, ys, k2, k3.mono (same_upd h1), k4⟩
  tb := g.tb
theorem EvO.ev {te : TE} {P : Dt → Prop} (h : EvO B te es fun xs => P (.lst xs)) : Ev B te es P := fun σ F H S Q q =>
  h σ F H S Q fun a vs xs F' H' g h0 h1 h2 r p => q (.ref a) (.lst xs) (upd F' a (.lst vs)) H' (g.freeze S h0 h1 h2) (.lst upd_same (r.mono (same_upd h1))) p
theorem ev_var {i : Nat} {x : Dt} {P : Dt → Prop} (h : es[i]? = some (.d x)) (hp : P x) : Ev B (tVar i) es P := fun σ F H S Q q => by
  obtain ⟨v, h1, h2⟩ := S.dat h
  exact ⟨v, h1, q v x F H S.refl h2 hp⟩
/-- a list of one's own that is not changed any more in this expression: read as a datum of a copy -/
theorem ev_int {i : Int} {P : Dt → Prop} (hp : P (.int i)) : Ev B (tC (.int i)) es P := fun σ F H S Q q => q _ _ F H S.refl (.int i) hp
theorem ev_str {i : Str} {P : Dt → Prop} (hp : P (.str i)) : Ev B (tC (.str i)) es P := fun σ F H S Q q => q _ _ F H S.refl (.str i) hp
theorem ev_bl {i : Bool} {P : Dt → Prop} (hp : P (.bl i)) : Ev B (tC (.bl i)) es P := fun σ F H S Q q => q _ _ F H S.refl (.bl i) hp
theorem ev_non {P : Dt → Prop} (hp : P .non) : Ev B (tC .non) es P := fun σ F H S Q q => q _ _ F H S.refl .non hp
/-- a datum of the written part -/
def KD (K : PySem.W.Frag) (v : V) (d : Dt) : Prop := ∀ F, Rp K F v d
theorem ev_k {v : V} {d : Dt} {P : Dt → Prop} (k : KD B.K v d) (hp : P d) : Ev B (tC v) es P := fun σ F H S Q q => q _ _ F H S.refl (k F) hp
theorem ea_nil {P : List Dt → Prop} (hp : P []) : EvA B tNil es P := fun σ F H S Q q => q _ _ F H S.refl .nil hp
theorem ea_cons {te : TE} {tr : TA} {P : List Dt → Prop} (h : Ev B te es fun d => EvA B tr es fun ds => P (d :: ds)) : EvA B (tCons te tr) es P := fun σ F H S Q q =>
  h σ F H S _ fun v d F1 H1 g1 r1 p1 => p1 σ F1 H1 (S.go g1) _ fun vs ds F2 H2 g2 r2 p2 => q _ _ F2 H2 (g1.trans g2) (.cons (r1.mono g2.s1) r2) p2
theorem size_of {n : Nat} (h : n ≤ 100000) : n ≤ sizeLine := Nat.le_trans h (by decide)
theorem size_lt {n : Nat} (h : n < 100000) : n < sizeLine := Nat.lt_of_lt_of_le h (by decide)
theorem eo_lst {ta : TA} {P : List Dt → Prop} (h : EvA B ta es fun ds => ds.length ≤ 100000 ∧ P ds) : EvO B (tLst ta) es P := fun σ F H S Q q =>
  h σ F H S _ fun vs ds F1 H1 g1 r1 p1 => ⟨size_of (by rw [r1.length]; exact p1.1), fun p hp => by
    have S1 := S.go g1
    have h0 : H p = none := by
      cases e : H p with
      | none => rfl
      | some o => have := g1.kp p o (S1.newB hp) e; rw [hp] at this; cases this
    exact q p vs ds F1 (upd H1 p (.lst vs)) (g1.trans (S1.allocO hp)) h0 (same_none S1.sub hp) upd_same r1 p1.2⟩
theorem ev_lst {ta : TA} {P : Dt → Prop} (h : EvA B ta es fun ds => ds.length ≤ 100000 ∧ P (.lst ds)) : Ev B (tLst ta) es P := (eo_lst (P := fun ds => P (.lst ds)) h).ev
theorem ev_tup {ta : TA} {P : Dt → Prop} (h : EvA B ta es fun ds => ds.length ≤ 100000 ∧ P (.tup ds)) : Ev B (tTup ta) es P := fun σ F H S Q q =>
  h σ F H S _ fun vs ds F1 H1 g1 r1 p1 => ⟨size_of (by rw [r1.length]; exact p1.1), fun p hp => by
    have S1 := S.go g1
    have hF : F1 p = none := same_none S1.sub hp
    exact q (.ref p) (.tup ds) (upd F1 p (.tup vs)) (upd H1 p (.tup vs)) (g1.trans (S1.alloc hp)) (.tup (SqT.of upd_same) (r1.mono (same_upd hF))) p1.2⟩
theorem Go.new {F' H' : Hp} {p : Addr} (g : Go B F H F' H') (hb : B.off p) (h : H' p = none) : H p = none := by
  cases e : H p with
  | none => rfl
  | some o => have := g.kp p o hb e; rw [h] at this; cases this
end
end Y
/-! Y2: operators, tests, calls, statements, loops over data. -/
namespace Y
open PySem L2

section
variable {B : Bs} {es : List Sl}

/-! ### alternatives: one rule or another -/
theorem pe_alt {X : Cx} {e : Expr} {t u : TE} (h1 : PE X e t) (h2 : PE X e u) : PE X e (fun σ H Q => t σ H Q ∨ u σ H Q) :=
  ⟨fun pins s σ H Q I h => h.elim (h1.run pins s σ H Q I) (h2.run pins s σ H Q I)⟩
theorem pi_alt {X : Cx} {tg e : Expr} {t u : TI} (h1 : PI X tg e t) (h2 : PI X tg e u) : PI X tg e (fun σ H Q => t σ H Q ∨ u σ H Q) :=
  ⟨fun pins s σ H Q I h => h.elim (h1.run pins s σ H Q I) (h2.run pins s σ H Q I)⟩
def rAlt (r q : R2) : R2 := fun x y H Q => r x y H Q ∨ q x y H Q
theorem op_alt {X : Cx} {f : Value → Value → Sem Value} {r q : R2} (h1 : OpR X f r) (h2 : OpR X f q) : OpR X f (rAlt r q) := fun pins s σ H x y u v Q I rx ry h =>
  h.elim (h1 pins s σ H x y u v Q I rx ry) (h2 pins s σ H x y u v Q I rx ry)
def cAlt (r q : List V → Hp → VK → Prop) : List V → Hp → VK → Prop := fun xs H Q => r xs H Q ∨ q xs H Q
theorem call_alt {X : Cx} {f : Value} {r q : List V → Hp → VK → Prop} (h1 : CallR X f r) (h2 : CallR X f q) : CallR X f (cAlt r q) := fun pins s σ H xs us Q I rx h =>
  h.elim (h1 pins s σ H xs us Q I rx) (h2 pins s σ H xs us Q I rx)

/-! ### a two-place operation -/
def Op2 (B : Bs) (r : R2) (es : List Sl) (x y : Dt) (P : Dt → Prop) : Prop := ∀ σ F H v w, Stt B es σ F H → Rp B.K F v x → Rp B.K F w y → ∀ Q : VK,
  (∀ v d F' H', Go B F H F' H' → Rp B.K F' v d → P d → Q v H') → r v w H Q
theorem ev_op {r : R2} {ta tb : TE} {P : Dt → Prop} (h : Ev B ta es fun x => Ev B tb es fun y => Op2 B r es x y P) : Ev B (tOp r ta tb) es P := fun σ F H S Q q =>
  h σ F H S _ fun v x F1 H1 g1 r1 p1 => p1 σ F1 H1 (S.go g1) _ fun w y F2 H2 g2 r2 p2 => p2 σ F2 H2 v w ((S.go g1).go g2) (r1.mono g2.s1) r2 Q fun u d F3 H3 g3 r3 p3 => q u d F3 H3 ((g1.trans g2).trans g3) r3 p3
theorem o_altL {r q : R2} {x y : Dt} {P : Dt → Prop} (h : Op2 B r es x y P) : Op2 B (rAlt r q) es x y P := fun σ F H v w S a b Q k => .inl (h σ F H v w S a b Q k)
theorem o_altR {r q : R2} {x y : Dt} {P : Dt → Prop} (h : Op2 B q es x y P) : Op2 B (rAlt r q) es x y P := fun σ F H v w S a b Q k => .inr (h σ F H v w S a b Q k)
theorem o_i0 {g : Int → Int → Int} {i j : Int} {P : Dt → Prop} (hp : P (.int (g i j))) : Op2 B (rI0 fun i j => .int (g i j)) es (.int i) (.int j) P := fun σ F H v w S a b Q k => by
  cases a; cases b; exact ⟨i, j, rfl, rfl, k _ _ F H S.refl (.int _) hp⟩
theorem o_b0 {g : Int → Int → Bool} {i j : Int} {P : Dt → Prop} (hp : P (.bl (g i j))) : Op2 B (rI0 fun i j => .bl (g i j)) es (.int i) (.int j) P := fun σ F H v w S a b Q k => by
  cases a; cases b; exact ⟨i, j, rfl, rfl, k _ _ F H S.refl (.bl _) hp⟩
theorem o_i {C : Int → Int → Prop} {g : Int → Int → Int} {i j : Int} {P : Dt → Prop} (hc : C i j) (hp : P (.int (g i j))) : Op2 B (rI C fun i j => .int (g i j)) es (.int i) (.int j) P := fun σ F H v w S a b Q k => by
  cases a; cases b; exact ⟨i, j, rfl, rfl, hc, k _ _ F H S.refl (.int _) hp⟩
/-- == and != of scalars (no bool beside an int) -/
def dScal : Dt → Dt → Bool
  | .non, .non => true | .non, .int _ => true | .int _, .non => true | .non, .bl _ => true | .bl _, .non => true | .non, .str _ => true | .str _, .non => true
  | .int _, .int _ => true | .bl _, .bl _ => true | .str _, .str _ => true
  | .int _, .str _ => true | .str _, .int _ => true | .bl _, .str _ => true | .str _, .bl _ => true
  | _, _ => false
def dEq : Dt → Dt → Bool
  | .non, .non => true
  | .int i, .int j => decide (i = j)
  | .bl i, .bl j => decide (i = j)
  | .str i, .str j => decide (i = j)
  | _, _ => false
theorem scal_of {K : PySem.W.Frag} {F : Hp} {v w : V} {x y : Dt} (a : Rp K F v x) (b : Rp K F w y) (h : dScal x y = true) : scal v w = true ∧ decide (v = w) = dEq x y := by
  cases a <;> cases b <;> first | (cases h; done) | (refine ⟨rfl, ?_⟩; first | rfl | (simp [dEq]; done))
theorem o_eq {x y : Dt} {P : Dt → Prop} (hs : dScal x y = true) (hp : P (.bl (dEq x y))) : Op2 B rEq es x y P := fun σ F H v w S a b Q k => by
  obtain ⟨h1, h2⟩ := scal_of a b hs
  refine ⟨h1, ?_⟩
  rw [h2]
  exact k _ _ F H S.refl (.bl _) hp
theorem o_ne {x y : Dt} {P : Dt → Prop} (hs : dScal x y = true) (hp : P (.bl (!dEq x y))) : Op2 B rNe es x y P := fun σ F H v w S a b Q k => by
  obtain ⟨h1, h2⟩ := scal_of a b hs
  refine ⟨h1, ?_⟩
  rw [h2]
  exact k _ _ F H S.refl (.bl _) hp
/-- is None -/
def dNon : Dt → Bool
  | .non => true
  | _ => false
theorem non_of {K : PySem.W.Frag} {F : Hp} {v : V} {x : Dt} (a : Rp K F v x) : decide (v = V.non) = dNon x := by
  cases a <;> rfl
theorem o_isN {x : Dt} {P : Dt → Prop} (hp : P (.bl (dNon x))) : Op2 B (fun x y H Q => y = .non ∧ Q (.bl (decide (x = .non))) H) es x .non P := fun σ F H v w S a b Q k => by
  cases b
  refine ⟨rfl, ?_⟩
  rw [non_of a]
  exact k _ _ F H S.refl (.bl _) hp
theorem o_notN {x : Dt} {P : Dt → Prop} (hp : P (.bl (!dNon x))) : Op2 B (fun x y H Q => y = .non ∧ Q (.bl (!decide (x = .non))) H) es x .non P := fun σ F H v w S a b Q k => by
  cases b
  refine ⟨rfl, ?_⟩
  rw [non_of a]
  exact k _ _ F H S.refl (.bl _) hp
/-- x in (a, b, ..): flat things -/
def flatD : Dt → Bool
  | .non => true | .bl _ => true | .int _ => true | .str _ => true
  | _ => false
def eqD : Dt → Dt → Bool
  | .non, .non => true
  | .bl a, .bl b => a == b
  | .bl a, .int b => (if a then 1 else 0) == b
  | .int a, .bl b => a == (if b then 1 else 0)
  | .int a, .int b => a == b
  | .str a, .str b => a == b
  | _, _ => false
def inD (x : Dt) (ys : List Dt) : Bool := ys.any fun y => eqD y x
theorem flat_of {K : PySem.W.Frag} {F : Hp} {v : V} {x : Dt} (a : Rp K F v x) : flatV v = flatD x := by cases a <;> rfl
theorem eq_of {K : PySem.W.Frag} {F : Hp} {v w : V} {x y : Dt} (a : Rp K F v x) (b : Rp K F w y) (hx : flatD x = true) (hy : flatD y = true) : eqV v w = eqD x y := by
  cases a <;> cases b <;> first | rfl | (cases hx; done) | (cases hy; done)
theorem in_of {K : PySem.W.Frag} {F : Hp} {v : V} {x : Dt} (a : Rp K F v x) (hx : flatD x = true) : ∀ {ws : List V} {ys : List Dt}, RpAll K F ws ys → ys.all flatD = true → inV v ws = inD x ys ∧ ws.all flatV = true
  | _, _, .nil, _ => ⟨rfl, rfl⟩
  | _, _, .cons r t, h => by
    simp only [List.all_cons, Bool.and_eq_true] at h
    obtain ⟨h1, h2⟩ := in_of a hx t h.2
    refine ⟨?_, ?_⟩
    · unfold inV inD at *
      rw [List.any_cons, List.any_cons, h1, eq_of r a h.1 hx]
    · rw [List.all_cons, h2, flat_of r, h.1]; rfl
theorem o_inL {x : Dt} {ys : List Dt} {neg : Bool} {P : Dt → Prop} (hx : flatD x = true) (hy : ys.all flatD = true) (hp : P (.bl (if neg then !inD x ys else inD x ys))) : Op2 B (rIn B.K neg) es x (.lst ys) P := fun σ F H v w S a b Q k => by
  cases b with
  | lst hl hr =>
    obtain ⟨h1, h2⟩ := in_of a hx hr hy
    refine ⟨_, _, rfl, .inl (SqL.of (S.sub _ _ hl)), by rw [flat_of a]; exact hx, h2, ?_⟩
    rw [h1]
    exact k _ _ F H S.refl (.bl _) hp
theorem o_inT {x : Dt} {ys : List Dt} {neg : Bool} {P : Dt → Prop} (hx : flatD x = true) (hy : ys.all flatD = true) (hp : P (.bl (if neg then !inD x ys else inD x ys))) : Op2 B (rIn B.K neg) es x (.tup ys) P := fun σ F H v w S a b Q k => by
  cases b with
  | tup hl hr =>
    obtain ⟨h1, h2⟩ := in_of a hx hr hy
    refine ⟨_, _, rfl, .inr (sqT_mono S.sub hl), by rw [flat_of a]; exact hx, h2, ?_⟩
    rw [h1]
    exact k _ _ F H S.refl (.bl _) hp
/-- one sign in a text -/
theorem o_inS {c : Nat} {z : Str} {P : Dt → Prop} (hp : P (.bl (decide (c ∈ z.cps.toList)))) : Op2 B (fun x y H Q => ∃ (c : Nat) (z : Str), x = .str ⟨#[c]⟩ ∧ y = .str z ∧ Q (.bl (decide (c ∈ z.cps.toList))) H) es (.str ⟨#[c]⟩) (.str z) P := fun σ F H v w S a b Q k => by
  cases a; cases b; exact ⟨c, z, rfl, rfl, k _ _ F H S.refl (.bl _) hp⟩
theorem o_niS {c : Nat} {z : Str} {P : Dt → Prop} (hp : P (.bl (!decide (c ∈ z.cps.toList)))) : Op2 B (fun x y H Q => ∃ (c : Nat) (z : Str), x = .str ⟨#[c]⟩ ∧ y = .str z ∧ Q (.bl (!decide (c ∈ z.cps.toList))) H) es (.str ⟨#[c]⟩) (.str z) P := fun σ F H v w S a b Q k => by
  cases a; cases b; exact ⟨c, z, rfl, rfl, k _ _ F H S.refl (.bl _) hp⟩
/-- items -/
theorem o_ixL {xs : List Dt} {i : Int} {x : Dt} {P : Dt → Prop} (hi : atI xs i = some x) (hp : P x) : Op2 B (rIxL B.K) es (.lst xs) (.int i) P := fun σ F H v w S a b Q k => by
  cases b
  cases a with
  | lst hl hr =>
    unfold atI at hi
    cases e : ixN xs.length i with
    | none => rw [e] at hi; cases hi
    | some j =>
      rw [e] at hi
      obtain ⟨u, h1, h2⟩ := hr.get (show xs[j]? = some x from hi)
      refine ⟨_, _, i, u, rfl, rfl, SqL.of (S.sub _ _ hl), ?_, k _ _ F H S.refl h2 hp⟩
      unfold atI
      rw [hr.length, e]
      exact h1
theorem o_ixT {xs : List Dt} {i : Int} {x : Dt} {P : Dt → Prop} (hi : atI xs i = some x) (hp : P x) : Op2 B (rIxT B.K) es (.tup xs) (.int i) P := fun σ F H v w S a b Q k => by
  cases b
  cases a with
  | tup hl hr =>
    unfold atI at hi
    cases e : ixN xs.length i with
    | none => rw [e] at hi; cases hi
    | some j =>
      rw [e] at hi
      obtain ⟨u, h1, h2⟩ := hr.get (show xs[j]? = some x from hi)
      refine ⟨_, _, i, u, rfl, rfl, sqT_mono S.sub hl, ?_, k _ _ F H S.refl h2 hp⟩
      unfold atI
      rw [hr.length, e]
      exact h1
theorem o_ixS {z : Str} {i : Int} {c : Nat} {P : Dt → Prop} (hl : z.length ≤ 100000) (hi : atI z.cps.toList i = some c) (hp : P (.str ⟨#[c]⟩)) : Op2 B rIxS es (.str z) (.int i) P := fun σ F H v w S a b Q k => by
  cases b; cases a; exact ⟨z, i, c, rfl, rfl, size_of hl, hi, k _ _ F H S.refl (.str _) hp⟩
theorem o_ixAL {xs : List Dt} {i : Int} {x : Dt} {P : Dt → Prop} (hi : atI xs i = some x) (hp : P x) : Op2 B (rIx B.K) es (.lst xs) (.int i) P := fun σ F H v w S a b Q k => .inl (o_ixL hi hp σ F H v w S a b Q k)
theorem o_ixAT {xs : List Dt} {i : Int} {x : Dt} {P : Dt → Prop} (hi : atI xs i = some x) (hp : P x) : Op2 B (rIx B.K) es (.tup xs) (.int i) P := fun σ F H v w S a b Q k => .inr (.inl (o_ixT hi hp σ F H v w S a b Q k))
theorem o_ixAS {z : Str} {i : Int} {c : Nat} {P : Dt → Prop} (hl : z.length ≤ 100000) (hi : atI z.cps.toList i = some c) (hp : P (.str ⟨#[c]⟩)) : Op2 B (rIx B.K) es (.str z) (.int i) P := fun σ F H v w S a b Q k => .inr (.inr (o_ixS hl hi hp σ F H v w S a b Q k))
/-- xs + ys; s + t -/
theorem o_catO {r : R2} (hr : r = rCat) {xs ys : List Dt} {σ : St} {F H : Hp} {v w : V} (S : Stt B es σ F H) (a : Rp B.K F v (.lst xs)) (b : Rp B.K F w (.lst ys)) (hl : xs.length + ys.length ≤ 100000) {Q : VK}
    (k : ∀ a vs F' H', Go B F H F' H' → H a = none → F' a = none → H' a = some (.lst vs) → RpAll B.K F' vs (xs ++ ys) → Q (.ref a) H') : r v w H Q := by
  subst hr
  cases a with
  | lst h1 r1 =>
    cases b with
    | lst h2 r2 =>
      refine ⟨_, _, _, _, rfl, rfl, S.sub _ _ h1, S.sub _ _ h2, size_of (by rw [r1.length, r2.length]; exact hl), fun p hp => ?_⟩
      exact k p _ F _ (S.allocO hp) hp (same_none S.sub hp) upd_same (r1.app r2)
theorem o_cat {xs ys : List Dt} {P : Dt → Prop} (hl : xs.length + ys.length ≤ 100000) (hp : P (.lst (xs ++ ys))) : Op2 B rCat es (.lst xs) (.lst ys) P := fun σ F H v w S a b Q k =>
  o_catO rfl S a b hl fun p vs F' H' g h0 h1 h2 r => k _ _ (upd F' p (.lst vs)) H' (g.freeze S h0 h1 h2) (.lst upd_same (r.mono (same_upd h1))) hp
theorem o_catS {x y : Str} {P : Dt → Prop} (hl : x.length + y.length ≤ 100000) (hp : P (.str (x ++ y))) : Op2 B (fun x y H Q => ∃ i j, x = .str i ∧ y = .str j ∧ i.length + j.length ≤ sizeLine ∧ Q (.str (i ++ j)) H) es (.str x) (.str y) P := fun σ F H v w S a b Q k => by
  cases a; cases b; exact ⟨x, y, rfl, rfl, size_of hl, k _ _ F H S.refl (.str _) hp⟩
/-- a one-place operation -/
theorem ev_neg {ta : TE} {P : Dt → Prop} (h : Ev B ta es fun x => ∃ i, x = .int i ∧ P (.int (-i))) : Ev B (tUn (rU fun i => .int (-i)) ta) es P := fun σ F H S Q q =>
  h σ F H S _ fun v x F1 H1 g1 r1 ⟨i, e, p1⟩ => by
    subst e
    cases r1
    exact ⟨i, rfl, q _ _ F1 H1 g1 (.int _) p1⟩

/-! ### tests -/
theorem et_B {te : TE} {P : Bool → Prop} (h : Ev B te es fun d => ∃ b, d = .bl b ∧ P b) : EvT B (tB te) es P := fun σ F H S Q q =>
  h σ F H S _ fun v x F1 H1 g1 r1 ⟨b, e, p1⟩ => by subst e; cases r1; exact ⟨b, rfl, q b F1 H1 g1 p1⟩
theorem et_test {te : TE} {P : Bool → Prop} (h : Ev B te es fun d => ∃ b, d = .bl b ∧ P b) : EvT B (tTest te) es P := fun σ F H S Q q =>
  h σ F H S _ fun v x F1 H1 g1 r1 ⟨b, e, p1⟩ => by subst e; cases r1; exact ⟨b, rfl, q b F1 H1 g1 p1⟩
theorem et_not {t : TT} {P : Bool → Prop} (h : EvT B t es fun b => P (!b)) : EvT B (tNot t) es P := fun σ F H S Q q => h σ F H S _ fun b F1 H1 g1 p1 => q _ F1 H1 g1 p1
theorem et_and {t u : TT} {P : Bool → Prop} (h : EvT B t es fun b => (b = true → EvT B u es P) ∧ (b = false → P false)) : EvT B (tAnd t u) es P := fun σ F H S Q q => h σ F H S _ fun b F1 H1 g1 p1 => by
  cases b with
  | true =>
    show u σ H1 Q
    exact p1.1 rfl σ F1 H1 (S.go g1) Q fun c F2 H2 g2 p2 => q c F2 H2 (g1.trans g2) p2
  | false =>
    show Q false H1
    exact q false F1 H1 g1 (p1.2 rfl)
theorem et_or {t u : TT} {P : Bool → Prop} (h : EvT B t es fun b => (b = true → P true) ∧ (b = false → EvT B u es P)) : EvT B (tOr t u) es P := fun σ F H S Q q => h σ F H S _ fun b F1 H1 g1 p1 => by
  cases b with
  | false =>
    show u σ H1 Q
    exact p1.2 rfl σ F1 H1 (S.go g1) Q fun c F2 H2 g2 p2 => q c F2 H2 (g1.trans g2) p2
  | true =>
    show Q true H1
    exact q true F1 H1 g1 (p1.1 rfl)
theorem ev_and {ta tb : TE} {P : Dt → Prop} (h : Ev B ta es fun d => ∃ b, d = .bl b ∧ (b = true → Ev B tb es P) ∧ (b = false → P (.bl false))) : Ev B (tAndV ta tb) es P := fun σ F H S Q q => h σ F H S _ fun v d F1 H1 g1 r1 ⟨b, e, p1⟩ => by
  subst e
  cases r1
  refine ⟨b, rfl, ?_⟩
  cases b with
  | true =>
    show tb σ H1 Q
    exact p1.1 rfl σ F1 H1 (S.go g1) Q fun w c F2 H2 g2 r2 p2 => q w c F2 H2 (g1.trans g2) r2 p2
  | false =>
    show Q (.bl false) H1
    exact q _ _ F1 H1 g1 (.bl false) (p1.2 rfl)
theorem ev_or {ta tb : TE} {P : Dt → Prop} (h : Ev B ta es fun d => ∃ b, d = .bl b ∧ (b = true → P (.bl true)) ∧ (b = false → Ev B tb es P)) : Ev B (tOrV ta tb) es P := fun σ F H S Q q => h σ F H S _ fun v d F1 H1 g1 r1 ⟨b, e, p1⟩ => by
  subst e
  cases r1
  refine ⟨b, rfl, ?_⟩
  cases b with
  | false =>
    show tb σ H1 Q
    exact p1.2 rfl σ F1 H1 (S.go g1) Q fun w c F2 H2 g2 r2 p2 => q w c F2 H2 (g1.trans g2) r2 p2
  | true =>
    show Q (.bl true) H1
    exact q _ _ F1 H1 g1 (.bl true) (p1.1 rfl)
theorem ev_not {ta : TE} {P : Dt → Prop} (h : Ev B ta es fun d => ∃ b, d = .bl b ∧ P (.bl (!b))) : Ev B (tNotV ta) es P := fun σ F H S Q q => h σ F H S _ fun v d F1 H1 g1 r1 ⟨b, e, p1⟩ => by
  subst e; cases r1; exact ⟨b, rfl, q _ _ F1 H1 g1 (.bl _) p1⟩
theorem ev_if {t : TT} {ta tb : TE} {P : Dt → Prop} (h : EvT B t es fun b => (b = true → Ev B ta es P) ∧ (b = false → Ev B tb es P)) : Ev B (tIf t ta tb) es P := fun σ F H S Q q => h σ F H S _ fun b F1 H1 g1 p1 => by
  cases b with
  | true =>
    show ta σ H1 Q
    exact p1.1 rfl σ F1 H1 (S.go g1) Q fun w c F2 H2 g2 r2 p2 => q w c F2 H2 (g1.trans g2) r2 p2
  | false =>
    show tb σ H1 Q
    exact p1.2 rfl σ F1 H1 (S.go g1) Q fun w c F2 H2 g2 r2 p2 => q w c F2 H2 (g1.trans g2) r2 p2
theorem ev_chain {r r' : R2} {ta tb tc : TE} {P : Dt → Prop} (h : Ev B ta es fun x => Ev B tb es fun y => Op2 B r es x y fun z => ∃ k, z = .bl k ∧ (k = true → Ev B tc es fun w => Op2 B r' es y w P) ∧ (k = false → P (.bl false))) : Ev B (tChain r r' ta tb tc) es P := fun σ F H S Q q =>
  h σ F H S _ fun v x F1 H1 g1 r1 p1 => p1 σ F1 H1 (S.go g1) _ fun w y F2 H2 g2 r2 p2 => p2 σ F2 H2 v w ((S.go g1).go g2) (r1.mono g2.s1) r2 _ fun u z F3 H3 g3 r3 ⟨b, e, p3⟩ => by
    subst e
    cases r3
    refine ⟨b, rfl, ?_⟩
    have S3 := ((S.go g1).go g2).go g3
    cases b with
    | true =>
      show tc σ H3 _
      exact p3.1 rfl σ F3 H3 S3 _ fun a d F4 H4 g4 r4 p4 => p4 σ F4 H4 w a (S3.go g4) (r2.mono (g3.s1.trans g4.s1)) r4 Q fun b' d' F5 H5 g5 r5 p5 => q b' d' F5 H5 ((((g1.trans g2).trans g3).trans g4).trans g5) r5 p5
    | false =>
      show Q (.bl false) H3
      exact q _ _ F3 H3 ((g1.trans g2).trans g3) (.bl false) (p3.2 rfl)

/-! ### calls of built-ins -/
def Cal (B : Bs) (r : List V → Hp → VK → Prop) (es : List Sl) (ds : List Dt) (P : Dt → Prop) : Prop := ∀ σ F H vs, Stt B es σ F H → RpAll B.K F vs ds → ∀ Q : VK,
  (∀ v d F' H', Go B F H F' H' → Rp B.K F' v d → P d → Q v H') → r vs H Q
theorem ev_cb {r : List V → Hp → VK → Prop} {ta : TA} {P : Dt → Prop} (h : EvA B ta es fun ds => Cal B r es ds P) : Ev B (tCB r ta) es P := fun σ F H S Q q =>
  h σ F H S _ fun vs ds F1 H1 g1 r1 p1 => p1 σ F1 H1 vs (S.go g1) r1 Q fun v d F2 H2 g2 r2 p2 => q v d F2 H2 (g1.trans g2) r2 p2
theorem c_altL {r q : List V → Hp → VK → Prop} {ds : List Dt} {P : Dt → Prop} (h : Cal B r es ds P) : Cal B (cAlt r q) es ds P := fun σ F H vs S a Q k => .inl (h σ F H vs S a Q k)
theorem c_altR {r q : List V → Hp → VK → Prop} {ds : List Dt} {P : Dt → Prop} (h : Cal B q es ds P) : Cal B (cAlt r q) es ds P := fun σ F H vs S a Q k => .inr (h σ F H vs S a Q k)
theorem rp1 {K : PySem.W.Frag} {F : Hp} {vs : List V} {d : Dt} (h : RpAll K F vs [d]) : ∃ v, vs = [v] ∧ Rp K F v d := by
  cases h with
  | cons r t => cases t; exact ⟨_, rfl, r⟩
theorem rp2 {K : PySem.W.Frag} {F : Hp} {vs : List V} {d e : Dt} (h : RpAll K F vs [d, e]) : ∃ v w, vs = [v, w] ∧ Rp K F v d ∧ Rp K F w e := by
  cases h with
  | cons r t =>
    obtain ⟨w, rfl, q⟩ := rp1 t
    exact ⟨_, _, rfl, r, q⟩
/-- len -/
def lenD : Dt → Option Nat
  | .str z => if z.length ≤ 100000 then some z.length else none
  | .lst xs => some xs.length
  | .tup xs => some xs.length
  | _ => none
def rLenA (K : PySem.W.Frag) : List V → Hp → VK → Prop := fun xs H Q => ∃ x n, xs = [x] ∧ LenV K x H n ∧ Q (.int n) H
theorem c_len {x : Dt} {n : Nat} {P : Dt → Prop} (hn : lenD x = some n) (hp : P (.int n)) : Cal B (rLenA B.K) es [x] P := fun σ F H vs S a Q k => by
  obtain ⟨v, rfl, r⟩ := rp1 a
  refine ⟨v, n, rfl, ?_, k _ _ F H S.refl (.int _) hp⟩
  cases r with
  | str z =>
    have hn' : (if z.length ≤ 100000 then some z.length else none) = some n := hn
    split at hn'
    · cases hn'; exact ⟨size_of (by assumption), rfl⟩
    · cases hn'
  | lst h1 h2 => cases hn; exact .inl ⟨_, SqL.of (S.sub _ _ h1), h2.length.symm⟩
  | tup h1 h2 => cases hn; exact .inr ⟨_, sqT_mono S.sub h1, h2.length.symm⟩
  | _ => cases hn
theorem c_int {i : Int} {P : Dt → Prop} (hp : P (.int i)) : Cal B (fun xs H Q => (∃ i, xs = [.int i] ∧ Q (.int i) H) ∨ ∃ k, xs = [.bl k] ∧ Q (.int (if k then 1 else 0)) H) es [.int i] P := fun σ F H vs S a Q k => by
  obtain ⟨v, rfl, r⟩ := rp1 a
  cases r
  exact .inl ⟨i, rfl, k _ _ F H S.refl (.int _) hp⟩
theorem c_intB {b : Bool} {P : Dt → Prop} (hp : P (.int (if b then 1 else 0))) : Cal B (fun xs H Q => (∃ i, xs = [.int i] ∧ Q (.int i) H) ∨ ∃ k, xs = [.bl k] ∧ Q (.int (if k then 1 else 0)) H) es [.bl b] P := fun σ F H vs S a Q k => by
  obtain ⟨v, rfl, r⟩ := rp1 a
  cases r
  exact .inr ⟨b, rfl, k _ _ F H S.refl (.int _) hp⟩
theorem c_abs {i : Int} {P : Dt → Prop} (hp : P (.int (if i < 0 then -i else i))) : Cal B (fun xs H Q => ∃ i, xs = [.int i] ∧ Q (.int (if i < 0 then -i else i)) H) es [.int i] P := fun σ F H vs S a Q k => by
  obtain ⟨v, rfl, r⟩ := rp1 a
  cases r
  exact ⟨i, rfl, k _ _ F H S.refl (.int _) hp⟩
theorem c_all {bs : List Bool} {P : Dt → Prop} (hp : P (.bl (bs.all id))) : Cal B (rAll B.K) es [.lst (bs.map Dt.bl)] P := fun σ F H vs S a Q k => by
  obtain ⟨v, rfl, r⟩ := rp1 a
  cases r with
  | lst h1 h2 =>
    have e := h2.bls
    subst e
    exact ⟨_, bs, rfl, SqL.of (S.sub _ _ h1), k _ _ F H S.refl (.bl _) hp⟩
/-- isinstance(x, T) -/
def dTy : Dt → String
  | .non => "NoneType" | .bl _ => "bool" | .int _ => "int" | .str _ => "str" | .lst _ => "list" | .tup _ => "tuple"
  | .dct _ _ => "dict"
  | .obj _ _ _ => ""
  | .ali _ => ""
def plainD : Dt → Bool
  | .obj _ _ _ => false
  | .ali _ => false
  | _ => true
theorem ty_of {K : PySem.W.Frag} {F H : Hp} {v : V} {x : Dt} (a : Rp K F v x) (s : Same F H) (h : plainD x = true) : TyX K H v (.type (dTy x)) := by
  cases a with
  | non => exact .base .non
  | bl b => exact .base (.bl b)
  | int i => exact .base (.int i)
  | str z => exact .base (.str z)
  | lst h1 _ => exact .base (.lst (s _ _ h1))
  | tup h1 _ =>
    rcases h1 with (h1 | ⟨o, h1⟩) | ⟨o, its, n, k1, k2, k3⟩
    · exact .base (.tup (s _ _ h1))
    · exact .fTuple (s _ _ h1)
    · exact .kTuple k1 k2
  | dct h1 _ _ _ => exact .base (.dK (s _ _ h1))
  | obj _ _ _ _ => cases h
  | ali _ => cases h
def isiD (T : String) : Dt → Option Bool
  | .obj _ _ _ => none
  | .ali _ => none
  | x => kitB (dTy x) T
theorem ev_isi {te : TE} {T : String} {P : Dt → Prop} (h : Ev B te es fun d => ∃ b, isiD T d = some b ∧ P (.bl b)) : Ev B (tCB (rIsi B.K) (tCons te (tCons (tC (.ty T)) tNil))) es P := fun σ F H S Q q =>
  h σ F H S _ fun v x F1 H1 g1 r1 ⟨b, e, p1⟩ => by
    have hx : plainD x = true := by cases x <;> first | rfl | (cases e; done)
    have hk : kitB (dTy x) T = some b := by cases x <;> first | exact e | (cases hx; done)
    exact ⟨v, .ty T, _, _, b, rfl, .ty T, ty_of r1 g1.s2 hx, kit_ty hk, q _ _ F1 H1 g1 (.bl b) p1⟩
def anyIsi (x : String) : List String → Option Bool
  | [] => some false
  | T :: Ts => match kitB x T with
    | some true => some true
    | some false => anyIsi x Ts
    | none => none
theorem kitAny_of {K : PySem.W.Frag} {x : String} : ∀ {Ts : List String} {b : Bool}, anyIsi x Ts = some b → PySem.W.kitAny K (.type x) (Ts.map Value.type) = some b
  | [], b, h => by cases h; rfl
  | T :: Ts, b, h => by
    unfold anyIsi at h
    cases e : kitB x T with
    | none => rw [e] at h; cases h
    | some c =>
      rw [e] at h
      cases c with
      | true => cases h; exact kitAny_cons (kit_ty e) (fun z => nomatch z) fun _ => rfl
      | false => exact kitAny_cons (kit_ty e) (fun _ => kitAny_of h) fun z => nomatch z
def isiDs (Ts : List String) : Dt → Option Bool
  | .obj _ _ _ => none
  | .ali _ => none
  | x => anyIsi (dTy x) Ts
/-- isinstance(x, (T, U)) -/
theorem ev_isi2 {te : TE} {T U : String} {P : Dt → Prop} (h : Ev B te es fun d => ∃ b, isiDs [T, U] d = some b ∧ P (.bl b)) : Ev B (tCB (rIsiT B.K) (tCons te (tCons (tTup (tCons (tC (.ty T)) (tCons (tC (.ty U)) tNil))) tNil))) es P := fun σ F H S Q q =>
  h σ F H S _ fun v x F1 H1 g1 r1 ⟨b, e, p1⟩ => by
    have S1 := S.go g1
    have hx : plainD x = true := by cases x <;> first | rfl | (cases e; done)
    have hk : anyIsi (dTy x) [T, U] = some b := by cases x <;> first | exact e | (cases hx; done)
    refine ⟨by show 2 ≤ sizeLine; decide, fun p hp => ?_⟩
    have g2 := S1.allocO (o := .tup [.ty T, .ty U]) hp
    exact ⟨v, p, [.ty T, .ty U], _, [.type T, .type U], b, rfl, upd_same, .cons (.ty T) (.cons (.ty U) .nil), ty_of r1 (g1.s2.trans (same_upd hp)) hx, kitAny_of hk, q _ _ F1 _ (g1.trans g2) (.bl b) p1⟩

/-! ### calls of defs -/
/-- the promise of a def over data: Pre of the arguments, Post of arguments and result -/
def spD (K : PySem.W.Frag) (Pre : List Dt → Prop) (Post : List Dt → Dt → Prop) : Sp := fun vs H Q _ => ∃ F ds, Same F H ∧ RpAll K F vs ds ∧ Pre ds ∧
  ∀ v d F' H', Same F F' → (∀ c, H c ≠ none → F c = none → F' c = none) → Same F' H' → Same H H' → Rp K F' v d → Post ds d → Q v H'
theorem ev_call {Pre : List Dt → Prop} {Post : List Dt → Dt → Prop} {E : XK} {ta : TA} {P : Dt → Prop} (h : EvA B ta es fun ds => Pre ds ∧ ∀ d, Post ds d → P d) : Ev B (tCall (spD B.K Pre Post) [] E ta) es P := fun σ F H S Q q =>
  h σ F H S _ fun vs ds F1 H1 g1 r1 ⟨p1, p2⟩ => by
    rw [List.append_nil]
    exact ⟨F1, ds, g1.s2, r1, p1, fun v d F2 H2 s1 s2 s3 s4 r2 p3 => q v d F2 H2 (g1.trans ((S.go g1).pure s1 s3 s2 s4)) r2 (p2 d p3)⟩
/-- the same with defaults behind -/
theorem ev_callD {Pre : List Dt → Prop} {Post : List Dt → Dt → Prop} {E : XK} {ta : TA} {P : Dt → Prop} {dvs : List V} {dds : List Dt} (hd : ∀ F, RpAll B.K F dvs dds) (h : EvA B ta es fun ds => Pre (ds ++ dds) ∧ ∀ d, Post (ds ++ dds) d → P d) : Ev B (tCall (spD B.K Pre Post) dvs E ta) es P := fun σ F H S Q q =>
  h σ F H S _ fun vs ds F1 H1 g1 r1 ⟨p1, p2⟩ => ⟨F1, ds ++ dds, g1.s2, r1.app (hd F1), p1, fun v d F2 H2 s1 s2 s3 s4 r2 p3 => q v d F2 H2 (g1.trans ((S.go g1).pure s1 s3 s2 s4)) r2 (p2 d p3)⟩
/-- f(k = v, ..) -/
theorem ev_callN {Pre : List Dt → Prop} {Post : List Dt → Dt → Prop} {E : XK} {ta tk : TA} {P : Dt → Prop} {n m : Nat} {gV : List V → List V → List V} {gD : List Dt → List Dt → List Dt}
    (hg : ∀ F vs ds zs as, RpAll B.K F vs ds → RpAll B.K F zs as → RpAll B.K F (gV vs zs) (gD ds as))
    (h : EvA B ta es fun ds => EvA B tk es fun as => ds.length = n ∧ as.length = m ∧ Pre (gD ds as) ∧ ∀ d, Post (gD ds as) d → P d) : Ev B (tCallN n m (spD B.K Pre Post) gV E ta tk) es P := fun σ F H S Q q =>
  h σ F H S _ fun vs ds F1 H1 g1 r1 p0 => p0 σ F1 H1 (S.go g1) _ fun zs as F2 H2 g2 r2 ⟨l1, l2, p1, p2⟩ => by
    have g := g1.trans g2
    exact ⟨by rw [r1.length]; exact l1, by rw [r2.length]; exact l2, F2, gD ds as, g2.s2, hg F2 _ _ _ _ (r1.mono g2.s1) r2, p1, fun v d F3 H3 s1 s2 s3 s4 r3 p3 => q v d F3 H3 (g.trans ((S.go g).pure s1 s3 s2 s4)) r3 (p2 d p3)⟩
/-- a def that draws: the drawing's list first -/
def spB (K : PySem.W.Frag) (Pre : List Dt → Prop) (Post : List Dt → Dt → Prop) : Sp := fun vs H Q _ => ∃ b ws F ds, vs = .ref b :: ws ∧ Same F H ∧ BagAt K F H b ∧ RpAll K F ws ds ∧ Pre ds ∧
  ∀ v d F' H', Same F F' → (∀ c, H c ≠ none → F c = none → F' c = none) → Same F' H' → (∀ c o, c ≠ b → H c = some o → H' c = some o) → BagAt K F' H' b → Rp K F' v d → Post ds d → Q v H'
theorem ev_callB {Pre : List Dt → Prop} {Post : List Dt → Dt → Prop} {E : XK} {ta : TA} {P : Dt → Prop} {i : Nat} {b : Addr} (hb : B.bag = some b) (hi : es[i]? = some (.r (.ref b))) (h : EvA B ta es fun ds => Pre ds ∧ ∀ d, Post ds d → P d) :
    Ev B (tCall (spB B.K Pre Post) [] E (tCons (tVar i) ta)) es P := fun σ F H S Q q => ⟨_, S.raw hi, h σ F H S _ fun vs ds F1 H1 g1 r1 ⟨p1, p2⟩ => by
    show spB B.K Pre Post ((V.ref b :: vs) ++ []) H1 Q E
    rw [List.append_nil]
    refine ⟨b, vs, F1, ds, rfl, g1.s2, g1.bg b hb, r1, p1, fun v d F2 H2 s1 s2 s3 s4 s5 r2 p3 => q v d F2 H2 (g1.trans ⟨s1, s3, s2, fun c o hc ho => s4 c o (fun e => hc.1 (by rw [e]; exact hb)) ho, fun b' hb' => ?_, fun q hq => ?_⟩) r2 (p2 d p3)⟩
    · rw [hb] at hb'
      cases hb'
      exact s5
    · have S1 := S.go g1
      refine tabS_kept (S1.tb q hq) fun c o ho hn => s4 c o (fun e => ?_) ho
      obtain ⟨_, vs, _, k, _⟩ := S1.bg b hb
      rw [e, k] at ho
      cases ho
      exact hn⟩
end
end Y
/-! Y3: statements, loops, comprehensions, the promise of a def. -/
namespace Y
open PySem L2

structure Po where
  nx : List Sl → Prop
  bk : List Sl → Prop
  ct : List Sl → Prop
  rt : List Sl → Dt → Prop
  ro : List Dt → Prop := fun _ => False
def Sm (B : Bs) (t : TS) (es : List Sl) (p : Po) : Prop := ∀ σ F H (D : Ends), Stt B es σ F H →
  (∀ es' σ' F' H', Stt B es' σ' F' H' → Same F F' → p.nx es' → D.nx σ' H') →
  (∀ es' σ' F' H', Stt B es' σ' F' H' → Same F F' → p.bk es' → D.bk σ' H') →
  (∀ es' σ' F' H', Stt B es' σ' F' H' → Same F F' → p.ct es' → D.ct σ' H') →
  (∀ v d es' σ' F' H', Stt B es' σ' F' H' → Same F F' → Rp B.K F' v d → p.rt es' d → D.rt v H') →
  (∀ a vs xs es' σ' F' H', Stt B es' σ' F' H' → Same F F' → F' a = none → H' a = some (.lst vs) → RpAll B.K F' vs xs → B.H0 a = none → B.off a → p.ro xs → D.rt (.ref a) H') → t D σ H

section
variable {B : Bs} {es : List Sl} {p : Po}
theorem Stt.set {σ : St} {F H : Hp} {i : Nat} {e : Sl} {o : Option V} (S : Stt B es σ F H) (h : SlOk B.K F H o e) (hw : ∀ a xs, e = .own a xs → B.H0 a = none ∧ B.off a ∧ ∀ (j : Nat) c ys, es[j]? = some (.own c ys) → c ≠ a) (hob : ∀ a C dx ns xs bs, e ≠ .ob a C dx ns xs bs := by intro a C dx ns xs bs z; cases z) : Stt B (es.set i e) (σ.set i o) F H where
  sub := S.sub
  s0 := S.s0
  ou := S.ou
  fr := S.fr
  bg := S.bg
  tb := S.tb
  tn := S.tn
  len := by rw [List.length_set, List.length_set]; exact S.len
  ok := fun j e' o' h1 h2 => by
    by_cases hj : i = j
    · subst hj
      have l1 : i < es.length := by
        have := (List.getElem?_eq_some_iff.mp h1).1
        rwa [List.length_set] at this
      rw [List.getElem?_set_self l1] at h1
      rw [List.getElem?_set_self (by rw [S.len]; exact l1)] at h2
      cases h1; cases h2; exact h
    · rw [List.getElem?_set_ne hj] at h1 h2
      exact S.ok j e' o' h1 h2
  ow := fun j a xs h1 => by
    by_cases hj : i = j
    · subst hj
      have l1 : i < es.length := by
        have := (List.getElem?_eq_some_iff.mp h1).1
        rwa [List.length_set] at this
      rw [List.getElem?_set_self l1] at h1
      cases h1
      obtain ⟨k1, k2, _⟩ := hw a xs rfl
      exact ⟨k1, k2⟩
    · rw [List.getElem?_set_ne hj] at h1
      exact S.ow j a xs h1
  dis := fun j l a b xs ys hjl h1 h2 => by
    by_cases hj : i = j
    · subst hj
      have l1 : i < es.length := by
        have := (List.getElem?_eq_some_iff.mp h1).1
        rwa [List.length_set] at this
      rw [List.getElem?_set_self l1] at h1
      rw [List.getElem?_set_ne hjl] at h2
      cases h1
      exact ((hw a xs rfl).2.2 l b ys h2).symm
    · rw [List.getElem?_set_ne hj] at h1
      by_cases hl : i = l
      · subst hl
        have l1 : i < es.length := by
          have := (List.getElem?_eq_some_iff.mp h2).1
          rwa [List.length_set] at this
        rw [List.getElem?_set_self l1] at h2
        cases h2
        exact (hw b ys rfl).2.2 j a xs h1
      · rw [List.getElem?_set_ne hl] at h2
        exact S.dis j l a b xs ys hjl h1 h2
  obw := fun j a C dx ns xs bs h1 => by
    by_cases hj : i = j
    · subst hj
      have l1 : i < es.length := by
        have := (List.getElem?_eq_some_iff.mp h1).1
        rwa [List.length_set] at this
      rw [List.getElem?_set_self l1] at h1
      cases h1
      exact absurd rfl (hob a C dx ns xs bs)
    · rw [List.getElem?_set_ne hj] at h1
      exact S.obw j a C dx ns xs bs h1
theorem Stt.setD {σ : St} {F H : Hp} {i : Nat} {v : V} {x : Dt} (S : Stt B es σ F H) (r : Rp B.K F v x) : Stt B (es.set i (.d x)) (σ.set i (some v)) F H := S.set ⟨v, rfl, r⟩ fun _ _ e => nomatch e
theorem Stt.setO {σ : St} {F H : Hp} {i : Nat} {a : Addr} {vs : List V} {xs : List Dt} (S : Stt B es σ F H) (h1 : F a = none) (h2 : H a = some (.lst vs)) (r : RpAll B.K F vs xs) (h3 : B.H0 a = none) (h4 : B.off a) (h5 : ∀ (j : Nat) c ys, es[j]? = some (.own c ys) → c ≠ a) :
    Stt B (es.set i (.own a xs)) (σ.set i (some (.ref a))) F H := S.set ⟨vs, rfl, h1, h2, r⟩ fun _ _ e => by cases e; exact ⟨h3, h4, h5⟩

theorem sm_seq {t u : TS} (h : Sm B t es { p with nx := fun es' => Sm B u es' p }) : Sm B (tSeq t u) es p := fun σ F H D S n b c r ro =>
  h σ F H { D with nx := u D } S (fun es' σ' F' H' S' s' q => q σ' F' H' D S' (fun e2 a2 F2 H2 S2 s2 q2 => n e2 a2 F2 H2 S2 (s'.trans s2) q2) (fun e2 a2 F2 H2 S2 s2 q2 => b e2 a2 F2 H2 S2 (s'.trans s2) q2)
    (fun e2 a2 F2 H2 S2 s2 q2 => c e2 a2 F2 H2 S2 (s'.trans s2) q2) (fun v d e2 a2 F2 H2 S2 s2 q2 => r v d e2 a2 F2 H2 S2 (s'.trans s2) q2) (fun a vs xs e2 a2 F2 H2 S2 s2 => ro a vs xs e2 a2 F2 H2 S2 (s'.trans s2))) b c r ro
theorem sm_next (h : p.nx es) : Sm B tNext es p := fun σ F H D S n _ _ _ _ => n es σ F H S (Same.refl F) h
theorem sm_brk (h : p.bk es) : Sm B tBreak es p := fun σ F H D S _ n _ _ _ => n es σ F H S (Same.refl F) h
theorem sm_cont (h : p.ct es) : Sm B tCont es p := fun σ F H D S _ _ n _ _ => n es σ F H S (Same.refl F) h
theorem sm_imp {t : TS} {p' : Po} (h : Sm B t es p') (h1 : ∀ e, p'.nx e → p.nx e) (h2 : ∀ e, p'.bk e → p.bk e) (h3 : ∀ e, p'.ct e → p.ct e) (h4 : ∀ e d, p'.rt e d → p.rt e d) (h5 : ∀ d, p'.ro d → p.ro d) : Sm B t es p := fun σ F H D S n b c r ro =>
  h σ F H D S (fun e a F' H' S' s q => n e a F' H' S' s (h1 e q)) (fun e a F' H' S' s q => b e a F' H' S' s (h2 e q)) (fun e a F' H' S' s q => c e a F' H' S' s (h3 e q)) (fun v d e a F' H' S' s q z => r v d e a F' H' S' s q (h4 e d z)) fun a vs xs e2 a2 F2 H2 S2 s2 k1 k2 k3 k4 k5 z => ro a vs xs e2 a2 F2 H2 S2 s2 k1 k2 k3 k4 k5 (h5 xs z)
theorem sm_retO {te : TE} (h : EvO B te es p.ro) : Sm B (tRet te) es p := fun σ F H D S _ _ _ _ ro => h σ F H S _ fun a vs xs F1 H1 g1 h0 h1 h2 r1 p1 => ro a vs xs es σ F1 H1 (S.go g1) g1.s1 h1 h2 r1 (S.new0 h0) (S.newB h0) p1
theorem sm_ret {te : TE} (h : Ev B te es (p.rt es)) : Sm B (tRet te) es p := fun σ F H D S _ _ _ r _ => h σ F H S _ fun v d F1 H1 g1 r1 p1 => r v d es σ F1 H1 (S.go g1) g1.s1 r1 p1
theorem sm_if {tc : TT} {t u : TS} (h : EvT B tc es fun b => (b = true → Sm B t es p) ∧ (b = false → Sm B u es p)) : Sm B (tIfS tc t u) es p := fun σ F H D S n b c r ro => h σ F H S _ fun k F1 H1 g1 p1 => by
  have S1 := S.go g1
  cases k with
  | true =>
    show t D σ H1
    exact p1.1 rfl σ F1 H1 D S1 (fun e2 a2 F2 H2 S2 s2 q2 => n e2 a2 F2 H2 S2 (g1.s1.trans s2) q2) (fun e2 a2 F2 H2 S2 s2 q2 => b e2 a2 F2 H2 S2 (g1.s1.trans s2) q2)
      (fun e2 a2 F2 H2 S2 s2 q2 => c e2 a2 F2 H2 S2 (g1.s1.trans s2) q2) (fun v d e2 a2 F2 H2 S2 s2 q2 => r v d e2 a2 F2 H2 S2 (g1.s1.trans s2) q2) (fun a vs xs e2 a2 F2 H2 S2 s2 => ro a vs xs e2 a2 F2 H2 S2 (g1.s1.trans s2))
  | false =>
    show u D σ H1
    exact p1.2 rfl σ F1 H1 D S1 (fun e2 a2 F2 H2 S2 s2 q2 => n e2 a2 F2 H2 S2 (g1.s1.trans s2) q2) (fun e2 a2 F2 H2 S2 s2 q2 => b e2 a2 F2 H2 S2 (g1.s1.trans s2) q2)
      (fun e2 a2 F2 H2 S2 s2 q2 => c e2 a2 F2 H2 S2 (g1.s1.trans s2) q2) (fun v d e2 a2 F2 H2 S2 s2 q2 => r v d e2 a2 F2 H2 S2 (g1.s1.trans s2) q2) (fun a vs xs e2 a2 F2 H2 S2 s2 => ro a vs xs e2 a2 F2 H2 S2 (g1.s1.trans s2))
theorem sm_drop {te : TE} (h : Ev B te es fun _ => p.nx es) : Sm B (tDrop te) es p := fun σ F H D S n _ _ _ _ => h σ F H S _ fun v d F1 H1 g1 r1 p1 => n es σ F1 H1 (S.go g1) g1.s1 p1
/-! ### targets -/
def Tg (B : Bs) (g : TG) (es : List Sl) (x : Dt) (P : List Sl → Prop) : Prop := ∀ σ F H v, Stt B es σ F H → Rp B.K F v x → ∀ Q : St → Hp → Prop, (∀ es' σ' F' H', Stt B es' σ' F' H' → Same F F' → P es' → Q σ' H') → g v σ H Q
def Tgs (B : Bs) (g : TGs) (es : List Sl) (xs : List Dt) (P : List Sl → Prop) : Prop := ∀ σ F H vs, Stt B es σ F H → RpAll B.K F vs xs → ∀ Q : St → Hp → Prop, (∀ es' σ' F' H', Stt B es' σ' F' H' → Same F F' → P es' → Q σ' H') → g vs σ H Q
theorem tg_name {i : Nat} {x : Dt} {P : List Sl → Prop} (h : P (es.set i (.d x))) : Tg B (gName i) es x P := fun σ F H v S r Q q => q _ _ F H (S.setD r) (Same.refl F) h
theorem tgs_nil {P : List Sl → Prop} (h : P es) : Tgs B gNil es [] P := fun σ F H vs S r Q q => by
  cases r
  exact ⟨rfl, q es σ F H S (Same.refl F) h⟩
theorem tgs_cons {t : TG} {u : TGs} {x : Dt} {xs : List Dt} {P : List Sl → Prop} (h : Tg B t es x fun es' => Tgs B u es' xs P) : Tgs B (gCons t u) es (x :: xs) P := fun σ F H vs S r Q q => by
  cases r with
  | cons r1 r2 =>
    exact ⟨_, _, rfl, h σ F H _ S r1 _ fun es' σ' F' H' S' s' p1 => p1 σ' F' H' _ S' (r2.mono s') Q fun e2 a2 F2 H2 S2 s2 p2 => q e2 a2 F2 H2 S2 (s'.trans s2) p2⟩
theorem tg_tup {n : Nat} {t : TGs} {xs : List Dt} {P : List Sl → Prop} (hn : xs.length = n) (h : Tgs B t es xs P) : Tg B (gTup B.K n t) es (.tup xs) P := fun σ F H v S r Q q => by
  cases r with
  | tup h1 h2 => exact ⟨_, _, rfl, sqT_mono S.sub h1, by rw [h2.length]; exact hn, h σ F H _ S h2 Q q⟩
theorem sm_asg {te : TE} {g : TG} (h : Ev B te es fun d => Tg B g es d p.nx) : Sm B (tAsg te g) es p := fun σ F H D S n _ _ _ _ => h σ F H S _ fun v d F1 H1 g1 r1 p1 => p1 σ F1 H1 v (S.go g1) r1 _ fun e2 a2 F2 H2 S2 s2 q2 => n e2 a2 F2 H2 S2 (g1.s1.trans s2) q2
theorem sm_set {te : TE} {i : Nat} (h : Ev B te es fun d => p.nx (es.set i (.d d))) : Sm B (tAsg te (gName i)) es p := sm_asg (h.imp fun d q => tg_name q)
theorem sm_setO {te : TE} {i : Nat} (h : EvO B te es fun xs => ∀ a, p.nx (es.set i (.own a xs))) : Sm B (tAsg te (gName i)) es p := fun σ F H D S n _ _ _ _ => h σ F H S _ fun a vs xs F1 H1 g1 h0 h1 h2 r1 p1 => by
  have S1 := S.go g1
  exact n _ _ F1 H1 (S1.setO h1 h2 r1 (S.new0 h0) (S.newB h0) fun j c ys hj => S.newS h0 j ys hj) g1.s1 (p1 a)
theorem sm_par {i j : Nat} {ta : TA} (h : EvA B ta es fun ds => ∃ x y, ds = [x, y] ∧ p.nx ((es.set i (.d x)).set j (.d y))) : Sm B (tPar i j ta) es p := fun σ F H D S n _ _ _ _ => h σ F H S _ fun vs ds F1 H1 g1 r1 ⟨x, y, e, p1⟩ => by
  subst e
  obtain ⟨v, w, rfl, a, b⟩ := rp2 r1
  exact ⟨v, w, rfl, n _ _ F1 H1 (((S.go g1).setD a).setD b) g1.s1 p1⟩
theorem sm_aug {i : Nat} {te : TE} {f : Int → Int → Int} {a : Int} (hi : es[i]? = some (.d (.int a))) (h : Ev B te es fun d => ∃ b, d = .int b ∧ p.nx (es.set i (.d (.int (f a b))))) : Sm B (tAug i te (ipI f)) es p := fun σ F H D S n _ _ _ _ => by
  obtain ⟨v, h1, h2⟩ := S.dat hi
  cases h2
  exact ⟨_, h1, h σ F H S _ fun w d F1 H1 g1 r1 ⟨b, e, p1⟩ => by
    subst e; cases r1; exact ⟨a, b, rfl, rfl, n _ _ F1 H1 ((S.go g1).setD (.int _)) g1.s1 p1⟩⟩

/-! ### a list of one's own -/
theorem Stt.own {σ : St} {F H : Hp} {i : Nat} {a : Addr} {xs : List Dt} (S : Stt B es σ F H) (h : es[i]? = some (.own a xs)) : ∃ vs, σ[i]? = some (some (.ref a)) ∧ F a = none ∧ H a = some (.lst vs) ∧ RpAll B.K F vs xs := by
  obtain ⟨o, h1, vs, rfl, k⟩ := S.slot h
  exact ⟨vs, h1, k⟩
theorem Stt.freeze {σ : St} {F H : Hp} {i : Nat} {xs : List Dt} {a : Addr} {vs : List V} (S : Stt B es σ F H) (h : es[i]? = some (.own a xs)) (hs : σ[i]? = some (some (.ref a))) (h1 : F a = none) (h2 : H a = some (.lst vs)) (h3 : RpAll B.K F vs xs) :
    Stt B (es.set i (.d (.lst xs))) σ (upd F a (.lst vs)) H where
  sub := fun c o e => by
    by_cases hc : c = a
    · subst hc; rw [upd_same] at e; rw [h2, e]
    · rw [upd_ne hc] at e; exact S.sub c o e
  s0 := S.s0.trans (same_upd h1)
  ou := fun c k1 k2 => by
    have hc : c ≠ a := fun e => k1 (by rw [e]; exact (S.ow i a xs h).1)
    rw [upd_ne hc]; exact S.ou c k1 k2
  fr := S.fr
  bg := fun b hb => by
    obtain ⟨k1, ws, ys, k2, k3, k4⟩ := S.bg b hb
    have hba : b ≠ a := fun q => (S.ow i a xs h).2.1 (by rw [hb, q])
    exact ⟨by rw [upd_ne hba]; exact k1, ws, ys, k2, k3.mono (same_upd h1), k4⟩
  tb := S.tb
  tn := fun q hq => by
    obtain ⟨ps, k, _⟩ := S.tb q hq
    rw [upd_ne (fun e => by rw [e, h2] at k; cases k)]; exact S.tn q hq
  len := by rw [List.length_set]; exact S.len
  ok := fun j e o k1 k2 => by
    by_cases hj : i = j
    · subst hj
      have l1 : i < es.length := (List.getElem?_eq_some_iff.mp h).1
      rw [List.getElem?_set_self l1] at k1
      cases k1
      rw [hs] at k2
      cases k2
      exact ⟨_, rfl, .lst upd_same (h3.mono (same_upd h1))⟩
    · rw [List.getElem?_set_ne hj] at k1
      have q := S.ok j e o k1 k2
      cases e with
      | no => exact q
      | any => trivial
      | d x => obtain ⟨v, z1, z2⟩ := q; exact ⟨v, z1, z2.mono (same_upd h1)⟩
      | r v => exact q
      | own c ys =>
        obtain ⟨ws, z1, z2, z3, z4⟩ := q
        have hca : c ≠ a := (S.dis i j a c xs ys hj h k1).symm
        exact ⟨ws, z1, by rw [upd_ne hca]; exact z2, z3, z4.mono (same_upd h1)⟩
      | ob c C dx ns ys bs =>
        obtain ⟨fs, z1, z2, z3, z4, z5⟩ := q
        have hca : c ≠ a := fun e => by rw [e, h2] at z3; cases z3
        exact ⟨fs, z1, by rw [upd_ne hca]; exact z2, z3, z4, z5.mono (same_upd h1)⟩
      | fs c ls => exact ⟨q.1, same_upd h1 _ _ q.2.1, q.2.2⟩
  ow := fun j c ys k1 => by
    by_cases hj : i = j
    · subst hj
      have l1 : i < es.length := (List.getElem?_eq_some_iff.mp h).1
      rw [List.getElem?_set_self l1] at k1; cases k1
    · rw [List.getElem?_set_ne hj] at k1
      exact S.ow j c ys k1
  dis := fun j l c e ys zs hjl k1 k2 => by
    have l1 : i < es.length := (List.getElem?_eq_some_iff.mp h).1
    by_cases hj : i = j
    · subst hj; rw [List.getElem?_set_self l1] at k1; cases k1
    · by_cases hl : i = l
      · subst hl; rw [List.getElem?_set_self l1] at k2; cases k2
      · rw [List.getElem?_set_ne hj] at k1
        rw [List.getElem?_set_ne hl] at k2
        exact S.dis j l c e ys zs hjl k1 k2
  obw := fun j c C dx ns ys bs k1 => by
    have l1 : i < es.length := (List.getElem?_eq_some_iff.mp h).1
    by_cases hj : i = j
    · subst hj; rw [List.getElem?_set_self l1] at k1; cases k1
    · rw [List.getElem?_set_ne hj] at k1
      obtain ⟨w1, w2, w3⟩ := S.obw j c C dx ns ys bs k1
      refine ⟨w1, w2, fun fs hf k hk => ?_⟩
      obtain ⟨n, b, us, z1, z2, z3⟩ := w3 fs hf k hk
      exact ⟨n, b, us, z1, z2, same_upd h1 _ _ z3⟩
theorem sm_freeze {t : TS} (i : Nat) {a : Addr} {xs : List Dt} (h : es[i]? = some (.own a xs)) (k : Sm B t (es.set i (.d (.lst xs))) p) : Sm B t es p := fun σ F H D S n b c r ro => by
  obtain ⟨vs, h1, h2, h3, h4⟩ := S.own h
  have s : Same F (upd F a (.lst vs)) := same_upd h2
  exact k σ _ H D (S.freeze h h1 h2 h3 h4) (fun e2 a2 F2 H2 S2 s2 q2 => n e2 a2 F2 H2 S2 (s.trans s2) q2) (fun e2 a2 F2 H2 S2 s2 q2 => b e2 a2 F2 H2 S2 (s.trans s2) q2)
    (fun e2 a2 F2 H2 S2 s2 q2 => c e2 a2 F2 H2 S2 (s.trans s2) q2) (fun v d e2 a2 F2 H2 S2 s2 q2 => r v d e2 a2 F2 H2 S2 (s.trans s2) q2) (fun a vs xs e2 a2 F2 H2 S2 s2 => ro a vs xs e2 a2 F2 H2 S2 (s.trans s2))
/-- the list at an own slot is changed -/
theorem Stt.change {σ : St} {F H : Hp} {i : Nat} {xs ys : List Dt} {a : Addr} {ws : List V} (S : Stt B es σ F H) (h : es[i]? = some (.own a xs)) (hs : σ[i]? = some (some (.ref a))) (h1 : F a = none) (h3 : RpAll B.K F ws ys) :
    Stt B (es.set i (.own a ys)) σ F (upd H a (.lst ws)) where
  sub := fun c o e => by
    rw [upd_ne (ne_of_none e h1)]; exact S.sub c o e
  s0 := S.s0
  ou := S.ou
  fr := fun c o k1 k2 => by
    have hc : c ≠ a := fun e => by
      have := (S.ow i a xs h).1
      rw [← e, k1] at this; cases this
    rw [upd_ne hc]; exact S.fr c o k1 k2
  bg := fun b hb => by
    obtain ⟨k1, ws, ys, k2, k3, k4⟩ := S.bg b hb
    have hba : b ≠ a := fun q => (S.ow i a xs h).2.1 (by rw [hb, q])
    exact ⟨k1, ws, ys, by rw [upd_ne hba]; exact k2, k3, k4⟩
  tb := fun q hq => by
    obtain ⟨o', _, vs', _, _, w3, _⟩ := S.slot h
    exact tabS_kept (S.tb q hq) fun c o ho hn => gh_upd w3 (fun z => z) ho hn
  tn := S.tn
  len := by rw [List.length_set]; exact S.len
  ok := fun j e o k1 k2 => by
    by_cases hj : i = j
    · subst hj
      have l1 : i < es.length := (List.getElem?_eq_some_iff.mp h).1
      rw [List.getElem?_set_self l1] at k1
      cases k1
      rw [hs] at k2
      cases k2
      exact ⟨ws, rfl, h1, upd_same, h3⟩
    · rw [List.getElem?_set_ne hj] at k1
      have q := S.ok j e o k1 k2
      cases e with
      | no => exact q
      | any => trivial
      | d x => exact q
      | r v => exact q
      | own c zs =>
        obtain ⟨us, z1, z2, z3, z4⟩ := q
        have hca : c ≠ a := (S.dis i j a c xs zs hj h k1).symm
        exact ⟨us, z1, z2, by rw [upd_ne hca]; exact z3, z4⟩
      | ob c C dx ns zs bs =>
        obtain ⟨fs, z1, z2, z3, z4, z5⟩ := q
        obtain ⟨o', _, vs', _, _, w3, _⟩ := S.slot h
        have hca : c ≠ a := fun e => by rw [e, w3] at z3; cases z3
        exact ⟨fs, z1, z2, by rw [upd_ne hca]; exact z3, z4, z5⟩
      | fs c ls =>
        obtain ⟨o', _, vs', _, _, w3, _⟩ := S.slot h
        exact ⟨q.1, q.2.1, fun p hp => (q.2.2 p hp).kept fun c o k hn _ => gh_upd w3 (fun z => z) k hn⟩
  ow := fun j c zs k1 => by
    by_cases hj : i = j
    · subst hj
      have l1 : i < es.length := (List.getElem?_eq_some_iff.mp h).1
      rw [List.getElem?_set_self l1] at k1
      cases k1
      exact S.ow i a xs h
    · rw [List.getElem?_set_ne hj] at k1
      exact S.ow j c zs k1
  dis := fun j l c e ys' zs hjl k1 k2 => by
    have l1 : i < es.length := (List.getElem?_eq_some_iff.mp h).1
    by_cases hj : i = j
    · subst hj
      rw [List.getElem?_set_self l1] at k1
      cases k1
      rw [List.getElem?_set_ne hjl] at k2
      exact S.dis i l a e xs zs hjl h k2
    · rw [List.getElem?_set_ne hj] at k1
      by_cases hl : i = l
      · subst hl
        rw [List.getElem?_set_self l1] at k2
        cases k2
        exact S.dis j i c a ys' xs hjl k1 h
      · rw [List.getElem?_set_ne hl] at k2
        exact S.dis j l c e ys' zs hjl k1 k2
  obw := fun j c C dx ns zs bs k1 => by
    have l1 : i < es.length := (List.getElem?_eq_some_iff.mp h).1
    by_cases hj : i = j
    · subst hj; rw [List.getElem?_set_self l1] at k1; cases k1
    · rw [List.getElem?_set_ne hj] at k1
      obtain ⟨w1, w2, w3⟩ := S.obw j c C dx ns zs bs k1
      refine ⟨w1, w2, fun fs hf => w3 fs ?_⟩
      obtain ⟨o1, _, fs1, _, _, y3, _⟩ := S.slot k1
      obtain ⟨o', _, vs', _, _, y4, _⟩ := S.slot h
      have hca : c ≠ a := fun e => by rw [e, y4] at y3; cases y3
      rw [upd_ne hca] at hf
      exact hf
theorem sm_append {i : Nat} {te : TE} {a : Addr} {xs : List Dt} (hi : es[i]? = some (.own a xs)) (h : Ev B te es fun d => xs.length < 100000 ∧ p.nx (es.set i (.own a (xs ++ [d])))) : Sm B (tDrop (tBM B.K "list" rAppend (tVar i) (tCons te tNil))) es p := fun σ F H D S n _ _ _ _ => by
  obtain ⟨vs, h1, h2, h3, h4⟩ := S.own hi
  refine ⟨_, h1, .inl ⟨rfl, _, SqL.of h3⟩, h σ F H S _ fun v d F1 H1 g1 r1 ⟨p1, p2⟩ => ?_⟩
  have S1 := S.go g1
  obtain ⟨vs', k1, k2, k3, k4⟩ := S1.own hi
  refine ⟨a, vs', v, rfl, rfl, k3, size_lt (by rw [k4.length]; exact p1), n _ _ F1 _ (S1.change hi h1 k2 (k4.app (.cons r1 .nil))) g1.s1 p2⟩

/-- an item of an own list is read; is stored; its length -/
theorem ev_ixOwn {i : Nat} {a : Addr} {xs : List Dt} {tb : TE} {P : Dt → Prop} (hi : es[i]? = some (.own a xs)) (h : Ev B tb es fun y => ∃ j, y = .int j ∧ ∃ x, atI xs j = some x ∧ P x) : Ev B (tOp (rIx B.K) (tVar i) tb) es P := fun σ F H S Q q => by
  obtain ⟨vs, h1, h2, h3, h4⟩ := S.own hi
  refine ⟨_, h1, h σ F H S _ fun w y F1 H1 g1 r1 ⟨j, e, x, hx, p1⟩ => ?_⟩
  subst e
  cases r1
  have S1 := S.go g1
  obtain ⟨vs', k1, k2, k3, k4⟩ := S1.own hi
  unfold atI at hx
  cases e : ixN xs.length j with
  | none => rw [e] at hx; cases hx
  | some n =>
    rw [e] at hx
    obtain ⟨u, z1, z2⟩ := k4.get (show xs[n]? = some x from hx)
    refine .inl ⟨a, vs', j, u, rfl, rfl, SqL.of k3, ?_, q _ _ F1 H1 g1 z2 p1⟩
    unfold atI
    rw [k4.length, e]
    exact z1
theorem sm_setItem {i : Nat} {a : Addr} {xs : List Dt} {te tj : TE} (hi : es[i]? = some (.own a xs)) (h : Ev B te es fun d => Ev B tj es fun y => ∃ j, y = .int j ∧ ∃ k, ixN xs.length j = some k ∧ p.nx (es.set i (.own a (xs.set k d)))) : Sm B (tAsg te (gSub (tVar i) tj rSetL)) es p := fun σ F H D S n _ _ _ _ =>
  h σ F H S _ fun v d F1 H1 g1 r1 p1 => by
    have S1 := S.go g1
    obtain ⟨vs, h1, h2, h3, h4⟩ := S1.own hi
    refine ⟨_, h1, p1 σ F1 H1 S1 _ fun w y F2 H2 g2 r2 ⟨j, e, k, hk, p2⟩ => ?_⟩
    subst e
    cases r2
    have S2 := S1.go g2
    obtain ⟨vs', k1, k2, k3, k4⟩ := S2.own hi
    exact ⟨a, vs', j, k, rfl, rfl, k3, by rw [k4.length]; exact hk, n _ _ F2 _ (S2.change hi h1 k2 (k4.set (r1.mono g2.s1) k)) (g1.s1.trans g2.s1) p2⟩
theorem ev_lenOwn {i : Nat} {a : Addr} {xs : List Dt} {P : Dt → Prop} (hi : es[i]? = some (.own a xs)) (h : P (.int xs.length)) : Ev B (tCB (rLenA B.K) (tCons (tVar i) tNil)) es P := fun σ F H S Q q => by
  obtain ⟨vs, h1, h2, h3, h4⟩ := S.own hi
  exact ⟨_, h1, _, xs.length, rfl, .inl ⟨vs, SqL.of h3, h4.length.symm⟩, q _ _ F H S.refl (.int _) h⟩

/-! ### walks -/
def Yl (K : PySem.W.Frag) (F : Hp) (H : Hp) (v : V) (x : Dt) (H' : Hp) : Prop := (H' = H ∧ Rp K F v x) ∨ ∃ T a b x1 x2, v = .ref T ∧ H T = none ∧ H' = upd H T (.tup [a, b]) ∧ Rp K F a x1 ∧ Rp K F b x2 ∧ x = .tup [x1, x2]
structure ItD (K : PySem.W.Frag) (J : It) (F : Hp) (xs : List Dt) : Prop where
  goes : ∀ (i : Nat) H, i < xs.length → Same F H → J.go i H
  stops : ∀ H, Same F H → J.stop xs.length H
  yields : ∀ (i : Nat) H v H', i < xs.length → Same F H → J.yld i H v H' → ∃ x, xs[i]? = some x ∧ Yl K F H v x H'
def EvI (B : Bs) (wi : TI) (es : List Sl) (P : List Dt → Prop) : Prop := ∀ σ F H, Stt B es σ F H → ∀ R : It → Hp → Prop, (∀ J xs F' H', Go B F H F' H' → ItD B.K J F' xs → P xs → R J H') → wi σ H R
theorem Yl.go {σ : St} {F F1 H H' : Hp} {v : V} {x : Dt} (y : Yl B.K F H v x H') (S : Stt B es σ F1 H) (s : Same F F1) : ∃ F2, Go B F1 H F2 H' ∧ Rp B.K F2 v x := by
  rcases y with ⟨rfl, r⟩ | ⟨T, a, b, x1, x2, rfl, h1, rfl, r1, r2, rfl⟩
  · exact ⟨F1, S.refl, r.mono s⟩
  · have hF : F1 T = none := same_none S.sub h1
    have s2 : Same F (upd F1 T (.tup [a, b])) := s.trans (same_upd hF)
    exact ⟨upd F1 T (.tup [a, b]), S.alloc h1, .tup (SqT.of upd_same) (.cons (r1.mono s2) (.cons (r2.mono s2) .nil))⟩
theorem sm_for {wi : TI} {g : TG} {tb : TS} (h : EvI B wi es fun xs => ∃ I : Nat → List Sl → Prop, I 0 es ∧
    (∀ (i : Nat) x es', xs[i]? = some x → I i es' → Tg B g es' x fun e2 => Sm B tb e2 { p with nx := I (i + 1), bk := p.nx, ct := I (i + 1) }) ∧ ∀ es', I xs.length es' → p.nx es') : Sm B (tFor wi g tb) es p := fun σ F H D S n b c r ro =>
  h σ F H S _ fun J xs F1 H1 g1 it ⟨I, i0, is, id⟩ => by
    have S1 := S.go g1
    refine ⟨fun i m σ' H' => m = xs.length - i ∧ i ≤ xs.length ∧ ∃ es' F', Stt B es' σ' F' H' ∧ Same F1 F' ∧ I i es', ⟨xs.length, by simp, Nat.zero_le _, es, F1, S1, Same.refl F1, i0⟩, ?_⟩
    rintro i m σ' H' ⟨rfl, hi, es', F', S', s', hI⟩
    by_cases hlt : i < xs.length
    · refine .inr ⟨it.goes i H' hlt (s'.trans S'.sub), fun σ2 H2 => ∃ es2 F2, Stt B es2 σ2 F2 H2 ∧ Same F1 F2 ∧ I (i + 1) es2, fun σ2 H2 ⟨es2, F2, a1, a2, a3⟩ => ⟨xs.length - (i + 1), by omega, rfl, hlt, es2, F2, a1, a2, a3⟩, fun v H2 y => ?_⟩
      obtain ⟨x, hx, hy⟩ := it.yields i H' v H2 hlt (s'.trans S'.sub) y
      obtain ⟨F2, g2, rx⟩ := hy.go S' s'
      refine is i x es' hx hI σ' F2 H2 v (S'.go g2) rx _ fun es3 σ3 F3 H3 S3 s3 hm => ?_
      have s03 : Same F1 F3 := (s'.trans g2.s1).trans s3
      refine hm σ3 F3 H3 _ S3 (fun e4 a4 F4 H4 S4 s4 q4 => ⟨e4, F4, S4, s03.trans s4, q4⟩) (fun e4 a4 F4 H4 S4 s4 q4 => n e4 a4 F4 H4 S4 ((g1.s1.trans s03).trans s4) q4)
        (fun e4 a4 F4 H4 S4 s4 q4 => ⟨e4, F4, S4, s03.trans s4, q4⟩) (fun v d e4 a4 F4 H4 S4 s4 q4 => r v d e4 a4 F4 H4 S4 ((g1.s1.trans s03).trans s4) q4) (fun a vs xs e2 a2 F2 H2 S2 s2 => ro a vs xs e2 a2 F2 H2 S2 ((g1.s1.trans s03).trans s2))
    · have e : i = xs.length := by omega
      subst e
      exact .inl ⟨it.stops H' (s'.trans S'.sub), n es' σ' F' H' S' (g1.s1.trans s') (id es' hI)⟩
theorem itd_list {K : PySem.W.Frag} {F : Hp} {a : Addr} {vs : List V} {xs : List Dt} (h : F a = some (.lst vs)) (r : RpAll K F vs xs) : ItD K (Itl K a) F xs where
  goes := fun i H hi s => ⟨vs, vs[i]'(by rw [r.length]; exact hi), SqL.of (s _ _ h), by simp⟩
  stops := fun H s => ⟨vs, SqL.of (s _ _ h), by rw [r.length]; exact Nat.le_refl _⟩
  yields := fun i H v H' hi s y => by
    obtain ⟨e, y2⟩ := y
    obtain ⟨d, h1, h2⟩ := r.getV (y2 vs (SqL.of (s _ _ h)))
    exact ⟨d, h1, .inl ⟨e, h2⟩⟩
theorem itd_tup {K : PySem.W.Frag} {F : Hp} {a : Addr} {vs : List V} {xs : List Dt} (h : SqT K F a vs) (r : RpAll K F vs xs) : ItD K (Itt K a) F xs where
  goes := fun i H hi s => ⟨vs, vs[i]'(by rw [r.length]; exact hi), sqT_mono s h, by simp⟩
  stops := fun H s => ⟨vs, sqT_mono s h, by rw [r.length]; exact Nat.le_refl _⟩
  yields := fun i H v H' hi s y => by
    obtain ⟨e, y2⟩ := y
    obtain ⟨d, h1, h2⟩ := r.getV (y2 vs (sqT_mono s h))
    exact ⟨d, h1, .inl ⟨e, h2⟩⟩
def rangeD (lo : Int) (n : Nat) : List Dt := (List.range n).map fun (i : Nat) => Dt.int (lo + (i : Int))
theorem rangeD_len (lo : Int) (n : Nat) : (rangeD lo n).length = n := by simp [rangeD]
theorem rangeD_get {lo : Int} {n i : Nat} {x : Dt} (h : (rangeD lo n)[i]? = some x) : i < n ∧ x = .int (lo + (i : Int)) := by
  have hl := (List.getElem?_eq_some_iff.mp h).1
  rw [rangeD_len] at hl
  refine ⟨hl, ?_⟩
  simp [rangeD, hl] at h
  exact h.symm
theorem itd_range {K : PySem.W.Frag} {F : Hp} {lo : Int} {n : Nat} : ItD K (Itr lo n) F (rangeD lo n) where
  goes := fun i H hi _ => by rw [rangeD_len] at hi; exact hi
  stops := fun H _ => by rw [rangeD_len]; exact Nat.le_refl _
  yields := fun i H v H' hi _ y => by
    rw [rangeD_len] at hi
    obtain ⟨rfl, rfl⟩ := y
    exact ⟨_, by simp [rangeD, hi], .inl ⟨rfl, .int _⟩⟩
def signsD (z : Str) : List Dt := z.cps.toList.map fun c => Dt.str ⟨#[c]⟩
theorem signsD_len (z : Str) : (signsD z).length = z.cps.size := by simp [signsD]
theorem itd_str {K : PySem.W.Frag} {F : Hp} {z : Str} : ItD K (Its z) F (signsD z) where
  goes := fun i H hi _ => by rw [signsD_len] at hi; exact hi
  stops := fun H _ => by rw [signsD_len]; exact Nat.le_refl _
  yields := fun i H v H' hi _ y => by
    obtain ⟨rfl, c, h1, rfl⟩ := y
    refine ⟨.str ⟨#[c]⟩, ?_, .inl ⟨rfl, .str _⟩⟩
    rw [signsD, List.getElem?_map, Array.getElem?_toList, h1]; rfl
def pairD : List Dt → List Dt → List Dt
  | x :: xs, y :: ys => .tup [x, y] :: pairD xs ys
  | _, _ => []
theorem pairD_len : ∀ (xs ys : List Dt), (pairD xs ys).length = min xs.length ys.length
  | [], ys => by simp [pairD]
  | x :: xs, [] => by simp [pairD]
  | x :: xs, y :: ys => by simp only [pairD, List.length_cons, pairD_len xs ys]; omega
theorem pairD_get : ∀ {xs ys : List Dt} {i : Nat} {x y : Dt}, xs[i]? = some x → ys[i]? = some y → (pairD xs ys)[i]? = some (.tup [x, y])
  | [], _, i, _, _, h, _ => by simp at h
  | _ :: _, [], i, _, _, _, h => by simp at h
  | a :: xs, b :: ys, 0, x, y, h1, h2 => by simp at h1 h2; subst h1 h2; rfl
  | a :: xs, b :: ys, i + 1, x, y, h1, h2 => by
    have := pairD_get (i := i) (xs := xs) (ys := ys) (x := x) (y := y) (by simpa using h1) (by simpa using h2)
    simpa [pairD] using this
theorem itd_zip {K : PySem.W.Frag} {F : Hp} {a b : Addr} {vs ws : List V} {xs ys : List Dt} (h : F a = some (.lst vs)) (r : RpAll K F vs xs) (h' : F b = some (.lst ws)) (r' : RpAll K F ws ys) : ItD K (Itz K a b) F (pairD xs ys) where
  goes := fun i H hi s => by
    rw [pairD_len] at hi
    have l1 := r.length
    have l2 := r'.length
    have w := walk_zip (K := K) (a := a) (b := b) (xs := vs) (ys := ws) (n := min vs.length ws.length) rfl
    exact w.goes i H (by omega) ⟨SqL.of (s _ _ h), SqL.of (s _ _ h')⟩
  stops := fun H s => by
    have l1 := r.length
    have l2 := r'.length
    have w := walk_zip (K := K) (a := a) (b := b) (xs := vs) (ys := ws) (n := min vs.length ws.length) rfl
    have q := w.stops H ⟨SqL.of (s _ _ h), SqL.of (s _ _ h')⟩
    rw [pairD_len, ← l1, ← l2]
    exact q
  yields := fun i H v H' hi s y => by
    rw [pairD_len] at hi
    have l1 := r.length
    have l2 := r'.length
    have w := walk_zip (K := K) (a := a) (b := b) (xs := vs) (ys := ws) (n := min vs.length ws.length) rfl
    obtain ⟨T, x, z, e1, e2, e3, e4, e5⟩ := w.yields i H v H' (by omega) ⟨SqL.of (s _ _ h), SqL.of (s _ _ h')⟩ y
    obtain ⟨d1, k1, k2⟩ := r.getV e4
    obtain ⟨d2, k3, k4⟩ := r'.getV e5
    exact ⟨_, pairD_get k1 k3, .inr ⟨T, x, z, d1, d2, e1, e2, e3, k2, k4, rfl⟩⟩
theorem itd_zipT {K : PySem.W.Frag} {F : Hp} {a b : Addr} {vs ws : List V} {xs ys : List Dt} (h : SqT K F a vs) (r : RpAll K F vs xs) (h' : SqT K F b ws) (r' : RpAll K F ws ys) : ItD K (RZ.ItzT K a b) F (pairD xs ys) where
  goes := fun i H hi s => by
    rw [pairD_len] at hi
    have l1 := r.length
    have l2 := r'.length
    have i1 : i < vs.length := by omega
    have i2 : i < ws.length := by omega
    exact ⟨vs, ws, vs[i], ws[i], sqT_mono s h, sqT_mono s h', by simp [i1], by simp [i2]⟩
  stops := fun H s => by
    have l1 := r.length
    have l2 := r'.length
    exact ⟨vs, ws, sqT_mono s h, sqT_mono s h', by rw [pairD_len]; omega⟩
  yields := fun i H v H' hi s y => by
    rw [pairD_len] at hi
    obtain ⟨T, x, z, e1, e2, e3, e4, e5⟩ := y
    obtain ⟨d1, k1, k2⟩ := r.getV (e4 vs (sqT_mono s h))
    obtain ⟨d2, k3, k4⟩ := r'.getV (e5 ws (sqT_mono s h'))
    exact ⟨_, pairD_get k1 k3, .inr ⟨T, x, z, d1, d2, e1, e2, e3, k2, k4, rfl⟩⟩
theorem ei_list {te : TE} {P : List Dt → Prop} (h : Ev B te es fun d => ∃ xs, d = .lst xs ∧ P xs) : EvI B (iList B.K te) es P := fun σ F H S R q => h σ F H S _ fun v d F1 H1 g1 r1 ⟨xs, e, p1⟩ => by
  subst e
  cases r1 with
  | lst h1 h2 => exact ⟨_, rfl, ⟨_, SqL.of (g1.s2 _ _ h1)⟩, q _ xs F1 H1 g1 (itd_list h1 h2) p1⟩
theorem ei_tup {te : TE} {P : List Dt → Prop} (h : Ev B te es fun d => ∃ xs, d = .tup xs ∧ P xs) : EvI B (iTup B.K te) es P := fun σ F H S R q => h σ F H S _ fun v d F1 H1 g1 r1 ⟨xs, e, p1⟩ => by
  subst e
  cases r1 with
  | tup h1 h2 => exact ⟨_, rfl, ⟨_, sqT_mono g1.s2 h1⟩, q _ xs F1 H1 g1 (itd_tup h1 h2) p1⟩
theorem ei_rng1 {ta : TA} {P : List Dt → Prop} (h : EvA B ta es fun ds => ∃ n : Int, ds = [.int n] ∧ -(2 ^ 62) ≤ n ∧ n < 2 ^ 62 ∧ P (rangeD 0 n.toNat)) : EvI B (iRng1 ta) es P := fun σ F H S R q => h σ F H S _ fun vs ds F1 H1 g1 r1 ⟨n, e, l1, l2, p1⟩ => by
  subst e
  obtain ⟨v, rfl, r⟩ := rp1 r1
  cases r
  exact ⟨n, rfl, l1, l2, q _ _ F1 H1 g1 itd_range p1⟩
theorem ei_rng2 {ta : TA} {P : List Dt → Prop} (h : EvA B ta es fun ds => ∃ m n : Int, ds = [.int m, .int n] ∧ (-(2 ^ 62) ≤ m ∧ m < 2 ^ 62 ∧ -(2 ^ 62) ≤ n ∧ n < 2 ^ 62) ∧ P (rangeD m (n - m).toNat)) : EvI B (iRng2 ta) es P := fun σ F H S R q => h σ F H S _ fun vs ds F1 H1 g1 r1 ⟨m, n, e, l1, p1⟩ => by
  subst e
  obtain ⟨v, w, rfl, r, r'⟩ := rp2 r1
  cases r; cases r'
  exact ⟨m, n, rfl, l1, q _ _ F1 H1 g1 itd_range p1⟩
theorem ei_str {te : TE} {P : List Dt → Prop} (h : Ev B te es fun d => ∃ z, d = .str z ∧ P (signsD z)) : EvI B (iStr te) es P := fun σ F H S R q => h σ F H S _ fun v d F1 H1 g1 r1 ⟨z, e, p1⟩ => by
  subst e
  cases r1
  exact ⟨z, rfl, q _ _ F1 H1 g1 itd_str p1⟩
theorem ei_zip {ta : TA} {P : List Dt → Prop} (h : EvA B ta es fun ds => ∃ xs ys, (ds = [.lst xs, .lst ys] ∨ ds = [.tup xs, .tup ys]) ∧ P (pairD xs ys)) : EvI B (RZ.iZipA B.K ta) es P := fun σ F H S R q => h σ F H S _ fun vs ds F1 H1 g1 r1 ⟨xs, ys, e, p1⟩ => by
  rcases e with e | e
  · subst e
    obtain ⟨v, w, rfl, r, r'⟩ := rp2 r1
    cases r with
    | lst h1 h2 =>
      cases r' with
      | lst h3 h4 => exact ⟨_, _, _, _, rfl, .inl ⟨SqL.of (g1.s2 _ _ h1), SqL.of (g1.s2 _ _ h3), q _ _ F1 H1 g1 (itd_zip h1 h2 h3 h4) p1⟩⟩
  · subst e
    obtain ⟨v, w, rfl, r, r'⟩ := rp2 r1
    cases r with
    | tup h1 h2 =>
      cases r' with
      | tup h3 h4 => exact ⟨_, _, _, _, rfl, .inr ⟨sqT_mono g1.s2 h1, sqT_mono g1.s2 h3, q _ _ F1 H1 g1 (itd_zipT h1 h2 h3 h4) p1⟩⟩
/-! ### comprehensions -/
def wipeE (es : List Sl) : List Nat → List Sl
  | [] => es
  | v :: vs => (wipeE es vs).set v .no
theorem Stt.wipe {σ : St} {F H : Hp} (S : Stt B es σ F H) : ∀ vs : List Nat, Stt B (wipeE es vs) (wipe σ vs) F H
  | [] => S
  | v :: vs => (S.wipe vs).set (i := v) (e := .no) (o := none) rfl fun _ _ e => nomatch e
/-- what a target that stores into slots of vs alone does -/
def TgC (B : Bs) (g : TG) (es : List Sl) (vs : List Nat) (x : Dt) (P : List Sl → Prop) : Prop := ∀ σ F H v, Stt B es σ F H → Rp B.K F v x → ∀ Q : St → Hp → Prop, (∀ es' σ', Stt B es' σ' F H → wipe σ' vs = wipe σ vs → P es' → Q σ' H) → g v σ H Q
theorem tc_name {j : Nat} {x : Dt} {P : List Sl → Prop} (h : P (es.set j (.d x))) : TgC B (gName j) es [j] x P := fun σ F H v S r Q q => q _ _ (S.setD r) (by simp [wipe]) h
theorem tc_tup2 {i j : Nat} {x y : Dt} {P : List Sl → Prop} (hij : i ≠ j) (h : P ((es.set i (.d x)).set j (.d y))) : TgC B (gTup B.K 2 (gCons (gName i) (gCons (gName j) gNil))) es [i, j] (.tup [x, y]) P := fun σ F H v S r Q q => by
  cases r with
  | tup h1 h2 =>
    obtain ⟨a, b, rfl, r1, r2⟩ := rp2 h2
    refine ⟨_, _, rfl, sqT_mono S.sub h1, rfl, a, [b], rfl, b, [], rfl, rfl, q _ _ ((S.setD r1).setD r2) ?_ h⟩
    simp only [wipe]
    apply List.ext_getElem?
    intro k
    simp only [List.getElem?_set, List.length_set]
    by_cases h1 : i = k <;> by_cases h2 : j = k <;> simp [h1, h2]
theorem tc_tup2' {i j : Nat} {x y : Dt} {P : List Sl → Prop} (hij : i ≠ j) (h : P ((es.set i (.d x)).set j (.d y))) : TgC B (gTup B.K 2 (gCons (gName i) (gCons (gName j) gNil))) es [j, i] (.tup [x, y]) P := fun σ F H v S r Q q => by
  cases r with
  | tup h1 h2 =>
    obtain ⟨a, b, rfl, r1, r2⟩ := rp2 h2
    refine ⟨_, _, rfl, sqT_mono S.sub h1, rfl, a, [b], rfl, b, [], rfl, rfl, q _ _ ((S.setD r1).setD r2) ?_ h⟩
    simp only [wipe]
    apply List.ext_getElem?
    intro k
    simp only [List.getElem?_set, List.length_set]
    by_cases h1 : i = k <;> by_cases h2 : j = k <;> simp [h1, h2]
theorem wipe_wipe (σ : St) (vs : List Nat) : wipe (wipe σ vs) vs = wipe σ vs := by
  have key : ∀ (us : List Nat) (τ : St) (k : Nat), (wipe τ us)[k]? = if k ∈ us then (τ[k]?).map (fun _ => none) else τ[k]? := by
    intro us
    induction us with
    | nil => intro τ k; simp [wipe]
    | cons u us ih =>
      intro τ k
      rw [wipe, List.getElem?_set, wipe_length]
      by_cases h : u = k
      · subst h
        by_cases hl : u < τ.length
        · simp [hl]
        · simp [hl, ih]
      · rw [if_neg h, ih]
        by_cases h2 : k ∈ us
        · simp [h2]
        · have : ¬ k = u := fun e => h e.symm
          simp [h2, this]
  apply List.ext_getElem?
  intro k
  rw [key, key]
  by_cases h : k ∈ vs
  · simp only [h, if_true]
    cases σ[k]? <;> rfl
  · simp [h]
theorem eo_lc {wi : TI} {g : TG} {tt : TT} {te : TE} {vs : List Nat} {P : List Dt → Prop} (h : EvI B wi es fun xs => xs.length < 100000 ∧ ∃ I : Nat → List Dt → Prop, I 0 [] ∧
    (∀ (i : Nat) x acc, xs[i]? = some x → I i acc → TgC B g (wipeE es vs) vs x fun e2 => EvT B tt e2 fun b => (b = true → Ev B te e2 fun y => I (i + 1) (acc ++ [y])) ∧ (b = false → I (i + 1) acc)) ∧ ∀ acc, I xs.length acc → P acc) : EvO B (tLc wi g tt te vs) es P := fun σ F H S Q q =>
  h σ F H S _ fun J xs F1 H1 g1 it ⟨hlen, I, i0, is, id⟩ => by
    intro Dl hD
    have S1 := S.go g1
    have hH : H Dl = none := g1.new (S1.newB hD) hD
    have gD := S1.allocO (o := .lst []) hD
    refine ⟨fun i m H' => m = xs.length - i ∧ i ≤ xs.length ∧ ∃ F' ws acc, Go B F1 (upd H1 Dl (.lst [])) F' (upd H' Dl (.lst [])) ∧ F' Dl = none ∧ Same F' H' ∧ (∀ b, B.bag = some b → BagAt B.K F' H' b) ∧ LamX.Tabs B.T H' ∧ H' Dl = some (.lst ws) ∧ RpAll B.K F' ws acc ∧ acc.length ≤ i ∧ I i acc,
      ⟨xs.length, by simp, Nat.zero_le _, F1, [], [], ?_, same_none S1.sub hD, gD.s2, gD.bg, gD.tb, upd_same, .nil, Nat.zero_le _, i0⟩, ?_⟩
    · rw [upd_upd]
      exact (S1.go gD).refl
    rintro i m H' ⟨rfl, hi, F', ws, acc, g', hF', s', b', t', hw, hr, hal, hI⟩
    have gAll : Go B F1 H1 F' H' := by
      refine ⟨g'.s1, s', fun c h1 h2 => ?_, fun c o h1 h2 => ?_, b', t'⟩
      · refine g'.nw c ?_ h2
        rw [upd_ne (fun e => h1 (by rw [e]; exact hD))]
        exact h1
      · have hc : c ≠ Dl := ne_of_none h2 hD
        have k := g'.kp c o h1 (by rw [upd_ne hc]; exact h2)
        rw [upd_ne hc] at k
        exact k
    have S' := S1.go gAll
    by_cases hlt : i < xs.length
    · refine .inr ⟨it.goes i H' hlt (g'.s1.trans s'), fun H2 => ∃ F2 ws2 acc2, Go B F1 (upd H1 Dl (.lst [])) F2 (upd H2 Dl (.lst [])) ∧ F2 Dl = none ∧ Same F2 H2 ∧ (∀ b, B.bag = some b → BagAt B.K F2 H2 b) ∧ LamX.Tabs B.T H2 ∧ H2 Dl = some (.lst ws2) ∧ RpAll B.K F2 ws2 acc2 ∧ acc2.length ≤ i + 1 ∧ I (i + 1) acc2,
        fun H2 q2 => ⟨xs.length - (i + 1), by omega, rfl, hlt, q2⟩, fun v H2 y => ?_⟩
      obtain ⟨x, hx, hy⟩ := it.yields i H' v H2 hlt (g'.s1.trans s') y
      obtain ⟨F2, g2, rx⟩ := hy.go S' g'.s1
      have S2 := (S'.go g2).wipe vs
      have hD' : B.off Dl := S1.newB hD
      refine is i x acc hx hI _ F2 H2 v S2 rx _ fun es3 σ3 S3 hw3 p3 => ?_
      rw [wipe_wipe] at hw3
      refine ⟨hw3, p3 σ3 F2 H2 S3 _ fun b F3 H3 g3 p4 => ?_⟩
      -- from (F', H') to (F3, H3): the new list stays
      have g23 : Go B F' H' F3 H3 := g2.trans g3
      have hl3 : H3 Dl = some (.lst ws) := g23.kp Dl _ hD' hw
      have hF3 : F3 Dl = none := g23.nw Dl (by rw [hw]; simp) hF'
      have fin : ∀ F4 H4, Go B F' H' F4 H4 → F4 Dl = none → ∀ o, Go B F1 (upd H1 Dl (.lst [])) F4 (upd (upd H4 Dl o) Dl (.lst [])) := fun F4 H4 g4 hn o => by
        rw [upd_upd]
        have hl4' : H4 Dl = some (.lst ws) := g4.kp Dl _ hD' hw
        refine ⟨g'.s1.trans g4.s1, fun c u e => ?_, fun c h1 h2 => ?_, fun c u h1 h2 => ?_, fun b hb => ?_, fun q hq => tabS_kept (g4.tb q hq) fun c o k hn => gh_upd hl4' (fun z => z) k hn⟩
        · rw [upd_ne (ne_of_none e hn)]; exact g4.s2 c u e
        · by_cases hc : c = Dl
          · rw [hc]; exact hn
          · rw [upd_ne hc] at h1
            have := gAll.nw c h1 h2
            exact g4.nw c (gAll.live h1) this
        · by_cases hc : c = Dl
          · rw [hc, upd_same] at h2 ⊢; exact h2
          · rw [upd_ne hc] at h2 ⊢; exact g4.kp c u h1 (gAll.kp c u h1 h2)
        · obtain ⟨k1, z, zs, k2, k3, k4⟩ := g4.bg b hb
          have hbd : b ≠ Dl := fun e => hD'.1 (by rw [hb, e])
          exact ⟨k1, z, zs, by rw [upd_ne hbd]; exact k2, k3, k4⟩
      cases b with
      | true =>
        show te σ3 H3 _
        refine p4.1 rfl σ3 F3 H3 (S3.go g3) _ fun w y' F4 H4 g4 r4 p5 => ?_
        have g24 := g23.trans g4
        have hl4 : H4 Dl = some (.lst ws) := g24.kp Dl _ hD' hw
        have hF4 : F4 Dl = none := g24.nw Dl (by rw [hw]; simp) hF'
        have hb4 : ∀ b, B.bag = some b → BagAt B.K F4 (upd H4 Dl (.lst (ws ++ [w]))) b := fun b hb => by
          obtain ⟨k1, z, zs, k2, k3, k4⟩ := g4.bg b hb
          have hbd : b ≠ Dl := fun e => hD'.1 (by rw [hb, e])
          exact ⟨k1, z, zs, by rw [upd_ne hbd]; exact k2, k3, k4⟩
        refine ⟨ws, hl4, size_lt (by rw [hr.length]; omega), F4, ws ++ [w], acc ++ [y'], fin F4 H4 g24 hF4 _, hF4, fun c u e => by rw [upd_ne (ne_of_none e hF4)]; exact g4.s2 c u e, hb4, fun q hq => tabS_kept (g4.tb q hq) fun c o k hn => gh_upd hl4 (fun z => z) k hn, upd_same, (hr.mono g24.s1).app (.cons r4 .nil), by simp; omega, p5⟩
      | false =>
        have e3 : upd H3 Dl (.lst ws) = H3 := by
          funext c
          by_cases hc : c = Dl
          · rw [hc, upd_same, hl3]
          · rw [upd_ne hc]
        refine ⟨F3, ws, acc, ?_, hF3, g3.s2, g3.bg, g23.tb, hl3, hr.mono g23.s1, by omega, p4.2 rfl⟩
        have := fin F3 H3 g23 hF3 (.lst ws)
        rw [e3] at this
        exact this
    · have e : i = xs.length := by omega
      subst e
      exact .inl ⟨it.stops H' (g'.s1.trans s'), q Dl ws acc F' H' (g1.trans gAll) hH hF' hw hr (id acc hI)⟩
theorem et_yes {P : Bool → Prop} (h : P true) : EvT B tYes es P := fun σ F H S Q q => q true F H S.refl h
/-- [f(x) for x in xs] where each item is told -/
theorem eo_map {wi : TI} {g : TG} {te : TE} {vs : List Nat} {P : List Dt → Prop} (h : EvI B wi es fun xs => xs.length < 100000 ∧ ∃ R : Dt → Dt → Prop,
    (∀ (i : Nat) x, xs[i]? = some x → TgC B g (wipeE es vs) vs x fun e2 => Ev B te e2 fun y => R x y) ∧ ∀ ys : List Dt, ys.length = xs.length → (∀ (i : Nat) x y, xs[i]? = some x → ys[i]? = some y → R x y) → P ys) : EvO B (tLc wi g tYes te vs) es P :=
  eo_lc fun σ F H S Q q => h σ F H S Q fun J xs F1 H1 g1 it ⟨hl, R, h1, h2⟩ => q J xs F1 H1 g1 it ⟨hl, fun i acc => i ≤ xs.length ∧ acc.length = i ∧ ∀ (k : Nat) x y, xs[k]? = some x → acc[k]? = some y → R x y, ⟨Nat.zero_le _, rfl, fun k x y _ e => by simp at e⟩,
    fun i x acc hx ⟨hi, ha, hR⟩ σ F H v S r Q q => h1 i x hx σ F H v S r Q fun es' σ' S' hw p => q es' σ' S' hw (et_yes ⟨fun _ => p.imp fun y hy => ⟨(List.getElem?_eq_some_iff.mp hx).1, by rw [List.length_append, ha]; rfl, fun k a b ka kb => by
      by_cases hk : k < acc.length
      · rw [List.getElem?_append_left hk] at kb; exact hR k a b ka kb
      · rw [List.getElem?_append_right (by omega)] at kb
        have hk2 : k = i := by
          have := (List.getElem?_eq_some_iff.mp kb).1
          simp at this; omega
        subst hk2
        rw [hx] at ka
        cases ka
        rw [ha] at kb
        simp at kb
        rw [← kb]
        exact hy⟩, fun z => nomatch z⟩), fun acc ⟨_, ha, hR⟩ => h2 acc ha hR⟩
end

/-! ### the promise of a def -/
/-- a def that hands back a new list -/
def spO (K : PySem.W.Frag) (Pre : List Dt → Prop) (Post : List Dt → List Dt → Prop) : Sp := fun vs H Q _ => ∃ F ds, Same F H ∧ RpAll K F vs ds ∧ Pre ds ∧
  ∀ a ws xs F' H', Same F F' → (∀ c, H c ≠ none → F c = none → F' c = none) → Same F' H' → Same H H' → H a = none → F' a = none → H' a = some (.lst ws) → RpAll K F' ws xs → Post ds xs → Q (.ref a) H'
theorem eo_call {B : Bs} {es : List Sl} {Pre : List Dt → Prop} {Post : List Dt → List Dt → Prop} {E : XK} {ta : TA} {P : List Dt → Prop} (h : EvA B ta es fun ds => Pre ds ∧ ∀ d, Post ds d → P d) : EvO B (tCall (spO B.K Pre Post) [] E ta) es P := fun σ F H S Q q =>
  h σ F H S _ fun vs ds F1 H1 g1 r1 ⟨p1, p2⟩ => by
    rw [List.append_nil]
    exact ⟨F1, ds, g1.s2, r1, p1, fun a ws xs F2 H2 s1 s2 s3 s4 h1 h2 h3 r2 p3 => q a ws xs F2 H2 (g1.trans ((S.go g1).pure s1 s3 s2 s4)) (g1.new ((S.go g1).newB h1) h1) h2 h3 r2 (p2 xs p3)⟩
theorem eo_callD {B : Bs} {es : List Sl} {Pre : List Dt → Prop} {Post : List Dt → List Dt → Prop} {E : XK} {ta : TA} {P : List Dt → Prop} {dvs : List V} {dds : List Dt} (hd : ∀ F, RpAll B.K F dvs dds) (h : EvA B ta es fun ds => Pre (ds ++ dds) ∧ ∀ d, Post (ds ++ dds) d → P d) : EvO B (tCall (spO B.K Pre Post) dvs E ta) es P := fun σ F H S Q q =>
  h σ F H S _ fun vs ds F1 H1 g1 r1 ⟨p1, p2⟩ => ⟨F1, ds ++ dds, g1.s2, r1.app (hd F1), p1, fun a ws xs F2 H2 s1 s2 s3 s4 h1 h2 h3 r2 p3 => q a ws xs F2 H2 (g1.trans ((S.go g1).pure s1 s3 s2 s4)) (g1.new ((S.go g1).newB h1) h1) h2 h3 r2 (p2 xs p3)⟩
theorem eo_callN {B : Bs} {es : List Sl} {Pre : List Dt → Prop} {Post : List Dt → List Dt → Prop} {E : XK} {ta tk : TA} {P : List Dt → Prop} {n m : Nat} {gV : List V → List V → List V} {gD : List Dt → List Dt → List Dt}
    (hg : ∀ F vs ds zs as, RpAll B.K F vs ds → RpAll B.K F zs as → RpAll B.K F (gV vs zs) (gD ds as))
    (h : EvA B ta es fun ds => EvA B tk es fun as => ds.length = n ∧ as.length = m ∧ Pre (gD ds as) ∧ ∀ d, Post (gD ds as) d → P d) : EvO B (tCallN n m (spO B.K Pre Post) gV E ta tk) es P := fun σ F H S Q q =>
  h σ F H S _ fun vs ds F1 H1 g1 r1 p0 => p0 σ F1 H1 (S.go g1) _ fun zs as F2 H2 g2 r2 ⟨l1, l2, p1, p2⟩ => by
    have g := g1.trans g2
    exact ⟨by rw [r1.length]; exact l1, by rw [r2.length]; exact l2, F2, gD ds as, g2.s2, hg F2 _ _ _ _ (r1.mono g2.s1) r2, p1, fun a ws xs F3 H3 s1 s2 s3 s4 h1 h2 h3 r3 p3 => q a ws xs F3 H3 (g.trans ((S.go g).pure s1 s3 s2 s4)) (g.new ((S.go g).newB h1) h1) h2 h3 r3 (p2 xs p3)⟩
theorem off_nil {K : PySem.W.Frag} {F H : Hp} {c : Addr} : (⟨K, F, H, none, []⟩ : Bs).off c := ⟨(fun z => nomatch z), (fun _ z => nomatch z)⟩
theorem start_stt {K : PySem.W.Frag} {F H : Hp} {vs : List V} {ds : List Dt} {N : List Str} {bag : Option Addr} {T : List (Addr × Str)} (s : Same F H) (r : RpAll K F vs ds) (hb : ∀ b, bag = some b → BagAt K F H b) (ht : LamX.Tabs T H) (htn : ∀ p ∈ T, F p.1 = none) :
    Stt ⟨K, F, H, bag, T⟩ (ds.map Sl.d ++ List.replicate (N.length - ds.length) Sl.no) (L2.start N vs) F H where
  sub := s
  s0 := Same.refl F
  ou := fun c _ h => h
  fr := fun c o h _ => h
  bg := hb
  tb := ht
  tn := htn
  len := by simp [L2.start, r.length]
  ok := fun i e o h1 h2 => by
    unfold L2.start at h2
    by_cases hi : i < ds.length
    · rw [List.getElem?_append_left (by simpa using hi)] at h1
      rw [List.getElem?_append_left (by simp [r.length]; exact hi)] at h2
      rw [List.getElem?_map] at h1 h2
      cases e1 : ds[i]? with
      | none => rw [e1] at h1; cases h1
      | some d =>
        obtain ⟨v, k1, k2⟩ := r.get e1
        rw [e1] at h1
        rw [k1] at h2
        cases h1; cases h2
        exact ⟨v, rfl, k2⟩
    · rw [List.getElem?_append_right (by simpa using hi)] at h1
      rw [List.getElem?_append_right (by simp [r.length]; omega)] at h2
      have q1 := List.mem_of_getElem? h1
      have q2 := List.mem_of_getElem? h2
      rw [List.eq_of_mem_replicate q1, List.eq_of_mem_replicate q2]
      rfl
  ow := fun i a xs h1 => by
    have hm := List.mem_of_getElem? h1
    rcases List.mem_append.mp hm with h | h
    · obtain ⟨d, _, e⟩ := List.mem_map.mp h; cases e
    · cases List.eq_of_mem_replicate h
  dis := fun i j a b xs ys _ h1 => by
    have hm := List.mem_of_getElem? h1
    rcases List.mem_append.mp hm with h | h
    · obtain ⟨d, _, e⟩ := List.mem_map.mp h; cases e
    · cases List.eq_of_mem_replicate h
  obw := fun i a C dx ns xs bs h1 => by
    have hm := List.mem_of_getElem? h1
    rcases List.mem_append.mp hm with h | h
    · obtain ⟨d, _, e⟩ := List.mem_map.mp h; cases e
    · cases List.eq_of_mem_replicate h
abbrev env0 (N : List Str) (ds : List Dt) : List Sl := ds.map Sl.d ++ List.replicate (N.length - ds.length) Sl.no
abbrev env1 (N : List Str) (b : Addr) (ds : List Dt) : List Sl := .r (.ref b) :: (ds.map Sl.d ++ List.replicate (N.length - (ds.length + 1)) Sl.no)
section
variable {P : Program} {w : World} {K : PySem.W.Frag} {mg : Str → Option Value} {base : Heap} {x qual : Str} {st : Stmt} {f : Addr} {fd : FuncData} {N ps : List Str} {k : Nat} {Pre : List Dt → Prop} {Post : List Dt → Dt → Prop}
theorem fn_data (G : Fun K x qual st f fd) (S : FnScope N ps (defScope st)) (hl : ∀ ds, Pre ds → ds.length = ps.length)
    (hb : ∀ (cdv : Value) (A : Around) (outer : List Env) (s : Shared) (H : Hp) (E : XK), Room k (A.deeper (PyProof.Rows.envOfC qual (defScope st) s.heap.objs.size f cdv)) →
      ∃ t, PSs (cxOf CX0 P w K mg base N qual (defScope st) f cdv A outer s H E).nox (defBody st) t ∧ ∀ F0 H0 ds, Pre ds → Sm ⟨K, F0, H0, none, []⟩ t (env0 N ds) { nx := fun _ => Post ds .non, bk := fun _ => False, ct := fun _ => False, rt := fun _ => Post ds }) :
    FnOk P w K mg base CX0 (k + 1) f fd ps (spD K Pre Post) := by
  refine G.ok S (fun vs H Q E h => ?_) (fun cdv A outer s H vs Q E hr h => ?_)
  · obtain ⟨F, ds, _, r, hp, _⟩ := h
    rw [r.length]; exact hl ds hp
  · obtain ⟨F, ds, hs, r, hp, q⟩ := h
    obtain ⟨t, hd, hm⟩ := hb cdv A outer s H E hr
    refine ⟨t, hd, hm F H ds hp _ F H _ (start_stt hs r (fun _ z => nomatch z) (fun _ z => nomatch z) (fun _ z => nomatch z)) (fun es' σ' F' H' S' s' p => ?_) (fun _ _ _ _ _ _ z => z.elim) (fun _ _ _ _ _ _ z => z.elim) (fun v d es' σ' F' H' S' s' rv p => ?_) (fun _ _ _ _ _ _ _ _ _ _ _ _ _ _ z => z.elim)⟩
    · exact q _ _ F' H' s' S'.ou S'.sub (fun c o e => S'.fr c o e off_nil) .non p
    · exact q _ _ F' H' s' S'.ou S'.sub (fun c o e => S'.fr c o e off_nil) rv p
/-- a def whose first argument is the drawing's list, changed within -/
theorem fn_draw (G : Fun K x qual st f fd) (S : FnScope N ps (defScope st)) (hl : ∀ ds, Pre ds → ds.length + 1 = ps.length)
    (hb : ∀ (cdv : Value) (A : Around) (outer : List Env) (s : Shared) (H : Hp) (E : XK), Room k (A.deeper (PyProof.Rows.envOfC qual (defScope st) s.heap.objs.size f cdv)) →
      ∃ t, PSs (cxOf CX0 P w K mg base N qual (defScope st) f cdv A outer s H E).nox (defBody st) t ∧ ∀ F0 H0 b xs ds, BagD xs → Pre ds →
        Sm ⟨K, F0, H0, none, []⟩ t (.own b xs :: (ds.map Sl.d ++ List.replicate (N.length - (ds.length + 1)) Sl.no)) { nx := fun _ => False, bk := fun _ => False, ct := fun _ => False, rt := fun es' d => Post ds d ∧ ∃ ys, es'[0]? = some (.own b ys) ∧ BagD ys }) :
    FnOk P w K mg base CX0 (k + 1) f fd ps (spB K Pre Post) := by
  refine G.ok S (fun vs H Q E h => ?_) (fun cdv A outer s H vs Q E hr h => ?_)
  · obtain ⟨b, ws, F, ds, rfl, _, _, r, hp, _⟩ := h
    rw [List.length_cons, r.length]; exact hl ds hp
  · obtain ⟨b, ws, F, ds, rfl, hs, ⟨hFb, us, xs, hus, hr0, hB⟩, r, hp, q⟩ := h
    obtain ⟨t, hd, hm⟩ := hb cdv A outer s H E hr
    let H0 : Hp := fun c => if c = b then none else H c
    have e0 : H0 b = none := if_pos rfl
    have e1 : ∀ c, c ≠ b → H0 c = H c := fun c hc => if_neg hc
    have S0 := start_stt (K := K) (F := F) (H := H) (vs := .non :: ws) (ds := .non :: ds) (N := N) (bag := none) (T := []) hs (.cons .non r) (fun _ z => nomatch z) (fun _ z => nomatch z) (fun _ z => nomatch z)
    have no : ∀ (j : Nat) c zs, (Sl.d .non :: (ds.map Sl.d ++ List.replicate (N.length - (ds.length + 1)) Sl.no))[j]? = some (.own c zs) → False := fun j c zs hj => by
      have hm := List.mem_of_getElem? hj
      rcases List.mem_cons.mp hm with h | h
      · cases h
      · rcases List.mem_append.mp h with h | h
        · obtain ⟨d, _, e⟩ := List.mem_map.mp h; cases e
        · cases List.eq_of_mem_replicate h
    have S1 : Stt ⟨K, F, H0, none, []⟩ (.d .non :: (ds.map Sl.d ++ List.replicate (N.length - (ds.length + 1)) Sl.no)) (L2.start N (.non :: ws)) F H := by
      refine ⟨S0.sub, S0.s0, fun c h1 h2 => h2, fun c o h1 _ => ?_, (fun _ z => nomatch z), (fun _ z => nomatch z), (fun _ z => nomatch z), S0.len, S0.ok, fun i a ys h1 => (no i a ys h1).elim, S0.dis, fun i a C dx ns xs bs h1 => by
        have hm := List.mem_of_getElem? h1
        rcases List.mem_cons.mp hm with h | h
        · cases h
        · rcases List.mem_append.mp h with h | h
          · obtain ⟨d, _, e⟩ := List.mem_map.mp h; cases e
          · cases List.eq_of_mem_replicate h⟩
      have h1 : H0 c = some o := h1
      by_cases hc : c = b
      · rw [hc, e0] at h1; cases h1
      · rw [e1 c hc] at h1; exact h1
    have S2 : Stt ⟨K, F, H0, none, []⟩ (.own b xs :: (ds.map Sl.d ++ List.replicate (N.length - (ds.length + 1)) Sl.no)) (L2.start N (.ref b :: ws)) F H :=
      S1.set (i := 0) (e := .own b xs) (o := some (.ref b)) ⟨us, rfl, hFb, hus, hr0⟩ fun c ys e => by
        cases e
        exact ⟨e0, off_nil, fun j c zs hj => (no j c zs hj).elim⟩
    refine ⟨t, hd, hm F H0 b xs ds hB hp _ F H _ S2 (fun _ _ _ _ _ _ z => z.elim) (fun _ _ _ _ _ _ z => z.elim) (fun _ _ _ _ _ _ z => z.elim) (fun v d es' σ' F' H' S' s' rv ⟨p, ys, hy, hB'⟩ => ?_) (fun _ _ _ _ _ _ _ _ _ _ _ _ _ _ z => z.elim)⟩
    obtain ⟨vs', k1, k2, k3, k4⟩ := S'.own hy
    refine q v d F' H' s' (fun c h1 h2 => ?_) S'.sub (fun c o hc ho => S'.fr c o (by show H0 c = some o; rw [e1 c hc]; exact ho) off_nil) ⟨k2, vs', ys, k3, k4, hB'⟩ rv p
    by_cases hc : c = b
    · rw [hc]; exact k2
    · exact S'.ou c (by show H0 c ≠ none; rw [e1 c hc]; exact h1) h2
/-- the promise of a def that hands back a new list -/
theorem fn_own {PostO : List Dt → List Dt → Prop} (G : Fun K x qual st f fd) (S : FnScope N ps (defScope st)) (hl : ∀ ds, Pre ds → ds.length = ps.length)
    (hb : ∀ (cdv : Value) (A : Around) (outer : List Env) (s : Shared) (H : Hp) (E : XK), Room k (A.deeper (PyProof.Rows.envOfC qual (defScope st) s.heap.objs.size f cdv)) →
      ∃ t, PSs (cxOf CX0 P w K mg base N qual (defScope st) f cdv A outer s H E).nox (defBody st) t ∧ ∀ F0 H0 ds, Pre ds → Sm ⟨K, F0, H0, none, []⟩ t (env0 N ds) { nx := fun _ => False, bk := fun _ => False, ct := fun _ => False, rt := fun _ _ => False, ro := PostO ds }) :
    FnOk P w K mg base CX0 (k + 1) f fd ps (spO K Pre PostO) := by
  refine G.ok S (fun vs H Q E h => ?_) (fun cdv A outer s H vs Q E hr h => ?_)
  · obtain ⟨F, ds, _, r, hp, _⟩ := h
    rw [r.length]; exact hl ds hp
  · obtain ⟨F, ds, hs, r, hp, q⟩ := h
    obtain ⟨t, hd, hm⟩ := hb cdv A outer s H E hr
    refine ⟨t, hd, hm F H ds hp _ F H _ (start_stt hs r (fun _ z => nomatch z) (fun _ z => nomatch z) (fun _ z => nomatch z)) (fun _ _ _ _ _ _ z => z.elim) (fun _ _ _ _ _ _ z => z.elim) (fun _ _ _ _ _ _ z => z.elim) (fun _ _ _ _ _ _ _ _ _ z => z.elim) (fun a vs xs es' σ' F' H' S' s' h1 h2 r1 h3 h4 p => ?_)⟩
    exact q a vs xs F' H' s' S'.ou S'.sub (fun c o e => S'.fr c o e off_nil) h3 h1 h2 r1 p
theorem start_sttB {F H : Hp} {vs : List V} {ds : List Dt} {b : Addr} (s : Same F H) (r : RpAll K F vs ds) (hb : BagAt K F H b) : Stt ⟨K, F, H, some b, []⟩ (env1 N b ds) (L2.start N (.ref b :: vs)) F H := by
  have S := start_stt (K := K) (F := F) (H := H) (vs := .non :: vs) (ds := .non :: ds) (N := N) (bag := some b) (T := []) s (.cons .non r) (fun b' e => by cases e; exact hb) (fun _ z => nomatch z) (fun _ z => nomatch z)
  have S2 := S.set (i := 0) (e := .r (.ref b)) (o := some (.ref b)) rfl fun _ _ e => nomatch e
  exact S2
theorem fn_bag (G : Fun K x qual st f fd) (S : FnScope N ps (defScope st)) (hl : ∀ ds, Pre ds → ds.length + 1 = ps.length)
    (hb : ∀ (cdv : Value) (A : Around) (outer : List Env) (s : Shared) (H : Hp) (E : XK), Room k (A.deeper (PyProof.Rows.envOfC qual (defScope st) s.heap.objs.size f cdv)) →
      ∃ t, PSs (cxOf CX0 P w K mg base N qual (defScope st) f cdv A outer s H E).nox (defBody st) t ∧ ∀ F0 H0 b ds, Pre ds → Sm ⟨K, F0, H0, some b, []⟩ t (env1 N b ds) { nx := fun _ => Post ds .non, bk := fun _ => False, ct := fun _ => False, rt := fun _ => Post ds }) :
    FnOk P w K mg base CX0 (k + 1) f fd ps (spB K Pre Post) := by
  refine G.ok S (fun vs H Q E h => ?_) (fun cdv A outer s H vs Q E hr h => ?_)
  · obtain ⟨b, ws, F, ds, rfl, _, _, r, hp, _⟩ := h
    rw [List.length_cons, r.length]; exact hl ds hp
  · obtain ⟨b, ws, F, ds, rfl, hs, hB, r, hp, q⟩ := h
    obtain ⟨t, hd, hm⟩ := hb cdv A outer s H E hr
    have nb : ∀ c, c ≠ b → (⟨K, F, H, some b, []⟩ : Bs).off c := fun c h => ⟨fun e => h (Option.some.inj e).symm, fun _ z => nomatch z⟩
    refine ⟨t, hd, hm F H b ds hp _ F H _ (start_sttB hs r hB) (fun es' σ' F' H' S' s' p => ?_) (fun _ _ _ _ _ _ z => z.elim) (fun _ _ _ _ _ _ z => z.elim) (fun v d es' σ' F' H' S' s' rv p => ?_) (fun _ _ _ _ _ _ _ _ _ _ _ _ _ _ z => z.elim)⟩
    · exact q _ _ F' H' s' S'.ou S'.sub (fun c o hc e => S'.fr c o e (nb c hc)) (S'.bg b rfl) .non p
    · exact q _ _ F' H' s' S'.ou S'.sub (fun c o hc e => S'.fr c o e (nb c hc)) (S'.bg b rfl) rv p
end
end Y
/-! Y4: rules by union, keyword calls, texts. -/
namespace Y
open PySem L2

/-! ### derivations: one rule for an operator, whatever the kinds -/
def rAddS' : R2 := fun x y H Q => ∃ i j, x = .str i ∧ y = .str j ∧ i.length + j.length ≤ sizeLine ∧ Q (.str (i ++ j)) H
def rPlus (K : PySem.W.Frag) : R2 := rAlt (rI0 fun i j => .int (i + j)) (rAlt rAddS' (rAlt rCat (rCatT K)))
def rInS1 : R2 := fun x y H Q => ∃ (c : Nat) (z : Str), x = .str ⟨#[c]⟩ ∧ y = .str z ∧ Q (.bl (decide (c ∈ z.cps.toList))) H
def rNiS1 : R2 := fun x y H Q => ∃ (c : Nat) (z : Str), x = .str ⟨#[c]⟩ ∧ y = .str z ∧ Q (.bl (!decide (c ∈ z.cps.toList))) H
def rInA (K : PySem.W.Frag) : R2 := rAlt (rIn K false) rInS1
def rNiA (K : PySem.W.Frag) : R2 := rAlt (rIn K true) rNiS1
def rEqA (K : PySem.W.Frag) : R2 := rAlt rEq (rEqD K)
def rNeA (K : PySem.W.Frag) : R2 := rAlt rNe (rNeD K)
def rIsN' : R2 := fun x y H Q => y = .non ∧ Q (.bl (decide (x = .non))) H
def rSlA (K : PySem.W.Frag) : V → Option Int → Option Int → Hp → VK → Prop := fun x lo hi H Q => rSlL K x lo hi H Q ∨ (rSlT K x lo hi H Q ∨ rSlS x lo hi H Q)
def rListA (K : PySem.W.Frag) : List V → Hp → VK → Prop := fun xs H Q => ∃ p ys, xs = [.ref p] ∧ (SqL K H p ys ∨ SqT K H p ys) ∧ ∀ l, H l = none → Q (.ref l) (upd H l (.lst ys))
def rTupleA (K : PySem.W.Frag) : List V → Hp → VK → Prop := fun xs H Q => ∃ p ys, xs = [.ref p] ∧ ((SqL K H p ys ∧ ∀ l, H l = none → Q (.ref l) (upd H l (.tup ys))) ∨ (SqT K H p ys ∧ Q (.ref p) H))
def rJoinA (K : PySem.W.Frag) : V → List V → Hp → VK → Prop := fun x xs H Q => ∃ a p, ∃ ys : List Str, x = .str a ∧ xs = [.ref p] ∧ (SqL K H p (ys.map V.str) ∨ SqT K H p (ys.map V.str)) ∧ (ys.map (·.length)).sum + ys.length * a.length ≤ 16777216 ∧ Q (.str (Txt.join a ys)) H
section
variable {X : Cx} {K : PySem.W.Frag}
theorem op_plus (hK : X.K = K := by rfl) : OpR X (binaryOp .Add) (rPlus K) := hK ▸ op_alt op_add (op_alt op_add_str (op_alt op_cat op_catT))
theorem op_inA (hK : X.K = K := by rfl) : OpR X (compareOp .In) (rInA K) := hK ▸ op_alt op_in_seq op_in_sign
theorem op_niA (hK : X.K = K := by rfl) : OpR X (compareOp .NotIn) (rNiA K) := hK ▸ op_alt op_notIn_seq op_notIn_sign
theorem op_eqA (hu : X.A.units + 64 < cLine) (hK : X.K = K := by rfl) : OpR X (compareOp .Eq) (rEqA K) := hK ▸ op_alt op_eq (op_eqD hu)
theorem op_neA (hu : X.A.units + 64 < cLine) (hK : X.K = K := by rfl) : OpR X (compareOp .NotEq) (rNeA K) := hK ▸ op_alt op_ne (op_neD hu)
theorem sl_any (hK : X.K = K := by rfl) : SlR X (rSlA K) := hK ▸ sl_list.or (sl_tup.or sl_str)
theorem ix_any (hK : X.K = K := by rfl) : IxR X (rIx K) := hK ▸ ix_seq
theorem call_lenA (hK : X.K = K := by rfl) : CallR X (.builtin "len") (rLenA K) := hK ▸ call_len
theorem call_isiA (hK : X.K = K := by rfl) : CallR X (.builtin "isinstance") (rIsi K) := hK ▸ call_isi
theorem call_isiTA (hK : X.K = K := by rfl) : CallR X (.builtin "isinstance") (rIsiT K) := hK ▸ call_isiT
theorem cr_allA (hc : X.calm = true) (hK : X.K = K := by rfl) : CallR X (.builtin "all") (rAll K) := hK ▸ cr_all hc
theorem cr_anyA (hc : X.calm = true) (hK : X.K = K := by rfl) : CallR X (.builtin "any") (rAny K) := hK ▸ cr_any hc
theorem call_listA (hK : X.K = K := by rfl) : CallR X (.type "list") (rListA K) := hK ▸ call_list_of
theorem call_tupleA (hK : X.K = K := by rfl) : CallR X (.type "tuple") (rTupleA K) := hK ▸ call_tuple_of
theorem pi_listA {tg l : Expr} {tl : TE} (hl : PE X l tl) (hK : X.K = K := by rfl) : PI X tg l (iList K tl) := hK ▸ pi_list hl
theorem pi_tupA {tg l : Expr} {tl : TE} (hl : PE X l tl) (hK : X.K = K := by rfl) : PI X tg l (iTup K tl) := hK ▸ pi_tup hl
theorem pi_zipB {e e2 : Expr} {ta : TA} {p pos tpos : Pos} {elts : List Expr} {kk : Nat} (hg : Gl X "zip") (hm : X.mg "zip" = none) (ha : PA X [e, e2] ta) (hK : X.K = K := by rfl)
    (hs : starEach [e, e2] X.env = (false, eval e X.env) :: starEach [e2] X.env := by rfl) (hpl : (backTo pos (starEach [e2] X.env)).any (·.1) = false := by rfl) :
    PI X (.Tuple elts kk tpos) (.Call (.Name "zip" p) [e, e2] [] pos) (RZ.iZipA K ta) := hK ▸ RZ.pi_zipA hg hm ha hs hpl
theorem pe_joinA {o e : Expr} {apos pos : Pos} {to te : TE} (ho : PE X o to) (he : PE X e te) (hK : X.K = K := by rfl) (hs : starEach [e] X.env = [(false, eval e X.env)] := by rfl) (hbase : attributeBase o "join" X.env (eval o X.env) = eval o X.env := by rfl) (hline : (apos.endLine == pos.line) = true := by rfl) :
    PE X (.Call (.Attribute o "join" apos) [e] [] pos) (tM1 (rJoinA K) to te) := hK ▸ pe_join ho he hs hbase hline
theorem pg_tupA {es : List Expr} {k : Nat} {t : TGs} {n : Nat} {pos : Pos} (hc : X.calm = true) (h : PGs X es t) (hK : X.K = K := by rfl)
    (hn : (assignEach es X.env).length = n := by rfl) (hst : (assignEach es X.env).findIdx? (·.1) = none := by rfl) : PG X (.Tuple es k pos) (gTup K n t) := hK ▸ pg_tup hc h hn hst
end
section
variable {X : Cx} {CX : CXT} {k : Nat} {f : Addr} {fd : FuncData} {ps ks : List Str} {sp : Sp} {E : XK} {x : Str} {p pos : Pos} {kws : List Keyword} {tk : TA} {g : List Value → List Value → List Value} {gV : List V → List V → List V}
/-- f(k = v, ..) without positional values -/
theorem pe_callN0 (G : FnOk X.prog X.w X.K X.mg X.base CX k f fd ps sp) (hr : Room k X.A) (hg : Gl X x) (hm : X.mg x = some (.ref f)) (hk : PySem.W.keepIn X.K (.ref f) = true) (hb : KBn X.K fd ps 0 ks g gV) (hx : Passes CX X E)
    (hkw : PK X kws tk) (hall : (backToKw pos (keywordEach kws X.env)).all (·.1.isSome) = true := by rfl) (hks : (backToKw pos (keywordEach kws X.env)).filterMap (·.1) = ks := by rfl)
    (hdb : (x == ("__debug__" : Str)) = false := by decide)
    (hpl : ((backTo pos (starEach [] X.env)).any (·.1) || (backToKw pos (keywordEach kws X.env)).any (·.1.isNone)) = false := by rfl) :
    PE X (.Call (.Name x p) [] kws pos) (tCallN 0 ks.length sp gV E tNil tk) :=
  ⟨fun pins s σ H Q I h => wpAny_Call_Name_kw (ld_glob I hg hm
    (PySem.W.callWith_KW0 (h₀ := X.base) I.ok.mod.kin hk hall (thn (hkw.run pos pins s σ H _ I h) fun ws s2 ⟨zs, H2, I2, rz, l1, l2, q2⟩ => ⟨I2.kIn, by
      rw [hks]
      exact run_fnN (us := []) (vs := []) G hr hb hx I2 .nil rz rfl l2 q2⟩) hpl) hdb)⟩
end

/-! ### the same over data -/
section
variable {B : Bs} {es : List Sl}
theorem o_plusI {i j : Int} {P : Dt → Prop} (hp : P (.int (i + j))) : Op2 B (rPlus B.K) es (.int i) (.int j) P := o_altL (o_i0 hp)
theorem o_plusS {x y : Str} {P : Dt → Prop} (hl : x.length + y.length ≤ 100000) (hp : P (.str (x ++ y))) : Op2 B (rPlus B.K) es (.str x) (.str y) P := o_altR (o_altL (o_catS hl hp))
theorem o_plusL {x y : List Dt} {P : Dt → Prop} (hl : x.length + y.length ≤ 100000) (hp : P (.lst (x ++ y))) : Op2 B (rPlus B.K) es (.lst x) (.lst y) P := o_altR (o_altR (o_altL (o_cat hl hp)))
theorem o_inAL {x : Dt} {ys : List Dt} {P : Dt → Prop} (hx : flatD x = true) (hy : ys.all flatD = true) (hp : P (.bl (inD x ys))) : Op2 B (rInA B.K) es x (.lst ys) P := o_altL (o_inL hx hy hp)
theorem o_inAT {x : Dt} {ys : List Dt} {P : Dt → Prop} (hx : flatD x = true) (hy : ys.all flatD = true) (hp : P (.bl (inD x ys))) : Op2 B (rInA B.K) es x (.tup ys) P := o_altL (o_inT hx hy hp)
theorem o_inAS {c : Nat} {z : Str} {P : Dt → Prop} (hp : P (.bl (decide (c ∈ z.cps.toList)))) : Op2 B (rInA B.K) es (.str ⟨#[c]⟩) (.str z) P := o_altR (o_inS hp)
theorem o_niAL {x : Dt} {ys : List Dt} {P : Dt → Prop} (hx : flatD x = true) (hy : ys.all flatD = true) (hp : P (.bl (!inD x ys))) : Op2 B (rNiA B.K) es x (.lst ys) P := o_altL (o_inL hx hy hp)
theorem o_niAT {x : Dt} {ys : List Dt} {P : Dt → Prop} (hx : flatD x = true) (hy : ys.all flatD = true) (hp : P (.bl (!inD x ys))) : Op2 B (rNiA B.K) es x (.tup ys) P := o_altL (o_inT hx hy hp)
theorem o_niAS {c : Nat} {z : Str} {P : Dt → Prop} (hp : P (.bl (!decide (c ∈ z.cps.toList)))) : Op2 B (rNiA B.K) es (.str ⟨#[c]⟩) (.str z) P := o_altR (o_niS hp)
theorem o_eqA {x y : Dt} {P : Dt → Prop} (hs : dScal x y = true) (hp : P (.bl (dEq x y))) : Op2 B (rEqA B.K) es x y P := o_altL (o_eq hs hp)
theorem o_neA {x y : Dt} {P : Dt → Prop} (hs : dScal x y = true) (hp : P (.bl (!dEq x y))) : Op2 B (rNeA B.K) es x y P := o_altL (o_ne hs hp)
/-! deep == of data without objects -/
mutual
def Dt.py : Dt → PyData
  | .non => .none
  | .bl b => .bool b
  | .int i => .int i
  | .str s => .str s
  | .lst xs => .list (pyAll xs)
  | .tup xs => .tuple (pyAll xs)
  | .obj _ _ _ => .none
  | .dct _ _ => .none
  | .ali _ => .none
def pyAll : List Dt → List PyData
  | [] => []
  | x :: xs => x.py :: pyAll xs
end
mutual
def Dt.pureD : Dt → Bool
  | .non => true
  | .bl _ => true
  | .int _ => true
  | .str _ => true
  | .lst xs => decide (xs.length < 50000) && pureAll xs
  | .tup xs => decide (xs.length < 50000) && pureAll xs
  | .obj _ _ _ => false
  | .dct _ _ => false
  | .ali _ => false
def pureAll : List Dt → Bool
  | [] => true
  | x :: xs => x.pureD && pureAll xs
end
mutual
theorem Rp.dp {K : PySem.W.Frag} {F H : Hp} (s : Same F H) : ∀ {v : V} {d : Dt}, Rp K F v d → d.pureD = true → Dp K H v d.py
  | _, _, .non, _ => by unfold Dt.py; exact .non
  | _, _, .bl b, _ => by unfold Dt.py; exact .bl b
  | _, _, .int i, _ => by unfold Dt.py; exact .int i
  | _, _, .str x, _ => by unfold Dt.py; exact .str x
  | _, _, .lst h r, p => by unfold Dt.py; unfold Dt.pureD at p; rw [Bool.and_eq_true] at p; exact .lst (SqL.of (s _ _ h)) (RpAll.dp s r p.2)
  | _, _, .tup h r, p => by unfold Dt.py; unfold Dt.pureD at p; rw [Bool.and_eq_true] at p; exact .tup (sqT_mono s h) (RpAll.dp s r p.2)
  | _, _, .obj _ _ _ _, p => by unfold Dt.pureD at p; cases p
  | _, _, .dct _ _ _ _, p => by unfold Dt.pureD at p; cases p
  | _, _, .ali _, p => by unfold Dt.pureD at p; cases p
theorem RpAll.dp {K : PySem.W.Frag} {F H : Hp} (s : Same F H) : ∀ {vs : List V} {ds : List Dt}, RpAll K F vs ds → pureAll ds = true → DpAll K H vs (pyAll ds)
  | _, _, .nil, _ => by unfold pyAll; exact .nil
  | _, _, .cons h t, p => by
    unfold pureAll at p
    rw [Bool.and_eq_true] at p
    unfold pyAll
    exact .cons (Rp.dp s h p.1) (RpAll.dp s t p.2)
end
def okD (d : Dt) : Bool := d.pureD && SeqAt.shaped d.py
theorem o_eqAD {x y : Dt} {P : Dt → Prop} (hx : okD x = true) (hy : okD y = true) (hp : P (.bl (PyData.eqv x.py y.py))) : Op2 B (rEqA B.K) es x y P := fun σ F H v w S a b Q k => by
  unfold okD at hx hy
  rw [Bool.and_eq_true] at hx hy
  exact .inr ⟨_, _, a.dp S.sub hx.1, b.dp S.sub hy.1, hx.2, hy.2, k _ _ F H S.refl (.bl _) hp⟩
theorem o_neAD {x y : Dt} {P : Dt → Prop} (hx : okD x = true) (hy : okD y = true) (hp : P (.bl (!PyData.eqv x.py y.py))) : Op2 B (rNeA B.K) es x y P := fun σ F H v w S a b Q k => by
  unfold okD at hx hy
  rw [Bool.and_eq_true] at hx hy
  exact .inr ⟨_, _, a.dp S.sub hx.1, b.dp S.sub hy.1, hx.2, hy.2, k _ _ F H S.refl (.bl _) hp⟩
/-- slices of a list, of a text -/
def EvP (B : Bs) (to : TO) (es : List Sl) (P : Option Int → Prop) : Prop := ∀ σ F H, Stt B es σ F H → ∀ Q : Option Int → Hp → Prop, (∀ o F' H', Go B F H F' H' → P o → Q o H') → to σ H Q
theorem ep_none {P : Option Int → Prop} (h : P none) : EvP B tNoPart es P := fun σ F H S Q q => q none F H S.refl h
theorem ep_some {te : TE} {P : Option Int → Prop} (h : Ev B te es fun d => ∃ i, d = .int i ∧ P (some i)) : EvP B (tPart te) es P := fun σ F H S Q q => h σ F H S _ fun v d F1 H1 g1 r1 ⟨i, e, p1⟩ => by
  subst e; cases r1; exact ⟨i, rfl, q _ F1 H1 g1 p1⟩
def cutD {α : Type} (xs : List α) (lo hi : Option Int) : List α := (xs.drop (HT.sIx xs.length 0 lo)).take (HT.sIx xs.length xs.length hi - HT.sIx xs.length 0 lo)
theorem RpAll.cut {K : PySem.W.Frag} {F : Hp} {vs : List V} {ds : List Dt} (lo hi : Option Int) (r : RpAll K F vs ds) : RpAll K F (cutV vs lo hi) (cutD ds lo hi) := by
  unfold cutV cutD
  rw [r.length]
  exact (r.drop _).take _
theorem eo_slL {te : TE} {tl th : TO} {P : List Dt → Prop} (h : Ev B te es fun d => ∃ xs, d = .lst xs ∧ EvP B tl es fun lo => EvP B th es fun hi => P (cutD xs lo hi)) : EvO B (tSl (rSlA B.K) te tl th) es P := fun σ F H S Q q => h σ F H S _ fun v d F1 H1 g1 r1 ⟨xs, e, p1⟩ => by
  subst e
  refine p1 σ F1 H1 (S.go g1) _ fun lo F2 H2 g2 p2 => p2 σ F2 H2 ((S.go g1).go g2) _ fun hi F3 H3 g3 p3 => ?_
  have g := (g1.trans g2).trans g3
  have S3 := S.go g
  cases r1 with
  | lst h1 h2 =>
    refine .inl ⟨_, _, rfl, SqL.of (g3.s2 _ _ ((g2.s1.trans g3.s1) _ _ h1)), fun p hp => ?_⟩
    exact q p _ _ F3 _ (g.trans (S3.allocO hp)) (g.new (S3.newB hp) hp) (same_none S3.sub hp) upd_same ((h2.mono (g2.s1.trans g3.s1)).cut lo hi) p3
theorem ev_slS {te : TE} {tl th : TO} {P : Dt → Prop} (h : Ev B te es fun d => ∃ z : Str, d = .str z ∧ z.length ≤ 100000 ∧ EvP B tl es fun lo => EvP B th es fun hi => P (.str (cutS z lo hi))) : Ev B (tSl (rSlA B.K) te tl th) es P := fun σ F H S Q q => h σ F H S _ fun v d F1 H1 g1 r1 ⟨z, e, hz, p1⟩ => by
  subst e
  refine p1 σ F1 H1 (S.go g1) _ fun lo F2 H2 g2 p2 => p2 σ F2 H2 ((S.go g1).go g2) _ fun hi F3 H3 g3 p3 => ?_
  cases r1
  exact .inr (.inr ⟨z, rfl, size_of hz, q _ _ F3 H3 ((g1.trans g2).trans g3) (.str _) p3⟩)
/-- sep.join(list of texts) -/
theorem ev_join {to te : TE} {P : Dt → Prop} (h : Ev B to es fun a => ∃ sep : Str, a = .str sep ∧ Ev B te es fun d => ∃ ys : List Str, (d = .lst (ys.map Dt.str) ∨ d = .tup (ys.map Dt.str)) ∧ (ys.map (·.length)).sum + ys.length * sep.length ≤ 16777216 ∧ P (.str (Txt.join sep ys))) :
    Ev B (tM1 (rJoinA B.K) to te) es P := fun σ F H S Q q => h σ F H S _ fun v a F1 H1 g1 r1 ⟨sep, e, p1⟩ => by
  subst e
  cases r1
  refine ⟨⟨sep, rfl⟩, p1 σ F1 H1 (S.go g1) _ fun w d F2 H2 g2 r2 ⟨ys, e2, hl, p2⟩ => ?_⟩
  rcases e2 with rfl | rfl
  · cases r2 with
    | lst h1 h2 =>
      have e := h2.texts
      subst e
      exact ⟨sep, _, ys, rfl, rfl, .inl (SqL.of (g2.s2 _ _ h1)), hl, q _ _ F2 H2 (g1.trans g2) (.str _) p2⟩
  · cases r2 with
    | tup h1 h2 =>
      have e := h2.texts
      subst e
      exact ⟨sep, _, ys, rfl, rfl, .inr (sqT_mono g2.s2 h1), hl, q _ _ F2 H2 (g1.trans g2) (.str _) p2⟩
/-- list(xs) -/
theorem eo_listOf {ta : TA} {P : List Dt → Prop} (h : EvA B ta es fun ds => ∃ xs, (ds = [.lst xs] ∨ ds = [.tup xs]) ∧ P xs) : EvO B (tCB (rListA B.K) ta) es P := fun σ F H S Q q => h σ F H S _ fun vs ds F1 H1 g1 r1 ⟨xs, e, p1⟩ => by
  have S1 := S.go g1
  rcases e with rfl | rfl
  · obtain ⟨v, rfl, r⟩ := rp1 r1
    cases r with
    | lst h1 h2 => exact ⟨_, _, rfl, .inl (SqL.of (g1.s2 _ _ h1)), fun p hp => q p _ _ F1 _ (g1.trans (S1.allocO hp)) (g1.new (S1.newB hp) hp) (same_none S1.sub hp) upd_same h2 p1⟩
  · obtain ⟨v, rfl, r⟩ := rp1 r1
    cases r with
    | tup h1 h2 => exact ⟨_, _, rfl, .inr (sqT_mono g1.s2 h1), fun p hp => q p _ _ F1 _ (g1.trans (S1.allocO hp)) (g1.new (S1.newB hp) hp) (same_none S1.sub hp) upd_same h2 p1⟩
end
end Y
/-! Y5: isinstance by kinds; the drawing; what the helpers of every law promise. -/
namespace Y
open PySem L2
section
variable {B : Bs} {es : List Sl}
def isIntD : Dt → Bool
  | .int _ => true
  | .bl _ => true
  | _ => false
def isBoolD : Dt → Bool
  | .bl _ => true
  | _ => false
def isStrD : Dt → Bool
  | .str _ => true
  | _ => false
def isLstD : Dt → Bool
  | .lst _ => true
  | _ => false
def isTupD : Dt → Bool
  | .tup _ => true
  | _ => false
theorem isi_int {x : Dt} (h : plainD x = true) : isiD "int" x = some (isIntD x) := by
  cases x with
  | non => show kitB "NoneType" "int" = some false; decide +kernel
  | bl _ => show kitB "bool" "int" = some true; decide +kernel
  | int _ => show kitB "int" "int" = some true; decide +kernel
  | str _ => show kitB "str" "int" = some false; decide +kernel
  | lst _ => show kitB "list" "int" = some false; decide +kernel
  | tup _ => show kitB "tuple" "int" = some false; decide +kernel
  | dct _ _ => show kitB "dict" "int" = some false; decide +kernel
  | obj _ _ _ => cases h
  | ali _ => cases h
theorem isi_bool {x : Dt} (h : plainD x = true) : isiD "bool" x = some (isBoolD x) := by
  cases x with
  | non => show kitB "NoneType" "bool" = some false; decide +kernel
  | bl _ => show kitB "bool" "bool" = some true; decide +kernel
  | int _ => show kitB "int" "bool" = some false; decide +kernel
  | str _ => show kitB "str" "bool" = some false; decide +kernel
  | lst _ => show kitB "list" "bool" = some false; decide +kernel
  | tup _ => show kitB "tuple" "bool" = some false; decide +kernel
  | dct _ _ => show kitB "dict" "bool" = some false; decide +kernel
  | obj _ _ _ => cases h
  | ali _ => cases h
theorem isi_str {x : Dt} (h : plainD x = true) : isiD "str" x = some (isStrD x) := by
  cases x with
  | non => show kitB "NoneType" "str" = some false; decide +kernel
  | bl _ => show kitB "bool" "str" = some false; decide +kernel
  | int _ => show kitB "int" "str" = some false; decide +kernel
  | str _ => show kitB "str" "str" = some true; decide +kernel
  | lst _ => show kitB "list" "str" = some false; decide +kernel
  | tup _ => show kitB "tuple" "str" = some false; decide +kernel
  | dct _ _ => show kitB "dict" "str" = some false; decide +kernel
  | obj _ _ _ => cases h
  | ali _ => cases h
theorem isi_list {x : Dt} (h : plainD x = true) : isiD "list" x = some (isLstD x) := by
  cases x with
  | non => show kitB "NoneType" "list" = some false; decide +kernel
  | bl _ => show kitB "bool" "list" = some false; decide +kernel
  | int _ => show kitB "int" "list" = some false; decide +kernel
  | str _ => show kitB "str" "list" = some false; decide +kernel
  | lst _ => show kitB "list" "list" = some true; decide +kernel
  | tup _ => show kitB "tuple" "list" = some false; decide +kernel
  | dct _ _ => show kitB "dict" "list" = some false; decide +kernel
  | obj _ _ _ => cases h
  | ali _ => cases h
theorem isi_tuple {x : Dt} (h : plainD x = true) : isiD "tuple" x = some (isTupD x) := by
  cases x with
  | non => show kitB "NoneType" "tuple" = some false; decide +kernel
  | bl _ => show kitB "bool" "tuple" = some false; decide +kernel
  | int _ => show kitB "int" "tuple" = some false; decide +kernel
  | str _ => show kitB "str" "tuple" = some false; decide +kernel
  | lst _ => show kitB "list" "tuple" = some false; decide +kernel
  | tup _ => show kitB "tuple" "tuple" = some true; decide +kernel
  | dct _ _ => show kitB "dict" "tuple" = some false; decide +kernel
  | obj _ _ _ => cases h
  | ali _ => cases h
theorem isi_lt {x : Dt} (h : plainD x = true) : isiDs ["list", "tuple"] x = some (isLstD x || isTupD x) := by
  cases x with
  | non => show anyIsi "NoneType" ["list", "tuple"] = some false; decide +kernel
  | bl _ => show anyIsi "bool" ["list", "tuple"] = some false; decide +kernel
  | int _ => show anyIsi "int" ["list", "tuple"] = some false; decide +kernel
  | str _ => show anyIsi "str" ["list", "tuple"] = some false; decide +kernel
  | lst _ => show anyIsi "list" ["list", "tuple"] = some true; decide +kernel
  | tup _ => show anyIsi "tuple" ["list", "tuple"] = some true; decide +kernel
  | dct _ _ => show anyIsi "dict" ["list", "tuple"] = some false; decide +kernel
  | obj _ _ _ => cases h
  | ali _ => cases h
theorem ev_isInt {te : TE} {P : Dt → Prop} (h : Ev B te es fun d => plainD d = true ∧ P (.bl (isIntD d))) : Ev B (tCB (rIsi B.K) (tCons te (tCons (tC (.ty "int")) tNil))) es P := ev_isi (h.imp fun d q => ⟨_, isi_int q.1, q.2⟩)
theorem ev_isBool {te : TE} {P : Dt → Prop} (h : Ev B te es fun d => plainD d = true ∧ P (.bl (isBoolD d))) : Ev B (tCB (rIsi B.K) (tCons te (tCons (tC (.ty "bool")) tNil))) es P := ev_isi (h.imp fun d q => ⟨_, isi_bool q.1, q.2⟩)
theorem ev_isStr {te : TE} {P : Dt → Prop} (h : Ev B te es fun d => plainD d = true ∧ P (.bl (isStrD d))) : Ev B (tCB (rIsi B.K) (tCons te (tCons (tC (.ty "str")) tNil))) es P := ev_isi (h.imp fun d q => ⟨_, isi_str q.1, q.2⟩)
theorem ev_isList {te : TE} {P : Dt → Prop} (h : Ev B te es fun d => plainD d = true ∧ P (.bl (isLstD d))) : Ev B (tCB (rIsi B.K) (tCons te (tCons (tC (.ty "list")) tNil))) es P := ev_isi (h.imp fun d q => ⟨_, isi_list q.1, q.2⟩)
theorem ev_isTuple {te : TE} {P : Dt → Prop} (h : Ev B te es fun d => plainD d = true ∧ P (.bl (isTupD d))) : Ev B (tCB (rIsi B.K) (tCons te (tCons (tC (.ty "tuple")) tNil))) es P := ev_isi (h.imp fun d q => ⟨_, isi_tuple q.1, q.2⟩)
theorem ev_isLT {te : TE} {P : Dt → Prop} (h : Ev B te es fun d => plainD d = true ∧ P (.bl (isLstD d || isTupD d))) : Ev B (tCB (rIsiT B.K) (tCons te (tCons (tTup (tCons (tC (.ty "list")) (tCons (tC (.ty "tuple")) tNil))) tNil))) es P := ev_isi2 (h.imp fun d q => ⟨_, isi_lt q.1, q.2⟩)
/-- tests of a value that is True or False -/
theorem bl_ex {b : Bool} {P : Bool → Prop} (h : P b) : ∃ c, Dt.bl b = .bl c ∧ P c := ⟨b, rfl, h⟩
theorem int_ex {b : Int} {P : Int → Prop} (h : P b) : ∃ c, Dt.int b = .int c ∧ P c := ⟨b, rfl, h⟩
theorem str_ex {b : Str} {P : Str → Prop} (h : P b) : ∃ c, Dt.str b = .str c ∧ P c := ⟨b, rfl, h⟩
theorem lst_ex {b : List Dt} {P : List Dt → Prop} (h : P b) : ∃ c, Dt.lst b = .lst c ∧ P c := ⟨b, rfl, h⟩
theorem tup_ex {b : List Dt} {P : List Dt → Prop} (h : P b) : ∃ c, Dt.tup b = .tup c ∧ P c := ⟨b, rfl, h⟩
/-- the two ways of a test -/
theorem ways {b : Bool} {X Y : Prop} (h1 : b = true → X) (h2 : b = false → Y) : (b = true → X) ∧ (b = false → Y) := ⟨h1, h2⟩
theorem way_t {b : Bool} {X Y : Prop} (e : b = true) (h : X) : (b = true → X) ∧ (b = false → Y) := ⟨fun _ => h, fun z => by rw [e] at z; cases z⟩
theorem way_f {b : Bool} {X Y : Prop} (e : b = false) (h : Y) : (b = true → X) ∧ (b = false → Y) := ⟨fun z => (by rw [e] at z; cases z), fun _ => h⟩
end

section
variable {B : Bs} {es : List Sl}
/-- [f(x) for x in xs], f a function -/
theorem eo_mapF {wi : TI} {g : TG} {te : TE} {vs : List Nat} {P : List Dt → Prop} (f : Dt → Dt) (h : EvI B wi es fun xs => xs.length < 100000 ∧
    (∀ x, x ∈ xs → TgC B g (wipeE es vs) vs x fun e2 => Ev B te e2 fun y => y = f x) ∧ P (xs.map f)) : EvO B (tLc wi g tYes te vs) es P :=
  eo_map fun σ F H S Q q => h σ F H S Q fun J xs F1 H1 g1 it ⟨hl, h1, h2⟩ => q J xs F1 H1 g1 it ⟨hl, fun x y => y = f x, fun i x hx => h1 x (List.mem_of_getElem? hx), fun ys hy hR => by
    have e : ys = xs.map f := by
      apply List.ext_getElem?
      intro i
      rw [List.getElem?_map]
      cases e1 : xs[i]? with
      | none =>
        have : xs.length ≤ i := List.getElem?_eq_none_iff.mp e1
        rw [List.getElem?_eq_none (by omega)]; rfl
      | some x =>
        have hi : i < ys.length := by rw [hy]; exact (List.getElem?_eq_some_iff.mp e1).1
        have e2 : ys[i]? = some ys[i] := by simp [hi]
        rw [e2, hR i x ys[i] e1 e2]; rfl
    rw [e]; exact h2⟩
/-- [f(c) for c in text] -/
theorem eo_mapS {te te' : TE} {j : Nat} {P : List Dt → Prop} (f : Nat → Dt) (h : Ev B te es fun d => ∃ z : Str, d = .str z ∧ z.cps.size < 100000 ∧
    (∀ c, c ∈ z.cps.toList → Ev B te' ((es.set j .no).set j (.d (.str ⟨#[c]⟩))) fun y => y = f c) ∧ P (z.cps.toList.map f)) : EvO B (tLc (iStr te) (gName j) tYes te' [j]) es P :=
  eo_map (ei_str (h.imp fun d ⟨z, e, hl, h1, h2⟩ => ⟨z, e, by rw [signsD_len]; exact hl, fun x y => ∀ c, x = .str ⟨#[c]⟩ → y = f c, fun i x hx => by
    have hm := List.mem_of_getElem? hx
    obtain ⟨c, hc, rfl⟩ := List.mem_map.mp hm
    refine tc_name ?_
    refine (h1 c hc).imp fun y hy c' e' => ?_
    injection e' with e'
    injection e' with e'
    have : c = c' := by simpa using e'
    rw [← this]; exact hy, fun ys hy hR => by
      have e : ys = z.cps.toList.map f := by
        apply List.ext_getElem?
        intro i
        rw [List.getElem?_map]
        rw [signsD_len] at hy
        cases e1 : z.cps.toList[i]? with
        | none =>
          have : z.cps.toList.length ≤ i := List.getElem?_eq_none_iff.mp e1
          rw [Array.length_toList] at this
          rw [List.getElem?_eq_none (by omega)]; rfl
        | some c =>
          have hi : i < ys.length := by
            have := (List.getElem?_eq_some_iff.mp e1).1
            rw [Array.length_toList] at this
            omega
          have e2 : ys[i]? = some ys[i] := by simp [hi]
          have e3 : (signsD z)[i]? = some (.str ⟨#[c]⟩) := by rw [signsD, List.getElem?_map, e1]; rfl
          rw [e2, hR i _ ys[i] e3 e2 c rfl]; rfl
      rw [e]; exact h2⟩))
/-- [c for c in text if t(c)] -/
theorem eo_filterS {te : TE} {tt : TT} {j : Nat} {P : List Dt → Prop} (f : Nat → Bool) (h : Ev B te es fun d => ∃ z : Str, d = .str z ∧ z.cps.size < 100000 ∧
    (∀ c, c ∈ z.cps.toList → EvT B tt ((es.set j .no).set j (.d (.str ⟨#[c]⟩))) fun b => b = f c) ∧ P ((z.cps.toList.filter f).map fun c => .str ⟨#[c]⟩)) (hj : j < es.length) : EvO B (tLc (iStr te) (gName j) tt (tVar j) [j]) es P :=
  eo_lc (ei_str (h.imp fun d ⟨z, e, hl, h1, h2⟩ => ⟨z, e, by rw [signsD_len]; exact hl, fun i acc => acc = ((z.cps.toList.take i).filter f).map fun c => .str ⟨#[c]⟩, rfl, fun i x acc hx ha => by
    rw [signsD, List.getElem?_map] at hx
    cases e1 : z.cps.toList[i]? with
    | none => rw [e1] at hx; cases hx
    | some c =>
      rw [e1] at hx
      cases hx
      refine tc_name ?_
      have ht : z.cps.toList.take (i + 1) = z.cps.toList.take i ++ [c] := by
        rw [List.take_add_one, e1]; rfl
      refine (h1 c (List.mem_of_getElem? e1)).imp fun b hb => ⟨fun hbt => ev_var (x := .str ⟨#[c]⟩) ?_ ?_, fun hbf => ?_⟩
      · show ((es.set j .no).set j (.d (.str ⟨#[c]⟩)))[j]? = _
        rw [List.getElem?_set_self (by rw [List.length_set]; exact hj)]
      · show _ = _
        rw [ht, List.filter_append, List.map_append, ha, List.filter_cons, if_pos (by rw [← hb]; exact hbt)]; rfl
      · show _ = _
        rw [ht, List.filter_append, List.map_append, ha, List.filter_cons, if_neg (by rw [← hb, hbf]; decide)]; simp, fun acc ha => by
    rw [ha]
    have : (signsD z).length = z.cps.toList.length := by simp [signsD]
    rw [this, List.take_length]
    exact h2⟩))
theorem c_allF {α : Type} {l : List α} {g : α → Bool} {P : Dt → Prop} (hp : P (.bl (l.all g))) : Cal B (rAll B.K) es [.lst (l.map fun c => .bl (g c))] P := by
  have e : (l.map fun c => Dt.bl (g c)) = (l.map g).map Dt.bl := by rw [List.map_map]; rfl
  rw [e]
  refine c_all ?_
  rw [List.all_map]
  exact hp
/-- the script, as it is handed in, is cut -/
theorem eo_slRaw {i : Nat} {a : Addr} {ns : List Int} {tl th : TO} {P : List Dt → Prop} (hi : es[i]? = some (.r (.ref a))) (hS : SqL B.K B.H0 a (ns.map V.int)) (hb : B.off a) (h : EvP B tl es fun lo => EvP B th es fun hi => P ((cutD ns lo hi).map Dt.int)) : EvO B (tSl (rSlA B.K) (tVar i) tl th) es P := fun σ F H S Q q =>
  ⟨_, S.raw hi, h σ F H S _ fun lo F1 H1 g1 p1 => p1 σ F1 H1 (S.go g1) _ fun hi' F2 H2 g2 p2 => by
    have g := g1.trans g2
    have S2 := S.go g
    have hS2 : SqL B.K H2 a (ns.map V.int) := by
      rcases hS with (k | ⟨o, k⟩) | k
      · exact .inl (.inl (S2.fr a _ k hb))
      · exact .inl (.inr ⟨o, S2.fr a _ k hb⟩)
      · exact .inr k
    have e : cutV (ns.map V.int) lo hi' = (cutD ns lo hi').map V.int := by
      unfold cutV cutD
      rw [List.length_map, List.map_take, List.map_drop]
    refine .inl ⟨a, _, rfl, hS2, fun p hp => q p _ _ F2 _ (g.trans (S2.allocO hp)) (g.new (S2.newB hp) hp) (same_none S2.sub hp) upd_same ?_ p2⟩
    rw [e]
    exact RpAll.of_ints⟩
theorem of_mem_ints {xs : List Int} {i : Nat} {x : Dt} (h : (xs.map Dt.int)[i]? = some x) : ∃ n, x = .int n := by
  obtain ⟨n, _, e⟩ := List.mem_map.mp (List.mem_of_getElem? h)
  exact ⟨n, e.symm⟩
end

theorem sm_cut {B : Bs} {es : List Sl} {p : Po} {t u : TS} (I : List Sl → Prop) (h1 : Sm B t es { p with nx := I }) (h2 : ∀ es', I es' → Sm B u es' p) : Sm B (tSeq t u) es p :=
  sm_seq (sm_imp (p' := { p with nx := I }) h1 h2 (fun _ h => h) (fun _ h => h) (fun _ _ h => h) (fun _ h => h))
theorem atI_of {xs : List Dt} {i : Int} (h0 : 0 ≤ i) (h1 : i < xs.length) : ∃ x, atI xs i = some x ∧ x ∈ xs := by
  have hi : i.toNat < xs.length := by omega
  refine ⟨xs[i.toNat], ?_, List.getElem_mem _⟩
  unfold atI ixN
  rw [if_pos h0, if_pos h1]
  simp [hi]
theorem atI_ofN {xs : List Nat} {i : Int} (h0 : 0 ≤ i) (h1 : i < xs.length) : ∃ x, atI xs i = some x ∧ x ∈ xs := by
  have hi : i.toNat < xs.length := by omega
  refine ⟨xs[i.toNat], ?_, List.getElem_mem _⟩
  unfold atI ixN
  rw [if_pos h0, if_pos h1]
  simp [hi]
theorem pairD_mem : ∀ {xs : List Dt} {p : Dt}, p ∈ pairD xs xs → ∃ x, x ∈ xs ∧ p = .tup [x, x]
  | [], p, h => by simp [pairD] at h
  | x :: xs, p, h => by
    rcases List.mem_cons.mp (show p ∈ .tup [x, x] :: pairD xs xs from h) with rfl | h
    · exact ⟨x, List.mem_cons_self .., rfl⟩
    · obtain ⟨y, hy, e⟩ := pairD_mem h
      exact ⟨y, List.mem_cons_of_mem _ hy, e⟩
theorem fn_none {P : Program} {w : World} {K : PySem.W.Frag} {mg : Str → Option Value} {base : Heap} {f : Addr} {fd : FuncData} {ps : List Str} {k : Nat} {Pre : List Dt → Prop} {Post : List Dt → Dt → Prop} (h : ∀ ds, ¬ Pre ds) : FnOk P w K mg base CX0 k f fd ps (spD K Pre Post) :=
  ⟨fun _ _ _ _ q => (by obtain ⟨F, ds, _, _, hp, _⟩ := q; exact (h ds hp).elim), fun _ _ _ _ _ _ _ _ _ _ _ _ _ q => (by obtain ⟨F, ds, _, _, hp, _⟩ := q; exact (h ds hp).elim)⟩

/-! ### the drawing -/
def drawPre (ds : List Dt) : Prop := ∃ n : Int, ds = [.int n] ∧ 0 < n ∧ n < 1073741824
def drawPost (ds : List Dt) (d : Dt) : Prop := ∃ n i : Int, ds = [.int n] ∧ d = .int i ∧ 0 ≤ i ∧ i < n
def itemsD : Dt → List Dt
  | .lst xs => xs
  | .tup xs => xs
  | .str z => signsD z
  | _ => []
def ofPre (ds : List Dt) : Prop := ∃ x, ds = [x] ∧ 0 < (itemsD x).length ∧ (itemsD x).length ≤ 100000
def ofPost (ds : List Dt) (d : Dt) : Prop := ∃ x, ds = [x] ∧ d ∈ itemsD x
mutual
def Dt.depth : Dt → Nat
  | .lst xs => depthAll xs + 1
  | .tup xs => depthAll xs + 1
  | .non => 0
  | .bl _ => 0
  | .int _ => 0
  | .str _ => 0
  | .obj _ _ _ => 0
  | .dct _ _ => 0
  | .ali _ => 0
def depthAll : List Dt → Nat
  | [] => 0
  | x :: xs => max x.depth (depthAll xs)
end
theorem depthAll_mem {n : Nat} : ∀ {xs : List Dt} {x : Dt}, x ∈ xs → depthAll xs ≤ n → x.depth ≤ n
  | y :: ys, x, h, hn => by
    unfold depthAll at hn
    rcases List.mem_cons.mp h with rfl | h
    · omega
    · exact depthAll_mem h (by omega)
theorem pureAll_mem : ∀ {xs : List Dt} {x : Dt}, x ∈ xs → pureAll xs = true → x.pureD = true
  | y :: ys, x, h, hn => by
    unfold pureAll at hn
    rw [Bool.and_eq_true] at hn
    rcases List.mem_cons.mp h with rfl | h
    · exact hn.1
    · exact pureAll_mem h hn.2
def samePre (n : Nat) (ds : List Dt) : Prop := ∃ x, ds = [x, x] ∧ x.pureD = true ∧ x.depth < n
def sameTrue (_ : List Dt) (d : Dt) : Prop := d = .bl true
/-- what is wrong in many places -/
def oddL : List Dt := [.non, .bl true, .bl false, .str "", .str "A", .int (-1), .int 999999999, .tup [], .lst [], .tup [.int 1], .lst [.str "a"], .str "a b", .tup [.str "a", .str "b"], .lst [.non]]
def oddPre (ds : List Dt) : Prop := ∃ xs, ds = [.lst xs] ∧ xs.length ≤ 1000
def oddPost (ds : List Dt) (d : Dt) : Prop := ∃ xs, ds = [.lst xs] ∧ d ∈ oddL ++ xs
/-- a number from l to m -/
def isNum (x : Dt) (l m : Int) : Bool := match x with
  | .int i => decide (l ≤ i) && decide (i ≤ m)
  | _ => false
def numPre (ds : List Dt) : Prop := ∃ x l m, ds = [x, .int l, .int m] ∧ plainD x = true
def numPost (ds : List Dt) (d : Dt) : Prop := ∃ x l m, ds = [x, .int l, .int m] ∧ d = .bl (isNum x l m)
/-- names: 1 to 6 small letters -/
def letters : List Nat := ("abcdefghijklmnopqrstuvwxyz" : Str).cps.toList
def isNameD (x : Dt) : Bool := match x with
  | .str z => decide ((1 : Int) ≤ z.length) && (decide ((z.length : Int) ≤ 6) && z.cps.toList.all fun c => decide (c ∈ letters))
  | _ => false
def isRegD (x : Dt) : Bool := match x with
  | .str z => inD (.str z) [.str "r0", .str "r1", .str "r2"]
  | _ => false
def txtOk (x : Dt) : Prop := ∀ z, x = .str z → z.cps.size < 1000 ∧ PyData.strOk z = true
def valPre (ds : List Dt) : Prop := ∃ x, ds = [x] ∧ plainD x = true ∧ txtOk x
def namePost (ds : List Dt) (d : Dt) : Prop := ∃ x, ds = [x] ∧ d = .bl (isNameD x)
def regPost (ds : List Dt) (d : Dt) : Prop := ∃ x, ds = [x] ∧ d = .bl (isRegD x)
def wordPost (ds : List Dt) (d : Dt) : Prop := ∃ x, ds = [x] ∧ d = .bl (isNum x 0 65535)
/-- what _law_bag promises: a new drawing -/
def spBag (K : PySem.W.Frag) : Sp := fun vs H Q _ => ∃ (a : Addr) (ns : List Int), vs = [.ref a] ∧ SqL K H a (ns.map V.int) ∧
  ∀ b F H', H b = none → Same F H' → Same H H' → (∀ c, H c ≠ none → F c = none) → BagAt K F H' b → Q (.ref b) H'
/-- the law: a list of at most 63 ints is handed in, True comes out -/
def spLaw (K : PySem.W.Frag) : Sp := fun vs H Q _ => ∃ (a : Addr) (ns : List Int), vs = [.ref a] ∧ SqL K H a (ns.map V.int) ∧ ns.length ≤ 63 ∧ ∀ H', Q (.bl true) H'
/-- .. with tables of code objects -/
def spLawT (K : PySem.W.Frag) (T : List (Addr × Str)) : Sp := fun vs H Q _ => ∃ (a : Addr) (ns : List Int), vs = [.ref a] ∧ SqL K H a (ns.map V.int) ∧ LamX.Tabs T H ∧ ns.length ≤ 63 ∧ ∀ H', Q (.bl true) H'
theorem start_raw {K : PySem.W.Frag} {H : Hp} {a : Addr} (N : List Str) : Stt ⟨K, fun _ => none, H, none, []⟩ (.r (.ref a) :: List.replicate (N.length - 1) Sl.no) (L2.start N [.ref a]) (fun _ => none) H where
  sub := fun _ _ h => nomatch h
  s0 := fun _ _ h => h
  ou := fun _ _ h => h
  fr := fun c o h _ => h
  bg := fun _ z => nomatch z
  tb := fun _ z => nomatch z
  tn := fun _ z => nomatch z
  len := by simp [L2.start]
  ok := fun i e o h1 h2 => by
    cases i with
    | zero =>
      cases h1
      have : (L2.start N [V.ref a])[0]? = some (some (.ref a)) := rfl
      rw [this] at h2
      cases h2
      rfl
    | succ i =>
      have h1 : (List.replicate (N.length - 1) Sl.no)[i]? = some e := h1
      have h2 : (List.replicate (N.length - 1) (none : Option V))[i]? = some o := h2
      rw [List.eq_of_mem_replicate (List.mem_of_getElem? h1), List.eq_of_mem_replicate (List.mem_of_getElem? h2)]
      rfl
  ow := fun i c xs h1 => by
    rcases List.mem_cons.mp (List.mem_of_getElem? h1) with h | h
    · cases h
    · cases List.eq_of_mem_replicate h
  dis := fun i j c e xs ys _ h1 => by
    rcases List.mem_cons.mp (List.mem_of_getElem? h1) with h | h
    · cases h
    · cases List.eq_of_mem_replicate h
  obw := fun i c C dx ns xs bs h1 => by
    rcases List.mem_cons.mp (List.mem_of_getElem? h1) with h | h
    · cases h
    · cases List.eq_of_mem_replicate h
section
variable {P : Program} {w : World} {K : PySem.W.Frag} {mg : Str → Option Value} {base : Heap} {x qual : Str} {st : Stmt} {f : Addr} {fd : FuncData} {N : List Str} {q : Str} {k : Nat}
theorem fn_newBag (G : Fun K x qual st f fd) (S : FnScope N [q] (defScope st))
    (hb : ∀ (cdv : Value) (A : Around) (outer : List Env) (s : Shared) (H : Hp) (E : XK), Room k (A.deeper (PyProof.Rows.envOfC qual (defScope st) s.heap.objs.size f cdv)) →
      ∃ t, PSs (cxOf CX0 P w K mg base N qual (defScope st) f cdv A outer s H E).nox (defBody st) t ∧ ∀ (H0 : Hp) (a : Addr) (ns : List Int), SqL K H0 a (ns.map V.int) → Sm ⟨K, fun _ => none, H0, none, []⟩ t (.r (.ref a) :: List.replicate (N.length - 1) Sl.no) { nx := fun _ => False, bk := fun _ => False, ct := fun _ => False, rt := fun _ _ => False, ro := BagD }) :
    FnOk P w K mg base CX0 (k + 1) f fd [q] (spBag K) := by
  refine G.ok S (fun vs H Q E h => ?_) (fun cdv A outer s H vs Q E hr h => ?_)
  · obtain ⟨a, ns, rfl, _⟩ := h; rfl
  · obtain ⟨a, ns, rfl, hS, q⟩ := h
    obtain ⟨t, hd, hm⟩ := hb cdv A outer s H E hr
    refine ⟨t, hd, hm H a ns hS _ _ H _ (start_raw N) (fun _ _ _ _ _ _ z => z.elim) (fun _ _ _ _ _ _ z => z.elim) (fun _ _ _ _ _ _ z => z.elim) (fun _ _ _ _ _ _ _ _ _ z => z.elim) (fun b vs xs es' σ' F' H' S' s' h1 h2 r1 h3 h4 p => ?_)⟩
    exact q b F' H' h3 S'.sub (fun c o e => S'.fr c o e off_nil) (fun c h => S'.ou c h rfl) ⟨h1, vs, xs, h2, r1, p⟩
/-- the law's own def: its first statement makes the drawing -/
theorem fn_law (G : Fun K x qual st f fd) (S : FnScope N [q] (defScope st))
    (hb : ∀ (cdv : Value) (A : Around) (outer : List Env) (s : Shared) (H : Hp) (E : XK), Room k (A.deeper (PyProof.Rows.envOfC qual (defScope st) s.heap.objs.size f cdv)) →
      ∃ t, PSs (cxOf CX0 P w K mg base N qual (defScope st) f cdv A outer s H E).nox (defBody st) (tSeq (tAsg (tCall (spBag K) [] E0 (tCons (tVar 0) tNil)) (gName 1)) t) ∧ ∀ F0 H0 a b, Sm ⟨K, F0, H0, some b, []⟩ t (.r (.ref a) :: .r (.ref b) :: List.replicate (N.length - 2) Sl.no) { nx := fun _ => False, bk := fun _ => False, ct := fun _ => False, rt := fun _ d => d = .bl true }) (hN : 2 ≤ N.length) :
    FnOk P w K mg base CX0 (k + 1) f fd [q] (spLaw K) := by
  refine G.ok S (fun vs H Q E h => ?_) (fun cdv A outer s H vs Q E hr h => ?_)
  · obtain ⟨a, ns, rfl, _⟩ := h; rfl
  · obtain ⟨a, ns, rfl, hS, _, q⟩ := h
    obtain ⟨t, hd, hm⟩ := hb cdv A outer s H E hr
    refine ⟨_, hd, .ref a, rfl, a, ns, rfl, hS, fun b F H' hn s1 s2 _ hB => ?_⟩
    have S0 := start_raw (K := K) (H := H') (a := a) N
    have S1 : Stt ⟨K, F, H', some b, []⟩ (.r (.ref a) :: List.replicate (N.length - 1) Sl.no) (L2.start N [.ref a]) F H' :=
      ⟨s1, Same.refl F, fun _ _ h => h, fun c o h _ => h, fun c e => by cases e; exact hB, (fun _ z => nomatch z), (fun _ z => nomatch z), S0.len, fun i e o h1 h2 => by
        have := S0.ok i e o h1 h2
        rcases List.mem_cons.mp (List.mem_of_getElem? h1) with h | h
        · rw [h] at this ⊢; exact this
        · rw [List.eq_of_mem_replicate h] at this ⊢; exact this, (fun i c xs h1 => by
        rcases List.mem_cons.mp (List.mem_of_getElem? h1) with h | h
        · cases h
        · cases List.eq_of_mem_replicate h), S0.dis, (fun i c C dx ns xs bs h1 => by
        rcases List.mem_cons.mp (List.mem_of_getElem? h1) with h | h
        · cases h
        · cases List.eq_of_mem_replicate h)⟩
    have S2 := S1.set (i := 1) (e := .r (.ref b)) (o := some (.ref b)) rfl fun _ _ e => nomatch e
    have e2 : (Sl.r (.ref a) :: List.replicate (N.length - 1) Sl.no).set 1 (.r (.ref b)) = .r (.ref a) :: .r (.ref b) :: List.replicate (N.length - 2) Sl.no := by
      obtain ⟨m, hm⟩ : ∃ m, N.length = m + 2 := ⟨N.length - 2, by omega⟩
      rw [hm]
      simp [List.replicate_succ]
    rw [e2] at S2
    exact hm F H' a b _ F H' _ S2 (fun _ _ _ _ _ _ z => z.elim) (fun _ _ _ _ _ _ z => z.elim) (fun _ _ _ _ _ _ z => z.elim) (fun v d es' σ' F' H2 S' s' rv e => by subst e; cases rv; exact q H2) (fun _ _ _ _ _ _ _ _ _ _ _ _ _ _ z => z.elim)
/-- .. with tables of code objects -/
theorem fn_lawT {T : List (Addr × Str)} (G : Fun K x qual st f fd) (S : FnScope N [q] (defScope st))
    (hb : ∀ (cdv : Value) (A : Around) (outer : List Env) (s : Shared) (H : Hp) (E : XK), Room k (A.deeper (PyProof.Rows.envOfC qual (defScope st) s.heap.objs.size f cdv)) →
      ∃ t, PSs (cxOf CX0 P w K mg base N qual (defScope st) f cdv A outer s H E).nox (defBody st) (tSeq (tAsg (tCall (spBag K) [] E0 (tCons (tVar 0) tNil)) (gName 1)) t) ∧ ∀ F0 H0 a b, Sm ⟨K, F0, H0, some b, T⟩ t (.r (.ref a) :: .r (.ref b) :: List.replicate (N.length - 2) Sl.no) { nx := fun _ => False, bk := fun _ => False, ct := fun _ => False, rt := fun _ d => d = .bl true }) (hN : 2 ≤ N.length) :
    FnOk P w K mg base CX0 (k + 1) f fd [q] (spLawT K T) := by
  refine G.ok S (fun vs H Q E h => ?_) (fun cdv A outer s H vs Q E hr h => ?_)
  · obtain ⟨a, ns, rfl, _⟩ := h; rfl
  · obtain ⟨a, ns, rfl, hS, hT, _, q⟩ := h
    obtain ⟨t, hd, hm⟩ := hb cdv A outer s H E hr
    refine ⟨_, hd, .ref a, rfl, a, ns, rfl, hS, fun b F H' hn s1 s2 hn0 hB => ?_⟩
    have S0 := start_raw (K := K) (H := H') (a := a) N
    have hF : ∀ p ∈ T, F p.1 = none := fun p hp => hn0 p.1 (by obtain ⟨ps, k, _⟩ := hT p hp; rw [k]; simp)
    have S1 : Stt ⟨K, F, H', some b, T⟩ (.r (.ref a) :: List.replicate (N.length - 1) Sl.no) (L2.start N [.ref a]) F H' :=
      ⟨s1, Same.refl F, fun _ _ h => h, fun c o h _ => h, fun c e => by cases e; exact hB, hT.ext s2, hF, S0.len, fun i e o h1 h2 => by
        have := S0.ok i e o h1 h2
        rcases List.mem_cons.mp (List.mem_of_getElem? h1) with h | h
        · rw [h] at this ⊢; exact this
        · rw [List.eq_of_mem_replicate h] at this ⊢; exact this, (fun i c xs h1 => by
        rcases List.mem_cons.mp (List.mem_of_getElem? h1) with h | h
        · cases h
        · cases List.eq_of_mem_replicate h), S0.dis, (fun i c C dx ns xs bs h1 => by
        rcases List.mem_cons.mp (List.mem_of_getElem? h1) with h | h
        · cases h
        · cases List.eq_of_mem_replicate h)⟩
    have S2 := S1.set (i := 1) (e := .r (.ref b)) (o := some (.ref b)) rfl fun _ _ e => nomatch e
    have e2 : (Sl.r (.ref a) :: List.replicate (N.length - 1) Sl.no).set 1 (.r (.ref b)) = .r (.ref a) :: .r (.ref b) :: List.replicate (N.length - 2) Sl.no := by
      obtain ⟨m, hm⟩ : ∃ m, N.length = m + 2 := ⟨N.length - 2, by omega⟩
      rw [hm]
      simp [List.replicate_succ]
    rw [e2] at S2
    exact hm F H' a b _ F H' _ S2 (fun _ _ _ _ _ _ z => z.elim) (fun _ _ _ _ _ _ z => z.elim) (fun _ _ _ _ _ _ z => z.elim) (fun v d es' σ' F' H2 S' s' rv e => by subst e; cases rv; exact q H2) (fun _ _ _ _ _ _ _ _ _ _ _ _ _ _ z => z.elim)
end
end Y
/-! Y6: lists of texts; drawn words; values of any kind. -/
namespace Y
open PySem L2
theorem pureAll_strs : ∀ ss : List Str, pureAll (ss.map Dt.str) = true
  | [] => by simp [pureAll]
  | s :: ss => by simp [pureAll, Dt.pureD, pureAll_strs ss]
theorem pyAll_strs : ∀ ss : List Str, pyAll (ss.map Dt.str) = ss.map PyData.str
  | [] => by simp [pyAll]
  | s :: ss => by simp [pyAll, Dt.py, pyAll_strs ss]
theorem lay_strs : ∀ ss : List Str, (∀ s ∈ ss, PyData.strOk s = true) → PyData.canLayAll0 (ss.map PyData.str) = true
  | [], _ => by simp [PyData.canLayAll0]
  | s :: ss, h => by
    simp only [List.map_cons, PyData.canLayAll0, PyData.canLay0, Bool.and_eq_true]
    exact ⟨h s (List.mem_cons_self ..), lay_strs ss fun t ht => h t (List.mem_cons_of_mem _ ht)⟩
theorem depth_strs : ∀ ss : List Str, PyData.depthAll (ss.map PyData.str) = 0
  | [] => by simp [PyData.depthAll]
  | s :: ss => by simp [PyData.depthAll, PyData.depth, depth_strs ss]
theorem okD_strs {ss : List Str} (hl : ss.length < 50000) (h : ∀ s ∈ ss, PyData.strOk s = true) : okD (.lst (ss.map Dt.str)) = true := by
  unfold okD
  simp only [Dt.pureD, Dt.py, List.length_map, pureAll_strs, pyAll_strs, SeqAt.shaped, PyData.canLay0, lay_strs ss h, PyData.depth, depth_strs]
  simp [hl]
theorem okD_nil : okD (.lst []) = true := okD_strs (ss := []) (by decide) (fun _ h => nomatch h)
theorem eqv_nil (xs : List PyData) : PyData.eqv (.list xs) (.list []) = xs.isEmpty := by
  cases xs <;> simp [PyData.eqv, PyData.eqvAll]
section
variable {B : Bs} {es : List Sl}
/-- a list of texts == [] -/
theorem o_eqNil {ss : List Str} {P : Dt → Prop} (hl : ss.length < 50000) (h : ∀ s ∈ ss, PyData.strOk s = true) (hp : P (.bl ss.isEmpty)) : Op2 B (rEqA B.K) es (.lst (ss.map Dt.str)) (.lst []) P := by
  refine o_eqAD (okD_strs hl h) okD_nil ?_
  have e : PyData.eqv (Dt.lst (ss.map Dt.str)).py (Dt.lst []).py = ss.isEmpty := by
    simp only [Dt.py, pyAll, pyAll_strs]
    rw [eqv_nil]
    cases ss <;> rfl
  rw [e]
  exact hp
/-- a joined text of single signs -/
theorem join_signs : ∀ cs : List Nat, (Str.join "" (cs.map fun c => ⟨#[c]⟩)).cps.toList = cs
  | [] => rfl
  | [c] => rfl
  | c :: e :: r => by
    have := TL.tl_join ("" : Str) ((c :: e :: r).map fun c => (⟨#[c]⟩ : Str))
    rw [show (Str.join "" ((c :: e :: r).map fun c => (⟨#[c]⟩ : Str))).cps.toList = TL.tl _ from rfl, this]
    have h0 : TL.tl ("" : Str) = [] := by decide +kernel
    rw [h0]
    have key : ∀ l : List Nat, TL.joinL [] ((l.map fun c => (⟨#[c]⟩ : Str)).map TL.tl) = l := by
      intro l
      induction l with
      | nil => rfl
      | cons a l ih =>
        cases l with
        | nil => rfl
        | cons b l =>
          show [a] ++ ([] ++ TL.joinL [] (((b :: l).map fun c => (⟨#[c]⟩ : Str)).map TL.tl)) = a :: b :: l
          rw [ih]; rfl
    exact key _
/-- ''.join([of(bag, TEXT) for k in range(draw(bag, n))]) -/
theorem ev_word {i j : Nat} {b : Addr} {n : Int} {lit : Str} {E E' : XK} {P : Dt → Prop} (hb : B.bag = some b) (hi : es[i]? = some (.r (.ref b))) (hij : j ≠ i) (hn : 0 < n ∧ n ≤ 1000) (hl : 0 < lit.cps.size ∧ lit.cps.size ≤ 1000)
    (h : ∀ z : Str, (z.cps.size : Int) < n → (∀ c ∈ z.cps.toList, c ∈ lit.cps.toList) → P (.str z)) :
    Ev B (tM1 (rJoinA B.K) (tC (.str "")) (tLc (iRng1 (tCons (tCall (spB B.K drawPre drawPost) [] E (tCons (tVar i) (tCons (tC (.int n)) tNil))) tNil)) (gName j) tYes (tCall (spB B.K ofPre ofPost) [] E' (tCons (tVar i) (tCons (tC (.str lit)) tNil))) [j])) es P := by
  refine ev_join (ev_str (str_ex (EvO.ev (eo_map (ei_rng1 (ea_cons (ev_callB hb hi (ea_cons (ev_int (ea_nil ⟨⟨n, rfl, hn.1, by omega⟩, ?_⟩))))))))))
  rintro d ⟨n', k, e, rfl, k1, k2⟩
  cases e
  refine ea_nil ⟨k, rfl, by omega, by omega, by rw [rangeD_len]; omega, fun _ y => ∃ c, c ∈ lit.cps.toList ∧ y = .str ⟨#[c]⟩, fun m x hx => ?_, fun ys hy hR => ?_⟩
  · refine tc_name (ev_callB hb ?_ (ea_cons (ev_str (ea_nil ⟨⟨_, rfl, ?_, ?_⟩, ?_⟩))))
    · show ((es.set j .no).set j (.d x))[i]? = _
      rw [List.getElem?_set_ne hij, List.getElem?_set_ne hij]; exact hi
    · show 0 < (signsD lit).length; rw [signsD_len]; exact hl.1
    · show (signsD lit).length ≤ _; rw [signsD_len]; omega
    · rintro d ⟨x', e, hm⟩
      cases e
      obtain ⟨c, hc, rfl⟩ := List.mem_map.mp hm
      exact ⟨c, hc, rfl⟩
  · rw [rangeD_len] at hy
    have key : ∀ (l : List Dt), (∀ y ∈ l, ∃ c, c ∈ lit.cps.toList ∧ y = Dt.str ⟨#[c]⟩) → ∃ cs : List Nat, (∀ c ∈ cs, c ∈ lit.cps.toList) ∧ l = (cs.map fun c => (⟨#[c]⟩ : Str)).map Dt.str := by
      intro l
      induction l with
      | nil => intro _; exact ⟨[], (fun _ h => nomatch h), rfl⟩
      | cons y l ih =>
        intro hl
        obtain ⟨c, hc, rfl⟩ := hl y (List.mem_cons_self ..)
        obtain ⟨cs, h1, h2⟩ := ih fun z hz => hl z (List.mem_cons_of_mem _ hz)
        refine ⟨c :: cs, fun e he => ?_, by rw [h2]; rfl⟩
        rcases List.mem_cons.mp he with rfl | he
        · exact hc
        · exact h1 e he
    obtain ⟨cs, h1, rfl⟩ := key ys fun y hm => by
      obtain ⟨m, hm⟩ := List.getElem?_of_mem hm
      have hlt := (List.getElem?_eq_some_iff.mp hm).1
      have hr : m < (rangeD 0 k.toNat).length := by rw [rangeD_len]; omega
      exact hR m _ y (List.getElem?_eq_getElem hr) hm
    rw [List.length_map, List.length_map] at hy
    refine ⟨cs.map fun c => (⟨#[c]⟩ : Str), .inl rfl, ?_, ?_⟩
    · have e1 : ((cs.map fun c => (⟨#[c]⟩ : Str)).map (·.length)).sum = cs.length := by
        clear h1 hR hy
        induction cs with
        | nil => rfl
        | cons c cs ih => simp only [List.map_cons, List.sum_cons, ih, List.length_cons]; show 1 + _ = _; omega
      have e2 : ("" : Str).length = 0 := by decide +kernel
      rw [e1, e2]
      omega
    · rw [TL.join_eq]
      have e := join_signs cs
      refine h _ ?_ ?_
      · rw [← Array.length_toList, e]; omega
      · rw [e]; exact h1
end
/-- a value of any kind, as is_name and its like may be handed -/
def goodV (x : Dt) : Bool := plainD x && (match x with | .str z => decide (z.cps.size < 1000) && PyData.strOk z | _ => true)
theorem goodV_pre {x : Dt} (h : goodV x = true) : plainD x = true ∧ txtOk x := by
  unfold goodV at h
  rw [Bool.and_eq_true] at h
  refine ⟨h.1, fun z e => ?_⟩
  subst e
  have := h.2
  rw [Bool.and_eq_true] at this
  exact ⟨of_decide_eq_true this.1, this.2⟩
theorem strOk_of {z lit : Str} (h : ∀ c ∈ z.cps.toList, c ∈ lit.cps.toList) (hl : PyData.strOk lit = true) : PyData.strOk z = true := by
  unfold PyData.strOk at *
  rw [Array.all_eq_true'] at *
  intro c hc
  exact hl c (by have := h c (by simpa using hc); simpa using this)
theorem all_mem {xs : List Dt} {p : Dt → Bool} (h : xs.all p = true) {x : Dt} (hx : x ∈ xs) : p x = true := List.all_eq_true.mp h x hx
/-! ### calls of the helpers: what is asked, what comes -/
theorem draw_k {n : Int} {R : Dt → Prop} (hn : 0 < n ∧ n < 1073741824) (h : ∀ i : Int, 0 ≤ i → i < n → R (.int i)) : drawPre [.int n] ∧ ∀ d, drawPost [.int n] d → R d :=
  ⟨⟨n, rfl, hn.1, hn.2⟩, fun d ⟨m, i, e, e2, k1, k2⟩ => by cases e; subst e2; exact h i k1 k2⟩
theorem of_k {xs : List Dt} {R : Dt → Prop} (h0 : 0 < xs.length ∧ xs.length ≤ 100000) (h : ∀ d, d ∈ xs → R d) : ofPre [.lst xs] ∧ ∀ d, ofPost [.lst xs] d → R d :=
  ⟨⟨_, rfl, h0.1, h0.2⟩, fun d ⟨y, e, hm⟩ => by cases e; exact h d hm⟩
theorem of_kT {xs : List Dt} {R : Dt → Prop} (h0 : 0 < xs.length ∧ xs.length ≤ 100000) (h : ∀ d, d ∈ xs → R d) : ofPre [.tup xs] ∧ ∀ d, ofPost [.tup xs] d → R d :=
  ⟨⟨_, rfl, h0.1, h0.2⟩, fun d ⟨y, e, hm⟩ => by cases e; exact h d hm⟩
theorem odd_k {xs : List Dt} {R : Dt → Prop} (h0 : xs.length ≤ 1000) (h : ∀ d, d ∈ oddL ++ xs → R d) : oddPre [.lst xs] ∧ ∀ d, oddPost [.lst xs] d → R d :=
  ⟨⟨_, rfl, h0⟩, fun d ⟨y, e, hm⟩ => by cases e; exact h d hm⟩
theorem same_k {n : Nat} {x y : Dt} {R : Dt → Prop} (e : x = y) (hp : y.pureD = true) (hd : y.depth < n) (h : R (.bl true)) : samePre n [x, y] ∧ ∀ d, sameTrue [x, y] d → R d :=
  ⟨⟨y, by rw [e], hp, hd⟩, fun d e => by cases e; exact h⟩
theorem num_k {x : Dt} {l m : Int} {R : Dt → Prop} (hp : plainD x = true) (h : R (.bl (isNum x l m))) : numPre [x, .int l, .int m] ∧ ∀ d, numPost [x, .int l, .int m] d → R d :=
  ⟨⟨_, _, _, rfl, hp⟩, fun d ⟨y, l, m, e, e2⟩ => by cases e; subst e2; exact h⟩
theorem name_k {x : Dt} {R : Dt → Prop} (hp : plainD x = true ∧ txtOk x) (h : R (.bl (isNameD x))) : valPre [x] ∧ ∀ d, namePost [x] d → R d :=
  ⟨⟨_, rfl, hp⟩, fun d ⟨y, e, e2⟩ => by cases e; subst e2; exact h⟩
theorem reg_k {x : Dt} {R : Dt → Prop} (hp : plainD x = true ∧ txtOk x) (h : R (.bl (isRegD x))) : valPre [x] ∧ ∀ d, regPost [x] d → R d :=
  ⟨⟨_, rfl, hp⟩, fun d ⟨y, e, e2⟩ => by cases e; subst e2; exact h⟩
theorem word_k {x : Dt} {R : Dt → Prop} (hp : plainD x = true ∧ txtOk x) (h : R (.bl (isNum x 0 65535))) : valPre [x] ∧ ∀ d, wordPost [x] d → R d :=
  ⟨⟨_, rfl, hp⟩, fun d ⟨y, e, e2⟩ => by cases e; subst e2; exact h⟩
theorem good_str {z lit : Str} {n : Int} (h1 : (z.cps.size : Int) < n) (hn : n ≤ 1000) (h : ∀ c ∈ z.cps.toList, c ∈ lit.cps.toList) (hl : PyData.strOk lit = true) : goodV (.str z) = true := by
  have h2 : z.cps.size < 1000 := by omega
  show (true && (decide (z.cps.size < 1000) && PyData.strOk z)) = true
  rw [decide_eq_true h2, strOk_of h hl]; rfl
theorem good_odd : oddL.all goodV = true := by decide +kernel
end Y
/-! Y7: list(text), dicts, defs with defaults, expressions that change a list of one's own. -/
namespace Y
open PySem L2

/-! ### list(text) -/
def rListS (xs : List V) (H : Hp) (Q : VK) : Prop := ∃ z : Str, xs = [.str z] ∧ z.cps.size ≤ 100000 ∧ ∀ l, H l = none → Q (.ref l) (upd H l (.lst (z.cps.toList.map fun c => V.str ⟨#[c]⟩)))
theorem call_listS {X : Cx} (hc : X.calm = true) : CallR X (.type "list") rListS := by
  intro pins s σ H xs us Q I r h
  obtain ⟨z, rfl, hz, q⟩ := h
  obtain ⟨u, rfl, rx⟩ := vals1 r
  obtain ⟨t, rfl⟩ := rx
  refine call_list_str (I.ok.hd hc) z t (fun h' tk acc c' hk e hi => ?_) (size_of hz)
  refine ⟨.ref s.heap.objs.size, upd H s.heap.objs.size (.lst (z.cps.toList.map fun c => V.str ⟨#[c]⟩)), I.laid hk (Nat.le_refl _) ⟨?_, acc.toList, c', ?_, ?_⟩, rfl, q _ (I.hok.fresh (Nat.le_refl _))⟩
  · rw [List.length_map, Array.length_toList]; exact size_of hz
  · refine vals_of_idx _ _ (by rw [List.length_map, Array.length_toList, Array.length_toList]; exact hi.1) fun j u hj => ?_
    obtain ⟨c, t', hc', rfl⟩ := hi.2 j u (by rw [← Array.getElem?_toList]; exact hj)
    exact ⟨.str ⟨#[c]⟩, by rw [List.getElem?_map, Array.getElem?_toList, hc']; rfl, ⟨_, rfl⟩⟩
  · rw [Array.toArray_toList]; exact e
def rListB (K : PySem.W.Frag) : List V → Hp → VK → Prop := cAlt (rListA K) rListS
theorem call_listB {X : Cx} {K : PySem.W.Frag} (hc : X.calm = true) (hK : X.K = K := by rfl) : CallR X (.type "list") (rListB K) := call_alt (call_listA hK) (call_listS hc)
section
variable {B : Bs} {es : List Sl}
theorem eo_listS {ta : TA} {P : List Dt → Prop} (h : EvA B ta es fun ds => ∃ z : Str, ds = [.str z] ∧ z.cps.size ≤ 100000 ∧ P (signsD z)) : EvO B (tCB (rListB B.K) ta) es P := fun σ F H S Q q => h σ F H S _ fun vs ds F1 H1 g1 r1 ⟨z, e, hz, p1⟩ => by
  subst e
  obtain ⟨v, rfl, r⟩ := rp1 r1
  cases r
  have S1 := S.go g1
  refine .inr ⟨z, rfl, hz, fun p hp => q p _ _ F1 _ (g1.trans (S1.allocO hp)) (g1.new (S1.newB hp) hp) (same_none S1.sub hp) upd_same ?_ p1⟩
  unfold signsD
  generalize z.cps.toList = l
  induction l with
  | nil => exact .nil
  | cons c l ih => exact .cons (.str _) ih
theorem eo_listL {ta : TA} {P : List Dt → Prop} (h : EvA B ta es fun ds => ∃ xs, (ds = [.lst xs] ∨ ds = [.tup xs]) ∧ P xs) : EvO B (tCB (rListB B.K) ta) es P := fun σ F H S Q q => h σ F H S _ fun vs ds F1 H1 g1 r1 ⟨xs, e, p1⟩ => by
  have S1 := S.go g1
  rcases e with rfl | rfl
  · obtain ⟨v, rfl, r⟩ := rp1 r1
    cases r with
    | lst h1 h2 => exact .inl ⟨_, _, rfl, .inl (SqL.of (g1.s2 _ _ h1)), fun p hp => q p _ _ F1 _ (g1.trans (S1.allocO hp)) (g1.new (S1.newB hp) hp) (same_none S1.sub hp) upd_same h2 p1⟩
  · obtain ⟨v, rfl, r⟩ := rp1 r1
    cases r with
    | tup h1 h2 => exact .inl ⟨_, _, rfl, .inr (sqT_mono g1.s2 h1), fun p hp => q p _ _ F1 _ (g1.trans (S1.allocO hp)) (g1.new (S1.newB hp) hp) (same_none S1.sub hp) upd_same h2 p1⟩

/-! ### expressions that change lists of one's own -/
def EvM (B : Bs) (te : TE) (es : List Sl) (P : Dt → List Sl → Prop) : Prop := ∀ σ F H, Stt B es σ F H → ∀ Q : VK,
  (∀ v d es' F' H', Same F F' → Stt B es' σ F' H' → Rp B.K F' v d → P d es' → Q v H') → te σ H Q
theorem Ev.m {te : TE} {P : Dt → List Sl → Prop} (h : Ev B te es fun d => P d es) : EvM B te es P := fun σ F H S Q q => h σ F H S Q fun v d F1 H1 g1 r1 p1 => q v d es F1 H1 g1.s1 (S.go g1) r1 p1
theorem em_op {r : R2} {ta tb : TE} {P : Dt → List Sl → Prop} (h : EvM B ta es fun x e1 => EvM B tb e1 fun y e2 => Op2 B r e2 x y fun d => P d e2) : EvM B (tOp r ta tb) es P := fun σ F H S Q q =>
  h σ F H S _ fun v x e1 F1 H1 s1 S1 r1 p1 => p1 σ F1 H1 S1 _ fun w y e2 F2 H2 s2 S2 r2 p2 => p2 σ F2 H2 v w S2 (r1.mono s2) r2 Q fun u d F3 H3 g3 r3 p3 => q u d e2 F3 H3 ((s1.trans s2).trans g3.s1) (S2.go g3) r3 p3
theorem em_pop {i : Nat} {a : Addr} {xs : List Dt} {te : TE} {P : Dt → List Sl → Prop} (hi : es[i]? = some (.own a xs)) (h : Ev B te es fun y => ∃ j : Int, y = .int j ∧ 0 ≤ j ∧ j < xs.length ∧ j < 100000 ∧ ∀ x, xs[j.toNat]? = some x → P x (es.set i (.own a (xs.eraseIdx j.toNat)))) :
    EvM B (tBM B.K "list" rPopAt (tVar i) (tCons te tNil)) es P := fun σ F H S Q q => by
  obtain ⟨vs, h1, h2, h3, h4⟩ := S.own hi
  refine ⟨_, h1, .inl ⟨rfl, _, SqL.of h3⟩, h σ F H S _ fun w y F1 H1 g1 r1 ⟨j, e, j0, j1, j2, p1⟩ => ?_⟩
  subst e
  cases r1
  have S1 := S.go g1
  obtain ⟨vs', k1, k2, k3, k4⟩ := S1.own hi
  have hj : j.toNat < xs.length := by omega
  have hv : j.toNat < vs'.length := by rw [k4.length]; exact hj
  have ev : vs'[j.toNat]? = some vs'[j.toNat] := by simp [hv]
  obtain ⟨x, hx, rx⟩ := k4.getV ev
  have er : RpAll B.K F1 (vs'.eraseIdx j.toNat) (xs.eraseIdx j.toNat) := by
    rw [List.eraseIdx_eq_take_drop_succ, List.eraseIdx_eq_take_drop_succ]
    exact (k4.take _).app (k4.drop _)
  refine ⟨a, vs', j, j.toNat, vs'[j.toNat], rfl, rfl, k3, by omega, by omega, ?_, ev, q _ _ _ F1 _ g1.s1 (S1.change hi k1 k2 er) rx (p1 x hx)⟩
  have e1 : (if j < 0 then j + (vs'.length : Int) else j) = j := if_neg (by omega)
  have e2 : (decide (0 ≤ j) && decide (j < (vs'.length : Int))) = true := by
    rw [decide_eq_true j0, decide_eq_true (show j < (vs'.length : Int) by omega)]; rfl
  show (if (decide (0 ≤ (if j < 0 then j + (vs'.length : Int) else j)) && decide ((if j < 0 then j + (vs'.length : Int) else j) < (vs'.length : Int))) = true then some (if j < 0 then j + (vs'.length : Int) else j).toNat else none) = some j.toNat
  rw [e1, e2]; rfl
theorem sm_appendM {p : Po} {i : Nat} {te : TE} {a : Addr} {xs : List Dt} (hi : es[i]? = some (.own a xs)) (h : EvM B te es fun d e1 => e1[i]? = some (.own a xs) ∧ xs.length < 100000 ∧ p.nx (e1.set i (.own a (xs ++ [d])))) : Sm B (tDrop (tBM B.K "list" rAppend (tVar i) (tCons te tNil))) es p := fun σ F H D S n _ _ _ _ => by
  obtain ⟨vs, h1, h2, h3, h4⟩ := S.own hi
  refine ⟨_, h1, .inl ⟨rfl, _, SqL.of h3⟩, h σ F H S _ fun v d e1 F1 H1 s1 S1 r1 ⟨hi1, p1, p2⟩ => ?_⟩
  obtain ⟨vs', k1, k2, k3, k4⟩ := S1.own hi1
  exact ⟨a, vs', v, rfl, rfl, k3, size_lt (by rw [k4.length]; exact p1), n _ _ F1 _ (S1.change hi1 h1 k2 (k4.app (.cons r1 .nil))) s1 p2⟩
theorem sm_reverse {p : Po} {i : Nat} {a : Addr} {xs : List Dt} (hi : es[i]? = some (.own a xs)) (h : p.nx (es.set i (.own a xs.reverse))) : Sm B (tDrop (tBM0 B.K "list" rReverse (tVar i))) es p := fun σ F H D S n _ _ _ _ => by
  obtain ⟨vs, h1, h2, h3, h4⟩ := S.own hi
  have er : ∀ {us : List V} {ds : List Dt}, RpAll B.K F us ds → RpAll B.K F us.reverse ds.reverse := by
    intro us ds r
    induction us generalizing ds with
    | nil => cases r; exact .nil
    | cons u us ih =>
      cases r with
      | cons r t =>
        rw [List.reverse_cons, List.reverse_cons]
        exact (ih t).app (.cons r .nil)
  exact ⟨_, h1, .inl ⟨rfl, _, SqL.of h3⟩, a, vs, rfl, rfl, h3, n _ _ F _ (S.change hi h1 h2 (er h4)) (Same.refl F) h⟩

/-! ### a list of one's own within a datum: told by its address, seen as a datum for the time of a call -/
mutual
def Dt.see (a : Addr) (xs : List Dt) : Dt → Dt
  | .ali c => if c = a then .lst xs else .ali c
  | .lst ds => .lst (seeAll a xs ds)
  | .tup ds => .tup (seeAll a xs ds)
  | .non => .non
  | .bl b => .bl b
  | .int i => .int i
  | .str s => .str s
  | .obj C ns ds => .obj C ns (seeAll a xs ds)
  | .dct ks ds => .dct ks (seeAll a xs ds)
def seeAll (a : Addr) (xs : List Dt) : List Dt → List Dt
  | [] => []
  | d :: ds => d.see a xs :: seeAll a xs ds
end
mutual
theorem Rp.see {K : PySem.W.Frag} {F F' : Hp} {a : Addr} {xs : List Dt} (s : Same F F') (h : Rp K F' (.ref a) (.lst xs)) : ∀ {v : V} {d : Dt}, Rp K F v d → Rp K F' v (d.see a xs)
  | _, _, .non => by unfold Dt.see; exact .non
  | _, _, .bl b => by unfold Dt.see; exact .bl b
  | _, _, .int i => by unfold Dt.see; exact .int i
  | _, _, .str x => by unfold Dt.see; exact .str x
  | _, _, .lst h1 r => by unfold Dt.see; exact .lst (s _ _ h1) (RpAll.see s h r)
  | _, _, .tup h1 r => by unfold Dt.see; exact .tup (sqT_mono s h1) (RpAll.see s h r)
  | _, _, .obj h1 h2 h3 r => by unfold Dt.see; exact .obj (s _ _ h1) h2 h3 (RpAll.see s h r)
  | _, _, .dct h1 h2 h3 r => by unfold Dt.see; exact .dct (s _ _ h1) h2 h3 (RpAll.see s h r)
  | _, _, .ali c => by
    unfold Dt.see
    by_cases e : c = a
    · rw [if_pos e, e]; exact h
    · rw [if_neg e]; exact .ali c
theorem RpAll.see {K : PySem.W.Frag} {F F' : Hp} {a : Addr} {xs : List Dt} (s : Same F F') (h : Rp K F' (.ref a) (.lst xs)) : ∀ {vs : List V} {ds : List Dt}, RpAll K F vs ds → RpAll K F' vs (seeAll a xs ds)
  | _, _, .nil => by unfold seeAll; exact .nil
  | _, _, .cons r t => by unfold seeAll; exact .cons (Rp.see s h r) (RpAll.see s h t)
end
theorem ev_varOwn {i : Nat} {a : Addr} {xs : List Dt} {P : Dt → Prop} (hi : es[i]? = some (.own a xs)) (h : P (.ali a)) : Ev B (tVar i) es P := fun σ F H S Q q => by
  obtain ⟨vs, h1, h2, h3, h4⟩ := S.own hi
  exact ⟨_, h1, q _ _ F H S.refl (.ali a) h⟩
def scD : Dt → Bool
  | .non => true | .bl _ => true | .int _ => true | .str _ => true
  | _ => false
theorem rp_sc {K : PySem.W.Frag} {F F' : Hp} {v : V} {d : Dt} (r : Rp K F v d) (h : scD d = true) : Rp K F' v d := by
  cases r <;> first | exact .non | exact .bl _ | exact .int _ | exact .str _ | cases h
/-- a pure def is called with data that tell of the list at slot i -/
theorem ev_callSee {i : Nat} {a : Addr} {xs : List Dt} {Pre : List Dt → Prop} {Post : List Dt → Dt → Prop} {E : XK} {ta : TA} {P : Dt → Prop} (hi : es[i]? = some (.own a xs)) (h : EvA B ta es fun ds => Pre (seeAll a xs ds) ∧ ∀ d, Post (seeAll a xs ds) d → scD d = true ∧ P d) : Ev B (tCall (spD B.K Pre Post) [] E ta) es P := fun σ F H S Q q =>
  h σ F H S _ fun vs ds F1 H1 g1 r1 ⟨p1, p2⟩ => by
    rw [List.append_nil]
    have S1 := S.go g1
    obtain ⟨ws, h1, h2, h3, h4⟩ := S1.own hi
    have s1 : Same F1 (upd F1 a (.lst ws)) := same_upd h2
    have sH : Same (upd F1 a (.lst ws)) H1 := fun c o e => by
      by_cases hc : c = a
      · subst hc; rw [upd_same] at e; rw [h3, e]
      · rw [upd_ne hc] at e; exact S1.sub c o e
    refine ⟨_, _, sH, RpAll.see s1 (.lst upd_same (h4.mono s1)) r1, p1, fun v d F2 H2 s1 s2 s3 s4 r2 p3 => ?_⟩
    obtain ⟨hs, hp⟩ := p2 d p3
    exact q v d F1 H2 (g1.trans (S1.pure (Same.refl F1) (S1.sub.trans s4) (fun _ _ h => h) s4)) (rp_sc r2 hs) hp

/-! ### dicts -/
def getK (ks : List Key) (xs : List Dt) (k : Key) : Option Dt := match ks, xs with
  | a :: ks, x :: xs => if a = k then some x else getK ks xs k
  | _, _ => none
theorem getK_of {K : PySem.W.Frag} {F : Hp} (k : Key) : ∀ {kvs : List (Key × V)} {ds : List Dt}, RpAll K F (kvs.map (·.2)) ds → (∀ d, getK (kvs.map (·.1)) ds k = some d → ∃ v, valV kvs k = some v ∧ Rp K F v d) ∧ (getK (kvs.map (·.1)) ds k = none → valV kvs k = none)
  | [], ds, r => by
    cases r
    exact ⟨(fun d h => nomatch h), fun _ => rfl⟩
  | (a, v) :: kvs, ds, r => by
    cases r with
    | cons r1 r2 =>
      have ih := getK_of k r2
      unfold valV
      show (∀ d, (if a = k then some _ else getK _ _ k) = some d → _) ∧ ((if a = k then some _ else getK _ _ k) = none → _)
      by_cases h : a = k
      · rw [if_pos h]
        refine ⟨fun d e => ?_, fun e => nomatch e⟩
        cases e
        exact ⟨v, by simp [h], r1⟩
      · rw [if_neg h]
        refine ⟨fun d e => ?_, fun e => ?_⟩
        · obtain ⟨u, h1, h2⟩ := ih.1 d e
          refine ⟨u, ?_, h2⟩
          unfold valV at h1
          simpa [List.find?_cons, h] using h1
        · have := ih.2 e
          unfold valV at this
          simpa [List.find?_cons, h] using this
/-- a written dict with text keys -/
def KDic (K : PySem.W.Frag) (w : World) (d : Addr) (kvs : List (Str × V)) : Prop := ∃ es n, K.lookup d = some ⟨.type "dict", none, .dict es n, #[]⟩ ∧ PySem.W.KeysLit w.params es.toList ∧ (d == sysModules) = false ∧ Paired (fun (p : Str × V) (e : DictEntry) => (∃ t, e.key = .str p.1 t) ∧ RelV p.2 e.val) kvs es.toList
theorem KDic.ns {K : PySem.W.Frag} {w : World} {d : Addr} {kvs : List (Str × V)} (h : KDic K w d kvs) (z : Str) : ∃ r, PySem.W.nsIn K d z = some r ∧ RelO (kvs.lookup z) r := by
  obtain ⟨es, n, h1, _, _, h2⟩ := h
  unfold PySem.W.nsIn
  rw [h1]
  show ∃ r, (match es.toList.find? (·.key.isStr z) with | some e => some (some e.val) | none => if es.toList.any (·.refKey) then none else some none) = some r ∧ _
  generalize es.toList = l at h2
  have nr : l.any (·.refKey) = false := by
    clear h1
    induction h2 with
    | nil => rfl
    | cons r _ ih =>
      obtain ⟨⟨t, e⟩, _⟩ := r
      rw [List.any_cons, ih]
      unfold DictEntry.refKey
      rw [e]; rfl
  rw [nr]
  clear h1 nr
  induction h2 with
  | nil => exact ⟨none, rfl, trivial⟩
  | @cons p e kvs l r _ ih =>
    obtain ⟨⟨t, hk⟩, rv⟩ := r
    obtain ⟨x, v⟩ := p
    have e1 : e.key.isStr z = (x == z) := by rw [hk]; rfl
    rw [List.find?_cons, e1]
    by_cases h : x = z
    · subst h
      refine ⟨some e.val, by simp, ?_⟩
      show RelO (List.lookup x ((x, v) :: kvs)) _
      rw [List.lookup_cons]
      simp
      exact rv
    · have h2 : (x == z) = false := by simpa using h
      have h3 : (z == x) = false := by simpa using fun q => h q.symm
      rw [h2]
      show ∃ r, _ = some r ∧ RelO (List.lookup z ((x, v) :: kvs)) r
      rw [List.lookup_cons, h3]
      exact ih
end
end Y
/-! Y8: written dicts read, dicts displayed, defs with defaults. -/
namespace Y
open PySem L2
/-! ### written dicts -/
def rInKD (K : PySem.W.Frag) (w : World) : R2 := fun x y H Q => ∃ z d kvs, x = .str z ∧ y = .ref d ∧ KDic K w d kvs ∧ Q (.bl (kvs.lookup z).isSome) H
def rNiKD (K : PySem.W.Frag) (w : World) : R2 := fun x y H Q => ∃ z d kvs, x = .str z ∧ y = .ref d ∧ KDic K w d kvs ∧ Q (.bl (!(kvs.lookup z).isSome)) H
section
variable {X : Cx} {K : PySem.W.Frag} {w : World}
theorem KDic.kd {K : PySem.W.Frag} {w : World} {d : Addr} {kvs : List (Str × V)} (h : KDic K w d kvs) : ∃ es n, KDict K w d es n := by
  obtain ⟨es, n, h1, h2, h3, _⟩ := h
  exact ⟨es, n, h1, h2, h3⟩
theorem op_inKD (hK : X.K = K := by rfl) (hw : X.w = w := by rfl) : OpR X (compareOp .In) (rInKD K w) := by
  subst hK hw
  intro pins s σ H x y u v Q I rx ry h
  obtain ⟨z, d, kvs, rfl, rfl, D, q⟩ := h
  obtain ⟨es, n, D1⟩ := D.kd
  obtain ⟨r, h1, h2⟩ := D.ns z
  refine op_in_kd D1 pins s σ H _ _ u v Q I rx ry ⟨z, r, rfl, rfl, h1, ?_⟩
  rw [← h2.isSome_eq]
  exact q
theorem op_niKD (hK : X.K = K := by rfl) (hw : X.w = w := by rfl) : OpR X (compareOp .NotIn) (rNiKD K w) := by
  subst hK hw
  intro pins s σ H x y u v Q I rx ry h
  obtain ⟨z, d, kvs, rfl, rfl, D, q⟩ := h
  obtain ⟨es, n, D1⟩ := D.kd
  obtain ⟨r, h1, h2⟩ := D.ns z
  refine op_notIn_kd D1 pins s σ H _ _ u v Q I rx ry ⟨z, r, rfl, rfl, h1, ?_⟩
  rw [← h2.isSome_eq]
  exact q
theorem ix_kd (hK : X.K = K := by rfl) (hw : X.w = w := by rfl) : IxR X (rIxD K w) := by
  subst hK hw
  exact ix_kdict
end
section
variable {B : Bs} {es : List Sl} {w : World}
theorem ev_inKD {d : Addr} {kvs : List (Str × V)} {ta : TE} {P : Dt → Prop} (D : KDic B.K w d kvs) (h : Ev B ta es fun x => ∃ z, x = .str z ∧ P (.bl (kvs.lookup z).isSome)) : Ev B (tOp (rInKD B.K w) ta (tC (.ref d))) es P := fun σ F H S Q q =>
  h σ F H S _ fun v x F1 H1 g1 r1 ⟨z, e, p1⟩ => by
    subst e; cases r1
    exact ⟨z, d, kvs, rfl, rfl, D, q _ _ F1 H1 g1 (.bl _) p1⟩
theorem ev_niKD {d : Addr} {kvs : List (Str × V)} {ta : TE} {P : Dt → Prop} (D : KDic B.K w d kvs) (h : Ev B ta es fun x => ∃ z, x = .str z ∧ P (.bl (!(kvs.lookup z).isSome))) : Ev B (tOp (rNiKD B.K w) ta (tC (.ref d))) es P := fun σ F H S Q q =>
  h σ F H S _ fun v x F1 H1 g1 r1 ⟨z, e, p1⟩ => by
    subst e; cases r1
    exact ⟨z, d, kvs, rfl, rfl, D, q _ _ F1 H1 g1 (.bl _) p1⟩
/-- the datum of a scalar value -/
def vD : V → Dt
  | .non => .non
  | .bl b => .bl b
  | .int i => .int i
  | .str s => .str s
  | _ => .non
def scV : V → Bool
  | .non => true | .bl _ => true | .int _ => true | .str _ => true
  | _ => false
theorem rp_vD {K : PySem.W.Frag} {F : Hp} {v : V} (h : scV v = true) : Rp K F v (vD v) := by
  cases v <;> first | exact .non | exact .bl _ | exact .int _ | exact .str _ | cases h
theorem ev_ixKD {d : Addr} {kvs : List (Str × V)} {tb : TE} {P : Dt → Prop} (D : KDic B.K w d kvs) (h : Ev B tb es fun y => ∃ z, y = .str z ∧ ∃ v, kvs.lookup z = some v ∧ scV v = true ∧ P (vD v)) : Ev B (tOp (rIxD B.K w) (tC (.ref d)) tb) es P := fun σ F H S Q q =>
  h σ F H S _ fun v x F1 H1 g1 r1 ⟨z, e, v0, hv, hs, p1⟩ => by
    subst e; cases r1
    obtain ⟨r, h1, h2⟩ := D.ns z
    rw [hv] at h2
    cases r with
    | none => exact (show False from h2).elim
    | some u =>
      obtain ⟨es, n, k1, k2, _, _⟩ := D
      exact ⟨d, z, v0, rfl, rfl, ⟨es, n, u, k1, k2, h1, h2⟩, q _ _ F1 H1 g1 (rp_vD hs) p1⟩

/-! ### dicts displayed and asked -/
def kD : Key → Dt
  | .inl i => .int i
  | .inr x => .str x
theorem rp_kD {K : PySem.W.Frag} {F : Hp} {v : V} {k : Key} (r : Rp K F v (kD k)) : v = kV k := by
  cases k <;> cases r <;> rfl
def EvPs (B : Bs) (trs : List (TE × TE)) (es : List Sl) (P : List Key → List Dt → Prop) : Prop := ∀ σ F H, Stt B es σ F H → ∀ Q : List (V × V) → Hp → Prop,
  (∀ ks ps ds F' H', Go B F H F' H' → RpAll B.K F' (ps.map (·.2)) ds → ps.map (·.1) = ks.map kV → P ks ds → Q ps H') → tPairs trs σ H Q
theorem eps_nil {P : List Key → List Dt → Prop} (h : P [] []) : EvPs B [] es P := fun σ F H S Q q => q [] [] [] F H S.refl .nil rfl h
theorem eps_cons {tk tv : TE} {r : List (TE × TE)} {P : List Key → List Dt → Prop} (h : Ev B tk es fun x => ∃ k, x = kD k ∧ Ev B tv es fun y => EvPs B r es fun ks ds => P (k :: ks) (y :: ds)) : EvPs B ((tk, tv) :: r) es P := fun σ F H S Q q =>
  h σ F H S _ fun v x F1 H1 g1 r1 ⟨k, e, p1⟩ => p1 σ F1 H1 (S.go g1) _ fun u y F2 H2 g2 r2 p2 => p2 σ F2 H2 ((S.go g1).go g2) _ fun ks ps ds F3 H3 g3 r3 e3 p3 => by
    subst e
    refine q (k :: ks) ((v, u) :: ps) (y :: ds) F3 H3 ((g1.trans g2).trans g3) (.cons (r2.mono g3.s1) r3) ?_ p3
    rw [List.map_cons, List.map_cons, e3, rp_kD r1]
theorem merge_nodup {kvs : List (Key × V)} (h : (kvs.map (·.1)).Nodup) : mergeK [] kvs = kvs := by
  have key : ∀ (more acc : List (Key × V)), ((acc ++ more).map (·.1)).Nodup → mergeK acc more = acc ++ more := by
    intro more
    induction more with
    | nil => intro acc _; simp [mergeK]
    | cons p more ih =>
      intro acc hn
      have hv : valV acc p.1 = none := by
        cases e : valV acc p.1 with
        | none => rfl
        | some v =>
          have hm : p.1 ∈ acc.map (·.1) := valV_in (by rw [e])
          rw [List.map_append, List.map_cons] at hn
          have := List.nodup_append.mp hn
          exact absurd rfl (this.2.2 p.1 hm p.1 (List.mem_cons_self ..))
      show mergeK (putK acc p.1 p.2) more = _
      rw [putK_new _ hv, ih]
      · simp
      · simpa using hn
  simpa using key kvs [] (by simpa using h)
theorem zip_back : ∀ (ps : List (V × V)) (ks : List Key), ps.map (·.1) = ks.map kV → ks.length = ps.length → ps = (ks.zip (ps.map (·.2))).map fun kv => (kV kv.1, kv.2)
  | [], [], _, _ => rfl
  | [], _ :: _, _, h => by simp at h
  | _ :: _, [], _, h => by simp at h
  | a :: ps, k :: ks, e, h => by
    simp only [List.map_cons, List.cons.injEq] at e
    simp only [List.map_cons, List.zip_cons_cons, List.cons.injEq]
    exact ⟨by rw [← e.1], zip_back ps ks e.2 (by simpa using h)⟩
/-- a, b = [..], [..]: two new lists of one's own -/
theorem sm_parOO {p : Po} {i j : Nat} {t1 t2 : TE} (hij : i ≠ j) (hj : ∀ a xs, es[j]? ≠ some (.own a xs)) (hi : ∀ a xs, es[i]? ≠ some (.own a xs)) (h : EvO B t1 es fun xs => EvO B t2 es fun ys => ∀ a b, a ≠ b → p.nx ((es.set i (.own a xs)).set j (.own b ys))) : Sm B (tPar i j (tCons t1 (tCons t2 tNil))) es p := fun σ F H D S n _ _ _ _ =>
  h σ F H S _ fun a vs xs F1 H1 g1 a0 a1 a2 r1 p1 => p1 σ F1 H1 (S.go g1) _ fun b ws ys F2 H2 g2 b0 b1 b2 r2 p2 => by
    have S2 := (S.go g1).go g2
    have hab : a ≠ b := ne_of_none a2 b0
    have ha2 : H2 a = some (.lst vs) := g2.kp a _ (S.newB a0) a2
    have hF2 : F2 a = none := g2.nw a (by rw [a2]; simp) a1
    have S3 := S2.setO (i := i) hF2 ha2 (r1.mono g2.s1) (S.new0 a0) (S.newB a0) fun k c zs hk => S.newS a0 k zs hk
    have S4 := S3.setO (i := j) b1 b2 r2 ((S.go g1).new0 b0) ((S.go g1).newB b0) fun k c zs hk => by
      by_cases e : i = k
      · subst e
        have l1 : i < es.length := by
          have := (List.getElem?_eq_some_iff.mp hk).1
          rwa [List.length_set] at this
        rw [List.getElem?_set_self l1] at hk
        cases hk
        exact hab
      · rw [List.getElem?_set_ne e] at hk
        exact (S.go g1).newS b0 k zs hk
    exact ⟨.ref a, .ref b, rfl, n _ _ F2 H2 S4 (g1.s1.trans g2.s1) (p2 a b hab)⟩
theorem ev_disp {trs : List (TE × TE)} {P : Dt → Prop} (h : EvPs B trs es fun ks ds => ks.Nodup ∧ ks.length ≤ 15 ∧ P (.dct ks ds)) : Ev B (tDisp trs) es P := fun σ F H S Q q p hp => by
  have gD := S.allocO (o := .dK []) hp
  have S1 := S.go gD
  have hb := S.newB hp
  refine h σ F _ S1 _ fun ks ps ds F2 H2 g2 r2 e2 ⟨hn, hl, p2⟩ => ?_
  have h2 : H2 p = some (.dK []) := g2.kp p _ hb upd_same
  have hF2 : F2 p = none := g2.nw p (by rw [upd_same]; simp) (same_none S.sub hp)
  have lk : ks.length = ps.length := by
    have := congrArg List.length e2
    simpa using this.symm
  have e3 : ps = (ks.zip (ps.map (·.2))).map fun kv => (kV kv.1, kv.2) := zip_back ps ks e2 lk
  have k1 : (ks.zip (ps.map (·.2))).map (·.1) = ks := by rw [List.map_fst_zip]; rw [List.length_map]; omega
  have k2 : (ks.zip (ps.map (·.2))).map (·.2) = ps.map (·.2) := by rw [List.map_snd_zip]; rw [List.length_map]; omega
  refine ⟨h2, ks.zip (ps.map (·.2)), e3, by rw [List.length_zip, List.length_map]; omega, ?_⟩
  rw [merge_nodup (by rw [k1]; exact hn)]
  refine q (.ref p) (.dct ks ds) (upd F2 p (.dK (ks.zip (ps.map (·.2))))) _ ?_ (.dct upd_same k1 k2 (r2.mono (same_upd hF2))) p2
  refine ⟨g2.s1.trans (same_upd hF2), same_updF g2.s2, fun c h1 h2 => ?_, fun c o h1 h2 => ?_, fun b hb' => ?_, fun q hq => tabS_kept (g2.tb q hq) fun c o k hn => gh_upd h2 (fun z => z) k hn⟩
  · have hc : c ≠ p := fun e => h1 (by rw [e]; exact hp)
    rw [upd_ne hc]
    exact g2.nw c (by rw [upd_ne hc]; exact h1) h2
  · have hc : c ≠ p := ne_of_none h2 hp
    rw [upd_ne hc]
    exact g2.kp c o h1 (by rw [upd_ne hc]; exact h2)
  · obtain ⟨k1, z, zs, k2, k3, k4⟩ := g2.bg b hb'
    have hbp : b ≠ p := fun e => hb.1 (by rw [hb', e])
    exact ⟨by rw [upd_ne hbp]; exact k1, z, zs, by rw [upd_ne hbp]; exact k2, k3.mono (same_upd hF2), k4⟩
/-- d.get(k, x) -/
theorem ev_get2 {td ty tx : TE} {P : Dt → Prop} (h : Ev B td es fun x => ∃ ks xs, x = .dct ks xs ∧ Ev B ty es fun y => ∃ k, y = kD k ∧ Ev B tx es fun z => P ((getK ks xs k).getD z)) : Ev B (tDGet2 td ty tx) es P := fun σ F H S Q q =>
  h σ F H S _ fun v x F1 H1 g1 r1 ⟨ks, xs, e, p1⟩ => by
    subst e
    cases r1 with
    | dct h1 h2 h3 h4 =>
      refine ⟨_, rfl, .inl ⟨_, .inl (g1.s2 _ _ h1)⟩, p1 σ F1 H1 (S.go g1) _ fun u y F2 H2 g2 r2 ⟨k, e2, p2⟩ => p2 σ F2 H2 ((S.go g1).go g2) _ fun t z F3 H3 g3 r3 p3 => ?_⟩
      subst e2
      have ek := rp_kD r2
      subst ek
      subst h2 h3
      have h5 := getK_of k (h4.mono (g2.s1.trans g3.s1))
      refine ⟨_, DGet.k (k := k) (g3.s2 _ _ ((g2.s1.trans g3.s1) _ _ h1)), ?_⟩
      cases e : getK _ xs k with
      | none =>
        rw [h5.2 e]
        rw [e] at p3
        exact q _ _ F3 H3 ((g1.trans g2).trans g3) r3 p3
      | some d =>
        obtain ⟨v', k1, k2⟩ := h5.1 d e
        rw [k1]
        rw [e] at p3
        exact q _ _ F3 H3 ((g1.trans g2).trans g3) k2 p3
end
/-! ### defs with defaults -/
section
variable {P : Program} {w : World} {K : PySem.W.Frag} {mg : Str → Option Value} {base : Heap} {x qual : Str} {pa : Arguments} {bd : List Stmt} {sc : Scope} {dvs : List V} {kws : List (Str × V)} {f : Addr} {fd : FuncData} {N ps : List Str} {k : Nat} {Pre : List Dt → Prop} {Post : List Dt → Dt → Prop} {PostO : List Dt → List Dt → Prop}
theorem fn_dataD (G : FunD K x qual pa bd sc dvs kws f fd) (S : FnScope N ps sc) (hl : ∀ ds, Pre ds → ds.length = ps.length)
    (hb : ∀ (cdv : Value) (A : Around) (outer : List Env) (s : Shared) (H : Hp) (E : XK), Room k (A.deeper (PyProof.Rows.envOfC qual sc s.heap.objs.size f cdv)) →
      ∃ t, PSs (cxOf CX0 P w K mg base N qual sc f cdv A outer s H E).nox bd t ∧ ∀ F0 H0 ds, Pre ds → Sm ⟨K, F0, H0, none, []⟩ t (env0 N ds) { nx := fun _ => Post ds .non, bk := fun _ => False, ct := fun _ => False, rt := fun _ => Post ds }) :
    FnOk P w K mg base CX0 (k + 1) f fd ps (spD K Pre Post) := by
  refine G.ok S (fun vs H Q E h => ?_) (fun cdv A outer s H vs Q E hr h => ?_)
  · obtain ⟨F, ds, _, r, hp, _⟩ := h
    rw [r.length]; exact hl ds hp
  · obtain ⟨F, ds, hs, r, hp, q⟩ := h
    obtain ⟨t, hd, hm⟩ := hb cdv A outer s H E hr
    refine ⟨t, hd.nox, hm F H ds hp _ F H _ (start_stt hs r (fun _ z => nomatch z) (fun _ z => nomatch z) (fun _ z => nomatch z)) (fun es' σ' F' H' S' s' p => ?_) (fun _ _ _ _ _ _ z => z.elim) (fun _ _ _ _ _ _ z => z.elim) (fun v d es' σ' F' H' S' s' rv p => ?_) (fun _ _ _ _ _ _ _ _ _ _ _ _ _ _ z => z.elim)⟩
    · exact q _ _ F' H' s' S'.ou S'.sub (fun c o e => S'.fr c o e off_nil) .non p
    · exact q _ _ F' H' s' S'.ou S'.sub (fun c o e => S'.fr c o e off_nil) rv p
theorem fn_ownD (G : FunD K x qual pa bd sc dvs kws f fd) (S : FnScope N ps sc) (hl : ∀ ds, Pre ds → ds.length = ps.length)
    (hb : ∀ (cdv : Value) (A : Around) (outer : List Env) (s : Shared) (H : Hp) (E : XK), Room k (A.deeper (PyProof.Rows.envOfC qual sc s.heap.objs.size f cdv)) →
      ∃ t, PSs (cxOf CX0 P w K mg base N qual sc f cdv A outer s H E).nox bd t ∧ ∀ F0 H0 ds, Pre ds → Sm ⟨K, F0, H0, none, []⟩ t (env0 N ds) { nx := fun _ => False, bk := fun _ => False, ct := fun _ => False, rt := fun _ _ => False, ro := PostO ds }) :
    FnOk P w K mg base CX0 (k + 1) f fd ps (spO K Pre PostO) := by
  refine G.ok S (fun vs H Q E h => ?_) (fun cdv A outer s H vs Q E hr h => ?_)
  · obtain ⟨F, ds, _, r, hp, _⟩ := h
    rw [r.length]; exact hl ds hp
  · obtain ⟨F, ds, hs, r, hp, q⟩ := h
    obtain ⟨t, hd, hm⟩ := hb cdv A outer s H E hr
    refine ⟨t, hd.nox, hm F H ds hp _ F H _ (start_stt hs r (fun _ z => nomatch z) (fun _ z => nomatch z) (fun _ z => nomatch z)) (fun _ _ _ _ _ _ z => z.elim) (fun _ _ _ _ _ _ z => z.elim) (fun _ _ _ _ _ _ z => z.elim) (fun _ _ _ _ _ _ _ _ _ z => z.elim) (fun a vs xs es' σ' F' H' S' s' h1 h2 r1 h3 h4 p => ?_)⟩
    exact q a vs xs F' H' s' S'.ou S'.sub (fun c o e => S'.fr c o e off_nil) h3 h1 h2 r1 p
/-- a keyword call of a def with positional defaults: g puts values, defaults and keywords in order -/
theorem kb_dfl (G : FunD K x qual pa bd sc dvs kws f fd) (n : Nat) (ks : List Str) (g : {α : Type} → List α → List α → List α → List α) (hd : dvs ≠ [])
    (hrel : ∀ {fv : List V} {fu : List Value} {vs zs : List V} {us ws : List Value}, Vals fv fu → Vals vs us → Vals zs ws → Vals (g fv vs zs) (g fu us ws))
    (h : ∀ (T : Addr) (kV doc pm : Value) (an : Option Addr) (cdv ct : Value) (us its ws : List Value), us.length = n → its.length = dvs.length → ws.length = ks.length →
      ∃ k, bindArgs (PySem.W.fnOf x qual pa bd sc (.ref T) kV doc pm an cdv ct) ⟨us, ks.zip ws⟩ = seqItems? (.ref T) >>= k ∧ k (some its.toArray) = pure (ps.zip (g its us ws))) :
    ∃ fu : List Value, Vals dvs fu ∧ KBn K fd ps n ks (fun us ws => g fu us ws) (fun vs zs => g dvs vs zs) := by
  obtain ⟨oc, od, dV, kV, doc, pm, an, cdv, ct, osl, rfl, lk, hcd, hD, hK⟩ := G.ex
  rcases hD with ⟨e, _⟩ | ⟨_, T, o, its, m, rfl, lT, oT, rT⟩
  · exact absurd e hd
  · refine ⟨its, rT, ⟨fun s us ws X l1 l2 => ?_, fun r1 r2 => hrel rT r1 r2⟩⟩
    obtain ⟨k, e1, e2⟩ := h T kV doc pm an cdv ct us its ws l1 rT.length.symm l2
    refine BindsTo.of_looks fun M => ?_
    rw [e1]
    exact looks_items X lT oT (.of_pure e2)
end
end Y
/-! Y9: rows as data; what the helpers that draw rows promise. -/
namespace Y
open PySem L2
/-! ### rows -/
def fitsB (k : Nat) (x : Dt) : Bool := if k = 114 then isRegD x else if k = 110 then isNameD x else if k = 119 then isNum x 0 65535 else if k = 100 then isNum x 0 15 else isNum x 1 120
def formB : List Nat → List Dt → Bool
  | [], [] => true
  | k :: ks, x :: xs => fitsB k x && formB ks xs
  | _, _ => false
def codeForms : List (Str × Str) := [("put", "rw"), ("name", "rn"), ("add", "rr"), ("take", "rr"), ("load", "rrd"), ("store", "rrd"), ("jump", "n"), ("ifzero", "rn"), ("call", "n"), ("callby", "r"), ("back", ""), ("out", "r"), ("halt", ""), ("room", "k")]
def dataForms : List (Str × Str) := [("word", "w"), ("address", "n"), ("room", "k")]
def rowBy (fs : List (Str × Str)) (d : Dt) : Bool := match d with
  | .tup (.str w :: rest) => (match fs.lookup w with
    | some f => formB f.cps.toList rest
    | none => false)
  | _ => false
abbrev codeRow (d : Dt) : Bool := rowBy codeForms d
abbrev dataRow (d : Dt) : Bool := rowBy dataForms d
theorem rowBy_of {fs : List (Str × Str)} {w : Str} {rest : List Dt} {ks : List Nat} (h0 : (fs.lookup w).map (fun f => f.cps.toList) = some ks) (hf : formB ks rest = true) : rowBy fs (.tup (.str w :: rest)) = true := by
  obtain ⟨f, h, hk⟩ := Option.map_eq_some_iff.mp h0
  show (match fs.lookup w with | some f => formB f.cps.toList rest | none => false) = true
  rw [h]
  show formB f.cps.toList rest = true
  rw [hk]; exact hf
theorem rowBy_inv {fs : List (Str × Str)} {d : Dt} (h : rowBy fs d = true) : ∃ w f rest, d = .tup (.str w :: rest) ∧ fs.lookup w = some f ∧ formB f.cps.toList rest = true := by
  unfold rowBy at h
  split at h
  · rename_i w rest
    cases e : fs.lookup w with
    | none => rw [e] at h; cases h
    | some f => rw [e] at h; exact ⟨w, f, rest, rfl, e, h⟩
  · cases h
/-- what the sizes of rows ask -/
def RowW (d : Dt) : Prop := ∃ w rest, d = .tup (.str w :: rest) ∧ (w = "room" → ∃ k : Int, rest = [.int k])
theorem formB_k {rest : List Dt} (h : formB [107] rest = true) : ∃ k : Int, rest = [.int k] ∧ 1 ≤ k ∧ k ≤ 120 := by
  cases rest with
  | nil => cases h
  | cons x xs =>
    cases xs with
    | cons y ys =>
      have h : (fitsB 107 x && false) = true := h
      rw [Bool.and_false] at h; cases h
    | nil =>
      have h : (fitsB 107 x && true) = true := h
      rw [Bool.and_true] at h
      have h : isNum x 1 120 = true := h
      cases x with
      | int i =>
        have h : (decide ((1 : Int) ≤ i) && decide (i ≤ 120)) = true := h
        rw [Bool.and_eq_true] at h
        exact ⟨i, rfl, of_decide_eq_true h.1, of_decide_eq_true h.2⟩
      | _ => cases h
theorem rowW_code {d : Dt} (h : codeRow d = true) : RowW d := by
  obtain ⟨w, f, rest, rfl, h1, h2⟩ := rowBy_inv h
  refine ⟨w, rest, rfl, fun e => ?_⟩
  subst e
  have e1 : codeForms.lookup ("room" : Str) = some ("k" : Str) := by decide +kernel
  rw [e1] at h1
  cases h1
  have e2 : ("k" : Str).cps.toList = [107] := by decide +kernel
  rw [e2] at h2
  obtain ⟨k, e, _⟩ := formB_k h2
  exact ⟨k, e⟩
theorem rowW_data {d : Dt} (h : dataRow d = true) : RowW d := by
  obtain ⟨w, f, rest, rfl, h1, h2⟩ := rowBy_inv h
  refine ⟨w, rest, rfl, fun e => ?_⟩
  subst e
  have e1 : dataForms.lookup ("room" : Str) = some ("k" : Str) := by decide +kernel
  rw [e1] at h1
  cases h1
  have e2 : ("k" : Str).cps.toList = [107] := by decide +kernel
  rw [e2] at h2
  obtain ⟨k, e, _⟩ := formB_k h2
  exact ⟨k, e⟩
theorem fit_r {x : Dt} (h : isRegD x = true) : fitsB 114 x = true := h
theorem fit_n {x : Dt} (h : isNameD x = true) : fitsB 110 x = true := h
theorem fit_w {i : Int} (h : 0 ≤ i ∧ i ≤ 65535) : fitsB 119 (.int i) = true := by
  show (decide (_ ≤ _) && decide (_ ≤ _)) = true
  rw [decide_eq_true h.1, decide_eq_true h.2]; rfl
theorem fit_d {i : Int} (h : 0 ≤ i ∧ i ≤ 15) : fitsB 100 (.int i) = true := by
  show (decide (_ ≤ _) && decide (_ ≤ _)) = true
  rw [decide_eq_true h.1, decide_eq_true h.2]; rfl
theorem fit_k {i : Int} (h : 1 ≤ i ∧ i ≤ 120) : fitsB 107 (.int i) = true := by
  show (decide (_ ≤ _) && decide (_ ≤ _)) = true
  rw [decide_eq_true h.1, decide_eq_true h.2]; rfl
theorem form0 : formB [] [] = true := rfl
theorem form1 {a : Nat} {x : Dt} (h : fitsB a x = true) : formB [a] [x] = true := by
  show (fitsB a x && true) = true
  rw [h]; rfl
theorem form2 {a b : Nat} {x y : Dt} (h : fitsB a x = true) (h2 : fitsB b y = true) : formB [a, b] [x, y] = true := by
  show (fitsB a x && (fitsB b y && true)) = true
  rw [h, h2]; rfl
theorem form3 {a b c : Nat} {x y z : Dt} (h : fitsB a x = true) (h2 : fitsB b y = true) (h3 : fitsB c z = true) : formB [a, b, c] [x, y, z] = true := by
  show (fitsB a x && (fitsB b y && (fitsB c z && true))) = true
  rw [h, h2, h3]; rfl
/-! ### drawn names -/
def titlesPre (ds : List Dt) : Prop := ∃ m : Int, ds = [.int m] ∧ 0 ≤ m ∧ m ≤ 26
def titlesPost (ds : List Dt) (d : Dt) : Prop := ∃ (m : Int) (ss : List Str), ds = [.int m] ∧ d = .lst (ss.map Dt.str) ∧ (ss.length : Int) = m ∧ (∀ s ∈ ss, isNameD (.str s) = true) ∧ ss.Nodup
def NamesD (d : Dt) : Prop := ∃ ss : List Str, d = .lst (ss.map Dt.str) ∧ 0 < ss.length ∧ ss.length ≤ 1000 ∧ ∀ s ∈ ss, isNameD (.str s) = true
theorem titles_k {m : Int} {R : Dt → Prop} (hm : 0 ≤ m ∧ m ≤ 26) (h : ∀ ss : List Str, (ss.length : Int) = m → (∀ s ∈ ss, isNameD (.str s) = true) → ss.Nodup → R (.lst (ss.map Dt.str))) : titlesPre [.int m] ∧ ∀ d, titlesPost [.int m] d → R d :=
  ⟨⟨m, rfl, hm⟩, fun d ⟨m', ss, e, e2, h1, h2, h3⟩ => by cases e; subst e2; exact h ss h1 h2 h3⟩
def nilPre (ds : List Dt) : Prop := ds = []
def numberPost (_ : List Dt) (d : Dt) : Prop := ∃ i : Int, d = .int i ∧ 0 ≤ i ∧ i ≤ 65535
def rPost (_ : List Dt) (d : Dt) : Prop := isRegD d = true
theorem number_k {R : Dt → Prop} (h : ∀ i : Int, 0 ≤ i → i ≤ 65535 → R (.int i)) : nilPre [] ∧ ∀ d, numberPost [] d → R d := ⟨rfl, fun d ⟨i, e, h1, h2⟩ => by subst e; exact h i h1 h2⟩
theorem r_k {R : Dt → Prop} (h : ∀ d, isRegD d = true → R d) : nilPre [] ∧ ∀ d, rPost [] d → R d := ⟨rfl, fun d e => h d e⟩
def namesPre (ds : List Dt) : Prop := ∃ t, ds = [t] ∧ NamesD t
def codeRowPost (_ : List Dt) (d : Dt) : Prop := codeRow d = true
def dataRowPost (_ : List Dt) (d : Dt) : Prop := dataRow d = true
theorem code_k {t : Dt} {R : Dt → Prop} (ht : NamesD t) (h : ∀ d, codeRow d = true → R d) : namesPre [t] ∧ ∀ d, codeRowPost [t] d → R d := ⟨⟨t, rfl, ht⟩, fun d e => h d e⟩
theorem data_k {t : Dt} {R : Dt → Prop} (ht : NamesD t) (h : ∀ d, dataRow d = true → R d) : namesPre [t] ∧ ∀ d, dataRowPost [t] d → R d := ⟨⟨t, rfl, ht⟩, fun d e => h d e⟩
/-- one of the names -/
theorem of_names {t : Dt} {R : Dt → Prop} (ht : NamesD t) (h : ∀ d, isNameD d = true → R d) : ofPre [t] ∧ ∀ d, ofPost [t] d → R d := by
  obtain ⟨ss, rfl, h0, h1, h2⟩ := ht
  refine of_k ⟨by simpa using h0, by simp; omega⟩ fun d hd => ?_
  obtain ⟨s, hs, rfl⟩ := List.mem_map.mp hd
  exact h _ (h2 s hs)
/-- one of some written things -/
theorem of_all {xs : List Dt} {p : Dt → Bool} {R : Dt → Prop} (h0 : 0 < xs.length ∧ xs.length ≤ 100000) (hp : xs.all p = true) (h : ∀ d, p d = true → R d) : ofPre [.lst xs] ∧ ∀ d, ofPost [.lst xs] d → R d :=
  of_k h0 fun d hd => h d (all_mem hp hd)
/-- a text cut in two with a sign between is a name -/
theorem isName_mk {z : Str} (h1 : 1 ≤ z.cps.size) (h2 : z.cps.size ≤ 6) (h : ∀ c ∈ z.cps.toList, c ∈ letters) : isNameD (.str z) = true := by
  show (decide ((1 : Int) ≤ (z.cps.size : Int)) && (decide ((z.cps.size : Int) ≤ 6) && z.cps.toList.all fun c => decide (c ∈ letters))) = true
  rw [decide_eq_true (by omega), decide_eq_true (by omega), Bool.true_and, Bool.true_and, List.all_eq_true]
  intro c hc
  exact decide_eq_true (h c hc)
theorem cut_app (z : Str) (n : Nat) (h : n ≤ z.cps.size) : (cutS z none (some (n : Int))).cps.toList = z.cps.toList.take n ∧ (cutS z (some (n : Int)) none).cps.toList = z.cps.toList.drop n := by
  have e0 : z.length = z.cps.size := rfl
  have e1 : HT.sIx z.length z.length (some (n : Int)) = n := by
    show (if (n : Int) < 0 then ((n : Int) + (z.length : Int)).toNat else min (n : Int).toNat z.length) = n
    rw [if_neg (by omega)]; omega
  have e2 : HT.sIx z.length 0 (some (n : Int)) = n := by
    show (if (n : Int) < 0 then ((n : Int) + (z.length : Int)).toNat else min (n : Int).toNat z.length) = n
    rw [if_neg (by omega)]; omega
  have e3 : HT.sIx z.length 0 none = 0 := rfl
  have e4 : HT.sIx z.length z.length none = z.length := rfl
  unfold cutS
  rw [e1, e2, e3, e4]
  constructor
  · simp
  · simp only []
    rw [List.take_of_length_le]
    rw [List.length_drop, Array.length_toList, e0]
    exact Nat.le_refl _
theorem app_toList (x y : Str) : (x ++ y).cps.toList = x.cps.toList ++ y.cps.toList := TL.tl_append x y
theorem perm_erase {α : Type} : ∀ {l : List α} {j : Nat} {c : α}, l[j]? = some c → l.Perm (c :: l.eraseIdx j)
  | [], j, c, h => by simp at h
  | a :: l, 0, c, h => by
    simp at h
    subst h
    exact List.Perm.refl _
  | a :: l, j + 1, c, h => by
    have ih := perm_erase (l := l) (j := j) (c := c) (by simpa using h)
    rw [List.eraseIdx_cons_succ]
    exact (List.Perm.cons a ih).trans (List.Perm.swap c a _)
theorem atI_toNat {α : Type} {xs : List α} {i : Int} {x : α} (h0 : 0 ≤ i) (h : xs[i.toNat]? = some x) : atI xs i = some x := by
  have hl := (List.getElem?_eq_some_iff.mp h).1
  unfold atI ixN
  rw [if_pos h0, if_pos (by omega)]
  exact h
theorem eo_if {B : Bs} {es : List Sl} {t : TT} {ta tb : TE} {P : List Dt → Prop} (h : EvT B t es fun b => (b = true → EvO B ta es P) ∧ (b = false → EvO B tb es P)) : EvO B (tIf t ta tb) es P := fun σ F H S Q q => h σ F H S _ fun b F1 H1 g1 p1 => by
  have S1 := S.go g1
  cases b with
  | true =>
    show ta σ H1 Q
    exact p1.1 rfl σ F1 H1 S1 Q fun a vs xs F2 H2 g2 h0 h1 h2 r p => q a vs xs F2 H2 (g1.trans g2) (g1.new (S1.newB h0) h0) h1 h2 r p
  | false =>
    show tb σ H1 Q
    exact p1.2 rfl σ F1 H1 S1 Q fun a vs xs F2 H2 g2 h0 h1 h2 r p => q a vs xs F2 H2 (g1.trans g2) (g1.new (S1.newB h0) h0) h1 h2 r p
theorem sm_par3 {B : Bs} {es : List Sl} {p : Po} {i j l : Nat} {ta : TA} (h : EvA B ta es fun ds => ∃ x y z, ds = [x, y, z] ∧ p.nx (((es.set i (.d x)).set j (.d y)).set l (.d z))) : Sm B (tPar3 i j l ta) es p := fun σ F H D S n _ _ _ _ => h σ F H S _ fun vs ds F1 H1 g1 r1 ⟨x, y, z, e, p1⟩ => by
  subst e
  cases r1 with
  | cons a r =>
    obtain ⟨v, w, rfl, b, c⟩ := rp2 r
    exact ⟨_, v, w, rfl, n _ _ F1 H1 ((((S.go g1).setD a).setD b).setD c) g1.s1 p1⟩
end Y
/-! Y10: zip of a text and a tuple. -/
namespace Y
open PySem L2 PyProof.Rows
/-- the signs of x with the items of the tuple at b, in new pairs -/
def ItzS (K : PySem.W.Frag) (x : Str) (b : Addr) : It :=
  ⟨fun i H => ∃ ys : List V, SqT K H b ys ∧ i < min x.cps.size ys.length,
    fun i H v H' => ∃ T c y, v = .ref T ∧ H T = none ∧ H' = upd H T (.tup [.str ⟨#[c]⟩, y]) ∧ x.cps[i]? = some c ∧ ∀ ys, SqT K H b ys → ys[i]? = some y,
    fun i H => ∃ ys : List V, SqT K H b ys ∧ i = min x.cps.size ys.length⟩
theorem turn_zipS {P : Program} {w : World} {K : PySem.W.Frag} {elts : List Expr} {kk : Nat} {tpos : Pos} {x : Str} {t : Tok} {b z TI TO i1 i2 : Addr} (S : ZipSep2 z TI TO i1 i2 [i1] [i2, b]) (hb : b ≠ i2) :
    Turn P w K (.Tuple elts kk tpos) (ItzS K x b) [z, TI, TO, i1, i2] z (fun i h => IsZip h z TI TO .none ∧ IsTupOf2 h TI (.ref i1) (.ref i2) ∧ (∃ a1 a2, IsTupOf2 h TO a1 a2) ∧ h.IsStrIter i1 (strIterType x) x t i ∧ h.IsTupleIter i2 b i) where
  mem := by simp
  obj := fun i h st c hc => by
    obtain ⟨hz, hTI, ⟨x, y, hTO⟩, ⟨o1, e1, _, d1⟩, ⟨o2, e2, _, d2⟩⟩ := st
    have e' : c = z ∨ c = TI ∨ c = TO ∨ c = i1 ∨ c = i2 := by simpa using hc
    rcases e' with q | q | q | q | q
    · rw [q]; exact ⟨_, hz, fun v q => nomatch q⟩
    · rw [q]; exact ⟨_, hTI, fun v q => nomatch q⟩
    · rw [q]; exact ⟨_, hTO, fun v q => nomatch q⟩
    · rw [q]; exact ⟨o1, e1, fun v q => by rw [d1] at q; cases q⟩
    · rw [q]; exact ⟨o2, e2, fun v q => by rw [d2] at q; cases q⟩
  keep := fun i h h' st k => by
    obtain ⟨hz, hTI, ⟨x, y, hTO⟩, h1, h2⟩ := st
    obtain ⟨o1, e1, c1, d1⟩ := h1
    exact ⟨k z (by simp) _ hz, k TI (by simp) _ hTI, ⟨x, y, k TO (by simp) _ hTO⟩, ⟨o1, k i1 (by simp) _ e1, c1, d1⟩, h2.at fun o q => k i2 (by simp) o q⟩
  item := by
    intro X hP hw hK hc i pins s σ H E I hf st hg
    subst hP hw hK
    obtain ⟨hz, hTI, hTO, h1, h2⟩ := st
    obtain ⟨ys, hq, hi⟩ := hg
    obtain ⟨its, rv, p, _⟩ := I.tuple hq
    have l := rv.length
    have hiy : i < ys.length := by omega
    have hh : X.A.in1.handled = none := I.ok.hd hc
    have p : s.heap.IsTuple b its.toArray := p
    refine (GoesN.zip2 S (Draws.text hh i1 x t) (Draws.tuple hh i2 b hb its.toArray)).goes i s _ E (by simp; omega) ⟨hz, hTI, hTO, h1, h2, p⟩ ?_
    rintro v h' tk ⟨T, u1, u2, rfl, hnew, ⟨c, tk1, hc1, rfl⟩, e2, hT⟩ st' hk _
    obtain ⟨u, hu, ru⟩ := rv.get (i := i) (x := ys[i]) (by simp [hiy])
    have e3 : u = u2 := by
      have : its[i]? = some u2 := by simpa using e2
      rw [hu] at this; cases this; rfl
    subst e3
    have new : ObjOk X.prog X.w (upd H T (.tup [.str ⟨#[c]⟩, ys[i]])) h' T (.tup [.str ⟨#[c]⟩, ys[i]]) :=
      ⟨by show 2 ≤ sizeLine; decide, [.str ⟨#[c]⟩ tk1, u], .cons ⟨_, rfl⟩ (.cons ru .nil), hT⟩
    have I1 : Inv X pins σ (upd H T (.tup [.str ⟨#[c]⟩, ys[i]])) { s with heap := h', toks := tk } :=
      I.turnedNew (t' := tk) (ch := [z, TI, TO, i1, i2]) (fun b o hb q => hk b o (fun hm => hb (by
        have e' : b = z ∨ b = TO ∨ b = i1 ∨ b = i2 := by simpa using hm
        rcases e' with q | q | q | q <;> simp [q])) q) hf hnew new
    refine ⟨.ref T, _, I1, rfl, ⟨T, c, ys[i], rfl, I.hok.fresh hnew, rfl, hc1, fun l hl => by rw [I.tuple_inj hl hq]; simp [hiy]⟩, ⟨st'.1, st'.2.1, st'.2.2.1, st'.2.2.2.1, st'.2.2.2.2.1⟩, fun c hcm => ?_⟩
    have hlt : c < s.heap.objs.size := by
      have e' : c = z ∨ c = TI ∨ c = TO ∨ c = i1 ∨ c = i2 := by simpa using hcm
      rcases e' with q | q | q | q | q
      · rw [q]; exact Heap.lt_size hz
      · rw [q]; exact Heap.lt_size hTI
      · rw [q]; obtain ⟨_, _, e1⟩ := hTO; exact Heap.lt_size e1
      · rw [q]; obtain ⟨_, e1, _⟩ := h1; exact Heap.lt_size e1
      · rw [q]; obtain ⟨_, e2, _⟩ := h2; exact Heap.lt_size e2
    rw [upd_ne (Nat.ne_of_lt (Nat.lt_of_lt_of_le hlt hnew))]
    exact (hf c hcm).1
  done := by
    intro X hP hw hK hc i pins s σ H E I hf st hg
    subst hP hw hK
    obtain ⟨hz, hTI, hTO, h1, h2⟩ := st
    obtain ⟨ys, hq, hi⟩ := hg
    obtain ⟨its, rv, p, _⟩ := I.tuple hq
    have l := rv.length
    have hh : X.A.in1.handled = none := I.ok.hd hc
    have p : s.heap.IsTuple b its.toArray := p
    have hi : i = min x.cps.size its.toArray.size := by simp; omega
    subst hi
    refine (GoesN.zip2 (elts := elts) (x1 := kk) (pos := tpos) S (Draws.text hh i1 x t) (Draws.tuple hh i2 b hb its.toArray)).stops s _ E ⟨hz, hTI, hTO, h1, h2, p⟩ fun h' tk hk _ => ?_
    exact I.turnedL (t' := tk) (ch := [z, TI, TO, i1, i2]) (fun b o hb q => hk b o (fun hm => hb (by
        have e' : b = z ∨ b = TO ∨ b = i1 ∨ b = i2 := by simpa using hm
        rcases e' with q | q | q | q <;> simp [q])) q) hf
  self := fun A i s Q E st h => wpAny_pyIter_zip st.1 h
def iZipS (K : PySem.W.Frag) (ta : TA) : TI := fun σ H R => ta σ H fun vs H1 => ∃ (x : Str) (b : Addr) (ys : List V), vs = [.str x, .ref b] ∧ SqT K H1 b ys ∧ R (ItzS K x b) H1
theorem pi_zipS {X : Cx} {K : PySem.W.Frag} {e e2 : Expr} {ta : TA} {p pos tpos : Pos} {elts : List Expr} {kk : Nat} (hg : Gl X "zip") (hm : X.mg "zip" = none) (ha : PA X [e, e2] ta) (hK : X.K = K := by rfl)
    (hs : starEach [e, e2] X.env = (false, eval e X.env) :: starEach [e2] X.env := by rfl) (hpl : (backTo pos (starEach [e2] X.env)).any (·.1) = false := by rfl) :
    PI X (.Tuple elts kk tpos) (.Call (.Name "zip" p) [e, e2] [] pos) (iZipS K ta) := by
  subst hK
  refine ⟨fun pins s σ H R I h => ?_⟩
  refine Call_ (ld_blt I hg hm PyProof.Rows.boot_zip (PyProof.Rows.callWith_type1 (thn (ha.run pos pins s σ H _ I h) fun us s1 ⟨vs, H1, I1, r1, q1⟩ => ?_) hs hpl))
  obtain ⟨x, b, ys, ex, hq, q⟩ := q1
  subst ex
  cases r1 with
  | cons r rr =>
    cases rr with
    | cons r' rr =>
      cases rr
      obtain ⟨t, rfl⟩ := r
      cases r'
      have fresh5 : ∀ c, c ∈ [s1.heap.objs.size + 4, s1.heap.objs.size + 2, s1.heap.objs.size + 3, s1.heap.objs.size, s1.heap.objs.size + 1] → FpOk X pins H1 c := fun c hcm => by
        have e' : c = s1.heap.objs.size + 4 ∨ c = s1.heap.objs.size + 2 ∨ c = s1.heap.objs.size + 3 ∨ c = s1.heap.objs.size ∨ c = s1.heap.objs.size + 1 := by simpa using hcm
        have hle : s1.heap.objs.size ≤ c := by
          rcases e' with z | z | z | z | z
          · rw [z]; exact Nat.le_add_right _ _
          · rw [z]; exact Nat.le_add_right _ _
          · rw [z]; exact Nat.le_add_right _ _
          · rw [z]; exact Nat.le_refl _
          · rw [z]; exact Nat.le_add_right _ _
        exact I1.fpOk hle (I1.hok.fresh hle)
      obtain ⟨its, rv, p1, _⟩ := I1.tuple hq
      have p1 : s1.heap.IsTuple b its.toArray := p1
      obtain ⟨o1, ho1, _⟩ := id p1
      have hlt : b < s1.heap.objs.size := Heap.lt_size ho1
      refine zip_begins2 (begins_text x t) (begins_tuple b its.toArray) trivial p1 fun h' hz hTI hTO g1 g2 hsz hk => wpAny_pyIter_zip hz ?_
      have I2 : Inv X pins σ H1 { s1 with heap := h' } := I1.kept (t' := s1.toks) hk
      exact ⟨s1.heap.objs.size + 4, [s1.heap.objs.size + 4, s1.heap.objs.size + 2, s1.heap.objs.size + 3, s1.heap.objs.size, s1.heap.objs.size + 1], _, _, H1, rfl, I2,
        turn_zipS (x := x) (t := t) (zip_sep2 (fp1 := []) (fp2 := [b]) (fun c hc => nomatch hc) (fun c hc => by rw [List.mem_singleton.mp hc]; exact hlt)) (Nat.ne_of_lt (Nat.lt_succ_of_lt hlt)), ⟨hz, hTI, ⟨_, _, hTO⟩, ⟨_, g1, rfl, rfl⟩, ⟨_, g2, rfl, rfl⟩⟩, fresh5, q⟩
theorem pairD_len' (xs ys : List Dt) : (pairD xs ys).length = min xs.length ys.length := pairD_len xs ys
theorem itd_zipS {K : PySem.W.Frag} {F : Hp} {x : Str} {b : Addr} {ws : List V} {ys : List Dt} (h' : SqT K F b ws) (r' : RpAll K F ws ys) : ItD K (ItzS K x b) F (pairD (signsD x) ys) where
  goes := fun i H hi s => by
    rw [pairD_len, signsD_len] at hi
    have l2 := r'.length
    exact ⟨ws, sqT_mono s h', by omega⟩
  stops := fun H s => by
    have l2 := r'.length
    exact ⟨ws, sqT_mono s h', by rw [pairD_len, signsD_len]; omega⟩
  yields := fun i H v H' hi s y => by
    obtain ⟨T, c, z, e1, e2, e3, e4, e5⟩ := y
    obtain ⟨d2, k3, k4⟩ := r'.getV (e5 ws (sqT_mono s h'))
    have k1 : (signsD x)[i]? = some (.str ⟨#[c]⟩) := by rw [signsD, List.getElem?_map, Array.getElem?_toList, e4]; rfl
    exact ⟨_, pairD_get k1 k3, .inr ⟨T, .str ⟨#[c]⟩, z, .str ⟨#[c]⟩, d2, e1, e2, e3, .str _, k4, rfl⟩⟩
theorem ei_zipS {B : Bs} {es : List Sl} {ta : TA} {P : List Dt → Prop} (h : EvA B ta es fun ds => ∃ (x : Str) (ys : List Dt), ds = [.str x, .tup ys] ∧ P (pairD (signsD x) ys)) : EvI B (iZipS B.K ta) es P := fun σ F H S R q => h σ F H S _ fun vs ds F1 H1 g1 r1 ⟨x, ys, e, p1⟩ => by
  subst e
  obtain ⟨v, w, rfl, r, r'⟩ := rp2 r1
  cases r
  cases r' with
  | tup h3 h4 => exact ⟨_, _, _, rfl, sqT_mono g1.s2 h3, q _ _ F1 H1 g1 (itd_zipS h3 h4) p1⟩
end Y
/-! Y11: filters, slices of tuples, tuple(list), find; the shapes of rows. -/
namespace Y
open PySem L2
section
variable {B : Bs} {es : List Sl}
/-- [f(x) for x in xs if t(x)] -/
theorem eo_fm {wi : TI} {g : TG} {tt : TT} {te : TE} {vs : List Nat} {P : List Dt → Prop} (t : Dt → Bool) (f : Dt → Dt) (h : EvI B wi es fun xs => xs.length < 100000 ∧
    (∀ x, x ∈ xs → TgC B g (wipeE es vs) vs x fun e2 => EvT B tt e2 fun b => b = t x ∧ (b = true → Ev B te e2 fun y => y = f x)) ∧ P ((xs.filter t).map f)) : EvO B (tLc wi g tt te vs) es P :=
  eo_lc fun σ F H S Q q => h σ F H S Q fun J xs F1 H1 g1 it ⟨hl, h1, h2⟩ => q J xs F1 H1 g1 it ⟨hl, fun i acc => acc = ((xs.take i).filter t).map f, rfl,
    fun i x acc hx ha σ F H v S r Q q => h1 x (List.mem_of_getElem? hx) σ F H v S r Q fun es' σ' S' hw p => q es' σ' S' hw (p.imp fun b ⟨hb, hy⟩ => by
      have ht : xs.take (i + 1) = xs.take i ++ [x] := by rw [List.take_add_one, hx]; rfl
      refine ⟨fun hbt => (hy hbt).imp fun y e => ?_, fun hbf => ?_⟩
      · show _ = _
        rw [ht, List.filter_append, List.map_append, ← ha, List.filter_cons, if_pos (by rw [← hb]; exact hbt), e]; rfl
      · show _ = _
        rw [ht, List.filter_append, List.map_append, ← ha, List.filter_cons, if_neg (by rw [← hb, hbf]; decide)]; simp), fun acc ha => by rw [ha, List.take_length]; exact h2⟩
theorem ev_slT {te : TE} {tl th : TO} {P : Dt → Prop} (h : Ev B te es fun d => ∃ xs, d = .tup xs ∧ EvP B tl es fun lo => EvP B th es fun hi => ¬ (HT.sIx xs.length 0 lo = 0 ∧ HT.sIx xs.length xs.length hi = xs.length) ∧ P (.tup (cutD xs lo hi))) : Ev B (tSl (rSlA B.K) te tl th) es P := fun σ F H S Q q => h σ F H S _ fun v d F1 H1 g1 r1 ⟨xs, e, p1⟩ => by
  subst e
  refine p1 σ F1 H1 (S.go g1) _ fun lo F2 H2 g2 p2 => p2 σ F2 H2 ((S.go g1).go g2) _ fun hi F3 H3 g3 ⟨hn, p3⟩ => ?_
  have g := (g1.trans g2).trans g3
  have S3 := S.go g
  cases r1 with
  | tup h1 h2 =>
    have r3 := (h2.mono (g2.s1.trans g3.s1)).cut lo hi
    refine .inr (.inl ⟨_, _, rfl, sqT_mono g3.s2 (sqT_mono (g2.s1.trans g3.s1) h1), by rw [h2.length]; exact hn, fun p hp => ?_⟩)
    have hF : F3 p = none := same_none S3.sub hp
    exact q (.ref p) (.tup (cutD xs lo hi)) (upd F3 p (.tup _)) _ (g.trans (S3.alloc hp)) (.tup (SqT.of upd_same) (r3.mono (same_upd hF))) p3
/-- t[1:] of a tuple that is not empty -/
theorem cut1 {α : Type} (x : α) (xs : List α) : cutD (x :: xs) (some 1) none = xs ∧ ¬ (HT.sIx (x :: xs).length 0 (some 1) = 0 ∧ HT.sIx (x :: xs).length (x :: xs).length none = (x :: xs).length) := by
  have e1 : HT.sIx (x :: xs).length 0 (some 1) = 1 := by
    show (if (1 : Int) < 0 then ((1 : Int) + ((x :: xs).length : Int)).toNat else min (1 : Int).toNat (x :: xs).length) = 1
    rw [if_neg (by decide)]
    show min 1 (xs.length + 1) = 1
    omega
  have e2 : HT.sIx (x :: xs).length (x :: xs).length none = (x :: xs).length := rfl
  refine ⟨?_, fun h => ?_⟩
  · unfold cutD
    rw [e1, e2]
    show (List.drop 0 xs).take (xs.length + 1 - 1) = xs
    simp
  · rw [e1] at h; exact absurd h.1 (by decide)
theorem ev_tail {te : TE} {P : Dt → Prop} (h : Ev B te es fun d => ∃ x xs, d = .tup (x :: xs) ∧ P (.tup xs)) : Ev B (tSl (rSlA B.K) te (tPart (tC (.int 1))) tNoPart) es P :=
  ev_slT (h.imp fun d ⟨x, xs, e, p⟩ => ⟨_, e, ep_some (ev_int ⟨1, rfl, ep_none ⟨(cut1 x xs).2, by rw [(cut1 x xs).1]; exact p⟩⟩)⟩)
theorem ev_tupleL {ta : TA} {P : Dt → Prop} (h : EvA B ta es fun ds => ∃ xs, ds = [.lst xs] ∧ P (.tup xs)) : Ev B (tCB (rTupleA B.K) ta) es P := fun σ F H S Q q => h σ F H S _ fun vs ds F1 H1 g1 r1 ⟨xs, e, p1⟩ => by
  subst e
  have S1 := S.go g1
  obtain ⟨v, rfl, r⟩ := rp1 r1
  cases r with
  | lst h1 h2 =>
    refine ⟨_, _, rfl, .inl ⟨SqL.of (g1.s2 _ _ h1), fun l hl => ?_⟩⟩
    have hF : F1 l = none := same_none S1.sub hl
    exact q (.ref l) (.tup xs) (upd F1 l (.tup _)) _ (g1.trans (S1.alloc hl)) (.tup (SqT.of upd_same) (h2.mono (same_upd hF))) p1
theorem ev_find {to te : TE} {P : Dt → Prop} (h : Ev B to es fun a => ∃ x : Str, a = .str x ∧ Ev B te es fun c => ∃ y : Str, c = .str y ∧ P (.int (Txt.find x y))) :
    Ev B (tM1 (fun x xs H Q => ∃ a b, x = .str a ∧ xs = [.str b] ∧ Q (.int (Txt.find a b)) H) to te) es P := fun σ F H S Q q => h σ F H S _ fun v a F1 H1 g1 r1 ⟨x, e, p1⟩ => by
  subst e
  cases r1
  refine ⟨⟨x, rfl⟩, p1 σ F1 H1 (S.go g1) _ fun w d F2 H2 g2 r2 ⟨y, e2, p2⟩ => ?_⟩
  subst e2
  cases r2
  exact ⟨x, y, rfl, rfl, q _ _ F2 H2 (g1.trans g2) (.int _) p2⟩
/-- a list of texts != [] -/
theorem o_neNil {ss : List Str} {P : Dt → Prop} (hl : ss.length < 50000) (h : ∀ s ∈ ss, PyData.strOk s = true) (hp : P (.bl (!ss.isEmpty))) : Op2 B (rNeA B.K) es (.lst (ss.map Dt.str)) (.lst []) P := by
  refine o_neAD (okD_strs hl h) okD_nil ?_
  have e : PyData.eqv (Dt.lst (ss.map Dt.str)).py (Dt.lst []).py = ss.isEmpty := by
    simp only [Dt.py, pyAll, pyAll_strs]
    rw [eqv_nil]
    cases ss <;> rfl
  rw [e]
  exact hp
end
/-! ### signs -/
theorem sign_eq {k c : Nat} {z : Str} (h : z = ⟨#[c]⟩) : decide ((⟨#[k]⟩ : Str) = z) = decide (k = c) := by
  subst h
  have : ((⟨#[k]⟩ : Str) = ⟨#[c]⟩) ↔ k = c := ⟨fun e => by injection e with e; simpa using e, fun e => by rw [e]⟩
  simp [this]
/-! ### lookups -/
theorem lookup_mem {α β : Type} [BEq α] [LawfulBEq α] : ∀ {l : List (α × β)} {a : α} {b : β}, l.lookup a = some b → (a, b) ∈ l
  | [], a, b, h => by cases h
  | (c, d) :: l, a, b, h => by
    rw [List.lookup_cons] at h
    split at h
    · rename_i e
      cases h
      rw [eq_of_beq e]; exact List.mem_cons_self ..
    · exact List.mem_cons_of_mem _ (lookup_mem h)
theorem lookup_strs : ∀ (l : List (Str × Str)) (z : Str), (l.map fun p => (p.1, V.str p.2)).lookup z = (l.lookup z).map V.str
  | [], z => rfl
  | (c, d) :: l, z => by
    rw [List.map_cons, List.lookup_cons, List.lookup_cons]
    show (match z == c with | true => some (V.str d) | false => List.lookup z (List.map (fun (p : Str × Str) => (p.1, V.str p.2)) l)) = _
    cases z == c with
    | true => rfl
    | false => exact lookup_strs l z
/-! ### forms and rows -/
theorem formB_len : ∀ {ks : List Nat} {xs : List Dt}, formB ks xs = true → ks.length = xs.length
  | [], [], _ => rfl
  | [], _ :: _, h => by cases h
  | _ :: _, [], h => by cases h
  | k :: ks, x :: xs, h => by
    have h : (fitsB k x && formB ks xs) = true := h
    rw [Bool.and_eq_true] at h
    rw [List.length_cons, List.length_cons, formB_len h.2]
def fit2 : Dt → Bool
  | .tup [.str z, x] => fitsB (z.cps.toList.headD 0) x
  | _ => false
theorem all_fit2 : ∀ (ks : List Nat) (xs : List Dt), ks.length = xs.length → (pairD (ks.map fun c => .str ⟨#[c]⟩) xs).all fit2 = formB ks xs
  | [], [], _ => rfl
  | [], _ :: _, h => by cases h
  | _ :: _, [], h => by cases h
  | k :: ks, x :: xs, h => by
    show (fit2 (.tup [.str ⟨#[k]⟩, x]) && (pairD (ks.map fun c => .str ⟨#[c]⟩) xs).all fit2) = (fitsB k x && formB ks xs)
    rw [all_fit2 ks xs (by simpa using h)]; rfl
theorem pairD_in : ∀ {xs ys : List Dt} {p : Dt}, p ∈ pairD xs ys → ∃ x y, p = .tup [x, y] ∧ x ∈ xs ∧ y ∈ ys
  | [], ys, p, h => by cases h
  | x :: xs, [], p, h => by cases h
  | x :: xs, y :: ys, p, h => by
    rcases List.mem_cons.mp (show p ∈ .tup [x, y] :: pairD xs ys from h) with rfl | h
    · exact ⟨x, y, rfl, List.mem_cons_self .., List.mem_cons_self ..⟩
    · obtain ⟨a, b, e, h1, h2⟩ := pairD_in h
      exact ⟨a, b, e, List.mem_cons_of_mem _ h1, List.mem_cons_of_mem _ h2⟩
theorem form0_inv {xs : List Dt} (h : formB [] xs = true) : xs = [] := by
  cases xs with
  | nil => rfl
  | cons _ _ => cases h
theorem formS_inv {k : Nat} {ks : List Nat} {xs : List Dt} (h : formB (k :: ks) xs = true) : ∃ x ys, xs = x :: ys ∧ fitsB k x = true ∧ formB ks ys = true := by
  cases xs with
  | nil => cases h
  | cons x ys =>
    have h : (fitsB k x && formB ks ys) = true := h
    rw [Bool.and_eq_true] at h
    exact ⟨x, ys, rfl, h.1, h.2⟩
theorem rowBy_at {fs : List (Str × Str)} {w : Str} {rest : List Dt} {ks : List Nat} (h : (fs.lookup w).map (fun f => f.cps.toList) = some ks) : rowBy fs (.tup (.str w :: rest)) = formB ks rest := by
  obtain ⟨f, h1, hk⟩ := Option.map_eq_some_iff.mp h
  show (match fs.lookup w with | some f => formB f.cps.toList rest | none => false) = _
  rw [h1]
  show formB f.cps.toList rest = _
  rw [hk]
theorem rowBy_none {fs : List (Str × Str)} {w : Str} {rest : List Dt} (h : fs.lookup w = none) : rowBy fs (.tup (.str w :: rest)) = false := by
  show (match fs.lookup w with | some f => formB f.cps.toList rest | none => false) = _
  rw [h]
/-- the rows as they are drawn -/
inductive RowS : Dt → Prop
  | put {r n : Dt} : isRegD r = true → isNum n 0 65535 = true → RowS (.tup [.str "put", r, n])
  | rn {w : Str} {r n : Dt} : w = "name" ∨ w = "ifzero" → isRegD r = true → isNameD n = true → RowS (.tup [.str w, r, n])
  | rr {w : Str} {r s : Dt} : w = "add" ∨ w = "take" → isRegD r = true → isRegD s = true → RowS (.tup [.str w, r, s])
  | rrd {w : Str} {r s d : Dt} : w = "load" ∨ w = "store" → isRegD r = true → isRegD s = true → isNum d 0 15 = true → RowS (.tup [.str w, r, s, d])
  | nm {w : Str} {n : Dt} : w = "jump" ∨ w = "call" ∨ w = "address" → isNameD n = true → RowS (.tup [.str w, n])
  | rg {w : Str} {r : Dt} : w = "callby" ∨ w = "out" → isRegD r = true → RowS (.tup [.str w, r])
  | none {w : Str} : w = "back" ∨ w = "halt" → RowS (.tup [.str w])
  | room {k : Dt} : isNum k 1 120 = true → RowS (.tup [.str "room", k])
  | word {n : Dt} : isNum n 0 65535 = true → RowS (.tup [.str "word", n])
theorem cps_k : ("" : Str).cps.toList = [] ∧ ("k" : Str).cps.toList = [107] ∧ ("r" : Str).cps.toList = [114] ∧ ("n" : Str).cps.toList = [110] ∧ ("w" : Str).cps.toList = [119] ∧ ("rw" : Str).cps.toList = [114, 119] ∧ ("rn" : Str).cps.toList = [114, 110] ∧ ("rr" : Str).cps.toList = [114, 114] ∧ ("rrd" : Str).cps.toList = [114, 114, 100] := by decide +kernel
theorem rowS_code {d : Dt} (h : codeRow d = true) : RowS d := by
  obtain ⟨w, f, rest, rfl, h1, h2⟩ := rowBy_inv h
  have hm := lookup_mem h1
  obtain ⟨c0, ck, cr, cn, cw, crw, crn, crr, crd⟩ := cps_k
  simp only [codeForms, List.mem_cons, List.not_mem_nil, or_false, Prod.mk.injEq] at hm
  rcases hm with ⟨rfl, rfl⟩ | ⟨rfl, rfl⟩ | ⟨rfl, rfl⟩ | ⟨rfl, rfl⟩ | ⟨rfl, rfl⟩ | ⟨rfl, rfl⟩ | ⟨rfl, rfl⟩ | ⟨rfl, rfl⟩ | ⟨rfl, rfl⟩ | ⟨rfl, rfl⟩ | ⟨rfl, rfl⟩ | ⟨rfl, rfl⟩ | ⟨rfl, rfl⟩ | ⟨rfl, rfl⟩
  · rw [crw] at h2; obtain ⟨a, y1, rfl, k1, h2⟩ := formS_inv h2; obtain ⟨b, y2, rfl, k2, h2⟩ := formS_inv h2; rw [form0_inv h2]; exact .put k1 k2
  · rw [crn] at h2; obtain ⟨a, y1, rfl, k1, h2⟩ := formS_inv h2; obtain ⟨b, y2, rfl, k2, h2⟩ := formS_inv h2; rw [form0_inv h2]; exact .rn (.inl rfl) k1 k2
  · rw [crr] at h2; obtain ⟨a, y1, rfl, k1, h2⟩ := formS_inv h2; obtain ⟨b, y2, rfl, k2, h2⟩ := formS_inv h2; rw [form0_inv h2]; exact .rr (.inl rfl) k1 k2
  · rw [crr] at h2; obtain ⟨a, y1, rfl, k1, h2⟩ := formS_inv h2; obtain ⟨b, y2, rfl, k2, h2⟩ := formS_inv h2; rw [form0_inv h2]; exact .rr (.inr rfl) k1 k2
  · rw [crd] at h2; obtain ⟨a, y1, rfl, k1, h2⟩ := formS_inv h2; obtain ⟨b, y2, rfl, k2, h2⟩ := formS_inv h2; obtain ⟨c, y3, rfl, k3, h2⟩ := formS_inv h2; rw [form0_inv h2]; exact .rrd (.inl rfl) k1 k2 k3
  · rw [crd] at h2; obtain ⟨a, y1, rfl, k1, h2⟩ := formS_inv h2; obtain ⟨b, y2, rfl, k2, h2⟩ := formS_inv h2; obtain ⟨c, y3, rfl, k3, h2⟩ := formS_inv h2; rw [form0_inv h2]; exact .rrd (.inr rfl) k1 k2 k3
  · rw [cn] at h2; obtain ⟨a, y1, rfl, k1, h2⟩ := formS_inv h2; rw [form0_inv h2]; exact .nm (.inl rfl) k1
  · rw [crn] at h2; obtain ⟨a, y1, rfl, k1, h2⟩ := formS_inv h2; obtain ⟨b, y2, rfl, k2, h2⟩ := formS_inv h2; rw [form0_inv h2]; exact .rn (.inr rfl) k1 k2
  · rw [cn] at h2; obtain ⟨a, y1, rfl, k1, h2⟩ := formS_inv h2; rw [form0_inv h2]; exact .nm (.inr (.inl rfl)) k1
  · rw [cr] at h2; obtain ⟨a, y1, rfl, k1, h2⟩ := formS_inv h2; rw [form0_inv h2]; exact .rg (.inl rfl) k1
  · rw [c0] at h2; rw [form0_inv h2]; exact .none (.inl rfl)
  · rw [cr] at h2; obtain ⟨a, y1, rfl, k1, h2⟩ := formS_inv h2; rw [form0_inv h2]; exact .rg (.inr rfl) k1
  · rw [c0] at h2; rw [form0_inv h2]; exact .none (.inr rfl)
  · rw [ck] at h2; obtain ⟨a, y1, rfl, k1, h2⟩ := formS_inv h2; rw [form0_inv h2]; exact .room k1
theorem rowS_data {d : Dt} (h : dataRow d = true) : RowS d := by
  obtain ⟨w, f, rest, rfl, h1, h2⟩ := rowBy_inv h
  have hm := lookup_mem h1
  obtain ⟨c0, ck, cr, cn, cw, crw, crn, crr, crd⟩ := cps_k
  simp only [dataForms, List.mem_cons, List.not_mem_nil, or_false, Prod.mk.injEq] at hm
  rcases hm with ⟨rfl, rfl⟩ | ⟨rfl, rfl⟩ | ⟨rfl, rfl⟩
  · rw [cw] at h2; obtain ⟨a, y1, rfl, k1, h2⟩ := formS_inv h2; rw [form0_inv h2]; exact .word k1
  · rw [cn] at h2; obtain ⟨a, y1, rfl, k1, h2⟩ := formS_inv h2; rw [form0_inv h2]; exact .nm (.inr (.inr rfl)) k1
  · rw [ck] at h2; obtain ⟨a, y1, rfl, k1, h2⟩ := formS_inv h2; rw [form0_inv h2]; exact .room k1
/-- rows whose items cannot be good: the first item is no register -/
theorem code_inv {w : Str} {rest : List Dt} (h : codeRow (.tup (.str w :: rest)) = true) : (w = "back" ∨ w = "halt" ∨ w = "room" ∨ w = "jump" ∨ w = "call") ∨ ((w = "callby" ∨ w = "out" ∨ w = "name" ∨ w = "ifzero" ∨ w = "put") ∧ ∃ x ys, rest = x :: ys ∧ isRegD x = true) ∨ ((w = "add" ∨ w = "take" ∨ w = "load" ∨ w = "store") ∧ ∃ x y ys, rest = x :: y :: ys ∧ isRegD x = true ∧ isRegD y = true) := by
  obtain ⟨w', f, rest', e, h1, h2⟩ := rowBy_inv h
  cases e
  have hm := lookup_mem h1
  obtain ⟨c0, ck, cr, cn, cw, crw, crn, crr, crd⟩ := cps_k
  simp only [codeForms, List.mem_cons, List.not_mem_nil, or_false, Prod.mk.injEq] at hm
  rcases hm with ⟨rfl, rfl⟩ | ⟨rfl, rfl⟩ | ⟨rfl, rfl⟩ | ⟨rfl, rfl⟩ | ⟨rfl, rfl⟩ | ⟨rfl, rfl⟩ | ⟨rfl, rfl⟩ | ⟨rfl, rfl⟩ | ⟨rfl, rfl⟩ | ⟨rfl, rfl⟩ | ⟨rfl, rfl⟩ | ⟨rfl, rfl⟩ | ⟨rfl, rfl⟩ | ⟨rfl, rfl⟩
  · rw [crw] at h2; obtain ⟨a, y1, rfl, k1, h2⟩ := formS_inv h2; exact .inr (.inl ⟨by simp, _, _, rfl, k1⟩)
  · rw [crn] at h2; obtain ⟨a, y1, rfl, k1, h2⟩ := formS_inv h2; exact .inr (.inl ⟨by simp, _, _, rfl, k1⟩)
  · rw [crr] at h2; obtain ⟨a, y1, rfl, k1, h2⟩ := formS_inv h2; obtain ⟨b, y2, rfl, k2, h2⟩ := formS_inv h2; exact .inr (.inr ⟨by simp, _, _, _, rfl, k1, k2⟩)
  · rw [crr] at h2; obtain ⟨a, y1, rfl, k1, h2⟩ := formS_inv h2; obtain ⟨b, y2, rfl, k2, h2⟩ := formS_inv h2; exact .inr (.inr ⟨by simp, _, _, _, rfl, k1, k2⟩)
  · rw [crd] at h2; obtain ⟨a, y1, rfl, k1, h2⟩ := formS_inv h2; obtain ⟨b, y2, rfl, k2, h2⟩ := formS_inv h2; exact .inr (.inr ⟨by simp, _, _, _, rfl, k1, k2⟩)
  · rw [crd] at h2; obtain ⟨a, y1, rfl, k1, h2⟩ := formS_inv h2; obtain ⟨b, y2, rfl, k2, h2⟩ := formS_inv h2; exact .inr (.inr ⟨by simp, _, _, _, rfl, k1, k2⟩)
  · exact .inl (by simp)
  · rw [crn] at h2; obtain ⟨a, y1, rfl, k1, h2⟩ := formS_inv h2; exact .inr (.inl ⟨by simp, _, _, rfl, k1⟩)
  · exact .inl (by simp)
  · rw [cr] at h2; obtain ⟨a, y1, rfl, k1, h2⟩ := formS_inv h2; exact .inr (.inl ⟨by simp, _, _, rfl, k1⟩)
  · exact .inl (by simp)
  · rw [cr] at h2; obtain ⟨a, y1, rfl, k1, h2⟩ := formS_inv h2; exact .inr (.inl ⟨by simp, _, _, rfl, k1⟩)
  · exact .inl (by simp)
  · exact .inl (by simp)
/-! ### registers and names -/
theorem reg_cases {x : Dt} (h : isRegD x = true) : x = .str "r0" ∨ x = .str "r1" ∨ x = .str "r2" := by
  cases x with
  | str z =>
    have h : inD (.str z) [.str "r0", .str "r1", .str "r2"] = true := h
    simp only [inD, List.any_cons, List.any_nil, eqD, Bool.or_false, Bool.or_eq_true] at h
    rcases h with h | h | h
    · exact .inl (by rw [show z = "r0" from (by simpa using h : _ = _) ▸ rfl])
    · exact .inr (.inl (by rw [show z = "r1" from (by simpa using h : _ = _) ▸ rfl]))
    · exact .inr (.inr (by rw [show z = "r2" from (by simpa using h : _ = _) ▸ rfl]))
  | _ => cases h
theorem reg_noname {x : Dt} (h : isRegD x = true) : isNameD x = false := by
  rcases reg_cases h with rfl | rfl | rfl <;> decide +kernel
theorem num_int {x : Dt} {l m : Int} (h : isNum x l m = true) : ∃ i, x = .int i ∧ l ≤ i ∧ i ≤ m := by
  cases x with
  | int i =>
    have h : (decide (l ≤ i) && decide (i ≤ m)) = true := h
    rw [Bool.and_eq_true] at h
    exact ⟨i, rfl, of_decide_eq_true h.1, of_decide_eq_true h.2⟩
  | _ => cases h
theorem name_str {x : Dt} (h : isNameD x = true) : ∃ z, x = .str z ∧ z.cps.size ≤ 6 ∧ PyData.strOk z = true := by
  cases x with
  | str z =>
    have h : (decide ((1 : Int) ≤ (z.cps.size : Int)) && (decide ((z.cps.size : Int) ≤ 6) && z.cps.toList.all fun c => decide (c ∈ letters))) = true := h
    rw [Bool.and_eq_true, Bool.and_eq_true, List.all_eq_true] at h
    have h6 := of_decide_eq_true h.2.1
    refine ⟨z, rfl, by omega, strOk_of (lit := "abcdefghijklmnopqrstuvwxyz") (fun c hc => of_decide_eq_true (h.2.2 c hc)) (by decide +kernel)⟩
  | _ => cases h
/-! ### rows whose names are of a list -/
def memT (x t : Dt) : Prop := ∃ ss, t = .lst ss ∧ x ∈ ss
def Nm (t x : Dt) : Prop := isNameD x = true → memT x t
def namesFrom (t d : Dt) : Prop := ∀ w rest, d = .tup (.str w :: rest) → ∀ x ∈ rest, Nm t x
theorem nm_r {t x : Dt} (h : isRegD x = true) : Nm t x := fun e => by rw [reg_noname h] at e; cases e
theorem nm_i {t x : Dt} {l m : Int} (h : isNum x l m = true) : Nm t x := fun e => by obtain ⟨i, rfl, _⟩ := num_int h; cases e
theorem nm_int {t : Dt} {i : Int} : Nm t (.int i) := fun e => by cases e
theorem nm_fit {t x : Dt} (h : fitsB 107 x = true) : Nm t x := nm_i (l := 1) (m := 120) h
theorem nm_fitd {t x : Dt} (h : fitsB 100 x = true) : Nm t x := nm_i (l := 0) (m := 15) h
theorem nf0 {t : Dt} {w : Str} : namesFrom t (.tup [.str w]) := fun w' rest e x hx => by cases e; cases hx
theorem nf1 {t : Dt} {w : Str} {a : Dt} (h : Nm t a) : namesFrom t (.tup [.str w, a]) := fun w' rest e x hx => by
  cases e
  rcases List.mem_cons.mp hx with rfl | hx
  · exact h
  · cases hx
theorem nf2 {t : Dt} {w : Str} {a b : Dt} (h : Nm t a) (h2 : Nm t b) : namesFrom t (.tup [.str w, a, b]) := fun w' rest e x hx => by
  cases e
  rcases List.mem_cons.mp hx with rfl | hx
  · exact h
  rcases List.mem_cons.mp hx with rfl | hx
  · exact h2
  · cases hx
theorem nf3 {t : Dt} {w : Str} {a b c : Dt} (h : Nm t a) (h2 : Nm t b) (h3 : Nm t c) : namesFrom t (.tup [.str w, a, b, c]) := fun w' rest e x hx => by
  cases e
  rcases List.mem_cons.mp hx with rfl | hx
  · exact h
  rcases List.mem_cons.mp hx with rfl | hx
  · exact h2
  rcases List.mem_cons.mp hx with rfl | hx
  · exact h3
  · cases hx
def codeRowPost2 (ds : List Dt) (d : Dt) : Prop := codeRow d = true ∧ ∀ t, ds = [t] → namesFrom t d
def dataRowPost2 (ds : List Dt) (d : Dt) : Prop := dataRow d = true ∧ ∀ t, ds = [t] → namesFrom t d
theorem code_k2 {t : Dt} {R : Dt → Prop} (ht : NamesD t) (h : ∀ d, codeRow d = true → namesFrom t d → R d) : namesPre [t] ∧ ∀ d, codeRowPost2 [t] d → R d := ⟨⟨t, rfl, ht⟩, fun d e => h d e.1 (e.2 t rfl)⟩
theorem data_k2 {t : Dt} {R : Dt → Prop} (ht : NamesD t) (h : ∀ d, dataRow d = true → namesFrom t d → R d) : namesPre [t] ∧ ∀ d, dataRowPost2 [t] d → R d := ⟨⟨t, rfl, ht⟩, fun d e => h d e.1 (e.2 t rfl)⟩
theorem of_namesM {t : Dt} {R : Dt → Prop} (ht : NamesD t) (h : ∀ d, isNameD d = true → Nm t d → R d) : ofPre [t] ∧ ∀ d, ofPost [t] d → R d := by
  obtain ⟨ss, rfl, h0, h1, h2⟩ := ht
  refine of_k ⟨by simpa using h0, by simp; omega⟩ fun d hd => ?_
  obtain ⟨s, hs, rfl⟩ := List.mem_map.mp hd
  exact h _ (h2 s hs) fun _ => ⟨_, rfl, hd⟩
/-! ### things that may be rows -/
def thingB (x : Dt) : Bool := plainD x && (match x with | .tup ys => decide (ys.length ≤ 100) && ys.all goodV | _ => true)
theorem thing_plain {x : Dt} (h : thingB x = true) : plainD x = true := by
  unfold thingB at h; rw [Bool.and_eq_true] at h; exact h.1
theorem thing_tup {ys : List Dt} (h : thingB (.tup ys) = true) : ys.length ≤ 100 ∧ ∀ y ∈ ys, goodV y = true := by
  unfold thingB at h; rw [Bool.and_eq_true] at h
  have h := h.2
  rw [Bool.and_eq_true] at h
  exact ⟨of_decide_eq_true h.1, fun y hy => all_mem h.2 hy⟩
theorem thing_mk {ys : List Dt} (h1 : ys.length ≤ 100) (h2 : ∀ y ∈ ys, goodV y = true) : thingB (.tup ys) = true := by
  show (true && (decide (ys.length ≤ 100) && ys.all goodV)) = true
  rw [decide_eq_true h1, List.all_eq_true.mpr h2]; rfl
theorem good_name {x : Dt} (h : isNameD x = true) : goodV x = true := by
  obtain ⟨z, rfl, h1, h2⟩ := name_str h
  show (true && (decide (z.cps.size < 1000) && PyData.strOk z)) = true
  rw [decide_eq_true (by omega), h2]; rfl
theorem good_reg {x : Dt} (h : isRegD x = true) : goodV x = true := by
  rcases reg_cases h with rfl | rfl | rfl <;> decide +kernel
theorem good_num {x : Dt} {l m : Int} (h : isNum x l m = true) : goodV x = true := by
  obtain ⟨i, rfl, _⟩ := num_int h; rfl
theorem rowS_good {d : Dt} (h : RowS d) : ∃ w rest, d = .tup (.str w :: rest) ∧ rest.length ≤ 3 ∧ goodV (.str w) = true ∧ ∀ y ∈ rest, goodV y = true := by
  cases h with
  | put h1 h2 => exact ⟨_, _, rfl, by simp, by decide +kernel, by simp [good_reg h1, good_num h2]⟩
  | rn hw h1 h2 => exact ⟨_, _, rfl, by simp, by rcases hw with rfl | rfl <;> decide +kernel, by simp [good_reg h1, good_name h2]⟩
  | rr hw h1 h2 => exact ⟨_, _, rfl, by simp, by rcases hw with rfl | rfl <;> decide +kernel, by simp [good_reg h1, good_reg h2]⟩
  | rrd hw h1 h2 h3 => exact ⟨_, _, rfl, by simp, by rcases hw with rfl | rfl <;> decide +kernel, by simp [good_reg h1, good_reg h2, good_num h3]⟩
  | nm hw h1 => exact ⟨_, _, rfl, by simp, by rcases hw with rfl | rfl | rfl <;> decide +kernel, by simp [good_name h1]⟩
  | rg hw h1 => exact ⟨_, _, rfl, by simp, by rcases hw with rfl | rfl <;> decide +kernel, by simp [good_reg h1]⟩
  | none hw => exact ⟨_, _, rfl, by simp, by rcases hw with rfl | rfl <;> decide +kernel, by simp⟩
  | room h1 => exact ⟨_, _, rfl, by simp, by decide +kernel, by simp [good_num h1]⟩
  | word h1 => exact ⟨_, _, rfl, by simp, by decide +kernel, by simp [good_num h1]⟩
theorem rowS_thing {d : Dt} (h : RowS d) : thingB d = true := by
  obtain ⟨w, rest, rfl, h1, h2, h3⟩ := rowS_good h
  refine thing_mk (by simp; omega) fun y hy => ?_
  rcases List.mem_cons.mp hy with rfl | hy
  · exact h2
  · exact h3 y hy
end Y
/-! Y12: statements that are never reached; int(text); tuple.index; list * n. -/
namespace Y
open PySem L2
/-- a statement that is not reached: nothing is asked, nothing can be told -/
def tDead : TS := fun _ _ _ => False
theorem ps_dead {X : Cx} {st : Stmt} : PS X st tDead := ⟨fun pins s σ H D I h => h.elim⟩
def rTupIndex (K : PySem.W.Frag) : V → List V → Hp → VK → Prop := fun x xs H Q => ∃ p, ∃ ys : List Str, ∃ z j, x = .ref p ∧ xs = [.str z] ∧ SqT K H p (ys.map V.str) ∧ ys[j]? = some z ∧ (∀ m, m < j → ys[m]? ≠ some z) ∧ Q (.int (j : Nat)) H
theorem mt_tupIndexA {X : Cx} {K : PySem.W.Frag} (hK : X.K = K := by rfl) : MtR X "tuple.index" (rTupIndex K) := hK ▸ mt_tup_index
/-- a tuple of the top, with no dict of its own -/
def KTup (K : PySem.W.Frag) (a : Addr) : Prop := ∃ o, K.lookup a = some o ∧ o.cls = .type "tuple" ∧ o.dict = none
section
variable {B : Bs} {es : List Sl}
theorem c_intS {z : Str} {n : Int} {P : Dt → Prop} (h : PySem.intText? z = some n) (hl : z.length ≤ 640) (hp : P (.int n)) : Cal B (fun xs H Q => ∃ a n, xs = [.str a] ∧ PySem.intText? a = some n ∧ a.length ≤ 640 ∧ Q (.int n) H) es [.str z] P := fun σ F H vs S a Q k => by
  obtain ⟨v, rfl, r⟩ := rp1 a
  cases r
  exact ⟨z, n, rfl, h, hl, k _ _ F H S.refl (.int _) hp⟩
theorem ev_tupIndex {a : Addr} {ys : List Str} {te : TE} {P : Dt → Prop} (kt : KTup B.K a) (kd : KD B.K (.ref a) (.tup (ys.map Dt.str))) (h : Ev B te es fun d => ∃ (z : Str) (j : Nat), d = .str z ∧ ys[j]? = some z ∧ (∀ m, m < j → ys[m]? ≠ some z) ∧ P (.int (j : Int))) : Ev B (tBM B.K "tuple" (rTupIndex B.K) (tC (.ref a)) (tCons te tNil)) es P := fun σ F H S Q q => by
  refine ⟨.inr (.inl ⟨rfl, kt⟩), h σ F H S _ fun v d F1 H1 g1 r1 ⟨z, j, e, h1, h2, p⟩ => ?_⟩
  subst e
  cases r1
  have r := kd H1
  cases r with
  | tup k1 k2 =>
    have e := k2.texts
    subst e
    exact ⟨a, ys, z, j, rfl, rfl, k1, h1, h2, q _ _ F1 H1 g1 (.int _) p⟩
theorem sm_retOwn {p : Po} {i : Nat} {a : Addr} {xs : List Dt} (hi : es[i]? = some (.own a xs)) (h : p.ro xs) : Sm B (tRet (tVar i)) es p := fun σ F H D S _ _ _ _ ro => by
  obtain ⟨vs, h1, h2, h3, h4⟩ := S.own hi
  exact ⟨_, h1, ro a vs xs es σ F H S (Same.refl F) h2 h3 h4 (S.ow i a xs hi).1 (S.ow i a xs hi).2 h⟩
/-- xs + ys as a new list -/
theorem eo_cat {ta tb : TE} {P : List Dt → Prop} (h : Ev B ta es fun x => ∃ xs, x = .lst xs ∧ Ev B tb es fun y => ∃ ys, y = .lst ys ∧ xs.length + ys.length ≤ 100000 ∧ P (xs ++ ys)) : EvO B (tOp (rPlus B.K) ta tb) es P := fun σ F H S Q q =>
  h σ F H S _ fun v d F1 H1 g1 r1 ⟨xs, e, p1⟩ => p1 σ F1 H1 (S.go g1) _ fun w y F2 H2 g2 r2 ⟨ys, e2, hl, p2⟩ => by
    subst e e2
    have g := g1.trans g2
    have S2 := S.go g
    cases r1 with
    | lst h1 h2 =>
      cases r2 with
      | lst h3 h4 =>
        refine .inr (.inr (.inl ⟨_, _, _, _, rfl, rfl, g2.s2 _ _ (g2.s1 _ _ h1), g2.s2 _ _ h3, size_of (by rw [h2.length, h4.length]; exact hl), fun p hp => ?_⟩))
        exact q p _ _ F2 _ (g.trans (S2.allocO hp)) (g.new (S2.newB hp) hp) (same_none S2.sub hp) upd_same ((h2.mono g2.s1).app h4) p2
theorem eo_rep {ta tb : TE} {P : List Dt → Prop} (h : Ev B ta es fun d => ∃ xs, d = .lst xs ∧ Ev B tb es fun y => ∃ k : Int, y = .int k ∧ (0 ≤ k ∧ k ≤ 1000 ∧ xs.length ≤ 10) ∧ P (List.replicate k.toNat xs).flatten) : EvO B (tOp rRep ta tb) es P := fun σ F H S Q q =>
  h σ F H S _ fun v d F1 H1 g1 r1 ⟨xs, e, p1⟩ => p1 σ F1 H1 (S.go g1) _ fun w y F2 H2 g2 r2 ⟨k, e2, ⟨k0, k1, k2⟩, p2⟩ => by
    subst e e2
    cases r2
    have g := g1.trans g2
    have S2 := S.go g
    cases r1 with
    | @lst a vs _ h1 h2 =>
      have hl := h2.length
      have rr : ∀ n : Nat, RpAll B.K F2 (List.replicate n vs).flatten (List.replicate n xs).flatten := by
        intro n
        induction n with
        | zero => exact .nil
        | succ n ih => rw [List.replicate_succ, List.replicate_succ, List.flatten_cons, List.flatten_cons]; exact (h2.mono g2.s1).app ih
      refine ⟨_, k, vs, rfl, rfl, g2.s2 _ _ (g2.s1 _ _ h1), by omega, by omega, size_of ?_, fun p hp => ?_⟩
      · have : vs.length * k.toNat ≤ 10 * 1000 := Nat.mul_le_mul (by omega) (by omega)
        omega
      · exact q p _ _ F2 _ (g.trans (S2.allocO hp)) (g.new (S2.newB hp) hp) (same_none S2.sub hp) upd_same (rr _) p2
end
end Y
/-! Y13: d[k] of a displayed dict; own lists cleared; cells of rows. -/
namespace Y
open PySem L2
section
variable {B : Bs} {es : List Sl}
theorem ev_dget {td ty : TE} {P : Dt → Prop} (h : Ev B td es fun x => ∃ ks xs, x = .dct ks xs ∧ Ev B ty es fun y => ∃ k, y = kD k ∧ ∃ d, getK ks xs k = some d ∧ P d) : Ev B (tDGet td ty) es P := fun σ F H S Q q =>
  h σ F H S _ fun v x F1 H1 g1 r1 ⟨ks, xs, e, p1⟩ => by
    subst e
    refine p1 σ F1 H1 (S.go g1) _ fun u y F2 H2 g2 r2 ⟨k, e2, d, hd, p2⟩ => ?_
    subst e2
    have ek := rp_kD r2
    subst ek
    cases r1 with
    | dct h1 h2 h3 h4 =>
      subst h2 h3
      obtain ⟨v', k1, k2⟩ := (getK_of k (h4.mono g2.s1)).1 d hd
      exact ⟨_, v', rfl, by rw [← k1]; exact DGet.k (k := k) (g2.s2 _ _ (g2.s1 _ _ h1)), q _ _ F2 H2 (g1.trans g2) k2 p2⟩
theorem sm_clear {p : Po} {i : Nat} {a : Addr} {xs : List Dt} (hi : es[i]? = some (.own a xs)) (h : p.nx (es.set i (.own a []))) : Sm B (tDrop (tBM0 B.K "list" rClear (tVar i))) es p := fun σ F H D S n _ _ _ _ => by
  obtain ⟨vs, h1, h2, h3, h4⟩ := S.own hi
  exact ⟨_, h1, .inl ⟨rfl, _, SqL.of h3⟩, a, vs, rfl, rfl, h3, n _ _ F _ (S.change hi h1 h2 .nil) (Same.refl F) h⟩
end
end Y
/-! Y14: loops unrolled; lists of ints. -/
namespace Y
open PySem L2
section
variable {B : Bs} {es : List Sl}
/-- a loop over a list that is known: turn by turn -/
def unD (B : Bs) (g : TG) (tb : TS) (p : Po) : List Dt → List Sl → Prop
  | [], es => p.nx es
  | x :: xs, es => Tg B g es x fun e2 => Sm B tb e2 { p with nx := unD B g tb p xs, bk := p.nx, ct := unD B g tb p xs }
theorem sm_forU {p : Po} {wi : TI} {g : TG} {tb : TS} (h : EvI B wi es fun xs => unD B g tb p xs es) : Sm B (tFor wi g tb) es p :=
  sm_for fun σ F H S R q => h σ F H S R fun J xs F1 H1 g1 it hu => q J xs F1 H1 g1 it ⟨fun i e => unD B g tb p (xs.drop i) e, hu, fun i x es' hx hI => by
    have e1 : xs.drop i = x :: xs.drop (i + 1) := by
      obtain ⟨hl, rfl⟩ := List.getElem?_eq_some_iff.mp hx
      exact List.drop_eq_getElem_cons hl
    have hI : unD B g tb p (xs.drop i) es' := hI
    rw [e1] at hI
    exact hI, fun es' hI => by
      have hI : unD B g tb p (xs.drop xs.length) es' := hI
      rw [List.drop_length] at hI; exact hI⟩
end
theorem see_ints (a : Addr) (xs : List Dt) : ∀ ns : List Int, seeAll a xs (ns.map Dt.int) = ns.map Dt.int
  | [] => by simp [seeAll]
  | n :: ns => by simp [seeAll, Dt.see, see_ints a xs ns]
theorem pure_ints : ∀ ns : List Int, pureAll (ns.map Dt.int) = true
  | [] => by simp [pureAll]
  | n :: ns => by simp [pureAll, Dt.pureD, pure_ints ns]
theorem depth_ints : ∀ ns : List Int, depthAll (ns.map Dt.int) = 0
  | [] => by simp [depthAll]
  | n :: ns => by simp [depthAll, Dt.depth, depth_ints ns]
/-- a list of ints -/
def IntsD (xs : List Dt) : Prop := ∃ ns : List Int, xs = ns.map Dt.int
theorem IntsD.see {xs ys : List Dt} {a : Addr} (h : IntsD ys) : seeAll a xs ys = ys := by obtain ⟨ns, rfl⟩ := h; exact see_ints a xs ns
theorem IntsD.pure {ys : List Dt} (h : IntsD ys) (hl : ys.length < 50000) : (Dt.lst ys).pureD = true := by
  obtain ⟨ns, rfl⟩ := h
  unfold Dt.pureD
  rw [decide_eq_true hl, pure_ints]; rfl
theorem IntsD.depth {ys : List Dt} (h : IntsD ys) : (Dt.lst ys).depth = 1 := by
  obtain ⟨ns, rfl⟩ := h
  unfold Dt.depth
  rw [depth_ints]
/-- two equal lists of ints beside one another -/
theorem IntsD.pure2 {ys : List Dt} (h : IntsD ys) (hl : ys.length < 50000) : (Dt.lst [.lst ys, .lst ys]).pureD = true ∧ (Dt.lst [.lst ys, .lst ys]).depth = 2 := by
  have h1 := h.pure hl
  have h2 := h.depth
  constructor
  · unfold Dt.pureD
    simp [pureAll, h1]
  · unfold Dt.depth
    simp [depthAll, h2]
theorem IntsD.nil : IntsD [] := ⟨[], rfl⟩
theorem IntsD.cons {i : Int} {xs : List Dt} (h : IntsD xs) : IntsD (.int i :: xs) := by obtain ⟨ns, rfl⟩ := h; exact ⟨i :: ns, rfl⟩
theorem IntsD.app {xs ys : List Dt} (h : IntsD xs) (h2 : IntsD ys) : IntsD (xs ++ ys) := by obtain ⟨ns, rfl⟩ := h; obtain ⟨ms, rfl⟩ := h2; exact ⟨ns ++ ms, by rw [List.map_append]⟩
theorem IntsD.rep (n : Nat) (i : Int) : IntsD (List.replicate n (.int i)) := ⟨List.replicate n i, by rw [List.map_replicate]⟩
end Y
/-! Y15: isinstance(x, dict); shaped data of other kinds. -/
namespace Y
open PySem L2
section
variable {B : Bs} {es : List Sl}
def isDctD : Dt → Bool
  | .dct _ _ => true
  | _ => false
theorem isi_dict {x : Dt} (h : plainD x = true) : isiD "dict" x = some (isDctD x) := by
  cases x with
  | non => show kitB "NoneType" "dict" = some false; decide +kernel
  | bl _ => show kitB "bool" "dict" = some false; decide +kernel
  | int _ => show kitB "int" "dict" = some false; decide +kernel
  | str _ => show kitB "str" "dict" = some false; decide +kernel
  | lst _ => show kitB "list" "dict" = some false; decide +kernel
  | tup _ => show kitB "tuple" "dict" = some false; decide +kernel
  | dct _ _ => show kitB "dict" "dict" = some true; decide +kernel
  | obj _ _ _ => cases h
  | ali _ => cases h
theorem ev_isDict {te : TE} {P : Dt → Prop} (h : Ev B te es fun d => plainD d = true ∧ P (.bl (isDctD d))) : Ev B (tCB (rIsi B.K) (tCons te (tCons (tC (.ty "dict")) tNil))) es P := ev_isi (h.imp fun d q => ⟨_, isi_dict q.1, q.2⟩)
end
end Y
/-! Y16: list(..) as a datum. -/
namespace Y
open PySem L2
section
variable {B : Bs} {es : List Sl}
theorem c_listT {xs : List Dt} {P : Dt → Prop} (hp : P (.lst xs)) : Cal B (rListB B.K) es [.tup xs] P := fun σ F H vs S a Q k => by
  obtain ⟨v, rfl, r⟩ := rp1 a
  cases r with
  | tup h1 h2 => exact .inl ⟨_, _, rfl, .inr (sqT_mono S.sub h1), fun p hp' => k _ (.lst xs) (upd F p (.lst _)) _ (S.alloc hp') (.lst upd_same (h2.mono (same_upd (same_none S.sub hp')))) hp⟩
theorem c_listL {xs : List Dt} {P : Dt → Prop} (hp : P (.lst xs)) : Cal B (rListB B.K) es [.lst xs] P := fun σ F H vs S a Q k => by
  obtain ⟨v, rfl, r⟩ := rp1 a
  cases r with
  | lst h1 h2 => exact .inl ⟨_, _, rfl, .inl (SqL.of (S.sub _ _ h1)), fun p hp' => k _ (.lst xs) (upd F p (.lst _)) _ (S.alloc hp') (.lst upd_same (h2.mono (same_upd (same_none S.sub hp')))) hp⟩
end
end Y
/-! Y17: str(int); three at once, the first a new list of one's own. -/
namespace Y
open PySem L2
section
variable {B : Bs} {es : List Sl}
theorem log_ok {i : Int} (h : -100000000 ≤ i ∧ i ≤ 100000000) : i.natAbs.log2 < 1920 := by
  by_cases h0 : i.natAbs = 0
  · rw [h0]; decide
  · rw [Nat.log2_lt h0]
    have h1 : i.natAbs < 2 ^ 27 := by
      have : (2 : Nat) ^ 27 = 134217728 := by decide
      omega
    exact Nat.lt_of_lt_of_le h1 (Nat.pow_le_pow_right (by decide) (by decide))
theorem c_strI {i : Int} {P : Dt → Prop} (h : -100000000 ≤ i ∧ i ≤ 100000000) (hp : P (.str (toString i))) : Cal B (fun xs H Q => ∃ i, xs = [.int i] ∧ i.natAbs.log2 < 1920 ∧ Q (.str (toString i)) H) es [.int i] P := fun σ F H vs S a Q k => by
  obtain ⟨v, rfl, r⟩ := rp1 a
  cases r
  exact ⟨i, rfl, log_ok h, k _ _ F H S.refl (.str _) hp⟩
theorem sm_par3O {p : Po} {i j l : Nat} {t1 t2 t3 : TE} (h : EvO B t1 es fun xs => Ev B t2 es fun y => Ev B t3 es fun z => ∀ a, p.nx (((es.set i (.own a xs)).set j (.d y)).set l (.d z))) : Sm B (tPar3 i j l (tCons t1 (tCons t2 (tCons t3 tNil)))) es p := fun σ F H D S n _ _ _ _ =>
  h σ F H S _ fun a vs xs F1 H1 g1 a0 a1 a2 r1 p1 => p1 σ F1 H1 (S.go g1) _ fun v y F2 H2 g2 r2 p2 => p2 σ F2 H2 ((S.go g1).go g2) _ fun w z F3 H3 g3 r3 p3 => by
    have g23 := g2.trans g3
    have S3 := ((S.go g1).go g2).go g3
    have ha2 : H3 a = some (.lst vs) := g23.kp a _ (S.newB a0) a2
    have hF2 : F3 a = none := g23.nw a (by rw [a2]; simp) a1
    have S4 := S3.setO (i := i) hF2 ha2 (r1.mono g23.s1) (S.new0 a0) (S.newB a0) fun k c zs hk => S.newS a0 k zs hk
    exact ⟨.ref a, v, w, rfl, n _ _ F3 H3 ((S4.setD (r2.mono g3.s1)).setD r3) ((g1.s1.trans g2.s1).trans g3.s1) (p3 a)⟩
end
end Y
/-! Y18: two at once, the first a new list of one's own. -/
namespace Y
open PySem L2
section
variable {B : Bs} {es : List Sl}
theorem sm_parOD {p : Po} {i j : Nat} {t1 t2 : TE} (h : EvO B t1 es fun xs => Ev B t2 es fun y => ∀ a, p.nx ((es.set i (.own a xs)).set j (.d y))) : Sm B (tPar i j (tCons t1 (tCons t2 tNil))) es p := fun σ F H D S n _ _ _ _ =>
  h σ F H S _ fun a vs xs F1 H1 g1 a0 a1 a2 r1 p1 => p1 σ F1 H1 (S.go g1) _ fun v y F2 H2 g2 r2 p2 => by
    have S3 := (S.go g1).go g2
    have ha2 : H2 a = some (.lst vs) := g2.kp a _ (S.newB a0) a2
    have hF2 : F2 a = none := g2.nw a (by rw [a2]; simp) a1
    have S4 := S3.setO (i := i) hF2 ha2 (r1.mono g2.s1) (S.new0 a0) (S.newB a0) fun k c zs hk => S.newS a0 k zs hk
    exact ⟨.ref a, v, rfl, n _ _ F2 H2 (S4.setD r2) (g1.s1.trans g2.s1) (p2 a)⟩
theorem sm_cut2 {p : Po} {t1 t2 u : TS} (I : List Sl → Prop) (h1 : Sm B t1 es { p with nx := fun e => Sm B t2 e { p with nx := I } }) (h2 : ∀ e, I e → Sm B u e p) : Sm B (tSeq t1 (tSeq t2 u)) es p :=
  sm_seq (sm_imp h1 (fun e h => sm_cut I h h2) (fun _ h => h) (fun _ h => h) (fun _ _ h => h) (fun _ h => h))
theorem sm_cut3 {p : Po} {t1 t2 t3 u : TS} (I : List Sl → Prop) (h1 : Sm B t1 es { p with nx := fun e => Sm B t2 e { p with nx := fun e => Sm B t3 e { p with nx := I } } }) (h2 : ∀ e, I e → Sm B u e p) : Sm B (tSeq t1 (tSeq t2 (tSeq t3 u))) es p :=
  sm_seq (sm_imp h1 (fun e h => sm_cut2 I h h2) (fun _ h => h) (fun _ h => h) (fun _ _ h => h) (fun _ h => h))
theorem sm_cut4 {p : Po} {t1 t2 t3 t4 u : TS} (I : List Sl → Prop) (h1 : Sm B t1 es { p with nx := fun e => Sm B t2 e { p with nx := fun e => Sm B t3 e { p with nx := fun e => Sm B t4 e { p with nx := I } } } }) (h2 : ∀ e, I e → Sm B u e p) : Sm B (tSeq t1 (tSeq t2 (tSeq t3 (tSeq t4 u)))) es p :=
  sm_seq (sm_imp h1 (fun e h => sm_cut3 I h h2) (fun _ h => h) (fun _ h => h) (fun _ _ h => h) (fun _ h => h))
theorem sm_cut5 {p : Po} {t1 t2 t3 t4 t5 u : TS} (I : List Sl → Prop) (h1 : Sm B t1 es { p with nx := fun e => Sm B t2 e { p with nx := fun e => Sm B t3 e { p with nx := fun e => Sm B t4 e { p with nx := fun e => Sm B t5 e { p with nx := I } } } } }) (h2 : ∀ e, I e → Sm B u e p) : Sm B (tSeq t1 (tSeq t2 (tSeq t3 (tSeq t4 (tSeq t5 u))))) es p :=
  sm_seq (sm_imp h1 (fun e h => sm_cut4 I h h2) (fun _ h => h) (fun _ h => h) (fun _ _ h => h) (fun _ h => h))
theorem sm_cut6 {p : Po} {t1 t2 t3 t4 t5 t6 u : TS} (I : List Sl → Prop) (h1 : Sm B t1 es { p with nx := fun e => Sm B t2 e { p with nx := fun e => Sm B t3 e { p with nx := fun e => Sm B t4 e { p with nx := fun e => Sm B t5 e { p with nx := fun e => Sm B t6 e { p with nx := I } } } } } }) (h2 : ∀ e, I e → Sm B u e p) : Sm B (tSeq t1 (tSeq t2 (tSeq t3 (tSeq t4 (tSeq t5 (tSeq t6 u)))))) es p :=
  sm_seq (sm_imp h1 (fun e h => sm_cut5 I h h2) (fun _ h => h) (fun _ h => h) (fun _ _ h => h) (fun _ h => h))
theorem sm_cut7 {p : Po} {t1 t2 t3 t4 t5 t6 t7 u : TS} (I : List Sl → Prop) (h1 : Sm B t1 es { p with nx := fun e => Sm B t2 e { p with nx := fun e => Sm B t3 e { p with nx := fun e => Sm B t4 e { p with nx := fun e => Sm B t5 e { p with nx := fun e => Sm B t6 e { p with nx := fun e => Sm B t7 e { p with nx := I } } } } } } }) (h2 : ∀ e, I e → Sm B u e p) : Sm B (tSeq t1 (tSeq t2 (tSeq t3 (tSeq t4 (tSeq t5 (tSeq t6 (tSeq t7 u))))))) es p :=
  sm_seq (sm_imp h1 (fun e h => sm_cut6 I h h2) (fun _ h => h) (fun _ h => h) (fun _ _ h => h) (fun _ h => h))
theorem sm_cut8 {p : Po} {t1 t2 t3 t4 t5 t6 t7 t8 u : TS} (I : List Sl → Prop) (h1 : Sm B t1 es { p with nx := fun e => Sm B t2 e { p with nx := fun e => Sm B t3 e { p with nx := fun e => Sm B t4 e { p with nx := fun e => Sm B t5 e { p with nx := fun e => Sm B t6 e { p with nx := fun e => Sm B t7 e { p with nx := fun e => Sm B t8 e { p with nx := I } } } } } } } }) (h2 : ∀ e, I e → Sm B u e p) : Sm B (tSeq t1 (tSeq t2 (tSeq t3 (tSeq t4 (tSeq t5 (tSeq t6 (tSeq t7 (tSeq t8 u)))))))) es p :=
  sm_seq (sm_imp h1 (fun e h => sm_cut7 I h h2) (fun _ h => h) (fun _ h => h) (fun _ _ h => h) (fun _ h => h))
theorem sm_cut9 {p : Po} {t1 t2 t3 t4 t5 t6 t7 t8 t9 u : TS} (I : List Sl → Prop) (h1 : Sm B t1 es { p with nx := fun e => Sm B t2 e { p with nx := fun e => Sm B t3 e { p with nx := fun e => Sm B t4 e { p with nx := fun e => Sm B t5 e { p with nx := fun e => Sm B t6 e { p with nx := fun e => Sm B t7 e { p with nx := fun e => Sm B t8 e { p with nx := fun e => Sm B t9 e { p with nx := I } } } } } } } } }) (h2 : ∀ e, I e → Sm B u e p) : Sm B (tSeq t1 (tSeq t2 (tSeq t3 (tSeq t4 (tSeq t5 (tSeq t6 (tSeq t7 (tSeq t8 (tSeq t9 u))))))))) es p :=
  sm_seq (sm_imp h1 (fun e h => sm_cut8 I h h2) (fun _ h => h) (fun _ h => h) (fun _ _ h => h) (fun _ h => h))
theorem sm_cut10 {p : Po} {t1 t2 t3 t4 t5 t6 t7 t8 t9 t10 u : TS} (I : List Sl → Prop) (h1 : Sm B t1 es { p with nx := fun e => Sm B t2 e { p with nx := fun e => Sm B t3 e { p with nx := fun e => Sm B t4 e { p with nx := fun e => Sm B t5 e { p with nx := fun e => Sm B t6 e { p with nx := fun e => Sm B t7 e { p with nx := fun e => Sm B t8 e { p with nx := fun e => Sm B t9 e { p with nx := fun e => Sm B t10 e { p with nx := I } } } } } } } } } }) (h2 : ∀ e, I e → Sm B u e p) : Sm B (tSeq t1 (tSeq t2 (tSeq t3 (tSeq t4 (tSeq t5 (tSeq t6 (tSeq t7 (tSeq t8 (tSeq t9 (tSeq t10 u)))))))))) es p :=
  sm_seq (sm_imp h1 (fun e h => sm_cut9 I h h2) (fun _ h => h) (fun _ h => h) (fun _ _ h => h) (fun _ h => h))
theorem sm_cut11 {p : Po} {t1 t2 t3 t4 t5 t6 t7 t8 t9 t10 t11 u : TS} (I : List Sl → Prop) (h1 : Sm B t1 es { p with nx := fun e => Sm B t2 e { p with nx := fun e => Sm B t3 e { p with nx := fun e => Sm B t4 e { p with nx := fun e => Sm B t5 e { p with nx := fun e => Sm B t6 e { p with nx := fun e => Sm B t7 e { p with nx := fun e => Sm B t8 e { p with nx := fun e => Sm B t9 e { p with nx := fun e => Sm B t10 e { p with nx := fun e => Sm B t11 e { p with nx := I } } } } } } } } } } }) (h2 : ∀ e, I e → Sm B u e p) : Sm B (tSeq t1 (tSeq t2 (tSeq t3 (tSeq t4 (tSeq t5 (tSeq t6 (tSeq t7 (tSeq t8 (tSeq t9 (tSeq t10 (tSeq t11 u))))))))))) es p :=
  sm_seq (sm_imp h1 (fun e h => sm_cut10 I h h2) (fun _ h => h) (fun _ h => h) (fun _ _ h => h) (fun _ h => h))
theorem sm_cut12 {p : Po} {t1 t2 t3 t4 t5 t6 t7 t8 t9 t10 t11 t12 u : TS} (I : List Sl → Prop) (h1 : Sm B t1 es { p with nx := fun e => Sm B t2 e { p with nx := fun e => Sm B t3 e { p with nx := fun e => Sm B t4 e { p with nx := fun e => Sm B t5 e { p with nx := fun e => Sm B t6 e { p with nx := fun e => Sm B t7 e { p with nx := fun e => Sm B t8 e { p with nx := fun e => Sm B t9 e { p with nx := fun e => Sm B t10 e { p with nx := fun e => Sm B t11 e { p with nx := fun e => Sm B t12 e { p with nx := I } } } } } } } } } } } }) (h2 : ∀ e, I e → Sm B u e p) : Sm B (tSeq t1 (tSeq t2 (tSeq t3 (tSeq t4 (tSeq t5 (tSeq t6 (tSeq t7 (tSeq t8 (tSeq t9 (tSeq t10 (tSeq t11 (tSeq t12 u)))))))))))) es p :=
  sm_seq (sm_imp h1 (fun e h => sm_cut11 I h h2) (fun _ h => h) (fun _ h => h) (fun _ _ h => h) (fun _ h => h))
end
end Y
/-! Y19: str(x) of a text or a number, split, texts of numbers and of rows. -/
namespace Y
open PySem L2

def rStrA : List V → Hp → VK → Prop := cAlt (fun xs H Q => ∃ i : Int, xs = [.int i] ∧ i.natAbs.log2 < 1920 ∧ Q (.str (toString i)) H) (fun xs H Q => ∃ a, xs = [.str a] ∧ Q (.str a) H)
theorem call_strA {X : Cx} : CallR X (.type "str") rStrA := call_alt call_str_int SkE.call_str_str
/-- an item of a row as a text -/
def itemTx : Dt → Str
  | .str z => z
  | .int i => toString i
  | _ => ""
def itemB : Dt → Bool
  | .str _ => true
  | .int i => decide (0 ≤ i) && decide (i ≤ 999999)
  | _ => false
section
variable {B : Bs} {es : List Sl}
theorem c_strA {x : Dt} {P : Dt → Prop} (h : itemB x = true) (hp : P (.str (itemTx x))) : Cal B rStrA es [x] P := fun σ F H vs S a Q k => by
  obtain ⟨v, rfl, r⟩ := rp1 a
  cases r with
  | str z => exact .inr ⟨z, rfl, k _ _ F H S.refl (.str _) hp⟩
  | int i =>
    have h : (decide (0 ≤ i) && decide (i ≤ 999999)) = true := h
    rw [Bool.and_eq_true] at h
    have h1 := of_decide_eq_true h.1
    have h2 := of_decide_eq_true h.2
    exact .inl ⟨i, rfl, log_ok ⟨by omega, by omega⟩, k _ _ F H S.refl (.str _) hp⟩
  | _ => cases h
def rSplit : V → List V → Hp → VK → Prop := fun x xs H Q => ∃ a b, x = .str a ∧ xs = [.str b] ∧ (b.length == 0) = false ∧ a.length + 2 ≤ sizeLine ∧ rNewStrs (Txt.split a b) H Q
theorem RpAll.of_strs {K : PySem.W.Frag} {F : Hp} : ∀ {ns : List Str}, RpAll K F (ns.map V.str) (ns.map Dt.str)
  | [] => .nil
  | n :: ns => .cons (.str n) RpAll.of_strs
theorem eo_split {to te : TE} {P : List Dt → Prop} (h : Ev B to es fun a => ∃ x : Str, a = .str x ∧ x.length ≤ 90000 ∧ Ev B te es fun c => ∃ y : Str, c = .str y ∧ 0 < y.length ∧ P ((Txt.split x y).map Dt.str)) :
    EvO B (tM1 (fun x xs H Q => ∃ a b, x = .str a ∧ xs = [.str b] ∧ (b.length == 0) = false ∧ a.length + 2 ≤ sizeLine ∧ rNewStrs (Txt.split a b) H Q) to te) es P := fun σ F H S Q q =>
  h σ F H S _ fun v d F1 H1 g1 r1 ⟨x, e, hx, p1⟩ => by
    subst e
    cases r1
    refine ⟨⟨_, rfl⟩, p1 σ F1 H1 (S.go g1) _ fun w d2 F2 H2 g2 r2 ⟨y, e, hy, p2⟩ => ?_⟩
    subst e
    cases r2
    have g := g1.trans g2
    have S2 := S.go g
    refine ⟨x, y, rfl, rfl, by rw [beq_eq_false_iff_ne]; omega, size_of (by omega), fun p hp => ?_⟩
    exact q p _ _ F2 _ (g.trans (S2.allocO hp)) (g.new (S2.newB hp) hp) (same_none S2.sub hp) upd_same RpAll.of_strs p2
end

/-! ### figures -/
def figures : List Nat := ("0123456789" : Str).cps.toList
theorem figures_iff (c : Nat) : c ∈ figures ↔ 48 ≤ c ∧ c ≤ 57 := by
  have e : figures = [48, 49, 50, 51, 52, 53, 54, 55, 56, 57] := by decide +kernel
  rw [e]
  simp only [List.mem_cons, List.not_mem_nil, or_false]
  omega
def digB (z : Str) : Bool := z.cps.toList.all fun c => decide (c ∈ figures)
theorem digB_all {z : Str} (h : digB z = true) : NumText.AllDigits z.cps.toList := fun c hc => by
  have := List.all_eq_true.mp h c hc
  exact (figures_iff c).mp (of_decide_eq_true this)
def itemD (m : Nat) (z : Str) : Dt :=
  if 1 ≤ z.cps.size ∧ z.cps.size ≤ m ∧ digB z = true then (if 1 < z.cps.size ∧ z.cps.toList.head? = some 48 then .str z else .int (NumText.digitsVal z.cps.toList : Nat)) else .str z
theorem item_str {m : Nat} {z : Str} (h : digB z = false) : itemD m z = .str z := if_neg fun e => by rw [h] at e; exact Bool.noConfusion e.2.2
theorem tl_eq (z : Str) : TL.tl z = z.cps.toList := rfl
/-- the text of the value of figures that begin with no nought -/
theorem num_back {z : Str} (h : NumText.AllDigits z.cps.toList) (h1 : 1 ≤ z.cps.size) (h2 : ¬ (1 < z.cps.size ∧ z.cps.toList.head? = some 48)) : (Str.ofString (toString ((NumText.digitsVal z.cps.toList : Nat) : Int))) = z := by
  apply TL.ext_tl
  rw [TL.tl_num]
  show (Nat.toDigits 10 (NumText.digitsVal z.cps.toList)).map Char.toNat = z.cps.toList
  have hl : z.cps.toList.length = z.cps.size := Array.length_toList
  generalize z.cps.toList = cs at *
  generalize z.cps.size = k at *
  have hd := NumText.toDigits_digitsVal (k - 1) cs (by omega) h (by
    by_cases hk : k = 1
    · exact .inl (by omega)
    · refine .inr ?_
      cases cs with
      | nil => simp at hl; omega
      | cons c r =>
        refine ⟨c, r, rfl, ?_⟩
        have hc := h.head
        have : c ≠ 48 := fun e => h2 ⟨by omega, by rw [e]; rfl⟩
        omega)
  rw [hd, List.map_map]
  have : ∀ l : List Nat, NumText.AllDigits l → l.map (Char.toNat ∘ Char.ofNat) = l := by
    intro l
    induction l with
    | nil => intro _; rfl
    | cons c r ih =>
      intro hh
      have hc := hh.head
      rw [List.map_cons, ih hh.tail]
      congr 1
      have key : ∀ c : Nat, c < 58 → (Char.ofNat c).toNat = c := by decide
      exact key c (by omega)
  exact this cs h
theorem itemTx_item (m : Nat) (z : Str) : itemTx (itemD m z) = z := by
  unfold itemD
  split
  · rename_i h
    split
    · rfl
    · rename_i h2
      exact num_back (digB_all h.2.2) h.1 h2
  · rfl
theorem numL_head : ∀ (n : Nat), 10 ≤ n → (TL.numL n).head? ≠ some 48 := by
  intro n
  induction n using Nat.strongRecOn with
  | ind n ih =>
    intro hn
    rw [TL.numL_step hn]
    have hne := TL.numL_ne (n / 10)
    cases e : TL.numL (n / 10) with
    | nil => exact absurd e hne
    | cons a r =>
      by_cases h : n / 10 < 10
      · rw [TL.numL_lt h] at e
        cases e
        simp
        omega
      · have := ih (n / 10) (by omega) (by omega)
        rw [e] at this
        exact this
theorem item_num {m : Nat} {i : Int} (h : 0 ≤ i ∧ i ≤ 65535) (hm : 5 ≤ m) : itemD m (itemTx (.int i)) = .int i := by
  obtain ⟨n, rfl⟩ : ∃ n : Nat, i = (n : Int) := ⟨i.toNat, by omega⟩
  have hn : n < 10 ^ 5 := by omega
  have e : (Str.ofString (toString ((n : Nat) : Int))).cps.toList = TL.numL n := TL.tl_num n
  have hl := TL.numL_len (k := 5) (by decide) hn
  have hsz : (Str.ofString (toString ((n : Nat) : Int))).cps.size = (TL.numL n).length := by rw [← e, Array.length_toList]
  have hne := TL.numL_ne n
  have hpos : 0 < (TL.numL n).length := List.length_pos_iff.mpr hne
  show itemD m (Str.ofString (toString ((n : Nat) : Int))) = _
  unfold itemD
  rw [hsz, e]
  have hd : digB (Str.ofString (toString ((n : Nat) : Int))) = true := by
    unfold digB
    rw [e, List.all_eq_true]
    exact fun c hc => decide_eq_true ((figures_iff c).mpr (TL.numL_digits n c hc))
  rw [if_pos ⟨by omega, by omega, hd⟩, if_neg, TL.numL_val]
  rintro ⟨h1, h2⟩
  by_cases h10 : 10 ≤ n
  · exact numL_head n h10 h2
  · rw [TL.numL_lt (by omega)] at h1
    simp at h1
theorem item_cases (z : Str) : itemD 5 z = itemD 6 z ∨ (digB z = true ∧ z.cps.size = 6 ∧ itemD 5 z = .str z ∧ ∃ n : Nat, itemD 6 z = .int n ∧ 100000 ≤ n) := by
  by_cases h : 1 ≤ z.cps.size ∧ z.cps.size ≤ 5 ∧ digB z = true
  · left
    have e6 : 1 ≤ z.cps.size ∧ z.cps.size ≤ 6 ∧ digB z = true := ⟨h.1, by omega, h.2.2⟩
    exact (if_pos h).trans (if_pos e6).symm
  · have e5 : itemD 5 z = .str z := if_neg h
    by_cases h6 : 1 ≤ z.cps.size ∧ z.cps.size ≤ 6 ∧ digB z = true
    · have hs : z.cps.size = 6 := by
        rcases Nat.lt_or_ge z.cps.size 6 with q | q
        · exact absurd ⟨h6.1, by omega, h6.2.2⟩ h
        · omega
      by_cases h0 : 1 < z.cps.size ∧ z.cps.toList.head? = some 48
      · left
        rw [e5]
        unfold itemD
        rw [if_pos h6, if_pos h0]
      · right
        refine ⟨h6.2.2, hs, e5, NumText.digitsVal z.cps.toList, ?_, ?_⟩
        · unfold itemD
          rw [if_pos h6, if_neg h0]
        · have ha := digB_all h6.2.2
          have hl : z.cps.toList.length = 6 := by rw [Array.length_toList]; exact hs
          have h0 : z.cps.toList.head? ≠ some 48 := fun q => h0 ⟨by omega, q⟩
          generalize z.cps.toList = cs at *
          match cs, hl with
          | [a, b, c, d, e, f], _ =>
            have q1 := ha a (by simp)
            have : a ≠ 48 := fun q => h0 (by rw [q]; rfl)
            show 100000 ≤ ((((((0 * 10 + (a - 48)) * 10 + (b - 48)) * 10 + (c - 48)) * 10 + (d - 48)) * 10 + (e - 48)) * 10 + (f - 48))
            omega
    · left
      rw [e5]
      exact (if_neg h6).symm
theorem dig_noname {z : Str} (h : digB z = true) : isNameD (.str z) = false := by
  cases e : isNameD (.str z) with
  | false => rfl
  | true =>
    have h2 : (decide ((1 : Int) ≤ z.length) && (decide ((z.length : Int) ≤ 6) && z.cps.toList.all fun c => decide (c ∈ letters))) = true := e
    rw [Bool.and_eq_true, Bool.and_eq_true] at h2
    have h1 := of_decide_eq_true h2.1
    have hl : z.cps.toList.length = z.length := Array.length_toList
    have h3 := h2.2.2
    unfold digB at h
    generalize z.cps.toList = cs at *
    cases cs with
    | nil => simp at hl; omega
    | cons c r =>
      rw [List.all_eq_true] at h h3
      have q1 := (figures_iff c).mp (of_decide_eq_true (h c (by simp)))
      have q2 := of_decide_eq_true (h3 c (by simp))
      have key : ∀ c ∈ letters, 97 ≤ c := by decide +kernel
      have := key c q2
      omega
theorem fits_item {k : Nat} (z : Str) : fitsB k (itemD 5 z) = fitsB k (itemD 6 z) ∧ (fitsB k (itemD 5 z) = true → itemD 5 z = itemD 6 z) := by
  rcases item_cases z with h | ⟨hd, hs, h5, n, h6, hn⟩
  · rw [h]; exact ⟨rfl, fun _ => rfl⟩
  · have hr : isRegD (.str z) = false := by
      cases e : isRegD (.str z) with
      | false => rfl
      | true =>
        rcases reg_cases e with e | e | e <;> (injection e with e; subst e; exact absurd hd (by decide +kernel))
    have a5 : fitsB k (.str z) = false := by
      unfold fitsB
      rw [hr, dig_noname hd]
      split
      · rfl
      · split
        · rfl
        · split
          · rfl
          · split <;> rfl
    have a6 : fitsB k (.int (n : Int)) = false := by
      unfold fitsB
      have q : ∀ l m : Int, m < 100000 → isNum (.int (n : Int)) l m = false := fun l m hm => by
        show (decide (l ≤ (n : Int)) && decide ((n : Int) ≤ m)) = false
        rw [decide_eq_false (show ¬ (n : Int) ≤ m by omega), Bool.and_false]
      rw [q 0 65535 (by decide), q 0 15 (by decide), q 1 120 (by decide)]
      split
      · rfl
      · split
        · rfl
        · split
          · rfl
          · split <;> rfl
    rw [h5, h6, a5, a6]
    exact ⟨rfl, fun z => nomatch z⟩
theorem form_items : ∀ (ks : List Nat) (ws : List Str), formB ks (ws.map (itemD 5)) = formB ks (ws.map (itemD 6)) ∧ (formB ks (ws.map (itemD 5)) = true → ws.map (itemD 5) = ws.map (itemD 6))
  | [], [] => ⟨rfl, fun _ => rfl⟩
  | [], w :: ws => ⟨rfl, fun z => nomatch z⟩
  | k :: ks, [] => ⟨rfl, fun _ => rfl⟩
  | k :: ks, w :: ws => by
    obtain ⟨h1, h2⟩ := form_items ks ws
    obtain ⟨h3, h4⟩ := fits_item (k := k) w
    constructor
    · show (fitsB k (itemD 5 w) && formB ks (ws.map (itemD 5))) = (fitsB k (itemD 6 w) && formB ks (ws.map (itemD 6)))
      rw [h1, h3]
    · intro h
      have h : (fitsB k (itemD 5 w) && formB ks (ws.map (itemD 5))) = true := h
      rw [Bool.and_eq_true] at h
      rw [List.map_cons, List.map_cons, h2 h.2, h4 h.1]
/-- the words of a line as a row: of the program, of the law -/
def lineD (ws : List Str) : Dt := .tup (ws.map (itemD 5))
def lineL (ws : List Str) : Dt := match ws with
  | [] => .tup []
  | w :: ws => .tup (.str w :: ws.map (itemD 6))
theorem line_rowBy {fs : List (Str × Str)} (hf : ∀ p ∈ fs, digB p.1 = false) (ws : List Str) : rowBy fs (lineD ws) = rowBy fs (lineL ws) ∧ (rowBy fs (lineD ws) = true → lineD ws = lineL ws) := by
  cases ws with
  | nil => exact ⟨rfl, fun _ => rfl⟩
  | cons w ws =>
    by_cases hd : digB w = true
    · have hn : fs.lookup w = none := by
        cases e : fs.lookup w with
        | none => rfl
        | some f => have := hf _ (lookup_mem e); rw [hd] at this; cases this
      have e2 : rowBy fs (lineL (w :: ws)) = false := rowBy_none hn
      have e1 : rowBy fs (lineD (w :: ws)) = false := by
        show rowBy fs (.tup (itemD 5 w :: ws.map (itemD 5))) = false
        have : itemD 5 w = .str w ∨ ∃ n : Nat, itemD 5 w = .int n := by
          unfold itemD
          split
          · split
            · exact .inl rfl
            · exact .inr ⟨_, rfl⟩
          · exact .inl rfl
        rcases this with e | ⟨n, e⟩
        · rw [e]; exact rowBy_none hn
        · rw [e]; rfl
      rw [e1, e2]
      exact ⟨rfl, fun z => nomatch z⟩
    · have e := item_str (m := 5) (z := w) (by simpa using hd)
      have e1 : lineD (w :: ws) = .tup (.str w :: ws.map (itemD 5)) := by show Dt.tup (itemD 5 w :: _) = _; rw [e]
      have e2 : lineL (w :: ws) = .tup (.str w :: ws.map (itemD 6)) := rfl
      rw [e1, e2]
      cases el : fs.lookup w with
      | none => rw [rowBy_none el, rowBy_none el]; exact ⟨rfl, fun z => nomatch z⟩
      | some f =>
        rw [rowBy_at (ks := f.cps.toList) (by rw [el]; rfl), rowBy_at (ks := f.cps.toList) (by rw [el]; rfl)]
        obtain ⟨h1, h2⟩ := form_items f.cps.toList ws
        exact ⟨h1, fun h => by rw [h2 h]⟩
theorem line_code (ws : List Str) : codeRow (lineD ws) = codeRow (lineL ws) ∧ (codeRow (lineD ws) = true → lineD ws = lineL ws) := line_rowBy (by decide +kernel) ws
theorem line_data (ws : List Str) : dataRow (lineD ws) = dataRow (lineL ws) ∧ (dataRow (lineD ws) = true → lineD ws = lineL ws) := line_rowBy (by decide +kernel) ws
/-- a row's text, a text's row -/
def rowTx (d : Dt) : Str := match d with
  | .tup xs => Txt.join " " (xs.map itemTx)
  | _ => ""
def rowOf (d : Dt) : Dt := if codeRow d || dataRow d then d else .non
def readD (x : Dt) : Dt := match x with
  | .str z => rowOf (lineD (Txt.split z " "))
  | _ => .non
theorem row_law (ws : List Str) : rowOf (lineL ws) = rowOf (lineD ws) := by
  obtain ⟨c1, c2⟩ := line_code ws
  obtain ⟨d1, d2⟩ := line_data ws
  unfold rowOf
  rw [← c1, ← d1]
  split
  · rename_i h
    rw [Bool.or_eq_true] at h
    rcases h with h | h
    · exact (c2 h).symm
    · exact (d2 h).symm
  · rfl
theorem text_of_line (ws : List Str) : rowTx (lineD ws) = Txt.join " " ws := by
  show Txt.join " " ((ws.map (itemD 5)).map itemTx) = _
  rw [List.map_map]
  congr 1
  induction ws with
  | nil => rfl
  | cons w ws ih => rw [List.map_cons, ih]; congr 1; exact itemTx_item 5 w
theorem join_split' (z : Str) : Txt.join " " (Txt.split z " ") = z := by rw [TL.join_eq]; exact StrLaws.join_split z " "
theorem back_text {z : Str} {d : Dt} (h : readD (.str z) = d) (hd : d ≠ .non) : rowTx d = z ∧ (codeRow d || dataRow d) = true := by
  have h : rowOf (lineD (Txt.split z " ")) = d := h
  unfold rowOf at h
  split at h
  · rename_i hc
    subst h
    exact ⟨by rw [text_of_line, join_split'], hc⟩
  · exact absurd h.symm hd
end Y
/-! Y20: how long texts of rows are, which signs they have; rows from their texts. -/
namespace Y
open PySem L2

theorem join_tl (ys : List Str) : (Txt.join " " ys).cps.toList = TL.joinL [32] (ys.map TL.tl) := by
  rw [TL.join_eq]
  exact (TL.tl_join " " ys).trans (by rw [show TL.tl " " = [32] from by decide +kernel])
theorem joinL_len : ∀ (ps : List (List Nat)), ps ≠ [] → (TL.joinL [32] ps).length + 1 = (ps.map List.length).sum + ps.length
  | [], h => absurd rfl h
  | [p], _ => by simp [TL.joinL]
  | p :: q :: r, _ => by
    have ih := joinL_len (q :: r) (by simp)
    show (p ++ ([32] ++ TL.joinL [32] (q :: r))).length + 1 = _
    rw [List.length_append, List.length_append, List.map_cons, List.sum_cons, List.length_cons (as := q :: r)]
    simp only [List.length_cons, List.length_nil] at ih ⊢
    omega
theorem joinL_mem {c : Nat} : ∀ (ps : List (List Nat)), c ∈ TL.joinL [32] ps → c = 32 ∨ ∃ p ∈ ps, c ∈ p
  | [], h => by cases h
  | [p], h => .inr ⟨p, by simp, h⟩
  | p :: q :: r, h => by
    have h : c ∈ p ++ ([32] ++ TL.joinL [32] (q :: r)) := h
    rcases List.mem_append.mp h with h | h
    · exact .inr ⟨p, by simp, h⟩
    · rcases List.mem_append.mp h with h | h
      · exact .inl (List.mem_singleton.mp h)
      · rcases joinL_mem (q :: r) h with h | ⟨x, hx, hc⟩
        · exact .inl h
        · exact .inr ⟨x, List.mem_cons_of_mem _ hx, hc⟩
theorem joinL_in {c : Nat} : ∀ (ps : List (List Nat)) (p : List Nat), p ∈ ps → c ∈ p → c ∈ TL.joinL [32] ps
  | [], _, h, _ => by cases h
  | [q], p, h, hc => by rw [List.mem_singleton.mp h] at hc; exact hc
  | q :: q2 :: r, p, h, hc => by
    show c ∈ q ++ ([32] ++ TL.joinL [32] (q2 :: r))
    rcases List.mem_cons.mp h with rfl | h
    · exact List.mem_append_left _ hc
    · exact List.mem_append_right _ (List.mem_append_right _ (joinL_in (q2 :: r) p h hc))
/-- a text of at most n signs, each of which can stand in a text -/
def TxB (n : Nat) (z : Str) : Prop := z.cps.size ≤ n ∧ PyData.strOk z = true
theorem strOk_iff (z : Str) : PyData.strOk z = true ↔ ∀ c ∈ z.cps.toList, PyData.strOk ⟨#[c]⟩ = true := by
  unfold PyData.strOk
  rw [Array.all_eq_true']
  constructor
  · intro h c hc
    have := h c (by simpa using hc)
    simpa using this
  · intro h c hc
    have := h c (by simpa using hc)
    simpa using this
theorem TxB.good {n : Nat} {z : Str} (h : TxB n z) (hn : n < 1000) : goodV (.str z) = true := by
  unfold goodV
  show (true && (decide (z.cps.size < 1000) && PyData.strOk z)) = true
  rw [h.2, decide_eq_true (show z.cps.size < 1000 by have := h.1; omega)]; rfl
theorem TxB.mono {n m : Nat} {z : Str} (h : TxB n z) (hn : n ≤ m) : TxB m z := ⟨by have := h.1; omega, h.2⟩
theorem split_ne (z : Str) : Txt.split z " " ≠ [] := by
  unfold Txt.split
  split
  · simp
  · split
    · simp
    · intro e
      have := congrArg List.length e
      rw [length_partsBetween] at this
      simp at this
theorem size_tl (z : Str) : z.cps.size = (TL.tl z).length := by rw [← Array.length_toList]
theorem join_size (ys : List Str) (h : ys ≠ []) : (Txt.join " " ys).cps.size + 1 = ((ys.map TL.tl).map List.length).sum + ys.length := by
  rw [← Array.length_toList, join_tl]
  have := joinL_len (ys.map TL.tl) (by simpa using h)
  rw [List.length_map] at this
  exact this
theorem sum_mem : ∀ (l : List Nat) (x : Nat), x ∈ l → x ≤ l.sum
  | [], _, h => by cases h
  | y :: l, x, h => by
    rw [List.sum_cons]
    rcases List.mem_cons.mp h with rfl | h
    · omega
    · have := sum_mem l x h; omega
theorem split_ok {n : Nat} {z : Str} (h : TxB n z) : (Txt.split z " ").length ≤ n + 1 ∧ ∀ w ∈ Txt.split z " ", TxB n w := by
  have e := join_split' z
  have hs := join_size _ (split_ne z)
  rw [e] at hs
  have h1 := h.1
  refine ⟨by omega, fun w hw => ⟨?_, ?_⟩⟩
  · have hm : (TL.tl w).length ∈ ((Txt.split z " ").map TL.tl).map List.length := List.mem_map.mpr ⟨_, List.mem_map.mpr ⟨w, hw, rfl⟩, rfl⟩
    have := sum_mem _ _ hm
    rw [size_tl]
    have hp : 0 < (Txt.split z " ").length := List.length_pos_iff.mpr (split_ne z)
    omega
  · rw [strOk_iff]
    intro c hc
    have hz := (strOk_iff z).mp h.2 c
    apply hz
    rw [← e, join_tl]
    exact joinL_in _ (TL.tl w) (List.mem_map.mpr ⟨w, hw, rfl⟩) hc
theorem join_ok {ys : List Str} (h : ys ≠ []) (hs : ∀ y ∈ ys, PyData.strOk y = true) : PyData.strOk (Txt.join " " ys) = true := by
  rw [strOk_iff]
  intro c hc
  rw [join_tl] at hc
  rcases joinL_mem _ hc with rfl | ⟨p, hp, hc⟩
  · decide +kernel
  · obtain ⟨y, hy, rfl⟩ := List.mem_map.mp hp
    exact (strOk_iff y).mp (hs y hy) c hc
theorem join_perm {n : Nat} {z : Str} {ys : List Str} (h : TxB n z) (hp : ys.Perm (Txt.split z " ")) : TxB n (Txt.join " " ys) := by
  have hne : ys ≠ [] := fun e => split_ne z (by rw [e] at hp; exact hp.symm.eq_nil)
  have e := join_split' z
  have h1 := join_size _ (split_ne z)
  rw [e] at h1
  have h2 := join_size ys hne
  have hsum : ((ys.map TL.tl).map List.length).sum = (((Txt.split z " ").map TL.tl).map List.length).sum := ((hp.map TL.tl).map List.length).sum_nat
  have hl := hp.length_eq
  refine ⟨by have := h.1; omega, join_ok hne fun y hy => ((split_ok h).2 y (hp.subset hy)).2⟩
/-- the items of a row -/
def itemOk (x : Dt) : Prop := (∃ z : Str, x = .str z ∧ digB z = false ∧ z.cps.size ≤ 7 ∧ PyData.strOk z = true ∧ 32 ∉ z.cps.toList) ∨ ∃ i : Int, x = .int i ∧ 0 ≤ i ∧ i ≤ 65535
theorem itemOk_back {x : Dt} (h : itemOk x) : itemD 5 (itemTx x) = x ∧ itemB x = true ∧ TxB 7 (itemTx x) ∧ 32 ∉ (itemTx x).cps.toList ∧ goodV x = true ∧ x.pureD = true ∧ x.depth = 0 := by
  rcases h with ⟨z, rfl, h1, h2, h3, h4⟩ | ⟨i, rfl, h1, h2⟩
  · exact ⟨item_str h1, rfl, ⟨h2, h3⟩, h4, TxB.good (n := 7) ⟨h2, h3⟩ (by decide), by simp [Dt.pureD], by simp [Dt.depth]⟩
  · obtain ⟨n, rfl⟩ : ∃ n : Nat, i = (n : Int) := ⟨i.toNat, by omega⟩
    have e : (itemTx (.int (n : Int))).cps.toList = TL.numL n := TL.tl_num n
    have hl := TL.numL_len (n := n) (k := 5) (by decide) (by omega)
    refine ⟨item_num ⟨h1, h2⟩ (by decide), ?_, ⟨?_, ?_⟩, ?_, rfl, by simp [Dt.pureD], by simp [Dt.depth]⟩
    · show (decide ((0 : Int) ≤ (n : Int)) && decide ((n : Int) ≤ 999999)) = true
      rw [decide_eq_true h1, decide_eq_true (show (n : Int) ≤ 999999 by omega)]; rfl
    · rw [← Array.length_toList, e]; omega
    · rw [strOk_iff, e]
      intro c hc
      have := TL.numL_digits n c hc
      have key : ∀ c : Nat, c < 58 → PyData.strOk ⟨#[c]⟩ = true := by decide +kernel
      exact key c (by omega)
    · rw [e]
      exact TL.numL_free (by decide)
theorem name_ok {x : Dt} (h : isNameD x = true) : itemOk x := by
  obtain ⟨z, rfl, h1, h2⟩ := name_str h
  refine .inl ⟨z, rfl, ?_, by omega, h2, fun hm => ?_⟩
  · cases e : digB z with
    | false => rfl
    | true => rw [dig_noname e] at h; cases h
  · have h3 : (decide ((1 : Int) ≤ z.length) && (decide ((z.length : Int) ≤ 6) && z.cps.toList.all fun c => decide (c ∈ letters))) = true := h
    rw [Bool.and_eq_true, Bool.and_eq_true, List.all_eq_true] at h3
    have := of_decide_eq_true (h3.2.2 32 hm)
    exact absurd this (by decide +kernel)
theorem reg_ok {x : Dt} (h : isRegD x = true) : itemOk x := by
  rcases reg_cases h with rfl | rfl | rfl <;> exact .inl ⟨_, rfl, by decide +kernel, by decide +kernel, by decide +kernel, by decide +kernel⟩
theorem num_ok {x : Dt} {l m : Int} (h : isNum x l m = true) (hl : 0 ≤ l) (hm : m ≤ 65535) : itemOk x := by
  obtain ⟨i, rfl, h1, h2⟩ := num_int h
  exact .inr ⟨i, rfl, by omega, by omega⟩
theorem fits_ok {k : Nat} {x : Dt} (h : fitsB k x = true) : itemOk x := by
  unfold fitsB at h
  split at h
  · exact reg_ok h
  · split at h
    · exact name_ok h
    · split at h
      · exact num_ok h (by decide) (by decide)
      · split at h
        · exact num_ok h (by decide) (by decide)
        · exact num_ok h (by decide) (by decide)
theorem form_ok : ∀ {ks : List Nat} {xs : List Dt}, formB ks xs = true → ∀ x ∈ xs, itemOk x
  | [], [], _, _, h => by cases h
  | [], _ :: _, h, _, _ => by cases h
  | _ :: _, [], _, _, h => by cases h
  | k :: ks, y :: xs, h, x, hx => by
    have h : (fitsB k y && formB ks xs) = true := h
    rw [Bool.and_eq_true] at h
    rcases List.mem_cons.mp hx with rfl | hx
    · exact fits_ok h.1
    · exact form_ok h.2 x hx
def wordOk (p : Str × Str) : Bool := !digB p.1 && (decide (p.1.cps.size ≤ 7) && (PyData.strOk p.1 && (!decide (32 ∈ p.1.cps.toList) && decide (p.2.cps.size ≤ 3))))
theorem rowBy_ok {fs : List (Str × Str)} (hf : fs.all wordOk = true) {d : Dt} (h : rowBy fs d = true) : ∃ xs : List Dt, d = .tup xs ∧ 1 ≤ xs.length ∧ xs.length ≤ 4 ∧ ∀ x ∈ xs, itemOk x := by
  obtain ⟨w, f, rest, rfl, h1, h2⟩ := rowBy_inv h
  have hw := List.all_eq_true.mp hf _ (lookup_mem h1)
  unfold wordOk at hw
  simp only [Bool.and_eq_true, Bool.not_eq_true', decide_eq_true_eq, decide_eq_false_iff_not] at hw
  obtain ⟨w1, w2, w3, w4, w5⟩ := hw
  have hl := formB_len h2
  rw [Array.length_toList] at hl
  refine ⟨_, rfl, by simp, by simp; omega, fun x hx => ?_⟩
  rcases List.mem_cons.mp hx with rfl | hx
  · exact .inl ⟨w, rfl, w1, w2, w3, w4⟩
  · exact form_ok h2 x hx
/-- the row of a row's text is the row -/
theorem row_ok {d : Dt} (h : (codeRow d || dataRow d) = true) : ∃ xs : List Dt, d = .tup xs ∧ 1 ≤ xs.length ∧ xs.length ≤ 4 ∧ ∀ x ∈ xs, itemOk x := by
  rw [Bool.or_eq_true] at h
  rcases h with h | h
  · exact rowBy_ok (by decide +kernel) h
  · exact rowBy_ok (by decide +kernel) h
theorem sum_le : ∀ (l : List Nat) (k : Nat), (∀ x ∈ l, x ≤ k) → l.sum ≤ l.length * k
  | [], _, _ => by simp
  | x :: l, k, h => by
    have := sum_le l k fun y hy => h y (List.mem_cons_of_mem _ hy)
    have h1 := h x (by simp)
    rw [List.sum_cons, List.length_cons, Nat.add_mul]
    omega
theorem row_text_ok {d : Dt} (h : (codeRow d || dataRow d) = true) : TxB 40 (rowTx d) ∧ readD (.str (rowTx d)) = d ∧ d.pureD = true ∧ d.depth = 1 ∧ plainD d = true ∧ thingB d = true := by
  obtain ⟨xs, rfl, l1, l2, hx⟩ := row_ok h
  have hne : xs.map itemTx ≠ [] := by
    intro e
    have : xs = [] := by simpa using e
    rw [this] at l1
    simp at l1
  refine ⟨⟨?_, join_ok hne fun y hy => ?_⟩, ?_, ?_, ?_, rfl, thing_mk (by omega) fun y hy => (itemOk_back (hx y hy)).2.2.2.2.1⟩
  · have hs := join_size _ hne
    have hb : (((xs.map itemTx).map TL.tl).map List.length).sum ≤ (((xs.map itemTx).map TL.tl).map List.length).length * 7 := sum_le _ 7 fun n hn => by
      obtain ⟨_, h1, rfl⟩ := List.mem_map.mp hn
      obtain ⟨_, h2, rfl⟩ := List.mem_map.mp h1
      obtain ⟨x, h3, rfl⟩ := List.mem_map.mp h2
      have := (itemOk_back (hx x h3)).2.2.1.1
      rw [size_tl] at this
      exact this
    simp only [List.length_map] at hb hs
    show (Txt.join " " (xs.map itemTx)).cps.size ≤ 40
    omega
  · obtain ⟨x, h1, rfl⟩ := List.mem_map.mp hy
    exact (itemOk_back (hx x h1)).2.2.1.2
  · show rowOf (lineD (Txt.split (Txt.join " " (xs.map itemTx)) " ")) = _
    rw [TL.split_join (s := 32) (S := []) (by decide +kernel) (by decide +kernel) hne fun p hp => ?_]
    · have e : lineD (xs.map itemTx) = .tup xs := by
        unfold lineD
        rw [List.map_map]
        congr 1
        have : ∀ l : List Dt, (∀ x ∈ l, itemOk x) → l.map (itemD 5 ∘ itemTx) = l := by
          intro l
          induction l with
          | nil => intro _; rfl
          | cons a l ih =>
            intro hl
            rw [List.map_cons, ih fun x hx => hl x (List.mem_cons_of_mem _ hx)]
            congr 1
            exact (itemOk_back (hl a (by simp))).1
        exact this xs hx
      rw [e]
      exact if_pos h
    · obtain ⟨x, h1, rfl⟩ := List.mem_map.mp hp
      exact (itemOk_back (hx x h1)).2.2.2.1
  · unfold Dt.pureD
    have : ∀ l : List Dt, (∀ x ∈ l, itemOk x) → pureAll l = true := by
      intro l
      induction l with
      | nil => intro _; simp [pureAll]
      | cons a l ih =>
        intro hl
        unfold pureAll
        rw [ih fun x hx => hl x (List.mem_cons_of_mem _ hx), (itemOk_back (hl a (by simp))).2.2.2.2.2.1]; rfl
    rw [this xs hx, decide_eq_true (by omega)]; rfl
  · unfold Dt.depth
    have : ∀ l : List Dt, (∀ x ∈ l, itemOk x) → depthAll l = 0 := by
      intro l
      induction l with
      | nil => intro _; simp [depthAll]
      | cons a l ih =>
        intro hl
        unfold depthAll
        rw [ih fun x hx => hl x (List.mem_cons_of_mem _ hx), (itemOk_back (hl a (by simp))).2.2.2.2.2.2]; rfl
    rw [this xs hx]
theorem read_pure {z : Str} : (readD (.str z)).pureD = true ∧ (readD (.str z)).depth ≤ 1 := by
  cases e : (codeRow (lineD (Txt.split z " ")) || dataRow (lineD (Txt.split z " "))) with
  | true =>
    have : readD (.str z) = lineD (Txt.split z " ") := if_pos e
    rw [this]
    obtain ⟨_, _, h1, h2, _⟩ := row_text_ok e
    exact ⟨h1, by omega⟩
  | false =>
    have : readD (.str z) = .non := if_neg (by rw [e]; decide)
    rw [this]
    simp [Dt.pureD, Dt.depth]
theorem item_good (m : Nat) {z : Str} {n : Nat} (h : TxB n z) (hn : n < 1000) : goodV (itemD m z) = true := by
  unfold itemD
  split
  · split
    · exact h.good hn
    · rfl
  · exact h.good hn
theorem lineD_thing {z : Str} (h : TxB 90 z) : thingB (lineD (Txt.split z " ")) = true := by
  obtain ⟨h1, h2⟩ := split_ok h
  exact thing_mk (by rw [List.length_map]; omega) fun y hy => by
    obtain ⟨w, hw, rfl⟩ := List.mem_map.mp hy
    exact item_good 5 (h2 w hw) (by decide)
theorem lineL_thing {z : Str} (h : TxB 90 z) : thingB (lineL (Txt.split z " ")) = true := by
  obtain ⟨h1, h2⟩ := split_ok h
  generalize Txt.split z " " = ws at *
  cases ws with
  | nil => rfl
  | cons w ws =>
    refine thing_mk (by simp at h1 ⊢; omega) fun y hy => ?_
    rcases List.mem_cons.mp hy with rfl | hy
    · exact (h2 w (by simp)).good (by decide)
    · obtain ⟨v, hv, rfl⟩ := List.mem_map.mp hy
      exact item_good 6 (h2 v (by simp [hv])) (by decide)
end Y
/-! Y21: instances: len, bool, repr, ==, != by the class's own methods; enumerate of a tuple. -/
namespace Y
open PySem PySem.Spec PyProof.Rows L2
section
variable {X : Cx} {CX : CXT} {n : Nat} {f C : Addr} {fd : FuncData} {ps : List Str} {sp : Sp} {E : XK}
theorem run_in {A : Around} {pins : List (Addr × Obj)} {σ : L2.St} {H : Hp} {s : Shared} {Q : VK} {us : List Value} {vs : List V} (sb : Sub X n A) (G : FnOk X.prog X.w X.K X.mg X.base CX n f fd ps sp) (hb : L2.Binds X.K fd ps []) (hx : Passes CX X E)
    (I : Inv X pins σ H s) (r : Vals vs us) (h : sp vs H Q E) : wpAny (model X.prog X.w) A (call (.ref f) us) (EP X pins σ Q) X.xe s := by
  have e0 : Env0 X.prog X.w X.K X.mg X.base A X.stack s H := by
    have e := I.env0
    exact ⟨by rw [sb.fr]; exact e.frames, e.mod, e.bs, e.bsz, e.funs, e.frf, e.hok, e.bare⟩
  have hl : us.length = ps.length := by rw [← r.length]; exact G.len _ _ _ _ h
  refine wpAny_call (codeAny_mono (G.run A X.stack s H ⟨us, []⟩ us vs Q E sb.room e0 (by
    have := hb s us I.kIn (by simpa using hl)
    simpa using this) r h) fun r s' hq => ?_)
  cases r with
  | error e => exact hx pins σ H s e s' I hq
  | ok fl =>
    cases fl with
    | ret u => exact I.after hq
    | next => exact False.elim hq
    | brk => exact False.elim hq
    | cont => exact False.elim hq
def rLenI (C : Addr) (sp : Sp) (E : XK) : List V → Hp → VK → Prop := fun xs H Q => ∃ a dx fs, xs = [.ref a] ∧ H a = some (.ins C dx fs) ∧ sp [.ref a] H (fun v H' => ∃ n : Nat, v = .int n ∧ n < 2 ^ 62 ∧ Q v H') E
theorem call_lenI (G : FnOk X.prog X.w X.K X.mg X.base CX n f fd ps sp) (hr : Room (n + 1) X.A) (m : Meth X.K C "__len__" f) (hb : L2.Binds X.K fd ps []) (hx : Passes CX X E) : CallR X (.builtin "len") (rLenI C sp E) := by
  intro pins s σ H xs us Q I r h
  obtain ⟨a, dx, fs, rfl, ha, q⟩ := h
  obtain rfl := Vals.ref1 r
  obtain ⟨mA, J, _⟩ := ins_get I.hok ha
  obtain ⟨od, J, _⟩ := J.look
  obtain ⟨mm, hF⟩ := I.fr
  refine PySem.W.len_K hF I.ok.mod.kin J m.at_ m.fn (wpAny_mono (run_in (vs := [.ref a]) (us := [.ref a]) ⟨hr.in1, rfl⟩ G hb hx I (.cons rfl .nil) q) (fun v s' z => ?_) fun _ _ e => e)
  obtain ⟨x, H', I', rx, k, rfl, hk, q'⟩ := z
  obtain ⟨t, rfl⟩ := rx
  exact ⟨⟨by omega, by omega⟩, .int k, H', I'.tok _, ⟨_, rfl⟩, q'⟩
def rReprI (C : Addr) (sp : Sp) (E : XK) : List V → Hp → VK → Prop := fun xs H Q => ∃ a dx fs, xs = [.ref a] ∧ H a = some (.ins C dx fs) ∧ sp [.ref a] H (fun v H' => ∃ z : Str, v = .str z ∧ Q v H') E
theorem call_reprI (G : FnOk X.prog X.w X.K X.mg X.base CX n f fd ps sp) (hr : Room (n + 1) X.A) (m : Meth X.K C "__repr__" f) (hb : L2.Binds X.K fd ps []) (hx : Passes CX X E) : CallR X (.builtin "repr") (rReprI C sp E) := by
  intro pins s σ H xs us Q I r h
  obtain ⟨a, dx, fs, rfl, ha, q⟩ := h
  obtain rfl := Vals.ref1 r
  obtain ⟨mA, J, _⟩ := ins_get I.hok ha
  obtain ⟨od, J, _⟩ := J.look
  obtain ⟨mm, hF⟩ := I.fr
  refine PySem.W.repr_K hr.in1.units0 hF I.ok.mod.kin J m.at_ m.fn (wpAny_mono (run_in (vs := [.ref a]) (us := [.ref a]) ⟨hr.in1, rfl⟩ G hb hx I (.cons rfl .nil) q) (fun v s' z => ?_) fun _ _ e => e)
  obtain ⟨x, H', I', rx, k, rfl, q'⟩ := z
  obtain ⟨t, rfl⟩ := rx
  exact ⟨.str k, H', I', ⟨_, rfl⟩, q'⟩
def rBoolI (C : Addr) (sp : Sp) (E : XK) : List V → Hp → VK → Prop := fun xs H Q => ∃ a dx fs, xs = [.ref a] ∧ H a = some (.ins C dx fs) ∧ sp [.ref a] H (fun v H' => ∃ z : Bool, v = .bl z ∧ Q v H') E
theorem meets_bool_own {prog : Program} {w : World} (x : Addr) : MeetsIn prog w (Builtin.«bool.__new__» ⟨[.type "bool", .ref x], []⟩)
    (fun A R s => wpAny (model prog w) A.in1 (truthy (.ref x)) (fun b s' => R (.ok (.ret (.bool b))) s') (fun e s' => R (.error e) s') s) :=
  .of_wp fun A R s hs => by
    obtain ⟨hp, g, d, tk, os⟩ := s
    have f1 := F.conv_sub_bool
    have key : ∀ {R' : Bool → Shared → Prop}, (∀ b s', R (.ok (.ret (.bool b))) s' → R' b s') → wpAny (model prog w) A.in1 (truthy (.ref x)) R' (fun e s' => R (.error e) s') ⟨hp, g, d, tk, os⟩ := fun h => wpAny_mono hs (fun b s' q => h b s' q) fun _ _ e => e
    repeat (any_goals (first | assumption | with_reducible refine key fun b s' q => ?_ | wp_step))
    all_goals first | exact ⟨_, rfl, by assumption⟩ | skip
theorem call_boolI (G : FnOk X.prog X.w X.K X.mg X.base CX n f fd ps sp) (hr : Room (n + 2) X.A) (m : Meth X.K C "__bool__" f) (hb : L2.Binds X.K fd ps []) (hx : Passes CX X E) : CallR X (.type "bool") (rBoolI C sp E) := by
  intro pins s σ H xs us Q I r h
  obtain ⟨a, dx, fs, rfl, ha, q⟩ := h
  obtain rfl := Vals.ref1 r
  obtain ⟨mA, J, _⟩ := ins_get I.hok ha
  obtain ⟨od, J, _⟩ := J.look
  obtain ⟨mm, hF⟩ := I.fr
  refine callType_newIn F.called_bool F.newNe_bool (F.typeCall_bool_1 _) (F.newCall_bool_1 _) (fun obj => F.args_object_init_2 obj _) F.entry_bool_new (meets_bool_own a) ?_
  refine PySem.W.truthy_K hF I.ok.mod.kin J m.at_ m.fn (wpAny_mono (run_in (vs := [.ref a]) (us := [.ref a]) ⟨hr.in1.in1, rfl⟩ G hb hx I (.cons rfl .nil) q) (fun v s' z => ?_) fun _ _ e => e)
  obtain ⟨x, H', I', rx, k, rfl, q'⟩ := z
  cases (show v = Value.bool k from rx)
  exact ⟨rfl, .bl k, H', I', rfl, q'⟩

/-! ### == and != -/
def rEqI (K : PySem.W.Frag) (C : Addr) (sp : Sp) (E : XK) : R2 := fun x y H Q => ∃ a dx fs t, x = .ref a ∧ H a = some (.ins C dx fs) ∧ TyX K H y t ∧ PySem.W.notFirst K C t = true ∧ sp [x, y] H (fun v H' => ∃ b, v = .bl b ∧ Q v H') E
theorem op_eqI {K : PySem.W.Frag} (G : FnOk X.prog X.w X.K X.mg X.base CX n f fd ps sp) (hr : Room n X.A) (m : Meth X.K C "__eq__" f) (hb : L2.Binds X.K fd ps []) (hx : Passes CX X E) (hK : X.K = K := by rfl) : OpR X (compareOp .Eq) (rEqI K C sp E) := by
  subst hK
  intro pins s σ H x y u v Q I rx ry h
  obtain ⟨a, dx, fs, t, rfl, ha, hy, hn, q⟩ := h
  cases (show u = Value.ref a from rx)
  obtain ⟨mA, J, _⟩ := ins_get I.hok ha
  obtain ⟨od, J, _⟩ := J.look
  obtain ⟨mm, hF⟩ := I.fr
  obtain ⟨P', Z, pz, _⟩ := kit_of I ry hy
  show wpAny (model X.prog X.w) X.A (richCompare .Eq (.ref a) v) (EP X pins σ Q) X.xe s
  refine PySem.W.cmp_K (op := .Eq) (tb := t) hr.units0 hF I.ok.mod.kin J (Z.ty _ _ I.kIn pz) hn m.at_ m.fn (wpAny_mono (run_in (vs := [.ref a, y]) (us := [.ref a, v]) ⟨hr, rfl⟩ G hb hx I (.cons rfl (.cons ry .nil)) q) (fun v s' z => ?_) fun _ _ e => e)
  obtain ⟨w', H', I', rw', b, rfl, q'⟩ := z
  cases (show v = Value.bool b from rw')
  exact ⟨.bl b, H', I', rfl, q'⟩
theorem ifBound_objNe {M : Model} {A : Around} {E : Value → Shared → Prop} {s : Shared} {K : PySem.W.Frag} {x C : Addr} {ox : Obj} {od : Option Obj} {args : List Value} {Q : Option Value → Shared → Prop} (X : K.In s.heap) (I : PySem.W.InstAt s.heap x ox C od) (hs : PySem.W.findIn K (.ref C) "__ne__" = some (some (.builtin "object.__ne__")))
    (h : wpAny M A (call (.builtin "object.__ne__") (.ref x :: args)) (fun v => Q (some v)) E s) : wpAny M A (callSpecialIfBound? (.ref x) "__ne__" args) Q E s := by
  simp only [callSpecialIfBound?, bindSpecialIfBound?]
  refine wpAny_holding (wpAny_bind (wpAny_bind (wpAny_bind (I.type.here ((PySem.W.looks_findIn X hs).here ?_)))))
  refine wpAny_bind (wpAny_askSetting (wpAny_ite ?_))
  have fin : wpAny M A (call (.builtin "object.__ne__") ([.ref x] ++ args) >>= fun v => pure (some v)) Q E s := wpAny_bind (wpAny_mono h (fun v s' h' => wpAny_pure h') fun _ _ h' => h')
  split
  · exact wpAny_bind (wpAny_of_eq (F.cmp_object.ne.bind _) (wpAny_pure (by exact fin)))
  · exact wpAny_tryCatch (wpAny_bind (wpAny_of_eq (F.cmp_object.ne.bind _) (wpAny_pure (by exact fin))))
theorem entry_ne {prog : Program} {w : World} {A : Around} {E : Value → Shared → Prop} {s : Shared} {K : PySem.W.Frag} {x C f : Addr} {ox : Obj} {od : Option Obj} {v : Value} {Q : Fin → Shared → Prop} (hu : A.units < cLine) (X : K.In s.heap) (I : PySem.W.InstAt s.heap x ox C od)
    (hs : PySem.W.findIn K (.ref C) "__eq__" = some (some (.ref f))) (hf : PySem.W.isFn K (.ref f) = true)
    (h : wpAny (model prog w) A (call (.ref f) [.ref x, v]) (fun r s' => ∃ b, r = .bool b ∧ Q (.done (.ret (.bool (!b)))) s') E s) :
    wpAny (model prog w) A (Builtin.«object.__ne__» ⟨[.ref x, v], []⟩) Q E s := by
  unfold Builtin.«object.__ne__»
  repeat (first
    | with_reducible refine wpAny_cRoomFor hu ?_
    | (refine wpAny_bind (m := callSpecialIfBound? (.ref x) (Str.ofString "__eq__") [v])
        (PySem.W.ifBound_K X I hs hf (wpAny_mono h (fun r s' hr => by
          obtain ⟨b, rfl, hq⟩ := hr
          repeat (first | exact hq | exact wpAny_pure hq | exact wpAny_truthy_bool hq | (refine wpAny_bind (m := truthy (.bool _)) (wpAny_truthy_bool ?_)) | wp_step)) fun _ _ e => e)))
    | wp_step)
def rNeI (K : PySem.W.Frag) (C : Addr) (sp : Sp) (E : XK) : R2 := fun x y H Q => ∃ a dx fs t, x = .ref a ∧ H a = some (.ins C dx fs) ∧ TyX K H y t ∧ PySem.W.notFirst K C t = true ∧ sp [x, y] H (fun v H' => ∃ b, v = .bl b ∧ Q (.bl (!b)) H') E
theorem op_neI {K : PySem.W.Frag} (G : FnOk X.prog X.w X.K X.mg X.base CX n f fd ps sp) (hr : Room (n + 1) X.A) (m : Meth X.K C "__eq__" f) (hne : PySem.W.findIn X.K (.ref C) "__ne__" = some (some (.builtin "object.__ne__"))) (hm : PySem.W.mroIn X.K C (.type "object") = some true) (hb : L2.Binds X.K fd ps []) (hx : Passes CX X E) (hK : X.K = K := by rfl) : OpR X (compareOp .NotEq) (rNeI K C sp E) := by
  subst hK
  intro pins s σ H x y u v Q I rx ry h
  obtain ⟨a, dx, fs, t, rfl, ha, hy, hn, q⟩ := h
  cases (show u = Value.ref a from rx)
  obtain ⟨mA, J, _⟩ := ins_get I.hok ha
  obtain ⟨od, J, _⟩ := J.look
  obtain ⟨P', Z, pz, _⟩ := kit_of I ry hy
  show wpAny (model X.prog X.w) X.A (richCompare .NotEq (.ref a) v) (EP X pins σ Q) X.xe s
  have KX := I.kIn
  have one : wpAny (model X.prog X.w) X.A (tryCompare (.ref a) (cmpInfo .NotEq).2.1 v) (fun r s' => ∃ w', r = some w' ∧ EP X pins σ Q w' s') X.xe s := by
    unfold tryCompare
    refine wpAny_bind (ifBound_objNe KX J hne (wpAny_call (codeAny_call_builtin F.cmp_object.ne.plain F.cmpEntry_ne (PySem.W.check_slot F.cmpKind_ne F.cmpSplit_ne (J.type.andThen (PySem.W.looks_mroIn KX hm)) (F.cmpArgs_ne _ _) (entry_ne hr.in1.units0 KX J m.at_ m.fn (wpAny_mono (run_in (vs := [.ref a, y]) (us := [.ref a, v]) ⟨hr.in1, rfl⟩ G hb hx I (.cons rfl (.cons ry .nil)) q) (fun r s' z => ?_) fun _ _ e => e))))))
    obtain ⟨w', H', I', rw', b, rfl, q'⟩ := z
    cases (show r = Value.bool b from rw')
    first
      | exact ⟨b, rfl, wpAny_pure ⟨_, rfl, .bl (!b), H', I', rfl, q'⟩⟩
      | exact ⟨b, rfl, ⟨_, rfl, .bl (!b), H', I', rfl, q'⟩⟩
  unfold richCompare
  simp only [oneThing_ref]
  refine wpAny_holding (wpAny_bind (wpAny_cRoomFor hr.units0 ?_))
  refine wpAny_bind (J.type.here (wpAny_bind ((Z.ty _ _ I.kIn pz).here ?_)))
  split
  · rename_i qq
    have e : PySem.W.subIn X.K t (.ref C) = some false := by
      rcases Bool.or_eq_true_iff.mp hn with e | e
      · rw [beq_iff_eq.mp e] at qq; simp at qq
      · exact beq_iff_eq.mp e
    refine wpAny_bind ((PySem.W.looks_subIn KX e).here ?_)
    simp only [Bool.false_eq_true, if_false]
    refine wpAny_bind (wpAny_mono one (fun r s' z => ?_) fun _ _ e => e)
    obtain ⟨v, rfl, hq⟩ := z
    exact wpAny_pure hq
  · refine wpAny_bind (wpAny_pure ?_)
    simp only [Bool.false_eq_true, if_false]
    refine wpAny_bind (wpAny_mono one (fun r s' z => ?_) fun _ _ e => e)
    obtain ⟨v, rfl, hq⟩ := z
    exact wpAny_pure hq
end
end Y
/-! Y22: enumerate of a list and of a tuple. -/
namespace Y
open PySem PySem.Spec PyProof.Rows L2
theorem meets_enumerate_one {v : Value} {o : Obj} {H : Heap → Prop} (B : Begins v o H) :
    Meets (Builtin.«enumerate.__new__» ⟨[.type "enumerate", v], []⟩) (fun _ R s => H s.heap ∧
      R (.ok (.ret (.ref (s.heap.push o).objs.size))) { s with heap := (s.heap.push o).push { cls := .type "enumerate", data := .fields #[.none, .bool false, .ref s.heap.objs.size, rawInt 0, .none, .none] } }) :=
  .of_wp fun prog w A R s h => by
    obtain ⟨hp, g, d, tk, os⟩ := s; obtain ⟨h1, h⟩ := h
    have hsub := sub_enumerate
    have q1 : ∀ {A' : Around} {E : Value → Shared → Prop} {Q : Value → Shared → Prop}, Q (.ref hp.objs.size) ⟨hp.push o, g, d, tk, os⟩ → wpAny (model prog w) A' (pyIter v) Q E ⟨hp, g, d, tk, os⟩ :=
      fun q => B.iter prog w _ _ ⟨hp, g, d, tk, os⟩ _ h1 q
    wp_walk using q1
    refine wpAny_stack_any fun st => wpAny_pure ?_
    split
    · rename_i c _ _ _ _ _
      cases (c == Value.type "enumerate")
      · wp_walk using q1
        exact ⟨_, rfl, h⟩
      · wp_walk using q1
        exact ⟨_, rfl, h⟩
    · wp_walk using q1
      exact ⟨_, rfl, h⟩
theorem enum_one {prog : Program} {w : World} {A : Around} {E : Value → Shared → Prop} {s : Shared} {v : Value} {o : Obj} {H : Heap → Prop} {Q : Value → Shared → Prop} (B : Begins v o H) (h1 : H s.heap)
    (h : ∀ h', IsEnum h' (s.heap.objs.size + 1) s.heap.objs.size 0 .none → h'.get? s.heap.objs.size = some o → h'.objs.size = s.heap.objs.size + 2 →
      (∀ b o, s.heap.get? b = some o → h'.get? b = some o) → Q (.ref (s.heap.objs.size + 1)) { s with heap := h' }) :
    wpAny (model prog w) A (call (.type "enumerate") [v]) Q E s := by
  refine callType_new F.called_enumerate (by decide) (F.typeCall_enumerate_1 _) (F.newCall_enumerate_1 _) (fun obj => F.args_object_init_2 obj _) F.entry_enumerate_new (meets_enumerate_one B) ⟨h1, ?_⟩
  have hz : (s.heap.push o).objs.size = s.heap.objs.size + 1 := Heap.size_push ..
  show _ ∧ _
  rw [hz]
  have he : IsEnum ((s.heap.push o).push { cls := .type "enumerate", data := .fields #[.none, .bool false, .ref s.heap.objs.size, rawInt 0, .none, .none] }) (s.heap.objs.size + 1) s.heap.objs.size 0 .none := by
    have := Heap.get?_push_size (s.heap.push o) (o := { cls := .type "enumerate", data := .fields #[.none, .bool false, .ref s.heap.objs.size, rawInt 0, .none, .none] }) rfl
    rw [hz] at this; exact this
  refine ⟨⟨_, he, rfl⟩, h _ he (Heap.get?_push_of_some _ (Heap.get?_push_size _ B.free)) (by rw [Heap.size_push, hz]) fun b o x => Heap.get?_push_of_some _ (Heap.get?_push_of_some _ x)⟩
def IteT (K : PySem.W.Frag) (a : Addr) : It :=
  ⟨fun i H => ∃ (xs : List V) (x : V), SqT K H a xs ∧ xs[i]? = some x, fun i H v H' => ∃ T x, v = .ref T ∧ H T = none ∧ H' = upd H T (.tup [.int (i : Nat), x]) ∧ ∀ xs, SqT K H a xs → xs[i]? = some x, fun i H => ∃ xs : List V, SqT K H a xs ∧ xs.length = i⟩
theorem turn_enumT {P : Program} {w : World} {K : PySem.W.Frag} {elts : List Expr} {kk : Nat} {tpos : Pos} (a e it : Addr) :
    Turn P w K (.Tuple elts kk tpos) (IteT K a) [e, it] e (fun i h => (∃ old, IsEnum h e it ((i : Nat) : Int) old) ∧ h.IsTupleIter it a i ∧ e ≠ it ∧ e ≠ a ∧ a ≠ it) where
  mem := by simp
  obj := fun i h st b hb => by
    obtain ⟨⟨old, he⟩, ⟨o, ho, hc, hd⟩, _⟩ := st
    have e' : b = e ∨ b = it := by simpa using hb
    rcases e' with z | z
    · rw [z]; exact ⟨_, he, fun v q => nomatch q⟩
    · rw [z]; exact ⟨o, ho, fun v q => by rw [hd] at q; cases q⟩
  keep := fun i h h' st k => let ⟨⟨old, he⟩, hi, hne⟩ := st; ⟨⟨old, k e (by simp) _ he⟩, hi.at fun o q => k it (by simp) o q, hne⟩
  item := by
    intro X hP hw hK hc i pins s σ H E I hf st hg
    subst hP hw hK
    obtain ⟨⟨old, he⟩, hit, hne, hea, hai⟩ := st
    obtain ⟨xs, x, hq, hx⟩ := hg
    obtain ⟨its, rv, p, hz⟩ := I.tuple hq
    have p : s.heap.IsTuple a its.toArray := p
    obtain ⟨u, hu, ru⟩ := rv.get hx
    have hh : X.A.in1.handled = none := I.ok.hd hc
    have hel : e < s.heap.objs.size := Heap.lt_size he
    have hil : it < s.heap.objs.size := by obtain ⟨_, q, _⟩ := hit; exact Heap.lt_size q
    have hiu : i < its.length := (List.getElem?_eq_some_iff.mp hu).1
    refine wpAny_pyNext_enum_itemD (Draws.tuple hh it a hai its.toArray) he ⟨hit, p⟩ (by simpa using hiu) hne (by simp [hne, hea]) fun x' h' tk hPx ho hst' hT hsz hk => ?_
    have ex : x' = u := by
      have : its[i]? = some x' := by simpa using hPx
      rw [hu] at this; cases this; rfl
    subst ex
    refine ⟨_, rfl, wpAny_letOwnedTupleGo_enum (s := { s with heap := h', toks := tk + 1 }) ho fun h'' he' sb => ?_⟩
    have hT2 : h''.get? s.heap.objs.size = some { cls := .type "tuple", data := .seq #[.int i tk, x'] } := (sb.2 _ (Nat.ne_of_gt hel)).trans hT
    have new : ObjOk X.prog X.w (upd H s.heap.objs.size (.tup [.int (i : Nat), x])) h'' s.heap.objs.size (.tup [.int (i : Nat), x]) :=
      ⟨by show 2 ≤ sizeLine; decide, [.int i tk, x'], .cons ⟨_, rfl⟩ (.cons ru .nil), ⟨_, hT2, rfl, _, rfl⟩⟩
    have I1 : Inv X pins σ (upd H s.heap.objs.size (.tup [.int (i : Nat), x])) { s with heap := h'', toks := tk + 1 } :=
      I.turnedNew (t' := tk + 1) (ch := [e, it]) (fun b ob hb q => (sb.2 b (fun z => hb (by simp [z]))).trans (hk b ob (fun z => hb (by simp [z])) (fun z => hb (by simp [z])) q)) hf (Nat.le_refl _) new
    refine ⟨.ref s.heap.objs.size, _, I1, rfl, ⟨_, x, rfl, I.hok.fresh (Nat.le_refl _), rfl, fun ys hy => by rw [I.tuple_inj hy hq]; exact hx⟩, ⟨⟨x', ?_⟩, hst'.1.at fun o q => (sb.2 it (Ne.symm hne)).trans q, hne, hea, hai⟩, fun b hb => ?_⟩
    · have e1 : ((i + 1 : Nat) : Int) = (i : Int) + 1 := by omega
      rw [e1]; exact he'
    · have hb' : b < s.heap.objs.size := by
        have e' : b = e ∨ b = it := by simpa using hb
        rcases e' with z | z
        · rw [z]; exact hel
        · rw [z]; exact hil
      rw [upd_ne (Nat.ne_of_lt hb')]
      exact (hf b hb).1
  done := by
    intro X hP hw hK hc i pins s σ H E I hf st hg
    subst hP hw hK
    obtain ⟨⟨old, he⟩, hit, hne, hea, hai⟩ := st
    obtain ⟨xs, hq, hx⟩ := hg
    obtain ⟨its, rv, p, hz⟩ := I.tuple hq
    have p : s.heap.IsTuple a its.toArray := p
    obtain ⟨f0, f1, f2, f3, f4, f5⟩ := hf it (by simp)
    have hl := rv.length
    have hh : X.A.in1.handled = none := I.ok.hd hc
    have e1 : i = its.toArray.size := by simp; omega
    subst e1
    exact wpAny_pyNext_enum_endD (Draws.tuple hh it a hai its.toArray) he ⟨hit, p⟩ fun h' eb => ⟨rfl, I.turned (t' := s.toks) (fun b o hb q => eb b o hb q) f0 f1 f3 f4 f5⟩
  self := fun A i s Q E st h => let ⟨⟨_, he⟩, _⟩ := st; wpAny_pyIter_enum he h
def iEnumT (K : PySem.W.Frag) (ta : TA) : TI := fun σ H R => ta σ H fun vs H1 => ∃ a xs, vs = [.ref a] ∧ SqT K H1 a xs ∧ R (IteT K a) H1
theorem pi_enumT {X : Cx} {e : Expr} {ta : TA} {p pos tpos : Pos} {elts : List Expr} {kk : Nat} (hg : Gl X "enumerate") (hm : X.mg "enumerate" = none) (ha : PA X [e] ta) (hs : starEach [e] X.env = [(false, eval e X.env)] := by rfl) :
    PI X (.Tuple elts kk tpos) (.Call (.Name "enumerate" p) [e] [] pos) (iEnumT X.K ta) := by
  refine ⟨fun pins s σ H R I h => ?_⟩
  refine Call_ (ld_blt I hg hm boot_enumerate (PyProof.Rows.callWith_type1 (thn (ha.run pos pins s σ H _ I h) fun us s1 ⟨vs, H1, I1, r1, q1⟩ => ?_) hs rfl))
  obtain ⟨a, xs, ex, hq, q⟩ := q1
  subst ex
  cases r1 with
  | cons r rr =>
    cases rr
    cases r
    obtain ⟨its, rv, p', hz⟩ := I1.tuple hq
    have p' : s1.heap.IsTuple a its.toArray := p'
    obtain ⟨o1, ho1, _⟩ := id p'
    have hlt : a < s1.heap.objs.size := Heap.lt_size ho1
    refine enum_one (begins_tuple a its.toArray) p' fun h' he hit hsz hk => wpAny_pyIter_enum he ?_
    have I2 : Inv X pins σ H1 { s1 with heap := h' } := I1.kept (t' := s1.toks) hk
    refine ⟨s1.heap.objs.size + 1, [s1.heap.objs.size + 1, s1.heap.objs.size], _, _, H1, rfl, I2, turn_enumT a (s1.heap.objs.size + 1) s1.heap.objs.size, ⟨⟨.none, he⟩, ⟨_, hit, rfl, rfl⟩, Nat.succ_ne_self _, Nat.ne_of_gt (Nat.lt_succ_of_lt hlt), Nat.ne_of_lt hlt⟩, fun b hb => ?_, q⟩
    have e' : b = s1.heap.objs.size + 1 ∨ b = s1.heap.objs.size := by simpa using hb
    have hle : s1.heap.objs.size ≤ b := by
      rcases e' with z | z
      · rw [z]; exact Nat.le_add_right _ _
      · rw [z]; exact Nat.le_refl _
    exact I1.fpOk hle (I1.hok.fresh hle)
def iEnumA (K : PySem.W.Frag) (ta : TA) : TI := fun σ H R => iEnum K ta σ H R ∨ iEnumT K ta σ H R
theorem pi_enumA {X : Cx} {K : PySem.W.Frag} {e : Expr} {ta : TA} {p pos tpos : Pos} {elts : List Expr} {kk : Nat} (hg : Gl X "enumerate") (hm : X.mg "enumerate" = none) (ha : PA X [e] ta) (hK : X.K = K := by rfl) (hs : starEach [e] X.env = [(false, eval e X.env)] := by rfl) :
    PI X (.Tuple elts kk tpos) (.Call (.Name "enumerate" p) [e] [] pos) (iEnumA K ta) := hK ▸ pi_alt (pi_enum hg hm ha hs) (pi_enumT hg hm ha hs)
/-! ### over data -/
def enumD : Nat → List Dt → List Dt
  | _, [] => []
  | i, x :: xs => .tup [.int (i : Nat), x] :: enumD (i + 1) xs
theorem enumD_len : ∀ (i : Nat) (xs : List Dt), (enumD i xs).length = xs.length
  | _, [] => rfl
  | i, x :: xs => by rw [enumD, List.length_cons, enumD_len, List.length_cons]
theorem enumD_get : ∀ {xs : List Dt} {i j : Nat} {x : Dt}, xs[j]? = some x → (enumD i xs)[j]? = some (.tup [.int ((i + j : Nat) : Int), x])
  | [], _, _, _, h => by simp at h
  | y :: xs, i, 0, x, h => by simp at h; subst h; rfl
  | y :: xs, i, j + 1, x, h => by
    have := enumD_get (i := i + 1) (j := j) (xs := xs) (x := x) (by simpa using h)
    rw [show i + (j + 1) = i + 1 + j by omega]
    simpa [enumD] using this
theorem enumD_inv : ∀ {xs : List Dt} {i j : Nat} {p : Dt}, (enumD i xs)[j]? = some p → ∃ x, xs[j]? = some x ∧ p = .tup [.int ((i + j : Nat) : Int), x]
  | [], _, _, _, h => by simp [enumD] at h
  | y :: xs, i, 0, p, h => by simp [enumD] at h; exact ⟨y, rfl, h.symm⟩
  | y :: xs, i, j + 1, p, h => by
    obtain ⟨x, h1, h2⟩ := enumD_inv (i := i + 1) (j := j) (xs := xs) (p := p) (by simpa [enumD] using h)
    exact ⟨x, by simpa using h1, by rw [h2, show i + 1 + j = i + (j + 1) by omega]⟩
theorem itd_enum {K : PySem.W.Frag} {F : Hp} {a : Addr} {vs : List V} {xs : List Dt} (h : F a = some (.lst vs)) (r : RpAll K F vs xs) : ItD K (Ite K a) F (enumD 0 xs) where
  goes := fun i H hi s => by
    rw [enumD_len] at hi
    exact ⟨vs, vs[i]'(by rw [r.length]; exact hi), SqL.of (s _ _ h), by simp⟩
  stops := fun H s => ⟨vs, SqL.of (s _ _ h), by rw [enumD_len, r.length]; exact Nat.le_refl _⟩
  yields := fun i H v H' hi s y => by
    obtain ⟨T, x, e1, e2, e3, e4⟩ := y
    obtain ⟨d, h1, h2⟩ := r.getV (e4 vs (SqL.of (s _ _ h)))
    exact ⟨_, enumD_get h1, .inr ⟨T, .int (i : Nat), x, .int ((0 + i : Nat) : Int), d, e1, e2, e3, by rw [Nat.zero_add]; exact .int _, h2, rfl⟩⟩
theorem itd_enumT {K : PySem.W.Frag} {F : Hp} {a : Addr} {vs : List V} {xs : List Dt} (h : SqT K F a vs) (r : RpAll K F vs xs) : ItD K (IteT K a) F (enumD 0 xs) where
  goes := fun i H hi s => by
    rw [enumD_len] at hi
    exact ⟨vs, vs[i]'(by rw [r.length]; exact hi), sqT_mono s h, by simp⟩
  stops := fun H s => ⟨vs, sqT_mono s h, by rw [enumD_len, r.length]⟩
  yields := fun i H v H' hi s y => by
    obtain ⟨T, x, e1, e2, e3, e4⟩ := y
    obtain ⟨d, h1, h2⟩ := r.getV (e4 vs (sqT_mono s h))
    exact ⟨_, enumD_get h1, .inr ⟨T, .int (i : Nat), x, .int ((0 + i : Nat) : Int), d, e1, e2, e3, by rw [Nat.zero_add]; exact .int _, h2, rfl⟩⟩
theorem ei_enumL {B : Bs} {es : List Sl} {ta : TA} {P : List Dt → Prop} (h : EvA B ta es fun ds => ∃ xs, ds = [.lst xs] ∧ P (enumD 0 xs)) : EvI B (iEnumA B.K ta) es P := fun σ F H S R q => .inl (h σ F H S _ fun vs ds F1 H1 g1 r1 ⟨xs, e, p1⟩ => by
  subst e
  obtain ⟨v, rfl, r⟩ := rp1 r1
  cases r with
  | lst h1 h2 => exact ⟨_, _, rfl, SqL.of (g1.s2 _ _ h1), q _ _ F1 H1 g1 (itd_enum h1 h2) p1⟩)
theorem ei_enumT {B : Bs} {es : List Sl} {ta : TA} {P : List Dt → Prop} (h : EvA B ta es fun ds => ∃ xs, ds = [.tup xs] ∧ P (enumD 0 xs)) : EvI B (iEnumA B.K ta) es P := fun σ F H S R q => .inr (h σ F H S _ fun vs ds F1 H1 g1 r1 ⟨xs, e, p1⟩ => by
  subst e
  obtain ⟨v, rfl, r⟩ := rp1 r1
  cases r with
  | tup h1 h2 => exact ⟨_, _, rfl, sqT_mono g1.s2 h1, q _ _ F1 H1 g1 (itd_enumT h1 h2) p1⟩)
end Y
/-! Y23: instances as data: fields, methods, making one. -/
namespace Y
open PySem L2

def getF : List Str → List Dt → Str → Option Dt
  | n :: ns, x :: xs, f => if f = n then some x else getF ns xs f
  | _, _, _ => none
theorem getF_of {K : PySem.W.Frag} {F : Hp} {f : Str} : ∀ {fs : List (Str × V)} {xs : List Dt} {x : Dt}, RpAll K F (fs.map (·.2)) xs → getF (fs.map (·.1)) xs f = some x → ∃ v, fs.lookup f = some v ∧ Rp K F v x
  | [], _, _, r, h => by cases r; cases h
  | (n, v) :: fs, _, x, r, h => by
    cases r with
    | cons r1 r2 =>
      have h : (if f = n then some _ else getF (fs.map (·.1)) _ f) = some x := h
      by_cases e : f = n
      · rw [if_pos e] at h
        cases h
        exact ⟨v, by rw [List.lookup_cons, e]; simp, r1⟩
      · rw [if_neg e] at h
        obtain ⟨w, h1, h2⟩ := getF_of r2 h
        refine ⟨w, ?_, h2⟩
        rw [List.lookup_cons]
        have : (f == n) = false := by simpa using e
        rw [this]; exact h1
theorem look_no {f : Str} : ∀ {fs : List (Str × V)}, (fs.map (·.1)).contains f = false → fs.lookup f = none
  | [], _ => rfl
  | (n, v) :: fs, h => by
    rw [List.map_cons, List.contains_cons, Bool.or_eq_false_iff] at h
    rw [List.lookup_cons, h.1]
    exact look_no h.2
theorem putF_new {f : Str} {v : V} : ∀ {fs : List (Str × V)}, (fs.map (·.1)).contains f = false → putF f v fs = fs ++ [(f, v)]
  | [], _ => rfl
  | (n, x) :: fs, h => by
    rw [List.map_cons, List.contains_cons, Bool.or_eq_false_iff] at h
    have e : ¬ n = f := fun e => by rw [e] at h; simp at h
    show (if n = f then _ else (n, x) :: putF f v fs) = _
    rw [if_neg e, putF_new h.2]; rfl
/-- what is asked of a class whose instances are asked for their kind -/
structure ClsF (K : PySem.W.Frag) (C : Addr) : Prop where
  cl : Cls K C
  ha : PySem.W.findIn K (.ref C) "__class__" = some (some (.builtin "object.__class__"))
  hn : PySem.W.specialIn K (.builtin "object.__class__") "__get__" = some (some (.builtin "getset_descriptor.__get__"))
  htk : PySem.W.takesIn K (.builtin "object.__class__") = some true
  hm : PySem.W.mroIn K C (.type "object") = some true
  ty : ((PySem.W.clsIn K C).isSome && PySem.W.typeIn K (.ref C) == some (.type "type")) = true
theorem ClsF.tyx {K : PySem.W.Frag} {C : Addr} (c : ClsF K C) {H : Hp} {a dx : Addr} {fs : List (Str × V)} (e : H a = some (.ins C dx fs)) : TyX K H (.ref a) (.ref C) := .base (.ins e c.cl c.ha c.hn c.htk c.hm)
theorem sub_ty {K : PySem.W.Frag} {C : Addr} {T : String} {m : List Value} (h : fastBuiltinMro T = some m) (hm : (m.all fun v => match v with | .ref _ => false | _ => true) = true) : PySem.W.subIn K (.type T) (.ref C) = some false := by
  show (fastBuiltinMro T).map (·.contains (.ref C)) = some false
  rw [h]
  show some _ = some false
  congr 1
  rw [Bool.eq_false_iff]
  intro hc
  rw [List.contains_iff_mem] at hc
  have := List.all_eq_true.mp hm _ hc
  cases this
theorem sub_dt {K : PySem.W.Frag} {C : Addr} {x : Dt} (h : plainD x = true) : PySem.W.subIn K (.type (dTy x)) (.ref C) = some false := by
  cases x with
  | non => exact sub_ty (m := [.type "NoneType", .type "object"]) (by decide +kernel) (by decide +kernel)
  | bl b => exact sub_ty (T := "bool") (m := [.type "bool", .type "int", .type "object"]) (by decide +kernel) (by decide +kernel)
  | int b => exact sub_ty (T := "int") (m := [.type "int", .type "object"]) (by decide +kernel) (by decide +kernel)
  | str b => exact sub_ty (T := "str") (m := [.type "str", .type "object"]) (by decide +kernel) (by decide +kernel)
  | lst b => exact sub_ty (T := "list") (m := [.type "list", .type "object"]) (by decide +kernel) (by decide +kernel)
  | tup b => exact sub_ty (T := "tuple") (m := [.type "tuple", .type "object"]) (by decide +kernel) (by decide +kernel)
  | dct b c => exact sub_ty (T := "dict") (m := [.type "dict", .type "object"]) (by decide +kernel) (by decide +kernel)
  | obj _ _ _ => cases h
  | ali _ => cases h
theorem notFirst_dt {K : PySem.W.Frag} {C : Addr} {x : Dt} (h : plainD x = true) : PySem.W.notFirst K C (.type (dTy x)) = true := by
  unfold PySem.W.notFirst
  rw [sub_dt h]
  simp
theorem kit_dt {K : PySem.W.Frag} {C : Addr} {x : Dt} (c : ClsF K C) (h : plainD x = true) : PySem.W.kitOne K (.type (dTy x)) (.ref C) = some false := by
  unfold PySem.W.kitOne
  rw [if_neg (by simp)]
  show (if _ = true then PySem.W.subIn K (.type (dTy x)) (.ref C) else none) = some false
  rw [if_pos c.ty, sub_dt h]
theorem kit_self {K : PySem.W.Frag} {C : Addr} : PySem.W.kitOne K (.ref C) (.ref C) = some true := if_pos (by simp)
section
variable {B : Bs} {es : List Sl} {C : Addr}
theorem ev_fld {te : TE} {f : Str} {P : Dt → Prop} (cl : Cls B.K C) (na : NoAttr B.K C f) (h : Ev B te es fun d => ∃ ns xs x, d = .obj C ns xs ∧ getF ns xs f = some x ∧ P x) : Ev B (tFld B.K te f) es P := fun σ F H S Q q =>
  h σ F H S _ fun v d F1 H1 g1 r1 ⟨ns, xs, x, e, hx, p⟩ => by
    subst e
    cases r1 with
    | obj h1 h2 h3 h4 =>
      subst h2 h3
      obtain ⟨w, k1, k2⟩ := getF_of h4 hx
      exact ⟨_, C, _, _, w, rfl, g1.s2 _ _ h1, cl, na, k1, q w x F1 H1 g1 k2 p⟩
theorem ev_meth {te : TE} {ta : TA} {m : Str} {Pre : List Dt → Prop} {Post : List Dt → Dt → Prop} {E : XK} {P : Dt → Prop} (h : Ev B te es fun d => ∃ ns xs, d = .obj C ns xs ∧ ns.contains m = false ∧ EvA B ta es fun ds => Pre (d :: ds) ∧ ∀ r, Post (d :: ds) r → P r) : Ev B (tMeth C m (spD B.K Pre Post) [] E te ta) es P := fun σ F H S Q q =>
  h σ F H S _ fun v d F1 H1 g1 r1 ⟨ns, xs, e, hm, p⟩ => by
    subst e
    have r0 := r1
    cases r1 with
    | obj h1 h2 h3 h4 =>
      subst h2 h3
      refine ⟨_, _, _, rfl, g1.s2 _ _ h1, look_no hm, p σ F1 H1 (S.go g1) _ fun vs ds F2 H2 g2 r2 ⟨p1, p2⟩ => ?_⟩
      have g := g1.trans g2
      rw [List.append_nil]
      exact ⟨F2, _, g2.s2, .cons (r0.mono g2.s1) r2, p1, fun v d F3 H3 s1 s2 s3 s4 r3 p3 => q v d F3 H3 (g.trans ((S.go g).pure s1 s3 s2 s4)) r3 (p2 d p3)⟩
theorem eo_meth {te : TE} {ta : TA} {m : Str} {Pre : List Dt → Prop} {Post : List Dt → List Dt → Prop} {E : XK} {P : List Dt → Prop} (h : Ev B te es fun d => ∃ ns xs, d = .obj C ns xs ∧ ns.contains m = false ∧ EvA B ta es fun ds => Pre (d :: ds) ∧ ∀ r, Post (d :: ds) r → P r) : EvO B (tMeth C m (spO B.K Pre Post) [] E te ta) es P := fun σ F H S Q q =>
  h σ F H S _ fun v d F1 H1 g1 r1 ⟨ns, xs, e, hm, p⟩ => by
    subst e
    have r0 := r1
    cases r1 with
    | obj h1 h2 h3 h4 =>
      subst h2 h3
      refine ⟨_, _, _, rfl, g1.s2 _ _ h1, look_no hm, p σ F1 H1 (S.go g1) _ fun vs ds F2 H2 g2 r2 ⟨p1, p2⟩ => ?_⟩
      have g := g1.trans g2
      rw [List.append_nil]
      exact ⟨F2, _, g2.s2, .cons (r0.mono g2.s1) r2, p1, fun a ws xs F3 H3 s1 s2 s3 s4 h1 h2 h3 r3 p3 => q a ws xs F3 H3 (g.trans ((S.go g).pure s1 s3 s2 s4)) (g.new ((S.go g).newB h1) h1) h2 h3 r3 (p2 xs p3)⟩
theorem ev_lenI {te : TE} {Pre : List Dt → Prop} {Post : List Dt → Dt → Prop} {E : XK} {P : Dt → Prop} (h : Ev B te es fun d => ∃ ns xs, d = .obj C ns xs ∧ Pre [d] ∧ ∀ r, Post [d] r → ∃ n : Nat, r = .int n ∧ n < 2 ^ 62 ∧ P r) : Ev B (tCB (rLenI C (spD B.K Pre Post) E) (tCons te tNil)) es P := fun σ F H S Q q =>
  h σ F H S _ fun v d F1 H1 g1 r1 ⟨ns, xs, e, p1, p2⟩ => by
    subst e
    have r0 := r1
    cases r1 with
    | obj h1 h2 h3 h4 =>
      exact ⟨_, _, _, rfl, g1.s2 _ _ h1, F1, _, g1.s2, .cons r0 .nil, p1, fun v d F3 H3 s1 s2 s3 s4 r3 p3 => by
        obtain ⟨n, rfl, hn, hp⟩ := p2 d p3
        cases r3
        exact ⟨n, rfl, hn, q _ _ F3 H3 (g1.trans ((S.go g1).pure s1 s3 s2 s4)) (.int _) hp⟩⟩
theorem ev_reprI {te : TE} {Pre : List Dt → Prop} {Post : List Dt → Dt → Prop} {E : XK} {P : Dt → Prop} (h : Ev B te es fun d => ∃ ns xs, d = .obj C ns xs ∧ Pre [d] ∧ ∀ r, Post [d] r → ∃ z : Str, r = .str z ∧ P r) : Ev B (tCB (rReprI C (spD B.K Pre Post) E) (tCons te tNil)) es P := fun σ F H S Q q =>
  h σ F H S _ fun v d F1 H1 g1 r1 ⟨ns, xs, e, p1, p2⟩ => by
    subst e
    have r0 := r1
    cases r1 with
    | obj h1 h2 h3 h4 =>
      exact ⟨_, _, _, rfl, g1.s2 _ _ h1, F1, _, g1.s2, .cons r0 .nil, p1, fun v d F3 H3 s1 s2 s3 s4 r3 p3 => by
        obtain ⟨n, rfl, hp⟩ := p2 d p3
        cases r3
        exact ⟨n, rfl, q _ _ F3 H3 (g1.trans ((S.go g1).pure s1 s3 s2 s4)) (.str _) hp⟩⟩
theorem ev_boolI {te : TE} {Pre : List Dt → Prop} {Post : List Dt → Dt → Prop} {E : XK} {P : Dt → Prop} (h : Ev B te es fun d => ∃ ns xs, d = .obj C ns xs ∧ Pre [d] ∧ ∀ r, Post [d] r → ∃ z : Bool, r = .bl z ∧ P r) : Ev B (tCB (rBoolI C (spD B.K Pre Post) E) (tCons te tNil)) es P := fun σ F H S Q q =>
  h σ F H S _ fun v d F1 H1 g1 r1 ⟨ns, xs, e, p1, p2⟩ => by
    subst e
    have r0 := r1
    cases r1 with
    | obj h1 h2 h3 h4 =>
      exact ⟨_, _, _, rfl, g1.s2 _ _ h1, F1, _, g1.s2, .cons r0 .nil, p1, fun v d F3 H3 s1 s2 s3 s4 r3 p3 => by
        obtain ⟨n, rfl, hp⟩ := p2 d p3
        cases r3
        exact ⟨n, rfl, q _ _ F3 H3 (g1.trans ((S.go g1).pure s1 s3 s2 s4)) (.bl _) hp⟩⟩
/-- what stands right of an == whose left is an instance of C -/
def besideD (C : Addr) (y : Dt) : Prop := plainD y = true ∨ ∃ ns xs, y = .obj C ns xs
theorem beside_ty {K : PySem.W.Frag} (c : ClsF K C) {F H : Hp} {w : V} {y : Dt} (h : besideD C y) (r : Rp K F w y) (s : Same F H) : ∃ t, TyX K H w t ∧ PySem.W.notFirst K C t = true := by
  rcases h with h | ⟨ns, xs, rfl⟩
  · exact ⟨_, ty_of r s h, notFirst_dt h⟩
  · cases r with
    | obj h1 h2 h3 h4 => exact ⟨_, c.tyx (s _ _ h1), by unfold PySem.W.notFirst; simp⟩
theorem o_eqI {Pre : List Dt → Prop} {Post : List Dt → Dt → Prop} {E : XK} {ns : List Str} {xs : List Dt} {y : Dt} {P : Dt → Prop} (c : ClsF B.K C) (hy : besideD C y) (h1 : Pre [.obj C ns xs, y]) (h2 : ∀ r, Post [.obj C ns xs, y] r → ∃ b, r = .bl b ∧ P (.bl b)) : Op2 B (rEqI B.K C (spD B.K Pre Post) E) es (.obj C ns xs) y P := fun σ F H v w S a b Q k => by
  have a0 := a
  cases a with
  | obj k1 k2 k3 k4 =>
    obtain ⟨t, ht, hn⟩ := beside_ty c hy b S.sub
    exact ⟨_, _, _, t, rfl, S.sub _ _ k1, ht, hn, F, _, S.sub, .cons a0 (.cons b .nil), h1, fun v d F3 H3 s1 s2 s3 s4 r3 p3 => by
      obtain ⟨n, rfl, hp⟩ := h2 d p3
      cases r3
      exact ⟨n, rfl, k _ _ F3 H3 (S.pure s1 s3 s2 s4) (.bl _) hp⟩⟩
theorem o_neI {Pre : List Dt → Prop} {Post : List Dt → Dt → Prop} {E : XK} {ns : List Str} {xs : List Dt} {y : Dt} {P : Dt → Prop} (c : ClsF B.K C) (hy : besideD C y) (h1 : Pre [.obj C ns xs, y]) (h2 : ∀ r, Post [.obj C ns xs, y] r → ∃ b, r = .bl b ∧ P (.bl (!b))) : Op2 B (rNeI B.K C (spD B.K Pre Post) E) es (.obj C ns xs) y P := fun σ F H v w S a b Q k => by
  have a0 := a
  cases a with
  | obj k1 k2 k3 k4 =>
    obtain ⟨t, ht, hn⟩ := beside_ty c hy b S.sub
    exact ⟨_, _, _, t, rfl, S.sub _ _ k1, ht, hn, F, _, S.sub, .cons a0 (.cons b .nil), h1, fun v d F3 H3 s1 s2 s3 s4 r3 p3 => by
      obtain ⟨n, rfl, hp⟩ := h2 d p3
      cases r3
      exact ⟨n, rfl, k _ _ F3 H3 (S.pure s1 s3 s2 s4) (.bl _) hp⟩⟩
def isObjD : Dt → Bool
  | .obj _ _ _ => true
  | _ => false
/-- isinstance(x, C) -/
theorem ev_isC {te : TE} {P : Dt → Prop} (c : ClsF B.K C) (h : Ev B te es fun d => besideD C d ∧ P (.bl (isObjD d))) : Ev B (tCB (rIsi B.K) (tCons te (tCons (tC (.ref C)) tNil))) es P := fun σ F H S Q q =>
  h σ F H S _ fun v x F1 H1 g1 r1 ⟨hx, p1⟩ => by
    rcases hx with hx | ⟨ns, xs, rfl⟩
    · have e : isObjD x = false := by cases x <;> first | rfl | cases hx
      rw [e] at p1
      exact ⟨v, .ref C, _, _, false, rfl, .own C, ty_of r1 g1.s2 hx, kit_dt c hx, q _ _ F1 H1 g1 (.bl _) p1⟩
    · cases r1 with
      | obj h1 h2 h3 h4 => exact ⟨_, .ref C, _, _, true, rfl, .own C, c.tyx (g1.s2 _ _ h1), kit_self, q _ _ F1 H1 g1 (.bl _) p1⟩
end
end Y
/-! Y24: __init__: the fields of an instance under way; making an instance; f-strings. -/
namespace Y
open PySem L2
section
variable {B : Bs} {es : List Sl} {C : Addr} {p : Po}
theorem Stt.obj {σ : St} {F H : Hp} {i : Nat} {a dx : Addr} {ns : List Str} {xs : List Dt} {bs : List Bool} (S : Stt B es σ F H) (h : es[i]? = some (.ob a C dx ns xs bs)) : ∃ fs : List (Str × V), σ[i]? = some (some (.ref a)) ∧ F a = none ∧ H a = some (.ins C dx fs) ∧ fs.map (·.1) = ns ∧ RpAll B.K F (fs.map (·.2)) xs := by
  obtain ⟨o, h1, fs, rfl, k⟩ := S.slot h
  exact ⟨fs, h1, k⟩
theorem Stt.fld {σ : St} {F H : Hp} {i : Nat} {a dx : Addr} {ns ns' : List Str} {xs xs' : List Dt} {bs bs' : List Bool} {fs fs' : List (Str × V)} (S : Stt B es σ F H) (one : ∀ (j : Nat) a' C' dx' ns' xs' bs', j ≠ i → es[j]? ≠ some (.ob a' C' dx' ns' xs' bs')) (h : es[i]? = some (.ob a C dx ns xs bs)) (hs : σ[i]? = some (some (.ref a))) (h1 : F a = none) (h2 : H a = some (.ins C dx fs)) (h3 : fs'.map (·.1) = ns') (h4 : RpAll B.K F (fs'.map (·.2)) xs')
    (h5 : ∀ k : Nat, bs'[k]? = some true → ∃ n b vs, fs'[k]? = some (n, .ref b) ∧ B.H0 b = none ∧ F b = some (.lst vs)) : Stt B (es.set i (.ob a C dx ns' xs' bs')) σ F (upd H a (.ins C dx fs')) where
  sub := fun c o e => by
    rw [upd_ne (ne_of_none e h1)]; exact S.sub c o e
  s0 := S.s0
  ou := S.ou
  fr := fun c o k1 k2 => by
    have hc : c ≠ a := fun e => by
      have := (S.obw i a C dx ns xs bs h).1
      rw [← e, k1] at this; cases this
    rw [upd_ne hc]; exact S.fr c o k1 k2
  bg := fun b hb => by
    obtain ⟨k1, ws, ys, k2, k3, k4⟩ := S.bg b hb
    have hba : b ≠ a := fun q => (S.obw i a C dx ns xs bs h).2.1.1 (by rw [hb, q])
    exact ⟨k1, ws, ys, by rw [upd_ne hba]; exact k2, k3, k4⟩
  tb := fun q hq => by
    exact tabS_kept (S.tb q hq) fun c o ho hn => gh_upd h2 (fun z => z) ho hn
  tn := S.tn
  len := by rw [List.length_set]; exact S.len
  ok := fun j e o k1 k2 => by
    by_cases hj : i = j
    · subst hj
      have l1 : i < es.length := (List.getElem?_eq_some_iff.mp h).1
      rw [List.getElem?_set_self l1] at k1
      cases k1
      rw [hs] at k2
      cases k2
      exact ⟨fs', rfl, h1, upd_same, h3, h4⟩
    · rw [List.getElem?_set_ne hj] at k1
      have q := S.ok j e o k1 k2
      cases e with
      | no => exact q
      | any => trivial
      | d x => exact q
      | r v => exact q
      | own c zs =>
        obtain ⟨us, z1, z2, z3, z4⟩ := q
        have hca : c ≠ a := fun e => by rw [e, h2] at z3; cases z3
        exact ⟨us, z1, z2, by rw [upd_ne hca]; exact z3, z4⟩
      | ob c C' dx' ns'' ys bs'' => exact absurd k1 (one j _ _ _ _ _ _ (fun e => hj e.symm))
      | fs c ls =>
        exact ⟨q.1, q.2.1, fun p hp => (q.2.2 p hp).kept fun c o k hn _ => gh_upd h2 (fun z => z) k hn⟩
  ow := fun j c zs k1 => by
    by_cases hj : i = j
    · subst hj
      have l1 : i < es.length := (List.getElem?_eq_some_iff.mp h).1
      rw [List.getElem?_set_self l1] at k1
      cases k1
    · rw [List.getElem?_set_ne hj] at k1
      exact S.ow j c zs k1
  dis := fun j l c e ys' zs hjl k1 k2 => by
    have l1 : i < es.length := (List.getElem?_eq_some_iff.mp h).1
    by_cases hj : i = j
    · subst hj; rw [List.getElem?_set_self l1] at k1; cases k1
    · rw [List.getElem?_set_ne hj] at k1
      by_cases hl : i = l
      · subst hl; rw [List.getElem?_set_self l1] at k2; cases k2
      · rw [List.getElem?_set_ne hl] at k2
        exact S.dis j l c e ys' zs hjl k1 k2
  obw := fun j c C' dx' ns'' ys bs'' k1 => by
    have l1 : i < es.length := (List.getElem?_eq_some_iff.mp h).1
    by_cases hj : i = j
    · subst hj
      rw [List.getElem?_set_self l1] at k1
      cases k1
      obtain ⟨w1, w2, _⟩ := S.obw i a C dx ns xs bs h
      refine ⟨w1, w2, fun gs hg => ?_⟩
      rw [upd_same] at hg
      cases hg
      exact h5
    · rw [List.getElem?_set_ne hj] at k1
      exact absurd k1 (one j _ _ _ _ _ _ (fun e => hj e.symm))
/-- no other slot holds an instance under way -/
def oneOb : List Sl → Nat → Bool
  | [], _ => true
  | .ob _ _ _ _ _ _ :: r, 0 => (r.all fun e => match e with | .ob _ _ _ _ _ _ => false | _ => true)
  | .ob _ _ _ _ _ _ :: _, _ + 1 => false
  | _ :: _, 0 => false
  | _ :: r, i + 1 => oneOb r i
theorem oneOb_of : ∀ {es : List Sl} {i : Nat}, oneOb es i = true → ∀ (j : Nat) a C dx ns xs bs, j ≠ i → es[j]? ≠ some (.ob a C dx ns xs bs)
  | [], _, _, j, a, C, dx, ns, xs, bs, _, e => by simp at e
  | s :: r, 0, h, j, a, C, dx, ns, xs, bs, hj, e => by
    cases j with
    | zero => exact hj rfl
    | succ j =>
      have e : r[j]? = some (.ob a C dx ns xs bs) := by simpa using e
      cases s with
      | ob _ _ _ _ _ _ =>
        have h : (r.all fun e => match e with | .ob _ _ _ _ _ _ => false | _ => true) = true := h
        have := List.all_eq_true.mp h _ (List.mem_of_getElem? e)
        cases this
      | _ => cases h
  | s :: r, i + 1, h, j, a, C, dx, ns, xs, bs, hj, e => by
    cases j with
    | zero =>
      have e : s = .ob a C dx ns xs bs := by simpa using e
      subst e
      cases h
    | succ j =>
      have e : r[j]? = some (.ob a C dx ns xs bs) := by simpa using e
      refine oneOb_of (es := r) (i := i) ?_ j a C dx ns xs bs (fun q => hj (by omega)) e
      cases s with
      | ob _ _ _ _ _ _ => cases h
      | _ => exact h
theorem sm_fld {i : Nat} {tv : TE} {f : Str} {a dx : Addr} {ns : List Str} {xs : List Dt} {bs : List Bool} (hi : es[i]? = some (.ob a C dx ns xs bs)) (one : oneOb es i = true) (cl : Cls B.K C) (na : NoAttr B.K C f) (hn : ns.contains f = false) (hl : bs.length = ns.length) (hz : ns.length < 900)
    (h : Ev B tv es fun d => p.nx (es.set i (.ob a C dx (ns ++ [f]) (xs ++ [d]) (bs ++ [false])))) : Sm B (sFld B.K (tVar i) tv f) es p := fun σ F H D S n _ _ _ _ =>
  h σ F H S _ fun v d F1 H1 g1 r1 p1 => by
    have S1 := S.go g1
    obtain ⟨fs, h1, h2, h3, h4, h5⟩ := S1.obj hi
    have hlen : fs.length = ns.length := by rw [← h4, List.length_map]
    refine ⟨_, h1, a, C, dx, fs, rfl, h3, cl, na, by omega, ?_⟩
    rw [putF_new (by rw [h4]; exact hn)]
    refine n _ _ F1 _ (S1.fld (oneOb_of one) hi h1 h2 h3 (by rw [List.map_append, h4]; rfl) (by rw [List.map_append]; exact h5.app (.cons r1 .nil)) fun k hk => ?_) g1.s1 p1
    by_cases q : k < bs.length
    · rw [List.getElem?_append_left q] at hk
      obtain ⟨n', b, us, z1, z2⟩ := (S1.obw i a C dx ns xs bs hi).2.2 fs h3 k hk
      exact ⟨n', b, us, by rw [List.getElem?_append_left (by omega)]; exact z1, z2⟩
    · rw [List.getElem?_append_right (by omega)] at hk
      have := List.mem_of_getElem? hk
      simp at this
theorem sm_fldO {i : Nat} {tv : TE} {f : Str} {a dx : Addr} {ns : List Str} {xs : List Dt} {bs : List Bool} (hi : es[i]? = some (.ob a C dx ns xs bs)) (one : oneOb es i = true) (cl : Cls B.K C) (na : NoAttr B.K C f) (hn : ns.contains f = false) (hl : bs.length = ns.length) (hz : ns.length < 900)
    (h : EvO B tv es fun ys => p.nx (es.set i (.ob a C dx (ns ++ [f]) (xs ++ [.lst ys]) (bs ++ [true])))) : Sm B (sFld B.K (tVar i) tv f) es p := fun σ F H D S n _ _ _ _ =>
  h σ F H S _ fun c vs ys F1 H1 g1 c0 c1 c2 r1 p1 => by
    have g2 := g1.freeze S c0 c1 c2
    have S1 := S.go g2
    obtain ⟨fs, h1, h2, h3, h4, h5⟩ := S1.obj hi
    have hlen : fs.length = ns.length := by rw [← h4, List.length_map]
    refine ⟨_, h1, a, C, dx, fs, rfl, h3, cl, na, by omega, ?_⟩
    rw [putF_new (by rw [h4]; exact hn)]
    refine n _ _ _ _ (S1.fld (oneOb_of one) hi h1 h2 h3 (by rw [List.map_append, h4]; rfl) (by rw [List.map_append]; exact h5.app (.cons (.lst upd_same (r1.mono (same_upd c1))) .nil)) fun k hk => ?_) g2.s1 p1
    by_cases q : k < bs.length
    · rw [List.getElem?_append_left q] at hk
      obtain ⟨n', b, us, z1, z2⟩ := (S1.obw i a C dx ns xs bs hi).2.2 fs h3 k hk
      exact ⟨n', b, us, by rw [List.getElem?_append_left (by omega)]; exact z1, z2⟩
    · rw [List.getElem?_append_right (by omega)] at hk
      have hk0 : k = bs.length := by
        have := (List.getElem?_eq_some_iff.mp hk).1
        simp at this; omega
      refine ⟨f, c, vs, ?_, S.new0 c0, upd_same⟩
      rw [List.getElem?_append_right (by omega), show k - fs.length = 0 by omega]; rfl
end
/-- the promise of an __init__ -/
def spI (K : PySem.W.Frag) (C : Addr) (Pre : List Dt → Prop) (ns : List Str) (bs : List Bool) (Post : List Dt → List Dt → Prop) : Sp := fun vs H Q _ => ∃ x dx F ds, Same F H ∧ F x = none ∧ H x = some (.ins C dx []) ∧ RpAll K F vs (.ali x :: ds) ∧ Pre ds ∧
  ∀ fs xs F' H', Same F F' → (∀ c, H c ≠ none → F c = none → F' c = none) → Same F' H' → (∀ c o, c ≠ x → H c = some o → H' c = some o) → H' x = some (.ins C dx fs) → fs.map (·.1) = ns → RpAll K F' (fs.map (·.2)) xs →
    (∀ k : Nat, bs[k]? = some true → ∃ n b, fs[k]? = some (n, .ref b) ∧ b ≠ x ∧ H b = none) → Post ds xs → Q .non H'
section
variable {P : Program} {w : World} {K : PySem.W.Frag} {mg : Str → Option Value} {base : Heap} {x qual : Str} {pa : Arguments} {bd : List Stmt} {sc : Scope} {dvs : List V} {kws : List (Str × V)} {f : Addr} {fd : FuncData} {N ps : List Str} {k : Nat} {C : Addr} {Pre : List Dt → Prop} {ns : List Str} {bs : List Bool} {Post : List Dt → List Dt → Prop}
theorem fn_init (G : FunD K x qual pa bd sc dvs kws f fd) (S : FnScope N ps sc) (hl : ∀ ds, Pre ds → ds.length + 1 = ps.length)
    (hb : ∀ (cdv : Value) (A : Around) (outer : List Env) (s : Shared) (H : Hp) (E : XK), Room k (A.deeper (PyProof.Rows.envOfC qual sc s.heap.objs.size f cdv)) →
      ∃ t, PSs (cxOf CX0 P w K mg base N qual sc f cdv A outer s H E).nox bd t ∧ ∀ F0 H0 a dx ds, Pre ds → Sm ⟨K, F0, H0, none, []⟩ t (.ob a C dx [] [] [] :: (ds.map Sl.d ++ List.replicate (N.length - (ds.length + 1)) Sl.no)) { nx := fun es' => ∃ xs, es'[0]? = some (.ob a C dx ns xs bs) ∧ Post ds xs, bk := fun _ => False, ct := fun _ => False, rt := fun _ _ => False }) :
    FnOk P w K mg base CX0 (k + 1) f fd ps (spI K C Pre ns bs Post) := by
  refine G.ok S (fun vs H Q E h => ?_) (fun cdv A outer s H vs Q E hr h => ?_)
  · obtain ⟨x, dx, F, ds, _, _, _, r, hp, _⟩ := h
    rw [r.length, List.length_cons]; exact hl ds hp
  · obtain ⟨x, dx, F, ds, hs, hF, hx, r, hp, q⟩ := h
    obtain ⟨t, hd, hm⟩ := hb cdv A outer s H E hr
    cases r with
    | @cons v0 ws _ _ r0 r =>
      cases r0
      let H0 : Hp := fun c => if c = x then none else H c
      have e0 : H0 x = none := if_pos rfl
      have e1 : ∀ c, c ≠ x → H0 c = H c := fun c hc => if_neg hc
      have S0 := start_stt (K := K) (F := F) (H := H) (vs := .non :: ws) (ds := .non :: ds) (N := N) (bag := none) hs (.cons .non r) (fun _ z => nomatch z) (T := []) (fun _ z => nomatch z) (fun _ z => nomatch z)
      have noO : ∀ (j : Nat) c zs, (Sl.d .non :: (ds.map Sl.d ++ List.replicate (N.length - (ds.length + 1)) Sl.no))[j]? = some (.own c zs) → False := fun j c zs hj => by
        have hm := List.mem_of_getElem? hj
        rcases List.mem_cons.mp hm with h | h
        · cases h
        · rcases List.mem_append.mp h with h | h
          · obtain ⟨d, _, e⟩ := List.mem_map.mp h; cases e
          · cases List.eq_of_mem_replicate h
      have noB : ∀ (j : Nat) a C dx ns xs bs, (Sl.d .non :: (ds.map Sl.d ++ List.replicate (N.length - (ds.length + 1)) Sl.no))[j]? = some (.ob a C dx ns xs bs) → False := fun j a C dx ns xs bs hj => by
        have hm := List.mem_of_getElem? hj
        rcases List.mem_cons.mp hm with h | h
        · cases h
        · rcases List.mem_append.mp h with h | h
          · obtain ⟨d, _, e⟩ := List.mem_map.mp h; cases e
          · cases List.eq_of_mem_replicate h
      have S2 : Stt ⟨K, F, H0, none, []⟩ (.ob x C dx [] [] [] :: (ds.map Sl.d ++ List.replicate (N.length - (ds.length + 1)) Sl.no)) (L2.start N (.ref x :: ws)) F H := by
        refine ⟨S0.sub, S0.s0, fun c h1 h2 => h2, fun c o h1 _ => ?_, (fun _ z => nomatch z), (fun _ z => nomatch z), (fun _ z => nomatch z), S0.len, fun i e o h1 h2 => ?_, fun i c zs h1 => ?_, fun i j c e zs ys hij h1 h2 => ?_, fun i c C' dx' ns' xs' bs' h1 => ?_⟩
        · have h1 : H0 c = some o := h1
          by_cases hc : c = x
          · rw [hc, e0] at h1; cases h1
          · rw [e1 c hc] at h1; exact h1
        · cases i with
          | zero =>
            cases h1
            cases h2
            exact ⟨[], rfl, hF, hx, rfl, .nil⟩
          | succ i => exact S0.ok (i + 1) e o h1 h2
        · cases i with
          | zero => cases h1
          | succ i => exact (noO (i + 1) c zs h1).elim
        · cases i with
          | zero => cases h1
          | succ i => exact (noO (i + 1) c zs h1).elim
        · cases i with
          | zero =>
            cases h1
            exact ⟨e0, off_nil, fun fs _ k hk => by simp at hk⟩
          | succ i => exact (noB (i + 1) _ _ _ _ _ _ h1).elim
      refine ⟨t, hd.nox, hm F H0 x dx ds hp _ F H _ S2 (fun es' σ' F' H' S' s' ⟨xs, hy, hP⟩ => ?_) (fun _ _ _ _ _ _ z => z.elim) (fun _ _ _ _ _ _ z => z.elim) (fun _ _ _ _ _ _ _ _ _ z => z.elim) (fun _ _ _ _ _ _ _ _ _ _ _ _ _ _ z => z.elim)⟩
      obtain ⟨fs, k1, k2, k3, k4, k5⟩ := S'.obj hy
      refine q fs xs F' H' s' (fun c h1 h2 => ?_) S'.sub (fun c o hc ho => S'.fr c o (by show H0 c = some o; rw [e1 c hc]; exact ho) off_nil) k3 k4 k5 (fun k hk => ?_) hP
      · by_cases hc : c = x
        · rw [hc]; exact k2
        · exact S'.ou c (by show H0 c ≠ none; rw [e1 c hc]; exact h1) h2
      · obtain ⟨n, b, us, z1, z2, z3⟩ := (S'.obw 0 x C dx ns xs bs hy).2.2 fs k3 k hk
        have hbx : b ≠ x := fun e => by rw [e, k2] at z3; cases z3
        exact ⟨n, b, z1, hbx, by have z2 : H0 b = none := z2; rw [e1 b hbx] at z2; exact z2⟩
end
end Y
/-! Y25: an instance is made; f-strings; rules with the written part named. -/
namespace Y
open PySem L2
section
variable {X : Cx} {K : PySem.W.Frag} {o e value : Expr} {f : Str} {pos pos' : Pos} {ta tv : TE}
theorem pe_fldA (he : PE X e ta) (hb : attributeBase e f X.env (eval e X.env) = eval e X.env) (hK : X.K = K := by rfl) : PE X (.Attribute e f pos) (tFld K ta f) := hK ▸ pe_fld he hb
theorem ps_fldA (ha : PE X o ta) (hv : PE X value tv) (hs : swapsWith value (some (.Attribute o f pos')) pos.line X.env = pure false) (hK : X.K = K := by rfl) : PS X (.Assign [.Attribute o f pos'] value pos) (sFld K ta tv f) := hK ▸ ps_fld ha hv hs
end
/-! ### data without lists: they stay where a list is forgotten -/
mutual
def flatT : Dt → Bool
  | .non => true | .bl _ => true | .int _ => true | .str _ => true
  | .tup xs => flatTs xs
  | .lst _ => false
  | .obj _ _ _ => false
  | .dct _ _ => false
  | .ali _ => false
def flatTs : List Dt → Bool
  | [] => true
  | x :: xs => flatT x && flatTs xs
end
def del (F : Hp) (a : Addr) : Hp := fun c => if c = a then none else F c
theorem del_at (F : Hp) (a : Addr) : del F a a = none := if_pos rfl
theorem del_ne {F : Hp} {a c : Addr} (h : c ≠ a) : del F a c = F c := if_neg h
mutual
theorem Rp.del {K : PySem.W.Frag} {F : Hp} {a : Addr} {ws : List V} (h : F a = some (.lst ws)) : ∀ {v : V} {d : Dt}, Rp K F v d → flatT d = true → Rp K (Y.del F a) v d
  | _, _, .non, _ => .non
  | _, _, .bl b, _ => .bl b
  | _, _, .int i, _ => .int i
  | _, _, .str x, _ => .str x
  | _, _, .lst _ _, e => by unfold flatT at e; cases e
  | _, _, .tup (a := c) h1 r, e => by
    unfold flatT at e
    refine .tup ?_ (RpAll.del h r e)
    rcases h1 with (h1 | ⟨o, h1⟩) | h1
    · exact .inl (.inl (by rw [del_ne (fun q => by rw [q, h] at h1; cases h1)]; exact h1))
    · exact .inl (.inr ⟨o, by rw [del_ne (fun q => by rw [q, h] at h1; cases h1)]; exact h1⟩)
    · exact .inr h1
  | _, _, .obj _ _ _ _, e => by unfold flatT at e; cases e
  | _, _, .dct _ _ _ _, e => by unfold flatT at e; cases e
  | _, _, .ali _, e => by unfold flatT at e; cases e
theorem RpAll.del {K : PySem.W.Frag} {F : Hp} {a : Addr} {ws : List V} (h : F a = some (.lst ws)) : ∀ {vs : List V} {ds : List Dt}, RpAll K F vs ds → flatTs ds = true → RpAll K (Y.del F a) vs ds
  | _, _, .nil, _ => .nil
  | _, _, .cons r t, e => by
    unfold flatTs at e
    rw [Bool.and_eq_true] at e
    exact .cons (Rp.del h r e.1) (RpAll.del h t e.2)
end
/-- each field is without lists, or a new list of such things -/
def okF1 : Bool → Dt → Bool
  | true, .lst ys => flatTs ys
  | true, _ => false
  | false, x => flatT x
def okF : List Bool → List Dt → Bool
  | b :: bs, x :: xs => okF1 b x && okF bs xs
  | [], [] => true
  | _, _ => false
theorem okF_del {K : PySem.W.Frag} {F H : Hp} {a : Addr} {ws : List V} (h : F a = some (.lst ws)) (ha : H a ≠ none) : ∀ {bs : List Bool} {fs : List (Str × V)} {xs : List Dt}, RpAll K F (fs.map (·.2)) xs → (∀ k : Nat, bs[k]? = some true → ∃ n b, fs[k]? = some (n, .ref b) ∧ H b = none) → okF bs xs = true → RpAll K (del F a) (fs.map (·.2)) xs
  | [], [], _, r, _, _ => by cases r; exact .nil
  | [], _ :: _, _, r, _, e => by
    cases r
    cases e
  | _ :: _, [], _, r, _, e => by
    cases r
    cases e
  | b :: bs, (n, v) :: fs, _, r, hk, e => by
    cases r with
    | @cons _ _ x xs r1 r2 =>
      have e : (okF1 b x && okF bs xs) = true := e
      rw [Bool.and_eq_true] at e
      refine .cons ?_ (okF_del h ha r2 (fun k q => hk (k + 1) q) e.2)
      cases b with
      | false => exact Rp.del h r1 e.1
      | true =>
        obtain ⟨n', c, z1, z2⟩ := hk 0 rfl
        cases z1
        have hca : c ≠ a := fun q => ha (by rw [← q]; exact z2)
        cases r1 with
        | lst k1 k2 => exact .lst (by rw [del_ne hca]; exact k1) (RpAll.del h k2 e.1)
        | _ => cases e.1
section
variable {B : Bs} {es : List Sl} {C : Addr} {Pre : List Dt → Prop} {ns : List Str} {bs : List Bool} {Post : List Dt → List Dt → Prop} {E : XK}
theorem made_go {σ : St} {F H F' H' : Hp} {x dx : Addr} {fs : List (Str × V)} (S : Stt B es σ F H) (hx : H x = none) (hdx : H dx = none) (hne : dx ≠ x) (s1 : Same F F') (s2 : ∀ c, (upd (upd H dx (.own x)) x (.ins C dx [])) c ≠ none → F c = none → F' c = none) (s3 : Same F' H')
    (s4 : ∀ c o, c ≠ x → (upd (upd H dx (.own x)) x (.ins C dx [])) c = some o → H' c = some o) (h1 : H' x = some (.ins C dx fs)) : F' x = none ∧ Go B F H (upd F' x (.ins C dx fs)) H' := by
  have hFx : F x = none := same_none S.sub hx
  have hF' : F' x = none := s2 x (by rw [upd_same]; simp) hFx
  refine ⟨hF', S.pure (s1.trans (same_upd hF')) (fun c o e => ?_) (fun c hc hf => ?_) fun c o e => ?_⟩
  · by_cases q : c = x
    · rw [q, upd_same] at e; rw [q, h1, e]
    · rw [upd_ne q] at e; exact s3 c o e
  · have q : c ≠ x := fun q => hc (by rw [q]; exact hx)
    have q2 : c ≠ dx := fun q => hc (by rw [q]; exact hdx)
    rw [upd_ne q]
    exact s2 c (by rw [upd_ne q, upd_ne q2]; exact hc) hf
  · have q : c ≠ x := ne_of_none e hx
    have q2 : c ≠ dx := ne_of_none e hdx
    exact s4 c o q (by rw [upd_ne q, upd_ne q2]; exact e)
theorem same_made {F H : Hp} {x dx : Addr} {u : HO} (s : Same F H) (hx : H x = none) (hdx : H dx = none) : Same F (upd (upd H dx (.own x)) x u) := fun c o e => by
  have e' := s c o e
  rw [upd_ne (ne_of_none e' hx), upd_ne (ne_of_none e' hdx)]
  exact e'
/-- C(e, .., k = v, ..) -/
theorem ev_makeK {n m : Nat} {gV : List V → List V → List V} {gD : List Dt → List Dt → List Dt} {ta tk : TA} {P : Dt → Prop}
    (hg : ∀ F vs ds zs as, RpAll B.K F vs ds → RpAll B.K F zs as → RpAll B.K F (gV vs zs) (gD ds as))
    (h : EvA B ta es fun ds => EvA B tk es fun as => ds.length = n ∧ as.length = m ∧ ∃ ds', (∀ x, gD (.ali x :: ds) as = .ali x :: ds') ∧ Pre ds' ∧ ∀ xs, Post ds' xs → P (.obj C ns xs)) : Ev B (tMakeK C n m (spI B.K C Pre ns bs Post) gV E ta tk) es P := fun σ F H S Q q =>
  h σ F H S _ fun vs ds F1 H1 g1 r1 p0 => p0 σ F1 H1 (S.go g1) _ fun zs as F2 H2 g2 r2 ⟨l1, l2, ds', e, p1, p2⟩ => by
    have g := g1.trans g2
    have S2 := S.go g
    refine ⟨by rw [r1.length]; exact l1, by rw [r2.length]; exact l2, fun x dx hx hdx hne => ?_⟩
    refine ⟨x, dx, F2, ds', same_made g2.s2 hx hdx, same_none S2.sub hx, upd_same, ?_, p1, fun fs xs F3 H3 s1 s2 s3 s4 h1 h2 r3 _ p3 => ⟨rfl, ?_⟩⟩
    · rw [← e x]
      exact hg F2 _ _ _ _ (.cons (.ali x) (r1.mono g2.s1)) r2
    · obtain ⟨hF, gg⟩ := made_go S2 hx hdx hne s1 s2 s3 s4 h1
      exact q _ _ _ H3 (g.trans gg) (.obj upd_same h2 rfl (r3.mono (same_upd hF))) (p2 xs p3)
/-- C(e, ..), defaults behind -/
theorem ev_make {dvs : List V} {dds : List Dt} {ta : TA} {P : Dt → Prop} (hd : ∀ F, RpAll B.K F dvs dds)
    (h : EvA B ta es fun ds => Pre (ds ++ dds) ∧ ∀ xs, Post (ds ++ dds) xs → P (.obj C ns xs)) : Ev B (tMake C (spI B.K C Pre ns bs Post) dvs E ta) es P := fun σ F H S Q q =>
  h σ F H S _ fun vs ds F2 H2 g r1 ⟨p1, p2⟩ => by
    have S2 := S.go g
    intro x dx hx hdx hne
    refine ⟨x, dx, F2, ds ++ dds, same_made g.s2 hx hdx, same_none S2.sub hx, upd_same, .cons (.ali x) (r1.app (hd F2)), p1, fun fs xs F3 H3 s1 s2 s3 s4 h1 h2 r3 _ p3 => ⟨rfl, ?_⟩⟩
    obtain ⟨hF, gg⟩ := made_go S2 hx hdx hne s1 s2 s3 s4 h1
    exact q _ _ _ H3 (g.trans gg) (.obj upd_same h2 rfl (r3.mono (same_upd hF))) (p2 xs p3)
/-- C(e, .., k = v, ..) where an argument is a list of one's own, which the instance does not keep -/
theorem ev_makeKSee {i : Nat} {a : Addr} {ys : List Dt} {n m : Nat} {gV : List V → List V → List V} {gD : List Dt → List Dt → List Dt} {ta tk : TA} {P : Dt → Prop} (hi : es[i]? = some (.own a ys))
    (hg : ∀ F vs ds zs as, RpAll B.K F vs ds → RpAll B.K F zs as → RpAll B.K F (gV vs zs) (gD ds as))
    (h : EvA B ta es fun ds => EvA B tk es fun as => ds.length = n ∧ as.length = m ∧ ∃ ds', (∀ x, gD (.ali x :: ds) as = .ali x :: ds') ∧ Pre (seeAll a ys ds') ∧ ∀ xs, Post (seeAll a ys ds') xs → okF bs xs = true ∧ P (.obj C ns xs)) : Ev B (tMakeK C n m (spI B.K C Pre ns bs Post) gV E ta tk) es P := fun σ F H S Q q =>
  h σ F H S _ fun vs ds F1 H1 g1 r1 p0 => p0 σ F1 H1 (S.go g1) _ fun zs as F2 H2 g2 r2 ⟨l1, l2, ds', e, p1, p2⟩ => by
    have g := g1.trans g2
    have S2 := S.go g
    refine ⟨by rw [r1.length]; exact l1, by rw [r2.length]; exact l2, fun x dx hx hdx hne => ?_⟩
    obtain ⟨ws, w1, w2, w3, w4⟩ := S2.own hi
    have hxa : x ≠ a := fun z => by rw [z, w3] at hx; cases hx
    have hda : dx ≠ a := fun z => by rw [z, w3] at hdx; cases hdx
    have sF : Same F2 (upd F2 a (.lst ws)) := same_upd w2
    have sH : Same (upd F2 a (.lst ws)) H2 := fun c o z => by
      by_cases hc : c = a
      · rw [hc, upd_same] at z; rw [hc, w3, z]
      · rw [upd_ne hc] at z; exact S2.sub c o z
    have hFx : F2 x = none := same_none S2.sub hx
    have rr := RpAll.see sF (.lst upd_same (w4.mono sF)) (hg F2 _ _ _ _ (.cons (.ali x) (r1.mono g2.s1)) r2)
    rw [e x] at rr
    have es1 : seeAll a ys (.ali x :: ds') = .ali x :: seeAll a ys ds' := by
      show (Dt.ali x).see a ys :: seeAll a ys ds' = _
      unfold Dt.see
      rw [if_neg hxa]
    rw [es1] at rr
    refine ⟨x, dx, upd F2 a (.lst ws), seeAll a ys ds', same_made sH hx hdx, by rw [upd_ne hxa]; exact hFx, upd_same, rr, p1, fun fs xs F3 H3 s1 s2 s3 s4 h1 h2 r3 hk p3 => ⟨rfl, ?_⟩⟩
    obtain ⟨hok, hp⟩ := p2 xs p3
    have hF3a : F3 a = some (.lst ws) := s1 _ _ upd_same
    have s1' : Same F2 (del F3 a) := fun c o z => by
      rw [del_ne (ne_of_none z w2)]
      exact s1 c o (sF c o z)
    have s2' : ∀ c, (upd (upd H2 dx (.own x)) x (.ins C dx [])) c ≠ none → F2 c = none → del F3 a c = none := fun c z1 z2 => by
      by_cases hc : c = a
      · rw [hc, del_at]
      · rw [del_ne hc]
        exact s2 c z1 (by rw [upd_ne hc]; exact z2)
    have s3' : Same (del F3 a) H3 := fun c o z => by
      by_cases hc : c = a
      · rw [hc, del_at] at z; cases z
      · rw [del_ne hc] at z; exact s3 c o z
    obtain ⟨hF, gg⟩ := made_go S2 hx hdx hne s1' s2' s3' s4 h1
    have r4 := okF_del (H := upd (upd H2 dx (.own x)) x (.ins C dx [])) hF3a (by rw [upd_ne (Ne.symm hxa), upd_ne (Ne.symm hda), w3]; simp) r3 (fun k z => by obtain ⟨n', b, z1, z2, z3⟩ := hk k z; exact ⟨n', b, z1, z3⟩) hok
    exact q _ _ _ H3 (g.trans gg) (.obj upd_same h2 rfl (r4.mono (same_upd hF))) hp
/-! ### f-strings -/
def EvJ (B : Bs) (ts : List TE) (es : List Sl) (acc : Str) (P : Str → Prop) : Prop := ∀ σ F H, Stt B es σ F H → ∀ Q : Str → Hp → Prop, (∀ out F' H', Go B F H F' H' → P out → Q out H') → tJs ts acc σ H Q
theorem ej_nil {acc : Str} {P : Str → Prop} (h : P acc) : EvJ B [] es acc P := fun σ F H S Q q => q acc F H S.refl h
theorem ej_cons {t : TE} {ts : List TE} {acc : Str} {P : Str → Prop} (h : Ev B t es fun d => ∃ y : Str, d = .str y ∧ (acc ++ y).length ≤ 100000 ∧ EvJ B ts es (acc ++ y) P) : EvJ B (t :: ts) es acc P := fun σ F H S Q q =>
  h σ F H S _ fun v d F1 H1 g1 r1 ⟨y, e, hl, p1⟩ => by
    subst e
    cases r1
    exact ⟨y, rfl, size_of hl, p1 σ F1 H1 (S.go g1) Q fun out F2 H2 g2 p2 => q out F2 H2 (g1.trans g2) p2⟩
theorem ev_joined {ts : List TE} {P : Dt → Prop} (h : EvJ B ts es Str.empty fun z => P (.str z)) : Ev B (fun σ H Q => tJs ts Str.empty σ H fun out H1 => Q (.str out) H1) es P := fun σ F H S Q q =>
  h σ F H S _ fun out F1 H1 g1 p1 => q _ _ F1 H1 g1 (.str _) p1
theorem ev_fmt {te : TE} {P : Dt → Prop} (h : Ev B te es fun d => itemB d = true ∧ (itemTx d).length ≤ 100000 ∧ P (.str (itemTx d))) : Ev B (tFmt te) es P := fun σ F H S Q q =>
  h σ F H S _ fun v d F1 H1 g1 r1 ⟨hb, hl, p1⟩ => by
    cases r1 with
    | str z => exact .inl ⟨z, rfl, size_of hl, q _ _ F1 H1 g1 (.str _) p1⟩
    | int i =>
      have hb : (decide (0 ≤ i) && decide (i ≤ 999999)) = true := hb
      rw [Bool.and_eq_true] at hb
      have h1 := of_decide_eq_true hb.1
      have h2 := of_decide_eq_true hb.2
      exact .inr ⟨i, rfl, log_ok ⟨by omega, by omega⟩, q _ _ F1 H1 g1 (.str _) p1⟩
    | _ => cases hb
end
end Y
/-! Y26: == of data in general; the pieces. -/
namespace Y
open PySem L2
theorem EvI.imp {B : Bs} {es : List Sl} {wi : TI} {P P' : List Dt → Prop} (h : EvI B wi es P) (hp : ∀ d, P d → P' d) : EvI B wi es P' := fun σ F H S R q => h σ F H S R fun J xs F' H' g i p => q J xs F' H' g i (hp xs p)
theorem Tg.imp {B : Bs} {es : List Sl} {g : TG} {x : Dt} {P P' : List Sl → Prop} (h : Tg B g es x P) (hp : ∀ e, P e → P' e) : Tg B g es x P' := fun σ F H v S r Q q => h σ F H v S r Q fun e a F' H' S' s p => q e a F' H' S' s (hp e p)
mutual
def layD : Dt → Bool
  | .str z => PyData.strOk z
  | .lst xs => layAll xs
  | .tup xs => layAll xs
  | .non => true | .bl _ => true | .int _ => true
  | .obj _ _ _ => true | .dct _ _ => true | .ali _ => true
def layAll : List Dt → Bool
  | [] => true
  | x :: xs => layD x && layAll xs
end
mutual
theorem lay_py : ∀ (d : Dt), layD d = true → PyData.canLay0 d.py = true
  | .str z, h => by unfold layD at h; unfold Dt.py; unfold PyData.canLay0; exact h
  | .lst xs, h => by unfold layD at h; unfold Dt.py; unfold PyData.canLay0; exact lay_pys xs h
  | .tup xs, h => by unfold layD at h; unfold Dt.py; unfold PyData.canLay0; exact lay_pys xs h
  | .non, _ => by unfold Dt.py; unfold PyData.canLay0; rfl
  | .bl _, _ => by unfold Dt.py; unfold PyData.canLay0; rfl
  | .int _, _ => by unfold Dt.py; unfold PyData.canLay0; rfl
  | .obj _ _ _, _ => by unfold Dt.py; unfold PyData.canLay0; rfl
  | .dct _ _, _ => by unfold Dt.py; unfold PyData.canLay0; rfl
  | .ali _, _ => by unfold Dt.py; unfold PyData.canLay0; rfl
theorem lay_pys : ∀ (xs : List Dt), layAll xs = true → PyData.canLayAll0 (pyAll xs) = true
  | [], _ => by unfold pyAll; unfold PyData.canLayAll0; rfl
  | x :: xs, h => by
    unfold layAll at h
    rw [Bool.and_eq_true] at h
    unfold pyAll
    unfold PyData.canLayAll0
    rw [lay_py x h.1, lay_pys xs h.2]; rfl
end
mutual
theorem depth_py : ∀ (d : Dt), PyData.depth d.py = d.depth
  | .str z => by unfold Dt.py Dt.depth PyData.depth; rfl
  | .lst xs => by unfold Dt.py Dt.depth PyData.depth; rw [depth_pys xs]
  | .tup xs => by unfold Dt.py Dt.depth PyData.depth; rw [depth_pys xs]
  | .non => by unfold Dt.py Dt.depth PyData.depth; rfl
  | .bl _ => by unfold Dt.py Dt.depth PyData.depth; rfl
  | .int _ => by unfold Dt.py Dt.depth PyData.depth; rfl
  | .obj _ _ _ => by unfold Dt.py Dt.depth PyData.depth; rfl
  | .dct _ _ => by unfold Dt.py Dt.depth PyData.depth; rfl
  | .ali _ => by unfold Dt.py Dt.depth PyData.depth; rfl
theorem depth_pys : ∀ (xs : List Dt), PyData.depthAll (pyAll xs) = depthAll xs
  | [] => by unfold pyAll depthAll PyData.depthAll; rfl
  | x :: xs => by unfold pyAll depthAll PyData.depthAll; rw [depth_py x, depth_pys xs]
end
theorem okD_of {d : Dt} (h1 : d.pureD = true) (h2 : layD d = true) (h3 : d.depth ≤ 64) : okD d = true := by
  unfold okD SeqAt.shaped
  rw [h1, lay_py d h2, depth_py, decide_eq_true h3]; rfl
mutual
theorem eqv_refl : ∀ (d : Dt), d.pureD = true → PyData.eqv d.py d.py = true
  | .str z, _ => by unfold Dt.py PyData.eqv; simp
  | .lst xs, h => by
    unfold Dt.pureD at h
    rw [Bool.and_eq_true] at h
    unfold Dt.py PyData.eqv
    exact eqvs_refl xs h.2
  | .tup xs, h => by
    unfold Dt.pureD at h
    rw [Bool.and_eq_true] at h
    unfold Dt.py PyData.eqv
    exact eqvs_refl xs h.2
  | .non, _ => by unfold Dt.py PyData.eqv; rfl
  | .bl _, _ => by unfold Dt.py PyData.eqv; simp
  | .int _, _ => by unfold Dt.py PyData.eqv; simp
  | .obj _ _ _, h => by unfold Dt.pureD at h; cases h
  | .dct _ _, h => by unfold Dt.pureD at h; cases h
  | .ali _, h => by unfold Dt.pureD at h; cases h
theorem eqvs_refl : ∀ (xs : List Dt), pureAll xs = true → PyData.eqvAll (pyAll xs) (pyAll xs) = true
  | [], _ => by unfold pyAll PyData.eqvAll; rfl
  | x :: xs, h => by
    unfold pureAll at h
    rw [Bool.and_eq_true] at h
    unfold pyAll PyData.eqvAll
    rw [eqv_refl x h.1, eqvs_refl xs h.2]; rfl
end
theorem eqvAll_len : ∀ {xs ys : List PyData}, PyData.eqvAll xs ys = true → xs.length = ys.length
  | [], [], _ => rfl
  | [], _ :: _, h => by unfold PyData.eqvAll at h; cases h
  | _ :: _, [], h => by unfold PyData.eqvAll at h; cases h
  | x :: xs, y :: ys, h => by
    unfold PyData.eqvAll at h
    rw [Bool.and_eq_true] at h
    rw [List.length_cons, List.length_cons, eqvAll_len h.2]
theorem eqvAll_last : ∀ {xs ys : List PyData} {a b : PyData}, xs.length = ys.length → PyData.eqvAll (xs ++ [a]) (ys ++ [b]) = true → PyData.eqv a b = true
  | [], [], a, b, _, h => by
    have h : PyData.eqvAll [a] [b] = true := h
    unfold PyData.eqvAll at h
    rw [Bool.and_eq_true] at h
    exact h.1
  | [], _ :: _, _, _, h, _ => by simp at h
  | _ :: _, [], _, _, h, _ => by simp at h
  | x :: xs, y :: ys, a, b, hl, h => by
    have h : PyData.eqvAll (x :: (xs ++ [a])) (y :: (ys ++ [b])) = true := h
    unfold PyData.eqvAll at h
    rw [Bool.and_eq_true] at h
    exact eqvAll_last (by simpa using hl) h.2
theorem pyAll_app : ∀ (xs ys : List Dt), pyAll (xs ++ ys) = pyAll xs ++ pyAll ys
  | [], ys => by unfold pyAll; cases ys <;> rfl
  | x :: xs, ys => by
    rw [List.cons_append]
    rw [pyAll, pyAll_app xs ys]
    rw [show pyAll (x :: xs) = x.py :: pyAll xs by rw [pyAll]]; rfl
theorem pyAll_len : ∀ (xs : List Dt), (pyAll xs).length = xs.length
  | [] => by unfold pyAll; rfl
  | x :: xs => by unfold pyAll; rw [List.length_cons, List.length_cons, pyAll_len xs]
theorem pureAll_of : ∀ {xs : List Dt}, (∀ x ∈ xs, x.pureD = true) → pureAll xs = true
  | [], _ => by unfold pureAll; rfl
  | x :: xs, h => by
    unfold pureAll
    rw [h x (by simp), pureAll_of fun y hy => h y (by simp [hy])]; rfl
theorem layAll_of : ∀ {xs : List Dt}, (∀ x ∈ xs, layD x = true) → layAll xs = true
  | [], _ => by unfold layAll; rfl
  | x :: xs, h => by
    unfold layAll
    rw [h x (by simp), layAll_of fun y hy => h y (by simp [hy])]; rfl
theorem depthAll_of {n : Nat} : ∀ {xs : List Dt}, (∀ x ∈ xs, x.depth ≤ n) → depthAll xs ≤ n
  | [], _ => by unfold depthAll; omega
  | x :: xs, h => by
    unfold depthAll
    have h1 := h x (by simp)
    have h2 := depthAll_of (n := n) (xs := xs) fun y hy => h y (by simp [hy])
    omega
theorem flatTs_of : ∀ {xs : List Dt}, (∀ x ∈ xs, flatT x = true) → flatTs xs = true
  | [], _ => by unfold flatTs; rfl
  | x :: xs, h => by
    unfold flatTs
    rw [h x (by simp), flatTs_of fun y hy => h y (by simp [hy])]; rfl
/-- a row is data without lists, its texts can be laid -/
theorem row_flat {d : Dt} (h : (codeRow d || dataRow d) = true) : flatT d = true ∧ layD d = true := by
  obtain ⟨xs, rfl, _, _, hx⟩ := row_ok h
  constructor
  · unfold flatT
    refine flatTs_of fun x q => ?_
    rcases hx x q with ⟨z, rfl, _⟩ | ⟨i, rfl, _⟩ <;> (unfold flatT; rfl)
  · unfold layD
    refine layAll_of fun x q => ?_
    rcases hx x q with ⟨z, rfl, _, _, h3, _⟩ | ⟨i, rfl, _⟩
    · unfold layD; exact h3
    · unfold layD; rfl
/-- a row that closes a piece of code -/
def closeD (d : Dt) : Prop := ∃ (z : Str) (r : List Dt), d = .tup (.str z :: r) ∧ inD (.str z) [.str "jump", .str "halt", .str "back"] = true
def rowFor (side : Str) (d : Dt) : Bool := if side = "code" then codeRow d else dataRow d
theorem rowFor_row {side : Str} {d : Dt} (h : rowFor side d = true) : (codeRow d || dataRow d) = true := by
  unfold rowFor at h
  split at h
  · rw [h]; rfl
  · rw [h, Bool.or_true]
structure rowsOk (side : Str) (rows : List Dt) : Prop where
  len : rows.length ≤ 16
  each : ∀ r ∈ rows, rowFor side r = true
  last : side = "code" → ∃ l d, rows = l ++ [d] ∧ closeD d
/-- a piece as the law tells it -/
structure Mdl where
  t : Str
  side : Str
  rows : List Dt
  al : Int
  sc : Str
  kp : Bool
def Mdl.dt (m : Mdl) : Dt := .tup [.str m.t, .str m.side, .lst m.rows, .int m.al, .str m.sc, .bl m.kp]
abbrev pieceNs : List Str := ["name", "part", "alignment", "scope", "keep", "own_rows"]
abbrev pieceBs : List Bool := [false, false, false, false, false, true]
def Mdl.fs (m : Mdl) : List Dt := [.str m.t, .str m.side, .int m.al, .str m.sc, .bl m.kp, .lst m.rows]
def Mdl.obj (C : Addr) (m : Mdl) : Dt := .obj C pieceNs m.fs
def Mdl.key (m : Mdl) : Dt := .tup [.str m.t, .str m.side, .int m.al, .str m.sc, .bl m.kp, .tup m.rows]
def alsL : List Int := [1, 2, 4, 8, 16]
def scopesL : List Str := ["local", "export", "open", "weak"]
structure Mdl.ok (m : Mdl) : Prop where
  nm : isNameD (.str m.t) = true
  sd : m.side = "code" ∨ m.side = "data"
  rw : rowsOk m.side m.rows
  al : m.al ∈ alsL
  sc : m.sc ∈ scopesL
  op : m.side = "data" → m.sc ≠ "open"
theorem scope_ok {z : Str} (h : z ∈ scopesL) : PyData.strOk z = true := by
  have key : ∀ z ∈ scopesL, PyData.strOk z = true := by decide +kernel
  exact key z h
theorem side_ok {z : Str} (h : z = "code" ∨ z = "data") : PyData.strOk z = true := by
  rcases h with rfl | rfl <;> decide +kernel
theorem Mdl.ok.tok {m : Mdl} (h : m.ok) : m.t.cps.size ≤ 6 ∧ PyData.strOk m.t = true := by
  obtain ⟨z, e, h1, h2⟩ := name_str h.nm
  cases e
  exact ⟨h1, h2⟩
theorem Mdl.ok.rows1 {m : Mdl} (h : m.ok) : pureAll m.rows = true ∧ layAll m.rows = true ∧ depthAll m.rows ≤ 1 ∧ flatTs m.rows = true := by
  refine ⟨pureAll_of fun r q => ?_, layAll_of fun r q => ?_, depthAll_of fun r q => ?_, flatTs_of fun r q => ?_⟩
  · exact (row_text_ok (rowFor_row (h.rw.each r q))).2.2.1
  · exact (row_flat (rowFor_row (h.rw.each r q))).2
  · rw [(row_text_ok (rowFor_row (h.rw.each r q))).2.2.2.1]; omega
  · exact (row_flat (rowFor_row (h.rw.each r q))).1
theorem Mdl.ok.key_ok {m : Mdl} (h : m.ok) : okD m.key = true ∧ m.key.pureD = true := by
  obtain ⟨h1, h2, h3, _⟩ := h.rows1
  have hl := h.rw.len
  have hp : m.key.pureD = true := by
    simp only [Mdl.key, Dt.pureD, pureAll, h1, List.length_cons, List.length_nil, Bool.and_true, Bool.true_and, decide_eq_true_eq]
    simp; omega
  refine ⟨okD_of hp ?_ ?_, hp⟩
  · simp only [Mdl.key, layD, layAll, h2, h.tok.2, side_ok h.sd, scope_ok h.sc, Bool.and_true, Bool.true_and]
  · simp only [Mdl.key, Dt.depth, depthAll]; omega
theorem Mdl.ok.dt_pure {m : Mdl} (h : m.ok) : m.dt.pureD = true ∧ m.dt.depth ≤ 3 := by
  obtain ⟨h1, h2, h3, _⟩ := h.rows1
  have hl := h.rw.len
  refine ⟨?_, ?_⟩
  · simp only [Mdl.dt, Dt.pureD, pureAll, h1, List.length_cons, List.length_nil, Bool.and_true, Bool.true_and, decide_eq_true_eq]
    simp; omega
  · simp only [Mdl.dt, Dt.depth, depthAll]; omega
theorem Mdl.ok.fs_flat {m : Mdl} (h : m.ok) : okF pieceBs m.fs = true := by
  obtain ⟨_, _, _, h4⟩ := h.rows1
  simp only [Mdl.fs, okF, okF1, flatT, h4, Bool.and_true, Bool.true_and]
theorem key_eqv (m n : Mdl) : PyData.eqv m.key.py n.key.py = ((m.t == n.t) && ((m.side == n.side) && ((m.al == n.al) && ((m.sc == n.sc) && ((m.kp == n.kp) && PyData.eqvAll (pyAll m.rows) (pyAll n.rows)))))) := by
  simp only [Mdl.key, Dt.py, pyAll, PyData.eqv, PyData.eqvAll, Bool.and_true]
/-- two pieces that are told apart -/
def unlike (m n : Mdl) : Prop := PyData.eqv m.key.py n.key.py = false ∧ PyData.eqv n.key.py m.key.py = false
theorem unlike_t {m n : Mdl} (h : m.t ≠ n.t) : unlike m n := by
  constructor <;> rw [key_eqv]
  · rw [beq_eq_false_iff_ne.mpr h]; rfl
  · rw [beq_eq_false_iff_ne.mpr (Ne.symm h)]; rfl
theorem unlike_al {m n : Mdl} (h : m.al ≠ n.al) : unlike m n := by
  constructor <;> rw [key_eqv]
  · rw [beq_eq_false_iff_ne.mpr h]; simp
  · rw [beq_eq_false_iff_ne.mpr (Ne.symm h)]; simp
theorem unlike_sc {m n : Mdl} (h : m.sc ≠ n.sc) : unlike m n := by
  constructor <;> rw [key_eqv]
  · rw [beq_eq_false_iff_ne.mpr h]; simp
  · rw [beq_eq_false_iff_ne.mpr (Ne.symm h)]; simp
theorem unlike_kp {m n : Mdl} (h : m.kp ≠ n.kp) : unlike m n := by
  constructor <;> rw [key_eqv]
  · rw [beq_eq_false_iff_ne.mpr h]; simp
  · rw [beq_eq_false_iff_ne.mpr (Ne.symm h)]; simp
theorem unlike_rows {m n : Mdl} (h1 : PyData.eqvAll (pyAll m.rows) (pyAll n.rows) = false) (h2 : PyData.eqvAll (pyAll n.rows) (pyAll m.rows) = false) : unlike m n := by
  constructor <;> rw [key_eqv]
  · rw [h1]; simp
  · rw [h2]; simp
theorem unlike_len {m n : Mdl} (h : m.rows.length ≠ n.rows.length) : unlike m n := by
  refine unlike_rows ?_ ?_
  · rw [Bool.eq_false_iff]; intro q
    have := eqvAll_len q
    rw [pyAll_len, pyAll_len] at this
    exact h this
  · rw [Bool.eq_false_iff]; intro q
    have := eqvAll_len q
    rw [pyAll_len, pyAll_len] at this
    exact h this.symm
theorem unlike_last {m n : Mdl} {l : List Dt} {a b : Dt} (h1 : m.rows = l ++ [a]) (h2 : n.rows = l ++ [b]) (h3 : PyData.eqv a.py b.py = false) (h4 : PyData.eqv b.py a.py = false) : unlike m n := by
  refine unlike_rows ?_ ?_
  · rw [Bool.eq_false_iff]; intro q
    rw [h1, h2, pyAll_app, pyAll_app] at q
    have := eqvAll_last (a := a.py) (b := b.py) rfl (by simpa [pyAll] using q)
    rw [h3] at this; cases this
  · rw [Bool.eq_false_iff]; intro q
    rw [h1, h2, pyAll_app, pyAll_app] at q
    have := eqvAll_last (a := b.py) (b := a.py) rfl (by simpa [pyAll] using q)
    rw [h4] at this; cases this
end Y
/-! Y27: a if c else b as a test. -/
namespace Y
open PySem PySem.Spec PyProof.Rows L2
def tIfT (t a b : TT) : TT := fun σ H Q => t σ H fun d H1 => if d = true then a σ H1 Q else b σ H1 Q
theorem pt_ifExp {X : Cx} {c a b : Expr} {pos : Pos} {tc ta tb : TT} (hc : PT X c tc) (ha : PT X a ta) (hb : PT X b tb) : PT X (.IfExp c a b pos) (tIfT tc ta tb) := by
  refine ⟨fun pins s σ H Q I h => ?_⟩
  refine PyProof.Rows.isTrue_IfExp (thn (hc.run pins s σ H _ I h) fun d s1 ⟨H1, I1, q1⟩ => ?_)
  cases d with
  | true => exact ha.run pins s1 σ H1 Q I1 q1
  | false => exact hb.run pins s1 σ H1 Q I1 q1
theorem et_if {B : Bs} {es : List Sl} {t ta tb : TT} {P : Bool → Prop} (h : EvT B t es fun b => (b = true → EvT B ta es P) ∧ (b = false → EvT B tb es P)) : EvT B (tIfT t ta tb) es P := fun σ F H S Q q => h σ F H S _ fun b F1 H1 g1 p1 => by
  cases b with
  | true =>
    show ta σ H1 Q
    exact p1.1 rfl σ F1 H1 (S.go g1) Q fun w F2 H2 g2 p2 => q w F2 H2 (g1.trans g2) p2
  | false =>
    show tb σ H1 Q
    exact p1.2 rfl σ F1 H1 (S.go g1) Q fun w F2 H2 g2 p2 => q w F2 H2 (g1.trans g2) p2
end Y
/-! Y29: a lambda as an expression, with no parameter or one that has the default 0. -/
namespace PySem.W
open PySem PySem.Spec PySem.Calls PyProof.Rows
section
variable {M : Model} {A : Around} {E : Value → Shared → Prop} {s : Shared} {qual : Str} {params : Arguments} {body : Expr} {scope : Scope} {env : Env} {c P : Addr} {ps : Array Value} {pos : Pos} {firstLine : Nat} {mg : Str → Option Value}
  {clos : List (Str × Addr)} {Q : Value → Shared → Prop} {dV : Value}
abbrev lx_fd (qual : Str) (params : Arguments) (body : Expr) (scope : Scope) (cl : List (Str × Addr)) (dV pm cdv ct : Value) : FuncData :=
  { name := "<lambda>", qualname := qual, params, body := .expr body, scope, globals := mainGlobals, closure := cl, defaults := dV, kwdefaults := .none, doc := .none, pyModule := pm, annotations := none, code := cdv, closureTuple := ct, builtins := builtinsNs }
theorem lx_tail (hcl : closureFor scope env = pure clos) (hge0 : env.globals = mainGlobals) (hg : s.heap.Ns mainGlobals mg) (hcode : env.code = .ref c) (C : CodeHd s.heap c P) (hP : s.heap.get? P = some (tabObj ps)) (ht : TriplesOk ps.toList)
    (hnf : codeAmong pos ps.toList = none) (hgP : mainGlobals ≠ P) (hb : s.heap.BuiltinsAt mg P)
    (h : ∀ c' ctv h' tk, Heap.ExtBut P s.heap h' → s.heap.objs.size ≤ c' → c' < h'.objs.size → h'.CodeRec (.ref c') qual → h'.get? P = some (tabObj (ps ++ #[rawInt pos.line, rawInt pos.col, .ref c'])) →
      Q (.ref h'.objs.size) { s with heap := h'.push { cls := .type "function", data := .func (lx_fd qual params body scope clos dV ((mg "__name__").getD .none) (.ref c') ctv) }, toks := tk }) :
    wpAny M A (makeTail "<lambda>" qual params (.expr body) scope env dV .none none pos firstLine) Q E s := by
  obtain ⟨bm, ob, hbm, hne0, _, hneP, hbo, hcls, hdict, hdata⟩ := hb
  unfold makeTail
  rw [hcl, hge0]
  refine wpAny_bind (wpAny_pure ?_)
  cases clos with
  | nil =>
    simp only [List.isEmpty_nil, if_true]
    refine wpAny_bind (wpAny_pure ?_)
    refine wpAny_bind (wpAny_functionCodeX hcode (C.code hP ht) (C.tab hP) hnf fun c' h' tk hx hge hlt _ hrec htb _ => ?_)
    have hg' := hg.extBut hx hgP
    refine wpAny_bind (wpAny_builtinsFor hg' hbm hne0 (hx _ _ hneP hbo) hcls hdict hdata ?_)
    refine wpAny_bind (wpAny_nsGet hg' ?_)
    exact wpAny_bind (wpAny_pure (wpAny_newObj_type (h c' .none h' tk hx hge hlt hrec htb.2) (by size_fits)))
  | cons q r =>
    simp only [List.isEmpty_cons, Bool.false_eq_true, if_false]
    refine wpAny_bind (wpAny_newTextTuple ?_)
    refine wpAny_bind (wpAny_functionCodeX hcode ((C.keeps fun b o e => Heap.get?_push_of_some _ e).code (Heap.get?_push_of_some _ hP) ht) ((C.keeps fun b o e => Heap.get?_push_of_some _ e).tab (Heap.get?_push_of_some _ hP)) hnf fun c' h' tk hx hge hlt _ hrec htb _ => ?_)
    have hg' := (hg.push _).extBut hx hgP
    have hx' : Heap.ExtBut P s.heap h' := fun b o hb' e => hx b o hb' (Heap.get?_push_of_some _ e)
    have hge' : s.heap.objs.size ≤ c' := Nat.le_trans (by rw [Heap.size_push]; omega) hge
    refine wpAny_bind (wpAny_builtinsFor hg' hbm hne0 (hx' _ _ hneP hbo) hcls hdict hdata ?_)
    refine wpAny_bind (wpAny_nsGet hg' ?_)
    exact wpAny_bind (wpAny_pure (wpAny_newObj_type (h c' _ h' tk hx' hge' hlt hrec htb.2) (by size_fits)))
theorem lx_tailHit {cv : Value} (hcl : closureFor scope env = pure clos) (hge0 : env.globals = mainGlobals) (hg : s.heap.Ns mainGlobals mg) (hcode : env.code = .ref c) (C : CodeHd s.heap c P) (hP : s.heap.get? P = some (tabObj ps)) (ht : TriplesOk ps.toList)
    (hf : codeAmong pos ps.toList = some cv) (hb : s.heap.BuiltinsAt mg P)
    (h : ∀ (ctv : Value) (h' : Heap) (tk : Tok), (∀ b o, s.heap.get? b = some o → h'.get? b = some o) → s.heap.objs.size ≤ h'.objs.size →
      Q (.ref h'.objs.size) { s with heap := h'.push { cls := .type "function", data := .func (lx_fd qual params body scope clos dV ((mg "__name__").getD .none) cv ctv) }, toks := tk }) :
    wpAny M A (makeTail "<lambda>" qual params (.expr body) scope env dV .none none pos firstLine) Q E s := by
  obtain ⟨bm, ob, hbm, hne0, _, hneP, hbo, hcls, hdict, hdata⟩ := hb
  unfold makeTail
  rw [hcl, hge0]
  refine wpAny_bind (wpAny_pure ?_)
  cases clos with
  | nil =>
    simp only [List.isEmpty_nil, if_true]
    refine wpAny_bind (wpAny_pure ?_)
    refine wpAny_bind (wpAny_functionCode_hit hcode (C.code hP ht) hf ?_)
    refine wpAny_bind (wpAny_builtinsFor hg hbm hne0 hbo hcls hdict hdata ?_)
    refine wpAny_bind (wpAny_nsGet hg ?_)
    exact wpAny_bind (wpAny_pure (wpAny_newObj_type (h .none s.heap s.toks (fun _ _ e => e) (Nat.le_refl _)) (by size_fits)))
  | cons q r =>
    simp only [List.isEmpty_cons, Bool.false_eq_true, if_false]
    refine wpAny_bind (wpAny_newTextTuple ?_)
    refine wpAny_bind (wpAny_functionCode_hit hcode ((C.keeps fun b o e => Heap.get?_push_of_some _ e).code (Heap.get?_push_of_some _ hP) ht) hf ?_)
    refine wpAny_bind (wpAny_builtinsFor (hg.push _) hbm hne0 (Heap.get?_push_of_some _ hbo) hcls hdict hdata ?_)
    refine wpAny_bind (wpAny_nsGet (hg.push _) ?_)
    have hsz : ∀ oT : Obj, s.heap.objs.size ≤ (s.heap.push oT).objs.size := fun oT => by rw [Heap.size_push]; omega
    exact wpAny_bind (wpAny_pure (wpAny_newObj_type (h _ _ s.toks (fun b o e => Heap.get?_push_of_some _ e) (hsz _)) (by size_fits)))
end
end PySem.W

namespace Y
open PySem PySem.Spec PyProof.Rows L2 LamX
section
variable {X : Cx} {pins : List (Addr × Obj)} {σ : L2.St} {H : Hp} {s : Shared}
theorem inv_fnL {L : LF} {o : Obj} {t' : Nat} {pm ctv : Value} (I : Inv X pins σ H s) (ho : o = { cls := .type "function", data := .func (L.fd pm ctv) }) :
    Inv X pins σ (upd H s.heap.objs.size (FnL s.heap.objs.size L)) { s with heap := s.heap.push o, toks := t' } := by
  subst ho
  refine I.laid (a := s.heap.objs.size) (fun b u e => Heap.get?_push_of_some _ e) (Nat.le_refl _) ?_
  have e : (s.heap.push ({ cls := .type "function", data := .func (L.fd pm ctv) } : Obj)).get? s.heap.objs.size = some ({ cls := .type "function", data := .func (L.fd pm ctv) } : Obj) := Heap.get?_push_size _ rfl
  exact ⟨⟨_, _, pm, ctv, e⟩, ⟨_, e⟩, fun h1 h2 ⟨od, sl, p, t, z⟩ st => ⟨od, sl, p, t, st _ z⟩⟩
/-- the lambda's object is made: its code object is new, or found in the table -/
theorem lx_make {T : List (Addr × Str)} {c P : Addr} {params : Arguments} {body : Expr} {scope : Scope} {pos : Pos} {E : Value → Shared → Prop} {Q : Value → Shared → Prop} {dv : Option Addr} (hdv : ∀ t, dv = some t → H t = some (.tup [.int 0])) (I : Inv X pins σ H s) (TB : TabB X.base X.mg c P) (hcode : X.env.code = .ref c)
    (hm : (P, X.env.qual ++ "<lambda>") ∈ T) (hu : ∀ p ∈ T, p.1 = P → p.2 = X.env.qual ++ "<lambda>") (hT : Tabs T H) (hfree : ∀ y ∈ scope.names, y.2 = .free → ∃ c, X.env.cells.lookup y.1 = some c)
    (h : ∀ (f c' : Addr) (H1 : Hp) (s' : Shared), Inv X pins σ H1 s' → (∀ b o, b ≠ P → H b = some o → H1 b = some o) → (∀ b, H1 b = none → H b = none) → Tabs T H1 → H f = none →
      FnAtH H1 f ⟨X.env.qual ++ "<lambda>", params, body, scope, cloFrom X.env.cells scope.names [], c', dv⟩ → Q (.ref f) s') :
    wpAny (model X.prog X.w) X.A (makeTail "<lambda>" (X.env.qual ++ "<lambda>") params (.expr body) scope X.env (match dv with | none => .none | some t => .ref t) .none none pos pos.line) Q E s := by
  obtain ⟨ps, hP, ht, ha⟩ := hT _ hm
  have bP : s.heap.BuiltinsAt X.mg P := TB.bm.keeps I.bk
  have hP' : s.heap.get? P = some { cls := .none, data := .fields ps } := I.hok P _ hP
  have nt : ∀ t, dv = some t → t ≠ P := fun t e z => by
    have := hdv t e
    rw [z, hP] at this
    cases this
  cases hc : codeAmong pos ps.toList with
  | none =>
    refine PySem.W.lx_tail (mg := X.mg) (c := c) (P := P) (ps := ps) (closure_ok hfree) I.ok.glob (I.mod.glob.keeps I.bk) hcode (TB.code.keeps I.bk) hP' ht hc TB.gP bP fun c' ctv h' tk hx hge hlt hrec htb => ?_
    obtain ⟨c2, oc, vs, t, e2, hoc, hd, hv⟩ := hrec
    cases e2
    have nC : H c' = none := I.hok.fresh hge
    have I1 := inv_table (t' := tk) (more := #[rawInt pos.line, rawInt pos.col, .ref c']) (h' := h') I hP (fun b o hb e => hx b o hb e) htb hge ⟨oc, vs, t, hoc, hd, hv⟩
    have hE : ∀ b o, b ≠ P → H b = some o → upd (upd H P (.tbl (ps ++ #[rawInt pos.line, rawInt pos.col, .ref c']))) c' (CodeO c' (X.env.qual ++ "<lambda>")) b = some o := fun b o n e => by
      rw [upd_ne (ne_of_none e nC), upd_ne n]
      exact e
    have eL : (ps ++ #[rawInt pos.line, rawInt pos.col, .ref c']).toList = ps.toList ++ [rawInt pos.line, rawInt pos.col, .ref c'] := by simp
    have nT : ∀ {b o}, H b = some o → (∀ ps, o ≠ .tbl ps) → b ≠ P := fun {b o} e n z => n ps (Option.some.inj (e.symm.trans (by rw [z]; exact hP)))
    have T1 : Tabs T (upd (upd H P (.tbl (ps ++ #[rawInt pos.line, rawInt pos.col, .ref c']))) c' (CodeO c' (X.env.qual ++ "<lambda>"))) := fun p hp => by
      by_cases hb : p.1 = P
      · rw [hu p hp hb, hb]
        refine ⟨_, by rw [upd_ne (ne_of_none hP nC), upd_same], by rw [eL]; exact PySem.TriplesOk_snoc _ _ _ _ ht, fun p' cv hcv => ?_⟩
        rw [eL] at hcv
        rcases among_app _ ht hcv with z | z
        · obtain ⟨c0, e1, e2⟩ := ha p' cv z
          exact ⟨c0, e1, hE _ _ (nT e2 codeO_ne) e2⟩
        · exact ⟨c', z, upd_same⟩
      · obtain ⟨ps', a1, a2, a3⟩ := hT p hp
        refine ⟨ps', by rw [upd_ne (ne_of_none a1 nC), upd_ne hb]; exact a1, a2, fun p' cv hcv => ?_⟩
        obtain ⟨c0, e1, e2⟩ := a3 p' cv hcv
        exact ⟨c0, e1, hE _ _ (nT e2 codeO_ne) e2⟩
    have nF := I1.hok.fresh (Nat.le_refl _)
    have I2 := inv_fnL (L := ⟨X.env.qual ++ "<lambda>", params, body, scope, cloFrom X.env.cells scope.names [], c', dv⟩) (t' := tk) (pm := (X.mg "__name__").getD .none) (ctv := ctv) I1 rfl
    have kk : ∀ b o, upd (upd H P (.tbl (ps ++ #[rawInt pos.line, rawInt pos.col, .ref c']))) c' (CodeO c' (X.env.qual ++ "<lambda>")) b = some o → upd (upd (upd H P (.tbl (ps ++ #[rawInt pos.line, rawInt pos.col, .ref c']))) c' (CodeO c' (X.env.qual ++ "<lambda>"))) h'.objs.size (FnL h'.objs.size ⟨X.env.qual ++ "<lambda>", params, body, scope, cloFrom X.env.cells scope.names [], c', dv⟩) b = some o := fun b o e => (upd_ne (ne_of_none e nF)).trans e
    cases dv with
    | none => exact h h'.objs.size c' _ _ I2 (fun b o n e => kk b o (hE b o n e)) (fun b e => NdefX.upd_none (NdefX.upd_none (NdefX.upd_none e))) (T1.ext kk) (I.hok.fresh (Nat.le_trans hge (Nat.le_of_lt hlt))) ⟨upd_same, kk _ _ upd_same, fun t e => nomatch e⟩
    | some t0 => exact h h'.objs.size c' _ _ I2 (fun b o n e => kk b o (hE b o n e)) (fun b e => NdefX.upd_none (NdefX.upd_none (NdefX.upd_none e))) (T1.ext kk) (I.hok.fresh (Nat.le_trans hge (Nat.le_of_lt hlt))) ⟨upd_same, kk _ _ upd_same, fun t e => kk _ _ (hE _ _ (nt t e) (hdv t e))⟩
  | some cv =>
    obtain ⟨c', e, hco⟩ := ha pos cv hc
    subst e
    refine PySem.W.lx_tailHit (mg := X.mg) (c := c) (P := P) (ps := ps) (closure_ok hfree) I.ok.glob (I.mod.glob.keeps I.bk) hcode (TB.code.keeps I.bk) hP' ht hc bP fun ctv h' tk hx hsz => ?_
    have I1 : Inv X pins σ H { s with heap := h', toks := tk } := I.kept hx
    have nF : H h'.objs.size = none := I1.hok.fresh (Nat.le_refl _)
    have I2 := inv_fnL (L := ⟨X.env.qual ++ "<lambda>", params, body, scope, cloFrom X.env.cells scope.names [], c', dv⟩) (t' := tk) (pm := (X.mg "__name__").getD .none) (ctv := ctv) I1 rfl
    have kk : ∀ b o, H b = some o → upd H h'.objs.size (FnL h'.objs.size ⟨X.env.qual ++ "<lambda>", params, body, scope, cloFrom X.env.cells scope.names [], c', dv⟩) b = some o := fun b o e => (upd_ne (ne_of_none e nF)).trans e
    cases dv with
    | none => exact h h'.objs.size c' _ _ I2 (fun b o n e => kk b o e) (fun b e => NdefX.upd_none e) (hT.ext kk) nF ⟨upd_same, kk _ _ hco, fun t e => nomatch e⟩
    | some t0 => exact h h'.objs.size c' _ _ I2 (fun b o n e => kk b o e) (fun b e => NdefX.upd_none e) (hT.ext kk) nF ⟨upd_same, kk _ _ hco, fun t e => kk _ _ (hdv t e)⟩
end
/-- the readings of a lambda: without parameters, with one that has the default 0 -/
def tLam0 (P : Addr) (T : List (Addr × Str)) (mk : Addr → Option Addr → LF) : TE := fun σ H Q => Tabs T H ∧ ∀ f c' H1, (∀ b o, b ≠ P → H b = some o → H1 b = some o) → (∀ b, H1 b = none → H b = none) → Tabs T H1 → H f = none → FnAtH H1 f (mk c' none) → Q (.ref f) H1
def tLam1 (P : Addr) (T : List (Addr × Str)) (mk : Addr → Option Addr → LF) : TE := fun σ H Q => Tabs T H ∧ ∀ f c' t H1, (∀ b o, b ≠ P → H b = some o → H1 b = some o) → (∀ b, H1 b = none → H b = none) → Tabs T H1 → H f = none → FnAtH H1 f (mk c' (some t)) → Q (.ref f) H1
def mkLF (X : Cx) (params : Arguments) (body : Expr) (scope : Scope) (c' : Addr) (dv : Option Addr) : LF := ⟨X.env.qual ++ "<lambda>", params, body, scope, cloFrom X.env.cells scope.names [], c', dv⟩
section
variable {X : Cx} {T : List (Addr × Str)} {c P : Addr} {params : Arguments} {body : Expr} {scope : Scope} {pos : Pos}
theorem pe_lam0 (TB : TabB X.base X.mg c P) (hcode : X.env.code = .ref c) (hm : (P, X.env.qual ++ "<lambda>") ∈ T) (hu : ∀ p ∈ T, p.1 = P → p.2 = X.env.qual ++ "<lambda>") (hfree : ∀ y ∈ scope.names, y.2 = .free → X.env.scope.names.lookup y.1 = some .cell)
    (hdef : defaultsOf params X.env = ([], []) := by rfl) : PE X (.Lambda params body scope pos) (tLam0 P T (mkLF X params body scope)) := by
  refine ⟨fun pins s σ H Q I h => ?_⟩
  obtain ⟨hT, h⟩ := h
  refine PySem.W.kla_eval hdef ?_
  rw [makeFunction_eq]
  simp only [List.zip_nil_right, List.filterMap_nil, List.isEmpty_nil, if_true, pure_bind]
  exact lx_make (dv := none) (fun t e => nomatch e) I TB hcode hm hu hT (fun y hy e => I.ok.has _ (.inl (hfree y hy e))) fun f c' H1 s' I1 e n T1 f0 f1 => ⟨.ref f, H1, I1, rfl, h f c' H1 e n T1 f0 f1⟩
theorem pe_lam1 {j : Nat} {p0 : Pos} (TB : TabB X.base X.mg c P) (hcode : X.env.code = .ref c) (hm : (P, X.env.qual ++ "<lambda>") ∈ T) (hu : ∀ p ∈ T, p.1 = P → p.2 = X.env.qual ++ "<lambda>") (hfree : ∀ y ∈ scope.names, y.2 = .free → X.env.scope.names.lookup y.1 = some .cell)
    (hdef : defaultsOf params X.env = ([eval (.Constant (.int 0) j p0) X.env], []) := by rfl) : PE X (.Lambda params body scope pos) (tLam1 P T (mkLF X params body scope)) := by
  refine ⟨fun pins s σ H Q I h => ?_⟩
  obtain ⟨hT, h⟩ := h
  rw [arm_eval_Lambda, hdef]
  show wpAny _ _ (do let dv ← evalAll [eval (.Constant (.int 0) j p0) X.env]; let kdv ← holding dv (evalAllOpt []); makeFunction "<lambda>" (X.env.qual ++ "<lambda>") params (.expr body) scope X.env dv kdv [] pos pos.line) _ _ s
  refine wpAny_bind (wpAny_evalAll_cons (thn ((pe_int (X := X) (i := 0) (j := j) (pos := p0)).run pins s σ H (fun v H1 => v = .int 0 ∧ H1 = H) I ⟨rfl, rfl⟩) fun u s1 ⟨v, H1, I1, r1, q1⟩ => ?_))
  obtain ⟨ev, eH⟩ := q1
  subst ev
  rw [eH] at I1
  refine wpAny_evalAll_nil (wpAny_bind (wpAny_holding (wpAny_pure ?_)))
  rw [makeFunction_eq]
  simp only [List.zip_nil_right, List.filterMap_nil, List.isEmpty_nil, if_true, pure_bind, List.isEmpty_cons, Bool.false_eq_true, if_false]
  refine wpAny_bind (wpAny_newTextTuple ?_)
  have hf : H s1.heap.objs.size = none := I1.hok.fresh (Nat.le_refl _)
  have I2 : Inv X pins σ (upd H s1.heap.objs.size (.tup [.int 0])) { s1 with heap := s1.heap.push { cls := .type "tuple", data := .seq [u].toArray } } :=
    I1.laid (t' := s1.toks) (fun b w e => Heap.get?_push_of_some _ e) (Nat.le_refl _) ⟨by show 1 ≤ sizeLine; decide, [u], .cons r1 .nil, ⟨_, Heap.get?_push_size _ rfl, rfl, _, rfl⟩⟩
  have k1 : ∀ b o, H b = some o → upd H s1.heap.objs.size (.tup [.int 0]) b = some o := fun b o e => (upd_ne (ne_of_none e hf)).trans e
  exact lx_make (dv := some s1.heap.objs.size) (fun t e => by cases e; exact upd_same) I2 TB hcode hm hu (hT.ext k1) (fun y hy e => I.ok.has _ (.inl (hfree y hy e))) fun f c' H2 s' I3 e n T1 f0 f1 =>
    ⟨.ref f, H2, I3, rfl, h f c' _ H2 (fun b o hb z => e b o hb (k1 b o z)) (fun b z => NdefX.upd_none (n b z)) T1 (NdefX.upd_none f0) f1⟩
end

/-! ### over data -/
/-- a list of lambdas, known as a list -/
def EvL (B : Bs) (te : TE) (es : List Sl) (P : List (Addr × LF) → Prop) : Prop := ∀ σ F H, Stt B es σ F H → ∀ Q : VK,
  (∀ a ls F' H', Go B F H F' H' → F' a = some (.lst (ls.map fun p => .ref p.1)) → (∀ p ∈ ls, FnAtH H' p.1 p.2) → P ls → Q (.ref a) H') → te σ H Q
def EvLs (B : Bs) (ta : TA) (es : List Sl) (P : List (Addr × LF) → Prop) : Prop := ∀ σ F H, Stt B es σ F H → ∀ Q : List V → Hp → Prop,
  (∀ ls F' H', Go B F H F' H' → (∀ p ∈ ls, FnAtH H' p.1 p.2) → P ls → Q (ls.map fun p => .ref p.1) H') → ta σ H Q
section
variable {B : Bs} {es : List Sl} {σ : L2.St} {F H : Hp}
theorem Stt.lam {H1 : Hp} {P : Addr} (S : Stt B es σ F H) (hP : ∃ q, (P, q) ∈ B.T) (k : ∀ b o, b ≠ P → H b = some o → H1 b = some o) (t : Tabs B.T H1) : Go B F H F H1 := by
  obtain ⟨q, hq⟩ := hP
  have nP : ∀ c, B.off c → c ≠ P := fun c h z => h.2 _ hq z.symm
  have fP : F P = none := S.tn _ hq
  have bP : ∀ b, B.bag = some b → b ≠ P := fun b hb z => by
    obtain ⟨_, vs, _, k2, _⟩ := S.bg b hb
    obtain ⟨ps, k3, _⟩ := S.tb _ hq
    rw [z] at k2
    rw [show H P = _ from k3] at k2
    cases k2
  refine ⟨Same.refl F, fun c o e => k c o (fun z => by rw [z, fP] at e; cases e) (S.sub c o e), fun c _ h => h, fun c o h e => k c o (nP c h) e, fun b hb => ?_, t⟩
  obtain ⟨h1, vs, xs, h2, h3, h4⟩ := S.bg b hb
  exact ⟨h1, vs, xs, k b _ (bP b hb) h2, h3, h4⟩
theorem FnAtH.later {H1 : Hp} {f : Addr} {L : LF} (S : Stt B es σ F H) (g : ∀ c o, B.off c → H c = some o → H1 c = some o) (q : FnAtH H f L) : FnAtH H1 f L :=
  q.kept fun c o e h1 h2 => g c o (S.offX e (fun _ z => by rw [z] at h1; exact h1) h2) e
theorem el_nil {P : List (Addr × LF) → Prop} (hp : P []) : EvLs B tNil es P := fun σ F H S Q q => q [] F H S.refl (fun _ z => nomatch z) hp
theorem el_cons0 {P0 : Addr} {mk : Addr → Option Addr → LF} {tr : TA} {P : List (Addr × LF) → Prop} (hP : ∃ q, (P0, q) ∈ B.T) (h : ∀ f c', EvLs B tr es fun ls => P ((f, mk c' none) :: ls)) : EvLs B (tCons (tLam0 P0 B.T mk) tr) es P := fun σ F H S Q q =>
  ⟨S.tb, fun f c' H1 k n t f0 f1 => by
    have g1 := S.lam hP k t
    have S1 := S.go g1
    exact h f c' σ F H1 S1 _ fun ls F2 H2 g2 a p => q _ F2 H2 (g1.trans g2) (fun p hp => by
      rcases List.mem_cons.mp hp with e | hp
      · rw [e]; exact f1.later S1 g2.kp
      · exact a p hp) p⟩
theorem el_cons1 {P0 : Addr} {mk : Addr → Option Addr → LF} {tr : TA} {P : List (Addr × LF) → Prop} (hP : ∃ q, (P0, q) ∈ B.T) (h : ∀ f c' t, EvLs B tr es fun ls => P ((f, mk c' (some t)) :: ls)) : EvLs B (tCons (tLam1 P0 B.T mk) tr) es P := fun σ F H S Q q =>
  ⟨S.tb, fun f c' t' H1 k n t f0 f1 => by
    have g1 := S.lam hP k t
    have S1 := S.go g1
    exact h f c' t' σ F H1 S1 _ fun ls F2 H2 g2 a p => q _ F2 H2 (g1.trans g2) (fun p hp => by
      rcases List.mem_cons.mp hp with e | hp
      · rw [e]; exact f1.later S1 g2.kp
      · exact a p hp) p⟩
theorem el_lst {ta : TA} {P : List (Addr × LF) → Prop} (h : EvLs B ta es fun ls => ls.length ≤ 100000 ∧ P ls) : EvL B (tLst ta) es P := fun σ F H S Q q =>
  h σ F H S _ fun ls F1 H1 g1 a p1 => ⟨size_of (by rw [List.length_map]; exact p1.1), fun p hp => by
    have S1 := S.go g1
    have g2 := S1.alloc (o := .lst (ls.map fun p => .ref p.1)) hp
    exact q p ls _ _ (g1.trans g2) upd_same (fun x hx => (a x hx).later S1 g2.kp) p1.2⟩
theorem sm_setL {p : Po} {te : TE} {i : Nat} (h : EvL B te es fun ls => ∀ a, p.nx (es.set i (.fs a ls))) : Sm B (tAsg te (gName i)) es p := fun σ F H D S n _ _ _ _ => h σ F H S _ fun a ls F1 H1 g1 h1 h2 p1 => by
  have S1 := S.go g1
  exact n _ _ F1 H1 (S1.set (i := i) (e := .fs a ls) (o := some (.ref a)) ⟨rfl, h1, h2⟩ fun _ _ e => nomatch e) g1.s1 (p1 a)
end
end Y
/-! Y30: cells that are known while a callee runs; a lambda's call. -/
namespace Y
open PySem PySem.Spec PyProof.Rows L2 LamX
/-- the object at c is o, a cell -/
def CellX (c : Addr) (o : Obj) : HO := .ext fun h => h.get? c = some o
def untrk (H : Hp) (C : List Addr) : Hp := fun b => if C.contains b then none else H b
def trk (H : Hp) (C : List Addr) (os : Addr → Obj) : Hp := fun b => if C.contains b then some (CellX b (os b)) else H b
theorem untrk_in {H : Hp} {C : List Addr} {b : Addr} (h : b ∈ C) : untrk H C b = none := if_pos (by simpa using h)
theorem untrk_out {H : Hp} {C : List Addr} {b : Addr} (h : b ∉ C) : untrk H C b = H b := if_neg (by simpa using h)
theorem trk_in {H : Hp} {C : List Addr} {os : Addr → Obj} {b : Addr} (h : b ∈ C) : trk H C os b = some (CellX b (os b)) := if_pos (by simpa using h)
theorem trk_out {H : Hp} {C : List Addr} {os : Addr → Obj} {b : Addr} (h : b ∉ C) : trk H C os b = H b := if_neg (by simpa using h)
theorem cellX_ok {P : Program} {w : World} {H : Hp} {h : Heap} {c : Addr} {o : Obj} (e : h.get? c = some o) : ObjOk P w H h c (CellX c o) := ⟨e, ⟨o, e⟩, fun _ _ z k => k o z⟩
theorem cellX_at {P : Program} {w : World} {H : Hp} {h : Heap} {c : Addr} {o : Obj} (hok : HOk P w H h) (e : H c = some (CellX c o)) : h.get? c = some o := by
  obtain ⟨z, _, _⟩ := hok c _ e
  exact z
section
variable {P : Program} {w : World} {H H' : Hp} {h h' : Heap} {C : List Addr} {os : Addr → Obj} {fs : List Addr}
theorem hok_untrk (x : HOk P w H h) (hC : ∀ c ∈ C, H c = some (CellX c (os c))) : HOk P w (untrk H C) h := fun b o e => by
  by_cases hb : b ∈ C
  · rw [untrk_in hb] at e; cases e
  · rw [untrk_out hb] at e
    refine (x b o e).stay (fun c v _ q => q) (fun c q => ?_) fun c xs q => ?_
    · rw [untrk_out (fun z => by rw [hC c z] at q; cases q)]; exact q
    · rw [untrk_out (fun z => by rw [hC c z] at q; cases q)]; exact q
theorem hok_trk (x : HOk P w H h) (hC : ∀ c ∈ C, h.get? c = some (os c)) (hn : ∀ c ∈ C, H c = none) : HOk P w (trk H C os) h := fun b o e => by
  by_cases hb : b ∈ C
  · rw [trk_in hb] at e; cases e
    exact cellX_ok (hC b hb)
  · rw [trk_out hb] at e
    refine (x b o e).stay (fun c v _ q => q) (fun c q => ?_) fun c xs q => ?_
    · rw [trk_out (fun z => by rw [hn c z] at q; cases q)]; exact q
    · rw [trk_out (fun z => by rw [hn c z] at q; cases q)]; exact q
/-- back in the caller: the cells are known again -/
theorem un_retrk (u : Un fs [] (untrk H C) H' h h') (hC : ∀ c ∈ C, H c = some (CellX c (os c))) (hg : ∀ c ∈ C, h.get? c = some (os c)) (hf : ∀ b ∈ fs, H b = none) : (∀ c ∈ C, h'.get? c = some (os c)) ∧ (∀ c ∈ C, H' c = none) ∧ Un fs [] H (trk H' C os) h h' := by
  have nC : ∀ {b}, H b = none → b ∉ C := fun {b} n z => by rw [hC b z] at n; cases n
  have nc : ∀ c ∈ C, H' c = none := fun c hc => u.free c _ (hg c hc) (untrk_in hc) (by simp)
  refine ⟨fun c hc => u.keep c _ (hg c hc) (untrk_in hc) (fun z => by have := hC c hc; rw [hf c z] at this; cases this) (by simp), nc, fun b o e n hb hx => u.keep b o e (by rw [untrk_out (nC n)]; exact n) hb hx, fun b o e n hb hx => u.slot b o e (by rw [untrk_out (nC n)]; exact n) hb hx,
    fun b o e n hx => by rw [trk_out (nC n)]; exact u.free b o e (by rw [untrk_out (nC n)]; exact n) hx, u.there, fun b xs e => ?_, fun b o v e => ?_, fun b ps e => ?_⟩
  · have hb : b ∉ C := fun z => by rw [hC b z] at e; cases e
    rw [trk_out hb]; exact u.tups b xs (by rw [untrk_out hb]; exact e)
  · have hb : b ∉ C := fun z => by rw [hC b z] at e; cases e
    rw [trk_out hb]; exact u.frzs b o v (by rw [untrk_out hb]; exact e)
  · have hb : b ∉ C := fun z => by rw [hC b z] at e; cases e
    rw [trk_out hb]; exact u.tbls b ps (by rw [untrk_out hb]; exact e)
theorem ub_retrk {B : Heap} (u : UB fs (untrk H C) H' h B h') (hC : ∀ c ∈ C, H c = some (CellX c (os c))) (hg : ∀ c ∈ C, h.get? c = some (os c)) (hf : ∀ b ∈ fs, H b = none) : (∀ c ∈ C, B.get? c = some (os c)) ∧ (∀ c ∈ C, H' c = none) ∧ UB fs H (trk H' C os) h B h' := by
  have nC : ∀ {b}, H b = none → b ∉ C := fun {b} n z => by rw [hC b z] at n; cases n
  have nc : ∀ c ∈ C, H' c = none := fun c hc => u.free c _ (hg c hc) (untrk_in hc)
  refine ⟨fun c hc => u.keep c _ (hg c hc) (untrk_in hc) (fun z => by have := hC c hc; rw [hf c z] at this; cases this), nc, fun b o e n hb => u.keep b o e (by rw [untrk_out (nC n)]; exact n) hb, u.slot,
    fun b o e n => by rw [trk_out (nC n)]; exact u.free b o e (by rw [untrk_out (nC n)]; exact n), u.there, fun b xs e => ?_, fun b o v e => ?_, fun b ps e => ?_⟩
  · have hb : b ∉ C := fun z => by rw [hC b z] at e; cases e
    rw [trk_out hb]; exact u.tups b xs (by rw [untrk_out hb]; exact e)
  · have hb : b ∉ C := fun z => by rw [hC b z] at e; cases e
    rw [trk_out hb]; exact u.frzs b o v (by rw [untrk_out hb]; exact e)
  · have hb : b ∉ C := fun z => by rw [hC b z] at e; cases e
    rw [trk_out hb]; exact u.tbls b ps (by rw [untrk_out hb]; exact e)
/-- out of a call during which the cells were known -/
theorem un_untrk (u : Un fs [] (trk H C os) H' h h') (hg : ∀ c ∈ C, h.get? c = some (os c)) (hn : ∀ c ∈ C, H c = none) (hg' : ∀ c ∈ C, h'.get? c = some (os c)) : Un fs [] H (untrk H' C) h h' := by
  refine ⟨fun b o e n hb hx => ?_, fun b o e n hb hx => ?_, fun b o e n hx => ?_, u.there, fun b xs e => ?_, fun b o v e => ?_, fun b ps e => ?_⟩
  · by_cases hc : b ∈ C
    · rw [hg b hc] at e; cases e; exact hg' b hc
    · exact u.keep b o e (by rw [trk_out hc]; exact n) hb hx
  · by_cases hc : b ∈ C
    · rw [hg b hc] at e; cases e; exact ⟨_, hg' b hc⟩
    · exact u.slot b o e (by rw [trk_out hc]; exact n) hb hx
  · by_cases hc : b ∈ C
    · exact untrk_in hc
    · rw [untrk_out hc]; exact u.free b o e (by rw [trk_out hc]; exact n) hx
  · have hb : b ∉ C := fun z => by rw [hn b z] at e; cases e
    rw [untrk_out hb]; exact u.tups b xs (by rw [trk_out hb]; exact e)
  · have hb : b ∉ C := fun z => by rw [hn b z] at e; cases e
    rw [untrk_out hb]; exact u.frzs b o v (by rw [trk_out hb]; exact e)
  · have hb : b ∉ C := fun z => by rw [hn b z] at e; cases e
    rw [untrk_out hb]; exact u.tbls b ps (by rw [trk_out hb]; exact e)
end

/-! ### the lambda's own frame -/
abbrev envL (L : LF) (f locals : Addr) : Env := PySem.W.envX L.qual L.scope locals f (.ref L.c) L.cl
def lamC (P : Program) (w : World) (K : PySem.W.Frag) (mg : Str → Option Value) (base : Heap) (N : List Str) (L : LF) (f : Addr) (A : Around) (outer : List Env) (s : Shared) (H : Hp) (E : XK) : Cx where
  prog := P
  w := w
  K := K
  mg := mg
  base := base
  A := A.deeper (envL L f s.heap.objs.size)
  N := N
  s_0 := s
  H_0 := H
  env := envL L f s.heap.objs.size
  outer := outer
  stack := envL L f s.heap.objs.size :: outer
  ex := []
  fn := fun _ => false
  calm := true
  pn := []
  xe := fun e s' => wpAny (model P w) (A.deeper (envL L f s.heap.objs.size)) (leaving (envL L f s.heap.objs.size) e) (fun _ s'' => L2.CX P w outer H s E e s'') (fun e' s'' => L2.CX P w outer H s E e' s'') s'
/-- the words of a lambda that may be called so -/
structure LamW (L : LF) : Prop where
  kind : L.scope.kind = .function
  co : L.scope.isCoroutine = false
  gen : L.scope.isGenerator = false
  cell : ∀ y ∈ L.scope.names, y.2 ≠ .cell
  b0 : L.dv = none → ∀ pm ctv, bindArgs (L.fd pm ctv) ⟨[], []⟩ = pure []
  b1 : ∀ t, L.dv = some t → ∃ x, L.scope.names.lookup x = some .local ∧ ∀ pm ctv v, ∃ k, bindArgs (L.fd pm ctv) ⟨[], []⟩ = seqItems? (.ref t) >>= k ∧ k (some #[v]) = pure [(x, v)]
  inj : ∀ x y c, L.cl.lookup x = some c → L.cl.lookup y = some c → x = y
  has : ∀ y ∈ L.scope.names, y.2 = .free → ∃ c, L.cl.lookup y.1 = some c
section
variable {P : Program} {w : World} {K : PySem.W.Frag} {mg : Str → Option Value} {base : Heap} {N : List Str} {L : LF} {f : Addr} {σ : L2.St} {os : Addr → Obj} {k : Nat} {tb : XK → TE}
theorem cl_mem {l : List (Str × Addr)} {y : Str} {c : Addr} (h : l.lookup y = some c) : c ∈ l.map (·.2) := List.mem_map.mpr ⟨(y, c), PySem.mem_of_lookup h, rfl⟩
theorem lam_run (W : LamW L) (hbody : ∀ (A : Around) (outer : List Env) (s : Shared) (H : Hp) (E : XK), Room k (A.deeper (envL L f s.heap.objs.size)) → PE (lamC P w K mg base N L f A outer s H E) L.body (tb E))
    {A : Around} {outer : List Env} {s : Shared} {H : Hp} {Q : VK} {E : XK} (hr : Room (k + 1) A) (e0 : Env0 P w K mg base A outer s H) (hf : FnAtH H f L)
    (hc : ∀ c ∈ L.cl.map (·.2), H c = some (CellX c (os c)) ∧ ∃ v, (os c).data = .cell v)
    (hN : ∀ (i : Nat) y v, N[i]? = some y → σ[i]? = some (some v) → Vis L.scope y → L.scope.names.lookup y = some .free ∧ ∃ c u, L.cl.lookup y = some c ∧ (os c).data = .cell (some u) ∧ RelV v u) (hl : σ.length = N.length)
    (ht : tb (fun cls d H' => (∀ c ∈ L.cl.map (·.2), H' c = none) → E cls d (trk H' (L.cl.map (·.2)) os)) σ (untrk H (L.cl.map (·.2))) (fun v H' => (∀ c ∈ L.cl.map (·.2), H' c = none) → Q v (trk H' (L.cl.map (·.2)) os))) :
    codeAny (model P w) A (.call (.ref f) ⟨[], []⟩) (CR (L2.CX P w) outer P w H s Q E) s := by
  have hC : ∀ c ∈ L.cl.map (·.2), H c = some (CellX c (os c)) := fun c h => (hc c h).1
  have hg : ∀ c ∈ L.cl.map (·.2), s.heap.get? c = some (os c) := fun c h => cellX_at e0.hok (hC c h)
  have nCn : ∀ {b}, H b = none → b ∉ L.cl.map (·.2) := fun {b} n z => by rw [hC b z] at n; cases n
  obtain ⟨⟨od, sl, pm, ctv, hfo⟩, _, _⟩ := e0.hok f _ hf.1
  obtain ⟨⟨oc, vs, tk, hoc, hdc, hvc⟩, _, _⟩ := e0.hok L.c _ hf.2.1
  have lim : s.heap.NoLimit := e0.mod.nolimit.keeps fun b o e => (e0.bs b o e).1
  have ok' : HOk P w (untrk H (L.cl.map (·.2))) s.heap := hok_untrk e0.hok hC
  -- behind the binding
  have go : ∀ binds : List (Str × Value), (∀ y ∈ binds, L.scope.names.lookup y.1 = some .local) → wpAny (model P w) A.in1 (newFunctionEnv L.scope mainGlobals L.cl binds (L.qual ++ ".<locals>.") (some f) (.ref L.c) none builtinsNs)
      (fun env s₂ => s₂.heap.NoLimit ∧ codeAny (model P w) A (.expr L.body env) (CR (L2.CX P w) outer P w H s Q E) s₂) (fun e s' => CR (L2.CX P w) outer P w H s Q E (.error e) s') s := by
    intro binds hbl
    refine wpAny_newFunctionEnv W.cell hbl (fun h₁ hns hsb => ⟨lim.fresh _ hsb, ?_⟩) W.kind
    show codeAny _ _ (.expr L.body (envL L f s.heap.objs.size)) _ _
    have kp : ∀ b o, s.heap.get? b = some o → h₁.get? b = some o := fun b o e => hsb.extBut b o (Nat.ne_of_lt (Heap.lt_size e)) (Heap.get?_push_of_some _ e)
    have noA : ∀ b : Addr, b ∉ (lamC P w K mg base N L f A outer s (untrk H (L.cl.map (·.2))) (fun cls d H' => (∀ c ∈ L.cl.map (·.2), H' c = none) → E cls d (trk H' (L.cl.map (·.2)) os))).ex := fun b z => absurd (show b ∈ ([] : List Addr) from z) (by simp)
    have J : Inv (lamC P w K mg base N L f A outer s (untrk H (L.cl.map (·.2))) (fun cls d H' => (∀ c ∈ L.cl.map (·.2), H' c = none) → E cls d (trk H' (L.cl.map (·.2)) os))) [] σ (untrk H (L.cl.map (·.2))) { s with heap := h₁, toks := s.toks + binds.length } := by
      refine ⟨⟨e0.mod, W.kind, rfl, rfl, Nat.le_refl _, W.inj, fun y hy => ?_, fun y c z _ => ?_, fun _ => hr.hd, Around.frames_deeper e0.frames, .inr ⟨rfl, rfl⟩, fun b z => absurd z (noA b), fun b o e => ⟨(e0.bs b o e).1, (untrk_out (nCn (e0.bs b o e).2)).trans (e0.bs b o e).2⟩, e0.bsz, fun b _ _ => noA b,
          fun b z => absurd z (noA b), e0.funs, fun b hb => (untrk_out (nCn (e0.frf b hb))).trans (e0.frf b hb)⟩,
        rfl, e0.bare, Un.kept kp, ⟨_, hns, fun i y v e1 e2 e3 => ?_⟩, fun y c e => ?_, ok'.fresh (Nat.le_refl _), fun y c e => untrk_in (cl_mem e), fun q hq => absurd (show q ∈ ([] : List (Addr × Obj)) ++ [] from hq) (by simp), ok'.kept kp, hl⟩
      · have hy : L.scope.names.lookup y = some .cell ∨ L.scope.names.lookup y = some .free := hy
        rcases hy with hy | hy
        · exact absurd rfl (W.cell _ (PySem.mem_of_lookup hy))
        · exact W.has _ (PySem.mem_of_lookup hy) rfl
      · have z : false = true := z
        cases z
      · obtain ⟨hfr, c, u, h1, h2, h3⟩ := hN i y v e1 e2 e3
        exact ⟨u, h3, .inr ⟨.inr hfr, c, h1, ⟨os c, kp _ _ (hg c (cl_mem h1)), h2⟩⟩⟩
      · obtain ⟨v, hv⟩ := (hc c (cl_mem e)).2
        exact ⟨v, os c, kp _ _ (hg c (cl_mem e)), hv⟩
    refine PySem.W.kla_codeExpr (wpAny_mono ((hbody A outer s (untrk H (L.cl.map (·.2))) (fun cls d H' => (∀ c ∈ L.cl.map (·.2), H' c = none) → E cls d (trk H' (L.cl.map (·.2)) os)) (hr.deeper _)).run [] _ _ _ _ J ht) (fun v s' hq => ?_) fun e s' hq => ?_)
    · obtain ⟨w', H', J', rv, q⟩ := hq
      obtain ⟨g1, g2, g3⟩ := un_retrk J'.base hC hg e0.frf
      exact ⟨w', _, J'.os, J'.bare, g3, hok_trk J'.hok g1 g2, rv, q g2⟩
    · refine wpAny_mono hq (fun _ s'' hx => ?_) fun e' s'' hx => ?_
      all_goals
        obtain ⟨a, B, H', cls, d, rfl, fl, hok', ub, na, os', ag, hE⟩ := hx
        obtain ⟨g1, g2, g3⟩ := ub_retrk ub hC hg e0.frf
        have naC : a ∉ L.cl.map (·.2) := fun z => by
          have h1 := g1 a z
          rw [fl.2.1] at h1; cases h1
        exact ⟨a, B, _, cls, d, rfl, fl, hok_trk hok' g1 g2, g3, by rw [trk_out naC]; exact na, os', ag, hE g2⟩
  refine PySem.W.kla_callFunE hr.depth hfo rfl W.co W.gen rfl ⟨L.c, oc, vs, tk, rfl, hoc, hdc, hvc⟩ ?_
  cases hd : L.dv with
  | none =>
    rw [W.b0 hd]
    exact wpAny_pure (go [] fun y hy => nomatch hy)
  | some t =>
    obtain ⟨x, hx, hb⟩ := W.b1 t hd
    obtain ⟨_, its, rv, ot, hot, hcls, n, hdt⟩ := e0.hok t _ (hf.2.2 t hd)
    cases rv with
    | @cons _ v _ rest r0 r1 =>
      cases r1
      obtain ⟨kk, e1, e2⟩ := hb pm ctv v
      rw [e1]
      refine wpAny_bind (wpAny_seqItems hot hdt ?_)
      rw [show ([v] : List Value).toArray = #[v] from rfl, e2]
      exact wpAny_pure (go [(x, v)] fun y hy => by
        rcases List.mem_cons.mp hy with e | hy
        · rw [e]; exact hx
        · cases hy)
end

/-! ### a call during which the frame's cells are known -/
/-- the cells' addresses -/
def cellsL (cells : List (Str × Addr)) (sc : Scope) : List Addr := sc.names.filterMap fun y => cells.lookup y.1
theorem cellsL_has {cells : List (Str × Addr)} {sc : Scope} {c : Addr} (h : c ∈ cellsL cells sc) : ∃ y, cells.lookup y = some c := by
  obtain ⟨y, _, h⟩ := List.mem_filterMap.mp h
  exact ⟨y.1, h⟩
def tCallTr (cells : List (Str × Addr)) (N : List Str) (sc : Scope) (sp : Sp) (t : TA) : TE := fun σ H Q => t σ H fun vs H1 => ∀ os : Addr → Obj, (∀ x y c, cells.lookup x = some c → cells.lookup y = some c → x = y) → (∀ y, sc.names.lookup y = some .cell → ∃ c, cells.lookup y = some c) → σ.length = N.length → (∀ c ∈ cellsL cells sc, H1 c = none ∧ ∃ v, (os c).data = .cell v) →
  (∀ (i : Nat) y c v, sc.names.lookup y = some .cell → cells.lookup y = some c → N[i]? = some y → σ[i]? = some (some v) → ∃ u, (os c).data = .cell (some u) ∧ RelV v u) →
  sp vs (trk H1 (cellsL cells sc) os) (fun v H' => (∀ c ∈ cellsL cells sc, H' c = some (CellX c (os c))) ∧ Q v (untrk H' (cellsL cells sc))) fun _ _ _ => False
section
variable {X : Cx} {k : Nat} {f : Addr} {fd : FuncData} {ps : List Str} {sp : Sp} {x : Str} {e : Expr} {es : List Expr} {t : TA} {p pos : Pos}
theorem pe_callTr (hcab : ∀ y, X.fn y = true) (F : FnOk X.prog X.w X.K X.mg X.base CX0 k f fd ps sp) (hr : Room k X.A) (hg : Gl X x) (hm : X.mg x = some (.ref f)) (hk : PySem.W.keepIn X.K (.ref f) = true) (hb : Binds X.K fd ps [])
    (ha : PA X (e :: es) t) (hdb : (x == ("__debug__" : Str)) = false := by decide) (he : starEach (e :: es) X.env = (false, eval e X.env) :: starEach es X.env := by rfl) (hpl : (backTo pos (starEach es X.env)).any (·.1) = false := by rfl) :
    PE X (.Call (.Name x p) (e :: es) [] pos) (tCallTr X.env.cells X.N X.env.scope sp t) := by
  refine ⟨fun pins s σ H Q I h => ?_⟩
  refine wpAny_Call_Name_kw (ld_glob I hg hm ?_ hdb)
  refine PySem.W.callWith_K (h₀ := X.base) I.ok.mod.kin hk (thn (ha.run pos pins s σ H _ I h) fun us s1 ⟨vs, H1, I1, r, q⟩ => ⟨I1.kIn, ?_⟩) he hpl
  show wpAny _ _ (call (.ref f) us) _ _ _
  let os : Addr → Obj := fun c => (s1.heap.get? c).getD { cls := .none, data := .plain }
  have hos : ∀ c ∈ cellsL X.env.cells X.env.scope, s1.heap.get? c = some (os c) ∧ ∃ v, (os c).data = .cell v := fun c hc => by
    obtain ⟨y, hy⟩ := cellsL_has hc
    obtain ⟨v, o, ho, hd⟩ := I1.cell y c hy
    have e : os c = o := by show (s1.heap.get? c).getD _ = o; rw [ho] <;> rfl
    rw [e]
    exact ⟨ho, v, hd⟩
  have hn : ∀ c ∈ cellsL X.env.cells X.env.scope, H1 c = none := fun c hc => by
    obtain ⟨y, hy⟩ := cellsL_has hc
    exact I1.freeC y c hy
  have big : ∀ c ∈ cellsL X.env.cells X.env.scope, X.s_0.heap.objs.size ≤ c := fun c hc => by
    obtain ⟨y, hy⟩ := cellsL_has hc
    exact I1.ok.cab y c (hcab y) hy
  have hq := q os I1.ok.inj (fun y h => I1.ok.has y (.inl h)) I1.len (fun c hc => ⟨hn c hc, (hos c hc).2⟩) fun i y c v h1 h2 h3 h4 => by
    obtain ⟨m, hns, hl⟩ := I1.loc
    obtain ⟨u, rv, l⟩ := hl i y v h3 h4 (.inr (.inl h1))
    rcases l with ⟨z, _⟩ | ⟨_, c', e', o, ho, hd⟩
    · have z : X.env.scope.names.lookup y = some .local := z
      rw [h1] at z; cases z
    · rw [h2] at e'; cases e'
      have e : os c = o := by show (s1.heap.get? c).getD _ = o; rw [ho] <;> rfl
      exact ⟨u, by rw [e]; exact hd, rv⟩
  have E := I1.env0
  have ltS : ∀ {b o}, X.base.get? b = some o → b ∉ cellsL X.env.cells X.env.scope := fun {b o} e z => by
    have h1 := Heap.lt_size (I1.ok.bs b o e).1
    exact absurd (Nat.lt_of_lt_of_le h1 (big b z)) (Nat.lt_irrefl _)
  have frS : ∀ b ∈ frs X.stack, b ∉ cellsL X.env.cells X.env.scope := fun b hb z => by
    rcases List.mem_cons.mp (I1.stkSub b hb) with e | hb
    · obtain ⟨y, hy⟩ := cellsL_has z
      exact I1.cne y b hy e
    · obtain ⟨_, o, ho, _⟩ := I1.ok.funs.mem hb
      exact absurd (Nat.lt_of_lt_of_le (Heap.lt_size ho) (big b z)) (Nat.lt_irrefl _)
  have e0 : Env0 X.prog X.w X.K X.mg X.base X.A X.stack s1 (trk H1 (cellsL X.env.cells X.env.scope) os) :=
    ⟨E.frames, E.mod, fun b o e => ⟨(E.bs b o e).1, by rw [trk_out (ltS e)]; exact (E.bs b o e).2⟩, E.bsz, E.funs, fun b hb => by rw [trk_out (frS b hb)]; exact E.frf b hb, hok_trk E.hok (fun c hc => (hos c hc).1) hn, E.bare⟩
  have hl : (us ++ []).length = ps.length := by
    rw [List.append_nil, ← r.length]; exact F.len _ _ _ _ hq
  have b := hb s1 us I1.kIn hl
  rw [List.append_nil] at b
  refine wpAny_call (codeAny_mono (F.run X.A X.stack s1 _ ⟨us, []⟩ us vs _ _ hr e0 b r hq) fun r' s' hq' => ?_)
  cases r' with
  | error e => exact (show False from hq').elim
  | ok fl =>
    cases fl with
    | ret u =>
      obtain ⟨v, H', os', bare, un, hok, rv, hcs, q2⟩ := hq'
      have hg' : ∀ c ∈ cellsL X.env.cells X.env.scope, s'.heap.get? c = some (os c) := fun c hc => cellX_at hok (hcs c hc)
      exact I1.after ⟨v, _, os', bare, un_untrk un (fun c hc => (hos c hc).1) hn hg', hok_untrk hok hcs, rv, q2⟩
    | next => exact False.elim hq'
    | brk => exact False.elim hq'
    | cont => exact False.elim hq'
end
end Y
/-! Y31: raising over data; except (A, B) as n; a def that is handed the caught exception. -/
namespace Y
open PySem PySem.Spec PyProof.Rows L2
/-- the fields of an exception, as data -/
def RpF (K : PySem.W.Frag) (F : Hp) (fs : List (Str × V)) (fds : List (Str × Dt)) : Prop := fs.map (·.1) = fds.map (·.1) ∧ RpAll K F (fs.map (·.2)) (fds.map (·.2))
theorem RpF.mono {K : PySem.W.Frag} {F F' : Hp} {fs : List (Str × V)} {fds : List (Str × Dt)} (e : Same F F') (h : RpF K F fs fds) : RpF K F' fs fds := ⟨h.1, h.2.mono e⟩
theorem RpF.look {K : PySem.W.Frag} {F : Hp} : ∀ {fs : List (Str × V)} {fds : List (Str × Dt)} {n : Str} {d : Dt}, RpF K F fs fds → fds.lookup n = some d → ∃ v, fs.lookup n = some v ∧ Rp K F v d
  | [], [], _, _, _, h => by cases h
  | [], _ :: _, _, _, h, _ => by have := h.1; simp at this
  | _ :: _, [], _, _, h, _ => by have := h.1; simp at this
  | (a, v) :: fs, (b, d) :: fds, n, x, ⟨h1, h2⟩, h => by
    simp only [List.map_cons, List.cons.injEq] at h1
    obtain ⟨rfl, h1⟩ := h1
    cases h2 with
    | cons r0 r1 =>
      rw [List.lookup_cons] at h ⊢
      split at h
      · rename_i e
        cases h
        exact ⟨v, rfl, r0⟩
      · exact RpF.look ⟨h1, r1⟩ h
/-- E takes an exception of the class at C with the fields fds, whatever else was made -/
def XOk (B : Bs) (E : XK) (P : Addr → List (Str × Dt) → Prop) : Prop := ∀ F H C dd fs fds, Same B.F0 F → Same F H → (∀ c, B.H0 c ≠ none → B.F0 c = none → F c = none) → (∀ c o, B.H0 c = some o → B.off c → H c = some o) → F dd = some (.xd fs) → RpF B.K F fs fds → P C fds → E (.ref C) (some dd) H
/-- what an own exception's __init__ promises: the fields it leaves -/
def spXI (C : Addr) (mk : List V → List (Str × V)) (n : Nat) : Sp := fun vs H Q _ => ∃ a ws, vs = .ref a :: ws ∧ ws.length = n ∧ H a = some (exo a C none) ∧
  ∀ d H2, H d = none → d ≠ a → H2 a = some (exo a C (some d)) → H2 d = some (exd d (mk ws)) → (∀ c, c ≠ a → c ≠ d → H2 c = H c) → Q .non H2
section
variable {B : Bs} {es : List Sl} {p : Po}
theorem sm_raise {E : XK} {C : Addr} {mk : List V → List (Str × V)} {mkD : List Dt → List (Str × Dt)} {n : Nat} {ta : TA} {PE : Addr → List (Str × Dt) → Prop} (hx : XOk B E PE) (hn : n ≤ 900)
    (hmk : ∀ F vs ds, vs.length = n → RpAll B.K F vs ds → RpF B.K F (mk vs) (mkD ds)) (h : EvA B ta es fun ds => ds.length = n ∧ PE C (mkD ds)) :
    Sm B (fun _ σ H => tMkO C (spXI C mk n) [] ta σ H fun cls d H' => (fun cls d (_ : L2.St) H => E cls d H) cls d σ H') es p := fun σ F H D S _ _ _ _ _ => by
  refine h σ F H S _ fun vs ds F1 H1 g1 r1 ⟨hl, hp⟩ => ?_
  have S1 := S.go g1
  have hv : vs.length = n := by rw [r1.length]; exact hl
  refine ⟨by omega, fun a ha => ⟨a, vs, by rw [List.append_nil], hv, upd_same, fun d H2 hd hda h2a h2d h2 => ?_⟩⟩
  rw [upd_ne hda] at hd
  have e : upd (L2.del H2 a) d (.xd (mk vs)) = upd H1 d (.xd (mk vs)) := by
    funext c
    by_cases hc : c = d
    · rw [hc, upd_same, upd_same]
    · rw [upd_ne hc, upd_ne hc]
      by_cases hca : c = a
      · rw [hca, L2.del_same, ha]
      · rw [L2.del_ne hca, h2 c hca hc, upd_ne hca]
  refine ⟨rfl, d, mk vs, h2a, h2d, hd, ?_⟩
  rw [e]
  have g2 := S1.alloc (o := .xd (mk vs)) hd
  have S2 := S1.go g2
  exact hx _ _ C d (mk vs) (mkD ds) S2.s0 S2.sub S2.ou S2.fr upd_same ((hmk F1 vs ds hv r1).mono g2.s1) hp
end
/-- a def that may raise -/
def spR (K : PySem.W.Frag) (Pre : List Dt → Prop) (Post : List Dt → Dt → Prop) (Err : List Dt → Addr → List (Str × Dt) → Prop) : Sp := fun vs H Q E => ∃ F ds, Same F H ∧ RpAll K F vs ds ∧ Pre ds ∧
  (∀ v d F' H', Same F F' → (∀ c, H c ≠ none → F c = none → F' c = none) → Same F' H' → Same H H' → Rp K F' v d → Post ds d → Q v H') ∧
  (∀ C dd fs fds F' H', Same F F' → (∀ c, H c ≠ none → F c = none → F' c = none) → Same F' H' → Same H H' → F' dd = some (.xd fs) → RpF K F' fs fds → Err ds C fds → E (.ref C) (some dd) H')
section
variable {B : Bs} {es : List Sl}
theorem ev_callR {Pre : List Dt → Prop} {Post : List Dt → Dt → Prop} {Err : List Dt → Addr → List (Str × Dt) → Prop} {PE : Addr → List (Str × Dt) → Prop} {E : XK} {ta : TA} {P : Dt → Prop} (hx : XOk B E PE) (h : EvA B ta es fun ds => Pre ds ∧ (∀ d, Post ds d → P d) ∧ ∀ C fds, Err ds C fds → PE C fds) :
    Ev B (tCall (spR B.K Pre Post Err) [] E ta) es P := fun σ F H S Q q =>
  h σ F H S _ fun vs ds F1 H1 g1 r1 ⟨p1, p2, p3⟩ => by
    rw [List.append_nil]
    have S1 := S.go g1
    refine ⟨F1, ds, g1.s2, r1, p1, fun v d F2 H2 s1 s2 s3 s4 r2 p4 => q v d F2 H2 (g1.trans (S1.pure s1 s3 s2 s4)) r2 (p2 d p4), fun C dd fs fds F2 H2 s1 s2 s3 s4 hd r2 p4 => ?_⟩
    have S2 := S1.go (S1.pure s1 s3 s2 s4)
    exact hx F2 H2 C dd fs fds S2.s0 S2.sub S2.ou S2.fr hd r2 (p3 C fds p4)
theorem ev_callRD {Pre : List Dt → Prop} {Post : List Dt → Dt → Prop} {Err : List Dt → Addr → List (Str × Dt) → Prop} {PE : Addr → List (Str × Dt) → Prop} {E : XK} {ta : TA} {P : Dt → Prop} {dvs : List V} {dds : List Dt} (hd : ∀ F, RpAll B.K F dvs dds) (hx : XOk B E PE) (h : EvA B ta es fun ds => Pre (ds ++ dds) ∧ (∀ d, Post (ds ++ dds) d → P d) ∧ ∀ C fds, Err (ds ++ dds) C fds → PE C fds) :
    Ev B (tCall (spR B.K Pre Post Err) dvs E ta) es P := fun σ F H S Q q =>
  h σ F H S _ fun vs ds F1 H1 g1 r1 ⟨p1, p2, p3⟩ => by
    have S1 := S.go g1
    refine ⟨F1, ds ++ dds, g1.s2, r1.app (hd F1), p1, fun v d F2 H2 s1 s2 s3 s4 r2 p4 => q v d F2 H2 (g1.trans (S1.pure s1 s3 s2 s4)) r2 (p2 d p4), fun C dd fs fds F2 H2 s1 s2 s3 s4 hd r2 p4 => ?_⟩
    have S2 := S1.go (S1.pure s1 s3 s2 s4)
    exact hx F2 H2 C dd fs fds S2.s0 S2.sub S2.ou S2.fr hd r2 (p3 C fds p4)
theorem ev_callRN {Pre : List Dt → Prop} {Post : List Dt → Dt → Prop} {Err : List Dt → Addr → List (Str × Dt) → Prop} {PE : Addr → List (Str × Dt) → Prop} {E : XK} {ta tk : TA} {P : Dt → Prop} {n m : Nat} {gV : List V → List V → List V} {gD : List Dt → List Dt → List Dt}
    (hg : ∀ F vs ds zs as, RpAll B.K F vs ds → RpAll B.K F zs as → RpAll B.K F (gV vs zs) (gD ds as)) (hx : XOk B E PE)
    (h : EvA B ta es fun ds => EvA B tk es fun as => ds.length = n ∧ as.length = m ∧ Pre (gD ds as) ∧ (∀ d, Post (gD ds as) d → P d) ∧ ∀ C fds, Err (gD ds as) C fds → PE C fds) : Ev B (tCallN n m (spR B.K Pre Post Err) gV E ta tk) es P := fun σ F H S Q q =>
  h σ F H S _ fun vs ds F1 H1 g1 r1 p0 => p0 σ F1 H1 (S.go g1) _ fun zs as F2 H2 g2 r2 ⟨l1, l2, p1, p2, p3⟩ => by
    have g := g1.trans g2
    have S1 := S.go g
    refine ⟨by rw [r1.length]; exact l1, by rw [r2.length]; exact l2, F2, gD ds as, g2.s2, hg F2 _ _ _ _ (r1.mono g2.s1) r2, p1, fun v d F3 H3 s1 s2 s3 s4 r3 p4 => q v d F3 H3 (g.trans (S1.pure s1 s3 s2 s4)) r3 (p2 d p4), fun C dd fs fds F3 H3 s1 s2 s3 s4 hd r3 p4 => ?_⟩
    have S2 := S1.go (S1.pure s1 s3 s2 s4)
    exact hx F3 H3 C dd fs fds S2.s0 S2.sub S2.ou S2.fr hd r3 (p3 C fds p4)
end
abbrev CXX (P : Program) (w : World) : CXT := L2.CX P w
section
variable {P : Program} {w : World} {K : PySem.W.Frag} {mg : Str → Option Value} {base : Heap} {x qual : Str} {st : Stmt} {f : Addr} {fd : FuncData} {N ps : List Str} {k : Nat} {Pre : List Dt → Prop} {Post : List Dt → Dt → Prop} {Err : List Dt → Addr → List (Str × Dt) → Prop}
/-- a def by its body, whatever it lets out -/
theorem fun_okX {CX : CXT} {sp : Sp} (G : Fun K x qual st f fd) (S : FnScope N ps (defScope st)) (len : ∀ vs H Q E, sp vs H Q E → vs.length = ps.length)
    (hb : ∀ (cdv : Value) (A : Around) (outer : List Env) (s : Shared) (H : Hp) (vs : List V) (Q : VK) (E : XK), Room k (A.deeper (envOfC qual (defScope st) s.heap.objs.size f cdv)) → sp vs H Q E →
      ∃ t, PSs (cxOf CX P w K mg base N qual (defScope st) f cdv A outer s H E) (defBody st) t ∧ t { nx := fun _ H' => Q .non H', rt := Q } (L2.start N vs) H) : FnOk P w K mg base CX (k + 1) f fd ps sp := by
  obtain ⟨oc, od, kV, doc, pm, an, cdv, ct, osl, rfl, lk, hcd⟩ := G.ex
  exact fn_of lk hcd S len fun A outer s H vs Q E hr hsp => hb cdv A outer s H vs Q E hr hsp
theorem fn_raise (G : Fun K x qual st f fd) (S : FnScope N ps (defScope st)) (hl : ∀ ds, Pre ds → ds.length = ps.length)
    (hb : ∀ (cdv : Value) (A : Around) (outer : List Env) (s : Shared) (H : Hp) (E : XK), Room k (A.deeper (envOfC qual (defScope st) s.heap.objs.size f cdv)) →
      ∃ t, PSs (cxOf (CXX P w) P w K mg base N qual (defScope st) f cdv A outer s H E) (defBody st) t ∧ ∀ F0 H0 ds, Pre ds → XOk ⟨K, F0, H0, none, []⟩ E (Err ds) → Sm ⟨K, F0, H0, none, []⟩ t (env0 N ds) { nx := fun _ => Post ds .non, bk := fun _ => False, ct := fun _ => False, rt := fun _ => Post ds }) :
    FnOk P w K mg base (CXX P w) (k + 1) f fd ps (spR K Pre Post Err) := by
  refine fun_okX G S (fun vs H Q E h => ?_) (fun cdv A outer s H vs Q E hr h => ?_)
  · obtain ⟨F, ds, _, r, hp, _⟩ := h
    rw [r.length]; exact hl ds hp
  · obtain ⟨F, ds, hs, r, hp, q, qe⟩ := h
    obtain ⟨t, hd, hm⟩ := hb cdv A outer s H E hr
    refine ⟨t, hd, hm F H ds hp (fun F' H' C dd fs fds s1 s2 s3 s4 hdd rf pe => qe C dd fs fds F' H' s1 s3 s2 (fun c o e => s4 c o e off_nil) hdd rf pe) _ F H _ (start_stt hs r (fun _ z => nomatch z) (fun _ z => nomatch z) (fun _ z => nomatch z)) (fun es' σ' F' H' S' s' p => ?_) (fun _ _ _ _ _ _ z => z.elim) (fun _ _ _ _ _ _ z => z.elim) (fun v d es' σ' F' H' S' s' rv p => ?_) (fun _ _ _ _ _ _ _ _ _ _ _ _ _ _ z => z.elim)⟩
    · exact q _ _ F' H' s' S'.ou S'.sub (fun c o e => S'.fr c o e off_nil) .non p
    · exact q _ _ F' H' s' S'.ou S'.sub (fun c o e => S'.fr c o e off_nil) rv p
theorem takesE {cdv : Value} {A : Around} {outer : List Env} {s : Shared} {H : Hp} {E : XK} : Takes (cxOf (CXX P w) P w K mg base N qual (defScope st) f cdv A outer s H E) (fun cls d _ H => E cls d H) := takes_of rfl rfl rfl rfl
theorem passE {cdv : Value} {A : Around} {outer : List Env} {s : Shared} {H : Hp} {E : XK} : Passes (CXX P w) (cxOf (CXX P w) P w K mg base N qual (defScope st) f cdv A outer s H E) E := passes_call takesE fun _ _ _ _ h => h
theorem ownE {cdv : Value} {A : Around} {outer : List Env} {s : Shared} {H : Hp} {E : XK} : PassesOwn (model P w) (cxOf (CXX P w) P w K mg base N qual (defScope st) f cdv A outer s H E).A (cxOf (CXX P w) P w K mg base N qual (defScope st) f cdv A outer s H E).env (cxOf (CXX P w) P w K mg base N qual (defScope st) f cdv A outer s H E).xe := passes_of (X := cxOf (CXX P w) P w K mg base N qual (defScope st) f cdv A outer s H E) rfl
end
end Y
/-! Y32: try .. except (A, B) as n: the exceptions that the body lets out are of A or B. -/
namespace Y
open PySem PySem.Spec PyProof.Rows L2
theorem flying_keeps {B h h' : Heap} {l : List Env} {a : Addr} {Z : Obj → Prop} (x : HandSPX.FlyingZ B l a Z h) (k : ∀ b o, h.get? b = some o → h'.get? b = some o) : HandSPX.FlyingZ B l a Z h' := by
  obtain ⟨x1, x2, x3, oe, vs, T, oT, ts, y1, y2, y3, y4, y5, y6, y7, y8, y9⟩ := x
  exact ⟨fun b o q => k b o (x1 b o q), x2, Heap.FunFrames.of_keeps (fun b o q _ => ⟨o, k b o q, rfl⟩) x3, oe, vs, T, oT, ts, k _ _ y1, y2, y3, y4, y5, y6, k _ _ y7, y8, y9⟩
/-- what the clause wishes of an exception of the body -/
def wAs2 (K : PySem.W.Frag) (c1 c2 : Value) (i : Nat) (ts : Addr → Value → Option Addr → TS) (D : Ends) : WX := fun cls d σ H =>
  PySem.W.exmAny K cls [c1, c2] = some true ∧ ∀ a, H a = none → ts a cls d { nx := fun σ' H' => D.nx (σ'.set i none) H', rt := D.rt, bk := fun σ' H' => D.bk (σ'.set i none) H', ct := fun σ' H' => D.ct (σ'.set i none) H' } (σ.set i (some (.ref a))) H
section
variable {X : Cx} {x1 x2 n : Str} {C1 C2 : Addr} {i kk : Nat} {body suite : List Stmt} {b₀ : Stmt} {p1 p2 tpos pos pos' : Pos} {tb : WX → TS} {ts : Addr → Value → Option Addr → TS}
theorem ps_try_as2 (hs : X.stack = X.env :: X.outer) (hf : X.env.frame = some X.env.locals) (hN : X.N.Nodup) (hi : X.N[i]? = some n) (hln : X.env.kindOf n = some .local)
    (g1 : Gl X x1) (m1 : X.mg x1 = some (.ref C1)) (g2 : Gl X x2) (m2 : X.mg x2 = some (.ref C2))
    (hb : ∀ (W : WX) (pn : List (Addr × Obj)) (xe : Value → Shared → Prop), Takes (X.tr pn xe) W → PassesOwn (model X.prog X.w) X.A X.env xe → PSs (X.tr pn xe) body (tb W))
    (hsu : ∀ (a : Addr) (oe : Obj) (cls : Value) (d : Option Addr) (pn : List (Addr × Obj)), Zc cls d oe → (∃ vs, oe.data = .fields vs) → PSs (X.suite a ((a, oe) :: pn)) (b₀ :: suite) (ts a cls d))
    (hd1 : (x1 == ("__debug__" : Str)) = false := by decide) (hd2 : (x2 == ("__debug__" : Str)) = false := by decide) :
    PS X (.Try body [.ExceptHandler (some (.Tuple [.Name x1 p1, .Name x2 p2] kk tpos)) (some n) (b₀ :: suite) pos'] [] [] pos) (fun D σ H => tb (wAs2 X.K (.ref C1) (.ref C2) i ts D) D σ H) := by
  refine ⟨fun pins s σ H D I h => ?_⟩
  have ok := I.ok
  have hfr : X.A.frames = some (X.env :: X.outer) := by rw [ok.frames, hs]
  have hloc : Loc X.env.scope n := .inl hln
  refine wpAny_Try_except ?_
  refine wpAny_mono ((hb (wAs2 X.K (.ref C1) (.ref C2) i ts D) (X.pn ++ pins) (fun e s₁ => wpAny (model X.prog X.w) X.A (noteFrame e X.env) (fun _ s₂ => wpAny (model X.prog X.w) X.A (setFlight e none) (fun _ s₃ =>
    wpAny (model X.prog X.w) X.A (handleBy e X.env [.ExceptHandler (some (.Tuple [.Name x1 p1, .Name x2 p2] kk tpos)) (some n) (b₀ :: suite) pos']) (SP X pins D) X.xe s₃) X.xe s₂) X.xe s₁) (fun u s' xx => ?_) PassesOwn.looking).run [] s σ H D (I.toTry _) h) (fun f s1 hsp => ?_) (fun e s1 he => he)
  · -- the catch
    obtain ⟨a, B, sI, pins', σ', H', cls, d, rfl, J', nb, up, sky, na, os, ag, hb1, hyes⟩ := xx
    have J : Inv X pins σ' H' sI := J'.ofTry ok
    have sky' : Sky B (X.env :: X.outer) a (Zc cls d) X.env.locals s'.heap := by rw [← hs]; exact sky
    show wpAny (model X.prog X.w) X.A (noteFrame (.ref a) X.env) _ _ _
    refine Sky.land Zc.steady hfr hf sky' fun h3 fl3 up3 => ?_
    have J3 : Inv X pins σ' H' { s' with heap := h3 } := J.landed nb fl3.1 (up.trans up3) os ag
    obtain ⟨oe3, vs3, he3, hz3, hd3⟩ := fl3.there
    have notFr : ∀ {h : Heap} {o : Obj} {vs : Array Value}, h.FunFrames B (X.env :: X.outer) → h.get? a = some o → o.data = .fields vs → a ∉ frs (X.env :: X.outer) := fun {h o vs} ff e dd hm => by
      obtain ⟨_, o', e', hnf⟩ := ff.mem hm
      rw [e] at e'; cases e'
      exact hnf _ dd
    have nfr := notFr fl3.2.2.1 he3 hd3
    have nL : a ≠ X.env.locals := fun z => nfr (List.mem_filterMap.mpr ⟨X.env, List.mem_cons_self, by rw [hf, z]⟩)
    have nF : a ∉ X.fs := fun hm => by
      obtain ⟨e, he, q⟩ := List.mem_filterMap.mp hm
      exact nfr (List.mem_filterMap.mpr ⟨e, List.mem_cons_of_mem _ he, q⟩)
    have S3 := J3.suite he3 hd3 na nL nF
    refine wpAny_handleBy_cons (codeAny_handlers_test ?_) (by intro q; cases q)
    -- the tuple of classes is made
    refine wpAny_Tuple_spliced ?_
    show wpAny _ _ (spliced ((false, eval (.Name x1 p1) X.env) :: backTo tpos (starEach [.Name x2 p2] X.env))) _ _ _
    refine Calls.spliced_cons (ld_glob (X := X.suite a ((a, oe3) :: (X.pn ++ pins))) S3 g1 m1 ?_ hd1)
    show wpAny _ _ (spliced ((false, _) :: backTo tpos (starEach [] X.env))) _ _ _
    refine Calls.spliced_cons (ld_glob (X := X.suite a ((a, oe3) :: (X.pn ++ pins))) S3 g2 m2 (Calls.spliced_nil ⟨by show 2 ≤ sizeLine; decide, ?_⟩) hd2)
    have kT : ∀ b o, h3.get? b = some o → (h3.push { cls := .type "tuple", data := .seq [Value.ref C1, Value.ref C2].toArray }).get? b = some o := fun b o e => Heap.get?_push_of_some _ e
    have flT := flying_keeps fl3 kT
    have JT : Inv X pins σ' H' { s' with heap := h3.push { cls := .type "tuple", data := .seq [Value.ref C1, Value.ref C2].toArray } } := J.landed nb flT.1 ((up.trans up3).trans (Heap.UpToSlots.of_keeps kT)) os ag
    have LT : PySem.W.Looks (model X.prog X.w) (h3.push { cls := .type "tuple", data := .seq [Value.ref C1, Value.ref C2].toArray }) (typeOf (.ref a)) cls := fun A Q E s k q => wpAny_typeOf_ref (k _ _ (kT _ _ he3)) (by rw [hz3.1]; exact q)
    have LM := PySem.W.exm_tup2 (M := model X.prog X.w) (tp := h3.objs.size) JT.kIn LT (Heap.get?_push_size _ rfl) hb1
    refine LM.here ?_
    refine codeAny_handlers_suite_as ?_
    refine HandSPX.lands_againZ (s := { s' with heap := h3.push { cls := .type "tuple", data := .seq [Value.ref C1, Value.ref C2].toArray } }) flT fun h4 fl4 up4 => ?_
    have J4 : Inv X pins σ' H' { s' with heap := h4 } := J.landed nb fl4.1 (((up.trans up3).trans (Heap.UpToSlots.of_keeps kT)).trans up4) os ag
    obtain ⟨oe4, vs4, he4, hz4, hd4⟩ := fl4.there
    have S4 := J4.suite he4 hd4 na nL nF
    refine store_ok (X := X.suite a ((a, oe4) :: (X.pn ++ pins))) (v := .ref a) S4 hN hi hloc rfl (fun s5 S5 => ?_) (.inr hln)
    refine wpAny_mono ((hsu a oe4 cls d (X.pn ++ pins) hz4 ⟨_, hd4⟩).run [] s5 _ H' _ S5 (hyes a na)) (fun f s6 hsp => ?_) (fun _ _ z => False.elim z)
    have end_ : ∀ {σ6 : L2.St} {H6 : Hp} {Q : Shared → Prop}, Inv (X.suite a ((a, oe4) :: (X.pn ++ pins))) [] σ6 H6 s6 → (∀ s7, Inv X pins (σ6.set i none) H6 s7 → Q s7) →
        wpAny (model X.prog X.w) X.A (do bindName X.env n .none; unbindBehindTheSuite X.env n pos') (fun _ s7 => Q s7) X.xe s6 := fun {σ6 H6 Q} S6 hq => gone_ok (S6.unsuite ok) hN hi hln hq
    cases f with
    | next =>
      obtain ⟨σ6, H6, S6, q6⟩ := hsp
      exact end_ S6 fun s7 J7 => ⟨_, _, J7, q6⟩
    | brk =>
      obtain ⟨σ6, H6, S6, q6⟩ := hsp
      exact end_ S6 fun s7 J7 => ⟨_, _, J7, q6⟩
    | cont =>
      obtain ⟨σ6, H6, S6, q6⟩ := hsp
      exact end_ S6 fun s7 J7 => ⟨_, _, J7, q6⟩
    | ret u =>
      obtain ⟨v6, σ6, H6, S6, r6, q6⟩ := hsp
      exact end_ S6 fun s7 J7 => ⟨_, _, _, J7, r6, q6⟩
  · cases f with
    | next =>
      obtain ⟨σ', H', J', q⟩ := hsp
      exact wpAny_execs_nil ⟨σ', H', J'.ofTry ok, q⟩
    | brk =>
      obtain ⟨σ', H', J', q⟩ := hsp
      exact ⟨σ', H', J'.ofTry ok, q⟩
    | cont =>
      obtain ⟨σ', H', J', q⟩ := hsp
      exact ⟨σ', H', J'.ofTry ok, q⟩
    | ret u =>
      obtain ⟨v, σ', H', J', r, q⟩ := hsp
      exact ⟨v, σ', H', J'.ofTry ok, r, q⟩
end
end Y
/-! Y33: questions (lambdas as callables), the def that is handed the caught exception, what a question answers. -/
namespace Y
open PySem PySem.Spec PyProof.Rows L2
/-- the fields that the laws tell of an error -/
def fieldOf (code : Str) (fds : List (Str × Dt)) : Option (List Dt) :=
  if inD (.str code) [.str "InvalidRow", .str "InvalidPiece", .str "InvalidOutside", .str "InvalidMember", .str "InvalidUnit"] then (fds.lookup ("at" : Str)).map fun x => [x]
  else if inD (.str code) [.str "DuplicateName", .str "UnknownName"] then (fds.lookup ("name" : Str)).map fun x => [x]
  else if code = "Double" then (match fds.lookup ("name" : Str), fds.lookup ("first" : Str), fds.lookup ("second" : Str) with | some x, some y, some z => some [x, y, z] | _, _, _ => none)
  else if code = "InvalidText" then (match fds.lookup ("line" : Str), fds.lookup ("why" : Str) with | some x, some y => some [x, y] | _, _ => none)
  else if code = "TooMany" then (fds.lookup ("most" : Str)).map fun x => [x]
  else if code = "UnknownPiece" then (fds.lookup ("key" : Str)).map fun x => [x]
  else if code = "UnknownPlace" then (fds.lookup ("spot" : Str)).map fun x => [x]
  else if code = "NotClosing" then some [] else (fds.lookup ("value" : Str)).map fun x => [x]
/-- an error that the laws catch: its code, its fields -/
structure ErrD (K : PySem.W.Frag) (IE MI C : Addr) (fds : List (Str × Dt)) (code : Str) (xs : List Dt) : Prop where
  ex : PySem.W.exmAny K (.ref C) [.ref IE, .ref MI] = some true
  xf : XfC K C
  no : ∀ n d, fds.lookup n = some d → PySem.W.findIn K (.ref C) n = some none
  cd : fds.lookup ("code" : Str) = some (.str code)
  fld : fieldOf code fds = some xs
  ne : code ≠ ""
section
variable (P : Program) (w : World) (K : PySem.W.Frag) (mg : Str → Option Value) (base : Heap) (IE MI : Addr) (k : Nat)
/-- calling f answers by Pok, or lets out an error by Pe -/
def AskOk (Fb G : Hp) (Z : List Addr) (f : Addr) (Pok : Dt → Prop) (Pe : Str → List Dt → Prop) : Prop := (∃ L, G f = some (FnL f L)) ∧ ∀ (A : Around) (outer : List Env) (s : Shared) (H : Hp) (Q : VK) (E : XK) (F : Hp), Room k A → Env0 P w K mg base A outer s H → Same Fb F → Same F H → Same G H → (∀ c ∈ Z, F c = none) →
  (∀ v d F' H', Same F F' → (∀ c, H c ≠ none → F c = none → F' c = none) → Same F' H' → Same H H' → Rp K F' v d → Pok d → Q v H') →
  (∀ C dd fs fds code xs F' H', Same F F' → (∀ c, H c ≠ none → F c = none → F' c = none) → Same F' H' → Same H H' → F' dd = some (.xd fs) → RpF K F' fs fds → ErrD K IE MI C fds code xs → Pe code xs → E (.ref C) (some dd) H') →
  codeAny (model P w) A (.call (.ref f) ⟨[], []⟩) (CR (CXX P w) outer P w H s Q E) s
end
theorem AskOk.mono {P : Program} {w : World} {K : PySem.W.Frag} {mg : Str → Option Value} {base : Heap} {IE MI : Addr} {k : Nat} {Fb F G : Hp} {Z : List Addr} {f : Addr} {Pok : Dt → Prop} {Pe : Str → List Dt → Prop} (a : AskOk P w K mg base IE MI k Fb G Z f Pok Pe) (h : Same Fb F) : AskOk P w K mg base IE MI k F G Z f Pok Pe :=
  ⟨a.1, fun A outer s H Q E F2 hr e0 h1 => a.2 A outer s H Q E F2 hr e0 (h.trans h1)⟩

/-! ### an attribute of the caught exception -/
def tXfA (K : PySem.W.Frag) (a : Addr) (cls : Value) (d : Option Addr) (f : Str) (te : TE) : TE := fun σ H Q => te σ H fun x H1 => x = .ref a ∧ ∃ (C dd : Addr) (fs : List (Str × V)) (v : V), cls = .ref C ∧ XfC K C ∧ PySem.W.findIn K (.ref C) f = some none ∧ d = some dd ∧ H1 dd = some (.xd fs) ∧ fs.lookup f = some v ∧ Q v H1
theorem pe_xfA {X : Cx} {a : Addr} {oe : Obj} {cls : Value} {d : Option Addr} {e : Expr} {te : TE} {pos : Pos} {n : Str} (hp : (a, oe) ∈ X.pn) (hz : Zc cls d oe) (hf : ∃ vs, oe.data = .fields vs) (he : PE X e te) (hb : attributeBase e n X.env (eval e X.env) = eval e X.env := by rfl) :
    PE X (.Attribute e n pos) (tXfA X.K a cls d n te) := by
  refine ⟨fun pins s σ H Q I h => ?_⟩
  refine attr_of hb (thn (he.run pins s σ H _ I h) fun u s1 hh => ?_)
  obtain ⟨x, H1, I1, rx, ex, C, dd, fs, v, ec, T, hno, ed, ea, l, q⟩ := hh
  subst ex
  obtain rfl : u = Value.ref a := rx
  subst ec
  subst ed
  obtain ⟨ha, _⟩ := I1.pin (a, oe) (List.mem_append_left _ hp)
  obtain ⟨vs, hd⟩ := hf
  have hx : ObjOk X.prog X.w H1 s1.heap dd (.xd fs) := I1.hok dd _ ea
  obtain ⟨mA, hns, hr⟩ := hx
  obtain ⟨od, ho, hl⟩ := lookIn_ns hns
  obtain ⟨u, hu, ru⟩ := RelO.some_of (v := v) (o := mA n) (by rw [← l]; exact hr n)
  have J : PySem.W.InstAt s1.heap a oe C (some od) := ⟨ha, hz.1, by unfold PySem.W.notCls; rw [hd] <;> rfl, by rw [hz.2]; exact ho⟩
  exact HandSPX.exc_get I1.kIn J T.ga T.gg T.exC (PySem.W.findObj_own T.hdC hno rfl (by rw [hl, hu])) (handed_of ru) ⟨v, H1, I1.tok _, ru, q⟩
section
variable {B : Bs} {es : List Sl}
theorem ev_xfA {i : Nat} {a C dd : Addr} {fs : List (Str × V)} {fds : List (Str × Dt)} {n : Str} {d0 : Dt} {P : Dt → Prop} (hi : es[i]? = some (.r (.ref a))) (T : XfC B.K C) (hno : ∀ n d, fds.lookup n = some d → PySem.W.findIn B.K (.ref C) n = some none) (hF : B.F0 dd = some (.xd fs)) (hf : RpF B.K B.F0 fs fds) (hl : fds.lookup n = some d0) (hp : P d0) :
    Ev B (tXfA B.K a (.ref C) (some dd) n (tVar i)) es P := fun σ F H S Q q => by
  obtain ⟨v, hv, rv⟩ := hf.look hl
  exact ⟨.ref a, S.raw hi, rfl, C, dd, fs, v, rfl, T, hno _ _ hl, rfl, S.sub _ _ (S.s0 _ _ hF), hv, q v d0 F H S.refl (rv.mono S.s0) hp⟩
end

/-! ### a def that is handed the caught exception -/
def FnE (P : Program) (w : World) (K : PySem.W.Frag) (mg : Str → Option Value) (base : Heap) (k : Nat) (f : Addr) (fd : FuncData) (ps : List Str) (sp : Addr → Addr → Addr → Sp) : Prop :=
  ∀ (A : Around) (outer : List Env) (s : Shared) (H : Hp) (args : Args) (us : List Value) (vs : List V) (Q : VK) (E : XK) (p : Addr × Obj) (C dd : Addr), L2H.RoomH k A → L2H.PinOk outer H s p → Zc (.ref C) (some dd) p.2 → (∃ vs, p.2.data = .fields vs) → Env0 P w K mg base A outer s H → BindsTo s fd args (ps.zip us) → Vals vs us → vs.length = ps.length → sp p.1 C dd vs H Q E →
    codeAny (model P w) A (.call (.ref f) args) (CR CX0 outer P w H s Q E) s
theorem fn_ofE {P : Program} {w : World} {K : PySem.W.Frag} {mg : Str → Option Value} {base : Heap} {k : Nat} {f : Addr} {x qual : Str} {st : Stmt} {fd : FuncData} {N ps : List Str} {sp : Addr → Addr → Addr → Sp} (G : Fun K x qual st f fd) (S : FnScope N ps (defScope st))
    (hbody : ∀ (cdv : Value) (A : Around) (outer : List Env) (s : Shared) (H : Hp) (vs : List V) (Q : VK) (E : XK) (p : Addr × Obj) (C dd : Addr), Zc (.ref C) (some dd) p.2 → (∃ vs, p.2.data = .fields vs) → L2H.RoomH k (A.deeper (envOfC qual (defScope st) s.heap.objs.size f cdv)) → sp p.1 C dd vs H Q E →
      ∃ t, PSs (L2H.cxH CX0 P w K mg base N qual (defScope st) f cdv A outer s H E p) (defBody st) t ∧ t { nx := fun _ H' => Q .non H', rt := Q } (L2.start N vs) H) :
    FnE P w K mg base (k + 1) f fd ps sp := by
  obtain ⟨oc, od, kV, doc, pm, an, cdv, ct, osl, rfl, lk, hcd⟩ := G.ex
  intro A outer s H args us vs Q E p C dd hr hpin hz hf e0 hb r hl hsp
  have KX : K.In s.heap := e0.mod.kin.keeps fun b o e => (e0.bs b o e).1
  have lim : s.heap.NoLimit := e0.mod.nolimit.keeps fun b o e => (e0.bs b o e).1
  have hkind : ∀ y ∈ ps.zip us, (defScope st).names.lookup y.1 = some .local ∨ ((defScope st).names.lookup y.1 = some .cell ∧ ((cellsFrom (s.heap.objs.size + 1) (defScope st).names []).lookup y.1).isSome = true) := fun ⟨n, v⟩ hy => by
    rcases S.par n (List.of_mem_zip hy).1 with q | q
    · exact .inl q
    · exact .inr ⟨q, PySem.W.cellsFrom_some _ _ _ (.inl q)⟩
  refine codeAny_call_function hr.depth (KX _ _ lk) rfl S.co S.gen rfl (PySem.W.codeRec_of KX hcd) (hb _ _ _ _ ?_)
  refine wpAny_newFunctionEnv_cells S.kind hkind fun env he s1 x => ?_
  subst he
  refine ⟨lim.keeps x.toInCall.keep, codeAny_func ?_⟩
  obtain ⟨t, ht, hq⟩ := hbody cdv A outer s H vs Q E p C dd hz hf (hr.deeper _) hsp
  have I : Inv (L2H.cxH CX0 P w K mg base N qual (defScope st) f cdv A outer s H E p) [] (L2.start N vs) H s1 := L2H.inv_startH S hpin e0 hl r x
  refine wpAny_mono (ht.run [] s1 (L2.start N vs) H _ I hq) (fun fl s' hs => ?_) fun e s' hs => hs
  have fin : ∀ {σ' : L2.St} {H' : Hp} {v : V} {u : Value}, Inv (L2H.cxH CX0 P w K mg base N qual (defScope st) f cdv A outer s H E p) [] σ' H' s' → L2.RelV v u → Q v H' → CE outer P w H s Q u s' :=
    fun {σ' H' v u} J rv q => ⟨v, H', J.os, J.bare, J.base, J.hok, rv, q⟩
  cases fl with
  | ret u =>
    obtain ⟨v, σ', H', J, rv, q⟩ := hs
    exact fin J rv q
  | next =>
    obtain ⟨σ', H', J, q⟩ := hs
    exact fin (v := V.non) (u := Value.none) J rfl q
  | brk =>
    obtain ⟨_, _, _, q⟩ := hs
    exact False.elim q
  | cont =>
    obtain ⟨_, _, _, q⟩ := hs
    exact False.elim q
/-- f(e), in an except suite -/
def tCallE (a : Addr) (cls : Value) (d : Option Addr) (sp : Addr → Addr → Addr → Sp) (t : TA) : TE := fun σ H Q => t σ H fun vs H1 => ∃ C dd, cls = .ref C ∧ d = some dd ∧ sp a C dd vs H1 Q fun _ _ _ => False
theorem pe_callE {X : Cx} {a : Addr} {oe : Obj} {cls : Value} {d : Option Addr} {k : Nat} {f : Addr} {fd : FuncData} {ps : List Str} {sp : Addr → Addr → Addr → Sp} {x : Str} {e : Expr} {es : List Expr} {t : TA} {p pos : Pos} (hp : (a, oe) ∈ X.pn) (hz : Zc cls d oe) (hf : ∃ vs, oe.data = .fields vs)
    (F : FnE X.prog X.w X.K X.mg X.base k f fd ps sp) (hr : L2H.RoomH k X.A) (hg : Gl X x) (hm : X.mg x = some (.ref f)) (hk : PySem.W.keepIn X.K (.ref f) = true) (hb : Binds X.K fd ps []) (hl : ∀ a C dd vs H Q E, sp a C dd vs H Q E → vs.length = ps.length)
    (ha : PA X (e :: es) t) (hdb : (x == ("__debug__" : Str)) = false := by decide) (he : starEach (e :: es) X.env = (false, eval e X.env) :: starEach es X.env := by rfl) (hpl : (backTo pos (starEach es X.env)).any (·.1) = false := by rfl) :
    PE X (.Call (.Name x p) (e :: es) [] pos) (tCallE a cls d sp t) := by
  refine ⟨fun pins s σ H Q I h => ?_⟩
  refine wpAny_Call_Name_kw (ld_glob I hg hm ?_ hdb)
  refine PySem.W.callWith_K (h₀ := X.base) I.ok.mod.kin hk (thn (ha.run pos pins s σ H _ I h) fun us s1 ⟨vs, H1, I1, r, q⟩ => ⟨I1.kIn, ?_⟩) he hpl
  show wpAny _ _ (call (.ref f) us) _ _ _
  obtain ⟨C, dd, rfl, rfl, q⟩ := q
  have hv := hl _ _ _ _ _ _ _ q
  have hlu : us.length = ps.length := by rw [← r.length]; exact hv
  have b := hb s1 us I1.kIn (by rw [List.append_nil]; exact hlu)
  rw [List.append_nil] at b
  have P1 := I1.pin (a, oe) (List.mem_append_left _ hp)
  have hpin : L2H.PinOk X.stack H1 s1 (a, oe) := ⟨P1.1, P1.2.1, fun hm => (List.mem_cons.mp (I1.stkSub a hm)).elim P1.2.2.1 P1.2.2.2.1, P1.2.2.2.2⟩
  refine wpAny_call (codeAny_mono (F X.A X.stack s1 H1 ⟨us, []⟩ us vs Q _ (a, oe) C dd hr hpin hz hf I1.env0 b r hv q) fun r' s' hq' => ?_)
  cases r' with
  | error e => exact (show False from hq').elim
  | ok fl =>
    cases fl with
    | ret u => exact I1.after hq'
    | next => exact False.elim hq'
    | brk => exact False.elim hq'
    | cont => exact False.elim hq'

/-! ### x(), x what is asked -/
def tAsk (P : Program) (w : World) (K : PySem.W.Frag) (mg : Str → Option Value) (base : Heap) (k : Nat) (W : WX) (i : Nat) : TE := fun σ H Q => ∃ f L, σ[i]? = some (some (.ref f)) ∧ H f = some (FnL f L) ∧
  ∀ (A : Around) (outer : List Env) (s : Shared), Room k A → Env0 P w K mg base A outer s H → codeAny (model P w) A (.call (.ref f) ⟨[], []⟩) (CR (CXX P w) outer P w H s Q fun cls d H' => W cls d σ H') s
theorem pe_ask {X : Cx} {k i : Nat} {x : Str} {p pos : Pos} {W : WX} (tk : Takes X W) (hr : Room k X.A) (hN : X.N[i]? = some x) (hv : Vis X.env.scope x) (hd : (x == ("__debug__" : Str)) = false := by decide) (hcd : (x == ("__classdict__" : Str)) = false := by decide) :
    PE X (.Call (.Name x p) [] [] pos) (tAsk X.prog X.w X.K X.mg X.base k W i) := by
  refine ⟨fun pins s σ H Q I h => ?_⟩
  obtain ⟨f, L, hs, hf, h⟩ := h
  refine wpAny_Call_Name_kw (thn ((pe_var (pos := p) hN hv hd hcd).run pins s σ H (fun v H1 => v = .ref f ∧ H1 = H) I ⟨.ref f, hs, rfl, rfl⟩) fun u s1 ⟨v, H1, I1, r1, q1⟩ => ?_)
  obtain ⟨ev, eH⟩ := q1
  subst ev
  rw [eH] at I1
  obtain rfl : u = Value.ref f := r1
  obtain ⟨⟨od, sl, pm, ctv, ho⟩, _, _⟩ := I1.hok f _ hf
  refine PySem.W.callWith_F0 (first := []) ⟨_, od, _, sl, ho⟩ ?_
  show wpAny _ _ (call (.ref f) []) _ _ _
  refine wpAny_call (codeAny_mono (h X.A X.stack s1 hr I1.env0) fun r' s' hq' => ?_)
  cases r' with
  | error e => exact tk e s' (XE.of_call I1 (fun _ _ _ z => z) hq')
  | ok fl =>
    cases fl with
    | ret u => exact I1.after hq'
    | next => exact False.elim hq'
    | brk => exact False.elim hq'
    | cont => exact False.elim hq'
end Y
/-! Y34: _law_try, _law_why, _law_whys: what is asked and what is told of it. -/
namespace Y
open PySem PySem.Spec PyProof.Rows L2
theorem _root_.L2H.RoomH.units {k : Nat} {A : Around} (r : L2H.RoomH k A) : A.units + 64 < cLine := by have := r.un; omega
/-- what was known stays out of what was not -/
def NW (H F F' : Hp) : Prop := ∀ c, H c ≠ none → F c = none → F' c = none
def tryD (Pok : Dt → Prop) (Pe : Str → List Dt → Prop) (d : Dt) : Prop := (∃ x, Pok x ∧ d = .tup [.str "", x]) ∨ ∃ code xs, Pe code xs ∧ code ≠ "" ∧ d = .tup [.str code, .tup xs]
def whyD (Pok : Dt → Prop) (Pe : Str → List Dt → Prop) (d : Dt) : Prop := ((∃ x, Pok x) ∧ d = .tup [.str "", .non]) ∨ ∃ code xs, Pe code xs ∧ code ≠ "" ∧ d = .tup [.str code, .tup xs]
section
variable (P : Program) (w : World) (K : PySem.W.Frag) (mg : Str → Option Value) (base : Heap) (IE MI : Addr) (k : Nat)
def spField : Addr → Addr → Addr → Sp := fun a C dd vs H Q _ => ∃ F fs fds code xs, vs = [.ref a] ∧ Same F H ∧ F dd = some (.xd fs) ∧ RpF K F fs fds ∧ ErrD K IE MI C fds code xs ∧
  ∀ v F' H', Same F F' → (∀ c, H c ≠ none → F c = none → F' c = none) → Same F' H' → Same H H' → Rp K F' v (.tup xs) → Q v H'
def spAsk (R : (Dt → Prop) → (Str → List Dt → Prop) → Dt → Prop) : Sp := fun vs H Q _ => ∃ f F G Z Pok Pe, vs = [.ref f] ∧ Same F H ∧ Same G H ∧ (∀ c ∈ Z, G c ≠ none ∧ F c = none) ∧ AskOk P w K mg base IE MI k F G Z f Pok Pe ∧
  ∀ v d F' H', Same F F' → (∀ c, H c ≠ none → F c = none → F' c = none) → Same F' H' → Same H H' → Rp K F' v d → R Pok Pe d → Q v H'
abbrev spTry : Sp := spAsk P w K mg base IE MI k tryD
abbrev spWhy : Sp := spAsk P w K mg base IE MI k whyD
/-- a list of questions, each with what it answers -/
def spWhys : Sp := fun vs H Q _ => ∃ a F G Z, ∃ as : List (Addr × (Dt → Prop) × (Str → List Dt → Prop)), vs = [.ref a] ∧ F a = some (.lst (as.map fun q => .ref q.1)) ∧ as.length < 100000 ∧ Same F H ∧ Same G H ∧ (∀ c ∈ Z, G c ≠ none ∧ F c = none) ∧ (∀ q ∈ as, AskOk P w K mg base IE MI k F G Z q.1 q.2.1 q.2.2) ∧
  ∀ v ds F' H', Same F F' → (∀ c, H c ≠ none → F c = none → F' c = none) → Same F' H' → Same H H' → Rp K F' v (.lst ds) → ds.length = as.length → (∀ (i : Nat) q d, as[i]? = some q → ds[i]? = some d → whyD q.2.1 q.2.2 d) → Q v H'
end
theorem start_rawF {K : PySem.W.Frag} {F H : Hp} {a : Addr} (N : List Str) (s : Same F H) : Stt ⟨K, F, H, none, []⟩ (.r (.ref a) :: List.replicate (N.length - 1) Sl.no) (L2.start N [.ref a]) F H := by
  have S := start_stt (K := K) (F := F) (H := H) (vs := [.non]) (ds := [.non]) (N := N) (bag := none) (T := []) s (.cons .non .nil) (fun _ z => nomatch z) (fun _ z => nomatch z) (fun _ z => nomatch z)
  exact S.set (i := 0) (e := .r (.ref a)) (o := some (.ref a)) rfl fun _ _ e => nomatch e
section
variable {P : Program} {w : World} {K : PySem.W.Frag} {mg : Str → Option Value} {base : Heap} {IE MI : Addr} {k : Nat} {x qual : Str} {st : Stmt} {f : Addr} {fd : FuncData} {N : List Str} {q : Str}
theorem fn_field (G : Fun K x qual st f fd) (S : FnScope N [q] (defScope st))
    (hb : ∀ (cdv : Value) (A : Around) (outer : List Env) (s : Shared) (H : Hp) (E : XK) (p : Addr × Obj) (C dd : Addr), Zc (.ref C) (some dd) p.2 → (∃ vs, p.2.data = .fields vs) → L2H.RoomH k (A.deeper (envOfC qual (defScope st) s.heap.objs.size f cdv)) →
      ∃ t, PSs (L2H.cxH CX0 P w K mg base N qual (defScope st) f cdv A outer s H E p) (defBody st) t ∧ ∀ F0 H0 fs fds code xs, F0 dd = some (.xd fs) → RpF K F0 fs fds → ErrD K IE MI C fds code xs →
        Sm ⟨K, F0, H0, none, []⟩ t (.r (.ref p.1) :: List.replicate (N.length - 1) Sl.no) { nx := fun _ => False, bk := fun _ => False, ct := fun _ => False, rt := fun _ d => d = .tup xs }) : FnE P w K mg base (k + 1) f fd [q] (spField K IE MI) := by
  refine fn_ofE G S fun cdv A outer s H vs Q E p C dd hz hf hr h => ?_
  obtain ⟨F, fs, fds, code, xs, rfl, hs, hF, hR, hD, hq⟩ := h
  obtain ⟨t, hd, hm⟩ := hb cdv A outer s H E p C dd hz hf hr
  refine ⟨t, hd, hm F H fs fds code xs hF hR hD _ F H _ (start_rawF N hs) (fun _ _ _ _ _ _ z => z.elim) (fun _ _ _ _ _ _ z => z.elim) (fun _ _ _ _ _ _ z => z.elim) (fun v d es' σ' F' H' S' s' rv e => ?_) (fun _ _ _ _ _ _ _ _ _ _ _ _ _ _ z => z.elim)⟩
  subst e
  exact hq v F' H' s' S'.ou S'.sub (fun c o e => S'.fr c o e off_nil) rv
theorem spField_len (a C dd : Addr) (vs : List V) (H : Hp) (Q : VK) (E : XK) (h : spField K IE MI a C dd vs H Q E) : vs.length = 1 := by
  obtain ⟨F, fs, fds, code, xs, rfl, _⟩ := h; rfl
theorem spAsk_len {R : (Dt → Prop) → (Str → List Dt → Prop) → Dt → Prop} (vs : List V) (H : Hp) (Q : VK) (E : XK) (h : spAsk P w K mg base IE MI k R vs H Q E) : vs.length = 1 := by
  obtain ⟨f, F, G, Z, Pok, Pe, rfl, _⟩ := h; rfl
theorem spWhys_len (vs : List V) (H : Hp) (Q : VK) (E : XK) (h : spWhys P w K mg base IE MI k vs H Q E) : vs.length = 1 := by
  obtain ⟨a, F, G, Z, as, rfl, _⟩ := h; rfl
/-- the reading of _law_try's body -/
theorem try_reads {H : Hp} {Q : VK} {vs : List V} {E : XK} {n0 n1 : Str} (h : spTry P w K mg base IE MI k vs H Q E) :
    (fun D σ H => (fun W => tRet (tTup (tCons (tC (.str "")) (tCons (tAsk P w K mg base k W 0) tNil)))) (wAs2 K (.ref IE) (.ref MI) 1 (fun a cls d => tRet (tTup (tCons (tXfA K a cls d "code" (tVar 1)) (tCons (tCallE a cls d (spField K IE MI) (tCons (tVar 1) tNil)) tNil)))) D) D σ H : TS) { nx := fun _ H' => Q .non H', rt := Q } (L2.start [n0, n1] vs) H := by
  obtain ⟨f, F, G, Z, Pok, Pe, rfl, hs, hG, hZ, ⟨⟨L, hL⟩, ask⟩, hq⟩ := h
  refine ⟨f, L, rfl, hG _ _ hL, fun A outer s hr e0 => ask A outer s H _ _ F hr e0 (Same.refl F) hs hG (fun c hc => (hZ c hc).2) (fun v d F' H' s1 nw s2 s3 r p => ?_) (fun C dd fs fds code xs F' H' s1 nw s2 s3 hdd hR hD hp => ?_)⟩
  · refine ⟨by show 2 ≤ sizeLine; decide, fun p0 hp0 => ?_⟩
    have hF' : F' p0 = none := same_none s2 hp0
    refine hq (.ref p0) (.tup [.str "", d]) (upd F' p0 (.tup [.str "", v])) _ (s1.trans (same_upd hF')) (fun c h1 h2 => ?_) (same_updF s2) (s3.trans (same_upd hp0)) (.tup (SqT.of upd_same) (.cons (.str _) (.cons (r.mono (same_upd hF')) .nil))) (.inl ⟨d, p, rfl⟩)
    rw [upd_ne (fun e => h1 (by cases e' : H c with | none => rfl | some o => have := s3 c o e'; rw [e, hp0] at this; cases this))]
    exact nw c h1 h2
  · refine ⟨hD.ex, fun a ha => ⟨.ref a, rfl, rfl, C, dd, fs, ?_⟩⟩
    obtain ⟨vc, hvc, rvc⟩ := hR.look hD.cd
    refine ⟨vc, rfl, hD.xf, hD.no _ _ hD.cd, rfl, s2 _ _ hdd, hvc, .ref a, rfl, C, dd, rfl, rfl, F', fs, fds, code, xs, rfl, s2, hdd, hR, hD, fun v F2 H2 t1 tn t2 t3 r => ?_⟩
    refine ⟨by show 2 ≤ sizeLine; decide, fun p0 hp0 => ?_⟩
    have hF2 : F2 p0 = none := same_none t2 hp0
    have hH' : ∀ c, H c ≠ none → H' c ≠ none := fun c h1 => by
      cases e' : H c with
      | none => exact absurd e' h1
      | some o => rw [s3 c o e']; simp
    refine hq (.ref p0) (.tup [.str code, .tup xs]) (upd F2 p0 (.tup [vc, v])) _ ((s1.trans t1).trans (same_upd hF2)) (fun c h1 h2 => ?_) (same_updF t2) ((s3.trans t3).trans (same_upd hp0)) (.tup (SqT.of upd_same) (.cons (rvc.mono (t1.trans (same_upd hF2))) (.cons (r.mono (same_upd hF2)) .nil))) (.inr ⟨code, xs, hp, hD.ne, rfl⟩)
    rw [upd_ne (fun e => hH' c h1 (by cases e' : H' c with | none => rfl | some o => have := t3 c o e'; rw [e, hp0] at this; cases this))]
    exact tn c (hH' c h1) (nw c h1 h2)
end
section
variable {P : Program} {w : World} {K : PySem.W.Frag} {mg : Str → Option Value} {base : Heap} {IE MI : Addr} {k : Nat} {F0 H0 G : Hp} {Z : List Addr} {es : List Sl}
/-- a question is asked: the slot holds its address -/
theorem ev_ask {R : (Dt → Prop) → (Str → List Dt → Prop) → Dt → Prop} {i : Nat} {f : Addr} {Pok : Dt → Prop} {Pe : Str → List Dt → Prop} {E : XK} {Pd : Dt → Prop} (hi : es[i]? = some (.d (.ali f))) (hG : Same G H0) (hZ : ∀ c ∈ Z, G c ≠ none ∧ F0 c = none) (ha : AskOk P w K mg base IE MI k F0 G Z f Pok Pe) (h : ∀ d, R Pok Pe d → Pd d) :
    Ev ⟨K, F0, H0, none, []⟩ (tCall (spAsk P w K mg base IE MI k R) [] E (tCons (tVar i) tNil)) es Pd := fun σ F H S Q q => by
  obtain ⟨v, h1, h2⟩ := S.dat hi
  cases h2
  have gH : Same G H := fun c o e => S.fr c o (hG c o e) off_nil
  refine ⟨_, h1, f, F, G, Z, Pok, Pe, rfl, S.sub, gH, fun c hc => ⟨(hZ c hc).1, S.ou c (by
    cases e : G c with
    | none => exact absurd e (hZ c hc).1
    | some o => show H0 c ≠ none; rw [hG c o e]; simp) (hZ c hc).2⟩, ha.mono S.s0, fun v d F' H' s1 nw s2 s3 r p => q v d F' H' (S.pure s1 s2 nw s3) r (h d p)⟩
theorem fn_why {x qual : Str} {st : Stmt} {f : Addr} {fd : FuncData} {N : List Str} {q : Str} {kk : Nat} (G : Fun K x qual st f fd) (S : FnScope N [q] (defScope st))
    (hb : ∀ (cdv : Value) (A : Around) (outer : List Env) (s : Shared) (H : Hp) (E : XK), Room kk (A.deeper (envOfC qual (defScope st) s.heap.objs.size f cdv)) →
      ∃ t, PSs (cxOf CX0 P w K mg base N qual (defScope st) f cdv A outer s H E).nox (defBody st) t ∧ ∀ F0 H0 G Z g Pok Pe, Same G H0 → (∀ c ∈ Z, G c ≠ none ∧ F0 c = none) → AskOk P w K mg base IE MI k F0 G Z g Pok Pe →
        Sm ⟨K, F0, H0, none, []⟩ t (env0 N [.ali g]) { nx := fun _ => False, bk := fun _ => False, ct := fun _ => False, rt := fun _ d => whyD Pok Pe d }) : FnOk P w K mg base CX0 (kk + 1) f fd [q] (spWhy P w K mg base IE MI k) := by
  refine G.ok S spAsk_len (fun cdv A outer s H vs Q E hr h => ?_)
  obtain ⟨g, F, G', Z, Pok, Pe, rfl, hs, hG, hZ, ha, hq⟩ := h
  obtain ⟨t, hd, hm⟩ := hb cdv A outer s H E hr
  refine ⟨t, hd, hm F H G' Z g Pok Pe hG hZ ha _ F H _ (start_stt (bag := none) (T := []) (vs := [.ref g]) (ds := [.ali g]) hs (.cons (.ali g) .nil) (fun _ z => nomatch z) (fun _ z => nomatch z) (fun _ z => nomatch z)) (fun _ _ _ _ _ _ z => z.elim) (fun _ _ _ _ _ _ z => z.elim) (fun _ _ _ _ _ _ z => z.elim) (fun v d es' σ' F' H' S' s' rv p => ?_) (fun _ _ _ _ _ _ _ _ _ _ _ _ _ _ z => z.elim)⟩
  exact hq v d F' H' s' S'.ou S'.sub (fun c o e => S'.fr c o e off_nil) rv p
theorem fn_whys {x qual : Str} {st : Stmt} {f : Addr} {fd : FuncData} {N : List Str} {q : Str} {kk : Nat} (G : Fun K x qual st f fd) (S : FnScope N [q] (defScope st))
    (hb : ∀ (cdv : Value) (A : Around) (outer : List Env) (s : Shared) (H : Hp) (E : XK), Room kk (A.deeper (envOfC qual (defScope st) s.heap.objs.size f cdv)) →
      ∃ t, PSs (cxOf CX0 P w K mg base N qual (defScope st) f cdv A outer s H E).nox (defBody st) t ∧ ∀ F0 H0 G Z, ∀ as : List (Addr × (Dt → Prop) × (Str → List Dt → Prop)), Same G H0 → (∀ c ∈ Z, G c ≠ none ∧ F0 c = none) → as.length < 100000 → (∀ q ∈ as, AskOk P w K mg base IE MI k F0 G Z q.1 q.2.1 q.2.2) →
        Sm ⟨K, F0, H0, none, []⟩ t (env0 N [.lst (as.map fun q => .ali q.1)]) { nx := fun _ => False, bk := fun _ => False, ct := fun _ => False, rt := fun _ d => ∃ ds, d = .lst ds ∧ ds.length = as.length ∧ ∀ (i : Nat) q d, as[i]? = some q → ds[i]? = some d → whyD q.2.1 q.2.2 d }) : FnOk P w K mg base CX0 (kk + 1) f fd [q] (spWhys P w K mg base IE MI k) := by
  refine G.ok S spWhys_len (fun cdv A outer s H vs Q E hr h => ?_)
  obtain ⟨a, F, G', Z, as, rfl, hFa, hl, hs, hG, hZ, ha, hq⟩ := h
  obtain ⟨t, hd, hm⟩ := hb cdv A outer s H E hr
  have r0 : ∀ l : List (Addr × (Dt → Prop) × (Str → List Dt → Prop)), RpAll K F (l.map fun q => .ref q.1) (l.map fun q => .ali q.1) := fun l => by
    induction l with
    | nil => exact .nil
    | cons q l ih => exact .cons (.ali _) ih
  refine ⟨t, hd, hm F H G' Z as hG hZ hl ha _ F H _ (start_stt (bag := none) (T := []) (vs := [.ref a]) (ds := [.lst (as.map fun q => .ali q.1)]) hs (.cons (.lst hFa (r0 as)) .nil) (fun _ z => nomatch z) (fun _ z => nomatch z) (fun _ z => nomatch z)) (fun _ _ _ _ _ _ z => z.elim) (fun _ _ _ _ _ _ z => z.elim) (fun _ _ _ _ _ _ z => z.elim) (fun v d es' σ' F' H' S' s' rv p => ?_) (fun _ _ _ _ _ _ _ _ _ _ _ _ _ _ z => z.elim)⟩
  obtain ⟨ds, rfl, hl2, hw⟩ := p
  exact hq v ds F' H' s' S'.ou S'.sub (fun c o e => S'.fr c o e off_nil) rv hl2 hw
end

/-! ### lambdas as questions -/
/-- a slot as a lambda sees it: data that are known and raw values -/
def seeS : Sl → Sl
  | .d x => .d x
  | .r v => .r v
  | _ => .any
theorem Stt.see {B : Bs} {es : List Sl} {σ : L2.St} {F H F2 H2 : Hp} (S : Stt B es σ F H) (h1 : Same F F2) (h2 : Same F2 H2) : Stt ⟨B.K, F2, H2, none, []⟩ (es.map seeS) σ F2 H2 where
  sub := h2
  s0 := Same.refl _
  ou := fun _ _ h => h
  fr := fun c o h _ => h
  bg := fun _ z => nomatch z
  tb := fun _ z => nomatch z
  tn := fun _ z => nomatch z
  len := by rw [List.length_map]; exact S.len
  ok := fun i e o h3 h4 => by
    rw [List.getElem?_map] at h3
    cases e1 : es[i]? with
    | none => rw [e1] at h3; cases h3
    | some e0 =>
      rw [e1] at h3
      have h3 : seeS e0 = e := Option.some.inj h3
      have q := S.ok i e0 o e1 h4
      subst h3
      cases e0 with
      | d x => obtain ⟨v, a, b⟩ := q; exact ⟨v, a, b.mono h1⟩
      | r v => exact q
      | _ => trivial
  ow := fun i a xs h => by
    rw [List.getElem?_map] at h
    cases e1 : es[i]? with
    | none => rw [e1] at h; cases h
    | some e0 =>
      rw [e1] at h
      have h : seeS e0 = .own a xs := Option.some.inj h
      cases e0 <;> cases h
  dis := fun i j a b xs ys _ h => by
    rw [List.getElem?_map] at h
    cases e1 : es[i]? with
    | none => rw [e1] at h; cases h
    | some e0 =>
      rw [e1] at h
      have h : seeS e0 = .own a xs := Option.some.inj h
      cases e0 <;> cases h
  obw := fun i a C dx ns xs bs h => by
    rw [List.getElem?_map] at h
    cases e1 : es[i]? with
    | none => rw [e1] at h; cases h
    | some e0 =>
      rw [e1] at h
      have h : seeS e0 = .ob a C dx ns xs bs := Option.some.inj h
      cases e0 <;> cases h
/-- what a lambda's words ask of the frame that makes it: N' its names as the frame numbers them -/
structure LamIn (N N' : List Str) (sc scope : Scope) : Prop where
  len : N'.length = N.length
  own : ∀ y ∈ scope.names, y.2 = .free → sc.names.lookup y.1 = some .cell
  vis : ∀ (i : Nat) y, N'[i]? = some y → Vis scope y → N[i]? = some y ∧ scope.names.lookup y = some .free
theorem clo_in {cells : List (Str × Addr)} {names : List (Str × NameKind)} (hfree : ∀ y ∈ names, y.2 = .free → ∃ c, cells.lookup y.1 = some c) : ∀ c ∈ (cloFrom cells names []).map (·.2), c ∈ cells.map (·.2) := fun c hc => by
  obtain ⟨⟨y, c'⟩, hm, rfl⟩ := List.mem_map.mp hc
  rcases cloFrom_mem hm with h | ⟨h1, h2⟩
  · cases h
  · obtain ⟨c1, hc1⟩ := hfree _ h1 rfl
    have : c' = c1 := by
      rw [h2, show cells.lookup y = some c1 from hc1]
      rfl
    subst this
    exact cl_mem hc1
/-- the words of a lambda in its frame: N' its names as the frame numbers them, tb its body's reading -/
structure LamLit (P : Program) (w : World) (K : PySem.W.Frag) (mg : Str → Option Value) (base : Heap) (k : Nat) (N N' : List Str) (sc : Scope) (qual : Str) (params : Arguments) (body : Expr) (scope : Scope) (dvb : Bool) (tb : XK → TE) : Prop where
  inn : LamIn N N' sc scope
  kind : scope.kind = .function
  co : scope.isCoroutine = false
  gen : scope.isGenerator = false
  cell : ∀ y ∈ scope.names, y.2 ≠ .cell
  b0 : dvb = false → ∀ cl c pm ctv, bindArgs ((⟨qual, params, body, scope, cl, c, none⟩ : LF).fd pm ctv) ⟨[], []⟩ = pure []
  b1 : dvb = true → ∃ x, scope.names.lookup x = some .local ∧ ∀ cl c t pm ctv v, ∃ k, bindArgs ((⟨qual, params, body, scope, cl, c, some t⟩ : LF).fd pm ctv) ⟨[], []⟩ = seqItems? (.ref t) >>= k ∧ k (some #[v]) = pure [(x, v)]
  run : ∀ (cl : List (Str × Addr)) (c : Addr) (dv : Option Addr) (f : Addr) (A : Around) (outer : List Env) (s : Shared) (H : Hp) (E : XK), Room k (A.deeper (envL ⟨qual, params, body, scope, cl, c, dv⟩ f s.heap.objs.size)) → PE (lamC P w K mg base N' ⟨qual, params, body, scope, cl, c, dv⟩ f A outer s H E) body (tb E)
theorem same_un {F H : Hp} {C : List Addr} (h : Same F H) (hF : ∀ c ∈ C, F c = none) : Same F (untrk H C) := fun c o e => by
  rw [untrk_out (fun z => by rw [hF c z] at e; cases e)]
  exact h c o e
theorem ask_of {P : Program} {w : World} {mg : Str → Option Value} {base : Heap} {IE MI : Addr} {k : Nat} {N N' : List Str} {sc : Scope} {qual : Str} {params : Arguments} {body : Expr} {scope : Scope} {dvb : Bool} {tb : XK → TE} {cells : List (Str × Addr)} {os : Addr → Obj} {B : Bs} {es : List Sl} {σ : L2.St} {F1 H1 : Hp}
    (LL : LamLit P w B.K mg base k N N' sc qual params body scope dvb tb) (S : Stt B es σ F1 H1) (inj : ∀ x y c, cells.lookup x = some c → cells.lookup y = some c → x = y) (has : ∀ y, sc.names.lookup y = some .cell → ∃ c, cells.lookup y = some c) (hlen : σ.length = N.length)
    (h0 : ∀ c ∈ cellsL cells sc, H1 c = none ∧ ∃ v, (os c).data = .cell v) (hv : ∀ (i : Nat) y c v, sc.names.lookup y = some .cell → cells.lookup y = some c → N[i]? = some y → σ[i]? = some (some v) → ∃ u, (os c).data = .cell (some u) ∧ RelV v u)
    {f c' : Addr} {dv : Option Addr} (hdv : dv.isSome = dvb) (hf : FnAtH H1 f ⟨qual, params, body, scope, cloFrom cells scope.names [], c', dv⟩) {Pok : Dt → Prop} {Pe : Str → List Dt → Prop}
    (hev : ∀ F H E, XOk ⟨B.K, F, H, none, []⟩ E (fun C fds => ∃ code xs, ErrD B.K IE MI C fds code xs ∧ Pe code xs) → Ev ⟨B.K, F, H, none, []⟩ (tb E) (es.map seeS) Pok) :
    AskOk P w B.K mg base IE MI (k + 1) F1 (trk H1 (cellsL cells sc) os) (cellsL cells sc) f Pok Pe := by
  have hfree : ∀ y ∈ scope.names, y.2 = .free → ∃ c, cells.lookup y.1 = some c := fun y hy e => has _ (LL.inn.own y hy e)
  have inC : ∀ c ∈ (cloFrom cells scope.names []).map (·.2), c ∈ cellsL cells sc := fun c hc => by
    obtain ⟨⟨y, c1⟩, hm, rfl⟩ := List.mem_map.mp hc
    rcases cloFrom_mem hm with h | ⟨h1, h2⟩
    · cases h
    · obtain ⟨c2, hc2⟩ := hfree _ h1 rfl
      have e : c1 = c2 := by
        rw [h2, show cells.lookup y = some c2 from hc2]
        rfl
      have ky := LL.inn.own _ h1 rfl
      refine List.mem_filterMap.mpr ⟨(y, .cell), PySem.mem_of_lookup ky, ?_⟩
      rw [e]; exact hc2
  have nC : ∀ {b o}, H1 b = some o → b ∉ cellsL cells sc := fun {b o} e z => by rw [(h0 b z).1] at e; cases e
  have W : LamW ⟨qual, params, body, scope, cloFrom cells scope.names [], c', dv⟩ := {
    kind := LL.kind
    co := LL.co
    gen := LL.gen
    cell := LL.cell
    b0 := fun e pm ctv => by
      have e : dv = none := e
      subst e
      exact LL.b0 hdv.symm _ _ pm ctv
    b1 := fun t e => by
      have e : dv = some t := e
      subst e
      obtain ⟨x, hx, hb⟩ := LL.b1 hdv.symm
      exact ⟨x, hx, fun pm ctv v => hb _ _ t pm ctv v⟩
    inj := fun x y c h1 h2 => inj x y c (NdefX.clo_cm hfree h1) (NdefX.clo_cm hfree h2)
    has := fun y hy e => by
      have hm := cloFrom_has (cells := cells) (acc := []) (show (y.1, NameKind.free) ∈ scope.names by rw [← e]; exact hy)
      obtain ⟨c, hc⟩ := mem_lookup hm
      exact ⟨c, hc⟩ }
  refine ⟨⟨_, by rw [trk_out (nC hf.1)]; exact hf.1⟩, fun A outer s H Q E F hr e0 hF1 hFH hG hZ hQ hE => ?_⟩
  have up : ∀ {b o}, H1 b = some o → H b = some o := fun {b o} e => hG b o (by rw [trk_out (nC e)]; exact e)
  have hcs : ∀ c ∈ cellsL cells sc, H c = some (CellX c (os c)) := fun c hc => hG c _ (trk_in hc)
  have hFc : ∀ c ∈ (cloFrom cells scope.names []).map (·.2), F c = none := fun c hc => hZ c (inC c hc)
  have sF : Same F (untrk H ((cloFrom cells scope.names []).map (·.2))) := same_un hFH hFc
  have S2 := S.see hF1 sF
  -- back: the cells are known again
  have back : ∀ {F' H'}, Same F F' → (∀ c, untrk H ((cloFrom cells scope.names []).map (·.2)) c ≠ none → F c = none → F' c = none) → Same F' H' → (∀ c o, untrk H ((cloFrom cells scope.names []).map (·.2)) c = some o → H' c = some o) → (∀ c ∈ (cloFrom cells scope.names []).map (·.2), H' c = none) →
      (∀ c, H c ≠ none → F c = none → F' c = none) ∧ Same F' (trk H' ((cloFrom cells scope.names []).map (·.2)) os) ∧ Same H (trk H' ((cloFrom cells scope.names []).map (·.2)) os) := fun {F' H'} g1 g2 g3 g4 nc => by
    have nF' : ∀ c ∈ (cloFrom cells scope.names []).map (·.2), F' c = none := fun c hc => same_none g3 (nc c hc)
    refine ⟨fun c h1 h2 => ?_, fun c o e => ?_, fun c o e => ?_⟩
    · by_cases hc : c ∈ (cloFrom cells scope.names []).map (·.2)
      · exact nF' c hc
      · exact g2 c (by rw [untrk_out hc]; exact h1) h2
    · have hc : c ∉ (cloFrom cells scope.names []).map (·.2) := fun z => by rw [nF' c z] at e; cases e
      rw [trk_out hc]; exact g3 c o e
    · by_cases hc : c ∈ (cloFrom cells scope.names []).map (·.2)
      · rw [trk_in hc, ← hcs c (inC c hc)]; exact e
      · rw [trk_out hc]; exact g4 c o (by rw [untrk_out hc]; exact e)
  refine lam_run (N := N') (σ := σ) (os := os) (tb := tb) W (fun A outer s H E hr => LL.run _ _ _ f A outer s H E hr) hr e0 ⟨up hf.1, up hf.2.1, fun t e => up (hf.2.2 t e)⟩ (fun c hc => ⟨hcs c (inC c hc), (h0 c (inC c hc)).2⟩) (fun i y v e1 e2 e3 => ?_) (by rw [hlen]; exact LL.inn.len.symm) ?_
  · obtain ⟨k1, k2⟩ := LL.inn.vis i y e1 e3
    have hy : (y, NameKind.free) ∈ scope.names := PySem.mem_of_lookup k2
    have kc := LL.inn.own _ hy rfl
    obtain ⟨c, hc⟩ := has y kc
    obtain ⟨u, hu1, hu2⟩ := hv i y c v kc hc k1 e2
    exact ⟨k2, c, u, NdefX.clo_has hfree hy hc, hu1, hu2⟩
  · refine hev F _ _ ?_ σ F _ S2 _ ?_
    · intro F' H' C dd fs fds s1 s2 s3 s4 hdd hR hp nc
      obtain ⟨code, xs, hD, hPe⟩ := hp
      obtain ⟨b1, b2, b3⟩ := back s1 s3 s2 (fun c o e => s4 c o e off_nil) nc
      exact hE C dd fs fds code xs F' _ s1 b1 b2 b3 hdd hR hD hPe
    · intro v d F' H' g r p nc
      obtain ⟨b1, b2, b3⟩ := back g.s1 g.nw g.s2 (fun c o e => g.kp c o off_nil e) nc
      exact hQ v d F' _ g.s1 b1 b2 b3 r p

/-! ### outcomes -/
abbrev Out := Option (Str × List Dt)
def whyO : Out → Dt
  | none => .tup [.str "", .non]
  | some (c, xs) => .tup [.str c, .tup xs]
def okP (o : Out) : Dt → Prop := fun _ => o = none
def errP (o : Out) : Str → List Dt → Prop := fun c xs => o = some (c, xs)
theorem whyD_out {o : Out} {d : Dt} (h : whyD (okP o) (errP o) d) : d = whyO o := by
  rcases h with ⟨⟨x, h1⟩, h2⟩ | ⟨c, xs, h1, _, h2⟩
  · have h1 : o = none := h1
    subst h1; exact h2
  · have h1 : o = some (c, xs) := h1
    subst h1; exact h2
def AskAll (R : Addr × LF → Out → Prop) : List (Addr × LF) → List Out → Prop
  | [], [] => True
  | p :: ps, o :: os => R p o ∧ AskAll R ps os
  | _, _ => False
theorem askAll_as {R : Addr × LF → Out → Prop} {M : Addr × (Dt → Prop) × (Str → List Dt → Prop) → Prop} (hR : ∀ p o, R p o → M (p.1, okP o, errP o)) : ∀ {ls : List (Addr × LF)} {os : List Out}, AskAll R ls os → ∃ as : List (Addr × (Dt → Prop) × (Str → List Dt → Prop)), (as.map fun q => (V.ref q.1)) = (ls.map fun p => V.ref p.1) ∧ as.length = os.length ∧ (∀ q ∈ as, M q) ∧
    ∀ ds : List Dt, ds.length = as.length → (∀ (i : Nat) q d, as[i]? = some q → ds[i]? = some d → whyD q.2.1 q.2.2 d) → ds = os.map whyO
  | [], [], _ => ⟨[], rfl, rfl, (fun _ z => nomatch z), fun ds h _ => List.length_eq_zero_iff.mp h⟩
  | p :: ps, o :: os, ⟨h1, h2⟩ => by
    obtain ⟨as, a1, a2, a3, a4⟩ := askAll_as hR h2
    refine ⟨(p.1, okP o, errP o) :: as, by simp only [List.map_cons, a1], by simp only [List.length_cons, a2], fun q hq => ?_, fun ds hl hw => ?_⟩
    · rcases List.mem_cons.mp hq with e | hq
      · rw [e]; exact hR p o h1
      · exact a3 q hq
    · cases ds with
      | nil => simp at hl
      | cons d ds =>
        have e1 := whyD_out (hw 0 _ d rfl rfl)
        have e2 := a4 ds (by simpa using hl) fun i q d' k1 k2 => hw (i + 1) q d' (by simpa using k1) (by simpa using k2)
        rw [e1, e2]; rfl
section
variable {P : Program} {w : World} {mg : Str → Option Value} {base : Heap} {IE MI : Addr} {k : Nat} {B : Bs} {es : List Sl}
theorem el_var {i : Nat} {a : Addr} {ls : List (Addr × LF)} {Pl : List (Addr × LF) → Prop} (hi : es[i]? = some (.fs a ls)) (hp : Pl ls) : EvL B (tVar i) es Pl := fun σ F H S Q q => by
  obtain ⟨o, h1, h2, h3, h4⟩ := S.slot hi
  subst h2
  exact ⟨.ref a, h1, q a ls F H S.refl h3 h4 hp⟩
/-- _law_whys(..): each question is answered -/
theorem ev_whys {cells : List (Str × Addr)} {N : List Str} {sc : Scope} {te : TE} {Pd : Dt → Prop} (h : EvL B te es fun ls => ∃ outs : List Out, outs.length < 100000 ∧
      (∀ σ F1 H1 os, Stt B es σ F1 H1 → (∀ x y c, cells.lookup x = some c → cells.lookup y = some c → x = y) → (∀ y, sc.names.lookup y = some .cell → ∃ c, cells.lookup y = some c) → σ.length = N.length → (∀ c ∈ cellsL cells sc, H1 c = none ∧ ∃ v, (os c).data = .cell v) →
        (∀ (i : Nat) y c v, sc.names.lookup y = some .cell → cells.lookup y = some c → N[i]? = some y → σ[i]? = some (some v) → ∃ u, (os c).data = .cell (some u) ∧ RelV v u) → (∀ p ∈ ls, FnAtH H1 p.1 p.2) →
        AskAll (fun p o => AskOk P w B.K mg base IE MI k F1 (trk H1 (cellsL cells sc) os) (cellsL cells sc) p.1 (okP o) (errP o)) ls outs) ∧ Pd (.lst (outs.map whyO))) :
    Ev B (tCallTr cells N sc (spWhys P w B.K mg base IE MI k) (tCons te tNil)) es Pd := fun σ F H S Q q =>
  h σ F H S _ fun a ls F1 H1 g1 hFa hls ⟨outs, hlo, hask, hp⟩ => by
    intro os inj has hlen h0 hv
    have S1 := S.go g1
    obtain ⟨as, a1, a2, a3, a4⟩ := askAll_as (M := fun q => AskOk P w B.K mg base IE MI k F1 (trk H1 (cellsL cells sc) os) (cellsL cells sc) q.1 q.2.1 q.2.2) (fun p o h => h) (hask σ F1 H1 os S1 inj has hlen h0 hv hls)
    have nC : ∀ {b o}, H1 b = some o → b ∉ cellsL cells sc := fun {b o} e z => by rw [(h0 b z).1] at e; cases e
    have F1C : ∀ c ∈ cellsL cells sc, F1 c = none := fun c hc => same_none S1.sub (h0 c hc).1
    have sG : Same F1 (trk H1 (cellsL cells sc) os) := fun c o e => by rw [trk_out (nC (S1.sub c o e))]; exact S1.sub c o e
    refine ⟨a, F1, trk H1 (cellsL cells sc) os, cellsL cells sc, as, rfl, by rw [a1]; exact hFa, by rw [a2]; exact hlo, sG, Same.refl _, fun c hc => ⟨by rw [trk_in hc]; simp, F1C c hc⟩, a3, fun v ds F' H' s1 nw s2 s3 r hl hw => ?_⟩
    have F'C : ∀ c ∈ cellsL cells sc, F' c = none := fun c hc => nw c (by rw [trk_in hc]; simp) (F1C c hc)
    have up : ∀ {b o}, H1 b = some o → untrk H' (cellsL cells sc) b = some o := fun {b o} e => by
      rw [untrk_out (nC e)]
      exact s3 b o (by rw [trk_out (nC e)]; exact e)
    have e := a4 ds hl hw
    subst e
    refine ⟨fun c hc => s3 c _ (trk_in hc), q v _ F' _ (g1.trans (S1.pure s1 (same_un s2 F'C) (fun c h1 h2 => nw c ?_ h2) fun c o e => up e)) r hp⟩
    cases e : H1 c with
    | none => exact absurd e h1
    | some o => rw [trk_out (nC e), e]; simp
end
end Y
/-! Y35: defs that make lambdas; looks at the texts by decide; the end with tables. -/
namespace Y
open PySem PySem.Spec PyProof.Rows L2
/-- a def whose code object stands at c -/
structure FunC (K : PySem.W.Frag) (x qual : Str) (st : Stmt) (f : Addr) (fd : FuncData) (c : Addr) : Prop where
  ex : ∃ (oc : Value) (od : Option Addr) (kV doc pm : Value) (an : Option Addr) (ct : Value) (osl : Array (Option Value)),
    fd = PySem.W.fnOf x qual (defArgs st) (defBody st) (defScope st) .none kV doc pm an (.ref c) ct ∧ K.lookup f = some ⟨oc, od, .func fd, osl⟩ ∧ PySem.W.codeIn K (.ref c) qual = true
  kp : PySem.W.keepIn K (.ref f) = true
section
variable {P : Program} {w : World} {K : PySem.W.Frag} {mg : Str → Option Value} {base : Heap}
theorem FunC.ok {x qual : Str} {st : Stmt} {f c : Addr} {fd : FuncData} {N ps : List Str} {k : Nat} {sp : Sp} (F : FunC K x qual st f fd c) (S : FnScope N ps (defScope st)) (len : ∀ vs H Q E, sp vs H Q E → vs.length = ps.length)
    (hbody : ∀ (A : Around) (outer : List Env) (s : Shared) (H : Hp) (vs : List V) (Q : VK) (E : XK), Room k (A.deeper (envOfC qual (defScope st) s.heap.objs.size f (.ref c))) → sp vs H Q E →
      ∃ t, PSs (cxOf CX0 P w K mg base N qual (defScope st) f (.ref c) A outer s H E).nox (defBody st) t ∧ t { nx := fun _ H' => Q .non H', rt := Q } (L2.start N vs) H) : FnOk P w K mg base CX0 (k + 1) f fd ps sp := by
  obtain ⟨oc, od, kV, doc, pm, an, ct, osl, rfl, lk, hcd⟩ := F.ex
  refine fn_of lk hcd S len fun A outer s H vs Q E hr hsp => ?_
  obtain ⟨t, h, q⟩ := hbody A outer s H vs Q E hr hsp
  exact ⟨t, h.nox, q⟩
theorem FunC.binds {x qual : Str} {st : Stmt} {f c : Addr} {fd : FuncData} {ps : List Str} (F : FunC K x qual st f fd c)
    (h : ∀ (kV doc pm : Value) (an : Option Addr) (cdv ct : Value) (us : List Value), us.length = ps.length → bindArgs (PySem.W.fnOf x qual (defArgs st) (defBody st) (defScope st) .none kV doc pm an cdv ct) ⟨us, []⟩ = pure (ps.zip us)) : Binds K fd ps [] := by
  obtain ⟨oc, od, kV, doc, pm, an, ct, osl, rfl, lk, hcd⟩ := F.ex
  exact .all (h kV doc pm an _ ct)
theorem funC_mk {x qual : Str} {st : Stmt} {f c : Addr} {oc : Value} {od an : Option Addr} {osl : Array (Option Value)} {kV doc pm ct : Value} (l : K.lookup f = some ⟨oc, od, .func (PySem.W.fnOf x qual (defArgs st) (defBody st) (defScope st) .none kV doc pm an (.ref c) ct), osl⟩)
    (c' : PySem.W.codeIn K (.ref c) qual = true) (k : PySem.W.keepIn K (.ref f) = true) : FunC K x qual st f (PySem.W.fnOf x qual (defArgs st) (defBody st) (defScope st) .none kV doc pm an (.ref c) ct) c := ⟨⟨oc, od, kV, doc, pm, an, ct, osl, rfl, l, c'⟩, k⟩
end
/-- all but the tables (and the drawing) stays -/
def spDT (K : PySem.W.Frag) (T : List (Addr × Str)) (Pre : List Dt → Prop) (Post : List Dt → Dt → Prop) : Sp := fun vs H Q _ => ∃ F ds, Same F H ∧ RpAll K F vs ds ∧ Pre ds ∧ LamX.Tabs T H ∧ (∀ p ∈ T, F p.1 = none) ∧
  ∀ v d F' H', Same F F' → (∀ c, H c ≠ none → F c = none → F' c = none) → Same F' H' → (∀ c o, (∀ p ∈ T, p.1 ≠ c) → H c = some o → H' c = some o) → LamX.Tabs T H' → Rp K F' v d → Post ds d → Q v H'
def spBT (K : PySem.W.Frag) (T : List (Addr × Str)) (Pre : List Dt → Prop) (Post : List Dt → Dt → Prop) : Sp := fun vs H Q _ => ∃ b ws F ds, vs = .ref b :: ws ∧ Same F H ∧ BagAt K F H b ∧ RpAll K F ws ds ∧ Pre ds ∧ LamX.Tabs T H ∧ (∀ p ∈ T, F p.1 = none) ∧
  ∀ v d F' H', Same F F' → (∀ c, H c ≠ none → F c = none → F' c = none) → Same F' H' → (∀ c o, c ≠ b → (∀ p ∈ T, p.1 ≠ c) → H c = some o → H' c = some o) → LamX.Tabs T H' → BagAt K F' H' b → Rp K F' v d → Post ds d → Q v H'
section
variable {B : Bs} {es : List Sl}
theorem Stt.bagT {σ : L2.St} {F H : Hp} (S : Stt B es σ F H) {b : Addr} (hb : B.bag = some b) : ∀ p ∈ B.T, p.1 ≠ b := fun p hp e => by
  obtain ⟨_, vs, _, k, _⟩ := S.bg b hb
  obtain ⟨ps, k2, _⟩ := S.tb p hp
  rw [e, k] at k2; cases k2
theorem Stt.goT {σ : L2.St} {F H F' H' : Hp} (S : Stt B es σ F H) (s1 : Same F F') (nw : ∀ c, H c ≠ none → F c = none → F' c = none) (s2 : Same F' H') (kp : ∀ c o, (∀ p ∈ B.T, p.1 ≠ c) → H c = some o → H' c = some o) (t : LamX.Tabs B.T H') : Go B F H F' H' :=
  ⟨s1, s2, nw, fun c o h e => kp c o h.2 e, fun b hb => by
    obtain ⟨h1, vs, xs, h2, h3, h4⟩ := S.bg b hb
    exact ⟨nw b (by rw [h2]; simp) h1, vs, xs, kp b _ (S.bagT hb) h2, h3.mono s1, h4⟩, t⟩
theorem ev_callT {Pre : List Dt → Prop} {Post : List Dt → Dt → Prop} {E : XK} {ta : TA} {P : Dt → Prop} (h : EvA B ta es fun ds => Pre ds ∧ ∀ d, Post ds d → P d) : Ev B (tCall (spDT B.K B.T Pre Post) [] E ta) es P := fun σ F H S Q q =>
  h σ F H S _ fun vs ds F1 H1 g1 r1 ⟨p1, p2⟩ => by
    rw [List.append_nil]
    have S1 := S.go g1
    exact ⟨F1, ds, g1.s2, r1, p1, S1.tb, S1.tn, fun v d F2 H2 s1 nw s2 kp t r2 p3 => q v d F2 H2 (g1.trans (S1.goT s1 nw s2 kp t)) r2 (p2 d p3)⟩
theorem ev_callBT {Pre : List Dt → Prop} {Post : List Dt → Dt → Prop} {E : XK} {ta : TA} {P : Dt → Prop} {i : Nat} {b : Addr} (hb : B.bag = some b) (hi : es[i]? = some (.r (.ref b))) (h : EvA B ta es fun ds => Pre ds ∧ ∀ d, Post ds d → P d) :
    Ev B (tCall (spBT B.K B.T Pre Post) [] E (tCons (tVar i) ta)) es P := fun σ F H S Q q => ⟨_, S.raw hi, h σ F H S _ fun vs ds F1 H1 g1 r1 ⟨p1, p2⟩ => by
    show spBT B.K B.T Pre Post ((V.ref b :: vs) ++ []) H1 Q E
    rw [List.append_nil]
    have S1 := S.go g1
    refine ⟨b, vs, F1, ds, rfl, g1.s2, g1.bg b hb, r1, p1, S1.tb, S1.tn, fun v d F2 H2 s1 nw s2 kp t hB r2 p3 => q v d F2 H2 (g1.trans ⟨s1, s2, nw, fun c o hc ho => kp c o (fun e => hc.1 (by rw [e]; exact hb)) hc.2 ho, fun b' hb' => ?_, t⟩) r2 (p2 d p3)⟩
    rw [hb] at hb'
    cases hb'
    exact hB⟩
end
section
variable {P : Program} {w : World} {K : PySem.W.Frag} {mg : Str → Option Value} {base : Heap} {x qual : Str} {st : Stmt} {f c : Addr} {fd : FuncData} {N ps : List Str} {k : Nat} {Pre : List Dt → Prop} {Post : List Dt → Dt → Prop} {T : List (Addr × Str)}
theorem fn_dataT (G : FunC K x qual st f fd c) (S : FnScope N ps (defScope st)) (hl : ∀ ds, Pre ds → ds.length = ps.length)
    (hb : ∀ (A : Around) (outer : List Env) (s : Shared) (H : Hp) (E : XK), Room k (A.deeper (envOfC qual (defScope st) s.heap.objs.size f (.ref c))) →
      ∃ t, PSs (cxOf CX0 P w K mg base N qual (defScope st) f (.ref c) A outer s H E).nox (defBody st) t ∧ ∀ F0 H0 ds, Pre ds → Sm ⟨K, F0, H0, none, T⟩ t (env0 N ds) { nx := fun _ => Post ds .non, bk := fun _ => False, ct := fun _ => False, rt := fun _ => Post ds }) :
    FnOk P w K mg base CX0 (k + 1) f fd ps (spDT K T Pre Post) := by
  refine G.ok S (fun vs H Q E h => ?_) (fun A outer s H vs Q E hr h => ?_)
  · obtain ⟨F, ds, _, r, hp, _⟩ := h
    rw [r.length]; exact hl ds hp
  · obtain ⟨F, ds, hs, r, hp, hT, hn, q⟩ := h
    obtain ⟨t, hd, hm⟩ := hb A outer s H E hr
    have off : ∀ c, (∀ p ∈ T, p.1 ≠ c) → (⟨K, F, H, none, T⟩ : Bs).off c := fun c h => ⟨(fun z => nomatch z), h⟩
    refine ⟨t, hd, hm F H ds hp _ F H _ (start_stt hs r (fun _ z => nomatch z) hT hn) (fun es' σ' F' H' S' s' p => ?_) (fun _ _ _ _ _ _ z => z.elim) (fun _ _ _ _ _ _ z => z.elim) (fun v d es' σ' F' H' S' s' rv p => ?_) (fun _ _ _ _ _ _ _ _ _ _ _ _ _ _ z => z.elim)⟩
    · exact q _ _ F' H' s' S'.ou S'.sub (fun c o h e => S'.fr c o e (off c h)) S'.tb .non p
    · exact q _ _ F' H' s' S'.ou S'.sub (fun c o h e => S'.fr c o e (off c h)) S'.tb rv p
theorem start_sttBT {F H : Hp} {vs : List V} {ds : List Dt} {b : Addr} (s : Same F H) (r : RpAll K F vs ds) (hb : BagAt K F H b) (hT : LamX.Tabs T H) (hn : ∀ p ∈ T, F p.1 = none) : Stt ⟨K, F, H, some b, T⟩ (env1 N b ds) (L2.start N (.ref b :: vs)) F H := by
  have S := start_stt (K := K) (F := F) (H := H) (vs := .non :: vs) (ds := .non :: ds) (N := N) (bag := some b) (T := T) s (.cons .non r) (fun b' e => by cases e; exact hb) hT hn
  exact S.set (i := 0) (e := .r (.ref b)) (o := some (.ref b)) rfl fun _ _ e => nomatch e
theorem fn_lawC {q : Str} {T : List (Addr × Str)} (G : FunC K x qual st f fd c) (S : FnScope N [q] (defScope st))
    (hb : ∀ (A : Around) (outer : List Env) (s : Shared) (H : Hp) (E : XK), Room k (A.deeper (envOfC qual (defScope st) s.heap.objs.size f (.ref c))) →
      ∃ t, PSs (cxOf CX0 P w K mg base N qual (defScope st) f (.ref c) A outer s H E).nox (defBody st) (tSeq (tAsg (tCall (spBag K) [] E0 (tCons (tVar 0) tNil)) (gName 1)) t) ∧ ∀ F0 H0 a b, Sm ⟨K, F0, H0, some b, T⟩ t (.r (.ref a) :: .r (.ref b) :: List.replicate (N.length - 2) Sl.no) { nx := fun _ => False, bk := fun _ => False, ct := fun _ => False, rt := fun _ d => d = .bl true }) (hN : 2 ≤ N.length) :
    FnOk P w K mg base CX0 (k + 1) f fd [q] (spLawT K T) := by
  refine G.ok S (fun vs H Q E h => ?_) (fun A outer s H vs Q E hr h => ?_)
  · obtain ⟨a, ns, rfl, _⟩ := h; rfl
  · obtain ⟨a, ns, rfl, hS, hT, _, q⟩ := h
    obtain ⟨t, hd, hm⟩ := hb A outer s H E hr
    refine ⟨_, hd, .ref a, rfl, a, ns, rfl, hS, fun b F H' hn s1 s2 hn0 hB => ?_⟩
    have S0 := start_raw (K := K) (H := H') (a := a) N
    have hF : ∀ p ∈ T, F p.1 = none := fun p hp => hn0 p.1 (by obtain ⟨ps, k, _⟩ := hT p hp; rw [k]; simp)
    have S1 : Stt ⟨K, F, H', some b, T⟩ (.r (.ref a) :: List.replicate (N.length - 1) Sl.no) (L2.start N [.ref a]) F H' :=
      ⟨s1, Same.refl F, fun _ _ h => h, fun c o h _ => h, fun c e => by cases e; exact hB, hT.ext s2, hF, S0.len, fun i e o h1 h2 => by
        have := S0.ok i e o h1 h2
        rcases List.mem_cons.mp (List.mem_of_getElem? h1) with h | h
        · rw [h] at this ⊢; exact this
        · rw [List.eq_of_mem_replicate h] at this ⊢; exact this, (fun i c xs h1 => by
        rcases List.mem_cons.mp (List.mem_of_getElem? h1) with h | h
        · cases h
        · cases List.eq_of_mem_replicate h), S0.dis, (fun i c C dx ns xs bs h1 => by
        rcases List.mem_cons.mp (List.mem_of_getElem? h1) with h | h
        · cases h
        · cases List.eq_of_mem_replicate h)⟩
    have S2 := S1.set (i := 1) (e := .r (.ref b)) (o := some (.ref b)) rfl fun _ _ e => nomatch e
    have e2 : (Sl.r (.ref a) :: List.replicate (N.length - 1) Sl.no).set 1 (.r (.ref b)) = .r (.ref a) :: .r (.ref b) :: List.replicate (N.length - 2) Sl.no := by
      obtain ⟨m, hm⟩ : ∃ m, N.length = m + 2 := ⟨N.length - 2, by omega⟩
      rw [hm]
      simp [List.replicate_succ]
    rw [e2] at S2
    exact hm F H' a b _ F H' _ S2 (fun _ _ _ _ _ _ z => z.elim) (fun _ _ _ _ _ _ z => z.elim) (fun _ _ _ _ _ _ z => z.elim) (fun v d es' σ' F' H2 S' s' rv e => by subst e; cases rv; exact q H2) (fun _ _ _ _ _ _ _ _ _ _ _ _ _ _ z => z.elim)
theorem fn_bagT (G : FunC K x qual st f fd c) (S : FnScope N ps (defScope st)) (hl : ∀ ds, Pre ds → ds.length + 1 = ps.length)
    (hb : ∀ (A : Around) (outer : List Env) (s : Shared) (H : Hp) (E : XK), Room k (A.deeper (envOfC qual (defScope st) s.heap.objs.size f (.ref c))) →
      ∃ t, PSs (cxOf CX0 P w K mg base N qual (defScope st) f (.ref c) A outer s H E).nox (defBody st) t ∧ ∀ F0 H0 b ds, Pre ds → Sm ⟨K, F0, H0, some b, T⟩ t (env1 N b ds) { nx := fun _ => Post ds .non, bk := fun _ => False, ct := fun _ => False, rt := fun _ => Post ds }) :
    FnOk P w K mg base CX0 (k + 1) f fd ps (spBT K T Pre Post) := by
  refine G.ok S (fun vs H Q E h => ?_) (fun A outer s H vs Q E hr h => ?_)
  · obtain ⟨b, ws, F, ds, rfl, _, _, r, hp, _⟩ := h
    rw [List.length_cons, r.length]; exact hl ds hp
  · obtain ⟨b, ws, F, ds, rfl, hs, hB, r, hp, hT, hn, q⟩ := h
    obtain ⟨t, hd, hm⟩ := hb A outer s H E hr
    have off : ∀ c, c ≠ b → (∀ p ∈ T, p.1 ≠ c) → (⟨K, F, H, some b, T⟩ : Bs).off c := fun c h h2 => ⟨fun e => h (Option.some.inj e).symm, h2⟩
    refine ⟨t, hd, hm F H b ds hp _ F H _ (start_sttBT hs r hB hT hn) (fun es' σ' F' H' S' s' p => ?_) (fun _ _ _ _ _ _ z => z.elim) (fun _ _ _ _ _ _ z => z.elim) (fun v d es' σ' F' H' S' s' rv p => ?_) (fun _ _ _ _ _ _ _ _ _ _ _ _ _ _ z => z.elim)⟩
    · exact q _ _ F' H' s' S'.ou S'.sub (fun c o hc h e => S'.fr c o e (off c hc h)) S'.tb (S'.bg b rfl) .non p
    · exact q _ _ F' H' s' S'.ou S'.sub (fun c o hc h e => S'.fr c o e (off c hc h)) S'.tb (S'.bg b rfl) rv p
end
theorem opt_map {α : Type} {o : Option α} {xs : List α} (h : (o.map fun x => [x]) = some xs) : ∃ x, o = some x ∧ [x] = xs := by
  cases o with
  | none => cases h
  | some x => cases h; exact ⟨x, rfl, rfl⟩
/-- an outcome that is asked of a lambda's body: what it answers, what it lets out -/
theorem xok_err {B : Bs} {E : XK} {PE PE' : Addr → List (Str × Dt) → Prop} (h : XOk B E PE) (hp : ∀ C fds, PE' C fds → PE C fds) : XOk B E PE' := fun F H C dd fs fds s1 s2 s3 s4 hd hR p => h F H C dd fs fds s1 s2 s3 s4 hd hR (hp C fds p)
theorem roomH_mark {j k : Nat} {A : Around} {e : Option Value} (r : Room j A) (h : k ≤ j) : L2H.RoomH k (A.mark e) := ⟨by have := r.dp; show A.depth + 3 * k + 5 < _; omega, by have := r.un; show A.units + 16 * k + 200 < _; omega⟩
/-! ### looks by decide -/
def lamFreeB (sc scope : Scope) : Bool := scope.names.all fun y => !decide (y.2 = .free) || decide (sc.names.lookup y.1 = some .cell)
theorem lamFree_by {sc scope : Scope} (h : lamFreeB sc scope = true) : ∀ y ∈ scope.names, y.2 = .free → sc.names.lookup y.1 = some .cell := fun y hy e => by
  have := List.all_eq_true.mp h y hy
  simp only [Bool.or_eq_true, Bool.not_eq_true', decide_eq_true_eq, decide_eq_false_iff_not] at this
  exact this.resolve_left fun z => z e
def lamVisB (N N' : List Str) (scope : Scope) : Bool := (List.range N'.length).all fun i => match N'[i]? with
  | none => true
  | some y => match scope.names.lookup y with
    | some .local => false
    | some .cell => false
    | some .free => decide (N[i]? = some y)
    | _ => true
theorem lamIn_by {N N' : List Str} {sc scope : Scope} (hl : N'.length = N.length) (h1 : lamFreeB sc scope = true) (h2 : lamVisB N N' scope = true) : LamIn N N' sc scope := ⟨hl, lamFree_by h1, fun i y hi hv => by
  have hlt : i < N'.length := (List.getElem?_eq_some_iff.mp hi).1
  have q := List.all_eq_true.mp h2 i (List.mem_range.mpr hlt)
  rw [hi] at q
  rcases hv with e | e | e
  · simp only [e] at q; cases q
  · simp only [e] at q; cases q
  · simp only [e] at q
    exact ⟨of_decide_eq_true q, e⟩⟩
def noCellB (scope : Scope) : Bool := scope.names.all fun y => !decide (y.2 = .cell)
theorem noCell_by {scope : Scope} (h : noCellB scope = true) : ∀ y ∈ scope.names, y.2 ≠ .cell := fun y hy e => by
  have := List.all_eq_true.mp h y hy
  simp [e] at this
theorem tabs_one {T : List (Addr × Str)} (nd : (T.map (·.1)).Nodup) {P : Addr} {q : Str} (h : (P, q) ∈ T) : ∀ p ∈ T, p.1 = P → p.2 = q := by
  induction T with
  | nil => cases h
  | cons a l ih =>
    intro p hp e
    simp only [List.map_cons, List.nodup_cons] at nd
    rcases List.mem_cons.mp h with h | h
    · rcases List.mem_cons.mp hp with hp | hp
      · rw [hp, ← h]
      · exact absurd (List.mem_map.mpr ⟨p, hp, by rw [e, ← h]⟩) nd.1
    · rcases List.mem_cons.mp hp with hp | hp
      · have hm : p.1 ∈ l.map (·.1) := List.mem_map.mpr ⟨(P, q), h, e.symm⟩
        rw [hp] at hm
        exact absurd hm nd.1
      · exact ih nd.2 h p hp e
/-! ### what raising defs are handed -/
theorem passF {P : Program} {w : World} {X : Cx} : Passes (CXX P w) X (fun _ _ _ => False) := fun _ _ _ _ _ _ _ ⟨_, _, _, _, _, _, _, _, _, _, _, _, z⟩ => z.elim
theorem xok_no {B : Bs} : XOk B (fun _ _ _ => False) fun _ _ => False := fun _ _ _ _ _ _ _ _ _ _ _ _ z => z
theorem takesL {P : Program} {w : World} {K : PySem.W.Frag} {mg : Str → Option Value} {base : Heap} {N : List Str} {L : LF} {f : Addr} {A : Around} {outer : List Env} {s : Shared} {H : Hp} {E : XK} : Takes (lamC P w K mg base N L f A outer s H E) (fun cls d _ H => E cls d H) := takes_of rfl rfl rfl rfl
theorem passL {P : Program} {w : World} {K : PySem.W.Frag} {mg : Str → Option Value} {base : Heap} {N : List Str} {L : LF} {f : Addr} {A : Around} {outer : List Env} {s : Shared} {H : Hp} {E : XK} : Passes (CXX P w) (lamC P w K mg base N L f A outer s H E) E := passes_call takesL fun _ _ _ _ h => h
/-- a, b = x, y, one of the names captured -/
theorem sm_parC {B : Bs} {es : List Sl} {p : Po} {i j : Nat} {ta : TA} (h : EvA B ta es fun ds => ∃ x y, ds = [x, y] ∧ p.nx ((es.set i (.d x)).set j (.d y))) : Sm B (tAsg (tTup ta) (gTup B.K 2 (gCons (gName i) (gCons (gName j) gNil)))) es p :=
  sm_asg (ev_tup (h.imp fun ds ⟨x, y, e, q⟩ => by
    subst e
    exact ⟨by simp only [List.length_cons, List.length_nil]; decide, tg_tup rfl (tgs_cons (tg_name (tgs_cons (tg_name (tgs_nil q)))))⟩))
/-! ### the end -/
theorem tab_code {K : PySem.W.Frag} {x : Str} {f c P : Addr} {oc : Value} {od : Option Addr} {fd : FuncData} {osl : Array (Option Value)} (a : PySem.W.nsIn K mainGlobals x = some (some (.ref f))) (l : K.lookup f = some ⟨oc, od, .func fd, osl⟩) (t : PySem.W.tabIn K x = some (c, P)) : fd.code = .ref c := by
  unfold PySem.W.tabIn at t
  rw [a] at t
  simp only [l] at t
  split at t
  · rename_i c' hc
    rw [hc]
    split at t
    · split at t
      · cases t; rfl
      · cases t
    · cases t
  · cases t
end Y
/-! Y37: raising defs with defaults; an own list in a captured name. -/
namespace Y
open PySem PySem.Spec PyProof.Rows L2
section
variable {P : Program} {w : World} {K : PySem.W.Frag} {mg : Str → Option Value} {base : Heap} {x qual : Str} {pa : Arguments} {bd : List Stmt} {sc : Scope} {dvs : List V} {kws : List (Str × V)} {f : Addr} {fd : FuncData} {N ps : List Str} {k : Nat} {Pre : List Dt → Prop} {Post : List Dt → Dt → Prop} {Err : List Dt → Addr → List (Str × Dt) → Prop}
theorem fn_raiseD (G : FunD K x qual pa bd sc dvs kws f fd) (S : FnScope N ps sc) (hl : ∀ ds, Pre ds → ds.length = ps.length)
    (hb : ∀ (cdv : Value) (A : Around) (outer : List Env) (s : Shared) (H : Hp) (E : XK), Room k (A.deeper (envOfC qual sc s.heap.objs.size f cdv)) →
      ∃ t, PSs (cxOf (CXX P w) P w K mg base N qual sc f cdv A outer s H E) bd t ∧ ∀ F0 H0 ds, Pre ds → XOk ⟨K, F0, H0, none, []⟩ E (Err ds) → Sm ⟨K, F0, H0, none, []⟩ t (env0 N ds) { nx := fun _ => Post ds .non, bk := fun _ => False, ct := fun _ => False, rt := fun _ => Post ds }) :
    FnOk P w K mg base (CXX P w) (k + 1) f fd ps (spR K Pre Post Err) := by
  refine G.ok S (fun vs H Q E h => ?_) (fun cdv A outer s H vs Q E hr h => ?_)
  · obtain ⟨F, ds, _, r, hp, _⟩ := h
    rw [r.length]; exact hl ds hp
  · obtain ⟨F, ds, hs, r, hp, q, qe⟩ := h
    obtain ⟨t, hd, hm⟩ := hb cdv A outer s H E hr
    refine ⟨t, hd, hm F H ds hp (fun F' H' C dd fs fds s1 s2 s3 s4 hdd rf pe => qe C dd fs fds F' H' s1 s3 s2 (fun c o e => s4 c o e off_nil) hdd rf pe) _ F H _ (start_stt hs r (fun _ z => nomatch z) (fun _ z => nomatch z) (fun _ z => nomatch z)) (fun es' σ' F' H' S' s' p => ?_) (fun _ _ _ _ _ _ z => z.elim) (fun _ _ _ _ _ _ z => z.elim) (fun v d es' σ' F' H' S' s' rv p => ?_) (fun _ _ _ _ _ _ _ _ _ _ _ _ _ _ z => z.elim)⟩
    · exact q _ _ F' H' s' S'.ou S'.sub (fun c o e => S'.fr c o e off_nil) .non p
    · exact q _ _ F' H' s' S'.ou S'.sub (fun c o e => S'.fr c o e off_nil) rv p
end
/-- a, b = [..], y, a captured: a its own list -/
theorem sm_parODC {B : Bs} {es : List Sl} {p : Po} {i j : Nat} {t1 t2 : TE} (h : EvO B t1 es fun xs => Ev B t2 es fun y => ∀ a, p.nx ((es.set i (.own a xs)).set j (.d y))) : Sm B (tAsg (tTup (tCons t1 (tCons t2 tNil))) (gTup B.K 2 (gCons (gName i) (gCons (gName j) gNil)))) es p := fun σ F H D S n _ _ _ _ =>
  h σ F H S _ fun a vs xs F1 H1 g1 a0 a1 a2 r1 p1 => p1 σ F1 H1 (S.go g1) _ fun v y F2 H2 g2 r2 p2 => ⟨by simp only [List.length_cons, List.length_nil]; decide, fun q hq => by
    have S3 := (S.go g1).go g2
    have ha2 : H2 a = some (.lst vs) := g2.kp a _ (S.newB a0) a2
    have hF2 : F2 a = none := g2.nw a (by rw [a2]; simp) a1
    have g3 := S3.alloc (o := .tup [.ref a, v]) hq
    have ha3 := g3.kp a _ (S.newB a0) ha2
    have hF3 := g3.nw a (by rw [ha2]; simp) hF2
    have S4 := (S3.go g3).setO (i := i) hF3 ha3 (r1.mono (g2.s1.trans g3.s1)) (S.new0 a0) (S.newB a0) fun k c zs hk => S.newS a0 k zs hk
    exact ⟨q, [.ref a, v], rfl, SqT.of upd_same, rfl, .ref a, [v], rfl, v, [], rfl, rfl, n _ _ _ _ (S4.setD (r2.mono g3.s1)) ((g1.s1.trans g2.s1).trans g3.s1) (p2 a)⟩⟩
end Y
/-! Y38: list.index on a list of texts that is data; a text in a list of texts. -/
namespace Y
open PySem L2
theorem inD_text {z : Str} : ∀ {ls : List Str}, inD (.str z) (ls.map Dt.str) = decide (z ∈ ls)
  | [] => rfl
  | a :: l => by
    have e : inD (.str z) ((a :: l).map Dt.str) = ((a == z) || inD (.str z) (l.map Dt.str)) := rfl
    rw [e, inD_text (ls := l)]
    by_cases h : a = z
    · subst h; simp
    · simp [h, Ne.symm h]
theorem flat_texts : ∀ ls : List Str, (ls.map V.str).all flatV = true
  | [] => rfl
  | a :: l => by rw [List.map_cons, List.all_cons, flat_texts l]; rfl
theorem ev_listIndex {B : Bs} {es : List Sl} {i : Nat} {ys : List Str} {te : TE} {P : Dt → Prop} (hi : es[i]? = some (.d (.lst (ys.map Dt.str)))) (h : Ev B te es fun d => ∃ (z : Str) (j : Nat), d = .str z ∧ ys[j]? = some z ∧ (∀ m, m < j → ys[m]? ≠ some z) ∧ P (.int (j : Int))) : Ev B (tBM B.K "list" (rIndex B.K) (tVar i) (tCons te tNil)) es P := fun σ F H S Q q => by
  obtain ⟨v, h1, h2⟩ := S.dat hi
  cases h2 with
  | lst hl hr =>
    have e := hr.texts
    subst e
    refine ⟨_, h1, .inl ⟨rfl, _, SqL.of (S.sub _ _ hl)⟩, h σ F H S _ fun v d F1 H1 g1 r1 ⟨z, j, e, k1, k2, p⟩ => ?_⟩
    subst e
    cases r1
    refine ⟨_, ys.map V.str, .str z, j, .str z, rfl, rfl, SqL.of ((S.go g1).sub _ _ (g1.s1 _ _ hl)), rfl, flat_texts ys, by rw [List.getElem?_map, k1]; rfl, beq_self_eq_true z, fun m z' hm e => ?_, q _ _ F1 H1 g1 (.int _) p⟩
    rw [List.getElem?_map] at e
    cases ey : ys[m]? with
    | none => rw [ey] at e; cases e
    | some y =>
      rw [ey] at e
      cases e
      have hne : y ≠ z := fun e => k2 m hm (by rw [ey, e])
      exact beq_eq_false_iff_ne.mpr hne
/-- a list of four keeps its four places -/
theorem set4 {R : Dt → Prop} {a b c d x : Dt} (ha : R a) (hb : R b) (hc : R c) (hd : R d) (hx : R x) {k : Nat} (hk : k < 4) : ∃ a' b' c' d', [a, b, c, d].set k x = [a', b', c', d'] ∧ R a' ∧ R b' ∧ R c' ∧ R d' := by
  rcases k with _ | _ | _ | _ | k
  · exact ⟨_, _, _, _, rfl, hx, hb, hc, hd⟩
  · exact ⟨_, _, _, _, rfl, ha, hx, hc, hd⟩
  · exact ⟨_, _, _, _, rfl, ha, hb, hx, hd⟩
  · exact ⟨_, _, _, _, rfl, ha, hb, hc, hx⟩
  · omega
end Y
/-! Y39: __init__ that may raise. -/
namespace Y
open PySem PySem.Spec PyProof.Rows L2
def spIR (K : PySem.W.Frag) (C : Addr) (Pre : List Dt → Prop) (ns : List Str) (bs : List Bool) (Post : List Dt → List Dt → Prop) (Err : List Dt → Addr → List (Str × Dt) → Prop) : Sp := fun vs H Q E => ∃ x dx F ds, Same F H ∧ F x = none ∧ H x = some (.ins C dx []) ∧ RpAll K F vs (.ali x :: ds) ∧ Pre ds ∧
  (∀ fs xs F' H', Same F F' → (∀ c, H c ≠ none → F c = none → F' c = none) → Same F' H' → (∀ c o, c ≠ x → H c = some o → H' c = some o) → H' x = some (.ins C dx fs) → fs.map (·.1) = ns → RpAll K F' (fs.map (·.2)) xs →
    (∀ k : Nat, bs[k]? = some true → ∃ n b, fs[k]? = some (n, .ref b) ∧ b ≠ x ∧ H b = none) → Post ds xs → Q .non H') ∧
  (∀ C' dd fs fds F' H', Same F F' → (∀ c, c ≠ x → H c ≠ none → F c = none → F' c = none) → Same F' H' → (∀ c o, c ≠ x → H c = some o → H' c = some o) → F' dd = some (.xd fs) → RpF K F' fs fds → Err ds C' fds → E (.ref C') (some dd) H')
section
variable {P : Program} {w : World} {K : PySem.W.Frag} {mg : Str → Option Value} {base : Heap} {x qual : Str} {pa : Arguments} {bd : List Stmt} {sc : Scope} {dvs : List V} {kws : List (Str × V)} {f : Addr} {fd : FuncData} {N ps : List Str} {k : Nat} {C : Addr} {Pre : List Dt → Prop} {ns : List Str} {bs : List Bool} {Post : List Dt → List Dt → Prop} {Err : List Dt → Addr → List (Str × Dt) → Prop}
theorem fn_initR (G : FunD K x qual pa bd sc dvs kws f fd) (S : FnScope N ps sc) (hl : ∀ ds, Pre ds → ds.length + 1 = ps.length)
    (hb : ∀ (cdv : Value) (A : Around) (outer : List Env) (s : Shared) (H : Hp) (E : XK), Room k (A.deeper (PyProof.Rows.envOfC qual sc s.heap.objs.size f cdv)) →
      ∃ t, PSs (cxOf (CXX P w) P w K mg base N qual sc f cdv A outer s H E) bd t ∧ ∀ F0 H0 a dx ds, Pre ds → XOk ⟨K, F0, H0, none, []⟩ E (Err ds) → Sm ⟨K, F0, H0, none, []⟩ t (.ob a C dx [] [] [] :: (ds.map Sl.d ++ List.replicate (N.length - (ds.length + 1)) Sl.no)) { nx := fun es' => ∃ xs, es'[0]? = some (.ob a C dx ns xs bs) ∧ Post ds xs, bk := fun _ => False, ct := fun _ => False, rt := fun _ _ => False }) :
    FnOk P w K mg base (CXX P w) (k + 1) f fd ps (spIR K C Pre ns bs Post Err) := by
  refine G.ok S (fun vs H Q E h => ?_) (fun cdv A outer s H vs Q E hr h => ?_)
  · obtain ⟨x, dx, F, ds, _, _, _, r, hp, _⟩ := h
    rw [r.length, List.length_cons]; exact hl ds hp
  · obtain ⟨x, dx, F, ds, hs, hF, hx, r, hp, q, qe⟩ := h
    obtain ⟨t, hd, hm⟩ := hb cdv A outer s H E hr
    cases r with
    | @cons v0 ws _ _ r0 r =>
      cases r0
      let H0 : Hp := fun c => if c = x then none else H c
      have e0 : H0 x = none := if_pos rfl
      have e1 : ∀ c, c ≠ x → H0 c = H c := fun c hc => if_neg hc
      have S0 := start_stt (K := K) (F := F) (H := H) (vs := .non :: ws) (ds := .non :: ds) (N := N) (bag := none) hs (.cons .non r) (fun _ z => nomatch z) (T := []) (fun _ z => nomatch z) (fun _ z => nomatch z)
      have noO : ∀ (j : Nat) c zs, (Sl.d .non :: (ds.map Sl.d ++ List.replicate (N.length - (ds.length + 1)) Sl.no))[j]? = some (.own c zs) → False := fun j c zs hj => by
        have hm := List.mem_of_getElem? hj
        rcases List.mem_cons.mp hm with h | h
        · cases h
        · rcases List.mem_append.mp h with h | h
          · obtain ⟨d, _, e⟩ := List.mem_map.mp h; cases e
          · cases List.eq_of_mem_replicate h
      have noB : ∀ (j : Nat) a C dx ns xs bs, (Sl.d .non :: (ds.map Sl.d ++ List.replicate (N.length - (ds.length + 1)) Sl.no))[j]? = some (.ob a C dx ns xs bs) → False := fun j a C dx ns xs bs hj => by
        have hm := List.mem_of_getElem? hj
        rcases List.mem_cons.mp hm with h | h
        · cases h
        · rcases List.mem_append.mp h with h | h
          · obtain ⟨d, _, e⟩ := List.mem_map.mp h; cases e
          · cases List.eq_of_mem_replicate h
      have S2 : Stt ⟨K, F, H0, none, []⟩ (.ob x C dx [] [] [] :: (ds.map Sl.d ++ List.replicate (N.length - (ds.length + 1)) Sl.no)) (L2.start N (.ref x :: ws)) F H := by
        refine ⟨S0.sub, S0.s0, fun c h1 h2 => h2, fun c o h1 _ => ?_, (fun _ z => nomatch z), (fun _ z => nomatch z), (fun _ z => nomatch z), S0.len, fun i e o h1 h2 => ?_, fun i c zs h1 => ?_, fun i j c e zs ys hij h1 h2 => ?_, fun i c C' dx' ns' xs' bs' h1 => ?_⟩
        · have h1 : H0 c = some o := h1
          by_cases hc : c = x
          · rw [hc, e0] at h1; cases h1
          · rw [e1 c hc] at h1; exact h1
        · cases i with
          | zero =>
            cases h1
            cases h2
            exact ⟨[], rfl, hF, hx, rfl, .nil⟩
          | succ i => exact S0.ok (i + 1) e o h1 h2
        · cases i with
          | zero => cases h1
          | succ i => exact (noO (i + 1) c zs h1).elim
        · cases i with
          | zero => cases h1
          | succ i => exact (noO (i + 1) c zs h1).elim
        · cases i with
          | zero =>
            cases h1
            exact ⟨e0, off_nil, fun fs _ k hk => by simp at hk⟩
          | succ i => exact (noB (i + 1) _ _ _ _ _ _ h1).elim
      have hX : XOk ⟨K, F, H0, none, []⟩ E (Err ds) := fun F' H' C' dd fs fds s1 s2 s3 s4 hdd rf pe =>
        qe C' dd fs fds F' H' s1 (fun c hc h1 h2 => s3 c (by show H0 c ≠ none; rw [e1 c hc]; exact h1) h2) s2 (fun c o hc ho => s4 c o (by show H0 c = some o; rw [e1 c hc]; exact ho) off_nil) hdd rf pe
      refine ⟨t, hd, hm F H0 x dx ds hp hX _ F H _ S2 (fun es' σ' F' H' S' s' ⟨xs, hy, hP⟩ => ?_) (fun _ _ _ _ _ _ z => z.elim) (fun _ _ _ _ _ _ z => z.elim) (fun _ _ _ _ _ _ _ _ _ z => z.elim) (fun _ _ _ _ _ _ _ _ _ _ _ _ _ _ z => z.elim)⟩
      obtain ⟨fs, k1, k2, k3, k4, k5⟩ := S'.obj hy
      refine q fs xs F' H' s' (fun c h1 h2 => ?_) S'.sub (fun c o hc ho => S'.fr c o (by show H0 c = some o; rw [e1 c hc]; exact ho) off_nil) k3 k4 k5 (fun k hk => ?_) hP
      · by_cases hc : c = x
        · rw [hc]; exact k2
        · exact S'.ou c (by show H0 c ≠ none; rw [e1 c hc]; exact h1) h2
      · obtain ⟨n, b, us, z1, z2, z3⟩ := (S'.obw 0 x C dx ns xs bs hy).2.2 fs k3 k hk
        have hbx : b ≠ x := fun e => by rw [e, k2] at z3; cases z3
        exact ⟨n, b, z1, hbx, by have z2 : H0 b = none := z2; rw [e1 b hbx] at z2; exact z2⟩
end
section
variable {B : Bs} {es : List Sl} {C : Addr} {Pre : List Dt → Prop} {ns : List Str} {bs : List Bool} {Post : List Dt → List Dt → Prop} {Err : List Dt → Addr → List (Str × Dt) → Prop} {PE : Addr → List (Str × Dt) → Prop} {E : XK}
/-- an error out of the making of x -/
theorem made_err {σ : L2.St} {F H F' H' : Hp} {x dx C' dd : Addr} {fs : List (Str × V)} {fds : List (Str × Dt)} (hX : XOk B E PE) (S : Stt B es σ F H) (hx : H x = none) (hdx : H dx = none) (s1 : Same F F') (s2 : ∀ c, c ≠ x → (upd (upd H dx (.own x)) x (.ins C dx [])) c ≠ none → F c = none → F' c = none) (s3 : Same F' H')
    (s4 : ∀ c o, c ≠ x → (upd (upd H dx (.own x)) x (.ins C dx [])) c = some o → H' c = some o) (hd : F' dd = some (.xd fs)) (hr : RpF B.K F' fs fds) (hp : PE C' fds) : E (.ref C') (some dd) H' := by
  have g : Go B F H F' H' := S.pure s1 s3 (fun c hc hf => by
    have q : c ≠ x := fun q => hc (by rw [q]; exact hx)
    have q2 : c ≠ dx := fun q => hc (by rw [q]; exact hdx)
    exact s2 c q (by rw [upd_ne q, upd_ne q2]; exact hc) hf) fun c o e => by
    have q : c ≠ x := ne_of_none e hx
    have q2 : c ≠ dx := ne_of_none e hdx
    exact s4 c o q (by rw [upd_ne q, upd_ne q2]; exact e)
  have S3 := S.go g
  exact hX F' H' C' dd fs fds S3.s0 S3.sub S3.ou S3.fr hd hr hp
theorem ev_makeKR {n m : Nat} {gV : List V → List V → List V} {gD : List Dt → List Dt → List Dt} {ta tk : TA} {P : Dt → Prop}
    (hg : ∀ F vs ds zs as, RpAll B.K F vs ds → RpAll B.K F zs as → RpAll B.K F (gV vs zs) (gD ds as)) (hX : XOk B E PE)
    (h : EvA B ta es fun ds => EvA B tk es fun as => ds.length = n ∧ as.length = m ∧ ∃ ds', (∀ x, gD (.ali x :: ds) as = .ali x :: ds') ∧ Pre ds' ∧ (∀ xs, Post ds' xs → P (.obj C ns xs)) ∧ ∀ C' fds, Err ds' C' fds → PE C' fds) : Ev B (tMakeK C n m (spIR B.K C Pre ns bs Post Err) gV E ta tk) es P := fun σ F H S Q q =>
  h σ F H S _ fun vs ds F1 H1 g1 r1 p0 => p0 σ F1 H1 (S.go g1) _ fun zs as F2 H2 g2 r2 ⟨l1, l2, ds', e, p1, p2, p3⟩ => by
    have g := g1.trans g2
    have S2 := S.go g
    refine ⟨by rw [r1.length]; exact l1, by rw [r2.length]; exact l2, fun x dx hx hdx hne => ?_⟩
    refine ⟨x, dx, F2, ds', same_made g2.s2 hx hdx, same_none S2.sub hx, upd_same, ?_, p1, fun fs xs F3 H3 s1 s2 s3 s4 h1 h2 r3 _ p4 => ⟨rfl, ?_⟩, fun C' dd fs fds F3 H3 s1 s2 s3 s4 hd r3 p4 => made_err hX S2 hx hdx s1 s2 s3 s4 hd r3 (p3 C' fds p4)⟩
    · rw [← e x]
      exact hg F2 _ _ _ _ (.cons (.ali x) (r1.mono g2.s1)) r2
    · obtain ⟨hF, gg⟩ := made_go S2 hx hdx hne s1 s2 s3 s4 h1
      exact q _ _ _ H3 (g.trans gg) (.obj upd_same h2 rfl (r3.mono (same_upd hF))) (p2 xs p4)
theorem ev_makeR {dvs : List V} {dds : List Dt} {ta : TA} {P : Dt → Prop} (hd : ∀ F, RpAll B.K F dvs dds) (hX : XOk B E PE)
    (h : EvA B ta es fun ds => Pre (ds ++ dds) ∧ (∀ xs, Post (ds ++ dds) xs → P (.obj C ns xs)) ∧ ∀ C' fds, Err (ds ++ dds) C' fds → PE C' fds) : Ev B (tMake C (spIR B.K C Pre ns bs Post Err) dvs E ta) es P := fun σ F H S Q q =>
  h σ F H S _ fun vs ds F2 H2 g r1 ⟨p1, p2, p3⟩ => by
    have S2 := S.go g
    intro x dx hx hdx hne
    refine ⟨x, dx, F2, ds ++ dds, same_made g.s2 hx hdx, same_none S2.sub hx, upd_same, .cons (.ali x) (r1.app (hd F2)), p1, fun fs xs F3 H3 s1 s2 s3 s4 h1 h2 r3 _ p4 => ⟨rfl, ?_⟩, fun C' dd fs fds F3 H3 s1 s2 s3 s4 hd r3 p4 => made_err hX S2 hx hdx s1 s2 s3 s4 hd r3 (p3 C' fds p4)⟩
    obtain ⟨hF, gg⟩ := made_go S2 hx hdx hne s1 s2 s3 s4 h1
    exact q _ _ _ H3 (g.trans gg) (.obj upd_same h2 rfl (r3.mono (same_upd hF))) (p2 xs p4)
end
end Y
/-! Y40: x in a list, x of any depth. -/
namespace Y
open PySem L2
theorem un65 {k : Nat} {A : Around} (r : Room k A) : A.units + 65 < cLine := by have := r.un; omega
def rInDA (K : PySem.W.Frag) : R2 := rAlt (rInA K) (rInD K)
def rNiDA (K : PySem.W.Frag) : R2 := rAlt (rNiA K) (rNotInD K)
section
variable {X : Cx} {K : PySem.W.Frag}
theorem op_inDA (hu : X.A.units + 65 < cLine) (hK : X.K = K := by rfl) : OpR X (compareOp .In) (rInDA K) := by
  subst hK; exact op_alt op_inA (op_inD hu)
theorem op_niDA (hu : X.A.units + 65 < cLine) (hK : X.K = K := by rfl) : OpR X (compareOp .NotIn) (rNiDA K) := by
  subst hK; exact op_alt op_niA (op_notInD hu)
end
def inY (x : Dt) (ys : List Dt) : Bool := (pyAll ys).any fun z => PyData.eqv z x.py
section
variable {B : Bs} {es : List Sl}
theorem o_inDA {x : Dt} {ys : List Dt} {P : Dt → Prop} (hx : okD x = true) (hy : okD (.lst ys) = true) (hp : P (.bl (inY x ys))) : Op2 B (rInDA B.K) es x (.lst ys) P := fun σ F H v w S a b Q k => by
  unfold okD at hx hy
  rw [Bool.and_eq_true] at hx hy
  exact .inr ⟨_, _, a.dp S.sub hx.1, by have := b.dp S.sub hy.1; unfold Dt.py at this; exact this, hx.2, by have := hy.2; unfold Dt.py at this; exact this, k _ _ F H S.refl (.bl _) hp⟩
theorem o_niDA {x : Dt} {ys : List Dt} {P : Dt → Prop} (hx : okD x = true) (hy : okD (.lst ys) = true) (hp : P (.bl (!inY x ys))) : Op2 B (rNiDA B.K) es x (.lst ys) P := fun σ F H v w S a b Q k => by
  unfold okD at hx hy
  rw [Bool.and_eq_true] at hx hy
  exact .inr ⟨_, _, a.dp S.sub hx.1, by have := b.dp S.sub hy.1; unfold Dt.py at this; exact this, hx.2, by have := hy.2; unfold Dt.py at this; exact this, k _ _ F H S.refl (.bl _) hp⟩
end
def textIn (x : Dt) (ls : List Str) : Bool := match x with | .str z => decide (z ∈ ls) | _ => false
theorem inY_text {x : Dt} : ∀ {ls : List Str}, inY x (ls.map Dt.str) = textIn x ls
  | [] => by cases x <;> rfl
  | a :: l => by
    have e : inY x ((a :: l).map Dt.str) = (PyData.eqv (.str a) x.py || inY x (l.map Dt.str)) := by
      unfold inY
      rw [List.map_cons, pyAll, List.any_cons]
      unfold Dt.py
      rfl
    rw [e, inY_text (ls := l)]
    cases x with
    | str z =>
      unfold Dt.py
      by_cases h : a = z
      · subst h; simp [textIn, PyData.eqv]
      · simp [textIn, PyData.eqv, h, Ne.symm h]
    | _ => unfold Dt.py; simp [textIn, PyData.eqv]
/-! unpacking a list -/
theorem pg_unlA {X : Cx} {K : PySem.W.Frag} {es : List Expr} {k : Nat} {t : TGs} {n : Nat} {pos : Pos} (hc : X.calm = true) (h : PGs X es t) (hK : X.K = K := by rfl)
    (hn : (assignEach es X.env).length = n := by rfl) (hst : (assignEach es X.env).findIdx? (·.1) = none := by rfl) : PG X (.Tuple es k pos) (gUnl K n t) := hK ▸ pg_unl hc h hn hst
theorem tg_unl {B : Bs} {es : List Sl} {n : Nat} {t : TGs} {xs : List Dt} {P : List Sl → Prop} (hn : xs.length = n) (h : Tgs B t es xs P) : Tg B (gUnl B.K n t) es (.lst xs) P := fun σ F H v S r Q q => by
  cases r with
  | lst h1 h2 => exact ⟨_, _, rfl, SqL.of (S.sub _ _ h1), by rw [h2.length]; exact hn, h σ F H _ S h2 Q q⟩
end Y
/-! Y41: raise C() without arguments. -/
namespace Y
open PySem PySem.Spec PyProof.Rows L2
theorem pmk_oex0 {X : Cx} {CX : CXT} {x : Str} {C fI : Addr} {k : Nat} {fd : FuncData} {ps : List Str} {sp : Sp} {ds : List Value} {dvs : List V} {p pos : Pos} (T : OexC X.K C) (iC : PySem.W.findIn X.K (.ref C) "__init__" = some (some (.ref fI))) (tI : PySem.W.typeIn X.K (.ref fI) = some (.type "function"))
    (F1 : FnOk X.prog X.w X.K X.mg X.base CX k fI fd ps sp) (hr : Room (k + 1) X.A) (hb : Binds X.K fd ps ds) (hd : Vals dvs ds) (hx : Passes CX X (fun _ _ _ => False)) (hg : Gl X x) (hm : X.mg x = some (.ref C))
    (hdb : (x == ("__debug__" : Str)) = false := by decide) :
    PMk X (.Call (.Name x p) [] [] pos) (tMkO C sp dvs tNil) := by
  intro pins s σ H1 Q I1 h
  obtain ⟨nm, q, N, bs, bm, sn, sub, ab, col, dd, k0, k1, k2, k3, k5, hC, hbm⟩ := T.cls
  refine wpAny_Call_Name_kw (ld_glob I1 hg hm ?_ hdb)
  refine PySem.W.callWith_K0 I1.kIn T.kC ?_
  show wpAny _ _ (call (.ref C) []) _ _ _
  obtain ⟨hz, q1⟩ := h
  obtain ⟨us, vs, rfl, rfl, r1⟩ : ∃ (us : List Value) (vs : List V), us = [] ∧ vs = [] ∧ Vals vs us := ⟨[], [], rfl, rfl, .nil⟩
  obtain ⟨hp, g, dr, tk, os⟩ := s
  have hsz : hp.objs.size ≤ hp.objs.size + 1 := Nat.le_succ _
  have hn : H1 (hp.objs.size + 1) = none := I1.hok.fresh hsz
  have hq := q1 (hp.objs.size + 1) hn
  have kk : ∀ b o, hp.get? b = some o → ((hp.push (PySem.W.kdv_tup [])).push (PySem.HandSPX.excO C hp.objs.size)).get? b = some o := fun b o e => Heap.get?_push_of_some _ (Heap.get?_push_of_some _ e)
  have hget : ((hp.push (PySem.W.kdv_tup [])).push (PySem.HandSPX.excO C hp.objs.size)).get? (hp.objs.size + 1) = some (PySem.HandSPX.excO C hp.objs.size) := by heap_get
  have I2 : Inv X pins σ (upd H1 (hp.objs.size + 1) (exo (hp.objs.size + 1) C none)) ⟨(hp.push (PySem.W.kdv_tup [])).push (PySem.HandSPX.excO C hp.objs.size), g, dr, tk, os⟩ :=
    I1.laid (t' := tk) (a := hp.objs.size + 1) (o := exo (hp.objs.size + 1) C none) (h' := (hp.push (PySem.W.kdv_tup [])).push (PySem.HandSPX.excO C hp.objs.size)) kk hsz (exo_ok hget)
  have r2 : Vals (V.ref (hp.objs.size + 1) :: ([] ++ dvs)) (Value.ref (hp.objs.size + 1) :: ([] ++ ds)) := .cons rfl (r1.append hd)
  have hl : (Value.ref (hp.objs.size + 1) :: [] ++ ds).length = ps.length := by
    have e := r2.length
    rw [F1.len _ _ _ _ hq] at e
    exact e.symm
  have hbb := hb _ (Value.ref (hp.objs.size + 1) :: []) I2.kIn hl
  rw [List.cons_append] at hbb
  refine wpAny_call (PySem.HandSPX.call_own F.excBase_ValueError (fun Y => PySem.HandSPX.refsVE_contains Y bm hbm) (I1.kIn _ _ hC) (PySem.W.looks_findIn I1.kIn iC) (fun self => PySem.W.bind_fn I1.kIn self tI) (by simp)
    (codeAny_mono (F1.run _ X.stack _ _ ⟨Value.ref (hp.objs.size + 1) :: [], []⟩ (Value.ref (hp.objs.size + 1) :: ([] ++ ds)) _ _ (fun _ _ _ => False) (hr.make C [] []) (I2.env0.make C [] []) hbb r2 hq) fun r s' hq' => ?_))
  cases r with
  | error er => exact hx pins σ _ _ er s' I2 hq'
  | ok fl =>
    cases fl with
    | ret u =>
      obtain ⟨v, H2, os2, bare2, un2, hok2, rv, ev, d, fs, ea, ed, hd1, q2⟩ := hq'
      subst ev
      obtain ⟨h2, g2, d2, t2, os'⟩ := s'
      exact ⟨rv, mk_end (raises_own T.exC T.tyC) I1 hsz kk un2 hok2 os2 bare2 ea ed hd1 q2⟩
    | next => exact False.elim hq'
    | brk => exact False.elim hq'
    | cont => exact False.elim hq'
end Y
namespace Law
open PySem L2 Y
def top (i : Nat) : Stmt := PySem.Challenge.pw_leastimage_k05_pieces_refused.main.body.getD i (.Pass ⟨0, 0, 0, 0⟩)
abbrev s_InvalidName___init__ : Stmt := inClass (top 4) 0
theorem sc_InvalidName___init__ : FnScope ["self", "value"] ["self", "value"] (defScope s_InvalidName___init__) := ⟨rfl, rfl, rfl, by decide +kernel, rfl, by decide +kernel, by decide +kernel⟩
abbrev s_InvalidPart___init__ : Stmt := inClass (top 5) 0
theorem sc_InvalidPart___init__ : FnScope ["self", "value"] ["self", "value"] (defScope s_InvalidPart___init__) := ⟨rfl, rfl, rfl, by decide +kernel, rfl, by decide +kernel, by decide +kernel⟩
abbrev s_InvalidAlignment___init__ : Stmt := inClass (top 6) 0
theorem sc_InvalidAlignment___init__ : FnScope ["self", "value"] ["self", "value"] (defScope s_InvalidAlignment___init__) := ⟨rfl, rfl, rfl, by decide +kernel, rfl, by decide +kernel, by decide +kernel⟩
abbrev s_InvalidScope___init__ : Stmt := inClass (top 7) 0
theorem sc_InvalidScope___init__ : FnScope ["self", "value"] ["self", "value"] (defScope s_InvalidScope___init__) := ⟨rfl, rfl, rfl, by decide +kernel, rfl, by decide +kernel, by decide +kernel⟩
abbrev s_is_number : Stmt := top 16
theorem sc_is_number : FnScope ["value", "least", "most"] ["value", "least", "most"] (defScope s_is_number) := ⟨rfl, rfl, rfl, by decide +kernel, rfl, by decide +kernel, by decide +kernel⟩
abbrev s_is_name : Stmt := top 17
theorem sc_is_name : FnScope ["value", "sign"] ["value"] (defScope s_is_name) := ⟨rfl, rfl, rfl, by decide +kernel, rfl, by decide +kernel, by decide +kernel⟩
abbrev s_InvalidRow___init__ : Stmt := inClass (top 8) 0
theorem sc_InvalidRow___init__ : FnScope ["self", "at"] ["self", "at"] (defScope s_InvalidRow___init__) := ⟨rfl, rfl, rfl, by decide +kernel, rfl, by decide +kernel, by decide +kernel⟩
abbrev s_NotClosing___init__ : Stmt := inClass (top 9) 0
theorem sc_NotClosing___init__ : FnScope ["self"] ["self"] (defScope s_NotClosing___init__) := ⟨rfl, rfl, rfl, by decide +kernel, rfl, by decide +kernel, by decide +kernel⟩
abbrev s_TooMany___init__ : Stmt := inClass (top 10) 0
theorem sc_TooMany___init__ : FnScope ["self", "most"] ["self", "most"] (defScope s_TooMany___init__) := ⟨rfl, rfl, rfl, by decide +kernel, rfl, by decide +kernel, by decide +kernel⟩
abbrev s_has_word : Stmt := top 27
theorem sc_has_word : FnScope ["value"] ["value"] (defScope s_has_word) := ⟨rfl, rfl, rfl, by decide +kernel, rfl, by decide +kernel, by decide +kernel⟩
abbrev s_is_register : Stmt := top 18
theorem sc_is_register : FnScope ["value"] ["value"] (defScope s_is_register) := ⟨rfl, rfl, rfl, by decide +kernel, rfl, by decide +kernel, by decide +kernel⟩
abbrev s_is_word : Stmt := top 19
theorem sc_is_word : FnScope ["value"] ["value"] (defScope s_is_word) := ⟨rfl, rfl, rfl, by decide +kernel, rfl, by decide +kernel, by decide +kernel⟩
abbrev s_fits : Stmt := top 26
theorem sc_fits : FnScope ["kind", "value"] ["kind", "value"] (defScope s_fits) := ⟨rfl, rfl, rfl, by decide +kernel, rfl, by decide +kernel, by decide +kernel⟩
abbrev s_has_form : Stmt := top 28
theorem sc_has_form : FnScope ["value", "form", "kind", "item"] ["value", "form"] (defScope s_has_form) := ⟨rfl, rfl, rfl, by decide +kernel, rfl, by decide +kernel, by decide +kernel⟩
abbrev s_is_code_row : Stmt := top 29
theorem sc_is_code_row : FnScope ["value"] ["value"] (defScope s_is_code_row) := ⟨rfl, rfl, rfl, by decide +kernel, rfl, by decide +kernel, by decide +kernel⟩
abbrev s_is_data_row : Stmt := top 30
theorem sc_is_data_row : FnScope ["value"] ["value"] (defScope s_is_data_row) := ⟨rfl, rfl, rfl, by decide +kernel, rfl, by decide +kernel, by decide +kernel⟩
abbrev s_is_closing : Stmt := top 31
theorem sc_is_closing : FnScope ["row"] ["row"] (defScope s_is_closing) := ⟨rfl, rfl, rfl, by decide +kernel, rfl, by decide +kernel, by decide +kernel⟩
abbrev s_need_rows : Stmt := top 36
theorem sc_need_rows : FnScope ["rows", "part", "at", "row"] ["rows", "part"] (defScope s_need_rows) := ⟨rfl, rfl, rfl, by decide +kernel, rfl, by decide +kernel, by decide +kernel⟩
abbrev s_is_scope : Stmt := top 37
theorem sc_is_scope : FnScope ["value", "part"] ["value", "part"] (defScope s_is_scope) := ⟨rfl, rfl, rfl, by decide +kernel, rfl, by decide +kernel, by decide +kernel⟩
abbrev s_Piece___init__ : Stmt := inClass (top 38) 0
theorem sc_Piece___init__ : FnScope ["self", "name", "part", "rows", "alignment", "scope", "keep"] ["self", "name", "part", "rows", "alignment", "scope", "keep"] (defScope s_Piece___init__) := ⟨rfl, rfl, rfl, by decide +kernel, rfl, by decide +kernel, by decide +kernel⟩
abbrev s__law_bag : Stmt := top 40
theorem sc__law_bag : FnScope ["_law_script", "_law_mixed", "_law_piled"] ["_law_script"] (defScope s__law_bag) := ⟨rfl, rfl, rfl, by decide +kernel, rfl, by decide +kernel, by decide +kernel⟩
abbrev s__law_draw : Stmt := top 41
theorem sc__law_draw : FnScope ["_law_bag_here", "_law_sides", "_law_piled", "_law_digit", "_law_seed"] ["_law_bag_here", "_law_sides"] (defScope s__law_draw) := ⟨rfl, rfl, rfl, by decide +kernel, rfl, by decide +kernel, by decide +kernel⟩
abbrev s__law_of : Stmt := top 42
theorem sc__law_of : FnScope ["_law_bag_here", "_law_things"] ["_law_bag_here", "_law_things"] (defScope s__law_of) := ⟨rfl, rfl, rfl, by decide +kernel, rfl, by decide +kernel, by decide +kernel⟩
abbrev s__law_same : Stmt := top 43
theorem sc__law_same : FnScope ["_law_found", "_law_due_here", "_law_a", "_law_b"] ["_law_found", "_law_due_here"] (defScope s__law_same) := ⟨rfl, rfl, rfl, by decide +kernel, rfl, by decide +kernel, by decide +kernel⟩
abbrev s__law_field : Stmt := top 44
theorem sc__law_field : FnScope ["_law_e"] ["_law_e"] (defScope s__law_field) := ⟨rfl, rfl, rfl, by decide +kernel, rfl, by decide +kernel, by decide +kernel⟩
abbrev s__law_try : Stmt := top 45
theorem sc__law_try : FnScope ["_law_ask", "_law_e"] ["_law_ask"] (defScope s__law_try) := ⟨rfl, rfl, rfl, by decide +kernel, rfl, by decide +kernel, by decide +kernel⟩
abbrev s__law_why : Stmt := top 46
theorem sc__law_why : FnScope ["_law_ask", "_law_found"] ["_law_ask"] (defScope s__law_why) := ⟨rfl, rfl, rfl, by decide +kernel, rfl, by decide +kernel, by decide +kernel⟩
abbrev s__law_whys : Stmt := top 47
theorem sc__law_whys : FnScope ["_law_asks", "_law_ask"] ["_law_asks"] (defScope s__law_whys) := ⟨rfl, rfl, rfl, by decide +kernel, rfl, by decide +kernel, by decide +kernel⟩
abbrev s__law_odd : Stmt := top 48
theorem sc__law_odd : FnScope ["_law_bag_here", "_law_more"] ["_law_bag_here", "_law_more"] (defScope s__law_odd) := ⟨rfl, rfl, rfl, by decide +kernel, rfl, by decide +kernel, by decide +kernel⟩
abbrev s__law_titles : Stmt := top 49
theorem sc__law_titles : FnScope ["_law_bag_here", "_law_many", "_law_left", "_law_found", "_law_stem", "_law_k", "_law_spot"] ["_law_bag_here", "_law_many"] (defScope s__law_titles) := ⟨rfl, rfl, rfl, by decide +kernel, rfl, by decide +kernel, by decide +kernel⟩
abbrev s__law_number : Stmt := top 50
theorem sc__law_number : FnScope ["_law_bag_here"] ["_law_bag_here"] (defScope s__law_number) := ⟨rfl, rfl, rfl, by decide +kernel, rfl, by decide +kernel, by decide +kernel⟩
abbrev s__law_r : Stmt := top 51
theorem sc__law_r : FnScope ["_law_bag_here"] ["_law_bag_here"] (defScope s__law_r) := ⟨rfl, rfl, rfl, by decide +kernel, rfl, by decide +kernel, by decide +kernel⟩
abbrev s__law_code_row : Stmt := top 52
theorem sc__law_code_row : FnScope ["_law_bag_here", "_law_titles_here", "_law_way"] ["_law_bag_here", "_law_titles_here"] (defScope s__law_code_row) := ⟨rfl, rfl, rfl, by decide +kernel, rfl, by decide +kernel, by decide +kernel⟩
abbrev s__law_last_row : Stmt := top 53
theorem sc__law_last_row : FnScope ["_law_bag_here", "_law_titles_here"] ["_law_bag_here", "_law_titles_here"] (defScope s__law_last_row) := ⟨rfl, rfl, rfl, by decide +kernel, rfl, by decide +kernel, by decide +kernel⟩
abbrev s__law_data_row : Stmt := top 54
theorem sc__law_data_row : FnScope ["_law_bag_here", "_law_titles_here", "_law_way"] ["_law_bag_here", "_law_titles_here"] (defScope s__law_data_row) := ⟨rfl, rfl, rfl, by decide +kernel, rfl, by decide +kernel, by decide +kernel⟩
abbrev s__law_piece_model : Stmt := top 55
theorem sc__law_piece_model : FnScope ["_law_bag_here", "_law_title", "_law_titles_here", "_law_most", "_law_side", "_law_scopes", "_law_lot", "_law_k"] ["_law_bag_here", "_law_title", "_law_titles_here", "_law_most"] (defScope s__law_piece_model) := ⟨rfl, rfl, rfl, by decide +kernel, rfl, by decide +kernel, by decide +kernel⟩
abbrev s__law_wrong_rows : Stmt := top 60
theorem sc__law_wrong_rows : FnScope ["_law_bag_here", "_law_model", "_law_side", "_law_lot", "_law_way", "_law_spot", "_law_strange"] ["_law_bag_here", "_law_model"] (defScope s__law_wrong_rows) := ⟨rfl, rfl, rfl, by decide +kernel, rfl, by decide +kernel, by decide +kernel⟩
abbrev s__law_is_title : Stmt := top 56
theorem sc__law_is_title : FnScope ["_law_thing", "_law_sign"] ["_law_thing"] (defScope s__law_is_title) := ⟨rfl, rfl, rfl, by decide +kernel, rfl, by decide +kernel, by decide +kernel⟩
abbrev s__law_within : Stmt := top 57
theorem sc__law_within : FnScope ["_law_thing", "_law_low_y", "_law_high_y"] ["_law_thing", "_law_low_y", "_law_high_y"] (defScope s__law_within) := ⟨rfl, rfl, rfl, by decide +kernel, rfl, by decide +kernel, by decide +kernel⟩
abbrev s__law_code_so : Stmt := top 58
theorem sc__law_code_so : FnScope ["_law_thing", "_law_own", "_law_rest"] ["_law_thing"] (defScope s__law_code_so) := ⟨rfl, rfl, rfl, by decide +kernel, rfl, by decide +kernel, by decide +kernel⟩
abbrev s__law_data_so : Stmt := top 59
theorem sc__law_data_so : FnScope ["_law_thing"] ["_law_thing"] (defScope s__law_data_so) := ⟨rfl, rfl, rfl, by decide +kernel, rfl, by decide +kernel, by decide +kernel⟩
abbrev s__law_due : Stmt := top 61
theorem sc__law_due : FnScope ["_law_given", "_law_title", "_law_side", "_law_lot", "_law_step", "_law_way", "_law_k"] ["_law_given"] (defScope s__law_due) := ⟨rfl, rfl, rfl, by decide +kernel, rfl, by decide +kernel, by decide +kernel⟩
abbrev s_Piece___len__ : Stmt := inClass (top 38) 6
theorem sc_Piece___len__ : FnScope ["self"] ["self"] (defScope s_Piece___len__) := ⟨rfl, rfl, rfl, by decide +kernel, rfl, by decide +kernel, by decide +kernel⟩
abbrev s__law_written_so : Stmt := top 62
theorem sc__law_written_so : FnScope ["_law_rooms", "_law_end", "_law_asks", "_law_due_here"] [] (defScope s__law_written_so) := ⟨rfl, rfl, rfl, by decide +kernel, rfl, by decide +kernel, by decide +kernel⟩
abbrev s_law : Stmt := top 63
theorem sc_law : FnScope ["_law_script", "_law_bag_here", "_law_titles_here", "_law_turn", "_law_model", "_law_steps", "_law_ways", "_law_given", "_law_asks", "_law_due_here"] ["_law_script"] (defScope s_law) := ⟨rfl, rfl, rfl, by decide +kernel, rfl, by decide +kernel, by decide +kernel⟩
local macro_rules | `(tactic| walk_at "yv") => `(tactic| ((with_reducible show Ev _ (tVar _) _ _); refine ev_var rfl ?_))
local macro_rules | `(tactic| walk_at "ys") => `(tactic| with_reducible first
  | refine sm_seq ?_ | refine sm_ret ?_ | refine sm_if ?_ | refine sm_set ?_ | refine sm_next ?_ | refine sm_par ?_ | refine sm_drop ?_ | refine sm_brk ?_ | refine sm_cont ?_)
local macro_rules | `(tactic| walk_at "ye") => `(tactic| with_reducible first
  | refine ev_op ?_ | refine ev_and ?_ | refine ev_or ?_ | refine ev_not ?_ | refine ev_if ?_ | refine ev_chain ?_ | refine ev_neg ?_ | refine ev_isInt ?_ | refine ev_isBool ?_ | refine ev_isStr ?_ | refine ev_isList ?_ | refine ev_isTuple ?_ | refine ev_isLT ?_ | refine ev_isDict ?_
  | refine ev_int ?_ | refine ev_str ?_ | refine ev_bl ?_ | refine ev_non ?_ | refine ev_call ?_ | refine ev_cb ?_ | refine ev_lst ?_ | refine ev_tup ?_ | refine ev_join ?_
  | refine ea_nil ?_ | refine ea_cons ?_
  | refine et_B ?_ | refine et_test ?_ | refine et_not ?_ | refine et_and ?_ | refine et_or ?_ | refine et_yes ?_
  | refine o_plusI ?_ | refine o_i0 ?_ | refine o_b0 ?_ | refine o_isN ?_ | refine o_notN ?_
  | refine bl_ex ?_ | refine int_ex ?_ | refine str_ex ?_ | refine lst_ex ?_ | refine tup_ex ?_)
local macro_rules | `(tactic| walk_at "yo") => `(tactic| first
  | ((with_reducible show Ev _ (tOp (rIx _) (tVar _) _) _ _); refine ev_ixOwn rfl ?_)
  | ((with_reducible show Ev _ (tCB _ (tCons (tVar _) tNil)) _ _); refine ev_lenOwn rfl ?_)
  | ((with_reducible show Sm _ (tAsg _ (gSub (tVar _) _ _)) _ _); refine sm_setItem rfl ?_)
  | ((with_reducible show Ev _ (tCall (spB _ _ _) _ _ _) _ _); refine ev_callB rfl rfl ?_))
local macro_rules | `(tactic| walk_at "yc") => `(tactic| first
  | ((with_reducible show CMul _ _); first | exact Or.inr ⟨by decide, by decide⟩ | exact Or.inl ⟨by decide, by decide⟩ | exact Or.inr ⟨by omega, by omega⟩ | exact Or.inl ⟨by omega, by omega⟩)
  | ((with_reducible show CDiv _ _); exact ⟨by first | decide | omega, by first | decide | omega⟩)
  | ((with_reducible show CPow _ _); exact ⟨by decide, by decide, by first | decide | omega⟩)
  | ((show (0 : Int) < _); first | decide | omega))
local macro_rules | `(tactic| walk_at "yd") => `(tactic| first
  | ((with_reducible show plainD _ = true ∧ _); refine ⟨by first | rfl | assumption, ?_⟩)
  | ((with_reducible show (_ = true → _) ∧ (_ = false → _)); first | refine way_t rfl ?_ | refine way_f rfl ?_ | refine way_t (by decide +kernel) ?_ | refine way_f (by decide +kernel) ?_)
  | ((with_reducible show Cal _ _ _ _ _); first | (with_reducible refine c_int ?_) | (with_reducible refine c_abs ?_) | (refine c_len rfl ?_) | (refine c_len (if_pos (by assumption)) ?_))
  | ((with_reducible show Op2 _ (rEqA _) _ _ _ _); refine o_eqA rfl ?_)
  | ((with_reducible show Op2 _ (rNeA _) _ _ _ _); refine o_neA rfl ?_)
  | ((with_reducible show Op2 _ (rInA _) _ (Dt.str _) (Dt.lst _) _); refine o_inAL rfl rfl ?_)
  | ((with_reducible show Op2 _ (rInA _) _ (Dt.str _) (Dt.tup _) _); refine o_inAT rfl rfl ?_)
  | ((with_reducible show Op2 _ (rI _ _) _ _ _ _); refine o_i (by walk_at "yc") ?_)
  | ((with_reducible show Op2 _ (rIx _) _ (Dt.tup _) _ _); refine o_ixAT (atI_toNat (by decide) rfl) ?_)
  | ((with_reducible show Op2 _ (rIx _) _ (Dt.lst _) _ _); refine o_ixAL (atI_toNat (by decide) rfl) ?_)
  | ((with_reducible show ∃ x, atI _ _ = some x ∧ _); refine ⟨_, rfl, ?_⟩)
  | ((with_reducible show ∃ x, ixN _ _ = some x ∧ _); refine ⟨_, rfl, ?_⟩)
  | ((with_reducible show List.length _ ≤ 100000 ∧ _); refine ⟨by (try simp only [List.length_cons, List.length_nil]); first | decide | omega, ?_⟩))
local macro_rules | `(tactic| walk_at "y") => `(tactic| first | walk_at "yo" | walk_at "ye" | walk_at "yv" | walk_at "ys" | walk_at "yd")
local macro_rules | `(tactic| walk_at "yx") => `(tactic| first | walk_at "yo" | walk_at "ye" | walk_at "yv" | walk_at "yd")
def gk_Piece___init___4_scope {α : Type} : List α → List α → List α → List α
  | [f0, f1], [u0, u1, u2, u3], [w0] => [u0, u1, u2, u3, f0, w0, f1]
  | _, _, _ => []
def gk_Piece___init___4_alignment_scope {α : Type} : List α → List α → List α → List α
  | [f0], [u0, u1, u2, u3], [w0, w1] => [u0, u1, u2, u3, w0, w1, f0]
  | _, _, _ => []
def gk_Piece___init___4_alignment {α : Type} : List α → List α → List α → List α
  | [f0, f1], [u0, u1, u2, u3], [w0] => [u0, u1, u2, u3, w0, f0, f1]
  | _, _, _ => []
def gk_Piece___init___4_alignment_scope_keep {α : Type} : List α → List α → List α
  | [u0, u1, u2, u3], [w0, w1, w2] => [u0, u1, u2, u3, w0, w1, w2]
  | _, _ => []
def gk_Piece___init___1_scope_rows_name_alignment_part {α : Type} : List α → List α → List α → List α
  | [f0], [u0], [w0, w1, w2, w3, w4] => [u0, w2, w4, w1, w3, w0, f0]
  | _, _, _ => []
structure Tx (K : PySem.W.Frag) (mg : Str → Option Value) (w : World) where
  a_Piece : Addr
  m_Piece : mg "Piece" = some (.ref a_Piece)
  c_Piece : ClsF K a_Piece
  ne_Piece : PySem.W.findIn K (.ref a_Piece) "__ne__" = some (some (.builtin "object.__ne__"))
  na_Piece_name : NoAttr K a_Piece "name"
  na_Piece_part : NoAttr K a_Piece "part"
  na_Piece_alignment : NoAttr K a_Piece "alignment"
  na_Piece_scope : NoAttr K a_Piece "scope"
  na_Piece_keep : NoAttr K a_Piece "keep"
  na_Piece_own_rows : NoAttr K a_Piece "own_rows"
  a_ImageError : Addr
  m_ImageError : mg "ImageError" = some (.ref a_ImageError)
  a_Missing : Addr
  m_Missing : mg "Missing" = some (.ref a_Missing)
  a_InvalidName : Addr
  m_InvalidName : mg "InvalidName" = some (.ref a_InvalidName)
  oe_InvalidName : OexC K a_InvalidName
  xf_InvalidName : XfC K a_InvalidName
  ex_InvalidName : PySem.W.exmAny K (.ref a_InvalidName) [.ref a_ImageError, .ref a_Missing] = some true
  no_InvalidName_code : PySem.W.findIn K (.ref a_InvalidName) "code" = some none
  no_InvalidName_value : PySem.W.findIn K (.ref a_InvalidName) "value" = some none
  a_InvalidPart : Addr
  m_InvalidPart : mg "InvalidPart" = some (.ref a_InvalidPart)
  oe_InvalidPart : OexC K a_InvalidPart
  xf_InvalidPart : XfC K a_InvalidPart
  ex_InvalidPart : PySem.W.exmAny K (.ref a_InvalidPart) [.ref a_ImageError, .ref a_Missing] = some true
  no_InvalidPart_code : PySem.W.findIn K (.ref a_InvalidPart) "code" = some none
  no_InvalidPart_value : PySem.W.findIn K (.ref a_InvalidPart) "value" = some none
  a_InvalidAlignment : Addr
  m_InvalidAlignment : mg "InvalidAlignment" = some (.ref a_InvalidAlignment)
  oe_InvalidAlignment : OexC K a_InvalidAlignment
  xf_InvalidAlignment : XfC K a_InvalidAlignment
  ex_InvalidAlignment : PySem.W.exmAny K (.ref a_InvalidAlignment) [.ref a_ImageError, .ref a_Missing] = some true
  no_InvalidAlignment_code : PySem.W.findIn K (.ref a_InvalidAlignment) "code" = some none
  no_InvalidAlignment_value : PySem.W.findIn K (.ref a_InvalidAlignment) "value" = some none
  a_InvalidScope : Addr
  m_InvalidScope : mg "InvalidScope" = some (.ref a_InvalidScope)
  oe_InvalidScope : OexC K a_InvalidScope
  xf_InvalidScope : XfC K a_InvalidScope
  ex_InvalidScope : PySem.W.exmAny K (.ref a_InvalidScope) [.ref a_ImageError, .ref a_Missing] = some true
  no_InvalidScope_code : PySem.W.findIn K (.ref a_InvalidScope) "code" = some none
  no_InvalidScope_value : PySem.W.findIn K (.ref a_InvalidScope) "value" = some none
  a_InvalidRow : Addr
  m_InvalidRow : mg "InvalidRow" = some (.ref a_InvalidRow)
  oe_InvalidRow : OexC K a_InvalidRow
  xf_InvalidRow : XfC K a_InvalidRow
  ex_InvalidRow : PySem.W.exmAny K (.ref a_InvalidRow) [.ref a_ImageError, .ref a_Missing] = some true
  no_InvalidRow_code : PySem.W.findIn K (.ref a_InvalidRow) "code" = some none
  no_InvalidRow_at : PySem.W.findIn K (.ref a_InvalidRow) "at" = some none
  a_NotClosing : Addr
  m_NotClosing : mg "NotClosing" = some (.ref a_NotClosing)
  oe_NotClosing : OexC K a_NotClosing
  xf_NotClosing : XfC K a_NotClosing
  ex_NotClosing : PySem.W.exmAny K (.ref a_NotClosing) [.ref a_ImageError, .ref a_Missing] = some true
  no_NotClosing_code : PySem.W.findIn K (.ref a_NotClosing) "code" = some none
  a_TooMany : Addr
  m_TooMany : mg "TooMany" = some (.ref a_TooMany)
  oe_TooMany : OexC K a_TooMany
  xf_TooMany : XfC K a_TooMany
  ex_TooMany : PySem.W.exmAny K (.ref a_TooMany) [.ref a_ImageError, .ref a_Missing] = some true
  no_TooMany_code : PySem.W.findIn K (.ref a_TooMany) "code" = some none
  no_TooMany_most : PySem.W.findIn K (.ref a_TooMany) "most" = some none
  a_InvalidName___init__ : Addr
  d_InvalidName___init__ : FuncData
  i_InvalidName : PySem.W.findIn K (.ref a_InvalidName) "__init__" = some (some (.ref a_InvalidName___init__))
  ty_InvalidName : PySem.W.typeIn K (.ref a_InvalidName___init__) = some (.type "function")
  F_InvalidName___init__ : Fun K "__init__" "InvalidName.__init__" s_InvalidName___init__ a_InvalidName___init__ d_InvalidName___init__
  k_InvalidName___init__ : PySem.W.keepIn K (.ref a_InvalidName___init__) = true
  b_InvalidName___init__ : Binds K d_InvalidName___init__ ["self", "value"] []
  a_InvalidPart___init__ : Addr
  d_InvalidPart___init__ : FuncData
  i_InvalidPart : PySem.W.findIn K (.ref a_InvalidPart) "__init__" = some (some (.ref a_InvalidPart___init__))
  ty_InvalidPart : PySem.W.typeIn K (.ref a_InvalidPart___init__) = some (.type "function")
  F_InvalidPart___init__ : Fun K "__init__" "InvalidPart.__init__" s_InvalidPart___init__ a_InvalidPart___init__ d_InvalidPart___init__
  k_InvalidPart___init__ : PySem.W.keepIn K (.ref a_InvalidPart___init__) = true
  b_InvalidPart___init__ : Binds K d_InvalidPart___init__ ["self", "value"] []
  a_InvalidAlignment___init__ : Addr
  d_InvalidAlignment___init__ : FuncData
  i_InvalidAlignment : PySem.W.findIn K (.ref a_InvalidAlignment) "__init__" = some (some (.ref a_InvalidAlignment___init__))
  ty_InvalidAlignment : PySem.W.typeIn K (.ref a_InvalidAlignment___init__) = some (.type "function")
  F_InvalidAlignment___init__ : Fun K "__init__" "InvalidAlignment.__init__" s_InvalidAlignment___init__ a_InvalidAlignment___init__ d_InvalidAlignment___init__
  k_InvalidAlignment___init__ : PySem.W.keepIn K (.ref a_InvalidAlignment___init__) = true
  b_InvalidAlignment___init__ : Binds K d_InvalidAlignment___init__ ["self", "value"] []
  a_InvalidScope___init__ : Addr
  d_InvalidScope___init__ : FuncData
  i_InvalidScope : PySem.W.findIn K (.ref a_InvalidScope) "__init__" = some (some (.ref a_InvalidScope___init__))
  ty_InvalidScope : PySem.W.typeIn K (.ref a_InvalidScope___init__) = some (.type "function")
  F_InvalidScope___init__ : Fun K "__init__" "InvalidScope.__init__" s_InvalidScope___init__ a_InvalidScope___init__ d_InvalidScope___init__
  k_InvalidScope___init__ : PySem.W.keepIn K (.ref a_InvalidScope___init__) = true
  b_InvalidScope___init__ : Binds K d_InvalidScope___init__ ["self", "value"] []
  a_is_number : Addr
  d_is_number : FuncData
  F_is_number : Fun K "is_number" "is_number" s_is_number a_is_number d_is_number
  m_is_number : mg "is_number" = some (.ref a_is_number)
  k_is_number : PySem.W.keepIn K (.ref a_is_number) = true
  b_is_number : Binds K d_is_number ["value", "least", "most"] []
  a_is_name : Addr
  d_is_name : FuncData
  F_is_name : Fun K "is_name" "is_name" s_is_name a_is_name d_is_name
  m_is_name : mg "is_name" = some (.ref a_is_name)
  k_is_name : PySem.W.keepIn K (.ref a_is_name) = true
  b_is_name : Binds K d_is_name ["value"] []
  a_InvalidRow___init__ : Addr
  d_InvalidRow___init__ : FuncData
  i_InvalidRow : PySem.W.findIn K (.ref a_InvalidRow) "__init__" = some (some (.ref a_InvalidRow___init__))
  ty_InvalidRow : PySem.W.typeIn K (.ref a_InvalidRow___init__) = some (.type "function")
  F_InvalidRow___init__ : Fun K "__init__" "InvalidRow.__init__" s_InvalidRow___init__ a_InvalidRow___init__ d_InvalidRow___init__
  k_InvalidRow___init__ : PySem.W.keepIn K (.ref a_InvalidRow___init__) = true
  b_InvalidRow___init__ : Binds K d_InvalidRow___init__ ["self", "at"] []
  a_NotClosing___init__ : Addr
  d_NotClosing___init__ : FuncData
  i_NotClosing : PySem.W.findIn K (.ref a_NotClosing) "__init__" = some (some (.ref a_NotClosing___init__))
  ty_NotClosing : PySem.W.typeIn K (.ref a_NotClosing___init__) = some (.type "function")
  F_NotClosing___init__ : Fun K "__init__" "NotClosing.__init__" s_NotClosing___init__ a_NotClosing___init__ d_NotClosing___init__
  k_NotClosing___init__ : PySem.W.keepIn K (.ref a_NotClosing___init__) = true
  b_NotClosing___init__ : Binds K d_NotClosing___init__ ["self"] []
  a_TooMany___init__ : Addr
  d_TooMany___init__ : FuncData
  i_TooMany : PySem.W.findIn K (.ref a_TooMany) "__init__" = some (some (.ref a_TooMany___init__))
  ty_TooMany : PySem.W.typeIn K (.ref a_TooMany___init__) = some (.type "function")
  F_TooMany___init__ : Fun K "__init__" "TooMany.__init__" s_TooMany___init__ a_TooMany___init__ d_TooMany___init__
  k_TooMany___init__ : PySem.W.keepIn K (.ref a_TooMany___init__) = true
  b_TooMany___init__ : Binds K d_TooMany___init__ ["self", "most"] []
  a_has_word : Addr
  d_has_word : FuncData
  F_has_word : Fun K "has_word" "has_word" s_has_word a_has_word d_has_word
  m_has_word : mg "has_word" = some (.ref a_has_word)
  k_has_word : PySem.W.keepIn K (.ref a_has_word) = true
  b_has_word : Binds K d_has_word ["value"] []
  a_is_register : Addr
  d_is_register : FuncData
  F_is_register : Fun K "is_register" "is_register" s_is_register a_is_register d_is_register
  m_is_register : mg "is_register" = some (.ref a_is_register)
  k_is_register : PySem.W.keepIn K (.ref a_is_register) = true
  b_is_register : Binds K d_is_register ["value"] []
  a_is_word : Addr
  d_is_word : FuncData
  F_is_word : Fun K "is_word" "is_word" s_is_word a_is_word d_is_word
  m_is_word : mg "is_word" = some (.ref a_is_word)
  k_is_word : PySem.W.keepIn K (.ref a_is_word) = true
  b_is_word : Binds K d_is_word ["value"] []
  a_fits : Addr
  d_fits : FuncData
  F_fits : Fun K "fits" "fits" s_fits a_fits d_fits
  m_fits : mg "fits" = some (.ref a_fits)
  k_fits : PySem.W.keepIn K (.ref a_fits) = true
  b_fits : Binds K d_fits ["kind", "value"] []
  a_has_form : Addr
  d_has_form : FuncData
  F_has_form : Fun K "has_form" "has_form" s_has_form a_has_form d_has_form
  m_has_form : mg "has_form" = some (.ref a_has_form)
  k_has_form : PySem.W.keepIn K (.ref a_has_form) = true
  b_has_form : Binds K d_has_form ["value", "form"] []
  a_is_code_row : Addr
  d_is_code_row : FuncData
  F_is_code_row : Fun K "is_code_row" "is_code_row" s_is_code_row a_is_code_row d_is_code_row
  m_is_code_row : mg "is_code_row" = some (.ref a_is_code_row)
  k_is_code_row : PySem.W.keepIn K (.ref a_is_code_row) = true
  b_is_code_row : Binds K d_is_code_row ["value"] []
  a_is_data_row : Addr
  d_is_data_row : FuncData
  F_is_data_row : Fun K "is_data_row" "is_data_row" s_is_data_row a_is_data_row d_is_data_row
  m_is_data_row : mg "is_data_row" = some (.ref a_is_data_row)
  k_is_data_row : PySem.W.keepIn K (.ref a_is_data_row) = true
  b_is_data_row : Binds K d_is_data_row ["value"] []
  a_is_closing : Addr
  d_is_closing : FuncData
  F_is_closing : Fun K "is_closing" "is_closing" s_is_closing a_is_closing d_is_closing
  m_is_closing : mg "is_closing" = some (.ref a_is_closing)
  k_is_closing : PySem.W.keepIn K (.ref a_is_closing) = true
  b_is_closing : Binds K d_is_closing ["row"] []
  a_need_rows : Addr
  d_need_rows : FuncData
  F_need_rows : Fun K "need_rows" "need_rows" s_need_rows a_need_rows d_need_rows
  m_need_rows : mg "need_rows" = some (.ref a_need_rows)
  k_need_rows : PySem.W.keepIn K (.ref a_need_rows) = true
  b_need_rows : Binds K d_need_rows ["rows", "part"] []
  a_is_scope : Addr
  d_is_scope : FuncData
  F_is_scope : Fun K "is_scope" "is_scope" s_is_scope a_is_scope d_is_scope
  m_is_scope : mg "is_scope" = some (.ref a_is_scope)
  k_is_scope : PySem.W.keepIn K (.ref a_is_scope) = true
  b_is_scope : Binds K d_is_scope ["value", "part"] []
  a_Piece___init__ : Addr
  d_Piece___init__ : FuncData
  F_Piece___init__ : FunD K "__init__" "Piece.__init__" (defArgs s_Piece___init__) (defBody s_Piece___init__) (defScope s_Piece___init__) [] [("alignment", ((.int 1) : V)), ("scope", ((.str "local") : V)), ("keep", ((.bl false) : V))] a_Piece___init__ d_Piece___init__
  k_Piece___init__ : PySem.W.keepIn K (.ref a_Piece___init__) = true
  mk_Piece : Mk K a_Piece a_Piece___init__
  a__law_bag : Addr
  d__law_bag : FuncData
  F__law_bag : Fun K "_law_bag" "_law_bag" s__law_bag a__law_bag d__law_bag
  m__law_bag : mg "_law_bag" = some (.ref a__law_bag)
  k__law_bag : PySem.W.keepIn K (.ref a__law_bag) = true
  b__law_bag : Binds K d__law_bag ["_law_script"] []
  a__law_draw : Addr
  d__law_draw : FuncData
  F__law_draw : Fun K "_law_draw" "_law_draw" s__law_draw a__law_draw d__law_draw
  m__law_draw : mg "_law_draw" = some (.ref a__law_draw)
  k__law_draw : PySem.W.keepIn K (.ref a__law_draw) = true
  b__law_draw : Binds K d__law_draw ["_law_bag_here", "_law_sides"] []
  a__law_of : Addr
  d__law_of : FuncData
  F__law_of : Fun K "_law_of" "_law_of" s__law_of a__law_of d__law_of
  m__law_of : mg "_law_of" = some (.ref a__law_of)
  k__law_of : PySem.W.keepIn K (.ref a__law_of) = true
  b__law_of : Binds K d__law_of ["_law_bag_here", "_law_things"] []
  a__law_same : Addr
  d__law_same : FuncData
  F__law_same : Fun K "_law_same" "_law_same" s__law_same a__law_same d__law_same
  m__law_same : mg "_law_same" = some (.ref a__law_same)
  k__law_same : PySem.W.keepIn K (.ref a__law_same) = true
  b__law_same : Binds K d__law_same ["_law_found", "_law_due_here"] []
  a__law_field : Addr
  d__law_field : FuncData
  F__law_field : Fun K "_law_field" "_law_field" s__law_field a__law_field d__law_field
  m__law_field : mg "_law_field" = some (.ref a__law_field)
  k__law_field : PySem.W.keepIn K (.ref a__law_field) = true
  b__law_field : Binds K d__law_field ["_law_e"] []
  a__law_try : Addr
  d__law_try : FuncData
  F__law_try : Fun K "_law_try" "_law_try" s__law_try a__law_try d__law_try
  m__law_try : mg "_law_try" = some (.ref a__law_try)
  k__law_try : PySem.W.keepIn K (.ref a__law_try) = true
  b__law_try : Binds K d__law_try ["_law_ask"] []
  a__law_why : Addr
  d__law_why : FuncData
  F__law_why : Fun K "_law_why" "_law_why" s__law_why a__law_why d__law_why
  m__law_why : mg "_law_why" = some (.ref a__law_why)
  k__law_why : PySem.W.keepIn K (.ref a__law_why) = true
  b__law_why : Binds K d__law_why ["_law_ask"] []
  a__law_whys : Addr
  d__law_whys : FuncData
  F__law_whys : Fun K "_law_whys" "_law_whys" s__law_whys a__law_whys d__law_whys
  m__law_whys : mg "_law_whys" = some (.ref a__law_whys)
  k__law_whys : PySem.W.keepIn K (.ref a__law_whys) = true
  b__law_whys : Binds K d__law_whys ["_law_asks"] []
  a__law_odd : Addr
  d__law_odd : FuncData
  F__law_odd : Fun K "_law_odd" "_law_odd" s__law_odd a__law_odd d__law_odd
  m__law_odd : mg "_law_odd" = some (.ref a__law_odd)
  k__law_odd : PySem.W.keepIn K (.ref a__law_odd) = true
  b__law_odd : Binds K d__law_odd ["_law_bag_here", "_law_more"] []
  a__law_titles : Addr
  d__law_titles : FuncData
  F__law_titles : Fun K "_law_titles" "_law_titles" s__law_titles a__law_titles d__law_titles
  m__law_titles : mg "_law_titles" = some (.ref a__law_titles)
  k__law_titles : PySem.W.keepIn K (.ref a__law_titles) = true
  b__law_titles : Binds K d__law_titles ["_law_bag_here", "_law_many"] []
  a__law_number : Addr
  d__law_number : FuncData
  F__law_number : Fun K "_law_number" "_law_number" s__law_number a__law_number d__law_number
  m__law_number : mg "_law_number" = some (.ref a__law_number)
  k__law_number : PySem.W.keepIn K (.ref a__law_number) = true
  b__law_number : Binds K d__law_number ["_law_bag_here"] []
  a__law_r : Addr
  d__law_r : FuncData
  F__law_r : Fun K "_law_r" "_law_r" s__law_r a__law_r d__law_r
  m__law_r : mg "_law_r" = some (.ref a__law_r)
  k__law_r : PySem.W.keepIn K (.ref a__law_r) = true
  b__law_r : Binds K d__law_r ["_law_bag_here"] []
  a__law_code_row : Addr
  d__law_code_row : FuncData
  F__law_code_row : Fun K "_law_code_row" "_law_code_row" s__law_code_row a__law_code_row d__law_code_row
  m__law_code_row : mg "_law_code_row" = some (.ref a__law_code_row)
  k__law_code_row : PySem.W.keepIn K (.ref a__law_code_row) = true
  b__law_code_row : Binds K d__law_code_row ["_law_bag_here", "_law_titles_here"] []
  a__law_last_row : Addr
  d__law_last_row : FuncData
  F__law_last_row : Fun K "_law_last_row" "_law_last_row" s__law_last_row a__law_last_row d__law_last_row
  m__law_last_row : mg "_law_last_row" = some (.ref a__law_last_row)
  k__law_last_row : PySem.W.keepIn K (.ref a__law_last_row) = true
  b__law_last_row : Binds K d__law_last_row ["_law_bag_here", "_law_titles_here"] []
  a__law_data_row : Addr
  d__law_data_row : FuncData
  F__law_data_row : Fun K "_law_data_row" "_law_data_row" s__law_data_row a__law_data_row d__law_data_row
  m__law_data_row : mg "_law_data_row" = some (.ref a__law_data_row)
  k__law_data_row : PySem.W.keepIn K (.ref a__law_data_row) = true
  b__law_data_row : Binds K d__law_data_row ["_law_bag_here", "_law_titles_here"] []
  a__law_piece_model : Addr
  d__law_piece_model : FuncData
  F__law_piece_model : Fun K "_law_piece_model" "_law_piece_model" s__law_piece_model a__law_piece_model d__law_piece_model
  m__law_piece_model : mg "_law_piece_model" = some (.ref a__law_piece_model)
  k__law_piece_model : PySem.W.keepIn K (.ref a__law_piece_model) = true
  b__law_piece_model : Binds K d__law_piece_model ["_law_bag_here", "_law_title", "_law_titles_here", "_law_most"] []
  a__law_wrong_rows : Addr
  d__law_wrong_rows : FuncData
  F__law_wrong_rows : Fun K "_law_wrong_rows" "_law_wrong_rows" s__law_wrong_rows a__law_wrong_rows d__law_wrong_rows
  m__law_wrong_rows : mg "_law_wrong_rows" = some (.ref a__law_wrong_rows)
  k__law_wrong_rows : PySem.W.keepIn K (.ref a__law_wrong_rows) = true
  b__law_wrong_rows : Binds K d__law_wrong_rows ["_law_bag_here", "_law_model"] []
  a__law_is_title : Addr
  d__law_is_title : FuncData
  F__law_is_title : Fun K "_law_is_title" "_law_is_title" s__law_is_title a__law_is_title d__law_is_title
  m__law_is_title : mg "_law_is_title" = some (.ref a__law_is_title)
  k__law_is_title : PySem.W.keepIn K (.ref a__law_is_title) = true
  b__law_is_title : Binds K d__law_is_title ["_law_thing"] []
  a__law_within : Addr
  d__law_within : FuncData
  F__law_within : Fun K "_law_within" "_law_within" s__law_within a__law_within d__law_within
  m__law_within : mg "_law_within" = some (.ref a__law_within)
  k__law_within : PySem.W.keepIn K (.ref a__law_within) = true
  b__law_within : Binds K d__law_within ["_law_thing", "_law_low_y", "_law_high_y"] []
  a__law_code_so : Addr
  d__law_code_so : FuncData
  F__law_code_so : Fun K "_law_code_so" "_law_code_so" s__law_code_so a__law_code_so d__law_code_so
  m__law_code_so : mg "_law_code_so" = some (.ref a__law_code_so)
  k__law_code_so : PySem.W.keepIn K (.ref a__law_code_so) = true
  b__law_code_so : Binds K d__law_code_so ["_law_thing"] []
  a__law_data_so : Addr
  d__law_data_so : FuncData
  F__law_data_so : Fun K "_law_data_so" "_law_data_so" s__law_data_so a__law_data_so d__law_data_so
  m__law_data_so : mg "_law_data_so" = some (.ref a__law_data_so)
  k__law_data_so : PySem.W.keepIn K (.ref a__law_data_so) = true
  b__law_data_so : Binds K d__law_data_so ["_law_thing"] []
  a__law_due : Addr
  d__law_due : FuncData
  F__law_due : Fun K "_law_due" "_law_due" s__law_due a__law_due d__law_due
  m__law_due : mg "_law_due" = some (.ref a__law_due)
  k__law_due : PySem.W.keepIn K (.ref a__law_due) = true
  b__law_due : Binds K d__law_due ["_law_given"] []
  a_Piece___len__ : Addr
  d_Piece___len__ : FuncData
  F_Piece___len__ : Fun K "__len__" "Piece.__len__" s_Piece___len__ a_Piece___len__ d_Piece___len__
  k_Piece___len__ : PySem.W.keepIn K (.ref a_Piece___len__) = true
  b_Piece___len__ : Binds K d_Piece___len__ ["self"] []
  h_Piece___len__ : Meth K a_Piece "__len__" a_Piece___len__
  a__law_written_so : Addr
  d__law_written_so : FuncData
  cc__law_written_so : Addr
  tp__law_written_so : Addr
  F__law_written_so : FunC K "_law_written_so" "_law_written_so" s__law_written_so a__law_written_so d__law_written_so cc__law_written_so
  m__law_written_so : mg "_law_written_so" = some (.ref a__law_written_so)
  k__law_written_so : PySem.W.keepIn K (.ref a__law_written_so) = true
  b__law_written_so : Binds K d__law_written_so [] []
  a_law : Addr
  d_law : FuncData
  cc_law : Addr
  tp_law : Addr
  F_law : FunC K "law" "law" s_law a_law d_law cc_law
  m_law : mg "law" = some (.ref a_law)
  k_law : PySem.W.keepIn K (.ref a_law) = true
  b_law : Binds K d_law ["_law_script"] []
  e_Piece___init___4 : List Value
  v_Piece___init___4 : Vals [(.int 1), (.str "local"), (.bl false)] e_Piece___init___4
  b_Piece___init___4 : Binds K d_Piece___init__ ["self", "name", "part", "rows", "alignment", "scope", "keep"] e_Piece___init___4
  fu_Piece___init___4_scope : List Value
  kb_Piece___init___4_scope : KBn K d_Piece___init__ ["self", "name", "part", "rows", "alignment", "scope", "keep"] 4 ["scope"] (fun us ws => gk_Piece___init___4_scope fu_Piece___init___4_scope us ws) (fun vs zs => gk_Piece___init___4_scope [(.int 1), (.bl false)] vs zs)
  fu_Piece___init___4_alignment_scope : List Value
  kb_Piece___init___4_alignment_scope : KBn K d_Piece___init__ ["self", "name", "part", "rows", "alignment", "scope", "keep"] 4 ["alignment", "scope"] (fun us ws => gk_Piece___init___4_alignment_scope fu_Piece___init___4_alignment_scope us ws) (fun vs zs => gk_Piece___init___4_alignment_scope [(.bl false)] vs zs)
  fu_Piece___init___4_alignment : List Value
  kb_Piece___init___4_alignment : KBn K d_Piece___init__ ["self", "name", "part", "rows", "alignment", "scope", "keep"] 4 ["alignment"] (fun us ws => gk_Piece___init___4_alignment fu_Piece___init___4_alignment us ws) (fun vs zs => gk_Piece___init___4_alignment [(.str "local"), (.bl false)] vs zs)
  kb_Piece___init___4_alignment_scope_keep : KBn K d_Piece___init__ ["self", "name", "part", "rows", "alignment", "scope", "keep"] 4 ["alignment", "scope", "keep"] (gk_Piece___init___4_alignment_scope_keep (α := Value)) (gk_Piece___init___4_alignment_scope_keep (α := V))
  fu_Piece___init___1_scope_rows_name_alignment_part : List Value
  kb_Piece___init___1_scope_rows_name_alignment_part : KBn K d_Piece___init__ ["self", "name", "part", "rows", "alignment", "scope", "keep"] 1 ["scope", "rows", "name", "alignment", "part"] (fun us ws => gk_Piece___init___1_scope_rows_name_alignment_part fu_Piece___init___1_scope_rows_name_alignment_part us ws) (fun vs zs => gk_Piece___init___1_scope_rows_name_alignment_part [(.bl false)] vs zs)
  u_MOST_LETTERS : Value
  m_MOST_LETTERS : mg "MOST_LETTERS" = some u_MOST_LETTERS
  r_MOST_LETTERS : RelV (.int 6) u_MOST_LETTERS
  u_LETTERS : Value
  m_LETTERS : mg "LETTERS" = some u_LETTERS
  r_LETTERS : RelV (.str "abcdefghijklmnopqrstuvwxyz") u_LETTERS
  a_REGISTERS : Addr
  m_REGISTERS : mg "REGISTERS" = some (.ref a_REGISTERS)
  kd_REGISTERS : KD K (.ref a_REGISTERS) (.tup [(.str "r0"), (.str "r1"), (.str "r2")])
  u_MOST_WORD : Value
  m_MOST_WORD : mg "MOST_WORD" = some u_MOST_WORD
  r_MOST_WORD : RelV (.int 65535) u_MOST_WORD
  u_MOST_ROOM : Value
  m_MOST_ROOM : mg "MOST_ROOM" = some u_MOST_ROOM
  r_MOST_ROOM : RelV (.int 120) u_MOST_ROOM
  u_MOST_DISTANCE : Value
  m_MOST_DISTANCE : mg "MOST_DISTANCE" = some u_MOST_DISTANCE
  r_MOST_DISTANCE : RelV (.int 15) u_MOST_DISTANCE
  a_CODE_FORMS : Addr
  m_CODE_FORMS : mg "CODE_FORMS" = some (.ref a_CODE_FORMS)
  kd_CODE_FORMS : KDic K w a_CODE_FORMS [("put", (.str "rw")), ("name", (.str "rn")), ("add", (.str "rr")), ("take", (.str "rr")), ("load", (.str "rrd")), ("store", (.str "rrd")), ("jump", (.str "n")), ("ifzero", (.str "rn")), ("call", (.str "n")), ("callby", (.str "r")), ("back", (.str "")), ("out", (.str "r")), ("halt", (.str "")), ("room", (.str "k"))]
  a_DATA_FORMS : Addr
  m_DATA_FORMS : mg "DATA_FORMS" = some (.ref a_DATA_FORMS)
  kd_DATA_FORMS : KDic K w a_DATA_FORMS [("word", (.str "w")), ("address", (.str "n")), ("room", (.str "k"))]
  a_CLOSING : Addr
  m_CLOSING : mg "CLOSING" = some (.ref a_CLOSING)
  kd_CLOSING : KD K (.ref a_CLOSING) (.tup [(.str "jump"), (.str "halt"), (.str "back")])
  u_MOST_ROWS : Value
  m_MOST_ROWS : mg "MOST_ROWS" = some u_MOST_ROWS
  r_MOST_ROWS : RelV (.int 16) u_MOST_ROWS
  a_SCOPES : Addr
  m_SCOPES : mg "SCOPES" = some (.ref a_SCOPES)
  kd_SCOPES : KD K (.ref a_SCOPES) (.tup [(.str "local"), (.str "export"), (.str "open"), (.str "weak")])
  a_ALIGNMENTS : Addr
  m_ALIGNMENTS : mg "ALIGNMENTS" = some (.ref a_ALIGNMENTS)
  kd_ALIGNMENTS : KD K (.ref a_ALIGNMENTS) (.tup [(.int 1), (.int 2), (.int 4), (.int 8), (.int 16)])
  n_isinstance : mg "isinstance" = none
  n_int : mg "int" = none
  n_bool : mg "bool" = none
  n_all : mg "all" = none
  n_str : mg "str" = none
  n_len : mg "len" = none
  n_tuple : mg "tuple" = none
  n_zip : mg "zip" = none
  n_enumerate : mg "enumerate" = none
  n_list : mg "list" = none
  n_abs : mg "abs" = none
  n_range : mg "range" = none
  nd : ([tp__law_written_so, tp_law] : List Addr).Nodup
abbrev Tx.tabs {K : PySem.W.Frag} {mg : Str → Option Value} {w : World} (T : Tx K mg w) : List (Addr × Str) := [(T.tp__law_written_so, (("_law_written_so" : Str) ++ ".<locals>.") ++ "<lambda>"), (T.tp_law, (("law" : Str) ++ ".<locals>.") ++ "<lambda>")]
abbrev Tx.cs {K : PySem.W.Frag} {mg : Str → Option Value} {w : World} (T : Tx K mg w) : List (Addr × Addr) := [(T.cc__law_written_so, T.tp__law_written_so), (T.cc_law, T.tp_law)]
theorem Tx.in__law_written_so {K : PySem.W.Frag} {mg : Str → Option Value} {w : World} (T : Tx K mg w) : (T.cc__law_written_so, T.tp__law_written_so) ∈ T.cs := List.mem_cons_self
theorem Tx.tm__law_written_so {K : PySem.W.Frag} {mg : Str → Option Value} {w : World} (T : Tx K mg w) : (T.tp__law_written_so, (("_law_written_so" : Str) ++ ".<locals>.") ++ "<lambda>") ∈ T.tabs := List.mem_cons_self
theorem Tx.hu__law_written_so {K : PySem.W.Frag} {mg : Str → Option Value} {w : World} (T : Tx K mg w) : ∀ p ∈ T.tabs, p.1 = T.tp__law_written_so → p.2 = (("_law_written_so" : Str) ++ ".<locals>.") ++ "<lambda>" := tabs_one (T := T.tabs) T.nd T.tm__law_written_so
theorem Tx.in_law {K : PySem.W.Frag} {mg : Str → Option Value} {w : World} (T : Tx K mg w) : (T.cc_law, T.tp_law) ∈ T.cs := (List.mem_cons_of_mem _ List.mem_cons_self)
theorem Tx.tm_law {K : PySem.W.Frag} {mg : Str → Option Value} {w : World} (T : Tx K mg w) : (T.tp_law, (("law" : Str) ++ ".<locals>.") ++ "<lambda>") ∈ T.tabs := (List.mem_cons_of_mem _ List.mem_cons_self)
theorem Tx.hu_law {K : PySem.W.Frag} {mg : Str → Option Value} {w : World} (T : Tx K mg w) : ∀ p ∈ T.tabs, p.1 = T.tp_law → p.2 = (("law" : Str) ++ ".<locals>.") ++ "<lambda>" := tabs_one (T := T.tabs) T.nd T.tm_law
section
variable {P : Program} {w : World} {K : PySem.W.Frag} {mg : Str → Option Value} {base : Heap}

theorem ok__law_bag (T : Tx K mg w) : FnOk P w K mg base CX0 1 T.a__law_bag T.d__law_bag ["_law_script"] (spBag K) := by
  refine fn_newBag T.F__law_bag sc__law_bag (fun cdv A outer s H E hr => ⟨_, (pss_cons (ps_set (i := 1) sc__law_bag.nd rfl (Or.inl rfl) pe_int)
      (pss_cons (ps_for PassesOwn.never rfl (pi_listA (K := K) (pe_slice (sl_any (K := K)) (pv 0) po_none (po_some pe_int))) (pg_name (i := 2) sc__law_bag.nd rfl (Or.inl rfl)) (pss_one (ps_set (i := 1) sc__law_bag.nd rfl (Or.inl rfl) (pe_op op_mod (pe_callTy call_int1 (by rfl) T.n_int PyProof.Rows.boot_int (pa_cons (pe_op (op_plus (K := K)) (pe_op (op_plus (K := K)) (pe_op op_mul (pv 1) pe_int) (pe_op op_mul (pe_op op_mod (pe_callTy call_int1 (by rfl) T.n_int PyProof.Rows.boot_int (pa_cons (pv 2) pa_nil)) pe_int) pe_int)) pe_int) pa_nil)) pe_int))))
      (pss_one (ps_ret (pe_lst (pa_cons (pe_callTy (call_listB (K := K) rfl) (by rfl) T.n_list PyProof.Rows.boot_list (pa_cons (pe_slice (sl_any (K := K)) (pv 0) po_none (po_some pe_int)) pa_nil)) (pa_cons pe_int (pa_cons pe_int (pa_cons (pv 1) (pa_cons pe_int pa_nil)))))))))), fun H0 a ns hS => ?_⟩)
  dsimp only [cxOf, env0, env1, List.map, List.length, List.replicate, List.cons_append, List.nil_append, List.append, Nat.reduceAdd, Nat.reduceSub, Nat.zero_add]
  refine sm_seq (sm_set (ev_int ?_))
  refine sm_seq (sm_for (ei_list (EvO.ev (eo_slRaw rfl hS off_nil (ep_none (ep_some (ev_int (int_ex (lst_ex ⟨fun _ e => ∃ m s, e = [.r (.ref a), .d (.int m), s] ∧ 0 ≤ m ∧ m < 2147483648, ⟨12026, .no, rfl, by decide, by decide⟩, ?_, ?_⟩)))))))))
  · rintro i x es' hx ⟨m, s, rfl, h0, h1⟩
    obtain ⟨n, rfl⟩ := of_mem_ints hx
    refine tg_name ?_
    repeat walk_at "y"
    exact ⟨_, _, rfl, by omega, by omega⟩
  · rintro es' ⟨m, s, rfl, h0, h1⟩
    refine sm_retO (eo_lst (ea_cons (EvO.ev (eo_listL (ea_cons (EvO.ev (eo_slRaw rfl hS off_nil (ep_none (ep_some (ev_int (int_ex (ea_nil ⟨_, Or.inl rfl, ?_⟩))))))))))))
    repeat walk_at "y"
    exact ⟨_, 0, 0, m, 0, rfl, by decide, by decide, h0, h1⟩

theorem ok__law_draw (T : Tx K mg w) : FnOk P w K mg base CX0 1 T.a__law_draw T.d__law_draw ["_law_bag_here", "_law_sides"] (spB K drawPre drawPost) := by
  refine fn_draw T.F__law_draw sc__law_draw (fun ds h => ?_) (fun cdv A outer s H E hr => ⟨_, (pss_cons (ps_asg (pe_op (op_plus (K := K)) (pe_ix (ix_any (K := K)) (pv 0) pe_int (fun _ _ => rfl)) pe_int) (pg_sub (pv 0) pe_int set_list))
      (pss_cons (ps_if (PW.pt (pw_and (pt_cmpR (op_eqA (K := K) hr.units) (pe_ix (ix_any (K := K)) (pv 0) pe_int (fun _ _ => rfl)) pe_int (nomark _)) (pw_and1 (pt_cmpR op_lt (pe_ix (ix_any (K := K)) (pv 0) pe_int (fun _ _ => rfl)) (pe_callB (call_lenA (K := K)) (by rfl) T.n_len PySem.boot_len (pa_cons (pe_ix (ix_any (K := K)) (pv 0) pe_int (fun _ _ => rfl)) pa_nil)) (nomark _))))) (pss_cons (ps_set (i := 2) sc__law_draw.nd rfl (Or.inl rfl) (pe_callTy call_int1 (by rfl) T.n_int PyProof.Rows.boot_int (pa_cons (pe_ix (ix_any (K := K)) (pe_ix (ix_any (K := K)) (pv 0) pe_int (fun _ _ => rfl)) (pe_ix (ix_any (K := K)) (pv 0) pe_int (fun _ _ => rfl)) (fun _ _ => rfl)) pa_nil)))
      (pss_cons (ps_asg (pe_op (op_plus (K := K)) (pe_ix (ix_any (K := K)) (pv 0) pe_int (fun _ _ => rfl)) pe_int) (pg_sub (pv 0) pe_int set_list))
      (pss_one (ps_if (pt_cmpR op_ge (pe_callB call_abs (by rfl) T.n_abs PyProof.Rows.boot_abs (pa_cons (pv 2) pa_nil)) (pe_op op_pow pe_int pe_int) (nomark _)) (pss_one (ps_asg (pe_callB call_abs (by rfl) T.n_abs PyProof.Rows.boot_abs (pa_cons (pv 2) pa_nil)) (pg_sub (pv 0) pe_int set_list))) (pss_one (ps_asg (pe_op op_mod (pe_callTy call_int1 (by rfl) T.n_int PyProof.Rows.boot_int (pa_cons (pe_op (op_plus (K := K)) (pe_op (op_plus (K := K)) (pe_op op_mul (pe_ix (ix_any (K := K)) (pv 0) pe_int (fun _ _ => rfl)) pe_int) (pe_op op_mul (pe_op op_mod (pe_callTy call_int1 (by rfl) T.n_int PyProof.Rows.boot_int (pa_cons (pv 2) pa_nil)) pe_int) pe_int)) pe_int) pa_nil)) pe_int) (pg_sub (pv 0) pe_int set_list))))))) pss_nil)
      (pss_cons (ps_if (pt_cmpR op_gt (pe_ix (ix_any (K := K)) (pv 0) pe_int (fun _ _ => rfl)) pe_int (nomark _)) (pss_cons (ps_set (i := 3) sc__law_draw.nd rfl (Or.inl rfl) (pe_op op_mod (pe_callTy call_int1 (by rfl) T.n_int PyProof.Rows.boot_int (pa_cons (pe_ix (ix_any (K := K)) (pv 0) pe_int (fun _ _ => rfl)) pa_nil)) (pv 1)))
      (pss_cons (ps_asg (pe_op op_fdiv (pe_ix (ix_any (K := K)) (pv 0) pe_int (fun _ _ => rfl)) (pv 1)) (pg_sub (pv 0) pe_int set_list))
      (pss_one (ps_ret (pv 3))))) pss_nil)
      (pss_cons (ps_set (i := 4) sc__law_draw.nd rfl (Or.inl rfl) (pe_callTy call_int1 (by rfl) T.n_int PyProof.Rows.boot_int (pa_cons (pe_ix (ix_any (K := K)) (pv 0) pe_int (fun _ _ => rfl)) pa_nil)))
      (pss_cons (ps_asg (pe_op op_mod (pe_callTy call_int1 (by rfl) T.n_int PyProof.Rows.boot_int (pa_cons (pe_op (op_plus (K := K)) (pe_op (op_plus (K := K)) (pe_op (op_plus (K := K)) (pe_op op_mul (pe_op op_mul (pv 4) (pv 4)) pe_int) (pe_op op_mul (pv 4) pe_int)) (pe_op op_mul (pe_ix (ix_any (K := K)) (pv 0) pe_int (fun _ _ => rfl)) pe_int)) pe_int) pa_nil)) pe_int) (pg_sub (pv 0) pe_int set_list))
      (pss_one (ps_ret (pe_op op_mod (pe_callTy call_int1 (by rfl) T.n_int PyProof.Rows.boot_int (pa_cons (pe_op (op_plus (K := K)) (pe_op op_fdiv (pe_ix (ix_any (K := K)) (pv 0) pe_int (fun _ _ => rfl)) pe_int) (pe_op op_mul (pe_op op_mod (pe_callTy call_int1 (by rfl) T.n_int PyProof.Rows.boot_int (pa_cons (pe_ix (ix_any (K := K)) (pv 0) pe_int (fun _ _ => rfl)) pa_nil)) pe_int) pe_int)) pa_nil)) (pv 1))))))))), fun F0 H0 b xs ds hB h => ?_⟩)
  · obtain ⟨n, rfl, _⟩ := h; rfl
  · obtain ⟨n, rfl, hn, hn2⟩ := h
    obtain ⟨ns, i, r, m, k, rfl, hi, hr0, hm, hm2⟩ := hB
    dsimp only [cxOf, env0, env1, List.map, List.length, List.replicate, List.cons_append, List.nil_append, List.append, Nat.reduceAdd, Nat.reduceSub, Nat.zero_add]
    refine sm_seq ?_
    walk_at "y"
    repeat walk_at "yx"
    refine sm_cut (fun e => ∃ i r m k s, e = [.own b [.lst (ns.map Dt.int), .int i, .int r, .int m, .int k], .d (.int n), s, .no, .no] ∧ 0 ≤ i ∧ 0 ≤ r ∧ 0 ≤ m ∧ m < 2147483648) ?_ ?_
    · repeat walk_at "y"
      refine ways (fun h => ?_) (fun h => ?_)
      · repeat walk_at "y"
        refine ways (fun h => ?_) (fun h => ?_)
        · have h2 := of_decide_eq_true h
          have h3 : i < (ns.map Dt.int).length := h2
          obtain ⟨x, hx, hxm⟩ := atI_of hi h3
          obtain ⟨v, _, rfl⟩ := List.mem_map.mp hxm
          refine sm_seq (sm_set (ev_cb (ea_cons ?_)))
          refine ev_op ?_
          repeat walk_at "y"
          refine o_ixAL hx ?_
          repeat walk_at "y"
          refine ways (fun h => ?_) (fun h => ?_)
          · repeat walk_at "y"
            exact ⟨_, _, _, _, _, rfl, by omega, by split <;> omega, hm, hm2⟩
          · repeat walk_at "y"
            exact ⟨_, _, _, _, _, rfl, by omega, hr0, by omega, by omega⟩
        · repeat walk_at "y"
          exact ⟨_, _, _, _, _, rfl, hi, hr0, hm, hm2⟩
      · repeat walk_at "y"
        exact ⟨_, _, _, _, _, rfl, hi, hr0, hm, hm2⟩
    · rintro es' ⟨i, r, m, k, s, rfl, hi, hr0, hm, hm2⟩
      refine sm_seq (sm_if ?_)
      repeat walk_at "y"
      refine ways (fun h => ?_) (fun h => ?_)
      · repeat walk_at "y"
        exact ⟨⟨n, _, rfl, rfl, Int.emod_nonneg _ (by omega), Int.emod_lt_of_pos _ hn⟩, _, rfl, _, _, _, _, _, rfl, hi, Int.ediv_nonneg hr0 (by omega), hm, hm2⟩
      · repeat walk_at "y"
        refine ⟨⟨n, _, rfl, rfl, Int.emod_nonneg _ (by omega), Int.emod_lt_of_pos _ hn⟩, _, rfl, _, _, _, _, _, rfl, hi, hr0, ?_, ?_⟩
        · exact Int.emod_nonneg _ (by decide)
        · have := Int.emod_lt_of_pos (m * m * 19 + m * 47111 + k * 110323 + 60089) (show (0 : Int) < 2147483549 by decide)
          omega
end
end Law
set_option pp.deepTerms false
set_option pp.deepTerms.threshold 6
namespace Law
open PySem L2 Y
local macro_rules | `(tactic| walk_at "yv") => `(tactic| ((with_reducible show Ev _ (tVar _) _ _); refine ev_var rfl ?_))
local macro_rules | `(tactic| walk_at "ys") => `(tactic| with_reducible first
  | refine sm_seq ?_ | refine sm_ret ?_ | refine sm_if ?_ | refine sm_set ?_ | refine sm_next ?_ | refine sm_par ?_ | refine sm_drop ?_ | refine sm_brk ?_ | refine sm_cont ?_)
local macro_rules | `(tactic| walk_at "ye") => `(tactic| with_reducible first
  | refine ev_op ?_ | refine ev_and ?_ | refine ev_or ?_ | refine ev_not ?_ | refine ev_if ?_ | refine ev_chain ?_ | refine ev_neg ?_ | refine ev_isInt ?_ | refine ev_isBool ?_ | refine ev_isStr ?_ | refine ev_isList ?_ | refine ev_isTuple ?_ | refine ev_isLT ?_ | refine ev_isDict ?_
  | refine ev_int ?_ | refine ev_str ?_ | refine ev_bl ?_ | refine ev_non ?_ | refine ev_call ?_ | refine ev_cb ?_ | refine ev_lst ?_ | refine ev_tup ?_ | refine ev_join ?_
  | refine ea_nil ?_ | refine ea_cons ?_
  | refine et_B ?_ | refine et_test ?_ | refine et_not ?_ | refine et_and ?_ | refine et_or ?_ | refine et_yes ?_
  | refine o_plusI ?_ | refine o_i0 ?_ | refine o_b0 ?_ | refine o_isN ?_ | refine o_notN ?_
  | refine bl_ex ?_ | refine int_ex ?_ | refine str_ex ?_ | refine lst_ex ?_ | refine tup_ex ?_)
local macro_rules | `(tactic| walk_at "yo") => `(tactic| first
  | ((with_reducible show Ev _ (tOp (rIx _) (tVar _) _) _ _); refine ev_ixOwn rfl ?_)
  | ((with_reducible show Ev _ (tCB _ (tCons (tVar _) tNil)) _ _); refine ev_lenOwn rfl ?_)
  | ((with_reducible show Sm _ (tAsg _ (gSub (tVar _) _ _)) _ _); refine sm_setItem rfl ?_)
  | ((with_reducible show Ev _ (tCall (spB _ _ _) _ _ _) _ _); refine ev_callB rfl rfl ?_))
local macro_rules | `(tactic| walk_at "yc") => `(tactic| first
  | ((with_reducible show CMul _ _); first | exact Or.inr ⟨by decide, by decide⟩ | exact Or.inl ⟨by decide, by decide⟩ | exact Or.inr ⟨by omega, by omega⟩ | exact Or.inl ⟨by omega, by omega⟩)
  | ((with_reducible show CDiv _ _); exact ⟨by first | decide | omega, by first | decide | omega⟩)
  | ((with_reducible show CPow _ _); exact ⟨by decide, by decide, by first | decide | omega⟩)
  | ((show (0 : Int) < _); first | decide | omega))
local macro_rules | `(tactic| walk_at "yd") => `(tactic| first
  | ((with_reducible show plainD _ = true ∧ _); refine ⟨by first | rfl | assumption, ?_⟩)
  | ((with_reducible show (_ = true → _) ∧ (_ = false → _)); first | refine way_t rfl ?_ | refine way_f rfl ?_ | refine way_t (by decide +kernel) ?_ | refine way_f (by decide +kernel) ?_)
  | ((with_reducible show Cal _ _ _ _ _); first | (with_reducible refine c_int ?_) | (with_reducible refine c_abs ?_) | (refine c_len rfl ?_) | (refine c_len (if_pos (by assumption)) ?_))
  | ((with_reducible show Op2 _ (rEqA _) _ _ _ _); refine o_eqA rfl ?_)
  | ((with_reducible show Op2 _ (rNeA _) _ _ _ _); refine o_neA rfl ?_)
  | ((with_reducible show Op2 _ (rInA _) _ (Dt.str _) (Dt.lst _) _); refine o_inAL rfl rfl ?_)
  | ((with_reducible show Op2 _ (rInA _) _ (Dt.str _) (Dt.tup _) _); refine o_inAT rfl rfl ?_)
  | ((with_reducible show Op2 _ (rI _ _) _ _ _ _); refine o_i (by walk_at "yc") ?_)
  | ((with_reducible show Op2 _ (rIx _) _ (Dt.tup _) _ _); refine o_ixAT (atI_toNat (by decide) rfl) ?_)
  | ((with_reducible show Op2 _ (rIx _) _ (Dt.lst _) _ _); refine o_ixAL (atI_toNat (by decide) rfl) ?_)
  | ((with_reducible show ∃ x, atI _ _ = some x ∧ _); refine ⟨_, rfl, ?_⟩)
  | ((with_reducible show ∃ x, ixN _ _ = some x ∧ _); refine ⟨_, rfl, ?_⟩)
  | ((with_reducible show List.length _ ≤ 100000 ∧ _); refine ⟨by (try simp only [List.length_cons, List.length_nil]); first | decide | omega, ?_⟩))
local macro_rules | `(tactic| walk_at "y") => `(tactic| first | walk_at "yo" | walk_at "ye" | walk_at "yv" | walk_at "ys" | walk_at "yd")
local macro_rules | `(tactic| walk_at "yx") => `(tactic| first | walk_at "yo" | walk_at "ye" | walk_at "yv" | walk_at "yd")
section
variable {P : Program} {w : World} {K : PySem.W.Frag} {mg : Str → Option Value} {base : Heap}

theorem ok__law_of (T : Tx K mg w) : FnOk P w K mg base CX0 2 T.a__law_of T.d__law_of ["_law_bag_here", "_law_things"] (spB K ofPre ofPost) := by
  have G__law_draw := ok__law_draw (P := P) (w := w) (base := base) T
  refine fn_bag T.F__law_of sc__law_of (fun ds h => ?_) (fun cdv A outer s H E hr => ⟨_, (pss_one (ps_ret (pe_ix (ix_any (K := K)) (pv 1) (pe_call G__law_draw (hr.mono (by decide)) (by rfl) T.m__law_draw T.k__law_draw T.b__law_draw .nil pass0 (pa_cons (pv 0) (pa_cons (pe_callB (call_lenA (K := K)) (by rfl) T.n_len PySem.boot_len (pa_cons (pv 1) pa_nil)) pa_nil))) (fun _ _ => rfl)))), fun F0 H0 b ds h => ?_⟩)
  · obtain ⟨x, rfl, _⟩ := h; rfl
  · obtain ⟨x, rfl, h1, h2⟩ := h
    dsimp only [cxOf, env0, env1, List.map, List.length, List.replicate, List.cons_append, List.nil_append, List.append, Nat.reduceAdd, Nat.reduceSub, Nat.zero_add]
    refine sm_ret (ev_op ?_)
    cases x with
    | lst xs =>
      have h1 : 0 < xs.length := h1
      have h2 : xs.length ≤ 100000 := h2
      repeat walk_at "yx"
      refine ⟨⟨_, rfl, by omega, by omega⟩, ?_⟩
      rintro d ⟨n, i, e, rfl, k1, k2⟩
      cases e
      obtain ⟨y, hy, hm⟩ := atI_of k1 k2
      exact o_ixAL hy ⟨_, rfl, hm⟩
    | tup xs =>
      have h1 : 0 < xs.length := h1
      have h2 : xs.length ≤ 100000 := h2
      repeat walk_at "yx"
      refine ⟨⟨_, rfl, by omega, by omega⟩, ?_⟩
      rintro d ⟨n, i, e, rfl, k1, k2⟩
      cases e
      obtain ⟨y, hy, hm⟩ := atI_of k1 k2
      exact o_ixAT hy ⟨_, rfl, hm⟩
    | str z =>
      have h1 : 0 < (signsD z).length := h1
      have h2 : (signsD z).length ≤ 100000 := h2
      rw [signsD_len] at h1 h2
      have hl : z.length ≤ 100000 := h2
      have e0 : z.length = z.cps.size := rfl
      refine ev_var rfl ?_
      refine ev_callB rfl rfl ?_
      refine ea_cons (ev_cb (ea_cons (ev_var rfl (ea_nil (c_len (n := z.length) (if_pos hl) (ea_nil ?_))))))
      refine ⟨⟨_, rfl, by omega, by omega⟩, ?_⟩
      rintro d ⟨n, i, e, rfl, k1, k2⟩
      cases e
      obtain ⟨y, hy, hm⟩ := atI_ofN (xs := z.cps.toList) k1 (by rw [Array.length_toList]; exact k2)
      exact o_ixAS hl hy ⟨_, rfl, List.mem_map.mpr ⟨y, hm, rfl⟩⟩
    | _ => exact absurd (show 0 < 0 from h1) (Nat.lt_irrefl 0)

theorem ok__law_same (T : Tx K mg w) : ∀ n, FnOk P w K mg base CX0 n T.a__law_same T.d__law_same ["_law_found", "_law_due_here"] (spD K (samePre n) sameTrue)
  | 0 => fn_none fun ds h => by obtain ⟨x, _, _, h⟩ := h; omega
  | n + 1 => by
    have G__law_same := ok__law_same T n
    refine fn_data T.F__law_same sc__law_same (fun ds h => ?_) (fun cdv A outer s H E hr => ⟨_, (pss_cons (ps_if (PW.pt (pw_or (pt_cmpR op_isN (pv 1) pe_non (nomark _)) (pw_or1 (pt_cmpR op_isN (pv 0) pe_non (nomark _))))) (pss_one (ps_ret (pe_and (pe_cmpR op_isN (pv 1) pe_non (nomark _)) (pe_one (pe_cmpR op_isN (pv 0) pe_non (nomark _)))))) pss_nil)
      (pss_cons (ps_if (pt_val (pe_callB (call_isiTA (K := K)) (by rfl) T.n_isinstance PyProof.Rows.boot_isinstance (pa_cons (pv 1) (pa_cons (pe_tup (pa_cons (pe_bltn (v := .ty "list") (by rfl) T.n_list (by decide +kernel) rfl) (pa_cons (pe_bltn (v := .ty "tuple") (by rfl) T.n_tuple (by decide +kernel) rfl) pa_nil))) pa_nil)))) (pss_cons (ps_if (PW.pt (pw_or (pt_cmpR (op_neA (K := K) hr.units) (pe_callB (call_isiA (K := K)) (by rfl) T.n_isinstance PyProof.Rows.boot_isinstance (pa_cons (pv 0) (pa_cons (pe_bltn (v := .ty "list") (by rfl) T.n_list (by decide +kernel) rfl) pa_nil))) (pe_callB (call_isiA (K := K)) (by rfl) T.n_isinstance PyProof.Rows.boot_isinstance (pa_cons (pv 1) (pa_cons (pe_bltn (v := .ty "list") (by rfl) T.n_list (by decide +kernel) rfl) pa_nil))) (nomark _)) (pw_or1 (pt_cmpR (op_neA (K := K) hr.units) (pe_callB (call_isiA (K := K)) (by rfl) T.n_isinstance PyProof.Rows.boot_isinstance (pa_cons (pv 0) (pa_cons (pe_bltn (v := .ty "tuple") (by rfl) T.n_tuple (by decide +kernel) rfl) pa_nil))) (pe_callB (call_isiA (K := K)) (by rfl) T.n_isinstance PyProof.Rows.boot_isinstance (pa_cons (pv 1) (pa_cons (pe_bltn (v := .ty "tuple") (by rfl) T.n_tuple (by decide +kernel) rfl) pa_nil))) (nomark _))))) (pss_one (ps_ret pe_bl)) pss_nil)
      (pss_one (ps_ret (pe_and (pe_cmpR (op_eqA (K := K) hr.units) (pe_callB (call_lenA (K := K)) (by rfl) T.n_len PySem.boot_len (pa_cons (pv 0) pa_nil)) (pe_callB (call_lenA (K := K)) (by rfl) T.n_len PySem.boot_len (pa_cons (pv 1) pa_nil)) (nomark _)) (pe_one (pe_callB (cr_allA (K := K) rfl) (by rfl) T.n_all PyProof.Rows.boot_all (pa_cons (pe_lc (own := [("_law_a", 2), ("_law_b", 3)]) (g := gTup K 2 (gCons (gName 2) (gCons (gName 3) gNil))) rfl sc__law_same.nd (pi_zipB (K := K) (by rfl) T.n_zip (pa_cons (pv 0) (pa_cons (pv 1) pa_nil))) (blkOk_by (N := ["_law_found", "_law_due_here", "_law_a", "_law_b"]) (sc := defScope s__law_same) (by decide +kernel)) (fun _ _ _ _ _ => (pg_tupA (K := K) rfl (pgs_cons (pg_name (i := 2) sc__law_same.nd rfl (Or.inl rfl)) (pgs_cons (pg_name (i := 3) sc__law_same.nd rfl (Or.inl rfl)) pgs_nil)))) (fun _ _ _ _ _ => pts_nil) (fun _ _ _ _ _ => (pe_call G__law_same hr (by rfl) T.m__law_same T.k__law_same T.b__law_same .nil pass0 (pa_cons (pv 2) (pa_cons (pv 3) pa_nil))))) pa_nil))))))) pss_nil)
      (pss_cons (ps_if (PW.pt (pw_or (pt_cmpR (op_neA (K := K) hr.units) (pe_callB (call_isiA (K := K)) (by rfl) T.n_isinstance PyProof.Rows.boot_isinstance (pa_cons (pv 1) (pa_cons (pe_bltn (v := .ty "bool") (by rfl) T.n_bool (by decide +kernel) rfl) pa_nil))) (pe_callB (call_isiA (K := K)) (by rfl) T.n_isinstance PyProof.Rows.boot_isinstance (pa_cons (pv 0) (pa_cons (pe_bltn (v := .ty "bool") (by rfl) T.n_bool (by decide +kernel) rfl) pa_nil))) (nomark _)) (pw_or1 (pt_cmpR (op_neA (K := K) hr.units) (pe_callB (call_isiA (K := K)) (by rfl) T.n_isinstance PyProof.Rows.boot_isinstance (pa_cons (pv 1) (pa_cons (pe_bltn (v := .ty "int") (by rfl) T.n_int (by decide +kernel) rfl) pa_nil))) (pe_callB (call_isiA (K := K)) (by rfl) T.n_isinstance PyProof.Rows.boot_isinstance (pa_cons (pv 0) (pa_cons (pe_bltn (v := .ty "int") (by rfl) T.n_int (by decide +kernel) rfl) pa_nil))) (nomark _))))) (pss_one (ps_ret pe_bl)) pss_nil)
      (pss_one (ps_ret (pe_and (pe_cmpR (op_eqA (K := K) hr.units) (pe_callB (call_isiA (K := K)) (by rfl) T.n_isinstance PyProof.Rows.boot_isinstance (pa_cons (pv 1) (pa_cons (pe_bltn (v := .ty "str") (by rfl) T.n_str (by decide +kernel) rfl) pa_nil))) (pe_callB (call_isiA (K := K)) (by rfl) T.n_isinstance PyProof.Rows.boot_isinstance (pa_cons (pv 0) (pa_cons (pe_bltn (v := .ty "str") (by rfl) T.n_str (by decide +kernel) rfl) pa_nil))) (nomark _)) (pe_one (pe_cmpR (op_eqA (K := K) hr.units) (pv 0) (pv 1) (nomark _))))))))), fun F0 H0 ds h => ?_⟩)
    · obtain ⟨x, rfl, _⟩ := h; rfl
    · obtain ⟨x, rfl, hp, hd⟩ := h
      dsimp only [cxOf, env0, env1, List.map, List.length, List.replicate, List.cons_append, List.nil_append, List.append, Nat.reduceAdd, Nat.reduceSub, Nat.zero_add]
      cases x with
      | obj _ _ _ => unfold Dt.pureD at hp; cases hp
      | dct _ _ => unfold Dt.pureD at hp; cases hp
      | ali _ => unfold Dt.pureD at hp; cases hp
      | lst xs =>
        unfold Dt.depth at hd
        unfold Dt.pureD at hp
        rw [Bool.and_eq_true] at hp
        have hl := of_decide_eq_true hp.1
        repeat walk_at "y"
        refine way_t (by simp [dEq]) ?_
        refine ev_cb (ea_cons (EvO.ev (eo_mapF (fun _ => .bl true) (ei_zip ?_))))
        repeat walk_at "y"
        refine ⟨xs, xs, .inl rfl, ?_, ?_, ?_⟩
        · rw [pairD_len]; omega
        · intro p hpm
          obtain ⟨y, hy, rfl⟩ := pairD_mem hpm
          refine tc_tup2 (by decide) ?_
          repeat walk_at "y"
          exact ⟨⟨y, rfl, pureAll_mem hy hp.2, by have := depthAll_mem (n := n - 1) hy (by omega); omega⟩, fun d e => e⟩
        · refine ea_nil (c_allF (g := fun _ => true) ?_)
          show Dt.bl _ = .bl true
          simp
      | tup xs =>
        unfold Dt.depth at hd
        unfold Dt.pureD at hp
        rw [Bool.and_eq_true] at hp
        have hl := of_decide_eq_true hp.1
        repeat walk_at "y"
        refine way_t (by simp [dEq]) ?_
        refine ev_cb (ea_cons (EvO.ev (eo_mapF (fun _ => .bl true) (ei_zip ?_))))
        repeat walk_at "y"
        refine ⟨xs, xs, .inr rfl, ?_, ?_, ?_⟩
        · rw [pairD_len]; omega
        · intro p hpm
          obtain ⟨y, hy, rfl⟩ := pairD_mem hpm
          refine tc_tup2 (by decide) ?_
          repeat walk_at "y"
          exact ⟨⟨y, rfl, pureAll_mem hy hp.2, by have := depthAll_mem (n := n - 1) hy (by omega); omega⟩, fun d e => e⟩
        · refine ea_nil (c_allF (g := fun _ => true) ?_)
          show Dt.bl _ = .bl true
          simp
      | non =>
        repeat walk_at "y"
        rfl
      | _ =>
        repeat walk_at "y"
        show Dt.bl _ = .bl true
        simp [dEq]

theorem ok__law_odd (T : Tx K mg w) : FnOk P w K mg base CX0 3 T.a__law_odd T.d__law_odd ["_law_bag_here", "_law_more"] (spB K oddPre oddPost) := by
  have G__law_of := ok__law_of (P := P) (w := w) (base := base) T
  refine fn_bag T.F__law_odd sc__law_odd (fun ds h => ?_) (fun cdv A outer s H E hr => ⟨_, (pss_one (ps_ret (pe_call G__law_of (hr.mono (by decide)) (by rfl) T.m__law_of T.k__law_of T.b__law_of .nil pass0 (pa_cons (pv 0) (pa_cons (pe_op (op_plus (K := K)) (pe_lst (pa_cons pe_non (pa_cons pe_bl (pa_cons pe_bl (pa_cons pe_str (pa_cons pe_str (pa_cons (pe_un un_neg pe_int) (pa_cons pe_int (pa_cons (pe_tup pa_nil) (pa_cons (pe_lst pa_nil) (pa_cons (pe_tup (pa_cons pe_int pa_nil)) (pa_cons (pe_lst (pa_cons pe_str pa_nil)) (pa_cons pe_str (pa_cons (pe_tup (pa_cons pe_str (pa_cons pe_str pa_nil))) (pa_cons (pe_lst (pa_cons pe_non pa_nil)) pa_nil))))))))))))))) (pv 1)) pa_nil))))), fun F0 H0 b ds h => ?_⟩)
  · obtain ⟨x, rfl, _⟩ := h; rfl
  · obtain ⟨xs, rfl, h1⟩ := h
    dsimp only [cxOf, env0, env1, List.map, List.length, List.replicate, List.cons_append, List.nil_append, List.append, Nat.reduceAdd, Nat.reduceSub, Nat.zero_add]
    repeat walk_at "y"
    have hl : oddL.length = 14 := rfl
    refine o_plusL (by show oddL.length + _ ≤ _; omega) ?_
    repeat walk_at "y"
    refine ⟨⟨_, rfl, by show 0 < (oddL ++ xs).length; rw [List.length_append]; omega, by show (oddL ++ xs).length ≤ _; rw [List.length_append]; omega⟩, ?_⟩
    rintro d ⟨x, e, hm⟩
    cases e
    exact ⟨xs, rfl, hm⟩

theorem ok__law_within (T : Tx K mg w) : FnOk P w K mg base CX0 1 T.a__law_within T.d__law_within ["_law_thing", "_law_low_y", "_law_high_y"] (spD K numPre numPost) := by
  refine fn_data T.F__law_within sc__law_within (fun ds h => ?_) (fun cdv A outer s H E hr => ⟨_, (pss_one (ps_ret (pe_and (pe_callB (call_isiA (K := K)) (by rfl) T.n_isinstance PyProof.Rows.boot_isinstance (pa_cons (pv 0) (pa_cons (pe_bltn (v := .ty "int") (by rfl) T.n_int (by decide +kernel) rfl) pa_nil))) (pe_and (pe_not (pe_callB (call_isiA (K := K)) (by rfl) T.n_isinstance PyProof.Rows.boot_isinstance (pa_cons (pv 0) (pa_cons (pe_bltn (v := .ty "bool") (by rfl) T.n_bool (by decide +kernel) rfl) pa_nil)))) (pe_and (pe_cmpR op_le (pv 1) (pv 0) (nomark _)) (pe_one (pe_cmpR op_le (pv 0) (pv 2) (nomark _)))))))), fun F0 H0 ds h => ?_⟩)
  · obtain ⟨x, l, m, rfl, _⟩ := h; rfl
  · obtain ⟨x, l, m, rfl, hx⟩ := h
    dsimp only [cxOf, env0, env1, List.map, List.length, List.replicate, List.cons_append, List.nil_append, List.append, Nat.reduceAdd, Nat.reduceSub, Nat.zero_add]
    cases x with
    | obj _ _ _ => cases hx
    | ali _ => cases hx
    | int i =>
      repeat walk_at "y"
      refine ways (fun h => ?_) (fun h => ?_)
      · repeat walk_at "y"
        exact ⟨_, l, m, rfl, by show _ = Dt.bl (decide (l ≤ i) && decide (i ≤ m)); rw [h]; rfl⟩
      · repeat walk_at "y"
        exact ⟨_, l, m, rfl, by show _ = Dt.bl (decide (l ≤ i) && decide (i ≤ m)); rw [h]; rfl⟩
    | _ =>
      repeat walk_at "y"
      exact ⟨_, l, m, rfl, rfl⟩

theorem ok_is_number (T : Tx K mg w) : FnOk P w K mg base CX0 1 T.a_is_number T.d_is_number ["value", "least", "most"] (spD K numPre numPost) := by
  refine fn_data T.F_is_number sc_is_number (fun ds h => ?_) (fun cdv A outer s H E hr => ⟨_, (pss_one (ps_ret (pe_and (pe_callB (call_isiA (K := K)) (by rfl) T.n_isinstance PyProof.Rows.boot_isinstance (pa_cons (pv 0) (pa_cons (pe_bltn (v := .ty "int") (by rfl) T.n_int (by decide +kernel) rfl) pa_nil))) (pe_and (pe_not (pe_callB (call_isiA (K := K)) (by rfl) T.n_isinstance PyProof.Rows.boot_isinstance (pa_cons (pv 0) (pa_cons (pe_bltn (v := .ty "bool") (by rfl) T.n_bool (by decide +kernel) rfl) pa_nil)))) (pe_one (pe_chain op_le op_le (pv 1) (pv 0) (pv 2))))))), fun F0 H0 ds h => ?_⟩)
  · obtain ⟨x, l, m, rfl, _⟩ := h; rfl
  · obtain ⟨x, l, m, rfl, hx⟩ := h
    dsimp only [cxOf, env0, env1, List.map, List.length, List.replicate, List.cons_append, List.nil_append, List.append, Nat.reduceAdd, Nat.reduceSub, Nat.zero_add]
    cases x with
    | obj _ _ _ => cases hx
    | ali _ => cases hx
    | int i =>
      repeat walk_at "y"
      refine ways (fun h => ?_) (fun h => ?_)
      · repeat walk_at "y"
        exact ⟨_, l, m, rfl, by show _ = Dt.bl (decide (l ≤ i) && decide (i ≤ m)); rw [h]; rfl⟩
      · repeat walk_at "y"
        exact ⟨_, l, m, rfl, by show _ = Dt.bl (decide (l ≤ i) && decide (i ≤ m)); rw [h]; rfl⟩
    | _ =>
      repeat walk_at "y"
      exact ⟨_, l, m, rfl, rfl⟩
end
end Law
namespace Law
open PySem L2 Y
local macro_rules | `(tactic| walk_at "yv") => `(tactic| ((with_reducible show Ev _ (tVar _) _ _); refine ev_var rfl ?_))
local macro_rules | `(tactic| walk_at "ys") => `(tactic| with_reducible first
  | refine sm_seq ?_ | refine sm_ret ?_ | refine sm_if ?_ | refine sm_set ?_ | refine sm_next ?_ | refine sm_par ?_ | refine sm_drop ?_ | refine sm_brk ?_ | refine sm_cont ?_)
local macro_rules | `(tactic| walk_at "ye") => `(tactic| with_reducible first
  | refine ev_op ?_ | refine ev_and ?_ | refine ev_or ?_ | refine ev_not ?_ | refine ev_if ?_ | refine ev_chain ?_ | refine ev_neg ?_ | refine ev_isInt ?_ | refine ev_isBool ?_ | refine ev_isStr ?_ | refine ev_isList ?_ | refine ev_isTuple ?_ | refine ev_isLT ?_ | refine ev_isDict ?_
  | refine ev_int ?_ | refine ev_str ?_ | refine ev_bl ?_ | refine ev_non ?_ | refine ev_call ?_ | refine ev_cb ?_ | refine ev_lst ?_ | refine ev_tup ?_ | refine ev_join ?_
  | refine ea_nil ?_ | refine ea_cons ?_
  | refine et_B ?_ | refine et_test ?_ | refine et_not ?_ | refine et_and ?_ | refine et_or ?_ | refine et_yes ?_
  | refine o_plusI ?_ | refine o_i0 ?_ | refine o_b0 ?_ | refine o_isN ?_ | refine o_notN ?_
  | refine bl_ex ?_ | refine int_ex ?_ | refine str_ex ?_ | refine lst_ex ?_ | refine tup_ex ?_)
local macro_rules | `(tactic| walk_at "yo") => `(tactic| first
  | ((with_reducible show Ev _ (tOp (rIx _) (tVar _) _) _ _); refine ev_ixOwn rfl ?_)
  | ((with_reducible show Ev _ (tCB _ (tCons (tVar _) tNil)) _ _); refine ev_lenOwn rfl ?_)
  | ((with_reducible show Sm _ (tAsg _ (gSub (tVar _) _ _)) _ _); refine sm_setItem rfl ?_)
  | ((with_reducible show Ev _ (tCall (spB _ _ _) _ _ _) _ _); refine ev_callB rfl rfl ?_))
local macro_rules | `(tactic| walk_at "yc") => `(tactic| first
  | ((with_reducible show CMul _ _); first | exact Or.inr ⟨by decide, by decide⟩ | exact Or.inl ⟨by decide, by decide⟩ | exact Or.inr ⟨by omega, by omega⟩ | exact Or.inl ⟨by omega, by omega⟩)
  | ((with_reducible show CDiv _ _); exact ⟨by first | decide | omega, by first | decide | omega⟩)
  | ((with_reducible show CPow _ _); exact ⟨by decide, by decide, by first | decide | omega⟩)
  | ((show (0 : Int) < _); first | decide | omega))
local macro_rules | `(tactic| walk_at "yd") => `(tactic| first
  | ((with_reducible show plainD _ = true ∧ _); refine ⟨by first | rfl | assumption, ?_⟩)
  | ((with_reducible show (_ = true → _) ∧ (_ = false → _)); first | refine way_t rfl ?_ | refine way_f rfl ?_ | refine way_t (by decide +kernel) ?_ | refine way_f (by decide +kernel) ?_)
  | ((with_reducible show Cal _ _ _ _ _); first | (with_reducible refine c_int ?_) | (with_reducible refine c_abs ?_) | (refine c_len rfl ?_) | (refine c_len (if_pos (by assumption)) ?_))
  | ((with_reducible show Op2 _ (rEqA _) _ _ _ _); refine o_eqA rfl ?_)
  | ((with_reducible show Op2 _ (rNeA _) _ _ _ _); refine o_neA rfl ?_)
  | ((with_reducible show Op2 _ (rInA _) _ (Dt.str _) (Dt.lst _) _); refine o_inAL rfl rfl ?_)
  | ((with_reducible show Op2 _ (rInA _) _ (Dt.str _) (Dt.tup _) _); refine o_inAT rfl rfl ?_)
  | ((with_reducible show Op2 _ (rI _ _) _ _ _ _); refine o_i (by walk_at "yc") ?_)
  | ((with_reducible show Op2 _ (rIx _) _ (Dt.tup _) _ _); refine o_ixAT (atI_toNat (by decide) rfl) ?_)
  | ((with_reducible show Op2 _ (rIx _) _ (Dt.lst _) _ _); refine o_ixAL (atI_toNat (by decide) rfl) ?_)
  | ((with_reducible show ∃ x, atI _ _ = some x ∧ _); refine ⟨_, rfl, ?_⟩)
  | ((with_reducible show ∃ x, ixN _ _ = some x ∧ _); refine ⟨_, rfl, ?_⟩)
  | ((with_reducible show List.length _ ≤ 100000 ∧ _); refine ⟨by (try simp only [List.length_cons, List.length_nil]); first | decide | omega, ?_⟩))
local macro_rules | `(tactic| walk_at "y") => `(tactic| first | walk_at "yo" | walk_at "ye" | walk_at "yv" | walk_at "ys" | walk_at "yd")
local macro_rules | `(tactic| walk_at "yx") => `(tactic| first | walk_at "yo" | walk_at "ye" | walk_at "yv" | walk_at "yd")
section
variable {P : Program} {w : World} {K : PySem.W.Frag} {mg : Str → Option Value} {base : Heap}

theorem ok__law_titles (T : Tx K mg w) : FnOk P w K mg base CX0 3 T.a__law_titles T.d__law_titles ["_law_bag_here", "_law_many"] (spB K titlesPre titlesPost) := by
  have G__law_draw := ok__law_draw (P := P) (w := w) (base := base) T
  have G__law_of := ok__law_of (P := P) (w := w) (base := base) T
  refine fn_bag T.F__law_titles sc__law_titles (fun ds h => ?_) (fun cdv A outer s H E hr => ⟨_, (pss_cons (ps_par rfl sc__law_titles.nd (i := 2) (j := 3) rfl rfl (by decide) rfl rfl (pa_cons (pe_callTy (call_listB (K := K) rfl) (by rfl) T.n_list PyProof.Rows.boot_list (pa_cons pe_str pa_nil)) (pa_cons (pe_lst pa_nil) pa_nil)) rfl)
      (pss_cons (ps_set (i := 4) sc__law_titles.nd rfl (Or.inl rfl) (pe_joinA (K := K) pe_str (pe_lc (own := [("_law_k", 5)]) (g := gName 5) rfl sc__law_titles.nd (pi_range1 (by rfl) T.n_range (pa_cons (pe_call G__law_draw (hr.mono (by decide)) (by rfl) T.m__law_draw T.k__law_draw T.b__law_draw .nil pass0 (pa_cons (pv 0) (pa_cons pe_int pa_nil))) pa_nil)) (blkOk_by (N := ["_law_bag_here", "_law_many", "_law_left", "_law_found", "_law_stem", "_law_k", "_law_spot"]) (sc := defScope s__law_titles) (by decide +kernel)) (fun _ _ _ _ _ => (pg_name (i := 5) sc__law_titles.nd rfl (Or.inl rfl))) (fun _ _ _ _ _ => pts_nil) (fun _ _ _ _ _ => (pe_call G__law_of (hr.mono (by decide)) (by rfl) T.m__law_of T.k__law_of T.b__law_of .nil pass0 (pa_cons (pv 0) (pa_cons pe_str pa_nil)))))))
      (pss_cons (ps_set (i := 6) sc__law_titles.nd rfl (Or.inl rfl) (pe_call G__law_draw (hr.mono (by decide)) (by rfl) T.m__law_draw T.k__law_draw T.b__law_draw .nil pass0 (pa_cons (pv 0) (pa_cons (pe_op (op_plus (K := K)) (pe_callB (call_lenA (K := K)) (by rfl) T.n_len PySem.boot_len (pa_cons (pv 4) pa_nil)) pe_int) pa_nil))))
      (pss_cons (ps_for PassesOwn.never rfl (pi_range1 (by rfl) T.n_range (pa_cons (pv 1) pa_nil)) (pg_name (i := 5) sc__law_titles.nd rfl (Or.inl rfl)) (pss_one (ps_expr (pe_bm PySem.F.plainAttrs_list PySem.F.slot_list_append PySem.F.type_list_append mt_append (pv 3) (pa_cons (pe_op (op_plus (K := K)) (pe_op (op_plus (K := K)) (pe_slice (sl_any (K := K)) (pv 4) po_none (po_some (pv 6))) (pe_bm PySem.F.plainAttrs_list PySem.F.slot_list_pop PySem.F.type_list_pop mt_popAt (pv 2) (pa_cons (pe_call G__law_draw (hr.mono (by decide)) (by rfl) T.m__law_draw T.k__law_draw T.b__law_draw .nil pass0 (pa_cons (pv 0) (pa_cons (pe_callB (call_lenA (K := K)) (by rfl) T.n_len PySem.boot_len (pa_cons (pv 2) pa_nil)) pa_nil))) pa_nil))) (pe_slice (sl_any (K := K)) (pv 4) (po_some (pv 6)) po_none)) pa_nil)))))
      (pss_one (ps_ret (pv 3))))))), fun F0 H0 b ds h => ?_⟩)
  · obtain ⟨m, rfl, _⟩ := h; rfl
  · obtain ⟨m, rfl, hm0, hm1⟩ := h
    dsimp only [cxOf, env0, env1, List.map, List.length, List.replicate, List.cons_append, List.nil_append, List.append, Nat.reduceAdd, Nat.reduceSub, Nat.zero_add]
    have hlen : letters.length = 26 := by decide +kernel
    refine sm_seq (sm_parOO (by decide) (fun a xs e => nomatch e) (fun a xs e => nomatch e) (eo_listS (ea_cons (ev_str (ea_nil ⟨_, rfl, by decide +kernel, ?_⟩)))))
    refine eo_lst (ea_nil ⟨by decide, fun al af hne => ?_⟩)
    refine sm_seq (sm_set (ev_word rfl rfl (by decide) ⟨by decide, by decide⟩ ⟨by decide +kernel, by decide +kernel⟩ fun stem h1 h2 => ?_))
    have hl : stem.length ≤ 100000 := by show stem.cps.size ≤ _; omega
    have e0 : stem.length = stem.cps.size := rfl
    refine sm_seq (sm_set ?_)
    repeat walk_at "yx"
    refine draw_k ⟨by omega, by omega⟩ fun spot k1 k2 => ?_
    obtain ⟨n, rfl⟩ : ∃ n : Nat, spot = (n : Int) := ⟨spot.toNat, by omega⟩
    have hn : n ≤ stem.cps.size := by omega
    obtain ⟨c1, c2⟩ := cut_app stem n hn
    have hs : ∀ c ∈ stem.cps.toList, c ∈ letters := h2
    refine sm_seq (sm_for (ei_rng1 (ea_cons (ev_var rfl (ea_nil ⟨m, rfl, by omega, by omega, fun i e => ∃ (cs ls : List Nat) (s6 : Sl), e = [.r (.ref b), .d (.int m), .own al (ls.map fun c => Dt.str ⟨#[c]⟩), .own af ((cs.map fun c => (cutS stem none (some (n : Int)) ++ ⟨#[c]⟩ ++ cutS stem (some (n : Int)) none)).map Dt.str), .d (.str stem), s6, .d (.int (n : Int))] ∧ (cs ++ ls).Perm letters ∧ cs.length = i, ?_, ?_, ?_⟩)))))
    · exact ⟨[], letters, _, rfl, List.Perm.refl _, rfl⟩
    · rintro i x es' hx ⟨cs, ls, s6, rfl, hp, hc⟩
      obtain ⟨hi, rfl⟩ := rangeD_get hx
      have hls : cs.length + ls.length = 26 := by
        have := hp.length_eq
        rw [List.length_append, hlen] at this
        exact this
      refine tg_name (sm_appendM rfl (em_op (em_op ?_)))
      refine Ev.m (ev_slS (ev_var rfl (str_ex ⟨hl, ep_none (ep_some (ev_var rfl (int_ex ?_)))⟩)))
      refine em_pop (a := al) (xs := ls.map fun c => Dt.str ⟨#[c]⟩) rfl ?_
      refine ev_callB rfl rfl (ea_cons (ev_lenOwn (a := al) (xs := ls.map fun c => Dt.str ⟨#[c]⟩) rfl (ea_nil ?_)))
      rw [List.length_map]
      refine draw_k ⟨by omega, by omega⟩ fun j j1 j2 => ?_
      refine ⟨j, rfl, j1, by simpa using j2, by omega, fun y hy => ?_⟩
      rw [List.getElem?_map] at hy
      cases ec : ls[j.toNat]? with
      | none => rw [ec] at hy; cases hy
      | some c =>
        rw [ec] at hy
        cases hy
        have hcl : c ∈ letters := hp.subset (List.mem_append_right _ (List.mem_of_getElem? ec))
        have l1 : (cutS stem none (some (n : Int))).length ≤ stem.length := cutS_length _ _ _
        have l2 : (cutS stem (some (n : Int)) none).length ≤ stem.length := cutS_length _ _ _
        have l3 : (⟨#[c]⟩ : Str).length = 1 := rfl
        have l4 : (cutS stem none (some (n : Int)) ++ ⟨#[c]⟩).length = (cutS stem none (some (n : Int))).length + 1 := by
          show (cutS stem none (some (n : Int)) ++ ⟨#[c]⟩).cps.size = (cutS stem none (some (n : Int))).cps.size + 1
          rw [← Array.length_toList, app_toList, List.length_append, Array.length_toList]; rfl
        refine o_plusS (by omega) ?_
        refine Ev.m (ev_slS (ev_var rfl (str_ex ⟨hl, ep_some (ev_var rfl (int_ex (ep_none ?_)))⟩)))
        refine o_plusS (by omega) ⟨rfl, ?_, ?_⟩
        · rw [List.length_map, List.length_map]; omega
        · have em : (ls.map fun c => Dt.str ⟨#[c]⟩).eraseIdx j.toNat = (ls.eraseIdx j.toNat).map fun c => Dt.str ⟨#[c]⟩ := by
            rw [List.eraseIdx_eq_take_drop_succ, List.eraseIdx_eq_take_drop_succ, List.map_append, List.map_take, List.map_drop]
          refine ⟨cs ++ [c], ls.eraseIdx j.toNat, .d (.int (0 + (i : Int))), ?_, ?_, ?_⟩
          · rw [← em, List.map_append (l₁ := cs), List.map_append]
            rfl
          · have q1 : ls.Perm (c :: ls.eraseIdx j.toNat) := perm_erase ec
            rw [List.append_assoc]
            exact ((List.Perm.append_left cs q1).symm).trans hp
          · rw [List.length_append, hc]; rfl
    · rintro es' ⟨cs, ls, s6, rfl, hp, hc⟩
      rw [rangeD_len] at hc
      refine sm_freeze 3 rfl (sm_ret (ev_var rfl ?_))
      have hnd : (cs ++ ls).Nodup := hp.nodup_iff.mpr (by decide +kernel)
      have sz : ∀ c, (cutS stem none (some (n : Int)) ++ ⟨#[c]⟩ ++ cutS stem (some (n : Int)) none).cps.toList = stem.cps.toList.take n ++ [c] ++ stem.cps.toList.drop n := fun c => by
        rw [app_toList, app_toList, c1, c2]
      refine ⟨m, cs.map fun c => (cutS stem none (some (n : Int)) ++ ⟨#[c]⟩ ++ cutS stem (some (n : Int)) none), rfl, rfl, by rw [List.length_map]; omega, fun t ht => ?_, ?_⟩
      · obtain ⟨c, hcm, rfl⟩ := List.mem_map.mp ht
        have hz : (cutS stem none (some (n : Int)) ++ ⟨#[c]⟩ ++ cutS stem (some (n : Int)) none).cps.size = stem.cps.size + 1 := by
          rw [← Array.length_toList, sz, List.length_append, List.length_append, List.length_take, List.length_drop, Array.length_toList]
          simp; omega
        refine isName_mk (by omega) (by omega) fun k hk => ?_
        rw [sz] at hk
        rcases List.mem_append.mp hk with hk | hk
        · rcases List.mem_append.mp hk with hk | hk
          · exact hs k (List.mem_of_mem_take hk)
          · rw [List.mem_singleton.mp hk]
            exact hp.subset (List.mem_append_left _ hcm)
        · exact hs k (List.mem_of_mem_drop hk)
      · refine List.pairwise_map.mpr (((List.nodup_append.mp hnd).1).imp fun {x y} hxy e => hxy ?_)
        have e2 := congrArg (fun z : Str => z.cps.toList) e
        simp only [sz] at e2
        have e3 := List.append_cancel_right e2
        have e4 := List.append_cancel_left e3
        simpa using e4
end
end Law
namespace Law
open PySem L2 Y
local macro_rules | `(tactic| walk_at "yv") => `(tactic| ((with_reducible show Ev _ (tVar _) _ _); refine ev_var rfl ?_))
local macro_rules | `(tactic| walk_at "ys") => `(tactic| with_reducible first
  | refine sm_seq ?_ | refine sm_ret ?_ | refine sm_if ?_ | refine sm_set ?_ | refine sm_next ?_ | refine sm_par ?_ | refine sm_drop ?_ | refine sm_brk ?_ | refine sm_cont ?_)
local macro_rules | `(tactic| walk_at "ye") => `(tactic| with_reducible first
  | refine ev_op ?_ | refine ev_and ?_ | refine ev_or ?_ | refine ev_not ?_ | refine ev_if ?_ | refine ev_chain ?_ | refine ev_neg ?_ | refine ev_isInt ?_ | refine ev_isBool ?_ | refine ev_isStr ?_ | refine ev_isList ?_ | refine ev_isTuple ?_ | refine ev_isLT ?_ | refine ev_isDict ?_
  | refine ev_int ?_ | refine ev_str ?_ | refine ev_bl ?_ | refine ev_non ?_ | refine ev_call ?_ | refine ev_cb ?_ | refine ev_lst ?_ | refine ev_tup ?_ | refine ev_join ?_
  | refine ea_nil ?_ | refine ea_cons ?_
  | refine et_B ?_ | refine et_test ?_ | refine et_not ?_ | refine et_and ?_ | refine et_or ?_ | refine et_yes ?_
  | refine o_plusI ?_ | refine o_i0 ?_ | refine o_b0 ?_ | refine o_isN ?_ | refine o_notN ?_
  | refine bl_ex ?_ | refine int_ex ?_ | refine str_ex ?_ | refine lst_ex ?_ | refine tup_ex ?_)
local macro_rules | `(tactic| walk_at "yo") => `(tactic| first
  | ((with_reducible show Ev _ (tOp (rIx _) (tVar _) _) _ _); refine ev_ixOwn rfl ?_)
  | ((with_reducible show Ev _ (tCB _ (tCons (tVar _) tNil)) _ _); refine ev_lenOwn rfl ?_)
  | ((with_reducible show Sm _ (tAsg _ (gSub (tVar _) _ _)) _ _); refine sm_setItem rfl ?_)
  | ((with_reducible show Ev _ (tCall (spB _ _ _) _ _ _) _ _); refine ev_callB rfl rfl ?_))
local macro_rules | `(tactic| walk_at "yc") => `(tactic| first
  | ((with_reducible show CMul _ _); first | exact Or.inr ⟨by decide, by decide⟩ | exact Or.inl ⟨by decide, by decide⟩ | exact Or.inr ⟨by omega, by omega⟩ | exact Or.inl ⟨by omega, by omega⟩)
  | ((with_reducible show CDiv _ _); exact ⟨by first | decide | omega, by first | decide | omega⟩)
  | ((with_reducible show CPow _ _); exact ⟨by decide, by decide, by first | decide | omega⟩)
  | ((show (0 : Int) < _); first | decide | omega))
local macro_rules | `(tactic| walk_at "yd") => `(tactic| first
  | ((with_reducible show plainD _ = true ∧ _); refine ⟨by first | rfl | assumption, ?_⟩)
  | ((with_reducible show (_ = true → _) ∧ (_ = false → _)); first | refine way_t rfl ?_ | refine way_f rfl ?_ | refine way_t (by decide +kernel) ?_ | refine way_f (by decide +kernel) ?_)
  | ((with_reducible show Cal _ _ _ _ _); first | (with_reducible refine c_int ?_) | (with_reducible refine c_abs ?_) | (refine c_len rfl ?_) | (refine c_len (if_pos (by assumption)) ?_))
  | ((with_reducible show Op2 _ (rEqA _) _ _ _ _); refine o_eqA rfl ?_)
  | ((with_reducible show Op2 _ (rNeA _) _ _ _ _); refine o_neA rfl ?_)
  | ((with_reducible show Op2 _ (rInA _) _ (Dt.str _) (Dt.lst _) _); refine o_inAL rfl rfl ?_)
  | ((with_reducible show Op2 _ (rInA _) _ (Dt.str _) (Dt.tup _) _); refine o_inAT rfl rfl ?_)
  | ((with_reducible show Op2 _ (rI _ _) _ _ _ _); refine o_i (by walk_at "yc") ?_)
  | ((with_reducible show Op2 _ (rIx _) _ (Dt.tup _) _ _); refine o_ixAT (atI_toNat (by decide) rfl) ?_)
  | ((with_reducible show Op2 _ (rIx _) _ (Dt.lst _) _ _); refine o_ixAL (atI_toNat (by decide) rfl) ?_)
  | ((with_reducible show ∃ x, atI _ _ = some x ∧ _); refine ⟨_, rfl, ?_⟩)
  | ((with_reducible show ∃ x, ixN _ _ = some x ∧ _); refine ⟨_, rfl, ?_⟩)
  | ((with_reducible show List.length _ ≤ 100000 ∧ _); refine ⟨by (try simp only [List.length_cons, List.length_nil]); first | decide | omega, ?_⟩))
local macro_rules | `(tactic| walk_at "y") => `(tactic| first | walk_at "yo" | walk_at "ye" | walk_at "yv" | walk_at "ys" | walk_at "yd")
local macro_rules | `(tactic| walk_at "yx") => `(tactic| first | walk_at "yo" | walk_at "ye" | walk_at "yv" | walk_at "yd")
section
variable {P : Program} {w : World} {K : PySem.W.Frag} {mg : Str → Option Value} {base : Heap}

theorem ok__law_number (T : Tx K mg w) : FnOk P w K mg base CX0 3 T.a__law_number T.d__law_number ["_law_bag_here"] (spB K nilPre numberPost) := by
  have G__law_draw := ok__law_draw (P := P) (w := w) (base := base) T
  have G__law_of := ok__law_of (P := P) (w := w) (base := base) T
  refine fn_bag T.F__law_number sc__law_number (fun ds h => ?_) (fun cdv A outer s H E hr => ⟨_, (pss_one (ps_ret (pe_call G__law_of (hr.mono (by decide)) (by rfl) T.m__law_of T.k__law_of T.b__law_of .nil pass0 (pa_cons (pv 0) (pa_cons (pe_lst (pa_cons pe_int (pa_cons pe_int (pa_cons pe_int (pa_cons pe_int (pa_cons pe_int (pa_cons pe_int (pa_cons pe_int (pa_cons (pe_call G__law_draw (hr.mono (by decide)) (by rfl) T.m__law_draw T.k__law_draw T.b__law_draw .nil pass0 (pa_cons (pv 0) (pa_cons pe_int pa_nil))) (pa_cons (pe_call G__law_draw (hr.mono (by decide)) (by rfl) T.m__law_draw T.k__law_draw T.b__law_draw .nil pass0 (pa_cons (pv 0) (pa_cons pe_int pa_nil))) (pa_cons (pe_call G__law_draw (hr.mono (by decide)) (by rfl) T.m__law_draw T.k__law_draw T.b__law_draw .nil pass0 (pa_cons (pv 0) (pa_cons pe_int pa_nil))) pa_nil))))))))))) pa_nil))))), fun F0 H0 b ds h => ?_⟩)
  · cases h; rfl
  · cases h
    dsimp only [cxOf, env0, env1, List.map, List.length, List.replicate, List.cons_append, List.nil_append, List.append, Nat.reduceAdd, Nat.reduceSub, Nat.zero_add]
    repeat walk_at "y"
    refine draw_k ⟨by decide, by decide⟩ fun i1 a1 b1 => ?_
    repeat walk_at "y"
    refine draw_k ⟨by decide, by decide⟩ fun i2 a2 b2 => ?_
    repeat walk_at "y"
    refine draw_k ⟨by decide, by decide⟩ fun i3 a3 b3 => ?_
    repeat walk_at "y"
    refine of_k ⟨by show 0 < 10; decide, by show 10 ≤ 100000; decide⟩ fun d hd => ?_
    simp only [List.mem_cons, List.not_mem_nil, or_false] at hd
    rcases hd with rfl | rfl | rfl | rfl | rfl | rfl | rfl | rfl | rfl | rfl <;> exact ⟨_, rfl, by omega, by omega⟩

theorem ok__law_r (T : Tx K mg w) : FnOk P w K mg base CX0 3 T.a__law_r T.d__law_r ["_law_bag_here"] (spB K nilPre rPost) := by
  have G__law_of := ok__law_of (P := P) (w := w) (base := base) T
  refine fn_bag T.F__law_r sc__law_r (fun ds h => ?_) (fun cdv A outer s H E hr => ⟨_, (pss_one (ps_ret (pe_call G__law_of (hr.mono (by decide)) (by rfl) T.m__law_of T.k__law_of T.b__law_of .nil pass0 (pa_cons (pv 0) (pa_cons (pe_lst (pa_cons pe_str (pa_cons pe_str (pa_cons pe_str pa_nil)))) pa_nil))))), fun F0 H0 b ds h => ?_⟩)
  · cases h; rfl
  · cases h
    dsimp only [cxOf, env0, env1, List.map, List.length, List.replicate, List.cons_append, List.nil_append, List.append, Nat.reduceAdd, Nat.reduceSub, Nat.zero_add]
    repeat walk_at "y"
    exact of_all (p := isRegD) ⟨by decide, by decide⟩ (by decide +kernel) fun d hd => hd

theorem ok__law_code_row (T : Tx K mg w) : FnOk P w K mg base CX0 4 T.a__law_code_row T.d__law_code_row ["_law_bag_here", "_law_titles_here"] (spB K namesPre codeRowPost2) := by
  have G__law_draw := ok__law_draw (P := P) (w := w) (base := base) T
  have G__law_of := ok__law_of (P := P) (w := w) (base := base) T
  have G__law_r := ok__law_r (P := P) (w := w) (base := base) T
  have G__law_number := ok__law_number (P := P) (w := w) (base := base) T
  refine fn_bag T.F__law_code_row sc__law_code_row (fun ds h => ?_) (fun cdv A outer s H E hr => ⟨_, (pss_cons (ps_set (i := 2) sc__law_code_row.nd rfl (Or.inl rfl) (pe_call G__law_draw (hr.mono (by decide)) (by rfl) T.m__law_draw T.k__law_draw T.b__law_draw .nil pass0 (pa_cons (pv 0) (pa_cons pe_int pa_nil))))
      (pss_cons (ps_if (pt_cmpR op_lt (pv 2) pe_int (nomark _)) (pss_one (ps_ret (pe_tup (pa_cons pe_str (pa_cons (pe_call G__law_r (hr.mono (by decide)) (by rfl) T.m__law_r T.k__law_r T.b__law_r .nil pass0 (pa_cons (pv 0) pa_nil)) (pa_cons (pe_call G__law_number (hr.mono (by decide)) (by rfl) T.m__law_number T.k__law_number T.b__law_number .nil pass0 (pa_cons (pv 0) pa_nil)) pa_nil)))))) pss_nil)
      (pss_cons (ps_if (pt_cmpR op_lt (pv 2) pe_int (nomark _)) (pss_one (ps_ret (pe_tup (pa_cons (pe_call G__law_of (hr.mono (by decide)) (by rfl) T.m__law_of T.k__law_of T.b__law_of .nil pass0 (pa_cons (pv 0) (pa_cons (pe_lst (pa_cons pe_str (pa_cons pe_str pa_nil))) pa_nil))) (pa_cons (pe_call G__law_r (hr.mono (by decide)) (by rfl) T.m__law_r T.k__law_r T.b__law_r .nil pass0 (pa_cons (pv 0) pa_nil)) (pa_cons (pe_call G__law_of (hr.mono (by decide)) (by rfl) T.m__law_of T.k__law_of T.b__law_of .nil pass0 (pa_cons (pv 0) (pa_cons (pv 1) pa_nil))) pa_nil)))))) pss_nil)
      (pss_cons (ps_if (pt_cmpR op_lt (pv 2) pe_int (nomark _)) (pss_one (ps_ret (pe_tup (pa_cons (pe_call G__law_of (hr.mono (by decide)) (by rfl) T.m__law_of T.k__law_of T.b__law_of .nil pass0 (pa_cons (pv 0) (pa_cons (pe_lst (pa_cons pe_str (pa_cons pe_str pa_nil))) pa_nil))) (pa_cons (pe_call G__law_r (hr.mono (by decide)) (by rfl) T.m__law_r T.k__law_r T.b__law_r .nil pass0 (pa_cons (pv 0) pa_nil)) (pa_cons (pe_call G__law_r (hr.mono (by decide)) (by rfl) T.m__law_r T.k__law_r T.b__law_r .nil pass0 (pa_cons (pv 0) pa_nil)) pa_nil)))))) pss_nil)
      (pss_cons (ps_if (pt_cmpR op_lt (pv 2) pe_int (nomark _)) (pss_one (ps_ret (pe_tup (pa_cons (pe_call G__law_of (hr.mono (by decide)) (by rfl) T.m__law_of T.k__law_of T.b__law_of .nil pass0 (pa_cons (pv 0) (pa_cons (pe_lst (pa_cons pe_str (pa_cons pe_str pa_nil))) pa_nil))) (pa_cons (pe_call G__law_r (hr.mono (by decide)) (by rfl) T.m__law_r T.k__law_r T.b__law_r .nil pass0 (pa_cons (pv 0) pa_nil)) (pa_cons (pe_call G__law_r (hr.mono (by decide)) (by rfl) T.m__law_r T.k__law_r T.b__law_r .nil pass0 (pa_cons (pv 0) pa_nil)) (pa_cons (pe_call G__law_of (hr.mono (by decide)) (by rfl) T.m__law_of T.k__law_of T.b__law_of .nil pass0 (pa_cons (pv 0) (pa_cons (pe_lst (pa_cons pe_int (pa_cons pe_int (pa_cons (pe_call G__law_draw (hr.mono (by decide)) (by rfl) T.m__law_draw T.k__law_draw T.b__law_draw .nil pass0 (pa_cons (pv 0) (pa_cons pe_int pa_nil))) pa_nil)))) pa_nil))) pa_nil))))))) pss_nil)
      (pss_cons (ps_if (pt_cmpR op_lt (pv 2) pe_int (nomark _)) (pss_one (ps_ret (pe_tup (pa_cons (pe_call G__law_of (hr.mono (by decide)) (by rfl) T.m__law_of T.k__law_of T.b__law_of .nil pass0 (pa_cons (pv 0) (pa_cons (pe_lst (pa_cons pe_str (pa_cons pe_str pa_nil))) pa_nil))) (pa_cons (pe_call G__law_of (hr.mono (by decide)) (by rfl) T.m__law_of T.k__law_of T.b__law_of .nil pass0 (pa_cons (pv 0) (pa_cons (pv 1) pa_nil))) pa_nil))))) pss_nil)
      (pss_cons (ps_if (pt_cmpR op_lt (pv 2) pe_int (nomark _)) (pss_one (ps_ret (pe_tup (pa_cons (pe_call G__law_of (hr.mono (by decide)) (by rfl) T.m__law_of T.k__law_of T.b__law_of .nil pass0 (pa_cons (pv 0) (pa_cons (pe_lst (pa_cons pe_str (pa_cons pe_str pa_nil))) pa_nil))) (pa_cons (pe_call G__law_r (hr.mono (by decide)) (by rfl) T.m__law_r T.k__law_r T.b__law_r .nil pass0 (pa_cons (pv 0) pa_nil)) pa_nil))))) pss_nil)
      (pss_one (ps_ret (pe_call G__law_of (hr.mono (by decide)) (by rfl) T.m__law_of T.k__law_of T.b__law_of .nil pass0 (pa_cons (pv 0) (pa_cons (pe_lst (pa_cons (pe_tup (pa_cons pe_str pa_nil)) (pa_cons (pe_tup (pa_cons pe_str pa_nil)) (pa_cons (pe_tup (pa_cons pe_str (pa_cons (pe_call G__law_of (hr.mono (by decide)) (by rfl) T.m__law_of T.k__law_of T.b__law_of .nil pass0 (pa_cons (pv 0) (pa_cons (pe_lst (pa_cons pe_int (pa_cons pe_int (pa_cons pe_int (pa_cons pe_int pa_nil))))) pa_nil))) pa_nil))) pa_nil)))) pa_nil)))))))))))), fun F0 H0 b ds h => ?_⟩)
  · obtain ⟨t, rfl, _⟩ := h; rfl
  · obtain ⟨t, rfl, ht⟩ := h
    dsimp only [cxOf, env0, env1, List.map, List.length, List.replicate, List.cons_append, List.nil_append, List.append, Nat.reduceAdd, Nat.reduceSub, Nat.zero_add]
    refine sm_seq (sm_set ?_)
    repeat walk_at "yx"
    refine draw_k ⟨by decide, by decide⟩ fun way k1 k2 => ?_
    repeat walk_at "y"
    refine ways (fun h => ?_) (fun h => ?_)
    · repeat walk_at "y"
      refine r_k fun r hr' => ?_
      repeat walk_at "y"
      refine number_k fun n n1 n2 => ?_
      repeat walk_at "y"
      exact ⟨rowBy_of (ks := [114, 119]) (by decide +kernel) (form2 (fit_r hr') (fit_w ⟨n1, n2⟩)), fun t' e => by cases e; exact (nf2 (nm_r hr') nm_int)⟩
    repeat walk_at "y"
    refine ways (fun h => ?_) (fun h => ?_)
    · repeat walk_at "y"
      refine of_k ⟨by decide, by decide⟩ fun wd hw => ?_
      repeat walk_at "y"
      refine r_k fun r hr' => ?_
      repeat walk_at "y"
      refine of_namesM ht fun nm hnm hmem => ?_
      repeat walk_at "y"
      simp only [List.mem_cons, List.not_mem_nil, or_false] at hw
      rcases hw with rfl | rfl <;> exact ⟨rowBy_of (ks := [114, 110]) (by decide +kernel) (form2 (fit_r hr') (fit_n hnm)), fun t' e => by cases e; exact (nf2 (nm_r hr') hmem)⟩
    repeat walk_at "y"
    refine ways (fun h => ?_) (fun h => ?_)
    · repeat walk_at "y"
      refine of_k ⟨by decide, by decide⟩ fun wd hw => ?_
      repeat walk_at "y"
      refine r_k fun r hr' => ?_
      repeat walk_at "y"
      refine r_k fun r2 hr2 => ?_
      repeat walk_at "y"
      simp only [List.mem_cons, List.not_mem_nil, or_false] at hw
      rcases hw with rfl | rfl <;> exact ⟨rowBy_of (ks := [114, 114]) (by decide +kernel) (form2 (fit_r hr') (fit_r hr2)), fun t' e => by cases e; exact (nf2 (nm_r hr') (nm_r hr2))⟩
    repeat walk_at "y"
    refine ways (fun h => ?_) (fun h => ?_)
    · repeat walk_at "y"
      refine of_k ⟨by decide, by decide⟩ fun wd hw => ?_
      repeat walk_at "y"
      refine r_k fun r hr' => ?_
      repeat walk_at "y"
      refine r_k fun r2 hr2 => ?_
      repeat walk_at "y"
      refine draw_k ⟨by decide, by decide⟩ fun d d1 d2 => ?_
      repeat walk_at "y"
      refine of_k ⟨by show 0 < 3; decide, by show 3 ≤ 100000; decide⟩ fun dd hd => ?_
      have hd' : fitsB 100 dd = true := by
        simp only [List.mem_cons, List.not_mem_nil, or_false] at hd
        rcases hd with rfl | rfl | rfl <;> exact fit_d ⟨by omega, by omega⟩
      repeat walk_at "y"
      simp only [List.mem_cons, List.not_mem_nil, or_false] at hw
      rcases hw with rfl | rfl <;> exact ⟨rowBy_of (ks := [114, 114, 100]) (by decide +kernel) (form3 (fit_r hr') (fit_r hr2) hd'), fun t' e => by cases e; exact (nf3 (nm_r hr') (nm_r hr2) (nm_fitd hd'))⟩
    repeat walk_at "y"
    refine ways (fun h => ?_) (fun h => ?_)
    · repeat walk_at "y"
      refine of_k ⟨by decide, by decide⟩ fun wd hw => ?_
      repeat walk_at "y"
      refine of_namesM ht fun nm hnm hmem => ?_
      repeat walk_at "y"
      simp only [List.mem_cons, List.not_mem_nil, or_false] at hw
      rcases hw with rfl | rfl <;> exact ⟨rowBy_of (ks := [110]) (by decide +kernel) (form1 (fit_n hnm)), fun t' e => by cases e; exact (nf1 hmem)⟩
    repeat walk_at "y"
    refine ways (fun h => ?_) (fun h => ?_)
    · repeat walk_at "y"
      refine of_k ⟨by decide, by decide⟩ fun wd hw => ?_
      repeat walk_at "y"
      refine r_k fun r hr' => ?_
      repeat walk_at "y"
      simp only [List.mem_cons, List.not_mem_nil, or_false] at hw
      rcases hw with rfl | rfl <;> exact ⟨rowBy_of (ks := [114]) (by decide +kernel) (form1 (fit_r hr')), fun t' e => by cases e; exact (nf1 (nm_r hr'))⟩
    repeat walk_at "y"
    refine of_k ⟨by decide, by decide⟩ fun kk hk => ?_
    have hk' : fitsB 107 kk = true := by
      simp only [List.mem_cons, List.not_mem_nil, or_false] at hk
      rcases hk with rfl | rfl | rfl | rfl <;> exact fit_k ⟨by omega, by omega⟩
    repeat walk_at "y"
    refine of_k ⟨by show 0 < 3; decide, by show 3 ≤ 100000; decide⟩ fun dd hd => ?_
    simp only [List.mem_cons, List.not_mem_nil, or_false] at hd
    rcases hd with rfl | rfl | rfl
    · exact ⟨rowBy_of (ks := []) (by decide +kernel) form0, fun t' e => by cases e; exact nf0⟩
    · exact ⟨rowBy_of (ks := []) (by decide +kernel) form0, fun t' e => by cases e; exact nf0⟩
    · exact ⟨rowBy_of (ks := [107]) (by decide +kernel) (form1 hk'), fun t' e => by cases e; exact (nf1 (nm_fit hk'))⟩

theorem ok__law_data_row (T : Tx K mg w) : FnOk P w K mg base CX0 4 T.a__law_data_row T.d__law_data_row ["_law_bag_here", "_law_titles_here"] (spB K namesPre dataRowPost2) := by
  have G__law_draw := ok__law_draw (P := P) (w := w) (base := base) T
  have G__law_of := ok__law_of (P := P) (w := w) (base := base) T
  have G__law_number := ok__law_number (P := P) (w := w) (base := base) T
  refine fn_bag T.F__law_data_row sc__law_data_row (fun ds h => ?_) (fun cdv A outer s H E hr => ⟨_, (pss_cons (ps_set (i := 2) sc__law_data_row.nd rfl (Or.inl rfl) (pe_call G__law_draw (hr.mono (by decide)) (by rfl) T.m__law_draw T.k__law_draw T.b__law_draw .nil pass0 (pa_cons (pv 0) (pa_cons pe_int pa_nil))))
      (pss_cons (ps_if (pt_cmpR (op_eqA (K := K) hr.units) (pv 2) pe_int (nomark _)) (pss_one (ps_ret (pe_tup (pa_cons pe_str (pa_cons (pe_call G__law_number (hr.mono (by decide)) (by rfl) T.m__law_number T.k__law_number T.b__law_number .nil pass0 (pa_cons (pv 0) pa_nil)) pa_nil))))) pss_nil)
      (pss_one (ps_ret (pe_ifExp (pt_cmpR (op_eqA (K := K) hr.units) (pv 2) pe_int (nomark _)) (pe_tup (pa_cons pe_str (pa_cons (pe_call G__law_of (hr.mono (by decide)) (by rfl) T.m__law_of T.k__law_of T.b__law_of .nil pass0 (pa_cons (pv 0) (pa_cons (pv 1) pa_nil))) pa_nil))) (pe_tup (pa_cons pe_str (pa_cons (pe_call G__law_of (hr.mono (by decide)) (by rfl) T.m__law_of T.k__law_of T.b__law_of .nil pass0 (pa_cons (pv 0) (pa_cons (pe_lst (pa_cons pe_int (pa_cons pe_int (pa_cons pe_int (pa_cons pe_int pa_nil))))) pa_nil))) pa_nil)))))))), fun F0 H0 b ds h => ?_⟩)
  · obtain ⟨t, rfl, _⟩ := h; rfl
  · obtain ⟨t, rfl, ht⟩ := h
    dsimp only [cxOf, env0, env1, List.map, List.length, List.replicate, List.cons_append, List.nil_append, List.append, Nat.reduceAdd, Nat.reduceSub, Nat.zero_add]
    refine sm_seq (sm_set ?_)
    repeat walk_at "yx"
    refine draw_k ⟨by decide, by decide⟩ fun way k1 k2 => ?_
    repeat walk_at "y"
    refine ways (fun h => ?_) (fun h => ?_)
    · repeat walk_at "y"
      refine number_k fun n n1 n2 => ?_
      repeat walk_at "y"
      exact ⟨rowBy_of (ks := [119]) (by decide +kernel) (form1 (fit_w ⟨n1, n2⟩)), fun t' e => by cases e; exact (nf1 nm_int)⟩
    repeat walk_at "y"
    refine ways (fun h => ?_) (fun h => ?_)
    · repeat walk_at "y"
      refine of_namesM ht fun nm hnm hmem => ?_
      repeat walk_at "y"
      exact ⟨rowBy_of (ks := [110]) (by decide +kernel) (form1 (fit_n hnm)), fun t' e => by cases e; exact (nf1 hmem)⟩
    · repeat walk_at "y"
      refine of_k ⟨by decide, by decide⟩ fun kk hk => ?_
      have hk' : fitsB 107 kk = true := by
        simp only [List.mem_cons, List.not_mem_nil, or_false] at hk
        rcases hk with rfl | rfl | rfl | rfl <;> exact fit_k ⟨by omega, by omega⟩
      repeat walk_at "y"
      exact ⟨rowBy_of (ks := [107]) (by decide +kernel) (form1 hk'), fun t' e => by cases e; exact (nf1 (nm_fit hk'))⟩
end
end Law
namespace Law
open PySem L2 Y
local macro_rules | `(tactic| walk_at "yv") => `(tactic| ((with_reducible show Ev _ (tVar _) _ _); refine ev_var rfl ?_))
local macro_rules | `(tactic| walk_at "ys") => `(tactic| with_reducible first
  | refine sm_seq ?_ | refine sm_ret ?_ | refine sm_if ?_ | refine sm_set ?_ | refine sm_next ?_ | refine sm_par ?_ | refine sm_drop ?_ | refine sm_brk ?_ | refine sm_cont ?_)
local macro_rules | `(tactic| walk_at "ye") => `(tactic| with_reducible first
  | refine ev_op ?_ | refine ev_and ?_ | refine ev_or ?_ | refine ev_not ?_ | refine ev_if ?_ | refine ev_chain ?_ | refine ev_neg ?_ | refine ev_isInt ?_ | refine ev_isBool ?_ | refine ev_isStr ?_ | refine ev_isList ?_ | refine ev_isTuple ?_ | refine ev_isLT ?_ | refine ev_isDict ?_
  | refine ev_int ?_ | refine ev_str ?_ | refine ev_bl ?_ | refine ev_non ?_ | refine ev_call ?_ | refine ev_cb ?_ | refine ev_lst ?_ | refine ev_tup ?_ | refine ev_join ?_
  | refine ea_nil ?_ | refine ea_cons ?_
  | refine et_B ?_ | refine et_test ?_ | refine et_not ?_ | refine et_and ?_ | refine et_or ?_ | refine et_yes ?_
  | refine o_plusI ?_ | refine o_i0 ?_ | refine o_b0 ?_ | refine o_isN ?_ | refine o_notN ?_
  | refine bl_ex ?_ | refine int_ex ?_ | refine str_ex ?_ | refine lst_ex ?_ | refine tup_ex ?_)
local macro_rules | `(tactic| walk_at "yo") => `(tactic| first
  | ((with_reducible show Ev _ (tOp (rIx _) (tVar _) _) _ _); refine ev_ixOwn rfl ?_)
  | ((with_reducible show Ev _ (tCB _ (tCons (tVar _) tNil)) _ _); refine ev_lenOwn rfl ?_)
  | ((with_reducible show Sm _ (tAsg _ (gSub (tVar _) _ _)) _ _); refine sm_setItem rfl ?_)
  | ((with_reducible show Ev _ (tCall (spB _ _ _) _ _ _) _ _); refine ev_callB rfl rfl ?_))
local macro_rules | `(tactic| walk_at "yc") => `(tactic| first
  | ((with_reducible show CMul _ _); first | exact Or.inr ⟨by decide, by decide⟩ | exact Or.inl ⟨by decide, by decide⟩ | exact Or.inr ⟨by omega, by omega⟩ | exact Or.inl ⟨by omega, by omega⟩)
  | ((with_reducible show CDiv _ _); exact ⟨by first | decide | omega, by first | decide | omega⟩)
  | ((with_reducible show CPow _ _); exact ⟨by decide, by decide, by first | decide | omega⟩)
  | ((show (0 : Int) < _); first | decide | omega))
local macro_rules | `(tactic| walk_at "yd") => `(tactic| first
  | ((with_reducible show plainD _ = true ∧ _); refine ⟨by first | rfl | assumption, ?_⟩)
  | ((with_reducible show (_ = true → _) ∧ (_ = false → _)); first | refine way_t rfl ?_ | refine way_f rfl ?_ | refine way_t (by decide +kernel) ?_ | refine way_f (by decide +kernel) ?_)
  | ((with_reducible show Cal _ _ _ _ _); first | (with_reducible refine c_int ?_) | (with_reducible refine c_abs ?_) | (refine c_len rfl ?_) | (refine c_len (if_pos (by assumption)) ?_))
  | ((with_reducible show Op2 _ (rEqA _) _ _ _ _); refine o_eqA rfl ?_)
  | ((with_reducible show Op2 _ (rNeA _) _ _ _ _); refine o_neA rfl ?_)
  | ((with_reducible show Op2 _ (rInA _) _ (Dt.str _) (Dt.lst _) _); refine o_inAL rfl rfl ?_)
  | ((with_reducible show Op2 _ (rInA _) _ (Dt.str _) (Dt.tup _) _); refine o_inAT rfl rfl ?_)
  | ((with_reducible show Op2 _ (rI _ _) _ _ _ _); refine o_i (by walk_at "yc") ?_)
  | ((with_reducible show Op2 _ (rIx _) _ (Dt.tup _) _ _); refine o_ixAT (atI_toNat (by decide) rfl) ?_)
  | ((with_reducible show Op2 _ (rIx _) _ (Dt.lst _) _ _); refine o_ixAL (atI_toNat (by decide) rfl) ?_)
  | ((with_reducible show ∃ x, atI _ _ = some x ∧ _); refine ⟨_, rfl, ?_⟩)
  | ((with_reducible show ∃ x, ixN _ _ = some x ∧ _); refine ⟨_, rfl, ?_⟩)
  | ((with_reducible show List.length _ ≤ 100000 ∧ _); refine ⟨by (try simp only [List.length_cons, List.length_nil]); first | decide | omega, ?_⟩))
local macro_rules | `(tactic| walk_at "y") => `(tactic| first | walk_at "yo" | walk_at "ye" | walk_at "yv" | walk_at "ys" | walk_at "yd")
local macro_rules | `(tactic| walk_at "yx") => `(tactic| first | walk_at "yo" | walk_at "ye" | walk_at "yv" | walk_at "yd")
section
variable {P : Program} {w : World} {K : PySem.W.Frag} {mg : Str → Option Value} {base : Heap}

theorem ok_is_word (T : Tx K mg w) : FnOk P w K mg base CX0 2 T.a_is_word T.d_is_word ["value"] (spD K valPre wordPost) := by
  have G_is_number := ok_is_number (P := P) (w := w) (base := base) T
  refine fn_data T.F_is_word sc_is_word (fun ds h => ?_) (fun cdv A outer s H E hr => ⟨_, (pss_one (ps_ret (pe_call G_is_number (hr.mono (by decide)) (by rfl) T.m_is_number T.k_is_number T.b_is_number .nil pass0 (pa_cons (pv 0) (pa_cons pe_int (pa_cons (pe_glob (v := .int 65535) (by rfl) T.m_MOST_WORD T.r_MOST_WORD) pa_nil)))))), fun F0 H0 ds h => ?_⟩)
  · obtain ⟨x, rfl, _⟩ := h; rfl
  · obtain ⟨x, rfl, hx, _⟩ := h
    dsimp only [cxOf, env0, env1, List.map, List.length, List.replicate, List.cons_append, List.nil_append, List.append, Nat.reduceAdd, Nat.reduceSub, Nat.zero_add]
    repeat walk_at "y"
    refine ⟨⟨x, 0, 65535, rfl, hx⟩, ?_⟩
    rintro d ⟨y, l, m, e, rfl⟩
    cases e
    exact ⟨x, rfl, rfl⟩

theorem ok_is_register (T : Tx K mg w) : FnOk P w K mg base CX0 1 T.a_is_register T.d_is_register ["value"] (spD K valPre regPost) := by
  refine fn_data T.F_is_register sc_is_register (fun ds h => ?_) (fun cdv A outer s H E hr => ⟨_, (pss_one (ps_ret (pe_and (pe_callB (call_isiA (K := K)) (by rfl) T.n_isinstance PyProof.Rows.boot_isinstance (pa_cons (pv 0) (pa_cons (pe_bltn (v := .ty "str") (by rfl) T.n_str (by decide +kernel) rfl) pa_nil))) (pe_one (pe_cmpR (op_inA (K := K)) (pv 0) (pe_glob (v := .ref T.a_REGISTERS) (by rfl) T.m_REGISTERS rfl) (by rfl)))))), fun F0 H0 ds h => ?_⟩)
  · obtain ⟨x, rfl, _⟩ := h; rfl
  · obtain ⟨x, rfl, hx, _⟩ := h
    dsimp only [cxOf, env0, env1, List.map, List.length, List.replicate, List.cons_append, List.nil_append, List.append, Nat.reduceAdd, Nat.reduceSub, Nat.zero_add]
    cases x with
    | obj _ _ _ => cases hx
    | ali _ => cases hx
    | str z =>
      repeat walk_at "y"
      refine ev_k T.kd_REGISTERS (o_inAT rfl rfl ?_)
      exact ⟨_, rfl, rfl⟩
    | _ =>
      repeat walk_at "y"
      exact ⟨_, rfl, rfl⟩

theorem ok_is_name (T : Tx K mg w) : FnOk P w K mg base CX0 1 T.a_is_name T.d_is_name ["value"] (spD K valPre namePost) := by
  refine fn_data T.F_is_name sc_is_name (fun ds h => ?_) (fun cdv A outer s H E hr => ⟨_, (pss_cons (ps_if (PW.pt (pw_or (pt_not (pt_val (pe_callB (call_isiA (K := K)) (by rfl) T.n_isinstance PyProof.Rows.boot_isinstance (pa_cons (pv 0) (pa_cons (pe_bltn (v := .ty "str") (by rfl) T.n_str (by decide +kernel) rfl) pa_nil))))) (pw_or1 (pt_not (pt_chain op_le op_le pe_int (pe_callB (call_lenA (K := K)) (by rfl) T.n_len PySem.boot_len (pa_cons (pv 0) pa_nil)) (pe_glob (v := .int 6) (by rfl) T.m_MOST_LETTERS T.r_MOST_LETTERS)))))) (pss_one (ps_ret pe_bl)) pss_nil)
      (pss_one (ps_ret (pe_callB (cr_allA (K := K) rfl) (by rfl) T.n_all PyProof.Rows.boot_all (pa_cons (pe_lc (own := [("sign", 1)]) (g := gName 1) rfl sc_is_name.nd (pi_str (pv 0)) (blkOk_by (N := ["value", "sign"]) (sc := defScope s_is_name) (by decide +kernel)) (fun _ _ _ _ _ => (pg_name (i := 1) sc_is_name.nd rfl (Or.inl rfl))) (fun _ _ _ _ _ => pts_nil) (fun _ _ _ _ _ => (pe_cmpR (op_inA (K := K)) (pv 1) (pe_glob (v := .str "abcdefghijklmnopqrstuvwxyz") (by rfl) T.m_LETTERS T.r_LETTERS) (by rfl)))) pa_nil))))), fun F0 H0 ds h => ?_⟩)
  · obtain ⟨x, rfl, _⟩ := h; rfl
  · obtain ⟨x, rfl, hx, ht⟩ := h
    dsimp only [cxOf, env0, env1, List.map, List.length, List.replicate, List.cons_append, List.nil_append, List.append, Nat.reduceAdd, Nat.reduceSub, Nat.zero_add]
    cases x with
    | obj _ _ _ => cases hx
    | ali _ => cases hx
    | str z =>
      obtain ⟨hz, _⟩ := ht z rfl
      have hl : z.length ≤ 100000 := by show z.cps.size ≤ _; omega
      repeat walk_at "y"
      refine ways (fun h1 => ?_) (fun h1 => ?_)
      · repeat walk_at "y"
        refine ways (fun h2 => ?_) (fun h2 => ?_)
        · repeat walk_at "y"
          refine ⟨_, rfl, ?_⟩
          show _ = Dt.bl (_ && (_ && _))
          have h2 : decide ((z.length : Int) ≤ 6) = false := by simpa using h2
          rw [h1, h2]; rfl
        · repeat walk_at "y"
          have h2 : decide ((z.length : Int) ≤ 6) = true := by simpa using h2
          refine EvO.ev (eo_mapS (fun c => .bl (decide (c ∈ letters))) ?_)
          repeat walk_at "y"
          refine ⟨by omega, fun c hc => ?_, ?_⟩
          · repeat walk_at "y"
            refine o_inAS ?_
            rfl
          · refine ea_nil (c_allF ?_)
            refine ⟨_, rfl, ?_⟩
            show _ = Dt.bl (_ && (_ && _))
            rw [h1, h2]; rfl
      · repeat walk_at "y"
        refine ⟨_, rfl, ?_⟩
        show _ = Dt.bl (_ && _)
        rw [h1]; rfl
    | _ =>
      repeat walk_at "y"
      exact ⟨_, rfl, rfl⟩

theorem ok__law_is_title (T : Tx K mg w) : FnOk P w K mg base CX0 1 T.a__law_is_title T.d__law_is_title ["_law_thing"] (spD K valPre namePost) := by
  refine fn_data T.F__law_is_title sc__law_is_title (fun ds h => ?_) (fun cdv A outer s H E hr => ⟨_, (pss_cons (ps_if (PW.pt (pw_or (pt_not (pt_val (pe_callB (call_isiA (K := K)) (by rfl) T.n_isinstance PyProof.Rows.boot_isinstance (pa_cons (pv 0) (pa_cons (pe_bltn (v := .ty "str") (by rfl) T.n_str (by decide +kernel) rfl) pa_nil))))) (pw_or (pt_cmpR op_lt (pe_callB (call_lenA (K := K)) (by rfl) T.n_len PySem.boot_len (pa_cons (pv 0) pa_nil)) pe_int (nomark _)) (pw_or1 (pt_cmpR op_gt (pe_callB (call_lenA (K := K)) (by rfl) T.n_len PySem.boot_len (pa_cons (pv 0) pa_nil)) pe_int (nomark _)))))) (pss_one (ps_ret pe_bl)) pss_nil)
      (pss_one (ps_ret (pe_cmpR (op_eqA (K := K) hr.units) (pe_lc (own := [("_law_sign", 1)]) (g := gName 1) rfl sc__law_is_title.nd (pi_str (pv 0)) (blkOk_by (N := ["_law_thing", "_law_sign"]) (sc := defScope s__law_is_title) (by decide +kernel)) (fun _ _ _ _ _ => (pg_name (i := 1) sc__law_is_title.nd rfl (Or.inl rfl))) (fun _ _ _ _ _ => (pts_one (pt_cmpR (op_niA (K := K)) (pv 1) pe_str (by rfl)))) (fun _ _ _ _ _ => (pv 1))) (pe_lst pa_nil) (nomark _))))), fun F0 H0 ds h => ?_⟩)
  · obtain ⟨x, rfl, _⟩ := h; rfl
  · obtain ⟨x, rfl, hx, ht⟩ := h
    dsimp only [cxOf, env0, env1, List.map, List.length, List.replicate, List.cons_append, List.nil_append, List.append, Nat.reduceAdd, Nat.reduceSub, Nat.zero_add]
    cases x with
    | obj _ _ _ => cases hx
    | ali _ => cases hx
    | str z =>
      obtain ⟨hz, hok⟩ := ht z rfl
      have hl : z.length ≤ 100000 := by show z.cps.size ≤ _; omega
      repeat walk_at "y"
      refine ways (fun h1 => ?_) (fun h1 => ?_)
      · repeat walk_at "y"
        refine ⟨_, rfl, ?_⟩
        show _ = Dt.bl (_ && (_ && _))
        have h1 := of_decide_eq_true h1
        rw [decide_eq_false (by omega)]; rfl
      · repeat walk_at "y"
        have h1 := of_decide_eq_false h1
        refine ways (fun h2 => ?_) (fun h2 => ?_)
        · repeat walk_at "y"
          refine ⟨_, rfl, ?_⟩
          show _ = Dt.bl (_ && (_ && _))
          have h2 := of_decide_eq_true h2
          rw [decide_eq_true (show (1 : Int) ≤ z.length by omega), decide_eq_false (show ¬ (z.length : Int) ≤ 6 by omega)]; rfl
        · repeat walk_at "y"
          have h2 := of_decide_eq_false h2
          refine EvO.ev (eo_filterS (fun c => !decide (c ∈ letters)) ?_ (by show 1 < 2; decide))
          repeat walk_at "y"
          refine ⟨by omega, fun c hc => ?_, ?_⟩
          · repeat walk_at "y"
            refine o_niAS ?_
            exact bl_ex rfl
          · repeat walk_at "y"
            have e : ((z.cps.toList.filter fun c => !decide (c ∈ letters)).map fun c => Dt.str ⟨#[c]⟩) = ((z.cps.toList.filter fun c => !decide (c ∈ letters)).map fun c => (⟨#[c]⟩ : Str)).map Dt.str := by rw [List.map_map]; rfl
            rw [e]
            refine o_eqNil ?_ ?_ ?_
            · rw [List.length_map]
              have := List.length_filter_le (fun c => !decide (c ∈ letters)) z.cps.toList
              have e0 : z.cps.toList.length = z.cps.size := by simp
              omega
            · intro t ht
              obtain ⟨c, hc, rfl⟩ := List.mem_map.mp ht
              refine strOk_of (lit := z) (fun k hk => ?_) hok
              have : k = c := by simpa using hk
              rw [this]
              exact (List.mem_filter.mp hc).1
            · refine ⟨_, rfl, ?_⟩
              show _ = Dt.bl (_ && (_ && _))
              rw [decide_eq_true (show (1 : Int) ≤ z.length by omega), decide_eq_true (show (z.length : Int) ≤ 6 by omega)]
              show Dt.bl _ = Dt.bl _
              rw [Bool.true_and, Bool.true_and]
              congr 1
              rw [Bool.eq_iff_iff, List.all_eq_true, List.isEmpty_iff, List.map_eq_nil_iff, List.filter_eq_nil_iff]
              simp
    | _ =>
      repeat walk_at "y"
      exact ⟨_, rfl, rfl⟩
end
end Law
namespace Law
open PySem L2 Y
local macro_rules | `(tactic| walk_at "yv") => `(tactic| ((with_reducible show Ev _ (tVar _) _ _); refine ev_var rfl ?_))
local macro_rules | `(tactic| walk_at "ys") => `(tactic| with_reducible first
  | refine sm_seq ?_ | refine sm_ret ?_ | refine sm_if ?_ | refine sm_set ?_ | refine sm_next ?_ | refine sm_par ?_ | refine sm_drop ?_ | refine sm_brk ?_ | refine sm_cont ?_)
local macro_rules | `(tactic| walk_at "ye") => `(tactic| with_reducible first
  | refine ev_op ?_ | refine ev_and ?_ | refine ev_or ?_ | refine ev_not ?_ | refine ev_if ?_ | refine ev_chain ?_ | refine ev_neg ?_ | refine ev_isInt ?_ | refine ev_isBool ?_ | refine ev_isStr ?_ | refine ev_isList ?_ | refine ev_isTuple ?_ | refine ev_isLT ?_ | refine ev_isDict ?_
  | refine ev_int ?_ | refine ev_str ?_ | refine ev_bl ?_ | refine ev_non ?_ | refine ev_call ?_ | refine ev_cb ?_ | refine ev_lst ?_ | refine ev_tup ?_ | refine ev_join ?_
  | refine ea_nil ?_ | refine ea_cons ?_
  | refine et_B ?_ | refine et_test ?_ | refine et_not ?_ | refine et_and ?_ | refine et_or ?_ | refine et_yes ?_
  | refine o_plusI ?_ | refine o_i0 ?_ | refine o_b0 ?_ | refine o_isN ?_ | refine o_notN ?_
  | refine bl_ex ?_ | refine int_ex ?_ | refine str_ex ?_ | refine lst_ex ?_ | refine tup_ex ?_)
local macro_rules | `(tactic| walk_at "yo") => `(tactic| first
  | ((with_reducible show Ev _ (tOp (rIx _) (tVar _) _) _ _); refine ev_ixOwn rfl ?_)
  | ((with_reducible show Ev _ (tCB _ (tCons (tVar _) tNil)) _ _); refine ev_lenOwn rfl ?_)
  | ((with_reducible show Sm _ (tAsg _ (gSub (tVar _) _ _)) _ _); refine sm_setItem rfl ?_)
  | ((with_reducible show Ev _ (tCall (spB _ _ _) _ _ _) _ _); refine ev_callB rfl rfl ?_))
local macro_rules | `(tactic| walk_at "yc") => `(tactic| first
  | ((with_reducible show CMul _ _); first | exact Or.inr ⟨by decide, by decide⟩ | exact Or.inl ⟨by decide, by decide⟩ | exact Or.inr ⟨by omega, by omega⟩ | exact Or.inl ⟨by omega, by omega⟩)
  | ((with_reducible show CDiv _ _); exact ⟨by first | decide | omega, by first | decide | omega⟩)
  | ((with_reducible show CPow _ _); exact ⟨by decide, by decide, by first | decide | omega⟩)
  | ((show (0 : Int) < _); first | decide | omega))
local macro_rules | `(tactic| walk_at "yd") => `(tactic| first
  | ((with_reducible show plainD _ = true ∧ _); refine ⟨by first | rfl | assumption, ?_⟩)
  | ((with_reducible show (_ = true → _) ∧ (_ = false → _)); first | refine way_t rfl ?_ | refine way_f rfl ?_ | refine way_t (by decide +kernel) ?_ | refine way_f (by decide +kernel) ?_)
  | ((with_reducible show Cal _ _ _ _ _); first | (with_reducible refine c_int ?_) | (with_reducible refine c_abs ?_) | (refine c_len rfl ?_) | (refine c_len (if_pos (by assumption)) ?_))
  | ((with_reducible show Op2 _ (rEqA _) _ _ _ _); refine o_eqA rfl ?_)
  | ((with_reducible show Op2 _ (rNeA _) _ _ _ _); refine o_neA rfl ?_)
  | ((with_reducible show Op2 _ (rInA _) _ (Dt.str _) (Dt.lst _) _); refine o_inAL rfl rfl ?_)
  | ((with_reducible show Op2 _ (rInA _) _ (Dt.str _) (Dt.tup _) _); refine o_inAT rfl rfl ?_)
  | ((with_reducible show Op2 _ (rI _ _) _ _ _ _); refine o_i (by walk_at "yc") ?_)
  | ((with_reducible show Op2 _ (rIx _) _ (Dt.tup _) _ _); refine o_ixAT (atI_toNat (by decide) rfl) ?_)
  | ((with_reducible show Op2 _ (rIx _) _ (Dt.lst _) _ _); refine o_ixAL (atI_toNat (by decide) rfl) ?_)
  | ((with_reducible show ∃ x, atI _ _ = some x ∧ _); refine ⟨_, rfl, ?_⟩)
  | ((with_reducible show ∃ x, ixN _ _ = some x ∧ _); refine ⟨_, rfl, ?_⟩)
  | ((with_reducible show List.length _ ≤ 100000 ∧ _); refine ⟨by (try simp only [List.length_cons, List.length_nil]); first | decide | omega, ?_⟩))
local macro_rules | `(tactic| walk_at "y") => `(tactic| first | walk_at "yo" | walk_at "ye" | walk_at "yv" | walk_at "ys" | walk_at "yd")
local macro_rules | `(tactic| walk_at "yx") => `(tactic| first | walk_at "yo" | walk_at "ye" | walk_at "yv" | walk_at "yd")

def fitsPre (ds : List Dt) : Prop := ∃ (k : Nat) (x : Dt), ds = [.str ⟨#[k]⟩, x] ∧ goodV x = true
def fitsPost (ds : List Dt) (d : Dt) : Prop := ∃ (k : Nat) (x : Dt), ds = [.str ⟨#[k]⟩, x] ∧ d = .bl (fitsB k x)
def thingPre (ds : List Dt) : Prop := ∃ x, ds = [x] ∧ thingB x = true
def hasWordB : Dt → Bool
  | .tup (.str _ :: _) => true
  | _ => false
def hasPost (ds : List Dt) (d : Dt) : Prop := ∃ x, ds = [x] ∧ d = .bl (hasWordB x)
theorem fits_k {k : Nat} {x : Dt} {R : Dt → Prop} (hp : goodV x = true) (h : R (.bl (fitsB k x))) : fitsPre [.str ⟨#[k]⟩, x] ∧ ∀ d, fitsPost [.str ⟨#[k]⟩, x] d → R d :=
  ⟨⟨k, x, rfl, hp⟩, fun d ⟨k', y, e, e2⟩ => by injection e with e1 e3; injection e1 with e1; injection e1 with e1; have : k = k' := by simpa using e1
                                               subst this; cases e3; subst e2; exact h⟩
theorem has_k {x : Dt} {R : Dt → Prop} (hp : thingB x = true) (h : R (.bl (hasWordB x))) : thingPre [x] ∧ ∀ d, hasPost [x] d → R d := ⟨⟨x, rfl, hp⟩, fun d ⟨y, e, e2⟩ => by cases e; subst e2; exact h⟩
section
variable {P : Program} {w : World} {K : PySem.W.Frag} {mg : Str → Option Value} {base : Heap}

theorem ok_fits (T : Tx K mg w) : FnOk P w K mg base CX0 3 T.a_fits T.d_fits ["kind", "value"] (spD K fitsPre fitsPost) := by
  have G_is_register := (ok_is_register (P := P) (w := w) (base := base) T)
  have G_is_name := (ok_is_name (P := P) (w := w) (base := base) T)
  have G_is_word := (ok_is_word (P := P) (w := w) (base := base) T)
  have G_is_number := (ok_is_number (P := P) (w := w) (base := base) T)
  refine fn_data T.F_fits sc_fits (fun ds h => ?_) (fun cdv A outer s H E hr => ⟨_, (pss_cons (ps_if (pt_cmpR (op_eqA (K := K) hr.units) (pv 0) pe_str (nomark _)) (pss_one (ps_ret (pe_call G_is_register (hr.mono (by decide)) (by rfl) T.m_is_register T.k_is_register T.b_is_register .nil pass0 (pa_cons (pv 1) pa_nil)))) pss_nil)
      (pss_cons (ps_if (pt_cmpR (op_eqA (K := K) hr.units) (pv 0) pe_str (nomark _)) (pss_one (ps_ret (pe_call G_is_name (hr.mono (by decide)) (by rfl) T.m_is_name T.k_is_name T.b_is_name .nil pass0 (pa_cons (pv 1) pa_nil)))) pss_nil)
      (pss_cons (ps_if (pt_cmpR (op_eqA (K := K) hr.units) (pv 0) pe_str (nomark _)) (pss_one (ps_ret (pe_call G_is_word (hr.mono (by decide)) (by rfl) T.m_is_word T.k_is_word T.b_is_word .nil pass0 (pa_cons (pv 1) pa_nil)))) pss_nil)
      (pss_cons (ps_if (pt_cmpR (op_eqA (K := K) hr.units) (pv 0) pe_str (nomark _)) (pss_one (ps_ret (pe_call G_is_number (hr.mono (by decide)) (by rfl) T.m_is_number T.k_is_number T.b_is_number .nil pass0 (pa_cons (pv 1) (pa_cons pe_int (pa_cons (pe_glob (v := .int 15) (by rfl) T.m_MOST_DISTANCE T.r_MOST_DISTANCE) pa_nil)))))) pss_nil)
      (pss_one (ps_ret (pe_call G_is_number (hr.mono (by decide)) (by rfl) T.m_is_number T.k_is_number T.b_is_number .nil pass0 (pa_cons (pv 1) (pa_cons pe_int (pa_cons (pe_glob (v := .int 120) (by rfl) T.m_MOST_ROOM T.r_MOST_ROOM) pa_nil)))))))))), fun F0 H0 ds h => ?_⟩)
  · obtain ⟨k, x, rfl, _⟩ := h; rfl
  · obtain ⟨k, x, rfl, hg⟩ := h
    dsimp only [cxOf, env0, env1, List.map, List.length, List.replicate, List.cons_append, List.nil_append, List.append, Nat.reduceAdd, Nat.reduceSub, Nat.zero_add]
    have hv := goodV_pre hg
    have q1 : decide ((⟨#[k]⟩ : Str) = "r") = decide (k = 114) := sign_eq (by decide +kernel)
    have q2 : decide ((⟨#[k]⟩ : Str) = "n") = decide (k = 110) := sign_eq (by decide +kernel)
    have q3 : decide ((⟨#[k]⟩ : Str) = "w") = decide (k = 119) := sign_eq (by decide +kernel)
    have q4 : decide ((⟨#[k]⟩ : Str) = "d") = decide (k = 100) := sign_eq (by decide +kernel)
    repeat walk_at "y"
    refine ways (fun h => ?_) (fun h => ?_)
    · have h := of_decide_eq_true (q1.symm.trans h)
      repeat walk_at "y"
      refine reg_k hv ?_
      exact ⟨k, x, rfl, by rw [fitsB, if_pos h]⟩
    have h1 := of_decide_eq_false (q1.symm.trans h)
    repeat walk_at "y"
    refine ways (fun h => ?_) (fun h => ?_)
    · have h := of_decide_eq_true (q2.symm.trans h)
      repeat walk_at "y"
      refine name_k hv ?_
      exact ⟨k, x, rfl, by rw [fitsB, if_neg h1, if_pos h]⟩
    have h2 := of_decide_eq_false (q2.symm.trans h)
    repeat walk_at "y"
    refine ways (fun h => ?_) (fun h => ?_)
    · have h := of_decide_eq_true (q3.symm.trans h)
      repeat walk_at "y"
      refine word_k hv ?_
      exact ⟨k, x, rfl, by rw [fitsB, if_neg h1, if_neg h2, if_pos h]⟩
    have h3 := of_decide_eq_false (q3.symm.trans h)
    repeat walk_at "y"
    refine ways (fun h => ?_) (fun h => ?_)
    · have h := of_decide_eq_true (q4.symm.trans h)
      repeat walk_at "y"
      refine num_k hv.1 ?_
      exact ⟨k, x, rfl, by rw [fitsB, if_neg h1, if_neg h2, if_neg h3, if_pos h]⟩
    have h4 := of_decide_eq_false (q4.symm.trans h)
    repeat walk_at "y"
    refine num_k hv.1 ?_
    exact ⟨k, x, rfl, by rw [fitsB, if_neg h1, if_neg h2, if_neg h3, if_neg h4]⟩

theorem ok_has_word (T : Tx K mg w) : FnOk P w K mg base CX0 1 T.a_has_word T.d_has_word ["value"] (spD K thingPre hasPost) := by
  refine fn_data T.F_has_word sc_has_word (fun ds h => ?_) (fun cdv A outer s H E hr => ⟨_, (pss_one (ps_ret (pe_and (pe_callB (call_isiA (K := K)) (by rfl) T.n_isinstance PyProof.Rows.boot_isinstance (pa_cons (pv 0) (pa_cons (pe_bltn (v := .ty "tuple") (by rfl) T.n_tuple (by decide +kernel) rfl) pa_nil))) (pe_and (pe_cmpR op_gt (pe_callB (call_lenA (K := K)) (by rfl) T.n_len PySem.boot_len (pa_cons (pv 0) pa_nil)) pe_int (nomark _)) (pe_one (pe_callB (call_isiA (K := K)) (by rfl) T.n_isinstance PyProof.Rows.boot_isinstance (pa_cons (pe_ix (ix_any (K := K)) (pv 0) pe_int (fun _ _ => rfl)) (pa_cons (pe_bltn (v := .ty "str") (by rfl) T.n_str (by decide +kernel) rfl) pa_nil)))))))), fun F0 H0 ds h => ?_⟩)
  · obtain ⟨x, rfl, _⟩ := h; rfl
  · obtain ⟨x, rfl, hg⟩ := h
    dsimp only [cxOf, env0, env1, List.map, List.length, List.replicate, List.cons_append, List.nil_append, List.append, Nat.reduceAdd, Nat.reduceSub, Nat.zero_add]
    have hp := thing_plain hg
    cases x with
    | obj _ _ _ => cases hp
    | ali _ => cases hp
    | tup ys =>
      obtain ⟨hl, hy⟩ := thing_tup hg
      have hl2 : ys.length ≤ 100000 := by omega
      cases ys with
      | nil =>
        repeat walk_at "y"
        exact ⟨_, rfl, rfl⟩
      | cons x xs =>
        have hx := (goodV_pre (hy x (List.mem_cons_self ..))).1
        repeat walk_at "y"
        refine way_t (decide_eq_true (by show (0 : Int) < ((x :: xs).length : Int); simp)) ?_
        repeat walk_at "y"
        refine ⟨_, rfl, ?_⟩
        cases x <;> rfl
    | _ =>
      repeat walk_at "y"
      exact ⟨_, rfl, rfl⟩
end
end Law
namespace Law
open PySem L2 Y
local macro_rules | `(tactic| walk_at "yv") => `(tactic| ((with_reducible show Ev _ (tVar _) _ _); refine ev_var rfl ?_))
local macro_rules | `(tactic| walk_at "ys") => `(tactic| with_reducible first
  | refine sm_seq ?_ | refine sm_ret ?_ | refine sm_if ?_ | refine sm_set ?_ | refine sm_next ?_ | refine sm_par ?_ | refine sm_drop ?_ | refine sm_brk ?_ | refine sm_cont ?_)
local macro_rules | `(tactic| walk_at "ye") => `(tactic| with_reducible first
  | refine ev_op ?_ | refine ev_and ?_ | refine ev_or ?_ | refine ev_not ?_ | refine ev_if ?_ | refine ev_chain ?_ | refine ev_neg ?_ | refine ev_isInt ?_ | refine ev_isBool ?_ | refine ev_isStr ?_ | refine ev_isList ?_ | refine ev_isTuple ?_ | refine ev_isLT ?_ | refine ev_isDict ?_
  | refine ev_int ?_ | refine ev_str ?_ | refine ev_bl ?_ | refine ev_non ?_ | refine ev_call ?_ | refine ev_cb ?_ | refine ev_lst ?_ | refine ev_tup ?_ | refine ev_join ?_
  | refine ea_nil ?_ | refine ea_cons ?_
  | refine et_B ?_ | refine et_test ?_ | refine et_not ?_ | refine et_and ?_ | refine et_or ?_ | refine et_yes ?_
  | refine o_plusI ?_ | refine o_i0 ?_ | refine o_b0 ?_ | refine o_isN ?_ | refine o_notN ?_
  | refine bl_ex ?_ | refine int_ex ?_ | refine str_ex ?_ | refine lst_ex ?_ | refine tup_ex ?_)
local macro_rules | `(tactic| walk_at "yo") => `(tactic| first
  | ((with_reducible show Ev _ (tOp (rIx _) (tVar _) _) _ _); refine ev_ixOwn rfl ?_)
  | ((with_reducible show Ev _ (tCB _ (tCons (tVar _) tNil)) _ _); refine ev_lenOwn rfl ?_)
  | ((with_reducible show Sm _ (tAsg _ (gSub (tVar _) _ _)) _ _); refine sm_setItem rfl ?_)
  | ((with_reducible show Ev _ (tCall (spB _ _ _) _ _ _) _ _); refine ev_callB rfl rfl ?_))
local macro_rules | `(tactic| walk_at "yc") => `(tactic| first
  | ((with_reducible show CMul _ _); first | exact Or.inr ⟨by decide, by decide⟩ | exact Or.inl ⟨by decide, by decide⟩ | exact Or.inr ⟨by omega, by omega⟩ | exact Or.inl ⟨by omega, by omega⟩)
  | ((with_reducible show CDiv _ _); exact ⟨by first | decide | omega, by first | decide | omega⟩)
  | ((with_reducible show CPow _ _); exact ⟨by decide, by decide, by first | decide | omega⟩)
  | ((show (0 : Int) < _); first | decide | omega))
local macro_rules | `(tactic| walk_at "yd") => `(tactic| first
  | ((with_reducible show plainD _ = true ∧ _); refine ⟨by first | rfl | assumption, ?_⟩)
  | ((with_reducible show (_ = true → _) ∧ (_ = false → _)); first | refine way_t rfl ?_ | refine way_f rfl ?_ | refine way_t (by decide +kernel) ?_ | refine way_f (by decide +kernel) ?_)
  | ((with_reducible show Cal _ _ _ _ _); first | (with_reducible refine c_int ?_) | (with_reducible refine c_abs ?_) | (refine c_len rfl ?_) | (refine c_len (if_pos (by assumption)) ?_))
  | ((with_reducible show Op2 _ (rEqA _) _ _ _ _); refine o_eqA rfl ?_)
  | ((with_reducible show Op2 _ (rNeA _) _ _ _ _); refine o_neA rfl ?_)
  | ((with_reducible show Op2 _ (rInA _) _ (Dt.str _) (Dt.lst _) _); refine o_inAL rfl rfl ?_)
  | ((with_reducible show Op2 _ (rInA _) _ (Dt.str _) (Dt.tup _) _); refine o_inAT rfl rfl ?_)
  | ((with_reducible show Op2 _ (rI _ _) _ _ _ _); refine o_i (by walk_at "yc") ?_)
  | ((with_reducible show Op2 _ (rIx _) _ (Dt.tup _) _ _); refine o_ixAT (atI_toNat (by decide) rfl) ?_)
  | ((with_reducible show Op2 _ (rIx _) _ (Dt.lst _) _ _); refine o_ixAL (atI_toNat (by decide) rfl) ?_)
  | ((with_reducible show ∃ x, atI _ _ = some x ∧ _); refine ⟨_, rfl, ?_⟩)
  | ((with_reducible show ∃ x, ixN _ _ = some x ∧ _); refine ⟨_, rfl, ?_⟩)
  | ((with_reducible show List.length _ ≤ 100000 ∧ _); refine ⟨by (try simp only [List.length_cons, List.length_nil]); first | decide | omega, ?_⟩))
local macro_rules | `(tactic| walk_at "y") => `(tactic| first | walk_at "yo" | walk_at "ye" | walk_at "yv" | walk_at "ys" | walk_at "yd")
local macro_rules | `(tactic| walk_at "yx") => `(tactic| first | walk_at "yo" | walk_at "ye" | walk_at "yv" | walk_at "yd")

def formPre (ds : List Dt) : Prop := ∃ (x : Dt) (rest : List Dt) (f : Str), ds = [.tup (x :: rest), .str f] ∧ rest.length ≤ 100 ∧ (∀ y ∈ rest, goodV y = true) ∧ f.cps.size ≤ 3
def formPost (ds : List Dt) (d : Dt) : Prop := ∃ (x : Dt) (rest : List Dt) (f : Str), ds = [.tup (x :: rest), .str f] ∧ d = .bl (formB f.cps.toList rest)
theorem form_k {x : Dt} {rest : List Dt} {f : Str} {R : Dt → Prop} (h1 : rest.length ≤ 100) (h2 : ∀ y ∈ rest, goodV y = true) (h3 : f.cps.size ≤ 3) (h : R (.bl (formB f.cps.toList rest))) : formPre [.tup (x :: rest), .str f] ∧ ∀ d, formPost [.tup (x :: rest), .str f] d → R d :=
  ⟨⟨x, rest, f, rfl, h1, h2, h3⟩, fun d ⟨y, r, f', e, e2⟩ => by cases e; subst e2; exact h⟩
def isCodePost (ds : List Dt) (d : Dt) : Prop := ∃ x, ds = [x] ∧ d = .bl (codeRow x)
def isDataPost (ds : List Dt) (d : Dt) : Prop := ∃ x, ds = [x] ∧ d = .bl (dataRow x)
theorem isCode_k {x : Dt} {R : Dt → Prop} (hp : thingB x = true) (h : R (.bl (codeRow x))) : thingPre [x] ∧ ∀ d, isCodePost [x] d → R d := ⟨⟨x, rfl, hp⟩, fun d ⟨y, e, e2⟩ => by cases e; subst e2; exact h⟩
theorem isData_k {x : Dt} {R : Dt → Prop} (hp : thingB x = true) (h : R (.bl (dataRow x))) : thingPre [x] ∧ ∀ d, isDataPost [x] d → R d := ⟨⟨x, rfl, hp⟩, fun d ⟨y, e, e2⟩ => by cases e; subst e2; exact h⟩
section
variable {P : Program} {w : World} {K : PySem.W.Frag} {mg : Str → Option Value} {base : Heap}

theorem ok_has_form (T : Tx K mg w) : FnOk P w K mg base CX0 4 T.a_has_form T.d_has_form ["value", "form"] (spD K formPre formPost) := by
  have G_fits := ok_fits (P := P) (w := w) (base := base) T
  refine fn_data T.F_has_form sc_has_form (fun ds h => ?_) (fun cdv A outer s H E hr => ⟨_, (pss_one (ps_ret (pe_and (pe_cmpR (op_eqA (K := K) hr.units) (pe_callB (call_lenA (K := K)) (by rfl) T.n_len PySem.boot_len (pa_cons (pv 0) pa_nil)) (pe_op (op_plus (K := K)) pe_int (pe_callB (call_lenA (K := K)) (by rfl) T.n_len PySem.boot_len (pa_cons (pv 1) pa_nil))) (nomark _)) (pe_one (pe_callB (cr_allA (K := K) rfl) (by rfl) T.n_all PyProof.Rows.boot_all (pa_cons (pe_lc (own := [("kind", 2), ("item", 3)]) (g := gTup K 2 (gCons (gName 2) (gCons (gName 3) gNil))) rfl sc_has_form.nd (pi_zipS (K := K) (by rfl) T.n_zip (pa_cons (pv 1) (pa_cons (pe_slice (sl_any (K := K)) (pv 0) (po_some pe_int) po_none) pa_nil))) (blkOk_by (N := ["value", "form", "kind", "item"]) (sc := defScope s_has_form) (by decide +kernel)) (fun _ _ _ _ _ => (pg_tupA (K := K) rfl (pgs_cons (pg_name (i := 2) sc_has_form.nd rfl (Or.inl rfl)) (pgs_cons (pg_name (i := 3) sc_has_form.nd rfl (Or.inl rfl)) pgs_nil)))) (fun _ _ _ _ _ => pts_nil) (fun _ _ _ _ _ => (pe_call G_fits (hr.mono (by decide)) (by rfl) T.m_fits T.k_fits T.b_fits .nil pass0 (pa_cons (pv 2) (pa_cons (pv 3) pa_nil))))) pa_nil)))))), fun F0 H0 ds h => ?_⟩)
  · obtain ⟨x, rest, f, rfl, _⟩ := h; rfl
  · obtain ⟨x, rest, f, rfl, hl, hg, hf⟩ := h
    dsimp only [cxOf, env0, env1, List.map, List.length, List.replicate, List.cons_append, List.nil_append, List.append, Nat.reduceAdd, Nat.reduceSub, Nat.zero_add]
    have hl2 : (x :: rest).length ≤ 100000 := by simp; omega
    have hf2 : f.length ≤ 100000 := by show f.cps.size ≤ _; omega
    have el : (x :: rest).length = rest.length + 1 := rfl
    have ef : f.length = f.cps.size := rfl
    repeat walk_at "y"
    refine ways (fun h => ?_) (fun h => ?_)
    · have h := of_decide_eq_true h
      have h3 : f.cps.toList.length = rest.length := by rw [Array.length_toList]; omega
      refine ev_cb (ea_cons (EvO.ev (eo_mapF (fun p => .bl (fit2 p)) (ei_zipS ?_))))
      refine ea_cons (ev_var rfl ?_)
      refine ea_cons (ev_tail (ev_var rfl ⟨_, _, rfl, ?_⟩))
      refine ea_nil ⟨_, _, rfl, ?_, ?_, ?_⟩
      · rw [pairD_len]; omega
      · intro p hp
        obtain ⟨a, b, rfl, ha, hb⟩ := pairD_in hp
        obtain ⟨c, hc, rfl⟩ := List.mem_map.mp ha
        refine tc_tup2 (by decide) ?_
        repeat walk_at "y"
        exact fits_k (hg b hb) rfl
      · refine ea_nil (c_allF (g := fit2) ?_)
        refine ⟨x, rest, f, rfl, ?_⟩
        show Dt.bl ((pairD (f.cps.toList.map fun c => .str ⟨#[c]⟩) rest).all fit2) = _
        rw [all_fit2 _ _ h3]
    · have h := of_decide_eq_false h
      refine ⟨x, rest, f, rfl, ?_⟩
      have : formB f.cps.toList rest = false := by
        cases e : formB f.cps.toList rest with
        | false => rfl
        | true =>
          have := formB_len e
          rw [Array.length_toList] at this
          omega
      rw [this]

theorem ok_is_code_row (T : Tx K mg w) : FnOk P w K mg base CX0 5 T.a_is_code_row T.d_is_code_row ["value"] (spD K thingPre isCodePost) := by
  have G_has_word := ok_has_word (P := P) (w := w) (base := base) T
  have G_has_form := ok_has_form (P := P) (w := w) (base := base) T
  refine fn_data T.F_is_code_row sc_is_code_row (fun ds h => ?_) (fun cdv A outer s H E hr => ⟨_, (pss_one (ps_ret (pe_and (pe_call G_has_word (hr.mono (by decide)) (by rfl) T.m_has_word T.k_has_word T.b_has_word .nil pass0 (pa_cons (pv 0) pa_nil)) (pe_and (pe_cmpR (op_inKD (K := K) (w := w)) (pe_ix (ix_any (K := K)) (pv 0) pe_int (fun _ _ => rfl)) (pe_glob (v := .ref T.a_CODE_FORMS) (by rfl) T.m_CODE_FORMS rfl) (by rfl)) (pe_one (pe_call G_has_form (hr.mono (by decide)) (by rfl) T.m_has_form T.k_has_form T.b_has_form .nil pass0 (pa_cons (pv 0) (pa_cons (pe_ix (ix_kd (K := K) (w := w)) (pe_glob (v := .ref T.a_CODE_FORMS) (by rfl) T.m_CODE_FORMS rfl) (pe_ix (ix_any (K := K)) (pv 0) pe_int (fun _ _ => rfl)) (fun _ _ => rfl)) pa_nil)))))))), fun F0 H0 ds h => ?_⟩)
  · obtain ⟨x, rfl, _⟩ := h; rfl
  · obtain ⟨x, rfl, hg⟩ := h
    dsimp only [cxOf, env0, env1, List.map, List.length, List.replicate, List.cons_append, List.nil_append, List.append, Nat.reduceAdd, Nat.reduceSub, Nat.zero_add]
    have hk : ([("put", (.str "rw")), ("name", (.str "rn")), ("add", (.str "rr")), ("take", (.str "rr")), ("load", (.str "rrd")), ("store", (.str "rrd")), ("jump", (.str "n")), ("ifzero", (.str "rn")), ("call", (.str "n")), ("callby", (.str "r")), ("back", (.str "")), ("out", (.str "r")), ("halt", (.str "")), ("room", (.str "k"))] : List (Str × V)) = (codeForms.map fun p => (p.1, V.str p.2)) := rfl
    repeat walk_at "y"
    refine has_k hg ?_
    repeat walk_at "y"
    refine ways (fun h => ?_) (fun h => ?_)
    · obtain ⟨w', rest, rfl⟩ : ∃ w' rest, x = .tup (.str w' :: rest) := by
        cases x with
        | tup ys =>
          cases ys with
          | nil => cases h
          | cons y ys =>
            cases y with
            | str z => exact ⟨_, _, rfl⟩
            | _ => cases h
        | _ => cases h
      obtain ⟨hl, hy⟩ := thing_tup hg
      refine ev_and (ev_inKD T.kd_CODE_FORMS ?_)
      repeat walk_at "y"
      rw [hk, lookup_strs]
      cases e : codeForms.lookup w' with
      | none =>
        refine way_f rfl ?_
        exact ⟨_, rfl, by rw [codeRow, rowBy_none e]⟩
      | some f =>
        refine way_t rfl ?_
        refine ev_call ?_
        refine ea_cons (ev_var rfl ?_)
        refine ea_cons (ev_ixKD T.kd_CODE_FORMS ?_)
        repeat walk_at "y"
        have hf : f.cps.size ≤ 3 := by
          have hm := lookup_mem e
          simp only [codeForms, List.mem_cons, List.not_mem_nil, or_false, Prod.mk.injEq] at hm
          have key : ∀ p ∈ codeForms, p.2.cps.size ≤ 3 := by decide +kernel
          exact key _ (lookup_mem e)
        refine ⟨.str f, by rw [hk, lookup_strs, e]; rfl, rfl, ea_nil ?_⟩
        refine form_k (by simp at hl; omega) (fun y hm => hy y (List.mem_cons_of_mem _ hm)) hf ?_
        exact ⟨_, rfl, by rw [codeRow, rowBy_at (ks := f.cps.toList) (by rw [e]; rfl)]⟩
    · refine ⟨_, rfl, ?_⟩
      have : codeRow x = false := by
        cases x with
        | tup ys =>
          cases ys with
          | nil => rfl
          | cons y ys =>
            cases y with
            | str z => cases h
            | _ => rfl
        | _ => rfl
      rw [this]

theorem ok_is_data_row (T : Tx K mg w) : FnOk P w K mg base CX0 5 T.a_is_data_row T.d_is_data_row ["value"] (spD K thingPre isDataPost) := by
  have G_has_word := ok_has_word (P := P) (w := w) (base := base) T
  have G_has_form := ok_has_form (P := P) (w := w) (base := base) T
  refine fn_data T.F_is_data_row sc_is_data_row (fun ds h => ?_) (fun cdv A outer s H E hr => ⟨_, (pss_one (ps_ret (pe_and (pe_call G_has_word (hr.mono (by decide)) (by rfl) T.m_has_word T.k_has_word T.b_has_word .nil pass0 (pa_cons (pv 0) pa_nil)) (pe_and (pe_cmpR (op_inKD (K := K) (w := w)) (pe_ix (ix_any (K := K)) (pv 0) pe_int (fun _ _ => rfl)) (pe_glob (v := .ref T.a_DATA_FORMS) (by rfl) T.m_DATA_FORMS rfl) (by rfl)) (pe_one (pe_call G_has_form (hr.mono (by decide)) (by rfl) T.m_has_form T.k_has_form T.b_has_form .nil pass0 (pa_cons (pv 0) (pa_cons (pe_ix (ix_kd (K := K) (w := w)) (pe_glob (v := .ref T.a_DATA_FORMS) (by rfl) T.m_DATA_FORMS rfl) (pe_ix (ix_any (K := K)) (pv 0) pe_int (fun _ _ => rfl)) (fun _ _ => rfl)) pa_nil)))))))), fun F0 H0 ds h => ?_⟩)
  · obtain ⟨x, rfl, _⟩ := h; rfl
  · obtain ⟨x, rfl, hg⟩ := h
    dsimp only [cxOf, env0, env1, List.map, List.length, List.replicate, List.cons_append, List.nil_append, List.append, Nat.reduceAdd, Nat.reduceSub, Nat.zero_add]
    have hk : ([("word", (.str "w")), ("address", (.str "n")), ("room", (.str "k"))] : List (Str × V)) = (dataForms.map fun p => (p.1, V.str p.2)) := rfl
    repeat walk_at "y"
    refine has_k hg ?_
    repeat walk_at "y"
    refine ways (fun h => ?_) (fun h => ?_)
    · obtain ⟨w', rest, rfl⟩ : ∃ w' rest, x = .tup (.str w' :: rest) := by
        cases x with
        | tup ys =>
          cases ys with
          | nil => cases h
          | cons y ys =>
            cases y with
            | str z => exact ⟨_, _, rfl⟩
            | _ => cases h
        | _ => cases h
      obtain ⟨hl, hy⟩ := thing_tup hg
      refine ev_and (ev_inKD T.kd_DATA_FORMS ?_)
      repeat walk_at "y"
      rw [hk, lookup_strs]
      cases e : dataForms.lookup w' with
      | none =>
        refine way_f rfl ?_
        exact ⟨_, rfl, by rw [dataRow, rowBy_none e]⟩
      | some f =>
        refine way_t rfl ?_
        refine ev_call ?_
        refine ea_cons (ev_var rfl ?_)
        refine ea_cons (ev_ixKD T.kd_DATA_FORMS ?_)
        repeat walk_at "y"
        have hf : f.cps.size ≤ 3 := by
          have hm := lookup_mem e
          simp only [dataForms, List.mem_cons, List.not_mem_nil, or_false, Prod.mk.injEq] at hm
          have key : ∀ p ∈ dataForms, p.2.cps.size ≤ 3 := by decide +kernel
          exact key _ (lookup_mem e)
        refine ⟨.str f, by rw [hk, lookup_strs, e]; rfl, rfl, ea_nil ?_⟩
        refine form_k (by simp at hl; omega) (fun y hm => hy y (List.mem_cons_of_mem _ hm)) hf ?_
        exact ⟨_, rfl, by rw [dataRow, rowBy_at (ks := f.cps.toList) (by rw [e]; rfl)]⟩
    · refine ⟨_, rfl, ?_⟩
      have : dataRow x = false := by
        cases x with
        | tup ys =>
          cases ys with
          | nil => rfl
          | cons y ys =>
            cases y with
            | str z => cases h
            | _ => rfl
        | _ => rfl
      rw [this]
end
end Law
namespace Law
open PySem L2 Y
local macro_rules | `(tactic| walk_at "yv") => `(tactic| ((with_reducible show Ev _ (tVar _) _ _); refine ev_var rfl ?_))
local macro_rules | `(tactic| walk_at "ys") => `(tactic| with_reducible first
  | refine sm_seq ?_ | refine sm_ret ?_ | refine sm_if ?_ | refine sm_set ?_ | refine sm_next ?_ | refine sm_par ?_ | refine sm_drop ?_ | refine sm_brk ?_ | refine sm_cont ?_)
local macro_rules | `(tactic| walk_at "ye") => `(tactic| with_reducible first
  | refine ev_op ?_ | refine ev_and ?_ | refine ev_or ?_ | refine ev_not ?_ | refine ev_if ?_ | refine ev_chain ?_ | refine ev_neg ?_ | refine ev_isInt ?_ | refine ev_isBool ?_ | refine ev_isStr ?_ | refine ev_isList ?_ | refine ev_isTuple ?_ | refine ev_isLT ?_ | refine ev_isDict ?_
  | refine ev_int ?_ | refine ev_str ?_ | refine ev_bl ?_ | refine ev_non ?_ | refine ev_call ?_ | refine ev_cb ?_ | refine ev_lst ?_ | refine ev_tup ?_ | refine ev_join ?_
  | refine ea_nil ?_ | refine ea_cons ?_
  | refine et_B ?_ | refine et_test ?_ | refine et_not ?_ | refine et_and ?_ | refine et_or ?_ | refine et_yes ?_
  | refine o_plusI ?_ | refine o_i0 ?_ | refine o_b0 ?_ | refine o_isN ?_ | refine o_notN ?_
  | refine bl_ex ?_ | refine int_ex ?_ | refine str_ex ?_ | refine lst_ex ?_ | refine tup_ex ?_)
local macro_rules | `(tactic| walk_at "yo") => `(tactic| first
  | ((with_reducible show Ev _ (tOp (rIx _) (tVar _) _) _ _); refine ev_ixOwn rfl ?_)
  | ((with_reducible show Ev _ (tCB _ (tCons (tVar _) tNil)) _ _); refine ev_lenOwn rfl ?_)
  | ((with_reducible show Sm _ (tAsg _ (gSub (tVar _) _ _)) _ _); refine sm_setItem rfl ?_)
  | ((with_reducible show Ev _ (tCall (spB _ _ _) _ _ _) _ _); refine ev_callB rfl rfl ?_))
local macro_rules | `(tactic| walk_at "yc") => `(tactic| first
  | ((with_reducible show CMul _ _); first | exact Or.inr ⟨by decide, by decide⟩ | exact Or.inl ⟨by decide, by decide⟩ | exact Or.inr ⟨by omega, by omega⟩ | exact Or.inl ⟨by omega, by omega⟩)
  | ((with_reducible show CDiv _ _); exact ⟨by first | decide | omega, by first | decide | omega⟩)
  | ((with_reducible show CPow _ _); exact ⟨by decide, by decide, by first | decide | omega⟩)
  | ((show (0 : Int) < _); first | decide | omega))
local macro_rules | `(tactic| walk_at "yd") => `(tactic| first
  | ((with_reducible show plainD _ = true ∧ _); refine ⟨by first | rfl | assumption, ?_⟩)
  | ((with_reducible show (_ = true → _) ∧ (_ = false → _)); first | refine way_t rfl ?_ | refine way_f rfl ?_ | refine way_t (by decide +kernel) ?_ | refine way_f (by decide +kernel) ?_)
  | ((with_reducible show Cal _ _ _ _ _); first | (with_reducible refine c_int ?_) | (with_reducible refine c_abs ?_) | (refine c_len rfl ?_) | (refine c_len (if_pos (by assumption)) ?_))
  | ((with_reducible show Op2 _ (rEqA _) _ _ _ _); refine o_eqA rfl ?_)
  | ((with_reducible show Op2 _ (rNeA _) _ _ _ _); refine o_neA rfl ?_)
  | ((with_reducible show Op2 _ (rInA _) _ (Dt.str _) (Dt.lst _) _); refine o_inAL rfl rfl ?_)
  | ((with_reducible show Op2 _ (rInA _) _ (Dt.str _) (Dt.tup _) _); refine o_inAT rfl rfl ?_)
  | ((with_reducible show Op2 _ (rI _ _) _ _ _ _); refine o_i (by walk_at "yc") ?_)
  | ((with_reducible show Op2 _ (rIx _) _ (Dt.tup _) _ _); refine o_ixAT (atI_toNat (by decide) rfl) ?_)
  | ((with_reducible show Op2 _ (rIx _) _ (Dt.lst _) _ _); refine o_ixAL (atI_toNat (by decide) rfl) ?_)
  | ((with_reducible show ∃ x, atI _ _ = some x ∧ _); refine ⟨_, rfl, ?_⟩)
  | ((with_reducible show ∃ x, ixN _ _ = some x ∧ _); refine ⟨_, rfl, ?_⟩)
  | ((with_reducible show List.length _ ≤ 100000 ∧ _); refine ⟨by (try simp only [List.length_cons, List.length_nil]); first | decide | omega, ?_⟩))
local macro_rules | `(tactic| walk_at "y") => `(tactic| first | walk_at "yo" | walk_at "ye" | walk_at "yv" | walk_at "ys" | walk_at "yd")
local macro_rules | `(tactic| walk_at "yx") => `(tactic| first | walk_at "yo" | walk_at "ye" | walk_at "yv" | walk_at "yd")

theorem in2 {z a b : Str} (h : inD (.str z) [.str a, .str b] = true) : z = a ∨ z = b := by
  simp only [inD, List.any_cons, List.any_nil, eqD, Bool.or_false, Bool.or_eq_true] at h
  rcases h with h | h
  · exact .inl (by first | simpa using h | exact (by simpa using h : _ = _).symm)
  · exact .inr (by first | simpa using h | exact (by simpa using h : _ = _).symm)
theorem ni2 {z a b : Str} (h : inD (.str z) [.str a, .str b] = false) : z ≠ a ∧ z ≠ b := by
  constructor
  · rintro rfl; simp [inD, eqD] at h
  · rintro rfl; simp [inD, eqD] at h
theorem no_code {z : Str} {rest : List Dt} (h : codeRow (.tup (.str z :: rest)) ≠ true) : codeRow (.tup (.str z :: rest)) = false := by
  cases e : codeRow (.tup (.str z :: rest)) with
  | false => rfl
  | true => exact absurd e h
theorem f1 {k : Nat} {a : Dt} : formB [k] [a] = fitsB k a := by show (fitsB k a && true) = _; rw [Bool.and_true]
theorem f2 {k l : Nat} {a b : Dt} (h : fitsB k a = true) : formB [k, l] [a, b] = fitsB l b := by show (fitsB k a && (fitsB l b && true)) = _; rw [Bool.and_true, h, Bool.true_and]
theorem f3 {k l m : Nat} {a b c : Dt} (h : fitsB k a = true) (h2 : fitsB l b = true) : formB [k, l, m] [a, b, c] = fitsB m c := by show (fitsB k a && (fitsB l b && (fitsB m c && true))) = _; rw [Bool.and_true, h, h2, Bool.true_and, Bool.true_and]
theorem f_ne {ks : List Nat} {xs : List Dt} (h : ks.length ≠ xs.length) : formB ks xs = false := by
  cases e : formB ks xs with
  | false => rfl
  | true => exact absurd (formB_len e) h
theorem len_ne {n k : Nat} (h : n ≠ k) : dEq (.int (n : Int)) (.int (k : Int)) = false := decide_eq_false (by omega)
theorem str_of {a : Dt} (h : isStrD a = true) : ∃ y, a = .str y := by cases a <;> first | exact ⟨_, rfl⟩ | cases h
section
variable {P : Program} {w : World} {K : PySem.W.Frag} {mg : Str → Option Value} {base : Heap}

theorem ok__law_code_so (T : Tx K mg w) : FnOk P w K mg base CX0 2 T.a__law_code_so T.d__law_code_so ["_law_thing"] (spD K thingPre isCodePost) := by
  have G__law_within := ok__law_within (P := P) (w := w) (base := base) T
  have G__law_is_title := ok__law_is_title (P := P) (w := w) (base := base) T
  refine fn_data T.F__law_code_so sc__law_code_so (fun ds h => ?_) (fun cdv A outer s H E hr => ⟨_, (pss_cons (ps_if (PW.pt (pw_or (pt_not (pt_val (pe_callB (call_isiA (K := K)) (by rfl) T.n_isinstance PyProof.Rows.boot_isinstance (pa_cons (pv 0) (pa_cons (pe_bltn (v := .ty "tuple") (by rfl) T.n_tuple (by decide +kernel) rfl) pa_nil))))) (pw_or (pt_cmpR (op_eqA (K := K) hr.units) (pe_callB (call_lenA (K := K)) (by rfl) T.n_len PySem.boot_len (pa_cons (pv 0) pa_nil)) pe_int (nomark _)) (pw_or1 (pt_not (pt_val (pe_callB (call_isiA (K := K)) (by rfl) T.n_isinstance PyProof.Rows.boot_isinstance (pa_cons (pe_ix (ix_any (K := K)) (pv 0) pe_int (fun _ _ => rfl)) (pa_cons (pe_bltn (v := .ty "str") (by rfl) T.n_str (by decide +kernel) rfl) pa_nil))))))))) (pss_one (ps_ret pe_bl)) pss_nil)
      (pss_cons (ps_par rfl sc__law_code_so.nd (i := 1) (j := 2) rfl rfl (by decide) rfl rfl (pa_cons (pe_ix (ix_any (K := K)) (pv 0) pe_int (fun _ _ => rfl)) (pa_cons (pe_callTy (call_listB (K := K) rfl) (by rfl) T.n_list PyProof.Rows.boot_list (pa_cons (pe_slice (sl_any (K := K)) (pv 0) (po_some pe_int) po_none) pa_nil)) pa_nil)) rfl)
      (pss_cons (ps_if (pt_cmpR (op_inA (K := K)) (pv 1) (pe_tup (pa_cons pe_str (pa_cons pe_str pa_nil))) (by rfl)) (pss_one (ps_ret (pe_cmpR (op_eqA (K := K) hr.units) (pe_callB (call_lenA (K := K)) (by rfl) T.n_len PySem.boot_len (pa_cons (pv 2) pa_nil)) pe_int (nomark _)))) pss_nil)
      (pss_cons (ps_if (pt_cmpR (op_eqA (K := K) hr.units) (pv 1) pe_str (nomark _)) (pss_one (ps_ret (pe_and (pe_cmpR (op_eqA (K := K) hr.units) (pe_callB (call_lenA (K := K)) (by rfl) T.n_len PySem.boot_len (pa_cons (pv 2) pa_nil)) pe_int (nomark _)) (pe_one (pe_call G__law_within (hr.mono (by decide)) (by rfl) T.m__law_within T.k__law_within T.b__law_within .nil pass0 (pa_cons (pe_ix (ix_any (K := K)) (pv 2) pe_int (fun _ _ => rfl)) (pa_cons pe_int (pa_cons pe_int pa_nil)))))))) pss_nil)
      (pss_cons (ps_if (pt_cmpR (op_inA (K := K)) (pv 1) (pe_tup (pa_cons pe_str (pa_cons pe_str pa_nil))) (by rfl)) (pss_one (ps_ret (pe_and (pe_cmpR (op_eqA (K := K) hr.units) (pe_callB (call_lenA (K := K)) (by rfl) T.n_len PySem.boot_len (pa_cons (pv 2) pa_nil)) pe_int (nomark _)) (pe_one (pe_call G__law_is_title (hr.mono (by decide)) (by rfl) T.m__law_is_title T.k__law_is_title T.b__law_is_title .nil pass0 (pa_cons (pe_ix (ix_any (K := K)) (pv 2) pe_int (fun _ _ => rfl)) pa_nil)))))) pss_nil)
      (pss_cons (ps_if (PW.pt (pw_or (pt_cmpR (op_eqA (K := K) hr.units) (pe_callB (call_lenA (K := K)) (by rfl) T.n_len PySem.boot_len (pa_cons (pv 2) pa_nil)) pe_int (nomark _)) (pw_or (pt_not (pt_val (pe_callB (call_isiA (K := K)) (by rfl) T.n_isinstance PyProof.Rows.boot_isinstance (pa_cons (pe_ix (ix_any (K := K)) (pv 2) pe_int (fun _ _ => rfl)) (pa_cons (pe_bltn (v := .ty "str") (by rfl) T.n_str (by decide +kernel) rfl) pa_nil))))) (pw_or1 (pt_cmpR (op_niA (K := K)) (pe_ix (ix_any (K := K)) (pv 2) pe_int (fun _ _ => rfl)) (pe_lst (pa_cons pe_str (pa_cons pe_str (pa_cons pe_str pa_nil)))) (by rfl)))))) (pss_one (ps_ret pe_bl)) pss_nil)
      (pss_cons (ps_if (pt_cmpR (op_inA (K := K)) (pv 1) (pe_tup (pa_cons pe_str (pa_cons pe_str pa_nil))) (by rfl)) (pss_one (ps_ret (pe_cmpR (op_eqA (K := K) hr.units) (pe_callB (call_lenA (K := K)) (by rfl) T.n_len PySem.boot_len (pa_cons (pv 2) pa_nil)) pe_int (nomark _)))) pss_nil)
      (pss_cons (ps_if (pt_cmpR (op_inA (K := K)) (pv 1) (pe_tup (pa_cons pe_str (pa_cons pe_str pa_nil))) (by rfl)) (pss_one (ps_ret (pe_and (pe_cmpR (op_eqA (K := K) hr.units) (pe_callB (call_lenA (K := K)) (by rfl) T.n_len PySem.boot_len (pa_cons (pv 2) pa_nil)) pe_int (nomark _)) (pe_one (pe_call G__law_is_title (hr.mono (by decide)) (by rfl) T.m__law_is_title T.k__law_is_title T.b__law_is_title .nil pass0 (pa_cons (pe_ix (ix_any (K := K)) (pv 2) pe_int (fun _ _ => rfl)) pa_nil)))))) pss_nil)
      (pss_cons (ps_if (pt_cmpR (op_eqA (K := K) hr.units) (pv 1) pe_str (nomark _)) (pss_one (ps_ret (pe_and (pe_cmpR (op_eqA (K := K) hr.units) (pe_callB (call_lenA (K := K)) (by rfl) T.n_len PySem.boot_len (pa_cons (pv 2) pa_nil)) pe_int (nomark _)) (pe_one (pe_call G__law_within (hr.mono (by decide)) (by rfl) T.m__law_within T.k__law_within T.b__law_within .nil pass0 (pa_cons (pe_ix (ix_any (K := K)) (pv 2) pe_int (fun _ _ => rfl)) (pa_cons pe_int (pa_cons pe_int pa_nil)))))))) pss_nil)
      (pss_cons (ps_if (PW.pt (pw_or (pt_cmpR op_lt (pe_callB (call_lenA (K := K)) (by rfl) T.n_len PySem.boot_len (pa_cons (pv 2) pa_nil)) pe_int (nomark _)) (pw_or (pt_not (pt_val (pe_callB (call_isiA (K := K)) (by rfl) T.n_isinstance PyProof.Rows.boot_isinstance (pa_cons (pe_ix (ix_any (K := K)) (pv 2) pe_int (fun _ _ => rfl)) (pa_cons (pe_bltn (v := .ty "str") (by rfl) T.n_str (by decide +kernel) rfl) pa_nil))))) (pw_or1 (pt_cmpR (op_niA (K := K)) (pe_ix (ix_any (K := K)) (pv 2) pe_int (fun _ _ => rfl)) (pe_lst (pa_cons pe_str (pa_cons pe_str (pa_cons pe_str pa_nil)))) (by rfl)))))) (pss_one (ps_ret pe_bl)) pss_nil)
      (pss_cons (ps_if (pt_cmpR (op_inA (K := K)) (pv 1) (pe_tup (pa_cons pe_str (pa_cons pe_str pa_nil))) (by rfl)) (pss_one (ps_ret (pe_cmpR (op_eqA (K := K) hr.units) (pe_callB (call_lenA (K := K)) (by rfl) T.n_len PySem.boot_len (pa_cons (pv 2) pa_nil)) pe_int (nomark _)))) pss_nil)
      (pss_one (ps_ret (pe_and (pe_cmpR (op_inA (K := K)) (pv 1) (pe_tup (pa_cons pe_str (pa_cons pe_str pa_nil))) (by rfl)) (pe_and (pe_cmpR (op_eqA (K := K) hr.units) (pe_callB (call_lenA (K := K)) (by rfl) T.n_len PySem.boot_len (pa_cons (pv 2) pa_nil)) pe_int (nomark _)) (pe_one (pe_call G__law_within (hr.mono (by decide)) (by rfl) T.m__law_within T.k__law_within T.b__law_within .nil pass0 (pa_cons (pe_ix (ix_any (K := K)) (pv 2) pe_int (fun _ _ => rfl)) (pa_cons pe_int (pa_cons pe_int pa_nil)))))))))))))))))))), fun F0 H0 ds h => ?_⟩)
  · obtain ⟨x, rfl, _⟩ := h; rfl
  obtain ⟨x, rfl, hg⟩ := h
  dsimp only [cxOf, env0, env1, List.map, List.length, List.replicate, List.cons_append, List.nil_append, List.append, Nat.reduceAdd, Nat.reduceSub, Nat.zero_add]
  have hp := thing_plain hg
  cases x with
  | obj _ _ _ => cases hp
  | ali _ => cases hp
  | tup ys =>
    obtain ⟨hl, hy⟩ := thing_tup hg
    have hl2 : ys.length ≤ 100000 := by omega
    cases ys with
    | nil =>
      repeat walk_at "y"
      exact ⟨_, rfl, rfl⟩
    | cons y rest =>
      have gy := hy y (List.mem_cons_self ..)
      have gr : ∀ a ∈ rest, goodV a = true := fun a ha => hy a (List.mem_cons_of_mem _ ha)
      have py := (goodV_pre gy).1
      cases y with
      | str z =>
        have hl3 : rest.length ≤ 100000 := by simp at hl; omega
        refine sm_seq (sm_if ?_)
        repeat walk_at "yx"
        refine sm_next ?_
        refine sm_seq (sm_par (ea_cons (ev_op (ev_var rfl (ev_int (o_ixAT (atI_toNat (by decide) rfl) ?_))))))
        refine ea_cons (EvO.ev (eo_listL (ea_cons (ev_tail (ev_var rfl ⟨_, _, rfl, ?_⟩)))))
        refine ea_nil ⟨_, .inr rfl, ea_nil ⟨_, _, rfl, ?_⟩⟩
        have post : ∀ b : Bool, b = codeRow (.tup (.str z :: rest)) → isCodePost [.tup (.str z :: rest)] (.bl b) := fun b e => ⟨_, rfl, by rw [e]⟩
        clear hg hp hy gy py hl2
        -- back, halt
        refine sm_seq (sm_if ?_)
        repeat walk_at "yx"
        try refine o_inAT rfl rfl (bl_ex ?_)
        refine ways (fun h => ?_) (fun h => ?_)
        · refine sm_ret ?_
          repeat walk_at "yx"
          refine post _ ?_
          have e : codeRow (.tup (.str z :: rest)) = formB [] rest := by rcases in2 h with rfl | rfl <;> exact rowBy_at (by decide +kernel)
          rw [e]
          cases rest with
          | nil => rfl
          | cons a r => rw [f_ne (by simp)]; exact len_ne (k := 0) (by simp)
        have n1 := ni2 h
        refine sm_next ?_
        -- room
        refine sm_seq (sm_if ?_)
        repeat walk_at "yx"
        refine ways (fun h => ?_) (fun h => ?_)
        · have hz : z = "room" := of_decide_eq_true h
          subst hz
          have e : codeRow (.tup (.str "room" :: rest)) = formB [107] rest := rowBy_at (by decide +kernel)
          refine sm_ret ?_
          cases rest with
          | nil => repeat walk_at "yx"
                   exact post _ (by rw [e]; rfl)
          | cons a r =>
            cases r with
            | nil =>
              repeat walk_at "yx"
              refine num_k (goodV_pre (gr a (by simp))).1 ?_
              exact post _ (by rw [e, f1]; rfl)
            | cons b r =>
              repeat walk_at "yx"
              exact post _ (by rw [e, f_ne (by simp)])
        have n2 : z ≠ "room" := of_decide_eq_false h
        refine sm_next ?_
        -- jump, call
        refine sm_seq (sm_if ?_)
        repeat walk_at "yx"
        try refine o_inAT rfl rfl (bl_ex ?_)
        refine ways (fun h => ?_) (fun h => ?_)
        · have e : codeRow (.tup (.str z :: rest)) = formB [110] rest := by rcases in2 h with rfl | rfl <;> exact rowBy_at (by decide +kernel)
          refine sm_ret ?_
          cases rest with
          | nil => repeat walk_at "yx"
                   exact post _ (by rw [e]; rfl)
          | cons a r =>
            cases r with
            | nil =>
              repeat walk_at "yx"
              refine name_k (goodV_pre (gr a (by simp))) ?_
              exact post _ (by rw [e, f1]; rfl)
            | cons b r =>
              repeat walk_at "yx"
              exact post _ (by rw [e, f_ne (by simp)])
        have n3 := ni2 h
        refine sm_next ?_
        -- the first register
        have n4 : ¬ (z = "back" ∨ z = "halt" ∨ z = "room" ∨ z = "jump" ∨ z = "call") := by
          rintro (q | q | q | q | q)
          · exact n1.1 q
          · exact n1.2 q
          · exact n2 q
          · exact n3.1 q
          · exact n3.2 q
        refine sm_seq (sm_if ?_)
        cases rest with
        | nil =>
          repeat walk_at "yx"
          refine sm_ret ?_
          repeat walk_at "yx"
          refine post _ (no_code fun q => ?_).symm
          rcases code_inv q with q | ⟨_, x, ys, q, _⟩ | ⟨_, x, y, ys, q, _⟩
          · exact n4 q
          · cases q
          · cases q
        | cons a r =>
        have ga := goodV_pre (gr a (by simp))
        by_cases ha : isRegD a = true
        · obtain ⟨y, rfl⟩ : ∃ y, a = .str y := by cases a <;> first | exact ⟨_, rfl⟩ | cases ha
          have ha' : inD (.str y) [.str "r0", .str "r1", .str "r2"] = true := ha
          have fa : fitsB 114 (.str y) = true := ha
          repeat walk_at "yx"
          refine o_niAL rfl rfl ?_
          rw [ha']
          repeat walk_at "yx"
          refine sm_next ?_
          -- callby, out
          refine sm_seq (sm_if ?_)
          repeat walk_at "yx"
          try refine o_inAT rfl rfl (bl_ex ?_)
          refine ways (fun h => ?_) (fun h => ?_)
          · have e : codeRow (.tup (.str z :: .str y :: r)) = formB [114] (.str y :: r) := by rcases in2 h with rfl | rfl <;> exact rowBy_at (by decide +kernel)
            refine sm_ret ?_
            repeat walk_at "yx"
            refine post _ ?_
            rw [e]
            cases r with
            | nil => exact (f1.trans fa).symm
            | cons b r => rw [f_ne (by simp)]; exact len_ne (k := 1) (by simp)
          have n5 := ni2 h
          refine sm_next ?_
          -- name, ifzero
          refine sm_seq (sm_if ?_)
          repeat walk_at "yx"
          try refine o_inAT rfl rfl (bl_ex ?_)
          refine ways (fun h => ?_) (fun h => ?_)
          · have e : codeRow (.tup (.str z :: .str y :: r)) = formB [114, 110] (.str y :: r) := by rcases in2 h with rfl | rfl <;> exact rowBy_at (by decide +kernel)
            refine sm_ret ?_
            cases r with
            | nil => repeat walk_at "yx"
                     exact post _ (by rw [e, f_ne (by simp)])
            | cons b r =>
              cases r with
              | nil =>
                repeat walk_at "yx"
                refine name_k (goodV_pre (gr b (by simp))) ?_
                exact post _ (by rw [e, f2 fa]; rfl)
              | cons c r =>
                repeat walk_at "yx"
                exact post _ (by rw [e, f_ne (by simp)])
          have n6 := ni2 h
          refine sm_next ?_
          -- put
          refine sm_seq (sm_if ?_)
          repeat walk_at "yx"
          refine ways (fun h => ?_) (fun h => ?_)
          · have hz : z = "put" := of_decide_eq_true h
            have e : codeRow (.tup (.str z :: .str y :: r)) = formB [114, 119] (.str y :: r) := by rw [hz]; exact rowBy_at (by decide +kernel)
            refine sm_ret ?_
            cases r with
            | nil => repeat walk_at "yx"
                     exact post _ (by rw [e, f_ne (by simp)])
            | cons b r =>
              cases r with
              | nil =>
                repeat walk_at "yx"
                refine num_k (goodV_pre (gr b (by simp))).1 ?_
                exact post _ (by rw [e, f2 fa]; rfl)
              | cons c r =>
                repeat walk_at "yx"
                exact post _ (by rw [e, f_ne (by simp)])
          have n7 : z ≠ "put" := of_decide_eq_false h
          refine sm_next ?_
          have n8 : ¬ (z = "callby" ∨ z = "out" ∨ z = "name" ∨ z = "ifzero" ∨ z = "put") := by
            rintro (q | q | q | q | q)
            · exact n5.1 q
            · exact n5.2 q
            · exact n6.1 q
            · exact n6.2 q
            · exact n7 q
          -- the second register
          refine sm_seq (sm_if ?_)
          cases r with
          | nil =>
            repeat walk_at "yx"
            refine sm_ret ?_
            repeat walk_at "yx"
            refine post _ (no_code fun q => ?_).symm
            rcases code_inv q with q | ⟨q, _⟩ | ⟨_, x, y, ys, q, _⟩
            · exact n4 q
            · exact n8 q
            · cases q
          | cons b r =>
          have gb := goodV_pre (gr b (by simp))
          have hlt : decide (((Dt.str y :: b :: r).length : Int) < 2) = false := decide_eq_false (by simp; omega)
          by_cases hb : isRegD b = true
          · obtain ⟨y2, rfl⟩ : ∃ y, b = .str y := by cases b <;> first | exact ⟨_, rfl⟩ | cases hb
            have hb' : inD (.str y2) [.str "r0", .str "r1", .str "r2"] = true := hb
            have fb : fitsB 114 (.str y2) = true := hb
            repeat walk_at "yx"
            refine o_niAL rfl rfl ?_
            rw [hb']
            repeat walk_at "yx"
            refine sm_next ?_
            -- add, take
            refine sm_seq (sm_if ?_)
            repeat walk_at "yx"
            try refine o_inAT rfl rfl (bl_ex ?_)
            refine ways (fun h => ?_) (fun h => ?_)
            · have e : codeRow (.tup (.str z :: .str y :: .str y2 :: r)) = formB [114, 114] (.str y :: .str y2 :: r) := by rcases in2 h with rfl | rfl <;> exact rowBy_at (by decide +kernel)
              refine sm_ret ?_
              repeat walk_at "yx"
              refine post _ ?_
              rw [e]
              cases r with
              | nil => exact ((f2 fa).trans fb).symm
              | cons c r => rw [f_ne (by simp)]; exact len_ne (k := 2) (by simp)
            have n9 := ni2 h
            refine sm_next ?_
            -- load, store
            refine sm_ret ?_
            repeat walk_at "yx"
            try refine o_inAT rfl rfl ?_
            repeat walk_at "yx"
            refine ways (fun h => ?_) (fun h => ?_)
            · have e : codeRow (.tup (.str z :: .str y :: .str y2 :: r)) = formB [114, 114, 100] (.str y :: .str y2 :: r) := by rcases in2 h with rfl | rfl <;> exact rowBy_at (by decide +kernel)
              cases r with
              | nil => repeat walk_at "yx"
                       exact post _ (by rw [e, f_ne (by simp)])
              | cons c r =>
                cases r with
                | nil =>
                  repeat walk_at "yx"
                  refine num_k (goodV_pre (gr c (by simp))).1 ?_
                  exact post _ (by rw [e, f3 fa fb]; rfl)
                | cons d r =>
                  repeat walk_at "yx"
                  exact post _ (by rw [e, f_ne (by simp)])
            · have n10 := ni2 h
              repeat walk_at "yx"
              refine post _ (no_code fun q => ?_).symm
              rcases code_inv q with q | ⟨q, _⟩ | ⟨q, _⟩
              · exact n4 q
              · exact n8 q
              · rcases q with q | q | q | q
                · exact n9.1 q
                · exact n9.2 q
                · exact n10.1 q
                · exact n10.2 q
          · have no : isCodePost [.tup (.str z :: .str y :: b :: r)] (.bl false) := by
              refine post _ (no_code fun q => ?_).symm
              rcases code_inv q with q | ⟨q, _⟩ | ⟨_, x, y, ys, q, _, k⟩
              · exact n4 q
              · exact n8 q
              · cases q; exact hb k
            have pb := gb.1
            clear gr post n1 n2 n3 n4 n5 n6 n7 n8 hl hl3 ga gb
            cases b with
            | obj _ _ _ => cases pb
            | ali _ => cases pb
            | str y2 =>
              have hb' : inD (.str y2) [.str "r0", .str "r1", .str "r2"] = false := by
                have : ¬ inD (.str y2) [.str "r0", .str "r1", .str "r2"] = true := hb
                simpa using this
              repeat walk_at "yx"
              refine o_niAL rfl rfl ?_
              rw [hb']
              repeat walk_at "yx"
              refine sm_ret ?_
              repeat walk_at "yx"
              exact no
            | _ =>
              repeat walk_at "yx"
              refine sm_ret ?_
              repeat walk_at "yx"
              exact no
        · have no : isCodePost [.tup (.str z :: a :: r)] (.bl false) := by
            refine post _ (no_code fun q => ?_).symm
            rcases code_inv q with q | ⟨_, x, ys, q, k⟩ | ⟨_, x, y, ys, q, k, _⟩
            · exact n4 q
            · cases q; exact ha k
            · cases q; exact ha k
          have pa := ga.1
          clear gr post n1 n2 n3 n4 hl hl3 ga
          cases a with
          | obj _ _ _ => cases pa
          | ali _ => cases pa
          | str y =>
            have ha' : inD (.str y) [.str "r0", .str "r1", .str "r2"] = false := by
              have : ¬ inD (.str y) [.str "r0", .str "r1", .str "r2"] = true := ha
              simpa using this
            repeat walk_at "yx"
            refine o_niAL rfl rfl ?_
            rw [ha']
            repeat walk_at "yx"
            refine sm_ret ?_
            repeat walk_at "yx"
            exact no
          | _ =>
            repeat walk_at "yx"
            refine sm_ret ?_
            repeat walk_at "yx"
            exact no
      | obj _ _ _ => cases py
      | ali _ => cases py
      | _ =>
        repeat walk_at "y"
        exact ⟨_, rfl, rfl⟩
  | _ =>
    repeat walk_at "y"
    exact ⟨_, rfl, rfl⟩
end
end Law
namespace Law
open PySem L2 Y
local macro_rules | `(tactic| walk_at "yv") => `(tactic| ((with_reducible show Ev _ (tVar _) _ _); refine ev_var rfl ?_))
local macro_rules | `(tactic| walk_at "ys") => `(tactic| with_reducible first
  | refine sm_seq ?_ | refine sm_ret ?_ | refine sm_if ?_ | refine sm_set ?_ | refine sm_next ?_ | refine sm_par ?_ | refine sm_drop ?_ | refine sm_brk ?_ | refine sm_cont ?_)
local macro_rules | `(tactic| walk_at "ye") => `(tactic| with_reducible first
  | refine ev_op ?_ | refine ev_and ?_ | refine ev_or ?_ | refine ev_not ?_ | refine ev_if ?_ | refine ev_chain ?_ | refine ev_neg ?_ | refine ev_isInt ?_ | refine ev_isBool ?_ | refine ev_isStr ?_ | refine ev_isList ?_ | refine ev_isTuple ?_ | refine ev_isLT ?_ | refine ev_isDict ?_
  | refine ev_int ?_ | refine ev_str ?_ | refine ev_bl ?_ | refine ev_non ?_ | refine ev_call ?_ | refine ev_cb ?_ | refine ev_lst ?_ | refine ev_tup ?_ | refine ev_join ?_
  | refine ea_nil ?_ | refine ea_cons ?_
  | refine et_B ?_ | refine et_test ?_ | refine et_not ?_ | refine et_and ?_ | refine et_or ?_ | refine et_yes ?_
  | refine o_plusI ?_ | refine o_i0 ?_ | refine o_b0 ?_ | refine o_isN ?_ | refine o_notN ?_
  | refine bl_ex ?_ | refine int_ex ?_ | refine str_ex ?_ | refine lst_ex ?_ | refine tup_ex ?_)
local macro_rules | `(tactic| walk_at "yo") => `(tactic| first
  | ((with_reducible show Ev _ (tOp (rIx _) (tVar _) _) _ _); refine ev_ixOwn rfl ?_)
  | ((with_reducible show Ev _ (tCB _ (tCons (tVar _) tNil)) _ _); refine ev_lenOwn rfl ?_)
  | ((with_reducible show Sm _ (tAsg _ (gSub (tVar _) _ _)) _ _); refine sm_setItem rfl ?_)
  | ((with_reducible show Ev _ (tCall (spB _ _ _) _ _ _) _ _); refine ev_callB rfl rfl ?_))
local macro_rules | `(tactic| walk_at "yc") => `(tactic| first
  | ((with_reducible show CMul _ _); first | exact Or.inr ⟨by decide, by decide⟩ | exact Or.inl ⟨by decide, by decide⟩ | exact Or.inr ⟨by omega, by omega⟩ | exact Or.inl ⟨by omega, by omega⟩)
  | ((with_reducible show CDiv _ _); exact ⟨by first | decide | omega, by first | decide | omega⟩)
  | ((with_reducible show CPow _ _); exact ⟨by decide, by decide, by first | decide | omega⟩)
  | ((show (0 : Int) < _); first | decide | omega))
local macro_rules | `(tactic| walk_at "yd") => `(tactic| first
  | ((with_reducible show plainD _ = true ∧ _); refine ⟨by first | rfl | assumption, ?_⟩)
  | ((with_reducible show (_ = true → _) ∧ (_ = false → _)); first | refine way_t rfl ?_ | refine way_f rfl ?_ | refine way_t (by decide +kernel) ?_ | refine way_f (by decide +kernel) ?_)
  | ((with_reducible show Cal _ _ _ _ _); first | (with_reducible refine c_int ?_) | (with_reducible refine c_abs ?_) | (refine c_len rfl ?_) | (refine c_len (if_pos (by assumption)) ?_))
  | ((with_reducible show Op2 _ (rEqA _) _ _ _ _); refine o_eqA rfl ?_)
  | ((with_reducible show Op2 _ (rNeA _) _ _ _ _); refine o_neA rfl ?_)
  | ((with_reducible show Op2 _ (rInA _) _ (Dt.str _) (Dt.lst _) _); refine o_inAL rfl rfl ?_)
  | ((with_reducible show Op2 _ (rInA _) _ (Dt.str _) (Dt.tup _) _); refine o_inAT rfl rfl ?_)
  | ((with_reducible show Op2 _ (rI _ _) _ _ _ _); refine o_i (by walk_at "yc") ?_)
  | ((with_reducible show Op2 _ (rIx _) _ (Dt.tup _) _ _); refine o_ixAT (atI_toNat (by decide) rfl) ?_)
  | ((with_reducible show Op2 _ (rIx _) _ (Dt.lst _) _ _); refine o_ixAL (atI_toNat (by decide) rfl) ?_)
  | ((with_reducible show ∃ x, atI _ _ = some x ∧ _); refine ⟨_, rfl, ?_⟩)
  | ((with_reducible show ∃ x, ixN _ _ = some x ∧ _); refine ⟨_, rfl, ?_⟩)
  | ((with_reducible show List.length _ ≤ 100000 ∧ _); refine ⟨by (try simp only [List.length_cons, List.length_nil]); first | decide | omega, ?_⟩))
local macro_rules | `(tactic| walk_at "y") => `(tactic| first | walk_at "yo" | walk_at "ye" | walk_at "yv" | walk_at "ys" | walk_at "yd")
local macro_rules | `(tactic| walk_at "yx") => `(tactic| first | walk_at "yo" | walk_at "ye" | walk_at "yv" | walk_at "yd")

theorem data_inv {z : Str} {rest : List Dt} (h : dataRow (.tup (.str z :: rest)) = true) : (z = "word" ∨ z = "address" ∨ z = "room") ∧ rest.length = 1 := by
  obtain ⟨w', f, rest', e, h1, h2⟩ := rowBy_inv h
  cases e
  have hm := lookup_mem h1
  obtain ⟨c0, ck, cr, cn, cw, crw, crn, crr, crd⟩ := cps_k
  simp only [dataForms, List.mem_cons, List.not_mem_nil, or_false, Prod.mk.injEq] at hm
  rcases hm with ⟨rfl, rfl⟩ | ⟨rfl, rfl⟩ | ⟨rfl, rfl⟩
  · rw [cw] at h2; exact ⟨.inl rfl, (formB_len h2).symm⟩
  · rw [cn] at h2; exact ⟨.inr (.inl rfl), (formB_len h2).symm⟩
  · rw [ck] at h2; exact ⟨.inr (.inr rfl), (formB_len h2).symm⟩
theorem no_data {x : Dt} (h : dataRow x ≠ true) : dataRow x = false := by
  cases e : dataRow x with
  | false => rfl
  | true => exact absurd e h
theorem data_ne {y : Dt} {rest : List Dt} (h : rest.length ≠ 1) : dataRow (.tup (y :: rest)) = false := by
  cases y with
  | str z => exact no_data fun q => h (data_inv q).2
  | _ => rfl
section
variable {P : Program} {w : World} {K : PySem.W.Frag} {mg : Str → Option Value} {base : Heap}

theorem ok__law_data_so (T : Tx K mg w) : FnOk P w K mg base CX0 2 T.a__law_data_so T.d__law_data_so ["_law_thing"] (spD K thingPre isDataPost) := by
  have G__law_within := ok__law_within (P := P) (w := w) (base := base) T
  have G__law_is_title := ok__law_is_title (P := P) (w := w) (base := base) T
  refine fn_data T.F__law_data_so sc__law_data_so (fun ds h => ?_) (fun cdv A outer s H E hr => ⟨_, (pss_cons (ps_if (PW.pt (pw_or (pt_not (pt_val (pe_callB (call_isiA (K := K)) (by rfl) T.n_isinstance PyProof.Rows.boot_isinstance (pa_cons (pv 0) (pa_cons (pe_bltn (v := .ty "tuple") (by rfl) T.n_tuple (by decide +kernel) rfl) pa_nil))))) (pw_or (pt_cmpR (op_neA (K := K) hr.units) (pe_callB (call_lenA (K := K)) (by rfl) T.n_len PySem.boot_len (pa_cons (pv 0) pa_nil)) pe_int (nomark _)) (pw_or1 (pt_not (pt_val (pe_callB (call_isiA (K := K)) (by rfl) T.n_isinstance PyProof.Rows.boot_isinstance (pa_cons (pe_ix (ix_any (K := K)) (pv 0) pe_int (fun _ _ => rfl)) (pa_cons (pe_bltn (v := .ty "str") (by rfl) T.n_str (by decide +kernel) rfl) pa_nil))))))))) (pss_one (ps_ret pe_bl)) pss_nil)
      (pss_cons (ps_if (pt_cmpR (op_eqA (K := K) hr.units) (pe_ix (ix_any (K := K)) (pv 0) pe_int (fun _ _ => rfl)) pe_str (nomark _)) (pss_one (ps_ret (pe_call G__law_within (hr.mono (by decide)) (by rfl) T.m__law_within T.k__law_within T.b__law_within .nil pass0 (pa_cons (pe_ix (ix_any (K := K)) (pv 0) pe_int (fun _ _ => rfl)) (pa_cons pe_int (pa_cons pe_int pa_nil)))))) pss_nil)
      (pss_cons (ps_if (pt_cmpR (op_eqA (K := K) hr.units) (pe_ix (ix_any (K := K)) (pv 0) pe_int (fun _ _ => rfl)) pe_str (nomark _)) (pss_one (ps_ret (pe_call G__law_is_title (hr.mono (by decide)) (by rfl) T.m__law_is_title T.k__law_is_title T.b__law_is_title .nil pass0 (pa_cons (pe_ix (ix_any (K := K)) (pv 0) pe_int (fun _ _ => rfl)) pa_nil)))) pss_nil)
      (pss_one (ps_ret (pe_and (pe_cmpR (op_eqA (K := K) hr.units) (pe_ix (ix_any (K := K)) (pv 0) pe_int (fun _ _ => rfl)) pe_str (nomark _)) (pe_one (pe_call G__law_within (hr.mono (by decide)) (by rfl) T.m__law_within T.k__law_within T.b__law_within .nil pass0 (pa_cons (pe_ix (ix_any (K := K)) (pv 0) pe_int (fun _ _ => rfl)) (pa_cons pe_int (pa_cons pe_int pa_nil))))))))))), fun F0 H0 ds h => ?_⟩)
  · obtain ⟨x, rfl, _⟩ := h; rfl
  obtain ⟨x, rfl, hg⟩ := h
  dsimp only [cxOf, env0, env1, List.map, List.length, List.replicate, List.cons_append, List.nil_append, List.append, Nat.reduceAdd, Nat.reduceSub, Nat.zero_add]
  have hp := thing_plain hg
  cases x with
  | obj _ _ _ => cases hp
  | ali _ => cases hp
  | tup ys =>
    obtain ⟨hl, hy⟩ := thing_tup hg
    have hl2 : ys.length ≤ 100000 := by omega
    cases ys with
    | nil =>
      repeat walk_at "y"
      exact ⟨_, rfl, rfl⟩
    | cons y r =>
      cases r with
      | nil =>
        repeat walk_at "y"
        exact ⟨_, rfl, by rw [data_ne (by simp)]⟩
      | cons a r =>
        cases r with
        | nil =>
          have py := (goodV_pre (hy y (by simp))).1
          have ga := goodV_pre (hy a (by simp))
          cases y with
          | obj _ _ _ => cases py
          | ali _ => cases py
          | str z =>
            repeat walk_at "y"
            refine ways (fun h => ?_) (fun h => ?_)
            · have hz : z = "word" := of_decide_eq_true h
              subst hz
              repeat walk_at "y"
              refine num_k ga.1 ?_
              exact ⟨_, rfl, by rw [dataRow, rowBy_at (ks := [119]) (by decide +kernel), f1]; rfl⟩
            have n1 : z ≠ "word" := of_decide_eq_false h
            repeat walk_at "y"
            refine ways (fun h => ?_) (fun h => ?_)
            · have hz : z = "address" := of_decide_eq_true h
              subst hz
              repeat walk_at "y"
              refine name_k ga ?_
              exact ⟨_, rfl, by rw [dataRow, rowBy_at (ks := [110]) (by decide +kernel), f1]; rfl⟩
            have n2 : z ≠ "address" := of_decide_eq_false h
            repeat walk_at "y"
            refine ways (fun h => ?_) (fun h => ?_)
            · have hz : z = "room" := of_decide_eq_true h
              subst hz
              repeat walk_at "y"
              refine num_k ga.1 ?_
              exact ⟨_, rfl, by rw [dataRow, rowBy_at (ks := [107]) (by decide +kernel), f1]; rfl⟩
            have n3 : z ≠ "room" := of_decide_eq_false h
            repeat walk_at "y"
            refine ⟨_, rfl, ?_⟩
            rw [no_data (x := .tup [.str z, a]) fun q => (data_inv q).1.elim n1 fun q => q.elim n2 n3]
          | _ =>
            repeat walk_at "y"
            exact ⟨_, rfl, rfl⟩
        | cons b r =>
          repeat walk_at "y"
          exact ⟨_, rfl, by rw [data_ne (by simp)]⟩
  | _ =>
    repeat walk_at "y"
    exact ⟨_, rfl, rfl⟩
end
end Law
namespace Law
open PySem L2 Y
local macro_rules | `(tactic| walk_at "yv") => `(tactic| ((with_reducible show Ev _ (tVar _) _ _); refine ev_var rfl ?_))
local macro_rules | `(tactic| walk_at "ys") => `(tactic| with_reducible first
  | refine sm_seq ?_ | refine sm_ret ?_ | refine sm_if ?_ | refine sm_set ?_ | refine sm_next ?_ | refine sm_par ?_ | refine sm_drop ?_ | refine sm_brk ?_ | refine sm_cont ?_)
local macro_rules | `(tactic| walk_at "ye") => `(tactic| with_reducible first
  | refine ev_op ?_ | refine ev_and ?_ | refine ev_or ?_ | refine ev_not ?_ | refine ev_if ?_ | refine ev_chain ?_ | refine ev_neg ?_ | refine ev_isInt ?_ | refine ev_isBool ?_ | refine ev_isStr ?_ | refine ev_isList ?_ | refine ev_isTuple ?_ | refine ev_isLT ?_ | refine ev_isDict ?_
  | refine ev_int ?_ | refine ev_str ?_ | refine ev_bl ?_ | refine ev_non ?_ | refine ev_call ?_ | refine ev_cb ?_ | refine ev_lst ?_ | refine ev_tup ?_ | refine ev_join ?_
  | refine ea_nil ?_ | refine ea_cons ?_
  | refine et_B ?_ | refine et_test ?_ | refine et_not ?_ | refine et_and ?_ | refine et_or ?_ | refine et_yes ?_
  | refine o_plusI ?_ | refine o_i0 ?_ | refine o_b0 ?_ | refine o_isN ?_ | refine o_notN ?_
  | refine bl_ex ?_ | refine int_ex ?_ | refine str_ex ?_ | refine lst_ex ?_ | refine tup_ex ?_)
local macro_rules | `(tactic| walk_at "yo") => `(tactic| first
  | ((with_reducible show Ev _ (tOp (rIx _) (tVar _) _) _ _); refine ev_ixOwn rfl ?_)
  | ((with_reducible show Ev _ (tCB _ (tCons (tVar _) tNil)) _ _); refine ev_lenOwn rfl ?_)
  | ((with_reducible show Sm _ (tAsg _ (gSub (tVar _) _ _)) _ _); refine sm_setItem rfl ?_)
  | ((with_reducible show Ev _ (tCall (spB _ _ _) _ _ _) _ _); refine ev_callB rfl rfl ?_))
local macro_rules | `(tactic| walk_at "yc") => `(tactic| first
  | ((with_reducible show CMul _ _); first | exact Or.inr ⟨by decide, by decide⟩ | exact Or.inl ⟨by decide, by decide⟩ | exact Or.inr ⟨by omega, by omega⟩ | exact Or.inl ⟨by omega, by omega⟩)
  | ((with_reducible show CDiv _ _); exact ⟨by first | decide | omega, by first | decide | omega⟩)
  | ((with_reducible show CPow _ _); exact ⟨by decide, by decide, by first | decide | omega⟩)
  | ((show (0 : Int) < _); first | decide | omega))
local macro_rules | `(tactic| walk_at "yd") => `(tactic| first
  | ((with_reducible show plainD _ = true ∧ _); refine ⟨by first | rfl | assumption, ?_⟩)
  | ((with_reducible show (_ = true → _) ∧ (_ = false → _)); first | refine way_t rfl ?_ | refine way_f rfl ?_ | refine way_t (by decide +kernel) ?_ | refine way_f (by decide +kernel) ?_)
  | ((with_reducible show Cal _ _ _ _ _); first | (with_reducible refine c_int ?_) | (with_reducible refine c_abs ?_) | (refine c_len rfl ?_) | (refine c_len (if_pos (by assumption)) ?_))
  | ((with_reducible show Op2 _ (rEqA _) _ _ _ _); refine o_eqA rfl ?_)
  | ((with_reducible show Op2 _ (rNeA _) _ _ _ _); refine o_neA rfl ?_)
  | ((with_reducible show Op2 _ (rInA _) _ (Dt.str _) (Dt.lst _) _); refine o_inAL rfl rfl ?_)
  | ((with_reducible show Op2 _ (rInA _) _ (Dt.str _) (Dt.tup _) _); refine o_inAT rfl rfl ?_)
  | ((with_reducible show Op2 _ (rI _ _) _ _ _ _); refine o_i (by walk_at "yc") ?_)
  | ((with_reducible show Op2 _ (rIx _) _ (Dt.tup _) _ _); refine o_ixAT (atI_toNat (by decide) rfl) ?_)
  | ((with_reducible show Op2 _ (rIx _) _ (Dt.lst _) _ _); refine o_ixAL (atI_toNat (by decide) rfl) ?_)
  | ((with_reducible show ∃ x, atI _ _ = some x ∧ _); refine ⟨_, rfl, ?_⟩)
  | ((with_reducible show ∃ x, ixN _ _ = some x ∧ _); refine ⟨_, rfl, ?_⟩)
  | ((with_reducible show List.length _ ≤ 100000 ∧ _); refine ⟨by (try simp only [List.length_cons, List.length_nil]); first | decide | omega, ?_⟩))
local macro_rules | `(tactic| walk_at "y") => `(tactic| first | walk_at "yo" | walk_at "ye" | walk_at "yv" | walk_at "ys" | walk_at "yd")
local macro_rules | `(tactic| walk_at "yx") => `(tactic| first | walk_at "yo" | walk_at "ye" | walk_at "yv" | walk_at "yd")

def wordedPre (ds : List Dt) : Prop := ∃ (z : Str) (r : List Dt), ds = [.tup (.str z :: r)]
def closePost (ds : List Dt) (d : Dt) : Prop := ∃ (z : Str) (r : List Dt), ds = [.tup (.str z :: r)] ∧ d = .bl (inD (.str z) [.str "jump", .str "halt", .str "back"])
theorem close_k {z : Str} {r : List Dt} {R : Dt → Prop} (h : R (.bl (inD (.str z) [.str "jump", .str "halt", .str "back"]))) : wordedPre [.tup (.str z :: r)] ∧ ∀ d, closePost [.tup (.str z :: r)] d → R d := ⟨⟨z, r, rfl⟩, fun d ⟨y, r', e, e2⟩ => by cases e; subst e2; exact h⟩
section
variable {P : Program} {w : World} {K : PySem.W.Frag} {mg : Str → Option Value} {base : Heap}

theorem ok_is_closing (T : Tx K mg w) : FnOk P w K mg base CX0 1 T.a_is_closing T.d_is_closing ["row"] (spD K wordedPre closePost) := by
  refine fn_data T.F_is_closing sc_is_closing (fun ds h => ?_) (fun cdv A outer s H E hr => ⟨_, (pss_one (ps_ret (pe_cmpR (op_inA (K := K)) (pe_ix (ix_any (K := K)) (pv 0) pe_int (fun _ _ => rfl)) (pe_glob (v := .ref T.a_CLOSING) (by rfl) T.m_CLOSING rfl) (by rfl)))), fun F0 H0 ds h => ?_⟩)
  · obtain ⟨x, r, rfl⟩ := h; rfl
  · obtain ⟨z, r, rfl⟩ := h
    dsimp only [cxOf, env0, env1, List.map, List.length, List.replicate, List.cons_append, List.nil_append, List.append, Nat.reduceAdd, Nat.reduceSub, Nat.zero_add]
    repeat walk_at "y"
    refine ev_k T.kd_CLOSING (o_inAT rfl rfl ?_)
    exact ⟨_, _, rfl, rfl⟩
end
end Law
namespace Law
open PySem L2 Y
local macro_rules | `(tactic| walk_at "yv") => `(tactic| ((with_reducible show Ev _ (tVar _) _ _); refine ev_var rfl ?_))
local macro_rules | `(tactic| walk_at "ys") => `(tactic| with_reducible first
  | refine sm_seq ?_ | refine sm_ret ?_ | refine sm_if ?_ | refine sm_set ?_ | refine sm_next ?_ | refine sm_par ?_ | refine sm_drop ?_ | refine sm_brk ?_ | refine sm_cont ?_)
local macro_rules | `(tactic| walk_at "ye") => `(tactic| with_reducible first
  | refine ev_op ?_ | refine ev_and ?_ | refine ev_or ?_ | refine ev_not ?_ | refine ev_if ?_ | refine ev_chain ?_ | refine ev_neg ?_ | refine ev_isInt ?_ | refine ev_isBool ?_ | refine ev_isStr ?_ | refine ev_isList ?_ | refine ev_isTuple ?_ | refine ev_isLT ?_ | refine ev_isDict ?_
  | refine ev_int ?_ | refine ev_str ?_ | refine ev_bl ?_ | refine ev_non ?_ | refine ev_call ?_ | refine ev_cb ?_ | refine ev_lst ?_ | refine ev_tup ?_ | refine ev_join ?_
  | refine ea_nil ?_ | refine ea_cons ?_
  | refine et_B ?_ | refine et_test ?_ | refine et_not ?_ | refine et_and ?_ | refine et_or ?_ | refine et_yes ?_
  | refine o_plusI ?_ | refine o_i0 ?_ | refine o_b0 ?_ | refine o_isN ?_ | refine o_notN ?_
  | refine bl_ex ?_ | refine int_ex ?_ | refine str_ex ?_ | refine lst_ex ?_ | refine tup_ex ?_)
local macro_rules | `(tactic| walk_at "yo") => `(tactic| first
  | ((with_reducible show Ev _ (tOp (rIx _) (tVar _) _) _ _); refine ev_ixOwn rfl ?_)
  | ((with_reducible show Ev _ (tCB _ (tCons (tVar _) tNil)) _ _); refine ev_lenOwn rfl ?_)
  | ((with_reducible show Sm _ (tAsg _ (gSub (tVar _) _ _)) _ _); refine sm_setItem rfl ?_)
  | ((with_reducible show Ev _ (tCall (spB _ _ _) _ _ _) _ _); refine ev_callB rfl rfl ?_))
local macro_rules | `(tactic| walk_at "yc") => `(tactic| first
  | ((with_reducible show CMul _ _); first | exact Or.inr ⟨by decide, by decide⟩ | exact Or.inl ⟨by decide, by decide⟩ | exact Or.inr ⟨by omega, by omega⟩ | exact Or.inl ⟨by omega, by omega⟩)
  | ((with_reducible show CDiv _ _); exact ⟨by first | decide | omega, by first | decide | omega⟩)
  | ((with_reducible show CPow _ _); exact ⟨by decide, by decide, by first | decide | omega⟩)
  | ((show (0 : Int) < _); first | decide | omega))
local macro_rules | `(tactic| walk_at "yd") => `(tactic| first
  | ((with_reducible show plainD _ = true ∧ _); refine ⟨by first | rfl | assumption, ?_⟩)
  | ((with_reducible show (_ = true → _) ∧ (_ = false → _)); first | refine way_t rfl ?_ | refine way_f rfl ?_ | refine way_t (by decide +kernel) ?_ | refine way_f (by decide +kernel) ?_)
  | ((with_reducible show Cal _ _ _ _ _); first | (with_reducible refine c_int ?_) | (with_reducible refine c_abs ?_) | (refine c_len rfl ?_) | (refine c_len (if_pos (by assumption)) ?_))
  | ((with_reducible show Op2 _ (rEqA _) _ _ _ _); refine o_eqA rfl ?_)
  | ((with_reducible show Op2 _ (rNeA _) _ _ _ _); refine o_neA rfl ?_)
  | ((with_reducible show Op2 _ (rInA _) _ (Dt.str _) (Dt.lst _) _); refine o_inAL rfl rfl ?_)
  | ((with_reducible show Op2 _ (rInA _) _ (Dt.str _) (Dt.tup _) _); refine o_inAT rfl rfl ?_)
  | ((with_reducible show Op2 _ (rI _ _) _ _ _ _); refine o_i (by walk_at "yc") ?_)
  | ((with_reducible show Op2 _ (rIx _) _ (Dt.tup _) _ _); refine o_ixAT (atI_toNat (by decide) rfl) ?_)
  | ((with_reducible show Op2 _ (rIx _) _ (Dt.lst _) _ _); refine o_ixAL (atI_toNat (by decide) rfl) ?_)
  | ((with_reducible show ∃ x, atI _ _ = some x ∧ _); refine ⟨_, rfl, ?_⟩)
  | ((with_reducible show ∃ x, ixN _ _ = some x ∧ _); refine ⟨_, rfl, ?_⟩)
  | ((with_reducible show List.length _ ≤ 100000 ∧ _); refine ⟨by (try simp only [List.length_cons, List.length_nil]); first | decide | omega, ?_⟩))
local macro_rules | `(tactic| walk_at "y") => `(tactic| first | walk_at "yo" | walk_at "ye" | walk_at "yv" | walk_at "ys" | walk_at "yd")
local macro_rules | `(tactic| walk_at "yx") => `(tactic| first | walk_at "yo" | walk_at "ye" | walk_at "yv" | walk_at "yd")
def yesPost (_ : List Dt) (d : Dt) : Prop := d = .bl true

theorem dt_inj {m n : Mdl} (h : m.dt = n.dt) : m = n := by
  cases m; cases n
  simp only [Mdl.dt, Dt.tup.injEq, List.cons.injEq, Dt.str.injEq, Dt.int.injEq, Dt.bl.injEq, Dt.lst.injEq, and_true, true_and] at h
  obtain ⟨rfl, rfl, rfl, rfl, rfl, rfl⟩ := h
  rfl
def lastPost (_ : List Dt) (d : Dt) : Prop := codeRow d = true ∧ closeD d
theorem last_k {t : Dt} {R : Dt → Prop} (ht : NamesD t) (h : ∀ d, codeRow d = true → closeD d → R d) : namesPre [t] ∧ ∀ d, lastPost [t] d → R d := ⟨⟨t, rfl, ht⟩, fun d e => h d e.1 e.2⟩
def modPre (ds : List Dt) : Prop := ∃ (t : Str) (x : Dt) (k : Int), ds = [.str t, x, .int k] ∧ isNameD (.str t) = true ∧ NamesD x ∧ 0 ≤ k ∧ k ≤ 15
def modPost (ds : List Dt) (d : Dt) : Prop := ∃ m : Mdl, m.ok ∧ (∀ t x k, ds = [.str t, x, k] → m.t = t) ∧ d = m.dt
theorem mod_k {t : Str} {x : Dt} {k : Int} {R : Dt → Prop} (h1 : isNameD (.str t) = true) (h2 : NamesD x) (h3 : 0 ≤ k) (h4 : k ≤ 15) (h : ∀ m : Mdl, m.ok → m.t = t → R m.dt) : modPre [.str t, x, .int k] ∧ ∀ d, modPost [.str t, x, .int k] d → R d := ⟨⟨t, x, k, rfl, h1, h2, h3, h4⟩, fun d ⟨m, q1, q2, q3⟩ => by rw [q3]; exact h m q1 (q2 _ _ _ rfl)⟩
def dtPre (ds : List Dt) : Prop := ∃ m : Mdl, ds = [m.dt] ∧ m.ok
def pcPost (C : Addr) (ds : List Dt) (d : Dt) : Prop := ∀ m : Mdl, ds = [m.dt] → d = m.obj C
theorem pc_k {C : Addr} {m : Mdl} {R : Dt → Prop} (h1 : m.ok) (h : R (m.obj C)) : dtPre [m.dt] ∧ ∀ d, pcPost C [m.dt] d → R d := ⟨⟨m, rfl, h1⟩, fun d e => by rw [e m rfl]; exact h⟩
def toldPre (C : Addr) (ds : List Dt) : Prop := ∃ m : Mdl, ds = [m.obj C, m.dt] ∧ m.ok
theorem told_k {C : Addr} {m : Mdl} {R : Dt → Prop} (h1 : m.ok) (h : R (.bl true)) : toldPre C [m.obj C, m.dt] ∧ ∀ d, yesPost [m.obj C, m.dt] d → R d := ⟨⟨m, rfl, h1⟩, fun d e => by rw [e]; exact h⟩
theorem map_all {ys xs : List Dt} {p : Dt → Bool} (hl : ys.length = xs.length) (h : ∀ (i : Nat) x y, xs[i]? = some x → ys[i]? = some y → p y = true) : ∀ y ∈ ys, p y = true := fun y hy => by
  obtain ⟨i, hi⟩ := List.getElem?_of_mem hy
  have hlt := (List.getElem?_eq_some_iff.mp hi).1
  exact h i xs[i] y (by simp [hl ▸ hlt]) hi
section
variable {P : Program} {w : World} {K : PySem.W.Frag} {mg : Str → Option Value} {base : Heap}

theorem ok__law_last_row (T : Tx K mg w) : FnOk P w K mg base CX0 3 T.a__law_last_row T.d__law_last_row ["_law_bag_here", "_law_titles_here"] (spB K namesPre lastPost) := by
  have G__law_of := ok__law_of (P := P) (w := w) (base := base) T
  refine fn_bag T.F__law_last_row sc__law_last_row (fun ds h => ?_) (fun cdv A outer s H E hr => ⟨_, (pss_one (ps_ret (pe_call G__law_of (hr.mono (by decide)) (by rfl) T.m__law_of T.k__law_of T.b__law_of .nil pass0 (pa_cons (pv 0) (pa_cons (pe_lst (pa_cons (pe_tup (pa_cons pe_str (pa_cons (pe_call G__law_of (hr.mono (by decide)) (by rfl) T.m__law_of T.k__law_of T.b__law_of .nil pass0 (pa_cons (pv 0) (pa_cons (pv 1) pa_nil))) pa_nil))) (pa_cons (pe_tup (pa_cons pe_str pa_nil)) (pa_cons (pe_tup (pa_cons pe_str pa_nil)) pa_nil)))) pa_nil))))), fun F0 H0 b ds h => ?_⟩)
  · obtain ⟨t, rfl, _⟩ := h; rfl
  · obtain ⟨t, rfl, ht⟩ := h
    dsimp only [cxOf, env0, env1, List.map, List.length, List.replicate, List.cons_append, List.nil_append, List.append, Nat.reduceAdd, Nat.reduceSub, Nat.zero_add]
    repeat walk_at "y"
    refine of_namesM ht fun nm hnm hmem => ?_
    repeat walk_at "y"
    refine of_k ⟨by show 0 < 3; decide, by show 3 ≤ 100000; decide⟩ fun dd hd => ?_
    simp only [List.mem_cons, List.not_mem_nil, or_false] at hd
    rcases hd with rfl | rfl | rfl
    · exact ⟨rowBy_of (ks := [110]) (by decide +kernel) (form1 (fit_n hnm)), _, _, rfl, by decide +kernel⟩
    · exact ⟨rowBy_of (ks := []) (by decide +kernel) form0, _, _, rfl, by decide +kernel⟩
    · exact ⟨rowBy_of (ks := []) (by decide +kernel) form0, _, _, rfl, by decide +kernel⟩

theorem ok__law_piece_model (T : Tx K mg w) : FnOk P w K mg base CX0 5 T.a__law_piece_model T.d__law_piece_model ["_law_bag_here", "_law_title", "_law_titles_here", "_law_most"] (spB K modPre modPost) := by
  have G__law_draw := ok__law_draw (P := P) (w := w) (base := base) T
  have G__law_of := ok__law_of (P := P) (w := w) (base := base) T
  have G__law_code_row := ok__law_code_row (P := P) (w := w) (base := base) T
  have G__law_data_row := ok__law_data_row (P := P) (w := w) (base := base) T
  have G__law_last_row := ok__law_last_row (P := P) (w := w) (base := base) T
  refine fn_bag T.F__law_piece_model sc__law_piece_model (fun ds h => ?_) (fun cdv A outer s H E hr => ⟨_, (pss_cons (ps_set (i := 4) sc__law_piece_model.nd rfl (Or.inl rfl) (pe_call G__law_of (hr.mono (by decide)) (by rfl) T.m__law_of T.k__law_of T.b__law_of .nil pass0 (pa_cons (pv 0) (pa_cons (pe_lst (pa_cons pe_str (pa_cons pe_str (pa_cons pe_str pa_nil)))) pa_nil))))
      (pss_cons (ps_set (i := 5) sc__law_piece_model.nd rfl (Or.inl rfl) (pe_op (op_plus (K := K)) (pe_lst (pa_cons pe_str (pa_cons pe_str (pa_cons pe_str pa_nil)))) (pe_ifExp (pt_cmpR (op_eqA (K := K) hr.units) (pv 4) pe_str (nomark _)) (pe_lst (pa_cons pe_str pa_nil)) (pe_lst pa_nil))))
      (pss_cons (ps_if (pt_cmpR (op_eqA (K := K) hr.units) (pv 4) pe_str (nomark _)) (pss_one (ps_set (i := 6) sc__law_piece_model.nd rfl (Or.inl rfl) (pe_op (op_plus (K := K)) (pe_lc (own := [("_law_k", 7)]) (g := gName 7) rfl sc__law_piece_model.nd (pi_range1 (by rfl) T.n_range (pa_cons (pe_call G__law_draw (hr.mono (by decide)) (by rfl) T.m__law_draw T.k__law_draw T.b__law_draw .nil pass0 (pa_cons (pv 0) (pa_cons (pe_op (op_plus (K := K)) (pv 3) pe_int) pa_nil))) pa_nil)) (blkOk_by (N := ["_law_bag_here", "_law_title", "_law_titles_here", "_law_most", "_law_side", "_law_scopes", "_law_lot", "_law_k"]) (sc := defScope s__law_piece_model) (by decide +kernel)) (fun _ _ _ _ _ => (pg_name (i := 7) sc__law_piece_model.nd rfl (Or.inl rfl))) (fun _ _ _ _ _ => pts_nil) (fun _ _ _ _ _ => (pe_call G__law_code_row (hr.mono (by decide)) (by rfl) T.m__law_code_row T.k__law_code_row T.b__law_code_row .nil pass0 (pa_cons (pv 0) (pa_cons (pv 2) pa_nil))))) (pe_lst (pa_cons (pe_call G__law_last_row (hr.mono (by decide)) (by rfl) T.m__law_last_row T.k__law_last_row T.b__law_last_row .nil pass0 (pa_cons (pv 0) (pa_cons (pv 2) pa_nil))) pa_nil))))) (pss_one (ps_setLc (i := 6) (own := [("_law_k", 7)]) (g := gName 7) rfl sc__law_piece_model.nd rfl rfl (sw_true rfl rfl rfl (by decide +kernel)) (pi_range1 (by rfl) T.n_range (pa_cons (pe_call G__law_draw (hr.mono (by decide)) (by rfl) T.m__law_draw T.k__law_draw T.b__law_draw .nil pass0 (pa_cons (pv 0) (pa_cons (pe_op (op_plus (K := K)) (pv 3) pe_int) pa_nil))) pa_nil)) (blkOk_by (N := ["_law_bag_here", "_law_title", "_law_titles_here", "_law_most", "_law_side", "_law_scopes", "_law_lot", "_law_k"]) (sc := defScope s__law_piece_model) (by decide +kernel)) (fun _ _ _ _ _ => (pg_name (i := 7) sc__law_piece_model.nd rfl (Or.inl rfl))) (fun _ _ _ _ _ => pts_nil) (fun _ _ _ _ _ => (pe_call G__law_data_row (hr.mono (by decide)) (by rfl) T.m__law_data_row T.k__law_data_row T.b__law_data_row .nil pass0 (pa_cons (pv 0) (pa_cons (pv 2) pa_nil)))))))
      (pss_one (ps_ret (pe_tup (pa_cons (pv 1) (pa_cons (pv 4) (pa_cons (pv 6) (pa_cons (pe_call G__law_of (hr.mono (by decide)) (by rfl) T.m__law_of T.k__law_of T.b__law_of .nil pass0 (pa_cons (pv 0) (pa_cons (pe_lst (pa_cons pe_int (pa_cons pe_int (pa_cons pe_int (pa_cons pe_int (pa_cons pe_int (pa_cons pe_int pa_nil))))))) pa_nil))) (pa_cons (pe_call G__law_of (hr.mono (by decide)) (by rfl) T.m__law_of T.k__law_of T.b__law_of .nil pass0 (pa_cons (pv 0) (pa_cons (pv 5) pa_nil))) (pa_cons (pe_cmpR (op_eqA (K := K) hr.units) (pe_call G__law_draw (hr.mono (by decide)) (by rfl) T.m__law_draw T.k__law_draw T.b__law_draw .nil pass0 (pa_cons (pv 0) (pa_cons pe_int pa_nil))) pe_int (nomark _)) pa_nil)))))))))))), fun F0 H0 b ds h => ?_⟩)
  · obtain ⟨t, x, k, rfl, _⟩ := h; rfl
  obtain ⟨t, x, k, rfl, ht, hx, k0, k1⟩ := h
  dsimp only [cxOf, env0, env1, List.map, List.length, List.replicate, List.cons_append, List.nil_append, List.append, Nat.reduceAdd, Nat.reduceSub, Nat.zero_add]
  refine sm_seq (sm_set ?_)
  repeat walk_at "yx"
  refine of_k ⟨by decide, by decide⟩ fun sd hsd => ?_
  obtain ⟨side, rfl, hside⟩ : ∃ z : Str, sd = .str z ∧ (z = "code" ∨ z = "data") := by
    simp only [List.mem_cons, List.not_mem_nil, or_false] at hsd
    rcases hsd with rfl | rfl | rfl
    · exact ⟨_, rfl, .inl rfl⟩
    · exact ⟨_, rfl, .inl rfl⟩
    · exact ⟨_, rfl, .inr rfl⟩
  refine sm_seq (sm_set (ev_op (ev_lst (ea_cons (ev_str (ea_cons (ev_str (ea_cons (ev_str (ea_nil ⟨by show 3 ≤ 100000; decide, ?_⟩)))))))))) 
  refine Ev.imp (P := fun d => ∃ more : List Str, d = .lst (more.map Dt.str) ∧ more.length ≤ 1 ∧ (∀ z ∈ more, z = "open" ∧ side = "code")) ?_ ?_
  · refine ev_if ?_
    repeat walk_at "yx"
    refine ways (fun h => ?_) (fun h => ?_)
    · have h : side = "code" := of_decide_eq_true h
      repeat walk_at "yx"
      exact ⟨["open"], rfl, by decide, fun z hz => ⟨by simpa using hz, h⟩⟩
    · repeat walk_at "yx"
      exact ⟨[], rfl, by decide, fun z hz => by cases hz⟩
  rintro _ ⟨more, rfl, hml, hmore⟩
  refine o_plusL (by rw [List.length_map]; show 3 + _ ≤ _; omega) ?_
  refine sm_cut (fun e => ∃ rows s7, rowsOk side rows ∧ e = [.r (.ref b), .d (.str t), .d x, .d (.int k), .d (.str side), .d (.lst ([.str "local", .str "export", .str "weak"] ++ more.map Dt.str)), .d (.lst rows), s7]) ?_ ?_
  · refine sm_if ?_
    repeat walk_at "yx"
    refine ways (fun h => ?_) (fun h => ?_)
    · have h : side = "code" := of_decide_eq_true h
      refine sm_set (ev_op (EvO.ev (eo_map (ei_rng1 (ea_cons ?_)))))
      repeat walk_at "yx"
      refine draw_k ⟨by omega, by omega⟩ fun n n0 n1 => ?_
      refine ea_nil ⟨n, rfl, by omega, by omega, by rw [rangeD_len]; omega, fun _ y => codeRow y = true, fun i y hy => ?_, fun ys hl hall => ?_⟩
      · refine tc_name ?_
        repeat walk_at "yx"
        exact code_k2 hx fun d q1 q2 => q1
      · rw [rangeD_len] at hl
        have hc := map_all (p := codeRow) (ys := ys) (xs := rangeD 0 n.toNat) (by rw [rangeD_len]; exact hl) hall
        repeat walk_at "yx"
        refine last_k hx fun d d1 d2 => ?_
        repeat walk_at "yx"
        refine o_plusL (by show _ + 1 ≤ _; omega) ?_
        refine ⟨ys ++ [d], _, ⟨by rw [List.length_append]; show _ + 1 ≤ _; omega, fun r hr => ?_, fun _ => ⟨ys, d, rfl, d2⟩⟩, rfl⟩
        rw [rowFor, if_pos h]
        rcases List.mem_append.mp hr with hr | hr
        · exact hc r hr
        · rw [List.mem_singleton.mp hr]; exact d1
    · have h : ¬ side = "code" := of_decide_eq_false h
      refine sm_set (EvO.ev (eo_map (ei_rng1 (ea_cons ?_))))
      repeat walk_at "yx"
      refine draw_k ⟨by omega, by omega⟩ fun n n0 n1 => ?_
      refine ea_nil ⟨n, rfl, by omega, by omega, by rw [rangeD_len]; omega, fun _ y => dataRow y = true, fun i y hy => ?_, fun ys hl hall => ?_⟩
      · refine tc_name ?_
        repeat walk_at "yx"
        exact data_k2 hx fun d q1 q2 => q1
      · rw [rangeD_len] at hl
        have hc := map_all (p := dataRow) (ys := ys) (xs := rangeD 0 n.toNat) (by rw [rangeD_len]; exact hl) hall
        refine ⟨ys, _, ⟨by omega, fun r hr => ?_, fun q => absurd q h⟩, rfl⟩
        rw [rowFor, if_neg h]
        exact hc r hr
  · rintro es' ⟨rows, s7, hrows, rfl⟩
    refine sm_ret (ev_tup ?_)
    repeat walk_at "yx"
    refine of_k ⟨by decide, by decide⟩ fun al0 hal0 => ?_
    repeat walk_at "yx"
    refine of_k ⟨by rw [List.length_append]; show 0 < 3 + _; omega, by rw [List.length_append, List.length_map]; show 3 + _ ≤ _; omega⟩ fun sc0 hsc0 => ?_
    obtain ⟨al, rfl, hal⟩ : ∃ i : Int, al0 = .int i ∧ i ∈ alsL := by
      simp only [List.mem_cons, List.not_mem_nil, or_false] at hal0
      rcases hal0 with rfl | rfl | rfl | rfl | rfl | rfl <;> exact ⟨_, rfl, by decide⟩
    obtain ⟨sc, rfl, hsc, hop⟩ : ∃ z : Str, sc0 = .str z ∧ z ∈ scopesL ∧ (side = "data" → z ≠ "open") := by
      rcases List.mem_append.mp hsc0 with hsc | hsc
      · simp only [List.mem_cons, List.not_mem_nil, or_false] at hsc
        rcases hsc with rfl | rfl | rfl <;> exact ⟨_, rfl, by decide +kernel, fun _ => by decide +kernel⟩
      · obtain ⟨z, hz, rfl⟩ := List.mem_map.mp hsc
        obtain ⟨rfl, q⟩ := hmore z hz
        exact ⟨_, rfl, by decide +kernel, fun e => by rw [q] at e; exact absurd e (by decide +kernel)⟩
    repeat walk_at "yx"
    refine draw_k ⟨by decide, by decide⟩ fun kp q1 q2 => ?_
    repeat walk_at "yx"
    exact ⟨⟨t, side, rows, al, sc, decide (kp = 0)⟩, ⟨ht, hside, hrows, hal, hsc, hop⟩, fun t' x' k' e => by cases e; rfl, rfl⟩
end
end Law
namespace Law
open PySem L2 Y
local macro_rules | `(tactic| walk_at "yv") => `(tactic| ((with_reducible show Ev _ (tVar _) _ _); refine ev_var rfl ?_))
local macro_rules | `(tactic| walk_at "ys") => `(tactic| with_reducible first
  | refine sm_seq ?_ | refine sm_ret ?_ | refine sm_if ?_ | refine sm_set ?_ | refine sm_next ?_ | refine sm_par ?_ | refine sm_drop ?_ | refine sm_brk ?_ | refine sm_cont ?_)
local macro_rules | `(tactic| walk_at "ye") => `(tactic| with_reducible first
  | refine ev_op ?_ | refine ev_and ?_ | refine ev_or ?_ | refine ev_not ?_ | refine ev_if ?_ | refine ev_chain ?_ | refine ev_neg ?_ | refine ev_isInt ?_ | refine ev_isBool ?_ | refine ev_isStr ?_ | refine ev_isList ?_ | refine ev_isTuple ?_ | refine ev_isLT ?_ | refine ev_isDict ?_
  | refine ev_int ?_ | refine ev_str ?_ | refine ev_bl ?_ | refine ev_non ?_ | refine ev_call ?_ | refine ev_cb ?_ | refine ev_lst ?_ | refine ev_tup ?_ | refine ev_join ?_
  | refine ea_nil ?_ | refine ea_cons ?_
  | refine et_B ?_ | refine et_test ?_ | refine et_not ?_ | refine et_and ?_ | refine et_or ?_ | refine et_yes ?_
  | refine o_plusI ?_ | refine o_i0 ?_ | refine o_b0 ?_ | refine o_isN ?_ | refine o_notN ?_
  | refine bl_ex ?_ | refine int_ex ?_ | refine str_ex ?_ | refine lst_ex ?_ | refine tup_ex ?_)
local macro_rules | `(tactic| walk_at "yo") => `(tactic| first
  | ((with_reducible show Ev _ (tOp (rIx _) (tVar _) _) _ _); refine ev_ixOwn rfl ?_)
  | ((with_reducible show Ev _ (tCB _ (tCons (tVar _) tNil)) _ _); refine ev_lenOwn rfl ?_)
  | ((with_reducible show Sm _ (tAsg _ (gSub (tVar _) _ _)) _ _); refine sm_setItem rfl ?_)
  | ((with_reducible show Ev _ (tCall (spB _ _ _) _ _ _) _ _); refine ev_callB rfl rfl ?_))
local macro_rules | `(tactic| walk_at "yc") => `(tactic| first
  | ((with_reducible show CMul _ _); first | exact Or.inr ⟨by decide, by decide⟩ | exact Or.inl ⟨by decide, by decide⟩ | exact Or.inr ⟨by omega, by omega⟩ | exact Or.inl ⟨by omega, by omega⟩)
  | ((with_reducible show CDiv _ _); exact ⟨by first | decide | omega, by first | decide | omega⟩)
  | ((with_reducible show CPow _ _); exact ⟨by decide, by decide, by first | decide | omega⟩)
  | ((show (0 : Int) < _); first | decide | omega))
local macro_rules | `(tactic| walk_at "yd") => `(tactic| first
  | ((with_reducible show plainD _ = true ∧ _); refine ⟨by first | rfl | assumption, ?_⟩)
  | ((with_reducible show (_ = true → _) ∧ (_ = false → _)); first | refine way_t rfl ?_ | refine way_f rfl ?_ | refine way_t (by decide +kernel) ?_ | refine way_f (by decide +kernel) ?_)
  | ((with_reducible show Cal _ _ _ _ _); first | (with_reducible refine c_int ?_) | (with_reducible refine c_abs ?_) | (refine c_len rfl ?_) | (refine c_len (if_pos (by assumption)) ?_))
  | ((with_reducible show Op2 _ (rEqA _) _ _ _ _); refine o_eqA rfl ?_)
  | ((with_reducible show Op2 _ (rNeA _) _ _ _ _); refine o_neA rfl ?_)
  | ((with_reducible show Op2 _ (rInA _) _ (Dt.str _) (Dt.lst _) _); refine o_inAL rfl rfl ?_)
  | ((with_reducible show Op2 _ (rInA _) _ (Dt.str _) (Dt.tup _) _); refine o_inAT rfl rfl ?_)
  | ((with_reducible show Op2 _ (rI _ _) _ _ _ _); refine o_i (by walk_at "yc") ?_)
  | ((with_reducible show Op2 _ (rIx _) _ (Dt.tup _) _ _); refine o_ixAT (atI_toNat (by decide) rfl) ?_)
  | ((with_reducible show Op2 _ (rIx _) _ (Dt.lst _) _ _); refine o_ixAL (atI_toNat (by decide) rfl) ?_)
  | ((with_reducible show ∃ x, atI _ _ = some x ∧ _); refine ⟨_, rfl, ?_⟩)
  | ((with_reducible show ∃ x, ixN _ _ = some x ∧ _); refine ⟨_, rfl, ?_⟩)
  | ((with_reducible show List.length _ ≤ 100000 ∧ _); refine ⟨by (try simp only [List.length_cons, List.length_nil]); first | decide | omega, ?_⟩))
local macro_rules | `(tactic| walk_at "y") => `(tactic| first | walk_at "yo" | walk_at "ye" | walk_at "yv" | walk_at "ys" | walk_at "yd")
local macro_rules | `(tactic| walk_at "yx") => `(tactic| first | walk_at "yo" | walk_at "ye" | walk_at "yv" | walk_at "yd")
def xmk_InvalidName {α : Type} (s : Str → α) : List α → List (Str × α)
  | [v0] => [("value", v0), ("code", s "InvalidName")]
  | _ => []
theorem xrel_InvalidName {K : PySem.W.Frag} : ∀ (F : Hp) (vs : List V) (ds : List Dt), vs.length = 1 → RpAll K F vs ds → RpF K F (xmk_InvalidName V.str vs) (xmk_InvalidName Dt.str ds) := by
  intro F vs ds hl h
  cases h with
  | nil => simp at hl
  | cons r0 t0 =>
    cases t0 with
    | cons _ _ => simp at hl
    | nil => exact ⟨rfl, (.cons r0 (.cons (.str _) .nil))⟩
def xmk_InvalidPart {α : Type} (s : Str → α) : List α → List (Str × α)
  | [v0] => [("value", v0), ("code", s "InvalidPart")]
  | _ => []
theorem xrel_InvalidPart {K : PySem.W.Frag} : ∀ (F : Hp) (vs : List V) (ds : List Dt), vs.length = 1 → RpAll K F vs ds → RpF K F (xmk_InvalidPart V.str vs) (xmk_InvalidPart Dt.str ds) := by
  intro F vs ds hl h
  cases h with
  | nil => simp at hl
  | cons r0 t0 =>
    cases t0 with
    | cons _ _ => simp at hl
    | nil => exact ⟨rfl, (.cons r0 (.cons (.str _) .nil))⟩
def xmk_InvalidAlignment {α : Type} (s : Str → α) : List α → List (Str × α)
  | [v0] => [("value", v0), ("code", s "InvalidAlignment")]
  | _ => []
theorem xrel_InvalidAlignment {K : PySem.W.Frag} : ∀ (F : Hp) (vs : List V) (ds : List Dt), vs.length = 1 → RpAll K F vs ds → RpF K F (xmk_InvalidAlignment V.str vs) (xmk_InvalidAlignment Dt.str ds) := by
  intro F vs ds hl h
  cases h with
  | nil => simp at hl
  | cons r0 t0 =>
    cases t0 with
    | cons _ _ => simp at hl
    | nil => exact ⟨rfl, (.cons r0 (.cons (.str _) .nil))⟩
def xmk_InvalidScope {α : Type} (s : Str → α) : List α → List (Str × α)
  | [v0] => [("value", v0), ("code", s "InvalidScope")]
  | _ => []
theorem xrel_InvalidScope {K : PySem.W.Frag} : ∀ (F : Hp) (vs : List V) (ds : List Dt), vs.length = 1 → RpAll K F vs ds → RpF K F (xmk_InvalidScope V.str vs) (xmk_InvalidScope Dt.str ds) := by
  intro F vs ds hl h
  cases h with
  | nil => simp at hl
  | cons r0 t0 =>
    cases t0 with
    | cons _ _ => simp at hl
    | nil => exact ⟨rfl, (.cons r0 (.cons (.str _) .nil))⟩
def xmk_InvalidRow {α : Type} (s : Str → α) : List α → List (Str × α)
  | [v0] => [("at", v0), ("code", s "InvalidRow")]
  | _ => []
theorem xrel_InvalidRow {K : PySem.W.Frag} : ∀ (F : Hp) (vs : List V) (ds : List Dt), vs.length = 1 → RpAll K F vs ds → RpF K F (xmk_InvalidRow V.str vs) (xmk_InvalidRow Dt.str ds) := by
  intro F vs ds hl h
  cases h with
  | nil => simp at hl
  | cons r0 t0 =>
    cases t0 with
    | cons _ _ => simp at hl
    | nil => exact ⟨rfl, (.cons r0 (.cons (.str _) .nil))⟩
def xmk_NotClosing {α : Type} (s : Str → α) : List α → List (Str × α)
  | [] => [("code", s "NotClosing")]
  | _ => []
theorem xrel_NotClosing {K : PySem.W.Frag} : ∀ (F : Hp) (vs : List V) (ds : List Dt), vs.length = 0 → RpAll K F vs ds → RpF K F (xmk_NotClosing V.str vs) (xmk_NotClosing Dt.str ds) := by
  intro F vs ds hl h
  cases h with
  | cons _ _ => simp at hl
  | nil => exact ⟨rfl, (.cons (.str _) .nil)⟩
def xmk_TooMany {α : Type} (s : Str → α) : List α → List (Str × α)
  | [v0] => [("most", v0), ("code", s "TooMany")]
  | _ => []
theorem xrel_TooMany {K : PySem.W.Frag} : ∀ (F : Hp) (vs : List V) (ds : List Dt), vs.length = 1 → RpAll K F vs ds → RpF K F (xmk_TooMany V.str vs) (xmk_TooMany Dt.str ds) := by
  intro F vs ds hl h
  cases h with
  | nil => simp at hl
  | cons r0 t0 =>
    cases t0 with
    | cons _ _ => simp at hl
    | nil => exact ⟨rfl, (.cons r0 (.cons (.str _) .nil))⟩
section
variable {P : Program} {w : World} {K : PySem.W.Frag} {mg : Str → Option Value} {base : Heap}
theorem ok_InvalidName___init__ (T : Tx K mg w) : FnOk P w K mg base CX0 1 T.a_InvalidName___init__ T.d_InvalidName___init__ ["self", "value"] (spXI T.a_InvalidName (xmk_InvalidName V.str) 1) := by
  refine T.F_InvalidName___init__.ok sc_InvalidName___init__ (fun vs H Q E h => ?_) (fun cdv A outer s H vs Q E hr h => ?_)
  · obtain ⟨a, ws, rfl, hl, _⟩ := h
    rw [List.length_cons, hl]; rfl
  · obtain ⟨a, ws, rfl, hl, ha, q⟩ := h
    match ws, hl, q with
    | [v0], _, q =>
      refine ⟨_, (pss_cons (ps_ost (pv 0) pe_str) (pss_one (ps_ost (pv 0) (pv 1)))), ?_⟩
      exact ⟨.ref a, rfl, a, T.a_InvalidName, rfl, T.oe_InvalidName, T.no_InvalidName_code, .inl ⟨ha, fun dx hdx hne => ⟨v0, rfl, ⟨.ref a, rfl, a, T.a_InvalidName, rfl, T.oe_InvalidName, T.no_InvalidName_value, .inr ⟨dx, _, (by first | (simp [upd, hne, Ne.symm hne]; done) | (simp [upd, hne, Ne.symm hne]; rfl)), (by first | (simp [upd, hne, Ne.symm hne]; done) | (simp [upd, hne, Ne.symm hne]; rfl)), by simp, q dx _ hdx hne (by simp [upd, Ne.symm hne]) (by simp [upd, hne, xmk_InvalidName]) (fun c h1 h2 => by simp [upd, h1, h2])⟩⟩⟩⟩⟩
theorem ok_InvalidPart___init__ (T : Tx K mg w) : FnOk P w K mg base CX0 1 T.a_InvalidPart___init__ T.d_InvalidPart___init__ ["self", "value"] (spXI T.a_InvalidPart (xmk_InvalidPart V.str) 1) := by
  refine T.F_InvalidPart___init__.ok sc_InvalidPart___init__ (fun vs H Q E h => ?_) (fun cdv A outer s H vs Q E hr h => ?_)
  · obtain ⟨a, ws, rfl, hl, _⟩ := h
    rw [List.length_cons, hl]; rfl
  · obtain ⟨a, ws, rfl, hl, ha, q⟩ := h
    match ws, hl, q with
    | [v0], _, q =>
      refine ⟨_, (pss_cons (ps_ost (pv 0) pe_str) (pss_one (ps_ost (pv 0) (pv 1)))), ?_⟩
      exact ⟨.ref a, rfl, a, T.a_InvalidPart, rfl, T.oe_InvalidPart, T.no_InvalidPart_code, .inl ⟨ha, fun dx hdx hne => ⟨v0, rfl, ⟨.ref a, rfl, a, T.a_InvalidPart, rfl, T.oe_InvalidPart, T.no_InvalidPart_value, .inr ⟨dx, _, (by first | (simp [upd, hne, Ne.symm hne]; done) | (simp [upd, hne, Ne.symm hne]; rfl)), (by first | (simp [upd, hne, Ne.symm hne]; done) | (simp [upd, hne, Ne.symm hne]; rfl)), by simp, q dx _ hdx hne (by simp [upd, Ne.symm hne]) (by simp [upd, hne, xmk_InvalidPart]) (fun c h1 h2 => by simp [upd, h1, h2])⟩⟩⟩⟩⟩
theorem ok_InvalidAlignment___init__ (T : Tx K mg w) : FnOk P w K mg base CX0 1 T.a_InvalidAlignment___init__ T.d_InvalidAlignment___init__ ["self", "value"] (spXI T.a_InvalidAlignment (xmk_InvalidAlignment V.str) 1) := by
  refine T.F_InvalidAlignment___init__.ok sc_InvalidAlignment___init__ (fun vs H Q E h => ?_) (fun cdv A outer s H vs Q E hr h => ?_)
  · obtain ⟨a, ws, rfl, hl, _⟩ := h
    rw [List.length_cons, hl]; rfl
  · obtain ⟨a, ws, rfl, hl, ha, q⟩ := h
    match ws, hl, q with
    | [v0], _, q =>
      refine ⟨_, (pss_cons (ps_ost (pv 0) pe_str) (pss_one (ps_ost (pv 0) (pv 1)))), ?_⟩
      exact ⟨.ref a, rfl, a, T.a_InvalidAlignment, rfl, T.oe_InvalidAlignment, T.no_InvalidAlignment_code, .inl ⟨ha, fun dx hdx hne => ⟨v0, rfl, ⟨.ref a, rfl, a, T.a_InvalidAlignment, rfl, T.oe_InvalidAlignment, T.no_InvalidAlignment_value, .inr ⟨dx, _, (by first | (simp [upd, hne, Ne.symm hne]; done) | (simp [upd, hne, Ne.symm hne]; rfl)), (by first | (simp [upd, hne, Ne.symm hne]; done) | (simp [upd, hne, Ne.symm hne]; rfl)), by simp, q dx _ hdx hne (by simp [upd, Ne.symm hne]) (by simp [upd, hne, xmk_InvalidAlignment]) (fun c h1 h2 => by simp [upd, h1, h2])⟩⟩⟩⟩⟩
theorem ok_InvalidScope___init__ (T : Tx K mg w) : FnOk P w K mg base CX0 1 T.a_InvalidScope___init__ T.d_InvalidScope___init__ ["self", "value"] (spXI T.a_InvalidScope (xmk_InvalidScope V.str) 1) := by
  refine T.F_InvalidScope___init__.ok sc_InvalidScope___init__ (fun vs H Q E h => ?_) (fun cdv A outer s H vs Q E hr h => ?_)
  · obtain ⟨a, ws, rfl, hl, _⟩ := h
    rw [List.length_cons, hl]; rfl
  · obtain ⟨a, ws, rfl, hl, ha, q⟩ := h
    match ws, hl, q with
    | [v0], _, q =>
      refine ⟨_, (pss_cons (ps_ost (pv 0) pe_str) (pss_one (ps_ost (pv 0) (pv 1)))), ?_⟩
      exact ⟨.ref a, rfl, a, T.a_InvalidScope, rfl, T.oe_InvalidScope, T.no_InvalidScope_code, .inl ⟨ha, fun dx hdx hne => ⟨v0, rfl, ⟨.ref a, rfl, a, T.a_InvalidScope, rfl, T.oe_InvalidScope, T.no_InvalidScope_value, .inr ⟨dx, _, (by first | (simp [upd, hne, Ne.symm hne]; done) | (simp [upd, hne, Ne.symm hne]; rfl)), (by first | (simp [upd, hne, Ne.symm hne]; done) | (simp [upd, hne, Ne.symm hne]; rfl)), by simp, q dx _ hdx hne (by simp [upd, Ne.symm hne]) (by simp [upd, hne, xmk_InvalidScope]) (fun c h1 h2 => by simp [upd, h1, h2])⟩⟩⟩⟩⟩
theorem ok_InvalidRow___init__ (T : Tx K mg w) : FnOk P w K mg base CX0 1 T.a_InvalidRow___init__ T.d_InvalidRow___init__ ["self", "at"] (spXI T.a_InvalidRow (xmk_InvalidRow V.str) 1) := by
  refine T.F_InvalidRow___init__.ok sc_InvalidRow___init__ (fun vs H Q E h => ?_) (fun cdv A outer s H vs Q E hr h => ?_)
  · obtain ⟨a, ws, rfl, hl, _⟩ := h
    rw [List.length_cons, hl]; rfl
  · obtain ⟨a, ws, rfl, hl, ha, q⟩ := h
    match ws, hl, q with
    | [v0], _, q =>
      refine ⟨_, (pss_cons (ps_ost (pv 0) pe_str) (pss_one (ps_ost (pv 0) (pv 1)))), ?_⟩
      exact ⟨.ref a, rfl, a, T.a_InvalidRow, rfl, T.oe_InvalidRow, T.no_InvalidRow_code, .inl ⟨ha, fun dx hdx hne => ⟨v0, rfl, ⟨.ref a, rfl, a, T.a_InvalidRow, rfl, T.oe_InvalidRow, T.no_InvalidRow_at, .inr ⟨dx, _, (by first | (simp [upd, hne, Ne.symm hne]; done) | (simp [upd, hne, Ne.symm hne]; rfl)), (by first | (simp [upd, hne, Ne.symm hne]; done) | (simp [upd, hne, Ne.symm hne]; rfl)), by simp, q dx _ hdx hne (by simp [upd, Ne.symm hne]) (by simp [upd, hne, xmk_InvalidRow]) (fun c h1 h2 => by simp [upd, h1, h2])⟩⟩⟩⟩⟩
theorem ok_NotClosing___init__ (T : Tx K mg w) : FnOk P w K mg base CX0 1 T.a_NotClosing___init__ T.d_NotClosing___init__ ["self"] (spXI T.a_NotClosing (xmk_NotClosing V.str) 0) := by
  refine T.F_NotClosing___init__.ok sc_NotClosing___init__ (fun vs H Q E h => ?_) (fun cdv A outer s H vs Q E hr h => ?_)
  · obtain ⟨a, ws, rfl, hl, _⟩ := h
    rw [List.length_cons, hl]; rfl
  · obtain ⟨a, ws, rfl, hl, ha, q⟩ := h
    match ws, hl, q with
    | [], _, q =>
      refine ⟨_, (pss_one (ps_ost (pv 0) pe_str)), ?_⟩
      exact ⟨.ref a, rfl, a, T.a_NotClosing, rfl, T.oe_NotClosing, T.no_NotClosing_code, .inl ⟨ha, fun dx hdx hne => q dx _ hdx hne (by simp [upd, Ne.symm hne]) (by simp [upd, hne, xmk_NotClosing]) (fun c h1 h2 => by simp [upd, h1, h2])⟩⟩
theorem ok_TooMany___init__ (T : Tx K mg w) : FnOk P w K mg base CX0 1 T.a_TooMany___init__ T.d_TooMany___init__ ["self", "most"] (spXI T.a_TooMany (xmk_TooMany V.str) 1) := by
  refine T.F_TooMany___init__.ok sc_TooMany___init__ (fun vs H Q E h => ?_) (fun cdv A outer s H vs Q E hr h => ?_)
  · obtain ⟨a, ws, rfl, hl, _⟩ := h
    rw [List.length_cons, hl]; rfl
  · obtain ⟨a, ws, rfl, hl, ha, q⟩ := h
    match ws, hl, q with
    | [v0], _, q =>
      refine ⟨_, (pss_cons (ps_ost (pv 0) pe_str) (pss_one (ps_ost (pv 0) (pv 1)))), ?_⟩
      exact ⟨.ref a, rfl, a, T.a_TooMany, rfl, T.oe_TooMany, T.no_TooMany_code, .inl ⟨ha, fun dx hdx hne => ⟨v0, rfl, ⟨.ref a, rfl, a, T.a_TooMany, rfl, T.oe_TooMany, T.no_TooMany_most, .inr ⟨dx, _, (by first | (simp [upd, hne, Ne.symm hne]; done) | (simp [upd, hne, Ne.symm hne]; rfl)), (by first | (simp [upd, hne, Ne.symm hne]; done) | (simp [upd, hne, Ne.symm hne]; rfl)), by simp, q dx _ hdx hne (by simp [upd, Ne.symm hne]) (by simp [upd, hne, xmk_TooMany]) (fun c h1 h2 => by simp [upd, h1, h2])⟩⟩⟩⟩⟩

theorem ok__law_field (T : Tx K mg w) : FnE P w K mg base 1 T.a__law_field T.d__law_field ["_law_e"] (spField K T.a_ImageError T.a_Missing) := by
  refine fn_field T.F__law_field sc__law_field (fun cdv A outer s H E p C dd hz hf hr => ⟨_, (pss_cons (ps_if (pt_cmpR (op_inA (K := K)) (pe_xfA List.mem_cons_self hz hf (pv 0)) (pe_lst (pa_cons pe_str (pa_cons pe_str (pa_cons pe_str (pa_cons pe_str (pa_cons pe_str pa_nil)))))) (by rfl)) (pss_one (ps_ret (pe_tup (pa_cons (pe_xfA List.mem_cons_self hz hf (pv 0)) pa_nil)))) pss_nil)
      (pss_cons (ps_if (pt_cmpR (op_inA (K := K)) (pe_xfA List.mem_cons_self hz hf (pv 0)) (pe_lst (pa_cons pe_str (pa_cons pe_str pa_nil))) (by rfl)) (pss_one (ps_ret (pe_tup (pa_cons (pe_xfA List.mem_cons_self hz hf (pv 0)) pa_nil)))) pss_nil)
      (pss_cons (ps_if (pt_cmpR (op_eqA (K := K) hr.units) (pe_xfA List.mem_cons_self hz hf (pv 0)) pe_str (nomark _)) (pss_one (ps_ret (pe_tup (pa_cons (pe_xfA List.mem_cons_self hz hf (pv 0)) (pa_cons (pe_xfA List.mem_cons_self hz hf (pv 0)) (pa_cons (pe_xfA List.mem_cons_self hz hf (pv 0)) pa_nil)))))) pss_nil)
      (pss_cons (ps_if (pt_cmpR (op_eqA (K := K) hr.units) (pe_xfA List.mem_cons_self hz hf (pv 0)) pe_str (nomark _)) (pss_one (ps_ret (pe_tup (pa_cons (pe_xfA List.mem_cons_self hz hf (pv 0)) (pa_cons (pe_xfA List.mem_cons_self hz hf (pv 0)) pa_nil))))) pss_nil)
      (pss_cons (ps_if (pt_cmpR (op_eqA (K := K) hr.units) (pe_xfA List.mem_cons_self hz hf (pv 0)) pe_str (nomark _)) (pss_one (ps_ret (pe_tup (pa_cons (pe_xfA List.mem_cons_self hz hf (pv 0)) pa_nil)))) pss_nil)
      (pss_cons (ps_if (pt_cmpR (op_eqA (K := K) hr.units) (pe_xfA List.mem_cons_self hz hf (pv 0)) pe_str (nomark _)) (pss_one (ps_ret (pe_tup (pa_cons (pe_xfA List.mem_cons_self hz hf (pv 0)) pa_nil)))) pss_nil)
      (pss_cons (ps_if (pt_cmpR (op_eqA (K := K) hr.units) (pe_xfA List.mem_cons_self hz hf (pv 0)) pe_str (nomark _)) (pss_one (ps_ret (pe_tup (pa_cons (pe_xfA List.mem_cons_self hz hf (pv 0)) pa_nil)))) pss_nil)
      (pss_one (ps_ret (pe_ifExp (pt_cmpR (op_eqA (K := K) hr.units) (pe_xfA List.mem_cons_self hz hf (pv 0)) pe_str (nomark _)) (pe_tup pa_nil) (pe_tup (pa_cons (pe_xfA List.mem_cons_self hz hf (pv 0)) pa_nil)))))))))))), fun F0 H0 fs fds code xs hF hR hD => ?_⟩)
  dsimp only [cxOf, env0, env1, List.map, List.length, List.replicate, List.cons_append, List.nil_append, List.append, Nat.reduceAdd, Nat.reduceSub, Nat.zero_add]
  have fld := hD.fld
  unfold fieldOf at fld
  refine sm_seq (sm_if (et_test (ev_op (ev_xfA rfl hD.xf hD.no hF hR hD.cd ?_))))
  repeat walk_at "yx"
  refine ways (fun h => ?_) (fun h => ?_)
  · rw [h, if_pos rfl] at fld
    obtain ⟨x, hx, rfl⟩ := opt_map fld
    refine sm_ret (ev_tup (ea_cons (ev_xfA rfl hD.xf hD.no hF hR hx (ea_nil ⟨by simp, rfl⟩))))
  rw [h, if_neg (by decide)] at fld
  refine sm_next ?_
  refine sm_seq (sm_if (et_test (ev_op (ev_xfA rfl hD.xf hD.no hF hR hD.cd ?_))))
  repeat walk_at "yx"
  refine ways (fun h => ?_) (fun h => ?_)
  · rw [h, if_pos rfl] at fld
    obtain ⟨x, hx, rfl⟩ := opt_map fld
    refine sm_ret (ev_tup (ea_cons (ev_xfA rfl hD.xf hD.no hF hR hx (ea_nil ⟨by simp, rfl⟩))))
  rw [h, if_neg (by decide)] at fld
  refine sm_next ?_
  refine sm_seq (sm_if (et_test (ev_op (ev_xfA rfl hD.xf hD.no hF hR hD.cd ?_))))
  repeat walk_at "yx"
  refine ways (fun h => ?_) (fun h => ?_)
  · rw [if_pos (of_decide_eq_true h)] at fld
    split at fld
    · rename_i x y z hx hy hz'
      cases fld
      refine sm_ret (ev_tup (ea_cons (ev_xfA rfl hD.xf hD.no hF hR hx (ea_cons (ev_xfA rfl hD.xf hD.no hF hR hy (ea_cons (ev_xfA rfl hD.xf hD.no hF hR hz' (ea_nil ⟨by simp, rfl⟩))))))))
    · cases fld
  rw [if_neg (of_decide_eq_false h)] at fld
  refine sm_next ?_
  refine sm_seq (sm_if (et_test (ev_op (ev_xfA rfl hD.xf hD.no hF hR hD.cd ?_))))
  repeat walk_at "yx"
  refine ways (fun h => ?_) (fun h => ?_)
  · rw [if_pos (of_decide_eq_true h)] at fld
    split at fld
    · rename_i x y hx hy
      cases fld
      refine sm_ret (ev_tup (ea_cons (ev_xfA rfl hD.xf hD.no hF hR hx (ea_cons (ev_xfA rfl hD.xf hD.no hF hR hy (ea_nil ⟨by simp, rfl⟩))))))
    · cases fld
  rw [if_neg (of_decide_eq_false h)] at fld
  refine sm_next ?_
  refine sm_seq (sm_if (et_test (ev_op (ev_xfA rfl hD.xf hD.no hF hR hD.cd ?_))))
  repeat walk_at "yx"
  refine ways (fun h => ?_) (fun h => ?_)
  · rw [if_pos (of_decide_eq_true h)] at fld
    obtain ⟨x, hx, rfl⟩ := opt_map fld
    refine sm_ret (ev_tup (ea_cons (ev_xfA rfl hD.xf hD.no hF hR hx (ea_nil ⟨by simp, rfl⟩))))
  rw [if_neg (of_decide_eq_false h)] at fld
  refine sm_next ?_
  refine sm_seq (sm_if (et_test (ev_op (ev_xfA rfl hD.xf hD.no hF hR hD.cd ?_))))
  repeat walk_at "yx"
  refine ways (fun h => ?_) (fun h => ?_)
  · rw [if_pos (of_decide_eq_true h)] at fld
    obtain ⟨x, hx, rfl⟩ := opt_map fld
    refine sm_ret (ev_tup (ea_cons (ev_xfA rfl hD.xf hD.no hF hR hx (ea_nil ⟨by simp, rfl⟩))))
  rw [if_neg (of_decide_eq_false h)] at fld
  refine sm_next ?_
  refine sm_seq (sm_if (et_test (ev_op (ev_xfA rfl hD.xf hD.no hF hR hD.cd ?_))))
  repeat walk_at "yx"
  refine ways (fun h => ?_) (fun h => ?_)
  · rw [if_pos (of_decide_eq_true h)] at fld
    obtain ⟨x, hx, rfl⟩ := opt_map fld
    refine sm_ret (ev_tup (ea_cons (ev_xfA rfl hD.xf hD.no hF hR hx (ea_nil ⟨by simp, rfl⟩))))
  rw [if_neg (of_decide_eq_false h)] at fld
  refine sm_next ?_
  refine sm_ret (ev_if (et_test (ev_op (ev_xfA rfl hD.xf hD.no hF hR hD.cd ?_))))
  repeat walk_at "yx"
  refine ways (fun h => ?_) (fun h => ?_)
  · rw [if_pos (of_decide_eq_true h)] at fld
    cases fld
    exact ev_tup (ea_nil ⟨by decide, rfl⟩)
  rw [if_neg (of_decide_eq_false h)] at fld
  obtain ⟨x, hx, rfl⟩ := opt_map fld
  refine ev_tup (ea_cons (ev_xfA rfl hD.xf hD.no hF hR hx (ea_nil ⟨by simp, rfl⟩)))
end
end Law
namespace Law
open PySem L2 Y
local macro_rules | `(tactic| walk_at "yv") => `(tactic| ((with_reducible show Ev _ (tVar _) _ _); refine ev_var rfl ?_))
local macro_rules | `(tactic| walk_at "ys") => `(tactic| with_reducible first
  | refine sm_seq ?_ | refine sm_ret ?_ | refine sm_if ?_ | refine sm_set ?_ | refine sm_next ?_ | refine sm_par ?_ | refine sm_drop ?_ | refine sm_brk ?_ | refine sm_cont ?_)
local macro_rules | `(tactic| walk_at "ye") => `(tactic| with_reducible first
  | refine ev_op ?_ | refine ev_and ?_ | refine ev_or ?_ | refine ev_not ?_ | refine ev_if ?_ | refine ev_chain ?_ | refine ev_neg ?_ | refine ev_isInt ?_ | refine ev_isBool ?_ | refine ev_isStr ?_ | refine ev_isList ?_ | refine ev_isTuple ?_ | refine ev_isLT ?_ | refine ev_isDict ?_
  | refine ev_int ?_ | refine ev_str ?_ | refine ev_bl ?_ | refine ev_non ?_ | refine ev_call ?_ | refine ev_cb ?_ | refine ev_lst ?_ | refine ev_tup ?_ | refine ev_join ?_
  | refine ea_nil ?_ | refine ea_cons ?_
  | refine et_B ?_ | refine et_test ?_ | refine et_not ?_ | refine et_and ?_ | refine et_or ?_ | refine et_yes ?_
  | refine o_plusI ?_ | refine o_i0 ?_ | refine o_b0 ?_ | refine o_isN ?_ | refine o_notN ?_
  | refine bl_ex ?_ | refine int_ex ?_ | refine str_ex ?_ | refine lst_ex ?_ | refine tup_ex ?_)
local macro_rules | `(tactic| walk_at "yo") => `(tactic| first
  | ((with_reducible show Ev _ (tOp (rIx _) (tVar _) _) _ _); refine ev_ixOwn rfl ?_)
  | ((with_reducible show Ev _ (tCB _ (tCons (tVar _) tNil)) _ _); refine ev_lenOwn rfl ?_)
  | ((with_reducible show Sm _ (tAsg _ (gSub (tVar _) _ _)) _ _); refine sm_setItem rfl ?_)
  | ((with_reducible show Ev _ (tCall (spB _ _ _) _ _ _) _ _); refine ev_callB rfl rfl ?_))
local macro_rules | `(tactic| walk_at "yc") => `(tactic| first
  | ((with_reducible show CMul _ _); first | exact Or.inr ⟨by decide, by decide⟩ | exact Or.inl ⟨by decide, by decide⟩ | exact Or.inr ⟨by omega, by omega⟩ | exact Or.inl ⟨by omega, by omega⟩)
  | ((with_reducible show CDiv _ _); exact ⟨by first | decide | omega, by first | decide | omega⟩)
  | ((with_reducible show CPow _ _); exact ⟨by decide, by decide, by first | decide | omega⟩)
  | ((show (0 : Int) < _); first | decide | omega))
local macro_rules | `(tactic| walk_at "yd") => `(tactic| first
  | ((with_reducible show plainD _ = true ∧ _); refine ⟨by first | rfl | assumption, ?_⟩)
  | ((with_reducible show (_ = true → _) ∧ (_ = false → _)); first | refine way_t rfl ?_ | refine way_f rfl ?_ | refine way_t (by decide +kernel) ?_ | refine way_f (by decide +kernel) ?_)
  | ((with_reducible show Cal _ _ _ _ _); first | (with_reducible refine c_int ?_) | (with_reducible refine c_abs ?_) | (refine c_len rfl ?_) | (refine c_len (if_pos (by assumption)) ?_))
  | ((with_reducible show Op2 _ (rEqA _) _ _ _ _); refine o_eqA rfl ?_)
  | ((with_reducible show Op2 _ (rNeA _) _ _ _ _); refine o_neA rfl ?_)
  | ((with_reducible show Op2 _ (rInA _) _ (Dt.str _) (Dt.lst _) _); refine o_inAL rfl rfl ?_)
  | ((with_reducible show Op2 _ (rInA _) _ (Dt.str _) (Dt.tup _) _); refine o_inAT rfl rfl ?_)
  | ((with_reducible show Op2 _ (rI _ _) _ _ _ _); refine o_i (by walk_at "yc") ?_)
  | ((with_reducible show Op2 _ (rIx _) _ (Dt.tup _) _ _); refine o_ixAT (atI_toNat (by decide) rfl) ?_)
  | ((with_reducible show Op2 _ (rIx _) _ (Dt.lst _) _ _); refine o_ixAL (atI_toNat (by decide) rfl) ?_)
  | ((with_reducible show ∃ x, atI _ _ = some x ∧ _); refine ⟨_, rfl, ?_⟩)
  | ((with_reducible show ∃ x, ixN _ _ = some x ∧ _); refine ⟨_, rfl, ?_⟩)
  | ((with_reducible show List.length _ ≤ 100000 ∧ _); refine ⟨by (try simp only [List.length_cons, List.length_nil]); first | decide | omega, ?_⟩))
local macro_rules | `(tactic| walk_at "y") => `(tactic| first | walk_at "yo" | walk_at "ye" | walk_at "yv" | walk_at "ys" | walk_at "yd")
local macro_rules | `(tactic| walk_at "yx") => `(tactic| first | walk_at "yo" | walk_at "ye" | walk_at "yv" | walk_at "yd")
section
variable {P : Program} {w : World} {K : PySem.W.Frag} {mg : Str → Option Value} {base : Heap}

theorem ok__law_try (T : Tx K mg w) : FnOk P w K mg base CX0 10 T.a__law_try T.d__law_try ["_law_ask"] (spTry P w K mg base T.a_ImageError T.a_Missing 9) := by
  refine T.F__law_try.ok sc__law_try spAsk_len (fun cdv A outer s H vs Q E hr h => ⟨_, pss_one (ps_try_as2 (i := 1) (tb := fun W => tRet (tTup (tCons (tC (.str "")) (tCons (tAsk P w K mg base 9 W 0) tNil)))) (ts := fun a cls d => tRet (tTup (tCons (tXfA K a cls d "code" (tVar 1)) (tCons (tCallE a cls d (spField K T.a_ImageError T.a_Missing) (tCons (tVar 1) tNil)) tNil)))) rfl rfl sc__law_try.nd rfl rfl (by rfl) T.m_ImageError (by rfl) T.m_Missing
    (by intro W pn xe tk _; exact pss_one (ps_ret (pe_tup (pa_cons pe_str (pa_cons (pe_ask (k := 9) (i := 0) tk (hr.mono (by decide)) rfl (.inl rfl)) pa_nil)))))
    (by intro a oe cls d pn hz hf; exact pss_one (ps_ret (pe_tup (pa_cons (pe_xfA List.mem_cons_self hz hf (pv 1)) (pa_cons (pe_callE (k := 1) List.mem_cons_self hz hf (ok__law_field (P := P) (w := w) (base := base) T) (roomH_mark hr (by decide)) (by rfl) T.m__law_field T.k__law_field T.b__law_field spField_len (pa_cons (pv 1) pa_nil)) pa_nil)))))), ?_⟩)
  exact try_reads h
theorem ok__law_why (T : Tx K mg w) : FnOk P w K mg base CX0 11 T.a__law_why T.d__law_why ["_law_ask"] (spWhy P w K mg base T.a_ImageError T.a_Missing 9) := by
  have G__law_try := ok__law_try (P := P) (w := w) (base := base) T
  refine fn_why T.F__law_why sc__law_why (fun cdv A outer s H E hr => ⟨_, (pss_cons (ps_set (i := 1) sc__law_why.nd rfl (Or.inl rfl) (pe_call G__law_try (hr.mono (by decide)) (by rfl) T.m__law_try T.k__law_try T.b__law_try .nil pass0 (pa_cons (pv 0) pa_nil)))
      (pss_one (ps_ret (pe_ifExp (pt_cmpR (op_neA (K := K) hr.units) (pe_ix (ix_any (K := K)) (pv 1) pe_int (fun _ _ => rfl)) pe_str (nomark _)) (pv 1) (pe_tup (pa_cons pe_str (pa_cons pe_non pa_nil))))))), fun F0 H0 G Z g Pok Pe hG hZ ha => ?_⟩)
  dsimp only [cxOf, env0, env1, List.map, List.length, List.replicate, List.cons_append, List.nil_append, List.append, Nat.reduceAdd, Nat.reduceSub, Nat.zero_add]
  refine sm_seq (sm_set (ev_ask rfl hG hZ ha fun d hd => ?_))
  rcases hd with ⟨x, hx, rfl⟩ | ⟨code, xs, hp, hne, rfl⟩
  · repeat walk_at "y"
    exact .inl ⟨⟨x, hx⟩, rfl⟩
  · repeat walk_at "y"
    refine way_t (by show (!decide (code = ("" : Str))) = true; rw [decide_eq_false hne]; rfl) ?_
    repeat walk_at "y"
    exact .inr ⟨code, xs, hp, hne, rfl⟩
theorem ok__law_whys (T : Tx K mg w) : FnOk P w K mg base CX0 12 T.a__law_whys T.d__law_whys ["_law_asks"] (spWhys P w K mg base T.a_ImageError T.a_Missing 9) := by
  have G__law_why := ok__law_why (P := P) (w := w) (base := base) T
  refine fn_whys T.F__law_whys sc__law_whys (fun cdv A outer s H E hr => ⟨_, (pss_one (ps_ret (pe_lc (own := [("_law_ask", 1)]) (g := gName 1) rfl sc__law_whys.nd (pi_listA (K := K) (pv 0)) (blkOk_by (N := ["_law_asks", "_law_ask"]) (sc := defScope s__law_whys) (by decide +kernel)) (fun _ _ _ _ _ => (pg_name (i := 1) sc__law_whys.nd rfl (Or.inl rfl))) (fun _ _ _ _ _ => pts_nil) (fun _ _ _ _ _ => (pe_call G__law_why (hr.mono (by decide)) (by rfl) T.m__law_why T.k__law_why T.b__law_why .nil pass0 (pa_cons (pv 1) pa_nil)))))), fun F0 H0 G Z as hG hZ hl ha => ?_⟩)
  dsimp only [cxOf, env0, env1, List.map, List.length, List.replicate, List.cons_append, List.nil_append, List.append, Nat.reduceAdd, Nat.reduceSub, Nat.zero_add]
  refine sm_ret (EvO.ev (eo_lc (ei_list (ev_var rfl ⟨_, rfl, by rw [List.length_map]; exact hl, fun i acc => acc.length = i ∧ ∀ (k : Nat) q d, as[k]? = some q → acc[k]? = some d → whyD q.2.1 q.2.2 d, ⟨rfl, fun k q d _ e => by simp at e⟩, ?_, ?_⟩))))
  · rintro i x acc hx ⟨hl2, hw⟩
    obtain ⟨q, hq, rfl⟩ : ∃ q, as[i]? = some q ∧ Dt.ali q.1 = x := by simpa using hx
    refine tc_name (et_yes ⟨fun _ => ?_, fun z => nomatch z⟩)
    refine ev_ask rfl hG hZ (ha q (List.mem_of_getElem? hq)) fun d hd => ⟨by simp [hl2], fun k q' d' k1 k2 => ?_⟩
    by_cases hk : k < acc.length
    · rw [List.getElem?_append_left hk] at k2; exact hw k q' d' k1 k2
    · have hk2 : k = i := by
        have := (List.getElem?_eq_some_iff.mp k2).1
        simp at this; omega
      subst hk2
      rw [hq] at k1
      cases k1
      rw [List.getElem?_append_right (by omega), hl2] at k2
      simp at k2
      rw [← k2]
      exact hd
  · rintro acc ⟨hl2, hw⟩
    exact ⟨acc, rfl, by rw [hl2, List.length_map], hw⟩
end
end Law
namespace Law
open PySem L2 Y
local macro_rules | `(tactic| walk_at "yv") => `(tactic| ((with_reducible show Ev _ (tVar _) _ _); refine ev_var rfl ?_))
local macro_rules | `(tactic| walk_at "ys") => `(tactic| with_reducible first
  | refine sm_seq ?_ | refine sm_ret ?_ | refine sm_if ?_ | refine sm_set ?_ | refine sm_next ?_ | refine sm_par ?_ | refine sm_drop ?_ | refine sm_brk ?_ | refine sm_cont ?_)
local macro_rules | `(tactic| walk_at "ye") => `(tactic| with_reducible first
  | refine ev_op ?_ | refine ev_and ?_ | refine ev_or ?_ | refine ev_not ?_ | refine ev_if ?_ | refine ev_chain ?_ | refine ev_neg ?_ | refine ev_isInt ?_ | refine ev_isBool ?_ | refine ev_isStr ?_ | refine ev_isList ?_ | refine ev_isTuple ?_ | refine ev_isLT ?_ | refine ev_isDict ?_
  | refine ev_int ?_ | refine ev_str ?_ | refine ev_bl ?_ | refine ev_non ?_ | refine ev_call ?_ | refine ev_cb ?_ | refine ev_lst ?_ | refine ev_tup ?_ | refine ev_join ?_
  | refine ea_nil ?_ | refine ea_cons ?_
  | refine et_B ?_ | refine et_test ?_ | refine et_not ?_ | refine et_and ?_ | refine et_or ?_ | refine et_yes ?_
  | refine o_plusI ?_ | refine o_i0 ?_ | refine o_b0 ?_ | refine o_isN ?_ | refine o_notN ?_
  | refine bl_ex ?_ | refine int_ex ?_ | refine str_ex ?_ | refine lst_ex ?_ | refine tup_ex ?_)
local macro_rules | `(tactic| walk_at "yo") => `(tactic| first
  | ((with_reducible show Ev _ (tOp (rIx _) (tVar _) _) _ _); refine ev_ixOwn rfl ?_)
  | ((with_reducible show Ev _ (tCB _ (tCons (tVar _) tNil)) _ _); refine ev_lenOwn rfl ?_)
  | ((with_reducible show Sm _ (tAsg _ (gSub (tVar _) _ _)) _ _); refine sm_setItem rfl ?_)
  | ((with_reducible show Ev _ (tCall (spB _ _ _) _ _ _) _ _); refine ev_callB rfl rfl ?_))
local macro_rules | `(tactic| walk_at "yc") => `(tactic| first
  | ((with_reducible show CMul _ _); first | exact Or.inr ⟨by decide, by decide⟩ | exact Or.inl ⟨by decide, by decide⟩ | exact Or.inr ⟨by omega, by omega⟩ | exact Or.inl ⟨by omega, by omega⟩)
  | ((with_reducible show CDiv _ _); exact ⟨by first | decide | omega, by first | decide | omega⟩)
  | ((with_reducible show CPow _ _); exact ⟨by decide, by decide, by first | decide | omega⟩)
  | ((show (0 : Int) < _); first | decide | omega))
local macro_rules | `(tactic| walk_at "yd") => `(tactic| first
  | ((with_reducible show plainD _ = true ∧ _); refine ⟨by first | rfl | assumption, ?_⟩)
  | ((with_reducible show (_ = true → _) ∧ (_ = false → _)); first | refine way_t rfl ?_ | refine way_f rfl ?_ | refine way_t (by decide +kernel) ?_ | refine way_f (by decide +kernel) ?_)
  | ((with_reducible show Cal _ _ _ _ _); first | (with_reducible refine c_int ?_) | (with_reducible refine c_abs ?_) | (refine c_len rfl ?_) | (refine c_len (if_pos (by assumption)) ?_))
  | ((with_reducible show Op2 _ (rEqA _) _ _ _ _); refine o_eqA rfl ?_)
  | ((with_reducible show Op2 _ (rNeA _) _ _ _ _); refine o_neA rfl ?_)
  | ((with_reducible show Op2 _ (rInA _) _ (Dt.str _) (Dt.lst _) _); refine o_inAL rfl rfl ?_)
  | ((with_reducible show Op2 _ (rInA _) _ (Dt.str _) (Dt.tup _) _); refine o_inAT rfl rfl ?_)
  | ((with_reducible show Op2 _ (rI _ _) _ _ _ _); refine o_i (by walk_at "yc") ?_)
  | ((with_reducible show Op2 _ (rIx _) _ (Dt.tup _) _ _); refine o_ixAT (atI_toNat (by decide) rfl) ?_)
  | ((with_reducible show Op2 _ (rIx _) _ (Dt.lst _) _ _); refine o_ixAL (atI_toNat (by decide) rfl) ?_)
  | ((with_reducible show ∃ x, atI _ _ = some x ∧ _); refine ⟨_, rfl, ?_⟩)
  | ((with_reducible show ∃ x, ixN _ _ = some x ∧ _); refine ⟨_, rfl, ?_⟩)
  | ((with_reducible show List.length _ ≤ 100000 ∧ _); refine ⟨by (try simp only [List.length_cons, List.length_nil]); first | decide | omega, ?_⟩))
local macro_rules | `(tactic| walk_at "y") => `(tactic| first | walk_at "yo" | walk_at "ye" | walk_at "yv" | walk_at "ys" | walk_at "yd")
local macro_rules | `(tactic| walk_at "yx") => `(tactic| first | walk_at "yo" | walk_at "ye" | walk_at "yv" | walk_at "yd")

def rowsD : Dt → Option (List Dt)
  | .lst r => some r
  | .tup r => some r
  | _ => none
def closeB : Dt → Bool
  | .tup (.str z :: _) => inD (.str z) [.str "jump", .str "halt", .str "back"]
  | _ => false
def lastB (rs : List Dt) : Bool := match rs.getLast? with | some d => closeB d | none => false
/-- what need_rows lets out -/
def rowsO (rs : List Dt) (side : Str) : Out := if 16 < rs.length then some (("TooMany" : Str), [Dt.int 16]) else
  match rs.findIdx? (fun d => !rowFor side d) with
  | some k => some (("InvalidRow" : Str), [Dt.int (k : Nat)])
  | none => if side = "code" ∧ lastB rs = false then some (("NotClosing" : Str), []) else none
def needO (x : Dt) (side : Str) : Out := match rowsD x with
  | none => some (("InvalidRow" : Str), [Dt.int (-1)])
  | some rs => rowsO rs side
/-- the classes' addresses -/
structure ErrA where
  name : Addr
  part : Addr
  align : Addr
  scope : Addr
  row : Addr
  closing : Addr
  many : Addr
abbrev Tx.er {K : PySem.W.Frag} {mg : Str → Option Value} {w : World} (T : Tx K mg w) : ErrA := ⟨T.a_InvalidName, T.a_InvalidPart, T.a_InvalidAlignment, T.a_InvalidScope, T.a_InvalidRow, T.a_NotClosing, T.a_TooMany⟩
inductive ErrIs (A : ErrA) : Out → Addr → List (Str × Dt) → Prop
  | name (z : Dt) : ErrIs A (some (("InvalidName" : Str), [z])) A.name (xmk_InvalidName Dt.str [z])
  | part (z : Dt) : ErrIs A (some (("InvalidPart" : Str), [z])) A.part (xmk_InvalidPart Dt.str [z])
  | align (z : Dt) : ErrIs A (some (("InvalidAlignment" : Str), [z])) A.align (xmk_InvalidAlignment Dt.str [z])
  | scope (z : Dt) : ErrIs A (some (("InvalidScope" : Str), [z])) A.scope (xmk_InvalidScope Dt.str [z])
  | row (z : Dt) : ErrIs A (some (("InvalidRow" : Str), [z])) A.row (xmk_InvalidRow Dt.str [z])
  | closing : ErrIs A (some (("NotClosing" : Str), [])) A.closing (xmk_NotClosing Dt.str [])
  | many (z : Dt) : ErrIs A (some (("TooMany" : Str), [z])) A.many (xmk_TooMany Dt.str [z])
theorem ErrIs.of {A : ErrA} {o o' : Out} {C : Addr} {fds : List (Str × Dt)} (h : ErrIs A o' C fds) (e : o = o') : ErrIs A o C fds := e ▸ h
def listB (x : Dt) : Prop := plainD x = true ∧ ∀ rs, rowsD x = some rs → rs.length ≤ 100 ∧ ∀ d ∈ rs, thingB d = true
def needPre (ds : List Dt) : Prop := ∃ (x : Dt) (side : Str), ds = [x, .str side] ∧ listB x ∧ (side = "code" ∨ side = "data")
def needPost (ds : List Dt) (d : Dt) : Prop := ∃ (x : Dt) (side : Str), ds = [x, .str side] ∧ needO x side = none ∧ d = .non
def needErr (A : ErrA) (ds : List Dt) (C : Addr) (fds : List (Str × Dt)) : Prop := ∃ (x : Dt) (side : Str), ds = [x, .str side] ∧ ErrIs A (needO x side) C fds
theorem need_k {A : ErrA} {x : Dt} {side : Str} {R : Dt → Prop} {PE : Addr → List (Str × Dt) → Prop} (h1 : listB x) (h2 : side = "code" ∨ side = "data") (k : needO x side = none → R .non) (ke : ∀ C fds, ErrIs A (needO x side) C fds → PE C fds) :
    needPre [x, .str side] ∧ (∀ d, needPost [x, .str side] d → R d) ∧ ∀ C fds, needErr A [x, .str side] C fds → PE C fds :=
  ⟨⟨x, side, rfl, h1, h2⟩, fun d ⟨_, _, e, o, e2⟩ => by cases e; rw [e2]; exact k o, fun C fds ⟨_, _, e, o⟩ => by cases e; exact ke C fds o⟩
theorem not_t {b : Bool} (h : (!b) = true) : b = false := by cases b <;> first | rfl | cases h
theorem not_f {b : Bool} (h : (!b) = false) : b = true := by cases b <;> first | rfl | cases h
theorem rows_some {x : Dt} (h : (isLstD x || isTupD x) = true) : ∃ rs, rowsD x = some rs ∧ (x = .lst rs ∨ x = .tup rs) := by
  cases x <;> first | exact ⟨_, rfl, .inl rfl⟩ | exact ⟨_, rfl, .inr rfl⟩ | exact absurd (show false = true from h) (by decide)
theorem rows_none {x : Dt} (h : (isLstD x || isTupD x) = false) : rowsD x = none := by
  cases x <;> first | rfl | exact absurd (show true = false from h) (by decide)
theorem find_bad {p : Dt → Bool} {rs : List Dt} {i : Nat} {d : Dt} (h : rs[i]? = some d) (hp : p d = true) (hn : ∀ j, j < i → ∀ y, rs[j]? = some y → p y = false) : rs.findIdx? p = some i := by
  rw [List.findIdx?_eq_some_iff_getElem]
  obtain ⟨hi, rfl⟩ := List.getElem?_eq_some_iff.mp h
  refine ⟨hi, hp, fun j hj => ?_⟩
  rw [hn j hj _ (List.getElem?_eq_getElem (by omega))]; decide
theorem find_none {p : Dt → Bool} {rs : List Dt} (hn : ∀ j, j < rs.length → ∀ y, rs[j]? = some y → p y = false) : rs.findIdx? p = none := by
  rw [List.findIdx?_eq_none_iff]
  intro y hy
  obtain ⟨j, hj, e⟩ := List.getElem_of_mem hy
  exact hn j hj y (by rw [List.getElem?_eq_getElem hj, e])
theorem atI_last {α : Type} (l : List α) (d : α) : atI (l ++ [d]) (-1) = some d := by
  unfold atI
  have e : ixN (l ++ [d]).length (-1) = some l.length := by
    unfold ixN
    simp only [List.length_append, List.length_cons, List.length_nil]
    rw [if_neg (by decide), if_pos (by omega)]
    congr 1
    omega
  rw [e]
  simp
theorem row_word {side : Str} {d : Dt} (h : rowFor side d = true) : ∃ z r, d = .tup (.str z :: r) := by
  have key : ∀ {d : Dt} {fs : List (Str × List Nat)}, True := trivial
  unfold rowFor at h
  split at h
  · cases d with
    | tup xs =>
      cases xs with
      | nil => cases h
      | cons y r => cases y with
        | str z => exact ⟨z, r, rfl⟩
        | _ => cases h
    | _ => cases h
  · cases d with
    | tup xs =>
      cases xs with
      | nil => cases h
      | cons y r => cases y with
        | str z => exact ⟨z, r, rfl⟩
        | _ => cases h
    | _ => cases h
section
variable {P : Program} {w : World} {K : PySem.W.Frag} {mg : Str → Option Value} {base : Heap}

theorem ok_need_rows (T : Tx K mg w) : FnOk P w K mg base (CXX P w) 6 T.a_need_rows T.d_need_rows ["rows", "part"] (spR K needPre needPost (needErr T.er)) := by
  have G_is_code_row := ok_is_code_row (P := P) (w := w) (base := base) T
  have G_is_data_row := ok_is_data_row (P := P) (w := w) (base := base) T
  have G_is_closing := ok_is_closing (P := P) (w := w) (base := base) T
  have G_InvalidRow___init__ := ok_InvalidRow___init__ (P := P) (w := w) (base := base) T
  have G_NotClosing___init__ := ok_NotClosing___init__ (P := P) (w := w) (base := base) T
  have G_TooMany___init__ := ok_TooMany___init__ (P := P) (w := w) (base := base) T
  refine fn_raise T.F_need_rows sc_need_rows (fun ds h => ?_) (fun cdv A outer s H E hr => ⟨_, (pss_cons (ps_if (pt_not (pt_val (pe_callB (call_isiTA (K := K)) (by rfl) T.n_isinstance PyProof.Rows.boot_isinstance (pa_cons (pv 0) (pa_cons (pe_tup (pa_cons (pe_bltn (v := .ty "list") (by rfl) T.n_list (by decide +kernel) rfl) (pa_cons (pe_bltn (v := .ty "tuple") (by rfl) T.n_tuple (by decide +kernel) rfl) pa_nil))) pa_nil))))) (pss_one (ps_raise rfl takesE (pmk_oex T.oe_InvalidRow T.i_InvalidRow T.ty_InvalidRow G_InvalidRow___init__ (hr.mono (by decide)) T.b_InvalidRow___init__ .nil pass0 (by rfl) T.m_InvalidRow (pa_cons (pe_un un_neg pe_int) pa_nil)))) pss_nil)
      (pss_cons (ps_if (pt_cmpR op_gt (pe_callB (call_lenA (K := K)) (by rfl) T.n_len PySem.boot_len (pa_cons (pv 0) pa_nil)) (pe_glob (v := .int 16) (by rfl) T.m_MOST_ROWS T.r_MOST_ROWS) (nomark _)) (pss_one (ps_raise rfl takesE (pmk_oex T.oe_TooMany T.i_TooMany T.ty_TooMany G_TooMany___init__ (hr.mono (by decide)) T.b_TooMany___init__ .nil pass0 (by rfl) T.m_TooMany (pa_cons (pe_glob (v := .int 16) (by rfl) T.m_MOST_ROWS T.r_MOST_ROWS) pa_nil)))) pss_nil)
      (pss_cons (ps_for ownE rfl (pi_enumA (K := K) (by rfl) T.n_enumerate (pa_cons (pv 0) pa_nil)) (pg_tupA (K := K) rfl (pgs_cons (pg_name (i := 2) sc_need_rows.nd rfl (Or.inl rfl)) (pgs_cons (pg_name (i := 3) sc_need_rows.nd rfl (Or.inl rfl)) pgs_nil))) (pss_one (ps_if (pt_not (pt_ifExp (pt_cmpR (op_eqA (K := K) hr.units) (pv 1) pe_str (nomark _)) (pt_val (pe_call G_is_code_row (hr.mono (by decide)) (by rfl) T.m_is_code_row T.k_is_code_row T.b_is_code_row .nil pass0 (pa_cons (pv 3) pa_nil))) (pt_val (pe_call G_is_data_row (hr.mono (by decide)) (by rfl) T.m_is_data_row T.k_is_data_row T.b_is_data_row .nil pass0 (pa_cons (pv 3) pa_nil))))) (pss_one (ps_raise rfl takesE (pmk_oex T.oe_InvalidRow T.i_InvalidRow T.ty_InvalidRow G_InvalidRow___init__ (hr.mono (by decide)) T.b_InvalidRow___init__ .nil pass0 (by rfl) T.m_InvalidRow (pa_cons (pv 2) pa_nil)))) pss_nil)))
      (pss_one (ps_if (PW.pt (pw_and (pt_cmpR (op_eqA (K := K) hr.units) (pv 1) pe_str (nomark _)) (pw_and1 (PW.pt (pw_or (pt_cmpR (op_eqA (K := K) hr.units) (pe_callB (call_lenA (K := K)) (by rfl) T.n_len PySem.boot_len (pa_cons (pv 0) pa_nil)) pe_int (nomark _)) (pw_or1 (pt_not (pt_val (pe_call G_is_closing (hr.mono (by decide)) (by rfl) T.m_is_closing T.k_is_closing T.b_is_closing .nil pass0 (pa_cons (pe_ix (ix_any (K := K)) (pv 0) (pe_un un_neg pe_int) (fun _ _ => rfl)) pa_nil)))))))))) (pss_one (ps_raise rfl takesE (pmk_oex0 T.oe_NotClosing T.i_NotClosing T.ty_NotClosing G_NotClosing___init__ (hr.mono (by decide)) T.b_NotClosing___init__ .nil pass0 (by rfl) T.m_NotClosing))) pss_nil))))), fun F0 H0 ds h hX => ?_⟩)
  · obtain ⟨x, side, rfl, _⟩ := h; rfl
  obtain ⟨x, side, rfl, ⟨hpl, hls⟩, hs⟩ := h
  dsimp only [cxOf, env0, env1, List.map, List.length, List.replicate, List.cons_append, List.nil_append, List.append, Nat.reduceAdd, Nat.reduceSub, Nat.zero_add]
  refine sm_seq (sm_if (et_not (et_B (ev_isLT (ev_var rfl ⟨hpl, ?_⟩)))))
  refine bl_ex (ways (fun h => ?_) (fun h => ?_))
  · have hn : rowsD x = none := rows_none (not_t h)
    refine sm_raise hX (by decide) xrel_InvalidRow ?_
    repeat walk_at "yx"
    exact ⟨rfl, x, side, rfl, (ErrIs.row _).of (by rw [needO, hn])⟩
  obtain ⟨rs, hrs, hx⟩ := rows_some (not_f h)
  obtain ⟨hl100, hth⟩ := hls rs hrs
  have hO : needO x side = rowsO rs side := by rw [needO, hrs]
  have hln : lenD x = some rs.length := by rcases hx with rfl | rfl <;> rfl
  clear hls
  refine sm_next (sm_seq (sm_if (et_B (ev_op (ev_cb (ea_cons (ev_var rfl (ea_nil (c_len hln ?_)))))))))
  repeat walk_at "yx"
  refine ways (fun h => ?_) (fun h => ?_)
  · have h : (16 : Int) < (rs.length : Nat) := of_decide_eq_true h
    refine sm_raise hX (by decide) xrel_TooMany ?_
    repeat walk_at "yx"
    exact ⟨rfl, x, side, rfl, (ErrIs.many _).of (by rw [hO, rowsO, if_pos (by omega)])⟩
  have h16 : ¬ 16 < rs.length := by
    have h : ¬ (16 : Int) < (rs.length : Nat) := of_decide_eq_false h
    omega
  refine sm_next ?_
  refine sm_cut (fun e => ∃ s2 s3, e = [.d x, .d (.str side), s2, s3] ∧ ∀ j, j < rs.length → ∀ y, rs[j]? = some y → rowFor side y = true) ?_ ?_
  · refine sm_for ?_
    refine EvI.imp (P := fun xs => xs = enumD 0 rs) ?_ ?_
    · rcases hx with rfl | rfl
      · exact ei_enumL (ea_cons (ev_var rfl (ea_nil ⟨rs, rfl, rfl⟩)))
      · exact ei_enumT (ea_cons (ev_var rfl (ea_nil ⟨rs, rfl, rfl⟩)))
    rintro _ rfl
    refine ⟨fun i e => ∃ s2 s3, e = [.d x, .d (.str side), s2, s3] ∧ ∀ j, j < i → ∀ y, rs[j]? = some y → rowFor side y = true, ⟨_, _, rfl, fun j hj => by omega⟩, ?_, ?_⟩
    · rintro j p es' hp ⟨s2, s3, rfl, hI⟩
      obtain ⟨y, hy, rfl⟩ := enumD_inv hp
      refine tg_tup rfl (tgs_cons (tg_name (tgs_cons (tg_name (tgs_nil ?_)))))
      rw [Nat.zero_add]
      have hty := hth y (List.mem_of_getElem? hy)
      have good : rowFor side y = true → ∀ i, i < j + 1 → ∀ y, rs[i]? = some y → rowFor side y = true := fun hg i hi z hz => by
        by_cases e : i = j
        · subst e; rw [hy] at hz; cases hz; exact hg
        · exact hI i (by omega) z hz
      have bad : rowFor side y = false → needO x side = some (("InvalidRow" : Str), [Dt.int (j : Nat)]) := fun hb => by
        rw [hO, rowsO, if_neg h16, find_bad (p := fun d => !rowFor side d) hy (by rw [hb]; rfl) fun i hi z hz => by rw [hI i hi z hz]; rfl]
      refine sm_if (et_not (et_if ?_))
      repeat walk_at "yx"
      refine ways (fun h => ?_) (fun h => ?_)
      · have h : side = "code" := of_decide_eq_true h
        have hf : rowFor side y = codeRow y := by rw [rowFor, if_pos h]
        repeat walk_at "yx"
        refine isCode_k hty (bl_ex ?_)
        rw [← hf]
        refine ways (fun h2 => ?_) (fun h2 => ?_)
        · refine sm_raise hX (by decide) xrel_InvalidRow ?_
          repeat walk_at "yx"
          exact ⟨rfl, x, side, rfl, (ErrIs.row _).of (bad (by simpa using h2))⟩
        · refine sm_next ?_
          exact ⟨_, _, rfl, good (by simpa using h2)⟩
      · have h : ¬ side = "code" := of_decide_eq_false h
        have hf : rowFor side y = dataRow y := by rw [rowFor, if_neg h]
        repeat walk_at "yx"
        refine isData_k hty (bl_ex ?_)
        rw [← hf]
        refine ways (fun h2 => ?_) (fun h2 => ?_)
        · refine sm_raise hX (by decide) xrel_InvalidRow ?_
          repeat walk_at "yx"
          exact ⟨rfl, x, side, rfl, (ErrIs.row _).of (bad (by simpa using h2))⟩
        · refine sm_next ?_
          exact ⟨_, _, rfl, good (by simpa using h2)⟩
    · rintro es' ⟨s2, s3, rfl, hI⟩
      exact ⟨_, _, rfl, fun j hj y hy => hI j (by rw [enumD_len]; exact hj) y hy⟩
  rintro es' ⟨s2, s3, rfl, hA⟩
  have hF : rs.findIdx? (fun d => !rowFor side d) = none := find_none fun j hj y hy => by rw [hA j hj y hy]; rfl
  have hO2 : needO x side = if side = "code" ∧ lastB rs = false then some (("NotClosing" : Str), []) else none := by rw [hO, rowsO, if_neg h16, hF]
  refine sm_if ?_
  repeat walk_at "yx"
  refine ways (fun h => ?_) (fun h => ?_)
  · have h : side = "code" := of_decide_eq_true h
    refine et_or (et_B (ev_op (ev_cb (ea_cons (ev_var rfl (ea_nil (c_len hln ?_)))))))
    repeat walk_at "yx"
    have stop : lastB rs = false → needO x side = some (("NotClosing" : Str), []) := fun hb => by rw [hO2, if_pos ⟨h, hb⟩]
    have pass : lastB rs = true → needO x side = none := fun hb => by rw [hO2, if_neg fun z => by rw [hb] at z; cases z.2]
    rcases List.eq_nil_or_concat rs with rfl | ⟨l, d, rfl⟩
    · refine way_t rfl ?_
      repeat walk_at "yx"
      refine sm_raise hX (by decide) xrel_NotClosing ?_
      repeat walk_at "yx"
      exact ⟨rfl, x, side, rfl, ErrIs.closing.of (stop rfl)⟩
    · rw [List.concat_eq_append] at *
      have hd : rowFor side d = true := hA l.length (by simp) d (by simp)
      obtain ⟨z, r, rfl⟩ := row_word hd
      have hat : atI (l ++ [.tup (.str z :: r)]) (-1) = some (.tup (.str z :: r)) := atI_last _ _
      have hlast : lastB (l ++ [.tup (.str z :: r)]) = inD (.str z) [.str "jump", .str "halt", .str "back"] := by simp [lastB, closeB]
      refine way_f (decide_eq_false (by rw [List.length_append]; simp; omega)) ?_
      refine et_not (et_test (ev_call (ea_cons (ev_op (ev_var rfl (ev_neg (ev_int (int_ex ?_))))))))
      rcases hx with rfl | rfl
      · refine o_ixAL hat (ea_nil (close_k (bl_ex ?_)))
        rw [← hlast]
        refine ways (fun h2 => ?_) (fun h2 => ?_)
        · refine sm_raise hX (by decide) xrel_NotClosing ?_
          repeat walk_at "yx"
          exact ⟨rfl, _, side, rfl, ErrIs.closing.of (stop (by simpa using h2))⟩
        · refine sm_next ?_
          exact ⟨_, side, rfl, pass (by simpa using h2), rfl⟩
      · refine o_ixAT hat (ea_nil (close_k (bl_ex ?_)))
        rw [← hlast]
        refine ways (fun h2 => ?_) (fun h2 => ?_)
        · refine sm_raise hX (by decide) xrel_NotClosing ?_
          repeat walk_at "yx"
          exact ⟨rfl, _, side, rfl, ErrIs.closing.of (stop (by simpa using h2))⟩
        · refine sm_next ?_
          exact ⟨_, side, rfl, pass (by simpa using h2), rfl⟩
  · have h : ¬ side = "code" := of_decide_eq_false h
    repeat walk_at "y"
    exact ⟨x, side, rfl, by rw [hO2, if_neg fun z => h z.1], rfl⟩
end
end Law
namespace Law
open PySem L2 Y
local macro_rules | `(tactic| walk_at "yv") => `(tactic| ((with_reducible show Ev _ (tVar _) _ _); refine ev_var rfl ?_))
local macro_rules | `(tactic| walk_at "ys") => `(tactic| with_reducible first
  | refine sm_seq ?_ | refine sm_ret ?_ | refine sm_if ?_ | refine sm_set ?_ | refine sm_next ?_ | refine sm_par ?_ | refine sm_drop ?_ | refine sm_brk ?_ | refine sm_cont ?_)
local macro_rules | `(tactic| walk_at "ye") => `(tactic| with_reducible first
  | refine ev_op ?_ | refine ev_and ?_ | refine ev_or ?_ | refine ev_not ?_ | refine ev_if ?_ | refine ev_chain ?_ | refine ev_neg ?_ | refine ev_isInt ?_ | refine ev_isBool ?_ | refine ev_isStr ?_ | refine ev_isList ?_ | refine ev_isTuple ?_ | refine ev_isLT ?_ | refine ev_isDict ?_
  | refine ev_int ?_ | refine ev_str ?_ | refine ev_bl ?_ | refine ev_non ?_ | refine ev_call ?_ | refine ev_cb ?_ | refine ev_lst ?_ | refine ev_tup ?_ | refine ev_join ?_
  | refine ea_nil ?_ | refine ea_cons ?_
  | refine et_B ?_ | refine et_test ?_ | refine et_not ?_ | refine et_and ?_ | refine et_or ?_ | refine et_yes ?_
  | refine o_plusI ?_ | refine o_i0 ?_ | refine o_b0 ?_ | refine o_isN ?_ | refine o_notN ?_
  | refine bl_ex ?_ | refine int_ex ?_ | refine str_ex ?_ | refine lst_ex ?_ | refine tup_ex ?_)
local macro_rules | `(tactic| walk_at "yo") => `(tactic| first
  | ((with_reducible show Ev _ (tOp (rIx _) (tVar _) _) _ _); refine ev_ixOwn rfl ?_)
  | ((with_reducible show Ev _ (tCB _ (tCons (tVar _) tNil)) _ _); refine ev_lenOwn rfl ?_)
  | ((with_reducible show Sm _ (tAsg _ (gSub (tVar _) _ _)) _ _); refine sm_setItem rfl ?_)
  | ((with_reducible show Ev _ (tCall (spB _ _ _) _ _ _) _ _); refine ev_callB rfl rfl ?_))
local macro_rules | `(tactic| walk_at "yc") => `(tactic| first
  | ((with_reducible show CMul _ _); first | exact Or.inr ⟨by decide, by decide⟩ | exact Or.inl ⟨by decide, by decide⟩ | exact Or.inr ⟨by omega, by omega⟩ | exact Or.inl ⟨by omega, by omega⟩)
  | ((with_reducible show CDiv _ _); exact ⟨by first | decide | omega, by first | decide | omega⟩)
  | ((with_reducible show CPow _ _); exact ⟨by decide, by decide, by first | decide | omega⟩)
  | ((show (0 : Int) < _); first | decide | omega))
local macro_rules | `(tactic| walk_at "yd") => `(tactic| first
  | ((with_reducible show plainD _ = true ∧ _); refine ⟨by first | rfl | assumption, ?_⟩)
  | ((with_reducible show (_ = true → _) ∧ (_ = false → _)); first | refine way_t rfl ?_ | refine way_f rfl ?_ | refine way_t (by decide +kernel) ?_ | refine way_f (by decide +kernel) ?_)
  | ((with_reducible show Cal _ _ _ _ _); first | (with_reducible refine c_int ?_) | (with_reducible refine c_abs ?_) | (refine c_len rfl ?_) | (refine c_len (if_pos (by assumption)) ?_))
  | ((with_reducible show Op2 _ (rEqA _) _ _ _ _); refine o_eqA rfl ?_)
  | ((with_reducible show Op2 _ (rNeA _) _ _ _ _); refine o_neA rfl ?_)
  | ((with_reducible show Op2 _ (rInA _) _ (Dt.str _) (Dt.lst _) _); refine o_inAL rfl rfl ?_)
  | ((with_reducible show Op2 _ (rInA _) _ (Dt.str _) (Dt.tup _) _); refine o_inAT rfl rfl ?_)
  | ((with_reducible show Op2 _ (rI _ _) _ _ _ _); refine o_i (by walk_at "yc") ?_)
  | ((with_reducible show Op2 _ (rIx _) _ (Dt.tup _) _ _); refine o_ixAT (atI_toNat (by decide) rfl) ?_)
  | ((with_reducible show Op2 _ (rIx _) _ (Dt.lst _) _ _); refine o_ixAL (atI_toNat (by decide) rfl) ?_)
  | ((with_reducible show ∃ x, atI _ _ = some x ∧ _); refine ⟨_, rfl, ?_⟩)
  | ((with_reducible show ∃ x, ixN _ _ = some x ∧ _); refine ⟨_, rfl, ?_⟩)
  | ((with_reducible show List.length _ ≤ 100000 ∧ _); refine ⟨by (try simp only [List.length_cons, List.length_nil]); first | decide | omega, ?_⟩))
local macro_rules | `(tactic| walk_at "y") => `(tactic| first | walk_at "yo" | walk_at "ye" | walk_at "yv" | walk_at "ys" | walk_at "yd")
local macro_rules | `(tactic| walk_at "yx") => `(tactic| first | walk_at "yo" | walk_at "ye" | walk_at "yv" | walk_at "yd")

theorem side_of {s : Str} (h : s ∈ (["code", "data"] : List Str)) : s = "code" ∨ s = "data" := by
  rcases List.mem_cons.mp h with e | h
  · exact .inl e
  · exact .inr (List.mem_singleton.mp h)
def scopeB (sc : Dt) (side : Str) : Bool := match sc with
  | .str z => decide (z ∈ scopesL) && !(decide (side = "data") && decide (z = "open"))
  | _ => false
def stepB (al : Dt) : Bool := isNum al 1 16 && inD al [.int 1, .int 2, .int 4, .int 8, .int 16]
def partB (p : Dt) : Bool := match p with | .str z => decide (z ∈ (["code", "data"] : List Str)) | _ => false
def sideOf (p : Dt) : Str := match p with | .str z => z | _ => ""
def initO (n p r al sc : Dt) : Out := if isNameD n = false then some (("InvalidName" : Str), [n]) else if partB p = false then some (("InvalidPart" : Str), [p]) else
  match needO r (sideOf p) with
  | some o => some o
  | none => if stepB al = false then some (("InvalidAlignment" : Str), [al]) else if scopeB sc (sideOf p) = false then some (("InvalidScope" : Str), [sc]) else none
def scPre (ds : List Dt) : Prop := ∃ (sc : Dt) (side : Str), ds = [sc, .str side] ∧ plainD sc = true
def scPost (ds : List Dt) (d : Dt) : Prop := ∃ (sc : Dt) (side : Str), ds = [sc, .str side] ∧ d = .bl (scopeB sc side)
theorem sc_k {sc : Dt} {side : Str} {R : Dt → Prop} (h1 : plainD sc = true) (h : R (.bl (scopeB sc side))) : scPre [sc, .str side] ∧ ∀ d, scPost [sc, .str side] d → R d := ⟨⟨sc, side, rfl, h1⟩, fun d ⟨_, _, e, e2⟩ => by cases e; rw [e2]; exact h⟩
def iniPre (ds : List Dt) : Prop := ∃ n p r al sc kp : Dt, ds = [n, p, r, al, sc, kp] ∧ (plainD n = true ∧ txtOk n) ∧ plainD p = true ∧ listB r ∧ plainD al = true ∧ plainD sc = true
def iniPost (ds : List Dt) (xs : List Dt) : Prop := ∃ (n p r al sc kp : Dt) (rs : List Dt), ds = [n, p, r, al, sc, kp] ∧ initO n p r al sc = none ∧ rowsD r = some rs ∧ xs = [n, p, al, sc, kp, .lst rs]
def iniErr (A : ErrA) (ds : List Dt) (C : Addr) (fds : List (Str × Dt)) : Prop := ∃ n p r al sc kp : Dt, ds = [n, p, r, al, sc, kp] ∧ ErrIs A (initO n p r al sc) C fds
theorem ErrIs.some {A : ErrA} {o : Out} {C : Addr} {fds : List (Str × Dt)} (h : ErrIs A o C fds) : ∃ x, o = some x := by cases h <;> exact ⟨_, rfl⟩
section
variable {P : Program} {w : World} {K : PySem.W.Frag} {mg : Str → Option Value} {base : Heap}

theorem ok_is_scope (T : Tx K mg w) : FnOk P w K mg base CX0 1 T.a_is_scope T.d_is_scope ["value", "part"] (spD K scPre scPost) := by
  refine fn_data T.F_is_scope sc_is_scope (fun ds h => ?_) (fun cdv A outer s H E hr => ⟨_, (pss_one (ps_ret (pe_and (pe_callB (call_isiA (K := K)) (by rfl) T.n_isinstance PyProof.Rows.boot_isinstance (pa_cons (pv 0) (pa_cons (pe_bltn (v := .ty "str") (by rfl) T.n_str (by decide +kernel) rfl) pa_nil))) (pe_and (pe_cmpR (op_inA (K := K)) (pv 0) (pe_glob (v := .ref T.a_SCOPES) (by rfl) T.m_SCOPES rfl) (by rfl)) (pe_one (pe_not (pe_and (pe_cmpR (op_eqA (K := K) hr.units) (pv 1) pe_str (nomark _)) (pe_one (pe_cmpR (op_eqA (K := K) hr.units) (pv 0) pe_str (nomark _)))))))))), fun F0 H0 ds h => ?_⟩)
  · obtain ⟨sc, side, rfl, _⟩ := h; rfl
  obtain ⟨sc, side, rfl, hp⟩ := h
  dsimp only [cxOf, env0, env1, List.map, List.length, List.replicate, List.cons_append, List.nil_append, List.append, Nat.reduceAdd, Nat.reduceSub, Nat.zero_add]
  cases sc with
  | obj _ _ _ => cases hp
  | ali _ => cases hp
  | str z =>
    refine sm_ret ?_
    repeat walk_at "yx"
    refine ev_k T.kd_SCOPES (o_inAT rfl rfl ?_)
    have hin : inD (.str z) [.str "local", .str "export", .str "open", .str "weak"] = decide (z ∈ scopesL) := inD_text (ls := scopesL)
    rw [hin]
    refine bl_ex (ways (fun h => ?_) (fun h => ?_))
    · repeat walk_at "yx"
      refine ways (fun h2 => ?_) (fun h2 => ?_)
      · repeat walk_at "yx"
        exact ⟨_, _, rfl, by show Dt.bl (!(decide (z = "open"))) = .bl (decide (z ∈ scopesL) && !(decide (side = "data") && decide (z = "open"))); rw [h, show decide (side = "data") = true from h2]; rfl⟩
      · repeat walk_at "yx"
        exact ⟨_, _, rfl, by show Dt.bl _ = .bl (decide (z ∈ scopesL) && !(decide (side = "data") && decide (z = "open"))); rw [h, show decide (side = "data") = false from h2]; rfl⟩
    · repeat walk_at "yx"
      exact ⟨_, _, rfl, by show Dt.bl _ = .bl (decide (z ∈ scopesL) && !(decide (side = "data") && decide (z = "open"))); rw [h]; rfl⟩
  | _ =>
    refine sm_ret ?_
    repeat walk_at "yx"
    exact ⟨_, _, rfl, rfl⟩
theorem ok_Piece___init__ (T : Tx K mg w) : FnOk P w K mg base (CXX P w) 7 T.a_Piece___init__ T.d_Piece___init__ ["self", "name", "part", "rows", "alignment", "scope", "keep"] (spIR K T.a_Piece iniPre pieceNs pieceBs iniPost (iniErr T.er)) := by
  have G_is_name := ok_is_name (P := P) (w := w) (base := base) T
  have G_is_number := ok_is_number (P := P) (w := w) (base := base) T
  have G_need_rows := ok_need_rows (P := P) (w := w) (base := base) T
  have G_is_scope := ok_is_scope (P := P) (w := w) (base := base) T
  have G_InvalidName___init__ := ok_InvalidName___init__ (P := P) (w := w) (base := base) T
  have G_InvalidPart___init__ := ok_InvalidPart___init__ (P := P) (w := w) (base := base) T
  have G_InvalidAlignment___init__ := ok_InvalidAlignment___init__ (P := P) (w := w) (base := base) T
  have G_InvalidScope___init__ := ok_InvalidScope___init__ (P := P) (w := w) (base := base) T
  refine fn_initR T.F_Piece___init__ sc_Piece___init__ (fun ds h => ?_) (fun cdv A outer s H E hr => ⟨_, (pss_cons (ps_if (pt_not (pt_val (pe_call G_is_name (hr.mono (by decide)) (by rfl) T.m_is_name T.k_is_name T.b_is_name .nil pass0 (pa_cons (pv 1) pa_nil)))) (pss_one (ps_raise rfl takesE (pmk_oex T.oe_InvalidName T.i_InvalidName T.ty_InvalidName G_InvalidName___init__ (hr.mono (by decide)) T.b_InvalidName___init__ .nil pass0 (by rfl) T.m_InvalidName (pa_cons (pv 1) pa_nil)))) pss_nil)
      (pss_cons (ps_if (PW.pt (pw_or (pt_not (pt_val (pe_callB (call_isiA (K := K)) (by rfl) T.n_isinstance PyProof.Rows.boot_isinstance (pa_cons (pv 2) (pa_cons (pe_bltn (v := .ty "str") (by rfl) T.n_str (by decide +kernel) rfl) pa_nil))))) (pw_or1 (pt_cmpR (op_niA (K := K)) (pv 2) (pe_tup (pa_cons pe_str (pa_cons pe_str pa_nil))) (by rfl))))) (pss_one (ps_raise rfl takesE (pmk_oex T.oe_InvalidPart T.i_InvalidPart T.ty_InvalidPart G_InvalidPart___init__ (hr.mono (by decide)) T.b_InvalidPart___init__ .nil pass0 (by rfl) T.m_InvalidPart (pa_cons (pv 2) pa_nil)))) pss_nil)
      (pss_cons (ps_expr (pe_call G_need_rows (hr.mono (by decide)) (by rfl) T.m_need_rows T.k_need_rows T.b_need_rows .nil passE (pa_cons (pv 3) (pa_cons (pv 2) pa_nil))))
      (pss_cons (ps_if (PW.pt (pw_or (pt_not (pt_val (pe_call G_is_number (hr.mono (by decide)) (by rfl) T.m_is_number T.k_is_number T.b_is_number .nil pass0 (pa_cons (pv 4) (pa_cons pe_int (pa_cons (pe_ix (ix_any (K := K)) (pe_glob (v := .ref T.a_ALIGNMENTS) (by rfl) T.m_ALIGNMENTS rfl) (pe_un un_neg pe_int) (fun _ _ => rfl)) pa_nil)))))) (pw_or1 (pt_cmpR (op_niA (K := K)) (pv 4) (pe_glob (v := .ref T.a_ALIGNMENTS) (by rfl) T.m_ALIGNMENTS rfl) (by rfl))))) (pss_one (ps_raise rfl takesE (pmk_oex T.oe_InvalidAlignment T.i_InvalidAlignment T.ty_InvalidAlignment G_InvalidAlignment___init__ (hr.mono (by decide)) T.b_InvalidAlignment___init__ .nil pass0 (by rfl) T.m_InvalidAlignment (pa_cons (pv 4) pa_nil)))) pss_nil)
      (pss_cons (ps_if (pt_not (pt_val (pe_call G_is_scope (hr.mono (by decide)) (by rfl) T.m_is_scope T.k_is_scope T.b_is_scope .nil pass0 (pa_cons (pv 5) (pa_cons (pv 2) pa_nil))))) (pss_one (ps_raise rfl takesE (pmk_oex T.oe_InvalidScope T.i_InvalidScope T.ty_InvalidScope G_InvalidScope___init__ (hr.mono (by decide)) T.b_InvalidScope___init__ .nil pass0 (by rfl) T.m_InvalidScope (pa_cons (pv 5) pa_nil)))) pss_nil)
      (pss_cons (ps_fldA (K := K) (pv 0) (pv 1) rfl)
      (pss_cons (ps_fldA (K := K) (pv 0) (pv 2) rfl)
      (pss_cons (ps_fldA (K := K) (pv 0) (pv 4) rfl)
      (pss_cons (ps_fldA (K := K) (pv 0) (pv 5) rfl)
      (pss_cons (ps_fldA (K := K) (pv 0) (pv 6) rfl)
      (pss_one (ps_fldA (K := K) (pv 0) (pe_callTy (call_listB (K := K) rfl) (by rfl) T.n_list PyProof.Rows.boot_list (pa_cons (pv 3) pa_nil)) rfl)))))))))))), fun F0 H0 a dx ds h hX => ?_⟩)
  · obtain ⟨n, p, r, al, sc, kp, rfl, _⟩ := h; rfl
  obtain ⟨n, p, r, al, sc, kp, rfl, hn, hp, hl, ha, hs⟩ := h
  dsimp only [cxOf, env0, env1, List.map, List.length, List.replicate, List.cons_append, List.nil_append, List.append, Nat.reduceAdd, Nat.reduceSub, Nat.zero_add]
  refine sm_seq (sm_if ?_)
  repeat walk_at "yx"
  refine name_k hn (bl_ex ?_)
  refine ways (fun h => ?_) (fun h => ?_)
  · have h : isNameD n = false := by simpa using h
    refine sm_raise hX (by decide) xrel_InvalidName ?_
    repeat walk_at "yx"
    exact ⟨rfl, _, _, _, _, _, _, rfl, (ErrIs.name _).of (by rw [initO, if_pos h])⟩
  have hn1 : ¬ isNameD n = false := by have h : isNameD n = true := by simpa using h
                                       rw [h]; decide
  refine sm_next (sm_seq (sm_if ?_))
  cases p with
  | obj _ _ _ => cases hp
  | ali _ => cases hp
  | str side =>
    repeat walk_at "yx"
    refine o_niAT rfl rfl ?_
    have hin : inD (.str side) [.str "code", .str "data"] = decide (side ∈ (["code", "data"] : List Str)) := inD_text (ls := ["code", "data"])
    rw [hin]
    refine bl_ex (ways (fun h => ?_) (fun h => ?_))
    · have h : partB (.str side) = false := by show decide _ = false; simpa using h
      refine sm_raise hX (by decide) xrel_InvalidPart ?_
      repeat walk_at "yx"
      exact ⟨rfl, _, _, _, _, _, _, rfl, (ErrIs.part _).of (by rw [initO, if_neg hn1, if_pos h])⟩
    have hm : side ∈ (["code", "data"] : List Str) := of_decide_eq_true (not_f h)
    have hp1 : ¬ partB (.str side) = false := by
      have : partB (.str side) = true := decide_eq_true hm
      rw [this]; decide
    have hsd : side = "code" ∨ side = "data" := side_of hm
    refine sm_next (sm_seq (sm_drop ?_))
    refine ev_callR hX ?_
    repeat walk_at "yx"
    refine need_k hl hsd (fun hno => ?_) (fun C fds e => ?_)
    rotate_left
    · obtain ⟨o, ho⟩ := e.some
      exact ⟨_, _, _, _, _, _, rfl, e.of (by rw [initO, if_neg hn1, if_neg hp1]; show (match needO r side with | some o => some o | none => _) = _; rw [ho])⟩
    have hO : initO n (.str side) r al sc = if stepB al = false then some (("InvalidAlignment" : Str), [al]) else if scopeB sc side = false then some (("InvalidScope" : Str), [sc]) else none := by
      rw [initO, if_neg hn1, if_neg hp1]
      show (match needO r side with | some o => some o | none => _) = _
      rw [hno]; rfl
    have bad : stepB al = false → ErrIs T.er (initO n (.str side) r al sc) T.a_InvalidAlignment (xmk_InvalidAlignment Dt.str [al]) := fun hb => (ErrIs.align (A := T.er) al).of (by rw [hO, if_pos hb])
    refine sm_cut (fun e => e = [.ob a T.a_Piece dx [] [] [], .d n, .d (.str side), .d r, .d al, .d sc, .d kp] ∧ stepB al = true) ?_ ?_
    · refine sm_if ?_
      repeat walk_at "yx"
      refine ev_k T.kd_ALIGNMENTS ?_
      repeat walk_at "yx"
      refine o_ixAT (x := .int 16) rfl ?_
      repeat walk_at "yx"
      refine num_k ha (bl_ex ?_)
      refine ways (fun h => ?_) (fun h => ?_)
      · have h : isNum al 1 16 = false := by simpa using h
        repeat walk_at "yx"
        refine sm_raise hX (by decide) xrel_InvalidAlignment ?_
        repeat walk_at "yx"
        exact ⟨rfl, _, _, _, _, _, _, rfl, bad (by rw [stepB, h]; rfl)⟩
      have h1 : isNum al 1 16 = true := by simpa using h
      cases al with
      | int i =>
        repeat walk_at "yx"
        refine ev_k T.kd_ALIGNMENTS (o_niAT rfl rfl ?_)
        refine bl_ex (ways (fun h => ?_) (fun h => ?_))
        · have h : inD (.int i) [.int 1, .int 2, .int 4, .int 8, .int 16] = false := by simpa using h
          refine sm_raise hX (by decide) xrel_InvalidAlignment ?_
          repeat walk_at "yx"
          exact ⟨rfl, _, _, _, _, _, _, rfl, bad (by rw [stepB, h, Bool.and_false])⟩
        · have h : inD (.int i) [.int 1, .int 2, .int 4, .int 8, .int 16] = true := by simpa using h
          refine sm_next ?_
          exact ⟨rfl, by rw [stepB, h1, h]; rfl⟩
      | _ => cases h1
    rintro es' ⟨rfl, hal⟩
    rw [if_neg (by rw [hal]; decide)] at hO
    refine sm_seq (sm_if ?_)
    repeat walk_at "yx"
    refine sc_k hs (bl_ex ?_)
    refine ways (fun h => ?_) (fun h => ?_)
    · have h : scopeB sc side = false := by simpa using h
      refine sm_raise hX (by decide) xrel_InvalidScope ?_
      repeat walk_at "yx"
      exact ⟨rfl, _, _, _, _, _, _, rfl, (ErrIs.scope _).of (by rw [hO, if_pos h])⟩
    have h : scopeB sc side = true := by simpa using h
    rw [if_neg (by rw [h]; decide)] at hO
    obtain ⟨rs, hrs⟩ : ∃ rs, rowsD r = some rs := by
      cases e : rowsD r with
      | none => rw [needO, e] at hno; cases hno
      | some rs => exact ⟨rs, rfl⟩
    refine sm_next ?_
    refine sm_seq (sm_fld rfl rfl T.c_Piece.cl T.na_Piece_name rfl rfl (by decide) (ev_var rfl ?_))
    refine sm_seq (sm_fld rfl rfl T.c_Piece.cl T.na_Piece_part (by decide +kernel) rfl (by decide) (ev_var rfl ?_))
    refine sm_seq (sm_fld rfl rfl T.c_Piece.cl T.na_Piece_alignment (by decide +kernel) rfl (by decide) (ev_var rfl ?_))
    refine sm_seq (sm_fld rfl rfl T.c_Piece.cl T.na_Piece_scope (by decide +kernel) rfl (by decide) (ev_var rfl ?_))
    refine sm_seq (sm_fld rfl rfl T.c_Piece.cl T.na_Piece_keep (by decide +kernel) rfl (by decide) (ev_var rfl ?_))
    refine sm_fldO rfl rfl T.c_Piece.cl T.na_Piece_own_rows (by decide +kernel) rfl (by decide) (eo_listL (ea_cons (ev_var rfl (ea_nil ⟨rs, ?_, ?_⟩))))
    · cases r <;> first | (cases hrs; first | exact .inl rfl | exact .inr rfl) | cases hrs
    exact ⟨_, rfl, _, _, _, _, _, _, rs, rfl, hO, hrs, rfl⟩
  | _ =>
    repeat walk_at "yx"
    refine sm_raise hX (by decide) xrel_InvalidPart ?_
    repeat walk_at "yx"
    exact ⟨rfl, _, _, _, _, _, _, rfl, (ErrIs.part _).of (by rw [initO, if_neg hn1, if_pos (show partB _ = false from rfl)])⟩
end
end Law
namespace Law
open PySem L2 Y
local macro_rules | `(tactic| walk_at "yv") => `(tactic| ((with_reducible show Ev _ (tVar _) _ _); refine ev_var rfl ?_))
local macro_rules | `(tactic| walk_at "ys") => `(tactic| with_reducible first
  | refine sm_seq ?_ | refine sm_ret ?_ | refine sm_if ?_ | refine sm_set ?_ | refine sm_next ?_ | refine sm_par ?_ | refine sm_drop ?_ | refine sm_brk ?_ | refine sm_cont ?_)
local macro_rules | `(tactic| walk_at "ye") => `(tactic| with_reducible first
  | refine ev_op ?_ | refine ev_and ?_ | refine ev_or ?_ | refine ev_not ?_ | refine ev_if ?_ | refine ev_chain ?_ | refine ev_neg ?_ | refine ev_isInt ?_ | refine ev_isBool ?_ | refine ev_isStr ?_ | refine ev_isList ?_ | refine ev_isTuple ?_ | refine ev_isLT ?_ | refine ev_isDict ?_
  | refine ev_int ?_ | refine ev_str ?_ | refine ev_bl ?_ | refine ev_non ?_ | refine ev_call ?_ | refine ev_cb ?_ | refine ev_lst ?_ | refine ev_tup ?_ | refine ev_join ?_
  | refine ea_nil ?_ | refine ea_cons ?_
  | refine et_B ?_ | refine et_test ?_ | refine et_not ?_ | refine et_and ?_ | refine et_or ?_ | refine et_yes ?_
  | refine o_plusI ?_ | refine o_i0 ?_ | refine o_b0 ?_ | refine o_isN ?_ | refine o_notN ?_
  | refine bl_ex ?_ | refine int_ex ?_ | refine str_ex ?_ | refine lst_ex ?_ | refine tup_ex ?_)
local macro_rules | `(tactic| walk_at "yo") => `(tactic| first
  | ((with_reducible show Ev _ (tOp (rIx _) (tVar _) _) _ _); refine ev_ixOwn rfl ?_)
  | ((with_reducible show Ev _ (tCB _ (tCons (tVar _) tNil)) _ _); refine ev_lenOwn rfl ?_)
  | ((with_reducible show Sm _ (tAsg _ (gSub (tVar _) _ _)) _ _); refine sm_setItem rfl ?_)
  | ((with_reducible show Ev _ (tCall (spB _ _ _) _ _ _) _ _); refine ev_callB rfl rfl ?_))
local macro_rules | `(tactic| walk_at "yc") => `(tactic| first
  | ((with_reducible show CMul _ _); first | exact Or.inr ⟨by decide, by decide⟩ | exact Or.inl ⟨by decide, by decide⟩ | exact Or.inr ⟨by omega, by omega⟩ | exact Or.inl ⟨by omega, by omega⟩)
  | ((with_reducible show CDiv _ _); exact ⟨by first | decide | omega, by first | decide | omega⟩)
  | ((with_reducible show CPow _ _); exact ⟨by decide, by decide, by first | decide | omega⟩)
  | ((show (0 : Int) < _); first | decide | omega))
local macro_rules | `(tactic| walk_at "yd") => `(tactic| first
  | ((with_reducible show plainD _ = true ∧ _); refine ⟨by first | rfl | assumption, ?_⟩)
  | ((with_reducible show (_ = true → _) ∧ (_ = false → _)); first | refine way_t rfl ?_ | refine way_f rfl ?_ | refine way_t (by decide +kernel) ?_ | refine way_f (by decide +kernel) ?_)
  | ((with_reducible show Cal _ _ _ _ _); first | (with_reducible refine c_int ?_) | (with_reducible refine c_abs ?_) | (refine c_len rfl ?_) | (refine c_len (if_pos (by assumption)) ?_))
  | ((with_reducible show Op2 _ (rEqA _) _ _ _ _); refine o_eqA rfl ?_)
  | ((with_reducible show Op2 _ (rNeA _) _ _ _ _); refine o_neA rfl ?_)
  | ((with_reducible show Op2 _ (rInA _) _ (Dt.str _) (Dt.lst _) _); refine o_inAL rfl rfl ?_)
  | ((with_reducible show Op2 _ (rInA _) _ (Dt.str _) (Dt.tup _) _); refine o_inAT rfl rfl ?_)
  | ((with_reducible show Op2 _ (rI _ _) _ _ _ _); refine o_i (by walk_at "yc") ?_)
  | ((with_reducible show Op2 _ (rIx _) _ (Dt.tup _) _ _); refine o_ixAT (atI_toNat (by decide) rfl) ?_)
  | ((with_reducible show Op2 _ (rIx _) _ (Dt.lst _) _ _); refine o_ixAL (atI_toNat (by decide) rfl) ?_)
  | ((with_reducible show ∃ x, atI _ _ = some x ∧ _); refine ⟨_, rfl, ?_⟩)
  | ((with_reducible show ∃ x, ixN _ _ = some x ∧ _); refine ⟨_, rfl, ?_⟩)
  | ((with_reducible show List.length _ ≤ 100000 ∧ _); refine ⟨by (try simp only [List.length_cons, List.length_nil]); first | decide | omega, ?_⟩))
local macro_rules | `(tactic| walk_at "y") => `(tactic| first | walk_at "yo" | walk_at "ye" | walk_at "yv" | walk_at "ys" | walk_at "yd")
local macro_rules | `(tactic| walk_at "yx") => `(tactic| first | walk_at "yo" | walk_at "ye" | walk_at "yv" | walk_at "yd")

/-- what the law hands over: a name, a side, rows, a step, a scope -/
structure GivenOk (t p r al sc : Dt) : Prop where
  t : goodV t = true
  p : okD p = true ∧ plainD p = true
  r : listB r
  al : okD al = true ∧ plainD al = true
  sc : okD sc = true ∧ plainD sc = true
def duePre (ds : List Dt) : Prop := ∃ t p r al sc, ds = [.lst [t, p, r, al, sc]] ∧ GivenOk t p r al sc
def duePost (ds : List Dt) (d : Dt) : Prop := ∃ t p r al sc, ds = [.lst [t, p, r, al, sc]] ∧ d = whyO (initO t p r al sc)
theorem due_k {t p r al sc : Dt} {R : Dt → Prop} (h : GivenOk t p r al sc) (k : R (whyO (initO t p r al sc))) : duePre [.lst [t, p, r, al, sc]] ∧ ∀ d, duePost [.lst [t, p, r, al, sc]] d → R d := ⟨⟨_, _, _, _, _, rfl, h⟩, fun d ⟨_, _, _, _, _, e, e2⟩ => by cases e; rw [e2]; exact k⟩
theorem part_text {p : Dt} : partB p = textIn p ["code", "data"] := by cases p <;> rfl
theorem okD_ints : okD (.lst [.int 1, .int 2, .int 4, .int 8, .int 16]) = true := by decide +kernel
theorem okD_sides : okD (.lst [.str "code", .str "data"]) = true := by decide +kernel
theorem okD_scopes : okD (.lst [.str "local", .str "export", .str "open", .str "weak"]) = true := by decide +kernel
theorem step_in {al : Dt} (hb : isBoolD al = false) : stepB al = inY al [.int 1, .int 2, .int 4, .int 8, .int 16] := by
  cases al with
  | bl b => cases hb
  | int i =>
    have e : inY (.int i) [.int 1, .int 2, .int 4, .int 8, .int 16] = inD (.int i) [.int 1, .int 2, .int 4, .int 8, .int 16] := by
      unfold inY inD
      simp only [pyAll, Dt.py, List.any_cons, List.any_nil, PyData.eqv, eqD]
    rw [e, stepB]
    cases h : inD (.int i) [.int 1, .int 2, .int 4, .int 8, .int 16] with
    | false => rw [Bool.and_false]
    | true =>
      have h2 : (1 == i || (2 == i || (4 == i || (8 == i || (16 == i || false))))) = true := h
      simp only [Bool.or_false, Bool.or_eq_true, beq_iff_eq] at h2
      have : isNum (.int i) 1 16 = true := by
        show (decide (1 ≤ i) && decide (i ≤ 16)) = true
        rw [decide_eq_true (by omega), decide_eq_true (by omega)]; rfl
      rw [this]; rfl
  | _ =>
    unfold inY stepB
    simp only [pyAll, Dt.py, List.any_cons, List.any_nil, PyData.eqv, isNum, Bool.false_and, Bool.or_false]
theorem step_bool {b : Bool} : stepB (.bl b) = false := rfl
section
variable {P : Program} {w : World} {K : PySem.W.Frag} {mg : Str → Option Value} {base : Heap}

theorem ok__law_due (T : Tx K mg w) : FnOk P w K mg base CX0 3 T.a__law_due T.d__law_due ["_law_given"] (spD K duePre duePost) := by
  have G__law_is_title := ok__law_is_title (P := P) (w := w) (base := base) T
  have G__law_code_so := ok__law_code_so (P := P) (w := w) (base := base) T
  have G__law_data_so := ok__law_data_so (P := P) (w := w) (base := base) T
  refine fn_data T.F__law_due sc__law_due (fun ds h => ?_) (fun cdv A outer s H E hr => ⟨_, (pss_cons (ps_asg (pv 0) (pg_unlA (K := K) rfl (pgs_cons (pg_name (i := 1) sc__law_due.nd rfl (Or.inl rfl)) (pgs_cons (pg_name (i := 2) sc__law_due.nd rfl (Or.inl rfl)) (pgs_cons (pg_name (i := 3) sc__law_due.nd rfl (Or.inl rfl)) (pgs_cons (pg_name (i := 4) sc__law_due.nd rfl (Or.inl rfl)) (pgs_cons (pg_name (i := 5) sc__law_due.nd rfl (Or.inl rfl)) pgs_nil)))))))
      (pss_cons (ps_if (pt_not (pt_val (pe_call G__law_is_title (hr.mono (by decide)) (by rfl) T.m__law_is_title T.k__law_is_title T.b__law_is_title .nil pass0 (pa_cons (pv 1) pa_nil)))) (pss_one (ps_ret (pe_tup (pa_cons pe_str (pa_cons (pe_tup (pa_cons (pv 1) pa_nil)) pa_nil))))) pss_nil)
      (pss_cons (ps_if (pt_cmpR (op_niDA (K := K) (un65 hr)) (pv 2) (pe_lst (pa_cons pe_str (pa_cons pe_str pa_nil))) (by rfl)) (pss_one (ps_ret (pe_tup (pa_cons pe_str (pa_cons (pe_tup (pa_cons (pv 2) pa_nil)) pa_nil))))) pss_nil)
      (pss_cons (ps_if (pt_not (pt_val (pe_callB (call_isiTA (K := K)) (by rfl) T.n_isinstance PyProof.Rows.boot_isinstance (pa_cons (pv 3) (pa_cons (pe_tup (pa_cons (pe_bltn (v := .ty "list") (by rfl) T.n_list (by decide +kernel) rfl) (pa_cons (pe_bltn (v := .ty "tuple") (by rfl) T.n_tuple (by decide +kernel) rfl) pa_nil))) pa_nil))))) (pss_one (ps_ret (pe_tup (pa_cons pe_str (pa_cons (pe_tup (pa_cons (pe_un un_neg pe_int) pa_nil)) pa_nil))))) pss_nil)
      (pss_cons (ps_if (pt_cmpR op_gt (pe_callB (call_lenA (K := K)) (by rfl) T.n_len PySem.boot_len (pa_cons (pv 3) pa_nil)) pe_int (nomark _)) (pss_one (ps_ret (pe_tup (pa_cons pe_str (pa_cons (pe_tup (pa_cons pe_int pa_nil)) pa_nil))))) pss_nil)
      (pss_cons (ps_for PassesOwn.never rfl (pi_range1 (by rfl) T.n_range (pa_cons (pe_callB (call_lenA (K := K)) (by rfl) T.n_len PySem.boot_len (pa_cons (pv 3) pa_nil)) pa_nil)) (pg_name (i := 6) sc__law_due.nd rfl (Or.inl rfl)) (pss_one (ps_if (pt_not (pt_ifExp (pt_cmpR (op_eqA (K := K) hr.units) (pv 2) pe_str (nomark _)) (pt_val (pe_call G__law_code_so (hr.mono (by decide)) (by rfl) T.m__law_code_so T.k__law_code_so T.b__law_code_so .nil pass0 (pa_cons (pe_ix (ix_any (K := K)) (pv 3) (pv 6) (fun _ _ => rfl)) pa_nil))) (pt_val (pe_call G__law_data_so (hr.mono (by decide)) (by rfl) T.m__law_data_so T.k__law_data_so T.b__law_data_so .nil pass0 (pa_cons (pe_ix (ix_any (K := K)) (pv 3) (pv 6) (fun _ _ => rfl)) pa_nil))))) (pss_one (ps_ret (pe_tup (pa_cons pe_str (pa_cons (pe_tup (pa_cons (pv 6) pa_nil)) pa_nil))))) pss_nil)))
      (pss_cons (ps_if (PW.pt (pw_and (pt_cmpR (op_eqA (K := K) hr.units) (pv 2) pe_str (nomark _)) (pw_and1 (PW.pt (pw_or (pt_cmpR (op_eqA (K := K) hr.units) (pe_callB (call_lenA (K := K)) (by rfl) T.n_len PySem.boot_len (pa_cons (pv 3) pa_nil)) pe_int (nomark _)) (pw_or1 (pt_cmpR (op_niA (K := K)) (pe_ix (ix_any (K := K)) (pe_ix (ix_any (K := K)) (pv 3) (pe_un un_neg pe_int) (fun _ _ => rfl)) pe_int (fun _ _ => rfl)) (pe_lst (pa_cons pe_str (pa_cons pe_str (pa_cons pe_str pa_nil)))) (by rfl)))))))) (pss_one (ps_ret (pe_tup (pa_cons pe_str (pa_cons (pe_tup pa_nil) pa_nil))))) pss_nil)
      (pss_cons (ps_if (PW.pt (pw_or (pt_val (pe_callB (call_isiA (K := K)) (by rfl) T.n_isinstance PyProof.Rows.boot_isinstance (pa_cons (pv 4) (pa_cons (pe_bltn (v := .ty "bool") (by rfl) T.n_bool (by decide +kernel) rfl) pa_nil)))) (pw_or1 (pt_cmpR (op_niDA (K := K) (un65 hr)) (pv 4) (pe_lst (pa_cons pe_int (pa_cons pe_int (pa_cons pe_int (pa_cons pe_int (pa_cons pe_int pa_nil)))))) (by rfl))))) (pss_one (ps_ret (pe_tup (pa_cons pe_str (pa_cons (pe_tup (pa_cons (pv 4) pa_nil)) pa_nil))))) pss_nil)
      (pss_cons (ps_if (PW.pt (pw_or (pt_cmpR (op_niDA (K := K) (un65 hr)) (pv 5) (pe_lst (pa_cons pe_str (pa_cons pe_str (pa_cons pe_str (pa_cons pe_str pa_nil))))) (by rfl)) (pw_or1 (PW.pt (pw_and (pt_cmpR (op_eqA (K := K) hr.units) (pv 5) pe_str (nomark _)) (pw_and1 (pt_cmpR (op_eqA (K := K) hr.units) (pv 2) pe_str (nomark _)))))))) (pss_one (ps_ret (pe_tup (pa_cons pe_str (pa_cons (pe_tup (pa_cons (pv 5) pa_nil)) pa_nil))))) pss_nil)
      (pss_one (ps_ret (pe_tup (pa_cons pe_str (pa_cons pe_non pa_nil)))))))))))))), fun F0 H0 ds h => ?_⟩)
  · obtain ⟨t, p, r, al, sc, rfl, _⟩ := h; rfl
  obtain ⟨t, p, r, al, sc, rfl, ht, ⟨hp, hpp⟩, ⟨hrp, hrl⟩, ⟨ha, hap⟩, ⟨hs, hsp⟩⟩ := h
  dsimp only [cxOf, env0, env1, List.map, List.length, List.replicate, List.cons_append, List.nil_append, List.append, Nat.reduceAdd, Nat.reduceSub, Nat.zero_add]
  refine sm_seq (sm_asg (ev_var rfl ?_))
  refine tg_unl rfl (tgs_cons (tg_name (tgs_cons (tg_name (tgs_cons (tg_name (tgs_cons (tg_name (tgs_cons (tg_name (tgs_nil ?_)))))))))))
  refine sm_seq (sm_if ?_)
  repeat walk_at "yx"
  refine name_k (goodV_pre ht) (bl_ex ?_)
  refine ways (fun h => ?_) (fun h => ?_)
  · have h : isNameD t = false := by simpa using h
    repeat walk_at "y"
    exact ⟨_, _, _, _, _, rfl, by rw [initO, if_pos h]; rfl⟩
  have hn1 : ¬ isNameD t = false := by have h : isNameD t = true := by simpa using h
                                       rw [h]; decide
  refine sm_next (sm_seq (sm_if ?_))
  repeat walk_at "yx"
  refine o_niDA hp okD_sides ?_
  have e1 : inY p [.str "code", .str "data"] = partB p := by rw [part_text]; exact inY_text (ls := ["code", "data"])
  rw [e1]
  refine bl_ex (ways (fun h => ?_) (fun h => ?_))
  · have h : partB p = false := by simpa using h
    repeat walk_at "y"
    exact ⟨_, _, _, _, _, rfl, by rw [initO, if_neg hn1, if_pos h]; rfl⟩
  have hp1 : partB p = true := by simpa using h
  have hp2 : ¬ partB p = false := by rw [hp1]; decide
  obtain ⟨side, rfl, hsd⟩ : ∃ side : Str, p = .str side ∧ (side = "code" ∨ side = "data") := by
    cases p with
    | str z => exact ⟨z, rfl, side_of (of_decide_eq_true hp1)⟩
    | _ => cases hp1
  have hI : initO t (.str side) r al sc = match needO r side with
      | some o => some o
      | none => if stepB al = false then some (("InvalidAlignment" : Str), [al]) else if scopeB sc side = false then some (("InvalidScope" : Str), [sc]) else none := by
    rw [initO, if_neg hn1, if_neg hp2]; rfl
  refine sm_next (sm_seq (sm_if (et_not (et_B (ev_isLT (ev_var rfl ⟨hrp, ?_⟩))))))
  refine bl_ex (ways (fun h => ?_) (fun h => ?_))
  · have hn : rowsD r = none := rows_none (not_t h)
    repeat walk_at "y"
    exact ⟨_, _, _, _, _, rfl, by rw [hI, needO, hn]; rfl⟩
  obtain ⟨rs, hrs, hx⟩ := rows_some (not_f h)
  obtain ⟨hl100, hth⟩ := hrl rs hrs
  have hO : needO r side = rowsO rs side := by rw [needO, hrs]
  have hln : lenD r = some rs.length := by rcases hx with rfl | rfl <;> rfl
  have hat : ∀ {i : Int} {y : Dt} {B : Bs} {es : List Sl} {P : Dt → Prop}, atI rs i = some y → P y → Op2 B (rIx B.K) es r (.int i) P := fun ha hq => by
    rcases hx with rfl | rfl
    · exact o_ixAL ha hq
    · exact o_ixAT ha hq
  clear hrl
  refine sm_next (sm_seq (sm_if (et_B (ev_op (ev_cb (ea_cons (ev_var rfl (ea_nil (c_len hln ?_)))))))))
  repeat walk_at "yx"
  refine ways (fun h => ?_) (fun h => ?_)
  · have h : (rs.length : Int) > 16 := of_decide_eq_true h
    repeat walk_at "y"
    exact ⟨_, _, _, _, _, rfl, by rw [hI, hO, rowsO, if_pos (by omega)]; rfl⟩
  have h16 : ¬ 16 < rs.length := by
    have h : ¬ ((rs.length : Int) > 16) := of_decide_eq_false h
    omega
  refine sm_next ?_
  refine sm_cut (fun e => ∃ s6, e = [.d (.lst [t, .str side, r, al, sc]), .d t, .d (.str side), .d r, .d al, .d sc, s6] ∧ ∀ j, j < rs.length → ∀ y, rs[j]? = some y → rowFor side y = true) ?_ ?_
  · refine sm_for (ei_rng1 (ea_cons (ev_cb (ea_cons (ev_var rfl (ea_nil (c_len hln (ea_nil ?_))))))))
    refine ⟨_, rfl, by omega, by omega, fun i e => ∃ s6, e = [.d (.lst [t, .str side, r, al, sc]), .d t, .d (.str side), .d r, .d al, .d sc, s6] ∧ ∀ j, j < i → ∀ y, rs[j]? = some y → rowFor side y = true, ⟨_, rfl, fun j hj => by omega⟩, ?_, ?_⟩
    · rintro j x es' hx2 ⟨s6, rfl, hJ⟩
      obtain ⟨hj, rfl⟩ := rangeD_get hx2
      rw [Int.toNat_natCast] at hj
      obtain ⟨y, hy⟩ : ∃ y, rs[j]? = some y := ⟨rs[j], List.getElem?_eq_getElem hj⟩
      have hty := hth y (List.mem_of_getElem? hy)
      have hai : atI rs (0 + (j : Int)) = some y := atI_toNat (by omega) (by rw [Int.zero_add, Int.toNat_natCast]; exact hy)
      have good : rowFor side y = true → ∀ i, i < j + 1 → ∀ y, rs[i]? = some y → rowFor side y = true := fun hg i hi z hz => by
        by_cases e : i = j
        · subst e; rw [hy] at hz; cases hz; exact hg
        · exact hJ i (by omega) z hz
      have bad : rowFor side y = false → whyO (initO t (.str side) r al sc) = .tup [.str "InvalidRow", .tup [.int (0 + (j : Int))]] := fun hb => by
        rw [hI, hO, rowsO, if_neg h16, find_bad (p := fun d => !rowFor side d) hy (by rw [hb]; rfl) fun i hi z hz => by rw [hJ i hi z hz]; rfl, Int.zero_add]; rfl
      refine tg_name ?_
      refine sm_if (et_not (et_if ?_))
      repeat walk_at "yx"
      refine ways (fun h => ?_) (fun h => ?_)
      · have h : side = "code" := of_decide_eq_true h
        have hf : rowFor side y = codeRow y := by rw [rowFor, if_pos h]
        repeat walk_at "yx"
        refine hat hai ?_
        repeat walk_at "yx"
        refine isCode_k hty (bl_ex ?_)
        rw [← hf]
        refine ways (fun h2 => ?_) (fun h2 => ?_)
        · repeat walk_at "y"
          exact ⟨_, _, _, _, _, rfl, (bad (by simpa using h2)).symm⟩
        · refine sm_next ?_
          exact ⟨_, rfl, good (by simpa using h2)⟩
      · have h : ¬ side = "code" := of_decide_eq_false h
        have hf : rowFor side y = dataRow y := by rw [rowFor, if_neg h]
        repeat walk_at "yx"
        refine hat hai ?_
        repeat walk_at "yx"
        refine isData_k hty (bl_ex ?_)
        rw [← hf]
        refine ways (fun h2 => ?_) (fun h2 => ?_)
        · repeat walk_at "y"
          exact ⟨_, _, _, _, _, rfl, (bad (by simpa using h2)).symm⟩
        · refine sm_next ?_
          exact ⟨_, rfl, good (by simpa using h2)⟩
    · rintro es' ⟨s6, rfl, hJ⟩
      exact ⟨_, rfl, fun j hj y hy => hJ j (by rw [rangeD_len, Int.toNat_natCast]; exact hj) y hy⟩
  rintro es' ⟨s6, rfl, hA⟩
  have hF : rs.findIdx? (fun d => !rowFor side d) = none := find_none fun j hj y hy => by rw [hA j hj y hy]; rfl
  have hO2 : needO r side = if side = "code" ∧ lastB rs = false then some (("NotClosing" : Str), []) else none := by rw [hO, rowsO, if_neg h16, hF]
  refine sm_cut (fun e => e = [.d (.lst [t, .str side, r, al, sc]), .d t, .d (.str side), .d r, .d al, .d sc, s6] ∧ needO r side = none) ?_ ?_
  · refine sm_if ?_
    repeat walk_at "yx"
    refine ways (fun h => ?_) (fun h => ?_)
    · have h : side = "code" := of_decide_eq_true h
      have stop : lastB rs = false → whyO (initO t (.str side) r al sc) = .tup [.str "NotClosing", .tup []] := fun hb => by rw [hI, hO2, if_pos ⟨h, hb⟩]; rfl
      have pass : lastB rs = true → needO r side = none := fun hb => by rw [hO2, if_neg fun z => by rw [hb] at z; cases z.2]
      refine et_or (et_B (ev_op (ev_cb (ea_cons (ev_var rfl (ea_nil (c_len hln ?_)))))))
      repeat walk_at "yx"
      rcases List.eq_nil_or_concat rs with e | ⟨l, d, e⟩
      · subst e
        refine way_t rfl ?_
        repeat walk_at "y"
        exact ⟨_, _, _, _, _, rfl, (stop rfl).symm⟩
      · rw [List.concat_eq_append] at e
        subst e
        have hd : rowFor side d = true := hA l.length (by simp) d (by simp)
        obtain ⟨z, rr, rfl⟩ := row_word hd
        have hlast : lastB (l ++ [.tup (.str z :: rr)]) = inD (.str z) [.str "jump", .str "halt", .str "back"] := by simp [lastB, closeB]
        refine way_f (decide_eq_false (by rw [List.length_append]; simp; omega)) ?_
        refine et_B (ev_op (ev_op (ev_op (ev_var rfl (ev_neg (ev_int (int_ex ?_)))))))
        refine hat (atI_last _ _) ?_
        repeat walk_at "yx"
        refine o_niAL rfl rfl ?_
        rw [← hlast]
        refine bl_ex (ways (fun h2 => ?_) (fun h2 => ?_))
        · repeat walk_at "y"
          exact ⟨_, _, _, _, _, rfl, (stop (by simpa using h2)).symm⟩
        · refine sm_next ?_
          exact ⟨rfl, pass (by simpa using h2)⟩
    · have h : ¬ side = "code" := of_decide_eq_false h
      repeat walk_at "yx"
      refine sm_next ?_
      exact ⟨rfl, by rw [hO2, if_neg fun z => h z.1]⟩
  rintro es' ⟨rfl, hno⟩
  rw [hno] at hI
  have hI : initO t (.str side) r al sc = if stepB al = false then some (("InvalidAlignment" : Str), [al]) else if scopeB sc side = false then some (("InvalidScope" : Str), [sc]) else none := hI
  have badA : stepB al = false → whyO (initO t (.str side) r al sc) = .tup [.str "InvalidAlignment", .tup [al]] := fun hb => by rw [hI, if_pos hb]; rfl
  refine sm_cut (fun e => e = [.d (.lst [t, .str side, r, al, sc]), .d t, .d (.str side), .d r, .d al, .d sc, s6] ∧ stepB al = true) ?_ ?_
  · refine sm_if ?_
    repeat walk_at "yx"
    refine ways (fun h => ?_) (fun h => ?_)
    · have hb : stepB al = false := by cases al <;> first | rfl | cases h
      repeat walk_at "y"
      exact ⟨_, _, _, _, _, rfl, (badA hb).symm⟩
    · repeat walk_at "yx"
      refine o_niDA ha okD_ints ?_
      rw [← step_in h]
      refine bl_ex (ways (fun h2 => ?_) (fun h2 => ?_))
      · repeat walk_at "y"
        exact ⟨_, _, _, _, _, rfl, (badA (by simpa using h2)).symm⟩
      · refine sm_next ?_
        exact ⟨rfl, by simpa using h2⟩
  rintro es' ⟨rfl, hal⟩
  rw [if_neg (by rw [hal]; decide)] at hI
  have badS : scopeB sc side = false → whyO (initO t (.str side) r al sc) = .tup [.str "InvalidScope", .tup [sc]] := fun hb => by rw [hI, if_pos hb]; rfl
  have okS : scopeB sc side = true → whyO (initO t (.str side) r al sc) = .tup [.str "", .non] := fun hb => by rw [hI, if_neg (by rw [hb]; decide)]; rfl
  refine sm_seq (sm_if ?_)
  repeat walk_at "yx"
  refine o_niDA hs okD_scopes ?_
  have e2 : inY sc [.str "local", .str "export", .str "open", .str "weak"] = textIn sc scopesL := inY_text (ls := scopesL)
  rw [e2]
  refine bl_ex (ways (fun h => ?_) (fun h => ?_))
  · have h : textIn sc scopesL = false := by simpa using h
    have hb : scopeB sc side = false := by
      cases sc with
      | str z => show (decide (z ∈ scopesL) && _) = false; rw [show decide (z ∈ scopesL) = false from h]; rfl
      | _ => rfl
    repeat walk_at "y"
    exact ⟨_, _, _, _, _, rfl, (badS hb).symm⟩
  have h : textIn sc scopesL = true := by simpa using h
  obtain ⟨z, rfl, hz⟩ : ∃ z, sc = .str z ∧ decide (z ∈ scopesL) = true := by
    cases sc with
    | str z => exact ⟨z, rfl, h⟩
    | _ => cases h
  have hB : scopeB (.str z) side = !(decide (side = "data") && decide (z = "open")) := by show (decide (z ∈ scopesL) && _) = _; rw [hz]; rfl
  repeat walk_at "yx"
  refine ways (fun h1 => ?_) (fun h1 => ?_)
  · have h1 : decide (z = "open") = true := h1
    repeat walk_at "yx"
    refine ways (fun h2 => ?_) (fun h2 => ?_)
    · have h2 : decide (side = "data") = true := h2
      repeat walk_at "y"
      exact ⟨_, _, _, _, _, rfl, (badS (by rw [hB, h1, h2]; rfl)).symm⟩
    · have h2 : decide (side = "data") = false := h2
      repeat walk_at "y"
      exact ⟨_, _, _, _, _, rfl, (okS (by rw [hB, h2]; rfl)).symm⟩
  · have h1 : decide (z = "open") = false := h1
    repeat walk_at "y"
    exact ⟨_, _, _, _, _, rfl, (okS (by rw [hB, h1, Bool.and_false]; rfl)).symm⟩
end
end Law
namespace Law
open PySem L2 Y
local macro_rules | `(tactic| walk_at "yv") => `(tactic| ((with_reducible show Ev _ (tVar _) _ _); refine ev_var rfl ?_))
local macro_rules | `(tactic| walk_at "ys") => `(tactic| with_reducible first
  | refine sm_seq ?_ | refine sm_ret ?_ | refine sm_if ?_ | refine sm_set ?_ | refine sm_next ?_ | refine sm_par ?_ | refine sm_drop ?_ | refine sm_brk ?_ | refine sm_cont ?_)
local macro_rules | `(tactic| walk_at "ye") => `(tactic| with_reducible first
  | refine ev_op ?_ | refine ev_and ?_ | refine ev_or ?_ | refine ev_not ?_ | refine ev_if ?_ | refine ev_chain ?_ | refine ev_neg ?_ | refine ev_isInt ?_ | refine ev_isBool ?_ | refine ev_isStr ?_ | refine ev_isList ?_ | refine ev_isTuple ?_ | refine ev_isLT ?_ | refine ev_isDict ?_
  | refine ev_int ?_ | refine ev_str ?_ | refine ev_bl ?_ | refine ev_non ?_ | refine ev_call ?_ | refine ev_cb ?_ | refine ev_lst ?_ | refine ev_tup ?_ | refine ev_join ?_
  | refine ea_nil ?_ | refine ea_cons ?_
  | refine et_B ?_ | refine et_test ?_ | refine et_not ?_ | refine et_and ?_ | refine et_or ?_ | refine et_yes ?_
  | refine o_plusI ?_ | refine o_i0 ?_ | refine o_b0 ?_ | refine o_isN ?_ | refine o_notN ?_
  | refine bl_ex ?_ | refine int_ex ?_ | refine str_ex ?_ | refine lst_ex ?_ | refine tup_ex ?_)
local macro_rules | `(tactic| walk_at "yo") => `(tactic| first
  | ((with_reducible show Ev _ (tOp (rIx _) (tVar _) _) _ _); refine ev_ixOwn rfl ?_)
  | ((with_reducible show Ev _ (tCB _ (tCons (tVar _) tNil)) _ _); refine ev_lenOwn rfl ?_)
  | ((with_reducible show Sm _ (tAsg _ (gSub (tVar _) _ _)) _ _); refine sm_setItem rfl ?_)
  | ((with_reducible show Ev _ (tCall (spB _ _ _) _ _ _) _ _); refine ev_callB rfl rfl ?_))
local macro_rules | `(tactic| walk_at "yc") => `(tactic| first
  | ((with_reducible show CMul _ _); first | exact Or.inr ⟨by decide, by decide⟩ | exact Or.inl ⟨by decide, by decide⟩ | exact Or.inr ⟨by omega, by omega⟩ | exact Or.inl ⟨by omega, by omega⟩)
  | ((with_reducible show CDiv _ _); exact ⟨by first | decide | omega, by first | decide | omega⟩)
  | ((with_reducible show CPow _ _); exact ⟨by decide, by decide, by first | decide | omega⟩)
  | ((show (0 : Int) < _); first | decide | omega))
local macro_rules | `(tactic| walk_at "yd") => `(tactic| first
  | ((with_reducible show plainD _ = true ∧ _); refine ⟨by first | rfl | assumption, ?_⟩)
  | ((with_reducible show (_ = true → _) ∧ (_ = false → _)); first | refine way_t rfl ?_ | refine way_f rfl ?_ | refine way_t (by decide +kernel) ?_ | refine way_f (by decide +kernel) ?_)
  | ((with_reducible show Cal _ _ _ _ _); first | (with_reducible refine c_int ?_) | (with_reducible refine c_abs ?_) | (refine c_len rfl ?_) | (refine c_len (if_pos (by assumption)) ?_))
  | ((with_reducible show Op2 _ (rEqA _) _ _ _ _); refine o_eqA rfl ?_)
  | ((with_reducible show Op2 _ (rNeA _) _ _ _ _); refine o_neA rfl ?_)
  | ((with_reducible show Op2 _ (rInA _) _ (Dt.str _) (Dt.lst _) _); refine o_inAL rfl rfl ?_)
  | ((with_reducible show Op2 _ (rInA _) _ (Dt.str _) (Dt.tup _) _); refine o_inAT rfl rfl ?_)
  | ((with_reducible show Op2 _ (rI _ _) _ _ _ _); refine o_i (by walk_at "yc") ?_)
  | ((with_reducible show Op2 _ (rIx _) _ (Dt.tup _) _ _); refine o_ixAT (atI_toNat (by decide) rfl) ?_)
  | ((with_reducible show Op2 _ (rIx _) _ (Dt.lst _) _ _); refine o_ixAL (atI_toNat (by decide) rfl) ?_)
  | ((with_reducible show ∃ x, atI _ _ = some x ∧ _); refine ⟨_, rfl, ?_⟩)
  | ((with_reducible show ∃ x, ixN _ _ = some x ∧ _); refine ⟨_, rfl, ?_⟩)
  | ((with_reducible show List.length _ ≤ 100000 ∧ _); refine ⟨by (try simp only [List.length_cons, List.length_nil]); first | decide | omega, ?_⟩))
local macro_rules | `(tactic| walk_at "y") => `(tactic| first | walk_at "yo" | walk_at "ye" | walk_at "yv" | walk_at "ys" | walk_at "yd")
local macro_rules | `(tactic| walk_at "yx") => `(tactic| first | walk_at "yo" | walk_at "ye" | walk_at "yv" | walk_at "yd")

theorem getF_rows {n p al sc kp : Dt} {rs : List Dt} : getF pieceNs [n, p, al, sc, kp, .lst rs] "own_rows" = some (.lst rs) := by
  unfold getF
  repeat (first | rw [if_pos rfl] | (rw [if_neg (by decide +kernel)]; unfold getF))
def objPre (C : Addr) (ds : List Dt) : Prop := ∃ (n p al sc kp : Dt) (rs : List Dt), ds = [.obj C pieceNs [n, p, al, sc, kp, .lst rs]] ∧ rs.length ≤ 100
def lenPost (C : Addr) (ds : List Dt) (d : Dt) : Prop := ∃ (n p al sc kp : Dt) (rs : List Dt), ds = [.obj C pieceNs [n, p, al, sc, kp, .lst rs]] ∧ d = .int (rs.length : Nat)
theorem listB_of {x : Dt} {rs : List Dt} (h : rowsD x = some rs) (hp : plainD x = true) (h2 : (decide (rs.length ≤ 100) && rs.all thingB) = true) : listB x := ⟨hp, fun r e => by
  rw [h] at e
  cases e
  rw [Bool.and_eq_true] at h2
  exact ⟨of_decide_eq_true h2.1, fun d hd => List.all_eq_true.mp h2.2 d hd⟩⟩
section
variable {P : Program} {w : World} {K : PySem.W.Frag} {mg : Str → Option Value} {base : Heap}

theorem ok_Piece___len__ (T : Tx K mg w) : FnOk P w K mg base CX0 1 T.a_Piece___len__ T.d_Piece___len__ ["self"] (spD K (objPre T.a_Piece) (lenPost T.a_Piece)) := by
  refine fn_data T.F_Piece___len__ sc_Piece___len__ (fun ds h => ?_) (fun cdv A outer s H E hr => ⟨_, (pss_one (ps_ret (pe_callB (call_lenA (K := K)) (by rfl) T.n_len PySem.boot_len (pa_cons (pe_fldA (K := K) (pv 0) rfl) pa_nil)))), fun F0 H0 ds h => ?_⟩)
  · obtain ⟨n, p, al, sc, kp, rs, rfl, _⟩ := h; rfl
  obtain ⟨n, p, al, sc, kp, rs, rfl, hl⟩ := h
  dsimp only [cxOf, env0, env1, List.map, List.length, List.replicate, List.cons_append, List.nil_append, List.append, Nat.reduceAdd, Nat.reduceSub, Nat.zero_add]
  refine sm_ret (ev_cb (ea_cons (ev_fld T.c_Piece.cl T.na_Piece_own_rows (ev_var rfl ⟨_, _, _, rfl, getF_rows, ?_⟩))))
  repeat walk_at "yx"
  exact ⟨_, _, _, _, _, _, rfl, rfl⟩
end
end Law
namespace Law
open PySem L2 Y
local macro_rules | `(tactic| walk_at "yv") => `(tactic| ((with_reducible show Ev _ (tVar _) _ _); refine ev_var rfl ?_))
local macro_rules | `(tactic| walk_at "ys") => `(tactic| with_reducible first
  | refine sm_seq ?_ | refine sm_ret ?_ | refine sm_if ?_ | refine sm_set ?_ | refine sm_next ?_ | refine sm_par ?_ | refine sm_drop ?_ | refine sm_brk ?_ | refine sm_cont ?_)
local macro_rules | `(tactic| walk_at "ye") => `(tactic| with_reducible first
  | refine ev_op ?_ | refine ev_and ?_ | refine ev_or ?_ | refine ev_not ?_ | refine ev_if ?_ | refine ev_chain ?_ | refine ev_neg ?_ | refine ev_isInt ?_ | refine ev_isBool ?_ | refine ev_isStr ?_ | refine ev_isList ?_ | refine ev_isTuple ?_ | refine ev_isLT ?_ | refine ev_isDict ?_
  | refine ev_int ?_ | refine ev_str ?_ | refine ev_bl ?_ | refine ev_non ?_ | refine ev_call ?_ | refine ev_cb ?_ | refine ev_lst ?_ | refine ev_tup ?_ | refine ev_join ?_
  | refine ea_nil ?_ | refine ea_cons ?_
  | refine et_B ?_ | refine et_test ?_ | refine et_not ?_ | refine et_and ?_ | refine et_or ?_ | refine et_yes ?_
  | refine o_plusI ?_ | refine o_i0 ?_ | refine o_b0 ?_ | refine o_isN ?_ | refine o_notN ?_
  | refine bl_ex ?_ | refine int_ex ?_ | refine str_ex ?_ | refine lst_ex ?_ | refine tup_ex ?_)
local macro_rules | `(tactic| walk_at "yo") => `(tactic| first
  | ((with_reducible show Ev _ (tOp (rIx _) (tVar _) _) _ _); refine ev_ixOwn rfl ?_)
  | ((with_reducible show Ev _ (tCB _ (tCons (tVar _) tNil)) _ _); refine ev_lenOwn rfl ?_)
  | ((with_reducible show Sm _ (tAsg _ (gSub (tVar _) _ _)) _ _); refine sm_setItem rfl ?_)
  | ((with_reducible show Ev _ (tCall (spB _ _ _) _ _ _) _ _); refine ev_callB rfl rfl ?_))
local macro_rules | `(tactic| walk_at "yc") => `(tactic| first
  | ((with_reducible show CMul _ _); first | exact Or.inr ⟨by decide, by decide⟩ | exact Or.inl ⟨by decide, by decide⟩ | exact Or.inr ⟨by omega, by omega⟩ | exact Or.inl ⟨by omega, by omega⟩)
  | ((with_reducible show CDiv _ _); exact ⟨by first | decide | omega, by first | decide | omega⟩)
  | ((with_reducible show CPow _ _); exact ⟨by decide, by decide, by first | decide | omega⟩)
  | ((show (0 : Int) < _); first | decide | omega))
local macro_rules | `(tactic| walk_at "yd") => `(tactic| first
  | ((with_reducible show plainD _ = true ∧ _); refine ⟨by first | rfl | assumption, ?_⟩)
  | ((with_reducible show (_ = true → _) ∧ (_ = false → _)); first | refine way_t rfl ?_ | refine way_f rfl ?_ | refine way_t (by decide +kernel) ?_ | refine way_f (by decide +kernel) ?_)
  | ((with_reducible show Cal _ _ _ _ _); first | (with_reducible refine c_int ?_) | (with_reducible refine c_abs ?_) | (refine c_len rfl ?_) | (refine c_len (if_pos (by assumption)) ?_))
  | ((with_reducible show Op2 _ (rEqA _) _ _ _ _); refine o_eqA rfl ?_)
  | ((with_reducible show Op2 _ (rNeA _) _ _ _ _); refine o_neA rfl ?_)
  | ((with_reducible show Op2 _ (rInA _) _ (Dt.str _) (Dt.lst _) _); refine o_inAL rfl rfl ?_)
  | ((with_reducible show Op2 _ (rInA _) _ (Dt.str _) (Dt.tup _) _); refine o_inAT rfl rfl ?_)
  | ((with_reducible show Op2 _ (rI _ _) _ _ _ _); refine o_i (by walk_at "yc") ?_)
  | ((with_reducible show Op2 _ (rIx _) _ (Dt.tup _) _ _); refine o_ixAT (atI_toNat (by decide) rfl) ?_)
  | ((with_reducible show Op2 _ (rIx _) _ (Dt.lst _) _ _); refine o_ixAL (atI_toNat (by decide) rfl) ?_)
  | ((with_reducible show ∃ x, atI _ _ = some x ∧ _); refine ⟨_, rfl, ?_⟩)
  | ((with_reducible show ∃ x, ixN _ _ = some x ∧ _); refine ⟨_, rfl, ?_⟩)
  | ((with_reducible show List.length _ ≤ 100000 ∧ _); refine ⟨by (try simp only [List.length_cons, List.length_nil]); first | decide | omega, ?_⟩))
local macro_rules | `(tactic| walk_at "y") => `(tactic| first | walk_at "yo" | walk_at "ye" | walk_at "yv" | walk_at "ys" | walk_at "yd")
local macro_rules | `(tactic| walk_at "yx") => `(tactic| first | walk_at "yo" | walk_at "ye" | walk_at "yv" | walk_at "yd")

theorem cutD_mem {α : Type} {xs : List α} {lo hi : Option Int} {x : α} (h : x ∈ cutD xs lo hi) : x ∈ xs := List.mem_of_mem_drop (List.mem_of_mem_take h)
theorem cutD_len {α : Type} (xs : List α) (lo hi : Option Int) : (cutD xs lo hi).length ≤ xs.length := by unfold cutD; rw [List.length_take, List.length_drop]; omega
structure ThL (n : Nat) (xs : List Dt) : Prop where
  len : xs.length ≤ n
  all : ∀ d ∈ xs, thingB d = true
theorem ThL.cut {n : Nat} {xs : List Dt} (h : ThL n xs) (lo hi : Option Int) : ThL n (cutD xs lo hi) := ⟨Nat.le_trans (cutD_len xs lo hi) h.len, fun d hd => h.all d (cutD_mem hd)⟩
theorem ThL.app {n m : Nat} {xs ys : List Dt} (h : ThL n xs) (h2 : ThL m ys) : ThL (n + m) (xs ++ ys) := ⟨by rw [List.length_append]; have := h.len; have := h2.len; omega, fun d hd => (List.mem_append.mp hd).elim (h.all d) (h2.all d)⟩
theorem ThL.one {x : Dt} (h : thingB x = true) : ThL 1 [x] := ⟨by simp, fun d hd => by rw [List.mem_singleton.mp hd]; exact h⟩
theorem ThL.rep {x : Dt} (h : thingB x = true) (n : Nat) : ThL n (List.replicate n [x]).flatten := ⟨by simp, fun d hd => by
  simp only [List.mem_flatten, List.mem_replicate] at hd
  obtain ⟨l, ⟨_, rfl⟩, e⟩ := hd
  rw [List.mem_singleton.mp e]; exact h⟩
theorem ThL.listB {n : Nat} {xs : List Dt} (h : ThL n xs) (hn : n ≤ 100) : listB (.lst xs) := ⟨rfl, fun rs e => by cases e; exact ⟨Nat.le_trans h.len hn, h.all⟩⟩
theorem ThL.two {n m : Nat} {xs ys : List Dt} (h : ThL n xs) (h2 : ThL m ys) (hs : n + m ≤ 100000) : xs.length + ys.length ≤ 100000 := by have := h.len; have := h2.len; omega
theorem th_nil : ThL 0 [] := ⟨Nat.le_refl 0, fun d hd => nomatch hd⟩
theorem listB_no {x : Dt} (h : plainD x = true) (hn : rowsD x = none) : listB x := ⟨h, fun rs e => by rw [hn] at e; cases e⟩
theorem mdl_rows_ok {m : Mdl} (h : m.ok) : okD (.lst m.rows) = true := by
  obtain ⟨h1, h2, h3, _⟩ := h.rows1
  have hl := h.rw.len
  refine okD_of ?_ ?_ ?_
  · simp only [Dt.pureD, h1, Bool.and_true, decide_eq_true_eq]; omega
  · simp only [layD, h2]
  · simp only [Dt.depth]; omega
theorem mdl_things {m : Mdl} (h : m.ok) : ThL 16 m.rows := ⟨h.rw.len, fun r hr => by
  have e := rowFor_row (h.rw.each r hr)
  rw [Bool.or_eq_true] at e
  rcases e with e | e
  · exact rowS_thing (rowS_code e)
  · exact rowS_thing (rowS_data e)⟩
def wroPost (_ : List Dt) (d : Dt) : Prop := listB d
theorem wro_k {m : Mdl} {R : Dt → Prop} (h1 : m.ok) (h : ∀ d, listB d → R d) : dtPre [m.dt] ∧ ∀ d, wroPost [m.dt] d → R d := ⟨⟨m, rfl, h1⟩, h⟩
section
variable {P : Program} {w : World} {K : PySem.W.Frag} {mg : Str → Option Value} {base : Heap}

local macro_rules | `(tactic| walk_at "yo") => `(tactic| first
  | ((with_reducible show Ev _ (tSl _ _ _ _) _ _); refine EvO.ev (eo_slL ?_))
  | ((with_reducible show Ev _ (tOp rRep _ _) _ _); refine EvO.ev (eo_rep ?_))
  | ((with_reducible show EvP _ tNoPart _ _); refine ep_none ?_)
  | ((with_reducible show EvP _ (tPart _) _ _); refine ep_some ?_)
  | ((with_reducible show Cal _ (rListB _) _ [.lst _] _); refine c_listL ?_))
theorem ok__law_wrong_rows (T : Tx K mg w) : FnOk P w K mg base CX0 3 T.a__law_wrong_rows T.d__law_wrong_rows ["_law_bag_here", "_law_model"] (spB K dtPre wroPost) := by
  have G__law_draw := ok__law_draw (P := P) (w := w) (base := base) T
  have G__law_of := ok__law_of (P := P) (w := w) (base := base) T
  refine fn_bag T.F__law_wrong_rows sc__law_wrong_rows (fun ds h => ?_) (fun cdv A outer s H E hr => ⟨_, (pss_cons (ps_par rfl sc__law_wrong_rows.nd (i := 2) (j := 3) rfl rfl (by decide) rfl rfl (pa_cons (pe_ix (ix_any (K := K)) (pv 1) pe_int (fun _ _ => rfl)) (pa_cons (pe_callTy (call_listB (K := K) rfl) (by rfl) T.n_list PyProof.Rows.boot_list (pa_cons (pe_ix (ix_any (K := K)) (pv 1) pe_int (fun _ _ => rfl)) pa_nil)) pa_nil)) rfl)
      (pss_cons (ps_par rfl sc__law_wrong_rows.nd (i := 4) (j := 5) rfl rfl (by decide) rfl rfl (pa_cons (pe_call G__law_draw (hr.mono (by decide)) (by rfl) T.m__law_draw T.k__law_draw T.b__law_draw .nil pass0 (pa_cons (pv 0) (pa_cons pe_int pa_nil))) (pa_cons (pe_call G__law_draw (hr.mono (by decide)) (by rfl) T.m__law_draw T.k__law_draw T.b__law_draw .nil pass0 (pa_cons (pv 0) (pa_cons (pe_op (op_plus (K := K)) (pe_callB (call_lenA (K := K)) (by rfl) T.n_len PySem.boot_len (pa_cons (pv 3) pa_nil)) pe_int) pa_nil))) pa_nil)) rfl)
      (pss_cons (ps_set (i := 6) sc__law_wrong_rows.nd rfl (Or.inl rfl) (pe_call G__law_of (hr.mono (by decide)) (by rfl) T.m__law_of T.k__law_of T.b__law_of .nil pass0 (pa_cons (pv 0) (pa_cons (pe_lst (pa_cons pe_non (pa_cons (pe_lst (pa_cons pe_str pa_nil)) (pa_cons (pe_tup (pa_cons pe_str (pa_cons pe_int pa_nil))) (pa_cons (pe_tup (pa_cons pe_str (pa_cons pe_str (pa_cons pe_int pa_nil)))) (pa_cons (pe_tup (pa_cons pe_str (pa_cons pe_str (pa_cons pe_int pa_nil)))) (pa_cons (pe_tup (pa_cons pe_str (pa_cons pe_int pa_nil))) (pa_cons pe_str (pa_cons pe_int (pa_cons (pe_tup (pa_cons pe_str (pa_cons (pe_un un_neg pe_int) pa_nil))) pa_nil)))))))))) pa_nil))))
      (pss_cons (ps_set (i := 6) sc__law_wrong_rows.nd rfl (Or.inl rfl) (pe_call G__law_of (hr.mono (by decide)) (by rfl) T.m__law_of T.k__law_of T.b__law_of .nil pass0 (pa_cons (pv 0) (pa_cons (pe_lst (pa_cons (pv 6) (pa_cons (pe_ifExp (pt_cmpR (op_eqA (K := K) hr.units) (pv 2) pe_str (nomark _)) (pe_tup (pa_cons pe_str (pa_cons pe_int pa_nil))) (pe_tup (pa_cons pe_str pa_nil))) (pa_cons (pe_ifExp (pt_cmpR (op_eqA (K := K) hr.units) (pv 2) pe_str (nomark _)) (pe_tup (pa_cons pe_str (pa_cons pe_str pa_nil))) (pe_tup (pa_cons pe_str pa_nil))) pa_nil)))) pa_nil))))
      (pss_cons (ps_if (pt_cmpR (op_eqA (K := K) hr.units) (pv 4) pe_int (nomark _)) (pss_one (ps_ret (pe_call G__law_of (hr.mono (by decide)) (by rfl) T.m__law_of T.k__law_of T.b__law_of .nil pass0 (pa_cons (pv 0) (pa_cons (pe_lst (pa_cons pe_non (pa_cons pe_int (pa_cons pe_str (pa_cons pe_bl pa_nil))))) pa_nil))))) pss_nil)
      (pss_cons (ps_if (pt_cmpR (op_eqA (K := K) hr.units) (pv 4) pe_int (nomark _)) (pss_one (ps_ret (pe_op (op_plus (K := K)) (pe_op (op_plus (K := K)) (pe_slice (sl_any (K := K)) (pv 3) po_none (po_some (pv 5))) (pe_lst (pa_cons (pv 6) pa_nil))) (pe_slice (sl_any (K := K)) (pv 3) (po_some (pv 5)) po_none)))) pss_nil)
      (pss_cons (ps_if (pt_cmpR (op_eqA (K := K) hr.units) (pv 4) pe_int (nomark _)) (pss_one (ps_ret (pe_op op_rep (pe_lst (pa_cons (pv 6) pa_nil)) pe_int))) pss_nil)
      (pss_cons (ps_if (pt_cmpR (op_eqA (K := K) hr.units) (pv 4) pe_int (nomark _)) (pss_one (ps_ret (pe_ifExp (pt_cmpR (op_neA (K := K) hr.units) (pv 3) (pe_lst pa_nil) (nomark _)) (pe_op (op_plus (K := K)) (pe_op op_rep (pe_lst (pa_cons (pe_tup (pa_cons pe_str (pa_cons pe_int pa_nil))) pa_nil)) pe_int) (pe_slice (sl_any (K := K)) (pv 3) (po_some (pe_un un_neg pe_int)) po_none)) (pe_op op_rep (pe_lst (pa_cons (pe_tup (pa_cons pe_str (pa_cons pe_int pa_nil))) pa_nil)) pe_int)))) pss_nil)
      (pss_cons (ps_if (pt_cmpR (op_eqA (K := K) hr.units) (pv 4) pe_int (nomark _)) (pss_one (ps_ret (pe_ifExp (pt_cmpR (op_neA (K := K) hr.units) (pv 3) (pe_lst pa_nil) (nomark _)) (pe_slice (sl_any (K := K)) (pv 3) po_none (po_some (pe_op op_sub (pe_callB (call_lenA (K := K)) (by rfl) T.n_len PySem.boot_len (pa_cons (pv 3) pa_nil)) pe_int))) (pe_lst pa_nil)))) pss_nil)
      (pss_one (ps_ret (pe_ifExp (pt_cmpR (op_eqA (K := K) hr.units) (pv 4) pe_int (nomark _)) (pe_op (op_plus (K := K)) (pe_op op_rep (pe_lst (pa_cons (pe_tup (pa_cons pe_str (pa_cons pe_int pa_nil))) pa_nil)) pe_int) (pe_slice (sl_any (K := K)) (pv 3) (po_some (pe_un un_neg pe_int)) po_none)) (pv 3))))))))))))), fun F0 H0 b ds h => ?_⟩)
  · obtain ⟨m, rfl, _⟩ := h; rfl
  obtain ⟨m, rfl, hm⟩ := h
  have hT := (mdl_things hm)
  have hO := (mdl_rows_ok hm)
  have hsd := hm.sd
  obtain ⟨t, side, rows, al, sc, kp⟩ := m
  dsimp only at hT hO hsd
  dsimp only [Mdl.dt]
  dsimp only [cxOf, env0, env1, List.map, List.length, List.replicate, List.cons_append, List.nil_append, List.append, Nat.reduceAdd, Nat.reduceSub, Nat.zero_add]
  refine sm_seq (sm_par ?_)
  repeat walk_at "yx"
  refine ⟨_, _, rfl, ?_⟩
  refine sm_seq (sm_par ?_)
  repeat walk_at "yx"
  refine draw_k ⟨by decide, by decide⟩ fun wy w0 w1 => ?_
  repeat walk_at "yx"
  refine draw_k ⟨by omega, by have := hT.len; omega⟩ fun sp s0 s1 => ?_
  refine ea_nil ⟨_, _, rfl, ?_⟩
  refine sm_seq (sm_set ?_)
  repeat walk_at "yx"
  refine of_k ⟨by show 0 < 9; decide, by show 9 ≤ 100000; decide⟩ fun st0 hst0 => ?_
  have h0 : thingB st0 = true := all_mem (p := thingB) (by decide +kernel) hst0
  clear hst0
  refine sm_seq (sm_set ?_)
  rcases hsd with rfl | rfl
  all_goals (
    repeat walk_at "yx"
    refine of_k ⟨by show 0 < 3; decide, by show 3 ≤ 100000; decide⟩ fun st hst => ?_
    have h1 : thingB st = true := by
      simp only [List.mem_cons, List.not_mem_nil, or_false] at hst
      rcases hst with rfl | rfl | rfl
      · exact h0
      · decide +kernel
      · decide +kernel
    clear hst
    refine sm_seq (sm_if ?_)
    repeat walk_at "yx"
    refine ways (fun h => ?_) (fun h => ?_)
    · repeat walk_at "y"
      refine of_k ⟨by show 0 < 4; decide, by show 4 ≤ 100000; decide⟩ fun d hd => ?_
      simp only [List.mem_cons, List.not_mem_nil, or_false] at hd
      rcases hd with rfl | rfl | rfl | rfl <;> exact listB_no rfl rfl
    refine sm_next (sm_seq (sm_if ?_))
    repeat walk_at "yx"
    refine ways (fun h => ?_) (fun h => ?_)
    · refine sm_ret ?_
      repeat walk_at "yx"
      refine o_plusL ((hT.cut _ _).two (ThL.one h1) (by decide)) ?_
      repeat walk_at "yx"
      exact o_plusL (((hT.cut _ _).app (ThL.one h1)).two (hT.cut _ _) (by decide)) ((((hT.cut _ _).app (ThL.one h1)).app (hT.cut _ _)).listB (by decide))
    refine sm_next (sm_seq (sm_if ?_))
    repeat walk_at "yx"
    refine ways (fun h => ?_) (fun h => ?_)
    · refine sm_ret ?_
      repeat walk_at "yx"
      exact ⟨⟨by decide, by decide, by simp⟩, (ThL.rep h1 _).listB (by decide)⟩
    refine sm_next (sm_seq (sm_if ?_))
    repeat walk_at "yx"
    refine ways (fun h => ?_) (fun h => ?_)
    · refine sm_ret ?_
      repeat walk_at "yx"
      refine o_neAD hO (by decide +kernel) (bl_ex ?_)
      refine ways (fun h => ?_) (fun h => ?_)
      · repeat walk_at "yx"
        refine ⟨⟨by decide, by decide, by decide⟩, ?_⟩
        repeat walk_at "yx"
        exact o_plusL ((ThL.rep (by decide +kernel) _).two (hT.cut _ _) (by decide)) (((ThL.rep (by decide +kernel) _).app (hT.cut _ _)).listB (by decide))
      · repeat walk_at "yx"
        exact ⟨⟨by decide, by decide, by decide⟩, (ThL.rep (by decide +kernel) _).listB (by decide)⟩
    refine sm_next (sm_seq (sm_if ?_))
    repeat walk_at "yx"
    refine ways (fun h => ?_) (fun h => ?_)
    · refine sm_ret ?_
      repeat walk_at "yx"
      refine o_neAD hO (by decide +kernel) (bl_ex ?_)
      refine ways (fun h => ?_) (fun h => ?_)
      · repeat walk_at "yx"
        exact (hT.cut _ _).listB (by decide)
      · repeat walk_at "yx"
        exact th_nil.listB (by decide)
    refine sm_next (sm_ret ?_)
    repeat walk_at "yx"
    refine ways (fun h => ?_) (fun h => ?_)
    · repeat walk_at "yx"
      refine ⟨⟨by decide, by decide, by decide⟩, ?_⟩
      repeat walk_at "yx"
      exact o_plusL ((ThL.rep (by decide +kernel) _).two (hT.cut _ _) (by decide)) (((ThL.rep (by decide +kernel) _).app (hT.cut _ _)).listB (by decide))
    · repeat walk_at "yx"
      exact hT.listB (by decide))
end
end Law
namespace Law
open PySem L2 Y
local macro_rules | `(tactic| walk_at "yv") => `(tactic| ((with_reducible show Ev _ (tVar _) _ _); refine ev_var rfl ?_))
local macro_rules | `(tactic| walk_at "ys") => `(tactic| with_reducible first
  | refine sm_seq ?_ | refine sm_ret ?_ | refine sm_if ?_ | refine sm_set ?_ | refine sm_next ?_ | refine sm_par ?_ | refine sm_drop ?_ | refine sm_brk ?_ | refine sm_cont ?_)
local macro_rules | `(tactic| walk_at "ye") => `(tactic| with_reducible first
  | refine ev_op ?_ | refine ev_and ?_ | refine ev_or ?_ | refine ev_not ?_ | refine ev_if ?_ | refine ev_chain ?_ | refine ev_neg ?_ | refine ev_isInt ?_ | refine ev_isBool ?_ | refine ev_isStr ?_ | refine ev_isList ?_ | refine ev_isTuple ?_ | refine ev_isLT ?_ | refine ev_isDict ?_
  | refine ev_int ?_ | refine ev_str ?_ | refine ev_bl ?_ | refine ev_non ?_ | refine ev_call ?_ | refine ev_cb ?_ | refine ev_lst ?_ | refine ev_tup ?_ | refine ev_join ?_
  | refine ea_nil ?_ | refine ea_cons ?_
  | refine et_B ?_ | refine et_test ?_ | refine et_not ?_ | refine et_and ?_ | refine et_or ?_ | refine et_yes ?_
  | refine o_plusI ?_ | refine o_i0 ?_ | refine o_b0 ?_ | refine o_isN ?_ | refine o_notN ?_
  | refine bl_ex ?_ | refine int_ex ?_ | refine str_ex ?_ | refine lst_ex ?_ | refine tup_ex ?_)
local macro_rules | `(tactic| walk_at "yo") => `(tactic| first
  | ((with_reducible show Ev _ (tOp (rIx _) (tVar _) _) _ _); refine ev_ixOwn rfl ?_)
  | ((with_reducible show Ev _ (tCB _ (tCons (tVar _) tNil)) _ _); refine ev_lenOwn rfl ?_)
  | ((with_reducible show Sm _ (tAsg _ (gSub (tVar _) _ _)) _ _); refine sm_setItem rfl ?_)
  | ((with_reducible show Ev _ (tCall (spB _ _ _) _ _ _) _ _); refine ev_callB rfl rfl ?_))
local macro_rules | `(tactic| walk_at "yc") => `(tactic| first
  | ((with_reducible show CMul _ _); first | exact Or.inr ⟨by decide, by decide⟩ | exact Or.inl ⟨by decide, by decide⟩ | exact Or.inr ⟨by omega, by omega⟩ | exact Or.inl ⟨by omega, by omega⟩)
  | ((with_reducible show CDiv _ _); exact ⟨by first | decide | omega, by first | decide | omega⟩)
  | ((with_reducible show CPow _ _); exact ⟨by decide, by decide, by first | decide | omega⟩)
  | ((show (0 : Int) < _); first | decide | omega))
local macro_rules | `(tactic| walk_at "yd") => `(tactic| first
  | ((with_reducible show plainD _ = true ∧ _); refine ⟨by first | rfl | assumption, ?_⟩)
  | ((with_reducible show (_ = true → _) ∧ (_ = false → _)); first | refine way_t rfl ?_ | refine way_f rfl ?_ | refine way_t (by decide +kernel) ?_ | refine way_f (by decide +kernel) ?_)
  | ((with_reducible show Cal _ _ _ _ _); first | (with_reducible refine c_int ?_) | (with_reducible refine c_abs ?_) | (refine c_len rfl ?_) | (refine c_len (if_pos (by assumption)) ?_))
  | ((with_reducible show Op2 _ (rEqA _) _ _ _ _); refine o_eqA rfl ?_)
  | ((with_reducible show Op2 _ (rNeA _) _ _ _ _); refine o_neA rfl ?_)
  | ((with_reducible show Op2 _ (rInA _) _ (Dt.str _) (Dt.lst _) _); refine o_inAL rfl rfl ?_)
  | ((with_reducible show Op2 _ (rInA _) _ (Dt.str _) (Dt.tup _) _); refine o_inAT rfl rfl ?_)
  | ((with_reducible show Op2 _ (rI _ _) _ _ _ _); refine o_i (by walk_at "yc") ?_)
  | ((with_reducible show Op2 _ (rIx _) _ (Dt.tup _) _ _); refine o_ixAT (atI_toNat (by decide) rfl) ?_)
  | ((with_reducible show Op2 _ (rIx _) _ (Dt.lst _) _ _); refine o_ixAL (atI_toNat (by decide) rfl) ?_)
  | ((with_reducible show ∃ x, atI _ _ = some x ∧ _); refine ⟨_, rfl, ?_⟩)
  | ((with_reducible show ∃ x, ixN _ _ = some x ∧ _); refine ⟨_, rfl, ?_⟩)
  | ((with_reducible show List.length _ ≤ 100000 ∧ _); refine ⟨by (try simp only [List.length_cons, List.length_nil]); first | decide | omega, ?_⟩))
local macro_rules | `(tactic| walk_at "y") => `(tactic| first | walk_at "yo" | walk_at "ye" | walk_at "yv" | walk_at "ys" | walk_at "yd")
local macro_rules | `(tactic| walk_at "yx") => `(tactic| first | walk_at "yo" | walk_at "ye" | walk_at "yv" | walk_at "yd")
theorem err_InvalidName {K : PySem.W.Frag} {mg : Str → Option Value} {w : World} (T : Tx K mg w) (z0 : Dt) : ErrD K T.a_ImageError T.a_Missing T.a_InvalidName (xmk_InvalidName Dt.str [z0]) "InvalidName" [z0] where
  ex := T.ex_InvalidName
  xf := T.xf_InvalidName
  no := fun n d h => by
    have h : List.lookup n [(("value" : Str), (z0 : Dt)), (("code" : Str), (.str "InvalidName" : Dt))] = some d := h
    rw [List.lookup_cons] at h
    split at h
    · rename_i e
      rw [beq_iff_eq.mp e]; exact T.no_InvalidName_value
    · skip
      rw [List.lookup_cons] at h
      split at h
      · rename_i e
        rw [beq_iff_eq.mp e]; exact T.no_InvalidName_code
      · skip
        cases h
  cd := rfl
  fld := rfl
  ne := by decide
theorem err_InvalidPart {K : PySem.W.Frag} {mg : Str → Option Value} {w : World} (T : Tx K mg w) (z0 : Dt) : ErrD K T.a_ImageError T.a_Missing T.a_InvalidPart (xmk_InvalidPart Dt.str [z0]) "InvalidPart" [z0] where
  ex := T.ex_InvalidPart
  xf := T.xf_InvalidPart
  no := fun n d h => by
    have h : List.lookup n [(("value" : Str), (z0 : Dt)), (("code" : Str), (.str "InvalidPart" : Dt))] = some d := h
    rw [List.lookup_cons] at h
    split at h
    · rename_i e
      rw [beq_iff_eq.mp e]; exact T.no_InvalidPart_value
    · skip
      rw [List.lookup_cons] at h
      split at h
      · rename_i e
        rw [beq_iff_eq.mp e]; exact T.no_InvalidPart_code
      · skip
        cases h
  cd := rfl
  fld := rfl
  ne := by decide
theorem err_InvalidAlignment {K : PySem.W.Frag} {mg : Str → Option Value} {w : World} (T : Tx K mg w) (z0 : Dt) : ErrD K T.a_ImageError T.a_Missing T.a_InvalidAlignment (xmk_InvalidAlignment Dt.str [z0]) "InvalidAlignment" [z0] where
  ex := T.ex_InvalidAlignment
  xf := T.xf_InvalidAlignment
  no := fun n d h => by
    have h : List.lookup n [(("value" : Str), (z0 : Dt)), (("code" : Str), (.str "InvalidAlignment" : Dt))] = some d := h
    rw [List.lookup_cons] at h
    split at h
    · rename_i e
      rw [beq_iff_eq.mp e]; exact T.no_InvalidAlignment_value
    · skip
      rw [List.lookup_cons] at h
      split at h
      · rename_i e
        rw [beq_iff_eq.mp e]; exact T.no_InvalidAlignment_code
      · skip
        cases h
  cd := rfl
  fld := rfl
  ne := by decide
theorem err_InvalidScope {K : PySem.W.Frag} {mg : Str → Option Value} {w : World} (T : Tx K mg w) (z0 : Dt) : ErrD K T.a_ImageError T.a_Missing T.a_InvalidScope (xmk_InvalidScope Dt.str [z0]) "InvalidScope" [z0] where
  ex := T.ex_InvalidScope
  xf := T.xf_InvalidScope
  no := fun n d h => by
    have h : List.lookup n [(("value" : Str), (z0 : Dt)), (("code" : Str), (.str "InvalidScope" : Dt))] = some d := h
    rw [List.lookup_cons] at h
    split at h
    · rename_i e
      rw [beq_iff_eq.mp e]; exact T.no_InvalidScope_value
    · skip
      rw [List.lookup_cons] at h
      split at h
      · rename_i e
        rw [beq_iff_eq.mp e]; exact T.no_InvalidScope_code
      · skip
        cases h
  cd := rfl
  fld := rfl
  ne := by decide
theorem err_InvalidRow {K : PySem.W.Frag} {mg : Str → Option Value} {w : World} (T : Tx K mg w) (z0 : Dt) : ErrD K T.a_ImageError T.a_Missing T.a_InvalidRow (xmk_InvalidRow Dt.str [z0]) "InvalidRow" [z0] where
  ex := T.ex_InvalidRow
  xf := T.xf_InvalidRow
  no := fun n d h => by
    have h : List.lookup n [(("at" : Str), (z0 : Dt)), (("code" : Str), (.str "InvalidRow" : Dt))] = some d := h
    rw [List.lookup_cons] at h
    split at h
    · rename_i e
      rw [beq_iff_eq.mp e]; exact T.no_InvalidRow_at
    · skip
      rw [List.lookup_cons] at h
      split at h
      · rename_i e
        rw [beq_iff_eq.mp e]; exact T.no_InvalidRow_code
      · skip
        cases h
  cd := rfl
  fld := rfl
  ne := by decide
theorem err_NotClosing {K : PySem.W.Frag} {mg : Str → Option Value} {w : World} (T : Tx K mg w) : ErrD K T.a_ImageError T.a_Missing T.a_NotClosing (xmk_NotClosing Dt.str []) "NotClosing" [] where
  ex := T.ex_NotClosing
  xf := T.xf_NotClosing
  no := fun n d h => by
    have h : List.lookup n [(("code" : Str), (.str "NotClosing" : Dt))] = some d := h
    rw [List.lookup_cons] at h
    split at h
    · rename_i e
      rw [beq_iff_eq.mp e]; exact T.no_NotClosing_code
    · skip
      cases h
  cd := rfl
  fld := rfl
  ne := by decide
theorem err_TooMany {K : PySem.W.Frag} {mg : Str → Option Value} {w : World} (T : Tx K mg w) (z0 : Dt) : ErrD K T.a_ImageError T.a_Missing T.a_TooMany (xmk_TooMany Dt.str [z0]) "TooMany" [z0] where
  ex := T.ex_TooMany
  xf := T.xf_TooMany
  no := fun n d h => by
    have h : List.lookup n [(("most" : Str), (z0 : Dt)), (("code" : Str), (.str "TooMany" : Dt))] = some d := h
    rw [List.lookup_cons] at h
    split at h
    · rename_i e
      rw [beq_iff_eq.mp e]; exact T.no_TooMany_most
    · skip
      rw [List.lookup_cons] at h
      split at h
      · rename_i e
        rw [beq_iff_eq.mp e]; exact T.no_TooMany_code
      · skip
        cases h
  cd := rfl
  fld := rfl
  ne := by decide

theorem err_of {K : PySem.W.Frag} {mg : Str → Option Value} {w : World} (T : Tx K mg w) {o : Out} {C : Addr} {fds : List (Str × Dt)} (h : ErrIs T.er o C fds) : ∃ code xs, ErrD K T.a_ImageError T.a_Missing C fds code xs ∧ errP o code xs := by
  cases h with
  | name z => exact ⟨_, _, err_InvalidName T z, rfl⟩
  | part z => exact ⟨_, _, err_InvalidPart T z, rfl⟩
  | align z => exact ⟨_, _, err_InvalidAlignment T z, rfl⟩
  | scope z => exact ⟨_, _, err_InvalidScope T z, rfl⟩
  | row z => exact ⟨_, _, err_InvalidRow T z, rfl⟩
  | closing => exact ⟨_, _, err_NotClosing T, rfl⟩
  | many z => exact ⟨_, _, err_TooMany T z, rfl⟩
theorem ini_k {A : ErrA} {C : Addr} {n p r al sc kp : Dt} {R : Dt → Prop} {PE : Addr → List (Str × Dt) → Prop} (h : (plainD n = true ∧ txtOk n) ∧ plainD p = true ∧ listB r ∧ plainD al = true ∧ plainD sc = true)
    (k : initO n p r al sc = none → ∀ rs, rowsD r = some rs → R (.obj C pieceNs [n, p, al, sc, kp, .lst rs])) (ke : ∀ C fds, ErrIs A (initO n p r al sc) C fds → PE C fds) :
    iniPre [n, p, r, al, sc, kp] ∧ (∀ xs, iniPost [n, p, r, al, sc, kp] xs → R (.obj C pieceNs xs)) ∧ ∀ C' fds, iniErr A [n, p, r, al, sc, kp] C' fds → PE C' fds :=
  ⟨⟨n, p, r, al, sc, kp, rfl, h⟩, fun xs ⟨_, _, _, _, _, _, rs, e, h1, h2, e2⟩ => by cases e; rw [e2]; exact k h1 rs h2, fun C' fds ⟨_, _, _, _, _, _, e, h1⟩ => by cases e; exact ke C' fds h1⟩
theorem ini_kN {A : ErrA} {C : Addr} {n p r al sc kp : Dt} {gD : List Dt → List Dt → List Dt} {ds as : List Dt} {R : Dt → Prop} {PE : Addr → List (Str × Dt) → Prop} (hg : ∀ x, gD (.ali x :: ds) as = .ali x :: [n, p, r, al, sc, kp]) (h : (plainD n = true ∧ txtOk n) ∧ plainD p = true ∧ listB r ∧ plainD al = true ∧ plainD sc = true)
    (k : initO n p r al sc = none → ∀ rs, rowsD r = some rs → R (.obj C pieceNs [n, p, al, sc, kp, .lst rs])) (ke : ∀ C fds, ErrIs A (initO n p r al sc) C fds → PE C fds) :
    ∃ ds', (∀ x, gD (.ali x :: ds) as = .ali x :: ds') ∧ iniPre ds' ∧ (∀ xs, iniPost ds' xs → R (.obj C pieceNs xs)) ∧ ∀ C' fds, iniErr A ds' C' fds → PE C' fds := ⟨_, hg, ini_k h k ke⟩
theorem len_k {C : Addr} {n p al sc kp : Dt} {rs : List Dt} {R : Dt → Prop} (h : rs.length ≤ 100) (k : R (.int (rs.length : Nat))) : ∃ ns xs, Dt.obj C pieceNs [n, p, al, sc, kp, .lst rs] = .obj C ns xs ∧ objPre C [Dt.obj C pieceNs [n, p, al, sc, kp, .lst rs]] ∧ ∀ r, lenPost C [Dt.obj C pieceNs [n, p, al, sc, kp, .lst rs]] r → ∃ n : Nat, r = .int n ∧ n < 2 ^ 62 ∧ R r :=
  ⟨_, _, rfl, ⟨_, _, _, _, _, _, rfl, h⟩, fun r ⟨_, _, _, _, _, _, e, e2⟩ => by cases e; exact ⟨_, e2, by omega, by rw [e2]; exact k⟩⟩
theorem ini_kL {A : ErrA} {C : Addr} {n p r al sc kp : Dt} {R : Dt → Prop} {PE : Addr → List (Str × Dt) → Prop} (h : (plainD n = true ∧ txtOk n) ∧ plainD p = true ∧ listB r ∧ plainD al = true ∧ plainD sc = true)
    (k : initO n p r al sc = none → ∀ d, R d) (ke : ∀ C fds, ErrIs A (initO n p r al sc) C fds → PE C fds) :
    iniPre [n, p, r, al, sc, kp] ∧ (∀ xs, iniPost [n, p, r, al, sc, kp] xs → ∃ ns ys, Dt.obj C pieceNs xs = .obj C ns ys ∧ objPre C [Dt.obj C pieceNs xs] ∧ ∀ r, lenPost C [Dt.obj C pieceNs xs] r → ∃ n : Nat, r = .int n ∧ n < 2 ^ 62 ∧ R r) ∧ ∀ C' fds, iniErr A [n, p, r, al, sc, kp] C' fds → PE C' fds :=
  ini_k (R := fun d => ∃ ns ys, d = .obj C ns ys ∧ objPre C [d] ∧ ∀ r, lenPost C [d] r → ∃ n : Nat, r = .int n ∧ n < 2 ^ 62 ∧ R r) h (fun h0 rs hr => len_k ((h.2.2.1.2 rs hr).1) (k h0 _)) ke
def rooms15 : List Dt := (List.replicate 15 [Dt.tup [.str "room", .int 1]]).flatten
def end1 : List Dt := [.tup [.str "halt"]]
def roomL : List Dt := [.tup [.str "room", .int 1]]
theorem th_rooms : ThL 15 rooms15 := ThL.rep (by decide +kernel) 15
theorem th_end : ThL 1 end1 := ThL.one (by decide +kernel)
theorem th_room : ThL 1 roomL := ThL.one (by decide +kernel)
theorem th_none : ThL 1 [Dt.non] := ThL.one (by decide +kernel)
theorem th_none2 : ThL 2 [Dt.non, .non] := th_none.app th_none
def wso : List Out := [
  initO (.str "a") (.str "code") (.lst (rooms15 ++ end1)) (.int 1) (.str "local"),
  initO (.str "a") (.str "code") (.lst ((rooms15 ++ roomL) ++ end1)) (.int 1) (.str "local"),
  initO (.str "a") (.str "data") (.lst (rooms15 ++ roomL)) (.int 1) (.str "local"),
  initO (.str "a") (.str "data") (.lst (rooms15 ++ [.non, .non])) (.int 1) (.str "local"),
  initO (.str "a") (.str "code") (.lst []) (.int 1) (.str "local"),
  initO (.str "a") (.str "code") (.lst rooms15) (.int 1) (.str "local"),
  initO (.str "a") (.str "code") (.lst (end1 ++ [.tup [.str "out", .str "r0"]])) (.int 1) (.str "local"),
  initO (.str "a") (.str "data") (.lst []) (.int 1) (.str "local"),
  initO (.str "a") (.str "data") (.lst end1) (.int 1) (.str "open"),
  initO (.str "a") (.str "data") (.lst []) (.int 1) (.str "open"),
  initO (.str "A") (.str "Data") .non (.int 0) (.str ""),
  initO (.str "a") (.str "code") (.lst [.non]) (.int 0) (.str "local")]
def wsd : List Dt := [.tup [.str "", .non], .tup [.str "TooMany", .tup [.int 16]], .tup [.str "", .non], .tup [.str "TooMany", .tup [.int 16]], .tup [.str "NotClosing", .tup []], .tup [.str "NotClosing", .tup []], .tup [.str "NotClosing", .tup []], .tup [.str "", .non],
  .tup [.str "InvalidRow", .tup [.int 0]], .tup [.str "InvalidScope", .tup [.str "open"]], .tup [.str "InvalidName", .tup [.str "A"]], .tup [.str "InvalidRow", .tup [.int 0]]]
theorem wso_wsd : wso.map whyO = wsd := by kernel_rfl
theorem gkr_Piece___init___4_scope {K : PySem.W.Frag} : ∀ (F : Hp) (vs : List V) (ds : List Dt) (zs : List V) (as : List Dt), RpAll K F vs ds → RpAll K F zs as → RpAll K F (gk_Piece___init___4_scope [(.int 1), (.bl false)] vs zs) (gk_Piece___init___4_scope [(.int 1), (.bl false)] ds as) := by
  intro F vs ds zs as h1 h2
  cases h1 with
  | nil => first | exact .nil | (cases h2 <;> exact .nil)
  | cons a0 t10 =>
    cases t10 with
    | nil => first | exact .nil | (cases h2 <;> exact .nil)
    | cons a1 t11 =>
      cases t11 with
      | nil => first | exact .nil | (cases h2 <;> exact .nil)
      | cons a2 t12 =>
        cases t12 with
        | nil => first | exact .nil | (cases h2 <;> exact .nil)
        | cons a3 t13 =>
          cases t13 with
          | cons _ _ => first | exact .nil | (cases h2 <;> exact .nil)
          | nil =>
            cases h2 with
            | nil => exact .nil
            | cons b0 t20 =>
              cases t20 with
              | cons _ _ => exact .nil
              | nil =>
                exact .cons a0 (.cons a1 (.cons a2 (.cons a3 (.cons (.int 1) (.cons b0 (.cons (.bl false) .nil))))))
theorem gkr_Piece___init___4_alignment_scope {K : PySem.W.Frag} : ∀ (F : Hp) (vs : List V) (ds : List Dt) (zs : List V) (as : List Dt), RpAll K F vs ds → RpAll K F zs as → RpAll K F (gk_Piece___init___4_alignment_scope [(.bl false)] vs zs) (gk_Piece___init___4_alignment_scope [(.bl false)] ds as) := by
  intro F vs ds zs as h1 h2
  cases h1 with
  | nil => first | exact .nil | (cases h2 <;> exact .nil)
  | cons a0 t10 =>
    cases t10 with
    | nil => first | exact .nil | (cases h2 <;> exact .nil)
    | cons a1 t11 =>
      cases t11 with
      | nil => first | exact .nil | (cases h2 <;> exact .nil)
      | cons a2 t12 =>
        cases t12 with
        | nil => first | exact .nil | (cases h2 <;> exact .nil)
        | cons a3 t13 =>
          cases t13 with
          | cons _ _ => first | exact .nil | (cases h2 <;> exact .nil)
          | nil =>
            cases h2 with
            | nil => exact .nil
            | cons b0 t20 =>
              cases t20 with
              | nil => exact .nil
              | cons b1 t21 =>
                cases t21 with
                | cons _ _ => exact .nil
                | nil =>
                  exact .cons a0 (.cons a1 (.cons a2 (.cons a3 (.cons b0 (.cons b1 (.cons (.bl false) .nil))))))
theorem gkr_Piece___init___4_alignment {K : PySem.W.Frag} : ∀ (F : Hp) (vs : List V) (ds : List Dt) (zs : List V) (as : List Dt), RpAll K F vs ds → RpAll K F zs as → RpAll K F (gk_Piece___init___4_alignment [(.str "local"), (.bl false)] vs zs) (gk_Piece___init___4_alignment [(.str "local"), (.bl false)] ds as) := by
  intro F vs ds zs as h1 h2
  cases h1 with
  | nil => first | exact .nil | (cases h2 <;> exact .nil)
  | cons a0 t10 =>
    cases t10 with
    | nil => first | exact .nil | (cases h2 <;> exact .nil)
    | cons a1 t11 =>
      cases t11 with
      | nil => first | exact .nil | (cases h2 <;> exact .nil)
      | cons a2 t12 =>
        cases t12 with
        | nil => first | exact .nil | (cases h2 <;> exact .nil)
        | cons a3 t13 =>
          cases t13 with
          | cons _ _ => first | exact .nil | (cases h2 <;> exact .nil)
          | nil =>
            cases h2 with
            | nil => exact .nil
            | cons b0 t20 =>
              cases t20 with
              | cons _ _ => exact .nil
              | nil =>
                exact .cons a0 (.cons a1 (.cons a2 (.cons a3 (.cons b0 (.cons (.str "local") (.cons (.bl false) .nil))))))
theorem gkr_Piece___init___4_alignment_scope_keep {K : PySem.W.Frag} : ∀ (F : Hp) (vs : List V) (ds : List Dt) (zs : List V) (as : List Dt), RpAll K F vs ds → RpAll K F zs as → RpAll K F (gk_Piece___init___4_alignment_scope_keep vs zs) (gk_Piece___init___4_alignment_scope_keep ds as) := by
  intro F vs ds zs as h1 h2
  cases h1 with
  | nil => first | exact .nil | (cases h2 <;> exact .nil)
  | cons a0 t10 =>
    cases t10 with
    | nil => first | exact .nil | (cases h2 <;> exact .nil)
    | cons a1 t11 =>
      cases t11 with
      | nil => first | exact .nil | (cases h2 <;> exact .nil)
      | cons a2 t12 =>
        cases t12 with
        | nil => first | exact .nil | (cases h2 <;> exact .nil)
        | cons a3 t13 =>
          cases t13 with
          | cons _ _ => first | exact .nil | (cases h2 <;> exact .nil)
          | nil =>
            cases h2 with
            | nil => exact .nil
            | cons b0 t20 =>
              cases t20 with
              | nil => exact .nil
              | cons b1 t21 =>
                cases t21 with
                | nil => exact .nil
                | cons b2 t22 =>
                  cases t22 with
                  | cons _ _ => exact .nil
                  | nil =>
                    exact .cons a0 (.cons a1 (.cons a2 (.cons a3 (.cons b0 (.cons b1 (.cons b2 .nil))))))
theorem gkr_Piece___init___1_scope_rows_name_alignment_part {K : PySem.W.Frag} : ∀ (F : Hp) (vs : List V) (ds : List Dt) (zs : List V) (as : List Dt), RpAll K F vs ds → RpAll K F zs as → RpAll K F (gk_Piece___init___1_scope_rows_name_alignment_part [(.bl false)] vs zs) (gk_Piece___init___1_scope_rows_name_alignment_part [(.bl false)] ds as) := by
  intro F vs ds zs as h1 h2
  cases h1 with
  | nil => first | exact .nil | (cases h2 <;> exact .nil)
  | cons a0 t10 =>
    cases t10 with
    | cons _ _ => first | exact .nil | (cases h2 <;> exact .nil)
    | nil =>
      cases h2 with
      | nil => exact .nil
      | cons b0 t20 =>
        cases t20 with
        | nil => exact .nil
        | cons b1 t21 =>
          cases t21 with
          | nil => exact .nil
          | cons b2 t22 =>
            cases t22 with
            | nil => exact .nil
            | cons b3 t23 =>
              cases t23 with
              | nil => exact .nil
              | cons b4 t24 =>
                cases t24 with
                | cons _ _ => exact .nil
                | nil =>
                  exact .cons a0 (.cons b2 (.cons b4 (.cons b1 (.cons b3 (.cons b0 (.cons (.bl false) .nil))))))
section
variable {P : Program} {w : World} {K : PySem.W.Frag} {mg : Str → Option Value} {base : Heap}

theorem ok__law_written_so (T : Tx K mg w) (TB : ∀ p ∈ T.cs, LamX.TabB base mg p.1 p.2) : FnOk P w K mg base CX0 13 T.a__law_written_so T.d__law_written_so [] (spDT K T.tabs nilPre sameTrue) := by
  have G_Piece___init__ := ok_Piece___init__ (P := P) (w := w) (base := base) T
  have G_Piece___len__ := ok_Piece___len__ (P := P) (w := w) (base := base) T
  have G__law_same := ok__law_same (P := P) (w := w) (base := base) T 6
  have G__law_whys := ok__law_whys (P := P) (w := w) (base := base) T
  refine fn_dataT T.F__law_written_so sc__law_written_so (fun ds h => ?_) (fun A outer s H E hr => ⟨_, (pss_cons (ps_asg (pe_tup (pa_cons (pe_op op_rep (pe_lst (pa_cons (pe_tup (pa_cons pe_str (pa_cons pe_int pa_nil))) pa_nil)) pe_int) (pa_cons (pe_lst (pa_cons (pe_tup (pa_cons pe_str pa_nil)) pa_nil)) pa_nil))) (pg_tupA (K := K) rfl (pgs_cons (pg_name (i := 0) sc__law_written_so.nd rfl (Or.inr rfl)) (pgs_cons (pg_name (i := 1) sc__law_written_so.nd rfl (Or.inr rfl)) pgs_nil))))
      (pss_cons (ps_set (i := 2) sc__law_written_so.nd rfl (Or.inl rfl) (pe_lst (pa_cons (pe_lam0 (TB _ T.in__law_written_so) rfl T.tm__law_written_so T.hu__law_written_so (lamFree_by (sc := defScope s__law_written_so) (by decide +kernel))) (pa_cons (pe_lam1 (TB _ T.in__law_written_so) rfl T.tm__law_written_so T.hu__law_written_so (lamFree_by (sc := defScope s__law_written_so) (by decide +kernel))) (pa_cons (pe_lam1 (TB _ T.in__law_written_so) rfl T.tm__law_written_so T.hu__law_written_so (lamFree_by (sc := defScope s__law_written_so) (by decide +kernel))) (pa_cons (pe_lam1 (TB _ T.in__law_written_so) rfl T.tm__law_written_so T.hu__law_written_so (lamFree_by (sc := defScope s__law_written_so) (by decide +kernel))) (pa_cons (pe_lam1 (TB _ T.in__law_written_so) rfl T.tm__law_written_so T.hu__law_written_so (lamFree_by (sc := defScope s__law_written_so) (by decide +kernel))) (pa_cons (pe_lam1 (TB _ T.in__law_written_so) rfl T.tm__law_written_so T.hu__law_written_so (lamFree_by (sc := defScope s__law_written_so) (by decide +kernel))) (pa_cons (pe_lam1 (TB _ T.in__law_written_so) rfl T.tm__law_written_so T.hu__law_written_so (lamFree_by (sc := defScope s__law_written_so) (by decide +kernel))) (pa_cons (pe_lam1 (TB _ T.in__law_written_so) rfl T.tm__law_written_so T.hu__law_written_so (lamFree_by (sc := defScope s__law_written_so) (by decide +kernel))) (pa_cons (pe_lam1 (TB _ T.in__law_written_so) rfl T.tm__law_written_so T.hu__law_written_so (lamFree_by (sc := defScope s__law_written_so) (by decide +kernel))) (pa_cons (pe_lam1 (TB _ T.in__law_written_so) rfl T.tm__law_written_so T.hu__law_written_so (lamFree_by (sc := defScope s__law_written_so) (by decide +kernel))) (pa_cons (pe_lam1 (TB _ T.in__law_written_so) rfl T.tm__law_written_so T.hu__law_written_so (lamFree_by (sc := defScope s__law_written_so) (by decide +kernel))) (pa_cons (pe_lam1 (TB _ T.in__law_written_so) rfl T.tm__law_written_so T.hu__law_written_so (lamFree_by (sc := defScope s__law_written_so) (by decide +kernel))) pa_nil))))))))))))))
      (pss_cons (ps_set (i := 3) sc__law_written_so.nd rfl (Or.inl rfl) (pe_lst (pa_cons (pe_tup (pa_cons pe_str (pa_cons pe_non pa_nil))) (pa_cons (pe_tup (pa_cons pe_str (pa_cons (pe_tup (pa_cons pe_int pa_nil)) pa_nil))) (pa_cons (pe_tup (pa_cons pe_str (pa_cons pe_non pa_nil))) (pa_cons (pe_tup (pa_cons pe_str (pa_cons (pe_tup (pa_cons pe_int pa_nil)) pa_nil))) (pa_cons (pe_tup (pa_cons pe_str (pa_cons (pe_tup pa_nil) pa_nil))) (pa_cons (pe_tup (pa_cons pe_str (pa_cons (pe_tup pa_nil) pa_nil))) (pa_cons (pe_tup (pa_cons pe_str (pa_cons (pe_tup pa_nil) pa_nil))) (pa_cons (pe_tup (pa_cons pe_str (pa_cons pe_non pa_nil))) pa_nil))))))))))
      (pss_cons (ps_set (i := 3) sc__law_written_so.nd rfl (Or.inl rfl) (pe_op (op_plus (K := K)) (pv 3) (pe_lst (pa_cons (pe_tup (pa_cons pe_str (pa_cons (pe_tup (pa_cons pe_int pa_nil)) pa_nil))) (pa_cons (pe_tup (pa_cons pe_str (pa_cons (pe_tup (pa_cons pe_str pa_nil)) pa_nil))) (pa_cons (pe_tup (pa_cons pe_str (pa_cons (pe_tup (pa_cons pe_str pa_nil)) pa_nil))) (pa_cons (pe_tup (pa_cons pe_str (pa_cons (pe_tup (pa_cons pe_int pa_nil)) pa_nil))) pa_nil)))))))
      (pss_one (ps_ret (pe_call G__law_same (hr.mono (by decide)) (by rfl) T.m__law_same T.k__law_same T.b__law_same .nil pass0 (pa_cons (pe_callTr (fun _ => rfl) G__law_whys (hr.mono (by decide)) (by rfl) T.m__law_whys T.k__law_whys T.b__law_whys (pa_cons (pv 2) pa_nil)) (pa_cons (pv 3) pa_nil))))))))), fun F0 H0 ds h => ?_⟩)
  · cases h; rfl
  cases h
  dsimp only [cxOf, env0, env1, List.map, List.length, List.replicate, List.cons_append, List.nil_append, List.append, Nat.reduceAdd, Nat.reduceSub, Nat.zero_add]
  refine sm_seq (sm_asg (ev_tup (ea_cons (EvO.ev (eo_rep ?_)))))
  repeat walk_at "yx"
  refine ⟨⟨by decide, by decide, by decide⟩, ?_⟩
  repeat walk_at "yx"
  refine tg_tup rfl (tgs_cons (tg_name (tgs_cons (tg_name (tgs_nil ?_)))))
  refine sm_seq (sm_setL (el_lst ?_))
  refine el_cons0 ⟨_, T.tm__law_written_so⟩ fun f0 c0 => ?_
  refine el_cons1 ⟨_, T.tm__law_written_so⟩ fun f1 c1 t1 => ?_
  refine el_cons1 ⟨_, T.tm__law_written_so⟩ fun f2 c2 t2 => ?_
  refine el_cons1 ⟨_, T.tm__law_written_so⟩ fun f3 c3 t3 => ?_
  refine el_cons1 ⟨_, T.tm__law_written_so⟩ fun f4 c4 t4 => ?_
  refine el_cons1 ⟨_, T.tm__law_written_so⟩ fun f5 c5 t5 => ?_
  refine el_cons1 ⟨_, T.tm__law_written_so⟩ fun f6 c6 t6 => ?_
  refine el_cons1 ⟨_, T.tm__law_written_so⟩ fun f7 c7 t7 => ?_
  refine el_cons1 ⟨_, T.tm__law_written_so⟩ fun f8 c8 t8 => ?_
  refine el_cons1 ⟨_, T.tm__law_written_so⟩ fun f9 c9 t9 => ?_
  refine el_cons1 ⟨_, T.tm__law_written_so⟩ fun f10 c10 t10 => ?_
  refine el_cons1 ⟨_, T.tm__law_written_so⟩ fun f11 c11 t11 => ?_
  refine el_nil ⟨by simp, ?_⟩
  intro a0
  refine sm_seq (sm_set ?_)
  repeat walk_at "yx"
  refine sm_seq (sm_set ?_)
  repeat walk_at "yx"
  refine o_plusL (by decide) ?_
  refine sm_ret (ev_call (ea_cons ?_))
  refine ev_whys (el_var rfl ⟨wso, by decide, fun σ F1 H1 os S inj has hlen h0 hv hls => ?_, ?_⟩)
  · refine ⟨?_, ?_, ?_, ?_, ?_, ?_, ?_, ?_, ?_, ?_, ?_, ?_, True.intro⟩
    · refine' ask_of (N' := ["_law_rooms", "_law_end", "_law_asks", "_law_due_here"]) (dvb := false) ?LL0 S inj has hlen h0 hv rfl (hls _ List.mem_cons_self) ?EV0
      case LL0 => exact ⟨lamIn_by (sc := defScope s__law_written_so) rfl (by decide +kernel) (by decide +kernel), rfl, rfl, rfl, noCell_by (by decide +kernel), (fun _ _ _ _ _ => rfl), (fun z => nomatch z), fun cl c dv f A outer s H E hr => (pe_callB (call_lenI G_Piece___len__ (hr.mono (by decide)) T.h_Piece___len__ T.b_Piece___len__ pass0) (by rfl) T.n_len PySem.boot_len (pa_cons (pe_make T.mk_Piece G_Piece___init__ (hr.mono (by decide)) (by rfl) T.m_Piece T.b_Piece___init___4 T.v_Piece___init___4 passL (pa_cons pe_str (pa_cons pe_str (pa_cons (pe_op (op_plus (K := K)) (pv 0) (pv 1)) pa_nil)))) pa_nil))⟩
      intro F H E hx
      refine ev_lenI (ev_makeR (dds := [.int 1, .str "local", .bl false]) (fun F => .cons (.int _) (.cons (.str _) (.cons (.bl _) .nil))) hx ?_)
      repeat walk_at "yx"
      refine o_plusL (by decide +kernel) ?_
      repeat walk_at "yx"
      exact ini_kL ⟨goodV_pre (by decide +kernel), rfl, (th_rooms.app th_end).listB (by decide), rfl, rfl⟩ (fun h _ => h) fun _ _ e => err_of T e
    · refine' ask_of (N' := ["_law_rooms", "_law_end", "_law_asks", "_law_due_here"]) (dvb := true) ?LL1 S inj has hlen h0 hv rfl (hls _ (List.mem_cons_of_mem _ List.mem_cons_self)) ?EV1
      case LL1 => exact ⟨lamIn_by (sc := defScope s__law_written_so) rfl (by decide +kernel) (by decide +kernel), rfl, rfl, rfl, noCell_by (by decide +kernel), (fun z => nomatch z), (fun _ => ⟨"_law_a", by decide +kernel, fun cl c t pm ctv v => ⟨_, rfl, rfl⟩⟩), fun cl c dv f A outer s H E hr => (pe_make T.mk_Piece G_Piece___init__ (hr.mono (by decide)) (by rfl) T.m_Piece T.b_Piece___init___4 T.v_Piece___init___4 passL (pa_cons pe_str (pa_cons pe_str (pa_cons (pe_op (op_plus (K := K)) (pe_op (op_plus (K := K)) (pv 0) (pe_lst (pa_cons (pe_tup (pa_cons pe_str (pa_cons pe_int pa_nil))) pa_nil))) (pv 1)) pa_nil))))⟩
      intro F H E hx
      refine ev_makeR (dds := [.int 1, .str "local", .bl false]) (fun F => .cons (.int _) (.cons (.str _) (.cons (.bl _) .nil))) hx ?_
      repeat walk_at "yx"
      refine o_plusL (by decide +kernel) ?_
      repeat walk_at "yx"
      refine o_plusL (by decide +kernel) ?_
      repeat walk_at "yx"
      exact ini_k ⟨goodV_pre (by decide +kernel), rfl, ((th_rooms.app th_room).app th_end).listB (by decide), rfl, rfl⟩ (fun h _ _ => h) fun _ _ e => err_of T e
    · refine' ask_of (N' := ["_law_rooms", "_law_end", "_law_asks", "_law_due_here"]) (dvb := true) ?LL2 S inj has hlen h0 hv rfl (hls _ (List.mem_cons_of_mem _ (List.mem_cons_of_mem _ List.mem_cons_self))) ?EV2
      case LL2 => exact ⟨lamIn_by (sc := defScope s__law_written_so) rfl (by decide +kernel) (by decide +kernel), rfl, rfl, rfl, noCell_by (by decide +kernel), (fun z => nomatch z), (fun _ => ⟨"_law_b", by decide +kernel, fun cl c t pm ctv v => ⟨_, rfl, rfl⟩⟩), fun cl c dv f A outer s H E hr => (pe_callB (call_lenI G_Piece___len__ (hr.mono (by decide)) T.h_Piece___len__ T.b_Piece___len__ pass0) (by rfl) T.n_len PySem.boot_len (pa_cons (pe_make T.mk_Piece G_Piece___init__ (hr.mono (by decide)) (by rfl) T.m_Piece T.b_Piece___init___4 T.v_Piece___init___4 passL (pa_cons pe_str (pa_cons pe_str (pa_cons (pe_op (op_plus (K := K)) (pv 0) (pe_lst (pa_cons (pe_tup (pa_cons pe_str (pa_cons pe_int pa_nil))) pa_nil))) pa_nil)))) pa_nil))⟩
      intro F H E hx
      refine ev_lenI (ev_makeR (dds := [.int 1, .str "local", .bl false]) (fun F => .cons (.int _) (.cons (.str _) (.cons (.bl _) .nil))) hx ?_)
      repeat walk_at "yx"
      refine o_plusL (by decide +kernel) ?_
      repeat walk_at "yx"
      exact ini_kL ⟨goodV_pre (by decide +kernel), rfl, (th_rooms.app th_room).listB (by decide), rfl, rfl⟩ (fun h _ => h) fun _ _ e => err_of T e
    · refine' ask_of (N' := ["_law_rooms", "_law_end", "_law_asks", "_law_due_here"]) (dvb := true) ?LL3 S inj has hlen h0 hv rfl (hls _ (List.mem_cons_of_mem _ (List.mem_cons_of_mem _ (List.mem_cons_of_mem _ List.mem_cons_self)))) ?EV3
      case LL3 => exact ⟨lamIn_by (sc := defScope s__law_written_so) rfl (by decide +kernel) (by decide +kernel), rfl, rfl, rfl, noCell_by (by decide +kernel), (fun z => nomatch z), (fun _ => ⟨"_law_c", by decide +kernel, fun cl c t pm ctv v => ⟨_, rfl, rfl⟩⟩), fun cl c dv f A outer s H E hr => (pe_make T.mk_Piece G_Piece___init__ (hr.mono (by decide)) (by rfl) T.m_Piece T.b_Piece___init___4 T.v_Piece___init___4 passL (pa_cons pe_str (pa_cons pe_str (pa_cons (pe_op (op_plus (K := K)) (pv 0) (pe_lst (pa_cons pe_non (pa_cons pe_non pa_nil)))) pa_nil))))⟩
      intro F H E hx
      refine ev_makeR (dds := [.int 1, .str "local", .bl false]) (fun F => .cons (.int _) (.cons (.str _) (.cons (.bl _) .nil))) hx ?_
      repeat walk_at "yx"
      refine o_plusL (by decide +kernel) ?_
      repeat walk_at "yx"
      exact ini_k ⟨goodV_pre (by decide +kernel), rfl, (th_rooms.app th_none2).listB (by decide), rfl, rfl⟩ (fun h _ _ => h) fun _ _ e => err_of T e
    · refine' ask_of (N' := ["_law_rooms", "_law_end", "_law_asks", "_law_due_here"]) (dvb := true) ?LL4 S inj has hlen h0 hv rfl (hls _ (List.mem_cons_of_mem _ (List.mem_cons_of_mem _ (List.mem_cons_of_mem _ (List.mem_cons_of_mem _ List.mem_cons_self))))) ?EV4
      case LL4 => exact ⟨lamIn_by (sc := defScope s__law_written_so) rfl (by decide +kernel) (by decide +kernel), rfl, rfl, rfl, noCell_by (by decide +kernel), (fun z => nomatch z), (fun _ => ⟨"_law_d", by decide +kernel, fun cl c t pm ctv v => ⟨_, rfl, rfl⟩⟩), fun cl c dv f A outer s H E hr => (pe_make T.mk_Piece G_Piece___init__ (hr.mono (by decide)) (by rfl) T.m_Piece T.b_Piece___init___4 T.v_Piece___init___4 passL (pa_cons pe_str (pa_cons pe_str (pa_cons (pe_lst pa_nil) pa_nil))))⟩
      intro F H E hx
      refine ev_makeR (dds := [.int 1, .str "local", .bl false]) (fun F => .cons (.int _) (.cons (.str _) (.cons (.bl _) .nil))) hx ?_
      repeat walk_at "yx"
      exact ini_k ⟨goodV_pre (by decide +kernel), rfl, (th_nil).listB (by decide), rfl, rfl⟩ (fun h _ _ => h) fun _ _ e => err_of T e
    · refine' ask_of (N' := ["_law_rooms", "_law_end", "_law_asks", "_law_due_here"]) (dvb := true) ?LL5 S inj has hlen h0 hv rfl (hls _ (List.mem_cons_of_mem _ (List.mem_cons_of_mem _ (List.mem_cons_of_mem _ (List.mem_cons_of_mem _ (List.mem_cons_of_mem _ List.mem_cons_self)))))) ?EV5
      case LL5 => exact ⟨lamIn_by (sc := defScope s__law_written_so) rfl (by decide +kernel) (by decide +kernel), rfl, rfl, rfl, noCell_by (by decide +kernel), (fun z => nomatch z), (fun _ => ⟨"_law_f", by decide +kernel, fun cl c t pm ctv v => ⟨_, rfl, rfl⟩⟩), fun cl c dv f A outer s H E hr => (pe_make T.mk_Piece G_Piece___init__ (hr.mono (by decide)) (by rfl) T.m_Piece T.b_Piece___init___4 T.v_Piece___init___4 passL (pa_cons pe_str (pa_cons pe_str (pa_cons (pv 0) pa_nil))))⟩
      intro F H E hx
      refine ev_makeR (dds := [.int 1, .str "local", .bl false]) (fun F => .cons (.int _) (.cons (.str _) (.cons (.bl _) .nil))) hx ?_
      repeat walk_at "yx"
      exact ini_k ⟨goodV_pre (by decide +kernel), rfl, (th_rooms).listB (by decide), rfl, rfl⟩ (fun h _ _ => h) fun _ _ e => err_of T e
    · refine' ask_of (N' := ["_law_rooms", "_law_end", "_law_asks", "_law_due_here"]) (dvb := true) ?LL6 S inj has hlen h0 hv rfl (hls _ (List.mem_cons_of_mem _ (List.mem_cons_of_mem _ (List.mem_cons_of_mem _ (List.mem_cons_of_mem _ (List.mem_cons_of_mem _ (List.mem_cons_of_mem _ List.mem_cons_self))))))) ?EV6
      case LL6 => exact ⟨lamIn_by (sc := defScope s__law_written_so) rfl (by decide +kernel) (by decide +kernel), rfl, rfl, rfl, noCell_by (by decide +kernel), (fun z => nomatch z), (fun _ => ⟨"_law_g", by decide +kernel, fun cl c t pm ctv v => ⟨_, rfl, rfl⟩⟩), fun cl c dv f A outer s H E hr => (pe_make T.mk_Piece G_Piece___init__ (hr.mono (by decide)) (by rfl) T.m_Piece T.b_Piece___init___4 T.v_Piece___init___4 passL (pa_cons pe_str (pa_cons pe_str (pa_cons (pe_op (op_plus (K := K)) (pv 1) (pe_lst (pa_cons (pe_tup (pa_cons pe_str (pa_cons pe_str pa_nil))) pa_nil))) pa_nil))))⟩
      intro F H E hx
      refine ev_makeR (dds := [.int 1, .str "local", .bl false]) (fun F => .cons (.int _) (.cons (.str _) (.cons (.bl _) .nil))) hx ?_
      repeat walk_at "yx"
      refine o_plusL (by decide +kernel) ?_
      repeat walk_at "yx"
      exact ini_k ⟨goodV_pre (by decide +kernel), rfl, (th_end.app (ThL.one (x := .tup [.str "out", .str "r0"]) (by decide +kernel))).listB (by decide), rfl, rfl⟩ (fun h _ _ => h) fun _ _ e => err_of T e
    · refine' ask_of (N' := ["_law_rooms", "_law_end", "_law_asks", "_law_due_here"]) (dvb := true) ?LL7 S inj has hlen h0 hv rfl (hls _ (List.mem_cons_of_mem _ (List.mem_cons_of_mem _ (List.mem_cons_of_mem _ (List.mem_cons_of_mem _ (List.mem_cons_of_mem _ (List.mem_cons_of_mem _ (List.mem_cons_of_mem _ List.mem_cons_self)))))))) ?EV7
      case LL7 => exact ⟨lamIn_by (sc := defScope s__law_written_so) rfl (by decide +kernel) (by decide +kernel), rfl, rfl, rfl, noCell_by (by decide +kernel), (fun z => nomatch z), (fun _ => ⟨"_law_h", by decide +kernel, fun cl c t pm ctv v => ⟨_, rfl, rfl⟩⟩), fun cl c dv f A outer s H E hr => (pe_callB (call_lenI G_Piece___len__ (hr.mono (by decide)) T.h_Piece___len__ T.b_Piece___len__ pass0) (by rfl) T.n_len PySem.boot_len (pa_cons (pe_make T.mk_Piece G_Piece___init__ (hr.mono (by decide)) (by rfl) T.m_Piece T.b_Piece___init___4 T.v_Piece___init___4 passL (pa_cons pe_str (pa_cons pe_str (pa_cons (pe_lst pa_nil) pa_nil)))) pa_nil))⟩
      intro F H E hx
      refine ev_lenI (ev_makeR (dds := [.int 1, .str "local", .bl false]) (fun F => .cons (.int _) (.cons (.str _) (.cons (.bl _) .nil))) hx ?_)
      repeat walk_at "yx"
      exact ini_kL ⟨goodV_pre (by decide +kernel), rfl, (th_nil).listB (by decide), rfl, rfl⟩ (fun h _ => h) fun _ _ e => err_of T e
    · refine' ask_of (N' := ["_law_rooms", "_law_end", "_law_asks", "_law_due_here"]) (dvb := true) ?LL8 S inj has hlen h0 hv rfl (hls _ (List.mem_cons_of_mem _ (List.mem_cons_of_mem _ (List.mem_cons_of_mem _ (List.mem_cons_of_mem _ (List.mem_cons_of_mem _ (List.mem_cons_of_mem _ (List.mem_cons_of_mem _ (List.mem_cons_of_mem _ List.mem_cons_self))))))))) ?EV8
      case LL8 => exact ⟨lamIn_by (sc := defScope s__law_written_so) rfl (by decide +kernel) (by decide +kernel), rfl, rfl, rfl, noCell_by (by decide +kernel), (fun z => nomatch z), (fun _ => ⟨"_law_i", by decide +kernel, fun cl c t pm ctv v => ⟨_, rfl, rfl⟩⟩), fun cl c dv f A outer s H E hr => (pe_makeK T.mk_Piece G_Piece___init__ (hr.mono (by decide)) (by rfl) T.m_Piece T.kb_Piece___init___4_scope passL (pa_cons pe_str (pa_cons pe_str (pa_cons (pv 1) pa_nil))) (pk_cons pe_str pk_nil))⟩
      intro F H E hx
      refine ev_makeKR (gD := gk_Piece___init___4_scope [.int 1, .bl false]) gkr_Piece___init___4_scope hx ?_
      repeat walk_at "yx"
      exact ⟨rfl, rfl, ini_kN (fun _ => rfl) ⟨goodV_pre (by decide +kernel), rfl, th_end.listB (by decide), rfl, rfl⟩ (fun h _ _ => h) fun _ _ e => err_of T e⟩
    · refine' ask_of (N' := ["_law_rooms", "_law_end", "_law_asks", "_law_due_here"]) (dvb := true) ?LL9 S inj has hlen h0 hv rfl (hls _ (List.mem_cons_of_mem _ (List.mem_cons_of_mem _ (List.mem_cons_of_mem _ (List.mem_cons_of_mem _ (List.mem_cons_of_mem _ (List.mem_cons_of_mem _ (List.mem_cons_of_mem _ (List.mem_cons_of_mem _ (List.mem_cons_of_mem _ List.mem_cons_self)))))))))) ?EV9
      case LL9 => exact ⟨lamIn_by (sc := defScope s__law_written_so) rfl (by decide +kernel) (by decide +kernel), rfl, rfl, rfl, noCell_by (by decide +kernel), (fun z => nomatch z), (fun _ => ⟨"_law_j", by decide +kernel, fun cl c t pm ctv v => ⟨_, rfl, rfl⟩⟩), fun cl c dv f A outer s H E hr => (pe_makeK T.mk_Piece G_Piece___init__ (hr.mono (by decide)) (by rfl) T.m_Piece T.kb_Piece___init___4_scope passL (pa_cons pe_str (pa_cons pe_str (pa_cons (pe_lst pa_nil) pa_nil))) (pk_cons pe_str pk_nil))⟩
      intro F H E hx
      refine ev_makeKR (gD := gk_Piece___init___4_scope [.int 1, .bl false]) gkr_Piece___init___4_scope hx ?_
      repeat walk_at "yx"
      exact ⟨rfl, rfl, ini_kN (fun _ => rfl) ⟨goodV_pre (by decide +kernel), rfl, th_nil.listB (by decide), rfl, rfl⟩ (fun h _ _ => h) fun _ _ e => err_of T e⟩
    · refine' ask_of (N' := ["_law_rooms", "_law_end", "_law_asks", "_law_due_here"]) (dvb := true) ?LL10 S inj has hlen h0 hv rfl (hls _ (List.mem_cons_of_mem _ (List.mem_cons_of_mem _ (List.mem_cons_of_mem _ (List.mem_cons_of_mem _ (List.mem_cons_of_mem _ (List.mem_cons_of_mem _ (List.mem_cons_of_mem _ (List.mem_cons_of_mem _ (List.mem_cons_of_mem _ (List.mem_cons_of_mem _ List.mem_cons_self))))))))))) ?EV10
      case LL10 => exact ⟨lamIn_by (sc := defScope s__law_written_so) rfl (by decide +kernel) (by decide +kernel), rfl, rfl, rfl, noCell_by (by decide +kernel), (fun z => nomatch z), (fun _ => ⟨"_law_k", by decide +kernel, fun cl c t pm ctv v => ⟨_, rfl, rfl⟩⟩), fun cl c dv f A outer s H E hr => (pe_makeK T.mk_Piece G_Piece___init__ (hr.mono (by decide)) (by rfl) T.m_Piece T.kb_Piece___init___4_alignment_scope passL (pa_cons pe_str (pa_cons pe_str (pa_cons pe_non pa_nil))) (pk_cons pe_int (pk_cons pe_str pk_nil)))⟩
      intro F H E hx
      refine ev_makeKR (gD := gk_Piece___init___4_alignment_scope [.bl false]) gkr_Piece___init___4_alignment_scope hx ?_
      repeat walk_at "yx"
      exact ⟨rfl, rfl, ini_kN (fun _ => rfl) ⟨goodV_pre (by decide +kernel), rfl, listB_no rfl rfl, rfl, rfl⟩ (fun h _ _ => h) fun _ _ e => err_of T e⟩
    · refine' ask_of (N' := ["_law_rooms", "_law_end", "_law_asks", "_law_due_here"]) (dvb := true) ?LL11 S inj has hlen h0 hv rfl (hls _ (List.mem_cons_of_mem _ (List.mem_cons_of_mem _ (List.mem_cons_of_mem _ (List.mem_cons_of_mem _ (List.mem_cons_of_mem _ (List.mem_cons_of_mem _ (List.mem_cons_of_mem _ (List.mem_cons_of_mem _ (List.mem_cons_of_mem _ (List.mem_cons_of_mem _ (List.mem_cons_of_mem _ List.mem_cons_self)))))))))))) ?EV11
      case LL11 => exact ⟨lamIn_by (sc := defScope s__law_written_so) rfl (by decide +kernel) (by decide +kernel), rfl, rfl, rfl, noCell_by (by decide +kernel), (fun z => nomatch z), (fun _ => ⟨"_law_m", by decide +kernel, fun cl c t pm ctv v => ⟨_, rfl, rfl⟩⟩), fun cl c dv f A outer s H E hr => (pe_makeK T.mk_Piece G_Piece___init__ (hr.mono (by decide)) (by rfl) T.m_Piece T.kb_Piece___init___4_alignment passL (pa_cons pe_str (pa_cons pe_str (pa_cons (pe_lst (pa_cons pe_non pa_nil)) pa_nil))) (pk_cons pe_int pk_nil))⟩
      intro F H E hx
      refine ev_makeKR (gD := gk_Piece___init___4_alignment [.str "local", .bl false]) gkr_Piece___init___4_alignment hx ?_
      repeat walk_at "yx"
      exact ⟨rfl, rfl, ini_kN (fun _ => rfl) ⟨goodV_pre (by decide +kernel), rfl, th_none.listB (by decide), rfl, rfl⟩ (fun h _ _ => h) fun _ _ e => err_of T e⟩

  repeat walk_at "yx"
  exact same_k (congrArg Dt.lst wso_wsd) (by decide +kernel) (by decide +kernel) rfl
end
end Law
namespace Law
open PySem L2 Y
local macro_rules | `(tactic| walk_at "yv") => `(tactic| ((with_reducible show Ev _ (tVar _) _ _); refine ev_var rfl ?_))
local macro_rules | `(tactic| walk_at "ys") => `(tactic| with_reducible first
  | refine sm_seq ?_ | refine sm_ret ?_ | refine sm_if ?_ | refine sm_set ?_ | refine sm_next ?_ | refine sm_par ?_ | refine sm_drop ?_ | refine sm_brk ?_ | refine sm_cont ?_)
local macro_rules | `(tactic| walk_at "ye") => `(tactic| with_reducible first
  | refine ev_op ?_ | refine ev_and ?_ | refine ev_or ?_ | refine ev_not ?_ | refine ev_if ?_ | refine ev_chain ?_ | refine ev_neg ?_ | refine ev_isInt ?_ | refine ev_isBool ?_ | refine ev_isStr ?_ | refine ev_isList ?_ | refine ev_isTuple ?_ | refine ev_isLT ?_ | refine ev_isDict ?_
  | refine ev_int ?_ | refine ev_str ?_ | refine ev_bl ?_ | refine ev_non ?_ | refine ev_call ?_ | refine ev_cb ?_ | refine ev_lst ?_ | refine ev_tup ?_ | refine ev_join ?_
  | refine ea_nil ?_ | refine ea_cons ?_
  | refine et_B ?_ | refine et_test ?_ | refine et_not ?_ | refine et_and ?_ | refine et_or ?_ | refine et_yes ?_
  | refine o_plusI ?_ | refine o_i0 ?_ | refine o_b0 ?_ | refine o_isN ?_ | refine o_notN ?_
  | refine bl_ex ?_ | refine int_ex ?_ | refine str_ex ?_ | refine lst_ex ?_ | refine tup_ex ?_)
local macro_rules | `(tactic| walk_at "yo") => `(tactic| first
  | ((with_reducible show Ev _ (tOp (rIx _) (tVar _) _) _ _); refine ev_ixOwn rfl ?_)
  | ((with_reducible show Ev _ (tCB _ (tCons (tVar _) tNil)) _ _); refine ev_lenOwn rfl ?_)
  | ((with_reducible show Sm _ (tAsg _ (gSub (tVar _) _ _)) _ _); refine sm_setItem rfl ?_)
  | ((with_reducible show Ev _ (tCall (spB _ _ _) _ _ _) _ _); refine ev_callB rfl rfl ?_))
local macro_rules | `(tactic| walk_at "yc") => `(tactic| first
  | ((with_reducible show CMul _ _); first | exact Or.inr ⟨by decide, by decide⟩ | exact Or.inl ⟨by decide, by decide⟩ | exact Or.inr ⟨by omega, by omega⟩ | exact Or.inl ⟨by omega, by omega⟩)
  | ((with_reducible show CDiv _ _); exact ⟨by first | decide | omega, by first | decide | omega⟩)
  | ((with_reducible show CPow _ _); exact ⟨by decide, by decide, by first | decide | omega⟩)
  | ((show (0 : Int) < _); first | decide | omega))
local macro_rules | `(tactic| walk_at "yd") => `(tactic| first
  | ((with_reducible show plainD _ = true ∧ _); refine ⟨by first | rfl | assumption, ?_⟩)
  | ((with_reducible show (_ = true → _) ∧ (_ = false → _)); first | refine way_t rfl ?_ | refine way_f rfl ?_ | refine way_t (by decide +kernel) ?_ | refine way_f (by decide +kernel) ?_)
  | ((with_reducible show Cal _ _ _ _ _); first | (with_reducible refine c_int ?_) | (with_reducible refine c_abs ?_) | (refine c_len rfl ?_) | (refine c_len (if_pos (by assumption)) ?_))
  | ((with_reducible show Op2 _ (rEqA _) _ _ _ _); refine o_eqA rfl ?_)
  | ((with_reducible show Op2 _ (rNeA _) _ _ _ _); refine o_neA rfl ?_)
  | ((with_reducible show Op2 _ (rInA _) _ (Dt.str _) (Dt.lst _) _); refine o_inAL rfl rfl ?_)
  | ((with_reducible show Op2 _ (rInA _) _ (Dt.str _) (Dt.tup _) _); refine o_inAT rfl rfl ?_)
  | ((with_reducible show Op2 _ (rI _ _) _ _ _ _); refine o_i (by walk_at "yc") ?_)
  | ((with_reducible show Op2 _ (rIx _) _ (Dt.tup _) _ _); refine o_ixAT (atI_toNat (by decide) rfl) ?_)
  | ((with_reducible show Op2 _ (rIx _) _ (Dt.lst _) _ _); refine o_ixAL (atI_toNat (by decide) rfl) ?_)
  | ((with_reducible show ∃ x, atI _ _ = some x ∧ _); refine ⟨_, rfl, ?_⟩)
  | ((with_reducible show ∃ x, ixN _ _ = some x ∧ _); refine ⟨_, rfl, ?_⟩)
  | ((with_reducible show List.length _ ≤ 100000 ∧ _); refine ⟨by (try simp only [List.length_cons, List.length_nil]); first | decide | omega, ?_⟩))
local macro_rules | `(tactic| walk_at "y") => `(tactic| first | walk_at "yo" | walk_at "ye" | walk_at "yv" | walk_at "ys" | walk_at "yd")
local macro_rules | `(tactic| walk_at "yx") => `(tactic| first | walk_at "yo" | walk_at "ye" | walk_at "yv" | walk_at "yd")

def goodW (d : Dt) : Bool := goodV d && (okD d && decide (d.depth ≤ 1))
theorem goodW_of {d : Dt} (h : goodW d = true) : goodV d = true ∧ (okD d = true ∧ plainD d = true) ∧ d.pureD = true ∧ d.depth ≤ 1 := by
  unfold goodW at h
  rw [Bool.and_eq_true, Bool.and_eq_true] at h
  obtain ⟨h1, h2, h3⟩ := h
  refine ⟨h1, ⟨h2, (goodV_pre h1).1⟩, ?_, of_decide_eq_true h3⟩
  unfold okD at h2
  rw [Bool.and_eq_true] at h2
  exact h2.1
theorem goodW_in {xs : List Dt} {d : Dt} (h : xs.all goodW = true) (hm : d ∈ xs) : goodW d = true := List.all_eq_true.mp h d hm
theorem goodW_name {z : Str} (h : isNameD (.str z) = true) : goodW (.str z) = true := by
  unfold goodW
  obtain ⟨z', e, h1, h2⟩ := name_str h
  cases e
  rw [good_name h, okD_of (d := .str z) rfl (by unfold layD; exact h2) (by simp [Dt.depth])]
  simp [Dt.depth]
theorem why_noneW : (whyO none).pureD = true ∧ (whyO none).depth ≤ 3 := ⟨by simp [whyO, Dt.pureD, pureAll], by simp [whyO, Dt.depth, depthAll]⟩
theorem why_someW {z : Dt} {c : Str} (h1 : z.pureD = true) (h2 : z.depth ≤ 1) : (whyO (some (c, [z]))).pureD = true ∧ (whyO (some (c, [z]))).depth ≤ 3 := ⟨by simp [whyO, Dt.pureD, pureAll, h1], by simp only [whyO, Dt.depth, depthAll]; omega⟩
theorem need_why {x : Dt} {side : Str} {o : Str × List Dt} (h : needO x side = some o) : (whyO (some o)).pureD = true ∧ (whyO (some o)).depth ≤ 3 := by
  unfold needO at h
  split at h
  · cases h; exact why_someW rfl (by simp [Dt.depth])
  · unfold rowsO at h
    split at h
    · cases h; exact why_someW rfl (by simp [Dt.depth])
    · split at h
      · cases h; exact why_someW rfl (by simp [Dt.depth])
      · split at h
        · cases h; exact ⟨by simp [whyO, Dt.pureD, pureAll], by simp [whyO, Dt.depth, depthAll]⟩
        · cases h
theorem ini_why {t p r al sc : Dt} (ht : goodW t = true) (hp : goodW p = true) (ha : goodW al = true) (hs : goodW sc = true) : (whyO (initO t p r al sc)).pureD = true ∧ (whyO (initO t p r al sc)).depth ≤ 3 := by
  obtain ⟨_, _, t1, t2⟩ := goodW_of ht
  obtain ⟨_, _, p1, p2⟩ := goodW_of hp
  obtain ⟨_, _, a1, a2⟩ := goodW_of ha
  obtain ⟨_, _, s1, s2⟩ := goodW_of hs
  unfold initO
  split
  · exact why_someW t1 t2
  · split
    · exact why_someW p1 p2
    · cases e : needO r (sideOf p) with
      | some o => exact need_why e
      | none =>
        dsimp only
        split
        · exact why_someW a1 a2
        · split
          · exact why_someW s1 s2
          · exact why_noneW
theorem given_ok {t p r al sc : Dt} (ht : goodW t = true) (hp : goodW p = true) (hr : listB r) (ha : goodW al = true) (hs : goodW sc = true) : GivenOk t p r al sc :=
  ⟨(goodW_of ht).1, (goodW_of hp).2.1, hr, (goodW_of ha).2.1, (goodW_of hs).2.1⟩
theorem given_ini {t p r al sc : Dt} (ht : goodW t = true) (hp : goodW p = true) (hr : listB r) (ha : goodW al = true) (hs : goodW sc = true) : (plainD t = true ∧ txtOk t) ∧ plainD p = true ∧ listB r ∧ plainD al = true ∧ plainD sc = true :=
  ⟨goodV_pre (goodW_of ht).1, (goodW_of hp).2.1.2, hr, (goodW_of ha).2.1.2, (goodW_of hs).2.1.2⟩
theorem cut5 (a b c d e f : Dt) : cutD [a, b, c, d, e, f] none (some 5) = [a, b, c, d, e] ∧ ¬ (HT.sIx [a, b, c, d, e, f].length 0 none = 0 ∧ HT.sIx [a, b, c, d, e, f].length [a, b, c, d, e, f].length (some 5) = [a, b, c, d, e, f].length) := ⟨rfl, by show ¬ (HT.sIx 6 0 none = 0 ∧ HT.sIx 6 6 (some 5) = 6); decide⟩
theorem al_good {i : Int} (h : i ∈ alsL) : goodW (.int i) = true := by
  have key : ∀ i ∈ alsL, goodW (.int i) = true := by decide +kernel
  exact key i h
theorem sc_good {z : Str} (h : z ∈ scopesL) : goodW (.str z) = true := by
  have key : ∀ z ∈ scopesL, goodW (.str z) = true := by decide +kernel
  exact key z h
theorem sd_good {z : Str} (h : z = "code" ∨ z = "data") : goodW (.str z) = true := by rcases h with rfl | rfl <;> decide +kernel
section
variable {P : Program} {w : World} {K : PySem.W.Frag} {mg : Str → Option Value} {base : Heap}

theorem ok_law (T : Tx K mg w) (TB : ∀ p ∈ T.cs, LamX.TabB base mg p.1 p.2) : FnOk P w K mg base CX0 14 T.a_law T.d_law ["_law_script"] (spLawT K T.tabs) := by
  have G__law_bag := ok__law_bag (P := P) (w := w) (base := base) T
  have G__law_draw := ok__law_draw (P := P) (w := w) (base := base) T
  have G__law_of := ok__law_of (P := P) (w := w) (base := base) T
  have G__law_odd := ok__law_odd (P := P) (w := w) (base := base) T
  have G__law_titles := ok__law_titles (P := P) (w := w) (base := base) T
  have G__law_same := ok__law_same (P := P) (w := w) (base := base) T 6
  have G__law_piece_model := ok__law_piece_model (P := P) (w := w) (base := base) T
  have G__law_wrong_rows := ok__law_wrong_rows (P := P) (w := w) (base := base) T
  have G__law_due := ok__law_due (P := P) (w := w) (base := base) T
  have G__law_whys := ok__law_whys (P := P) (w := w) (base := base) T
  have G__law_written_so := ok__law_written_so (P := P) (w := w) (base := base) T TB
  have G_Piece___init__ := ok_Piece___init__ (P := P) (w := w) (base := base) T
  refine fn_lawC T.F_law sc_law (fun A outer s H E hr => ⟨_, (pss_cons (ps_set (i := 1) sc_law.nd rfl (Or.inl rfl) (pe_call G__law_bag (hr.mono (by decide)) (by rfl) T.m__law_bag T.k__law_bag T.b__law_bag .nil pass0 (pa_cons (pv 0) pa_nil)))
      (pss_cons (ps_set (i := 2) sc_law.nd rfl (Or.inl rfl) (pe_call G__law_titles (hr.mono (by decide)) (by rfl) T.m__law_titles T.k__law_titles T.b__law_titles .nil pass0 (pa_cons (pv 1) (pa_cons pe_int pa_nil))))
      (pss_cons (ps_for PassesOwn.never rfl (pi_range1 (by rfl) T.n_range (pa_cons pe_int pa_nil)) (pg_name (i := 3) sc_law.nd rfl (Or.inl rfl)) (pss_cons (ps_set (i := 4) sc_law.nd rfl (Or.inr rfl) (pe_call G__law_piece_model (hr.mono (by decide)) (by rfl) T.m__law_piece_model T.k__law_piece_model T.b__law_piece_model .nil pass0 (pa_cons (pv 1) (pa_cons (pe_ix (ix_any (K := K)) (pv 2) pe_int (fun _ _ => rfl)) (pa_cons (pv 2) (pa_cons pe_int pa_nil))))))
      (pss_cons (ps_set (i := 5) sc_law.nd rfl (Or.inl rfl) (pe_lst (pa_cons pe_int (pa_cons pe_int (pa_cons pe_int (pa_cons (pe_un un_neg pe_int) (pa_cons pe_bl (pa_cons pe_non (pa_cons pe_str (pa_cons (pe_tup (pa_cons pe_int pa_nil)) (pa_cons (pe_lst (pa_cons pe_int pa_nil)) pa_nil)))))))))))
      (pss_cons (ps_set (i := 6) sc_law.nd rfl (Or.inl rfl) (pe_lst (pa_cons pe_str (pa_cons pe_str (pa_cons pe_str (pa_cons pe_str (pa_cons pe_non (pa_cons pe_int (pa_cons (pe_tup (pa_cons pe_str pa_nil)) (pa_cons (pe_lst (pa_cons pe_str pa_nil)) pa_nil))))))))))
      (pss_cons (ps_set (i := 7) sc_law.nd rfl (Or.inr rfl) (pe_callTy (call_listB (K := K) rfl) (by rfl) T.n_list PyProof.Rows.boot_list (pa_cons (pe_slice (sl_any (K := K)) (pv 4) po_none (po_some pe_int)) pa_nil)))
      (pss_cons (ps_if (pt_cmpR (op_eqA (K := K) hr.units) (pe_call G__law_draw (hr.mono (by decide)) (by rfl) T.m__law_draw T.k__law_draw T.b__law_draw .nil pass0 (pa_cons (pv 1) (pa_cons pe_int pa_nil))) pe_int (nomark _)) (pss_one (ps_asg (pe_call G__law_odd (hr.mono (by decide)) (by rfl) T.m__law_odd T.k__law_odd T.b__law_odd .nil pass0 (pa_cons (pv 1) (pa_cons (pe_lst (pa_cons pe_str (pa_cons pe_str (pa_cons (pe_tup (pa_cons pe_str pa_nil)) pa_nil)))) pa_nil))) (pg_sub (pv 7) pe_int set_list))) pss_nil)
      (pss_cons (ps_if (pt_cmpR (op_eqA (K := K) hr.units) (pe_call G__law_draw (hr.mono (by decide)) (by rfl) T.m__law_draw T.k__law_draw T.b__law_draw .nil pass0 (pa_cons (pv 1) (pa_cons pe_int pa_nil))) pe_int (nomark _)) (pss_one (ps_asg (pe_call G__law_odd (hr.mono (by decide)) (by rfl) T.m__law_odd T.k__law_odd T.b__law_odd .nil pass0 (pa_cons (pv 1) (pa_cons (pe_lst (pa_cons pe_str (pa_cons pe_str (pa_cons pe_str (pa_cons (pe_lst (pa_cons pe_str pa_nil)) (pa_cons (pe_tup (pa_cons pe_str pa_nil)) pa_nil)))))) pa_nil))) (pg_sub (pv 7) pe_int set_list))) pss_nil)
      (pss_cons (ps_if (pt_cmpR (op_eqA (K := K) hr.units) (pe_call G__law_draw (hr.mono (by decide)) (by rfl) T.m__law_draw T.k__law_draw T.b__law_draw .nil pass0 (pa_cons (pv 1) (pa_cons pe_int pa_nil))) pe_int (nomark _)) (pss_one (ps_asg (pe_call G__law_wrong_rows (hr.mono (by decide)) (by rfl) T.m__law_wrong_rows T.k__law_wrong_rows T.b__law_wrong_rows .nil pass0 (pa_cons (pv 1) (pa_cons (pv 4) pa_nil))) (pg_sub (pv 7) pe_int set_list))) pss_nil)
      (pss_cons (ps_if (pt_cmpR (op_eqA (K := K) hr.units) (pe_call G__law_draw (hr.mono (by decide)) (by rfl) T.m__law_draw T.k__law_draw T.b__law_draw .nil pass0 (pa_cons (pv 1) (pa_cons pe_int pa_nil))) pe_int (nomark _)) (pss_one (ps_asg (pe_call G__law_of (hr.mono (by decide)) (by rfl) T.m__law_of T.k__law_of T.b__law_of .nil pass0 (pa_cons (pv 1) (pa_cons (pv 5) pa_nil))) (pg_sub (pv 7) pe_int set_list))) pss_nil)
      (pss_cons (ps_if (pt_cmpR (op_eqA (K := K) hr.units) (pe_call G__law_draw (hr.mono (by decide)) (by rfl) T.m__law_draw T.k__law_draw T.b__law_draw .nil pass0 (pa_cons (pv 1) (pa_cons pe_int pa_nil))) pe_int (nomark _)) (pss_one (ps_asg (pe_call G__law_of (hr.mono (by decide)) (by rfl) T.m__law_of T.k__law_of T.b__law_of .nil pass0 (pa_cons (pv 1) (pa_cons (pv 6) pa_nil))) (pg_sub (pv 7) pe_int set_list))) pss_nil)
      (pss_cons (ps_set (i := 8) sc_law.nd rfl (Or.inl rfl) (pe_lst (pa_cons (pe_lam0 (TB _ T.in_law) rfl T.tm_law T.hu_law (lamFree_by (sc := defScope s_law) (by decide +kernel))) (pa_cons (pe_lam1 (TB _ T.in_law) rfl T.tm_law T.hu_law (lamFree_by (sc := defScope s_law) (by decide +kernel))) pa_nil))))
      (pss_cons (ps_set (i := 9) sc_law.nd rfl (Or.inl rfl) (pe_call G__law_due (hr.mono (by decide)) (by rfl) T.m__law_due T.k__law_due T.b__law_due .nil pass0 (pa_cons (pv 7) pa_nil)))
      (pss_one (ps_if (pt_not (pt_val (pe_call G__law_same (hr.mono (by decide)) (by rfl) T.m__law_same T.k__law_same T.b__law_same .nil pass0 (pa_cons (pe_callTr (fun _ => rfl) G__law_whys (hr.mono (by decide)) (by rfl) T.m__law_whys T.k__law_whys T.b__law_whys (pa_cons (pv 8) pa_nil)) (pa_cons (pe_lst (pa_cons (pv 9) (pa_cons (pv 9) pa_nil))) pa_nil))))) (pss_one (ps_ret pe_bl)) pss_nil))))))))))))))
      (pss_one (ps_ret (pe_call0 G__law_written_so (hr.mono (by decide)) (by rfl) T.m__law_written_so T.k__law_written_so T.b__law_written_so .nil pass0)))))), fun F0 H0 a b => ?_⟩) (by decide)
  dsimp only [cxOf, env0, env1, List.map, List.length, List.replicate, List.cons_append, List.nil_append, List.append, Nat.reduceAdd, Nat.reduceSub, Nat.zero_add]
  refine sm_seq (sm_set ?_)
  repeat walk_at "yx"
  refine titles_k ⟨by decide, by decide⟩ fun ss h1 h2 h3 => ?_
  obtain ⟨t0, t1, t2, rfl⟩ : ∃ t0 t1 t2, ss = [t0, t1, t2] := by
    match ss, h1 with
    | [t0, t1, t2], _ => exact ⟨t0, t1, t2, rfl⟩
  have n0 := h2 t0 (by simp)
  have hN : NamesD (.lst [.str t0, .str t1, .str t2]) := ⟨[t0, t1, t2], rfl, by show 0 < 3; decide, by show 3 ≤ 1000; decide, h2⟩
  dsimp only [List.map]
  refine sm_seq (sm_for (ei_rng1 (ea_cons (ev_int (ea_nil ⟨8, rfl, by decide, by decide, fun _ e => ∃ s3 s4 s5 s6 s7 s8 s9, e = [.r (.ref a), .r (.ref b), .d (.lst [.str t0, .str t1, .str t2]), s3, s4, s5, s6, s7, s8, s9], ⟨_, _, _, _, _, _, _, rfl⟩, ?_, ?_⟩)))))
  · rintro i x es' hx ⟨s3, s4, s5, s6, s7, s8, s9, rfl⟩
    obtain ⟨hi, rfl⟩ := rangeD_get hx
    refine tg_name ?_
    refine sm_seq (sm_set ?_)
    repeat walk_at "yx"
    refine mod_k n0 hN (by decide) (by decide) fun m hm _ => ?_
    obtain ⟨t, side, rows, al, sc, kp⟩ := m
    dsimp only [Mdl.dt]
    refine sm_seq (sm_set ?_)
    repeat walk_at "yx"
    refine sm_seq (sm_set ?_)
    repeat walk_at "yx"
    refine sm_seq (sm_setO (eo_listL (ea_cons (ev_slT (ev_var rfl ⟨_, rfl, ep_none (ep_some (ev_int (int_ex ⟨(cut5 _ _ _ _ _ _).2, ?_⟩)))⟩)))))
    rw [(cut5 _ _ _ _ _ _).1]
    refine ea_nil ⟨_, .inr rfl, fun ga => ?_⟩
    refine sm_cut (fun e => ∃ v0, e = [.r (.ref a), .r (.ref b), .d (.lst [.str t0, .str t1, .str t2]), .d (.int (0 + (i : Int))), .d (.tup [.str t, .str side, .lst rows, .int al, .str sc, .bl kp]), .d (.lst [.int 3, .int 0, .int 32, .int (-1), .bl true, .non, .str "1", .tup [.int 1], .lst [.int 1]]), .d (.lst [.str "open", .str "", .str "Local", .str "code", .non, .int 3, .tup [.str "local"], .lst [.str "weak"]]), .own ga [v0, .str side, .lst rows, .int al, .str sc], s8, s9] ∧ goodW v0 = true) ?_ ?_
    · refine sm_if ?_
      repeat walk_at "yx"
      refine draw_k ⟨by decide, by decide⟩ fun j j0 j1 => ?_
      repeat walk_at "yx"
      refine ways (fun _ => ?_) (fun _ => ?_)
      · refine sm_setItem rfl ?_
        repeat walk_at "yx"
        refine odd_k (by decide) fun o ho => ?_
        repeat walk_at "yx"
        exact ⟨_, rfl, goodW_in (by decide +kernel) ho⟩
      · exact sm_next ⟨_, rfl, goodW_name hm.nm⟩
    rintro es' ⟨v0, rfl, gv0⟩
    refine sm_cut (fun e => ∃ v1, e = [.r (.ref a), .r (.ref b), .d (.lst [.str t0, .str t1, .str t2]), .d (.int (0 + (i : Int))), .d (.tup [.str t, .str side, .lst rows, .int al, .str sc, .bl kp]), .d (.lst [.int 3, .int 0, .int 32, .int (-1), .bl true, .non, .str "1", .tup [.int 1], .lst [.int 1]]), .d (.lst [.str "open", .str "", .str "Local", .str "code", .non, .int 3, .tup [.str "local"], .lst [.str "weak"]]), .own ga [v0, v1, .lst rows, .int al, .str sc], s8, s9] ∧ goodW v1 = true) ?_ ?_
    · refine sm_if ?_
      repeat walk_at "yx"
      refine draw_k ⟨by decide, by decide⟩ fun j j0 j1 => ?_
      repeat walk_at "yx"
      refine ways (fun _ => ?_) (fun _ => ?_)
      · refine sm_setItem rfl ?_
        repeat walk_at "yx"
        refine odd_k (by decide) fun o ho => ?_
        repeat walk_at "yx"
        exact ⟨_, rfl, goodW_in (by decide +kernel) ho⟩
      · exact sm_next ⟨_, rfl, sd_good hm.sd⟩
    rintro es' ⟨v1, rfl, gv1⟩
    refine sm_cut (fun e => ∃ v2, e = [.r (.ref a), .r (.ref b), .d (.lst [.str t0, .str t1, .str t2]), .d (.int (0 + (i : Int))), .d (.tup [.str t, .str side, .lst rows, .int al, .str sc, .bl kp]), .d (.lst [.int 3, .int 0, .int 32, .int (-1), .bl true, .non, .str "1", .tup [.int 1], .lst [.int 1]]), .d (.lst [.str "open", .str "", .str "Local", .str "code", .non, .int 3, .tup [.str "local"], .lst [.str "weak"]]), .own ga [v0, v1, v2, .int al, .str sc], s8, s9] ∧ listB v2) ?_ ?_
    · refine sm_if ?_
      repeat walk_at "yx"
      refine draw_k ⟨by decide, by decide⟩ fun j j0 j1 => ?_
      repeat walk_at "yx"
      refine ways (fun _ => ?_) (fun _ => ?_)
      · refine sm_setItem rfl ?_
        repeat walk_at "yx"
        refine wro_k (m := ⟨t, side, rows, al, sc, kp⟩) hm fun o ho => ?_
        repeat walk_at "yx"
        exact ⟨_, rfl, ho⟩
      · exact sm_next ⟨_, rfl, (mdl_things hm).listB (by decide)⟩
    rintro es' ⟨v2, rfl, gv2⟩
    refine sm_cut (fun e => ∃ v3, e = [.r (.ref a), .r (.ref b), .d (.lst [.str t0, .str t1, .str t2]), .d (.int (0 + (i : Int))), .d (.tup [.str t, .str side, .lst rows, .int al, .str sc, .bl kp]), .d (.lst [.int 3, .int 0, .int 32, .int (-1), .bl true, .non, .str "1", .tup [.int 1], .lst [.int 1]]), .d (.lst [.str "open", .str "", .str "Local", .str "code", .non, .int 3, .tup [.str "local"], .lst [.str "weak"]]), .own ga [v0, v1, v2, v3, .str sc], s8, s9] ∧ goodW v3 = true) ?_ ?_
    · refine sm_if ?_
      repeat walk_at "yx"
      refine draw_k ⟨by decide, by decide⟩ fun j j0 j1 => ?_
      repeat walk_at "yx"
      refine ways (fun _ => ?_) (fun _ => ?_)
      · refine sm_setItem rfl ?_
        repeat walk_at "yx"
        refine of_k ⟨by show 0 < 9; decide, by show 9 ≤ 100000; decide⟩ fun o ho => ?_
        repeat walk_at "yx"
        exact ⟨_, rfl, goodW_in (by decide +kernel) ho⟩
      · exact sm_next ⟨_, rfl, al_good hm.al⟩
    rintro es' ⟨v3, rfl, gv3⟩
    refine sm_cut (fun e => ∃ v4, e = [.r (.ref a), .r (.ref b), .d (.lst [.str t0, .str t1, .str t2]), .d (.int (0 + (i : Int))), .d (.tup [.str t, .str side, .lst rows, .int al, .str sc, .bl kp]), .d (.lst [.int 3, .int 0, .int 32, .int (-1), .bl true, .non, .str "1", .tup [.int 1], .lst [.int 1]]), .d (.lst [.str "open", .str "", .str "Local", .str "code", .non, .int 3, .tup [.str "local"], .lst [.str "weak"]]), .own ga [v0, v1, v2, v3, v4], s8, s9] ∧ goodW v4 = true) ?_ ?_
    · refine sm_if ?_
      repeat walk_at "yx"
      refine draw_k ⟨by decide, by decide⟩ fun j j0 j1 => ?_
      repeat walk_at "yx"
      refine ways (fun _ => ?_) (fun _ => ?_)
      · refine sm_setItem rfl ?_
        repeat walk_at "yx"
        refine of_k ⟨by show 0 < 8; decide, by show 8 ≤ 100000; decide⟩ fun o ho => ?_
        repeat walk_at "yx"
        exact ⟨_, rfl, goodW_in (by decide +kernel) ho⟩
      · exact sm_next ⟨_, rfl, sc_good hm.sc⟩
    rintro es' ⟨v4, rfl, gv4⟩
    refine sm_freeze 7 rfl ?_
    have pd := ini_why (r := v2) gv0 gv1 gv3 gv4
    refine sm_seq (sm_setL (el_lst (el_cons0 ⟨_, T.tm_law⟩ fun f0 c0 => el_cons1 ⟨_, T.tm_law⟩ fun f1 c1 t1 => el_nil ⟨by simp, ?_⟩)))
    intro a0
    refine sm_seq (sm_set (ev_call (ea_cons (ev_var rfl (ea_nil (due_k (given_ok gv0 gv1 gv2 gv3 gv4) ?_))))))
    refine sm_if (et_not (et_test (ev_call (ea_cons ?_))))
    refine ev_whys (el_var rfl ⟨[initO v0 v1 v2 v3 v4, initO v0 v1 v2 v3 v4], by simp, fun σ F1 H1 os S inj has hlen h0 hv hls => ?_, ?_⟩)
    · refine ⟨?_, ?_, True.intro⟩
      · refine' ask_of (N' := ["_law_script", "_law_bag_here", "_law_titles_here", "_law_turn", "_law_model", "_law_steps", "_law_ways", "_law_given", "_law_asks", "_law_due_here"]) (dvb := false) ?LL0 S inj has hlen h0 hv rfl (hls _ List.mem_cons_self) ?EV0
        case LL0 => exact ⟨lamIn_by (sc := defScope s_law) rfl (by decide +kernel) (by decide +kernel), rfl, rfl, rfl, noCell_by (by decide +kernel), (fun _ _ _ _ _ => rfl), (fun z => nomatch z), fun cl c dv f A outer s H E hr => (pe_makeK T.mk_Piece G_Piece___init__ (hr.mono (by decide)) (by rfl) T.m_Piece T.kb_Piece___init___4_alignment_scope_keep passL (pa_cons (pe_ix (ix_any (K := K)) (pv 7) pe_int (fun _ _ => rfl)) (pa_cons (pe_ix (ix_any (K := K)) (pv 7) pe_int (fun _ _ => rfl)) (pa_cons (pe_ix (ix_any (K := K)) (pv 7) pe_int (fun _ _ => rfl)) pa_nil))) (pk_cons (pe_ix (ix_any (K := K)) (pv 7) pe_int (fun _ _ => rfl)) (pk_cons (pe_ix (ix_any (K := K)) (pv 7) pe_int (fun _ _ => rfl)) (pk_cons (pe_ix (ix_any (K := K)) (pv 4) pe_int (fun _ _ => rfl)) pk_nil))))⟩
        intro F H E hx
        refine ev_makeKR (gD := gk_Piece___init___4_alignment_scope_keep) gkr_Piece___init___4_alignment_scope_keep hx ?_
        repeat walk_at "yx"
        exact ⟨rfl, rfl, ini_kN (fun _ => rfl) (given_ini gv0 gv1 gv2 gv3 gv4) (fun h _ _ => h) fun _ _ e => err_of T e⟩
      · refine' ask_of (N' := ["_law_script", "_law_bag_here", "_law_titles_here", "_law_turn", "_law_model", "_law_steps", "_law_ways", "_law_given", "_law_asks", "_law_due_here"]) (dvb := true) ?LL1 S inj has hlen h0 hv rfl (hls _ (List.mem_cons_of_mem _ List.mem_cons_self)) ?EV1
        case LL1 => exact ⟨lamIn_by (sc := defScope s_law) rfl (by decide +kernel) (by decide +kernel), rfl, rfl, rfl, noCell_by (by decide +kernel), (fun z => nomatch z), (fun _ => ⟨"_law_a", by decide +kernel, fun cl c t pm ctv v => ⟨_, rfl, rfl⟩⟩), fun cl c dv f A outer s H E hr => (pe_makeK0 T.mk_Piece G_Piece___init__ (hr.mono (by decide)) (by rfl) T.m_Piece T.kb_Piece___init___1_scope_rows_name_alignment_part passL (pk_cons (pe_ix (ix_any (K := K)) (pv 7) pe_int (fun _ _ => rfl)) (pk_cons (pe_ix (ix_any (K := K)) (pv 7) pe_int (fun _ _ => rfl)) (pk_cons (pe_ix (ix_any (K := K)) (pv 7) pe_int (fun _ _ => rfl)) (pk_cons (pe_ix (ix_any (K := K)) (pv 7) pe_int (fun _ _ => rfl)) (pk_cons (pe_ix (ix_any (K := K)) (pv 7) pe_int (fun _ _ => rfl)) pk_nil))))))⟩
        intro F H E hx
        refine ev_makeKR (gD := gk_Piece___init___1_scope_rows_name_alignment_part [.bl false]) gkr_Piece___init___1_scope_rows_name_alignment_part hx ?_
        repeat walk_at "yx"
        exact ⟨rfl, rfl, ini_kN (fun _ => rfl) (given_ini gv0 gv1 gv2 gv3 gv4) (fun h _ _ => h) fun _ _ e => err_of T e⟩

    repeat walk_at "yx"
    refine same_k rfl (by simp [Dt.pureD, pureAll, pd.1]) (by simp only [List.map, Dt.depth, depthAll]; omega) ?_
    repeat walk_at "y"
    exact ⟨_, _, _, _, _, _, _, rfl⟩
  · rintro es' ⟨s3, s4, s5, s6, s7, s8, s9, rfl⟩
    refine sm_ret (ev_callT (ea_nil ⟨rfl, fun d h => h⟩))
end
end Law
namespace Law
open PySem L2 Y
local macro_rules | `(tactic| walk_at "yv") => `(tactic| ((with_reducible show Ev _ (tVar _) _ _); refine ev_var rfl ?_))
local macro_rules | `(tactic| walk_at "ys") => `(tactic| with_reducible first
  | refine sm_seq ?_ | refine sm_ret ?_ | refine sm_if ?_ | refine sm_set ?_ | refine sm_next ?_ | refine sm_par ?_ | refine sm_drop ?_ | refine sm_brk ?_ | refine sm_cont ?_)
local macro_rules | `(tactic| walk_at "ye") => `(tactic| with_reducible first
  | refine ev_op ?_ | refine ev_and ?_ | refine ev_or ?_ | refine ev_not ?_ | refine ev_if ?_ | refine ev_chain ?_ | refine ev_neg ?_ | refine ev_isInt ?_ | refine ev_isBool ?_ | refine ev_isStr ?_ | refine ev_isList ?_ | refine ev_isTuple ?_ | refine ev_isLT ?_ | refine ev_isDict ?_
  | refine ev_int ?_ | refine ev_str ?_ | refine ev_bl ?_ | refine ev_non ?_ | refine ev_call ?_ | refine ev_cb ?_ | refine ev_lst ?_ | refine ev_tup ?_ | refine ev_join ?_
  | refine ea_nil ?_ | refine ea_cons ?_
  | refine et_B ?_ | refine et_test ?_ | refine et_not ?_ | refine et_and ?_ | refine et_or ?_ | refine et_yes ?_
  | refine o_plusI ?_ | refine o_i0 ?_ | refine o_b0 ?_ | refine o_isN ?_ | refine o_notN ?_
  | refine bl_ex ?_ | refine int_ex ?_ | refine str_ex ?_ | refine lst_ex ?_ | refine tup_ex ?_)
local macro_rules | `(tactic| walk_at "yo") => `(tactic| first
  | ((with_reducible show Ev _ (tOp (rIx _) (tVar _) _) _ _); refine ev_ixOwn rfl ?_)
  | ((with_reducible show Ev _ (tCB _ (tCons (tVar _) tNil)) _ _); refine ev_lenOwn rfl ?_)
  | ((with_reducible show Sm _ (tAsg _ (gSub (tVar _) _ _)) _ _); refine sm_setItem rfl ?_)
  | ((with_reducible show Ev _ (tCall (spB _ _ _) _ _ _) _ _); refine ev_callB rfl rfl ?_))
local macro_rules | `(tactic| walk_at "yc") => `(tactic| first
  | ((with_reducible show CMul _ _); first | exact Or.inr ⟨by decide, by decide⟩ | exact Or.inl ⟨by decide, by decide⟩ | exact Or.inr ⟨by omega, by omega⟩ | exact Or.inl ⟨by omega, by omega⟩)
  | ((with_reducible show CDiv _ _); exact ⟨by first | decide | omega, by first | decide | omega⟩)
  | ((with_reducible show CPow _ _); exact ⟨by decide, by decide, by first | decide | omega⟩)
  | ((show (0 : Int) < _); first | decide | omega))
local macro_rules | `(tactic| walk_at "yd") => `(tactic| first
  | ((with_reducible show plainD _ = true ∧ _); refine ⟨by first | rfl | assumption, ?_⟩)
  | ((with_reducible show (_ = true → _) ∧ (_ = false → _)); first | refine way_t rfl ?_ | refine way_f rfl ?_ | refine way_t (by decide +kernel) ?_ | refine way_f (by decide +kernel) ?_)
  | ((with_reducible show Cal _ _ _ _ _); first | (with_reducible refine c_int ?_) | (with_reducible refine c_abs ?_) | (refine c_len rfl ?_) | (refine c_len (if_pos (by assumption)) ?_))
  | ((with_reducible show Op2 _ (rEqA _) _ _ _ _); refine o_eqA rfl ?_)
  | ((with_reducible show Op2 _ (rNeA _) _ _ _ _); refine o_neA rfl ?_)
  | ((with_reducible show Op2 _ (rInA _) _ (Dt.str _) (Dt.lst _) _); refine o_inAL rfl rfl ?_)
  | ((with_reducible show Op2 _ (rInA _) _ (Dt.str _) (Dt.tup _) _); refine o_inAT rfl rfl ?_)
  | ((with_reducible show Op2 _ (rI _ _) _ _ _ _); refine o_i (by walk_at "yc") ?_)
  | ((with_reducible show Op2 _ (rIx _) _ (Dt.tup _) _ _); refine o_ixAT (atI_toNat (by decide) rfl) ?_)
  | ((with_reducible show Op2 _ (rIx _) _ (Dt.lst _) _ _); refine o_ixAL (atI_toNat (by decide) rfl) ?_)
  | ((with_reducible show ∃ x, atI _ _ = some x ∧ _); refine ⟨_, rfl, ?_⟩)
  | ((with_reducible show ∃ x, ixN _ _ = some x ∧ _); refine ⟨_, rfl, ?_⟩)
  | ((with_reducible show List.length _ ≤ 100000 ∧ _); refine ⟨by (try simp only [List.length_cons, List.length_nil]); first | decide | omega, ?_⟩))
local macro_rules | `(tactic| walk_at "y") => `(tactic| first | walk_at "yo" | walk_at "ye" | walk_at "yv" | walk_at "ys" | walk_at "yd")
local macro_rules | `(tactic| walk_at "yx") => `(tactic| first | walk_at "yo" | walk_at "ye" | walk_at "yv" | walk_at "yd")
theorem gkv_Piece___init___4_alignment_scope_keep : ∀ (vs : List V) (ds : List Value) (zs : List V) (as : List Value), Vals vs ds → Vals zs as → Vals (gk_Piece___init___4_alignment_scope_keep vs zs) (gk_Piece___init___4_alignment_scope_keep ds as) := by
  intro vs ds zs as h1 h2
  cases h1 with
  | nil => first | exact .nil | (cases h2 <;> exact .nil)
  | cons a0 t10 =>
    cases t10 with
    | nil => first | exact .nil | (cases h2 <;> exact .nil)
    | cons a1 t11 =>
      cases t11 with
      | nil => first | exact .nil | (cases h2 <;> exact .nil)
      | cons a2 t12 =>
        cases t12 with
        | nil => first | exact .nil | (cases h2 <;> exact .nil)
        | cons a3 t13 =>
          cases t13 with
          | cons _ _ => first | exact .nil | (cases h2 <;> exact .nil)
          | nil =>
            cases h2 with
            | nil => exact .nil
            | cons b0 t20 =>
              cases t20 with
              | nil => exact .nil
              | cons b1 t21 =>
                cases t21 with
                | nil => exact .nil
                | cons b2 t22 =>
                  cases t22 with
                  | cons _ _ => exact .nil
                  | nil =>
                    exact .cons a0 (.cons a1 (.cons a2 (.cons a3 (.cons b0 (.cons b1 (.cons b2 .nil))))))
theorem gkw_Piece___init___4_scope {fv : List V} {fu : List Value} {vs zs : List V} {us ws : List Value} (h0 : Vals fv fu) (h1 : Vals vs us) (h2 : Vals zs ws) : Vals (gk_Piece___init___4_scope fv vs zs) (gk_Piece___init___4_scope fu us ws) := by
  cases h0 with
  | nil => (first | exact .nil | (cases h1 <;> first | exact .nil | (cases h2 <;> exact .nil)) | (cases h2 <;> exact .nil))
  | cons c0 tc0 =>
    cases tc0 with
    | nil => (first | exact .nil | (cases h1 <;> first | exact .nil | (cases h2 <;> exact .nil)) | (cases h2 <;> exact .nil))
    | cons c1 tc1 =>
      cases tc1 with
      | cons _ _ => (first | exact .nil | (cases h1 <;> first | exact .nil | (cases h2 <;> exact .nil)) | (cases h2 <;> exact .nil))
      | nil =>
        cases h1 with
        | nil => (first | exact .nil | (cases h1 <;> first | exact .nil | (cases h2 <;> exact .nil)) | (cases h2 <;> exact .nil))
        | cons a0 ta0 =>
          cases ta0 with
          | nil => (first | exact .nil | (cases h1 <;> first | exact .nil | (cases h2 <;> exact .nil)) | (cases h2 <;> exact .nil))
          | cons a1 ta1 =>
            cases ta1 with
            | nil => (first | exact .nil | (cases h1 <;> first | exact .nil | (cases h2 <;> exact .nil)) | (cases h2 <;> exact .nil))
            | cons a2 ta2 =>
              cases ta2 with
              | nil => (first | exact .nil | (cases h1 <;> first | exact .nil | (cases h2 <;> exact .nil)) | (cases h2 <;> exact .nil))
              | cons a3 ta3 =>
                cases ta3 with
                | cons _ _ => (first | exact .nil | (cases h1 <;> first | exact .nil | (cases h2 <;> exact .nil)) | (cases h2 <;> exact .nil))
                | nil =>
                  cases h2 with
                  | nil => (first | exact .nil | (cases h1 <;> first | exact .nil | (cases h2 <;> exact .nil)) | (cases h2 <;> exact .nil))
                  | cons b0 tb0 =>
                    cases tb0 with
                    | cons _ _ => (first | exact .nil | (cases h1 <;> first | exact .nil | (cases h2 <;> exact .nil)) | (cases h2 <;> exact .nil))
                    | nil =>
                      exact .cons a0 (.cons a1 (.cons a2 (.cons a3 (.cons c0 (.cons b0 (.cons c1 (.nil)))))))
theorem gkw_Piece___init___4_alignment_scope {fv : List V} {fu : List Value} {vs zs : List V} {us ws : List Value} (h0 : Vals fv fu) (h1 : Vals vs us) (h2 : Vals zs ws) : Vals (gk_Piece___init___4_alignment_scope fv vs zs) (gk_Piece___init___4_alignment_scope fu us ws) := by
  cases h0 with
  | nil => (first | exact .nil | (cases h1 <;> first | exact .nil | (cases h2 <;> exact .nil)) | (cases h2 <;> exact .nil))
  | cons c0 tc0 =>
    cases tc0 with
    | cons _ _ => (first | exact .nil | (cases h1 <;> first | exact .nil | (cases h2 <;> exact .nil)) | (cases h2 <;> exact .nil))
    | nil =>
      cases h1 with
      | nil => (first | exact .nil | (cases h1 <;> first | exact .nil | (cases h2 <;> exact .nil)) | (cases h2 <;> exact .nil))
      | cons a0 ta0 =>
        cases ta0 with
        | nil => (first | exact .nil | (cases h1 <;> first | exact .nil | (cases h2 <;> exact .nil)) | (cases h2 <;> exact .nil))
        | cons a1 ta1 =>
          cases ta1 with
          | nil => (first | exact .nil | (cases h1 <;> first | exact .nil | (cases h2 <;> exact .nil)) | (cases h2 <;> exact .nil))
          | cons a2 ta2 =>
            cases ta2 with
            | nil => (first | exact .nil | (cases h1 <;> first | exact .nil | (cases h2 <;> exact .nil)) | (cases h2 <;> exact .nil))
            | cons a3 ta3 =>
              cases ta3 with
              | cons _ _ => (first | exact .nil | (cases h1 <;> first | exact .nil | (cases h2 <;> exact .nil)) | (cases h2 <;> exact .nil))
              | nil =>
                cases h2 with
                | nil => (first | exact .nil | (cases h1 <;> first | exact .nil | (cases h2 <;> exact .nil)) | (cases h2 <;> exact .nil))
                | cons b0 tb0 =>
                  cases tb0 with
                  | nil => (first | exact .nil | (cases h1 <;> first | exact .nil | (cases h2 <;> exact .nil)) | (cases h2 <;> exact .nil))
                  | cons b1 tb1 =>
                    cases tb1 with
                    | cons _ _ => (first | exact .nil | (cases h1 <;> first | exact .nil | (cases h2 <;> exact .nil)) | (cases h2 <;> exact .nil))
                    | nil =>
                      exact .cons a0 (.cons a1 (.cons a2 (.cons a3 (.cons b0 (.cons b1 (.cons c0 (.nil)))))))
theorem gkw_Piece___init___4_alignment {fv : List V} {fu : List Value} {vs zs : List V} {us ws : List Value} (h0 : Vals fv fu) (h1 : Vals vs us) (h2 : Vals zs ws) : Vals (gk_Piece___init___4_alignment fv vs zs) (gk_Piece___init___4_alignment fu us ws) := by
  cases h0 with
  | nil => (first | exact .nil | (cases h1 <;> first | exact .nil | (cases h2 <;> exact .nil)) | (cases h2 <;> exact .nil))
  | cons c0 tc0 =>
    cases tc0 with
    | nil => (first | exact .nil | (cases h1 <;> first | exact .nil | (cases h2 <;> exact .nil)) | (cases h2 <;> exact .nil))
    | cons c1 tc1 =>
      cases tc1 with
      | cons _ _ => (first | exact .nil | (cases h1 <;> first | exact .nil | (cases h2 <;> exact .nil)) | (cases h2 <;> exact .nil))
      | nil =>
        cases h1 with
        | nil => (first | exact .nil | (cases h1 <;> first | exact .nil | (cases h2 <;> exact .nil)) | (cases h2 <;> exact .nil))
        | cons a0 ta0 =>
          cases ta0 with
          | nil => (first | exact .nil | (cases h1 <;> first | exact .nil | (cases h2 <;> exact .nil)) | (cases h2 <;> exact .nil))
          | cons a1 ta1 =>
            cases ta1 with
            | nil => (first | exact .nil | (cases h1 <;> first | exact .nil | (cases h2 <;> exact .nil)) | (cases h2 <;> exact .nil))
            | cons a2 ta2 =>
              cases ta2 with
              | nil => (first | exact .nil | (cases h1 <;> first | exact .nil | (cases h2 <;> exact .nil)) | (cases h2 <;> exact .nil))
              | cons a3 ta3 =>
                cases ta3 with
                | cons _ _ => (first | exact .nil | (cases h1 <;> first | exact .nil | (cases h2 <;> exact .nil)) | (cases h2 <;> exact .nil))
                | nil =>
                  cases h2 with
                  | nil => (first | exact .nil | (cases h1 <;> first | exact .nil | (cases h2 <;> exact .nil)) | (cases h2 <;> exact .nil))
                  | cons b0 tb0 =>
                    cases tb0 with
                    | cons _ _ => (first | exact .nil | (cases h1 <;> first | exact .nil | (cases h2 <;> exact .nil)) | (cases h2 <;> exact .nil))
                    | nil =>
                      exact .cons a0 (.cons a1 (.cons a2 (.cons a3 (.cons b0 (.cons c0 (.cons c1 (.nil)))))))
theorem gkw_Piece___init___1_scope_rows_name_alignment_part {fv : List V} {fu : List Value} {vs zs : List V} {us ws : List Value} (h0 : Vals fv fu) (h1 : Vals vs us) (h2 : Vals zs ws) : Vals (gk_Piece___init___1_scope_rows_name_alignment_part fv vs zs) (gk_Piece___init___1_scope_rows_name_alignment_part fu us ws) := by
  cases h0 with
  | nil => (first | exact .nil | (cases h1 <;> first | exact .nil | (cases h2 <;> exact .nil)) | (cases h2 <;> exact .nil))
  | cons c0 tc0 =>
    cases tc0 with
    | cons _ _ => (first | exact .nil | (cases h1 <;> first | exact .nil | (cases h2 <;> exact .nil)) | (cases h2 <;> exact .nil))
    | nil =>
      cases h1 with
      | nil => (first | exact .nil | (cases h1 <;> first | exact .nil | (cases h2 <;> exact .nil)) | (cases h2 <;> exact .nil))
      | cons a0 ta0 =>
        cases ta0 with
        | cons _ _ => (first | exact .nil | (cases h1 <;> first | exact .nil | (cases h2 <;> exact .nil)) | (cases h2 <;> exact .nil))
        | nil =>
          cases h2 with
          | nil => (first | exact .nil | (cases h1 <;> first | exact .nil | (cases h2 <;> exact .nil)) | (cases h2 <;> exact .nil))
          | cons b0 tb0 =>
            cases tb0 with
            | nil => (first | exact .nil | (cases h1 <;> first | exact .nil | (cases h2 <;> exact .nil)) | (cases h2 <;> exact .nil))
            | cons b1 tb1 =>
              cases tb1 with
              | nil => (first | exact .nil | (cases h1 <;> first | exact .nil | (cases h2 <;> exact .nil)) | (cases h2 <;> exact .nil))
              | cons b2 tb2 =>
                cases tb2 with
                | nil => (first | exact .nil | (cases h1 <;> first | exact .nil | (cases h2 <;> exact .nil)) | (cases h2 <;> exact .nil))
                | cons b3 tb3 =>
                  cases tb3 with
                  | nil => (first | exact .nil | (cases h1 <;> first | exact .nil | (cases h2 <;> exact .nil)) | (cases h2 <;> exact .nil))
                  | cons b4 tb4 =>
                    cases tb4 with
                    | cons _ _ => (first | exact .nil | (cases h1 <;> first | exact .nil | (cases h2 <;> exact .nil)) | (cases h2 <;> exact .nil))
                    | nil =>
                      exact .cons a0 (.cons b2 (.cons b4 (.cons b1 (.cons b3 (.cons b0 (.cons c0 (.nil)))))))
theorem exm_one_of {K : PySem.W.Frag} {cls : Value} {B : Addr} {b : Bool} (e : PySem.W.subIn K (.ref B) (.type "BaseException") = some true) (i : PySem.W.isClsIn K B = true) (t : PySem.W.typeIn K (.ref B) = some (.type "type")) (s : PySem.W.subIn K cls (.ref B) = some b) : PySem.W.exmOne K cls (.ref B) = some b := by
  unfold PySem.W.exmOne
  rw [e, if_pos (by decide)]
  have i2 : (PySem.W.clsIn K B).isSome = true := i
  show (if ((PySem.W.clsIn K B).isSome && PySem.W.typeIn K (.ref B) == some (.type "type")) = true then PySem.W.subIn K cls (.ref B) else none) = some b
  rw [t, i2, if_pos (by decide)]
  exact s
theorem exm_any2 {K : PySem.W.Frag} {cls c1 c2 : Value} {b1 b2 : Bool} (h1 : PySem.W.exmOne K cls c1 = some b1) (h2 : PySem.W.exmOne K cls c2 = some b2) (h : (b1 || (b2 || false)) = true) : PySem.W.exmAny K cls [c1, c2] = some true := by
  have e2 : PySem.W.exmAny K cls [c2] = some (b2 || false) := by unfold PySem.W.exmAny; rw [h2]; rfl
  unfold PySem.W.exmAny
  rw [h1, e2]
  exact congrArg some h
theorem all_mk {l : PySem.W.OpenLaw} {w : World} {K : PySem.W.Frag} {h : Heap} {mg : Str → Option Value} {fa : Addr} (X : K.In h) (G : h.Ns mainGlobals mg) (hfa : mg "law" = some (.ref fa))
    {C_Piece : Addr} (aC_Piece : PySem.W.nsIn K mainGlobals "Piece" = some (some (.ref C_Piece)))
    (pg_Piece : PySem.W.plainGet K C_Piece Str.empty = true) (hd_Piece : PySem.W.hasDictIn K C_Piece = true) (po_Piece : PySem.W.plainOver K C_Piece = true) (sa_Piece : PySem.W.findIn K (.ref C_Piece) "__setattr__" = some (some (.builtin "object.__setattr__"))) (mk_Piece : PySem.W.makesIn K C_Piece = true) (kc_Piece : PySem.W.keepIn K (.ref C_Piece) = true)
    (ha_Piece : PySem.W.findIn K (.ref C_Piece) "__class__" = some (some (.builtin "object.__class__"))) (hn_Piece : PySem.W.specialIn K (.builtin "object.__class__") "__get__" = some (some (.builtin "getset_descriptor.__get__"))) (ht_Piece : PySem.W.takesIn K (.builtin "object.__class__") = some true) (hm_Piece : PySem.W.mroIn K C_Piece (.type "object") = some true) (ty1_Piece : PySem.W.isClsIn K C_Piece = true) (ty2_Piece : PySem.W.typeIn K (.ref C_Piece) = some (.type "type")) (ne_Piece : PySem.W.findIn K (.ref C_Piece) "__ne__" = some (some (.builtin "object.__ne__")))
    (nq_Piece_name : PySem.W.findIn K (.ref C_Piece) "name" = some none)
    (nq_Piece_part : PySem.W.findIn K (.ref C_Piece) "part" = some none)
    (nq_Piece_alignment : PySem.W.findIn K (.ref C_Piece) "alignment" = some none)
    (nq_Piece_scope : PySem.W.findIn K (.ref C_Piece) "scope" = some none)
    (nq_Piece_keep : PySem.W.findIn K (.ref C_Piece) "keep" = some none)
    (nq_Piece_own_rows : PySem.W.findIn K (.ref C_Piece) "own_rows" = some none)
    {C_ImageError : Addr} (aC_ImageError : PySem.W.nsIn K mainGlobals "ImageError" = some (some (.ref C_ImageError)))
    (eB_ImageError : PySem.W.subIn K (.ref C_ImageError) (.type "BaseException") = some true) (iB_ImageError : PySem.W.isClsIn K C_ImageError = true) (tB_ImageError : PySem.W.typeIn K (.ref C_ImageError) = some (.type "type"))
    {C_Missing : Addr} (aC_Missing : PySem.W.nsIn K mainGlobals "Missing" = some (some (.ref C_Missing)))
    (eB_Missing : PySem.W.subIn K (.ref C_Missing) (.type "BaseException") = some true) (iB_Missing : PySem.W.isClsIn K C_Missing = true) (tB_Missing : PySem.W.typeIn K (.ref C_Missing) = some (.type "type"))
    {C_InvalidName N_InvalidName : Addr} {nm_InvalidName q_InvalidName : Str} {bs_InvalidName bm_InvalidName sub_InvalidName : List Value} {sn_InvalidName : List Str} {ab_InvalidName : Bool} {col_InvalidName : Option Bool} {dd_InvalidName : Option Addr} {m0_InvalidName m1_InvalidName m2_InvalidName m3_InvalidName m5_InvalidName : Option Value} (aC_InvalidName : PySem.W.nsIn K mainGlobals "InvalidName" = some (some (.ref C_InvalidName)))
    (xL_InvalidName : K.lookup C_InvalidName = some (excClassObj nm_InvalidName q_InvalidName C_InvalidName N_InvalidName bs_InvalidName bm_InvalidName true sn_InvalidName sub_InvalidName ab_InvalidName col_InvalidName dd_InvalidName m0_InvalidName m1_InvalidName m2_InvalidName m3_InvalidName m5_InvalidName "ValueError.__new__")) (rv_InvalidName : PySem.HandSPX.refsVE bm_InvalidName = true)
    (sa_InvalidName : PySem.W.findIn K (.ref C_InvalidName) "__setattr__" = some (some (.builtin "object.__setattr__"))) (ga_InvalidName : PySem.W.findIn K (.ref C_InvalidName) "__getattribute__" = some (some (.builtin "BaseException.__getattribute__"))) (gg_InvalidName : PySem.W.findIn K (.ref C_InvalidName) "__getattr__" = some none)
    (kC_InvalidName : PySem.W.keepIn K (.ref C_InvalidName) = true) (eC_InvalidName : PySem.W.subIn K (.ref C_InvalidName) (.type "BaseException") = some true) (tC_InvalidName : PySem.W.typeIn K (.ref C_InvalidName) = some (.type "type")) (hC_InvalidName : PySem.W.hasDictIn K C_InvalidName = true)
    (x1_InvalidName : PySem.W.subIn K (.ref C_InvalidName) (.ref C_ImageError) = some true) (x2_InvalidName : PySem.W.subIn K (.ref C_InvalidName) (.ref C_Missing) = some false)
    (nq_InvalidName_code : PySem.W.findIn K (.ref C_InvalidName) "code" = some none)
    (nq_InvalidName_value : PySem.W.findIn K (.ref C_InvalidName) "value" = some none)
    {C_InvalidPart N_InvalidPart : Addr} {nm_InvalidPart q_InvalidPart : Str} {bs_InvalidPart bm_InvalidPart sub_InvalidPart : List Value} {sn_InvalidPart : List Str} {ab_InvalidPart : Bool} {col_InvalidPart : Option Bool} {dd_InvalidPart : Option Addr} {m0_InvalidPart m1_InvalidPart m2_InvalidPart m3_InvalidPart m5_InvalidPart : Option Value} (aC_InvalidPart : PySem.W.nsIn K mainGlobals "InvalidPart" = some (some (.ref C_InvalidPart)))
    (xL_InvalidPart : K.lookup C_InvalidPart = some (excClassObj nm_InvalidPart q_InvalidPart C_InvalidPart N_InvalidPart bs_InvalidPart bm_InvalidPart true sn_InvalidPart sub_InvalidPart ab_InvalidPart col_InvalidPart dd_InvalidPart m0_InvalidPart m1_InvalidPart m2_InvalidPart m3_InvalidPart m5_InvalidPart "ValueError.__new__")) (rv_InvalidPart : PySem.HandSPX.refsVE bm_InvalidPart = true)
    (sa_InvalidPart : PySem.W.findIn K (.ref C_InvalidPart) "__setattr__" = some (some (.builtin "object.__setattr__"))) (ga_InvalidPart : PySem.W.findIn K (.ref C_InvalidPart) "__getattribute__" = some (some (.builtin "BaseException.__getattribute__"))) (gg_InvalidPart : PySem.W.findIn K (.ref C_InvalidPart) "__getattr__" = some none)
    (kC_InvalidPart : PySem.W.keepIn K (.ref C_InvalidPart) = true) (eC_InvalidPart : PySem.W.subIn K (.ref C_InvalidPart) (.type "BaseException") = some true) (tC_InvalidPart : PySem.W.typeIn K (.ref C_InvalidPart) = some (.type "type")) (hC_InvalidPart : PySem.W.hasDictIn K C_InvalidPart = true)
    (x1_InvalidPart : PySem.W.subIn K (.ref C_InvalidPart) (.ref C_ImageError) = some true) (x2_InvalidPart : PySem.W.subIn K (.ref C_InvalidPart) (.ref C_Missing) = some false)
    (nq_InvalidPart_code : PySem.W.findIn K (.ref C_InvalidPart) "code" = some none)
    (nq_InvalidPart_value : PySem.W.findIn K (.ref C_InvalidPart) "value" = some none)
    {C_InvalidAlignment N_InvalidAlignment : Addr} {nm_InvalidAlignment q_InvalidAlignment : Str} {bs_InvalidAlignment bm_InvalidAlignment sub_InvalidAlignment : List Value} {sn_InvalidAlignment : List Str} {ab_InvalidAlignment : Bool} {col_InvalidAlignment : Option Bool} {dd_InvalidAlignment : Option Addr} {m0_InvalidAlignment m1_InvalidAlignment m2_InvalidAlignment m3_InvalidAlignment m5_InvalidAlignment : Option Value} (aC_InvalidAlignment : PySem.W.nsIn K mainGlobals "InvalidAlignment" = some (some (.ref C_InvalidAlignment)))
    (xL_InvalidAlignment : K.lookup C_InvalidAlignment = some (excClassObj nm_InvalidAlignment q_InvalidAlignment C_InvalidAlignment N_InvalidAlignment bs_InvalidAlignment bm_InvalidAlignment true sn_InvalidAlignment sub_InvalidAlignment ab_InvalidAlignment col_InvalidAlignment dd_InvalidAlignment m0_InvalidAlignment m1_InvalidAlignment m2_InvalidAlignment m3_InvalidAlignment m5_InvalidAlignment "ValueError.__new__")) (rv_InvalidAlignment : PySem.HandSPX.refsVE bm_InvalidAlignment = true)
    (sa_InvalidAlignment : PySem.W.findIn K (.ref C_InvalidAlignment) "__setattr__" = some (some (.builtin "object.__setattr__"))) (ga_InvalidAlignment : PySem.W.findIn K (.ref C_InvalidAlignment) "__getattribute__" = some (some (.builtin "BaseException.__getattribute__"))) (gg_InvalidAlignment : PySem.W.findIn K (.ref C_InvalidAlignment) "__getattr__" = some none)
    (kC_InvalidAlignment : PySem.W.keepIn K (.ref C_InvalidAlignment) = true) (eC_InvalidAlignment : PySem.W.subIn K (.ref C_InvalidAlignment) (.type "BaseException") = some true) (tC_InvalidAlignment : PySem.W.typeIn K (.ref C_InvalidAlignment) = some (.type "type")) (hC_InvalidAlignment : PySem.W.hasDictIn K C_InvalidAlignment = true)
    (x1_InvalidAlignment : PySem.W.subIn K (.ref C_InvalidAlignment) (.ref C_ImageError) = some true) (x2_InvalidAlignment : PySem.W.subIn K (.ref C_InvalidAlignment) (.ref C_Missing) = some false)
    (nq_InvalidAlignment_code : PySem.W.findIn K (.ref C_InvalidAlignment) "code" = some none)
    (nq_InvalidAlignment_value : PySem.W.findIn K (.ref C_InvalidAlignment) "value" = some none)
    {C_InvalidScope N_InvalidScope : Addr} {nm_InvalidScope q_InvalidScope : Str} {bs_InvalidScope bm_InvalidScope sub_InvalidScope : List Value} {sn_InvalidScope : List Str} {ab_InvalidScope : Bool} {col_InvalidScope : Option Bool} {dd_InvalidScope : Option Addr} {m0_InvalidScope m1_InvalidScope m2_InvalidScope m3_InvalidScope m5_InvalidScope : Option Value} (aC_InvalidScope : PySem.W.nsIn K mainGlobals "InvalidScope" = some (some (.ref C_InvalidScope)))
    (xL_InvalidScope : K.lookup C_InvalidScope = some (excClassObj nm_InvalidScope q_InvalidScope C_InvalidScope N_InvalidScope bs_InvalidScope bm_InvalidScope true sn_InvalidScope sub_InvalidScope ab_InvalidScope col_InvalidScope dd_InvalidScope m0_InvalidScope m1_InvalidScope m2_InvalidScope m3_InvalidScope m5_InvalidScope "ValueError.__new__")) (rv_InvalidScope : PySem.HandSPX.refsVE bm_InvalidScope = true)
    (sa_InvalidScope : PySem.W.findIn K (.ref C_InvalidScope) "__setattr__" = some (some (.builtin "object.__setattr__"))) (ga_InvalidScope : PySem.W.findIn K (.ref C_InvalidScope) "__getattribute__" = some (some (.builtin "BaseException.__getattribute__"))) (gg_InvalidScope : PySem.W.findIn K (.ref C_InvalidScope) "__getattr__" = some none)
    (kC_InvalidScope : PySem.W.keepIn K (.ref C_InvalidScope) = true) (eC_InvalidScope : PySem.W.subIn K (.ref C_InvalidScope) (.type "BaseException") = some true) (tC_InvalidScope : PySem.W.typeIn K (.ref C_InvalidScope) = some (.type "type")) (hC_InvalidScope : PySem.W.hasDictIn K C_InvalidScope = true)
    (x1_InvalidScope : PySem.W.subIn K (.ref C_InvalidScope) (.ref C_ImageError) = some true) (x2_InvalidScope : PySem.W.subIn K (.ref C_InvalidScope) (.ref C_Missing) = some false)
    (nq_InvalidScope_code : PySem.W.findIn K (.ref C_InvalidScope) "code" = some none)
    (nq_InvalidScope_value : PySem.W.findIn K (.ref C_InvalidScope) "value" = some none)
    {C_InvalidRow N_InvalidRow : Addr} {nm_InvalidRow q_InvalidRow : Str} {bs_InvalidRow bm_InvalidRow sub_InvalidRow : List Value} {sn_InvalidRow : List Str} {ab_InvalidRow : Bool} {col_InvalidRow : Option Bool} {dd_InvalidRow : Option Addr} {m0_InvalidRow m1_InvalidRow m2_InvalidRow m3_InvalidRow m5_InvalidRow : Option Value} (aC_InvalidRow : PySem.W.nsIn K mainGlobals "InvalidRow" = some (some (.ref C_InvalidRow)))
    (xL_InvalidRow : K.lookup C_InvalidRow = some (excClassObj nm_InvalidRow q_InvalidRow C_InvalidRow N_InvalidRow bs_InvalidRow bm_InvalidRow true sn_InvalidRow sub_InvalidRow ab_InvalidRow col_InvalidRow dd_InvalidRow m0_InvalidRow m1_InvalidRow m2_InvalidRow m3_InvalidRow m5_InvalidRow "ValueError.__new__")) (rv_InvalidRow : PySem.HandSPX.refsVE bm_InvalidRow = true)
    (sa_InvalidRow : PySem.W.findIn K (.ref C_InvalidRow) "__setattr__" = some (some (.builtin "object.__setattr__"))) (ga_InvalidRow : PySem.W.findIn K (.ref C_InvalidRow) "__getattribute__" = some (some (.builtin "BaseException.__getattribute__"))) (gg_InvalidRow : PySem.W.findIn K (.ref C_InvalidRow) "__getattr__" = some none)
    (kC_InvalidRow : PySem.W.keepIn K (.ref C_InvalidRow) = true) (eC_InvalidRow : PySem.W.subIn K (.ref C_InvalidRow) (.type "BaseException") = some true) (tC_InvalidRow : PySem.W.typeIn K (.ref C_InvalidRow) = some (.type "type")) (hC_InvalidRow : PySem.W.hasDictIn K C_InvalidRow = true)
    (x1_InvalidRow : PySem.W.subIn K (.ref C_InvalidRow) (.ref C_ImageError) = some true) (x2_InvalidRow : PySem.W.subIn K (.ref C_InvalidRow) (.ref C_Missing) = some false)
    (nq_InvalidRow_code : PySem.W.findIn K (.ref C_InvalidRow) "code" = some none)
    (nq_InvalidRow_at : PySem.W.findIn K (.ref C_InvalidRow) "at" = some none)
    {C_NotClosing N_NotClosing : Addr} {nm_NotClosing q_NotClosing : Str} {bs_NotClosing bm_NotClosing sub_NotClosing : List Value} {sn_NotClosing : List Str} {ab_NotClosing : Bool} {col_NotClosing : Option Bool} {dd_NotClosing : Option Addr} {m0_NotClosing m1_NotClosing m2_NotClosing m3_NotClosing m5_NotClosing : Option Value} (aC_NotClosing : PySem.W.nsIn K mainGlobals "NotClosing" = some (some (.ref C_NotClosing)))
    (xL_NotClosing : K.lookup C_NotClosing = some (excClassObj nm_NotClosing q_NotClosing C_NotClosing N_NotClosing bs_NotClosing bm_NotClosing true sn_NotClosing sub_NotClosing ab_NotClosing col_NotClosing dd_NotClosing m0_NotClosing m1_NotClosing m2_NotClosing m3_NotClosing m5_NotClosing "ValueError.__new__")) (rv_NotClosing : PySem.HandSPX.refsVE bm_NotClosing = true)
    (sa_NotClosing : PySem.W.findIn K (.ref C_NotClosing) "__setattr__" = some (some (.builtin "object.__setattr__"))) (ga_NotClosing : PySem.W.findIn K (.ref C_NotClosing) "__getattribute__" = some (some (.builtin "BaseException.__getattribute__"))) (gg_NotClosing : PySem.W.findIn K (.ref C_NotClosing) "__getattr__" = some none)
    (kC_NotClosing : PySem.W.keepIn K (.ref C_NotClosing) = true) (eC_NotClosing : PySem.W.subIn K (.ref C_NotClosing) (.type "BaseException") = some true) (tC_NotClosing : PySem.W.typeIn K (.ref C_NotClosing) = some (.type "type")) (hC_NotClosing : PySem.W.hasDictIn K C_NotClosing = true)
    (x1_NotClosing : PySem.W.subIn K (.ref C_NotClosing) (.ref C_ImageError) = some true) (x2_NotClosing : PySem.W.subIn K (.ref C_NotClosing) (.ref C_Missing) = some false)
    (nq_NotClosing_code : PySem.W.findIn K (.ref C_NotClosing) "code" = some none)
    {C_TooMany N_TooMany : Addr} {nm_TooMany q_TooMany : Str} {bs_TooMany bm_TooMany sub_TooMany : List Value} {sn_TooMany : List Str} {ab_TooMany : Bool} {col_TooMany : Option Bool} {dd_TooMany : Option Addr} {m0_TooMany m1_TooMany m2_TooMany m3_TooMany m5_TooMany : Option Value} (aC_TooMany : PySem.W.nsIn K mainGlobals "TooMany" = some (some (.ref C_TooMany)))
    (xL_TooMany : K.lookup C_TooMany = some (excClassObj nm_TooMany q_TooMany C_TooMany N_TooMany bs_TooMany bm_TooMany true sn_TooMany sub_TooMany ab_TooMany col_TooMany dd_TooMany m0_TooMany m1_TooMany m2_TooMany m3_TooMany m5_TooMany "ValueError.__new__")) (rv_TooMany : PySem.HandSPX.refsVE bm_TooMany = true)
    (sa_TooMany : PySem.W.findIn K (.ref C_TooMany) "__setattr__" = some (some (.builtin "object.__setattr__"))) (ga_TooMany : PySem.W.findIn K (.ref C_TooMany) "__getattribute__" = some (some (.builtin "BaseException.__getattribute__"))) (gg_TooMany : PySem.W.findIn K (.ref C_TooMany) "__getattr__" = some none)
    (kC_TooMany : PySem.W.keepIn K (.ref C_TooMany) = true) (eC_TooMany : PySem.W.subIn K (.ref C_TooMany) (.type "BaseException") = some true) (tC_TooMany : PySem.W.typeIn K (.ref C_TooMany) = some (.type "type")) (hC_TooMany : PySem.W.hasDictIn K C_TooMany = true)
    (x1_TooMany : PySem.W.subIn K (.ref C_TooMany) (.ref C_ImageError) = some true) (x2_TooMany : PySem.W.subIn K (.ref C_TooMany) (.ref C_Missing) = some false)
    (nq_TooMany_code : PySem.W.findIn K (.ref C_TooMany) "code" = some none)
    (nq_TooMany_most : PySem.W.findIn K (.ref C_TooMany) "most" = some none)
    {f_InvalidName___init__ : Addr} {od_InvalidName___init__ an_InvalidName___init__ : Option Addr} {sl_InvalidName___init__ : Array (Option Value)} {oc_InvalidName___init__ kV_InvalidName___init__ dc_InvalidName___init__ pm_InvalidName___init__ cd_InvalidName___init__ ct_InvalidName___init__ : Value}
    (a_InvalidName___init__ : PySem.W.findIn K (.ref C_InvalidName) "__init__" = some (some (.ref f_InvalidName___init__))) (i_InvalidName___init__ : PySem.W.typeIn K (.ref f_InvalidName___init__) = some (.type "function"))
    (l_InvalidName___init__ : K.lookup f_InvalidName___init__ = some ⟨oc_InvalidName___init__, od_InvalidName___init__, .func (PySem.W.fnOf "__init__" "InvalidName.__init__" (defArgs s_InvalidName___init__) (defBody s_InvalidName___init__) (defScope s_InvalidName___init__) .none kV_InvalidName___init__ dc_InvalidName___init__ pm_InvalidName___init__ an_InvalidName___init__ cd_InvalidName___init__ ct_InvalidName___init__), sl_InvalidName___init__⟩) (c_InvalidName___init__ : PySem.W.codeIn K cd_InvalidName___init__ "InvalidName.__init__" = true) (k_InvalidName___init__ : PySem.W.keepIn K (.ref f_InvalidName___init__) = true)
    {f_InvalidPart___init__ : Addr} {od_InvalidPart___init__ an_InvalidPart___init__ : Option Addr} {sl_InvalidPart___init__ : Array (Option Value)} {oc_InvalidPart___init__ kV_InvalidPart___init__ dc_InvalidPart___init__ pm_InvalidPart___init__ cd_InvalidPart___init__ ct_InvalidPart___init__ : Value}
    (a_InvalidPart___init__ : PySem.W.findIn K (.ref C_InvalidPart) "__init__" = some (some (.ref f_InvalidPart___init__))) (i_InvalidPart___init__ : PySem.W.typeIn K (.ref f_InvalidPart___init__) = some (.type "function"))
    (l_InvalidPart___init__ : K.lookup f_InvalidPart___init__ = some ⟨oc_InvalidPart___init__, od_InvalidPart___init__, .func (PySem.W.fnOf "__init__" "InvalidPart.__init__" (defArgs s_InvalidPart___init__) (defBody s_InvalidPart___init__) (defScope s_InvalidPart___init__) .none kV_InvalidPart___init__ dc_InvalidPart___init__ pm_InvalidPart___init__ an_InvalidPart___init__ cd_InvalidPart___init__ ct_InvalidPart___init__), sl_InvalidPart___init__⟩) (c_InvalidPart___init__ : PySem.W.codeIn K cd_InvalidPart___init__ "InvalidPart.__init__" = true) (k_InvalidPart___init__ : PySem.W.keepIn K (.ref f_InvalidPart___init__) = true)
    {f_InvalidAlignment___init__ : Addr} {od_InvalidAlignment___init__ an_InvalidAlignment___init__ : Option Addr} {sl_InvalidAlignment___init__ : Array (Option Value)} {oc_InvalidAlignment___init__ kV_InvalidAlignment___init__ dc_InvalidAlignment___init__ pm_InvalidAlignment___init__ cd_InvalidAlignment___init__ ct_InvalidAlignment___init__ : Value}
    (a_InvalidAlignment___init__ : PySem.W.findIn K (.ref C_InvalidAlignment) "__init__" = some (some (.ref f_InvalidAlignment___init__))) (i_InvalidAlignment___init__ : PySem.W.typeIn K (.ref f_InvalidAlignment___init__) = some (.type "function"))
    (l_InvalidAlignment___init__ : K.lookup f_InvalidAlignment___init__ = some ⟨oc_InvalidAlignment___init__, od_InvalidAlignment___init__, .func (PySem.W.fnOf "__init__" "InvalidAlignment.__init__" (defArgs s_InvalidAlignment___init__) (defBody s_InvalidAlignment___init__) (defScope s_InvalidAlignment___init__) .none kV_InvalidAlignment___init__ dc_InvalidAlignment___init__ pm_InvalidAlignment___init__ an_InvalidAlignment___init__ cd_InvalidAlignment___init__ ct_InvalidAlignment___init__), sl_InvalidAlignment___init__⟩) (c_InvalidAlignment___init__ : PySem.W.codeIn K cd_InvalidAlignment___init__ "InvalidAlignment.__init__" = true) (k_InvalidAlignment___init__ : PySem.W.keepIn K (.ref f_InvalidAlignment___init__) = true)
    {f_InvalidScope___init__ : Addr} {od_InvalidScope___init__ an_InvalidScope___init__ : Option Addr} {sl_InvalidScope___init__ : Array (Option Value)} {oc_InvalidScope___init__ kV_InvalidScope___init__ dc_InvalidScope___init__ pm_InvalidScope___init__ cd_InvalidScope___init__ ct_InvalidScope___init__ : Value}
    (a_InvalidScope___init__ : PySem.W.findIn K (.ref C_InvalidScope) "__init__" = some (some (.ref f_InvalidScope___init__))) (i_InvalidScope___init__ : PySem.W.typeIn K (.ref f_InvalidScope___init__) = some (.type "function"))
    (l_InvalidScope___init__ : K.lookup f_InvalidScope___init__ = some ⟨oc_InvalidScope___init__, od_InvalidScope___init__, .func (PySem.W.fnOf "__init__" "InvalidScope.__init__" (defArgs s_InvalidScope___init__) (defBody s_InvalidScope___init__) (defScope s_InvalidScope___init__) .none kV_InvalidScope___init__ dc_InvalidScope___init__ pm_InvalidScope___init__ an_InvalidScope___init__ cd_InvalidScope___init__ ct_InvalidScope___init__), sl_InvalidScope___init__⟩) (c_InvalidScope___init__ : PySem.W.codeIn K cd_InvalidScope___init__ "InvalidScope.__init__" = true) (k_InvalidScope___init__ : PySem.W.keepIn K (.ref f_InvalidScope___init__) = true)
    {f_is_number : Addr} {od_is_number an_is_number : Option Addr} {sl_is_number : Array (Option Value)} {oc_is_number kV_is_number dc_is_number pm_is_number cd_is_number ct_is_number : Value}
    (a_is_number : PySem.W.nsIn K mainGlobals "is_number" = some (some (.ref f_is_number)))
    (l_is_number : K.lookup f_is_number = some ⟨oc_is_number, od_is_number, .func (PySem.W.fnOf "is_number" "is_number" (defArgs s_is_number) (defBody s_is_number) (defScope s_is_number) .none kV_is_number dc_is_number pm_is_number an_is_number cd_is_number ct_is_number), sl_is_number⟩) (c_is_number : PySem.W.codeIn K cd_is_number "is_number" = true) (k_is_number : PySem.W.keepIn K (.ref f_is_number) = true)
    {f_is_name : Addr} {od_is_name an_is_name : Option Addr} {sl_is_name : Array (Option Value)} {oc_is_name kV_is_name dc_is_name pm_is_name cd_is_name ct_is_name : Value}
    (a_is_name : PySem.W.nsIn K mainGlobals "is_name" = some (some (.ref f_is_name)))
    (l_is_name : K.lookup f_is_name = some ⟨oc_is_name, od_is_name, .func (PySem.W.fnOf "is_name" "is_name" (defArgs s_is_name) (defBody s_is_name) (defScope s_is_name) .none kV_is_name dc_is_name pm_is_name an_is_name cd_is_name ct_is_name), sl_is_name⟩) (c_is_name : PySem.W.codeIn K cd_is_name "is_name" = true) (k_is_name : PySem.W.keepIn K (.ref f_is_name) = true)
    {f_InvalidRow___init__ : Addr} {od_InvalidRow___init__ an_InvalidRow___init__ : Option Addr} {sl_InvalidRow___init__ : Array (Option Value)} {oc_InvalidRow___init__ kV_InvalidRow___init__ dc_InvalidRow___init__ pm_InvalidRow___init__ cd_InvalidRow___init__ ct_InvalidRow___init__ : Value}
    (a_InvalidRow___init__ : PySem.W.findIn K (.ref C_InvalidRow) "__init__" = some (some (.ref f_InvalidRow___init__))) (i_InvalidRow___init__ : PySem.W.typeIn K (.ref f_InvalidRow___init__) = some (.type "function"))
    (l_InvalidRow___init__ : K.lookup f_InvalidRow___init__ = some ⟨oc_InvalidRow___init__, od_InvalidRow___init__, .func (PySem.W.fnOf "__init__" "InvalidRow.__init__" (defArgs s_InvalidRow___init__) (defBody s_InvalidRow___init__) (defScope s_InvalidRow___init__) .none kV_InvalidRow___init__ dc_InvalidRow___init__ pm_InvalidRow___init__ an_InvalidRow___init__ cd_InvalidRow___init__ ct_InvalidRow___init__), sl_InvalidRow___init__⟩) (c_InvalidRow___init__ : PySem.W.codeIn K cd_InvalidRow___init__ "InvalidRow.__init__" = true) (k_InvalidRow___init__ : PySem.W.keepIn K (.ref f_InvalidRow___init__) = true)
    {f_NotClosing___init__ : Addr} {od_NotClosing___init__ an_NotClosing___init__ : Option Addr} {sl_NotClosing___init__ : Array (Option Value)} {oc_NotClosing___init__ kV_NotClosing___init__ dc_NotClosing___init__ pm_NotClosing___init__ cd_NotClosing___init__ ct_NotClosing___init__ : Value}
    (a_NotClosing___init__ : PySem.W.findIn K (.ref C_NotClosing) "__init__" = some (some (.ref f_NotClosing___init__))) (i_NotClosing___init__ : PySem.W.typeIn K (.ref f_NotClosing___init__) = some (.type "function"))
    (l_NotClosing___init__ : K.lookup f_NotClosing___init__ = some ⟨oc_NotClosing___init__, od_NotClosing___init__, .func (PySem.W.fnOf "__init__" "NotClosing.__init__" (defArgs s_NotClosing___init__) (defBody s_NotClosing___init__) (defScope s_NotClosing___init__) .none kV_NotClosing___init__ dc_NotClosing___init__ pm_NotClosing___init__ an_NotClosing___init__ cd_NotClosing___init__ ct_NotClosing___init__), sl_NotClosing___init__⟩) (c_NotClosing___init__ : PySem.W.codeIn K cd_NotClosing___init__ "NotClosing.__init__" = true) (k_NotClosing___init__ : PySem.W.keepIn K (.ref f_NotClosing___init__) = true)
    {f_TooMany___init__ : Addr} {od_TooMany___init__ an_TooMany___init__ : Option Addr} {sl_TooMany___init__ : Array (Option Value)} {oc_TooMany___init__ kV_TooMany___init__ dc_TooMany___init__ pm_TooMany___init__ cd_TooMany___init__ ct_TooMany___init__ : Value}
    (a_TooMany___init__ : PySem.W.findIn K (.ref C_TooMany) "__init__" = some (some (.ref f_TooMany___init__))) (i_TooMany___init__ : PySem.W.typeIn K (.ref f_TooMany___init__) = some (.type "function"))
    (l_TooMany___init__ : K.lookup f_TooMany___init__ = some ⟨oc_TooMany___init__, od_TooMany___init__, .func (PySem.W.fnOf "__init__" "TooMany.__init__" (defArgs s_TooMany___init__) (defBody s_TooMany___init__) (defScope s_TooMany___init__) .none kV_TooMany___init__ dc_TooMany___init__ pm_TooMany___init__ an_TooMany___init__ cd_TooMany___init__ ct_TooMany___init__), sl_TooMany___init__⟩) (c_TooMany___init__ : PySem.W.codeIn K cd_TooMany___init__ "TooMany.__init__" = true) (k_TooMany___init__ : PySem.W.keepIn K (.ref f_TooMany___init__) = true)
    {f_has_word : Addr} {od_has_word an_has_word : Option Addr} {sl_has_word : Array (Option Value)} {oc_has_word kV_has_word dc_has_word pm_has_word cd_has_word ct_has_word : Value}
    (a_has_word : PySem.W.nsIn K mainGlobals "has_word" = some (some (.ref f_has_word)))
    (l_has_word : K.lookup f_has_word = some ⟨oc_has_word, od_has_word, .func (PySem.W.fnOf "has_word" "has_word" (defArgs s_has_word) (defBody s_has_word) (defScope s_has_word) .none kV_has_word dc_has_word pm_has_word an_has_word cd_has_word ct_has_word), sl_has_word⟩) (c_has_word : PySem.W.codeIn K cd_has_word "has_word" = true) (k_has_word : PySem.W.keepIn K (.ref f_has_word) = true)
    {f_is_register : Addr} {od_is_register an_is_register : Option Addr} {sl_is_register : Array (Option Value)} {oc_is_register kV_is_register dc_is_register pm_is_register cd_is_register ct_is_register : Value}
    (a_is_register : PySem.W.nsIn K mainGlobals "is_register" = some (some (.ref f_is_register)))
    (l_is_register : K.lookup f_is_register = some ⟨oc_is_register, od_is_register, .func (PySem.W.fnOf "is_register" "is_register" (defArgs s_is_register) (defBody s_is_register) (defScope s_is_register) .none kV_is_register dc_is_register pm_is_register an_is_register cd_is_register ct_is_register), sl_is_register⟩) (c_is_register : PySem.W.codeIn K cd_is_register "is_register" = true) (k_is_register : PySem.W.keepIn K (.ref f_is_register) = true)
    {f_is_word : Addr} {od_is_word an_is_word : Option Addr} {sl_is_word : Array (Option Value)} {oc_is_word kV_is_word dc_is_word pm_is_word cd_is_word ct_is_word : Value}
    (a_is_word : PySem.W.nsIn K mainGlobals "is_word" = some (some (.ref f_is_word)))
    (l_is_word : K.lookup f_is_word = some ⟨oc_is_word, od_is_word, .func (PySem.W.fnOf "is_word" "is_word" (defArgs s_is_word) (defBody s_is_word) (defScope s_is_word) .none kV_is_word dc_is_word pm_is_word an_is_word cd_is_word ct_is_word), sl_is_word⟩) (c_is_word : PySem.W.codeIn K cd_is_word "is_word" = true) (k_is_word : PySem.W.keepIn K (.ref f_is_word) = true)
    {f_fits : Addr} {od_fits an_fits : Option Addr} {sl_fits : Array (Option Value)} {oc_fits kV_fits dc_fits pm_fits cd_fits ct_fits : Value}
    (a_fits : PySem.W.nsIn K mainGlobals "fits" = some (some (.ref f_fits)))
    (l_fits : K.lookup f_fits = some ⟨oc_fits, od_fits, .func (PySem.W.fnOf "fits" "fits" (defArgs s_fits) (defBody s_fits) (defScope s_fits) .none kV_fits dc_fits pm_fits an_fits cd_fits ct_fits), sl_fits⟩) (c_fits : PySem.W.codeIn K cd_fits "fits" = true) (k_fits : PySem.W.keepIn K (.ref f_fits) = true)
    {f_has_form : Addr} {od_has_form an_has_form : Option Addr} {sl_has_form : Array (Option Value)} {oc_has_form kV_has_form dc_has_form pm_has_form cd_has_form ct_has_form : Value}
    (a_has_form : PySem.W.nsIn K mainGlobals "has_form" = some (some (.ref f_has_form)))
    (l_has_form : K.lookup f_has_form = some ⟨oc_has_form, od_has_form, .func (PySem.W.fnOf "has_form" "has_form" (defArgs s_has_form) (defBody s_has_form) (defScope s_has_form) .none kV_has_form dc_has_form pm_has_form an_has_form cd_has_form ct_has_form), sl_has_form⟩) (c_has_form : PySem.W.codeIn K cd_has_form "has_form" = true) (k_has_form : PySem.W.keepIn K (.ref f_has_form) = true)
    {f_is_code_row : Addr} {od_is_code_row an_is_code_row : Option Addr} {sl_is_code_row : Array (Option Value)} {oc_is_code_row kV_is_code_row dc_is_code_row pm_is_code_row cd_is_code_row ct_is_code_row : Value}
    (a_is_code_row : PySem.W.nsIn K mainGlobals "is_code_row" = some (some (.ref f_is_code_row)))
    (l_is_code_row : K.lookup f_is_code_row = some ⟨oc_is_code_row, od_is_code_row, .func (PySem.W.fnOf "is_code_row" "is_code_row" (defArgs s_is_code_row) (defBody s_is_code_row) (defScope s_is_code_row) .none kV_is_code_row dc_is_code_row pm_is_code_row an_is_code_row cd_is_code_row ct_is_code_row), sl_is_code_row⟩) (c_is_code_row : PySem.W.codeIn K cd_is_code_row "is_code_row" = true) (k_is_code_row : PySem.W.keepIn K (.ref f_is_code_row) = true)
    {f_is_data_row : Addr} {od_is_data_row an_is_data_row : Option Addr} {sl_is_data_row : Array (Option Value)} {oc_is_data_row kV_is_data_row dc_is_data_row pm_is_data_row cd_is_data_row ct_is_data_row : Value}
    (a_is_data_row : PySem.W.nsIn K mainGlobals "is_data_row" = some (some (.ref f_is_data_row)))
    (l_is_data_row : K.lookup f_is_data_row = some ⟨oc_is_data_row, od_is_data_row, .func (PySem.W.fnOf "is_data_row" "is_data_row" (defArgs s_is_data_row) (defBody s_is_data_row) (defScope s_is_data_row) .none kV_is_data_row dc_is_data_row pm_is_data_row an_is_data_row cd_is_data_row ct_is_data_row), sl_is_data_row⟩) (c_is_data_row : PySem.W.codeIn K cd_is_data_row "is_data_row" = true) (k_is_data_row : PySem.W.keepIn K (.ref f_is_data_row) = true)
    {f_is_closing : Addr} {od_is_closing an_is_closing : Option Addr} {sl_is_closing : Array (Option Value)} {oc_is_closing kV_is_closing dc_is_closing pm_is_closing cd_is_closing ct_is_closing : Value}
    (a_is_closing : PySem.W.nsIn K mainGlobals "is_closing" = some (some (.ref f_is_closing)))
    (l_is_closing : K.lookup f_is_closing = some ⟨oc_is_closing, od_is_closing, .func (PySem.W.fnOf "is_closing" "is_closing" (defArgs s_is_closing) (defBody s_is_closing) (defScope s_is_closing) .none kV_is_closing dc_is_closing pm_is_closing an_is_closing cd_is_closing ct_is_closing), sl_is_closing⟩) (c_is_closing : PySem.W.codeIn K cd_is_closing "is_closing" = true) (k_is_closing : PySem.W.keepIn K (.ref f_is_closing) = true)
    {f_need_rows : Addr} {od_need_rows an_need_rows : Option Addr} {sl_need_rows : Array (Option Value)} {oc_need_rows kV_need_rows dc_need_rows pm_need_rows cd_need_rows ct_need_rows : Value}
    (a_need_rows : PySem.W.nsIn K mainGlobals "need_rows" = some (some (.ref f_need_rows)))
    (l_need_rows : K.lookup f_need_rows = some ⟨oc_need_rows, od_need_rows, .func (PySem.W.fnOf "need_rows" "need_rows" (defArgs s_need_rows) (defBody s_need_rows) (defScope s_need_rows) .none kV_need_rows dc_need_rows pm_need_rows an_need_rows cd_need_rows ct_need_rows), sl_need_rows⟩) (c_need_rows : PySem.W.codeIn K cd_need_rows "need_rows" = true) (k_need_rows : PySem.W.keepIn K (.ref f_need_rows) = true)
    {f_is_scope : Addr} {od_is_scope an_is_scope : Option Addr} {sl_is_scope : Array (Option Value)} {oc_is_scope kV_is_scope dc_is_scope pm_is_scope cd_is_scope ct_is_scope : Value}
    (a_is_scope : PySem.W.nsIn K mainGlobals "is_scope" = some (some (.ref f_is_scope)))
    (l_is_scope : K.lookup f_is_scope = some ⟨oc_is_scope, od_is_scope, .func (PySem.W.fnOf "is_scope" "is_scope" (defArgs s_is_scope) (defBody s_is_scope) (defScope s_is_scope) .none kV_is_scope dc_is_scope pm_is_scope an_is_scope cd_is_scope ct_is_scope), sl_is_scope⟩) (c_is_scope : PySem.W.codeIn K cd_is_scope "is_scope" = true) (k_is_scope : PySem.W.keepIn K (.ref f_is_scope) = true)
    {f_Piece___init__ : Addr} {od_Piece___init__ an_Piece___init__ : Option Addr} {sl_Piece___init__ : Array (Option Value)} {oc_Piece___init__ dc_Piece___init__ pm_Piece___init__ cd_Piece___init__ ct_Piece___init__ : Value}
    {kd_Piece___init__ : Addr}
    (a_Piece___init__ : PySem.W.findIn K (.ref C_Piece) "__init__" = some (some (.ref f_Piece___init__))) (i_Piece___init__ : PySem.W.isFn K (.ref f_Piece___init__) = true)
    (l_Piece___init__ : K.lookup f_Piece___init__ = some ⟨oc_Piece___init__, od_Piece___init__, .func (PySem.W.fnOf "__init__" "Piece.__init__" (defArgs s_Piece___init__) (defBody s_Piece___init__) (defScope s_Piece___init__) .none (.ref kd_Piece___init__) dc_Piece___init__ pm_Piece___init__ an_Piece___init__ cd_Piece___init__ ct_Piece___init__), sl_Piece___init__⟩) (c_Piece___init__ : PySem.W.codeIn K cd_Piece___init__ "Piece.__init__" = true) (k_Piece___init__ : PySem.W.keepIn K (.ref f_Piece___init__) = true)
    {ku_Piece___init___alignment : Value} (kq_Piece___init___alignment : PySem.W.nsIn K kd_Piece___init__ "alignment" = some (some ku_Piece___init___alignment)) (kr_Piece___init___alignment : RelV (.int 1) ku_Piece___init___alignment)
    {ku_Piece___init___scope : Value} (kq_Piece___init___scope : PySem.W.nsIn K kd_Piece___init__ "scope" = some (some ku_Piece___init___scope)) (kr_Piece___init___scope : RelV (.str "local") ku_Piece___init___scope)
    {ku_Piece___init___keep : Value} (kq_Piece___init___keep : PySem.W.nsIn K kd_Piece___init__ "keep" = some (some ku_Piece___init___keep)) (kr_Piece___init___keep : RelV (.bl false) ku_Piece___init___keep)
    {f__law_bag : Addr} {od__law_bag an__law_bag : Option Addr} {sl__law_bag : Array (Option Value)} {oc__law_bag kV__law_bag dc__law_bag pm__law_bag cd__law_bag ct__law_bag : Value}
    (a__law_bag : PySem.W.nsIn K mainGlobals "_law_bag" = some (some (.ref f__law_bag)))
    (l__law_bag : K.lookup f__law_bag = some ⟨oc__law_bag, od__law_bag, .func (PySem.W.fnOf "_law_bag" "_law_bag" (defArgs s__law_bag) (defBody s__law_bag) (defScope s__law_bag) .none kV__law_bag dc__law_bag pm__law_bag an__law_bag cd__law_bag ct__law_bag), sl__law_bag⟩) (c__law_bag : PySem.W.codeIn K cd__law_bag "_law_bag" = true) (k__law_bag : PySem.W.keepIn K (.ref f__law_bag) = true)
    {f__law_draw : Addr} {od__law_draw an__law_draw : Option Addr} {sl__law_draw : Array (Option Value)} {oc__law_draw kV__law_draw dc__law_draw pm__law_draw cd__law_draw ct__law_draw : Value}
    (a__law_draw : PySem.W.nsIn K mainGlobals "_law_draw" = some (some (.ref f__law_draw)))
    (l__law_draw : K.lookup f__law_draw = some ⟨oc__law_draw, od__law_draw, .func (PySem.W.fnOf "_law_draw" "_law_draw" (defArgs s__law_draw) (defBody s__law_draw) (defScope s__law_draw) .none kV__law_draw dc__law_draw pm__law_draw an__law_draw cd__law_draw ct__law_draw), sl__law_draw⟩) (c__law_draw : PySem.W.codeIn K cd__law_draw "_law_draw" = true) (k__law_draw : PySem.W.keepIn K (.ref f__law_draw) = true)
    {f__law_of : Addr} {od__law_of an__law_of : Option Addr} {sl__law_of : Array (Option Value)} {oc__law_of kV__law_of dc__law_of pm__law_of cd__law_of ct__law_of : Value}
    (a__law_of : PySem.W.nsIn K mainGlobals "_law_of" = some (some (.ref f__law_of)))
    (l__law_of : K.lookup f__law_of = some ⟨oc__law_of, od__law_of, .func (PySem.W.fnOf "_law_of" "_law_of" (defArgs s__law_of) (defBody s__law_of) (defScope s__law_of) .none kV__law_of dc__law_of pm__law_of an__law_of cd__law_of ct__law_of), sl__law_of⟩) (c__law_of : PySem.W.codeIn K cd__law_of "_law_of" = true) (k__law_of : PySem.W.keepIn K (.ref f__law_of) = true)
    {f__law_same : Addr} {od__law_same an__law_same : Option Addr} {sl__law_same : Array (Option Value)} {oc__law_same kV__law_same dc__law_same pm__law_same cd__law_same ct__law_same : Value}
    (a__law_same : PySem.W.nsIn K mainGlobals "_law_same" = some (some (.ref f__law_same)))
    (l__law_same : K.lookup f__law_same = some ⟨oc__law_same, od__law_same, .func (PySem.W.fnOf "_law_same" "_law_same" (defArgs s__law_same) (defBody s__law_same) (defScope s__law_same) .none kV__law_same dc__law_same pm__law_same an__law_same cd__law_same ct__law_same), sl__law_same⟩) (c__law_same : PySem.W.codeIn K cd__law_same "_law_same" = true) (k__law_same : PySem.W.keepIn K (.ref f__law_same) = true)
    {f__law_field : Addr} {od__law_field an__law_field : Option Addr} {sl__law_field : Array (Option Value)} {oc__law_field kV__law_field dc__law_field pm__law_field cd__law_field ct__law_field : Value}
    (a__law_field : PySem.W.nsIn K mainGlobals "_law_field" = some (some (.ref f__law_field)))
    (l__law_field : K.lookup f__law_field = some ⟨oc__law_field, od__law_field, .func (PySem.W.fnOf "_law_field" "_law_field" (defArgs s__law_field) (defBody s__law_field) (defScope s__law_field) .none kV__law_field dc__law_field pm__law_field an__law_field cd__law_field ct__law_field), sl__law_field⟩) (c__law_field : PySem.W.codeIn K cd__law_field "_law_field" = true) (k__law_field : PySem.W.keepIn K (.ref f__law_field) = true)
    {f__law_try : Addr} {od__law_try an__law_try : Option Addr} {sl__law_try : Array (Option Value)} {oc__law_try kV__law_try dc__law_try pm__law_try cd__law_try ct__law_try : Value}
    (a__law_try : PySem.W.nsIn K mainGlobals "_law_try" = some (some (.ref f__law_try)))
    (l__law_try : K.lookup f__law_try = some ⟨oc__law_try, od__law_try, .func (PySem.W.fnOf "_law_try" "_law_try" (defArgs s__law_try) (defBody s__law_try) (defScope s__law_try) .none kV__law_try dc__law_try pm__law_try an__law_try cd__law_try ct__law_try), sl__law_try⟩) (c__law_try : PySem.W.codeIn K cd__law_try "_law_try" = true) (k__law_try : PySem.W.keepIn K (.ref f__law_try) = true)
    {f__law_why : Addr} {od__law_why an__law_why : Option Addr} {sl__law_why : Array (Option Value)} {oc__law_why kV__law_why dc__law_why pm__law_why cd__law_why ct__law_why : Value}
    (a__law_why : PySem.W.nsIn K mainGlobals "_law_why" = some (some (.ref f__law_why)))
    (l__law_why : K.lookup f__law_why = some ⟨oc__law_why, od__law_why, .func (PySem.W.fnOf "_law_why" "_law_why" (defArgs s__law_why) (defBody s__law_why) (defScope s__law_why) .none kV__law_why dc__law_why pm__law_why an__law_why cd__law_why ct__law_why), sl__law_why⟩) (c__law_why : PySem.W.codeIn K cd__law_why "_law_why" = true) (k__law_why : PySem.W.keepIn K (.ref f__law_why) = true)
    {f__law_whys : Addr} {od__law_whys an__law_whys : Option Addr} {sl__law_whys : Array (Option Value)} {oc__law_whys kV__law_whys dc__law_whys pm__law_whys cd__law_whys ct__law_whys : Value}
    (a__law_whys : PySem.W.nsIn K mainGlobals "_law_whys" = some (some (.ref f__law_whys)))
    (l__law_whys : K.lookup f__law_whys = some ⟨oc__law_whys, od__law_whys, .func (PySem.W.fnOf "_law_whys" "_law_whys" (defArgs s__law_whys) (defBody s__law_whys) (defScope s__law_whys) .none kV__law_whys dc__law_whys pm__law_whys an__law_whys cd__law_whys ct__law_whys), sl__law_whys⟩) (c__law_whys : PySem.W.codeIn K cd__law_whys "_law_whys" = true) (k__law_whys : PySem.W.keepIn K (.ref f__law_whys) = true)
    {f__law_odd : Addr} {od__law_odd an__law_odd : Option Addr} {sl__law_odd : Array (Option Value)} {oc__law_odd kV__law_odd dc__law_odd pm__law_odd cd__law_odd ct__law_odd : Value}
    (a__law_odd : PySem.W.nsIn K mainGlobals "_law_odd" = some (some (.ref f__law_odd)))
    (l__law_odd : K.lookup f__law_odd = some ⟨oc__law_odd, od__law_odd, .func (PySem.W.fnOf "_law_odd" "_law_odd" (defArgs s__law_odd) (defBody s__law_odd) (defScope s__law_odd) .none kV__law_odd dc__law_odd pm__law_odd an__law_odd cd__law_odd ct__law_odd), sl__law_odd⟩) (c__law_odd : PySem.W.codeIn K cd__law_odd "_law_odd" = true) (k__law_odd : PySem.W.keepIn K (.ref f__law_odd) = true)
    {f__law_titles : Addr} {od__law_titles an__law_titles : Option Addr} {sl__law_titles : Array (Option Value)} {oc__law_titles kV__law_titles dc__law_titles pm__law_titles cd__law_titles ct__law_titles : Value}
    (a__law_titles : PySem.W.nsIn K mainGlobals "_law_titles" = some (some (.ref f__law_titles)))
    (l__law_titles : K.lookup f__law_titles = some ⟨oc__law_titles, od__law_titles, .func (PySem.W.fnOf "_law_titles" "_law_titles" (defArgs s__law_titles) (defBody s__law_titles) (defScope s__law_titles) .none kV__law_titles dc__law_titles pm__law_titles an__law_titles cd__law_titles ct__law_titles), sl__law_titles⟩) (c__law_titles : PySem.W.codeIn K cd__law_titles "_law_titles" = true) (k__law_titles : PySem.W.keepIn K (.ref f__law_titles) = true)
    {f__law_number : Addr} {od__law_number an__law_number : Option Addr} {sl__law_number : Array (Option Value)} {oc__law_number kV__law_number dc__law_number pm__law_number cd__law_number ct__law_number : Value}
    (a__law_number : PySem.W.nsIn K mainGlobals "_law_number" = some (some (.ref f__law_number)))
    (l__law_number : K.lookup f__law_number = some ⟨oc__law_number, od__law_number, .func (PySem.W.fnOf "_law_number" "_law_number" (defArgs s__law_number) (defBody s__law_number) (defScope s__law_number) .none kV__law_number dc__law_number pm__law_number an__law_number cd__law_number ct__law_number), sl__law_number⟩) (c__law_number : PySem.W.codeIn K cd__law_number "_law_number" = true) (k__law_number : PySem.W.keepIn K (.ref f__law_number) = true)
    {f__law_r : Addr} {od__law_r an__law_r : Option Addr} {sl__law_r : Array (Option Value)} {oc__law_r kV__law_r dc__law_r pm__law_r cd__law_r ct__law_r : Value}
    (a__law_r : PySem.W.nsIn K mainGlobals "_law_r" = some (some (.ref f__law_r)))
    (l__law_r : K.lookup f__law_r = some ⟨oc__law_r, od__law_r, .func (PySem.W.fnOf "_law_r" "_law_r" (defArgs s__law_r) (defBody s__law_r) (defScope s__law_r) .none kV__law_r dc__law_r pm__law_r an__law_r cd__law_r ct__law_r), sl__law_r⟩) (c__law_r : PySem.W.codeIn K cd__law_r "_law_r" = true) (k__law_r : PySem.W.keepIn K (.ref f__law_r) = true)
    {f__law_code_row : Addr} {od__law_code_row an__law_code_row : Option Addr} {sl__law_code_row : Array (Option Value)} {oc__law_code_row kV__law_code_row dc__law_code_row pm__law_code_row cd__law_code_row ct__law_code_row : Value}
    (a__law_code_row : PySem.W.nsIn K mainGlobals "_law_code_row" = some (some (.ref f__law_code_row)))
    (l__law_code_row : K.lookup f__law_code_row = some ⟨oc__law_code_row, od__law_code_row, .func (PySem.W.fnOf "_law_code_row" "_law_code_row" (defArgs s__law_code_row) (defBody s__law_code_row) (defScope s__law_code_row) .none kV__law_code_row dc__law_code_row pm__law_code_row an__law_code_row cd__law_code_row ct__law_code_row), sl__law_code_row⟩) (c__law_code_row : PySem.W.codeIn K cd__law_code_row "_law_code_row" = true) (k__law_code_row : PySem.W.keepIn K (.ref f__law_code_row) = true)
    {f__law_last_row : Addr} {od__law_last_row an__law_last_row : Option Addr} {sl__law_last_row : Array (Option Value)} {oc__law_last_row kV__law_last_row dc__law_last_row pm__law_last_row cd__law_last_row ct__law_last_row : Value}
    (a__law_last_row : PySem.W.nsIn K mainGlobals "_law_last_row" = some (some (.ref f__law_last_row)))
    (l__law_last_row : K.lookup f__law_last_row = some ⟨oc__law_last_row, od__law_last_row, .func (PySem.W.fnOf "_law_last_row" "_law_last_row" (defArgs s__law_last_row) (defBody s__law_last_row) (defScope s__law_last_row) .none kV__law_last_row dc__law_last_row pm__law_last_row an__law_last_row cd__law_last_row ct__law_last_row), sl__law_last_row⟩) (c__law_last_row : PySem.W.codeIn K cd__law_last_row "_law_last_row" = true) (k__law_last_row : PySem.W.keepIn K (.ref f__law_last_row) = true)
    {f__law_data_row : Addr} {od__law_data_row an__law_data_row : Option Addr} {sl__law_data_row : Array (Option Value)} {oc__law_data_row kV__law_data_row dc__law_data_row pm__law_data_row cd__law_data_row ct__law_data_row : Value}
    (a__law_data_row : PySem.W.nsIn K mainGlobals "_law_data_row" = some (some (.ref f__law_data_row)))
    (l__law_data_row : K.lookup f__law_data_row = some ⟨oc__law_data_row, od__law_data_row, .func (PySem.W.fnOf "_law_data_row" "_law_data_row" (defArgs s__law_data_row) (defBody s__law_data_row) (defScope s__law_data_row) .none kV__law_data_row dc__law_data_row pm__law_data_row an__law_data_row cd__law_data_row ct__law_data_row), sl__law_data_row⟩) (c__law_data_row : PySem.W.codeIn K cd__law_data_row "_law_data_row" = true) (k__law_data_row : PySem.W.keepIn K (.ref f__law_data_row) = true)
    {f__law_piece_model : Addr} {od__law_piece_model an__law_piece_model : Option Addr} {sl__law_piece_model : Array (Option Value)} {oc__law_piece_model kV__law_piece_model dc__law_piece_model pm__law_piece_model cd__law_piece_model ct__law_piece_model : Value}
    (a__law_piece_model : PySem.W.nsIn K mainGlobals "_law_piece_model" = some (some (.ref f__law_piece_model)))
    (l__law_piece_model : K.lookup f__law_piece_model = some ⟨oc__law_piece_model, od__law_piece_model, .func (PySem.W.fnOf "_law_piece_model" "_law_piece_model" (defArgs s__law_piece_model) (defBody s__law_piece_model) (defScope s__law_piece_model) .none kV__law_piece_model dc__law_piece_model pm__law_piece_model an__law_piece_model cd__law_piece_model ct__law_piece_model), sl__law_piece_model⟩) (c__law_piece_model : PySem.W.codeIn K cd__law_piece_model "_law_piece_model" = true) (k__law_piece_model : PySem.W.keepIn K (.ref f__law_piece_model) = true)
    {f__law_wrong_rows : Addr} {od__law_wrong_rows an__law_wrong_rows : Option Addr} {sl__law_wrong_rows : Array (Option Value)} {oc__law_wrong_rows kV__law_wrong_rows dc__law_wrong_rows pm__law_wrong_rows cd__law_wrong_rows ct__law_wrong_rows : Value}
    (a__law_wrong_rows : PySem.W.nsIn K mainGlobals "_law_wrong_rows" = some (some (.ref f__law_wrong_rows)))
    (l__law_wrong_rows : K.lookup f__law_wrong_rows = some ⟨oc__law_wrong_rows, od__law_wrong_rows, .func (PySem.W.fnOf "_law_wrong_rows" "_law_wrong_rows" (defArgs s__law_wrong_rows) (defBody s__law_wrong_rows) (defScope s__law_wrong_rows) .none kV__law_wrong_rows dc__law_wrong_rows pm__law_wrong_rows an__law_wrong_rows cd__law_wrong_rows ct__law_wrong_rows), sl__law_wrong_rows⟩) (c__law_wrong_rows : PySem.W.codeIn K cd__law_wrong_rows "_law_wrong_rows" = true) (k__law_wrong_rows : PySem.W.keepIn K (.ref f__law_wrong_rows) = true)
    {f__law_is_title : Addr} {od__law_is_title an__law_is_title : Option Addr} {sl__law_is_title : Array (Option Value)} {oc__law_is_title kV__law_is_title dc__law_is_title pm__law_is_title cd__law_is_title ct__law_is_title : Value}
    (a__law_is_title : PySem.W.nsIn K mainGlobals "_law_is_title" = some (some (.ref f__law_is_title)))
    (l__law_is_title : K.lookup f__law_is_title = some ⟨oc__law_is_title, od__law_is_title, .func (PySem.W.fnOf "_law_is_title" "_law_is_title" (defArgs s__law_is_title) (defBody s__law_is_title) (defScope s__law_is_title) .none kV__law_is_title dc__law_is_title pm__law_is_title an__law_is_title cd__law_is_title ct__law_is_title), sl__law_is_title⟩) (c__law_is_title : PySem.W.codeIn K cd__law_is_title "_law_is_title" = true) (k__law_is_title : PySem.W.keepIn K (.ref f__law_is_title) = true)
    {f__law_within : Addr} {od__law_within an__law_within : Option Addr} {sl__law_within : Array (Option Value)} {oc__law_within kV__law_within dc__law_within pm__law_within cd__law_within ct__law_within : Value}
    (a__law_within : PySem.W.nsIn K mainGlobals "_law_within" = some (some (.ref f__law_within)))
    (l__law_within : K.lookup f__law_within = some ⟨oc__law_within, od__law_within, .func (PySem.W.fnOf "_law_within" "_law_within" (defArgs s__law_within) (defBody s__law_within) (defScope s__law_within) .none kV__law_within dc__law_within pm__law_within an__law_within cd__law_within ct__law_within), sl__law_within⟩) (c__law_within : PySem.W.codeIn K cd__law_within "_law_within" = true) (k__law_within : PySem.W.keepIn K (.ref f__law_within) = true)
    {f__law_code_so : Addr} {od__law_code_so an__law_code_so : Option Addr} {sl__law_code_so : Array (Option Value)} {oc__law_code_so kV__law_code_so dc__law_code_so pm__law_code_so cd__law_code_so ct__law_code_so : Value}
    (a__law_code_so : PySem.W.nsIn K mainGlobals "_law_code_so" = some (some (.ref f__law_code_so)))
    (l__law_code_so : K.lookup f__law_code_so = some ⟨oc__law_code_so, od__law_code_so, .func (PySem.W.fnOf "_law_code_so" "_law_code_so" (defArgs s__law_code_so) (defBody s__law_code_so) (defScope s__law_code_so) .none kV__law_code_so dc__law_code_so pm__law_code_so an__law_code_so cd__law_code_so ct__law_code_so), sl__law_code_so⟩) (c__law_code_so : PySem.W.codeIn K cd__law_code_so "_law_code_so" = true) (k__law_code_so : PySem.W.keepIn K (.ref f__law_code_so) = true)
    {f__law_data_so : Addr} {od__law_data_so an__law_data_so : Option Addr} {sl__law_data_so : Array (Option Value)} {oc__law_data_so kV__law_data_so dc__law_data_so pm__law_data_so cd__law_data_so ct__law_data_so : Value}
    (a__law_data_so : PySem.W.nsIn K mainGlobals "_law_data_so" = some (some (.ref f__law_data_so)))
    (l__law_data_so : K.lookup f__law_data_so = some ⟨oc__law_data_so, od__law_data_so, .func (PySem.W.fnOf "_law_data_so" "_law_data_so" (defArgs s__law_data_so) (defBody s__law_data_so) (defScope s__law_data_so) .none kV__law_data_so dc__law_data_so pm__law_data_so an__law_data_so cd__law_data_so ct__law_data_so), sl__law_data_so⟩) (c__law_data_so : PySem.W.codeIn K cd__law_data_so "_law_data_so" = true) (k__law_data_so : PySem.W.keepIn K (.ref f__law_data_so) = true)
    {f__law_due : Addr} {od__law_due an__law_due : Option Addr} {sl__law_due : Array (Option Value)} {oc__law_due kV__law_due dc__law_due pm__law_due cd__law_due ct__law_due : Value}
    (a__law_due : PySem.W.nsIn K mainGlobals "_law_due" = some (some (.ref f__law_due)))
    (l__law_due : K.lookup f__law_due = some ⟨oc__law_due, od__law_due, .func (PySem.W.fnOf "_law_due" "_law_due" (defArgs s__law_due) (defBody s__law_due) (defScope s__law_due) .none kV__law_due dc__law_due pm__law_due an__law_due cd__law_due ct__law_due), sl__law_due⟩) (c__law_due : PySem.W.codeIn K cd__law_due "_law_due" = true) (k__law_due : PySem.W.keepIn K (.ref f__law_due) = true)
    {f_Piece___len__ : Addr} {od_Piece___len__ an_Piece___len__ : Option Addr} {sl_Piece___len__ : Array (Option Value)} {oc_Piece___len__ kV_Piece___len__ dc_Piece___len__ pm_Piece___len__ cd_Piece___len__ ct_Piece___len__ : Value}
    (a_Piece___len__ : PySem.W.findIn K (.ref C_Piece) "__len__" = some (some (.ref f_Piece___len__))) (i_Piece___len__ : PySem.W.isFn K (.ref f_Piece___len__) = true)
    (l_Piece___len__ : K.lookup f_Piece___len__ = some ⟨oc_Piece___len__, od_Piece___len__, .func (PySem.W.fnOf "__len__" "Piece.__len__" (defArgs s_Piece___len__) (defBody s_Piece___len__) (defScope s_Piece___len__) .none kV_Piece___len__ dc_Piece___len__ pm_Piece___len__ an_Piece___len__ cd_Piece___len__ ct_Piece___len__), sl_Piece___len__⟩) (c_Piece___len__ : PySem.W.codeIn K cd_Piece___len__ "Piece.__len__" = true) (k_Piece___len__ : PySem.W.keepIn K (.ref f_Piece___len__) = true)
    {f__law_written_so : Addr} {od__law_written_so an__law_written_so : Option Addr} {sl__law_written_so : Array (Option Value)} {oc__law_written_so kV__law_written_so dc__law_written_so pm__law_written_so ct__law_written_so : Value}
    {cc__law_written_so tp__law_written_so : Addr} {oo__law_written_so : Option Addr} {vk__law_written_so : Array Value} {sk__law_written_so : Array (Option Value)} (lk__law_written_so : K.lookup cc__law_written_so = some ⟨.type "code", oo__law_written_so, .fields vk__law_written_so, sk__law_written_so⟩) (vt__law_written_so : vk__law_written_so[11]? = some (.ref tp__law_written_so)) (ch__law_written_so : PySem.W.codeHdIn K cc__law_written_so tp__law_written_so = true) (nl__law_written_so : K.lookup tp__law_written_so = none) (ht__law_written_so : h.get? tp__law_written_so = some { cls := .none, data := .fields #[] })
    (a__law_written_so : PySem.W.nsIn K mainGlobals "_law_written_so" = some (some (.ref f__law_written_so)))
    (l__law_written_so : K.lookup f__law_written_so = some ⟨oc__law_written_so, od__law_written_so, .func (PySem.W.fnOf "_law_written_so" "_law_written_so" (defArgs s__law_written_so) (defBody s__law_written_so) (defScope s__law_written_so) .none kV__law_written_so dc__law_written_so pm__law_written_so an__law_written_so (.ref cc__law_written_so) ct__law_written_so), sl__law_written_so⟩) (c__law_written_so : PySem.W.codeIn K (.ref cc__law_written_so) "_law_written_so" = true) (k__law_written_so : PySem.W.keepIn K (.ref f__law_written_so) = true)
    {f_law : Addr} {od_law an_law : Option Addr} {sl_law : Array (Option Value)} {oc_law kV_law dc_law pm_law ct_law : Value}
    {cc_law tp_law : Addr} {oo_law : Option Addr} {vk_law : Array Value} {sk_law : Array (Option Value)} (lk_law : K.lookup cc_law = some ⟨.type "code", oo_law, .fields vk_law, sk_law⟩) (vt_law : vk_law[11]? = some (.ref tp_law)) (ch_law : PySem.W.codeHdIn K cc_law tp_law = true) (nl_law : K.lookup tp_law = none) (ht_law : h.get? tp_law = some { cls := .none, data := .fields #[] })
    (a_law : PySem.W.nsIn K mainGlobals "law" = some (some (.ref f_law)))
    (l_law : K.lookup f_law = some ⟨oc_law, od_law, .func (PySem.W.fnOf "law" "law" (defArgs s_law) (defBody s_law) (defScope s_law) .none kV_law dc_law pm_law an_law (.ref cc_law) ct_law), sl_law⟩) (c_law : PySem.W.codeIn K (.ref cc_law) "law" = true) (k_law : PySem.W.keepIn K (.ref f_law) = true)
    {u_MOST_LETTERS : Value} (q_MOST_LETTERS : PySem.W.nsIn K mainGlobals "MOST_LETTERS" = some (some u_MOST_LETTERS)) (r_MOST_LETTERS : RelV (.int 6) u_MOST_LETTERS)
    {u_LETTERS : Value} (q_LETTERS : PySem.W.nsIn K mainGlobals "LETTERS" = some (some u_LETTERS)) (r_LETTERS : RelV (.str "abcdefghijklmnopqrstuvwxyz") u_LETTERS)
    {p_REGISTERS : Addr} {dd_REGISTERS : Option Addr} {us_REGISTERS : List Value} {n_REGISTERS : Nat} {sl_REGISTERS : Array (Option Value)} (q_REGISTERS : PySem.W.nsIn K mainGlobals "REGISTERS" = some (some (.ref p_REGISTERS))) (l_REGISTERS : K.lookup p_REGISTERS = some ⟨.type "tuple", dd_REGISTERS, .seq us_REGISTERS.toArray n_REGISTERS, sl_REGISTERS⟩) (v_REGISTERS : Vals [(.str "r0"), (.str "r1"), (.str "r2")] us_REGISTERS)
    {u_MOST_WORD : Value} (q_MOST_WORD : PySem.W.nsIn K mainGlobals "MOST_WORD" = some (some u_MOST_WORD)) (r_MOST_WORD : RelV (.int 65535) u_MOST_WORD)
    {u_MOST_ROOM : Value} (q_MOST_ROOM : PySem.W.nsIn K mainGlobals "MOST_ROOM" = some (some u_MOST_ROOM)) (r_MOST_ROOM : RelV (.int 120) u_MOST_ROOM)
    {u_MOST_DISTANCE : Value} (q_MOST_DISTANCE : PySem.W.nsIn K mainGlobals "MOST_DISTANCE" = some (some u_MOST_DISTANCE)) (r_MOST_DISTANCE : RelV (.int 15) u_MOST_DISTANCE)
    {p_CODE_FORMS : Addr} {es_CODE_FORMS : Array DictEntry} {n_CODE_FORMS : Nat} (q_CODE_FORMS : PySem.W.nsIn K mainGlobals "CODE_FORMS" = some (some (.ref p_CODE_FORMS))) (l_CODE_FORMS : K.lookup p_CODE_FORMS = some ⟨.type "dict", none, .dict es_CODE_FORMS n_CODE_FORMS, #[]⟩) (kl_CODE_FORMS : PySem.W.KeysLit w.params es_CODE_FORMS.toList) (sy_CODE_FORMS : (p_CODE_FORMS == sysModules) = false) (pd_CODE_FORMS : Paired (fun (p : Str × V) (e : DictEntry) => (∃ t, e.key = .str p.1 t) ∧ RelV p.2 e.val) [("put", (.str "rw")), ("name", (.str "rn")), ("add", (.str "rr")), ("take", (.str "rr")), ("load", (.str "rrd")), ("store", (.str "rrd")), ("jump", (.str "n")), ("ifzero", (.str "rn")), ("call", (.str "n")), ("callby", (.str "r")), ("back", (.str "")), ("out", (.str "r")), ("halt", (.str "")), ("room", (.str "k"))] es_CODE_FORMS.toList)
    {p_DATA_FORMS : Addr} {es_DATA_FORMS : Array DictEntry} {n_DATA_FORMS : Nat} (q_DATA_FORMS : PySem.W.nsIn K mainGlobals "DATA_FORMS" = some (some (.ref p_DATA_FORMS))) (l_DATA_FORMS : K.lookup p_DATA_FORMS = some ⟨.type "dict", none, .dict es_DATA_FORMS n_DATA_FORMS, #[]⟩) (kl_DATA_FORMS : PySem.W.KeysLit w.params es_DATA_FORMS.toList) (sy_DATA_FORMS : (p_DATA_FORMS == sysModules) = false) (pd_DATA_FORMS : Paired (fun (p : Str × V) (e : DictEntry) => (∃ t, e.key = .str p.1 t) ∧ RelV p.2 e.val) [("word", (.str "w")), ("address", (.str "n")), ("room", (.str "k"))] es_DATA_FORMS.toList)
    {p_CLOSING : Addr} {dd_CLOSING : Option Addr} {us_CLOSING : List Value} {n_CLOSING : Nat} {sl_CLOSING : Array (Option Value)} (q_CLOSING : PySem.W.nsIn K mainGlobals "CLOSING" = some (some (.ref p_CLOSING))) (l_CLOSING : K.lookup p_CLOSING = some ⟨.type "tuple", dd_CLOSING, .seq us_CLOSING.toArray n_CLOSING, sl_CLOSING⟩) (v_CLOSING : Vals [(.str "jump"), (.str "halt"), (.str "back")] us_CLOSING)
    {u_MOST_ROWS : Value} (q_MOST_ROWS : PySem.W.nsIn K mainGlobals "MOST_ROWS" = some (some u_MOST_ROWS)) (r_MOST_ROWS : RelV (.int 16) u_MOST_ROWS)
    {p_SCOPES : Addr} {dd_SCOPES : Option Addr} {us_SCOPES : List Value} {n_SCOPES : Nat} {sl_SCOPES : Array (Option Value)} (q_SCOPES : PySem.W.nsIn K mainGlobals "SCOPES" = some (some (.ref p_SCOPES))) (l_SCOPES : K.lookup p_SCOPES = some ⟨.type "tuple", dd_SCOPES, .seq us_SCOPES.toArray n_SCOPES, sl_SCOPES⟩) (v_SCOPES : Vals [(.str "local"), (.str "export"), (.str "open"), (.str "weak")] us_SCOPES)
    {p_ALIGNMENTS : Addr} {dd_ALIGNMENTS : Option Addr} {us_ALIGNMENTS : List Value} {n_ALIGNMENTS : Nat} {sl_ALIGNMENTS : Array (Option Value)} (q_ALIGNMENTS : PySem.W.nsIn K mainGlobals "ALIGNMENTS" = some (some (.ref p_ALIGNMENTS))) (l_ALIGNMENTS : K.lookup p_ALIGNMENTS = some ⟨.type "tuple", dd_ALIGNMENTS, .seq us_ALIGNMENTS.toArray n_ALIGNMENTS, sl_ALIGNMENTS⟩) (v_ALIGNMENTS : Vals [(.int 1), (.int 2), (.int 4), (.int 8), (.int 16)] us_ALIGNMENTS)
    (z_isinstance : PySem.W.nsIn K mainGlobals "isinstance" = some none)
    (z_int : PySem.W.nsIn K mainGlobals "int" = some none)
    (z_bool : PySem.W.nsIn K mainGlobals "bool" = some none)
    (z_all : PySem.W.nsIn K mainGlobals "all" = some none)
    (z_str : PySem.W.nsIn K mainGlobals "str" = some none)
    (z_len : PySem.W.nsIn K mainGlobals "len" = some none)
    (z_tuple : PySem.W.nsIn K mainGlobals "tuple" = some none)
    (z_zip : PySem.W.nsIn K mainGlobals "zip" = some none)
    (z_enumerate : PySem.W.nsIn K mainGlobals "enumerate" = some none)
    (z_list : PySem.W.nsIn K mainGlobals "list" = some none)
    (z_abs : PySem.W.nsIn K mainGlobals "abs" = some none)
    (z_range : PySem.W.nsIn K mainGlobals "range" = some none)
    (nd : ([tp__law_written_so, tp_law] : List Addr).Nodup)
    : LamX.LawAtS l w K CX0 14 63 "_law_script" mg fa h := by
  have e := hfa.symm.trans (PySem.W.mg_of X G a_law)
  cases e
  have F__law_written_so := funC_mk (st := s__law_written_so) l__law_written_so c__law_written_so k__law_written_so
  have F_law := funC_mk (st := s_law) l_law c_law k_law
  have F_InvalidName___init__ := fun_mk (st := s_InvalidName___init__) l_InvalidName___init__ c_InvalidName___init__ k_InvalidName___init__
  have F_InvalidPart___init__ := fun_mk (st := s_InvalidPart___init__) l_InvalidPart___init__ c_InvalidPart___init__ k_InvalidPart___init__
  have F_InvalidAlignment___init__ := fun_mk (st := s_InvalidAlignment___init__) l_InvalidAlignment___init__ c_InvalidAlignment___init__ k_InvalidAlignment___init__
  have F_InvalidScope___init__ := fun_mk (st := s_InvalidScope___init__) l_InvalidScope___init__ c_InvalidScope___init__ k_InvalidScope___init__
  have F_is_number := fun_mk (st := s_is_number) l_is_number c_is_number k_is_number
  have F_is_name := fun_mk (st := s_is_name) l_is_name c_is_name k_is_name
  have F_InvalidRow___init__ := fun_mk (st := s_InvalidRow___init__) l_InvalidRow___init__ c_InvalidRow___init__ k_InvalidRow___init__
  have F_NotClosing___init__ := fun_mk (st := s_NotClosing___init__) l_NotClosing___init__ c_NotClosing___init__ k_NotClosing___init__
  have F_TooMany___init__ := fun_mk (st := s_TooMany___init__) l_TooMany___init__ c_TooMany___init__ k_TooMany___init__
  have F_has_word := fun_mk (st := s_has_word) l_has_word c_has_word k_has_word
  have F_is_register := fun_mk (st := s_is_register) l_is_register c_is_register k_is_register
  have F_is_word := fun_mk (st := s_is_word) l_is_word c_is_word k_is_word
  have F_fits := fun_mk (st := s_fits) l_fits c_fits k_fits
  have F_has_form := fun_mk (st := s_has_form) l_has_form c_has_form k_has_form
  have F_is_code_row := fun_mk (st := s_is_code_row) l_is_code_row c_is_code_row k_is_code_row
  have F_is_data_row := fun_mk (st := s_is_data_row) l_is_data_row c_is_data_row k_is_data_row
  have F_is_closing := fun_mk (st := s_is_closing) l_is_closing c_is_closing k_is_closing
  have F_need_rows := fun_mk (st := s_need_rows) l_need_rows c_need_rows k_need_rows
  have F_is_scope := fun_mk (st := s_is_scope) l_is_scope c_is_scope k_is_scope
  have F_Piece___init__ : FunD K "__init__" "Piece.__init__" (defArgs s_Piece___init__) (defBody s_Piece___init__) (defScope s_Piece___init__) [] [("alignment", ((.int 1) : V)), ("scope", ((.str "local") : V)), ("keep", ((.bl false) : V))] f_Piece___init__ _ := ⟨⟨_, _, _, _, _, _, _, _, _, _, rfl, l_Piece___init__, c_Piece___init__, .inl ⟨rfl, rfl⟩, .inr ⟨kd_Piece___init__, rfl, fun q hq => by
      simp only [List.mem_cons, List.not_mem_nil, or_false] at hq
      rcases hq with rfl | rfl | rfl
      · exact ⟨_, kq_Piece___init___alignment, kr_Piece___init___alignment⟩
      · exact ⟨_, kq_Piece___init___scope, kr_Piece___init___scope⟩
      · exact ⟨_, kq_Piece___init___keep, kr_Piece___init___keep⟩⟩⟩, k_Piece___init__⟩
  have F__law_bag := fun_mk (st := s__law_bag) l__law_bag c__law_bag k__law_bag
  have F__law_draw := fun_mk (st := s__law_draw) l__law_draw c__law_draw k__law_draw
  have F__law_of := fun_mk (st := s__law_of) l__law_of c__law_of k__law_of
  have F__law_same := fun_mk (st := s__law_same) l__law_same c__law_same k__law_same
  have F__law_field := fun_mk (st := s__law_field) l__law_field c__law_field k__law_field
  have F__law_try := fun_mk (st := s__law_try) l__law_try c__law_try k__law_try
  have F__law_why := fun_mk (st := s__law_why) l__law_why c__law_why k__law_why
  have F__law_whys := fun_mk (st := s__law_whys) l__law_whys c__law_whys k__law_whys
  have F__law_odd := fun_mk (st := s__law_odd) l__law_odd c__law_odd k__law_odd
  have F__law_titles := fun_mk (st := s__law_titles) l__law_titles c__law_titles k__law_titles
  have F__law_number := fun_mk (st := s__law_number) l__law_number c__law_number k__law_number
  have F__law_r := fun_mk (st := s__law_r) l__law_r c__law_r k__law_r
  have F__law_code_row := fun_mk (st := s__law_code_row) l__law_code_row c__law_code_row k__law_code_row
  have F__law_last_row := fun_mk (st := s__law_last_row) l__law_last_row c__law_last_row k__law_last_row
  have F__law_data_row := fun_mk (st := s__law_data_row) l__law_data_row c__law_data_row k__law_data_row
  have F__law_piece_model := fun_mk (st := s__law_piece_model) l__law_piece_model c__law_piece_model k__law_piece_model
  have F__law_wrong_rows := fun_mk (st := s__law_wrong_rows) l__law_wrong_rows c__law_wrong_rows k__law_wrong_rows
  have F__law_is_title := fun_mk (st := s__law_is_title) l__law_is_title c__law_is_title k__law_is_title
  have F__law_within := fun_mk (st := s__law_within) l__law_within c__law_within k__law_within
  have F__law_code_so := fun_mk (st := s__law_code_so) l__law_code_so c__law_code_so k__law_code_so
  have F__law_data_so := fun_mk (st := s__law_data_so) l__law_data_so c__law_data_so k__law_data_so
  have F__law_due := fun_mk (st := s__law_due) l__law_due c__law_due k__law_due
  have F_Piece___len__ := fun_mk (st := s_Piece___len__) l_Piece___len__ c_Piece___len__ k_Piece___len__
  obtain ⟨e_Piece___init___4, kb0_Piece___init__⟩ := FunD.kbinds0 (ps := ["self", "name", "part", "rows", "alignment", "scope", "keep"]) F_Piece___init__ 4 [] [("alignment", ((.int 1) : V)), ("scope", ((.str "local") : V)), ("keep", ((.bl false) : V))] (@fun α us mv _ => us ++ mv) (by simp) (fun _ h => h) (fun r1 r2 _ => r1.append r2) fun _ _ _ _ _ _ us mv ws h1 h2 h3 => match us, mv, ws, h1, h2, h3 with | [_, _, _, _], [_, _, _], [], _, _, _ => ⟨_, _, _, _, _, _, rfl, rfl, ⟨_, _, _, _, _, _, rfl, rfl, ⟨_, _, _, _, _, _, rfl, rfl, rfl⟩⟩⟩
  have v_Piece___init___4 : Vals [(.int 1), (.str "local"), (.bl false)] e_Piece___init___4 := kb0_Piece___init__.rel (vs := []) (us := []) (zs := []) (ws := []) .nil .nil
  have b_Piece___init___4 : Binds K _ ["self", "name", "part", "rows", "alignment", "scope", "keep"] e_Piece___init___4 := fun s us X hl => by
    have hn : us.length = 4 := by
      have := v_Piece___init___4.length
      simp at this hl
      omega
    exact kb0_Piece___init__.to s us [] X hn rfl
  obtain ⟨fu_Piece___init___4_scope, kb_Piece___init___4_scope⟩ := FunD.kbinds0 (ps := ["self", "name", "part", "rows", "alignment", "scope", "keep"]) F_Piece___init__ 4 ["scope"] [("alignment", ((.int 1) : V)), ("keep", ((.bl false) : V))] (@fun α us mv ws => gk_Piece___init___4_scope mv us ws) (by simp) (fun _ h => (List.mem_cons.mp h).elim (fun e => e ▸ List.mem_cons_self) fun h => (List.mem_cons.mp h).elim (fun e => e ▸ (List.mem_cons_of_mem _ (List.mem_cons_of_mem _ List.mem_cons_self))) fun h => nomatch h) (fun r1 rm r2 => gkw_Piece___init___4_scope rm r1 r2) fun _ _ _ _ _ _ us mv ws h1 h2 h3 => match us, mv, ws, h1, h2, h3 with | [_, _, _, _], [_, _], [_], _, _, _ => ⟨_, _, _, _, _, _, rfl, rfl, ⟨_, _, _, _, _, _, rfl, rfl, rfl⟩⟩
  obtain ⟨fu_Piece___init___4_alignment_scope, kb_Piece___init___4_alignment_scope⟩ := FunD.kbinds0 (ps := ["self", "name", "part", "rows", "alignment", "scope", "keep"]) F_Piece___init__ 4 ["alignment", "scope"] [("keep", ((.bl false) : V))] (@fun α us mv ws => gk_Piece___init___4_alignment_scope mv us ws) (by simp) (fun _ h => (List.mem_cons.mp h).elim (fun e => e ▸ (List.mem_cons_of_mem _ (List.mem_cons_of_mem _ List.mem_cons_self))) fun h => nomatch h) (fun r1 rm r2 => gkw_Piece___init___4_alignment_scope rm r1 r2) fun _ _ _ _ _ _ us mv ws h1 h2 h3 => match us, mv, ws, h1, h2, h3 with | [_, _, _, _], [_], [_, _], _, _, _ => ⟨_, _, _, _, _, _, rfl, rfl, rfl⟩
  obtain ⟨fu_Piece___init___4_alignment, kb_Piece___init___4_alignment⟩ := FunD.kbinds0 (ps := ["self", "name", "part", "rows", "alignment", "scope", "keep"]) F_Piece___init__ 4 ["alignment"] [("scope", ((.str "local") : V)), ("keep", ((.bl false) : V))] (@fun α us mv ws => gk_Piece___init___4_alignment mv us ws) (by simp) (fun _ h => (List.mem_cons.mp h).elim (fun e => e ▸ (List.mem_cons_of_mem _ List.mem_cons_self)) fun h => (List.mem_cons.mp h).elim (fun e => e ▸ (List.mem_cons_of_mem _ (List.mem_cons_of_mem _ List.mem_cons_self))) fun h => nomatch h) (fun r1 rm r2 => gkw_Piece___init___4_alignment rm r1 r2) fun _ _ _ _ _ _ us mv ws h1 h2 h3 => match us, mv, ws, h1, h2, h3 with | [_, _, _, _], [_, _], [_], _, _, _ => ⟨_, _, _, _, _, _, rfl, rfl, ⟨_, _, _, _, _, _, rfl, rfl, rfl⟩⟩
  obtain ⟨_, kb_Piece___init___4_alignment_scope_keep⟩ := FunD.kbinds0 (ps := ["self", "name", "part", "rows", "alignment", "scope", "keep"]) F_Piece___init__ 4 ["alignment", "scope", "keep"] [] (@fun α us _ ws => gk_Piece___init___4_alignment_scope_keep us ws) (by simp) (fun _ h => nomatch h) (fun r1 _ r2 => gkv_Piece___init___4_alignment_scope_keep _ _ _ _ r1 r2) fun _ _ _ _ _ _ us mv ws h1 h2 h3 => match us, mv, ws, h1, h2, h3 with | [_, _, _, _], [], [_, _, _], _, _, _ => rfl
  obtain ⟨fu_Piece___init___1_scope_rows_name_alignment_part, kb_Piece___init___1_scope_rows_name_alignment_part⟩ := FunD.kbinds0 (ps := ["self", "name", "part", "rows", "alignment", "scope", "keep"]) F_Piece___init__ 1 ["scope", "rows", "name", "alignment", "part"] [("keep", ((.bl false) : V))] (@fun α us mv ws => gk_Piece___init___1_scope_rows_name_alignment_part mv us ws) (by simp) (fun _ h => (List.mem_cons.mp h).elim (fun e => e ▸ (List.mem_cons_of_mem _ (List.mem_cons_of_mem _ List.mem_cons_self))) fun h => nomatch h) (fun r1 rm r2 => gkw_Piece___init___1_scope_rows_name_alignment_part rm r1 r2) fun _ _ _ _ _ _ us mv ws h1 h2 h3 => match us, mv, ws, h1, h2, h3 with | [_], [_], [_, _, _, _, _], _, _, _ => ⟨_, _, _, _, _, _, rfl, rfl, rfl⟩
  let T : Tx K mg w := {
    a_Piece := C_Piece, m_Piece := PySem.W.mg_of X G aC_Piece, c_Piece := ⟨⟨pg_Piece, hd_Piece, po_Piece, sa_Piece⟩, ha_Piece, hn_Piece, ht_Piece, hm_Piece, by rw [show (PySem.W.clsIn K C_Piece).isSome = true from ty1_Piece, ty2_Piece]; rfl⟩, ne_Piece := ne_Piece
    na_Piece_name := nq_Piece_name
    na_Piece_part := nq_Piece_part
    na_Piece_alignment := nq_Piece_alignment
    na_Piece_scope := nq_Piece_scope
    na_Piece_keep := nq_Piece_keep
    na_Piece_own_rows := nq_Piece_own_rows
    a_ImageError := C_ImageError, m_ImageError := PySem.W.mg_of X G aC_ImageError
    a_Missing := C_Missing, m_Missing := PySem.W.mg_of X G aC_Missing
    a_InvalidName := C_InvalidName, m_InvalidName := PySem.W.mg_of X G aC_InvalidName, oe_InvalidName := ⟨⟨_, _, _, _, _, _, _, _, _, _, _, _, _, _, _, xL_InvalidName, rv_InvalidName⟩, sa_InvalidName, eC_InvalidName, tC_InvalidName, kC_InvalidName⟩, xf_InvalidName := ⟨ga_InvalidName, gg_InvalidName, eC_InvalidName, hC_InvalidName⟩
    ex_InvalidName := exm_any2 (exm_one_of eB_ImageError iB_ImageError tB_ImageError x1_InvalidName) (exm_one_of eB_Missing iB_Missing tB_Missing x2_InvalidName) rfl
    no_InvalidName_code := nq_InvalidName_code
    no_InvalidName_value := nq_InvalidName_value
    a_InvalidPart := C_InvalidPart, m_InvalidPart := PySem.W.mg_of X G aC_InvalidPart, oe_InvalidPart := ⟨⟨_, _, _, _, _, _, _, _, _, _, _, _, _, _, _, xL_InvalidPart, rv_InvalidPart⟩, sa_InvalidPart, eC_InvalidPart, tC_InvalidPart, kC_InvalidPart⟩, xf_InvalidPart := ⟨ga_InvalidPart, gg_InvalidPart, eC_InvalidPart, hC_InvalidPart⟩
    ex_InvalidPart := exm_any2 (exm_one_of eB_ImageError iB_ImageError tB_ImageError x1_InvalidPart) (exm_one_of eB_Missing iB_Missing tB_Missing x2_InvalidPart) rfl
    no_InvalidPart_code := nq_InvalidPart_code
    no_InvalidPart_value := nq_InvalidPart_value
    a_InvalidAlignment := C_InvalidAlignment, m_InvalidAlignment := PySem.W.mg_of X G aC_InvalidAlignment, oe_InvalidAlignment := ⟨⟨_, _, _, _, _, _, _, _, _, _, _, _, _, _, _, xL_InvalidAlignment, rv_InvalidAlignment⟩, sa_InvalidAlignment, eC_InvalidAlignment, tC_InvalidAlignment, kC_InvalidAlignment⟩, xf_InvalidAlignment := ⟨ga_InvalidAlignment, gg_InvalidAlignment, eC_InvalidAlignment, hC_InvalidAlignment⟩
    ex_InvalidAlignment := exm_any2 (exm_one_of eB_ImageError iB_ImageError tB_ImageError x1_InvalidAlignment) (exm_one_of eB_Missing iB_Missing tB_Missing x2_InvalidAlignment) rfl
    no_InvalidAlignment_code := nq_InvalidAlignment_code
    no_InvalidAlignment_value := nq_InvalidAlignment_value
    a_InvalidScope := C_InvalidScope, m_InvalidScope := PySem.W.mg_of X G aC_InvalidScope, oe_InvalidScope := ⟨⟨_, _, _, _, _, _, _, _, _, _, _, _, _, _, _, xL_InvalidScope, rv_InvalidScope⟩, sa_InvalidScope, eC_InvalidScope, tC_InvalidScope, kC_InvalidScope⟩, xf_InvalidScope := ⟨ga_InvalidScope, gg_InvalidScope, eC_InvalidScope, hC_InvalidScope⟩
    ex_InvalidScope := exm_any2 (exm_one_of eB_ImageError iB_ImageError tB_ImageError x1_InvalidScope) (exm_one_of eB_Missing iB_Missing tB_Missing x2_InvalidScope) rfl
    no_InvalidScope_code := nq_InvalidScope_code
    no_InvalidScope_value := nq_InvalidScope_value
    a_InvalidRow := C_InvalidRow, m_InvalidRow := PySem.W.mg_of X G aC_InvalidRow, oe_InvalidRow := ⟨⟨_, _, _, _, _, _, _, _, _, _, _, _, _, _, _, xL_InvalidRow, rv_InvalidRow⟩, sa_InvalidRow, eC_InvalidRow, tC_InvalidRow, kC_InvalidRow⟩, xf_InvalidRow := ⟨ga_InvalidRow, gg_InvalidRow, eC_InvalidRow, hC_InvalidRow⟩
    ex_InvalidRow := exm_any2 (exm_one_of eB_ImageError iB_ImageError tB_ImageError x1_InvalidRow) (exm_one_of eB_Missing iB_Missing tB_Missing x2_InvalidRow) rfl
    no_InvalidRow_code := nq_InvalidRow_code
    no_InvalidRow_at := nq_InvalidRow_at
    a_NotClosing := C_NotClosing, m_NotClosing := PySem.W.mg_of X G aC_NotClosing, oe_NotClosing := ⟨⟨_, _, _, _, _, _, _, _, _, _, _, _, _, _, _, xL_NotClosing, rv_NotClosing⟩, sa_NotClosing, eC_NotClosing, tC_NotClosing, kC_NotClosing⟩, xf_NotClosing := ⟨ga_NotClosing, gg_NotClosing, eC_NotClosing, hC_NotClosing⟩
    ex_NotClosing := exm_any2 (exm_one_of eB_ImageError iB_ImageError tB_ImageError x1_NotClosing) (exm_one_of eB_Missing iB_Missing tB_Missing x2_NotClosing) rfl
    no_NotClosing_code := nq_NotClosing_code
    a_TooMany := C_TooMany, m_TooMany := PySem.W.mg_of X G aC_TooMany, oe_TooMany := ⟨⟨_, _, _, _, _, _, _, _, _, _, _, _, _, _, _, xL_TooMany, rv_TooMany⟩, sa_TooMany, eC_TooMany, tC_TooMany, kC_TooMany⟩, xf_TooMany := ⟨ga_TooMany, gg_TooMany, eC_TooMany, hC_TooMany⟩
    ex_TooMany := exm_any2 (exm_one_of eB_ImageError iB_ImageError tB_ImageError x1_TooMany) (exm_one_of eB_Missing iB_Missing tB_Missing x2_TooMany) rfl
    no_TooMany_code := nq_TooMany_code
    no_TooMany_most := nq_TooMany_most
    nd := nd
    a_InvalidName___init__ := f_InvalidName___init__, d_InvalidName___init__ := _, F_InvalidName___init__ := F_InvalidName___init__, k_InvalidName___init__ := k_InvalidName___init__, i_InvalidName := a_InvalidName___init__, ty_InvalidName := i_InvalidName___init__
    b_InvalidName___init__ := F_InvalidName___init__.binds (ps := ["self", "value"]) fun _ _ _ _ _ _ us hl => match us, hl with | [_, _], _ => rfl
    a_InvalidPart___init__ := f_InvalidPart___init__, d_InvalidPart___init__ := _, F_InvalidPart___init__ := F_InvalidPart___init__, k_InvalidPart___init__ := k_InvalidPart___init__, i_InvalidPart := a_InvalidPart___init__, ty_InvalidPart := i_InvalidPart___init__
    b_InvalidPart___init__ := F_InvalidPart___init__.binds (ps := ["self", "value"]) fun _ _ _ _ _ _ us hl => match us, hl with | [_, _], _ => rfl
    a_InvalidAlignment___init__ := f_InvalidAlignment___init__, d_InvalidAlignment___init__ := _, F_InvalidAlignment___init__ := F_InvalidAlignment___init__, k_InvalidAlignment___init__ := k_InvalidAlignment___init__, i_InvalidAlignment := a_InvalidAlignment___init__, ty_InvalidAlignment := i_InvalidAlignment___init__
    b_InvalidAlignment___init__ := F_InvalidAlignment___init__.binds (ps := ["self", "value"]) fun _ _ _ _ _ _ us hl => match us, hl with | [_, _], _ => rfl
    a_InvalidScope___init__ := f_InvalidScope___init__, d_InvalidScope___init__ := _, F_InvalidScope___init__ := F_InvalidScope___init__, k_InvalidScope___init__ := k_InvalidScope___init__, i_InvalidScope := a_InvalidScope___init__, ty_InvalidScope := i_InvalidScope___init__
    b_InvalidScope___init__ := F_InvalidScope___init__.binds (ps := ["self", "value"]) fun _ _ _ _ _ _ us hl => match us, hl with | [_, _], _ => rfl
    a_is_number := f_is_number, d_is_number := _, F_is_number := F_is_number, m_is_number := PySem.W.mg_of X G a_is_number, k_is_number := k_is_number
    b_is_number := F_is_number.binds (ps := ["value", "least", "most"]) fun _ _ _ _ _ _ us hl => match us, hl with | [_, _, _], _ => rfl
    a_is_name := f_is_name, d_is_name := _, F_is_name := F_is_name, m_is_name := PySem.W.mg_of X G a_is_name, k_is_name := k_is_name
    b_is_name := F_is_name.binds (ps := ["value"]) fun _ _ _ _ _ _ us hl => match us, hl with | [_], _ => rfl
    a_InvalidRow___init__ := f_InvalidRow___init__, d_InvalidRow___init__ := _, F_InvalidRow___init__ := F_InvalidRow___init__, k_InvalidRow___init__ := k_InvalidRow___init__, i_InvalidRow := a_InvalidRow___init__, ty_InvalidRow := i_InvalidRow___init__
    b_InvalidRow___init__ := F_InvalidRow___init__.binds (ps := ["self", "at"]) fun _ _ _ _ _ _ us hl => match us, hl with | [_, _], _ => rfl
    a_NotClosing___init__ := f_NotClosing___init__, d_NotClosing___init__ := _, F_NotClosing___init__ := F_NotClosing___init__, k_NotClosing___init__ := k_NotClosing___init__, i_NotClosing := a_NotClosing___init__, ty_NotClosing := i_NotClosing___init__
    b_NotClosing___init__ := F_NotClosing___init__.binds (ps := ["self"]) fun _ _ _ _ _ _ us hl => match us, hl with | [_], _ => rfl
    a_TooMany___init__ := f_TooMany___init__, d_TooMany___init__ := _, F_TooMany___init__ := F_TooMany___init__, k_TooMany___init__ := k_TooMany___init__, i_TooMany := a_TooMany___init__, ty_TooMany := i_TooMany___init__
    b_TooMany___init__ := F_TooMany___init__.binds (ps := ["self", "most"]) fun _ _ _ _ _ _ us hl => match us, hl with | [_, _], _ => rfl
    a_has_word := f_has_word, d_has_word := _, F_has_word := F_has_word, m_has_word := PySem.W.mg_of X G a_has_word, k_has_word := k_has_word
    b_has_word := F_has_word.binds (ps := ["value"]) fun _ _ _ _ _ _ us hl => match us, hl with | [_], _ => rfl
    a_is_register := f_is_register, d_is_register := _, F_is_register := F_is_register, m_is_register := PySem.W.mg_of X G a_is_register, k_is_register := k_is_register
    b_is_register := F_is_register.binds (ps := ["value"]) fun _ _ _ _ _ _ us hl => match us, hl with | [_], _ => rfl
    a_is_word := f_is_word, d_is_word := _, F_is_word := F_is_word, m_is_word := PySem.W.mg_of X G a_is_word, k_is_word := k_is_word
    b_is_word := F_is_word.binds (ps := ["value"]) fun _ _ _ _ _ _ us hl => match us, hl with | [_], _ => rfl
    a_fits := f_fits, d_fits := _, F_fits := F_fits, m_fits := PySem.W.mg_of X G a_fits, k_fits := k_fits
    b_fits := F_fits.binds (ps := ["kind", "value"]) fun _ _ _ _ _ _ us hl => match us, hl with | [_, _], _ => rfl
    a_has_form := f_has_form, d_has_form := _, F_has_form := F_has_form, m_has_form := PySem.W.mg_of X G a_has_form, k_has_form := k_has_form
    b_has_form := F_has_form.binds (ps := ["value", "form"]) fun _ _ _ _ _ _ us hl => match us, hl with | [_, _], _ => rfl
    a_is_code_row := f_is_code_row, d_is_code_row := _, F_is_code_row := F_is_code_row, m_is_code_row := PySem.W.mg_of X G a_is_code_row, k_is_code_row := k_is_code_row
    b_is_code_row := F_is_code_row.binds (ps := ["value"]) fun _ _ _ _ _ _ us hl => match us, hl with | [_], _ => rfl
    a_is_data_row := f_is_data_row, d_is_data_row := _, F_is_data_row := F_is_data_row, m_is_data_row := PySem.W.mg_of X G a_is_data_row, k_is_data_row := k_is_data_row
    b_is_data_row := F_is_data_row.binds (ps := ["value"]) fun _ _ _ _ _ _ us hl => match us, hl with | [_], _ => rfl
    a_is_closing := f_is_closing, d_is_closing := _, F_is_closing := F_is_closing, m_is_closing := PySem.W.mg_of X G a_is_closing, k_is_closing := k_is_closing
    b_is_closing := F_is_closing.binds (ps := ["row"]) fun _ _ _ _ _ _ us hl => match us, hl with | [_], _ => rfl
    a_need_rows := f_need_rows, d_need_rows := _, F_need_rows := F_need_rows, m_need_rows := PySem.W.mg_of X G a_need_rows, k_need_rows := k_need_rows
    b_need_rows := F_need_rows.binds (ps := ["rows", "part"]) fun _ _ _ _ _ _ us hl => match us, hl with | [_, _], _ => rfl
    a_is_scope := f_is_scope, d_is_scope := _, F_is_scope := F_is_scope, m_is_scope := PySem.W.mg_of X G a_is_scope, k_is_scope := k_is_scope
    b_is_scope := F_is_scope.binds (ps := ["value", "part"]) fun _ _ _ _ _ _ us hl => match us, hl with | [_, _], _ => rfl
    a_Piece___init__ := f_Piece___init__, d_Piece___init__ := _, F_Piece___init__ := F_Piece___init__, k_Piece___init__ := k_Piece___init__
    mk_Piece := ⟨mk_Piece, a_Piece___init__, i_Piece___init__, kc_Piece⟩
    a__law_bag := f__law_bag, d__law_bag := _, F__law_bag := F__law_bag, m__law_bag := PySem.W.mg_of X G a__law_bag, k__law_bag := k__law_bag
    b__law_bag := F__law_bag.binds (ps := ["_law_script"]) fun _ _ _ _ _ _ us hl => match us, hl with | [_], _ => rfl
    a__law_draw := f__law_draw, d__law_draw := _, F__law_draw := F__law_draw, m__law_draw := PySem.W.mg_of X G a__law_draw, k__law_draw := k__law_draw
    b__law_draw := F__law_draw.binds (ps := ["_law_bag_here", "_law_sides"]) fun _ _ _ _ _ _ us hl => match us, hl with | [_, _], _ => rfl
    a__law_of := f__law_of, d__law_of := _, F__law_of := F__law_of, m__law_of := PySem.W.mg_of X G a__law_of, k__law_of := k__law_of
    b__law_of := F__law_of.binds (ps := ["_law_bag_here", "_law_things"]) fun _ _ _ _ _ _ us hl => match us, hl with | [_, _], _ => rfl
    a__law_same := f__law_same, d__law_same := _, F__law_same := F__law_same, m__law_same := PySem.W.mg_of X G a__law_same, k__law_same := k__law_same
    b__law_same := F__law_same.binds (ps := ["_law_found", "_law_due_here"]) fun _ _ _ _ _ _ us hl => match us, hl with | [_, _], _ => rfl
    a__law_field := f__law_field, d__law_field := _, F__law_field := F__law_field, m__law_field := PySem.W.mg_of X G a__law_field, k__law_field := k__law_field
    b__law_field := F__law_field.binds (ps := ["_law_e"]) fun _ _ _ _ _ _ us hl => match us, hl with | [_], _ => rfl
    a__law_try := f__law_try, d__law_try := _, F__law_try := F__law_try, m__law_try := PySem.W.mg_of X G a__law_try, k__law_try := k__law_try
    b__law_try := F__law_try.binds (ps := ["_law_ask"]) fun _ _ _ _ _ _ us hl => match us, hl with | [_], _ => rfl
    a__law_why := f__law_why, d__law_why := _, F__law_why := F__law_why, m__law_why := PySem.W.mg_of X G a__law_why, k__law_why := k__law_why
    b__law_why := F__law_why.binds (ps := ["_law_ask"]) fun _ _ _ _ _ _ us hl => match us, hl with | [_], _ => rfl
    a__law_whys := f__law_whys, d__law_whys := _, F__law_whys := F__law_whys, m__law_whys := PySem.W.mg_of X G a__law_whys, k__law_whys := k__law_whys
    b__law_whys := F__law_whys.binds (ps := ["_law_asks"]) fun _ _ _ _ _ _ us hl => match us, hl with | [_], _ => rfl
    a__law_odd := f__law_odd, d__law_odd := _, F__law_odd := F__law_odd, m__law_odd := PySem.W.mg_of X G a__law_odd, k__law_odd := k__law_odd
    b__law_odd := F__law_odd.binds (ps := ["_law_bag_here", "_law_more"]) fun _ _ _ _ _ _ us hl => match us, hl with | [_, _], _ => rfl
    a__law_titles := f__law_titles, d__law_titles := _, F__law_titles := F__law_titles, m__law_titles := PySem.W.mg_of X G a__law_titles, k__law_titles := k__law_titles
    b__law_titles := F__law_titles.binds (ps := ["_law_bag_here", "_law_many"]) fun _ _ _ _ _ _ us hl => match us, hl with | [_, _], _ => rfl
    a__law_number := f__law_number, d__law_number := _, F__law_number := F__law_number, m__law_number := PySem.W.mg_of X G a__law_number, k__law_number := k__law_number
    b__law_number := F__law_number.binds (ps := ["_law_bag_here"]) fun _ _ _ _ _ _ us hl => match us, hl with | [_], _ => rfl
    a__law_r := f__law_r, d__law_r := _, F__law_r := F__law_r, m__law_r := PySem.W.mg_of X G a__law_r, k__law_r := k__law_r
    b__law_r := F__law_r.binds (ps := ["_law_bag_here"]) fun _ _ _ _ _ _ us hl => match us, hl with | [_], _ => rfl
    a__law_code_row := f__law_code_row, d__law_code_row := _, F__law_code_row := F__law_code_row, m__law_code_row := PySem.W.mg_of X G a__law_code_row, k__law_code_row := k__law_code_row
    b__law_code_row := F__law_code_row.binds (ps := ["_law_bag_here", "_law_titles_here"]) fun _ _ _ _ _ _ us hl => match us, hl with | [_, _], _ => rfl
    a__law_last_row := f__law_last_row, d__law_last_row := _, F__law_last_row := F__law_last_row, m__law_last_row := PySem.W.mg_of X G a__law_last_row, k__law_last_row := k__law_last_row
    b__law_last_row := F__law_last_row.binds (ps := ["_law_bag_here", "_law_titles_here"]) fun _ _ _ _ _ _ us hl => match us, hl with | [_, _], _ => rfl
    a__law_data_row := f__law_data_row, d__law_data_row := _, F__law_data_row := F__law_data_row, m__law_data_row := PySem.W.mg_of X G a__law_data_row, k__law_data_row := k__law_data_row
    b__law_data_row := F__law_data_row.binds (ps := ["_law_bag_here", "_law_titles_here"]) fun _ _ _ _ _ _ us hl => match us, hl with | [_, _], _ => rfl
    a__law_piece_model := f__law_piece_model, d__law_piece_model := _, F__law_piece_model := F__law_piece_model, m__law_piece_model := PySem.W.mg_of X G a__law_piece_model, k__law_piece_model := k__law_piece_model
    b__law_piece_model := F__law_piece_model.binds (ps := ["_law_bag_here", "_law_title", "_law_titles_here", "_law_most"]) fun _ _ _ _ _ _ us hl => match us, hl with | [_, _, _, _], _ => rfl
    a__law_wrong_rows := f__law_wrong_rows, d__law_wrong_rows := _, F__law_wrong_rows := F__law_wrong_rows, m__law_wrong_rows := PySem.W.mg_of X G a__law_wrong_rows, k__law_wrong_rows := k__law_wrong_rows
    b__law_wrong_rows := F__law_wrong_rows.binds (ps := ["_law_bag_here", "_law_model"]) fun _ _ _ _ _ _ us hl => match us, hl with | [_, _], _ => rfl
    a__law_is_title := f__law_is_title, d__law_is_title := _, F__law_is_title := F__law_is_title, m__law_is_title := PySem.W.mg_of X G a__law_is_title, k__law_is_title := k__law_is_title
    b__law_is_title := F__law_is_title.binds (ps := ["_law_thing"]) fun _ _ _ _ _ _ us hl => match us, hl with | [_], _ => rfl
    a__law_within := f__law_within, d__law_within := _, F__law_within := F__law_within, m__law_within := PySem.W.mg_of X G a__law_within, k__law_within := k__law_within
    b__law_within := F__law_within.binds (ps := ["_law_thing", "_law_low_y", "_law_high_y"]) fun _ _ _ _ _ _ us hl => match us, hl with | [_, _, _], _ => rfl
    a__law_code_so := f__law_code_so, d__law_code_so := _, F__law_code_so := F__law_code_so, m__law_code_so := PySem.W.mg_of X G a__law_code_so, k__law_code_so := k__law_code_so
    b__law_code_so := F__law_code_so.binds (ps := ["_law_thing"]) fun _ _ _ _ _ _ us hl => match us, hl with | [_], _ => rfl
    a__law_data_so := f__law_data_so, d__law_data_so := _, F__law_data_so := F__law_data_so, m__law_data_so := PySem.W.mg_of X G a__law_data_so, k__law_data_so := k__law_data_so
    b__law_data_so := F__law_data_so.binds (ps := ["_law_thing"]) fun _ _ _ _ _ _ us hl => match us, hl with | [_], _ => rfl
    a__law_due := f__law_due, d__law_due := _, F__law_due := F__law_due, m__law_due := PySem.W.mg_of X G a__law_due, k__law_due := k__law_due
    b__law_due := F__law_due.binds (ps := ["_law_given"]) fun _ _ _ _ _ _ us hl => match us, hl with | [_], _ => rfl
    a_Piece___len__ := f_Piece___len__, d_Piece___len__ := _, F_Piece___len__ := F_Piece___len__, k_Piece___len__ := k_Piece___len__
    h_Piece___len__ := ⟨a_Piece___len__, i_Piece___len__, k_Piece___len__⟩
    b_Piece___len__ := F_Piece___len__.binds (ps := ["self"]) fun _ _ _ _ _ _ us hl => match us, hl with | [_], _ => rfl
    cc__law_written_so := cc__law_written_so, tp__law_written_so := tp__law_written_so
    a__law_written_so := f__law_written_so, d__law_written_so := _, F__law_written_so := F__law_written_so, m__law_written_so := PySem.W.mg_of X G a__law_written_so, k__law_written_so := k__law_written_so
    b__law_written_so := F__law_written_so.binds (ps := []) fun _ _ _ _ _ _ us hl => match us, hl with | [], _ => rfl
    cc_law := cc_law, tp_law := tp_law
    a_law := fa, d_law := _, F_law := F_law, m_law := PySem.W.mg_of X G a_law, k_law := k_law
    b_law := F_law.binds (ps := ["_law_script"]) fun _ _ _ _ _ _ us hl => match us, hl with | [_], _ => rfl
    e_Piece___init___4 := e_Piece___init___4, v_Piece___init___4 := v_Piece___init___4, b_Piece___init___4 := b_Piece___init___4
    fu_Piece___init___4_scope := fu_Piece___init___4_scope, kb_Piece___init___4_scope := kb_Piece___init___4_scope
    fu_Piece___init___4_alignment_scope := fu_Piece___init___4_alignment_scope, kb_Piece___init___4_alignment_scope := kb_Piece___init___4_alignment_scope
    fu_Piece___init___4_alignment := fu_Piece___init___4_alignment, kb_Piece___init___4_alignment := kb_Piece___init___4_alignment
    kb_Piece___init___4_alignment_scope_keep := kb_Piece___init___4_alignment_scope_keep
    fu_Piece___init___1_scope_rows_name_alignment_part := fu_Piece___init___1_scope_rows_name_alignment_part, kb_Piece___init___1_scope_rows_name_alignment_part := kb_Piece___init___1_scope_rows_name_alignment_part
    u_MOST_LETTERS := u_MOST_LETTERS, m_MOST_LETTERS := PySem.W.mg_of X G q_MOST_LETTERS, r_MOST_LETTERS := r_MOST_LETTERS
    u_LETTERS := u_LETTERS, m_LETTERS := PySem.W.mg_of X G q_LETTERS, r_LETTERS := r_LETTERS
    a_REGISTERS := p_REGISTERS, m_REGISTERS := PySem.W.mg_of X G q_REGISTERS, kd_REGISTERS := fun F => .tup (.inr ⟨_, us_REGISTERS.toArray, n_REGISTERS, l_REGISTERS, rfl, rfl, by have := v_REGISTERS.length; simp at this; simp [← this]; decide, v_REGISTERS⟩) (.cons (.str _) (.cons (.str _) (.cons (.str _) .nil)))
    u_MOST_WORD := u_MOST_WORD, m_MOST_WORD := PySem.W.mg_of X G q_MOST_WORD, r_MOST_WORD := r_MOST_WORD
    u_MOST_ROOM := u_MOST_ROOM, m_MOST_ROOM := PySem.W.mg_of X G q_MOST_ROOM, r_MOST_ROOM := r_MOST_ROOM
    u_MOST_DISTANCE := u_MOST_DISTANCE, m_MOST_DISTANCE := PySem.W.mg_of X G q_MOST_DISTANCE, r_MOST_DISTANCE := r_MOST_DISTANCE
    a_CODE_FORMS := p_CODE_FORMS, m_CODE_FORMS := PySem.W.mg_of X G q_CODE_FORMS, kd_CODE_FORMS := ⟨es_CODE_FORMS, n_CODE_FORMS, l_CODE_FORMS, kl_CODE_FORMS, sy_CODE_FORMS, pd_CODE_FORMS⟩
    a_DATA_FORMS := p_DATA_FORMS, m_DATA_FORMS := PySem.W.mg_of X G q_DATA_FORMS, kd_DATA_FORMS := ⟨es_DATA_FORMS, n_DATA_FORMS, l_DATA_FORMS, kl_DATA_FORMS, sy_DATA_FORMS, pd_DATA_FORMS⟩
    a_CLOSING := p_CLOSING, m_CLOSING := PySem.W.mg_of X G q_CLOSING, kd_CLOSING := fun F => .tup (.inr ⟨_, us_CLOSING.toArray, n_CLOSING, l_CLOSING, rfl, rfl, by have := v_CLOSING.length; simp at this; simp [← this]; decide, v_CLOSING⟩) (.cons (.str _) (.cons (.str _) (.cons (.str _) .nil)))
    u_MOST_ROWS := u_MOST_ROWS, m_MOST_ROWS := PySem.W.mg_of X G q_MOST_ROWS, r_MOST_ROWS := r_MOST_ROWS
    a_SCOPES := p_SCOPES, m_SCOPES := PySem.W.mg_of X G q_SCOPES, kd_SCOPES := fun F => .tup (.inr ⟨_, us_SCOPES.toArray, n_SCOPES, l_SCOPES, rfl, rfl, by have := v_SCOPES.length; simp at this; simp [← this]; decide, v_SCOPES⟩) (.cons (.str _) (.cons (.str _) (.cons (.str _) (.cons (.str _) .nil))))
    a_ALIGNMENTS := p_ALIGNMENTS, m_ALIGNMENTS := PySem.W.mg_of X G q_ALIGNMENTS, kd_ALIGNMENTS := fun F => .tup (.inr ⟨_, us_ALIGNMENTS.toArray, n_ALIGNMENTS, l_ALIGNMENTS, rfl, rfl, by have := v_ALIGNMENTS.length; simp at this; simp [← this]; decide, v_ALIGNMENTS⟩) (.cons (.int _) (.cons (.int _) (.cons (.int _) (.cons (.int _) (.cons (.int _) .nil)))))
    n_isinstance := PySem.W.mg_none_of X G z_isinstance
    n_int := PySem.W.mg_none_of X G z_int
    n_bool := PySem.W.mg_none_of X G z_bool
    n_all := PySem.W.mg_none_of X G z_all
    n_str := PySem.W.mg_none_of X G z_str
    n_len := PySem.W.mg_none_of X G z_len
    n_tuple := PySem.W.mg_none_of X G z_tuple
    n_zip := PySem.W.mg_none_of X G z_zip
    n_enumerate := PySem.W.mg_none_of X G z_enumerate
    n_list := PySem.W.mg_none_of X G z_list
    n_abs := PySem.W.mg_none_of X G z_abs
    n_range := PySem.W.mg_none_of X G z_range
  }
  have tabs0 : ∀ H : Hp, (∀ p ∈ T.cs, H p.2 = some (.tbl #[])) → LamX.Tabs T.tabs H := fun H hH p hp => by
    simp only [List.mem_cons, List.not_mem_nil, or_false] at hp
    rcases hp with rfl | rfl
    · exact LamX.TabS.nil (hH _ T.in__law_written_so)
    · exact LamX.TabS.nil (hH _ T.in_law)
  refine ⟨PySem.W.fnOf "law" "law" (defArgs s_law) (defBody s_law) (defScope s_law) .none kV_law dc_law pm_law an_law _ ct_law, T.cs, spLawT K T.tabs, fun p hp => ?_, fun p hp => ?_, fun p hp => ?_, fun s v => .of_eq rfl, fun H a ns hl _ hH hS => ⟨a, ns, rfl, hS, tabs0 H hH, hl, fun _ => rfl⟩, fun base _ _ TB => ok_law (P := l.prog) (w := w) (base := base) T TB⟩
  · simp only [List.mem_cons, List.not_mem_nil, or_false] at hp
    rcases hp with rfl | rfl
    · exact ht__law_written_so
    · exact ht_law
  · simp only [List.mem_cons, List.not_mem_nil, or_false] at hp
    rcases hp with rfl | rfl
    · exact nl__law_written_so
    · exact nl_law
  · simp only [List.mem_cons, List.not_mem_nil, or_false] at hp
    rcases hp with rfl | rfl
    · exact PySem.W.codeHd_of_K X ch__law_written_so
    · exact PySem.W.codeHd_of_K X ch_law
theorem walk {l : PySem.W.OpenLaw} {q : Program} {loose : List Str} {XP : (Str → Option Value) → Heap → Prop} {YP : World → Heap → Prop} {d : DefRec} {K : Params → PySem.W.Frag} (hn : l.most = some 63) (hdf : d.params.defaults = [])
    (hY : ∀ (w : World) (h : Heap), YP w h → (K w.params).In h)
    (F : ∀ (w : World) (mg : Str → Option Value) (fa : Addr) (h : Heap), YP w h → (K w.params).In h → h.Ns mainGlobals mg → mg d.name = some (.ref fa) → LamX.LawAtS l w (K w.params) CX0 14 63 "_law_script" mg fa h) :
    PySem.W.WalkO q loose XP YP l.row.toRowW d [] (fun f vs => PySem.call f vs) :=
  LamX.walk_ofTs (n := 63) (k := 14) (x := "_law_script") (CX := fun _ => CX0) hn (by decide) hdf ⟨rfl, by decide, by decide⟩ hY F fun _ _ _ _ _ z => z
end Law
open PySem PySem.W PyProof.Rows
set_option maxRecDepth 100000 in
set_option maxHeartbeats 0 in
theorem PySem.Challenge.cw_leastimage_k05_pieces_refused_holds : PySem.Challenge.rw_leastimage_k05_pieces_refused.Holds := by
  w_on; o_law; k_head; (case hw => w_witness2)
  k_fill
  refine Law.walk (l := PySem.Challenge.rw_leastimage_k05_pieces_refused) rfl rfl (fun w h Y => PySem.W.km_in_of Y) ?F
  case F =>
    intro w mg fa h Y KX G hmg
    have hts := PySem.W.km_tabs_of Y
    refine' Law.all_mk KX G hmg ?aC_Piece ?pg_Piece ?hd_Piece ?po_Piece ?sa_Piece ?mk_Piece ?kc_Piece ?ha_Piece ?hn_Piece ?ht_Piece ?hm_Piece ?ty1_Piece ?ty2_Piece ?ne_Piece ?nq_Piece_name ?nq_Piece_part ?nq_Piece_alignment ?nq_Piece_scope ?nq_Piece_keep ?nq_Piece_own_rows ?aC_ImageError ?eB_ImageError ?iB_ImageError ?tB_ImageError ?aC_Missing ?eB_Missing ?iB_Missing ?tB_Missing ?aC_InvalidName ?xL_InvalidName ?rv_InvalidName ?sa_InvalidName ?ga_InvalidName ?gg_InvalidName ?kC_InvalidName ?eC_InvalidName ?tC_InvalidName ?hC_InvalidName ?x1_InvalidName ?x2_InvalidName ?nq_InvalidName_code ?nq_InvalidName_value ?aC_InvalidPart ?xL_InvalidPart ?rv_InvalidPart ?sa_InvalidPart ?ga_InvalidPart ?gg_InvalidPart ?kC_InvalidPart ?eC_InvalidPart ?tC_InvalidPart ?hC_InvalidPart ?x1_InvalidPart ?x2_InvalidPart ?nq_InvalidPart_code ?nq_InvalidPart_value ?aC_InvalidAlignment ?xL_InvalidAlignment ?rv_InvalidAlignment ?sa_InvalidAlignment ?ga_InvalidAlignment ?gg_InvalidAlignment ?kC_InvalidAlignment ?eC_InvalidAlignment ?tC_InvalidAlignment ?hC_InvalidAlignment ?x1_InvalidAlignment ?x2_InvalidAlignment ?nq_InvalidAlignment_code ?nq_InvalidAlignment_value ?aC_InvalidScope ?xL_InvalidScope ?rv_InvalidScope ?sa_InvalidScope ?ga_InvalidScope ?gg_InvalidScope ?kC_InvalidScope ?eC_InvalidScope ?tC_InvalidScope ?hC_InvalidScope ?x1_InvalidScope ?x2_InvalidScope ?nq_InvalidScope_code ?nq_InvalidScope_value ?aC_InvalidRow ?xL_InvalidRow ?rv_InvalidRow ?sa_InvalidRow ?ga_InvalidRow ?gg_InvalidRow ?kC_InvalidRow ?eC_InvalidRow ?tC_InvalidRow ?hC_InvalidRow ?x1_InvalidRow ?x2_InvalidRow ?nq_InvalidRow_code ?nq_InvalidRow_at ?aC_NotClosing ?xL_NotClosing ?rv_NotClosing ?sa_NotClosing ?ga_NotClosing ?gg_NotClosing ?kC_NotClosing ?eC_NotClosing ?tC_NotClosing ?hC_NotClosing ?x1_NotClosing ?x2_NotClosing ?nq_NotClosing_code ?aC_TooMany ?xL_TooMany ?rv_TooMany ?sa_TooMany ?ga_TooMany ?gg_TooMany ?kC_TooMany ?eC_TooMany ?tC_TooMany ?hC_TooMany ?x1_TooMany ?x2_TooMany ?nq_TooMany_code ?nq_TooMany_most ?a_InvalidName___init__ ?i_InvalidName___init__ ?l_InvalidName___init__ ?c_InvalidName___init__ ?k_InvalidName___init__ ?a_InvalidPart___init__ ?i_InvalidPart___init__ ?l_InvalidPart___init__ ?c_InvalidPart___init__ ?k_InvalidPart___init__ ?a_InvalidAlignment___init__ ?i_InvalidAlignment___init__ ?l_InvalidAlignment___init__ ?c_InvalidAlignment___init__ ?k_InvalidAlignment___init__ ?a_InvalidScope___init__ ?i_InvalidScope___init__ ?l_InvalidScope___init__ ?c_InvalidScope___init__ ?k_InvalidScope___init__ ?a_is_number ?l_is_number ?c_is_number ?k_is_number ?a_is_name ?l_is_name ?c_is_name ?k_is_name ?a_InvalidRow___init__ ?i_InvalidRow___init__ ?l_InvalidRow___init__ ?c_InvalidRow___init__ ?k_InvalidRow___init__ ?a_NotClosing___init__ ?i_NotClosing___init__ ?l_NotClosing___init__ ?c_NotClosing___init__ ?k_NotClosing___init__ ?a_TooMany___init__ ?i_TooMany___init__ ?l_TooMany___init__ ?c_TooMany___init__ ?k_TooMany___init__ ?a_has_word ?l_has_word ?c_has_word ?k_has_word ?a_is_register ?l_is_register ?c_is_register ?k_is_register ?a_is_word ?l_is_word ?c_is_word ?k_is_word ?a_fits ?l_fits ?c_fits ?k_fits ?a_has_form ?l_has_form ?c_has_form ?k_has_form ?a_is_code_row ?l_is_code_row ?c_is_code_row ?k_is_code_row ?a_is_data_row ?l_is_data_row ?c_is_data_row ?k_is_data_row ?a_is_closing ?l_is_closing ?c_is_closing ?k_is_closing ?a_need_rows ?l_need_rows ?c_need_rows ?k_need_rows ?a_is_scope ?l_is_scope ?c_is_scope ?k_is_scope ?a_Piece___init__ ?i_Piece___init__ ?l_Piece___init__ ?c_Piece___init__ ?k_Piece___init__ ?kq_Piece___init___alignment ?kr_Piece___init___alignment ?kq_Piece___init___scope ?kr_Piece___init___scope ?kq_Piece___init___keep ?kr_Piece___init___keep ?a__law_bag ?l__law_bag ?c__law_bag ?k__law_bag ?a__law_draw ?l__law_draw ?c__law_draw ?k__law_draw ?a__law_of ?l__law_of ?c__law_of ?k__law_of ?a__law_same ?l__law_same ?c__law_same ?k__law_same ?a__law_field ?l__law_field ?c__law_field ?k__law_field ?a__law_try ?l__law_try ?c__law_try ?k__law_try ?a__law_why ?l__law_why ?c__law_why ?k__law_why ?a__law_whys ?l__law_whys ?c__law_whys ?k__law_whys ?a__law_odd ?l__law_odd ?c__law_odd ?k__law_odd ?a__law_titles ?l__law_titles ?c__law_titles ?k__law_titles ?a__law_number ?l__law_number ?c__law_number ?k__law_number ?a__law_r ?l__law_r ?c__law_r ?k__law_r ?a__law_code_row ?l__law_code_row ?c__law_code_row ?k__law_code_row ?a__law_last_row ?l__law_last_row ?c__law_last_row ?k__law_last_row ?a__law_data_row ?l__law_data_row ?c__law_data_row ?k__law_data_row ?a__law_piece_model ?l__law_piece_model ?c__law_piece_model ?k__law_piece_model ?a__law_wrong_rows ?l__law_wrong_rows ?c__law_wrong_rows ?k__law_wrong_rows ?a__law_is_title ?l__law_is_title ?c__law_is_title ?k__law_is_title ?a__law_within ?l__law_within ?c__law_within ?k__law_within ?a__law_code_so ?l__law_code_so ?c__law_code_so ?k__law_code_so ?a__law_data_so ?l__law_data_so ?c__law_data_so ?k__law_data_so ?a__law_due ?l__law_due ?c__law_due ?k__law_due ?a_Piece___len__ ?i_Piece___len__ ?l_Piece___len__ ?c_Piece___len__ ?k_Piece___len__ ?lk__law_written_so ?vt__law_written_so ?ch__law_written_so ?nl__law_written_so ?ht__law_written_so ?a__law_written_so ?l__law_written_so ?c__law_written_so ?k__law_written_so ?lk_law ?vt_law ?ch_law ?nl_law ?ht_law ?a_law ?l_law ?c_law ?k_law ?q_MOST_LETTERS ?r_MOST_LETTERS ?q_LETTERS ?r_LETTERS ?q_REGISTERS ?l_REGISTERS ?v_REGISTERS ?q_MOST_WORD ?r_MOST_WORD ?q_MOST_ROOM ?r_MOST_ROOM ?q_MOST_DISTANCE ?r_MOST_DISTANCE ?q_CODE_FORMS ?l_CODE_FORMS ?kl_CODE_FORMS ?sy_CODE_FORMS ?pd_CODE_FORMS ?q_DATA_FORMS ?l_DATA_FORMS ?kl_DATA_FORMS ?sy_DATA_FORMS ?pd_DATA_FORMS ?q_CLOSING ?l_CLOSING ?v_CLOSING ?q_MOST_ROWS ?r_MOST_ROWS ?q_SCOPES ?l_SCOPES ?v_SCOPES ?q_ALIGNMENTS ?l_ALIGNMENTS ?v_ALIGNMENTS ?z_isinstance ?z_int ?z_bool ?z_all ?z_str ?z_len ?z_tuple ?z_zip ?z_enumerate ?z_list ?z_abs ?z_range ?nd
    (case aC_Piece => k_is)
    (case pg_Piece => k_is)
    (case hd_Piece => k_is)
    (case po_Piece => k_is)
    (case sa_Piece => k_is)
    (case mk_Piece => k_is)
    (case kc_Piece => k_is)
    (case ha_Piece => k_is)
    (case hn_Piece => k_is)
    (case ht_Piece => k_is)
    (case hm_Piece => k_is)
    (case ty1_Piece => k_is)
    (case ty2_Piece => k_is)
    (case ne_Piece => k_is)
    (case nq_Piece_name => k_is)
    (case nq_Piece_part => k_is)
    (case nq_Piece_alignment => k_is)
    (case nq_Piece_scope => k_is)
    (case nq_Piece_keep => k_is)
    (case nq_Piece_own_rows => k_is)
    (case aC_ImageError => k_is)
    (case eB_ImageError => k_is)
    (case iB_ImageError => k_is)
    (case tB_ImageError => k_is)
    (case aC_Missing => k_is)
    (case eB_Missing => k_is)
    (case iB_Missing => k_is)
    (case tB_Missing => k_is)
    (case aC_InvalidName => k_is)
    (case xL_InvalidName => k_is)
    (case rv_InvalidName => decide +kernel)
    (case sa_InvalidName => k_is)
    (case ga_InvalidName => k_is)
    (case gg_InvalidName => k_is)
    (case kC_InvalidName => k_is)
    (case eC_InvalidName => k_is)
    (case tC_InvalidName => k_is)
    (case hC_InvalidName => k_is)
    (case x1_InvalidName => k_is)
    (case x2_InvalidName => k_is)
    (case nq_InvalidName_code => k_is)
    (case nq_InvalidName_value => k_is)
    (case aC_InvalidPart => k_is)
    (case xL_InvalidPart => k_is)
    (case rv_InvalidPart => decide +kernel)
    (case sa_InvalidPart => k_is)
    (case ga_InvalidPart => k_is)
    (case gg_InvalidPart => k_is)
    (case kC_InvalidPart => k_is)
    (case eC_InvalidPart => k_is)
    (case tC_InvalidPart => k_is)
    (case hC_InvalidPart => k_is)
    (case x1_InvalidPart => k_is)
    (case x2_InvalidPart => k_is)
    (case nq_InvalidPart_code => k_is)
    (case nq_InvalidPart_value => k_is)
    (case aC_InvalidAlignment => k_is)
    (case xL_InvalidAlignment => k_is)
    (case rv_InvalidAlignment => decide +kernel)
    (case sa_InvalidAlignment => k_is)
    (case ga_InvalidAlignment => k_is)
    (case gg_InvalidAlignment => k_is)
    (case kC_InvalidAlignment => k_is)
    (case eC_InvalidAlignment => k_is)
    (case tC_InvalidAlignment => k_is)
    (case hC_InvalidAlignment => k_is)
    (case x1_InvalidAlignment => k_is)
    (case x2_InvalidAlignment => k_is)
    (case nq_InvalidAlignment_code => k_is)
    (case nq_InvalidAlignment_value => k_is)
    (case aC_InvalidScope => k_is)
    (case xL_InvalidScope => k_is)
    (case rv_InvalidScope => decide +kernel)
    (case sa_InvalidScope => k_is)
    (case ga_InvalidScope => k_is)
    (case gg_InvalidScope => k_is)
    (case kC_InvalidScope => k_is)
    (case eC_InvalidScope => k_is)
    (case tC_InvalidScope => k_is)
    (case hC_InvalidScope => k_is)
    (case x1_InvalidScope => k_is)
    (case x2_InvalidScope => k_is)
    (case nq_InvalidScope_code => k_is)
    (case nq_InvalidScope_value => k_is)
    (case aC_InvalidRow => k_is)
    (case xL_InvalidRow => k_is)
    (case rv_InvalidRow => decide +kernel)
    (case sa_InvalidRow => k_is)
    (case ga_InvalidRow => k_is)
    (case gg_InvalidRow => k_is)
    (case kC_InvalidRow => k_is)
    (case eC_InvalidRow => k_is)
    (case tC_InvalidRow => k_is)
    (case hC_InvalidRow => k_is)
    (case x1_InvalidRow => k_is)
    (case x2_InvalidRow => k_is)
    (case nq_InvalidRow_code => k_is)
    (case nq_InvalidRow_at => k_is)
    (case aC_NotClosing => k_is)
    (case xL_NotClosing => k_is)
    (case rv_NotClosing => decide +kernel)
    (case sa_NotClosing => k_is)
    (case ga_NotClosing => k_is)
    (case gg_NotClosing => k_is)
    (case kC_NotClosing => k_is)
    (case eC_NotClosing => k_is)
    (case tC_NotClosing => k_is)
    (case hC_NotClosing => k_is)
    (case x1_NotClosing => k_is)
    (case x2_NotClosing => k_is)
    (case nq_NotClosing_code => k_is)
    (case aC_TooMany => k_is)
    (case xL_TooMany => k_is)
    (case rv_TooMany => decide +kernel)
    (case sa_TooMany => k_is)
    (case ga_TooMany => k_is)
    (case gg_TooMany => k_is)
    (case kC_TooMany => k_is)
    (case eC_TooMany => k_is)
    (case tC_TooMany => k_is)
    (case hC_TooMany => k_is)
    (case x1_TooMany => k_is)
    (case x2_TooMany => k_is)
    (case nq_TooMany_code => k_is)
    (case nq_TooMany_most => k_is)
    (case a_InvalidName___init__ => k_is)
    (case i_InvalidName___init__ => k_is)
    (case l_InvalidName___init__ => k_is)
    (case c_InvalidName___init__ => k_is)
    (case k_InvalidName___init__ => k_is)
    (case a_InvalidPart___init__ => k_is)
    (case i_InvalidPart___init__ => k_is)
    (case l_InvalidPart___init__ => k_is)
    (case c_InvalidPart___init__ => k_is)
    (case k_InvalidPart___init__ => k_is)
    (case a_InvalidAlignment___init__ => k_is)
    (case i_InvalidAlignment___init__ => k_is)
    (case l_InvalidAlignment___init__ => k_is)
    (case c_InvalidAlignment___init__ => k_is)
    (case k_InvalidAlignment___init__ => k_is)
    (case a_InvalidScope___init__ => k_is)
    (case i_InvalidScope___init__ => k_is)
    (case l_InvalidScope___init__ => k_is)
    (case c_InvalidScope___init__ => k_is)
    (case k_InvalidScope___init__ => k_is)
    (case a_is_number => k_is)
    (case l_is_number => k_is)
    (case c_is_number => k_is)
    (case k_is_number => k_is)
    (case a_is_name => k_is)
    (case l_is_name => k_is)
    (case c_is_name => k_is)
    (case k_is_name => k_is)
    (case a_InvalidRow___init__ => k_is)
    (case i_InvalidRow___init__ => k_is)
    (case l_InvalidRow___init__ => k_is)
    (case c_InvalidRow___init__ => k_is)
    (case k_InvalidRow___init__ => k_is)
    (case a_NotClosing___init__ => k_is)
    (case i_NotClosing___init__ => k_is)
    (case l_NotClosing___init__ => k_is)
    (case c_NotClosing___init__ => k_is)
    (case k_NotClosing___init__ => k_is)
    (case a_TooMany___init__ => k_is)
    (case i_TooMany___init__ => k_is)
    (case l_TooMany___init__ => k_is)
    (case c_TooMany___init__ => k_is)
    (case k_TooMany___init__ => k_is)
    (case a_has_word => k_is)
    (case l_has_word => k_is)
    (case c_has_word => k_is)
    (case k_has_word => k_is)
    (case a_is_register => k_is)
    (case l_is_register => k_is)
    (case c_is_register => k_is)
    (case k_is_register => k_is)
    (case a_is_word => k_is)
    (case l_is_word => k_is)
    (case c_is_word => k_is)
    (case k_is_word => k_is)
    (case a_fits => k_is)
    (case l_fits => k_is)
    (case c_fits => k_is)
    (case k_fits => k_is)
    (case a_has_form => k_is)
    (case l_has_form => k_is)
    (case c_has_form => k_is)
    (case k_has_form => k_is)
    (case a_is_code_row => k_is)
    (case l_is_code_row => k_is)
    (case c_is_code_row => k_is)
    (case k_is_code_row => k_is)
    (case a_is_data_row => k_is)
    (case l_is_data_row => k_is)
    (case c_is_data_row => k_is)
    (case k_is_data_row => k_is)
    (case a_is_closing => k_is)
    (case l_is_closing => k_is)
    (case c_is_closing => k_is)
    (case k_is_closing => k_is)
    (case a_need_rows => k_is)
    (case l_need_rows => k_is)
    (case c_need_rows => k_is)
    (case k_need_rows => k_is)
    (case a_is_scope => k_is)
    (case l_is_scope => k_is)
    (case c_is_scope => k_is)
    (case k_is_scope => k_is)
    (case a_Piece___init__ => k_is)
    (case i_Piece___init__ => k_is)
    (case l_Piece___init__ => k_is)
    (case c_Piece___init__ => k_is)
    (case k_Piece___init__ => k_is)
    (case kq_Piece___init___alignment => k_is)
    (case kq_Piece___init___scope => k_is)
    (case kq_Piece___init___keep => k_is)
    (case a__law_bag => k_is)
    (case l__law_bag => k_is)
    (case c__law_bag => k_is)
    (case k__law_bag => k_is)
    (case a__law_draw => k_is)
    (case l__law_draw => k_is)
    (case c__law_draw => k_is)
    (case k__law_draw => k_is)
    (case a__law_of => k_is)
    (case l__law_of => k_is)
    (case c__law_of => k_is)
    (case k__law_of => k_is)
    (case a__law_same => k_is)
    (case l__law_same => k_is)
    (case c__law_same => k_is)
    (case k__law_same => k_is)
    (case a__law_field => k_is)
    (case l__law_field => k_is)
    (case c__law_field => k_is)
    (case k__law_field => k_is)
    (case a__law_try => k_is)
    (case l__law_try => k_is)
    (case c__law_try => k_is)
    (case k__law_try => k_is)
    (case a__law_why => k_is)
    (case l__law_why => k_is)
    (case c__law_why => k_is)
    (case k__law_why => k_is)
    (case a__law_whys => k_is)
    (case l__law_whys => k_is)
    (case c__law_whys => k_is)
    (case k__law_whys => k_is)
    (case a__law_odd => k_is)
    (case l__law_odd => k_is)
    (case c__law_odd => k_is)
    (case k__law_odd => k_is)
    (case a__law_titles => k_is)
    (case l__law_titles => k_is)
    (case c__law_titles => k_is)
    (case k__law_titles => k_is)
    (case a__law_number => k_is)
    (case l__law_number => k_is)
    (case c__law_number => k_is)
    (case k__law_number => k_is)
    (case a__law_r => k_is)
    (case l__law_r => k_is)
    (case c__law_r => k_is)
    (case k__law_r => k_is)
    (case a__law_code_row => k_is)
    (case l__law_code_row => k_is)
    (case c__law_code_row => k_is)
    (case k__law_code_row => k_is)
    (case a__law_last_row => k_is)
    (case l__law_last_row => k_is)
    (case c__law_last_row => k_is)
    (case k__law_last_row => k_is)
    (case a__law_data_row => k_is)
    (case l__law_data_row => k_is)
    (case c__law_data_row => k_is)
    (case k__law_data_row => k_is)
    (case a__law_piece_model => k_is)
    (case l__law_piece_model => k_is)
    (case c__law_piece_model => k_is)
    (case k__law_piece_model => k_is)
    (case a__law_wrong_rows => k_is)
    (case l__law_wrong_rows => k_is)
    (case c__law_wrong_rows => k_is)
    (case k__law_wrong_rows => k_is)
    (case a__law_is_title => k_is)
    (case l__law_is_title => k_is)
    (case c__law_is_title => k_is)
    (case k__law_is_title => k_is)
    (case a__law_within => k_is)
    (case l__law_within => k_is)
    (case c__law_within => k_is)
    (case k__law_within => k_is)
    (case a__law_code_so => k_is)
    (case l__law_code_so => k_is)
    (case c__law_code_so => k_is)
    (case k__law_code_so => k_is)
    (case a__law_data_so => k_is)
    (case l__law_data_so => k_is)
    (case c__law_data_so => k_is)
    (case k__law_data_so => k_is)
    (case a__law_due => k_is)
    (case l__law_due => k_is)
    (case c__law_due => k_is)
    (case k__law_due => k_is)
    (case a_Piece___len__ => k_is)
    (case i_Piece___len__ => k_is)
    (case l_Piece___len__ => k_is)
    (case c_Piece___len__ => k_is)
    (case k_Piece___len__ => k_is)
    (case a__law_written_so => k_is)
    (case l__law_written_so => k_is)
    (case c__law_written_so => k_is)
    (case k__law_written_so => k_is)
    (case a_law => k_is)
    (case l_law => k_is)
    (case c_law => k_is)
    (case k_law => k_is)
    (case q_MOST_LETTERS => k_is)
    (case q_LETTERS => k_is)
    (case q_REGISTERS => k_is)
    (case l_REGISTERS => k_is)
    (case q_MOST_WORD => k_is)
    (case q_MOST_ROOM => k_is)
    (case q_MOST_DISTANCE => k_is)
    (case q_CODE_FORMS => k_is)
    (case l_CODE_FORMS => k_is)
    (case q_DATA_FORMS => k_is)
    (case l_DATA_FORMS => k_is)
    (case q_CLOSING => k_is)
    (case l_CLOSING => k_is)
    (case q_MOST_ROWS => k_is)
    (case q_SCOPES => k_is)
    (case l_SCOPES => k_is)
    (case q_ALIGNMENTS => k_is)
    (case l_ALIGNMENTS => k_is)
    (case z_isinstance => k_is)
    (case z_int => k_is)
    (case z_bool => k_is)
    (case z_all => k_is)
    (case z_str => k_is)
    (case z_len => k_is)
    (case z_tuple => k_is)
    (case z_zip => k_is)
    (case z_enumerate => k_is)
    (case z_list => k_is)
    (case z_abs => k_is)
    (case z_range => k_is)
    (case kr_Piece___init___alignment => first | exact ⟨_, rfl⟩ | rfl)
    (case kr_Piece___init___scope => first | exact ⟨_, rfl⟩ | rfl)
    (case kr_Piece___init___keep => first | exact ⟨_, rfl⟩ | rfl)
    (case lk__law_written_so => k_is)
    (case vt__law_written_so => rfl)
    (case ch__law_written_so => first | kernel_rfl | rfl)
    (case nl__law_written_so => first | k_is | kernel_rfl)
    (case ht__law_written_so => exact hts _ (by decide))
    (case lk_law => k_is)
    (case vt_law => rfl)
    (case ch_law => first | kernel_rfl | rfl)
    (case nl_law => first | k_is | kernel_rfl)
    (case ht_law => exact hts _ (by decide))
    (case r_MOST_LETTERS => exact ⟨_, rfl⟩)
    (case r_LETTERS => exact ⟨_, rfl⟩)
    (case v_REGISTERS => exact (.cons ⟨_, rfl⟩ (.cons ⟨_, rfl⟩ (.cons ⟨_, rfl⟩ .nil))))
    (case r_MOST_WORD => exact ⟨_, rfl⟩)
    (case r_MOST_ROOM => exact ⟨_, rfl⟩)
    (case r_MOST_DISTANCE => exact ⟨_, rfl⟩)
    (case kl_CODE_FORMS => exact ⟨⟨_, _, rfl, rfl⟩, ⟨_, _, rfl, rfl⟩, ⟨_, _, rfl, rfl⟩, ⟨_, _, rfl, rfl⟩, ⟨_, _, rfl, rfl⟩, ⟨_, _, rfl, rfl⟩, ⟨_, _, rfl, rfl⟩, ⟨_, _, rfl, rfl⟩, ⟨_, _, rfl, rfl⟩, ⟨_, _, rfl, rfl⟩, ⟨_, _, rfl, rfl⟩, ⟨_, _, rfl, rfl⟩, ⟨_, _, rfl, rfl⟩, ⟨_, _, rfl, rfl⟩, trivial⟩)
    (case sy_CODE_FORMS => first | rfl | decide)
    (case pd_CODE_FORMS => exact (.cons ⟨⟨_, rfl⟩, ⟨_, rfl⟩⟩ (.cons ⟨⟨_, rfl⟩, ⟨_, rfl⟩⟩ (.cons ⟨⟨_, rfl⟩, ⟨_, rfl⟩⟩ (.cons ⟨⟨_, rfl⟩, ⟨_, rfl⟩⟩ (.cons ⟨⟨_, rfl⟩, ⟨_, rfl⟩⟩ (.cons ⟨⟨_, rfl⟩, ⟨_, rfl⟩⟩ (.cons ⟨⟨_, rfl⟩, ⟨_, rfl⟩⟩ (.cons ⟨⟨_, rfl⟩, ⟨_, rfl⟩⟩ (.cons ⟨⟨_, rfl⟩, ⟨_, rfl⟩⟩ (.cons ⟨⟨_, rfl⟩, ⟨_, rfl⟩⟩ (.cons ⟨⟨_, rfl⟩, ⟨_, rfl⟩⟩ (.cons ⟨⟨_, rfl⟩, ⟨_, rfl⟩⟩ (.cons ⟨⟨_, rfl⟩, ⟨_, rfl⟩⟩ (.cons ⟨⟨_, rfl⟩, ⟨_, rfl⟩⟩ .nil)))))))))))))))
    (case kl_DATA_FORMS => exact ⟨⟨_, _, rfl, rfl⟩, ⟨_, _, rfl, rfl⟩, ⟨_, _, rfl, rfl⟩, trivial⟩)
    (case sy_DATA_FORMS => first | rfl | decide)
    (case pd_DATA_FORMS => exact (.cons ⟨⟨_, rfl⟩, ⟨_, rfl⟩⟩ (.cons ⟨⟨_, rfl⟩, ⟨_, rfl⟩⟩ (.cons ⟨⟨_, rfl⟩, ⟨_, rfl⟩⟩ .nil))))
    (case v_CLOSING => exact (.cons ⟨_, rfl⟩ (.cons ⟨_, rfl⟩ (.cons ⟨_, rfl⟩ .nil))))
    (case r_MOST_ROWS => exact ⟨_, rfl⟩)
    (case v_SCOPES => exact (.cons ⟨_, rfl⟩ (.cons ⟨_, rfl⟩ (.cons ⟨_, rfl⟩ (.cons ⟨_, rfl⟩ .nil)))))
    (case v_ALIGNMENTS => exact (.cons ⟨_, rfl⟩ (.cons ⟨_, rfl⟩ (.cons ⟨_, rfl⟩ (.cons ⟨_, rfl⟩ (.cons ⟨_, rfl⟩ .nil))))))
    (case nd => decide)
