import PyProof.Rows.All
import Wide.All
import OpenK.AllK
import Wide.FinOn
import HandS.ForMost
import HandS.ForExc
import HandS.Lambda
import HandS.TryMany
import HandS.HotCalls
import HandS.ExcIs
import HandS.Conv
import HandS.Wide
import HandS.DictTup
import HandS.SortRule
import HandS.SortInts
import HandS.CallLocal
import HandS.EndTab
import HandS.IsInst
import HandS.NoneIn
import HandS.TupAny
import HandS.TupMul
import HandS.Deep
import HandS.Strs
import HandS.Style
import HandS.Evl
import PySem.Challenge.RW_fulltrees_k15_marks_that_were_seen
import HandS.Hot
import HandS.Iter
import HandS.Comp
import HandS.TryOnly
import KE.KNestM
import KE.KTopLam
set_option Elab.async false
set_option linter.all false
set_option maxRecDepth 100000
set_option maxHeartbeats 4000000
section
/-! The data layer: plain data, and when a value stands for it. -/
namespace DL
open PySem PySem.Spec PyProof.Rows L2 Evl

inductive Dat where
  | non | bl (b : Bool) | int (i : Int) | str (s : Str) | lst (xs : List Dat) | tup (xs : List Dat) | ro (xs : List Dat) | fn (a : Addr)

mutual
inductive Is (K : PySem.W.Frag) (T : Hp) : V → Dat → Prop
  | non : Is K T .non .non
  | bl (b : Bool) : Is K T (.bl b) (.bl b)
  | int (i : Int) : Is K T (.int i) (.int i)
  | str (x : Str) : Is K T (.str x) (.str x)
  | lst {a : Addr} {xs : List V} {ds : List Dat} : T a = some (.lst xs) → IsA K T xs ds → Is K T (.ref a) (.lst ds)
  | ro {a : Addr} {xs : List V} {ds : List Dat} : SqL K T a xs → IsA K T xs ds → Is K T (.ref a) (.ro ds)
  | tup {a : Addr} {xs : List V} {ds : List Dat} : SqT K T a xs → IsA K T xs ds → Is K T (.ref a) (.tup ds)
  | fn (a : Addr) : Is K T (.ref a) (.fn a)
inductive IsA (K : PySem.W.Frag) (T : Hp) : List V → List Dat → Prop
  | nil : IsA K T [] []
  | cons {v : V} {d : Dat} {vs : List V} {ds : List Dat} : Is K T v d → IsA K T vs ds → IsA K T (v :: vs) (d :: ds)
end
section
variable {K : PySem.W.Frag} {T T' : Hp}
mutual
theorem Is.mono (e : Ex T T') : ∀ {v : V} {d : Dat}, Is K T v d → Is K T' v d
  | _, _, .non => .non
  | _, _, .bl b => .bl b
  | _, _, .int i => .int i
  | _, _, .str x => .str x
  | _, _, .lst h a => .lst (e _ _ h) (IsA.mono e a)
  | _, _, .ro h a => .ro (ex_l e h) (IsA.mono e a)
  | _, _, .tup h a => .tup (ex_t e h) (IsA.mono e a)
  | _, _, .fn a => .fn a
theorem IsA.mono (e : Ex T T') : ∀ {vs : List V} {ds : List Dat}, IsA K T vs ds → IsA K T' vs ds
  | _, _, .nil => .nil
  | _, _, .cons h a => .cons (Is.mono e h) (IsA.mono e a)
end
theorem IsA.length : ∀ {vs : List V} {ds : List Dat}, IsA K T vs ds → vs.length = ds.length
  | _, _, .nil => rfl
  | _, _, .cons _ a => by rw [List.length_cons, List.length_cons, a.length]
theorem IsA.at : ∀ {vs : List V} {ds : List Dat} {i : Nat} {d : Dat}, IsA K T vs ds → ds[i]? = some d → ∃ v, vs[i]? = some v ∧ Is K T v d
  | _, _, _, _, .nil, e => by simp at e
  | _, _, 0, _, .cons h _, e => by simp at e; subst e; exact ⟨_, rfl, h⟩
  | _, _, i + 1, d, .cons _ a, e => by
    obtain ⟨v, h1, h2⟩ := IsA.at (i := i) (d := d) a (by simpa using e)
    exact ⟨v, by simpa using h1, h2⟩
theorem IsA.atV : ∀ {vs : List V} {ds : List Dat} {i : Nat} {v : V}, IsA K T vs ds → vs[i]? = some v → ∃ d, ds[i]? = some d ∧ Is K T v d
  | _, _, _, _, .nil, e => by simp at e
  | _, _, 0, _, .cons h _, e => by simp at e; subst e; exact ⟨_, rfl, h⟩
  | _, _, i + 1, v, .cons _ a, e => by
    obtain ⟨d, h1, h2⟩ := IsA.atV (i := i) (v := v) a (by simpa using e)
    exact ⟨d, by simpa using h1, h2⟩
theorem IsA.append : ∀ {vs ws : List V} {ds es : List Dat}, IsA K T vs ds → IsA K T ws es → IsA K T (vs ++ ws) (ds ++ es)
  | _, _, _, _, .nil, b => b
  | _, _, _, _, .cons h a, b => .cons h (IsA.append a b)
theorem IsA.take : ∀ {vs : List V} {ds : List Dat} (n : Nat), IsA K T vs ds → IsA K T (vs.take n) (ds.take n)
  | _, _, 0, _ => .nil
  | _, _, _ + 1, .nil => .nil
  | _, _, n + 1, .cons h a => .cons h (IsA.take n a)
theorem IsA.drop : ∀ {vs : List V} {ds : List Dat} (n : Nat), IsA K T vs ds → IsA K T (vs.drop n) (ds.drop n)
  | _, _, 0, r => r
  | _, _, _ + 1, .nil => .nil
  | _, _, n + 1, .cons _ a => IsA.drop n a
theorem IsA.reverse : ∀ {vs : List V} {ds : List Dat}, IsA K T vs ds → IsA K T vs.reverse ds.reverse
  | _, _, .nil => .nil
  | _, _, .cons h a => by
    rw [List.reverse_cons, List.reverse_cons]
    exact (IsA.reverse a).append (.cons h .nil)
theorem IsA.one {v : V} {d : Dat} (h : Is K T v d) : IsA K T [v] [d] := .cons h .nil
theorem IsA.snoc {vs : List V} {ds : List Dat} {v : V} {d : Dat} (a : IsA K T vs ds) (h : Is K T v d) : IsA K T (vs ++ [v]) (ds ++ [d]) := a.append (.one h)
theorem IsA.rep {vs : List V} {ds : List Dat} (a : IsA K T vs ds) : ∀ n : Nat, IsA K T (List.replicate n vs).flatten (List.replicate n ds).flatten
  | 0 => .nil
  | n + 1 => by
    rw [List.replicate_succ, List.replicate_succ, List.flatten_cons, List.flatten_cons]
    exact a.append (IsA.rep a n)
theorem IsA.ints : ∀ {vs : List V} {ns : List Int}, IsA K T vs (ns.map Dat.int) → vs = ns.map V.int
  | _, [], h => by cases h; rfl
  | _, n :: ns, h => by
    cases h with
    | cons h1 h2 =>
      cases h1
      rw [IsA.ints h2]
      rfl
theorem IsA.ofInts : ∀ (ns : List Int), IsA K T (ns.map V.int) (ns.map Dat.int)
  | [] => .nil
  | n :: ns => .cons (.int n) (IsA.ofInts ns)
end

/-! ### the heap's steps -/
/-- what may change beside the new: mv -/
def ntb (o : HO) : Prop := ∀ ps, o ≠ .tbl ps
structure Step (mv : Addr → HO → Prop) (T H T' H' : Hp) : Prop where
  t : Ex T T'
  k : ∀ a o, H a = some o → ¬ mv a o → H' a = some o
  f : ∀ a o, H a = some o → ntb o → T' a = T a
  d : ∀ a o, H a = some o → ntb o → ∃ o', H' a = some o' ∧ ntb o'
  tt : ∀ a ps, T' a = some (.tbl ps) → T a = some (.tbl ps)
def mv0 : Addr → HO → Prop := fun _ _ => False
section
variable {mv mv' : Addr → HO → Prop} {T H T1 H1 T2 H2 : Hp} {p : Addr} {o : HO}
theorem Step.refl : Step mv T H T H := ⟨Ex.refl T, fun _ _ h _ => h, fun _ _ _ _ => rfl, fun _ o h n => ⟨o, h, n⟩, fun _ _ h => h⟩
theorem Step.trans (a : Step mv T H T1 H1) (b : Step mv T1 H1 T2 H2) : Step mv T H T2 H2 :=
  ⟨a.t.trans b.t, fun x o h n => b.k x o (a.k x o h n) n, fun x o h n => let ⟨o', h', n'⟩ := a.d x o h n; (b.f x o' h' n').trans (a.f x o h n), fun x o h n => let ⟨o', h', n'⟩ := a.d x o h n; b.d x o' h' n', fun x ps h => a.tt x ps (b.tt x ps h)⟩
theorem Step.weak (a : Step mv T H T1 H1) (h : ∀ x o, mv x o → mv' x o) : Step mv' T H T1 H1 := ⟨a.t, fun x o e n => a.k x o e fun z => n (h x o z), a.f, a.d, a.tt⟩
theorem Step.up (a : Step mv0 T H T1 H1) : Step mv T H T1 H1 := a.weak fun _ _ z => z.elim
theorem Step.ex (a : Step mv0 T H T1 H1) : Ex H H1 := fun x o e => a.k x o e fun z => z
theorem free_sub (e : Ex T H) (h : H p = none) : T p = none := by
  cases q : T p with
  | none => rfl
  | some o =>
    rw [e p o q] at h
    cases h
theorem ne_free {a : Addr} (h : H a ≠ none) (hp : H p = none) : a ≠ p := fun z => h (by rw [z]; exact hp)
theorem Step.new (e : Ex T H) (h : H p = none) (ho : ∀ ps, o ≠ .tbl ps := by intro _ z; cases z) : Step mv T H (upd T p o) (upd H p o) :=
  ⟨Ex.new (free_sub e h), fun x u hx _ => by rw [upd_ne (ne_of_none hx h)]; exact hx, fun x o hx _ => upd_ne (ne_of_none hx h), fun x o hx n => ⟨o, by rw [upd_ne (ne_of_none hx h)]; exact hx, n⟩, fun x ps hx => by
    by_cases z : x = p
    · rw [z, upd_same] at hx
      exact absurd (Option.some.inj hx) (ho ps)
    · rw [upd_ne z] at hx
      exact hx⟩
theorem Step.newH (h : H p = none) : Step mv T H T (upd H p o) :=
  ⟨Ex.refl T, fun x u hx _ => by rw [upd_ne (ne_of_none hx h)]; exact hx, fun _ _ _ _ => rfl, fun x o hx n => ⟨o, by rw [upd_ne (ne_of_none hx h)]; exact hx, n⟩, fun _ _ z => z⟩
theorem ex_new (e : Ex T H) : Ex (upd T p o) (upd H p o) := fun a u q => by
  by_cases z : a = p
  · rw [z, upd_same] at q
    rw [z, upd_same]
    exact q
  · rw [upd_ne z] at q
    rw [upd_ne z]
    exact e a u q
theorem ex_newH (e : Ex T H) (h : H p = none) : Ex T (upd H p o) := e.trans (Ex.new h)
end

/-! ### environments -/
inductive Slot where
  | d (x : Dat) | l (xs : List Dat) | k (kvs : List (Key × Dat)) | t (kvs : List (List Key × Dat))
def Slot.own : Slot → Prop
  | .d _ => False
  | _ => True
abbrev DEnv := List (Option Slot)
/-- what an owned object holds -/
def Cont (K : PySem.W.Frag) (T : Hp) : Slot → HO → Prop
  | .l xs, .lst vs => IsA K T vs xs
  | .k kvs, .dK ws => Paired (fun (p : Key × V) (q : Key × Dat) => p.1 = q.1 ∧ Is K T p.2 q.2) ws kvs
  | .t kvs, .dT ws => Paired (fun (p : List Key × V) (q : List Key × Dat) => p.1 = q.1 ∧ Is K T p.2 q.2) ws kvs
  | _, _ => False
theorem Cont.mono {K : PySem.W.Frag} {T T' : Hp} (e : Ex T T') : ∀ {s : Slot} {o : HO}, Cont K T s o → Cont K T' s o := fun {s o} h => by
  cases s with
  | d x => exact (show False from h).elim
  | l xs =>
    cases o with
    | lst vs => exact IsA.mono e (show IsA K T vs xs from h)
    | _ => exact (show False from h).elim
  | k kvs =>
    cases o with
    | dK vs => exact Paired.mapP (show Paired _ vs kvs from h) fun p q z => ⟨z.1, z.2.mono e⟩
    | _ => exact (show False from h).elim
  | t kvs =>
    cases o with
    | dT vs => exact Paired.mapP (show Paired _ vs kvs from h) fun p q z => ⟨z.1, z.2.mono e⟩
    | _ => exact (show False from h).elim
def isLD : HO → Prop
  | .lst _ => True
  | .dK _ => True
  | .dT _ => True
  | _ => False
def Wood (H : Hp) (w : Addr) : Prop := ∃ a b : Int, H w = some (.lst [.int a, .int b])

structure Gm where
  P : Program
  w : World
  K : PySem.W.Frag
  mg : Str → Option Value
  base : Heap

/-- a def's context: its module, names, scope, room, what may be raised; the wood that may turn, tables that may grow; its entry -/
structure DC where
  G : Gm
  N : List Str
  sc : Scope
  r : Nat
  W : WX
  wd : Option Addr
  tb : Prop
  jv : Hp → Prop
  T0 : Hp
  H0 : Hp
  kx : Value → Prop
  df : Bool
  cq : Env → Prop
  stab : ∀ H H', jv H → (∀ a o, H a = some o → ¬ isLD o → H' a = some o) → jv H'
  hx : ∀ c σ T H, Step (fun a o => wd = some a ∨ (tb ∧ ∃ ps, o = .tbl ps)) T0 H0 T H → Ex T H → jv H → (∀ w, wd = some w → Wood H w) → kx c → W c none σ H
abbrev DC.mv (C : DC) : Addr → HO → Prop := fun a o => C.wd = some a ∨ (C.tb ∧ ∃ ps, o = .tbl ps)
abbrev DC.wv (C : DC) : Addr → Prop := fun a => C.wd = some a
/-- what the entry had there may change -/
abbrev DC.fr (C : DC) (p : Addr) : Prop := ∀ o, C.H0 p = some o → C.mv p o
theorem Cont.still {K : PySem.W.Frag} {T : Hp} {C : DC} {s : Slot} {o : HO} {p : Addr} (h : Cont K T s o) (n : ¬ C.wv p) : ¬ C.mv p o := fun z => z.elim n fun ⟨_, ps, e⟩ => by
  subst e
  cases s <;> exact h
theorem Cont.ntb {K : PySem.W.Frag} {T : Hp} {s : Slot} {o : HO} (h : Cont K T s o) : ntb o := fun ps e => by
  subst e
  cases s <;> exact h
theorem isLD.ntb {o : HO} (h : isLD o) : ntb o := fun ps e => by
  subst e
  exact h
theorem isLD.still {C : DC} {o : HO} {p : Addr} (h : isLD o) (n : ¬ C.wv p) : ¬ C.mv p o := fun z => z.elim n fun ⟨_, ps, e⟩ => by
  subst e
  exact h

structure EnvOk (C : DC) (σ : L2.St) (T H : Hp) (ρ : DEnv) : Prop where
  len : ρ.length = σ.length
  dat : ∀ (i : Nat) (x : Dat), ρ[i]? = some (some (.d x)) → ∃ v, σ[i]? = some (some v) ∧ Is C.G.K T v x
  own : ∀ (i : Nat) (s : Slot), ρ[i]? = some (some s) → s.own → ∃ (p : Addr) (o : HO), σ[i]? = some (some (V.ref p)) ∧ H p = some o ∧ Cont C.G.K T s o ∧ T p = none ∧ C.fr p ∧ ¬ C.wv p
  ap : ∀ (i j : Nat) (s u : Slot) (p : Addr), i ≠ j → ρ[i]? = some (some s) → ρ[j]? = some (some u) → s.own → u.own → σ[i]? = some (some (.ref p)) → σ[j]? ≠ some (some (.ref p))
structure DSt (C : DC) (σ : L2.St) (T H : Hp) (ρ : DEnv) : Prop where
  ex : Ex T H
  step : Step C.mv C.T0 C.H0 T H
  jv : C.jv H
  wd : ∀ w, C.wd = some w → Wood H w
  mt : ∀ a, C.wv a → T a = none
  tf : ∀ a ps, T a ≠ some (.tbl ps)
  env : EnvOk C σ T H ρ

section
variable {C : DC} {σ : L2.St} {T H T' H' : Hp} {ρ : DEnv}
theorem DSt.go (S : DSt C σ T H ρ) (e : Ex T' H') (st : Step C.mv T H T' H') (jv : C.jv H') (wd : ∀ w, C.wd = some w → Wood H' w) : DSt C σ T' H' ρ where
  ex := e
  step := S.step.trans st
  jv := jv
  wd := wd
  mt := fun a h => by
    obtain ⟨x, y, e⟩ := S.wd a h
    exact (st.f a _ e (isLD.ntb True.intro)).trans (S.mt a h)
  tf := fun a ps h => S.tf a ps (st.tt a ps h)
  env := ⟨S.env.len, fun i x h => let ⟨v, h1, h2⟩ := S.env.dat i x h; ⟨v, h1, h2.mono st.t⟩,
    fun i s h ho => by
      obtain ⟨p, o, h1, h2, h3, h4, h5, h6⟩ := S.env.own i s h ho
      exact ⟨p, o, h1, st.k p o h2 (h3.still h6), h3.mono st.t, (st.f p o h2 h3.ntb).trans h4, h5, h6⟩,
    S.env.ap⟩
theorem DSt.go0 (S : DSt C σ T H ρ) (e : Ex T' H') (st : Step mv0 T H T' H') : DSt C σ T' H' ρ :=
  S.go e st.up (C.stab H H' S.jv fun a o h _ => st.ex a o h) fun w h => by
    obtain ⟨a, b, z⟩ := S.wd w h
    exact ⟨a, b, st.ex _ _ z⟩
/-- a new thing, tracked and still -/
theorem DSt.new (S : DSt C σ T H ρ) {p : Addr} {o : HO} (h : H p = none) (ho : ∀ ps, o ≠ .tbl ps := by intro _ z; cases z) : DSt C σ (upd T p o) (upd H p o) ρ := S.go0 (ex_new S.ex) (Step.new S.ex h ho)
theorem DSt.newH (S : DSt C σ T H ρ) {p : Addr} {o : HO} (h : H p = none) : DSt C σ T (upd H p o) ρ := S.go0 (ex_newH S.ex h) (Step.newH h)
end

/-! ### judgements -/
section
variable (X : Cx)
structure WE (e : Expr) (σ : L2.St) (H : Hp) (Q : VK) : Prop where
  run : ∀ (pins : List (Addr × Obj)) (s : Shared), Inv X pins σ H s → wpAny (model X.prog X.w) X.A (eval e X.env) (EP X pins σ Q) X.xe s
structure WT (e : Expr) (σ : L2.St) (H : Hp) (Q : Bool → Hp → Prop) : Prop where
  run : ∀ (pins : List (Addr × Obj)) (s : Shared), Inv X pins σ H s → wpAny (model X.prog X.w) X.A (isTrue e X.env (eval e X.env)) (TP X pins σ Q) X.xe s
structure WA (es : List Expr) (σ : L2.St) (H : Hp) (Q : List V → Hp → Prop) : Prop where
  run : ∀ (pos : Pos) (pins : List (Addr × Obj)) (s : Shared), Inv X pins σ H s → wpAny (model X.prog X.w) X.A (spliced (backTo pos (starEach es X.env))) (AP X pins σ Q) X.xe s
structure WSs (st : List Stmt) (D : Ends) (σ : L2.St) (H : Hp) : Prop where
  run : ∀ (pins : List (Addr × Obj)) (s : Shared), Inv X pins σ H s → wpAny (model X.prog X.w) X.A (execs st X.env) (SP X pins D) X.xe s
end
section
variable {X : Cx} {e : Expr} {es : List Expr} {st : List Stmt} {σ : L2.St} {H : Hp}
theorem pe_we : PE X e (WE X e) := ⟨fun pins s σ H Q I h => h.run pins s I⟩
theorem pt_we : PT X e (WT X e) := ⟨fun pins s σ H Q I h => h.run pins s I⟩
theorem pa_we : PA X es (WA X es) := ⟨fun pos pins s σ H Q I h => h.run pos pins s I⟩
theorem ps_we : PSs X st (WSs X st) := ⟨fun pins s σ H D I h => h.run pins s I⟩
theorem we_of {t : TE} {Q : VK} (h : PE X e t) (q : t σ H Q) : WE X e σ H Q := ⟨fun pins s I => h.run pins s σ H Q I q⟩
theorem wt_of {t : TT} {Q : Bool → Hp → Prop} (h : PT X e t) (q : t σ H Q) : WT X e σ H Q := ⟨fun pins s I => h.run pins s σ H Q I q⟩
theorem wa_of {t : TA} {Q : List V → Hp → Prop} (h : PA X es t) (q : t σ H Q) : WA X es σ H Q := ⟨fun pos pins s I => h.run pos pins s σ H Q I q⟩
theorem ws_of {t : TS} {D : Ends} (h : PSs X st t) (q : t D σ H) : WSs X st D σ H := ⟨fun pins s I => h.run pins s σ H D I q⟩
end

structure Fx (C : DC) (X : Cx) : Prop where
  prog : X.prog = C.G.P
  wld : X.w = C.G.w
  K : X.K = C.G.K
  mg : X.mg = C.G.mg
  base : X.base = C.G.base
  N : X.N = C.N
  sc : X.env.scope = C.sc
  nd : C.N.Nodup
  calm : X.calm = true
  room : Room C.r X.A
  tk : L2N.Takes X C.W
  fn : C.df = true → ∀ x, X.fn x = true
  own : C.df = true → PassesOwn (model X.prog X.w) X.A X.env X.xe
  cq : C.cq X.env

def WD (C : DC) (e : Expr) (ρ : DEnv) (k : Dat → Prop) : Prop :=
  ∀ (X : Cx), Fx C X → ∀ (σ : L2.St) (T H : Hp) (Q : VK), DSt C σ T H ρ → (∀ v d T' H', DSt C σ T' H' ρ → Step C.mv T H T' H' → Is C.G.K T' v d → k d → Q v H') → WE X e σ H Q
def TD (C : DC) (e : Expr) (ρ : DEnv) (k : Bool → Prop) : Prop :=
  ∀ (X : Cx), Fx C X → ∀ (σ : L2.St) (T H : Hp) (Q : Bool → Hp → Prop), DSt C σ T H ρ → (∀ b T' H', DSt C σ T' H' ρ → Step C.mv T H T' H' → k b → Q b H') → WT X e σ H Q
def AD (C : DC) (es : List Expr) (ρ : DEnv) (k : List Dat → Prop) : Prop :=
  ∀ (X : Cx), Fx C X → ∀ (σ : L2.St) (T H : Hp) (Q : List V → Hp → Prop), DSt C σ T H ρ → (∀ vs ds T' H', DSt C σ T' H' ρ → Step C.mv T H T' H' → IsA C.G.K T' vs ds → k ds → Q vs H') → WA X es σ H Q
abbrev ED (C : DC) (e : Expr) (ρ : DEnv) (d : Dat) : Prop := WD C e ρ (fun x => x = d)
abbrev ET (C : DC) (e : Expr) (ρ : DEnv) (b : Bool) : Prop := TD C e ρ (fun x => x = b)
abbrev EA (C : DC) (es : List Expr) (ρ : DEnv) (ds : List Dat) : Prop := AD C es ρ (fun x => x = ds)

section
variable {C : DC} {e a b c : Expr} {es : List Expr} {ρ : DEnv} {pos : Pos}
theorem WD.mono {k k' : Dat → Prop} (h : WD C e ρ k) (m : ∀ d, k d → k' d) : WD C e ρ k' := fun X F σ T H Q S q => h X F σ T H Q S fun v d T' H' S' x i z => q v d T' H' S' x i (m d z)
theorem TD.mono {k k' : Bool → Prop} (h : TD C e ρ k) (m : ∀ d, k d → k' d) : TD C e ρ k' := fun X F σ T H Q S q => h X F σ T H Q S fun v T' H' S' x z => q v T' H' S' x (m v z)
theorem wd_of {k : Dat → Prop} {d : Dat} (h : ED C e ρ d) (q : k d) : WD C e ρ k := h.mono fun x z => by rw [z]; exact q
theorem td_of {k : Bool → Prop} {d : Bool} (h : ET C e ρ d) (q : k d) : TD C e ρ k := h.mono fun x z => by rw [z]; exact q
theorem ed_is {d d' : Dat} (h : ED C e ρ d) (q : d = d') : ED C e ρ d' := q ▸ h
theorem et_is {d d' : Bool} (h : ET C e ρ d) (q : d = d') : ET C e ρ d' := q ▸ h

/-! ### names, constants -/
theorem ed_int {i : Int} {j} : ED C (.Constant (.int i) j pos) ρ (.int i) := fun X F σ T H Q S q => we_of pe_int (q _ _ T H S Step.refl (.int i) rfl)
theorem ed_bl {i : Bool} {j} : ED C (.Constant (.bool i) j pos) ρ (.bl i) := fun X F σ T H Q S q => we_of pe_bl (q _ _ T H S Step.refl (.bl i) rfl)
theorem ed_str {i : Str} {j} : ED C (.Constant (.str i) j pos) ρ (.str i) := fun X F σ T H Q S q => we_of pe_str (q _ _ T H S Step.refl (.str i) rfl)
theorem ed_non {j} : ED C (.Constant .none j pos) ρ .non := fun X F σ T H Q S q => we_of pe_non (q _ _ T H S Step.refl .non rfl)
theorem ed_var (i : Nat) {x : Str} {d : Dat} (hi : C.N[i]? = some x) (hd : ρ[i]? = some (some (.d d))) (hv : Vis C.sc x)
    (h1 : (x == ("__debug__" : Str)) = false := by decide) (h2 : (x == ("__classdict__" : Str)) = false := by decide) : ED C (.Name x pos) ρ d := fun X F σ T H Q S q => by
  obtain ⟨v, e1, e2⟩ := S.env.dat i d hd
  exact we_of (pe_var (i := i) (by rw [F.N]; exact hi) (by rw [F.sc]; exact hv) h1 h2) ⟨v, e1, q v d T H S Step.refl e2 rfl⟩
/-- an argument list -/
theorem ea_nil : EA C [] ρ [] := fun X F σ T H Q S q => wa_of pa_nil (q _ _ T H S Step.refl .nil rfl)
theorem ad_nil {k : List Dat → Prop} (q : k []) : AD C [] ρ k := fun X F σ T H Q S z => wa_of pa_nil (z _ _ T H S Step.refl .nil q)
theorem ad_cons {k : List Dat → Prop} (h : WD C e ρ fun d => AD C es ρ fun ds => k (d :: ds)) (hs : ∀ env : Env, starEach (e :: es) env = (false, eval e env) :: starEach es env := by intro _; rfl) : AD C (e :: es) ρ k := fun X F σ T H Q S q =>
  wa_of (pa_cons pe_we pa_we (hs _)) (h X F σ T H _ S fun v d T1 H1 S1 x1 i1 k1 => k1 X F σ T1 H1 _ S1 fun vs ds T2 H2 S2 x2 i2 k2 => q (v :: vs) (d :: ds) T2 H2 S2 (x1.trans x2) (.cons (i1.mono x2.t) i2) k2)
theorem ea_cons {d : Dat} {ds : List Dat} (h : ED C e ρ d) (hr : EA C es ρ ds) (hs : ∀ env : Env, starEach (e :: es) env = (false, eval e env) :: starEach es env := by intro _; rfl) : EA C (e :: es) ρ (d :: ds) := by
  refine ad_cons (wd_of h ?_) hs
  intro X F σ T H Q S q
  refine hr X F σ T H Q S fun vs es T' H' S' x i z => q vs es T' H' S' x i ?_
  rw [z]
/-- displays -/
theorem wd_tup {k : Dat → Prop} {j} (h : AD C es ρ fun ds => ds.length ≤ 100000 ∧ k (.tup ds)) : WD C (.Tuple es j pos) ρ k := fun X F σ T H Q S q =>
  we_of (pe_tup pa_we) (h X F σ T H _ S fun vs ds T1 H1 S1 x1 i1 k1 => ⟨by rw [i1.length]; exact sz_of k1.1, fun p hp =>
    q _ _ _ _ (S1.new hp) (x1.trans (Step.new S1.ex hp)) (.tup (st_of upd_same) (i1.mono (Ex.new (free_sub S1.ex hp)))) k1.2⟩)
theorem wd_lst {k : Dat → Prop} (h : AD C es ρ fun ds => ds.length ≤ 100000 ∧ k (.lst ds)) : WD C (.List es pos) ρ k := fun X F σ T H Q S q =>
  we_of (pe_lst pa_we) (h X F σ T H _ S fun vs ds T1 H1 S1 x1 i1 k1 => ⟨by rw [i1.length]; exact sz_of k1.1, fun p hp =>
    q _ _ _ _ (S1.new hp) (x1.trans (Step.new S1.ex hp)) (.lst upd_same (i1.mono (Ex.new (free_sub S1.ex hp)))) k1.2⟩)
theorem ad_of {k : List Dat → Prop} {ds : List Dat} (h : EA C es ρ ds) (q : k ds) : AD C es ρ k := fun X F σ T H Q S z =>
  h X F σ T H Q S fun vs es T' H' S' x i e => z vs es T' H' S' x i (by rw [e]; exact q)
theorem ed_tup {ds : List Dat} {j} (h : EA C es ρ ds) (hl : ds.length ≤ 100000 := by first | decide | (simp; done) | (simp; omega)) : ED C (.Tuple es j pos) ρ (.tup ds) := wd_tup (ad_of h ⟨hl, rfl⟩)
theorem ed_lst {ds : List Dat} (h : EA C es ρ ds) (hl : ds.length ≤ 100000 := by first | decide | (simp; done) | (simp; omega)) : ED C (.List es pos) ρ (.lst ds) := wd_lst (ad_of h ⟨hl, rfl⟩)

/-! ### operators by values -/
theorem wd_bin {op : Operator} {r : Cx → R2} {k : Dat → Prop} (ho : ∀ X, Fx C X → OpR X (binaryOp op) (r X)) (h : WD C a ρ fun x => WD C b ρ fun y =>
      ∀ X, Fx C X → ∀ (σ : L2.St) (T H : Hp) (v w : V) (Q : VK), DSt C σ T H ρ → Is C.G.K T v x → Is C.G.K T w y → (∀ v d T' H', DSt C σ T' H' ρ → Step C.mv T H T' H' → Is C.G.K T' v d → k d → Q v H') → r X v w H Q) : WD C (.BinOp a op b pos) ρ k := fun X F σ T H Q S q =>
  we_of (pe_op (ho X F) pe_we pe_we) (h X F σ T H _ S fun v d T1 H1 S1 x1 i1 k1 => k1 X F σ T1 H1 _ S1 fun w d2 T2 H2 S2 x2 i2 k2 =>
    k2 X F σ T2 H2 v w Q S2 (i1.mono x2.t) i2 fun u d3 T3 H3 S3 x3 i3 k3 => q u d3 T3 H3 S3 ((x1.trans x2).trans x3) i3 k3)
theorem wd_cmp {op : CmpOp} {r : Cx → R2} {k : Dat → Prop} (ho : ∀ X, Fx C X → OpR X (compareOp op) (r X)) (hm : behindInMarks op b = false) (h : WD C a ρ fun x => WD C b ρ fun y =>
      ∀ X, Fx C X → ∀ (σ : L2.St) (T H : Hp) (v w : V) (Q : VK), DSt C σ T H ρ → Is C.G.K T v x → Is C.G.K T w y → (∀ v d T' H', DSt C σ T' H' ρ → Step C.mv T H T' H' → Is C.G.K T' v d → k d → Q v H') → r X v w H Q) : WD C (.Compare a [op] [b] pos) ρ k := fun X F σ T H Q S q =>
  we_of (pe_cmpR (ho X F) pe_we pe_we hm) (h X F σ T H _ S fun v d T1 H1 S1 x1 i1 k1 => k1 X F σ T1 H1 _ S1 fun w d2 T2 H2 S2 x2 i2 k2 =>
    k2 X F σ T2 H2 v w Q S2 (i1.mono x2.t) i2 fun u d3 T3 H3 S3 x3 i3 k3 => q u d3 T3 H3 S3 ((x1.trans x2).trans x3) i3 k3)
theorem td_cmp {op : CmpOp} {r : Cx → R2} {k : Bool → Prop} (ho : ∀ X, Fx C X → OpR X (compareOp op) (r X)) (hm : behindInMarks op b = false) (h : WD C a ρ fun x => WD C b ρ fun y =>
      ∀ X, Fx C X → ∀ (σ : L2.St) (T H : Hp) (v w : V) (Q : VK), DSt C σ T H ρ → Is C.G.K T v x → Is C.G.K T w y → (∀ b T' H', DSt C σ T' H' ρ → Step C.mv T H T' H' → k b → Q (.bl b) H') → r X v w H Q) : TD C (.Compare a [op] [b] pos) ρ k := fun X F σ T H Q S q =>
  wt_of (pt_cmpR (ho X F) pe_we pe_we hm) (h X F σ T H _ S fun v d T1 H1 S1 x1 i1 k1 => k1 X F σ T1 H1 _ S1 fun w d2 T2 H2 S2 x2 i2 k2 =>
    k2 X F σ T2 H2 v w _ S2 (i1.mono x2.t) i2 fun u T3 H3 S3 x3 k3 => ⟨u, rfl, q u T3 H3 S3 ((x1.trans x2).trans x3) k3⟩)
end
end DL

end
section
/-! The data layer: operators, comparisons, tests, items, slices. -/
namespace DL
open PySem PySem.Spec PyProof.Rows L2 Evl

/-! ### equal data -/
mutual
def deq : Dat → Dat → Bool
  | .non, .non => true
  | .bl a, .bl b => a == b
  | .int i, .int j => i == j
  | .str x, .str y => x == y
  | .lst xs, .lst ys => deqs xs ys
  | .tup xs, .tup ys => deqs xs ys
  | .ro xs, .ro ys => deqs xs ys
  | .fn a, .fn b => a == b
  | _, _ => false
def deqs : List Dat → List Dat → Bool
  | [], [] => true
  | x :: xs, y :: ys => deq x y && deqs xs ys
  | _, _ => false
end
mutual
theorem deq_iff : ∀ d e : Dat, deq d e = true ↔ d = e
  | .non, e => by cases e <;> simp [deq]
  | .bl a, e => by cases e <;> simp [deq]
  | .int a, e => by cases e <;> simp [deq]
  | .str a, e => by cases e <;> simp [deq]
  | .fn a, e => by cases e <;> simp [deq]
  | .lst xs, e => by cases e <;> simp [deq, deqs_iff xs]
  | .tup xs, e => by cases e <;> simp [deq, deqs_iff xs]
  | .ro xs, e => by cases e <;> simp [deq, deqs_iff xs]
theorem deqs_iff : ∀ ds es : List Dat, deqs ds es = true ↔ ds = es
  | [], e => by cases e <;> simp [deqs]
  | d :: ds, e => by
    cases e with
    | nil => simp [deqs]
    | cons e es => simp [deqs, deq_iff d e, deqs_iff ds es]
end
instance : DecidableEq Dat := fun d e => if h : deq d e = true then .isTrue ((deq_iff d e).mp h) else .isFalse fun z => h ((deq_iff d e).mpr z)
theorem deq_eq (d e : Dat) : deq d e = decide (d = e) := by
  rw [Bool.eq_iff_iff]
  simp [deq_iff]
mutual
def toP : Dat → PyData
  | .non => .none
  | .bl b => .bool b
  | .int i => .int i
  | .str x => .str x
  | .lst xs => .list (toPs xs)
  | .tup xs => .tuple (toPs xs)
  | .ro xs => .list (toPs xs)
  | .fn _ => .none
def toPs : List Dat → List PyData
  | [] => []
  | d :: ds => toP d :: toPs ds
end
/-- data that == tells apart as they are: no bools, no objects, not deep -/
def sm : Nat → Dat → Bool
  | _, .non => true
  | _, .int _ => true
  | _, .str x => x.cps.all (· < 0x110000)
  | n + 1, .lst xs => xs.all (sm n)
  | n + 1, .tup xs => xs.all (sm n)
  | _, _ => false
theorem sm_lay : ∀ (n : Nat) (d : Dat), sm n d = true → (toP d).canLay0 = true ∧ (toP d).depth ≤ n
  | 0, .non, _ => by simp [toP, PyData.canLay0, PyData.depth]
  | 0, .int _, _ => by simp [toP, PyData.canLay0, PyData.depth]
  | 0, .str x, h => by
    have h' : x.cps.all (· < 0x110000) = true := by simpa only [sm] using h
    refine ⟨?_, by simp [toP, PyData.depth]⟩
    simp only [toP, PyData.canLay0]
    exact h'
  | 0, .bl _, h => by simp [sm] at h
  | 0, .fn _, h => by simp [sm] at h
  | 0, .lst _, h => by simp [sm] at h
  | 0, .tup _, h => by simp [sm] at h
  | 0, .ro _, h => by simp [sm] at h
  | n + 1, .non, _ => by simp [toP, PyData.canLay0, PyData.depth]
  | n + 1, .int _, _ => by simp [toP, PyData.canLay0, PyData.depth]
  | n + 1, .str x, h => by
    have h' : x.cps.all (· < 0x110000) = true := by simpa only [sm] using h
    refine ⟨?_, by simp [toP, PyData.depth]⟩
    simp only [toP, PyData.canLay0]
    exact h'
  | n + 1, .bl _, h => by simp [sm] at h
  | n + 1, .fn _, h => by simp [sm] at h
  | n + 1, .ro _, h => by simp [sm] at h
  | n + 1, .lst xs, h => by
    have h' : xs.all (sm n) = true := by simpa only [sm] using h
    have q : PyData.canLayAll0 (toPs xs) = true ∧ PyData.depthAll (toPs xs) ≤ n := by
      clear h
      induction xs with
      | nil => simp [toPs, PyData.canLayAll0, PyData.depthAll]
      | cons d ds ih =>
        rw [List.all_cons, Bool.and_eq_true] at h'
        have a := sm_lay n d h'.1
        have b := ih h'.2
        simp only [toPs, PyData.canLayAll0, PyData.depthAll, a.1, b.1, Bool.and_self, true_and]
        exact Nat.max_le.mpr ⟨a.2, b.2⟩
    simp only [toP, PyData.canLay0, PyData.depth]
    exact ⟨q.1, by omega⟩
  | n + 1, .tup xs, h => by
    have h' : xs.all (sm n) = true := by simpa only [sm] using h
    have q : PyData.canLayAll0 (toPs xs) = true ∧ PyData.depthAll (toPs xs) ≤ n := by
      clear h
      induction xs with
      | nil => simp [toPs, PyData.canLayAll0, PyData.depthAll]
      | cons d ds ih =>
        rw [List.all_cons, Bool.and_eq_true] at h'
        have a := sm_lay n d h'.1
        have b := ih h'.2
        simp only [toPs, PyData.canLayAll0, PyData.depthAll, a.1, b.1, Bool.and_self, true_and]
        exact Nat.max_le.mpr ⟨a.2, b.2⟩
    simp only [toP, PyData.canLay0, PyData.depth]
    exact ⟨q.1, by omega⟩
theorem sm_shaped {n : Nat} {d : Dat} (h : sm n d = true) (hn : n ≤ 64) : SeqAt.shaped (toP d) = true := by
  obtain ⟨a, b⟩ := sm_lay n d h
  unfold SeqAt.shaped
  rw [a, Bool.true_and]
  exact decide_eq_true (by omega)
theorem sm_leaf {n : Nat} {xs : List Dat} (h : sm n (.lst xs) = true) : ∃ m, n = m + 1 ∧ xs.all (sm m) = true := by
  cases n with
  | zero => simp [sm] at h
  | succ m => exact ⟨m, rfl, by simpa only [sm] using h⟩
theorem sm_leafT {n : Nat} {xs : List Dat} (h : sm n (.tup xs) = true) : ∃ m, n = m + 1 ∧ xs.all (sm m) = true := by
  cases n with
  | zero => simp [sm] at h
  | succ m => exact ⟨m, rfl, by simpa only [sm] using h⟩
mutual
theorem sm_eqv : ∀ (d e : Dat) (n m : Nat), sm n d = true → sm m e = true → PyData.eqv (toP d) (toP e) = deq d e
  | .non, e, n, m, _, h => by cases e <;> first | (simp [toP, PyData.eqv, deq]; done) | (cases m <;> simp [sm] at h)
  | .int i, e, n, m, _, h => by cases e <;> first | (simp [toP, PyData.eqv, deq]; done) | (cases m <;> simp [sm] at h)
  | .str i, e, n, m, _, h => by cases e <;> first | (simp [toP, PyData.eqv, deq]; done) | (cases m <;> simp [sm] at h)
  | .bl _, _, n, _, h, _ => by cases n <;> simp [sm] at h
  | .fn _, _, n, _, h, _ => by cases n <;> simp [sm] at h
  | .ro _, _, n, _, h, _ => by cases n <;> simp [sm] at h
  | .lst xs, e, n, m, h1, h2 => by
    cases e with
    | lst ys =>
      obtain ⟨n', _, a⟩ := sm_leaf h1
      obtain ⟨m', _, b⟩ := sm_leaf h2
      simp only [toP, PyData.eqv, deq]
      exact sms_eqv xs ys n' m' a b
    | bl _ => cases m <;> simp [sm] at h2
    | fn _ => cases m <;> simp [sm] at h2
    | ro _ => cases m <;> simp [sm] at h2
    | _ => simp [toP, PyData.eqv, deq]
  | .tup xs, e, n, m, h1, h2 => by
    cases e with
    | tup ys =>
      obtain ⟨n', _, a⟩ := sm_leafT h1
      obtain ⟨m', _, b⟩ := sm_leafT h2
      simp only [toP, PyData.eqv, deq]
      exact sms_eqv xs ys n' m' a b
    | bl _ => cases m <;> simp [sm] at h2
    | fn _ => cases m <;> simp [sm] at h2
    | ro _ => cases m <;> simp [sm] at h2
    | _ => simp [toP, PyData.eqv, deq]
theorem sms_eqv : ∀ (ds es : List Dat) (n m : Nat), ds.all (sm n) = true → es.all (sm m) = true → PyData.eqvAll (toPs ds) (toPs es) = deqs ds es
  | [], [], _, _, _, _ => by simp [toPs, PyData.eqvAll, deqs]
  | [], _ :: _, _, _, _, _ => by simp [toPs, PyData.eqvAll, deqs]
  | _ :: _, [], _, _, _, _ => by simp [toPs, PyData.eqvAll, deqs]
  | d :: ds, e :: es, n, m, h1, h2 => by
    rw [List.all_cons, Bool.and_eq_true] at h1 h2
    simp only [toPs, PyData.eqvAll, deqs]
    rw [sm_eqv d e n m h1.1 h2.1, sms_eqv ds es n m h1.2 h2.2]
end
section
variable {K : PySem.W.Frag} {T H : Hp}
mutual
theorem Is.dp (e : Ex T H) : ∀ {v : V} {d : Dat} {n : Nat}, Is K T v d → sm n d = true → Dp K H v (toP d)
  | _, _, _, .non, _ => by simp only [toP]; exact .non
  | _, _, _, .int i, _ => by simp only [toP]; exact .int i
  | _, _, _, .str i, _ => by simp only [toP]; exact .str i
  | _, _, n, .bl _, h => by cases n <;> simp [sm] at h
  | _, _, n, .fn _, h => by cases n <;> simp [sm] at h
  | _, _, n, .ro _ _, h => by cases n <;> simp [sm] at h
  | _, _, _, .lst h a, z => by
    obtain ⟨m, _, b⟩ := sm_leaf z
    simp only [toP]
    exact .lst (sq_of (e _ _ h)) (IsA.dp e a b)
  | _, _, _, .tup h a, z => by
    obtain ⟨m, _, b⟩ := sm_leafT z
    simp only [toP]
    exact .tup (ex_t e h) (IsA.dp e a b)
theorem IsA.dp (e : Ex T H) : ∀ {vs : List V} {ds : List Dat} {n : Nat}, IsA K T vs ds → ds.all (sm n) = true → DpAll K H vs (toPs ds)
  | _, _, _, .nil, _ => by simp only [toPs]; exact .nil
  | _, _, _, .cons h a, z => by
    rw [List.all_cons, Bool.and_eq_true] at z
    simp only [toPs]
    exact .cons (Is.dp e h z.1) (IsA.dp e a z.2)
end
end
theorem any_eqv (d : Dat) (m : Nat) (hd : sm m d = true) : ∀ (n : Nat) (ds : List Dat), ds.all (sm n) = true → ((toPs ds).any fun z => PyData.eqv z (toP d)) = ds.any fun z => decide (z = d)
  | _, [], _ => by simp [toPs]
  | n, e :: es, h => by
    rw [List.all_cons, Bool.and_eq_true] at h
    simp only [toPs, List.any_cons]
    rw [sm_eqv e d n m h.1 hd, any_eqv d m hd n es h.2, deq_eq]

section
variable {C : DC} {e a b c : Expr} {es : List Expr} {ρ : DEnv} {pos : Pos}
theorem units64 {X : Cx} (F : Fx C X) : X.A.units + 64 < cLine := F.room.units
theorem units65 {X : Cx} (F : Fx C X) : X.A.units + 65 < cLine := by have := F.room.un; omega

/-! ### ints -/
theorem ed_binI {op : Operator} {Cn : Int → Int → Prop} {g : Int → Int → Int} {i j : Int} (ho : ∀ X : Cx, OpR X (binaryOp op) (rI Cn fun i j => V.int (g i j))) (ha : ED C a ρ (.int i)) (hb : ED C b ρ (.int j)) (hc : Cn i j) : ED C (.BinOp a op b pos) ρ (.int (g i j)) := by
  refine wd_bin (r := fun _ => rI Cn fun i j => V.int (g i j)) (fun X _ => ho X) (wd_of ha (wd_of hb ?_))
  intro X F σ T H v w Q S iv iw q
  cases iv
  cases iw
  exact ⟨i, j, rfl, rfl, hc, q _ _ T H S Step.refl (.int _) rfl⟩
theorem ed_binI0 {op : Operator} {g : Int → Int → Int} {i j : Int} (ho : ∀ X : Cx, OpR X (binaryOp op) (rI0 fun i j => V.int (g i j))) (ha : ED C a ρ (.int i)) (hb : ED C b ρ (.int j)) : ED C (.BinOp a op b pos) ρ (.int (g i j)) := by
  refine wd_bin (r := fun _ => rI0 fun i j => V.int (g i j)) (fun X _ => ho X) (wd_of ha (wd_of hb ?_))
  intro X F σ T H v w Q S iv iw q
  cases iv
  cases iw
  exact ⟨i, j, rfl, rfl, q _ _ T H S Step.refl (.int _) rfl⟩
theorem ed_add {i j : Int} (ha : ED C a ρ (.int i)) (hb : ED C b ρ (.int j)) : ED C (.BinOp a .Add b pos) ρ (.int (i + j)) := ed_binI0 (g := fun i j => i + j) (fun X => op_add) ha hb
theorem ed_sub {i j : Int} (ha : ED C a ρ (.int i)) (hb : ED C b ρ (.int j)) : ED C (.BinOp a .Sub b pos) ρ (.int (i - j)) := ed_binI0 (g := fun i j => i - j) (fun X => op_sub) ha hb
theorem ed_mul {i j : Int} (ha : ED C a ρ (.int i)) (hb : ED C b ρ (.int j)) (h : (-(2 ^ 64) < i ∧ i < 2 ^ 64) ∨ (-(2 ^ 64) < j ∧ j < 2 ^ 64)) : ED C (.BinOp a .Mult b pos) ρ (.int (i * j)) := ed_binI (g := fun i j => i * j) (fun X => op_mul) ha hb h
theorem ed_mulW {i j : Int} {m n : Nat} (ha : ED C a ρ (.int i)) (hb : ED C b ρ (.int j)) (h1 : i.natAbs < 2 ^ m) (h2 : j.natAbs < 2 ^ n) (h3 : 0 < m) (h4 : 0 < n) (h5 : m + n ≤ 1000000) : ED C (.BinOp a .Mult b pos) ρ (.int (i * j)) :=
  ed_binI (g := fun i j => i * j) (fun X => op_mulW) ha hb (wide_mul h1 h2 h3 h4 h5)
theorem ed_div {i j : Int} (ha : ED C a ρ (.int i)) (hb : ED C b ρ (.int j)) (h : 0 < j ∧ j < 1073741824) : ED C (.BinOp a .FloorDiv b pos) ρ (.int (i / j)) := ed_binI (g := fun i j => i / j) (fun X => op_fdiv) ha hb h
theorem ed_divW {i j : Int} {n : Nat} (ha : ED C a ρ (.int i)) (hb : ED C b ρ (.int j)) (h : 0 < j) (h1 : j.natAbs < 2 ^ n) (h2 : 0 < n) (h3 : n ≤ 9000) : ED C (.BinOp a .FloorDiv b pos) ρ (.int (i / j)) :=
  ed_binI (g := fun i j => i / j) (fun X => op_fdivW) ha hb (wide_div h h1 h2 h3)
theorem ed_mod {i j : Int} (ha : ED C a ρ (.int i)) (hb : ED C b ρ (.int j)) (h : 0 < j) : ED C (.BinOp a .Mod b pos) ρ (.int (i % j)) := ed_binI (g := fun i j => i % j) (fun X => op_mod) ha hb h
theorem ed_pow {i j : Int} (ha : ED C a ρ (.int i)) (hb : ED C b ρ (.int j)) (h : 0 ≤ j ∧ j ≤ 1000000 ∧ i.natAbs < 2 ^ 64) : ED C (.BinOp a .Pow b pos) ρ (.int (i ^ j.toNat)) := ed_binI (g := fun i j => i ^ j.toNat) (fun X => op_pow) ha hb h
theorem ed_neg {i : Int} (ha : ED C a ρ (.int i)) : ED C (.UnaryOp .USub a pos) ρ (.int (-i)) := fun X F σ T H Q S q =>
  we_of (pe_un un_neg pe_we) (ha X F σ T H _ S fun v d T1 H1 S1 x1 i1 k1 => by
    subst k1
    cases i1
    exact ⟨i, rfl, q _ _ T1 H1 S1 x1 (.int _) rfl⟩)

/-! ### comparisons: as values ed_, as tests et_ -/
theorem ed_cmpI {op : CmpOp} {g : Int → Int → Bool} {i j : Int} (ho : ∀ X : Cx, OpR X (compareOp op) (rI0 fun i j => V.bl (g i j))) (hm : behindInMarks op b = false) (ha : ED C a ρ (.int i)) (hb : ED C b ρ (.int j)) : ED C (.Compare a [op] [b] pos) ρ (.bl (g i j)) := by
  refine wd_cmp (r := fun _ => rI0 fun i j => V.bl (g i j)) (fun X _ => ho X) hm (wd_of ha (wd_of hb ?_))
  intro X F σ T H v w Q S iv iw q
  cases iv
  cases iw
  exact ⟨i, j, rfl, rfl, q _ _ T H S Step.refl (.bl _) rfl⟩
theorem et_cmpI {op : CmpOp} {g : Int → Int → Bool} {i j : Int} (ho : ∀ X : Cx, OpR X (compareOp op) (rI0 fun i j => V.bl (g i j))) (hm : behindInMarks op b = false) (ha : ED C a ρ (.int i)) (hb : ED C b ρ (.int j)) : ET C (.Compare a [op] [b] pos) ρ (g i j) := by
  refine td_cmp (r := fun _ => rI0 fun i j => V.bl (g i j)) (fun X _ => ho X) hm (wd_of ha (wd_of hb ?_))
  intro X F σ T H v w Q S iv iw q
  cases iv
  cases iw
  exact ⟨i, j, rfl, rfl, q _ T H S Step.refl rfl⟩
theorem ed_lt {i j : Int} (ha : ED C a ρ (.int i)) (hb : ED C b ρ (.int j)) : ED C (.Compare a [.Lt] [b] pos) ρ (.bl (decide (i < j))) := ed_cmpI (g := fun i j => decide (i < j)) (fun X => op_lt) (nomark _) ha hb
theorem et_lt {i j : Int} (ha : ED C a ρ (.int i)) (hb : ED C b ρ (.int j)) : ET C (.Compare a [.Lt] [b] pos) ρ (decide (i < j)) := et_cmpI (g := fun i j => decide (i < j)) (fun X => op_lt) (nomark _) ha hb
theorem ed_le {i j : Int} (ha : ED C a ρ (.int i)) (hb : ED C b ρ (.int j)) : ED C (.Compare a [.LtE] [b] pos) ρ (.bl (decide (i ≤ j))) := ed_cmpI (g := fun i j => decide (i ≤ j)) (fun X => op_le) (nomark _) ha hb
theorem et_le {i j : Int} (ha : ED C a ρ (.int i)) (hb : ED C b ρ (.int j)) : ET C (.Compare a [.LtE] [b] pos) ρ (decide (i ≤ j)) := et_cmpI (g := fun i j => decide (i ≤ j)) (fun X => op_le) (nomark _) ha hb
theorem et_gt {i j : Int} (ha : ED C a ρ (.int i)) (hb : ED C b ρ (.int j)) : ET C (.Compare a [.Gt] [b] pos) ρ (decide (j < i)) := et_cmpI (g := fun i j => decide (j < i)) (fun X => op_gt) (nomark _) ha hb
theorem et_ge {i j : Int} (ha : ED C a ρ (.int i)) (hb : ED C b ρ (.int j)) : ET C (.Compare a [.GtE] [b] pos) ρ (decide (j ≤ i)) := et_cmpI (g := fun i j => decide (j ≤ i)) (fun X => op_ge) (nomark _) ha hb
/-- == and != of data -/
theorem ed_eq {d d' : Dat} (ha : ED C a ρ d) (hb : ED C b ρ d') (h1 : sm 8 d = true) (h2 : sm 8 d' = true) : ED C (.Compare a [.Eq] [b] pos) ρ (.bl (decide (d = d'))) := by
  refine wd_cmp (r := fun X => rEqD X.K) (fun X F => op_eqD (units64 F)) (nomark _) (wd_of ha (wd_of hb ?_))
  intro X F σ T H v w Q S iv iw q
  show rEqD X.K _ _ _ _
  rw [F.K]
  refine ⟨toP d, toP d', iv.dp S.ex h1, iw.dp S.ex h2, sm_shaped h1 (by decide), sm_shaped h2 (by decide), ?_⟩
  rw [sm_eqv d d' 8 8 h1 h2, deq_eq]
  exact q _ _ T H S Step.refl (.bl _) rfl
theorem et_eq {d d' : Dat} (ha : ED C a ρ d) (hb : ED C b ρ d') (h1 : sm 8 d = true) (h2 : sm 8 d' = true) : ET C (.Compare a [.Eq] [b] pos) ρ (decide (d = d')) := by
  refine td_cmp (r := fun X => rEqD X.K) (fun X F => op_eqD (units64 F)) (nomark _) (wd_of ha (wd_of hb ?_))
  intro X F σ T H v w Q S iv iw q
  show rEqD X.K _ _ _ _
  rw [F.K]
  refine ⟨toP d, toP d', iv.dp S.ex h1, iw.dp S.ex h2, sm_shaped h1 (by decide), sm_shaped h2 (by decide), ?_⟩
  rw [sm_eqv d d' 8 8 h1 h2, deq_eq]
  exact q _ T H S Step.refl rfl
theorem ed_ne {d d' : Dat} (ha : ED C a ρ d) (hb : ED C b ρ d') (h1 : sm 8 d = true) (h2 : sm 8 d' = true) : ED C (.Compare a [.NotEq] [b] pos) ρ (.bl (!decide (d = d'))) := by
  refine wd_cmp (r := fun X => rNeD X.K) (fun X F => op_neD (units64 F)) (nomark _) (wd_of ha (wd_of hb ?_))
  intro X F σ T H v w Q S iv iw q
  show rNeD X.K _ _ _ _
  rw [F.K]
  refine ⟨toP d, toP d', iv.dp S.ex h1, iw.dp S.ex h2, sm_shaped h1 (by decide), sm_shaped h2 (by decide), ?_⟩
  rw [sm_eqv d d' 8 8 h1 h2, deq_eq]
  exact q _ _ T H S Step.refl (.bl _) rfl
theorem et_ne {d d' : Dat} (ha : ED C a ρ d) (hb : ED C b ρ d') (h1 : sm 8 d = true) (h2 : sm 8 d' = true) : ET C (.Compare a [.NotEq] [b] pos) ρ (!decide (d = d')) := by
  refine td_cmp (r := fun X => rNeD X.K) (fun X F => op_neD (units64 F)) (nomark _) (wd_of ha (wd_of hb ?_))
  intro X F σ T H v w Q S iv iw q
  show rNeD X.K _ _ _ _
  rw [F.K]
  refine ⟨toP d, toP d', iv.dp S.ex h1, iw.dp S.ex h2, sm_shaped h1 (by decide), sm_shaped h2 (by decide), ?_⟩
  rw [sm_eqv d d' 8 8 h1 h2, deq_eq]
  exact q _ T H S Step.refl rfl
/-- of bools -/
theorem et_neB {d d' : Bool} (ha : ED C a ρ (.bl d)) (hb : ED C b ρ (.bl d')) : ET C (.Compare a [.NotEq] [b] pos) ρ (!decide (d = d')) := by
  refine td_cmp (r := fun X => rNe) (fun X F => op_ne) (nomark _) (wd_of ha (wd_of hb ?_))
  intro X F σ T H v w Q S iv iw q
  cases iv
  cases iw
  refine ⟨rfl, ?_⟩
  have e : decide (V.bl d = V.bl d') = decide (d = d') := by
    rw [Bool.eq_iff_iff]
    simp
  rw [e]
  exact q _ T H S Step.refl rfl
def isNon : Dat → Bool
  | .non => true
  | _ => false
theorem isNon_V {K : PySem.W.Frag} {T : Hp} {v : V} {d : Dat} (h : Is K T v d) : decide (v = V.non) = isNon d := by cases h <;> simp [isNon]
theorem ed_isN {d : Dat} {j p2} (ha : ED C a ρ d) : ED C (.Compare a [.Is] [.Constant .none j p2] pos) ρ (.bl (isNon d)) := by
  refine wd_cmp (r := fun X => fun x y H Q => y = .non ∧ Q (.bl (decide (x = .non))) H) (fun X F => op_isN) (nomark _) (wd_of ha (wd_of ed_non ?_))
  intro X F σ T H v w Q S iv iw q
  cases iw
  refine ⟨rfl, ?_⟩
  rw [isNon_V iv]
  exact q _ _ T H S Step.refl (.bl _) rfl
theorem et_isN {d : Dat} {j p2} (ha : ED C a ρ d) : ET C (.Compare a [.Is] [.Constant .none j p2] pos) ρ (isNon d) := by
  refine td_cmp (r := fun X => fun x y H Q => y = .non ∧ Q (.bl (decide (x = .non))) H) (fun X F => op_isN) (nomark _) (wd_of ha (wd_of ed_non ?_))
  intro X F σ T H v w Q S iv iw q
  cases iw
  refine ⟨rfl, ?_⟩
  rw [isNon_V iv]
  exact q _ T H S Step.refl rfl
theorem et_notN {d : Dat} {j p2} (ha : ED C a ρ d) : ET C (.Compare a [.IsNot] [.Constant .none j p2] pos) ρ (!isNon d) := by
  refine td_cmp (r := fun X => fun x y H Q => y = .non ∧ Q (.bl (!decide (x = .non))) H) (fun X F => op_notN) (nomark _) (wd_of ha (wd_of ed_non ?_))
  intro X F σ T H v w Q S iv iw q
  cases iw
  refine ⟨rfl, ?_⟩
  rw [isNon_V iv]
  exact q _ T H S Step.refl rfl
/-- d in a list, a tuple of data -/
def rInP (K : PySem.W.Frag) : R2 := fun x y H Q => ∃ d ds, Dp K H x d ∧ (Dp K H y (.list ds) ∨ Dp K H y (.tuple ds)) ∧ SeqAt.shaped d = true ∧ PyData.canLayAll0 ds = true ∧ Q (.bl (ds.any fun z => PyData.eqv z d)) H
theorem op_inP {X : Cx} (hu : X.A.units + 65 < cLine) : OpR X (compareOp .In) (rInP X.K) := by
  intro pins s σ H x y v u Q I rx ry h
  obtain ⟨d, ds, hd, he, sd, se, q⟩ := h
  obtain ⟨as, r1⟩ := Dp.reads I d x v hd rx
  have room : X.A.units + 1 + min (PyData.depthAll ds) d.depth < cLine := by
    have h1 := SeqAt.depth_of_shaped sd
    omega
  rcases he with he | he
  · obtain ⟨bs, r2⟩ := Dp.reads I _ y u he ry
    exact SeqAt.in_list_reads r2 r1 se (SeqAt.canLay_of_shaped sd) room ⟨.bl _, H, I, rfl, q⟩
  · obtain ⟨bs, r2⟩ := Dp.reads I _ y u he ry
    exact SeqAt.in_tuple_reads r2 r1 se (SeqAt.canLay_of_shaped sd) room ⟨.bl _, H, I, rfl, q⟩
theorem sms_lay {n : Nat} {ds : List Dat} (h : ds.all (sm n) = true) : PyData.canLayAll0 (toPs ds) = true := by
  have q := (sm_lay (n + 1) (.lst ds) (by simpa only [sm] using h)).1
  simpa only [toP, PyData.canLay0] using q
theorem et_inT {d : Dat} {ds : List Dat} (ha : ED C a ρ d) (hb : ED C b ρ (.tup ds)) (h1 : sm 8 d = true) (h2 : ds.all (sm 8) = true) (hm : behindInMarks .In b = false := by rfl) : ET C (.Compare a [.In] [b] pos) ρ (ds.any fun z => decide (z = d)) := by
  refine td_cmp (r := fun X => rInP X.K) (fun X F => op_inP (units65 F)) hm (wd_of ha (wd_of hb ?_))
  intro X F σ T H v w Q S iv iw q
  show rInP X.K _ _ _ _
  rw [F.K]
  have z : Dp C.G.K H w (.tuple (toPs ds)) := by
    have z := iw.dp (n := 9) S.ex (by simpa only [sm] using h2)
    simpa only [toP] using z
  refine ⟨toP d, toPs ds, iv.dp S.ex h1, .inr z, sm_shaped h1 (by decide), sms_lay h2, ?_⟩
  rw [any_eqv d 8 h1 8 ds h2]
  exact q _ T H S Step.refl rfl
theorem ed_inT {d : Dat} {ds : List Dat} (ha : ED C a ρ d) (hb : ED C b ρ (.tup ds)) (h1 : sm 8 d = true) (h2 : ds.all (sm 8) = true) (hm : behindInMarks .In b = false := by rfl) : ED C (.Compare a [.In] [b] pos) ρ (.bl (ds.any fun z => decide (z = d))) := by
  refine wd_cmp (r := fun X => rInP X.K) (fun X F => op_inP (units65 F)) hm (wd_of ha (wd_of hb ?_))
  intro X F σ T H v w Q S iv iw q
  show rInP X.K _ _ _ _
  rw [F.K]
  have z : Dp C.G.K H w (.tuple (toPs ds)) := by
    have z := iw.dp (n := 9) S.ex (by simpa only [sm] using h2)
    simpa only [toP] using z
  refine ⟨toP d, toPs ds, iv.dp S.ex h1, .inr z, sm_shaped h1 (by decide), sms_lay h2, ?_⟩
  rw [any_eqv d 8 h1 8 ds h2]
  exact q _ _ T H S Step.refl (.bl _) rfl
theorem ed_inL {d : Dat} {ds : List Dat} (ha : ED C a ρ d) (hb : ED C b ρ (.lst ds)) (h1 : sm 8 d = true) (h2 : ds.all (sm 8) = true) (hm : behindInMarks .In b = false := by rfl) : ED C (.Compare a [.In] [b] pos) ρ (.bl (ds.any fun z => decide (z = d))) := by
  refine wd_cmp (r := fun X => rInP X.K) (fun X F => op_inP (units65 F)) hm (wd_of ha (wd_of hb ?_))
  intro X F σ T H v w Q S iv iw q
  show rInP X.K _ _ _ _
  rw [F.K]
  have z : Dp C.G.K H w (.list (toPs ds)) := by
    have z := iw.dp (n := 9) S.ex (by simpa only [sm] using h2)
    simpa only [toP] using z
  refine ⟨toP d, toPs ds, iv.dp S.ex h1, .inl z, sm_shaped h1 (by decide), sms_lay h2, ?_⟩
  rw [any_eqv d 8 h1 8 ds h2]
  exact q _ _ T H S Step.refl (.bl _) rfl

/-! ### tests -/
theorem et_val {d : Bool} (ha : ED C a ρ (.bl d)) (he : ∀ (env : Env) (whole : Sem Value), isTrue a env whole = (do let v ← whole; standAt a.pos; holding [v] (truthy v)) := by intro _ _; rfl) : ET C a ρ d := fun X F σ T H Q S q =>
  wt_of (pt_val pe_we (he _)) (ha X F σ T H _ S fun v d' T1 H1 S1 x1 i1 k1 => by
    subst k1
    cases i1
    exact ⟨d, rfl, q d T1 H1 S1 x1 rfl⟩)
theorem td_val {k : Bool → Prop} (ha : WD C a ρ fun x => ∃ d, x = .bl d ∧ k d) (he : ∀ (env : Env) (whole : Sem Value), isTrue a env whole = (do let v ← whole; standAt a.pos; holding [v] (truthy v)) := by intro _ _; rfl) : TD C a ρ k := fun X F σ T H Q S q =>
  wt_of (pt_val pe_we (he _)) (ha X F σ T H _ S fun v d' T1 H1 S1 x1 i1 k1 => by
    obtain ⟨d, rfl, k2⟩ := k1
    cases i1
    exact ⟨d, rfl, q d T1 H1 S1 x1 k2⟩)
theorem et_not {x : Bool} (ha : ET C a ρ x) : ET C (.UnaryOp .Not a pos) ρ (!x) := fun X F σ T H Q S q =>
  wt_of (pt_not pt_we) (ha X F σ T H _ S fun v T1 H1 S1 x1 k1 => q _ T1 H1 S1 x1 (by rw [k1]))
theorem td_not {k : Bool → Prop} (ha : TD C a ρ fun x => k (!x)) : TD C (.UnaryOp .Not a pos) ρ k := fun X F σ T H Q S q =>
  wt_of (pt_not pt_we) (ha X F σ T H _ S fun v T1 H1 S1 x1 k1 => q _ T1 H1 S1 x1 k1)
theorem td_and2 {k : Bool → Prop} (h : TD C a ρ fun x => (x = true → TD C b ρ k) ∧ (x = false → k false)) : TD C (.BoolOp .And [a, b] pos) ρ k := fun X F σ T H Q S q =>
  wt_of (PW.pt (pw_and pt_we (pw_and1 pt_we))) (h X F σ T H _ S fun v T1 H1 S1 x1 k1 => by
    cases v with
    | true => exact iteT (k1.1 rfl X F σ T1 H1 _ S1 fun w T2 H2 S2 x2 k2 => q w T2 H2 S2 (x1.trans x2) k2)
    | false => exact iteF (q false T1 H1 S1 x1 (k1.2 rfl)))
theorem td_or2 {k : Bool → Prop} (h : TD C a ρ fun x => (x = false → TD C b ρ k) ∧ (x = true → k true)) : TD C (.BoolOp .Or [a, b] pos) ρ k := fun X F σ T H Q S q =>
  wt_of (PW.pt (pw_or pt_we (pw_or1 pt_we))) (h X F σ T H _ S fun v T1 H1 S1 x1 k1 => by
    cases v with
    | false => exact iteF (k1.1 rfl X F σ T1 H1 _ S1 fun w T2 H2 S2 x2 k2 => q w T2 H2 S2 (x1.trans x2) k2)
    | true => exact iteT (q true T1 H1 S1 x1 (k1.2 rfl)))
theorem td_and3 {k : Bool → Prop} (h : TD C a ρ fun x => (x = true → TD C b ρ fun y => (y = true → TD C c ρ k) ∧ (y = false → k false)) ∧ (x = false → k false)) : TD C (.BoolOp .And [a, b, c] pos) ρ k := fun X F σ T H Q S q =>
  wt_of (PW.pt (pw_and pt_we (pw_and pt_we (pw_and1 pt_we)))) (h X F σ T H _ S fun v T1 H1 S1 x1 k1 => by
    cases v with
    | true => exact iteT (k1.1 rfl X F σ T1 H1 _ S1 fun w T2 H2 S2 x2 k2 => by
        cases w with
        | true => exact iteT (k2.1 rfl X F σ T2 H2 _ S2 fun w T3 H3 S3 x3 k3 => q w T3 H3 S3 ((x1.trans x2).trans x3) k3)
        | false => exact iteF (q false T2 H2 S2 (x1.trans x2) (k2.2 rfl)))
    | false => exact iteF (q false T1 H1 S1 x1 (k1.2 rfl)))
theorem td_or3 {k : Bool → Prop} (h : TD C a ρ fun x => (x = false → TD C b ρ fun y => (y = false → TD C c ρ k) ∧ (y = true → k true)) ∧ (x = true → k true)) : TD C (.BoolOp .Or [a, b, c] pos) ρ k := fun X F σ T H Q S q =>
  wt_of (PW.pt (pw_or pt_we (pw_or pt_we (pw_or1 pt_we)))) (h X F σ T H _ S fun v T1 H1 S1 x1 k1 => by
    cases v with
    | false => exact iteF (k1.1 rfl X F σ T1 H1 _ S1 fun w T2 H2 S2 x2 k2 => by
        cases w with
        | false => exact iteF (k2.1 rfl X F σ T2 H2 _ S2 fun w T3 H3 S3 x3 k3 => q w T3 H3 S3 ((x1.trans x2).trans x3) k3)
        | true => exact iteT (q true T2 H2 S2 (x1.trans x2) (k2.2 rfl)))
    | true => exact iteT (q true T1 H1 S1 x1 (k1.2 rfl)))
theorem et_and {x y : Bool} (ha : ET C a ρ x) (hb : x = true → ET C b ρ y) : ET C (.BoolOp .And [a, b] pos) ρ (x && y) :=
  td_and2 (td_of ha ⟨fun h => (hb h).mono fun z e => by rw [e, h, Bool.true_and], fun h => by rw [h, Bool.false_and]⟩)
theorem et_or {x y : Bool} (ha : ET C a ρ x) (hb : x = false → ET C b ρ y) : ET C (.BoolOp .Or [a, b] pos) ρ (x || y) :=
  td_or2 (td_of ha ⟨fun h => (hb h).mono fun z e => by rw [e, h, Bool.false_or], fun h => by rw [h, Bool.true_or]⟩)
theorem et_and3 {x y z : Bool} (ha : ET C a ρ x) (hb : x = true → ET C b ρ y) (hc : x = true → y = true → ET C c ρ z) : ET C (.BoolOp .And [a, b, c] pos) ρ (x && (y && z)) :=
  td_and3 (td_of ha ⟨fun h => td_of (hb h) ⟨fun h' => (hc h h').mono fun z e => by rw [e, h, h', Bool.true_and, Bool.true_and], fun h' => by rw [h', Bool.false_and, Bool.and_false]⟩, fun h => by rw [h, Bool.false_and]⟩)
theorem et_or3 {x y z : Bool} (ha : ET C a ρ x) (hb : x = false → ET C b ρ y) (hc : x = false → y = false → ET C c ρ z) : ET C (.BoolOp .Or [a, b, c] pos) ρ (x || (y || z)) :=
  td_or3 (td_of ha ⟨fun h => td_of (hb h) ⟨fun h' => (hc h h').mono fun z e => by rw [e, h, h', Bool.false_or, Bool.false_or], fun h' => by rw [h', Bool.true_or, Bool.or_true]⟩, fun h => by rw [h, Bool.true_or]⟩)
/-- .. as values -/
theorem wd_and2 {k : Dat → Prop} (h : WD C a ρ fun x => ∃ p, x = .bl p ∧ (p = true → WD C b ρ k) ∧ (p = false → k (.bl false))) : WD C (.BoolOp .And [a, b] pos) ρ k := fun X F σ T H Q S q =>
  we_of (pe_and pe_we (pe_one pe_we)) (h X F σ T H _ S fun v d T1 H1 S1 x1 i1 k1 => by
    obtain ⟨p, rfl, h1, h2⟩ := k1
    cases i1
    refine ⟨p, rfl, ?_⟩
    cases p with
    | true => exact iteT (h1 rfl X F σ T1 H1 _ S1 fun w d T2 H2 S2 x2 i2 k2 => q w d T2 H2 S2 (x1.trans x2) i2 k2)
    | false => exact iteF (q _ _ T1 H1 S1 x1 (.bl false) (h2 rfl)))
theorem wd_or2 {k : Dat → Prop} (h : WD C a ρ fun x => ∃ p, x = .bl p ∧ (p = false → WD C b ρ k) ∧ (p = true → k (.bl true))) : WD C (.BoolOp .Or [a, b] pos) ρ k := fun X F σ T H Q S q =>
  we_of (pe_or pe_we (pe_one pe_we)) (h X F σ T H _ S fun v d T1 H1 S1 x1 i1 k1 => by
    obtain ⟨p, rfl, h1, h2⟩ := k1
    cases i1
    refine ⟨p, rfl, ?_⟩
    cases p with
    | false => exact iteF (h1 rfl X F σ T1 H1 _ S1 fun w d T2 H2 S2 x2 i2 k2 => q w d T2 H2 S2 (x1.trans x2) i2 k2)
    | true => exact iteT (q _ _ T1 H1 S1 x1 (.bl true) (h2 rfl)))
theorem wd_and3 {k : Dat → Prop} (h : WD C a ρ fun x => ∃ p, x = .bl p ∧ (p = true → WD C b ρ fun y => ∃ p, y = .bl p ∧ (p = true → WD C c ρ k) ∧ (p = false → k (.bl false))) ∧ (p = false → k (.bl false))) : WD C (.BoolOp .And [a, b, c] pos) ρ k := fun X F σ T H Q S q =>
  we_of (pe_and pe_we (pe_and pe_we (pe_one pe_we))) (h X F σ T H _ S fun v d T1 H1 S1 x1 i1 k1 => by
    obtain ⟨p, rfl, h1, h2⟩ := k1
    cases i1
    refine ⟨p, rfl, ?_⟩
    cases p with
    | true => exact iteT (h1 rfl X F σ T1 H1 _ S1 fun w d T2 H2 S2 x2 i2 k2 => by
        obtain ⟨p, rfl, h3, h4⟩ := k2
        cases i2
        refine ⟨p, rfl, ?_⟩
        cases p with
        | true => exact iteT (h3 rfl X F σ T2 H2 _ S2 fun w d T3 H3 S3 x3 i3 k3 => q w d T3 H3 S3 ((x1.trans x2).trans x3) i3 k3)
        | false => exact iteF (q _ _ T2 H2 S2 (x1.trans x2) (.bl false) (h4 rfl)))
    | false => exact iteF (q _ _ T1 H1 S1 x1 (.bl false) (h2 rfl)))
theorem ed_and {x y : Bool} (ha : ED C a ρ (.bl x)) (hb : x = true → ED C b ρ (.bl y)) : ED C (.BoolOp .And [a, b] pos) ρ (.bl (x && y)) :=
  wd_and2 (wd_of ha ⟨x, rfl, fun h => (hb h).mono fun z e => by rw [e, h, Bool.true_and], fun h => by rw [h, Bool.false_and]⟩)
theorem ed_or {x y : Bool} (ha : ED C a ρ (.bl x)) (hb : x = false → ED C b ρ (.bl y)) : ED C (.BoolOp .Or [a, b] pos) ρ (.bl (x || y)) :=
  wd_or2 (wd_of ha ⟨x, rfl, fun h => (hb h).mono fun z e => by rw [e, h, Bool.false_or], fun h => by rw [h, Bool.true_or]⟩)
theorem ed_and3 {x y z : Bool} (ha : ED C a ρ (.bl x)) (hb : x = true → ED C b ρ (.bl y)) (hc : x = true → y = true → ED C c ρ (.bl z)) : ED C (.BoolOp .And [a, b, c] pos) ρ (.bl (x && (y && z))) :=
  wd_and3 (wd_of ha ⟨x, rfl, fun h => wd_of (hb h) ⟨y, rfl, fun h' => (hc h h').mono fun z e => by rw [e, h, h', Bool.true_and, Bool.true_and], fun h' => by rw [h', Bool.false_and, Bool.and_false]⟩, fun h => by rw [h, Bool.false_and]⟩)
theorem ed_not {x : Bool} (ha : ED C a ρ (.bl x)) : ED C (.UnaryOp .Not a pos) ρ (.bl (!x)) := fun X F σ T H Q S q =>
  we_of (pe_not pe_we) (ha X F σ T H _ S fun v d T1 H1 S1 x1 i1 k1 => by
    subst k1
    cases i1
    exact ⟨x, rfl, q _ _ T1 H1 S1 x1 (.bl _) rfl⟩)
/-- a if c else b -/
theorem wd_if {k : Dat → Prop} (h : TD C c ρ fun x => (x = true → WD C a ρ k) ∧ (x = false → WD C b ρ k)) : WD C (.IfExp c a b pos) ρ k := fun X F σ T H Q S q =>
  we_of (pe_ifExp pt_we pe_we pe_we) (h X F σ T H _ S fun v T1 H1 S1 x1 k1 => by
    cases v with
    | true => exact iteT (k1.1 rfl X F σ T1 H1 _ S1 fun w d T2 H2 S2 x2 i2 k2 => q w d T2 H2 S2 (x1.trans x2) i2 k2)
    | false => exact iteF (k1.2 rfl X F σ T1 H1 _ S1 fun w d T2 H2 S2 x2 i2 k2 => q w d T2 H2 S2 (x1.trans x2) i2 k2))
theorem ed_if {x : Bool} {d d' : Dat} (h : ET C c ρ x) (h1 : x = true → ED C a ρ d) (h2 : x = false → ED C b ρ d') : ED C (.IfExp c a b pos) ρ (if x = true then d else d') :=
  wd_if (td_of h ⟨fun e => (h1 e).mono fun z q => by rw [q, if_pos e], fun e => (h2 e).mono fun z q => by rw [q, e, if_neg Bool.false_ne_true]⟩)
theorem ed_ifT {x : Bool} {d : Dat} (h : ET C c ρ x) (e : x = true) (h1 : ED C a ρ d) : ED C (.IfExp c a b pos) ρ d :=
  wd_if (td_of h ⟨fun _ => h1, fun e' => (by rw [e] at e'; cases e')⟩)
theorem ed_ifF {x : Bool} {d : Dat} (h : ET C c ρ x) (e : x = false) (h1 : ED C b ρ d) : ED C (.IfExp c a b pos) ρ d :=
  wd_if (td_of h ⟨fun e' => (by rw [e] at e'; cases e'), fun _ => h1⟩)
/-- chains a <= b <= c -/
theorem ed_leLe {i j l : Int} (ha : ED C a ρ (.int i)) (hb : ED C b ρ (.int j)) (hc : ED C c ρ (.int l)) (hm : lastMarks [CmpOp.LtE, CmpOp.LtE] [b, c] = false := by with_unfolding_all rfl) : ED C (.Compare a [.LtE, .LtE] [b, c] pos) ρ (.bl (decide (i ≤ j) && decide (j ≤ l))) := fun X F σ T H Q S q =>
  we_of (pe_chain op_le op_le pe_we pe_we pe_we hm) (ha X F σ T H _ S fun v d T1 H1 S1 x1 i1 k1 => by
    subst k1
    cases i1
    refine hb X F σ T1 H1 _ S1 fun w d T2 H2 S2 x2 i2 k2 => ?_
    subst k2
    cases i2
    refine ⟨i, j, rfl, rfl, decide (i ≤ j), rfl, ?_⟩
    cases hx : decide (i ≤ j) with
    | false =>
      refine iteF (q _ _ T2 H2 S2 (x1.trans x2) (.bl false) ?_)
      rw [hx, Bool.false_and]
    | true =>
      refine iteT (hc X F σ T2 H2 _ S2 fun u d T3 H3 S3 x3 i3 k3 => ?_)
      subst k3
      cases i3
      refine ⟨j, l, rfl, rfl, q _ _ T3 H3 S3 ((x1.trans x2).trans x3) (.bl _) ?_⟩
      rw [hx, Bool.true_and])
theorem et_leLe {i j l : Int} (ha : ED C a ρ (.int i)) (hb : ED C b ρ (.int j)) (hc : ED C c ρ (.int l)) (hm : lastMarks [CmpOp.LtE, CmpOp.LtE] [b, c] = false := by with_unfolding_all rfl) : ET C (.Compare a [.LtE, .LtE] [b, c] pos) ρ (decide (i ≤ j) && decide (j ≤ l)) := fun X F σ T H Q S q =>
  wt_of (pt_chain op_le op_le pe_we pe_we pe_we hm) (ha X F σ T H _ S fun v d T1 H1 S1 x1 i1 k1 => by
    subst k1
    cases i1
    refine hb X F σ T1 H1 _ S1 fun w d T2 H2 S2 x2 i2 k2 => ?_
    subst k2
    cases i2
    refine ⟨i, j, rfl, rfl, decide (i ≤ j), rfl, ?_⟩
    cases hx : decide (i ≤ j) with
    | false =>
      refine iteF ⟨false, rfl, q _ T2 H2 S2 (x1.trans x2) ?_⟩
      rw [hx, Bool.false_and]
    | true =>
      refine iteT (hc X F σ T2 H2 _ S2 fun u d T3 H3 S3 x3 i3 k3 => ?_)
      subst k3
      cases i3
      refine ⟨j, l, rfl, rfl, _, rfl, q _ T3 H3 S3 ((x1.trans x2).trans x3) ?_⟩
      rw [hx, Bool.true_and])
end
end DL

end
section
/-! The data layer: items, slices, sums of lists and tuples, built-ins. -/
namespace DL
open PySem PySem.Spec PyProof.Rows L2 Evl

theorem atI_is {K : PySem.W.Frag} {T : Hp} {vs : List V} {ds : List Dat} {i : Int} {d : Dat} (h : IsA K T vs ds) (e : atI ds i = some d) : ∃ v, atI vs i = some v ∧ Is K T v d := by
  unfold atI at e ⊢
  rw [h.length]
  cases q : ixN ds.length i with
  | none => rw [q] at e; cases e
  | some j =>
    rw [q] at e
    exact h.at (i := j) e
def cutL {α : Type} (xs : List α) (lo hi : Option Int) : List α := (xs.drop (HT.sIx xs.length 0 lo)).take (HT.sIx xs.length xs.length hi - HT.sIx xs.length 0 lo)
theorem cut_is {K : PySem.W.Frag} {T : Hp} {vs : List V} {ds : List Dat} {lo hi : Option Int} (h : IsA K T vs ds) : IsA K T (cutV vs lo hi) (cutL ds lo hi) := by
  unfold cutV cutL
  rw [h.length]
  exact (h.drop _).take _
theorem cut_whole {α : Type} {xs : List α} {lo hi : Option Int} (h : HT.sIx xs.length 0 lo = 0 ∧ HT.sIx xs.length xs.length hi = xs.length) : cutL xs lo hi = xs := by
  unfold cutL
  rw [h.1, h.2, Nat.sub_zero, List.drop_zero, List.take_length]
theorem cutL_take {α : Type} (xs : List α) (k : Nat) : cutL xs none (some (k : Int)) = xs.take k := by
  unfold cutL
  rw [HT.sIx_none, HT.sIx_nat, List.drop_zero, Nat.sub_zero]
  by_cases h : k ≤ xs.length
  · rw [Nat.min_eq_left h]
  · rw [Nat.min_eq_right (by omega), List.take_length, List.take_of_length_le (by omega)]
theorem cutL_drop {α : Type} (xs : List α) (k : Nat) : cutL xs (some (k : Int)) none = xs.drop k := by
  unfold cutL
  rw [HT.sIx_none, HT.sIx_nat]
  by_cases h : k ≤ xs.length
  · rw [Nat.min_eq_left h, List.take_of_length_le (by rw [List.length_drop]; omega)]
  · rw [Nat.min_eq_right (by omega), List.drop_eq_nil_of_le (Nat.le_refl _), List.drop_eq_nil_of_le (by omega), List.take_nil]
theorem cutL_mid {α : Type} (xs : List α) (j k : Nat) (h : j ≤ k) : cutL xs (some (j : Int)) (some (k : Int)) = (xs.drop j).take (k - j) := by
  unfold cutL
  rw [HT.sIx_nat, HT.sIx_nat]
  by_cases hj : j ≤ xs.length
  · rw [Nat.min_eq_left hj]
    by_cases hk : k ≤ xs.length
    · rw [Nat.min_eq_left hk]
    · rw [Nat.min_eq_right (by omega), List.take_of_length_le (by rw [List.length_drop]; omega), List.take_of_length_le (by rw [List.length_drop]; omega)]
  · rw [Nat.min_eq_right (by omega : xs.length ≤ j), List.drop_eq_nil_of_le (Nat.le_refl _), List.drop_eq_nil_of_le (by omega : xs.length ≤ j), List.take_nil, List.take_nil]

section
variable {C : DC} {e a b c : Expr} {es : List Expr} {ρ : DEnv} {pos p2 : Pos}
/-! ### items -/
theorem wd_ix {r : Cx → R2} {k : Dat → Prop} (ho : ∀ X, Fx C X → IxR X (r X)) (h : WD C a ρ fun x => WD C b ρ fun y =>
      ∀ X, Fx C X → ∀ (σ : L2.St) (T H : Hp) (v w : V) (Q : VK), DSt C σ T H ρ → Is C.G.K T v x → Is C.G.K T w y → (∀ v d T' H', DSt C σ T' H' ρ → Step C.mv T H T' H' → Is C.G.K T' v d → k d → Q v H') → r X v w H Q)
    (hs : PlainIx b := by intro _ _; rfl) : WD C (.Subscript a b pos) ρ k := fun X F σ T H Q S q =>
  we_of (pe_ix (ho X F) pe_we pe_we hs) (h X F σ T H _ S fun v d T1 H1 S1 x1 i1 k1 => k1 X F σ T1 H1 _ S1 fun w d2 T2 H2 S2 x2 i2 k2 =>
    k2 X F σ T2 H2 v w Q S2 (i1.mono x2.t) i2 fun u d3 T3 H3 S3 x3 i3 k3 => q u d3 T3 H3 S3 ((x1.trans x2).trans x3) i3 k3)
theorem ed_ixT {ds : List Dat} {i : Int} {d : Dat} (ha : ED C a ρ (.tup ds)) (hb : ED C b ρ (.int i)) (h : atI ds i = some d) (hs : PlainIx b := by intro _ _; rfl) : ED C (.Subscript a b pos) ρ d := by
  refine wd_ix (r := fun X => rIxT X.K) (fun X _ => ix_tup) (wd_of ha (wd_of hb ?_)) hs
  intro X F σ T H v w Q S iv iw q
  show rIxT X.K _ _ _ _
  rw [F.K]
  cases iw
  cases iv with
  | tup hq hA =>
    obtain ⟨v, h1, h2⟩ := atI_is hA h
    exact ⟨_, _, i, v, rfl, rfl, ex_t S.ex hq, h1, q _ _ T H S Step.refl h2 rfl⟩
theorem ed_ixL {ds : List Dat} {i : Int} {d : Dat} (ha : ED C a ρ (.lst ds)) (hb : ED C b ρ (.int i)) (h : atI ds i = some d) (hs : PlainIx b := by intro _ _; rfl) : ED C (.Subscript a b pos) ρ d := by
  refine wd_ix (r := fun X => rIxL X.K) (fun X _ => ix_list) (wd_of ha (wd_of hb ?_)) hs
  intro X F σ T H v w Q S iv iw q
  show rIxL X.K _ _ _ _
  rw [F.K]
  cases iw
  cases iv with
  | lst hq hA =>
    obtain ⟨v, h1, h2⟩ := atI_is hA h
    exact ⟨_, _, i, v, rfl, rfl, sq_of (S.ex _ _ hq), h1, q _ _ T H S Step.refl h2 rfl⟩
theorem ed_ixR {ds : List Dat} {i : Int} {d : Dat} (ha : ED C a ρ (.ro ds)) (hb : ED C b ρ (.int i)) (h : atI ds i = some d) (hs : PlainIx b := by intro _ _; rfl) : ED C (.Subscript a b pos) ρ d := by
  refine wd_ix (r := fun X => rIxL X.K) (fun X _ => ix_list) (wd_of ha (wd_of hb ?_)) hs
  intro X F σ T H v w Q S iv iw q
  show rIxL X.K _ _ _ _
  rw [F.K]
  cases iw
  cases iv with
  | ro hq hA =>
    obtain ⟨v, h1, h2⟩ := atI_is hA h
    exact ⟨_, _, i, v, rfl, rfl, ex_l S.ex hq, h1, q _ _ T H S Step.refl h2 rfl⟩
/-- things[wood drawn]: which item is not told -/
theorem wd_ixT {ds : List Dat} {k : Dat → Prop} (ha : ED C a ρ (.tup ds)) (hb : WD C b ρ fun y => ∃ i d, y = .int i ∧ atI ds i = some d ∧ k d) (hs : PlainIx b := by intro _ _; rfl) : WD C (.Subscript a b pos) ρ k := by
  refine wd_ix (r := fun X => rIxT X.K) (fun X _ => ix_tup) (wd_of ha (hb.mono ?_)) hs
  rintro y ⟨i, d, rfl, h, kd⟩
  intro X F σ T H v w Q S iv iw q
  show rIxT X.K _ _ _ _
  rw [F.K]
  cases iw
  cases iv with
  | tup hq hA =>
    obtain ⟨v, h1, h2⟩ := atI_is hA h
    exact ⟨_, _, i, v, rfl, rfl, ex_t S.ex hq, h1, q _ _ T H S Step.refl h2 kd⟩
theorem wd_ixL {ds : List Dat} {k : Dat → Prop} (ha : ED C a ρ (.lst ds)) (hb : WD C b ρ fun y => ∃ i d, y = .int i ∧ atI ds i = some d ∧ k d) (hs : PlainIx b := by intro _ _; rfl) : WD C (.Subscript a b pos) ρ k := by
  refine wd_ix (r := fun X => rIxL X.K) (fun X _ => ix_list) (wd_of ha (hb.mono ?_)) hs
  rintro y ⟨i, d, rfl, h, kd⟩
  intro X F σ T H v w Q S iv iw q
  show rIxL X.K _ _ _ _
  rw [F.K]
  cases iw
  cases iv with
  | lst hq hA =>
    obtain ⟨v, h1, h2⟩ := atI_is hA h
    exact ⟨_, _, i, v, rfl, rfl, sq_of (S.ex _ _ hq), h1, q _ _ T H S Step.refl h2 kd⟩
/-! ### slices -/
def OD (C : DC) (e : Option Expr) (ρ : DEnv) (o : Option Int) : Prop := match e, o with
  | none, none => True
  | some e, some i => ED C e ρ (.int i)
  | _, _ => False
structure WO (X : Cx) (e : Option Expr) (σ : L2.St) (H : Hp) (Q : Option Int → Hp → Prop) : Prop where
  run : ∀ (pins : List (Addr × Obj)) (s : Shared), Inv X pins σ H s → wpAny (model X.prog X.w) X.A (evalPart e X.env) (fun u s' => ∃ o H', Inv X pins σ H' s' ∧ IsPart u o ∧ Q o H') X.xe s
theorem po_we {X : Cx} {e : Option Expr} : PO X e (WO X e) := ⟨fun pins s σ H Q I h => h.run pins s I⟩
theorem wo_of {X : Cx} {e : Option Expr} {t : TO} {σ : L2.St} {H : Hp} {Q : Option Int → Hp → Prop} (h : PO X e t) (q : t σ H Q) : WO X e σ H Q := ⟨fun pins s I => h.run pins s σ H Q I q⟩
theorem od_go {e : Option Expr} {o : Option Int} (h : OD C e ρ o) {X : Cx} (F : Fx C X) {σ : L2.St} {T H : Hp} {Q : Option Int → Hp → Prop} (S : DSt C σ T H ρ) (q : ∀ T' H', DSt C σ T' H' ρ → Step C.mv T H T' H' → Q o H') : WO X e σ H Q := by
  cases e with
  | none =>
    cases o with
    | none => exact wo_of po_none (q T H S Step.refl)
    | some _ => exact (show False from h).elim
  | some e =>
    cases o with
    | none => exact (show False from h).elim
    | some i =>
      exact wo_of (po_some pe_we) ((show ED C e ρ (.int i) from h) X F σ T H _ S fun v d T1 H1 S1 x1 i1 k1 => by
        subst k1
        cases i1
        exact ⟨i, rfl, q T1 H1 S1 x1⟩)
theorem ed_slT {ds : List Dat} {lo hi : Option Expr} {l h : Option Int} (ha : ED C a ρ (.tup ds)) (hl : OD C lo ρ l) (hh : OD C hi ρ h) : ED C (.Subscript a (.Slice lo hi none p2) pos) ρ (.tup (cutL ds l h)) := fun X F σ T H Q S q =>
  we_of (pe_slice sl_tupA pe_we po_we po_we) (ha X F σ T H _ S fun v d T1 H1 S1 x1 i1 k1 => by
    subst k1
    refine od_go hl F S1 fun T2 H2 S2 x2 => od_go hh F S2 fun T3 H3 S3 x3 => ?_
    have x13 := (x1.trans x2).trans x3
    cases i1 with
    | tup hq hA =>
      show rSlA X.K _ _ _ _ _
      rw [F.K]
      have hA3 := hA.mono (x2.trans x3).t
      refine ⟨_, _, rfl, ex_t S3.ex (ex_t (x2.trans x3).t hq), fun hw => ?_, fun _ p hp => ?_⟩
      · refine q _ _ T3 H3 S3 x13 (.tup (ex_t (x2.trans x3).t hq) hA3) ?_
        rw [cut_whole (by rw [← hA.length]; exact hw)]
      · exact q _ _ _ _ (S3.new hp) (x13.trans (Step.new S3.ex hp)) (.tup (st_of upd_same) (cut_is (hA3.mono (Ex.new (free_sub S3.ex hp))))) rfl)
theorem ed_slL {ds : List Dat} {lo hi : Option Expr} {l h : Option Int} (ha : ED C a ρ (.lst ds)) (hl : OD C lo ρ l) (hh : OD C hi ρ h) : ED C (.Subscript a (.Slice lo hi none p2) pos) ρ (.lst (cutL ds l h)) := fun X F σ T H Q S q =>
  we_of (pe_slice sl_list pe_we po_we po_we) (ha X F σ T H _ S fun v d T1 H1 S1 x1 i1 k1 => by
    subst k1
    refine od_go hl F S1 fun T2 H2 S2 x2 => od_go hh F S2 fun T3 H3 S3 x3 => ?_
    have x13 := (x1.trans x2).trans x3
    cases i1 with
    | lst hq hA =>
      show rSlL X.K _ _ _ _ _
      rw [F.K]
      have hA3 := hA.mono (x2.trans x3).t
      refine ⟨_, _, rfl, sq_of (S3.ex _ _ ((x2.trans x3).t _ _ hq)), fun p hp => ?_⟩
      exact q _ _ _ _ (S3.new hp) (x13.trans (Step.new S3.ex hp)) (.lst upd_same (cut_is (hA3.mono (Ex.new (free_sub S3.ex hp))))) rfl)
theorem ed_revL {ds : List Dat} {k : Nat} {q1 q2 q3 : Pos} (ha : ED C a ρ (.lst ds)) : ED C (.Subscript a (.Slice none none (some (.UnaryOp .USub (.Constant (.int 1) k q1) q2)) q3) pos) ρ (.lst ds.reverse) := fun X F σ T H Q S q =>
  we_of (pe_revL pe_we) (ha X F σ T H _ S fun v d T1 H1 S1 x1 i1 k1 => by
    subst k1
    cases i1 with
    | lst hq hA =>
      rw [F.K]
      refine ⟨_, _, rfl, sq_of (S1.ex _ _ hq), fun p hp => ?_⟩
      exact q _ _ _ _ (S1.new hp) (x1.trans (Step.new S1.ex hp)) (.lst upd_same ((hA.mono (Ex.new (free_sub S1.ex hp))).reverse)) rfl)
/-! ### + and * -/
theorem wd_catT {k : Dat → Prop} (h : WD C a ρ fun x => WD C b ρ fun y => ∃ ds es, x = .tup ds ∧ y = .tup es ∧ ds.length + es.length ≤ 100000 ∧ k (.tup (ds ++ es))) : WD C (.BinOp a .Add b pos) ρ k := by
  refine wd_bin (r := fun X => rCatA X.K) (fun X _ => op_catA) (h.mono fun x hx => hx.mono ?_)
  rintro y ⟨ds, es, rfl, rfl, hz, kd⟩
  intro X F σ T H v w Q S iv iw q
  show rCatA X.K _ _ _ _
  rw [F.K]
  cases iv with
  | tup hq hA =>
    cases iw with
    | tup hr hB =>
      refine ⟨_, _, _, _, rfl, rfl, ex_t S.ex hq, ex_t S.ex hr, by rw [hA.length, hB.length]; exact sz_of hz, fun e => ?_, fun _ e => ?_, fun _ _ p hp => ?_⟩
      · subst e
        cases hA
        exact q _ _ T H S Step.refl (.tup hr hB) kd
      · subst e
        cases hB
        rw [List.append_nil] at kd
        exact q _ _ T H S Step.refl (.tup hq hA) kd
      · exact q _ _ _ _ (S.new hp) (Step.new S.ex hp) (.tup (st_of upd_same) ((hA.append hB).mono (Ex.new (free_sub S.ex hp)))) kd
theorem ed_catT {ds es : List Dat} (ha : ED C a ρ (.tup ds)) (hb : ED C b ρ (.tup es)) (hz : ds.length + es.length ≤ 100000) : ED C (.BinOp a .Add b pos) ρ (.tup (ds ++ es)) :=
  wd_catT (wd_of ha (wd_of hb ⟨ds, es, rfl, rfl, hz, rfl⟩))
theorem wd_catL {k : Dat → Prop} (h : WD C a ρ fun x => WD C b ρ fun y => ∃ ds es, x = .lst ds ∧ y = .lst es ∧ ds.length + es.length ≤ 100000 ∧ k (.lst (ds ++ es))) : WD C (.BinOp a .Add b pos) ρ k := by
  refine wd_bin (r := fun X => rCat) (fun X _ => op_cat) (h.mono fun x hx => hx.mono ?_)
  rintro y ⟨ds, es, rfl, rfl, hz, kd⟩
  intro X F σ T H v w Q S iv iw q
  cases iv with
  | lst hq hA =>
    cases iw with
    | lst hr hB =>
      refine ⟨_, _, _, _, rfl, rfl, S.ex _ _ hq, S.ex _ _ hr, by rw [hA.length, hB.length]; exact sz_of hz, fun p hp => ?_⟩
      exact q _ _ _ _ (S.new hp) (Step.new S.ex hp) (.lst upd_same ((hA.append hB).mono (Ex.new (free_sub S.ex hp)))) kd
theorem ed_catL {ds es : List Dat} (ha : ED C a ρ (.lst ds)) (hb : ED C b ρ (.lst es)) (hz : ds.length + es.length ≤ 100000) : ED C (.BinOp a .Add b pos) ρ (.lst (ds ++ es)) :=
  wd_catL (wd_of ha (wd_of hb ⟨ds, es, rfl, rfl, hz, rfl⟩))
theorem ed_repL {ds : List Dat} {n : Int} (ha : ED C a ρ (.lst ds)) (hb : ED C b ρ (.int n)) (h1 : -(2 ^ 63) ≤ n ∧ n < 2 ^ 63) (hz : ds.length * n.toNat ≤ 100000) : ED C (.BinOp a .Mult b pos) ρ (.lst (List.replicate n.toNat ds).flatten) := by
  refine wd_bin (r := fun X => rRep) (fun X _ => op_rep) (wd_of ha (wd_of hb ?_))
  intro X F σ T H v w Q S iv iw q
  cases iw
  cases iv with
  | lst hq hA =>
    refine ⟨_, _, _, rfl, rfl, S.ex _ _ hq, h1.1, h1.2, by rw [hA.length]; exact sz_of hz, fun p hp => ?_⟩
    exact q _ _ _ _ (S.new hp) (Step.new S.ex hp) (.lst upd_same ((hA.mono (Ex.new (free_sub S.ex hp))).rep _)) rfl
theorem ed_repT {ds : List Dat} {n : Int} (ha : ED C a ρ (.tup ds)) (hb : ED C b ρ (.int n)) (h1 : 2 ≤ n ∧ n ≤ 1000) (h2 : ds ≠ []) (hz : ds.length ≤ 1000) : ED C (.BinOp a .Mult b pos) ρ (.tup (List.replicate n.toNat ds).flatten) := by
  refine wd_bin (r := fun X => rRepT X.K) (fun X _ => op_repT) (wd_of ha (wd_of hb ?_))
  intro X F σ T H v w Q S iv iw q
  show rRepT X.K _ _ _ _
  rw [F.K]
  cases iw
  cases iv with
  | tup hq hA =>
    refine ⟨_, _, _, rfl, rfl, ex_t S.ex hq, fun z => h2 (by subst z; cases hA; rfl), h1.1, h1.2, by rw [hA.length]; exact hz, fun p hp => ?_⟩
    exact q _ _ _ _ (S.new hp) (Step.new S.ex hp) (.tup (st_of upd_same) ((hA.mono (Ex.new (free_sub S.ex hp))).rep _)) rfl

/-! ### built-ins -/
theorem gl_of {X : Cx} (F : Fx C X) {x : Str} (h : C.sc.names.lookup x = some .globalImplicit) : Gl X x := by
  show X.env.scope.names.lookup x = _
  rw [F.sc]
  exact h
theorem wd_blt {x : Str} {id : String} {p : Pos} {r : Cx → List V → Hp → VK → Prop} {k : Dat → Prop} (hc : ∀ X, Fx C X → CallR X (.builtin id) (r X)) (hg : C.sc.names.lookup x = some .globalImplicit) (hm : C.G.mg x = none) (hv : bootBuiltins x = some (.builtin id))
    (h : AD C (e :: es) ρ fun ds => ∀ X, Fx C X → ∀ (σ : L2.St) (T H : Hp) (vs : List V) (Q : VK), DSt C σ T H ρ → IsA C.G.K T vs ds → (∀ v d T' H', DSt C σ T' H' ρ → Step C.mv T H T' H' → Is C.G.K T' v d → k d → Q v H') → r X vs H Q)
    (hn : x ≠ "__name__" := by decide) (hdb : (x == ("__debug__" : Str)) = false := by decide)
    (he : ∀ env : Env, starEach (e :: es) env = (false, eval e env) :: starEach es env := by intro _; rfl) (hpl : ∀ env : Env, (backTo pos (starEach es env)).any (·.1) = false := by intro _; rfl) : WD C (.Call (.Name x p) (e :: es) [] pos) ρ k := fun X F σ T H Q S q =>
  we_of (pe_callB (hc X F) (gl_of F hg) (by rw [F.mg]; exact hm) hv pa_we hn hdb (he _) (hpl _)) (h X F σ T H _ S fun vs ds T1 H1 S1 x1 i1 k1 => k1 X F σ T1 H1 vs Q S1 i1 fun v d T2 H2 S2 x2 i2 k2 => q v d T2 H2 S2 (x1.trans x2) i2 k2)
theorem wd_ty {x : Str} {id : String} {p : Pos} {r : Cx → List V → Hp → VK → Prop} {k : Dat → Prop} (hc : ∀ X, Fx C X → CallR X (.type id) (r X)) (hg : C.sc.names.lookup x = some .globalImplicit) (hm : C.G.mg x = none) (hv : bootBuiltins x = some (.type id))
    (h : AD C (e :: es) ρ fun ds => ∀ X, Fx C X → ∀ (σ : L2.St) (T H : Hp) (vs : List V) (Q : VK), DSt C σ T H ρ → IsA C.G.K T vs ds → (∀ v d T' H', DSt C σ T' H' ρ → Step C.mv T H T' H' → Is C.G.K T' v d → k d → Q v H') → r X vs H Q)
    (hn : x ≠ "__name__" := by decide) (hdb : (x == ("__debug__" : Str)) = false := by decide)
    (he : ∀ env : Env, starEach (e :: es) env = (false, eval e env) :: starEach es env := by intro _; rfl) (hpl : ∀ env : Env, (backTo pos (starEach es env)).any (·.1) = false := by intro _; rfl) : WD C (.Call (.Name x p) (e :: es) [] pos) ρ k := fun X F σ T H Q S q =>
  we_of (pe_callTy (hc X F) (gl_of F hg) (by rw [F.mg]; exact hm) hv pa_we hn hdb (he _) (hpl _)) (h X F σ T H _ S fun vs ds T1 H1 S1 x1 i1 k1 => k1 X F σ T1 H1 vs Q S1 i1 fun v d T2 H2 S2 x2 i2 k2 => q v d T2 H2 S2 (x1.trans x2) i2 k2)
def dlen : Dat → Option Nat
  | .lst xs => some xs.length
  | .tup xs => some xs.length
  | .ro xs => some xs.length
  | _ => none
theorem ed_len {p : Pos} {d : Dat} {n : Nat} (h : ED C a ρ d) (hn : dlen d = some n) (hg : C.sc.names.lookup ("len" : Str) = some .globalImplicit) (hm : C.G.mg "len" = none) (he : ∀ env : Env, starEach [a] env = (false, eval a env) :: starEach [] env := by intro _; rfl) : ED C (.Call (.Name "len" p) [a] [] pos) ρ (.int n) := by
  refine wd_blt (r := fun X => fun xs H Q => ∃ x n, xs = [x] ∧ LenV X.K x H n ∧ Q (.int n) H) (fun X _ => call_len) hg hm PySem.boot_len (ad_of (ea_cons h ea_nil he) ?_) (he := he)
  intro X F σ T H vs Q S iv q
  cases iv with
  | cons h1 h2 =>
    cases h2
    refine ⟨_, n, rfl, ?_, q _ _ T H S Step.refl (.int _) rfl⟩
    rw [F.K]
    cases h1 with
    | lst hq hA =>
      have e : _ = n := Option.some.inj hn
      exact .inl ⟨_, sq_of (S.ex _ _ hq), by rw [hA.length]; exact e.symm⟩
    | ro hq hA =>
      have e : _ = n := Option.some.inj hn
      exact .inl ⟨_, ex_l S.ex hq, by rw [hA.length]; exact e.symm⟩
    | tup hq hA =>
      have e : _ = n := Option.some.inj hn
      exact .inr ⟨_, ex_t S.ex hq, by rw [hA.length]; exact e.symm⟩
    | _ => cases hn
theorem ed_abs {p : Pos} {i : Int} (h : ED C a ρ (.int i)) (hg : C.sc.names.lookup ("abs" : Str) = some .globalImplicit) (hm : C.G.mg "abs" = none) (he : ∀ env : Env, starEach [a] env = (false, eval a env) :: starEach [] env := by intro _; rfl) : ED C (.Call (.Name "abs" p) [a] [] pos) ρ (.int (if i < 0 then -i else i)) := by
  refine wd_blt (r := fun X => fun xs H Q => ∃ i, xs = [.int i] ∧ Q (.int (if i < 0 then -i else i)) H) (fun X _ => call_abs) hg hm (by decide +kernel) (ad_of (ea_cons h ea_nil he) ?_) (he := he)
  intro X F σ T H vs Q S iv q
  cases iv with
  | cons h1 h2 =>
    cases h2
    cases h1
    exact ⟨i, rfl, q _ _ T H S Step.refl (.int _) rfl⟩
theorem ed_intOf {p : Pos} {i : Int} (h : ED C a ρ (.int i)) (hg : C.sc.names.lookup ("int" : Str) = some .globalImplicit) (hm : C.G.mg "int" = none) (he : ∀ env : Env, starEach [a] env = (false, eval a env) :: starEach [] env := by intro _; rfl) : ED C (.Call (.Name "int" p) [a] [] pos) ρ (.int i) := by
  refine wd_ty (r := fun X => fun xs H Q => (∃ i, xs = [.int i] ∧ Q (.int i) H) ∨ ∃ k, xs = [.bl k] ∧ Q (.int (if k then 1 else 0)) H) (fun X _ => call_int1) hg hm (by decide +kernel) (ad_of (ea_cons h ea_nil he) ?_) (he := he)
  intro X F σ T H vs Q S iv q
  cases iv with
  | cons h1 h2 =>
    cases h2
    cases h1
    exact .inl ⟨i, rfl, q _ _ T H S Step.refl (.int _) rfl⟩
theorem ed_max2 {p : Pos} {i j : Int} (h : ED C a ρ (.int i)) (h' : ED C b ρ (.int j)) (hg : C.sc.names.lookup ("max" : Str) = some .globalImplicit) (hm : C.G.mg "max" = none) (he : ∀ env : Env, starEach [a, b] env = (false, eval a env) :: starEach [b] env := by intro _; rfl) (he2 : ∀ env : Env, starEach [b] env = (false, eval b env) :: starEach [] env := by intro _; rfl)
    (hpl : ∀ env : Env, (backTo pos (starEach [b] env)).any (·.1) = false := by intro _; rfl) : ED C (.Call (.Name "max" p) [a, b] [] pos) ρ (.int (if j > i then j else i)) := by
  refine wd_blt (r := fun X => fun xs H Q => ∃ i j, xs = [.int i, .int j] ∧ Q (.int (if j > i then j else i)) H) (fun X F => call_max2 F.calm) hg hm PyProof.Rows.boot_max (ad_of (ea_cons h (ea_cons h' ea_nil he2) he) ?_) (he := he) (hpl := hpl)
  intro X F σ T H vs Q S iv q
  cases iv with
  | cons h1 h2 =>
    cases h2 with
    | cons h2 h3 =>
      cases h3
      cases h1
      cases h2
      exact ⟨i, j, rfl, q _ _ T H S Step.refl (.int _) rfl⟩
theorem ed_min2 {p : Pos} {i j : Int} (h : ED C a ρ (.int i)) (h' : ED C b ρ (.int j)) (hg : C.sc.names.lookup ("min" : Str) = some .globalImplicit) (hm : C.G.mg "min" = none) (he : ∀ env : Env, starEach [a, b] env = (false, eval a env) :: starEach [b] env := by intro _; rfl) (he2 : ∀ env : Env, starEach [b] env = (false, eval b env) :: starEach [] env := by intro _; rfl)
    (hpl : ∀ env : Env, (backTo pos (starEach [b] env)).any (·.1) = false := by intro _; rfl) : ED C (.Call (.Name "min" p) [a, b] [] pos) ρ (.int (if j < i then j else i)) := by
  refine wd_blt (r := fun X => fun xs H Q => ∃ i j, xs = [.int i, .int j] ∧ Q (.int (if j < i then j else i)) H) (fun X F => call_min2 F.calm) hg hm PyProof.Rows.boot_min (ad_of (ea_cons h (ea_cons h' ea_nil he2) he) ?_) (he := he) (hpl := hpl)
  intro X F σ T H vs Q S iv q
  cases iv with
  | cons h1 h2 =>
    cases h2 with
    | cons h2 h3 =>
      cases h3
      cases h1
      cases h2
      exact ⟨i, j, rfl, q _ _ T H S Step.refl (.int _) rfl⟩
theorem ed_max {p : Pos} {ns : List Int} {m : Int} (h : ED C a ρ (.lst (ns.map Dat.int))) (hm1 : m ∈ ns) (hm2 : ∀ y, y ∈ ns → y ≤ m) (hg : C.sc.names.lookup ("max" : Str) = some .globalImplicit) (hm : C.G.mg "max" = none) (he : ∀ env : Env, starEach [a] env = (false, eval a env) :: starEach [] env := by intro _; rfl) : ED C (.Call (.Name "max" p) [a] [] pos) ρ (.int m) := by
  refine wd_blt (r := fun X => rMax X.K) (fun X F => cr_max F.calm) hg hm PyProof.Rows.boot_max (ad_of (ea_cons h ea_nil he) ?_) (he := he)
  intro X F σ T H vs Q S iv q
  cases iv with
  | cons h1 h2 =>
    cases h2
    cases h1 with
    | lst hq hA =>
      have e := hA.ints
      subst e
      rw [F.K]
      refine ⟨_, ns, rfl, sq_of (S.ex _ _ hq), List.length_pos_of_mem hm1, fun m' h1 h2 => ?_⟩
      have e : m' = m := Int.le_antisymm (hm2 _ h1) (h2 _ hm1)
      rw [e]
      exact q _ _ T H S Step.refl (.int _) rfl
theorem ed_min {p : Pos} {ns : List Int} {m : Int} (h : ED C a ρ (.lst (ns.map Dat.int))) (hm1 : m ∈ ns) (hm2 : ∀ y, y ∈ ns → m ≤ y) (hg : C.sc.names.lookup ("min" : Str) = some .globalImplicit) (hm : C.G.mg "min" = none) (he : ∀ env : Env, starEach [a] env = (false, eval a env) :: starEach [] env := by intro _; rfl) : ED C (.Call (.Name "min" p) [a] [] pos) ρ (.int m) := by
  refine wd_blt (r := fun X => rMin X.K) (fun X F => cr_min F.calm) hg hm PyProof.Rows.boot_min (ad_of (ea_cons h ea_nil he) ?_) (he := he)
  intro X F σ T H vs Q S iv q
  cases iv with
  | cons h1 h2 =>
    cases h2
    cases h1 with
    | lst hq hA =>
      have e := hA.ints
      subst e
      rw [F.K]
      refine ⟨_, ns, rfl, sq_of (S.ex _ _ hq), List.length_pos_of_mem hm1, fun m' h1 h2 => ?_⟩
      have e : m' = m := Int.le_antisymm (h2 _ hm1) (hm2 _ h1)
      rw [e]
      exact q _ _ T H S Step.refl (.int _) rfl
theorem ed_sum {p : Pos} {ns : List Int} (h : ED C a ρ (.lst (ns.map Dat.int))) (hg : C.sc.names.lookup ("sum" : Str) = some .globalImplicit) (hm : C.G.mg "sum" = none) (he : ∀ env : Env, starEach [a] env = (false, eval a env) :: starEach [] env := by intro _; rfl) : ED C (.Call (.Name "sum" p) [a] [] pos) ρ (.int ns.sum) := by
  refine wd_blt (r := fun X => rSum X.K) (fun X F => cr_sum F.calm) hg hm PyProof.Rows.boot_sum (ad_of (ea_cons h ea_nil he) ?_) (he := he)
  intro X F σ T H vs Q S iv q
  cases iv with
  | cons h1 h2 =>
    cases h2
    cases h1 with
    | lst hq hA =>
      have e := hA.ints
      subst e
      rw [F.K]
      exact ⟨_, ns, rfl, sq_of (S.ex _ _ hq), q _ _ T H S Step.refl (.int _) rfl⟩
theorem IsA.bls {K : PySem.W.Frag} {T : Hp} : ∀ {vs : List V} {ns : List Bool}, IsA K T vs (ns.map Dat.bl) → vs = ns.map V.bl
  | _, [], h => by cases h; rfl
  | _, n :: ns, h => by
    cases h with
    | cons h1 h2 =>
      cases h1
      rw [IsA.bls h2]
      rfl
theorem ed_all {p : Pos} {ns : List Bool} (h : ED C a ρ (.lst (ns.map Dat.bl))) (hg : C.sc.names.lookup ("all" : Str) = some .globalImplicit) (hm : C.G.mg "all" = none) (he : ∀ env : Env, starEach [a] env = (false, eval a env) :: starEach [] env := by intro _; rfl) : ED C (.Call (.Name "all" p) [a] [] pos) ρ (.bl (ns.all id)) := by
  refine wd_blt (r := fun X => rAll X.K) (fun X F => cr_all F.calm) hg hm (by decide +kernel) (ad_of (ea_cons h ea_nil he) ?_) (he := he)
  intro X F σ T H vs Q S iv q
  cases iv with
  | cons h1 h2 =>
    cases h2
    cases h1 with
    | lst hq hA =>
      have e := hA.bls
      subst e
      rw [F.K]
      exact ⟨_, ns, rfl, sq_of (S.ex _ _ hq), q _ _ T H S Step.refl (.bl _) rfl⟩
theorem wd_tupleOf {p : Pos} {k : Dat → Prop} (h : WD C a ρ fun x => ∃ ds, x = .lst ds ∧ k (.tup ds)) (hg : C.sc.names.lookup ("tuple" : Str) = some .globalImplicit) (hm : C.G.mg "tuple" = none) (he : ∀ env : Env, starEach [a] env = (false, eval a env) :: starEach [] env := by intro _; rfl) : WD C (.Call (.Name "tuple" p) [a] [] pos) ρ k := fun X F σ T H Q S q =>
  we_of (pe_tupleOf (gl_of F hg) (by rw [F.mg]; exact hm) pe_we (he _)) (h X F σ T H _ S fun v d T1 H1 S1 x1 i1 k1 => by
    obtain ⟨ds, rfl, kd⟩ := k1
    show kTup X.K _ _ _
    rw [F.K]
    cases i1 with
    | lst hq hA =>
      refine .inl ⟨_, _, rfl, sq_of (S1.ex _ _ hq), fun p hp => ?_⟩
      exact q _ _ _ _ (S1.new hp) (x1.trans (Step.new S1.ex hp)) (.tup (st_of upd_same) (hA.mono (Ex.new (free_sub S1.ex hp)))) kd)
/-- sorted of ints -/
theorem ed_sortedI {p : Pos} {ns ms : List Int} (h : ED C a ρ (.lst (ns.map Dat.int))) (hs : ∀ ns' : List Int, ns'.Perm ns → ns'.Pairwise (· ≤ ·) → ns' = ms) (hg : C.sc.names.lookup ("sorted" : Str) = some .globalImplicit) (hm : C.G.mg "sorted" = none) (he : ∀ env : Env, starEach [a] env = (false, eval a env) :: starEach [] env := by intro _; rfl) : ED C (.Call (.Name "sorted" p) [a] [] pos) ρ (.lst (ms.map Dat.int)) := by
  refine wd_blt (r := fun X => rSortedI X.K) (fun X F => cr_sortedI) hg hm (by decide +kernel) (ad_of (ea_cons h ea_nil he) ?_) (he := he)
  intro X F σ T H vs Q S iv q
  cases iv with
  | cons h1 h2 =>
    cases h2
    cases h1 with
    | lst hq hA =>
      have e := hA.ints
      subst e
      rw [F.K]
      refine ⟨_, ns, rfl, sq_of (S.ex _ _ hq), fun ns' p hp hs' hf => ?_⟩
      have e := hs ns' hp hs'
      subst e
      exact q _ _ _ _ (S.new hf) (Step.new S.ex hf) (.lst upd_same (IsA.ofInts _)) rfl
/-! ### isinstance -/
def tyN : Dat → String
  | .non => "NoneType"
  | .bl _ => "bool"
  | .int _ => "int"
  | .str _ => "str"
  | .lst _ => "list"
  | .ro _ => "list"
  | .tup _ => "tuple"
  | .fn _ => ""
theorem tyX_seqL {K : PySem.W.Frag} {H : Hp} {a : Addr} {xs : List V} (h : SqL K H a xs) : TyX K H (.ref a) (.type "list") := by
  rcases h with (h | ⟨o, h⟩) | ⟨o, its, n, h1, h2, _⟩
  · exact .base (.lst h)
  · exact .base (.frz h)
  · exact .kList h1 h2
theorem tyX_seqT {K : PySem.W.Frag} {H : Hp} {a : Addr} {xs : List V} (h : SqT K H a xs) : TyX K H (.ref a) (.type "tuple") := by
  rcases h with (h | ⟨o, h⟩) | ⟨o, its, n, h1, h2, _⟩
  · exact .base (.tup h)
  · exact .fTuple h
  · exact .kTuple h1 h2
theorem ed_isi {p pt : Pos} {d : Dat} {T : Str} {t : String} {r : Bool} (h : ED C a ρ d) (hf : tyN d ≠ "") (hk : kitB (tyN d) t = some r) (hT : C.sc.names.lookup T = some .globalImplicit) (hmT : C.G.mg T = none) (hb : bootBuiltins T = some (.type t))
    (hg : C.sc.names.lookup ("isinstance" : Str) = some .globalImplicit) (hm : C.G.mg "isinstance" = none) (hn : T ≠ "__name__" := by decide) (hdb : (T == ("__debug__" : Str)) = false := by decide)
    (he : ∀ env : Env, starEach [a, .Name T pt] env = (false, eval a env) :: starEach [.Name T pt] env := by intro _; rfl) : ED C (.Call (.Name "isinstance" p) [a, .Name T pt] [] pos) ρ (.bl r) := fun X F σ T0 H Q S q =>
  we_of (pe_callB call_isi (gl_of F hg) (by rw [F.mg]; exact hm) (by decide +kernel) (pa_cons pe_we (pa_cons (pe_bltn (v := .ty t) (gl_of F hT) (by rw [F.mg]; exact hmT) hb rfl hn hdb) pa_nil) (he _)) (he := he _)) (h X F σ T0 H _ S fun v d' T1 H1 S1 x1 i1 k1 => by
    subst k1
    refine ⟨v, .ty t, .type (tyN d'), .type t, r, rfl, .ty t, ?_, kit_ty hk, q _ _ T1 H1 S1 x1 (.bl _) rfl⟩
    rw [F.K]
    cases i1 with
    | non => exact .base .non
    | bl b => exact .base (.bl b)
    | int b => exact .base (.int b)
    | str b => exact .base (.str b)
    | lst hq hA => exact tyX_seqL (sq_of (S1.ex _ _ hq))
    | ro hq hA => exact tyX_seqL (ex_l S1.ex hq)
    | tup hq hA => exact tyX_seqT (ex_t S1.ex hq)
    | fn a => exact absurd rfl hf)
end
end DL

end
section
/-! The data layer: targets, comprehensions, statements, loops. -/
namespace DL
open PySem PySem.Spec PyProof.Rows L2 Evl

/-! ### environments, one place set -/
section
variable {C : DC} {σ : L2.St} {T H T' H' : Hp} {ρ : DEnv}
theorem DSt.set (S : DSt C σ T H ρ) {i : Nat} {v : V} {d : Dat} (h : Is C.G.K T v d) : DSt C (σ.set i (some v)) T H (ρ.set i (some (.d d))) := by
  refine ⟨S.ex, S.step, S.jv, S.wd, S.mt, S.tf, ⟨by rw [List.length_set, List.length_set]; exact S.env.len, fun j x hj => ?_, fun j s hj ho => ?_, fun j l s u p hne hj hl ho hu hs => ?_⟩⟩
  · by_cases z : j = i
    · subst z
      by_cases hlt : j < ρ.length
      · rw [List.getElem?_set_self hlt] at hj
        cases hj
        exact ⟨v, List.getElem?_set_self (by rw [← S.env.len]; exact hlt), h⟩
      · rw [List.getElem?_eq_none (by rw [List.length_set]; omega)] at hj
        cases hj
    · rw [List.getElem?_set_ne (Ne.symm z)] at hj
      obtain ⟨w, h1, h2⟩ := S.env.dat j x hj
      exact ⟨w, by rw [List.getElem?_set_ne (Ne.symm z)]; exact h1, h2⟩
  · by_cases z : j = i
    · subst z
      by_cases hlt : j < ρ.length
      · rw [List.getElem?_set_self hlt] at hj
        cases hj
        exact ho.elim
      · rw [List.getElem?_eq_none (by rw [List.length_set]; omega)] at hj
        cases hj
    · rw [List.getElem?_set_ne (Ne.symm z)] at hj
      obtain ⟨p, o, h1, h2⟩ := S.env.own j s hj ho
      exact ⟨p, o, by rw [List.getElem?_set_ne (Ne.symm z)]; exact h1, h2⟩
  · have nj : ∀ (k : Nat) (s : Slot), (ρ.set i (some (.d d)))[k]? = some (some s) → s.own → k ≠ i ∧ ρ[k]? = some (some s) := fun k s hk hs => by
      by_cases z : k = i
      · subst z
        by_cases hlt : k < ρ.length
        · rw [List.getElem?_set_self hlt] at hk
          cases hk
          exact hs.elim
        · rw [List.getElem?_eq_none (by rw [List.length_set]; omega)] at hk
          cases hk
      · rw [List.getElem?_set_ne (Ne.symm z)] at hk
        exact ⟨z, hk⟩
    obtain ⟨n1, e1⟩ := nj j s hj ho
    obtain ⟨n2, e2⟩ := nj l u hl hu
    rw [List.getElem?_set_ne (Ne.symm n1)] at hs
    rw [List.getElem?_set_ne (Ne.symm n2)]
    exact S.env.ap j l s u p hne e1 e2 ho hu hs
/-- a place forgotten -/
theorem DSt.drop (S : DSt C σ T H ρ) (i : Nat) : DSt C (σ.set i none) T H (ρ.set i none) := by
  have nj : ∀ (k : Nat) (s : Slot), (ρ.set i none)[k]? = some (some s) → k ≠ i ∧ ρ[k]? = some (some s) := fun k s hk => by
    by_cases z : k = i
    · subst z
      by_cases hlt : k < ρ.length
      · rw [List.getElem?_set_self hlt] at hk
        cases hk
      · rw [List.getElem?_eq_none (by rw [List.length_set]; omega)] at hk
        cases hk
    · rw [List.getElem?_set_ne (Ne.symm z)] at hk
      exact ⟨z, hk⟩
  refine ⟨S.ex, S.step, S.jv, S.wd, S.mt, S.tf, ⟨by rw [List.length_set, List.length_set]; exact S.env.len, fun j x hj => ?_, fun j s hj ho => ?_, fun j l s u p hne hj hl ho hu hs => ?_⟩⟩
  · obtain ⟨z, e⟩ := nj j _ hj
    obtain ⟨w, h1, h2⟩ := S.env.dat j x e
    exact ⟨w, by rw [List.getElem?_set_ne (Ne.symm z)]; exact h1, h2⟩
  · obtain ⟨z, e⟩ := nj j _ hj
    obtain ⟨p, o, h1, h2⟩ := S.env.own j s e ho
    exact ⟨p, o, by rw [List.getElem?_set_ne (Ne.symm z)]; exact h1, h2⟩
  · obtain ⟨n1, e1⟩ := nj j s hj
    obtain ⟨n2, e2⟩ := nj l u hl
    rw [List.getElem?_set_ne (Ne.symm n1)] at hs
    rw [List.getElem?_set_ne (Ne.symm n2)]
    exact S.env.ap j l s u p hne e1 e2 ho hu hs
def wipeD (ρ : DEnv) : List Nat → DEnv
  | [] => ρ
  | v :: vs => (wipeD ρ vs).set v none
theorem DSt.wipe (S : DSt C σ T H ρ) : ∀ vs : List Nat, DSt C (wipe σ vs) T H (wipeD ρ vs)
  | [] => S
  | v :: vs => (DSt.wipe S vs).drop v
end
theorem wipe_set (σ : L2.St) (i : Nat) (o : Option V) : ∀ vs : List Nat, i ∈ vs → wipe (σ.set i o) vs = wipe σ vs
  | [], h => by simp at h
  | v :: vs, h => by
    unfold wipe
    by_cases hi : i ∈ vs
    · rw [wipe_set σ i o vs hi]
    · have e : i = v := by
        rcases List.mem_cons.mp h with e | e
        · exact e
        · exact absurd e hi
      subst e
      have key : ∀ (ws : List Nat), i ∉ ws → wipe (σ.set i o) ws = (wipe σ ws).set i o := by
        intro ws
        induction ws with
        | nil => intro _; rfl
        | cons w ws ih =>
          intro hw
          rw [List.mem_cons, not_or] at hw
          unfold wipe
          rw [ih hw.2, List.set_comm _ _ hw.1]
      rw [key vs hi, List.set_set]
theorem wipe_wipe (σ : L2.St) (vs : List Nat) : ∀ ws : List Nat, (∀ w ∈ ws, w ∈ vs) → wipe (wipe σ ws) vs = wipe σ vs
  | [], _ => rfl
  | w :: ws, h => by
    show wipe ((wipe σ ws).set w none) vs = wipe σ vs
    rw [wipe_set _ w none vs (h w List.mem_cons_self)]
    exact wipe_wipe σ vs ws fun x hx => h x (List.mem_cons_of_mem _ hx)

/-! ### targets -/
structure WG (X : Cx) (tg : Expr) (v : V) (σ : L2.St) (H : Hp) (Q : L2.St → Hp → Prop) : Prop where
  run : ∀ (pins : List (Addr × Obj)) (s : Shared) (u : Value), Inv X pins σ H s → RelV v u → wpAny (model X.prog X.w) X.A (assign tg X.env u) (fun _ s' => ∃ σ' H', Inv X pins σ' H' s' ∧ Q σ' H') X.xe s
theorem pg_we {X : Cx} {tg : Expr} : PG X tg (WG X tg) := ⟨fun pins s σ H v u Q I r h => h.run pins s u I r⟩
theorem wg_of {X : Cx} {tg : Expr} {t : TG} {v : V} {σ : L2.St} {H : Hp} {Q : L2.St → Hp → Prop} (h : PG X tg t) (q : t v σ H Q) : WG X tg v σ H Q := ⟨fun pins s u I r => h.run pins s σ H v u Q I r q⟩
def GD (C : DC) (vs : List Nat) (tg : Expr) (ρ : DEnv) (d : Dat) (ρ' : DEnv) : Prop :=
  ∀ (X : Cx), Fx C X → ∀ (σ : L2.St) (T H : Hp) (v : V) (Q : L2.St → Hp → Prop), DSt C σ T H ρ → Is C.G.K T v d → (∀ σ', DSt C σ' T H ρ' → wipe σ' vs = wipe σ vs → Q σ' H) → WG X tg v σ H Q
section
variable {C : DC} {ρ : DEnv} {x y : Str} {p p' pos : Pos} {d d' : Dat}
theorem pg_nameD {X : Cx} (F : Fx C X) (i : Nat) (hi : C.N[i]? = some x) (hl : C.sc.names.lookup x = some .local ∨ (C.df = true ∧ C.sc.names.lookup x = some .cell)) : PG X (.Name x p) (gName i) := by
  rcases hl with hl | ⟨hd, hl⟩
  · exact pg_name (by rw [F.N]; exact F.nd) (by rw [F.N]; exact hi) (.inl (by rw [F.sc]; exact hl)) (.inr (by rw [F.sc]; exact hl))
  · exact pg_name (by rw [F.N]; exact F.nd) (by rw [F.N]; exact hi) (.inr (by rw [F.sc]; exact hl)) (.inl (F.fn hd x))
theorem gd_name (i : Nat) (hi : C.N[i]? = some x) (hl : C.sc.names.lookup x = some .local ∨ (C.df = true ∧ C.sc.names.lookup x = some .cell)) : GD C [i] (.Name x p) ρ d (ρ.set i (some (.d d))) := fun X F σ T H v Q S iv q =>
  wg_of (pg_nameD F i hi hl) (q _ (S.set iv) (wipe_set σ i _ [i] List.mem_cons_self))
theorem gd_pair (i j : Nat) (hi : C.N[i]? = some x) (hl : C.sc.names.lookup x = some .local ∨ (C.df = true ∧ C.sc.names.lookup x = some .cell)) (hj : C.N[j]? = some y) (hl2 : C.sc.names.lookup y = some .local ∨ (C.df = true ∧ C.sc.names.lookup y = some .cell)) {k : Nat} :
    GD C [i, j] (.Tuple [.Name x p, .Name y p'] k pos) ρ (.tup [d, d']) ((ρ.set i (some (.d d))).set j (some (.d d'))) := fun X F σ T H v Q S iv q => by
  refine wg_of (pg_tup F.calm (pgs_cons (pg_nameD F i hi hl) (pgs_cons (pg_nameD F j hj hl2) pgs_nil))) ?_
  show gTup X.K _ _ _ _ _ _
  rw [F.K]
  cases iv with
  | tup hq hA =>
    cases hA with
    | cons h1 hA =>
      cases hA with
      | cons h2 hA =>
        cases hA
        refine ⟨_, _, rfl, ex_t S.ex hq, rfl, _, _, rfl, _, _, rfl, rfl, ?_⟩
        exact q _ ((S.set h1).set h2) ((wipe_set _ j _ _ (by simp)).trans (wipe_set _ i _ _ (by simp)))
end

/-! ### comprehensions -/
/-- the block of a comprehension -/
def DC.blk (C : DC) (scope : Scope) : DC :=
  { C with sc := relS scope C.sc, W := fun _ _ _ _ => False, kx := fun _ => False, df := false, cq := fun _ => True, hx := fun _ _ _ _ _ _ _ _ h => h.elim }
theorem fx_blk {C : DC} {X : Cx} (F : Fx C X) (scope : Scope) (s : Shared) (H : Hp) (Ca : Addr) (cl : List (Str × Addr)) (fp : List Addr) : Fx (C.blk scope) (X.blk s H scope (compEnvC scope cl Ca X.env) fp) where
  prog := F.prog
  wld := F.wld
  K := F.K
  mg := F.mg
  base := F.base
  N := F.N
  sc := by
    show relS scope X.env.scope = relS scope C.sc
    rw [F.sc]
  nd := F.nd
  calm := F.calm
  room := F.room
  tk := fun u s2 ⟨_, _, _, _, _, _, _, _, _, _, _, _, _, _, _, _, w⟩ => w.elim
  fn := fun h => Bool.noConfusion h
  own := fun h => Bool.noConfusion h
  cq := trivial
theorem st_blk {C : DC} {σ : L2.St} {T H : Hp} {ρ : DEnv} {scope : Scope} : DSt (C.blk scope) σ T H ρ ↔ DSt C σ T H ρ :=
  ⟨fun S => ⟨S.ex, S.step, S.jv, S.wd, S.mt, S.tf, ⟨S.env.len, S.env.dat, S.env.own, S.env.ap⟩⟩, fun S => ⟨S.ex, S.step, S.jv, S.wd, S.mt, S.tf, ⟨S.env.len, S.env.dat, S.env.own, S.env.ap⟩⟩⟩
/-- what a comprehension's reading is -/
def LcD (C : DC) (elt tg iter : Expr) (ifs : List Expr) (scope : Scope) (ρ : DEnv) (k : Dat → Prop) : Prop :=
  ∀ (X : Cx), Fx C X → ∃ (wi : TI) (g : TG) (tt : TT) (te : TE) (own : List (Str × Nat)), PI X tg iter wi ∧ BlkOk X.N X.env.scope scope own ∧
    (∀ (s : Shared) (H : Hp) (Ca : Addr) (cl : List (Str × Addr)) (fp : List Addr), PG (X.blk s H scope (compEnvC scope cl Ca X.env) fp) tg g) ∧
    (∀ (s : Shared) (H : Hp) (Ca : Addr) (cl : List (Str × Addr)) (fp : List Addr), PTs (X.blk s H scope (compEnvC scope cl Ca X.env) fp) ifs tt) ∧
    (∀ (s : Shared) (H : Hp) (Ca : Addr) (cl : List (Str × Addr)) (fp : List Addr), PE (X.blk s H scope (compEnvC scope cl Ca X.env) fp) elt te) ∧
    ∀ (σ : L2.St) (T H : Hp) (Q : VK), DSt C σ T H ρ → (∀ v d T' H', DSt C σ T' H' ρ → Step C.mv T H T' H' → Is C.G.K T' v d → k d → Q v H') → tLc wi g tt te (own.map (·.2)) σ H Q
section
variable {C : DC} {elt tg iter : Expr} {ifs : List Expr} {scope : Scope} {ρ : DEnv} {k : Dat → Prop} {pos spos py : Pos}
theorem wd_lc (h : LcD C elt tg iter ifs scope ρ k) (hs : ∀ (env : Env) x, foldedSetIterable iter env x = pure x := by intro _ _; rfl) : WD C (.ListComp elt [⟨tg, iter, ifs, 0⟩] scope pos) ρ k := fun X F σ T H Q S q => by
  obtain ⟨wi, g, tt, te, own, h1, h2, h3, h4, h5, h6⟩ := h X F
  exact we_of (pe_lc F.calm (by rw [F.N]; exact F.nd) h1 h2 h3 h4 h5 (hs _)) (h6 σ T H Q S q)
/-- the tests of a clause -/
def IfsD (C : DC) (ifs : List Expr) (ρ : DEnv) (k : Bool → Prop) : Prop := match ifs with
  | [] => k true
  | [c] => TD C c ρ k
  | _ => False
structure WTs (X : Cx) (ifs : List Expr) (σ : L2.St) (H : Hp) (Q : Bool → Hp → Prop) : Prop where
  run : ∀ (pins : List (Addr × Obj)) (s : Shared), Inv X pins σ H s →
    wpAny (model X.prog X.w) X.A (forIn ifs true fun c r => if r = true then do let ok ← isTrue c X.env (eval c X.env); pure (ForInStep.yield ok) else pure (ForInStep.yield r)) (TP X pins σ Q) X.xe s
theorem pts_we {X : Cx} : PTs X ifs (WTs X ifs) := ⟨fun pins s σ H Q I h => h.run pins s I⟩
theorem wts_of {X : Cx} {t : TT} {σ : L2.St} {H : Hp} {Q : Bool → Hp → Prop} (h : PTs X ifs t) (q : t σ H Q) : WTs X ifs σ H Q := ⟨fun pins s I => h.run pins s σ H Q I q⟩
theorem ifs_go {k : Bool → Prop} (h : IfsD C ifs ρ k) {X : Cx} (F : Fx C X) {σ : L2.St} {T H : Hp} {Q : Bool → Hp → Prop} (S : DSt C σ T H ρ) (q : ∀ b T' H', DSt C σ T' H' ρ → Step C.mv T H T' H' → k b → Q b H') : WTs X ifs σ H Q := by
  cases ifs with
  | nil => exact wts_of pts_nil (q true T H S Step.refl h)
  | cons c r =>
    cases r with
    | nil => exact wts_of (pts_one pt_we) ((show TD C c ρ k from h) X F σ T H Q S q)
    | cons _ _ => exact (show False from h).elim
/-- one turn of a comprehension, by data: the target, the tests, the element -/
def TurnD (C : DC) (scope : Scope) (own : List (Str × Nat)) (elt tg : Expr) (ifs : List Expr) (ρ : DEnv) (J : Nat → List Dat → Prop) (n : Nat) (d : Dat) (acc : List Dat) : Prop :=
  ∃ ρ', GD (C.blk scope) (own.map (·.2)) tg (wipeD ρ (own.map (·.2))) d ρ' ∧
    IfsD (C.blk scope) ifs ρ' fun b => (b = true → WD (C.blk scope) elt ρ' fun y => J (n + 1) (acc ++ [y])) ∧ (b = false → J (n + 1) acc)
/-- the state in a comprehension's turn: the new list at D holds acc -/
structure LcSt (C : DC) (σ : L2.St) (ρ : DEnv) (T0 H0 : Hp) (D : Addr) (J : Nat → List Dat → Prop) (n : Nat) (H : Hp) : Prop where
  ex : ∃ (T : Hp) (vs : List V) (acc : List Dat), DSt C σ T H ρ ∧ Step C.mv T0 H0 T H ∧ H D = some (.lst vs) ∧ T D = none ∧ C.fr D ∧ ¬ C.wv D ∧ (∀ (i : Nat) (s : Slot), ρ[i]? = some (some s) → s.own → σ[i]? ≠ some (some (V.ref D))) ∧ IsA C.G.K T vs acc ∧ J n acc ∧ acc.length ≤ n ∧ H0 D = none
theorem DSt.upd {σ : L2.St} {T H : Hp} (S : DSt C σ T H ρ) {D : Addr} {o o' : HO} (hD : H D = some o) (lo : isLD o) (hT : T D = none) (h0 : C.fr D) (hm : ¬ C.wv D) (hn : ∀ (i : Nat) (s : Slot), ρ[i]? = some (some s) → s.own → σ[i]? ≠ some (some (V.ref D))) (lo' : ntb o' := by first | exact isLD.ntb True.intro | assumption) : DSt C σ T (L2.upd H D o') ρ where
  ex := fun a u h => by
    rw [upd_ne (ne_of_none h hT)]
    exact S.ex a u h
  step := ⟨S.step.t, fun a u h hn' => by rw [upd_ne (fun z : a = D => hn' (by rw [z] at h ⊢; exact h0 u h))]; exact S.step.k a u h hn', S.step.f, fun a o h n => by
    by_cases z : a = D
    · rw [z, upd_same]
      exact ⟨o', rfl, lo'⟩
    · rw [upd_ne z]
      exact S.step.d a o h n, S.step.tt⟩
  tf := S.tf
  jv := C.stab H _ S.jv fun a u h hl => by
    rw [upd_ne (fun z => hl (by rw [z, hD] at h; cases h; exact lo))]
    exact h
  wd := fun w h => by
    obtain ⟨a, b, e⟩ := S.wd w h
    refine ⟨a, b, ?_⟩
    rw [upd_ne (fun z : w = D => hm (by rw [← z]; exact h))]
    exact e
  mt := S.mt
  env := ⟨S.env.len, S.env.dat, fun i s h ho => by
    obtain ⟨p, o2, h1, h2, h3⟩ := S.env.own i s h ho
    refine ⟨p, o2, h1, ?_, h3⟩
    rw [upd_ne (fun z : p = D => hn i s h ho (by rw [← z]; exact h1))]
    exact h2, S.env.ap⟩
/-- own slots stand in the heap -/
theorem DSt.ownNe {σ : L2.St} {T H : Hp} (S : DSt C σ T H ρ) {D : Addr} (hD : H D = none) : ∀ (i : Nat) (s : Slot), ρ[i]? = some (some s) → s.own → σ[i]? ≠ some (some (V.ref D)) := fun i s h ho z => by
  obtain ⟨p, o, h1, h2, _⟩ := S.env.own i s h ho
  rw [h1] at z
  cases z
  rw [hD] at h2
  cases h2
theorem DSt.h0 {σ : L2.St} {T H : Hp} (S : DSt C σ T H ρ) {D : Addr} (hD : H D = none) : C.fr D ∧ ¬ C.wv D := by
  refine ⟨fun o h => Classical.byContradiction fun n => ?_, fun z => ?_⟩
  · have z := S.step.k D o h n
    rw [hD] at z
    cases z
  · obtain ⟨x, y, e⟩ := S.wd D z
    rw [hD] at e
    cases e
abbrev tgB (X : Cx) (scope : Scope) (tg : Expr) : TG := fun v σ H Q => ∀ (s : Shared) (H' : Hp) (Ca : Addr) (cl : List (Str × Addr)) (fp : List Addr), WG (X.blk s H' scope (compEnvC scope cl Ca X.env) fp) tg v σ H Q
abbrev ttB (X : Cx) (scope : Scope) (ifs : List Expr) : TT := fun σ H Q => ∀ (s : Shared) (H' : Hp) (Ca : Addr) (cl : List (Str × Addr)) (fp : List Addr), WTs (X.blk s H' scope (compEnvC scope cl Ca X.env) fp) ifs σ H Q
abbrev teB (X : Cx) (scope : Scope) (elt : Expr) : TE := fun σ H Q => ∀ (s : Shared) (H' : Hp) (Ca : Addr) (cl : List (Str × Addr)) (fp : List Addr), WE (X.blk s H' scope (compEnvC scope cl Ca X.env) fp) elt σ H Q
theorem lc_turn {own : List (Str × Nat)} {X : Cx} (F : Fx C X) {J : Nat → List Dat → Prop} {n : Nat} {d : Dat} {σ : L2.St} {T0 H0 : Hp} {D : Addr} {H : Hp} {x : V} (L : LcSt C σ ρ T0 H0 D J n H) (hn : n < 50000) (hx : Is C.G.K T0 x d)
    (ht : ∀ acc, J n acc → TurnD C scope own elt tg ifs ρ J n d acc) :
    tgB X scope tg x (wipe σ (own.map (·.2))) H fun σ2 H2 => wipe σ2 (own.map (·.2)) = wipe σ (own.map (·.2)) ∧
      ttB X scope ifs σ2 H2 fun b H3 => if b = true then teB X scope elt σ2 H3 fun y H4 => ∃ acc, H4 D = some (.lst acc) ∧ acc.length < sizeLine ∧ LcSt C σ ρ T0 H0 D J (n + 1) (L2.upd H4 D (.lst (acc ++ [y]))) else LcSt C σ ρ T0 H0 D J (n + 1) H3 := by
  obtain ⟨T, vs, acc, S, e0, hD, hT, h0, hm, hno, hA, hj, hz, hfr⟩ := L.ex
  obtain ⟨ρ', hg, hi⟩ := ht acc hj
  intro s H' Ca cl fp
  refine hg _ (fx_blk F scope s H' Ca cl fp) _ T H x _ (st_blk.mpr (S.wipe _)) (hx.mono e0.t) fun σ' S' hw => ?_
  refine ⟨hw.trans (wipe_wipe σ _ _ fun _ h => h), fun s H' Ca cl fp => ?_⟩
  refine ifs_go hi (fx_blk F scope s H' Ca cl fp) S' fun b T1 H1 S1 st1 kb => ?_
  have st1 : Step C.mv T H T1 H1 := st1
  have nD : H D ≠ none := by rw [hD]; exact fun z => nomatch z
  cases b with
  | false =>
    refine iteF ⟨T1, vs, acc, S.go S1.ex st1 S1.jv S1.wd, e0.trans st1, st1.k D _ hD (isLD.still True.intro hm), (st1.f D _ hD (isLD.ntb True.intro)).trans hT, h0, hm, hno, hA.mono st1.t, kb.2 rfl, by omega, hfr⟩
  | true =>
    refine iteT fun s H' Ca cl fp => ?_
    refine kb.1 rfl _ (fx_blk F scope s H' Ca cl fp) σ' T1 H1 _ S1 fun v y T2 H2 S2 st2 iy jy => ?_
    have st12 : Step C.mv T H T2 H2 := st1.trans st2
    have hD2 := st12.k D _ hD (isLD.still True.intro hm)
    have hT2 := (st12.f D _ hD (isLD.ntb True.intro)).trans hT
    refine ⟨vs, hD2, by rw [hA.length]; exact sz_lt (by omega), T2, vs ++ [v], acc ++ [y], (S.go S2.ex st12 S2.jv S2.wd).upd hD2 True.intro hT2 h0 hm hno, ?_, upd_same, hT2, h0, hm, hno, (hA.mono st12.t).snoc iy, jy, by rw [List.length_append]; show _ + 1 ≤ _; omega, hfr⟩
    have st := e0.trans st12
    refine ⟨st.t, fun a u h hn' => ?_, st.f, fun a o h n => ?_, st.tt⟩
    · by_cases z : a = D
      · rw [z, hfr] at h
        cases h
      · rw [upd_ne z]
        exact st.k a u h hn'
    · by_cases z : a = D
      · rw [z, upd_same]
        exact ⟨_, rfl, isLD.ntb True.intro⟩
      · rw [upd_ne z]
        exact st.d a o h n
/-- the reading's end: the new list is still -/
theorem lc_done {σ : L2.St} {T0 H0 : Hp} {D : Addr} {H : Hp} {J : Nat → List Dat → Prop} {n : Nat} {Q : VK} (L : LcSt C σ ρ T0 H0 D J n H) (hk : ∀ acc, J n acc → k (.lst acc)) (q : ∀ v d T' H', DSt C σ T' H' ρ → Step C.mv T0 H0 T' H' → Is C.G.K T' v d → k d → Q v H') : Q (.ref D) H := by
  obtain ⟨T, vs, acc, S, e0, hD, hT, h0, hm, hno, hA, hj, hz, hfr⟩ := L.ex
  have exT : Ex T (L2.upd T D (.lst vs)) := Ex.new hT
  have tb1 : ∀ {a : Addr} {ps : Array Value}, L2.upd T D (.lst vs) a = some (.tbl ps) → T a = some (.tbl ps) := fun {a ps} h => by
    by_cases z : a = D
    · rw [z, upd_same] at h; cases h
    · rw [upd_ne z] at h; exact h
  have S' : DSt C σ (L2.upd T D (.lst vs)) H ρ := by
    refine ⟨fun a u h => ?_, ⟨S.step.t.trans exT, S.step.k, fun a o h n => ?_, S.step.d, fun a ps h => S.step.tt a ps (tb1 h)⟩, S.jv, S.wd, fun a h => ?_, fun a ps h => S.tf a ps (tb1 h), ⟨S.env.len, fun i x h => let ⟨v, h1, h2⟩ := S.env.dat i x h; ⟨v, h1, h2.mono exT⟩, fun i s h ho => ?_, S.env.ap⟩⟩
    · by_cases z : a = D
      · rw [z, upd_same] at h
        rw [z, hD]
        exact h
      · rw [upd_ne z] at h
        exact S.ex a u h
    · rw [upd_ne (fun z : a = D => (isLD.still (C := C) True.intro hm : ¬ C.mv D (.lst vs)) (by rw [z] at h; exact (h0 o h).elim (fun q => absurd q hm) fun q => absurd q.2.choose_spec (n _)))]
      exact S.step.f a o h n
    · rw [upd_ne (fun z : a = D => hm (by rw [← z]; exact h))]
      exact S.mt a h
    · obtain ⟨p, o, h1, h2, h3, h4, h5⟩ := S.env.own i s h ho
      refine ⟨p, o, h1, h2, h3.mono exT, ?_, h5⟩
      rw [upd_ne (fun z : p = D => hno i s h ho (by rw [← z]; exact h1))]
      exact h4
  refine q _ (.lst acc) (L2.upd T D (.lst vs)) H S' ⟨e0.t.trans exT, e0.k, fun a o h n => ?_, e0.d, fun a ps h => e0.tt a ps (tb1 h)⟩ (.lst upd_same (hA.mono exT)) (hk acc hj)
  rw [upd_ne (ne_of_none h hfr)]
  exact e0.f a o h n
theorem lc_start {σ : L2.St} {T H : Hp} (S : DSt C σ T H ρ) {D : Addr} (hD : H D = none) {J : Nat → List Dat → Prop} (h0 : J 0 []) : LcSt C σ ρ T H D J 0 (L2.upd H D (.lst [])) :=
  ⟨T, [], [], S.newH hD, Step.newH hD, upd_same, free_sub S.ex hD, (S.h0 hD).1, (S.h0 hD).2, S.ownNe hD, .nil, h0, Nat.le_refl _, hD⟩
/-- the rules: over a list, a tuple, a range -/
theorem lcd_list {ds : List Dat} (own : List (Str × Nat)) (hi : ED C iter ρ (.lst ds)) (hb : BlkOk C.N C.sc scope own) (hl : ds.length ≤ 40000) (J : Nat → List Dat → Prop) (h0 : J 0 []) (ht : ∀ n d acc, ds[n]? = some d → J n acc → TurnD C scope own elt tg ifs ρ J n d acc) (hd : ∀ acc, J ds.length acc → k (.lst acc)) : LcD C elt tg iter ifs scope ρ k := fun X F => by
  refine ⟨_, tgB X scope tg, ttB X scope ifs, teB X scope elt, own, pi_list pe_we, by rw [F.N, F.sc]; exact hb, fun s H Ca cl fp => ⟨fun pins s1 σ H1 v u Q I r h => (h s H Ca cl fp).run pins s1 u I r⟩, fun s H Ca cl fp => ⟨fun pins s1 σ H1 Q I h => (h s H Ca cl fp).run pins s1 I⟩, fun s H Ca cl fp => ⟨fun pins s1 σ H1 Q I h => (h s H Ca cl fp).run pins s1 I⟩, fun σ T H Q S q => ?_⟩
  show iList X.K _ _ _ _
  rw [F.K]
  refine hi X F σ T H _ S fun v d T1 H1 S1 st1 i1 k1 => ?_
  subst k1
  cases i1 with
  | lst hq hA =>
    rename_i xs
    refine ⟨_, rfl, ⟨_, sq_of (S1.ex _ _ hq)⟩, fun D hD => lc_list (xs := xs) (LcSt C σ ρ T1 H1 D J) (lc_start S1 hD h0) (fun n H2 _ L => ?_) (fun n x H2 hx L => ?_) (fun H2 L => ?_)⟩
    · obtain ⟨T, vs, acc, S, e0, _⟩ := L.ex
      exact sq_of (S.ex _ _ (e0.t _ _ hq))
    · obtain ⟨d, hd', hxd⟩ := hA.atV hx
      have hlt := (List.getElem?_eq_some_iff.mp hd').1
      exact lc_turn F L (by omega) hxd fun acc ja => ht n d acc hd' ja
    · rw [hA.length] at L
      exact lc_done L hd fun v d T' H' S' st' => q v d T' H' S' (st1.trans st')
theorem lcd_tup {ds : List Dat} (own : List (Str × Nat)) (hi : ED C iter ρ (.tup ds)) (hb : BlkOk C.N C.sc scope own) (hl : ds.length ≤ 40000) (J : Nat → List Dat → Prop) (h0 : J 0 []) (ht : ∀ n d acc, ds[n]? = some d → J n acc → TurnD C scope own elt tg ifs ρ J n d acc) (hd : ∀ acc, J ds.length acc → k (.lst acc)) : LcD C elt tg iter ifs scope ρ k := fun X F => by
  refine ⟨_, tgB X scope tg, ttB X scope ifs, teB X scope elt, own, pi_tup pe_we, by rw [F.N, F.sc]; exact hb, fun s H Ca cl fp => ⟨fun pins s1 σ H1 v u Q I r h => (h s H Ca cl fp).run pins s1 u I r⟩, fun s H Ca cl fp => ⟨fun pins s1 σ H1 Q I h => (h s H Ca cl fp).run pins s1 I⟩, fun s H Ca cl fp => ⟨fun pins s1 σ H1 Q I h => (h s H Ca cl fp).run pins s1 I⟩, fun σ T H Q S q => ?_⟩
  show iTup X.K _ _ _ _
  rw [F.K]
  refine hi X F σ T H _ S fun v d T1 H1 S1 st1 i1 k1 => ?_
  subst k1
  cases i1 with
  | tup hq hA =>
    rename_i xs
    refine ⟨_, rfl, ⟨_, ex_t S1.ex hq⟩, fun D hD => lc_tup (xs := xs) (LcSt C σ ρ T1 H1 D J) (lc_start S1 hD h0) (fun n H2 _ L => ?_) (fun n x H2 hx L => ?_) (fun H2 L => ?_)⟩
    · obtain ⟨T, vs, acc, S, e0, _⟩ := L.ex
      exact ex_t S.ex (ex_t e0.t hq)
    · obtain ⟨d, hd', hxd⟩ := hA.atV hx
      have hlt := (List.getElem?_eq_some_iff.mp hd').1
      exact lc_turn F L (by omega) hxd fun acc ja => ht n d acc hd' ja
    · rw [hA.length] at L
      exact lc_done L hd fun v d T' H' S' st' => q v d T' H' S' (st1.trans st')
theorem lcd_range {a : Expr} {p pr : Pos} {P : Dat → Prop} (own : List (Str × Nat)) (hi : WD C a ρ P) (hP : ∀ d, P d → ∃ m : Int, d = .int m ∧ m ≤ 40000 ∧ -40000 ≤ m) (hb : BlkOk C.N C.sc scope own) (hg : C.sc.names.lookup ("range" : Str) = some .globalImplicit) (hm : C.G.mg "range" = none)
    (J : Nat → List Dat → Prop) (h0 : J 0 []) (ht : ∀ (m : Int) (n : Nat) (acc : List Dat), P (.int m) → (n : Int) < m → J n acc → TurnD C scope own elt tg ifs ρ J n (.int (n : Int)) acc) (hd : ∀ (m : Int) (acc : List Dat), P (.int m) → J m.toNat acc → k (.lst acc))
    (hs : ∀ env : Env, starEach [a] env = [(false, eval a env)] := by intro _; rfl) (hs2 : ∀ env : Env, starEach [a] env = (false, eval a env) :: starEach [] env := by intro _; rfl) : LcD C elt tg (.Call (.Name "range" p) [a] [] pr) ifs scope ρ k := fun X F => by
  refine ⟨_, tgB X scope tg, ttB X scope ifs, teB X scope elt, own, pi_range1 (gl_of F hg) (by rw [F.mg]; exact hm) (pa_cons pe_we pa_nil (hs2 _)) (hs _), by rw [F.N, F.sc]; exact hb, fun s H Ca cl fp => ⟨fun pins s1 σ H1 v u Q I r h => (h s H Ca cl fp).run pins s1 u I r⟩, fun s H Ca cl fp => ⟨fun pins s1 σ H1 Q I h => (h s H Ca cl fp).run pins s1 I⟩, fun s H Ca cl fp => ⟨fun pins s1 σ H1 Q I h => (h s H Ca cl fp).run pins s1 I⟩, fun σ T H Q S q => ?_⟩
  refine hi X F σ T H _ S fun v d T1 H1 S1 st1 i1 k1 => ?_
  obtain ⟨m, rfl, hm1, hm2⟩ := hP d k1
  cases i1
  refine ⟨m, rfl, by omega, by omega, fun D hD => lc_range (lo := 0) (n := m.toNat) (LcSt C σ ρ T1 H1 D J) (lc_start S1 hD h0) (fun n H2 hn L => ?_) (fun H2 L => ?_)⟩
  · have e : (0 : Int) + (n : Int) = (n : Int) := Int.zero_add _
    rw [e]
    exact lc_turn F L (by omega) (.int _) fun acc ja => ht m n acc k1 (by omega) ja
  · exact lc_done L (fun acc ja => hd m acc k1 ja) fun v d T' H' S' st' => q v d T' H' S' (st1.trans st')
end
end DL

end
section
/-! The data layer: statements, loops; defs and their promises. -/
namespace DL
open PySem PySem.Spec PyProof.Rows L2 Evl

structure DEnds where
  nx : DEnv → Prop
  rt : Dat → Prop
  bk : DEnv → Prop := fun _ => False
  ct : DEnv → Prop := fun _ => False
structure RSt (C : DC) (T H : Hp) : Prop where
  ex : Ex T H
  step : Step C.mv C.T0 C.H0 T H
  jv : C.jv H
  wd : ∀ w, C.wd = some w → Wood H w
theorem DSt.r {C : DC} {σ : L2.St} {T H : Hp} {ρ : DEnv} (S : DSt C σ T H ρ) : RSt C T H := ⟨S.ex, S.step, S.jv, S.wd⟩
def ends (C : DC) (Tb : Hp) (D : DEnds) : Ends where
  nx := fun σ H => ∃ T ρ, DSt C σ T H ρ ∧ Ex Tb T ∧ D.nx ρ
  rt := fun v H => ∃ T d, RSt C T H ∧ Is C.G.K T v d ∧ D.rt d
  bk := fun σ H => ∃ T ρ, DSt C σ T H ρ ∧ Ex Tb T ∧ D.bk ρ
  ct := fun σ H => ∃ T ρ, DSt C σ T H ρ ∧ Ex Tb T ∧ D.ct ρ
def SD (C : DC) (sts : List Stmt) (ρ : DEnv) (D : DEnds) : Prop :=
  ∀ (X : Cx), Fx C X → ∀ (σ : L2.St) (T H Tb : Hp), DSt C σ T H ρ → Ex Tb T → WSs X sts (ends C Tb D) σ H
theorem ws_mono {X : Cx} {sts : List Stmt} {D D' : Ends} {σ : L2.St} {H : Hp} (h : WSs X sts D σ H) (h1 : ∀ σ H, D.nx σ H → D'.nx σ H) (h2 : ∀ v H, D.rt v H → D'.rt v H) (h3 : ∀ σ H, D.bk σ H → D'.bk σ H) (h4 : ∀ σ H, D.ct σ H → D'.ct σ H) : WSs X sts D' σ H := ⟨fun pins s I =>
  thn (h.run pins s I) fun f s' q => by
    cases f with
    | next => obtain ⟨σ', H', I', q⟩ := q; exact ⟨σ', H', I', h1 _ _ q⟩
    | brk => obtain ⟨σ', H', I', q⟩ := q; exact ⟨σ', H', I', h3 _ _ q⟩
    | cont => obtain ⟨σ', H', I', q⟩ := q; exact ⟨σ', H', I', h4 _ _ q⟩
    | ret u => obtain ⟨v, σ', H', I', r, q⟩ := q; exact ⟨v, σ', H', I', r, h2 _ _ q⟩⟩
section
variable {C : DC} {e a b c o : Expr} {es : List Expr} {ρ ρ' : DEnv} {rest sts sts' : List Stmt} {D : DEnds} {x y : Str} {p p' p2 p3 pos spos : Pos}
theorem SD.mono {D' : DEnds} (h : SD C sts ρ D) (h1 : ∀ ρ, D.nx ρ → D'.nx ρ) (h2 : ∀ d, D.rt d → D'.rt d) (h3 : ∀ ρ, D.bk ρ → D'.bk ρ) (h4 : ∀ ρ, D.ct ρ → D'.ct ρ) : SD C sts ρ D' := fun X F σ T H Tb S e =>
  ws_mono (h X F σ T H Tb S e) (fun _ _ ⟨T, ρ, a, b, c⟩ => ⟨T, ρ, a, b, h1 _ c⟩) (fun _ _ ⟨T, d, a, b, c⟩ => ⟨T, d, a, b, h2 _ c⟩) (fun _ _ ⟨T, ρ, a, b, c⟩ => ⟨T, ρ, a, b, h3 _ c⟩) (fun _ _ ⟨T, ρ, a, b, c⟩ => ⟨T, ρ, a, b, h4 _ c⟩)
theorem sd_nil (h : D.nx ρ) : SD C [] ρ D := fun X F σ T H Tb S e => ws_of pss_nil ⟨T, ρ, S, e, h⟩
theorem sd_ret (h : WD C e ρ D.rt) : SD C (.Return (some e) pos :: rest) ρ D := fun X F σ T H Tb S x =>
  ws_of (pss_cons (ps_ret pe_we) pss_never) (h X F σ T H _ S fun v d T' H' S' st i k => ⟨T', d, S'.r, i, k⟩)
theorem sd_retE {d : Dat} (h : ED C e ρ d) (k : D.rt d) : SD C (.Return (some e) pos :: rest) ρ D := sd_ret (wd_of h k)
/-- name = e -/
theorem sd_setW (i : Nat) (hi : C.N[i]? = some x) (hl : C.sc.names.lookup x = some .local ∨ (C.df = true ∧ C.sc.names.lookup x = some .cell)) (h : WD C e ρ fun d => SD C rest (ρ.set i (some (.d d))) D)
    (hs : ∀ env : Env, swapsWith e (some (.Name x p)) pos.line env = pure false := by intro _; rfl) : SD C (.Assign [.Name x p] e pos :: rest) ρ D := fun X F σ T H Tb S ex => by
  have fin : PS X (.Assign [.Name x p] e pos) (tAsg (WE X e) (gName i)) := by
    rcases hl with hl | ⟨hd, hl⟩
    · exact ps_set (by rw [F.N]; exact F.nd) (by rw [F.N]; exact hi) (.inl (by rw [F.sc]; exact hl)) pe_we (hs _) (.inr (by rw [F.sc]; exact hl))
    · exact ps_set (by rw [F.N]; exact F.nd) (by rw [F.N]; exact hi) (.inr (by rw [F.sc]; exact hl)) pe_we (hs _) (.inl (F.fn hd x))
  exact ws_of (pss_cons fin ps_we) (h X F σ T H _ S fun v d T' H' S' st i k => k X F _ T' H' Tb (S'.set i) (ex.trans st.t))
theorem sd_set {d : Dat} (i : Nat) (hi : C.N[i]? = some x) (hl : C.sc.names.lookup x = some .local) (h : ED C e ρ d) (k : SD C rest (ρ.set i (some (.d d))) D)
    (hs : ∀ env : Env, swapsWith e (some (.Name x p)) pos.line env = pure false := by intro _; rfl) : SD C (.Assign [.Name x p] e pos :: rest) ρ D := sd_setW i hi (.inl hl) (wd_of h k) hs
theorem sd_setC {d : Dat} (i : Nat) (hi : C.N[i]? = some x) (hd : C.df = true) (hl : C.sc.names.lookup x = some .cell) (h : ED C e ρ d) (k : SD C rest (ρ.set i (some (.d d))) D)
    (hs : ∀ env : Env, swapsWith e (some (.Name x p)) pos.line env = pure false := by intro _; rfl) : SD C (.Assign [.Name x p] e pos :: rest) ρ D := sd_setW i hi (.inr ⟨hd, hl⟩) (wd_of h k) hs
/-- name = [..] -/
theorem sd_setLc {elt tg iter : Expr} {ifs : List Expr} {scope : Scope} (i : Nat) (hi : C.N[i]? = some x) (hl : C.sc.names.lookup x = some .local) (hk : C.sc.kind = .function) (ha : (scope.names.any fun (n, k) => n == x && (k == .local || k == .cell)) = false)
    (h : LcD C elt tg iter ifs scope ρ fun d => SD C rest (ρ.set i (some (.d d))) D) (hline : (p.line == pos.line) = true := by rfl) (hs : ∀ (env : Env) x, foldedSetIterable iter env x = pure x := by intro _ _; rfl) : SD C (.Assign [.Name x p] (.ListComp elt [⟨tg, iter, ifs, 0⟩] scope pos) spos :: rest) ρ D := fun X F σ T H Tb S ex => by
  obtain ⟨wi, g, tt, te, own, h1, h2, h3, h4, h5, h6⟩ := h X F
  refine ws_of (pss_cons (ps_setLc (i := i) F.calm (by rw [F.N]; exact F.nd) (by rw [F.N]; exact hi) (by rw [F.sc]; exact hl) (sw_true (by rw [F.sc]; exact hk) (by rw [F.sc]; exact hl) hline ha) h1 h2 h3 h4 h5 (hs _)) ps_we) ?_
  exact h6 σ T H _ S fun v d T' H' S' st i k => k X F _ T' H' Tb (S'.set i) (ex.trans st.t)
/-- a, b = a tuple of two -/
theorem sd_unpack {d d' : Dat} {k : Nat} (i j : Nat) (hi : C.N[i]? = some x) (hl : C.sc.names.lookup x = some .local) (hj : C.N[j]? = some y) (hl2 : C.sc.names.lookup y = some .local) (h : ED C e ρ (.tup [d, d'])) (kk : SD C rest ((ρ.set i (some (.d d))).set j (some (.d d'))) D)
    (hs : ∀ env : Env, swapsWithSole [.Tuple [.Name x p, .Name y p'] k p2] e pos.line env = pure false := by intro _; rfl) (hw : ∀ env : Env, swappedStores [.Tuple [.Name x p, .Name y p'] k p2] e env = pure none := by intro _; rfl) : SD C (.Assign [.Tuple [.Name x p, .Name y p'] k p2] e pos :: rest) ρ D := fun X F σ T H Tb S ex => by
  refine ws_of (pss_cons (ps_asg pe_we (pg_we (tg := .Tuple [.Name x p, .Name y p'] k p2)) (hs _) (hw _) rfl) ps_we) ?_
  refine h X F σ T H _ S fun v d T' H' S' st i1 k1 => ?_
  subst k1
  exact gd_pair i j hi (.inl hl) hj (.inl hl2) X F σ T' H' v _ S' i1 fun σ' S2 _ => kk X F σ' T' H' Tb S2 (ex.trans st.t)
/-- a, b, c = a tuple of three -/
theorem sd_unpack3 {d d' d'' : Dat} {k : Nat} {z : Str} {pz : Pos} (i j l : Nat) (hi : C.N[i]? = some x) (hl : C.sc.names.lookup x = some .local) (hj : C.N[j]? = some y) (hl2 : C.sc.names.lookup y = some .local) (hh : C.N[l]? = some z) (hl3 : C.sc.names.lookup z = some .local) (h : ED C e ρ (.tup [d, d', d'']))
    (kk : SD C rest (((ρ.set i (some (.d d))).set j (some (.d d'))).set l (some (.d d''))) D)
    (hs : ∀ env : Env, swapsWithSole [.Tuple [.Name x p, .Name y p', .Name z pz] k p2] e pos.line env = pure false := by intro _; rfl) (hw : ∀ env : Env, swappedStores [.Tuple [.Name x p, .Name y p', .Name z pz] k p2] e env = pure none := by intro _; rfl) : SD C (.Assign [.Tuple [.Name x p, .Name y p', .Name z pz] k p2] e pos :: rest) ρ D := fun X F σ T H Tb S ex => by
  refine ws_of (pss_cons (ps_asg pe_we (pg_tup F.calm (pgs_cons (pg_nameD F i hi (.inl hl)) (pgs_cons (pg_nameD F j hj (.inl hl2)) (pgs_cons (pg_nameD F l hh (.inl hl3)) pgs_nil)))) (hs _) (hw _) rfl) ps_we) ?_
  refine h X F σ T H _ S fun v d T' H' S' st i1 k1 => ?_
  subst k1
  show gTup X.K _ _ _ _ _ _
  rw [F.K]
  cases i1 with
  | tup hq hA =>
    cases hA with
    | cons h1 hA =>
      cases hA with
      | cons h2 hA =>
        cases hA with
        | cons h3 hA =>
          cases hA
          exact ⟨_, _, rfl, ex_t S'.ex hq, rfl, _, _, rfl, _, _, rfl, _, _, rfl, rfl, kk X F _ T' H' Tb (((S'.set h1).set h2).set h3) (ex.trans st.t)⟩
/-- a, b = e1, e2 -/
theorem sd_parW {k k2 : Nat} (i j : Nat) (hi : C.N[i]? = some x) (hl : C.sc.names.lookup x = some .local) (hj : C.N[j]? = some y) (hl2 : C.sc.names.lookup y = some .local) (hij : i ≠ j) (h : AD C [a, b] ρ fun ds => ∃ d d', ds = [d, d'] ∧ SD C rest ((ρ.set i (some (.d d))).set j (some (.d d'))) D)
    (hw : ∀ (env : Env), env.scope.kind = .function → env.scope.names.lookup x = some .local → env.scope.names.lookup y = some .local → swappedStores [.Tuple [.Name x p, .Name y p'] k p2] (.Tuple [a, b] k2 p3) env = pure (some [x, y])) (hk : C.sc.kind = .function)
    (hs : ∀ env : Env, swapsWithSole [.Tuple [.Name x p, .Name y p'] k p2] (.Tuple [a, b] k2 p3) pos.line env = pure false := by intro _; rfl) : SD C (.Assign [.Tuple [.Name x p, .Name y p'] k p2] (.Tuple [a, b] k2 p3) pos :: rest) ρ D := fun X F σ T H Tb S ex => by
  refine ws_of (pss_cons (ps_par F.calm (by rw [F.N]; exact F.nd) (by rw [F.N]; exact hi) (by rw [F.N]; exact hj) hij (by rw [F.sc]; exact hl) (by rw [F.sc]; exact hl2) pa_we (hw _ (by rw [F.sc]; exact hk) (by rw [F.sc]; exact hl) (by rw [F.sc]; exact hl2)) (hs _)) ps_we) ?_
  refine h X F σ T H _ S fun vs ds T' H' S' st i1 k1 => ?_
  obtain ⟨d, d', rfl, kk⟩ := k1
  cases i1 with
  | cons h1 hA =>
    cases hA with
    | cons h2 hA =>
      cases hA
      exact ⟨_, _, rfl, kk X F _ T' H' Tb ((S'.set h1).set h2) (ex.trans st.t)⟩
/-- if -/
theorem sd_ifW (h : TD C c ρ fun x => (x = true → SD C sts ρ { D with nx := fun ρ' => SD C rest ρ' D }) ∧ (x = false → SD C sts' ρ { D with nx := fun ρ' => SD C rest ρ' D })) : SD C (.If c sts sts' pos :: rest) ρ D := fun X F σ T H Tb S ex => by
  refine ws_of (pss_cons (ps_if pt_we ps_we ps_we) ps_we) ?_
  refine h X F σ T H _ S fun z T' H' S' st k => ?_
  have fin : ∀ ss, SD C ss ρ { D with nx := fun ρ' => SD C rest ρ' D } → WSs X ss { ends C Tb D with nx := WSs X rest (ends C Tb D) } σ H' := fun ss hh =>
    ws_mono (hh X F σ T' H' Tb S' (ex.trans st.t)) (fun σ2 H2 ⟨T2, ρ2, S2, e2, k2⟩ => k2 X F σ2 T2 H2 Tb S2 e2) (fun _ _ q => q) (fun _ _ q => q) (fun _ _ q => q)
  cases z with
  | true => exact iteT (fin _ (k.1 rfl))
  | false => exact iteF (fin _ (k.2 rfl))
theorem sd_if {z : Bool} (h : ET C c ρ z) (h1 : z = true → SD C sts ρ { D with nx := fun ρ' => SD C rest ρ' D }) (h2 : z = false → SD C sts' ρ { D with nx := fun ρ' => SD C rest ρ' D }) : SD C (.If c sts sts' pos :: rest) ρ D := sd_ifW (td_of h ⟨h1, h2⟩)
/-- if without else -/
theorem sd_when {z : Bool} (h : ET C c ρ z) (h1 : z = true → SD C sts ρ { D with nx := fun ρ' => SD C rest ρ' D }) (h2 : z = false → SD C rest ρ D) : SD C (.If c sts [] pos :: rest) ρ D := sd_if h h1 fun e => sd_nil (h2 e)
theorem sd_whenW (h : TD C c ρ fun x => (x = true → SD C sts ρ { D with nx := fun ρ' => SD C rest ρ' D }) ∧ (x = false → SD C rest ρ D)) : SD C (.If c sts [] pos :: rest) ρ D := sd_ifW (h.mono fun x k => ⟨k.1, fun e => sd_nil (k.2 e)⟩)
theorem sd_yes {z : Bool} (h : ET C c ρ z) (e : z = true) (h1 : SD C sts ρ { D with nx := fun ρ' => SD C rest ρ' D }) : SD C (.If c sts sts' pos :: rest) ρ D := sd_if h (fun _ => h1) fun e' => (by rw [e] at e'; cases e')
theorem sd_no {z : Bool} (h : ET C c ρ z) (e : z = false) (h1 : SD C rest ρ D) : SD C (.If c sts [] pos :: rest) ρ D := sd_when h (fun e' => (by rw [e] at e'; cases e')) fun _ => h1
/-- an expression whose value is dropped -/
theorem sd_exprW (h : WD C e ρ fun _ => SD C rest ρ D) (hs : ∀ env : Env, swapsWith e none pos.line env = pure false := by intro _; rfl) : SD C (.Expr e pos :: rest) ρ D := fun X F σ T H Tb S ex =>
  ws_of (pss_cons (ps_expr pe_we (hs _)) ps_we) (h X F σ T H _ S fun v d T' H' S' st i k => k X F σ T' H' Tb S' (ex.trans st.t))
/-! ### loops -/
theorem sd_for {tg : Expr} {body : List Stmt} {wi : Cx → TI} (hdf : C.df = true) (hi : ∀ X, Fx C X → PI X tg e (wi X))
    (h : ∀ X, Fx C X → ∀ (σ : L2.St) (T H Tb : Hp), DSt C σ T H ρ → Ex Tb T → wi X σ H fun J H1 => ∃ W : Nat → Nat → L2.St → Hp → Prop, (∃ m, W 0 m σ H1) ∧ ∀ i m σ H, W i m σ H →
      (J.stop i H ∧ WSs X rest (ends C Tb D) σ H) ∨ (J.go i H ∧ ∃ N : L2.St → Hp → Prop, (∀ σ' H', N σ' H' → ∃ m', m' < m ∧ W (i + 1) m' σ' H') ∧ ∀ x H', J.yld i H x H' → WG X tg x σ H' fun σ2 H2 => WSs X body { ends C Tb D with nx := N, ct := N, bk := WSs X rest (ends C Tb D) } σ2 H2))
    (hs : ∀ (env : Env) x, foldedSetIterable e env x = pure x := by intro _ _; rfl) : SD C (.For tg e body [] pos :: rest) ρ D := fun X F σ T H Tb S ex =>
  ws_of (pss_cons (ps_for (F.own hdf) F.calm (hi X F) pg_we ps_we (hs _)) ps_we) (h X F σ T H Tb S ex)
/-- one turn -/
def TurnS (C : DC) (tg : Expr) (body rest : List Stmt) (D : DEnds) (ρ : DEnv) (d : Dat) (J : DEnv → Prop) : Prop :=
  ∃ (vs : List Nat) (ρ' : DEnv), GD C vs tg ρ d ρ' ∧ SD C body ρ' { D with nx := J, ct := J, bk := fun ρ => SD C rest ρ D }
theorem turn_go {tg : Expr} {body : List Stmt} {d : Dat} {J : DEnv → Prop} {X : Cx} (F : Fx C X) {σ : L2.St} {T H Tb Tc : Hp} {v : V} (t : TurnS C tg body rest D ρ d J) (S : DSt C σ T H ρ) (e1 : Ex Tc T) (e0 : Ex Tb Tc) (iv : Is C.G.K T v d) :
    WG X tg v σ H fun σ2 H2 => WSs X body { ends C Tb D with nx := fun σ H => ∃ T ρ, DSt C σ T H ρ ∧ Ex Tc T ∧ J ρ, ct := fun σ H => ∃ T ρ, DSt C σ T H ρ ∧ Ex Tc T ∧ J ρ, bk := WSs X rest (ends C Tb D) } σ2 H2 := by
  obtain ⟨vs, ρ', g, hb⟩ := t
  refine g X F σ T H v _ S iv fun σ' S' _ => ?_
  exact ws_mono (hb X F σ' T H Tc S' e1) (fun _ _ q => q) (fun _ _ q => q) (fun σ2 H2 ⟨T2, ρ2, S2, e2, k2⟩ => k2 X F σ2 T2 H2 Tb S2 (e0.trans e2)) (fun _ _ q => q)
theorem sd_forL {tg : Expr} {body : List Stmt} {ds : List Dat} (hdf : C.df = true) (hi : ED C e ρ (.lst ds)) (J : Nat → DEnv → Prop) (h0 : J 0 ρ) (ht : ∀ n d ρ', ds[n]? = some d → J n ρ' → TurnS C tg body rest D ρ' d (J (n + 1))) (hd : ∀ ρ', J ds.length ρ' → SD C rest ρ' D)
    (hs : ∀ (env : Env) x, foldedSetIterable e env x = pure x := by intro _ _; rfl) : SD C (.For tg e body [] pos :: rest) ρ D := by
  refine sd_for (wi := fun X => iList X.K (WE X e)) hdf (fun X F => pi_list pe_we) (fun X F σ T H Tb S ex => ?_) hs
  show iList X.K _ _ _ _
  rw [F.K]
  refine hi X F σ T H _ S fun v d T1 H1 S1 st1 i1 k1 => ?_
  subst k1
  cases i1 with
  | lst hq hA =>
    rename_i xs
    refine ⟨_, rfl, ⟨_, sq_of (S1.ex _ _ hq)⟩, ?_⟩
    refine for_list (K := C.G.K) (D := { ends C Tb D with nx := WSs X rest (ends C Tb D) }) (xs := xs) (fun i σ H => ∃ T ρ, DSt C σ T H ρ ∧ Ex T1 T ∧ J i ρ) ⟨T1, ρ, S1, Ex.refl _, h0⟩ (fun i σ' H' _ ⟨T', ρ', S', e', _⟩ => sq_of (S'.ex _ _ (e' _ _ hq))) (fun i x σ' H' hx ⟨T', ρ', S', e', j'⟩ => ?_) (fun σ' H' ⟨T', ρ', S', e', j'⟩ => ?_)
    · obtain ⟨d, hd', hxd⟩ := hA.atV hx
      exact turn_go F (ht i d ρ' hd' j') S' e' (ex.trans st1.t) (hxd.mono e')
    · rw [hA.length] at j'
      exact hd ρ' j' X F σ' T' H' Tb S' ((ex.trans st1.t).trans e')
theorem sd_forT {tg : Expr} {body : List Stmt} {ds : List Dat} (hdf : C.df = true) (hi : ED C e ρ (.tup ds)) (J : Nat → DEnv → Prop) (h0 : J 0 ρ) (ht : ∀ n d ρ', ds[n]? = some d → J n ρ' → TurnS C tg body rest D ρ' d (J (n + 1))) (hd : ∀ ρ', J ds.length ρ' → SD C rest ρ' D)
    (hs : ∀ (env : Env) x, foldedSetIterable e env x = pure x := by intro _ _; rfl) : SD C (.For tg e body [] pos :: rest) ρ D := by
  refine sd_for (wi := fun X => iTup X.K (WE X e)) hdf (fun X F => pi_tup pe_we) (fun X F σ T H Tb S ex => ?_) hs
  show iTup X.K _ _ _ _
  rw [F.K]
  refine hi X F σ T H _ S fun v d T1 H1 S1 st1 i1 k1 => ?_
  subst k1
  cases i1 with
  | tup hq hA =>
    rename_i xs
    refine ⟨_, rfl, ⟨_, ex_t S1.ex hq⟩, ?_⟩
    refine for_tup (K := C.G.K) (D := { ends C Tb D with nx := WSs X rest (ends C Tb D) }) (xs := xs) (fun i σ H => ∃ T ρ, DSt C σ T H ρ ∧ Ex T1 T ∧ J i ρ) ⟨T1, ρ, S1, Ex.refl _, h0⟩ (fun i σ' H' _ ⟨T', ρ', S', e', _⟩ => ex_t S'.ex (ex_t e' hq)) (fun i x σ' H' hx ⟨T', ρ', S', e', j'⟩ => ?_) (fun σ' H' ⟨T', ρ', S', e', j'⟩ => ?_)
    · obtain ⟨d, hd', hxd⟩ := hA.atV hx
      exact turn_go F (ht i d ρ' hd' j') S' e' (ex.trans st1.t) (hxd.mono e')
    · rw [hA.length] at j'
      exact hd ρ' j' X F σ' T' H' Tb S' ((ex.trans st1.t).trans e')
theorem sd_forR {tg : Expr} {body : List Stmt} {m : Int} {pr : Pos} (hdf : C.df = true) (hi : ED C a ρ (.int m)) (hm : m < 2 ^ 62 ∧ -(2 ^ 62) ≤ m) (hg : C.sc.names.lookup ("range" : Str) = some .globalImplicit) (hr : C.G.mg "range" = none) (J : Nat → DEnv → Prop) (h0 : J 0 ρ) (ht : ∀ (n : Nat) ρ', (n : Int) < m → J n ρ' → TurnS C tg body rest D ρ' (.int (n : Int)) (J (n + 1)))
    (hd : ∀ ρ', J m.toNat ρ' → SD C rest ρ' D) (hs1 : ∀ env : Env, starEach [a] env = [(false, eval a env)] := by intro _; rfl) (hs2 : ∀ env : Env, starEach [a] env = (false, eval a env) :: starEach [] env := by intro _; rfl)
    (hs : ∀ (env : Env) x, foldedSetIterable (.Call (.Name "range" p) [a] [] pr) env x = pure x := by intro _ _; rfl) : SD C (.For tg (.Call (.Name "range" p) [a] [] pr) body [] pos :: rest) ρ D := by
  refine sd_for (wi := fun X => iRng1 (tCons (WE X a) tNil)) hdf (fun X F => pi_range1 (gl_of F hg) (by rw [F.mg]; exact hr) (pa_cons pe_we pa_nil (hs2 _)) (hs1 _)) (fun X F σ T H Tb S ex => ?_) hs
  refine hi X F σ T H _ S fun v d T1 H1 S1 st1 i1 k1 => ?_
  subst k1
  cases i1
  refine ⟨m, rfl, hm.2, hm.1, ?_⟩
  refine for_range (D := { ends C Tb D with nx := WSs X rest (ends C Tb D) }) (lo := 0) (n := m.toNat) (fun i σ H => ∃ T ρ, DSt C σ T H ρ ∧ Ex T1 T ∧ J i ρ) ⟨T1, ρ, S1, Ex.refl _, h0⟩ (fun i σ' H' hx ⟨T', ρ', S', e', j'⟩ => ?_) (fun σ' H' ⟨T', ρ', S', e', j'⟩ => ?_)
  · have z : (0 : Int) + (i : Int) = (i : Int) := Int.zero_add _
    rw [z]
    exact turn_go F (ht i ρ' (by omega) j') S' e' (ex.trans st1.t) (.int _)
  · exact hd ρ' j' X F σ' T' H' Tb S' ((ex.trans st1.t).trans e')
/-- while, by a measure -/
theorem sd_while {body : List Stmt} (hdf : C.df = true) (W : Nat → DEnv → Prop) (m0 : Nat) (h0 : W m0 ρ) (ht : ∀ m ρ', W m ρ' → TD C c ρ' fun z => (z = true → SD C body ρ' { D with nx := fun ρ2 => ∃ m', m' < m ∧ W m' ρ2, ct := fun ρ2 => ∃ m', m' < m ∧ W m' ρ2, bk := fun ρ => SD C rest ρ D }) ∧ (z = false → SD C rest ρ' D)) : SD C (.While c body [] pos :: rest) ρ D := fun X F σ T H Tb S ex => by
  refine ws_of (pss_cons (ps_while (F.own hdf) pt_we ps_we) ps_we) ?_
  refine ⟨fun m σ H => ∃ T ρ, DSt C σ T H ρ ∧ Ex Tb T ∧ W m ρ, ⟨m0, T, ρ, S, ex, h0⟩, ?_⟩
  rintro m σ1 H1 ⟨T1, ρ1, S1, e1, w1⟩
  refine ht m ρ1 w1 X F σ1 T1 H1 _ S1 fun z T2 H2 S2 st2 k2 => ?_
  cases z with
  | false => exact iteF (k2.2 rfl X F σ1 T2 H2 Tb S2 (e1.trans st2.t))
  | true =>
    refine iteT ⟨fun σ H => ∃ T ρ, DSt C σ T H ρ ∧ Ex Tb T ∧ ∃ m', m' < m ∧ W m' ρ, fun σ' H' ⟨T', ρ', S', e', m', h1, h2⟩ => ⟨m', h1, T', ρ', S', e', h2⟩, ?_⟩
    exact ws_mono (k2.1 rfl X F σ1 T2 H2 Tb S2 (e1.trans st2.t)) (fun _ _ q => q) (fun _ _ q => q) (fun σ3 H3 ⟨T3, ρ3, S3, e3, k3⟩ => k3 X F σ3 T3 H3 Tb S3 e3) (fun _ _ q => q)
end

/-! ### defs -/
def spD (K : PySem.W.Frag) (φ : List Dat → (Dat → Prop) → (Value → Prop) → Prop) : Sp := fun vs H Q E =>
  ∃ (T : Hp) (ds : List Dat) (k : Dat → Prop) (kx : Value → Prop), Ex T H ∧ (∀ a ps, T a ≠ some (.tbl ps)) ∧ IsA K T vs ds ∧ φ ds k kx ∧ (∀ v d T' H', Step mv0 T H T' H' → Ex T' H' → Is K T' v d → k d → Q v H') ∧ ∀ c T' H', Step mv0 T H T' H' → Ex T' H' → kx c → E c none H'
structure FnD (G : Gm) (r : Nat) (x : Str) (φ : List Dat → (Dat → Prop) → (Value → Prop) → Prop) : Prop where
  ex : ∃ (f : Addr) (fd : FuncData) (ps : List Str), G.mg x = some (.ref f) ∧ PySem.W.keepIn G.K (.ref f) = true ∧ Binds G.K fd ps [] ∧ FnOk G.P G.w G.K G.mg G.base (L2N.CX G.P G.w) r f fd ps (spD G.K φ)
theorem FnD.mono {G : Gm} {r r' : Nat} {x : Str} {φ : List Dat → (Dat → Prop) → (Value → Prop) → Prop} (F : FnD G r x φ) (h : r ≤ r') : FnD G r' x φ := by
  obtain ⟨f, fd, ps, h1, h2, h3, h4⟩ := F.ex
  exact ⟨f, fd, ps, h1, h2, h3, h4.mono h⟩
section
variable {C : DC} {e : Expr} {es : List Expr} {ρ : DEnv} {x : Str} {p pos : Pos} {φ : List Dat → (Dat → Prop) → (Value → Prop) → Prop}
theorem wd_call {r : Nat} {k : Dat → Prop} (G : FnD C.G r x φ) (hr : r ≤ C.r) (hg : C.sc.names.lookup x = some .globalImplicit) (h : AD C (e :: es) ρ fun ds => φ ds k C.kx) (hdb : (x == ("__debug__" : Str)) = false := by decide)
    (he : ∀ env : Env, starEach (e :: es) env = (false, eval e env) :: starEach es env := by intro _; rfl) (hpl : ∀ env : Env, (backTo pos (starEach es env)).any (·.1) = false := by intro _; rfl) : WD C (.Call (.Name x p) (e :: es) [] pos) ρ k := fun X F σ T H Q S q => by
  obtain ⟨f, fd, ps, h1, h2, h3, h4⟩ := G.ex
  have h4' : FnOk X.prog X.w X.K X.mg X.base (L2N.CX X.prog X.w) C.r f fd ps (spD X.K φ) := by
    rw [F.prog, F.wld, F.K, F.mg, F.base]
    exact h4.mono hr
  have hx : L2.Passes (L2N.CX X.prog X.w) X (fun c d H' => d = none ∧ C.kx c ∧ ∃ T', RSt C T' H') := L2N.passes_call F.tk fun c d σ' H' ⟨hd, hc, T', R⟩ => by
    subst hd
    exact C.hx c σ' T' H' R.step R.ex R.jv R.wd hc
  refine we_of (pe_call h4' F.room (gl_of F hg) (by rw [F.mg]; exact h1) (by rw [F.K]; exact h2) (by rw [F.K]; exact h3) .nil hx pa_we hdb (he _) (hpl _)) ?_
  refine h X F σ T H _ S fun vs ds T1 H1 S1 st1 i1 k1 => ?_
  show spD X.K φ (vs ++ []) H1 Q _
  rw [List.append_nil, F.K]
  refine ⟨T1, ds, k, C.kx, S1.ex, S1.tf, i1, k1, fun v d T' H' st ex' iv kd => ?_, fun c T' H' st ex' kc => ⟨rfl, kc, T', (S1.go0 ex' st).r⟩⟩
  exact q v d T' H' (S1.go0 ex' st) (st1.trans st.up) iv kd
theorem ed_call {r : Nat} {d : Dat} {ds : List Dat} (G : FnD C.G r x φ) (hr : r ≤ C.r) (hg : C.sc.names.lookup x = some .globalImplicit) (h : EA C (e :: es) ρ ds) (hφ : φ ds (fun y => y = d) C.kx) (hdb : (x == ("__debug__" : Str)) = false := by decide)
    (he : ∀ env : Env, starEach (e :: es) env = (false, eval e env) :: starEach es env := by intro _; rfl) (hpl : ∀ env : Env, (backTo pos (starEach es env)).any (·.1) = false := by intro _; rfl) : ED C (.Call (.Name x p) (e :: es) [] pos) ρ d := wd_call G hr hg (ad_of h hφ) hdb he hpl
end
def rho0 (N : List Str) (ds : List Dat) : DEnv := ds.map (fun d => some (.d d)) ++ List.replicate (N.length - ds.length) none
abbrev mkC (G : Gm) (N : List Str) (sc : Scope) (r : Nat) (W : WX) (T0 H0 : Hp) (kx : Value → Prop) (hx : ∀ c σ T H, Step mv0 T0 H0 T H → Ex T H → kx c → W c none σ H) : DC where
  G := G
  N := N
  sc := sc
  r := r
  W := W
  wd := none
  tb := False
  jv := fun _ => True
  T0 := T0
  H0 := H0
  kx := kx
  df := true
  cq := fun _ => True
  stab := fun _ _ _ _ => trivial
  hx := fun c σ T H st e _ _ hc => hx c σ T H (st.weak fun a o z => z.elim (fun q => nomatch q) fun q => q.1.elim) e hc
theorem start_at {N : List Str} {vs : List V} {ds : List Dat} {K : PySem.W.Frag} {T : Hp} (hA : IsA K T vs ds) (i : Nat) (x : Dat) (h : (rho0 N ds)[i]? = some (some (.d x))) : ∃ v, (L2.start N vs)[i]? = some (some v) ∧ Is K T v x := by
  unfold rho0 at h
  unfold L2.start
  by_cases hi : i < ds.length
  · rw [List.getElem?_append_left (by simpa using hi), List.getElem?_map] at h
    cases q : ds[i]? with
    | none => rw [q] at h; cases h
    | some d =>
      rw [q] at h
      cases h
      obtain ⟨v, h1, h2⟩ := hA.at q
      exact ⟨v, by rw [List.getElem?_append_left (by rw [List.length_map, hA.length]; exact hi), List.getElem?_map, h1]; rfl, h2⟩
  · rw [List.getElem?_append_right (by simpa using hi), List.getElem?_replicate] at h
    split at h <;> cases h
theorem fun_okN {P : Program} {w : World} {K : PySem.W.Frag} {mg : Str → Option Value} {base : Heap} {x q : Str} {st : Stmt} {f : Addr} {fd : FuncData} {N ps : List Str} {k : Nat} {sp : Sp} (F : Fun K x q st f fd) (S : FnScope N ps (defScope st)) (hlen : ∀ vs H Q E, sp vs H Q E → vs.length = ps.length)
    (body : ∀ (c : Value) (A : Around) (o : List Env) (s : Shared) (H : Hp) (vs : List V) (Q : VK) (E : XK), Room k (A.deeper (envOfC q (defScope st) s.heap.objs.size f c)) → sp vs H Q E →
      ∃ t, PSs (cxOf (L2N.CX P w) P w K mg base N q (defScope st) f c A o s H E) (defBody st) t ∧ t { nx := fun _ H' => Q .non H', rt := Q } (L2.start N vs) H) : FnOk P w K mg base (L2N.CX P w) (k + 1) f fd ps sp := by
  obtain ⟨_, _, _, _, _, _, c, _, _, rfl, lk, hc⟩ := F.ex
  exact fn_of lk hc S hlen fun A o s H vs Q E hr => body c A o s H vs Q E hr
theorem fnD_of {G : Gm} {x : Str} {st : Stmt} {N ps : List Str} {k : Nat} {φ : List Dat → (Dat → Prop) → (Value → Prop) → Prop} (hf : ∃ f fd, Fun G.K x x st f fd ∧ G.mg x = some (.ref f) ∧ Binds G.K fd ps []) (S : FnScope N ps (defScope st)) (hl : ∀ ds k kx, φ ds k kx → ds.length = ps.length)
    (body : ∀ (W : WX) (T0 H0 : Hp) (kx : Value → Prop) (hx : ∀ c σ T H, Step mv0 T0 H0 T H → Ex T H → kx c → W c none σ H) (ds : List Dat) (kd : Dat → Prop), φ ds kd kx → SD (mkC G N (defScope st) k W T0 H0 kx hx) (defBody st) (rho0 N ds) { nx := fun _ => kd .non, rt := kd }) : FnD G (k + 1) x φ := by
  obtain ⟨f, fd, F, hm, hb⟩ := hf
  refine ⟨f, fd, ps, hm, F.kp, hb, fun_okN F S (fun vs H Q E h => ?_) (fun cdv A outer s H vs Q E hr h => ?_)⟩
  · obtain ⟨T, ds, kd, kx, _, _, hA, hφ, _⟩ := h
    rw [hA.length]
    exact hl ds kd kx hφ
  · obtain ⟨T, ds, kd, kx, hE, hF, hA, hφ, hQ, hX⟩ := h
    have hx : ∀ c (σ : L2.St) T' H', Step mv0 T H T' H' → Ex T' H' → kx c → (fun (cls : Value) (d : Option Addr) (_ : L2.St) (H : Hp) => E cls d H) c none σ H' := fun c σ T' H' st e kc => hX c T' H' st e kc
    have hl2 := hl ds kd kx hφ
    have hn : ps.length ≤ N.length := by
      have := congrArg List.length S.pre
      rw [List.length_take] at this
      omega
    refine ⟨_, ps_we, ?_⟩
    have FX : Fx (mkC G N (defScope st) k (fun cls d _ H => E cls d H) T H kx hx) (cxOf (L2N.CX G.P G.w) G.P G.w G.K G.mg G.base N x (defScope st) f cdv A outer s H E) :=
      { prog := rfl, wld := rfl, K := rfl, mg := rfl, base := rfl, N := rfl, sc := rfl, nd := S.nd, calm := rfl, room := hr, tk := L2N.takes_of rfl rfl rfl rfl, fn := fun _ _ => rfl, own := fun _ => passes_of rfl, cq := trivial }
    have ST : DSt (mkC G N (defScope st) k (fun cls d _ H => E cls d H) T H kx hx) (L2.start N vs) T H (rho0 N ds) := by
      refine ⟨hE, Step.refl, trivial, (fun w h => nomatch h), (fun a h => nomatch h), hF, ⟨?_, fun i y h => start_at hA i y h, fun i s h ho => ?_, fun i j s u p _ h _ ho _ => ?_⟩⟩
      · unfold rho0 L2.start
        rw [List.length_append, List.length_append, List.length_map, List.length_map, List.length_replicate, List.length_replicate, hA.length]
      all_goals
        exfalso
        unfold rho0 at h
        by_cases hi : i < ds.length
        · rw [List.getElem?_append_left (by simpa using hi), List.getElem?_map] at h
          cases q : ds[i]? with
          | none => rw [q] at h; cases h
          | some d => rw [q] at h; cases h; exact ho
        · rw [List.getElem?_append_right (by simpa using hi), List.getElem?_replicate] at h
          split at h <;> cases h
    refine ws_mono (body _ T H kx hx ds kd hφ _ FX _ T H T ST (Ex.refl T)) (fun σ' H' ⟨T', ρ', S', _, k'⟩ => ?_) (fun v H' ⟨T', d, R, iv, k'⟩ => ?_) (fun _ _ ⟨_, _, _, _, z⟩ => z) (fun _ _ ⟨_, _, _, _, z⟩ => z)
    · exact hQ .non .non T' H' (S'.step.weak fun a o z => z.elim (fun q => nomatch q) fun q => q.1.elim) S'.ex .non k'
    · exact hQ v d T' H' (R.step.weak fun a o z => z.elim (fun q => nomatch q) fun q => q.1.elim) R.ex iv k'
end DL

end
section
/-! The data layer: module names, raise, own lists. -/
namespace DL
open PySem PySem.Spec PyProof.Rows L2 Evl
/-- an own exception class as the top leaves it -/
structure ExcF (G : Gm) (x : Str) (Cl : Addr) : Prop where
  g : G.mg x = some (.ref Cl)
  q : PySem.W.excIn G.K Cl [.type "ValueError", .type "Exception", .type "BaseException", .type "object"] "ValueError.__new__" = true
  k : PySem.W.keepIn G.K (.ref Cl) = true
  b : PySem.W.subIn G.K (.ref Cl) (.type "BaseException") = some true
  t : PySem.W.typeIn G.K (.ref Cl) = some (.type "type")
section
variable {C : DC} {e a b c o : Expr} {es : List Expr} {ρ ρ' : DEnv} {rest sts sts' : List Stmt} {D : DEnds} {x y : Str} {p p' p2 p3 pos pos2 spos : Pos}
theorem vv (i : Nat) {d : Dat} (hi : C.N[i]? = some x := by rfl) (hd : ρ[i]? = some (some (.d d)) := by rfl) (hv : Vis C.sc x := by first | exact Or.inl rfl | exact Or.inr (Or.inl rfl) | exact Or.inr (Or.inr rfl))
    (h1 : (x == ("__debug__" : Str)) = false := by decide) (h2 : (x == ("__classdict__" : Str)) = false := by decide) : ED C (.Name x pos) ρ d := ed_var i hi hd hv h1 h2
/-- a constant of the module -/
theorem ed_glob {v : V} {u : Value} {d : Dat} (hm : C.G.mg x = some u) (r : RelV v u) (i : ∀ T, Is C.G.K T v d) (hg : C.sc.names.lookup x = some .globalImplicit := by rfl) (hdb : (x == ("__debug__" : Str)) = false := by decide) : ED C (.Name x pos) ρ d := fun X F σ T H Q S q =>
  we_of (pe_glob (gl_of F hg) (by rw [F.mg]; exact hm) r hdb) (q v d T H S Step.refl (i T) rfl)
/-- a written tuple of texts -/
structure KTup (G : Gm) (x : Str) (ss : List Str) : Prop where
  ex : ∃ (a : Addr) (o : Obj) (its : Array Value) (n : Nat), G.mg x = some (.ref a) ∧ G.K.lookup a = some o ∧ o.cls = .type "tuple" ∧ o.data = .seq its n ∧ its.size ≤ sizeLine ∧ Vals (ss.map V.str) its.toList
theorem isA_strs {K : PySem.W.Frag} {T : Hp} : ∀ ss : List Str, IsA K T (ss.map V.str) (ss.map Dat.str)
  | [] => .nil
  | s :: ss => .cons (.str s) (isA_strs ss)
theorem ed_ktup {ss : List Str} (h : KTup C.G x ss) (hg : C.sc.names.lookup x = some .globalImplicit := by rfl) (hdb : (x == ("__debug__" : Str)) = false := by decide) : ED C (.Name x pos) ρ (.tup (ss.map Dat.str)) := by
  obtain ⟨a, o, its, n, h1, h2, h3, h4, h5, h6⟩ := h.ex
  exact ed_glob (v := .ref a) h1 rfl (fun T => .tup (.inr ⟨o, its, n, h2, h3, h4, h5, h6⟩) (isA_strs ss)) hg hdb
theorem sd_raise {m : Str} {j : Nat} {Cl : Addr} (E : ExcF C.G x Cl) (hk : C.kx (.ref Cl)) (hg : C.sc.names.lookup x = some .globalImplicit := by rfl) (hdb : (x == ("__debug__" : Str)) = false := by decide) : SD C (.Raise (some (.Call (.Name x p) [.Constant (.str m) j p2] [] pos)) none pos2 :: rest) ρ D := fun X F σ T H Tb S ex =>
  ws_of (pss_cons (L2N.ps_raise F.calm F.tk (L2N.pmk_own PySem.F.excBase_ValueError (by rw [F.K]; exact E.q) (by rw [F.mg]; exact E.g) (by rw [F.K]; exact E.k) (raises_own (by rw [F.K]; exact E.b) (by rw [F.K]; exact E.t)) (gl_of F hg) hdb)) pss_never) (C.hx _ σ T H S.step S.ex S.jv S.wd hk)

/-! ### own lists -/
theorem set_cases {ρ : DEnv} {i j : Nat} {s : Slot} {u : Option Slot} (h : (ρ.set i u)[j]? = some (some s)) : (j = i ∧ u = some s ∧ j < ρ.length) ∨ (j ≠ i ∧ ρ[j]? = some (some s)) := by
  by_cases z : j = i
  · subst z
    by_cases hlt : j < ρ.length
    · rw [List.getElem?_set_self hlt] at h
      exact .inl ⟨rfl, Option.some.inj h, hlt⟩
    · rw [List.getElem?_eq_none (by rw [List.length_set]; omega)] at h
      cases h
  · rw [List.getElem?_set_ne (Ne.symm z)] at h
    exact .inr ⟨z, h⟩
/-- a new own object in a place -/
theorem DSt.newOwn {σ : L2.St} {T H : Hp} (S : DSt C σ T H ρ) {q : Addr} {o : HO} {s : Slot} (hq : H q = none) (hs : s.own) (hc : Cont C.G.K T s o) (i : Nat) : DSt C (σ.set i (some (.ref q))) T (L2.upd H q o) (ρ.set i (some s)) := by
  have S1 := S.newH (o := o) hq
  have ne := S.ownNe hq
  refine ⟨S1.ex, S1.step, S1.jv, S1.wd, S1.mt, S1.tf, ⟨by rw [List.length_set, List.length_set]; exact S.env.len, fun j d h => ?_, fun j u h hu => ?_, fun j l u w r hjl h1 h2 hu hw h3 => ?_⟩⟩
  · rcases set_cases h with ⟨rfl, e, _⟩ | ⟨z, h⟩
    · rw [Option.some.inj e] at hs
      exact hs.elim
    · obtain ⟨v, h1, h2⟩ := S1.env.dat j d h
      exact ⟨v, by rw [List.getElem?_set_ne (Ne.symm z)]; exact h1, h2⟩
  · rcases set_cases h with ⟨rfl, e, hlt⟩ | ⟨z, h⟩
    · cases e
      exact ⟨q, o, List.getElem?_set_self (by rw [← S.env.len]; exact hlt), upd_same, hc, free_sub S.ex hq, (S.h0 hq).1, (S.h0 hq).2⟩
    · obtain ⟨r, u', h1, h2⟩ := S1.env.own j u h hu
      exact ⟨r, u', by rw [List.getElem?_set_ne (Ne.symm z)]; exact h1, h2⟩
  · rcases set_cases h1 with ⟨rfl, e, hlt⟩ | ⟨z, h1⟩
    · rw [List.getElem?_set_self (by rw [← S.env.len]; exact hlt)] at h3
      cases h3
      rcases set_cases h2 with ⟨rfl, _, _⟩ | ⟨z2, h2⟩
      · exact absurd rfl hjl
      · rw [List.getElem?_set_ne (Ne.symm z2)]
        exact ne l w h2 hw
    · rw [List.getElem?_set_ne (Ne.symm z)] at h3
      have n1 := ne j u ‹ρ[j]? = some (some u)› hu
      rcases set_cases h2 with ⟨rfl, e, hlt⟩ | ⟨z2, h2⟩
      · rw [List.getElem?_set_self (by rw [← S.env.len]; exact hlt)]
        intro e2
        cases e2
        exact n1 h3
      · rw [List.getElem?_set_ne (Ne.symm z2)]
        exact S.env.ap j l u w r hjl h1 h2 hu hw h3
/-- an own object is written -/
theorem DSt.wrOwn {σ : L2.St} {T H : Hp} (S : DSt C σ T H ρ) {q : Addr} {o o' : HO} {s s' : Slot} {i : Nat} (hi : ρ[i]? = some (some s)) (hs : s.own) (hq : σ[i]? = some (some (.ref q))) (ho : H q = some o) (lo : isLD o) (hs' : s'.own) (hc : Cont C.G.K T s' o') : DSt C σ T (L2.upd H q o') (ρ.set i (some s')) := by
  obtain ⟨r, o2, h1, h2, h3, h4, h5, h6⟩ := S.env.own i s hi hs
  rw [hq] at h1
  cases h1
  have hlt : i < ρ.length := (List.getElem?_eq_some_iff.mp hi).1
  have S1 : DSt C σ T (L2.upd H q o') (ρ.set i none) := (by
    have e : σ.set i none = σ.set i none := rfl
    have S0 : DSt C σ T H (ρ.set i none) := ⟨S.ex, S.step, S.jv, S.wd, S.mt, S.tf, ⟨by rw [List.length_set]; exact S.env.len, fun j d h => by
        rcases set_cases h with ⟨_, e, _⟩ | ⟨z, h⟩
        · cases e
        · exact S.env.dat j d h, fun j u h hu => by
        rcases set_cases h with ⟨_, e, _⟩ | ⟨z, h⟩
        · cases e
        · exact S.env.own j u h hu, fun j l u w r hjl h1 h2 hu hw h3 => by
        rcases set_cases h1 with ⟨_, e, _⟩ | ⟨z, h1⟩
        · cases e
        · rcases set_cases h2 with ⟨_, e, _⟩ | ⟨z2, h2⟩
          · cases e
          · exact S.env.ap j l u w r hjl h1 h2 hu hw h3⟩⟩
    refine S0.upd ho lo h4 h5 h6 (lo' := hc.ntb) fun j u h hu => by
      rcases set_cases h with ⟨_, e, _⟩ | ⟨z, h⟩
      · cases e
      · exact S.env.ap i j s u q (Ne.symm z) hi h hs hu hq)
  refine ⟨S1.ex, S1.step, S1.jv, S1.wd, S1.mt, S1.tf, ⟨by rw [List.length_set]; exact S.env.len, fun j d h => ?_, fun j u h hu => ?_, fun j l u w r hjl h1 h2 hu hw h3 => ?_⟩⟩
  · rcases set_cases h with ⟨rfl, e, _⟩ | ⟨z, h⟩
    · rw [Option.some.inj e] at hs'
      exact hs'.elim
    · exact S.env.dat j d h
  · rcases set_cases h with ⟨rfl, e, _⟩ | ⟨z, h⟩
    · cases e
      exact ⟨q, o', hq, upd_same, hc, h4, h5, h6⟩
    · exact S1.env.own j u (by rw [List.getElem?_set_ne (Ne.symm z)]; exact h) hu
  · have old : ∀ (k : Nat) (t : Slot), (ρ.set i (some s'))[k]? = some (some t) → t.own → ∃ t', ρ[k]? = some (some t') ∧ t'.own := fun k t h ht => by
      rcases set_cases h with ⟨rfl, _, _⟩ | ⟨_, h⟩
      · exact ⟨s, hi, hs⟩
      · exact ⟨t, h, ht⟩
    obtain ⟨u1, a1, b1⟩ := old j u h1 hu
    obtain ⟨u2, a2, b2⟩ := old l w h2 hw
    exact S.env.ap j l u1 u2 r hjl a1 a2 b1 b2 h3
theorem sd_newL (i : Nat) (hi : C.N[i]? = some x) (hl : C.sc.names.lookup x = some .local) (k : SD C rest (ρ.set i (some (.l []))) D)
    (hs : ∀ env : Env, swapsWith (.List [] p2) (some (.Name x p)) pos.line env = pure false := by intro _; rfl) : SD C (.Assign [.Name x p] (.List [] p2) pos :: rest) ρ D := fun X F σ T H Tb S ex =>
  ws_of (pss_cons (ps_set (i := i) (by rw [F.N]; exact F.nd) (by rw [F.N]; exact hi) (.inl (by rw [F.sc]; exact hl)) (pe_lst pa_nil) (hs _) (.inr (by rw [F.sc]; exact hl))) ps_we)
    ⟨Nat.zero_le _, fun q hq => k X F _ T _ Tb (S.newOwn (s := .l []) (o := .lst []) hq True.intro (show IsA C.G.K T [] [] from .nil) i) ex⟩
theorem sd_append {xs : List Dat} {pa pn : Pos} (i : Nat) (hi : C.N[i]? = some x) (hv : Vis C.sc x) (hx : ρ[i]? = some (some (.l xs))) (hz : xs.length ≤ 90000) (h : WD C e ρ fun d => SD C rest (ρ.set i (some (.l (xs ++ [d])))) D)
    (hb : ∀ env : Env, attributeBase (.Name x pn) "append" env (eval (.Name x pn) env) = eval (.Name x pn) env := by intro _; rfl)
    (hfew : ∀ env : Env, ((backTo pos (starEach [e] env)).all (fun x => !x.1) && (backToKw pos (keywordEach [] env)).all (fun x => x.1.isSome) && decide ([e].length + ([] : List Keyword).length + (if ([] : List Keyword).isEmpty then 0 else 1) < 30)) = true := by intro _; rfl)
    (hline : (pa.endLine == pos.line) = true := by rfl) (hse : ∀ env : Env, starEach [e] env = (false, eval e env) :: starEach [] env := by intro _; rfl) (hpl : ∀ env : Env, (backTo pos (starEach [] env)).any (·.1) = false := by intro _; rfl)
    (hs : ∀ env : Env, swapsWith (.Call (.Attribute (.Name x pn) "append" pa) [e] [] pos) none pos2.line env = pure false := by intro _; rfl) (h1 : (x == ("__debug__" : Str)) = false := by decide) (h2 : (x == ("__classdict__" : Str)) = false := by decide) :
    SD C (.Expr (.Call (.Attribute (.Name x pn) "append" pa) [e] [] pos) pos2 :: rest) ρ D := fun X F σ T H Tb S ex => by
  refine ws_of (pss_cons (ps_expr (pe_bm PySem.F.plainAttrs_list PySem.F.slot_list_append PySem.F.type_list_append mt_append (pe_var (i := i) (by rw [F.N]; exact hi) (by rw [F.sc]; exact hv) h1 h2) (pa_cons pe_we pa_nil (hse _)) (hb _) (hfew _) hline (hse _) (hpl _)) (hs _)) ps_we) ?_
  obtain ⟨q, o, e1, e2, e3, e4, e5, e6⟩ := S.env.own i _ hx True.intro
  cases o with
  | lst vs =>
    refine ⟨.ref q, e1, .inl ⟨rfl, _, sq_of e2⟩, ?_⟩
    refine h X F σ T H _ S fun v d T' H' S' st iv k => ?_
    obtain ⟨q2, o2, g1, g2, g3, g4, g5, g6⟩ := S'.env.own i _ hx True.intro
    rw [e1] at g1
    cases g1
    cases o2 with
    | lst vs' =>
      have g3 : IsA C.G.K T' vs' xs := g3
      refine ⟨q, vs', v, rfl, rfl, g2, by rw [g3.length]; exact sz_lt (by omega), ?_⟩
      exact k X F σ T' _ Tb (S'.wrOwn hx True.intro e1 g2 True.intro True.intro (show IsA C.G.K T' (vs' ++ [v]) (xs ++ [d]) from g3.snoc iv)) (ex.trans st.t)
    | _ => exact (show False from g3).elim
  | _ => exact (show False from e3).elim
/-- an own list from now on still -/
theorem DSt.freeze {σ : L2.St} {T H : Hp} (S : DSt C σ T H ρ) {xs : List Dat} {i : Nat} (hx : ρ[i]? = some (some (.l xs))) : ∃ T', Ex T T' ∧ DSt C σ T' H (ρ.set i (some (.d (.lst xs)))) := by
  obtain ⟨q, o, e1, e2, e3, e4, e5, e6⟩ := S.env.own i _ hx True.intro
  cases o with
  | lst vs =>
    have e3 : IsA C.G.K T vs xs := e3
    have exT : Ex T (L2.upd T q (.lst vs)) := Ex.new e4
    have tb1 : ∀ {a : Addr} {ps : Array Value}, L2.upd T q (.lst vs) a = some (.tbl ps) → T a = some (.tbl ps) := fun {a ps} h => by
      by_cases z : a = q
      · rw [z, upd_same] at h; cases h
      · rw [upd_ne z] at h; exact h
    refine ⟨L2.upd T q (.lst vs), exT, fun a u h => ?_, ⟨S.step.t.trans exT, S.step.k, fun a o h n => ?_, S.step.d, fun a ps h => S.step.tt a ps (tb1 h)⟩, S.jv, S.wd, fun a h => ?_, fun a ps h => S.tf a ps (tb1 h), ⟨by rw [List.length_set]; exact S.env.len, fun j d h => ?_, fun j s h ho => ?_, fun j l u w r hjl h1 h2 hu hw h3 => ?_⟩⟩
    · by_cases z : a = q
      · rw [z, upd_same] at h
        rw [z, e2]
        exact h
      · rw [upd_ne z] at h
        exact S.ex a u h
    · rw [upd_ne (fun z : a = q => by rw [z] at h; exact (e5 _ h).elim e6 fun y => n _ y.2.choose_spec)]
      exact S.step.f a _ h n
    · rw [upd_ne (fun z : a = q => e6 (by rw [← z]; exact h))]
      exact S.mt a h
    · rcases set_cases h with ⟨rfl, z, _⟩ | ⟨z, h⟩
      · cases z
        exact ⟨.ref q, e1, .lst upd_same (e3.mono exT)⟩
      · obtain ⟨v, h1, h2⟩ := S.env.dat j d h
        exact ⟨v, h1, h2.mono exT⟩
    · rcases set_cases h with ⟨rfl, z, _⟩ | ⟨z, h⟩
      · cases z
        exact ho.elim
      · obtain ⟨r, o, h1, h2, h3, h4, h5⟩ := S.env.own j s h ho
        refine ⟨r, o, h1, h2, h3.mono exT, ?_, h5⟩
        rw [upd_ne (fun z2 : r = q => S.env.ap i j _ s q (Ne.symm z) hx h True.intro ho e1 (by rw [← z2]; exact h1))]
        exact h4
    · rcases set_cases h1 with ⟨rfl, z, _⟩ | ⟨z, h1⟩
      · cases z
        exact hu.elim
      · rcases set_cases h2 with ⟨rfl, z2, _⟩ | ⟨z2, h2⟩
        · cases z2
          exact hw.elim
        · exact S.env.ap j l u w r hjl h1 h2 hu hw h3
  | _ => exact (show False from e3).elim
theorem sd_freeze {xs : List Dat} (i : Nat) (hx : ρ[i]? = some (some (.l xs))) (k : SD C sts (ρ.set i (some (.d (.lst xs)))) D) : SD C sts ρ D := fun X F σ T H Tb S ex => by
  obtain ⟨T', e, S'⟩ := S.freeze hx
  exact k X F σ T' H Tb S' (ex.trans e)
end
end DL

end
section
namespace DL
open PySem PySem.Spec PyProof.Rows L2 Evl
def isStar : Expr → Bool
  | .Starred .. => true
  | _ => false
theorem sw_pair {env : Env} {x y : Str} {p p' p2 p3 : Pos} {k k2 : Nat} {a b : Expr} (hk : env.scope.kind = .function) (hx : env.scope.names.lookup x = some .local) (hy : env.scope.names.lookup y = some .local) (hl : (p'.line == p.line) = true) (hxy : (y == x) = false)
    (hs : (isStar a || isStar b) = false) (hf : [a, b].all (foldedForSure 8) = false) (hc : [a, b].all (constantsAlone 8) = false) : swappedStores [.Tuple [.Name x p, .Name y p'] k p2] (.Tuple [a, b] k2 p3) env = pure (some [x, y]) := by
  have hb : env.blockKind = .function := by
    unfold Env.blockKind
    rw [hk]
    rfl
  have kx : env.kindOf x = some .local := hx
  have ky : env.kindOf y = some .local := hy
  have hs1 : isStar a = false ∧ isStar b = false := by simpa using hs
  have hs2 : ([a, b].any fun | .Starred .. => true | _ => false) = false := by
    obtain ⟨h1, h2⟩ := hs1
    cases a <;> first | (cases h1; done) | (cases b <;> first | (cases h2; done) | rfl)
  have he : ([x, y] : List Str).eraseDups.length = 2 := by
    rw [List.eraseDups_cons]
    simp [hxy, List.eraseDups_cons]
  have hxy' : ¬ y = x := by simpa using hxy
  have hl' : p'.line = p.line := by simpa using hl
  unfold swappedStores
  simp only [List.length_cons, List.length_nil, hb, hs2, kx, ky, hf, hc, List.head?_cons, Option.map_some, Option.getD_some, Expr.pos, List.filterMap_cons, List.filterMap_nil, hl', he, beq_self_eq_true, bne_self_eq_false, Bool.and_self, if_true, Bool.or_false, Bool.not_true, Bool.true_or, Bool.false_eq_true, if_false, pure_bind, he]
  refine (if_neg ?_).trans rfl
  intro q
  exact Bool.noConfusion (hs2.symm.trans q)
theorem sw_none {env : Env} {x y : Str} {p p' p2 p3 : Pos} {k k2 : Nat} {a b : Expr} (hf : [a, b].all (foldedForSure 8) = true) : swappedStores [.Tuple [.Name x p, .Name y p'] k p2] (.Tuple [a, b] k2 p3) env = pure none := by
  unfold swappedStores
  simp only [hf]
  repeat (first | rfl | split)
section
variable {C : DC} {e a b c o : Expr} {es : List Expr} {ρ ρ' : DEnv} {rest sts sts' : List Stmt} {D : DEnds} {x y : Str} {p p' p2 p3 pos pos2 spos : Pos}
theorem sd_par {k k2 : Nat} {d d' : Dat} (i j : Nat) (ha : ED C a ρ d) (hb : ED C b ρ d') (kk : SD C rest ((ρ.set i (some (.d d))).set j (some (.d d'))) D) (hi : C.N[i]? = some x := by rfl) (hl : C.sc.names.lookup x = some .local := by rfl) (hj : C.N[j]? = some y := by rfl) (hl2 : C.sc.names.lookup y = some .local := by rfl) (hij : i ≠ j := by decide)
    (hk : C.sc.kind = .function := by rfl) (hline : (p'.line == p.line) = true := by rfl) (hxy : (y == x) = false := by decide) (hst : (isStar a || isStar b) = false := by rfl) (hf : [a, b].all (foldedForSure 8) = false := by rfl) (hc : [a, b].all (constantsAlone 8) = false := by rfl)
    (hs : ∀ env : Env, swapsWithSole [.Tuple [.Name x p, .Name y p'] k p2] (.Tuple [a, b] k2 p3) pos.line env = pure false := by intro _; rfl) (he : ∀ env : Env, starEach [a, b] env = (false, eval a env) :: starEach [b] env := by intro _; rfl) (he2 : ∀ env : Env, starEach [b] env = (false, eval b env) :: starEach [] env := by intro _; rfl) :
    SD C (.Assign [.Tuple [.Name x p, .Name y p'] k p2] (.Tuple [a, b] k2 p3) pos :: rest) ρ D :=
  sd_parW i j hi hl hj hl2 hij (ad_of (ea_cons ha (ea_cons hb ea_nil he2) he) ⟨d, d', rfl, kk⟩) (fun env h1 h2 h3 => sw_pair h1 h2 h3 hline hxy hst hf hc) hk hs
/-- a, b = 0, 1: the pair is one constant -/
theorem sd_parC {k k2 : Nat} {d d' : Dat} (i j : Nat) (h : ED C (.Tuple [a, b] k2 p3) ρ (.tup [d, d'])) (kk : SD C rest ((ρ.set i (some (.d d))).set j (some (.d d'))) D) (hi : C.N[i]? = some x := by rfl) (hl : C.sc.names.lookup x = some .local := by rfl) (hj : C.N[j]? = some y := by rfl) (hl2 : C.sc.names.lookup y = some .local := by rfl)
    (hf : [a, b].all (foldedForSure 8) = true := by rfl)
    (hs : ∀ env : Env, swapsWithSole [.Tuple [.Name x p, .Name y p'] k p2] (.Tuple [a, b] k2 p3) pos.line env = pure false := by intro _; rfl) :
    SD C (.Assign [.Tuple [.Name x p, .Name y p'] k p2] (.Tuple [a, b] k2 p3) pos :: rest) ρ D :=
  sd_unpack i j hi hl hj hl2 h kk hs fun env => sw_none hf
def tyInt : Dat → Bool
  | .int _ => true
  | .bl _ => true
  | _ => false
def tyBool : Dat → Bool
  | .bl _ => true
  | _ => false
def tyStr : Dat → Bool
  | .str _ => true
  | _ => false
def tyTup : Dat → Bool
  | .tup _ => true
  | _ => false
def tyList : Dat → Bool
  | .lst _ => true
  | .ro _ => true
  | _ => false
theorem et_eqS {s t : Str} (ha : ED C a ρ (.str s)) (hb : ED C b ρ (.str t)) : ET C (.Compare a [.Eq] [b] pos) ρ (decide (s = t)) := by
  refine td_cmp (r := fun X => rEq) (fun X F => op_eq) (nomark _) (wd_of ha (wd_of hb ?_))
  intro X F σ T H v w Q S iv iw q
  cases iv
  cases iw
  refine ⟨rfl, ?_⟩
  have e : decide (V.str s = V.str t) = decide (s = t) := by
    rw [Bool.eq_iff_iff]
    simp
  rw [e]
  exact q _ T H S Step.refl rfl
theorem hle {a b : Nat} (h : Nat.ble a b = true := by rfl) : a ≤ b := Nat.le_of_ble_eq_true h
theorem atI0 {α : Type} (x : α) (xs : List α) : atI (x :: xs) 0 = some x := atI_nat (j := 0) rfl
theorem atI1 {α : Type} (x y : α) (xs : List α) : atI (x :: y :: xs) 1 = some y := atI_nat (j := 1) rfl
/-- no object of the heap's own *-/
def known : Dat → Bool
  | .fn _ => false
  | _ => true
theorem tyN_ne {d : Dat} (h : known d = true) : tyN d ≠ "" := by
  cases d <;> first | (cases h; done) | simp [tyN]
theorem isi_int {pt : Pos} {d : Dat} (h : ED C a ρ d) (hk : known d = true) (m1 : C.G.mg "int" = none) (m2 : C.G.mg "isinstance" = none) (hT : C.sc.names.lookup ("int" : Str) = some .globalImplicit := by rfl) (hg : C.sc.names.lookup ("isinstance" : Str) = some .globalImplicit := by rfl)
    (he : ∀ env : Env, starEach [a, .Name "int" pt] env = (false, eval a env) :: starEach [.Name "int" pt] env := by intro _; rfl) : ED C (.Call (.Name "isinstance" p) [a, .Name "int" pt] [] pos) ρ (.bl (tyInt d)) :=
  ed_isi (t := "int") h (tyN_ne hk) (by cases d <;> first | (cases hk; done) | (simp only [tyN, tyInt, tyBool, tyStr, tyTup, tyList]; decide +kernel)) hT m1 (by decide +kernel) hg m2 (he := he)
theorem isi_bool {pt : Pos} {d : Dat} (h : ED C a ρ d) (hk : known d = true) (m1 : C.G.mg "bool" = none) (m2 : C.G.mg "isinstance" = none) (hT : C.sc.names.lookup ("bool" : Str) = some .globalImplicit := by rfl) (hg : C.sc.names.lookup ("isinstance" : Str) = some .globalImplicit := by rfl)
    (he : ∀ env : Env, starEach [a, .Name "bool" pt] env = (false, eval a env) :: starEach [.Name "bool" pt] env := by intro _; rfl) : ED C (.Call (.Name "isinstance" p) [a, .Name "bool" pt] [] pos) ρ (.bl (tyBool d)) :=
  ed_isi (t := "bool") h (tyN_ne hk) (by cases d <;> first | (cases hk; done) | (simp only [tyN, tyInt, tyBool, tyStr, tyTup, tyList]; decide +kernel)) hT m1 (by decide +kernel) hg m2 (he := he)
theorem isi_str {pt : Pos} {d : Dat} (h : ED C a ρ d) (hk : known d = true) (m1 : C.G.mg "str" = none) (m2 : C.G.mg "isinstance" = none) (hT : C.sc.names.lookup ("str" : Str) = some .globalImplicit := by rfl) (hg : C.sc.names.lookup ("isinstance" : Str) = some .globalImplicit := by rfl)
    (he : ∀ env : Env, starEach [a, .Name "str" pt] env = (false, eval a env) :: starEach [.Name "str" pt] env := by intro _; rfl) : ED C (.Call (.Name "isinstance" p) [a, .Name "str" pt] [] pos) ρ (.bl (tyStr d)) :=
  ed_isi (t := "str") h (tyN_ne hk) (by cases d <;> first | (cases hk; done) | (simp only [tyN, tyInt, tyBool, tyStr, tyTup, tyList]; decide +kernel)) hT m1 (by decide +kernel) hg m2 (he := he)
theorem isi_tup {pt : Pos} {d : Dat} (h : ED C a ρ d) (hk : known d = true) (m1 : C.G.mg "tuple" = none) (m2 : C.G.mg "isinstance" = none) (hT : C.sc.names.lookup ("tuple" : Str) = some .globalImplicit := by rfl) (hg : C.sc.names.lookup ("isinstance" : Str) = some .globalImplicit := by rfl)
    (he : ∀ env : Env, starEach [a, .Name "tuple" pt] env = (false, eval a env) :: starEach [.Name "tuple" pt] env := by intro _; rfl) : ED C (.Call (.Name "isinstance" p) [a, .Name "tuple" pt] [] pos) ρ (.bl (tyTup d)) :=
  ed_isi (t := "tuple") h (tyN_ne hk) (by cases d <;> first | (cases hk; done) | (simp only [tyN, tyInt, tyBool, tyStr, tyTup, tyList]; decide +kernel)) hT m1 (by decide +kernel) hg m2 (he := he)
theorem isi_list {pt : Pos} {d : Dat} (h : ED C a ρ d) (hk : known d = true) (m1 : C.G.mg "list" = none) (m2 : C.G.mg "isinstance" = none) (hT : C.sc.names.lookup ("list" : Str) = some .globalImplicit := by rfl) (hg : C.sc.names.lookup ("isinstance" : Str) = some .globalImplicit := by rfl)
    (he : ∀ env : Env, starEach [a, .Name "list" pt] env = (false, eval a env) :: starEach [.Name "list" pt] env := by intro _; rfl) : ED C (.Call (.Name "isinstance" p) [a, .Name "list" pt] [] pos) ρ (.bl (tyList d)) :=
  ed_isi (t := "list") h (tyN_ne hk) (by cases d <;> first | (cases hk; done) | (simp only [tyN, tyInt, tyBool, tyStr, tyTup, tyList]; decide +kernel)) hT m1 (by decide +kernel) hg m2 (he := he)
end
end DL

end
section
/-! The data layer: the same rules, names by facts told once. -/
namespace DL
open PySem PySem.Spec PyProof.Rows L2 Evl
/-- a local of a def, its place -/
structure Lv (N : List Str) (sc : Scope) (i : Nat) (x : Str) : Prop where
  hi : N[i]? = some x
  hl : sc.names.lookup x = some .local
  h1 : (x == ("__debug__" : Str)) = false
  h2 : (x == ("__classdict__" : Str)) = false
/-- a local that an inner block reads -/
structure Cv (N : List Str) (sc : Scope) (i : Nat) (x : Str) : Prop where
  hi : N[i]? = some x
  hl : sc.names.lookup x = some .cell
  h1 : (x == ("__debug__" : Str)) = false
  h2 : (x == ("__classdict__" : Str)) = false
/-- a name of the module or built in -/
structure Gv (sc : Scope) (x : Str) : Prop where
  h : sc.names.lookup x = some .globalImplicit
  h1 : (x == ("__debug__" : Str)) = false
section
variable {C : DC} {e a b c o : Expr} {es : List Expr} {ρ ρ' : DEnv} {rest sts sts' : List Stmt} {D : DEnds} {x y : Str} {p p' p2 p3 pos pos2 spos pr : Pos}
theorem v (i : Nat) {d : Dat} (V : Lv C.N C.sc i x := by assumption) (hd : ρ[i]? = some (some (.d d)) := by rfl) : ED C (.Name x pos) ρ d := ed_var i V.hi hd (.inl V.hl) V.h1 V.h2
theorem vc (i : Nat) {d : Dat} (V : Cv C.N C.sc i x := by assumption) (hd : ρ[i]? = some (some (.d d)) := by rfl) : ED C (.Name x pos) ρ d := ed_var i V.hi hd (.inr (.inl V.hl)) V.h1 V.h2
theorem set_ {d : Dat} (i : Nat) (h : ED C e ρ d) (k : SD C rest (ρ.set i (some (.d d))) D) (V : Lv C.N C.sc i x := by assumption)
    (hs : ∀ env : Env, swapsWith e (some (.Name x p)) pos.line env = pure false := by intro _; rfl) : SD C (.Assign [.Name x p] e pos :: rest) ρ D := sd_set i V.hi V.hl h k hs
theorem setc_ {d : Dat} (i : Nat) (h : ED C e ρ d) (k : SD C rest (ρ.set i (some (.d d))) D) (V : Cv C.N C.sc i x := by assumption) (hd : C.df = true := by rfl)
    (hs : ∀ env : Env, swapsWith e (some (.Name x p)) pos.line env = pure false := by intro _; rfl) : SD C (.Assign [.Name x p] e pos :: rest) ρ D := sd_setC i V.hi hd V.hl h k hs
theorem setW_ (i : Nat) (h : WD C e ρ fun d => SD C rest (ρ.set i (some (.d d))) D) (V : Lv C.N C.sc i x := by assumption)
    (hs : ∀ env : Env, swapsWith e (some (.Name x p)) pos.line env = pure false := by intro _; rfl) : SD C (.Assign [.Name x p] e pos :: rest) ρ D := sd_setW i V.hi (.inl V.hl) h hs
theorem setcW_ (i : Nat) (h : WD C e ρ fun d => SD C rest (ρ.set i (some (.d d))) D) (V : Cv C.N C.sc i x := by assumption) (hd : C.df = true := by rfl)
    (hs : ∀ env : Env, swapsWith e (some (.Name x p)) pos.line env = pure false := by intro _; rfl) : SD C (.Assign [.Name x p] e pos :: rest) ρ D := sd_setW i V.hi (.inr ⟨hd, V.hl⟩) h hs
theorem newL_ (i : Nat) (k : SD C rest (ρ.set i (some (.l []))) D) (V : Lv C.N C.sc i x := by assumption)
    (hs : ∀ env : Env, swapsWith (.List [] p2) (some (.Name x p)) pos.line env = pure false := by intro _; rfl) : SD C (.Assign [.Name x p] (.List [] p2) pos :: rest) ρ D := sd_newL i V.hi V.hl k hs
theorem unpack_ {d d' : Dat} {k : Nat} (i j : Nat) (h : ED C e ρ (.tup [d, d'])) (kk : SD C rest ((ρ.set i (some (.d d))).set j (some (.d d'))) D) (V : Lv C.N C.sc i x := by assumption) (V2 : Lv C.N C.sc j y := by assumption)
    (hs : ∀ env : Env, swapsWithSole [.Tuple [.Name x p, .Name y p'] k p2] e pos.line env = pure false := by intro _; rfl) (hw : ∀ env : Env, swappedStores [.Tuple [.Name x p, .Name y p'] k p2] e env = pure none := by intro _; rfl) : SD C (.Assign [.Tuple [.Name x p, .Name y p'] k p2] e pos :: rest) ρ D :=
  sd_unpack i j V.hi V.hl V2.hi V2.hl h kk hs hw
theorem unpack3_ {d d' d'' : Dat} {k : Nat} {z : Str} {pz : Pos} (i j l : Nat) (h : ED C e ρ (.tup [d, d', d''])) (kk : SD C rest (((ρ.set i (some (.d d))).set j (some (.d d'))).set l (some (.d d''))) D) (V : Lv C.N C.sc i x := by assumption) (V2 : Lv C.N C.sc j y := by assumption) (V3 : Lv C.N C.sc l z := by assumption)
    (hs : ∀ env : Env, swapsWithSole [.Tuple [.Name x p, .Name y p', .Name z pz] k p2] e pos.line env = pure false := by intro _; rfl) (hw : ∀ env : Env, swappedStores [.Tuple [.Name x p, .Name y p', .Name z pz] k p2] e env = pure none := by intro _; rfl) :
    SD C (.Assign [.Tuple [.Name x p, .Name y p', .Name z pz] k p2] e pos :: rest) ρ D := sd_unpack3 i j l V.hi V.hl V2.hi V2.hl V3.hi V3.hl h kk hs hw
theorem par_ {k k2 : Nat} {d d' : Dat} (i j : Nat) (ha : ED C a ρ d) (hb : ED C b ρ d') (kk : SD C rest ((ρ.set i (some (.d d))).set j (some (.d d'))) D) (V : Lv C.N C.sc i x := by assumption) (V2 : Lv C.N C.sc j y := by assumption) (hij : i ≠ j := by decide)
    (hk : C.sc.kind = .function := by rfl) (hline : (p'.line == p.line) = true := by rfl) (hxy : (y == x) = false := by decide) (hst : (isStar a || isStar b) = false := by rfl) (hf : [a, b].all (foldedForSure 8) = false := by rfl) (hc : [a, b].all (constantsAlone 8) = false := by rfl)
    (hs : ∀ env : Env, swapsWithSole [.Tuple [.Name x p, .Name y p'] k p2] (.Tuple [a, b] k2 p3) pos.line env = pure false := by intro _; rfl) (he : ∀ env : Env, starEach [a, b] env = (false, eval a env) :: starEach [b] env := by intro _; rfl) (he2 : ∀ env : Env, starEach [b] env = (false, eval b env) :: starEach [] env := by intro _; rfl) :
    SD C (.Assign [.Tuple [.Name x p, .Name y p'] k p2] (.Tuple [a, b] k2 p3) pos :: rest) ρ D := sd_par i j ha hb kk V.hi V.hl V2.hi V2.hl hij hk hline hxy hst hf hc hs he he2
theorem parW_ {k k2 : Nat} (i j : Nat) (h : AD C [a, b] ρ fun ds => ∃ d d', ds = [d, d'] ∧ SD C rest ((ρ.set i (some (.d d))).set j (some (.d d'))) D) (V : Lv C.N C.sc i x := by assumption) (V2 : Lv C.N C.sc j y := by assumption) (hij : i ≠ j := by decide)
    (hk : C.sc.kind = .function := by rfl) (hline : (p'.line == p.line) = true := by rfl) (hxy : (y == x) = false := by decide) (hst : (isStar a || isStar b) = false := by rfl) (hf : [a, b].all (foldedForSure 8) = false := by rfl) (hc : [a, b].all (constantsAlone 8) = false := by rfl)
    (hs : ∀ env : Env, swapsWithSole [.Tuple [.Name x p, .Name y p'] k p2] (.Tuple [a, b] k2 p3) pos.line env = pure false := by intro _; rfl) :
    SD C (.Assign [.Tuple [.Name x p, .Name y p'] k p2] (.Tuple [a, b] k2 p3) pos :: rest) ρ D := sd_parW i j V.hi V.hl V2.hi V2.hl hij h (fun env h1 h2 h3 => sw_pair h1 h2 h3 hline hxy hst hf hc) hk hs
theorem parC_ {k k2 : Nat} {d d' : Dat} (i j : Nat) (h : ED C (.Tuple [a, b] k2 p3) ρ (.tup [d, d'])) (kk : SD C rest ((ρ.set i (some (.d d))).set j (some (.d d'))) D) (V : Lv C.N C.sc i x := by assumption) (V2 : Lv C.N C.sc j y := by assumption) (hf : [a, b].all (foldedForSure 8) = true := by rfl)
    (hs : ∀ env : Env, swapsWithSole [.Tuple [.Name x p, .Name y p'] k p2] (.Tuple [a, b] k2 p3) pos.line env = pure false := by intro _; rfl) :
    SD C (.Assign [.Tuple [.Name x p, .Name y p'] k p2] (.Tuple [a, b] k2 p3) pos :: rest) ρ D := sd_unpack i j V.hi V.hl V2.hi V2.hl h kk hs fun env => sw_none hf
theorem tg_ {d : Dat} (i : Nat) (V : Lv C.N C.sc i x := by assumption) : GD C [i] (.Name x p) ρ d (ρ.set i (some (.d d))) := gd_name i V.hi (.inl V.hl)
theorem tgc_ {d : Dat} (i : Nat) (V : Cv C.N C.sc i x := by assumption) (hd : C.df = true := by rfl) : GD C [i] (.Name x p) ρ d (ρ.set i (some (.d d))) := gd_name i V.hi (.inr ⟨hd, V.hl⟩)
theorem tg2_ {d d' : Dat} {k : Nat} (i j : Nat) (V : Lv C.N C.sc i x := by assumption) (V2 : Lv C.N C.sc j y := by assumption) : GD C [i, j] (.Tuple [.Name x p, .Name y p'] k pos) ρ (.tup [d, d']) ((ρ.set i (some (.d d))).set j (some (.d d'))) := gd_pair i j V.hi (.inl V.hl) V2.hi (.inl V2.hl)
theorem len_ {d : Dat} {n : Nat} (h : ED C a ρ d) (hn : dlen d = some n) (hm : C.G.mg "len" = none) (hg : Gv C.sc "len" := by assumption) (he : ∀ env : Env, starEach [a] env = (false, eval a env) :: starEach [] env := by intro _; rfl) : ED C (.Call (.Name "len" p) [a] [] pos) ρ (.int n) := ed_len h hn hg.h hm he
theorem call_ {r : Nat} {φ : List Dat → (Dat → Prop) → (Value → Prop) → Prop} {d : Dat} {ds : List Dat} (G : FnD C.G r x φ) (h : EA C (e :: es) ρ ds) (hφ : φ ds (fun y => y = d) C.kx) (hr : r ≤ C.r := by exact hle) (hg : Gv C.sc x := by assumption)
    (he : ∀ env : Env, starEach (e :: es) env = (false, eval e env) :: starEach es env := by intro _; rfl) (hpl : ∀ env : Env, (backTo pos (starEach es env)).any (·.1) = false := by intro _; rfl) : ED C (.Call (.Name x p) (e :: es) [] pos) ρ d := wd_call G hr hg.h (ad_of h hφ) hg.h1 he hpl
theorem callW_ {r : Nat} {φ : List Dat → (Dat → Prop) → (Value → Prop) → Prop} {k : Dat → Prop} (G : FnD C.G r x φ) (h : AD C (e :: es) ρ fun ds => φ ds k C.kx) (hr : r ≤ C.r := by exact hle) (hg : Gv C.sc x := by assumption)
    (he : ∀ env : Env, starEach (e :: es) env = (false, eval e env) :: starEach es env := by intro _; rfl) (hpl : ∀ env : Env, (backTo pos (starEach es env)).any (·.1) = false := by intro _; rfl) : WD C (.Call (.Name x p) (e :: es) [] pos) ρ k := wd_call G hr hg.h h hg.h1 he hpl
theorem forR_ {tg : Expr} {body : List Stmt} {m : Int} (hi : ED C a ρ (.int m)) (hm : m < 2 ^ 62 ∧ -(2 ^ 62) ≤ m) (hr : C.G.mg "range" = none) (J : Nat → DEnv → Prop) (h0 : J 0 ρ) (ht : ∀ (n : Nat) ρ', (n : Int) < m → J n ρ' → TurnS C tg body rest D ρ' (.int (n : Int)) (J (n + 1)))
    (hd : ∀ ρ', J m.toNat ρ' → SD C rest ρ' D) (hdf : C.df = true := by rfl) (hg : Gv C.sc "range" := by assumption) (hs1 : ∀ env : Env, starEach [a] env = [(false, eval a env)] := by intro _; rfl) (hs2 : ∀ env : Env, starEach [a] env = (false, eval a env) :: starEach [] env := by intro _; rfl)
    (hs : ∀ (env : Env) x, foldedSetIterable (.Call (.Name "range" p) [a] [] pr) env x = pure x := by intro _ _; rfl) : SD C (.For tg (.Call (.Name "range" p) [a] [] pr) body [] pos :: rest) ρ D := sd_forR hdf hi hm hg.h hr J h0 ht hd hs1 hs2 hs
theorem int_ {d : Dat} {pt : Pos} (h : ED C a ρ d) (hk : known d = true) (m1 : C.G.mg "int" = none) (m2 : C.G.mg "isinstance" = none) (hT : Gv C.sc "int" := by assumption) (hg : Gv C.sc "isinstance" := by assumption)
    (he : ∀ env : Env, starEach [a, .Name "int" pt] env = (false, eval a env) :: starEach [.Name "int" pt] env := by intro _; rfl) : ED C (.Call (.Name "isinstance" p) [a, .Name "int" pt] [] pos) ρ (.bl (tyInt d)) := isi_int h hk m1 m2 hT.h hg.h he
theorem bool_ {d : Dat} {pt : Pos} (h : ED C a ρ d) (hk : known d = true) (m1 : C.G.mg "bool" = none) (m2 : C.G.mg "isinstance" = none) (hT : Gv C.sc "bool" := by assumption) (hg : Gv C.sc "isinstance" := by assumption)
    (he : ∀ env : Env, starEach [a, .Name "bool" pt] env = (false, eval a env) :: starEach [.Name "bool" pt] env := by intro _; rfl) : ED C (.Call (.Name "isinstance" p) [a, .Name "bool" pt] [] pos) ρ (.bl (tyBool d)) := isi_bool h hk m1 m2 hT.h hg.h he
theorem str_ {d : Dat} {pt : Pos} (h : ED C a ρ d) (hk : known d = true) (m1 : C.G.mg "str" = none) (m2 : C.G.mg "isinstance" = none) (hT : Gv C.sc "str" := by assumption) (hg : Gv C.sc "isinstance" := by assumption)
    (he : ∀ env : Env, starEach [a, .Name "str" pt] env = (false, eval a env) :: starEach [.Name "str" pt] env := by intro _; rfl) : ED C (.Call (.Name "isinstance" p) [a, .Name "str" pt] [] pos) ρ (.bl (tyStr d)) := isi_str h hk m1 m2 hT.h hg.h he
theorem tup_ {d : Dat} {pt : Pos} (h : ED C a ρ d) (hk : known d = true) (m1 : C.G.mg "tuple" = none) (m2 : C.G.mg "isinstance" = none) (hT : Gv C.sc "tuple" := by assumption) (hg : Gv C.sc "isinstance" := by assumption)
    (he : ∀ env : Env, starEach [a, .Name "tuple" pt] env = (false, eval a env) :: starEach [.Name "tuple" pt] env := by intro _; rfl) : ED C (.Call (.Name "isinstance" p) [a, .Name "tuple" pt] [] pos) ρ (.bl (tyTup d)) := isi_tup h hk m1 m2 hT.h hg.h he
theorem list_ {d : Dat} {pt : Pos} (h : ED C a ρ d) (hk : known d = true) (m1 : C.G.mg "list" = none) (m2 : C.G.mg "isinstance" = none) (hT : Gv C.sc "list" := by assumption) (hg : Gv C.sc "isinstance" := by assumption)
    (he : ∀ env : Env, starEach [a, .Name "list" pt] env = (false, eval a env) :: starEach [.Name "list" pt] env := by intro _; rfl) : ED C (.Call (.Name "isinstance" p) [a, .Name "list" pt] [] pos) ρ (.bl (tyList d)) := isi_list h hk m1 m2 hT.h hg.h he
theorem ktup_ {ss : List Str} (h : KTup C.G x ss) (hg : Gv C.sc x := by assumption) : ED C (.Name x pos) ρ (.tup (ss.map Dat.str)) := ed_ktup h hg.h hg.h1
theorem kint_ {i : Int} {t : Tok} (hm : C.G.mg x = some (.int i t)) (hg : Gv C.sc x := by assumption) : ED C (.Name x pos) ρ (.int i) := ed_glob (v := .int i) hm ⟨t, rfl⟩ (fun _ => .int i) hg.h hg.h1
theorem raise_ {m : Str} {j : Nat} {Cl : Addr} (E : ExcF C.G x Cl) (hk : C.kx (.ref Cl)) (hg : Gv C.sc x := by assumption) : SD C (.Raise (some (.Call (.Name x p) [.Constant (.str m) j p2] [] pos)) none pos2 :: rest) ρ D := sd_raise E hk hg.h hg.h1
end
end DL

end
section
/-! The data layer: comprehensions that draw nothing. -/
namespace DL
open PySem PySem.Spec PyProof.Rows L2 Evl
def IfsE (C : DC) (ifs : List Expr) (ρ : DEnv) (b : Bool) : Prop := match ifs with
  | [] => b = true
  | [c] => ET C c ρ b
  | _ => False
section
variable {rest : List Stmt} {D : DEnds} {C : DC} {elt tg iter : Expr} {ifs : List Expr} {scope : Scope} {ρ : DEnv} {k : Dat → Prop} {pos spos py p pr : Pos} {x : Str}
theorem ifsE_D {b : Bool} {k : Bool → Prop} (h : IfsE C ifs ρ b) (q : k b) : IfsD C ifs ρ k := by
  cases ifs with
  | nil =>
    have h : b = true := h
    subst h
    exact q
  | cons c r =>
    cases r with
    | nil => exact td_of (show ET C c ρ b from h) q
    | cons _ _ => exact (show False from h).elim
/-- a turn: the item d; kept by b, then y -/
def TurnE (C : DC) (scope : Scope) (own : List (Str × Nat)) (elt tg : Expr) (ifs : List Expr) (ρ : DEnv) (d : Dat) (b : Bool) (y : Dat) : Prop :=
  ∃ ρ', GD (C.blk scope) (own.map (·.2)) tg (wipeD ρ (own.map (·.2))) d ρ' ∧ IfsE (C.blk scope) ifs ρ' b ∧ (b = true → ED (C.blk scope) elt ρ' y)
theorem TurnE.d {own : List (Str × Nat)} {d y : Dat} {b : Bool} {J : Nat → List Dat → Prop} {n : Nat} {acc : List Dat} (h : TurnE C scope own elt tg ifs ρ d b y) (h1 : b = true → J (n + 1) (acc ++ [y])) (h2 : b = false → J (n + 1) acc) : TurnD C scope own elt tg ifs ρ J n d acc := by
  obtain ⟨ρ', hg, hi, he⟩ := h
  exact ⟨ρ', hg, ifsE_D hi ⟨fun e => wd_of (he e) (h1 e), h2⟩⟩
theorem take_succ' {α : Type} {xs : List α} {n : Nat} {x : α} (h : xs[n]? = some x) : xs.take (n + 1) = xs.take n ++ [x] := by
  rw [List.take_add_one, h]
  rfl
theorem lcE_list {α : Type} (own : List (Str × Nat)) (xs : List α) (enc : α → Dat) (f : α → Bool) (g : α → Dat) (hi : ED C iter ρ (.lst (xs.map enc))) (hb : BlkOk C.N C.sc scope own) (hl : xs.length ≤ 40000) (ht : ∀ x ∈ xs, TurnE C scope own elt tg ifs ρ (enc x) (f x) (g x)) (hk : k (.lst ((xs.filter f).map g))) : LcD C elt tg iter ifs scope ρ k := by
  refine lcd_list own hi hb (by rw [List.length_map]; exact hl) (fun n acc => acc = ((xs.take n).filter f).map g) rfl (fun n d acc hd e => ?_) (fun acc e => ?_)
  · rw [List.getElem?_map] at hd
    cases q : xs[n]? with
    | none => rw [q] at hd; cases hd
    | some x =>
      rw [q] at hd
      cases hd
      refine (ht x (List.mem_of_getElem? q)).d (fun hf => ?_) (fun hf => ?_)
      · rw [take_succ' q, List.filter_append, List.map_append, ← e, List.filter_cons, if_pos hf]
        rfl
      · rw [take_succ' q, List.filter_append, List.map_append, ← e, List.filter_cons, if_neg (by rw [hf]; exact Bool.false_ne_true)]
        simp
  · rw [e, List.length_map, List.take_length]
    exact hk
theorem lcE_tup {α : Type} (own : List (Str × Nat)) (xs : List α) (enc : α → Dat) (f : α → Bool) (g : α → Dat) (hi : ED C iter ρ (.tup (xs.map enc))) (hb : BlkOk C.N C.sc scope own) (hl : xs.length ≤ 40000) (ht : ∀ x ∈ xs, TurnE C scope own elt tg ifs ρ (enc x) (f x) (g x)) (hk : k (.lst ((xs.filter f).map g))) : LcD C elt tg iter ifs scope ρ k := by
  refine lcd_tup own hi hb (by rw [List.length_map]; exact hl) (fun n acc => acc = ((xs.take n).filter f).map g) rfl (fun n d acc hd e => ?_) (fun acc e => ?_)
  · rw [List.getElem?_map] at hd
    cases q : xs[n]? with
    | none => rw [q] at hd; cases hd
    | some x =>
      rw [q] at hd
      cases hd
      refine (ht x (List.mem_of_getElem? q)).d (fun hf => ?_) (fun hf => ?_)
      · rw [take_succ' q, List.filter_append, List.map_append, ← e, List.filter_cons, if_pos hf]
        rfl
      · rw [take_succ' q, List.filter_append, List.map_append, ← e, List.filter_cons, if_neg (by rw [hf]; exact Bool.false_ne_true)]
        simp
  · rw [e, List.length_map, List.take_length]
    exact hk
theorem lcE_range {a : Expr} (own : List (Str × Nat)) (m : Int) (f : Nat → Bool) (g : Nat → Dat) (hi : ED C a ρ (.int m)) (hm : m ≤ 40000 ∧ -40000 ≤ m) (hr : C.G.mg "range" = none) (hb : BlkOk C.N C.sc scope own) (ht : ∀ n : Nat, (n : Int) < m → TurnE C scope own elt tg ifs ρ (.int (n : Int)) (f n) (g n)) (hk : k (.lst (((List.range m.toNat).filter f).map g)))
    (hg : C.sc.names.lookup ("range" : Str) = some .globalImplicit := by rfl) (hs : ∀ env : Env, starEach [a] env = [(false, eval a env)] := by intro _; rfl) (hs2 : ∀ env : Env, starEach [a] env = (false, eval a env) :: starEach [] env := by intro _; rfl) : LcD C elt tg (.Call (.Name "range" p) [a] [] pr) ifs scope ρ k := by
  refine lcd_range (P := fun d => d = .int m) own hi (fun d e => ⟨m, e, hm⟩) hb hg hr (fun n acc => acc = ((List.range n).filter f).map g) rfl (fun m' n acc em hn e => ?_) (fun m' acc em e => ?_) hs hs2
  · cases em
    refine (ht n hn).d (fun hf => ?_) (fun hf => ?_)
    · rw [List.range_succ, List.filter_append, List.map_append, ← e, List.filter_cons, if_pos hf]
      rfl
    · rw [List.range_succ, List.filter_append, List.map_append, ← e, List.filter_cons, if_neg (by rw [hf]; exact Bool.false_ne_true)]
      simp
  · cases em
    rw [e]
    exact hk
theorem setLc_ (i : Nat) (h : LcD C elt tg iter ifs scope ρ fun d => SD C rest (ρ.set i (some (.d d))) D) (V : Lv C.N C.sc i x := by assumption) (hk : C.sc.kind = .function := by rfl) (ha : (scope.names.any fun (n, k) => n == x && (k == .local || k == .cell)) = false := by rfl)
    (hline : (p.line == pos.line) = true := by rfl) (hs : ∀ (env : Env) x, foldedSetIterable iter env x = pure x := by intro _ _; rfl) : SD C (.Assign [.Name x p] (.ListComp elt [⟨tg, iter, ifs, 0⟩] scope pos) spos :: rest) ρ D := sd_setLc i V.hi V.hl hk ha h hline hs
end
end DL

end
section
/-! The mirror: steps, places, walks, as plain functions. -/
namespace FT
open PySem PySem.Spec PyProof.Rows L2 Evl DL
inductive Stp where
  | up | down (w : Nat) | leaf (w : Nat) | next | last | mirror | top
  deriving DecidableEq
def Stp.enc : Stp → Dat
  | .up => .tup [.str "up"]
  | .down w => .tup [.str "down", .int w]
  | .leaf w => .tup [.str "leaf", .int w]
  | .next => .tup [.str "next"]
  | .last => .tup [.str "last"]
  | .mirror => .tup [.str "mirror"]
  | .top => .tup [.str "top"]
def Stp.word : Stp → Str
  | .up => "up"
  | .down _ => "down"
  | .leaf _ => "leaf"
  | .next => "next"
  | .last => "last"
  | .mirror => "mirror"
  | .top => "top"
def Stp.rest : Stp → List Dat
  | .down w => [.int w]
  | .leaf w => [.int w]
  | _ => []
theorem Stp.enc_eq (s : Stp) : s.enc = .tup (.str s.word :: s.rest) := by cases s <;> rfl
def Stp.ok (W : Nat) : Stp → Prop
  | .down w => w < W
  | .leaf w => w < W
  | _ => True
abbrev Pl := Nat × Int
def encP (p : Pl) : Dat := .tup [.int p.1, .int p.2]
def encO : Option Pl → Dat
  | none => .non
  | some p => encP p
def encS (ss : List Stp) : Dat := .tup (ss.map Stp.enc)
def encT (W d : Nat) : Dat := .tup [.int W, .int d]
def stepTo (W d : Nat) : Stp → Pl → Option Pl
  | .up, p => if 0 < p.1 then some (p.1 - 1, p.2 / W) else none
  | .down w, p => if p.1 < d then some (p.1 + 1, p.2 * W + w) else none
  | .leaf w, p => some (d, p.2 * (W : Int) ^ (d - p.1) + w * (((W : Int) ^ (d - p.1) - 1) / ((W : Int) - 1)))
  | .next, p => some (p.1, (p.2 + 1) % (W : Int) ^ p.1)
  | .last, p => some (p.1, (p.2 - 1) % (W : Int) ^ p.1)
  | .mirror, p => some (p.1, (W : Int) ^ p.1 - 1 - p.2)
  | .top, _ => some (0, 0)
def walked (W d : Nat) (ss : List Stp) (p : Option Pl) : Option Pl := ss.foldl (fun p s => p.bind (stepTo W d s)) p
/-- ways and depth as the program's trees have them; the size bounded by what the machine multiplies -/
structure TreeOk (W d : Nat) : Prop where
  wm : W = 2 ∨ W = 3
  dm : d ≤ 60
  sz : (W : Int) ^ d < 2 ^ 64
theorem pow_pos' {W : Nat} (h : W = 2 ∨ W = 3) (k : Nat) : (0 : Int) < (W : Int) ^ k := by
  rcases h with rfl | rfl
  · exact Int.pow_pos (by decide)
  · exact Int.pow_pos (by decide)
theorem pow_le' {W : Nat} (h : W = 2 ∨ W = 3) {j k : Nat} (hk : j ≤ k) : (W : Int) ^ j ≤ (W : Int) ^ k := by
  obtain ⟨m, rfl⟩ := Nat.exists_eq_add_of_le hk
  rw [Int.pow_add]
  have h1 := pow_pos' h j
  have h2 := pow_pos' h m
  have h3 : (W : Int) ^ j * 1 ≤ (W : Int) ^ j * (W : Int) ^ m := Int.mul_le_mul_of_nonneg_left (by omega) (by omega)
  omega
theorem TreeOk.le {W d k : Nat} (t : TreeOk W d) (h : k ≤ d) : 0 < (W : Int) ^ k ∧ (W : Int) ^ k < 2 ^ 64 := ⟨pow_pos' t.wm k, Int.lt_of_le_of_lt (pow_le' t.wm h) t.sz⟩
/-! ### the promises -/
abbrev Phi := List Dat → (Dat → Prop) → (Value → Prop) → Prop
def phi_power : Phi := fun ds k _ => ∃ (b : Int) (m : Nat), ds = [.int b, .int m] ∧ m ≤ 100000 ∧ -(2 ^ 64) < b ∧ b < 2 ^ 64 ∧ k (.int (b ^ m))
def isInt : Dat → Int → Int → Bool
  | .int i, lo, hi => decide (lo ≤ i) && decide (i ≤ hi)
  | _, _, _ => false
def phi_is_int : Phi := fun ds k _ => ∃ (v : Dat) (lo hi : Int), ds = [v, .int lo, .int hi] ∧ known v = true ∧ k (.bl (isInt v lo hi))
def phi_step_to : Phi := fun ds k _ => ∃ (W d : Nat) (s : Stp) (p : Pl), ds = [encT W d, s.enc, encP p] ∧ TreeOk W d ∧ s.ok W ∧ p.1 ≤ d ∧ k (encO (stepTo W d s p))
def phi_is_step : Phi := fun ds k _ => ∃ (W : Nat) (s : Stp), ds = [.int W, s.enc] ∧ s.ok W ∧ k (.bl true)
def phi_are_steps : Phi := fun ds k _ => (∃ (W : Nat) (ss : List Stp) (m : Int), ds = [.int W, encS ss, .int m] ∧ ss.length ≤ 10000 ∧ (∀ s ∈ ss, s.ok W) ∧ k (.bl (decide ((ss.length : Int) ≤ m)))) ∨
  ∃ (W : Nat) (v : Dat) (m : Int), ds = [.int W, v, .int m] ∧ known v = true ∧ tyTup v = false ∧ k (.bl false)
/-- the built-ins are what they were -/
structure Blt (G : Gm) : Prop where
  len : G.mg "len" = none
  range : G.mg "range" = none
  isinstance : G.mg "isinstance" = none
  int : G.mg "int" = none
  bool : G.mg "bool" = none
  str : G.mg "str" = none
  tuple : G.mg "tuple" = none
  list : G.mg "list" = none
  all : G.mg "all" = none
  abs : G.mg "abs" = none
  min : G.mg "min" = none
  max : G.mg "max" = none
end FT

end
section
/-! The mirror: levels, marks. -/
namespace FT
open PySem PySem.Spec PyProof.Rows L2 Evl DL
def allLv (m : Nat) : List (Nat × Nat) := (List.range (2 * m + 1)).flatMap fun d => ((List.range (d + 1)).filter fun l => decide (l ≤ m) && decide (d - l ≤ m)).map fun l => (d, l)
def encDL (p : Nat × Nat) : Dat := .tup [.int p.1, .int p.2]
inductive Mk where
  | top | leaf | both | none
  deriving DecidableEq
def Mk.str : Mk → Str
  | .top => "top"
  | .leaf => "leaf"
  | .both => "both"
  | .none => "none"
def Mk.enc (m : Mk) : Dat := .str m.str
def markOf (d : Nat) (p : Pl) : Mk := if p.1 = 0 then (if d = 0 then .both else .top) else if p.1 = d then .leaf else .none
/-- a turn of the walk with its marks -/
def mkTurn (W d : Nat) (s : Option Pl × List Mk) (t : Stp) : Option Pl × List Mk := match s.1 with
  | none => s
  | some p => match stepTo W d t p with
    | none => (none, s.2)
    | some q => (some q, s.2 ++ [markOf d q])
def marksOf (W d : Nat) (ss : List Stp) (l : Nat) : List Mk := (ss.foldl (mkTurn W d) (some (l, 0), [markOf d (l, 0)])).2
def encMs (ms : List Mk) : Dat := .tup (ms.map Mk.enc)
def fitting (W : Nat) (ss : List Stp) (seen : List Mk) : List (Nat × Nat) := (allLv 8).filter fun p => decide (marksOf W p.1 ss p.2 = seen)
def minL : List Nat → Nat
  | [] => 0
  | x :: xs => xs.foldl min x
def maxL : List Nat → Nat
  | [] => 0
  | x :: xs => xs.foldl max x
def encON : Option Nat → Dat
  | none => .non
  | some n => .int n
/-- the pair of a least and a greatest, or None -/
def encSt : Option (Nat × Option Nat) → Dat
  | none => .non
  | some p => .tup [.int p.1, encON p.2]
def depthsTold (W : Nat) (ss : List Stp) (seen : List Mk) : Option (Nat × Option Nat) :=
  let ps := fitting W ss seen
  if ps = [] then none else some (minL (ps.map (·.1)), if ((ps.filter fun p => decide (p.2 = 8) || decide (p.1 - p.2 = 8)).map (·.1)) ≠ [] then none else some (maxL (ps.map (·.1))))
def levelsTold (W : Nat) (ss : List Stp) (seen : List Mk) : Option (Nat × Option Nat) :=
  let ps := fitting W ss seen
  if ps = [] then none else some (minL (ps.map (·.2)), if 8 ∈ ps.map (·.2) then none else some (maxL (ps.map (·.2))))
theorem stepTo_le {W d : Nat} {s : Stp} {p q : Pl} (h : stepTo W d s p = some q) (hp : p.1 ≤ d) : q.1 ≤ d := by
  cases s <;> simp only [stepTo] at h
  · split at h
    · cases h; show p.1 - 1 ≤ d; omega
    · cases h
  · split at h
    · cases h; show p.1 + 1 ≤ d; omega
    · cases h
  all_goals (cases h; first | exact hp | exact Nat.le_refl _ | exact Nat.zero_le _)
theorem stepTo_lvl {W d : Nat} {s : Stp} {p q : Pl} (h : stepTo W d s p = some q) : q.1 ≤ d ∨ q.1 ≤ p.1 := by
  cases s <;> simp only [stepTo] at h
  · split at h
    · cases h; right; show p.1 - 1 ≤ p.1; omega
    · cases h
  · split at h
    · cases h; left; show p.1 + 1 ≤ d; omega
    · cases h
  all_goals (cases h; first | (left; exact Nat.le_refl _) | (right; exact Nat.le_refl _) | (left; exact Nat.zero_le _))
theorem foldl_take {α β : Type} (f : β → α → β) (b : β) {xs : List α} {n : Nat} {x : α} (h : xs[n]? = some x) : (xs.take (n + 1)).foldl f b = f ((xs.take n).foldl f b) x := by
  rw [take_succ' h, List.foldl_append]
  rfl
theorem marks_le {W d : Nat} {ss : List Stp} {p : Pl} {f : List Mk} (hp : p.1 ≤ d) : ∀ q, (ss.foldl (mkTurn W d) (some p, f)).1 = some q → q.1 ≤ d := by
  have key : ∀ (ss : List Stp) (o : Option Pl) (f : List Mk), (∀ q, o = some q → q.1 ≤ d) → ∀ q, (ss.foldl (mkTurn W d) (o, f)).1 = some q → q.1 ≤ d := by
    intro ss
    induction ss with
    | nil => intro o f h q e; exact h q e
    | cons s ss ih =>
      intro o f h
      rw [List.foldl_cons]
      cases o with
      | none => exact ih none f h
      | some p =>
        cases e : stepTo W d s p with
        | none =>
          have z : mkTurn W d (some p, f) s = (none, f) := by simp only [mkTurn, e]
          rw [z]
          exact ih none f fun q h => nomatch h
        | some q =>
          have z : mkTurn W d (some p, f) s = (some q, f ++ [markOf d q]) := by simp only [mkTurn, e]
          rw [z]
          exact ih (some q) _ fun q' h' => by cases h'; exact stepTo_le e (h p rfl)
  exact key ss (some p) f fun q h => by cases h; exact hp
theorem marks_len {W d : Nat} : ∀ (ss : List Stp) (s : Option Pl × List Mk), (ss.foldl (mkTurn W d) s).2.length ≤ s.2.length + ss.length
  | [], s => Nat.le_refl _
  | t :: ss, s => by
    rw [List.foldl_cons]
    have h := marks_len (W := W) (d := d) ss (mkTurn W d s t)
    have h2 : (mkTurn W d s t).2.length ≤ s.2.length + 1 := by
      unfold mkTurn
      split
      · omega
      · split
        · show s.2.length ≤ _; omega
        · show (s.2 ++ [_]).length ≤ _
          rw [List.length_append]
          exact Nat.le_refl _
    rw [List.length_cons]
    omega
/-! ### the promises -/
/-- classes of errors, by address -/
def phi_all_levels : Phi := fun ds k _ => ∃ m : Nat, ds = [.int m] ∧ m ≤ 20 ∧ k (.lst ((allLv m).map encDL))
def phi_mark_of : Phi := fun ds k _ => ∃ (W d : Nat) (p : Pl), ds = [encT W d, encP p] ∧ k (markOf d p).enc
def phi_marks_of : Phi := fun ds k _ => ∃ (W d : Nat) (ss : List Stp) (l : Nat), ds = [encT W d, encS ss, .int l] ∧ TreeOk W d ∧ ss.length ≤ 1000 ∧ (∀ s ∈ ss, s.ok W) ∧ l ≤ d ∧ k (encMs (marksOf W d ss l))
def phi_need_ways (EW : Addr) : Phi := fun ds k kx => (∃ W : Nat, ds = [.int W] ∧ (W = 2 ∨ W = 3) ∧ k .non) ∨ (ds = [.non] ∧ kx (.ref EW))
def phi_need_script (ES : Addr) : Phi := fun ds k kx => (∃ (W : Nat) (ss : List Stp), ds = [.int W, encS ss] ∧ ss.length ≤ 5 ∧ (∀ s ∈ ss, s.ok W) ∧ k .non) ∨ ∃ (W : Nat) (v : Dat), ds = [.int W, v] ∧ known v = true ∧ tyTup v = false ∧ kx (.ref ES)
/-- a value that is nothing that can be seen -/
def badSeen (n : Nat) : Dat → Bool
  | .tup xs => !(decide (1 ≤ xs.length) && decide (xs.length ≤ n + 1)) || !(xs.all fun x => match x with | .str s => decide (s ∈ (["top", "leaf", "both", "none"] : List Str)) | _ => false)
  | _ => true
def phi_need_seen (EN : Addr) : Phi := fun ds k kx => (∃ (ss : List Stp) (ms : List Mk), ds = [encS ss, encMs ms] ∧ ms.length ≤ 10000 ∧ 1 ≤ ms.length ∧ ms.length ≤ ss.length + 1 ∧ k .non) ∨
  ∃ (ss : List Stp) (v : Dat), ds = [encS ss, v] ∧ known v = true ∧ badSeen ss.length v = true ∧ (∀ xs, v = .tup xs → xs.length ≤ 10000 ∧ xs.all known = true ∧ xs.all (sm 8) = true) ∧ kx (.ref EN)
def phi_fitting (EN : Addr) : Phi := fun ds k kx => (∃ (W : Nat) (ss : List Stp) (ms : List Mk), ds = [.int W, encS ss, encMs ms] ∧ (W = 2 ∨ W = 3) ∧ ss.length ≤ 5 ∧ (∀ s ∈ ss, s.ok W) ∧ 1 ≤ ms.length ∧ ms.length ≤ ss.length + 1 ∧ k (.lst ((fitting W ss ms).map encDL))) ∨
  ∃ (W : Nat) (ss : List Stp) (v : Dat), ds = [.int W, encS ss, v] ∧ (W = 2 ∨ W = 3) ∧ ss.length ≤ 5 ∧ (∀ s ∈ ss, s.ok W) ∧ known v = true ∧ badSeen ss.length v = true ∧ (∀ xs, v = .tup xs → xs.length ≤ 10000 ∧ xs.all known = true ∧ xs.all (sm 8) = true) ∧ kx (.ref EN)
def phi_told (EN : Addr) (F : Nat → List Stp → List Mk → Option (Nat × Option Nat)) : Phi := fun ds k kx => (∃ (W : Nat) (ss : List Stp) (ms : List Mk), ds = [.int W, encS ss, encMs ms] ∧ (W = 2 ∨ W = 3) ∧ ss.length ≤ 5 ∧ (∀ s ∈ ss, s.ok W) ∧ 1 ≤ ms.length ∧ ms.length ≤ ss.length + 1 ∧ k (encSt (F W ss ms))) ∨
  ∃ (W : Nat) (ss : List Stp) (v : Dat), ds = [.int W, encS ss, v] ∧ (W = 2 ∨ W = 3) ∧ ss.length ≤ 5 ∧ (∀ s ∈ ss, s.ok W) ∧ known v = true ∧ badSeen ss.length v = true ∧ (∀ xs, v = .tup xs → xs.length ≤ 10000 ∧ xs.all known = true ∧ xs.all (sm 8) = true) ∧ kx (.ref EN)
end FT

end
section
namespace FT
open PySem PySem.Spec PyProof.Rows L2 Evl DL
def topS (i : Nat) : Stmt := PySem.Challenge.pw_fulltrees_k15_marks_that_were_seen.main.body.getD i (.Pass ⟨0, 0, 0, 0⟩)
abbrev s_is_int : Stmt := topS 18
abbrev n_is_int : List Str := ["value", "low", "high"]
theorem fa_is_int : Lv n_is_int (defScope s_is_int) 0 "value" ∧ Lv n_is_int (defScope s_is_int) 1 "low" ∧ Lv n_is_int (defScope s_is_int) 2 "high" ∧ Gv (defScope s_is_int) "isinstance" ∧ Gv (defScope s_is_int) "int" ∧ Gv (defScope s_is_int) "bool" := ⟨⟨rfl, rfl, by decide, by decide⟩, ⟨rfl, rfl, by decide, by decide⟩, ⟨rfl, rfl, by decide, by decide⟩, ⟨rfl, by decide⟩, ⟨rfl, by decide⟩, ⟨rfl, by decide⟩⟩
theorem st_is_int (a b c : Dat) : rho0 n_is_int [a, b, c] = [some (.d a), some (.d b), some (.d c)] := rfl
theorem sc_is_int : FnScope n_is_int ["value", "low", "high"] (defScope s_is_int) := ⟨rfl, rfl, rfl, by decide +kernel, rfl, by decide +kernel, by decide +kernel⟩
abbrev s_power : Stmt := topS 19
abbrev n_power : List Str := ["base", "many", "found", "turn"]
theorem fa_power : Lv n_power (defScope s_power) 0 "base" ∧ Lv n_power (defScope s_power) 1 "many" ∧ Lv n_power (defScope s_power) 2 "found" ∧ Lv n_power (defScope s_power) 3 "turn" ∧ Gv (defScope s_power) "range" := ⟨⟨rfl, rfl, by decide, by decide⟩, ⟨rfl, rfl, by decide, by decide⟩, ⟨rfl, rfl, by decide, by decide⟩, ⟨rfl, rfl, by decide, by decide⟩, ⟨rfl, by decide⟩⟩
theorem st_power (a b : Dat) : rho0 n_power [a, b] = [some (.d a), some (.d b), none, none] := rfl
theorem sc_power : FnScope n_power ["base", "many"] (defScope s_power) := ⟨rfl, rfl, rfl, by decide +kernel, rfl, by decide +kernel, by decide +kernel⟩
abbrev s_is_step : Stmt := topS 20
abbrev n_is_step : List Str := ["ways", "value"]
theorem fa_is_step : Lv n_is_step (defScope s_is_step) 0 "ways" ∧ Lv n_is_step (defScope s_is_step) 1 "value" ∧ Gv (defScope s_is_step) "isinstance" ∧ Gv (defScope s_is_step) "tuple" ∧ Gv (defScope s_is_step) "len" ∧ Gv (defScope s_is_step) "str" ∧ Gv (defScope s_is_step) "WITH_WAY" ∧ Gv (defScope s_is_step) "is_int" ∧ Gv (defScope s_is_step) "ALONE" := ⟨⟨rfl, rfl, by decide, by decide⟩, ⟨rfl, rfl, by decide, by decide⟩, ⟨rfl, by decide⟩, ⟨rfl, by decide⟩, ⟨rfl, by decide⟩, ⟨rfl, by decide⟩, ⟨rfl, by decide⟩, ⟨rfl, by decide⟩, ⟨rfl, by decide⟩⟩
theorem st_is_step (a b : Dat) : rho0 n_is_step [a, b] = [some (.d a), some (.d b)] := rfl
theorem sc_is_step : FnScope n_is_step ["ways", "value"] (defScope s_is_step) := ⟨rfl, rfl, rfl, by decide +kernel, rfl, by decide +kernel, by decide +kernel⟩
abbrev s_are_steps : Stmt := topS 21
abbrev n_are_steps : List Str := ["ways", "value", "most", "step"]
theorem fa_are_steps : Cv n_are_steps (defScope s_are_steps) 0 "ways" ∧ Lv n_are_steps (defScope s_are_steps) 1 "value" ∧ Lv n_are_steps (defScope s_are_steps) 2 "most" ∧ Gv (defScope s_are_steps) "isinstance" ∧ Gv (defScope s_are_steps) "tuple" ∧ Gv (defScope s_are_steps) "len" ∧ Gv (defScope s_are_steps) "all" := ⟨⟨rfl, rfl, by decide, by decide⟩, ⟨rfl, rfl, by decide, by decide⟩, ⟨rfl, rfl, by decide, by decide⟩, ⟨rfl, by decide⟩, ⟨rfl, by decide⟩, ⟨rfl, by decide⟩, ⟨rfl, by decide⟩⟩
theorem st_are_steps (a b c : Dat) : rho0 n_are_steps [a, b, c] = [some (.d a), some (.d b), some (.d c), none] := rfl
theorem sc_are_steps : FnScope n_are_steps ["ways", "value", "most"] (defScope s_are_steps) := ⟨rfl, rfl, rfl, by decide +kernel, rfl, by decide +kernel, by decide +kernel⟩
abbrev s_need_ways : Stmt := topS 22
abbrev n_need_ways : List Str := ["ways"]
theorem fa_need_ways : Lv n_need_ways (defScope s_need_ways) 0 "ways" ∧ Gv (defScope s_need_ways) "is_int" ∧ Gv (defScope s_need_ways) "InvalidWays" := ⟨⟨rfl, rfl, by decide, by decide⟩, ⟨rfl, by decide⟩, ⟨rfl, by decide⟩⟩
theorem st_need_ways (a : Dat) : rho0 n_need_ways [a] = [some (.d a)] := rfl
theorem sc_need_ways : FnScope n_need_ways ["ways"] (defScope s_need_ways) := ⟨rfl, rfl, rfl, by decide +kernel, rfl, by decide +kernel, by decide +kernel⟩
abbrev s_need_script : Stmt := topS 23
abbrev n_need_script : List Str := ["ways", "script"]
theorem fa_need_script : Lv n_need_script (defScope s_need_script) 0 "ways" ∧ Lv n_need_script (defScope s_need_script) 1 "script" ∧ Gv (defScope s_need_script) "are_steps" ∧ Gv (defScope s_need_script) "MOST_STEPS" ∧ Gv (defScope s_need_script) "InvalidScript" := ⟨⟨rfl, rfl, by decide, by decide⟩, ⟨rfl, rfl, by decide, by decide⟩, ⟨rfl, by decide⟩, ⟨rfl, by decide⟩, ⟨rfl, by decide⟩⟩
theorem st_need_script (a b : Dat) : rho0 n_need_script [a, b] = [some (.d a), some (.d b)] := rfl
theorem sc_need_script : FnScope n_need_script ["ways", "script"] (defScope s_need_script) := ⟨rfl, rfl, rfl, by decide +kernel, rfl, by decide +kernel, by decide +kernel⟩
abbrev s_step_to : Stmt := topS 25
abbrev n_step_to : List Str := ["tree", "step", "place", "ways", "depth", "level", "number", "word", "size", "wide"]
theorem fa_step_to : Lv n_step_to (defScope s_step_to) 0 "tree" ∧ Lv n_step_to (defScope s_step_to) 1 "step" ∧ Lv n_step_to (defScope s_step_to) 2 "place" ∧ Lv n_step_to (defScope s_step_to) 3 "ways" ∧ Lv n_step_to (defScope s_step_to) 4 "depth" ∧ Lv n_step_to (defScope s_step_to) 5 "level" ∧ Lv n_step_to (defScope s_step_to) 6 "number" ∧ Lv n_step_to (defScope s_step_to) 7 "word" ∧ Lv n_step_to (defScope s_step_to) 8 "size" ∧ Lv n_step_to (defScope s_step_to) 9 "wide" ∧ Gv (defScope s_step_to) "power" := ⟨⟨rfl, rfl, by decide, by decide⟩, ⟨rfl, rfl, by decide, by decide⟩, ⟨rfl, rfl, by decide, by decide⟩, ⟨rfl, rfl, by decide, by decide⟩, ⟨rfl, rfl, by decide, by decide⟩, ⟨rfl, rfl, by decide, by decide⟩, ⟨rfl, rfl, by decide, by decide⟩, ⟨rfl, rfl, by decide, by decide⟩, ⟨rfl, rfl, by decide, by decide⟩, ⟨rfl, rfl, by decide, by decide⟩, ⟨rfl, by decide⟩⟩
theorem st_step_to (a b c : Dat) : rho0 n_step_to [a, b, c] = [some (.d a), some (.d b), some (.d c), none, none, none, none, none, none, none] := rfl
theorem sc_step_to : FnScope n_step_to ["tree", "step", "place"] (defScope s_step_to) := ⟨rfl, rfl, rfl, by decide +kernel, rfl, by decide +kernel, by decide +kernel⟩
abbrev s_all_levels : Stmt := topS 28
abbrev n_all_levels : List Str := ["most", "found", "depth", "level"]
theorem fa_all_levels : Cv n_all_levels (defScope s_all_levels) 0 "most" ∧ Lv n_all_levels (defScope s_all_levels) 1 "found" ∧ Cv n_all_levels (defScope s_all_levels) 2 "depth" ∧ Gv (defScope s_all_levels) "range" := ⟨⟨rfl, rfl, by decide, by decide⟩, ⟨rfl, rfl, by decide, by decide⟩, ⟨rfl, rfl, by decide, by decide⟩, ⟨rfl, by decide⟩⟩
theorem st_all_levels (a : Dat) : rho0 n_all_levels [a] = [some (.d a), none, none, none] := rfl
theorem sc_all_levels : FnScope n_all_levels ["most"] (defScope s_all_levels) := ⟨rfl, rfl, rfl, by decide +kernel, rfl, by decide +kernel, by decide +kernel⟩
abbrev s_mark_of : Stmt := topS 31
abbrev n_mark_of : List Str := ["tree", "place"]
theorem fa_mark_of : Lv n_mark_of (defScope s_mark_of) 0 "tree" ∧ Lv n_mark_of (defScope s_mark_of) 1 "place" := ⟨⟨rfl, rfl, by decide, by decide⟩, ⟨rfl, rfl, by decide, by decide⟩⟩
theorem st_mark_of (a b : Dat) : rho0 n_mark_of [a, b] = [some (.d a), some (.d b)] := rfl
theorem sc_mark_of : FnScope n_mark_of ["tree", "place"] (defScope s_mark_of) := ⟨rfl, rfl, rfl, by decide +kernel, rfl, by decide +kernel, by decide +kernel⟩
abbrev s_marks_of : Stmt := topS 32
abbrev n_marks_of : List Str := ["tree", "script", "level", "place", "found", "step"]
theorem fa_marks_of : Lv n_marks_of (defScope s_marks_of) 0 "tree" ∧ Lv n_marks_of (defScope s_marks_of) 1 "script" ∧ Lv n_marks_of (defScope s_marks_of) 2 "level" ∧ Lv n_marks_of (defScope s_marks_of) 3 "place" ∧ Lv n_marks_of (defScope s_marks_of) 4 "found" ∧ Lv n_marks_of (defScope s_marks_of) 5 "step" ∧ Gv (defScope s_marks_of) "mark_of" ∧ Gv (defScope s_marks_of) "step_to" := ⟨⟨rfl, rfl, by decide, by decide⟩, ⟨rfl, rfl, by decide, by decide⟩, ⟨rfl, rfl, by decide, by decide⟩, ⟨rfl, rfl, by decide, by decide⟩, ⟨rfl, rfl, by decide, by decide⟩, ⟨rfl, rfl, by decide, by decide⟩, ⟨rfl, by decide⟩, ⟨rfl, by decide⟩⟩
theorem st_marks_of (a b c : Dat) : rho0 n_marks_of [a, b, c] = [some (.d a), some (.d b), some (.d c), none, none, none] := rfl
theorem sc_marks_of : FnScope n_marks_of ["tree", "script", "level"] (defScope s_marks_of) := ⟨rfl, rfl, rfl, by decide +kernel, rfl, by decide +kernel, by decide +kernel⟩
abbrev s_need_seen : Stmt := topS 33
abbrev n_need_seen : List Str := ["script", "seen", "mark"]
theorem fa_need_seen : Lv n_need_seen (defScope s_need_seen) 0 "script" ∧ Lv n_need_seen (defScope s_need_seen) 1 "seen" ∧ Gv (defScope s_need_seen) "isinstance" ∧ Gv (defScope s_need_seen) "tuple" ∧ Gv (defScope s_need_seen) "len" ∧ Gv (defScope s_need_seen) "InvalidSeen" ∧ Gv (defScope s_need_seen) "all" := ⟨⟨rfl, rfl, by decide, by decide⟩, ⟨rfl, rfl, by decide, by decide⟩, ⟨rfl, by decide⟩, ⟨rfl, by decide⟩, ⟨rfl, by decide⟩, ⟨rfl, by decide⟩, ⟨rfl, by decide⟩⟩
theorem st_need_seen (a b : Dat) : rho0 n_need_seen [a, b] = [some (.d a), some (.d b), none] := rfl
theorem sc_need_seen : FnScope n_need_seen ["script", "seen"] (defScope s_need_seen) := ⟨rfl, rfl, rfl, by decide +kernel, rfl, by decide +kernel, by decide +kernel⟩
abbrev s_fitting : Stmt := topS 34
abbrev n_fitting : List Str := ["ways", "script", "seen", "pair"]
theorem fa_fitting : Cv n_fitting (defScope s_fitting) 0 "ways" ∧ Cv n_fitting (defScope s_fitting) 1 "script" ∧ Cv n_fitting (defScope s_fitting) 2 "seen" ∧ Gv (defScope s_fitting) "need_ways" ∧ Gv (defScope s_fitting) "need_script" ∧ Gv (defScope s_fitting) "need_seen" ∧ Gv (defScope s_fitting) "all_levels" ∧ Gv (defScope s_fitting) "ENOUGH" := ⟨⟨rfl, rfl, by decide, by decide⟩, ⟨rfl, rfl, by decide, by decide⟩, ⟨rfl, rfl, by decide, by decide⟩, ⟨rfl, by decide⟩, ⟨rfl, by decide⟩, ⟨rfl, by decide⟩, ⟨rfl, by decide⟩, ⟨rfl, by decide⟩⟩
theorem st_fitting (a b c : Dat) : rho0 n_fitting [a, b, c] = [some (.d a), some (.d b), some (.d c), none] := rfl
theorem sc_fitting : FnScope n_fitting ["ways", "script", "seen"] (defScope s_fitting) := ⟨rfl, rfl, rfl, by decide +kernel, rfl, by decide +kernel, by decide +kernel⟩
abbrev s_depths_told : Stmt := topS 35
abbrev n_depths_told : List Str := ["ways", "script", "seen", "pairs", "depths", "far", "depth", "level"]
theorem fa_depths_told : Lv n_depths_told (defScope s_depths_told) 0 "ways" ∧ Lv n_depths_told (defScope s_depths_told) 1 "script" ∧ Lv n_depths_told (defScope s_depths_told) 2 "seen" ∧ Lv n_depths_told (defScope s_depths_told) 3 "pairs" ∧ Lv n_depths_told (defScope s_depths_told) 4 "depths" ∧ Lv n_depths_told (defScope s_depths_told) 5 "far" ∧ Gv (defScope s_depths_told) "fitting" ∧ Gv (defScope s_depths_told) "min" ∧ Gv (defScope s_depths_told) "max" := ⟨⟨rfl, rfl, by decide, by decide⟩, ⟨rfl, rfl, by decide, by decide⟩, ⟨rfl, rfl, by decide, by decide⟩, ⟨rfl, rfl, by decide, by decide⟩, ⟨rfl, rfl, by decide, by decide⟩, ⟨rfl, rfl, by decide, by decide⟩, ⟨rfl, by decide⟩, ⟨rfl, by decide⟩, ⟨rfl, by decide⟩⟩
theorem st_depths_told (a b c : Dat) : rho0 n_depths_told [a, b, c] = [some (.d a), some (.d b), some (.d c), none, none, none, none, none] := rfl
theorem sc_depths_told : FnScope n_depths_told ["ways", "script", "seen"] (defScope s_depths_told) := ⟨rfl, rfl, rfl, by decide +kernel, rfl, by decide +kernel, by decide +kernel⟩
abbrev s_levels_told : Stmt := topS 36
abbrev n_levels_told : List Str := ["ways", "script", "seen", "pairs", "levels", "depth", "level"]
theorem fa_levels_told : Lv n_levels_told (defScope s_levels_told) 0 "ways" ∧ Lv n_levels_told (defScope s_levels_told) 1 "script" ∧ Lv n_levels_told (defScope s_levels_told) 2 "seen" ∧ Lv n_levels_told (defScope s_levels_told) 3 "pairs" ∧ Lv n_levels_told (defScope s_levels_told) 4 "levels" ∧ Gv (defScope s_levels_told) "fitting" ∧ Gv (defScope s_levels_told) "min" ∧ Gv (defScope s_levels_told) "ENOUGH" ∧ Gv (defScope s_levels_told) "max" := ⟨⟨rfl, rfl, by decide, by decide⟩, ⟨rfl, rfl, by decide, by decide⟩, ⟨rfl, rfl, by decide, by decide⟩, ⟨rfl, rfl, by decide, by decide⟩, ⟨rfl, rfl, by decide, by decide⟩, ⟨rfl, by decide⟩, ⟨rfl, by decide⟩, ⟨rfl, by decide⟩, ⟨rfl, by decide⟩⟩
theorem st_levels_told (a b c : Dat) : rho0 n_levels_told [a, b, c] = [some (.d a), some (.d b), some (.d c), none, none, none, none] := rfl
theorem sc_levels_told : FnScope n_levels_told ["ways", "script", "seen"] (defScope s_levels_told) := ⟨rfl, rfl, rfl, by decide +kernel, rfl, by decide +kernel, by decide +kernel⟩
abbrev s_l_wood : Stmt := topS 38
abbrev n_l_wood : List Str := ["_law_script", "_law_k", "_law_cell"]
theorem fa_l_wood : Lv n_l_wood (defScope s_l_wood) 0 "_law_script" ∧ Lv n_l_wood (defScope s_l_wood) 1 "_law_k" ∧ Lv n_l_wood (defScope s_l_wood) 2 "_law_cell" ∧ Gv (defScope s_l_wood) "len" ∧ Gv (defScope s_l_wood) "abs" ∧ Gv (defScope s_l_wood) "int" := ⟨⟨rfl, rfl, by decide, by decide⟩, ⟨rfl, rfl, by decide, by decide⟩, ⟨rfl, rfl, by decide, by decide⟩, ⟨rfl, by decide⟩, ⟨rfl, by decide⟩, ⟨rfl, by decide⟩⟩
theorem st_l_wood (a b : Dat) : rho0 n_l_wood [a, b] = [some (.d a), some (.d b), none] := rfl
theorem sc_l_wood : FnScope n_l_wood ["_law_script", "_law_k"] (defScope s_l_wood) := ⟨rfl, rfl, rfl, by decide +kernel, rfl, by decide +kernel, by decide +kernel⟩
abbrev s_l_twig : Stmt := topS 39
abbrev n_l_twig : List Str := ["_law_wood_here", "_law_many", "_law_found", "_law_wide"]
theorem fa_l_twig : Lv n_l_twig (defScope s_l_twig) 0 "_law_wood_here" ∧ Lv n_l_twig (defScope s_l_twig) 1 "_law_many" ∧ Lv n_l_twig (defScope s_l_twig) 2 "_law_found" ∧ Lv n_l_twig (defScope s_l_twig) 3 "_law_wide" ∧ Gv (defScope s_l_twig) "int" := ⟨⟨rfl, rfl, by decide, by decide⟩, ⟨rfl, rfl, by decide, by decide⟩, ⟨rfl, rfl, by decide, by decide⟩, ⟨rfl, rfl, by decide, by decide⟩, ⟨rfl, by decide⟩⟩
theorem st_l_twig (a b : Dat) : rho0 n_l_twig [a, b] = [some (.d a), some (.d b), none, none] := rfl
theorem sc_l_twig : FnScope n_l_twig ["_law_wood_here", "_law_many"] (defScope s_l_twig) := ⟨rfl, rfl, rfl, by decide +kernel, rfl, by decide +kernel, by decide +kernel⟩
abbrev s_l_any : Stmt := topS 40
abbrev n_l_any : List Str := ["_law_wood_here", "_law_things"]
theorem fa_l_any : Lv n_l_any (defScope s_l_any) 0 "_law_wood_here" ∧ Lv n_l_any (defScope s_l_any) 1 "_law_things" ∧ Gv (defScope s_l_any) "_law_twig" ∧ Gv (defScope s_l_any) "len" := ⟨⟨rfl, rfl, by decide, by decide⟩, ⟨rfl, rfl, by decide, by decide⟩, ⟨rfl, by decide⟩, ⟨rfl, by decide⟩⟩
theorem st_l_any (a b : Dat) : rho0 n_l_any [a, b] = [some (.d a), some (.d b)] := rfl
theorem sc_l_any : FnScope n_l_any ["_law_wood_here", "_law_things"] (defScope s_l_any) := ⟨rfl, rfl, rfl, by decide +kernel, rfl, by decide +kernel, by decide +kernel⟩
abbrev s_l_one_step : Stmt := topS 41
abbrev n_l_one_step : List Str := ["_law_wood_here", "_law_ways", "_law_word"]
theorem fa_l_one_step : Lv n_l_one_step (defScope s_l_one_step) 0 "_law_wood_here" ∧ Lv n_l_one_step (defScope s_l_one_step) 1 "_law_ways" ∧ Lv n_l_one_step (defScope s_l_one_step) 2 "_law_word" ∧ Gv (defScope s_l_one_step) "_law_any" ∧ Gv (defScope s_l_one_step) "_law_twig" := ⟨⟨rfl, rfl, by decide, by decide⟩, ⟨rfl, rfl, by decide, by decide⟩, ⟨rfl, rfl, by decide, by decide⟩, ⟨rfl, by decide⟩, ⟨rfl, by decide⟩⟩
theorem st_l_one_step (a b : Dat) : rho0 n_l_one_step [a, b] = [some (.d a), some (.d b), none] := rfl
theorem sc_l_one_step : FnScope n_l_one_step ["_law_wood_here", "_law_ways"] (defScope s_l_one_step) := ⟨rfl, rfl, rfl, by decide +kernel, rfl, by decide +kernel, by decide +kernel⟩
abbrev s_l_steps : Stmt := topS 42
abbrev n_l_steps : List Str := ["_law_wood_here", "_law_ways", "_law_most", "_law_some", "_law_inner_so", "_law_low", "_law_still", "_law_turn"]
theorem fa_l_steps : Cv n_l_steps (defScope s_l_steps) 0 "_law_wood_here" ∧ Cv n_l_steps (defScope s_l_steps) 1 "_law_ways" ∧ Lv n_l_steps (defScope s_l_steps) 2 "_law_most" ∧ Lv n_l_steps (defScope s_l_steps) 3 "_law_some" ∧ Lv n_l_steps (defScope s_l_steps) 4 "_law_inner_so" ∧ Lv n_l_steps (defScope s_l_steps) 5 "_law_low" ∧ Lv n_l_steps (defScope s_l_steps) 6 "_law_still" ∧ Gv (defScope s_l_steps) "tuple" ∧ Gv (defScope s_l_steps) "range" ∧ Gv (defScope s_l_steps) "_law_twig" ∧ Gv (defScope s_l_steps) "_law_any" := ⟨⟨rfl, rfl, by decide, by decide⟩, ⟨rfl, rfl, by decide, by decide⟩, ⟨rfl, rfl, by decide, by decide⟩, ⟨rfl, rfl, by decide, by decide⟩, ⟨rfl, rfl, by decide, by decide⟩, ⟨rfl, rfl, by decide, by decide⟩, ⟨rfl, rfl, by decide, by decide⟩, ⟨rfl, by decide⟩, ⟨rfl, by decide⟩, ⟨rfl, by decide⟩, ⟨rfl, by decide⟩⟩
theorem st_l_steps (a b c : Dat) : rho0 n_l_steps [a, b, c] = [some (.d a), some (.d b), some (.d c), none, none, none, none, none] := rfl
theorem sc_l_steps : FnScope n_l_steps ["_law_wood_here", "_law_ways", "_law_most"] (defScope s_l_steps) := ⟨rfl, rfl, rfl, by decide +kernel, rfl, by decide +kernel, by decide +kernel⟩
abbrev s_l_figures : Stmt := topS 43
abbrev n_l_figures : List Str := ["_law_ways", "_law_spot", "_law_level", "_law_number", "_law_found", "_law_turn"]
theorem fa_l_figures : Lv n_l_figures (defScope s_l_figures) 0 "_law_ways" ∧ Lv n_l_figures (defScope s_l_figures) 1 "_law_spot" ∧ Lv n_l_figures (defScope s_l_figures) 2 "_law_level" ∧ Lv n_l_figures (defScope s_l_figures) 3 "_law_number" ∧ Lv n_l_figures (defScope s_l_figures) 4 "_law_found" ∧ Lv n_l_figures (defScope s_l_figures) 5 "_law_turn" ∧ Gv (defScope s_l_figures) "range" := ⟨⟨rfl, rfl, by decide, by decide⟩, ⟨rfl, rfl, by decide, by decide⟩, ⟨rfl, rfl, by decide, by decide⟩, ⟨rfl, rfl, by decide, by decide⟩, ⟨rfl, rfl, by decide, by decide⟩, ⟨rfl, rfl, by decide, by decide⟩, ⟨rfl, by decide⟩⟩
theorem st_l_figures (a b : Dat) : rho0 n_l_figures [a, b] = [some (.d a), some (.d b), none, none, none, none] := rfl
theorem sc_l_figures : FnScope n_l_figures ["_law_ways", "_law_spot"] (defScope s_l_figures) := ⟨rfl, rfl, rfl, by decide +kernel, rfl, by decide +kernel, by decide +kernel⟩
abbrev s_l_by_figures : Stmt := topS 44
abbrev n_l_by_figures : List Str := ["_law_ways", "_law_figures_here", "_law_number", "_law_figure"]
theorem fa_l_by_figures : Lv n_l_by_figures (defScope s_l_by_figures) 0 "_law_ways" ∧ Lv n_l_by_figures (defScope s_l_by_figures) 1 "_law_figures_here" ∧ Lv n_l_by_figures (defScope s_l_by_figures) 2 "_law_number" ∧ Lv n_l_by_figures (defScope s_l_by_figures) 3 "_law_figure" ∧ Gv (defScope s_l_by_figures) "len" := ⟨⟨rfl, rfl, by decide, by decide⟩, ⟨rfl, rfl, by decide, by decide⟩, ⟨rfl, rfl, by decide, by decide⟩, ⟨rfl, rfl, by decide, by decide⟩, ⟨rfl, by decide⟩⟩
theorem st_l_by_figures (a b : Dat) : rho0 n_l_by_figures [a, b] = [some (.d a), some (.d b), none, none] := rfl
theorem sc_l_by_figures : FnScope n_l_by_figures ["_law_ways", "_law_figures_here"] (defScope s_l_by_figures) := ⟨rfl, rfl, rfl, by decide +kernel, rfl, by decide +kernel, by decide +kernel⟩
abbrev s_l_moved : Stmt := topS 45
abbrev n_l_moved : List Str := ["_law_ways", "_law_figures_here", "_law_more", "_law_found", "_law_carry", "_law_figure"]
theorem fa_l_moved : Lv n_l_moved (defScope s_l_moved) 0 "_law_ways" ∧ Lv n_l_moved (defScope s_l_moved) 1 "_law_figures_here" ∧ Lv n_l_moved (defScope s_l_moved) 2 "_law_more" ∧ Lv n_l_moved (defScope s_l_moved) 3 "_law_found" ∧ Lv n_l_moved (defScope s_l_moved) 4 "_law_carry" ∧ Lv n_l_moved (defScope s_l_moved) 5 "_law_figure" := ⟨⟨rfl, rfl, by decide, by decide⟩, ⟨rfl, rfl, by decide, by decide⟩, ⟨rfl, rfl, by decide, by decide⟩, ⟨rfl, rfl, by decide, by decide⟩, ⟨rfl, rfl, by decide, by decide⟩, ⟨rfl, rfl, by decide, by decide⟩⟩
theorem st_l_moved (a b c : Dat) : rho0 n_l_moved [a, b, c] = [some (.d a), some (.d b), some (.d c), none, none, none] := rfl
theorem sc_l_moved : FnScope n_l_moved ["_law_ways", "_law_figures_here", "_law_more"] (defScope s_l_moved) := ⟨rfl, rfl, rfl, by decide +kernel, rfl, by decide +kernel, by decide +kernel⟩
abbrev s_l_step_so : Stmt := topS 46
abbrev n_l_step_so : List Str := ["_law_tree", "_law_step", "_law_figures_here", "_law_ways", "_law_depth", "_law_figure"]
theorem fa_l_step_so : Lv n_l_step_so (defScope s_l_step_so) 0 "_law_tree" ∧ Lv n_l_step_so (defScope s_l_step_so) 1 "_law_step" ∧ Lv n_l_step_so (defScope s_l_step_so) 2 "_law_figures_here" ∧ Cv n_l_step_so (defScope s_l_step_so) 3 "_law_ways" ∧ Lv n_l_step_so (defScope s_l_step_so) 4 "_law_depth" ∧ Gv (defScope s_l_step_so) "len" ∧ Gv (defScope s_l_step_so) "_law_moved" := ⟨⟨rfl, rfl, by decide, by decide⟩, ⟨rfl, rfl, by decide, by decide⟩, ⟨rfl, rfl, by decide, by decide⟩, ⟨rfl, rfl, by decide, by decide⟩, ⟨rfl, rfl, by decide, by decide⟩, ⟨rfl, by decide⟩, ⟨rfl, by decide⟩⟩
theorem st_l_step_so (a b c : Dat) : rho0 n_l_step_so [a, b, c] = [some (.d a), some (.d b), some (.d c), none, none, none] := rfl
theorem sc_l_step_so : FnScope n_l_step_so ["_law_tree", "_law_step", "_law_figures_here"] (defScope s_l_step_so) := ⟨rfl, rfl, rfl, by decide +kernel, rfl, by decide +kernel, by decide +kernel⟩
abbrev s_l_out : Stmt := topS 47
abbrev n_l_out : List Str := ["_law_tree", "_law_steps_so", "_law_spot", "_law_figures_here", "_law_step"]
theorem fa_l_out : Lv n_l_out (defScope s_l_out) 0 "_law_tree" ∧ Lv n_l_out (defScope s_l_out) 1 "_law_steps_so" ∧ Lv n_l_out (defScope s_l_out) 2 "_law_spot" ∧ Lv n_l_out (defScope s_l_out) 3 "_law_figures_here" ∧ Lv n_l_out (defScope s_l_out) 4 "_law_step" ∧ Gv (defScope s_l_out) "_law_figures" ∧ Gv (defScope s_l_out) "_law_step_so" ∧ Gv (defScope s_l_out) "_law_by_figures" := ⟨⟨rfl, rfl, by decide, by decide⟩, ⟨rfl, rfl, by decide, by decide⟩, ⟨rfl, rfl, by decide, by decide⟩, ⟨rfl, rfl, by decide, by decide⟩, ⟨rfl, rfl, by decide, by decide⟩, ⟨rfl, by decide⟩, ⟨rfl, by decide⟩, ⟨rfl, by decide⟩⟩
theorem st_l_out (a b c : Dat) : rho0 n_l_out [a, b, c] = [some (.d a), some (.d b), some (.d c), none, none] := rfl
theorem sc_l_out : FnScope n_l_out ["_law_tree", "_law_steps_so", "_law_spot"] (defScope s_l_out) := ⟨rfl, rfl, rfl, by decide +kernel, rfl, by decide +kernel, by decide +kernel⟩
abbrev s_l_kinds : Stmt := topS 48
abbrev n_l_kinds : List Str := ["_law_e", "_law_some", "_law_words", "_law_word", "_law_good"]
theorem fa_l_kinds : Lv n_l_kinds (defScope s_l_kinds) 0 "_law_e" ∧ Lv n_l_kinds (defScope s_l_kinds) 1 "_law_some" ∧ Lv n_l_kinds (defScope s_l_kinds) 2 "_law_words" ∧ Gv (defScope s_l_kinds) "isinstance" ∧ Gv (defScope s_l_kinds) "Fallen" ∧ Gv (defScope s_l_kinds) "InvalidNumber" ∧ Gv (defScope s_l_kinds) "InvalidPlace" ∧ Gv (defScope s_l_kinds) "InvalidScript" ∧ Gv (defScope s_l_kinds) "InvalidSeen" ∧ Gv (defScope s_l_kinds) "InvalidText" ∧ Gv (defScope s_l_kinds) "InvalidTree" ∧ Gv (defScope s_l_kinds) "InvalidWays" ∧ Gv (defScope s_l_kinds) "InvalidWord" ∧ Gv (defScope s_l_kinds) "NothingToUndo" ∧ Gv (defScope s_l_kinds) "TooMany" ∧ Gv (defScope s_l_kinds) "Unlike" ∧ Gv (defScope s_l_kinds) "ValueError" ∧ Gv (defScope s_l_kinds) "zip" := ⟨⟨rfl, rfl, by decide, by decide⟩, ⟨rfl, rfl, by decide, by decide⟩, ⟨rfl, rfl, by decide, by decide⟩, ⟨rfl, by decide⟩, ⟨rfl, by decide⟩, ⟨rfl, by decide⟩, ⟨rfl, by decide⟩, ⟨rfl, by decide⟩, ⟨rfl, by decide⟩, ⟨rfl, by decide⟩, ⟨rfl, by decide⟩, ⟨rfl, by decide⟩, ⟨rfl, by decide⟩, ⟨rfl, by decide⟩, ⟨rfl, by decide⟩, ⟨rfl, by decide⟩, ⟨rfl, by decide⟩, ⟨rfl, by decide⟩⟩
theorem st_l_kinds (a : Dat) : rho0 n_l_kinds [a] = [some (.d a), none, none, none, none] := rfl
theorem sc_l_kinds : FnScope n_l_kinds ["_law_e"] (defScope s_l_kinds) := ⟨rfl, rfl, rfl, by decide +kernel, rfl, by decide +kernel, by decide +kernel⟩
abbrev s_l_call : Stmt := topS 49
abbrev n_l_call : List Str := ["_law_call_so", "_law_found", "_law_e"]
theorem fa_l_call : Lv n_l_call (defScope s_l_call) 0 "_law_call_so" ∧ Lv n_l_call (defScope s_l_call) 1 "_law_found" ∧ Lv n_l_call (defScope s_l_call) 2 "_law_e" ∧ Gv (defScope s_l_call) "TooMany" ∧ Gv (defScope s_l_call) "_law_kinds" ∧ Gv (defScope s_l_call) "InvalidText" ∧ Gv (defScope s_l_call) "TreeError" := ⟨⟨rfl, rfl, by decide, by decide⟩, ⟨rfl, rfl, by decide, by decide⟩, ⟨rfl, rfl, by decide, by decide⟩, ⟨rfl, by decide⟩, ⟨rfl, by decide⟩, ⟨rfl, by decide⟩, ⟨rfl, by decide⟩⟩
theorem st_l_call (a : Dat) : rho0 n_l_call [a] = [some (.d a), none, none] := rfl
theorem sc_l_call : FnScope n_l_call ["_law_call_so"] (defScope s_l_call) := ⟨rfl, rfl, rfl, by decide +kernel, rfl, by decide +kernel, by decide +kernel⟩
abbrev s_l_marks : Stmt := topS 50
abbrev n_l_marks : List Str := ["_law_ways", "_law_depth", "_law_steps_so", "_law_level", "_law_spot", "_law_found", "_law_step", "_law_high", "_law_low"]
theorem fa_l_marks : Lv n_l_marks (defScope s_l_marks) 0 "_law_ways" ∧ Lv n_l_marks (defScope s_l_marks) 1 "_law_depth" ∧ Lv n_l_marks (defScope s_l_marks) 2 "_law_steps_so" ∧ Lv n_l_marks (defScope s_l_marks) 3 "_law_level" ∧ Lv n_l_marks (defScope s_l_marks) 4 "_law_spot" ∧ Lv n_l_marks (defScope s_l_marks) 5 "_law_found" ∧ Lv n_l_marks (defScope s_l_marks) 6 "_law_step" ∧ Lv n_l_marks (defScope s_l_marks) 7 "_law_high" ∧ Lv n_l_marks (defScope s_l_marks) 8 "_law_low" ∧ Gv (defScope s_l_marks) "_law_out" := ⟨⟨rfl, rfl, by decide, by decide⟩, ⟨rfl, rfl, by decide, by decide⟩, ⟨rfl, rfl, by decide, by decide⟩, ⟨rfl, rfl, by decide, by decide⟩, ⟨rfl, rfl, by decide, by decide⟩, ⟨rfl, rfl, by decide, by decide⟩, ⟨rfl, rfl, by decide, by decide⟩, ⟨rfl, rfl, by decide, by decide⟩, ⟨rfl, rfl, by decide, by decide⟩, ⟨rfl, by decide⟩⟩
theorem st_l_marks (a b c d : Dat) : rho0 n_l_marks [a, b, c, d] = [some (.d a), some (.d b), some (.d c), some (.d d), none, none, none, none, none] := rfl
theorem sc_l_marks : FnScope n_l_marks ["_law_ways", "_law_depth", "_law_steps_so", "_law_level"] (defScope s_l_marks) := ⟨rfl, rfl, rfl, by decide +kernel, rfl, by decide +kernel, by decide +kernel⟩
abbrev s_l_due : Stmt := topS 51
abbrev n_l_due : List Str := ["_law_ways", "_law_steps_so", "_law_seen", "_law_depths", "_law_levels", "_law_depth", "_law_level", "_law_wide"]
theorem fa_l_due : Lv n_l_due (defScope s_l_due) 0 "_law_ways" ∧ Lv n_l_due (defScope s_l_due) 1 "_law_steps_so" ∧ Lv n_l_due (defScope s_l_due) 2 "_law_seen" ∧ Lv n_l_due (defScope s_l_due) 3 "_law_depths" ∧ Lv n_l_due (defScope s_l_due) 4 "_law_levels" ∧ Lv n_l_due (defScope s_l_due) 5 "_law_depth" ∧ Lv n_l_due (defScope s_l_due) 6 "_law_level" ∧ Lv n_l_due (defScope s_l_due) 7 "_law_wide" ∧ Gv (defScope s_l_due) "range" ∧ Gv (defScope s_l_due) "_law_marks" ∧ Gv (defScope s_l_due) "min" ∧ Gv (defScope s_l_due) "max" := ⟨⟨rfl, rfl, by decide, by decide⟩, ⟨rfl, rfl, by decide, by decide⟩, ⟨rfl, rfl, by decide, by decide⟩, ⟨rfl, rfl, by decide, by decide⟩, ⟨rfl, rfl, by decide, by decide⟩, ⟨rfl, rfl, by decide, by decide⟩, ⟨rfl, rfl, by decide, by decide⟩, ⟨rfl, rfl, by decide, by decide⟩, ⟨rfl, by decide⟩, ⟨rfl, by decide⟩, ⟨rfl, by decide⟩, ⟨rfl, by decide⟩⟩
theorem st_l_due (a b c : Dat) : rho0 n_l_due [a, b, c] = [some (.d a), some (.d b), some (.d c), none, none, none, none, none] := rfl
theorem sc_l_due : FnScope n_l_due ["_law_ways", "_law_steps_so", "_law_seen"] (defScope s_l_due) := ⟨rfl, rfl, rfl, by decide +kernel, rfl, by decide +kernel, by decide +kernel⟩
abbrev s_l_right : Stmt := topS 52
abbrev n_l_right : List Str := ["_law_ways", "_law_steps_so", "_law_seen", "_law_due_here", "_law_told"]
theorem fa_l_right : Lv n_l_right (defScope s_l_right) 0 "_law_ways" ∧ Lv n_l_right (defScope s_l_right) 1 "_law_steps_so" ∧ Lv n_l_right (defScope s_l_right) 2 "_law_seen" ∧ Lv n_l_right (defScope s_l_right) 3 "_law_due_here" ∧ Lv n_l_right (defScope s_l_right) 4 "_law_told" ∧ Gv (defScope s_l_right) "_law_due" ∧ Gv (defScope s_l_right) "depths_told" ∧ Gv (defScope s_l_right) "levels_told" := ⟨⟨rfl, rfl, by decide, by decide⟩, ⟨rfl, rfl, by decide, by decide⟩, ⟨rfl, rfl, by decide, by decide⟩, ⟨rfl, rfl, by decide, by decide⟩, ⟨rfl, rfl, by decide, by decide⟩, ⟨rfl, by decide⟩, ⟨rfl, by decide⟩, ⟨rfl, by decide⟩⟩
theorem st_l_right (a b c : Dat) : rho0 n_l_right [a, b, c] = [some (.d a), some (.d b), some (.d c), none, none] := rfl
theorem sc_l_right : FnScope n_l_right ["_law_ways", "_law_steps_so", "_law_seen"] (defScope s_l_right) := ⟨rfl, rfl, rfl, by decide +kernel, rfl, by decide +kernel, by decide +kernel⟩
abbrev s_law : Stmt := topS 53
abbrev n_law : List Str := ["_law_script", "_law_k", "_law_wood_here", "_law_turn", "_law_depth", "_law_seen", "_law_spot", "_law_long", "_law_bad", "_law_call_so", "_law_steps_so", "_law_ways"]
theorem fa_law : Lv n_law (defScope s_law) 0 "_law_script" ∧ Lv n_law (defScope s_law) 1 "_law_k" ∧ Lv n_law (defScope s_law) 2 "_law_wood_here" ∧ Lv n_law (defScope s_law) 3 "_law_turn" ∧ Lv n_law (defScope s_law) 4 "_law_depth" ∧ Lv n_law (defScope s_law) 5 "_law_seen" ∧ Lv n_law (defScope s_law) 6 "_law_spot" ∧ Lv n_law (defScope s_law) 7 "_law_long" ∧ Cv n_law (defScope s_law) 8 "_law_bad" ∧ Cv n_law (defScope s_law) 9 "_law_call_so" ∧ Cv n_law (defScope s_law) 10 "_law_steps_so" ∧ Cv n_law (defScope s_law) 11 "_law_ways" ∧ Gv (defScope s_law) "range" ∧ Gv (defScope s_law) "max" ∧ Gv (defScope s_law) "min" ∧ Gv (defScope s_law) "len" ∧ Gv (defScope s_law) "_law_wood" ∧ Gv (defScope s_law) "_law_twig" ∧ Gv (defScope s_law) "_law_steps" ∧ Gv (defScope s_law) "_law_marks" ∧ Gv (defScope s_law) "_law_any" ∧ Gv (defScope s_law) "_law_right" ∧ Gv (defScope s_law) "depths_told" ∧ Gv (defScope s_law) "levels_told" ∧ Gv (defScope s_law) "_law_call" := ⟨⟨rfl, rfl, by decide, by decide⟩, ⟨rfl, rfl, by decide, by decide⟩, ⟨rfl, rfl, by decide, by decide⟩, ⟨rfl, rfl, by decide, by decide⟩, ⟨rfl, rfl, by decide, by decide⟩, ⟨rfl, rfl, by decide, by decide⟩, ⟨rfl, rfl, by decide, by decide⟩, ⟨rfl, rfl, by decide, by decide⟩, ⟨rfl, rfl, by decide, by decide⟩, ⟨rfl, rfl, by decide, by decide⟩, ⟨rfl, rfl, by decide, by decide⟩, ⟨rfl, rfl, by decide, by decide⟩, ⟨rfl, by decide⟩, ⟨rfl, by decide⟩, ⟨rfl, by decide⟩, ⟨rfl, by decide⟩, ⟨rfl, by decide⟩, ⟨rfl, by decide⟩, ⟨rfl, by decide⟩, ⟨rfl, by decide⟩, ⟨rfl, by decide⟩, ⟨rfl, by decide⟩, ⟨rfl, by decide⟩, ⟨rfl, by decide⟩, ⟨rfl, by decide⟩⟩
theorem st_law (a : Dat) : rho0 n_law [a] = [some (.d a), none, none, none, none, none, none, none, none, none, none, none] := rfl
theorem sc_law : FnScope n_law ["_law_script"] (defScope s_law) := ⟨rfl, rfl, rfl, by decide +kernel, rfl, by decide +kernel, by decide +kernel⟩

/-- where a def stands -/
abbrev At (G : Gm) (x : Str) (st : Stmt) (ps : List Str) : Prop := ∃ f fd, Fun G.K x x st f fd ∧ G.mg x = some (.ref f) ∧ Binds G.K fd ps []
end FT

end
section
namespace FT
open PySem PySem.Spec PyProof.Rows L2 Evl DL
theorem Stp.word_sm (s : Stp) : sm 8 (.str s.word) = true := by
  have key : ∀ x ∈ (["up", "down", "leaf", "next", "last", "mirror", "top"] : List Str), sm 8 (.str x) = true := by decide +kernel
  refine key _ ?_
  cases s <;> simp [Stp.word]
def Stp.way : Stp → Bool
  | .down _ => true
  | .leaf _ => true
  | _ => false
theorem any_w (l : List Str) (x : Str) : (l.map Dat.str).any (fun z => decide (z = .str x)) = decide (x ∈ l) := by
  rw [Bool.eq_iff_iff, List.any_eq_true, decide_eq_true_iff]
  constructor
  · rintro ⟨y, hy, e⟩
    obtain ⟨z, hz, rfl⟩ := List.mem_map.mp hy
    have e := of_decide_eq_true e
    cases e
    exact hz
  · intro h
    exact ⟨_, List.mem_map.mpr ⟨x, h, rfl⟩, decide_eq_true rfl⟩
theorem Stp.way_in (s : Stp) : ((["down", "leaf"] : List Str).map Dat.str).any (fun z => decide (z = .str s.word)) = s.way := by
  rw [any_w]
  have key : ∀ x ∈ (["up", "next", "last", "mirror", "top"] : List Str), decide (x ∈ (["down", "leaf"] : List Str)) = false := by decide +kernel
  cases s <;> first | exact key _ (by simp [Stp.word]) | exact decide_eq_true (by simp [Stp.word])
theorem Stp.alone_in (s : Stp) : ((["up", "next", "last", "mirror", "top"] : List Str).map Dat.str).any (fun z => decide (z = .str s.word)) = !s.way := by
  rw [any_w]
  have key : ∀ x ∈ (["down", "leaf"] : List Str), decide (x ∈ (["up", "next", "last", "mirror", "top"] : List Str)) = false := by decide +kernel
  cases s <;> first | exact key _ (by simp [Stp.word]) | exact decide_eq_true (by simp [Stp.word])
theorem ww_sm : ((["down", "leaf"] : List Str).map Dat.str).all (sm 8) = true := by decide +kernel
theorem al_sm : ((["up", "next", "last", "mirror", "top"] : List Str).map Dat.str).all (sm 8) = true := by decide +kernel
section
variable {G : Gm}
theorem ok_is_step (hf : At G "is_step" s_is_step ["ways", "value"]) (B : Blt G) (I : FnD G 1 "is_int" phi_is_int) (K1 : KTup G "WITH_WAY" ["down", "leaf"]) (K2 : KTup G "ALONE" ["up", "next", "last", "mirror", "top"]) : FnD G 2 "is_step" phi_is_step := by
  refine fnD_of hf sc_is_step (fun ds k kx h => ?_) ?_
  · obtain ⟨W, s, rfl, _⟩ := h
    rfl
  rintro W0 T0 H0 kx hx ds kd ⟨W, s, rfl, hs, hk⟩
  obtain ⟨v0, v1, g0, g1, g2, g3, g4, g5, g6⟩ := fa_is_step
  rw [st_is_step, Stp.enc_eq]
  have hl : s.rest.length = if s.way = true then 1 else 0 := by cases s <;> rfl
  refine sd_no (et_or3 (et_not (et_val (tup_ (v 1) rfl B.tuple B.isinstance))) (fun _ => et_not (et_leLe ed_int (len_ (v 1) rfl B.len) ed_int)) (fun _ _ => et_not (et_val (str_ (ed_ixT (v 1) ed_int (atI0 _ _)) rfl B.str B.isinstance)))) ?_ ?_
  · rw [List.length_cons, hl]
    cases s <;> rfl
  refine sd_when (et_inT (ed_ixT (v 1) ed_int (atI0 _ _)) (ktup_ K1) s.word_sm ww_sm) (fun hw => ?_) (fun hw => ?_)
  · rw [Stp.way_in] at hw
    obtain ⟨w, hr, hlt⟩ : ∃ w : Nat, s.rest = [.int w] ∧ w < W := by
      cases s <;> first | (cases hw; done) | exact ⟨_, rfl, hs⟩
    rw [hr]
    refine sd_retE (ed_and (ed_eq (len_ (v 1) rfl B.len) ed_int rfl rfl) (fun _ => call_ I (ea_cons (ed_ixT (v 1) ed_int (atI1 _ _ _)) (ea_cons ed_int (ea_cons (ed_sub (v 0) ed_int) ea_nil))) ⟨_, _, _, rfl, rfl, rfl⟩)) ?_
    have e : isInt (.int (w : Int)) 0 ((W : Int) - 1) = true := by
      show (decide ((0 : Int) ≤ w) && decide ((w : Int) ≤ (W : Int) - 1)) = true
      rw [decide_eq_true (by omega), decide_eq_true (by omega)]
      rfl
    rw [e]
    exact hk
  · rw [Stp.way_in] at hw
    have hr : s.rest = [] := by
      cases s <;> first | (cases hw; done) | rfl
    rw [hr]
    refine sd_retE (ed_and (ed_inT (ed_ixT (v 1) ed_int (atI0 _ _)) (ktup_ K2) s.word_sm al_sm) (fun _ => ed_eq (len_ (v 1) rfl B.len) ed_int rfl rfl)) ?_
    rw [Stp.alone_in, hw]
    exact hk
theorem ok_are_steps (hf : At G "are_steps" s_are_steps ["ways", "value", "most"]) (B : Blt G) (I : FnD G 2 "is_step" phi_is_step) : FnD G 3 "are_steps" phi_are_steps := by
  refine fnD_of hf sc_are_steps (fun ds k kx h => ?_) ?_
  · rcases h with ⟨W, ss, m, rfl, _⟩ | ⟨W, v, m, rfl, _⟩ <;> rfl
  rintro W0 T0 H0 kx hx ds kd (⟨W, ss, m, rfl, hz, hs, hk⟩ | ⟨W, vv1, m, rfl, hv, ht, hk⟩)
  · obtain ⟨v0, v1, v2, g0, g1, g2, g3⟩ := fa_are_steps
    rw [st_are_steps]
    refine sd_retE (ed_and3 (tup_ (v 1) rfl B.tuple B.isinstance) (fun _ => ed_le (len_ (v 1) rfl B.len) (v 2)) (fun _ _ => ed_all (ns := (ss.filter fun _ => true).map fun _ => true) (wd_lc ?_) rfl B.all)) ?_
    · refine lcE_tup [("step", 3)] ss Stp.enc (fun _ => true) (fun _ => .bl true) (v 1) (blkOk_by (N := n_are_steps) (sc := defScope s_are_steps) (by decide +kernel)) (by omega) (fun s h => ?_) (by rw [List.map_map]; rfl)
      refine ⟨_, gd_name 3 rfl (.inl rfl), rfl, fun _ => ?_⟩
      exact ed_call I hle rfl (ea_cons (vv 0) (ea_cons (vv 3) ea_nil)) ⟨W, s, rfl, hs s h, rfl⟩
    · have e : (((ss.filter fun _ => true).map fun _ => true).all id) = true := by
        rw [List.all_eq_true]
        intro x hx
        obtain ⟨_, _, rfl⟩ := List.mem_map.mp hx
        rfl
      rw [e, List.length_map, Bool.and_true]
      exact hk
  · obtain ⟨v0, v1, v2, g0, g1, g2, g3⟩ := fa_are_steps
    rw [st_are_steps]
    refine sd_retE (ed_and3 (y := false) (z := false) (tup_ (v 1) hv B.tuple B.isinstance) (fun h => by rw [ht] at h; cases h) fun h => by rw [ht] at h; cases h) ?_
    rw [ht]
    exact hk
theorem ok_need_ways (hf : At G "need_ways" s_need_ways ["ways"]) {EW : Addr} (E : ExcF G "InvalidWays" EW) (I : FnD G 1 "is_int" phi_is_int) : FnD G 2 "need_ways" (phi_need_ways EW) := by
  refine fnD_of hf sc_need_ways (fun ds k kx h => ?_) ?_
  · rcases h with ⟨W, rfl, _⟩ | ⟨rfl, _⟩ <;> rfl
  rintro W0 T0 H0 kx hx ds kd (⟨W, rfl, hW, hk⟩ | ⟨rfl, hk⟩)
  · obtain ⟨v0, g0, g1⟩ := fa_need_ways
    rw [st_need_ways]
    refine sd_no (et_not (et_val (call_ I (ea_cons (v 0) (ea_cons ed_int (ea_cons ed_int ea_nil))) ⟨_, _, _, rfl, rfl, rfl⟩))) ?_ (sd_nil hk)
    rcases hW with rfl | rfl <;> rfl
  · obtain ⟨v0, g0, g1⟩ := fa_need_ways
    rw [st_need_ways]
    exact sd_yes (et_not (et_val (call_ I (ea_cons (v 0) (ea_cons ed_int (ea_cons ed_int ea_nil))) ⟨_, _, _, rfl, rfl, rfl⟩))) rfl (raise_ E hk)
theorem ok_need_script (hf : At G "need_script" s_need_script ["ways", "script"]) {ES : Addr} {t5 : Tok} (E : ExcF G "InvalidScript" ES) (hM : G.mg "MOST_STEPS" = some (.int 5 t5)) (I : FnD G 3 "are_steps" phi_are_steps) : FnD G 4 "need_script" (phi_need_script ES) := by
  refine fnD_of hf sc_need_script (fun ds k kx h => ?_) ?_
  · rcases h with ⟨W, ss, rfl, _⟩ | ⟨W, v, rfl, _⟩ <;> rfl
  rintro W0 T0 H0 kx hx ds kd (⟨W, ss, rfl, hl, hs, hk⟩ | ⟨W, v', rfl, hv, ht, hk⟩)
  · obtain ⟨v0, v1, g0, g1, g2⟩ := fa_need_script
    rw [st_need_script]
    refine sd_no (et_not (et_val (call_ I (ea_cons (v 0) (ea_cons (v 1) (ea_cons (kint_ hM) ea_nil))) (.inl ⟨W, ss, 5, rfl, by omega, hs, rfl⟩)))) ?_ (sd_nil hk)
    rw [decide_eq_true (by omega)]
    rfl
  · obtain ⟨v0, v1, g0, g1, g2⟩ := fa_need_script
    rw [st_need_script]
    exact sd_yes (et_not (et_val (call_ I (ea_cons (v 0) (ea_cons (v 1) (ea_cons (kint_ hM) ea_nil))) (.inr ⟨W, v', 5, rfl, hv, ht, rfl⟩)))) rfl (raise_ E hk)
end
end FT

end
section
/-! The mirror: places by their figures. -/
namespace FT
open PySem PySem.Spec PyProof.Rows L2 Evl DL
theorem dec_iff2 {p q : Prop} [Decidable p] [Decidable q] (h : p ↔ q) : decide p = decide q := by
  by_cases hp : p
  · rw [decide_eq_true hp, decide_eq_true (h.mp hp)]
  · rw [decide_eq_false hp, decide_eq_false fun z => hp (h.mpr z)]
theorem lst_nil2 {xs : List Dat} : decide (Dat.lst xs = .lst []) = decide (xs = []) := dec_iff2 ⟨fun h => Dat.lst.inj h, fun h => by rw [h]⟩
theorem ints_sm2 (xs : List Int) : sm 8 (.lst (xs.map Dat.int)) = true := by
  show (xs.map Dat.int).all (sm 7) = true
  rw [List.all_eq_true]
  intro x hx
  obtain ⟨m, _, rfl⟩ := List.mem_map.mp hx
  rfl
def figs (W : Nat) : Nat → Int → List Int
  | 0, _ => []
  | l + 1, n => figs W l (n / W) ++ [n % W]
def Pok (W d : Nat) (p : Pl) : Prop := p.1 ≤ d ∧ 0 ≤ p.2 ∧ p.2 < (W : Int) ^ p.1
section
variable {W : Nat}
theorem wpos (h : W = 2 ∨ W = 3) : (0 : Int) < (W : Int) := by omega
theorem figs_len : ∀ (l : Nat) (n : Int), (figs W l n).length = l
  | 0, _ => rfl
  | l + 1, n => by rw [figs, List.length_append, figs_len l]; rfl
theorem div_pow (h : W = 2 ∨ W = 3) (n : Int) (l : Nat) : n / (W : Int) / (W : Int) ^ l = n / (W : Int) ^ (l + 1) := by
  rw [Int.pow_succ, Int.mul_comm, Int.ediv_ediv_of_nonneg (Int.le_of_lt (wpos h))]
theorem div_pow' (h : W = 2 ∨ W = 3) (n : Int) (l : Nat) : n / (W : Int) ^ l / (W : Int) = n / (W : Int) ^ (l + 1) := by
  rw [Int.pow_succ, Int.ediv_ediv_of_nonneg (Int.le_of_lt (pow_pos' h l))]
theorem figs_top (h : W = 2 ∨ W = 3) : ∀ (l : Nat) (n : Int), figs W (l + 1) n = (n / (W : Int) ^ l % W) :: figs W l n
  | 0, n => by
    show [] ++ [n % (W : Int)] = _
    rw [Int.pow_zero, Int.ediv_one]
    rfl
  | l + 1, n => by
    rw [figs, figs_top h l (n / W), div_pow h]
    rfl
theorem figs_in (h : W = 2 ∨ W = 3) : ∀ (l : Nat) (n : Int), ∀ f ∈ figs W l n, 0 ≤ f ∧ f < W
  | 0, _, f, hf => by cases hf
  | l + 1, n, f, hf => by
    rw [figs] at hf
    rcases List.mem_append.mp hf with hf | hf
    · exact figs_in h l _ f hf
    · cases List.mem_singleton.mp hf
      exact ⟨Int.emod_nonneg _ (by omega), Int.emod_lt_of_pos _ (wpos h)⟩
theorem figs_add (h : W = 2 ∨ W = 3) : ∀ (l : Nat) (n k : Int), figs W l (n + k * (W : Int) ^ l) = figs W l n
  | 0, _, _ => rfl
  | l + 1, n, k => by
    have e : n + k * (W : Int) ^ (l + 1) = n + (k * (W : Int) ^ l) * (W : Int) := by rw [Int.pow_succ, Int.mul_assoc]
    rw [figs, figs, e, Int.add_mul_ediv_right _ _ (by have := wpos h; omega), Int.add_mul_emod_self_right, figs_add h l]
theorem figs_mod (h : W = 2 ∨ W = 3) (l : Nat) (n : Int) : figs W l (n % (W : Int) ^ l) = figs W l n := by
  have e : n % (W : Int) ^ l = n + (-(n / (W : Int) ^ l)) * (W : Int) ^ l := by
    have := Int.emod_add_mul_ediv n ((W : Int) ^ l)
    rw [Int.mul_comm] at this
    rw [Int.neg_mul]
    omega
  rw [e, figs_add h]
theorem lt_pow_div (h : W = 2 ∨ W = 3) {l : Nat} {n : Int} (h2 : n < (W : Int) ^ (l + 1)) : n / (W : Int) < (W : Int) ^ l := by
  rw [Int.pow_succ] at h2
  exact Int.ediv_lt_of_lt_mul (wpos h) h2
def valF (W : Nat) (fs : List Int) : Int := fs.foldl (fun a f => a * (W : Int) + f) 0
theorem val_figs (h : W = 2 ∨ W = 3) : ∀ (l : Nat) (n : Int), 0 ≤ n → n < (W : Int) ^ l → valF W (figs W l n) = n
  | 0, n, h1, h2 => by
    rw [Int.pow_zero] at h2
    show (0 : Int) = n
    omega
  | l + 1, n, h1, h2 => by
    have e := val_figs h l (n / W) (Int.ediv_nonneg h1 (Int.le_of_lt (wpos h))) (lt_pow_div h h2)
    unfold valF at e ⊢
    rw [figs, List.foldl_append, e]
    show n / (W : Int) * (W : Int) + n % (W : Int) = n
    exact Int.ediv_mul_add_emod n W
theorem figs_at (h : W = 2 ∨ W = 3) : ∀ (l : Nat) (n : Int) (t : Nat), t < l → (figs W l n).reverse[t]? = some (n / (W : Int) ^ t % W)
  | 0, _, t, ht => by omega
  | l + 1, n, 0, _ => by
    rw [figs, List.reverse_append, Int.pow_zero, Int.ediv_one]
    rfl
  | l + 1, n, t + 1, ht => by
    rw [figs, List.reverse_append]
    show (figs W l (n / W)).reverse[t]? = _
    rw [figs_at h l _ t (by omega), div_pow h]
theorem carry_next (h : W = 2 ∨ W = 3) (n m : Int) (t : Nat) : (n / (W : Int) ^ t % W + (n % (W : Int) ^ t + m) / (W : Int) ^ t) / W = (n % (W : Int) ^ (t + 1) + m) / (W : Int) ^ (t + 1) := by
  have hp := pow_pos' h t
  have hw := wpos h
  have e1 : n % (W : Int) ^ (t + 1) = n / (W : Int) ^ t % W * (W : Int) ^ t + n % (W : Int) ^ t := by
    have a := Int.emod_add_mul_ediv n ((W : Int) ^ (t + 1))
    have b := Int.emod_add_mul_ediv n ((W : Int) ^ t)
    have c := Int.emod_add_mul_ediv (n / (W : Int) ^ t) (W : Int)
    rw [div_pow' h] at c
    rw [Int.pow_succ] at a c ⊢
    generalize n / ((W : Int) ^ t * (W : Int)) = z at *
    generalize n / (W : Int) ^ t % (W : Int) = y at *
    generalize n / (W : Int) ^ t = x at *
    generalize (W : Int) ^ t = P at *
    have c2 : P * x = y * P + P * (W : Int) * z := by
      rw [← c, Int.mul_add, Int.mul_comm P y, Int.mul_assoc]
    omega
  rw [e1, Int.add_assoc, ← div_pow' h, Int.add_comm (n / (W : Int) ^ t % W * (W : Int) ^ t), Int.add_mul_ediv_right _ _ (by omega), Int.add_comm]
theorem fig_moved (h : W = 2 ∨ W = 3) (n m : Int) (t : Nat) : (n / (W : Int) ^ t % W + (n % (W : Int) ^ t + m) / (W : Int) ^ t) % W = (n + m) / (W : Int) ^ t % W := by
  have hp := pow_pos' h t
  have e : n + m = (n % (W : Int) ^ t + m) + n / (W : Int) ^ t * (W : Int) ^ t := by
    have := Int.emod_add_mul_ediv n ((W : Int) ^ t)
    rw [Int.mul_comm] at this
    omega
  rw [e, Int.add_mul_ediv_right _ _ (by omega), Int.emod_add_emod, Int.add_comm]
theorem figs_mirror (h : W = 2 ∨ W = 3) : ∀ (l : Nat) (n : Int), (figs W l n).map (fun f => (W : Int) - 1 - f) = figs W l ((W : Int) ^ l - 1 - n)
  | 0, _ => rfl
  | l + 1, n => by
    have hw := wpos h
    have e : (W : Int) ^ (l + 1) - 1 - n = ((W : Int) - 1 - n % W) + ((W : Int) ^ l - 1 - n / W) * (W : Int) := by
      have := Int.ediv_mul_add_emod n W
      rw [Int.pow_succ, Int.sub_mul, Int.sub_mul, Int.one_mul]
      omega
    have r1 := Int.emod_nonneg n (show (W : Int) ≠ 0 by omega)
    have r2 := Int.emod_lt_of_pos n hw
    rw [figs, figs, List.map_append, figs_mirror h l, e, Int.add_mul_ediv_right _ _ (by omega), Int.add_mul_emod_self_right, Int.ediv_eq_zero_of_lt (a := (W : Int) - 1 - n % W) (by omega) (by omega), Int.emod_eq_of_lt (a := (W : Int) - 1 - n % W) (by omega) (by omega), Int.zero_add]
    rfl
theorem figs_down (h : W = 2 ∨ W = 3) (l : Nat) (n w : Int) (h1 : 0 ≤ w) (h2 : w < W) : figs W l n ++ [w] = figs W (l + 1) (n * W + w) := by
  have hw := wpos h
  rw [figs, Int.add_comm, Int.add_mul_ediv_right _ _ (by omega), Int.add_mul_emod_self_right, Int.ediv_eq_zero_of_lt h1 h2, Int.emod_eq_of_lt h1 h2, Int.zero_add]
/-- the number of the first leaf below on a way, at a distance -/
def leafAt (W : Nat) (n w : Int) : Nat → Int
  | 0 => n
  | k + 1 => leafAt W n w k * W + w
theorem figs_leaf (h : W = 2 ∨ W = 3) (l : Nat) (n w : Int) (h1 : 0 ≤ w) (h2 : w < W) : ∀ k, figs W l n ++ List.replicate k w = figs W (l + k) (leafAt W n w k)
  | 0 => by rw [List.replicate_zero, List.append_nil]; rfl
  | k + 1 => by
    rw [List.replicate_succ', ← List.append_assoc, figs_leaf h l n w h1 h2 k, figs_down h _ _ _ h1 h2]
    rfl
theorem geo (h : W = 2 ∨ W = 3) : ∀ k : Nat, ((W : Int) ^ (k + 1) - 1) / ((W : Int) - 1) = ((W : Int) ^ k - 1) / ((W : Int) - 1) * W + 1
  | k => by
    have key : ∃ g : Int, (W : Int) ^ k - 1 = g * ((W : Int) - 1) := by
      induction k with
      | zero => exact ⟨0, by rw [Int.pow_zero]; omega⟩
      | succ k ih =>
        obtain ⟨g, hg⟩ := ih
        refine ⟨g * W + 1, ?_⟩
        have e : (W : Int) ^ k = g * ((W : Int) - 1) + 1 := by omega
        rw [Int.pow_succ, e]
        rcases h with rfl | rfl <;> (simp only [Int.add_mul, Int.mul_sub]; omega)
    obtain ⟨g, hg⟩ := key
    have hn : ((W : Int) - 1) ≠ 0 := by omega
    have e2 : (W : Int) ^ (k + 1) - 1 = (g * W + 1) * ((W : Int) - 1) := by
      have e : (W : Int) ^ k = g * ((W : Int) - 1) + 1 := by omega
      rw [Int.pow_succ, e]
      rcases h with rfl | rfl <;> (simp only [Int.add_mul, Int.mul_sub]; omega)
    rw [e2, hg, Int.mul_ediv_cancel _ hn, Int.mul_ediv_cancel _ hn]
theorem leafAt_eq (h : W = 2 ∨ W = 3) (n w : Int) : ∀ k : Nat, leafAt W n w k = n * (W : Int) ^ k + w * (((W : Int) ^ k - 1) / ((W : Int) - 1))
  | 0 => by
    rw [Int.pow_zero, Int.sub_self, Int.zero_ediv]
    show n = _
    omega
  | k + 1 => by
    rw [leafAt, leafAt_eq h n w k, geo h, Int.pow_succ, Int.add_mul, Int.mul_add, Int.mul_one, Int.mul_assoc, Int.mul_assoc, Int.add_assoc]
theorem leafAt_in (h : W = 2 ∨ W = 3) {n w : Int} (l : Nat) (hn : 0 ≤ n) (hn2 : n < (W : Int) ^ l) (h1 : 0 ≤ w) (h2 : w < W) : ∀ k, 0 ≤ leafAt W n w k ∧ leafAt W n w k < (W : Int) ^ (l + k)
  | 0 => ⟨hn, hn2⟩
  | k + 1 => by
    obtain ⟨a, b⟩ := leafAt_in h l hn hn2 h1 h2 k
    have hw := wpos h
    refine ⟨?_, ?_⟩
    · show 0 ≤ leafAt W n w k * W + w
      have := Int.mul_nonneg a (Int.le_of_lt hw)
      omega
    · show leafAt W n w k * W + w < (W : Int) ^ (l + k + 1)
      rw [Int.pow_succ]
      have : (leafAt W n w k + 1) * (W : Int) ≤ (W : Int) ^ (l + k) * (W : Int) := Int.mul_le_mul_of_nonneg_right (by omega) (Int.le_of_lt hw)
      rw [Int.add_mul, Int.one_mul] at this
      omega
theorem stepTo_ok (h : W = 2 ∨ W = 3) {d : Nat} {s : Stp} {p q : Pl} (hs : s.ok W) (hp : Pok W d p) (e : stepTo W d s p = some q) : Pok W d q := by
  obtain ⟨l, n⟩ := p
  obtain ⟨h1, h2, h3⟩ := hp
  have hw := wpos h
  have hl := pow_pos' h l
  cases s <;> simp only [stepTo] at e
  · split at e
    · rename_i hl0
      cases e
      refine ⟨by show l - 1 ≤ d; have : l ≤ d := h1; omega, Int.ediv_nonneg h2 (Int.le_of_lt hw), ?_⟩
      obtain ⟨m, rfl⟩ : ∃ m, l = m + 1 := ⟨l - 1, by have : 0 < l := hl0; omega⟩
      exact lt_pow_div h h3
    · cases e
  · rename_i w
    have hs : w < W := hs
    split at e
    · rename_i hl0
      cases e
      have := leafAt_in h (n := n) (w := (w : Int)) l h2 h3 (by omega) (by omega) 1
      exact ⟨by show l + 1 ≤ d; have : l < d := hl0; omega, this.1, this.2⟩
    · cases e
  · rename_i w
    have hs : w < W := hs
    have h1 : l ≤ d := h1
    cases e
    have := leafAt_in h (n := n) (w := (w : Int)) l h2 h3 (by omega) (by omega) (d - l)
    rw [leafAt_eq h] at this
    refine ⟨Nat.le_refl d, this.1, ?_⟩
    have q := this.2
    rw [show l + (d - l) = d by omega] at q
    exact q
  · cases e
    exact ⟨h1, Int.emod_nonneg _ (by show (W : Int) ^ l ≠ 0; omega), Int.emod_lt_of_pos _ hl⟩
  · cases e
    exact ⟨h1, Int.emod_nonneg _ (by show (W : Int) ^ l ≠ 0; omega), Int.emod_lt_of_pos _ hl⟩
  · cases e
    refine ⟨h1, ?_, ?_⟩
    · show 0 ≤ (W : Int) ^ l - 1 - n
      have : n < (W : Int) ^ l := h3
      omega
    · show (W : Int) ^ l - 1 - n < (W : Int) ^ l
      have : 0 ≤ n := h2
      omega
  · cases e
    exact ⟨Nat.zero_le _, Int.le_refl 0, by show (0 : Int) < (W : Int) ^ 0; rw [Int.pow_zero]; decide⟩
end
/-- the place of a walk through figures -/
def encF (W : Nat) : Option Pl → Dat
  | none => .non
  | some p => .lst ((figs W p.1 p.2).map Dat.int)
def figStep (W : Nat) (p : Pl) : Dat := .lst ((figs W p.1 p.2).map Dat.int)
/-! ### the promises -/
def phi_l_figures : Phi := fun ds k _ => ∃ (W l : Nat) (n : Int), ds = [.int W, encP (l, n)] ∧ (W = 2 ∨ W = 3) ∧ l ≤ 1000 ∧ k (.lst ((figs W l n).map Dat.int))
def phi_l_by_figures : Phi := fun ds k _ => ∃ (W l : Nat) (n : Int), ds = [.int W, .lst ((figs W l n).map Dat.int)] ∧ (W = 2 ∨ W = 3) ∧ l ≤ 1000 ∧ 0 ≤ n ∧ n < (W : Int) ^ l ∧ k (encP (l, n))
def phi_l_moved : Phi := fun ds k _ => ∃ (W l : Nat) (n m : Int), ds = [.int W, .lst ((figs W l n).map Dat.int), .int m] ∧ (W = 2 ∨ W = 3) ∧ l ≤ 1000 ∧ k (.lst ((figs W l (n + m)).map Dat.int))
def phi_l_step_so : Phi := fun ds k _ => ∃ (W d : Nat) (s : Stp) (p : Pl), ds = [encT W d, s.enc, encF W (some p)] ∧ (W = 2 ∨ W = 3) ∧ d ≤ 1000 ∧ s.ok W ∧ Pok W d p ∧ k (encF W (stepTo W d s p))
def phi_l_out : Phi := fun ds k _ => ∃ (W d : Nat) (ss : List Stp) (p : Pl), ds = [encT W d, encS ss, encP p] ∧ (W = 2 ∨ W = 3) ∧ d ≤ 1000 ∧ ss.length ≤ 1000 ∧ (∀ s ∈ ss, s.ok W) ∧ Pok W d p ∧ k (encO (walked W d ss (some p)))
end FT

end
section
/-! The data layer: more rules. -/
namespace DL
open PySem PySem.Spec PyProof.Rows L2 Evl
section
variable {C : DC} {e a b c o : Expr} {es : List Expr} {ρ ρ' : DEnv} {rest sts sts' : List Stmt} {D : DEnds} {x y : Str} {p p' p2 p3 q1 q2 pa pn pos pos2 spos pr : Pos}
/-- a place that is read or captured -/
theorem unpackc_ {d d' : Dat} {k : Nat} (i j : Nat) (h : ED C e ρ (.tup [d, d'])) (kk : SD C rest ((ρ.set i (some (.d d))).set j (some (.d d'))) D) (V : Cv C.N C.sc i x := by assumption) (V2 : Lv C.N C.sc j y := by assumption) (hd : C.df = true := by rfl)
    (hs : ∀ env : Env, swapsWithSole [.Tuple [.Name x p, .Name y p'] k p2] e pos.line env = pure false := by intro _; rfl) (hw : ∀ env : Env, swappedStores [.Tuple [.Name x p, .Name y p'] k p2] e env = pure none := by intro _; rfl) : SD C (.Assign [.Tuple [.Name x p, .Name y p'] k p2] e pos :: rest) ρ D := fun X F σ T H Tb S ex => by
  refine ws_of (pss_cons (ps_asg pe_we (pg_we (tg := .Tuple [.Name x p, .Name y p'] k p2)) (hs _) (hw _) rfl) ps_we) ?_
  refine h X F σ T H _ S fun v d T' H' S' st i1 k1 => ?_
  subst k1
  exact gd_pair i j V.hi (.inr ⟨hd, V.hl⟩) V2.hi (.inl V2.hl) X F σ T' H' v _ S' i1 fun σ' S2 _ => kk X F σ' T' H' Tb S2 (ex.trans st.t)
theorem newL2_ {k k2 : Nat} (i j : Nat) (kk : SD C rest ((ρ.set i (some (.l []))).set j (some (.l []))) D) (V : Lv C.N C.sc i x := by assumption) (V2 : Lv C.N C.sc j y := by assumption) (hij : i ≠ j := by decide)
    (hk : C.sc.kind = .function := by rfl) (hline : (p'.line == p.line) = true := by rfl) (hxy : (y == x) = false := by decide)
    (hs : ∀ env : Env, swapsWithSole [.Tuple [.Name x p, .Name y p'] k p2] (.Tuple [.List [] q1, .List [] q2] k2 p3) pos.line env = pure false := by intro _; rfl) : SD C (.Assign [.Tuple [.Name x p, .Name y p'] k p2] (.Tuple [.List [] q1, .List [] q2] k2 p3) pos :: rest) ρ D := fun X F σ T H Tb S ex =>
  ws_of (pss_cons (ps_par F.calm (by rw [F.N]; exact F.nd) (by rw [F.N]; exact V.hi) (by rw [F.N]; exact V2.hi) hij (by rw [F.sc]; exact V.hl) (by rw [F.sc]; exact V2.hl) (pa_cons (pe_lst pa_nil) (pa_cons (pe_lst pa_nil) pa_nil rfl) rfl)
      (sw_pair (by rw [F.sc]; exact hk) (by rw [F.sc]; exact V.hl) (by rw [F.sc]; exact V2.hl) hline hxy rfl rfl rfl) (hs _)) ps_we)
    ⟨Nat.zero_le _, fun q hq => ⟨Nat.zero_le _, fun r hr => ⟨_, _, rfl, kk X F _ T _ Tb ((S.newOwn (s := .l []) (o := .lst []) hq True.intro (show IsA C.G.K T [] [] from .nil) i).newOwn (s := .l []) (o := .lst []) hr True.intro (show IsA C.G.K T [] [] from .nil) j) ex⟩⟩⟩
theorem append_ {d : Dat} {xs : List Dat} (i : Nat) (h : ED C e ρ d) (k : SD C rest (ρ.set i (some (.l (xs ++ [d])))) D) (V : Lv C.N C.sc i x := by assumption) (hx : ρ[i]? = some (some (.l xs)) := by rfl) (hz : xs.length ≤ 90000)
    (hb : ∀ env : Env, attributeBase (.Name x pn) "append" env (eval (.Name x pn) env) = eval (.Name x pn) env := by intro _; rfl)
    (hfew : ∀ env : Env, ((backTo pos (starEach [e] env)).all (fun x => !x.1) && (backToKw pos (keywordEach [] env)).all (fun x => x.1.isSome) && decide ([e].length + ([] : List Keyword).length + (if ([] : List Keyword).isEmpty then 0 else 1) < 30)) = true := by intro _; rfl)
    (hline : (pa.endLine == pos.line) = true := by rfl) (hse : ∀ env : Env, starEach [e] env = (false, eval e env) :: starEach [] env := by intro _; rfl) (hpl : ∀ env : Env, (backTo pos (starEach [] env)).any (·.1) = false := by intro _; rfl)
    (hs : ∀ env : Env, swapsWith (.Call (.Attribute (.Name x pn) "append" pa) [e] [] pos) none pos2.line env = pure false := by intro _; rfl) :
    SD C (.Expr (.Call (.Attribute (.Name x pn) "append" pa) [e] [] pos) pos2 :: rest) ρ D := sd_append i V.hi (.inl V.hl) hx hz (wd_of h k) hb hfew hline hse hpl hs V.h1 V.h2
end
theorem cutL_last {α : Type} (xs : List α) : cutL xs none (some (-1)) = xs.dropLast := by
  unfold cutL
  rw [HT.sIx_none]
  have e : HT.sIx xs.length xs.length (some (-1)) = xs.length - 1 := by
    unfold HT.sIx
    simp
    omega
  rw [e, List.drop_zero, Nat.sub_zero, List.dropLast_eq_take]
end DL

end
section
/-! The data layer: the law's wood, a list of two numbers that turns in place. -/
namespace DL
open PySem PySem.Spec PyProof.Rows L2 Evl
section
variable {C : DC} {a b e : Expr} {es : List Expr} {ρ : DEnv} {rest : List Stmt} {D : DEnds} {x : Str} {p pos : Pos} {w : Addr}
theorem atI_two {α : Type} {x y : α} {i : Int} (h : i = 0 ∨ i = 1) : ∃ z, atI [x, y] i = some z ∧ (z = x ∨ z = y) := by
  rcases h with rfl | rfl
  · exact ⟨x, atI0 _ _, .inl rfl⟩
  · exact ⟨y, atI1 _ _ _, .inr rfl⟩
theorem wd_woodAt {i : Int} {k : Dat → Prop} (hw : C.wd = some w) (ha : ED C a ρ (.fn w)) (hb : ED C b ρ (.int i)) (h : i = 0 ∨ i = 1) (hk : ∀ n : Int, k (.int n)) (hs : PlainIx b := by intro _ _; rfl) : WD C (.Subscript a b pos) ρ k := by
  refine wd_ix (r := fun X => rIxL X.K) (fun X _ => ix_list) (wd_of ha (wd_of hb ?_)) hs
  intro X F σ T H v u Q S iv iw q
  show rIxL X.K _ _ _ _
  rw [F.K]
  cases iw
  cases iv
  obtain ⟨n, m, hH⟩ := S.wd w hw
  obtain ⟨z, h1, h2⟩ := atI_two (x := V.int n) (y := V.int m) h
  refine ⟨_, _, i, z, rfl, rfl, sq_of hH, h1, ?_⟩
  rcases h2 with rfl | rfl
  · exact q _ _ T H S Step.refl (.int n) (hk n)
  · exact q _ _ T H S Step.refl (.int m) (hk m)
theorem DSt.woodWr {σ : L2.St} {T H : Hp} (S : DSt C σ T H ρ) (hw : C.wd = some w) (n m : Int) : DSt C σ T (L2.upd H w (.lst [.int n, .int m])) ρ ∧ Step C.mv T H T (L2.upd H w (.lst [.int n, .int m])) := by
  obtain ⟨n0, m0, hH⟩ := S.wd w hw
  have hT := S.mt w hw
  have st : Step C.mv T H T (L2.upd H w (.lst [.int n, .int m])) := ⟨Ex.refl T, fun a o h z => by rw [upd_ne (fun q : a = w => z (by rw [q]; exact .inl hw))]; exact h, fun _ _ _ _ => rfl, fun a o h n => by
    by_cases z : a = w
    · rw [z, upd_same]; exact ⟨_, rfl, isLD.ntb True.intro⟩
    · rw [upd_ne z]; exact ⟨o, h, n⟩, fun _ _ h => h⟩
  refine ⟨S.go (fun a o h => ?_) st (C.stab H _ S.jv fun a o h lo => ?_) (fun w' h => ?_), st⟩
  · by_cases z : a = w
    · rw [z, hT] at h; cases h
    · rw [upd_ne z]; exact S.ex a o h
  · by_cases z : a = w
    · rw [z, hH] at h; cases h; exact (lo True.intro).elim
    · rw [upd_ne z]; exact h
  · rw [hw] at h
    cases h
    exact ⟨n, m, upd_same⟩
theorem sd_woodSet {i : Int} (hw : C.wd = some w) (ha : ED C a ρ (.fn w)) (hb : ED C b ρ (.int i)) (h : i = 0 ∨ i = 1) (he : WD C e ρ fun d => ∃ n, d = .int n ∧ SD C rest ρ D)
    (hs : ∀ env : Env, swapsWithSole [.Subscript a b p] e pos.line env = pure false := by intro _; rfl) (hv : ∀ env : Env, swappedStores [.Subscript a b p] e env = pure none := by intro _; rfl)
    (hg : ∀ (env : Env) v, assign (.Subscript a b p) env v = (do
      let ov ← holding [v] (eval a env)
      let iv ← holding [v, ov] (eval b env)
      standAt p
      holding [v, ov, iv] (setItem ov iv v)
      release [v, ov, iv] []) := by intro _ _; rfl)
    (h1 : ∀ env : Env, (assignEach [.Subscript a b p] env).map (·.2) = [assign (.Subscript a b p) env] := by intro _; rfl) : SD C (.Assign [.Subscript a b p] e pos :: rest) ρ D := fun X F σ T H Tb S ex => by
  refine ws_of (pss_cons (ps_asg pe_we (pg_sub pe_we pe_we set_list (hg _)) (hs _) (hv _) (h1 _)) ps_we) ?_
  refine he X F σ T H _ S fun v d T1 H1 S1 st1 i1 k1 => ?_
  obtain ⟨n, rfl, kk⟩ := k1
  cases i1
  refine ha X F σ T1 H1 _ S1 fun u d T2 H2 S2 st2 i2 k2 => ?_
  subst k2
  cases i2
  refine hb X F σ T2 H2 _ S2 fun u d T3 H3 S3 st3 i3 k3 => ?_
  subst k3
  cases i3
  obtain ⟨n0, m0, hH⟩ := S3.wd w hw
  have fin : ∀ n m : Int, WSs X rest (ends C Tb D) σ (L2.upd H3 w (.lst [.int n, .int m])) := fun n m => kk X F σ T3 _ Tb (S3.woodWr hw n m).1 (((ex.trans st1.t).trans st2.t).trans st3.t)
  rcases h with rfl | rfl
  · exact ⟨w, _, 0, 0, rfl, rfl, hH, rfl, fin n m0⟩
  · exact ⟨w, _, 1, 1, rfl, rfl, hH, rfl, fin n0 n⟩
end
/-! ### defs that turn the wood -/
def spW (K : PySem.W.Frag) (φ : List Dat → (Dat → Prop) → Prop) : Sp := fun vs H Q _ =>
  ∃ (T : Hp) (w : Addr) (us : List V) (ds : List Dat) (k : Dat → Prop), vs = .ref w :: us ∧ Ex T H ∧ (∀ a ps, T a ≠ some (.tbl ps)) ∧ T w = none ∧ Wood H w ∧ IsA K T us ds ∧ φ ds k ∧ ∀ v d T' H', Step (fun a _ => a = w) T H T' H' → Ex T' H' → Wood H' w → Is K T' v d → k d → Q v H'
structure FnW (G : Gm) (r : Nat) (x : Str) (φ : List Dat → (Dat → Prop) → Prop) : Prop where
  ex : ∃ (f : Addr) (fd : FuncData) (ps : List Str), G.mg x = some (.ref f) ∧ PySem.W.keepIn G.K (.ref f) = true ∧ Binds G.K fd ps [] ∧ FnOk G.P G.w G.K G.mg G.base (L2N.CX G.P G.w) r f fd ps (spW G.K φ)
section
variable {C : DC} {e : Expr} {es : List Expr} {ρ : DEnv} {x : Str} {p pos : Pos} {φ : List Dat → (Dat → Prop) → Prop} {w : Addr}
theorem wd_callT {r : Nat} {k : Dat → Prop} (G : FnW C.G r x φ) (hr : r ≤ C.r) (hw : C.wd = some w) (hg : C.sc.names.lookup x = some .globalImplicit) (h : AD C (e :: es) ρ fun ds => ∃ es, ds = .fn w :: es ∧ φ es k) (hdb : (x == ("__debug__" : Str)) = false := by decide)
    (he : ∀ env : Env, starEach (e :: es) env = (false, eval e env) :: starEach es env := by intro _; rfl) (hpl : ∀ env : Env, (backTo pos (starEach es env)).any (·.1) = false := by intro _; rfl) : WD C (.Call (.Name x p) (e :: es) [] pos) ρ k := fun X F σ T H Q S q => by
  obtain ⟨f, fd, ps, h1, h2, h3, h4⟩ := G.ex
  have h4' : FnOk X.prog X.w X.K X.mg X.base (L2N.CX X.prog X.w) C.r f fd ps (spW X.K φ) := by
    rw [F.prog, F.wld, F.K, F.mg, F.base]
    exact h4.mono hr
  have hx : L2.Passes (L2N.CX X.prog X.w) X (fun c d H' => False) := L2N.passes_call F.tk fun c d σ' H' z => z.elim
  refine we_of (pe_call h4' F.room (gl_of F hg) (by rw [F.mg]; exact h1) (by rw [F.K]; exact h2) (by rw [F.K]; exact h3) .nil hx pa_we hdb (he _) (hpl _)) ?_
  refine h X F σ T H _ S fun vs ds T1 H1 S1 st1 i1 k1 => ?_
  show spW X.K φ (vs ++ []) H1 Q _
  rw [List.append_nil, F.K]
  obtain ⟨es', rfl, k1⟩ := k1
  cases i1 with
  | cons iw ia =>
    cases iw
    have mw := S1.mt w hw
    have ww := S1.wd w hw
    refine ⟨T1, w, _, es', k, rfl, S1.ex, S1.tf, mw, ww, ia, k1, fun v d T' H' st ex' wd' iv kd => ?_⟩
    have st' : Step C.mv T1 H1 T' H' := st.weak fun a o z => by rw [z]; exact .inl hw
    have hjv : C.jv H' := C.stab H1 H' S1.jv fun a o h lo => st.k a o h fun z => by
      obtain ⟨n, m, hH⟩ := ww
      rw [z, hH] at h
      cases h
      exact lo True.intro
    exact q v d T' H' (S1.go ex' st' hjv fun w' h => by rw [hw] at h; cases h; exact wd') (st1.trans st') iv kd
end
abbrev mkT (G : Gm) (N : List Str) (sc : Scope) (r : Nat) (W : WX) (T0 H0 : Hp) (w : Addr) : DC where
  G := G
  N := N
  sc := sc
  r := r
  W := W
  wd := some w
  tb := False
  jv := fun _ => True
  T0 := T0
  H0 := H0
  kx := fun _ => False
  df := true
  cq := fun _ => True
  stab := fun _ _ _ _ => trivial
  hx := fun c σ T H st e _ _ hc => hc.elim
theorem fnW_of {G : Gm} {x : Str} {st : Stmt} {N ps : List Str} {k : Nat} {φ : List Dat → (Dat → Prop) → Prop} (hf : ∃ f fd, Fun G.K x x st f fd ∧ G.mg x = some (.ref f) ∧ Binds G.K fd ps []) (S : FnScope N ps (defScope st)) (hl : ∀ ds k, φ ds k → ds.length + 1 = ps.length)
    (body : ∀ (W : WX) (T0 H0 : Hp) (w : Addr) (ds : List Dat) (kd : Dat → Prop), φ ds kd → SD (mkT G N (defScope st) k W T0 H0 w) (defBody st) (rho0 N (.fn w :: ds)) { nx := fun _ => kd .non, rt := kd }) : FnW G (k + 1) x φ := by
  obtain ⟨f, fd, F, hm, hb⟩ := hf
  refine ⟨f, fd, ps, hm, F.kp, hb, fun_okN F S (fun vs H Q E h => ?_) (fun cdv A outer s H vs Q E hr h => ?_)⟩
  · obtain ⟨T, w, us, ds, kd, rfl, _, _, _, _, hA, hφ, _⟩ := h
    rw [List.length_cons, hA.length]
    exact hl ds kd hφ
  · obtain ⟨T, w, us, ds, kd, rfl, hE, hF, hTw, hW, hA, hφ, hQ⟩ := h
    have hl2 := hl ds kd hφ
    have hA' : IsA G.K T (.ref w :: us) (.fn w :: ds) := .cons (.fn w) hA
    have hn : ps.length ≤ N.length := by
      have := congrArg List.length S.pre
      rw [List.length_take] at this
      omega
    refine ⟨_, ps_we, ?_⟩
    have FX : Fx (mkT G N (defScope st) k (fun cls d _ H => E cls d H) T H w) (cxOf (L2N.CX G.P G.w) G.P G.w G.K G.mg G.base N x (defScope st) f cdv A outer s H E) :=
      { prog := rfl, wld := rfl, K := rfl, mg := rfl, base := rfl, N := rfl, sc := rfl, nd := S.nd, calm := rfl, room := hr, tk := L2N.takes_of rfl rfl rfl rfl, fn := fun _ _ => rfl, own := fun _ => passes_of rfl, cq := trivial }
    have ST : DSt (mkT G N (defScope st) k (fun cls d _ H => E cls d H) T H w) (L2.start N (.ref w :: us)) T H (rho0 N (.fn w :: ds)) := by
      refine ⟨hE, Step.refl, trivial, (fun w' h => by cases h; exact hW), (fun a h => ?_), hF, ⟨?_, fun i y h => start_at hA' i y h, fun i s h ho => ?_, fun i j s u p _ h _ ho _ => ?_⟩⟩
      · cases h
        exact hTw
      · unfold rho0 L2.start
        rw [List.length_append, List.length_append, List.length_map, List.length_map, List.length_replicate, List.length_replicate, hA'.length]
      all_goals
        exfalso
        unfold rho0 at h
        by_cases hi : i < (Dat.fn w :: ds).length
        · rw [List.getElem?_append_left (by simpa using hi), List.getElem?_map] at h
          cases q : (Dat.fn w :: ds)[i]? with
          | none => rw [q] at h; cases h
          | some d => rw [q] at h; cases h; exact ho
        · rw [List.getElem?_append_right (by simpa using hi), List.getElem?_replicate] at h
          split at h <;> cases h
    have wk : ∀ {T' H' : Hp}, Step (mkT G N (defScope st) k (fun cls d _ H => E cls d H) T H w).mv T H T' H' → Step (fun a _ => a = w) T H T' H' := fun s => s.weak fun a o z => z.elim (fun q => by cases q; rfl) fun q => q.1.elim
    refine ws_mono (body _ T H w ds kd hφ _ FX _ T H T ST (Ex.refl T)) (fun σ' H' ⟨T', ρ', S', _, k'⟩ => ?_) (fun v H' ⟨T', d, R, iv, k'⟩ => ?_) (fun _ _ ⟨_, _, _, _, z⟩ => z) (fun _ _ ⟨_, _, _, _, z⟩ => z)
    · exact hQ .non .non T' H' (wk S'.step) S'.ex (S'.wd w rfl) .non k'
    · exact hQ v d T' H' (wk R.step) R.ex (R.wd w rfl) iv k'
end DL

end
section
/-! The data layer: drawn numbers. -/
namespace DL
open PySem PySem.Spec PyProof.Rows L2 Evl
/-- a number of which P is known -/
abbrev WI (C : DC) (e : Expr) (ρ : DEnv) (P : Int → Prop) : Prop := WD C e ρ fun d => ∃ i, d = .int i ∧ P i
section
variable {C : DC} {a b c e : Expr} {es : List Expr} {ρ : DEnv} {pos p : Pos} {w : Addr} {P P' R : Int → Prop} {k : Dat → Prop} {x : Str} {rest : List Stmt} {D : DEnds}
theorem wi_of {i : Int} (h : ED C e ρ (.int i)) (q : P i) : WI C e ρ P := wd_of h ⟨i, rfl, q⟩
theorem wi_any {i : Int} (h : ED C e ρ (.int i)) : WI C e ρ fun _ => True := wd_of h ⟨i, rfl, trivial⟩
theorem wi_k (h : WI C e ρ P) (q : ∀ i, P i → k (.int i)) : WD C e ρ k := h.mono fun d ⟨i, e, hp⟩ => by rw [e]; exact q i hp
theorem wi_op {op : Operator} {Cn : Int → Int → Prop} {g : Int → Int → Int} (ho : ∀ X : Cx, OpR X (binaryOp op) (rI Cn fun i j => V.int (g i j))) (ha : WI C a ρ P) (hb : WI C b ρ P') (h : ∀ i j, P i → P' j → Cn i j ∧ R (g i j)) : WI C (.BinOp a op b pos) ρ R := by
  refine wd_bin (r := fun _ => rI Cn fun i j => V.int (g i j)) (fun X _ => ho X) (ha.mono ?_)
  rintro d ⟨i, rfl, hp⟩
  refine hb.mono ?_
  rintro d ⟨j, rfl, hp2⟩
  intro X F σ T H v w Q S iv iw q
  cases iv
  cases iw
  exact ⟨i, j, rfl, rfl, (h i j hp hp2).1, q _ _ T H S Step.refl (.int _) ⟨_, rfl, (h i j hp hp2).2⟩⟩
theorem wi_op0 {op : Operator} {g : Int → Int → Int} (ho : ∀ X : Cx, OpR X (binaryOp op) (rI0 fun i j => V.int (g i j))) (ha : WI C a ρ P) (hb : WI C b ρ P') (h : ∀ i j, P i → P' j → R (g i j)) : WI C (.BinOp a op b pos) ρ R := by
  refine wd_bin (r := fun _ => rI0 fun i j => V.int (g i j)) (fun X _ => ho X) (ha.mono ?_)
  rintro d ⟨i, rfl, hp⟩
  refine hb.mono ?_
  rintro d ⟨j, rfl, hp2⟩
  intro X F σ T H v w Q S iv iw q
  cases iv
  cases iw
  exact ⟨i, j, rfl, rfl, q _ _ T H S Step.refl (.int _) ⟨_, rfl, h i j hp hp2⟩⟩
theorem wi_add (ha : WI C a ρ P) (hb : WI C b ρ P') (h : ∀ i j, P i → P' j → R (i + j)) : WI C (.BinOp a .Add b pos) ρ R := wi_op0 (g := fun i j => i + j) (fun X => op_add) ha hb h
theorem wi_sub (ha : WI C a ρ P) (hb : WI C b ρ P') (h : ∀ i j, P i → P' j → R (i - j)) : WI C (.BinOp a .Sub b pos) ρ R := wi_op0 (g := fun i j => i - j) (fun X => op_sub) ha hb h
/-- a number times one that is bounded -/
theorem wi_mulC {j : Int} (ha : WI C a ρ P) (hb : ED C b ρ (.int j)) (h : -(2 ^ 64) < j ∧ j < 2 ^ 64) (hr : ∀ i, P i → R (i * j)) : WI C (.BinOp a .Mult b pos) ρ R := wi_op (P' := fun z => z = j) (g := fun i j => i * j) (fun X => op_mul) ha (wi_of hb rfl) fun i z hp e => by subst e; exact ⟨.inr h, hr i hp⟩
theorem wi_modC {j : Int} (ha : WI C a ρ P) (hb : ED C b ρ (.int j)) (h : 0 < j) (hr : ∀ i, P i → 0 ≤ i % j → i % j < j → R (i % j)) : WI C (.BinOp a .Mod b pos) ρ R := wi_op (P' := fun z => z = j) (g := fun i j => i % j) (fun X => op_mod) ha (wi_of hb rfl) fun i z hp e => by subst e; exact ⟨h, hr i hp (Int.emod_nonneg _ (by omega)) (Int.emod_lt_of_pos _ h)⟩
theorem wi_divC {j : Int} (ha : WI C a ρ P) (hb : ED C b ρ (.int j)) (h : 0 < j ∧ j < 1073741824) (hr : ∀ i, P i → R (i / j)) : WI C (.BinOp a .FloorDiv b pos) ρ R := wi_op (P' := fun z => z = j) (g := fun i j => i / j) (fun X => op_fdiv) ha (wi_of hb rfl) fun i z hp e => by subst e; exact ⟨h, hr i hp⟩
theorem wi_int (h : WI C a ρ P) (hm : C.G.mg "int" = none) (hg : Gv C.sc "int" := by assumption) (he : ∀ env : Env, starEach [a] env = (false, eval a env) :: starEach [] env := by intro _; rfl) : WI C (.Call (.Name "int" p) [a] [] pos) ρ P := by
  refine wd_ty (r := fun X => fun xs H Q => (∃ i, xs = [.int i] ∧ Q (.int i) H) ∨ ∃ k, xs = [.bl k] ∧ Q (.int (if k then 1 else 0)) H) (fun X _ => call_int1) hg.h hm (by decide +kernel) (ad_cons (h.mono ?_) he) (he := he)
  rintro d ⟨i, rfl, hp⟩
  refine ad_nil ?_
  intro X F σ T H vs Q S iv q
  cases iv with
  | cons h1 h2 =>
    cases h2
    cases h1
    exact .inl ⟨i, rfl, q _ _ T H S Step.refl (.int _) ⟨i, rfl, hp⟩⟩
theorem wi_abs (h : WI C a ρ P) (hm : C.G.mg "abs" = none) (hr : ∀ i, P i → R (if i < 0 then -i else i)) (hg : Gv C.sc "abs" := by assumption) (he : ∀ env : Env, starEach [a] env = (false, eval a env) :: starEach [] env := by intro _; rfl) : WI C (.Call (.Name "abs" p) [a] [] pos) ρ R := by
  refine wd_blt (r := fun X => fun xs H Q => ∃ i, xs = [.int i] ∧ Q (.int (if i < 0 then -i else i)) H) (fun X _ => call_abs) hg.h hm (by decide +kernel) (ad_cons (h.mono ?_) he) (he := he)
  rintro d ⟨i, rfl, hp⟩
  refine ad_nil ?_
  intro X F σ T H vs Q S iv q
  cases iv with
  | cons h1 h2 =>
    cases h2
    cases h1
    exact ⟨i, rfl, q _ _ T H S Step.refl (.int _) ⟨_, rfl, hr i hp⟩⟩
theorem td_cmpW {op : CmpOp} {g : Int → Int → Bool} {k : Bool → Prop} (ho : ∀ X : Cx, OpR X (compareOp op) (rI0 fun i j => V.bl (g i j))) (hm : behindInMarks op b = false) (ha : WI C a ρ P) (hb : WI C b ρ P') (h : ∀ i j, P i → P' j → k (g i j)) : TD C (.Compare a [op] [b] pos) ρ k := by
  refine td_cmp (r := fun _ => rI0 fun i j => V.bl (g i j)) (fun X _ => ho X) hm (ha.mono ?_)
  rintro d ⟨i, rfl, hp⟩
  refine hb.mono ?_
  rintro d ⟨j, rfl, hp2⟩
  intro X F σ T H v w Q S iv iw q
  cases iv
  cases iw
  exact ⟨i, j, rfl, rfl, q _ T H S Step.refl (h i j hp hp2)⟩
theorem td_gtW {k : Bool → Prop} (ha : WI C a ρ P) (hb : WI C b ρ P') (h : ∀ i j, P i → P' j → k (decide (j < i))) : TD C (.Compare a [.Gt] [b] pos) ρ k := td_cmpW (g := fun i j => decide (j < i)) (fun X => op_gt) (nomark _) ha hb h
theorem td_eqW {j : Int} {k : Bool → Prop} (ha : WI C a ρ P) (hb : ED C b ρ (.int j)) (h : ∀ i, P i → k (decide (i = j))) : TD C (.Compare a [.Eq] [b] pos) ρ k := by
  refine td_cmp (r := fun X => rEqD X.K) (fun X F => op_eqD (units64 F)) (nomark _) (ha.mono ?_)
  rintro d ⟨i, rfl, hp⟩
  refine wd_of hb ?_
  intro X F σ T H v w Q S iv iw q
  show rEqD X.K _ _ _ _
  rw [F.K]
  refine ⟨toP (.int i), toP (.int j), iv.dp S.ex (n := 8) rfl, iw.dp S.ex (n := 8) rfl, sm_shaped (n := 8) rfl (by decide), sm_shaped (n := 8) rfl (by decide), ?_⟩
  rw [sm_eqv (.int i) (.int j) 8 8 rfl rfl, deq_eq]
  refine q _ T H S Step.refl ?_
  have e : decide (Dat.int i = .int j) = decide (i = j) := by
    by_cases z : i = j
    · rw [decide_eq_true z, decide_eq_true (by rw [z])]
    · rw [decide_eq_false z, decide_eq_false fun q => z (Dat.int.inj q)]
  rw [e]
  exact h i hp
theorem wi_wood {i : Int} (hw : C.wd = some w) (ha : ED C a ρ (.fn w)) (hb : ED C b ρ (.int i)) (h : i = 0 ∨ i = 1) (hs : PlainIx b := by intro _ _; rfl) : WI C (.Subscript a b pos) ρ fun _ => True := wd_woodAt hw ha hb h (fun n => ⟨n, rfl, trivial⟩) hs
theorem callT_ {r : Nat} {φ : List Dat → (Dat → Prop) → Prop} (G : FnW C.G r x φ) (hw : C.wd = some w) (h0 : ED C e ρ (.fn w)) (h : AD C es ρ fun ds => φ ds k) (hr : r ≤ C.r := by exact hle) (hg : Gv C.sc x := by assumption)
    (he : ∀ env : Env, starEach (e :: es) env = (false, eval e env) :: starEach es env := by intro _; rfl) (hpl : ∀ env : Env, (backTo pos (starEach es env)).any (·.1) = false := by intro _; rfl) : WD C (.Call (.Name x p) (e :: es) [] pos) ρ k :=
  wd_callT G hr hw hg.h (ad_cons (wd_of h0 (show AD C es ρ fun ds => ∃ es, Dat.fn w :: ds = .fn w :: es ∧ φ es k from fun X F σ T H Q S z => h X F σ T H Q S fun vs es T' H' S' x i e => z vs es T' H' S' x i ⟨es, rfl, e⟩)) he) hg.h1 he hpl
theorem star_ns {e : Expr} {es : List Expr} (h : isStar e = false) (env : Env) : starEach (e :: es) env = (false, eval e env) :: starEach es env := by
  cases e <;> first | rfl | cases h
theorem star_any : ∀ {es : List Expr} (h : (es.all fun e => !isStar e) = true) (env : Env) (pos : Pos), (backTo pos (starEach es env)).any (·.1) = false
  | [], _, _, _ => rfl
  | e :: es, h, env, pos => by
    rw [List.all_cons, Bool.and_eq_true] at h
    rw [star_ns (by simpa using h.1)]
    exact star_any h.2 env pos
/-- written data -/
def litsOf (f : Expr → Option Dat) : List Expr → Option (List Dat)
  | [] => some []
  | e :: es => match f e, litsOf f es with
    | some d, some ds => some (d :: ds)
    | _, _ => none
def litOf : Nat → Expr → Option Dat
  | _ + 1, .Constant (.str s) _ _ => some (.str s)
  | _ + 1, .Constant (.int i) _ _ => some (.int i)
  | _ + 1, .Constant .none _ _ => some .non
  | n + 1, .Tuple es _ _ => if es.length ≤ 1000 then (litsOf (litOf n) es).map Dat.tup else none
  | n + 1, .List es _ => if es.length ≤ 1000 then (litsOf (litOf n) es).map Dat.lst else none
  | _, _ => none
theorem lit_star {n : Nat} {e : Expr} {d : Dat} (h : litOf n e = some d) : isStar e = false := by
  cases e with
  | Starred e p => cases n <;> cases (show (none : Option Dat) = some d from h)
  | _ => rfl
theorem lits_cons {f : Expr → Option Dat} {e : Expr} {es : List Expr} {ds : List Dat} (h : litsOf f (e :: es) = some ds) : ∃ d ds', ds = d :: ds' ∧ f e = some d ∧ litsOf f es = some ds' := by
  unfold litsOf at h
  cases q : f e with
  | none => rw [q] at h; cases h
  | some d =>
    cases q2 : litsOf f es with
    | none => rw [q, q2] at h; cases h
    | some ds' => rw [q, q2] at h; cases h; exact ⟨d, ds', rfl, rfl, rfl⟩
theorem lits_len {f : Expr → Option Dat} : ∀ {es : List Expr} {ds : List Dat}, litsOf f es = some ds → ds.length = es.length
  | [], ds, h => by
    cases h
    rfl
  | e :: es, ds, h => by
    obtain ⟨d, ds', rfl, _, h2⟩ := lits_cons h
    rw [List.length_cons, List.length_cons, lits_len h2]
theorem ea_lits {n : Nat} (ih : ∀ {e : Expr} {d : Dat}, litOf n e = some d → ED C e ρ d) : ∀ {es : List Expr} {ds : List Dat}, litsOf (litOf n) es = some ds → EA C es ρ ds
  | [], ds, h => by
    cases h
    exact ea_nil
  | e :: es, ds, h => by
    obtain ⟨d, ds', rfl, h1, h2⟩ := lits_cons h
    exact ea_cons (ih h1) (ea_lits ih h2) (star_ns (lit_star h1))
theorem ed_lit : ∀ {n : Nat} {e : Expr} {d : Dat}, litOf n e = some d → ED C e ρ d
  | 0, e, d, h => by cases (show (none : Option Dat) = some d from h)
  | n + 1, e, d, h => by
    cases e with
    | Constant c j p =>
      cases c with
      | str s => cases h; exact ed_str
      | int i => cases h; exact ed_int
      | none => cases h; exact ed_non
      | _ => cases (show (none : Option Dat) = some d from h)
    | Tuple es k p =>
      have h : (if es.length ≤ 1000 then (litsOf (litOf n) es).map Dat.tup else none) = some d := h
      by_cases hl : es.length ≤ 1000
      · rw [if_pos hl] at h
        cases q : litsOf (litOf n) es with
        | none => rw [q] at h; cases h
        | some ds =>
          rw [q] at h
          cases h
          exact ed_tup (ea_lits ed_lit q) (by rw [lits_len q]; omega)
      · rw [if_neg hl] at h; cases h
    | List es p =>
      have h : (if es.length ≤ 1000 then (litsOf (litOf n) es).map Dat.lst else none) = some d := h
      by_cases hl : es.length ≤ 1000
      · rw [if_pos hl] at h
        cases q : litsOf (litOf n) es with
        | none => rw [q] at h; cases h
        | some ds =>
          rw [q] at h
          cases h
          exact ed_lst (ea_lits ed_lit q) (by rw [lits_len q]; omega)
      · rw [if_neg hl] at h; cases h
    | _ => cases (show (none : Option Dat) = some d from h)
/-- one of written things -/
theorem any_lit {r : Nat} {φ : List Dat → (Dat → Prop) → Prop} {es : List Expr} {xs : List Dat} {q : Pos} (G : FnW C.G r x φ) (hw : C.wd = some w) (h0 : ED C e ρ (.fn w)) (hl : litsOf (litOf 4) es = some xs) (hz : es.length ≤ 1000) (hφ : φ [.lst xs] k) (hs : isStar e = false := by rfl) (hr : r ≤ C.r := by exact hle) (hg : Gv C.sc x := by assumption) : WD C (.Call (.Name x p) [e, .List es q] [] pos) ρ k :=
  callT_ G hw h0 (ad_of (ea_cons (ed_lst (ea_lits ed_lit hl) (by rw [lits_len hl]; omega)) ea_nil (star_ns rfl)) hφ) hr hg (star_ns hs) (fun env => star_any rfl env _)
end
end DL

end
section
namespace FT
open PySem PySem.Spec PyProof.Rows L2 Evl DL
abbrev PhiT := List Dat → (Dat → Prop) → Prop
def phi_l_twig : PhiT := fun ds k => ∃ m : Int, ds = [.int m] ∧ 0 < m ∧ m ≤ 1000 ∧ ∀ n : Nat, (n : Int) < m → k (.int n)
def phi_l_any : PhiT := fun ds k => ∃ xs : List Dat, ds = [.lst xs] ∧ xs ≠ [] ∧ xs.length ≤ 1000 ∧ ∀ x ∈ xs, k x
def phi_l_one_step : PhiT := fun ds k => ∃ W : Nat, ds = [.int W] ∧ (W = 2 ∨ W = 3) ∧ ∀ s : Stp, s.ok W → k s.enc
def phi_l_steps : PhiT := fun ds k => ∃ W m : Nat, ds = [.int W, .int m] ∧ (W = 2 ∨ W = 3) ∧ 4 ≤ m ∧ m ≤ 5 ∧ ∀ ss : List Stp, ss.length ≤ m → (∀ s ∈ ss, s.ok W) → k (encS ss)
theorem nat_of {n : Int} (h : 0 ≤ n) : ∃ m : Nat, n = (m : Int) := ⟨n.toNat, by omega⟩
section
variable {G : Gm}
theorem ok_l_twig (hf : At G "_law_twig" s_l_twig ["_law_wood_here", "_law_many"]) (B : Blt G) : FnW G 1 "_law_twig" phi_l_twig := by
  refine fnW_of hf sc_l_twig (fun ds k h => ?_) ?_
  · obtain ⟨m, rfl, _⟩ := h
    rfl
  rintro W0 T0 H0 w ds kd ⟨m, rfl, h1, h2, hk⟩
  obtain ⟨v0, v1, v2, v3, g0⟩ := fa_l_twig
  rw [st_l_twig]
  refine sd_whenW (td_gtW (wi_wood rfl (v 0) ed_int (.inl rfl)) (wi_any ed_int) fun i j _ _ => ⟨fun _ => ?_, fun _ => ?_⟩)
  · refine setW_ 2 (wi_k (wi_modC (R := fun n => 0 ≤ n ∧ n < m) (wi_int (wi_wood rfl (v 0) ed_int (.inl rfl)) B.int) (v 1) h1 fun i _ a b => ⟨a, b⟩) fun n hn => ?_)
    refine sd_woodSet rfl (v 0) ed_int (.inl rfl) (wi_k (wi_divC (R := fun _ => True) (wi_wood rfl (v 0) ed_int (.inl rfl)) (v 1) ⟨h1, by omega⟩ fun _ _ => trivial) fun n2 _ => ⟨n2, rfl, ?_⟩)
    obtain ⟨n', rfl⟩ := nat_of hn.1
    exact sd_retE (v 2) (hk n' hn.2)
  · refine parC_ 2 3 (ed_tup (ea_cons ed_int (ea_cons ed_int ea_nil))) ?_
    refine sd_while rfl (fun t ρ => ∃ i j : Int, ((t = 1 ∧ j = 1) ∨ (t = 0 ∧ j = 8192)) ∧ ρ = [some (.d (.fn w)), some (.d (.int m)), some (.d (.int i)), some (.d (.int j))]) 1 ⟨0, 1, .inl ⟨rfl, rfl⟩, rfl⟩ ?_
    rintro t ρ ⟨i, j, hj, rfl⟩
    refine td_of (et_or (et_lt (v 3) (v 1)) fun _ => et_eq (v 3) ed_int rfl rfl) ⟨fun e => ?_, fun e => ?_⟩
    · rcases hj with ⟨rfl, rfl⟩ | ⟨rfl, rfl⟩
      · refine sd_woodSet rfl (v 0) ed_int (.inr rfl) (wi_k (wi_modC (R := fun _ => True) (wi_int (wi_add (R := fun _ => True) (wi_mulC (R := fun _ => True) (wi_wood rfl (v 0) ed_int (.inr rfl)) ed_int ⟨by decide, by decide⟩ fun _ _ => trivial) (wi_any ed_int) fun _ _ _ _ => trivial) B.int) ed_int (by decide) fun _ _ _ _ => trivial) fun n2 _ => ⟨n2, rfl, ?_⟩)
        refine setW_ 2 (wi_k (wi_add (R := fun _ => True) (wi_any (ed_mul (v 2) ed_int (.inr ⟨by decide, by decide⟩))) (wi_modC (R := fun _ => True) (wi_int (wi_divC (R := fun _ => True) (wi_wood rfl (v 0) ed_int (.inr rfl)) ed_int ⟨by decide, by decide⟩ fun _ _ => trivial) B.int) ed_int (by decide) fun _ _ _ _ => trivial) fun _ _ _ _ => trivial) fun n3 _ => ?_)
        refine set_ 3 (ed_mul (v 3) ed_int (.inr ⟨by decide, by decide⟩)) (sd_nil ⟨0, by omega, n3, 8192, .inr ⟨rfl, rfl⟩, rfl⟩)
      · have e : (decide ((8192 : Int) < m) || decide (Dat.int 8192 = .int 1)) = true := e
        rw [decide_eq_false (show ¬ (8192 : Int) < m by omega)] at e
        have : decide (Dat.int 8192 = .int 1) = false := by decide +kernel
        rw [this] at e
        cases e
    · refine sd_ret (wi_k (P := fun n => 0 ≤ n ∧ n < m) (wi_modC (wi_int (wi_any (v 2)) B.int) (v 1) h1 fun _ _ a b => ⟨a, b⟩) fun n hn => ?_)
      obtain ⟨n', rfl⟩ := nat_of hn.1
      exact hk n' hn.2
theorem ok_l_any (hf : At G "_law_any" s_l_any ["_law_wood_here", "_law_things"]) (B : Blt G) (T : FnW G 1 "_law_twig" phi_l_twig) : FnW G 2 "_law_any" phi_l_any := by
  refine fnW_of hf sc_l_any (fun ds k h => ?_) ?_
  · obtain ⟨m, rfl, _⟩ := h
    rfl
  rintro W0 T0 H0 w ds kd ⟨xs, rfl, h1, h2, hk⟩
  obtain ⟨v0, v1, g0, g1⟩ := fa_l_any
  rw [st_l_any]
  have hl : 0 < xs.length := List.length_pos_iff.mpr h1
  refine sd_ret (wd_ixL (v 1) (callT_ T rfl (v 0) (ad_of (ea_cons (len_ (v 1) rfl B.len) ea_nil) ⟨_, rfl, by omega, by omega, fun n hn => ?_⟩)))
  have hn : n < xs.length := by omega
  exact ⟨n, xs[n], rfl, atI_nat (j := n) (List.getElem?_eq_getElem hn), hk _ (List.getElem_mem hn)⟩
def stepWords : List Stp := [.up, .up, .down 0, .down 0, .next, .next, .last, .mirror, .leaf 0, .leaf 0, .top]
theorem ok_l_one_step (hf : At G "_law_one_step" s_l_one_step ["_law_wood_here", "_law_ways"]) (B : Blt G) (A : FnW G 2 "_law_any" phi_l_any) (T : FnW G 1 "_law_twig" phi_l_twig) : FnW G 3 "_law_one_step" phi_l_one_step := by
  refine fnW_of hf sc_l_one_step (fun ds k h => ?_) ?_
  · obtain ⟨W, rfl, _⟩ := h
    rfl
  rintro W0 T0 H0 w ds kd ⟨W, rfl, hW, hk⟩
  obtain ⟨v0, v1, v2, g0, g1⟩ := fa_l_one_step
  rw [st_l_one_step]
  refine setW_ 2 (any_lit A rfl (v 0) (xs := (stepWords.map Stp.word).map Dat.str) rfl (by decide) ⟨_, rfl, (fun h => nomatch h), by decide, fun x hx => ?_⟩)
  rw [List.map_map] at hx
  obtain ⟨s, hs, rfl⟩ := List.mem_map.mp hx
  show SD _ _ [_, _, some (.d (.str s.word))] _
  have hs0 : s.ok 2 := by
    have key : ∀ s ∈ stepWords, s.ok 2 := by
      intro s hs
      simp only [stepWords, List.mem_cons, List.not_mem_nil, or_false] at hs
      rcases hs with rfl | rfl | rfl | rfl | rfl | rfl | rfl | rfl | rfl | rfl | rfl <;> simp [Stp.ok]
    exact key s hs
  refine sd_ret (wd_if (td_of (et_inT (v 2) (ed_tup (ea_cons ed_str (ea_cons ed_str ea_nil))) s.word_sm ww_sm) ⟨fun e => ?_, fun e => ?_⟩))
  · have e : s.way = true := (Stp.way_in s).symm.trans e
    refine wd_tup (ad_cons (wd_of (v 2) (ad_cons (callT_ T rfl (v 0) (ad_of (ea_cons (v 1) ea_nil) ⟨W, rfl, wpos hW, by omega, fun n hn => ?_⟩)))))
    refine ad_nil ⟨by simp, ?_⟩
    cases s with
    | down _ => exact hk (.down n) (show n < W by omega)
    | leaf _ => exact hk (.leaf n) (show n < W by omega)
    | _ => cases e
  · have e : s.way = false := (Stp.way_in s).symm.trans e
    refine wd_of (ed_tup (ea_cons (v 2) ea_nil)) ?_
    cases s with
    | down _ => cases e
    | leaf _ => cases e
    | up => exact hk .up True.intro
    | next => exact hk .next True.intro
    | last => exact hk .last True.intro
    | mirror => exact hk .mirror True.intro
    | top => exact hk .top True.intro
end
end FT

end
section
namespace FT
open PySem PySem.Spec PyProof.Rows L2 Evl DL
/-- the script as the entry's heap has it -/
theorem sq_at {C : DC} {σ : L2.St} {T H : Hp} {ρ : DEnv} {s : Addr} {xs : List V} (S : DSt C σ T H ρ) (h : SqL C.G.K C.H0 s xs) (hm : ¬ C.wv s) : SqL C.G.K H s xs := by
  rcases h with h | h
  · rcases h with h | ⟨u, h⟩
    · exact .inl (.inl (S.step.k s _ h (fun z => z.elim hm fun ⟨_, _, e⟩ => nomatch e)))
    · exact .inl (.inr ⟨u, S.step.k s _ h (fun z => z.elim hm fun ⟨_, _, e⟩ => nomatch e)⟩)
  · exact .inr h
theorem ed_lenF {C : DC} {e : Expr} {ρ : DEnv} {s : Addr} {ns : List Int} {p pos : Pos} (h : ED C e ρ (.fn s)) (hs : SqL C.G.K C.H0 s (ns.map V.int)) (hmv : ¬ C.wv s) (hm : C.G.mg "len" = none) (hg : Gv C.sc "len" := by assumption) (he : ∀ env : Env, starEach [e] env = (false, eval e env) :: starEach [] env := by intro _; rfl) : ED C (.Call (.Name "len" p) [e] [] pos) ρ (.int (ns.length : Nat)) := by
  refine wd_blt (r := fun X => fun xs H Q => ∃ x n, xs = [x] ∧ LenV X.K x H n ∧ Q (.int n) H) (fun X _ => call_len) hg.h hm PySem.boot_len (ad_of (ea_cons h ea_nil he) ?_) (he := he)
  intro X F σ T H vs Q S iv q
  cases iv with
  | cons h1 h2 =>
    cases h2
    cases h1
    refine ⟨_, ns.length, rfl, ?_, q _ _ T H S Step.refl (.int _) rfl⟩
    rw [F.K]
    have z := sq_at S hs hmv
    exact .inl ⟨_, z, by rw [List.length_map]⟩
theorem ed_ixF {C : DC} {a b : Expr} {ρ : DEnv} {s : Addr} {ns : List Int} {i n : Int} {pos : Pos} (ha : ED C a ρ (.fn s)) (hb : ED C b ρ (.int i)) (hs0 : SqL C.G.K C.H0 s (ns.map V.int)) (hmv : ¬ C.wv s) (h : atI ns i = some n) (hs : PlainIx b := by intro _ _; rfl) : ED C (.Subscript a b pos) ρ (.int n) := by
  refine wd_ix (r := fun X => rIxL X.K) (fun X _ => ix_list) (wd_of ha (wd_of hb ?_)) hs
  intro X F σ T H v w Q S iv iw q
  show rIxL X.K _ _ _ _
  rw [F.K]
  cases iw
  cases iv
  refine ⟨_, _, i, .int n, rfl, rfl, sq_at S hs0 hmv, ?_, q _ _ T H S Step.refl (.int n) rfl⟩
  unfold atI at h ⊢
  rw [List.length_map]
  cases z : ixN ns.length i with
  | none => rw [z] at h; cases h
  | some j => rw [z] at h; show (ns.map V.int)[j]? = _; rw [List.getElem?_map, show ns[j]? = some n from h]; rfl
/-- `_law_wood`: a new list of two numbers -/
def spWood (K : PySem.W.Frag) : Sp := fun vs H Q _ => ∃ (s : Addr) (ns : List Int) (i : Nat), vs = [.ref s, .int i] ∧ SqL K H s (ns.map V.int) ∧ i ≤ 1000 ∧ ∀ p a b T' H', Step mv0 (fun _ => none) H T' H' → Ex T' H' → T' p = some (.lst [.int a, .int b]) → Q (.ref p) H'
structure WoodOk (G : Gm) : Prop where
  ex : ∃ (f : Addr) (fd : FuncData), G.mg "_law_wood" = some (.ref f) ∧ PySem.W.keepIn G.K (.ref f) = true ∧ Binds G.K fd ["_law_script", "_law_k"] [] ∧ FnOk G.P G.w G.K G.mg G.base (L2N.CX G.P G.w) 1 f fd ["_law_script", "_law_k"] (spWood G.K)
section
variable {G : Gm}
theorem ok_l_wood (hf : At G "_law_wood" s_l_wood ["_law_script", "_law_k"]) (B : Blt G) : WoodOk G := by
  obtain ⟨f, fd, F, hm, hb⟩ := hf
  refine ⟨f, fd, hm, F.kp, hb, fun_okN F sc_l_wood (fun vs H Q E h => ?_) (fun cdv A outer s0 H vs Q E hr h => ?_)⟩
  · obtain ⟨_, _, _, rfl, _⟩ := h
    rfl
  obtain ⟨s, ns, i, rfl, hs, hi, hQ⟩ := h
  have hx : ∀ c (σ : L2.St) T' H', Step mv0 (fun _ => none) H T' H' → Ex T' H' → (fun _ : Value => False) c → (fun (cls : Value) (d : Option Addr) (_ : L2.St) (H : Hp) => E cls d H) c none σ H' := fun c σ T' H' _ _ z => z.elim
  have hA : IsA G.K (fun _ => none) [V.ref s, .int i] [.fn s, .int i] := .cons (.fn s) (.cons (.int i) .nil)
  have eT : Ex (fun _ => none) H := fun a o h => by cases h
  refine ⟨_, ps_we, ?_⟩
  generalize hC : mkC G n_l_wood (defScope s_l_wood) 0 (fun cls d _ H => E cls d H) (fun _ => none) H (fun _ => False) hx = C
  have FX : Fx C (cxOf (L2N.CX G.P G.w) G.P G.w G.K G.mg G.base n_l_wood "_law_wood" (defScope s_l_wood) f cdv A outer s0 H E) := by
    subst hC
    exact { prog := rfl, wld := rfl, K := rfl, mg := rfl, base := rfl, N := rfl, sc := rfl, nd := sc_l_wood.nd, calm := rfl, room := hr, tk := L2N.takes_of rfl rfl rfl rfl, fn := fun _ _ => rfl, own := fun _ => passes_of rfl, cq := trivial }
  have ST : DSt C (L2.start n_l_wood [V.ref s, .int i]) (fun _ => none) H (rho0 n_l_wood [.fn s, .int i]) := by
    subst hC
    refine ⟨eT, Step.refl, trivial, (fun w h => nomatch h), (fun a h => nomatch h), (fun a ps h => nomatch h), ⟨rfl, fun i y h => start_at hA i y h, fun i s h ho => ?_, fun i j s u p _ h _ ho _ => ?_⟩⟩
    all_goals
      exfalso
      match i, h with
      | 0, h => cases h; exact ho
      | 1, h => cases h; exact ho
      | 2, h => cases h
      | n + 3, h => cases h
  have key : SD C (defBody s_l_wood) (rho0 n_l_wood [.fn s, .int i]) { nx := fun _ => False, rt := fun d => ∃ a b : Int, d = .lst [.int a, .int b] } := by
    have hmv : ¬ C.wv s := by subst hC; exact fun h => nomatch h
    have hs : SqL C.G.K C.H0 s (ns.map V.int) := by subst hC; exact hs
    have B : Blt C.G := by subst hC; exact B
    have cN : C.N = n_l_wood := by subst hC; rfl
    have cS : C.sc = defScope s_l_wood := by subst hC; rfl
    obtain ⟨v0, v1, v2, g0, g1, g2⟩ := fa_l_wood
    rw [← cN, ← cS] at v0 v1 v2
    rw [← cS] at g0 g1 g2
    rw [st_l_wood]
    refine set_ 2 (ed_add (ed_mul ed_int (v 1) (.inl ⟨by decide, by decide⟩)) ed_int) ?_
    generalize hc0 : 29009 * (i : Int) + 71 = c0
    have fin : ∀ c : Int, SD C ((defBody s_l_wood).drop 2) [some (.d (.fn s)), some (.d (.int i)), some (.d (.int c))] { nx := fun _ => False, rt := fun d => ∃ a b : Int, d = .lst [.int a, .int b] } := fun c => by
      refine sd_ret (wd_lst (ad_cons (wi_k (P := fun _ => True) (wd_if (td_of (et_ge (v 2) (ed_pow ed_int ed_int ⟨by decide, by decide, by decide⟩)) ⟨fun _ => wi_any (v 2), fun _ => wi_any ed_int⟩)) fun a _ => ad_cons (wi_k (P := fun _ => True) (wi_add (wi_modC (R := fun _ => True) (wi_int (wi_add (R := fun _ => True) (wi_add (R := fun _ => True) (wi_mulC (R := fun _ => True) (wi_modC (R := fun _ => True) (wi_any (v 2)) ed_int (by decide) fun _ _ _ _ => trivial) ed_int ⟨by decide, by decide⟩ fun _ _ => trivial) (wi_any (ed_mul ed_int (v 1) (.inl ⟨by decide, by decide⟩))) fun _ _ _ _ => trivial) (wi_any ed_int) fun _ _ _ _ => trivial) B.int) ed_int (by decide) fun _ _ _ _ => trivial) (wi_any ed_int) fun _ _ _ _ => trivial) fun b _ => ad_nil ⟨hle, a, b, rfl⟩))))
    refine sd_if (et_lt (v 1) (ed_lenF (v 0) hs hmv B.len)) (fun e => ?_) (fun e => ?_)
    · have e := of_decide_eq_true e
      have hj : i < ns.length := by omega
      have p1 : ((10 : Int) ^ (60 : Int).toNat).natAbs < 2 ^ 200 := by decide +kernel
      have p2 : ((10 : Int) ^ (60 : Int).toNat * 10 ^ (60 : Int).toNat).natAbs < 2 ^ 400 := by decide +kernel
      have p3 : ((10 : Int) ^ (60 : Int).toNat * 10 ^ (60 : Int).toNat * 10 ^ (60 : Int).toNat).natAbs < 2 ^ 600 := by decide +kernel
      have hp : ∀ {C : DC} {ρ : DEnv} {pos : Pos} {k1 k2 : Nat} {q1 q2 : Pos}, ED C (.BinOp (.Constant (.int 10) k1 q1) .Pow (.Constant (.int 60) k2 q2) pos) ρ (.int (10 ^ (60 : Int).toNat)) := ed_pow ed_int ed_int ⟨by decide, by decide, by decide⟩
      exact setW_ 2 (wi_k (wi_modC (R := fun _ => True) (wi_abs (R := fun _ => True) (wi_int (wi_any (ed_ixF (v 0) (v 1) hs hmv (atI_nat (j := i) (List.getElem?_eq_getElem hj)))) B.int) B.abs fun _ _ => trivial) (ed_mulW (ed_mulW (ed_mulW hp hp p1 p1 (by decide) (by decide) (by decide)) hp p2 p1 (by decide) (by decide) (by decide)) hp p3 p1 (by decide) (by decide) (by decide)) (by decide +kernel) fun _ _ _ _ => trivial) fun n _ => sd_nil (fin n))
    · refine sd_when (et_gt (ed_lenF (v 0) hs hmv B.len) ed_int) (fun e => ?_) (fun e => sd_nil (fin c0))
      have e := of_decide_eq_true e
      have hj : 0 < ns.length := by omega
      exact setW_ 2 (wi_k (wi_add (R := fun _ => True) (wi_any (v 2)) (wi_modC (R := fun _ => True) (wi_abs (R := fun _ => True) (wi_int (wi_any (ed_ixF (v 0) ed_int hs hmv (atI_nat (j := 0) (List.getElem?_eq_getElem hj)))) B.int) B.abs fun _ _ => trivial) ed_int (by decide) fun _ _ _ _ => trivial) fun _ _ _ _ => trivial) fun n _ => sd_nil (sd_nil (fin n)))
  refine ws_mono (key _ FX _ _ H _ ST (Ex.refl _)) (fun σ' H' ⟨T', ρ', S', _, k'⟩ => k'.elim) (fun v H' ⟨T', d, R, iv, a, b, e⟩ => ?_) (fun _ _ ⟨_, _, _, _, z⟩ => z) (fun _ _ ⟨_, _, _, _, z⟩ => z)
  subst e
  have iv : Is G.K T' v (.lst [.int a, .int b]) := by subst hC; exact iv
  have st : Step mv0 (fun _ => none) H T' H' := by
    subst hC
    exact R.step.weak fun a o z => z.elim (fun q => nomatch q) fun q => q.1.elim
  cases iv with
  | lst hq hA2 =>
    cases hA2 with
    | cons q1 q2 =>
      cases q1
      cases q2 with
      | cons q1 q2 =>
        cases q1
        cases q2
        exact hQ _ a b T' H' st R.ex hq
end
end FT

end
section
/-! The law's context: the wood is made. -/
namespace FT
open PySem PySem.Spec PyProof.Rows L2 Evl DL
/-- the context with a wood; nothing is raised there -/
def woody (C : DC) (hk : ∀ c, ¬ C.kx c) (w : Addr) : DC := { C with wd := some w, hx := fun c _ _ _ _ _ _ _ z => absurd z (hk c) }
section
variable {C : DC} {hk : ∀ c, ¬ C.kx c} {w : Addr} {σ : L2.St} {T H : Hp} {ρ : DEnv}
theorem fx_woody {X : Cx} (F : Fx C X) : Fx (woody C hk w) X := ⟨F.prog, F.wld, F.K, F.mg, F.base, F.N, F.sc, F.nd, F.calm, F.room, F.tk, F.fn, F.own, F.cq⟩
theorem step_out (h0 : C.wd = none) (hw : C.fr w) (s : Step (woody C hk w).mv C.T0 C.H0 T H) : Step C.mv C.T0 C.H0 T H := ⟨s.t, fun a o h n => s.k a o h fun z => z.elim (fun q => by cases q; exact n (hw o h)) fun q => n (.inr q), s.f, s.d, s.tt⟩
theorem out_r (h0 : C.wd = none) (hw : C.fr w) (S : RSt (woody C hk w) T H) : RSt C T H := ⟨S.ex, step_out h0 hw S.step, S.jv, fun a h => by rw [h0] at h; cases h⟩
theorem out_d (h0 : C.wd = none) (hw : C.fr w) (S : DSt (woody C hk w) σ T H ρ) : DSt C σ T H ρ :=
  ⟨S.ex, step_out h0 hw S.step, S.jv, (fun a h => by rw [h0] at h; cases h), (fun a h => by
    have h : C.wd = some a := h
    rw [h0] at h; cases h), S.tf, ⟨S.env.len, S.env.dat, fun i s h ho => by
    obtain ⟨p, o, h1, h2, h3, h4, h5, h6⟩ := S.env.own i s h ho
    exact ⟨p, o, h1, h2, h3, h4, fun u e => (h5 u e).elim (fun q => absurd q h6) .inr, fun z => by
      have z : C.wd = some p := z
      rw [h0] at z; cases z⟩, S.env.ap⟩⟩
theorem sd_wood {e1 e2 : Expr} {x : Str} {p q pc pos : Pos} {rest : List Stmt} {D : DEnds} {s : Addr} {ns : List Int} {i : Nat} (j : Nat) (W : WoodOk C.G) (h0 : C.wd = none) (ha : EA C [e1, e2] ρ [.fn s, .int i]) (hs : SqL C.G.K C.H0 s (ns.map V.int)) (hi : i ≤ 1000) (k : ∀ w, SD (woody C hk w) rest (ρ.set j (some (.d (.fn w)))) D) (hr : 1 ≤ C.r := by exact hle) (VL : Lv C.N C.sc j x := by assumption) (hg : Gv C.sc "_law_wood" := by assumption)
    (hsw : ∀ env : Env, swapsWith (.Call (.Name "_law_wood" q) [e1, e2] [] pc) (some (.Name x p)) pos.line env = pure false := by intro _; rfl)
    (he : ∀ env : Env, starEach [e1, e2] env = (false, eval e1 env) :: starEach [e2] env := by intro _; rfl) (hpl : ∀ env : Env, (backTo pc (starEach [e2] env)).any (·.1) = false := by intro _; rfl) : SD C (.Assign [.Name x p] (.Call (.Name "_law_wood" q) [e1, e2] [] pc) pos :: rest) ρ D := fun X F σ T H Tb S ex => by
  obtain ⟨f, fd, m1, m2, m3, m4⟩ := W.ex
  have m4' : FnOk X.prog X.w X.K X.mg X.base (L2N.CX X.prog X.w) C.r f fd ["_law_script", "_law_k"] (spWood X.K) := by
    rw [F.prog, F.wld, F.K, F.mg, F.base]
    exact m4.mono hr
  have hx : L2.Passes (L2N.CX X.prog X.w) X (fun c d H' => False) := L2N.passes_call F.tk fun c d σ' H' z => z.elim
  refine ws_of (pss_cons (ps_set (i := j) (by rw [F.N]; exact F.nd) (by rw [F.N]; exact VL.hi) (.inl (by rw [F.sc]; exact VL.hl)) (pe_call m4' F.room (gl_of F hg.h) (by rw [F.mg]; exact m1) (by rw [F.K]; exact m2) (by rw [F.K]; exact m3) .nil hx pa_we hg.h1 (he _) (hpl _)) (hsw _) (.inr (by rw [F.sc]; exact VL.hl))) ps_we) ?_
  refine ha X F σ T H _ S fun vs ds T1 H1 S1 st1 i1 k1 => ?_
  subst k1
  have ev : vs = [.ref s, .int i] := by
    cases i1 with
    | cons a1 a2 =>
      cases a1
      cases a2 with
      | cons b1 b2 => cases b1; cases b2; rfl
  subst ev
  show spWood X.K ([V.ref s, .int i] ++ []) H1 _ _
  rw [List.append_nil, F.K]
  have hmv : ¬ C.wv s := fun z => by
    have z : C.wd = some s := z
    rw [h0] at z; cases z
  refine ⟨s, ns, i, rfl, sq_at S1 hs hmv, hi, fun w a b T' H' st ex' hT' => ?_⟩
  have fr : H1 w = none := by
    cases q : H1 w with
    | none => rfl
    | some o =>
      have z0 := st.k w o q fun z => z
      rw [ex' _ _ hT'] at z0
      have z := st.f w o q (by rw [← Option.some.inj z0]; exact isLD.ntb True.intro)
      rw [hT'] at z
      cases z
  have hw0 : C.fr w := (S1.h0 fr).1
  have S2 : DSt C σ T1 H' ρ := S1.go0 (S1.ex.trans st.ex) ⟨Ex.refl T1, st.k, fun _ _ _ _ => rfl, st.d, fun _ _ h => h⟩
  have S3 := S2.set (i := j) (v := .ref w) (d := .fn w) (.fn w)
  have own : ∀ (i : Nat) (s : DL.Slot), (ρ.set j (some (.d (.fn w))))[i]? = some (some s) → s.own → (σ.set j (some (.ref w)))[i]? ≠ some (some (V.ref w)) := fun i s h ho z => by
    rcases set_cases h with ⟨rfl, e, _⟩ | ⟨ne, h⟩
    · cases e
      exact ho
    · rw [List.getElem?_set_ne (Ne.symm ne)] at z
      exact S1.ownNe fr i s h ho z
  have S4 : DSt (woody C hk w) (σ.set j (some (.ref w))) T1 H' (ρ.set j (some (.d (.fn w)))) := by
    refine ⟨S3.ex, S3.step.weak fun a o z => z.elim (fun q => by rw [h0] at q; cases q) .inr, S3.jv, (fun a h => by cases h; exact ⟨_, _, ex' _ _ hT'⟩), (fun a h => ?_), S3.tf, ⟨S3.env.len, S3.env.dat, fun i s h ho => ?_, S3.env.ap⟩⟩
    · cases (show some w = some a from h)
      exact free_sub S1.ex fr
    · obtain ⟨p, o, a1, a2, a3, a4, a5, a6⟩ := S3.env.own i s h ho
      exact ⟨p, o, a1, a2, a3, a4, fun u e => (a5 u e).elim (fun q => absurd q a6) .inr, fun z => by
        cases (show some w = some p from z)
        exact own i s h ho a1⟩
  exact ws_mono (k w X (fx_woody F) _ T1 H' Tb S4 (ex.trans st1.t)) (fun _ _ ⟨T2, ρ2, S, e, q⟩ => ⟨T2, ρ2, out_d h0 hw0 S, e, q⟩) (fun _ _ ⟨T2, d, R, iv, q⟩ => ⟨T2, d, out_r h0 hw0 R, iv, q⟩) (fun _ _ ⟨T2, ρ2, S, e, q⟩ => ⟨T2, ρ2, out_d h0 hw0 S, e, q⟩) (fun _ _ ⟨T2, ρ2, S, e, q⟩ => ⟨T2, ρ2, out_d h0 hw0 S, e, q⟩)
end
end FT

end
section
/-! While an exception is handled: a list's iterator at its end, a zip of two lists at its end. -/
namespace HX
open PySem PySem.Spec PyProof.Rows HotX
section
variable {prog : Program} {w : World} {A : Around} {E : Value → Shared → Prop} {s : Shared}
theorem listEnd {it l x1 : Addr} {i : Nat} {items : Array Value} {Q : Value → Shared → Prop} (hot : HotAt A x1 s.heap) (hne : x1 ≠ it) (hit : s.heap.IsListIter it l i) (hl : s.heap.IsList l items) (hx : items[i]? = none)
    (hE : ∀ g e, (∀ c o, c ≠ it → s.heap.get? c = some o → g.get? c = some o) → (∃ o, g.get? e = some o ∧ o.cls = .type "StopIteration") → E (.ref e) { s with heap := g }) : wpAny (model prog w) A (Builtin.SmallTypes.nextOf (.ref it)) Q E s := by
  obtain ⟨oi, gi, ci, di⟩ := id hit
  obtain ⟨ol, gl, _, _, dl⟩ := hl
  obtain ⟨hh, o1, vs1, g1, d1, c1⟩ := hot
  have nn : ¬ ((Value.ref l == Value.none) = true) := Bool.false_ne_true
  unfold Builtin.SmallTypes.nextOf
  refine wpAny_bind (wpAny_callSpecial?_slot (name := Str.ofString "__next__") hit.typeIs slot_listiter_next (wpAny_call_entry slot_listiter_next hit.typeIs entry_listiter_next ?_ (args_listiter_next _)))
  show wpAny _ _ (field (.ref it) 0 >>= _) _ _ s; refine wpAny_bind (wpAny_field gi di (x := .ref l) rfl ?_)
  show wpAny _ _ (if (Value.ref l == Value.none) = true then _ else _) _ _ s; rw [if_neg nn]
  show wpAny _ _ (field (.ref it) 1 >>= _) _ _ s; refine wpAny_bind (wpAny_field gi di (x := .int i 0) rfl ?_)
  show wpAny _ _ (seqItems? (.ref l) >>= _) _ _ s; refine wpAny_bind (wpAny_seqItems gl dl ?_)
  simp only [Int.toNat_natCast, hx]
  refine wpAny_bind (wpAny_rule (wpAny_bind (wpAny_setField gi di (by simp) ?_)))
  show wpAny _ _ (newExc (.type "StopIteration") [] >>= _) _ _ _; refine wpAny_bind ?_
  simp only [newExc, newTuple]; refine wpAny_bind (wpAny_newObj_type ?_ (by size_fits))
  refine wpAny_bind (m := firstArgMember _ _) (wpAny_of_eq (a := Value.none) (by first | rfl | (simp only [firstArgMember]; rfl)) ?_); refine wpAny_newObj_type ?_ (by size_fits)
  have keep : ∀ (c : Addr) (o u v : Obj) (f : Obj → Obj), c ≠ it → s.heap.get? c = some o → (((s.heap.update it f).push u).push v).get? c = some o := fun c o u v f hc e =>
    Heap.get?_push_of_some _ (Heap.get?_push_of_some _ ((Heap.get?_update_other _ _ (Ne.symm hc)).trans e))
  have k1 := keep x1 o1
  refine raiseNew_hot (x1 := x1) ⟨hh, o1, vs1, k1 _ _ _ hne g1, d1, c1⟩ (Nat.ne_of_lt (Heap.lt_size (Heap.get?_push_of_some _ ((Heap.get?_update_other _ _ (Ne.symm hne)).trans g1)))) (Heap.get?_push_size _ rfl) rfl (by first | (simp; done) | (simp; omega)) ?_
  refine hE _ _ (fun c o hc e => ?_) ⟨_, Heap.get?_update_self _ (Heap.get?_push_size _ rfl) rfl, rfl⟩
  rw [Heap.get?_update_other _ _ (Nat.ne_of_gt (Heap.lt_size (Heap.get?_push_of_some _ ((Heap.get?_update_other _ _ (Ne.symm hc)).trans e))))]
  exact keep c o _ _ _ hc e
theorem zipEnd {z TI TO i1 i2 l1 l2 x1 : Addr} {k1 : Nat} {xs : Array Value} {a b : Value} {Q : Option Value → Shared → Prop} (hot : HotAt A x1 s.heap) (n1 : x1 ≠ z) (n2 : x1 ≠ i1) (D : ZipApart z TI TO i1 i2 l1 l2)
    (hz : IsZip s.heap z TI TO .none) (hTI : IsPair s.heap TI (.ref i1) (.ref i2)) (hTO : IsPair s.heap TO a b) (h1 : s.heap.IsListIter i1 l1 k1) (hl1 : s.heap.IsList l1 xs) (hend : xs[k1]? = none)
    (hQ : ∀ g, (∀ c o, c ≠ z → c ≠ i1 → s.heap.get? c = some o → g.get? c = some o) → Q none { s with heap := g }) : wpAny (model prog w) A (pyNext (.ref z)) Q E s := by
  have ty : s.TypeIs (.ref z) "zip" := ⟨_, hz, rfl⟩
  unfold pyNext
  refine wpAny_bind (wpAny_attempt (wpAny_callSpecial?_slot (name := Str.ofString "__next__") ty F.slot_zip_next (wpAny_call_entry F.slot_zip_next ty F.entry_zip_next ?_ (F.args_zip_next_1 _))))
  show wpAny _ _ (field (.ref z) 2 >>= _) _ _ _; refine wpAny_bind (wpAny_field hz rfl (x := .bool false) rfl ?_)
  show wpAny _ _ (field (.ref z) 3 >>= _) _ _ _; refine wpAny_bind (wpAny_field hz rfl (x := .ref TI) rfl ?_); refine wpAny_bind (wpAny_seqItems hTI rfl ?_)
  show wpAny _ _ (Builtin.SmallTypes.ownedTupleIsFree (.ref z) >>= _) _ _ _; refine wpAny_bind ?_; unfold Builtin.SmallTypes.ownedTupleIsFree
  refine wpAny_bind (wpAny_field hz rfl (x := .none) rfl (wpAny_pure ?_)); simp only [if_true]
  refine wpAny_bind (wpAny_rule ?_); refine wpAny_bind (wpAny_field hz rfl (x := .ref TO) rfl ?_)
  refine wpAny_bind (wpAny_setField_rec hz (by simp) fun g1 z1 e1 => ?_)
  replace z1 : IsZip g1 z TI TO .ellipsis := z1
  refine wpAny_bind ?_; simp only [List.zipIdx_cons, List.zipIdx_nil, List.forIn_cons, List.forIn_nil]
  refine wpAny_bind (wpAny_bind (wpAny_onRaise ?_)); show wpAny _ _ (Builtin.SmallTypes.nextOf (.ref i1) >>= _) _ _ _
  obtain ⟨hh, o1, vs1, y1, d1, c1⟩ := hot
  refine wpAny_bind (listEnd (x1 := x1) ⟨hh, o1, vs1, e1.extBut _ _ n1 y1, d1, c1⟩ n2 (h1.extBut e1.extBut D.i1z) (hl1.extBut e1.extBut D.l1z) hend fun g2 e k2 he => ?_)
  obtain ⟨oe, q1, q2⟩ := he
  have z2 : IsZip g2 z TI TO .ellipsis := k2 _ _ D.i1z.symm z1
  have ez : e ≠ z := fun q => by
    rw [q, z2] at q1
    cases q1
    exact absurd q2 (by simp)
  refine wpAny_setField_rec z2 (by simp) fun g3 _ e3 => ?_
  refine wpAny_bind (wpAny_isInstance (T := "StopIteration") (b := true) ⟨oe, e3.extBut _ _ ez q1, q2⟩ isSubtype_stop ?_)
  exact wpAny_pure (hQ _ fun c o a1 a2 q => e3.extBut _ _ a1 (k2 _ _ a2 (e1.extBut _ _ a1 q)))
end
end HX

end
section
/-! While an exception is handled: walking over a zip of two lists of the same length. -/
namespace HX
open PySem PySem.Spec PyProof.Rows L2 HotX L2H
theorem five {c z a b d e : Addr} (h : c ∈ [z, a, b, d, e]) : c = z ∨ c = a ∨ c = b ∨ c = d ∨ c = e := by simpa using h
/-- a walk while an exception is handled: x1 is that exception -/
structure TurnX (P : Program) (w : World) (K : PySem.W.Frag) (tg : Expr) (J : It) (fp : List Addr) (it : Addr) (tn : Nat → Heap → Prop) : Prop where
  mem : it ∈ fp
  obj : ∀ i h, tn i h → ∀ b ∈ fp, ∃ o, h.get? b = some o ∧ ∀ v, o.data ≠ .cell v
  keep : ∀ i h h', tn i h → (∀ b ∈ fp, ∀ o, h.get? b = some o → h'.get? b = some o) → tn i h'
  item : ∀ (X : Cx), X.prog = P → X.w = w → X.K = K → ∀ (i : Nat) (pins : List (Addr × Obj)) (s : Shared) (σ : L2.St) (H : Hp) (E : Value → Shared → Prop), L2.Inv X pins σ H s → (∀ b ∈ fp, FpOk X pins H b) → tn i s.heap → J.go i H →
    wpAny (model P w) X.A (pyNext (.ref it)) (fun r s1 => ∃ u, r = some u ∧ wpAny (model P w) X.A (letOwnedTupleGo tg (.ref it) u) (fun _ s2 => ∃ x H', L2.Inv X pins σ H' s2 ∧ RelV x u ∧ J.yld i H x H' ∧ tn (i + 1) s2.heap ∧ ∀ b ∈ fp, H' b = none) E s1) E s
  done : ∀ (X : Cx), X.prog = P → X.w = w → X.K = K → ∀ (x1 : Addr) (i : Nat) (pins : List (Addr × Obj)) (s : Shared) (σ : L2.St) (H : Hp) (E : Value → Shared → Prop), HotAt X.A x1 s.heap → x1 ∉ fp → L2.Inv X pins σ H s → (∀ b ∈ fp, FpOk X pins H b) → tn i s.heap → J.stop i H →
    wpAny (model P w) X.A (pyNext (.ref it)) (fun r s1 => r = none ∧ L2.Inv X pins σ H s1) E s
  self : ∀ (A : Around) (i : Nat) (s : Shared) (Q : Value → Shared → Prop) (E : Value → Shared → Prop), tn i s.heap → Q (.ref it) s → wpAny (model P w) A (pyIter (.ref it)) Q E s
/-- the items of two lists of one length, in new pairs -/
def ItZ (K : PySem.W.Frag) (a b : Addr) : It :=
  ⟨fun i H => ∃ (xs ys : List V) (x y : V), SqL K H a xs ∧ SqL K H b ys ∧ xs[i]? = some x ∧ ys[i]? = some y,
    fun i H v H' => ∃ T x y, v = .ref T ∧ H T = none ∧ H' = L2.upd H T (.tup [x, y]) ∧ (∀ xs, SqL K H a xs → xs[i]? = some x) ∧ ∀ ys, SqL K H b ys → ys[i]? = some y,
    fun i H => ∃ xs : List V, SqL K H a xs ∧ xs.length ≤ i⟩
theorem turnZ {P : Program} {w : World} {K : PySem.W.Frag} {elts : List Expr} {kk : Nat} {tpos : Pos} {a b z TI TO i1 i2 : Addr} (D : ZipApart z TI TO i1 i2 a b) :
    TurnX P w K (.Tuple elts kk tpos) (ItZ K a b) [z, TI, TO, i1, i2] z (fun i h => IsZip h z TI TO .none ∧ IsPair h TI (.ref i1) (.ref i2) ∧ (∃ x y, IsPair h TO x y) ∧ h.IsListIter i1 a i ∧ h.IsListIter i2 b i) where
  mem := List.mem_cons_self
  obj := fun i h st c hc => by
    obtain ⟨q1, q2, ⟨x, y, q3⟩, ⟨u1, e1, _, d1⟩, u2, e2, _, d2⟩ := st
    rcases five hc with rfl | rfl | rfl | rfl | rfl
    · exact ⟨_, q1, fun v q => nomatch q⟩
    · exact ⟨_, q2, fun v q => nomatch q⟩
    · exact ⟨_, q3, fun v q => nomatch q⟩
    · exact ⟨u1, e1, fun v q => by rw [d1] at q; cases q⟩
    · exact ⟨u2, e2, fun v q => by rw [d2] at q; cases q⟩
  keep := fun i h h' st k => by
    obtain ⟨q1, q2, ⟨x, y, q3⟩, q4, q5⟩ := st
    have k0 : ∀ c, c = z ∨ c = TI ∨ c = TO ∨ c = i1 ∨ c = i2 → ∀ o, h.get? c = some o → h'.get? c = some o := fun c hc o => k c (by simpa using hc) o
    exact ⟨k0 z (.inl rfl) _ q1, k0 TI (.inr (.inl rfl)) _ q2, ⟨x, y, k0 TO (.inr (.inr (.inl rfl))) _ q3⟩, q4.at (k0 i1 (.inr (.inr (.inr (.inl rfl))))), q5.at (k0 i2 (.inr (.inr (.inr (.inr rfl)))))⟩
  item := by
    intro X hP hw hK i pins s σ H E I hf st hg
    subst hP hw hK
    obtain ⟨q1, q2, ⟨x0, y0, q3⟩, q4, q5⟩ := st
    obtain ⟨xs, ys, x, y, sx, sy, hx, hy⟩ := hg
    obtain ⟨vs, r1, p1, _⟩ := I.list sx
    obtain ⟨ws, r2, p2, _⟩ := I.list sy
    obtain ⟨u, hu, ru⟩ := r1.get hx
    obtain ⟨v, hv, rv⟩ := r2.get hy
    have zl : z < s.heap.objs.size := Heap.lt_size q1
    refine wpAny_pyNext_zip_item D q1 q2 q3 q4 q5 p1.isList p2.isList (x := u) (y := v) (by simpa using hu) (by simpa using hv) fun g1 z1 t1 j1 j2 tup _ kp => ?_
    refine ⟨_, rfl, wpAny_letOwnedTupleGo_zip (s := { s with heap := g1 }) z1 fun g2 z2 sb => ?_⟩
    have tup2 : g2.get? s.heap.objs.size = some { cls := .type "tuple", data := .seq #[u, v] } := (sb.2 _ (Nat.ne_of_gt zl)).trans tup
    have kept : ∀ c o, c ∉ [z, TI, TO, i1, i2] → s.heap.get? c = some o → g2.get? c = some o := fun c o hc q => by
      have hc2 : ¬ (c = z ∨ c = TI ∨ c = TO ∨ c = i1 ∨ c = i2) := by simpa using hc
      exact (sb.2 c fun q' => hc2 (.inl q')).trans (kp c o (fun q' => hc2 (.inl q')) (fun q' => hc2 (.inr (.inr (.inl q')))) (fun q' => hc2 (.inr (.inr (.inr (.inl q'))))) (fun q' => hc2 (.inr (.inr (.inr (.inr q'))))) q)
    have I1 : Inv X pins σ (L2.upd H s.heap.objs.size (.tup [x, y])) { s with heap := g2 } :=
      I.turnedNew (t' := s.toks) (ch := [z, TI, TO, i1, i2]) kept hf (Nat.le_refl _) (ob := .tup [x, y]) ⟨by show 2 ≤ sizeLine; decide, [u, v], .cons ru (.cons rv .nil), ⟨_, tup2, rfl, _, rfl⟩⟩
    refine ⟨.ref s.heap.objs.size, _, I1, rfl, ⟨_, x, y, rfl, I.hok.fresh (Nat.le_refl _), rfl, fun l hl => ?_, fun l hl => ?_⟩, ⟨z2, (sb.2 _ D.TIz).trans (kp _ _ D.TIz D.TITO D.TIi1 D.TIi2 q2), ⟨u, v, (sb.2 _ D.TOz).trans t1⟩, j1.at fun o q => (sb.2 _ D.i1z).trans q, j2.at fun o q => (sb.2 _ D.i2z).trans q⟩, fun c hc => ?_⟩
    · rw [I.list_inj hl sx]; exact hx
    · rw [I.list_inj hl sy]; exact hy
    · have hlt : c < s.heap.objs.size := by
        rcases five hc with rfl | rfl | rfl | rfl | rfl
        · exact zl
        · exact Heap.lt_size q2
        · exact Heap.lt_size q3
        · obtain ⟨_, e, _⟩ := q4; exact Heap.lt_size e
        · obtain ⟨_, e, _⟩ := q5; exact Heap.lt_size e
      rw [upd_ne (Nat.ne_of_lt hlt)]
      exact (hf c hc).1
  done := by
    intro X hP hw hK x1 i pins s σ H E hot nx I hf st hg
    subst hP hw hK
    obtain ⟨q1, q2, ⟨x0, y0, q3⟩, q4, q5⟩ := st
    obtain ⟨xs, sx, hl⟩ := hg
    obtain ⟨vs, r1, p1, _⟩ := I.list sx
    have l1 := r1.length
    refine zipEnd hot (fun q => nx (by simp [q])) (fun q => nx (by simp [q])) D q1 q2 q3 q4 p1.isList (by simp; omega) fun g kp => ⟨rfl, ?_⟩
    exact I.turnedL (t' := s.toks) (ch := [z, TI, TO, i1, i2]) (fun c o hb q => kp c o (fun q' => hb (by simp [q'])) (fun q' => hb (by simp [q'])) q) hf
  self := fun A i s Q E st h => wpAny_pyIter_zip st.1 h
def PIEX (X : Cx) (pins : List (Addr × Obj)) (σ : L2.St) (tg : Expr) (R : It → Hp → Prop) (itv : Value) (s2 : Shared) : Prop :=
  ∃ (it : Addr) (fp : List Addr) (tn : Nat → Heap → Prop) (J : It) (H' : Hp), itv = .ref it ∧ L2.Inv X pins σ H' s2 ∧ TurnX X.prog X.w X.K tg J fp it tn ∧ tn 0 s2.heap ∧ (∀ b ∈ fp, FpOk X pins H' b) ∧ R J H'
structure PIX (X : Cx) (tg iter : Expr) (wi : TI) : Prop where
  run : ∀ (pins : List (Addr × Obj)) (s : Shared) (σ : L2.St) (H : Hp) (R : It → Hp → Prop), L2.Inv X pins σ H s → wi σ H R → wpAny (model X.prog X.w) X.A (eval iter X.env) (fun v s1 => wpAny (model X.prog X.w) X.A (pyIter v) (PIEX X pins σ tg R) X.xe s1) X.xe s
def iZ (K : PySem.W.Frag) (ta : TA) : TI := fun σ H R => ta σ H fun vs H1 => ∃ a b xs ys, vs = [.ref a, .ref b] ∧ SqL K H1 a xs ∧ SqL K H1 b ys ∧ R (ItZ K a b) H1
theorem pi_Z {X : Cx} {e e2 : Expr} {ta : TA} {p pos tpos : Pos} {elts : List Expr} {kk : Nat} (hg : Gl X "zip") (hm : X.mg "zip" = none) (ha : PA X [e, e2] ta)
    (hs : starEach [e, e2] X.env = (false, eval e X.env) :: starEach [e2] X.env) (hpl : (backTo pos (starEach [e2] X.env)).any (·.1) = false) : PIX X (.Tuple elts kk tpos) (.Call (.Name "zip" p) [e, e2] [] pos) (iZ X.K ta) := by
  refine ⟨fun pins s σ H R I h => Call_ (ld_blt I hg hm PyProof.Rows.boot_zip (PyProof.Rows.callWith_type1 (thn (ha.run pos pins s σ H _ I h) fun us s1 ⟨vs, H1, I1, r1, q1⟩ => ?_) hs hpl))⟩
  obtain ⟨a, b, xs, ys, rfl, sx, sy, q⟩ := q1
  cases r1 with
  | cons ra rest =>
    cases rest with
    | cons rb rest =>
      cases rest; cases ra; cases rb
      obtain ⟨_, _, pa, _⟩ := I1.list sx
      obtain ⟨_, _, pb, _⟩ := I1.list sy
      generalize hn : s1.heap.objs.size = n
      refine call_zip_2 pa.isList pb.isList fun g z1 z2 z3 z4 z5 _ kp => wpAny_pyIter_zip z1 ?_
      have I2 : L2.Inv X pins σ H1 { s1 with heap := g } := I1.kept (t' := s1.toks) kp
      refine ⟨s1.heap.objs.size + 4, [s1.heap.objs.size + 4, s1.heap.objs.size + 2, s1.heap.objs.size + 3, s1.heap.objs.size, s1.heap.objs.size + 1], _, _, H1, rfl, I2, turnZ (PySem.W.ktu_apart s1.heap.objs.size a b pa.lt pb.lt), ⟨z1, z2, ⟨_, _, z3⟩, z4, z5⟩, fun c hc => ?_, q⟩
      have le : s1.heap.objs.size ≤ c := by
        rcases five hc with rfl | rfl | rfl | rfl | rfl <;> omega
      exact I1.fpOk le (I1.hok.fresh le)
end HX

end
section
/-! While an exception is handled: a list comprehension. -/
namespace HX
open PySem PySem.Spec PyProof.Rows L2 HotX L2H
theorem pe_lcX {X : Cx} {elt tg iter : Expr} {ifs : List Expr} {scope : Scope} {own : List (Str × Nat)} {pos : Pos} {wi : TI} {g : TG} {tt : TT} {te : TE} (hot : HotC X) (hN : X.N.Nodup) (hi : PIX X tg iter wi) (ok : BlkOk X.N X.env.scope scope own)
    (hg : ∀ (s : Shared) (H : Hp) (C : Addr) (cl : List (Str × Addr)) (fp : List Addr) (p : Addr × Obj) (pn : List (Addr × Obj)), Hot1 X.A p → p ∈ pn → PG ((X.blk s H scope (compEnvC scope cl C X.env) fp).tr pn (fun _ _ => False)) tg g)
    (ht : ∀ (s : Shared) (H : Hp) (C : Addr) (cl : List (Str × Addr)) (fp : List Addr), PTs (X.blk s H scope (compEnvC scope cl C X.env) fp) ifs tt)
    (he : ∀ (s : Shared) (H : Hp) (C : Addr) (cl : List (Str × Addr)) (fp : List Addr), PE (X.blk s H scope (compEnvC scope cl C X.env) fp) elt te)
    (hs : ∀ x, foldedSetIterable iter X.env x = pure x) : PE X (.ListComp elt [⟨tg, iter, ifs, 0⟩] scope pos) (tLc wi g tt te (own.map (·.2))) := by
  refine ⟨fun pins s σ H Q I h => ?_⟩
  rw [eval_ListComp]
  obtain ⟨p, ⟨hh, v1, d1, c1⟩, hp⟩ := hot
  have frees : ∀ y ∈ scope.names, y.2 = .free → ∃ c, X.env.cells.lookup y.1 = some c := fun y hy e => (ok.free y hy e).elim (fun k => I.ok.has _ (.inl k)) fun k => I.ok.has _ (.inr k)
  refine wpAny_comprehension_free (use := none) rfl hs (closure_ok frees) ok.kind (fun y hy e => by rw [ok.uniq y hy, e]) (thn (hi.run pins s σ H _ I h) fun xv s1 hx => thn hx fun itv s2 h2 => ?_)
  obtain ⟨it, fp, tn, J, H2, rfl, I2, T, t2, f2, q⟩ := h2
  refine wpAny_newObj_type (newEnv_comp ?_) (by show 0 ≤ sizeLine; decide)
  generalize hD : s2.heap.objs.size = D
  have dn : H2 D = none := I2.hok.fresh (Nat.le_of_eq hD)
  obtain ⟨W, ⟨m0, w0⟩, turn⟩ := q D dn
  generalize hs3 : ({ s2 with heap := s2.heap.push { cls := .type "list", data := .seq ([] : List Value).toArray } } : Shared) = s3
  have eh : s3.heap = s2.heap.push { cls := .type "list", data := .seq ([] : List Value).toArray } := by rw [← hs3]
  have I3 : L2.Inv X pins σ (L2.upd H2 D (.lst [])) s3 := by
    rw [← hs3]; refine I2.laid (t' := s2.toks) (fun b o e => Heap.get?_push_of_some _ e) (Nat.le_of_eq hD) ⟨Nat.zero_le _, [], 0, .nil, ?_⟩
    rw [← hD]; exact Heap.get?_push_size _ rfl
  have f3 : ∀ b ∈ fp, FpOk X pins (L2.upd H2 D (.lst [])) b ∧ b < s3.heap.objs.size := fun b hb => by
    obtain ⟨o, e, _⟩ := T.obj _ _ t2 b hb
    have lt := Heap.lt_size e
    refine ⟨⟨?_, (f2 b hb).2⟩, by rw [eh, Heap.size_push]; exact Nat.lt_succ_of_lt lt⟩
    rw [upd_ne (by rw [← hD]; exact Nat.ne_of_lt lt)]; exact (f2 b hb).1
  have t3 : tn 0 s3.heap := T.keep _ _ _ t2 fun b _ o e => by rw [eh]; exact Heap.get?_push_of_some _ e
  have I4 := block_start I3 ok hN f3
  generalize hcl : cellsFrom (s3.heap.objs.size + 1) scope.names (cloFrom X.env.cells scope.names []) = cl at I4
  have pg := fun pn hm => hg s3 (L2.upd H2 D (.lst [])) s3.heap.objs.size cl fp p pn ⟨hh, v1, d1, c1⟩ hm
  have pt := ht s3 (L2.upd H2 D (.lst [])) s3.heap.objs.size cl fp
  have pe := he s3 (L2.upd H2 D (.lst [])) s3.heap.objs.size cl fp
  show codeAny _ _ (.compStart (.ListComp elt [⟨tg, iter, ifs, 0⟩] scope pos) 0 (.ref it) (.ref D) (compEnvC scope cl s3.heap.objs.size X.env)) (compPost (model X.prog X.w) X.A X.xe none (EP X pins σ Q) (.ref D) s3.heap.objs.size) { s3 with heap := pushCells (s3.heap.push { cls := .type "dict", data := .dict #[] }) scope.names }
  have nf : ∀ b ∈ fp, (L2.upd H2 D (.lst [])) b = none := fun b hb => (f3 b hb).1.1
  generalize hce : compEnvC scope cl s3.heap.objs.size X.env = ce at I4 pg pt pe ⊢
  have cL : ce.locals = s3.heap.objs.size := by subst hce; rfl
  -- the exception that is handled stands still
  have P3 := I3.pin p (List.mem_append_left _ hp)
  have px : p.1 ∉ fp := fun hb => (f3 p.1 hb).1.2.2.2.2.2 p (List.mem_append_left _ hp) rfl
  have ps : p.1 ∉ frs X.stack := fun hm => (List.mem_cons.mp (I3.stkSub p.1 hm)).elim P3.2.2.1 P3.2.2.2.1
  generalize hH3 : L2.upd H2 D (.lst []) = H3 at *
  generalize hs4 : ({ s3 with heap := pushCells (s3.heap.push { cls := .type "dict", data := .dict #[] }) scope.names } : Shared) = s4 at I4 ⊢
  have t4 : tn 0 s4.heap := T.keep _ _ _ t3 fun b _ o e => by rw [← hs4]; exact pushCells_keeps _ _ _ _ (Heap.get?_push_of_some _ e)
  have hotB : ∀ {pn : List (Addr × Obj)} {σ' : L2.St} {H' : Hp} {s' : Shared}, L2.Inv (X.blk s3 H3 scope ce fp) pn σ' H' s' → HotAt X.A p.1 s'.heap := fun J => ⟨hh, p.2, v1, J.base.keep p.1 p.2 P3.1 P3.2.1 ps px, d1, c1⟩
  have fpB : ∀ {σ' : L2.St} {H' : Hp} {s' : Shared}, L2.Inv (X.blk s3 H3 scope ce fp) [] σ' H' s' → (∀ b ∈ fp, H' b = none) → ∀ b ∈ fp, FpOk (X.blk s3 H3 scope ce fp) [] H' b := fun J hn b hb =>
    ⟨hn b hb, (J.ok.exf b hb).1, J.ok.exfs b hb, .inl hb, fun x c e => (J.ok.exf b hb).2 x c e, fun p hp => by cases hp⟩
  have loop : codeAny (model X.prog X.w) X.A (.compLoop (.ListComp elt [⟨tg, iter, ifs, 0⟩] scope pos) 0 (.ref it) (.ref D) ce) (compPost (model X.prog X.w) X.A X.xe none (EP X pins σ Q) (.ref D) s3.heap.objs.size) s4 := by
    refine compLoop_any (fun n s' => ∃ i H', L2.Inv (X.blk s3 H3 scope ce fp) [] (wipe σ (own.map (·.2))) H' s' ∧ tn i s'.heap ∧ (∀ b ∈ fp, H' b = none) ∧ W i n H') ?_ m0 ⟨0, H3, I4, t4, nf, w0⟩
    rintro n s5 ⟨i, H5, I5, t5, n5, w5⟩
    rcases turn i n H5 w5 with ⟨stop, qq⟩ | ⟨go, Nx, hNx, step⟩
    · refine thnF (T.done (X.blk s3 H3 scope ce fp) rfl rfl rfl p.1 i [] s5 _ H5 (fun _ _ => False) (hotB I5) px I5 (fpB I5 n5) t5 stop) fun r s6 ⟨hr, I6⟩ => ?_
      subst hr
      have I7 : L2.Inv X pins σ H5 s6 := I3.call' (ch := fp) I6.os I6.base I6.hok I6.bare fun b hb => ⟨(f3 b hb).1.2.2.2.1, (f3 b hb).1.2.1, (f3 b hb).1.2.2.2.2.1, (f3 b hb).1.2.2.2.2.2⟩
      obtain ⟨m, hn, _⟩ := I6.loc
      have hn : s6.heap.Ns ce.locals m := hn
      have z : H5 ce.locals = none := I6.free
      rw [cL] at hn z
      obtain ⟨f0, f1, f2, f3', f4, f5⟩ := I3.fpOk (Nat.le_refl _) z
      refine ⟨m, hn, fun h'' sb => ⟨.ref D, H5, I7.turned (t' := s6.toks) (fun b o hb e => (sb.2 b hb).trans e) f0 f1 f3' f4 f5, rfl, qq⟩⟩
    · refine thnF (T.item (X.blk s3 H3 scope ce fp) rfl rfl rfl i [] s5 _ H5 (fun _ _ => False) I5 (fpB I5 n5) t5 go) fun r s6 ⟨u, hr, h6⟩ => ?_
      subst hr
      refine thnF h6 fun _ s7 ⟨x, H7, I7, r7, y7, t7, n7⟩ => ?_
      have I7a := I7.pinned (fpB I7 n7) (T.obj _ _ t7)
      have I7b : L2.Inv (X.blk s3 H3 scope ce fp) (p :: pinsAt fp s7.heap) _ H7 s7 := I7a.pins_of fun r hr => by
        rcases List.mem_cons.mp hr with rfl | hr
        · exact ⟨I7.base.keep _ _ P3.1 P3.2.1 ps px, I7.base.free _ _ P3.1 P3.2.1 px, by rw [cL]; exact Nat.ne_of_lt (Heap.lt_size P3.1), ps, P3.2.2.2.2⟩
        · exact I7a.pin r (List.mem_append_right _ (List.mem_append_right _ hr))
      refine thnF ((pg _ (List.mem_append_right _ List.mem_cons_self)).run [] s7 _ H7 x u _ (I7b.toTry (fun _ _ => False)) r7 (step x H7 y7)) fun _ s8 ⟨σ8, H8, I8t, w8, q8⟩ => ?_
      have I8b := I8t.ofTry I7b.ok
      have I8 : L2.Inv (X.blk s3 H3 scope ce fp) ([] ++ pinsAt fp s7.heap) σ8 H8 s8 := I8b.pins_of fun r hr => I8b.pin r (List.mem_append_right _ (List.mem_cons_of_mem _ hr))
      refine thnF (pt.run _ s8 σ8 H8 _ I8 q8) fun b s9 ⟨H9, I9, q9⟩ => ?_
      have fin : ∀ {s' : Shared} {H' : Hp}, L2.Inv (X.blk s3 H3 scope ce fp) ([] ++ pinsAt fp s7.heap) σ8 H' s' → Nx H' → ∃ m, m < n ∧ ∃ i H', L2.Inv (X.blk s3 H3 scope ce fp) [] (wipe σ (own.map (·.2))) H' s' ∧ tn i s'.heap ∧ (∀ b ∈ fp, H' b = none) ∧ W i m H' := fun {s' H'} J nx => by
        obtain ⟨m', lt, w'⟩ := hNx H' nx
        have pin : ∀ b ∈ fp, ∀ o, s7.heap.get? b = some o → s'.heap.get? b = some o ∧ H' b = none := fun b hb o e => by
          have z := J.pin (b, o) (List.mem_append_right _ (List.mem_append_right _ (mem_pinsAt hb e)))
          exact ⟨z.1, z.2.1⟩
        refine ⟨m', lt, i + 1, H', (J.unpinned (pins := [])).weak (by rw [← w8, wipe_length]) (fun j v e => ?_), T.keep _ _ _ t7 fun b hb o e => (pin b hb o e).1, fun b hb => ?_, w'⟩
        · rw [← w8] at e; exact (wipe_some e).1
        · obtain ⟨o, e, _⟩ := T.obj _ _ t7 b hb
          exact (pin b hb o e).2
      cases b with
      | false =>
        rw [if_neg Bool.false_ne_true] at q9 ⊢; exact fin I9 q9
      | true =>
        rw [if_pos rfl] at q9 ⊢; refine thnF (pe.run _ s9 σ8 H9 _ I9 q9) fun z s10 ⟨yv, H10, I10, r10, acc, a1, a2, nx⟩ => ?_
        exact app_ok (X := X.blk s3 H3 scope ce fp) I10 a1 a2 r10 fun s11 I11 => fin I11 nx
  exact codeAny_compStart_list loop (T.self X.A 0 _ _ _ t4 loop)
end HX

end
section
/-! While an exception is handled: a, b = a tuple. -/
namespace HX
open PySem PySem.Spec PyProof.Rows HotX
section
variable {prog : Program} {w : World} {A : Around} {E : Value → Shared → Prop} {s : Shared}
theorem tupEnd {it t x1 : Addr} {i : Nat} {items : Array Value} {Q : Option Value → Shared → Prop} (hot : HotAt A x1 s.heap) (hne : x1 ≠ it) (hit : IsTupIter s.heap it t i) (ht : IsTup s.heap t items) (hx : items[i]? = none)
    (hQ : ∀ g, (∀ c o, c ≠ it → s.heap.get? c = some o → g.get? c = some o) → Q none { s with heap := g }) : wpAny (model prog w) A (pyNext (.ref it)) Q E s := by
  obtain ⟨oi, gi, ci, di⟩ := id hit
  obtain ⟨ol, gl, _, _, dl⟩ := ht
  obtain ⟨hh, o1, vs1, g1, d1, c1⟩ := hot
  have nn : ¬ ((Value.ref t == Value.none) = true) := Bool.false_ne_true
  unfold pyNext
  refine wpAny_bind (wpAny_attempt (wpAny_callSpecial?_slot (name := Str.ofString "__next__") hit.typeIs slot_tupleiter_next (wpAny_call_entry slot_tupleiter_next hit.typeIs entry_tupleiter_next ?_ (args_tupleiter_next _))))
  show wpAny _ _ (field (.ref it) 0 >>= _) _ _ s; refine wpAny_bind (wpAny_field gi di (x := .ref t) rfl ?_)
  show wpAny _ _ (if (Value.ref t == Value.none) = true then _ else _) _ _ s; rw [if_neg nn]
  show wpAny _ _ (field (.ref it) 1 >>= _) _ _ s; refine wpAny_bind (wpAny_field gi di (x := .int i 0) rfl ?_)
  show wpAny _ _ (seqItems? (.ref t) >>= _) _ _ s; refine wpAny_bind (wpAny_seqItems gl dl ?_)
  simp only [Int.toNat_natCast, hx]
  refine wpAny_bind (wpAny_rule (wpAny_bind (wpAny_setField gi di (by simp) ?_)))
  show wpAny _ _ (newExc (.type "StopIteration") [] >>= _) _ _ _; refine wpAny_bind ?_
  simp only [newExc, newTuple]; refine wpAny_bind (wpAny_newObj_type ?_ (by size_fits))
  refine wpAny_bind (m := firstArgMember _ _) (wpAny_of_eq (a := Value.none) (by first | rfl | (simp only [firstArgMember]; rfl)) ?_); refine wpAny_newObj_type ?_ (by size_fits)
  have keep : ∀ (c : Addr) (o u v : Obj) (f : Obj → Obj), c ≠ it → s.heap.get? c = some o → (((s.heap.update it f).push u).push v).get? c = some o := fun c o u v f hc e =>
    Heap.get?_push_of_some _ (Heap.get?_push_of_some _ ((Heap.get?_update_other _ _ (Ne.symm hc)).trans e))
  have k1 := keep x1 o1
  refine raiseNew_hot (x1 := x1) ⟨hh, o1, vs1, k1 _ _ _ hne g1, d1, c1⟩ (Nat.ne_of_lt (Heap.lt_size (Heap.get?_push_of_some _ ((Heap.get?_update_other _ _ (Ne.symm hne)).trans g1)))) (Heap.get?_push_size _ rfl) rfl (by first | (simp; done) | (simp; omega)) ?_
  refine wpAny_bind (wpAny_isInstance (T := "StopIteration") (b := true) ⟨_, Heap.get?_update_self _ (Heap.get?_push_size _ rfl) rfl, rfl⟩ isSubtype_stop ?_)
  refine wpAny_pure (hQ _ fun c o hc e => ?_)
  rw [Heap.get?_update_other _ _ (Nat.ne_of_gt (Heap.lt_size (Heap.get?_push_of_some _ ((Heap.get?_update_other _ _ (Ne.symm hc)).trans e))))]
  exact keep c o _ _ _ hc e
theorem unpackHot {t x1 : Addr} {items : Array Value} {targets : List (Bool × (Value → Sem Unit))} {Q : Unit → Shared → Prop} (hot : HotAt A x1 s.heap) (ht : IsTup s.heap t items) (hn : targets.length = items.size) (hstar : targets.findIdx? (·.1) = none)
    (h : ∀ g, (∀ c o, s.heap.get? c = some o → g.get? c = some o) → wpAny (model prog w) A (assignInOrder (targets.map (·.2)) items.toList) Q E { s with heap := g }) : wpAny (model prog w) A (unpack (.ref t) targets) Q E s := by
  have tlt : t ≠ s.heap.objs.size := by obtain ⟨o, ho, _⟩ := ht; exact Nat.ne_of_lt (Heap.lt_size ho)
  obtain ⟨hh, o1, vs1, g1, d1, c1⟩ := hot
  have n1 : x1 ≠ s.heap.objs.size := Nat.ne_of_lt (Heap.lt_size g1)
  unfold unpack
  rw [hn, hstar]
  refine wpAny_bind (wpAny_holding ?_)
  unfold unpackItems notIterableAtAll
  refine wpAny_bind (wpAny_bind (wpAny_specialOf ht.typeIs slot_tuple_iter.lookup (wpAny_pure ?_)))
  simp only [Bool.false_eq_true, if_false]
  refine wpAny_bind (wpAny_holding (iter_tuple ht ?_))
  refine wpAny_bind (wpAny_holding (draw_tuple tlt items.size 0 _ _ ⟨_, Heap.get?_push_size _ rfl, rfl, rfl⟩ (ht.push _) (by omega) fun g2 it2 sb2 => ?_))
  have whole : List.take items.size (List.drop 0 items.toList) = items.toList := by rw [List.drop_zero]; exact List.take_of_length_le (by simp)
  rw [whole, if_neg (by simp)]
  have up : ∀ c o, c ≠ s.heap.objs.size → s.heap.get? c = some o → g2.get? c = some o := fun c o hc e => sb2.extBut c o hc (Heap.get?_push_of_some _ e)
  refine wpAny_bind (wpAny_holding (tupEnd (x1 := x1) ⟨hh, o1, vs1, up _ _ n1 g1, d1, c1⟩ n1 it2 ((ht.push _).extBut sb2.extBut tlt) (by simp) fun g3 k3 => ?_))
  simp only [Option.isSome_none, Bool.false_eq_true, if_false]
  exact wpAny_pure (h g3 fun c o e => k3 c o (Nat.ne_of_lt (Heap.lt_size e)) (up c o (Nat.ne_of_lt (Heap.lt_size e)) e))
end
open L2 L2H
/-- (a, b, ..) = a tuple -/
theorem pg_tupX {X : Cx} {es : List Expr} {k : Nat} {t : TGs} {n : Nat} {pos : Pos} (hot : HotC X) (h : PGs X es t) (hn : (assignEach es X.env).length = n) (hst : (assignEach es X.env).findIdx? (·.1) = none) : PG X (.Tuple es k pos) (gTup X.K n t) := by
  refine ⟨fun pins s σ H v u Q I r hw => ?_⟩
  obtain ⟨a, xs, rfl, sq, rfl, hw⟩ := hw
  cases r
  obtain ⟨its, rv, ht, _⟩ := I.tuple sq
  obtain ⟨x1, hx⟩ := hot.at I
  rw [assign_Tuple]
  refine wpAny_bind (wpAny_standAt (unpackHot hx ht (by simp [hn, ← rv.length]) hst fun g kp => ?_))
  exact h.run pins _ σ H xs _ Q (I.kept (t' := s.toks) kp) (by simpa using rv) hw
end HX

end
section
/-! While an exception is handled: isinstance of it; a def that is given it. -/
namespace HX
open PySem PySem.Spec PyProof.Rows L2 HotX L2H DL
theorem call_isP {X : Cx} {a D : Addr} {oe : Obj} (hp : (a, oe) ∈ X.pn) (C : ExcC X.K D) (hc : oe.cls = .ref D) (hd : oe.dict = none) (hf : ∃ vs, oe.data = .fields vs) : CallR X (.builtin "isinstance") (rIsE X.K D a) := by
  rintro pins s σ H xs us Q I r ⟨c, cv, b, rfl, one, e, q⟩
  cases r with
  | cons rx rest =>
    cases rest with
    | cons rt rest =>
      cases rest; cases rx
      cases one _ rt
      have get := (I.pin (a, oe) (List.mem_append_left _ hp)).1
      obtain ⟨vs, hv⟩ := hf
      have J : PySem.W.InstAt s.heap a oe D none := by
        obtain ⟨o1, o2, o3, o4⟩ := oe
        dsimp only at hc hd hv
        subst hc hd hv; exact ⟨get, rfl, rfl, trivial⟩
      exact PySem.W.kia_one (PySem.W.handS_kitx_exc C.hg C.hk C.hs C.hd C.ha C.hn C.ht C.hm) I.kIn J e (fun z => nomatch z) fun tk => ⟨.bl b, H, I.kept (t' := tk) fun _ _ z => z, rfl, q⟩
/-- a class by its name; whether D is below it -/
structure ClsB (K : PySem.W.Frag) (mg : Str → Option Value) (D : Addr) (n : Str) (b : Bool) : Prop where
  ex : ∃ (v : V) (cv : Value), (mg n = some cv ∨ (mg n = none ∧ bootBuiltins n = some cv ∧ n ≠ "__name__")) ∧ RelV v cv ∧ (∀ u, RelV v u → u = cv) ∧ PySem.W.kitOne K (.ref D) cv = some b
theorem we_is {X : Cx} {a D : Addr} {i : Nat} {e n : Str} {b : Bool} {p q1 q2 pos : Pos} {σ : L2.St} {H : Hp} {Q : VK} (hc : CallR X (.builtin "isinstance") (rIsE X.K D a)) (cl : ClsB X.K X.mg D n b) (hi : X.N[i]? = some e) (hv : Vis X.env.scope e) (hσ : σ[i]? = some (some (.ref a))) (hg : Gl X n) (hg2 : Gl X "isinstance") (hm : X.mg "isinstance" = none)
    (h1 : (e == ("__debug__" : Str)) = false) (h2 : (e == ("__classdict__" : Str)) = false) (h3 : (n == ("__debug__" : Str)) = false) (q : Q (.bl b) H) : WE X (.Call (.Name "isinstance" p) [.Name e q1, .Name n q2] [] pos) σ H Q := by
  obtain ⟨v, cv, hn, rv, one, k⟩ := cl.ex
  have nm : PE X (.Name n q2) (tC v) := by
    rcases hn with hn | ⟨hn, hb, hne⟩
    · exact pe_glob hg hn rv h3
    · exact pe_bltn hg hn hb rv hne h3
  exact we_of (pe_callB hc hg2 hm (by decide +kernel) (pa_cons (pe_var hi hv h1 h2) (pa_cons nm pa_nil))) ⟨_, hσ, v, cv, b, rfl, one, k, q⟩
/-! ### a def that is given the exception -/
structure FnP (P : Program) (w : World) (K : PySem.W.Frag) (mg : Str → Option Value) (base : Heap) (CX : CXT) (k : Nat) (f : Addr) (fd : FuncData) (ps : List Str) (sp : Addr × Obj → Sp) : Prop where
  len : ∀ p vs H Q E, sp p vs H Q E → vs.length = ps.length
  run : ∀ (A : Around) (outer : List Env) (s : Shared) (H : Hp) (args : Args) (us : List Value) (vs : List V) (Q : VK) (E : XK) (p : Addr × Obj), RoomH k A → Hot1 A p → PinOk outer H s p → Env0 P w K mg base A outer s H → BindsTo s fd args (ps.zip us) → Vals vs us → sp p vs H Q E →
    codeAny (model P w) A (.call (.ref f) args) (CR CX outer P w H s Q E) s
theorem fnP_of {CX : CXT} {P : Program} {w : World} {K : PySem.W.Frag} {mg : Str → Option Value} {base : Heap} {k : Nat} {f : Addr} {fd : FuncData} {x qn : Str} {st : Stmt} {N ps : List Str} {sp : Addr × Obj → Sp} (F : Fun K x qn st f fd) (S : FnScope N ps (defScope st)) (hlen : ∀ p vs H Q E, sp p vs H Q E → vs.length = ps.length)
    (body : ∀ (c : Value) (A : Around) (o : List Env) (s : Shared) (H : Hp) (vs : List V) (Q : VK) (E : XK) (p : Addr × Obj), Hot1 A p → RoomH k (A.deeper (envOfC qn (defScope st) s.heap.objs.size f c)) → sp p vs H Q E →
      WSs (cxH CX P w K mg base N qn (defScope st) f c A o s H E p) (defBody st) { nx := fun _ H' => Q .non H', rt := Q } (L2.start N vs) H) : FnP P w K mg base CX (k + 1) f fd ps sp := by
  obtain ⟨_, _, _, _, _, _, c, _, _, rfl, lk, hcd⟩ := F.ex
  refine ⟨hlen, fun A o s H args us vs Q E p hr hot hpin e0 hb r hsp => ?_⟩
  have hl := hlen _ _ _ _ _ hsp
  have kin : K.In s.heap := e0.mod.kin.keeps fun b u e => (e0.bs b u e).1
  have kinds : ∀ y ∈ ps.zip us, (defScope st).names.lookup y.1 = some .local ∨ ((defScope st).names.lookup y.1 = some .cell ∧ ((cellsFrom (s.heap.objs.size + 1) (defScope st).names []).lookup y.1).isSome = true) := fun y hy =>
    (S.par y.1 (List.of_mem_zip hy).1).elim .inl fun q => .inr ⟨q, PySem.W.cellsFrom_some _ _ _ (.inl q)⟩
  refine codeAny_call_function hr.depth (kin _ _ lk) rfl S.co S.gen rfl (PySem.W.codeRec_of kin hcd) (hb _ _ _ _ (wpAny_newFunctionEnv_cells S.kind kinds fun env he s1 x => ?_))
  subst he
  refine ⟨(e0.mod.nolimit.keeps fun b u e => (e0.bs b u e).1).keeps x.toInCall.keep, codeAny_func ?_⟩
  refine wpAny_mono ((body c A o s H vs Q E p hot (hr.deeper _) hsp).run [] s1 (inv_startH S hpin e0 hl r x)) (fun fl s' hs => ?_) fun e s' hs => hs
  have fin : ∀ {σ' : L2.St} {H' : Hp} {v : V} {u : Value}, L2.Inv (cxH CX P w K mg base N qn (defScope st) f c A o s H E p) [] σ' H' s' → RelV v u → Q v H' → CE o P w H s Q u s' := fun {_ H' v _} J rv q => ⟨v, H', J.os, J.bare, J.base, J.hok, rv, q⟩
  cases fl with
  | ret u => obtain ⟨_, _, _, J, rv, q⟩ := hs; exact fin J rv q
  | next => obtain ⟨_, _, J, q⟩ := hs; exact fin (v := V.non) (u := Value.none) J rfl q
  | brk => exact hs.elim fun _ z => z.elim fun _ z => z.2.elim
  | cont => exact hs.elim fun _ z => z.elim fun _ z => z.2.elim
theorem pe_callP {X : Cx} {CX : CXT} {k : Nat} {f : Addr} {fd : FuncData} {ps : List Str} {sp : Addr × Obj → Sp} {x : Str} {q pos : Pos} {e : Expr} {es : List Expr} {t : TA} {p : Addr × Obj} (F : FnP X.prog X.w X.K X.mg X.base CX k f fd ps sp) (hr : RoomH k X.A) (hot : Hot1 X.A p) (hp : p ∈ X.pn) (hg : Gl X x) (hm : X.mg x = some (.ref f)) (hk : PySem.W.keepIn X.K (.ref f) = true) (hb : Binds X.K fd ps [])
    (hx : ∀ σ, PassesAt CX X σ fun _ _ _ => False) (ha : PA X (e :: es) t) (hdb : (x == ("__debug__" : Str)) = false) (he : starEach (e :: es) X.env = (false, eval e X.env) :: starEach es X.env) (hpl : (backTo pos (starEach es X.env)).any (·.1) = false) :
    PE X (.Call (.Name x q) (e :: es) [] pos) (fun σ H Q => t σ H fun vs H1 => sp p vs H1 Q fun _ _ _ => False) := by
  refine ⟨fun pins s σ H Q I h => wpAny_Call_Name_kw (ld_glob I hg hm (PySem.W.callWith_K (h₀ := X.base) I.ok.mod.kin hk (thn (ha.run pos pins s σ H _ I h) fun us s1 ⟨vs, H1, I1, r, z⟩ => ⟨I1.kIn, ?_⟩) he hpl) hdb)⟩
  have hl : us.length = ps.length := r.length.symm.trans (F.len _ _ _ _ _ z)
  have b := hb s1 us I1.kIn (by rw [List.append_nil]; exact hl)
  rw [List.append_nil] at b
  have P1 := I1.pin p (List.mem_append_left _ hp)
  have ok : PinOk X.stack H1 s1 p := ⟨P1.1, P1.2.1, fun hm => (List.mem_cons.mp (I1.stkSub p.1 hm)).elim P1.2.2.1 P1.2.2.2.1, P1.2.2.2.2⟩
  refine wpAny_call (codeAny_mono (F.run X.A X.stack s1 H1 ⟨us, []⟩ us vs Q _ p hr hot ok I1.env0 b r z) fun r s' hq => ?_)
  cases r with
  | error e => exact hx σ pins H1 s1 e s' I1 hq
  | ok fl =>
    cases fl with
    | ret u => exact I1.after hq
    | _ => exact hq.elim
end HX

end
section
/-! While an exception is handled: new lists by values. -/
namespace HX
open PySem PySem.Spec PyProof.Rows L2 Evl HotX L2H DL
/-- e makes a new list of vs -/
def WL (X : Cx) (e : Expr) (σ : L2.St) (H : Hp) (vs : List V) : Prop := ∀ Q : VK, (∀ p H', Ex H H' → H' p = some (.lst vs) → Q (.ref p) H') → WE X e σ H Q
section
variable {X : Cx} {σ : L2.St} {H : Hp} {e : Expr} {es rest : List Expr} {pos p pn q1 q2 : Pos} {vs ws : List V} {x : Str} {i : Nat} {l : Addr} {D : Ends} {sts : List Stmt}
theorem wl_lst (hz : vs.length ≤ 1000) (h : ∀ Q : List V → Hp → Prop, Q vs H → WA X es σ H Q) : WL X (.List es pos) σ H vs := fun Q q =>
  we_of (pe_lst pa_we) (h _ ⟨sz_of (by omega), fun p hp => q p _ (fun a o h => by rw [upd_ne (ne_of_none h hp)]; exact h) upd_same⟩)
theorem wl_cat (hi : X.N[i]? = some x) (hv : Vis X.env.scope x) (hσ : σ[i]? = some (some (.ref l))) (hl : H l = some (.lst vs)) (hz : vs.length + ws.length ≤ 1000) (h : WL X e σ H ws) (h1 : (x == ("__debug__" : Str)) = false) (h2 : (x == ("__classdict__" : Str)) = false) : WL X (.BinOp (.Name x p) .Add e pos) σ H (vs ++ ws) := fun Q q =>
  we_of (pe_op op_cat (pe_var hi hv h1 h2) pe_we) ⟨_, hσ, h _ fun r H' ex hr => ⟨_, _, _, _, rfl, rfl, ex _ _ hl, hr, sz_of (by omega), fun a ha => q a _ (fun b o hb => by rw [upd_ne (ne_of_none (ex _ _ hb) ha)]; exact ex _ _ hb) upd_same⟩⟩
theorem ws_wl (hN : X.N.Nodup) (hi : X.N[i]? = some x) (hx : X.env.scope.names.lookup x = some .local) (hs : swapsWith e (some (.Name x p)) pos.line X.env = pure false) (h : WL X e σ H vs) (k : ∀ l H', Ex H H' → H' l = some (.lst vs) → WSs X sts D (σ.set i (some (.ref l))) H') : WSs X (.Assign [.Name x p] e pos :: sts) D σ H :=
  ws_of (pss_cons (ps_set (i := i) hN hi (.inl hx) pe_we hs (.inr hx)) ps_we) (h _ fun l H' ex hl => k l H' ex hl)
def strsOf : List Expr → Option (List Str)
  | [] => some []
  | .Constant (.str s) _ _ :: es => (strsOf es).map (s :: ·)
  | _ => none
theorem wa_strs : ∀ {es : List Expr} {ss : List Str} {Q : List V → Hp → Prop}, strsOf es = some ss → Q (ss.map V.str) H → WA X es σ H Q
  | [], ss, Q, h, q => by
    cases h
    exact wa_of pa_nil q
  | e :: es, ss, Q, h, q => by
    cases e with
    | Constant c j p =>
      cases c with
      | str s =>
        have h : (strsOf es).map (s :: ·) = some ss := h
        cases q2 : strsOf es with
        | none => rw [q2] at h; cases h
        | some rs =>
          rw [q2] at h
          cases h
          exact wa_of (pa_cons pe_str pa_we rfl) (wa_strs q2 q)
      | _ => cases (show (none : Option (List Str)) = some ss from h)
    | _ => cases (show (none : Option (List Str)) = some ss from h)
end
/-- the words whose sign is True, of the first so many -/
def sel (ws : List Str) (bs : List Bool) (n : Nat) : List Str := ((ws.zip bs).take n).filterMap fun p => if p.2 then some p.1 else none
theorem sel_succ {ws : List Str} {bs : List Bool} {n : Nat} {w : Str} {b : Bool} (h1 : ws[n]? = some w) (h2 : bs[n]? = some b) : sel ws bs (n + 1) = sel ws bs n ++ (if b then [w] else []) := by
  have h : (ws.zip bs)[n]? = some (w, b) := by rw [List.getElem?_zip_eq_some]; exact ⟨h1, h2⟩
  unfold sel
  rw [List.take_add_one, h, List.filterMap_append]
  cases b <;> rfl
theorem sel_len (ws : List Str) (bs : List Bool) (n : Nat) : (sel ws bs n).length ≤ n := by
  unfold sel
  have := List.length_filterMap_le (fun p : Str × Bool => if p.2 then some p.1 else none) ((ws.zip bs).take n)
  rw [List.length_take] at this
  omega
/-- [w for w, b in zip(ws, bs) if b] -/
theorem wl_sel {X : Cx} {σ : L2.St} {H : Hp} {scope : Scope} {ws : List Str} {bs : List Bool} {w b : Str} {i j iw ib : Nat} {lw lb : Addr} {nw nb : Str} {k : Nat} {p1 p2 p3 p4 p5 p6 p7 p8 p9 pos : Pos} (hot : HotC X) (hN : X.N.Nodup) (ok : BlkOk X.N X.env.scope scope [(w, i), (b, j)])
    (hg : Gl X "zip") (hm : X.mg "zip" = none) (hiw : X.N[iw]? = some nw) (hib : X.N[ib]? = some nb) (vw : Vis X.env.scope nw) (vb : Vis X.env.scope nb) (hw : σ[iw]? = some (some (.ref lw))) (hb : σ[ib]? = some (some (.ref lb))) (hlw : H lw = some (.lst (ws.map V.str))) (hlb : H lb = some (.lst (bs.map V.bl))) (hlen : ws.length = bs.length) (hz : ws.length ≤ 1000)
    (hi : X.N[i]? = some w) (hj : X.N[j]? = some b) (hij : i ≠ j) (hwl : (relS scope X.env.scope).names.lookup w = some .local) (hbl : (relS scope X.env.scope).names.lookup b = some .local) (hli : i < σ.length) (hlj : j < σ.length)
    (d1 : (nw == ("__debug__" : Str)) = false) (d2 : (nw == ("__classdict__" : Str)) = false) (d3 : (nb == ("__debug__" : Str)) = false) (d4 : (nb == ("__classdict__" : Str)) = false) (d5 : (w == ("__debug__" : Str)) = false) (d6 : (w == ("__classdict__" : Str)) = false) (d7 : (b == ("__debug__" : Str)) = false) (d8 : (b == ("__classdict__" : Str)) = false) :
    WL X (.ListComp (.Name w p1) [⟨.Tuple [.Name w p2, .Name b p3] k p4, .Call (.Name "zip" p5) [.Name nw p6, .Name nb p7] [] p8, [.Name b p9], 0⟩] scope pos) σ H ((sel ws bs ws.length).map V.str) := fun Q q => by
  refine we_of (pe_lcX (own := [(w, i), (b, j)]) (g := gTup X.K 2 (gCons (gName i) (gCons (gName j) gNil))) (tt := tB (tVar j)) (te := tVar i) hot hN (pi_Z hg hm (pa_cons (pe_var hiw vw d1 d2) (pa_cons (pe_var hib vb d3 d4) pa_nil)) rfl rfl) ok (fun s H C cl fp p pn h1 h2 => ?_) (fun s H C cl fp => ?_) (fun s H C cl fp => ?_) (fun _ => rfl)) ?_
  · exact pg_tupX ⟨p, h1, h2⟩ (pgs_cons (pg_name hN hi (.inl hwl) (.inr hwl)) (pgs_cons (pg_name hN hj (.inl hbl) (.inr hbl)) pgs_nil)) rfl rfl
  · exact pts_one (pt_val (pe_var hj (.inl hbl) d7 d8))
  · exact pe_var hi (.inl hwl) d5 d6
  refine ⟨_, hw, _, hb, lw, lb, _, _, rfl, sq_of hlw, sq_of hlb, fun L hL => ⟨fun n m H' => m = ws.length - n ∧ n ≤ ws.length ∧ Ex H H' ∧ H' L = some (.lst ((sel ws bs n).map V.str)), ⟨ws.length, rfl, Nat.zero_le _, fun a o h => ?_, ?_⟩, ?_⟩⟩
  · rw [upd_ne (ne_of_none h hL)]; exact h
  · exact upd_same
  rintro n m H' ⟨rfl, hn, ex, hl⟩
  by_cases lt : n < ws.length
  · have gw : (ws.map V.str)[n]? = some (.str ws[n]) := by rw [List.getElem?_map, List.getElem?_eq_getElem lt]; rfl
    have gb : (bs.map V.bl)[n]? = some (.bl (bs[n]'(by omega))) := by rw [List.getElem?_map, List.getElem?_eq_getElem (by omega)]; rfl
    refine .inr ⟨⟨_, _, _, _, sq_of (ex _ _ hlw), sq_of (ex _ _ hlb), gw, gb⟩, fun H2 => Ex H H2 ∧ H2 L = some (.lst ((sel ws bs (n + 1)).map V.str)), fun H2 h2 => ⟨ws.length - (n + 1), by omega, rfl, lt, h2⟩, ?_⟩
    rintro v H2 ⟨T, x, y, rfl, hT, rfl, ex1, ex2⟩
    have e1 := ex1 _ (sq_of (ex _ _ hlw))
    have e2 := ex2 _ (sq_of (ex _ _ hlb))
    rw [gw] at e1
    rw [gb] at e2
    cases e1
    cases e2
    have hTL : L ≠ T := ne_of_none hl hT
    have exT : Ex H (L2.upd H' T (.tup [.str ws[n], .bl (bs[n]'(by omega))])) := fun a o h => by rw [upd_ne (ne_of_none (ex _ _ h) hT)]; exact ex _ _ h
    refine ⟨T, _, rfl, st_of upd_same, rfl, _, _, rfl, _, _, rfl, rfl, (wipe_set _ j _ _ (by simp)).trans ((wipe_set _ i _ _ (by simp)).trans (wipe_wipe _ _ _ fun a h => h)), .bl (bs[n]'(by omega)), ?_, bs[n]'(by omega), rfl, ?_⟩
    · rw [List.getElem?_set_self (by rw [List.length_set, wipe_length]; exact hlj)]
    · have hs := sel_succ (List.getElem?_eq_getElem lt) (List.getElem?_eq_getElem (show n < bs.length by omega))
      have hlen2 := sel_len ws bs n
      refine dite (bs[n]'(by omega) = true) (fun hb1 => (if_pos hb1).mpr ?_) (fun hb1 => (if_neg hb1).mpr ?_)
      · skip
        rw [if_pos hb1] at hs
        refine ⟨.str ws[n], ?_, (sel ws bs n).map V.str, ?_, ?_, ?_⟩
        · rw [List.getElem?_set_ne (Ne.symm hij), List.getElem?_set_self (by rw [wipe_length]; exact hli)]
        · rw [upd_ne hTL]; exact hl
        · rw [List.length_map]; exact sz_lt (by omega)
        · refine ⟨fun a o h => ?_, ?_⟩
          · by_cases z : a = L
            · exfalso; rw [z] at h; rw [hL] at h; cases h
            · rw [upd_ne z]; exact exT a o h
          · rw [upd_same, hs, List.map_append]; rfl
      · rw [if_neg hb1, List.append_nil] at hs
        refine ⟨exT, ?_⟩
        rw [upd_ne hTL, hs]; exact hl
  · have e : n = ws.length := by omega
    subst e
    exact .inl ⟨⟨_, sq_of (ex _ _ hlw), by rw [List.length_map]; exact Nat.le_refl _⟩, q L H' ex hl⟩
end HX

end
section
namespace FT
open PySem PySem.Spec PyProof.Rows L2 Evl HotX L2H DL HX
def kindNames : List Str := ["Fallen", "InvalidNumber", "InvalidPlace", "InvalidScript", "InvalidSeen", "InvalidText", "InvalidTree", "InvalidWays", "InvalidWord", "NothingToUndo", "TooMany", "Unlike", "ValueError"]
def kindWords : List Str := ["Fallen", "InvalidNumber", "InvalidPlace", "InvalidScript", "InvalidSeen", "InvalidText", "InvalidTree", "InvalidWays", "InvalidWord", "NothingToUndo", "TooMany", "Unlike", "+"]
/-- what is known of an own class: what it stands below -/
structure KindsOk (G : Gm) (D : Addr) (bs : List Bool) : Prop where
  C : ExcC G.K D
  cls : ∀ (i : Nat) (n : Str) (b : Bool), kindNames[i]? = some n → bs[i]? = some b → ClsB G.K G.mg D n b
  len : bs.length = 13
def kindsText (bs : List Bool) : Str := Txt.join " " (sel kindWords bs 13)
def spKinds (G : Gm) (p : Addr × Obj) : Sp := fun vs H Q _ => ∃ (D : Addr) (bs : List Bool), vs = [.ref p.1] ∧ p.2.cls = .ref D ∧ p.2.dict = none ∧ (∃ us, p.2.data = .fields us) ∧ KindsOk G D bs ∧ ∀ H', Ex H H' → Q (.str (kindsText bs)) H'
theorem sum_le : ∀ (ys : List Str), (∀ y ∈ ys, y.length ≤ 20) → (ys.map (·.length)).sum ≤ 20 * ys.length
  | [], _ => Nat.le_refl _
  | y :: ys, h => by
    rw [List.map_cons, List.sum_cons, List.length_cons]
    have := sum_le ys fun z hz => h z (List.mem_cons_of_mem _ hz)
    have := h y List.mem_cons_self
    omega
theorem sel_mem {ws : List Str} {bs : List Bool} {n : Nat} {w : Str} (h : w ∈ sel ws bs n) : w ∈ ws := by
  unfold sel at h
  obtain ⟨⟨a, b⟩, h1, h2⟩ := List.mem_filterMap.mp h
  have h1 := List.mem_of_mem_take h1
  cases b
  · cases h2
  · cases h2
    exact (List.of_mem_zip h1).1
theorem ok_l_kinds {G : Gm} (hf : At G "_law_kinds" s_l_kinds ["_law_e"]) (hi : G.mg "isinstance" = none) (hz : G.mg "zip" = none) : ∃ (f : Addr) (fd : FuncData), G.mg "_law_kinds" = some (.ref f) ∧ PySem.W.keepIn G.K (.ref f) = true ∧ Binds G.K fd ["_law_e"] [] ∧ FnP G.P G.w G.K G.mg G.base (L2N.CX G.P G.w) 1 f fd ["_law_e"] (spKinds G) := by
  obtain ⟨f, fd, F, hm, hb⟩ := hf
  refine ⟨f, fd, hm, F.kp, hb, fnP_of F sc_l_kinds (fun p vs H Q E h => ?_) (fun c A o s H vs Q E p hot hr h => ?_)⟩
  · obtain ⟨_, _, rfl, _⟩ := h
    rfl
  obtain ⟨D, bs, rfl, hc, hd, hfl, K, hQ⟩ := h
  obtain ⟨v0, v1, v2, g0, g1, g2, g3, g4, g5, g6, g7, g8, g9, g10, g11, g12, g13, g14⟩ := fa_l_kinds
  have hl := K.len
  obtain ⟨b0, b1, b2, b3, b4, b5, b6, b7, b8, b9, b10, b11, b12, rfl⟩ : ∃ b0 b1 b2 b3 b4 b5 b6 b7 b8 b9 b10 b11 b12, bs = [b0, b1, b2, b3, b4, b5, b6, b7, b8, b9, b10, b11, b12] := by
    match bs, hl with
    | [b0, b1, b2, b3, b4, b5, b6, b7, b8, b9, b10, b11, b12], _ => exact ⟨_, _, _, _, _, _, _, _, _, _, _, _, _, rfl⟩
  have cls := K.cls
  generalize hX : cxH (L2N.CX G.P G.w) G.P G.w G.K G.mg G.base n_l_kinds "_law_kinds" (defScope s_l_kinds) f c A o s H E p = X
  have xK : X.K = G.K := by rw [← hX]; rfl
  have xm : X.mg = G.mg := by rw [← hX]; rfl
  have xN : X.N = n_l_kinds := by rw [← hX]; rfl
  have xs : X.env.scope = defScope s_l_kinds := by rw [← hX]; rfl
  have xp : p ∈ X.pn := by rw [← hX]; exact List.mem_cons_self
  have xh : Hot1 X.A p := by rw [← hX]; exact hot
  have xC : ExcC X.K D := by rw [xK]; exact K.C
  have hcr : CallR X (.builtin "isinstance") (rIsE X.K D p.1) := call_isP (oe := p.2) xp xC hc hd hfl
  have gl : ∀ {n : Str}, Gv (defScope s_l_kinds) n → Gl X n := fun {n} g => by
    show X.env.scope.names.lookup n = _
    rw [xs]; exact g.h
  have is1 : ∀ (i : Nat) (n : Str) (b : Bool) {σ : L2.St} {H : Hp} {Q : VK} {q0 q1 q2 pos : Pos}, kindNames[i]? = some n → [b0, b1, b2, b3, b4, b5, b6, b7, b8, b9, b10, b11, b12][i]? = some b → Gv (defScope s_l_kinds) n → σ[0]? = some (some (.ref p.1)) → Q (.bl b) H → WE X (.Call (.Name "isinstance" q0) [.Name "_law_e" q1, .Name n q2] [] pos) σ H Q := fun i n b {σ H Q q0 q1 q2 pos} h1 h2 g hσ q =>
    we_is hcr (by rw [xK, xm]; exact cls i n b h1 h2) (by rw [xN]; exact v0.hi) (.inl (by rw [xs]; exact v0.hl)) hσ (gl g) (gl g0) (by rw [xm]; exact hi) v0.h1 v0.h2 g.h1 q
  have nd : X.N.Nodup := by rw [xN]; exact sc_l_kinds.nd
  have st : L2.start n_l_kinds [V.ref p.1] = [some (.ref p.1), none, none, none, none] := rfl
  rw [st]
  have set1 : ∀ {i : Nat} {x : Str} {σ : L2.St} {H : Hp} {e : Expr} {vs : List V} {D : Ends} {sts : List Stmt} {q1 q2 : Pos}, Lv n_l_kinds (defScope s_l_kinds) i x → WL X e σ H vs → (∀ l H', Ex H H' → H' l = some (.lst vs) → WSs X sts D (σ.set i (some (.ref l))) H') → (∀ env : Env, swapsWith e (some (.Name x q1)) q2.line env = pure false) → WSs X (.Assign [.Name x q1] e q2 :: sts) D σ H := fun V h k hs =>
    ws_wl nd (by rw [xN]; exact V.hi) (by rw [xs]; exact V.hl) (hs _) h k
  have cat1 : ∀ {i : Nat} {x : Str} {σ : L2.St} {H : Hp} {e : Expr} {vs ws : List V} {l : Addr} {q1 q2 : Pos}, Lv n_l_kinds (defScope s_l_kinds) i x → σ[i]? = some (some (.ref l)) → H l = some (.lst vs) → vs.length + ws.length ≤ 1000 → WL X e σ H ws → WL X (.BinOp (.Name x q1) .Add e q2) σ H (vs ++ ws) := fun V hσ hl hz h =>
    wl_cat (by rw [xN]; exact V.hi) (.inl (by rw [xs]; exact V.hl)) hσ hl hz h V.h1 V.h2
  refine set1 v1 (wl_lst (vs := [.bl b0, .bl b1, .bl b2]) hle fun Q q => wa_of (pa_cons pe_we (pa_cons pe_we (pa_cons pe_we pa_nil))) (is1 0 _ _ rfl rfl g1 rfl (is1 1 _ _ rfl rfl g2 rfl (is1 2 _ _ rfl rfl g3 rfl q)))) (fun l1 H1 e1 q1 => ?_) (by intro _; rfl)
  refine set1 v1 (cat1 v1 rfl q1 hle (wl_lst (vs := [.bl b3, .bl b4, .bl b5]) hle fun Q q => wa_of (pa_cons pe_we (pa_cons pe_we (pa_cons pe_we pa_nil))) (is1 3 _ _ rfl rfl g4 rfl (is1 4 _ _ rfl rfl g5 rfl (is1 5 _ _ rfl rfl g6 rfl q))))) (fun l2 H2 e2 q2 => ?_) (by intro _; rfl)
  refine set1 v1 (cat1 v1 rfl q2 hle (wl_lst (vs := [.bl b6, .bl b7, .bl b8]) hle fun Q q => wa_of (pa_cons pe_we (pa_cons pe_we (pa_cons pe_we pa_nil))) (is1 6 _ _ rfl rfl g7 rfl (is1 7 _ _ rfl rfl g8 rfl (is1 8 _ _ rfl rfl g9 rfl q))))) (fun l3 H3 e3 q3 => ?_) (by intro _; rfl)
  refine set1 v1 (cat1 v1 rfl q3 hle (wl_lst (vs := [.bl b9, .bl b10, .bl b11]) hle fun Q q => wa_of (pa_cons pe_we (pa_cons pe_we (pa_cons pe_we pa_nil))) (is1 9 _ _ rfl rfl g10 rfl (is1 10 _ _ rfl rfl g11 rfl (is1 11 _ _ rfl rfl g12 rfl q))))) (fun l4 H4 e4 q4 => ?_) (by intro _; rfl)
  refine set1 v1 (cat1 v1 rfl q4 hle (wl_lst (vs := [.bl b12]) hle fun Q q => wa_of (pa_cons pe_we pa_nil) (is1 12 _ _ rfl rfl g13 rfl q))) (fun l5 H5 e5 q5 => ?_) (by intro _; rfl)
  refine set1 v2 (wl_lst (vs := (kindWords.take 7).map V.str) hle fun Q q => wa_strs (ss := kindWords.take 7) rfl q) (fun m1 H6 e6 q6 => ?_) (by intro _; rfl)
  refine set1 v2 (cat1 v2 rfl q6 hle (wl_lst (vs := (kindWords.drop 7).map V.str) hle fun Q q => wa_strs (ss := kindWords.drop 7) rfl q)) (fun m2 H7 e7 q7 => ?_) (by intro _; rfl)
  have q5' : H7 l5 = some (.lst ([b0, b1, b2, b3, b4, b5, b6, b7, b8, b9, b10, b11, b12].map V.bl)) := e7 _ _ (e6 _ _ q5)
  have q7' : H7 m2 = some (.lst (kindWords.map V.str)) := q7
  have eH : Ex H H7 := ((((((e1.trans e2).trans e3).trans e4).trans e5).trans e6).trans e7)
  have rl : ∀ {n : Str} {sc : Scope}, (relS sc (defScope s_l_kinds)).names.lookup n = some .local → (relS sc X.env.scope).names.lookup n = some .local := fun h => by rw [xs]; exact h
  refine ws_of (pss_cons (ps_ret (pe_join pe_str pe_we (by rfl) (by rfl) (by rfl))) pss_never) ?_
  refine ⟨⟨_, rfl⟩, wl_sel (ws := kindWords) (bs := [b0, b1, b2, b3, b4, b5, b6, b7, b8, b9, b10, b11, b12]) (i := 3) (j := 4) (iw := 2) (ib := 1) ⟨p, xh, xp⟩ nd (by rw [xN, xs]; exact blkOk_by (N := n_l_kinds) (sc := defScope s_l_kinds) (by decide +kernel)) (gl g14) (by rw [xm]; exact hz) (by rw [xN]; exact v2.hi) (by rw [xN]; exact v1.hi) (.inl (by rw [xs]; exact v2.hl)) (.inl (by rw [xs]; exact v1.hl)) rfl rfl q7' q5' rfl (by decide) (by rw [xN]; rfl) (by rw [xN]; rfl) (by decide) (rl rfl) (rl rfl) hle hle
    v2.h1 v2.h2 v1.h1 v1.h2 (by decide) (by decide) (by decide) (by decide) _ fun r H8 e8 q8 => ?_⟩
  have lens : ∀ y ∈ kindWords, y.length ≤ 20 := by decide +kernel
  have q9 := sel_len kindWords [b0, b1, b2, b3, b4, b5, b6, b7, b8, b9, b10, b11, b12] kindWords.length
  have q10 := sum_le (sel kindWords [b0, b1, b2, b3, b4, b5, b6, b7, b8, b9, b10, b11, b12] kindWords.length) fun y hy => lens y (sel_mem hy)
  have q11 : (" " : Str).length = 1 := by decide +kernel
  have q12 : kindWords.length = 13 := rfl
  refine ⟨_, r, _, rfl, rfl, .inl (sq_of q8), by rw [q11]; omega, hQ H8 (eH.trans e8)⟩
end FT

end
section
/-! A lambda handed to a def; what it lets out bears no context. -/
namespace HX
open PySem PySem.Spec PyProof.Rows L2 LamX DL
abbrev lamN (X : Cx) (A : Around) (outer : List Env) (s : Shared) (H : Hp) (E : XK) (scope : Scope) (f c' : Addr) : Cx :=
  (lamCx X A outer s H E scope f c').tr [] fun e s' => wpAny (model X.prog X.w) (A.deeper (lamEnv X scope s.heap.objs.size f c')) (leaving (lamEnv X scope s.heap.objs.size f c') e) (fun _ s2 => L2N.CX X.prog X.w outer H s E e s2) (fun e' s2 => L2N.CX X.prog X.w outer H s E e' s2) s'
/-- the context of the def that got the lambda -/
abbrev gotC (X : Cx) (Ng : List Str) (x : Str) (sg : Scope) (g : Addr) (cdg : Value) (s : Shared) (H : Hp) : Cx := cxOf C8.CX0 X.prog X.w X.K X.mg X.base Ng x sg g cdg X.A X.stack s H C8.E0
section
variable {X : Cx} {pins : List (Addr × Obj)} {σ : L2.St} {H : Hp} {s : Shared}
theorem actN {Ng : List Str} {x : Str} {sg : Scope} {g f c' : Addr} {cdg pm ctv : Value} {params : Arguments} {body : Expr} {scope : Scope} {k i : Nat} {a : Str} {pn : List (Addr × Obj)} {xe : Value → Shared → Prop} {W : WX} {tb : XK → TE} {p1 p2 : Pos}
    (I : L2.Inv X pins σ H s) (L : LamS X.env.scope scope) (hf : s.heap.get? f = some (PySem.W.kla_obj "<lambda>" (X.env.qual ++ "<lambda>") params body scope (cloFrom X.env.cells scope.names []) pm c' ctv)) (hfn : H f = none) (hfr : f ∉ frs X.stack)
    (hbind : bindArgs (PySem.W.kla_fn "<lambda>" (X.env.qual ++ "<lambda>") params body scope (cloFrom X.env.cells scope.names []) pm (.ref c') ctv) ⟨[], []⟩ = pure [])
    (tk : L2N.Takes ((gotC X Ng x sg g cdg s H).tr pn xe) W) (hr : Room (k + 1) (X.A.deeper (envOfC x sg s.heap.objs.size g cdg)))
    (hbody : ∀ (A : Around) (outer : List Env) (s : Shared) (H : Hp) (E : XK), Room k (A.deeper (lamEnv X scope s.heap.objs.size f c')) → PE (lamN X A outer s H E scope f c') body (tb E))
    (hN : Ng[i]? = some a) (hv : Vis sg a) (hd : (a == ("__debug__" : Str)) = false) (hcd : (a == ("__classdict__" : Str)) = false) :
    PE ((gotC X Ng x sg g cdg s H).tr pn xe) (.Call (.Name a p1) [] [] p2) (fun σZ HZ Q => σZ[i]? = some (some (.ref f)) ∧ HZ c' = some (CodeO c' (X.env.qual ++ "<lambda>")) ∧ tb (WE W σZ) σ HZ Q) := by
  refine ⟨fun qs sZ σZ HZ Q IZ ⟨hs, hc, ht⟩ => wpAny_Call_Name_kw (thn ((pe_var (pos := p1) (i := i) hN hv hd hcd).run qs sZ σZ HZ (fun v H1 => v = .ref f ∧ H1 = HZ) IZ ⟨.ref f, hs, rfl, rfl⟩) fun u s1 ⟨v, H1, I1, r1, ev, eH⟩ => ?_)⟩
  subst ev
  rw [eH] at I1
  cases (show u = Value.ref f from r1)
  have there : s1.heap.get? f = some (PySem.W.kla_obj "<lambda>" (X.env.qual ++ "<lambda>") params body scope (cloFrom X.env.cells scope.names []) pm c' ctv) := I1.base.keep f _ hf hfn hfr fun z => nomatch (show f ∈ ([] : List Addr) from z)
  refine PySem.W.callWith_F0 ⟨_, _, _, _, there⟩ ?_
  have un : Un (frs X.stack) [] H HZ s.heap s1.heap := I1.base
  obtain ⟨⟨oc, vs, t, g1, g2, g3⟩, _, _⟩ := I1.hok c' _ hc
  have run : codeAny (model X.prog X.w) (X.A.deeper (envOfC x sg s.heap.objs.size g cdg)) (.call (.ref f) ⟨[], []⟩) (CR (L2N.CX X.prog X.w) (envOfC x sg s.heap.objs.size g cdg :: X.stack) X.prog X.w HZ s1 Q (WE W σZ)) s1 := by
    refine PySem.W.kla_callFunE hr.depth there rfl L.co L.gen rfl ⟨c', oc, vs, t, rfl, g1, g2, g3⟩ ?_
    rw [hbind]
    refine wpAny_pure (wpAny_newFunctionEnv (fun y hy => (L.own y hy).2) (fun y hy => absurd hy (by simp)) (fun h₁ hns hsb => ⟨I1.nolimit.fresh _ hsb, ?_⟩) L.kind)
    have kp : ∀ b o, s1.heap.get? b = some o → h₁.get? b = some o := fun b o e => hsb.extBut b o (Nat.ne_of_lt (Heap.lt_size e)) (Heap.get?_push_of_some _ e)
    have J := (lam_start2 (A := X.A.deeper (envOfC x sg s.heap.objs.size g cdg)) (outer := envOfC x sg s.heap.objs.size g cdg :: X.stack) (E := WE W σZ) (f := f) (c' := c') (tk := s1.toks + ([] : List (Str × Value)).length) I L I1.env0 hr.hd un hns kp).toTry fun e s' => wpAny (model X.prog X.w) ((X.A.deeper (envOfC x sg s.heap.objs.size g cdg)).deeper (lamEnv X scope s1.heap.objs.size f c')) (leaving (lamEnv X scope s1.heap.objs.size f c') e) (fun _ s2 => L2N.CX X.prog X.w (envOfC x sg s.heap.objs.size g cdg :: X.stack) HZ s1 (WE W σZ) e s2) (fun e' s2 => L2N.CX X.prog X.w (envOfC x sg s.heap.objs.size g cdg :: X.stack) HZ s1 (WE W σZ) e' s2) s'
    refine PySem.W.kla_codeExpr (wpAny_mono ((hbody _ _ s1 HZ _ (hr.deeper _)).run [] _ _ HZ Q J ht) (fun v s' ⟨w', H', J', rv, q⟩ => ⟨w', H', J'.os, J'.bare, J'.base, J'.hok, rv, q⟩) fun e s' hq => hq)
  refine wpAny_call (codeAny_mono run fun r s' hq => ?_)
  cases r with
  | error e => exact L2N.passAt tk σZ qs HZ s1 e s' I1 hq
  | ok fl =>
    cases fl with
    | ret u => exact I1.after hq
    | _ => exact hq.elim
end
/-- the def that calls what it got; TT: what it makes of the lambda's reading -/
def GivesN (X : Cx) (Ng : List Str) (x : Str) (sg : Scope) (g : Addr) (cdg : Value) (bg : List Stmt) (a : Str) (q : Str) (r : Nat) (TT : (XK → Hp → VK → Prop) → Hp → VK → Prop) : Prop :=
  ∀ (f c' : Addr) (s : Shared) (H : Hp) (Q : VK) (tl : XK → Hp → VK → Prop), Room r (X.A.deeper (envOfC x sg s.heap.objs.size g cdg)) →
    (∀ (W : WX) (pn : List (Addr × Obj)) (xe : Value → Shared → Prop) (p1 p2 : Pos), L2N.Takes ((gotC X Ng x sg g cdg s H).tr pn xe) W →
      PE ((gotC X Ng x sg g cdg s H).tr pn xe) (.Call (.Name a p1) [] [] p2) (fun σZ HZ Q => σZ[0]? = some (some (.ref f)) ∧ HZ c' = some (CodeO c' q) ∧ tl (WE W σZ) HZ Q)) →
    H c' = some (CodeO c' q) → TT tl H Q → WSs (gotC X Ng x sg g cdg s H).nox bg { nx := fun _ H' => Q .non H', rt := Q } (L2.start Ng [.ref f]) H
theorem pe_lamN {X : Cx} {T : List (Addr × Str)} {TT : (XK → Hp → VK → Prop) → Hp → VK → Prop} {x a : Str} {g c P : Addr} {k : Nat} {fd : FuncData} {stg : Stmt} {Ng : List Str} {params : Arguments} {body : Expr} {scope : Scope} {t : XK → TE} {p lpos pos : Pos} (hg : Gl X x) (hm : X.mg x = some (.ref g)) (F : Fun X.K x x stg g fd) (hb : L2.Binds X.K fd [a] []) (Sg : FnScope Ng [a] (defScope stg)) (hNg : Ng[0]? = some a) (hva : Vis (defScope stg) a)
    (hG : ∀ cdg, GivesN X Ng x (defScope stg) g cdg (defBody stg) a (X.env.qual ++ "<lambda>") (k + 1) TT)
    (TB : TabB X.base X.mg c P) (hcode : X.env.code = .ref c) (hmT : (P, X.env.qual ++ "<lambda>") ∈ T) (hu : ∀ p ∈ T, p.1 = P → p.2 = X.env.qual ++ "<lambda>") (hr : Room (k + 2) X.A) (L : LamS X.env.scope scope) (hdef : defaultsOf params X.env = ([], []))
    (hbind : ∀ (q : Str) (cl : List (Str × Addr)) (pm cv ctv : Value), bindArgs (PySem.W.kla_fn "<lambda>" q params body scope cl pm cv ctv) ⟨[], []⟩ = pure [])
    (hbody : ∀ (A : Around) (outer : List Env) (s : Shared) (H : Hp) (E : XK) (f c' : Addr), Room k (A.deeper (lamEnv X scope s.heap.objs.size f c')) → PE (lamN X A outer s H E scope f c') body (t E))
    (hdb : (x == ("__debug__" : Str)) = false) (hd : (a == ("__debug__" : Str)) = false) (hcd : (a == ("__classdict__" : Str)) = false) : PE X (.Call (.Name x p) [.Lambda params body scope lpos] [] pos) (tLam T TT t) := by
  obtain ⟨_, _, _, _, _, _, cdg, _, _, rfl, lk, hcg⟩ := F.ex
  refine ⟨fun pins s σ H Q I ⟨hT, h⟩ => wpAny_Call_Name_kw (ld_glob I hg hm (PySem.W.callWith_K (h₀ := X.base) I.ok.mod.kin F.kp ?_ (by rfl) (by rfl)) hdb)⟩
  show wpAny _ _ (spliced ((false, eval (.Lambda params body scope lpos) X.env) :: backTo pos (starEach [] X.env))) _ _ s
  refine Calls.spliced_cons (lam_make2 I TB hcode hmT hu hT hdef (L.has I.ok) fun f c' pm' ctv H1 s' I1 eN T1 hf hfn hfr hco => Calls.spliced_nil ⟨I1.kIn, ?_⟩)
  have run : codeAny (model X.prog X.w) X.A (.call (.ref g) ⟨[.ref f], []⟩) (CR C8.CX0 X.stack X.prog X.w H1 s' Q C8.E0) s' := by
    refine run_ofS (N := Ng) (ps := [a]) (us := [.ref f]) (vs := [.ref f]) lk hcg Sg hr I1.env0 (hb s' [.ref f] I1.kIn rfl) (.cons rfl .nil) rfl fun hr' => ?_
    refine ⟨_, PSs.nox ps_we, hG cdg f c' s' H1 Q (fun E H' Q' => t E σ H' Q') hr' (fun W pn xe p1 p2 tk => actN (i := 0) I1 L hf hfn hfr (hbind _ _ _ _ _) tk hr' (fun A outer s H E hr2 => hbody A outer s H E f c' hr2) hNg hva hd hcd) hco (h H1 eN T1)⟩
  refine wpAny_call (codeAny_mono run fun r s2 hq => ?_)
  cases r with
  | error e => exact (show False from hq).elim
  | ok fl =>
    cases fl with
    | ret u => exact I1.after hq
    | _ => exact hq.elim
end HX

end
section
/-! try with several clauses, each `except x as n`. -/
namespace HX
open PySem PySem.Spec PyProof.Rows L2 L2N
abbrev Suite := Addr → Value → Option Addr → TS
/-- the ends behind a suite: the name n is gone -/
abbrev endsAs (i : Nat) (D : Ends) : Ends := { nx := fun σ H => D.nx (σ.set i none) H, rt := D.rt, bk := fun σ H => D.bk (σ.set i none) H, ct := fun σ H => D.ct (σ.set i none) H }
def wantAs (K : PySem.W.Frag) (i : Nat) (out : WX) (D : Ends) : List (Value × Suite) → WX
  | [] => out
  | (c, ts) :: r => fun cls d σ H => ∃ b, PySem.W.exmOne K cls c = some b ∧ (b = true → ∀ a, H a = none → ts a cls d (endsAs i D) (σ.set i (some (.ref a))) H) ∧ (b = false → wantAs K i out D r cls d σ H)
inductive HdsAs (X : Cx) (n : Str) : List ExceptHandler → List (Value × Suite) → Prop
  | nil : HdsAs X n [] []
  | cons {x : Str} {c : Value} {ts : Suite} {b₀ : Stmt} {su : List Stmt} {np q : Pos} {hds : List ExceptHandler} {l : List (Value × Suite)} (hc : Names X x c)
      (hsu : ∀ (a : Addr) (oe : Obj) (cls : Value) (d : Option Addr) (pn : List (Addr × Obj)), Zn cls d oe → (∃ vs, oe.data = .fields vs) → PSs (X.suite a ((a, oe) :: pn)) (b₀ :: su) (ts a cls d)) (r : HdsAs X n hds l) : HdsAs X n (.ExceptHandler (some (.Name x np)) (some n) (b₀ :: su) q :: hds) ((c, ts) :: l)
theorem ps_tryAs {X : Cx} {n : Str} {i : Nat} {body : List Stmt} {h₀ : ExceptHandler} {hds : List ExceptHandler} {l : List (Value × Suite)} {pos : Pos} {tb : WX → TS} {out : WX} (hs : X.stack = X.env :: X.outer) (hf : X.env.frame = some X.env.locals) (hN : X.N.Nodup) (hi : X.N[i]? = some n) (hln : X.env.kindOf n = some .local) (tk : L2N.Takes X out)
    (hb : ∀ (W : WX) (pn : List (Addr × Obj)) (xe : Value → Shared → Prop), L2N.Takes (X.tr pn xe) W → PassesOwn (model X.prog X.w) X.A X.env xe → PSs (X.tr pn xe) body (tb W)) (hh : HdsAs X n (h₀ :: hds) l) : PS X (.Try body (h₀ :: hds) [] [] pos) (fun D σ H => tb (wantAs X.K i out D l) D σ H) := by
  refine ⟨fun pins s σ H D I h => wpAny_Try_except ?_⟩
  have ok := I.ok
  have fr : X.A.frames = some (X.env :: X.outer) := by rw [ok.frames, hs]
  refine wpAny_mono ((hb (wantAs X.K i out D l) (X.pn ++ pins) (fun e s1 => wpAny (model X.prog X.w) X.A (noteFrame e X.env) (fun _ s2 => wpAny (model X.prog X.w) X.A (setFlight e none) (fun _ s3 => wpAny (model X.prog X.w) X.A (handleBy e X.env (h₀ :: hds)) (SP X pins D) X.xe s3) X.xe s2) X.xe s1) (fun u sx xx => ?_) PassesOwn.looking).run [] s σ H D (I.toTry _) h) (fun f s1 fin => ?_) (fun e s1 he => he)
  case refine_2 =>
    cases f with
    | next => obtain ⟨_, _, J, q⟩ := fin; exact wpAny_execs_nil ⟨_, _, J.ofTry ok, q⟩
    | brk => obtain ⟨_, _, J, q⟩ := fin; exact ⟨_, _, J.ofTry ok, q⟩
    | cont => obtain ⟨_, _, J, q⟩ := fin; exact ⟨_, _, J.ofTry ok, q⟩
    | ret u => obtain ⟨_, _, _, J, r, q⟩ := fin; exact ⟨_, _, _, J.ofTry ok, r, q⟩
  obtain ⟨a, B, sI, pins', σ', H', cls, d, rfl, Jt, nb, up, sky, na, os, ag, want⟩ := xx
  have J : L2.Inv X pins σ' H' sI := Jt.ofTry ok
  show wpAny (model X.prog X.w) X.A (noteFrame (.ref a) X.env) _ _ _
  refine L2N.Sky.land Zn.steady fr hf (show Sky B (X.env :: X.outer) a (Zn cls d) X.env.locals sx.heap by rw [← hs]; exact sky) fun h3 fl3 up3 => ?_
  have J3 : L2.Inv X pins σ' H' { sx with heap := h3 } := J.landed nb fl3.1 (up.trans up3) os ag
  obtain ⟨o3, vs3, e3, z3, d3⟩ := fl3.there
  have nfr : a ∉ frs (X.env :: X.outer) := fun hm => by
    obtain ⟨_, o', e', hnf⟩ := fl3.2.2.1.mem hm
    rw [e3] at e'; cases e'
    exact hnf _ d3
  have nL : a ≠ X.env.locals := fun z => nfr (List.mem_filterMap.mpr ⟨X.env, List.mem_cons_self, by rw [hf, z]⟩)
  have nF : a ∉ X.fs := fun hm => by
    obtain ⟨e, he, q⟩ := List.mem_filterMap.mp hm
    exact nfr (List.mem_filterMap.mpr ⟨e, List.mem_cons_of_mem _ he, q⟩)
  have S3 := J3.suite e3 d3 na nL nF
  have walk : ∀ {hd2 : List ExceptHandler} {l2 : List (Value × Suite)}, HdsAs X n hd2 l2 → wantAs X.K i out D l2 cls d σ' H' → wpAny (model X.prog X.w) X.A (handleBy (.ref a) X.env hd2) (SP X pins D) X.xe { sx with heap := h3 } := by
    intro hd2 l2 hk
    induction hk with
    | nil =>
      intro w
      refine wpAny_handleBy_nil ?_
      obtain ⟨k1, k2, k3, oe, vs, T, oT, ts', he, hz, hd, h1, hr⟩ := id fl3
      unfold PySem.passOn
      refine wpAny_bind (wpAny_field he hd h1 ?_); rw [if_neg (show ¬ ((Value.ref T == Value.none) = true) from by simp)]
      have up5 : wpAny (model X.prog X.w) X.A (setFlight (.ref a) X.env.frame) (fun _ s4 => wpAny (model X.prog X.w) X.A (throw (.ref a) : Sem Flow) (SP X pins D) X.xe s4) X.xe { sx with heap := h3 } := by
        rw [hf]; refine HandSPX.setFlight_upZ fl3 fun h4 hh4 up4 => wpAny_throw (tk _ _ ⟨a, B, sI, pins, σ', H', cls, d, rfl, J, nb, (up.trans up3).trans up4, .inr (.inr (by rw [hs]; exact hh4)), na, os, ag, w⟩)
      first | exact wpAny_bind (wpAny_pure (wpAny_bind up5)) | exact wpAny_bind up5
    | @cons x c ts b₀ su np q hds2 l3 hc hsu r ih =>
      rintro ⟨b, hb1, yes, no⟩
      refine wpAny_handleBy_cons (codeAny_handlers_test ?_) (by intro q; cases q)
      have LT : PySem.W.Looks (model X.prog X.w) h3 (typeOf (.ref a)) cls := fun A Q E s k q => wpAny_typeOf_ref (k _ _ e3) (by rw [z3.1]; exact q)
      have LM := PySem.W.exm_one (M := model X.prog X.w) J3.kIn LT hb1
      have test : ∀ {Q : Value → Shared → Prop} {E : Value → Shared → Prop}, Q c { sx with heap := h3 } → wpAny (model X.prog X.w) (X.A.mark (some (.ref a))) (eval (.Name x np) X.env) Q E { sx with heap := h3 } := fun {Q E} q => by
        obtain ⟨g1, g2, g3 | ⟨g3, g4, g5⟩⟩ := hc
        · exact ld_glob (X := X.suite a ((a, o3) :: (X.pn ++ pins))) S3 g1 g3 q g2
        · exact ld_blt (X := X.suite a ((a, o3) :: (X.pn ++ pins))) S3 g1 g3 g4 q g5 g2
      refine test (LM.here ?_)
      cases b with
      | false => exact ih (no rfl)
      | true =>
        refine codeAny_handlers_suite_as (HandSPX.lands_againZ fl3 fun h4 fl4 up4 => ?_)
        have J4 : L2.Inv X pins σ' H' { sx with heap := h4 } := J.landed nb fl4.1 ((up.trans up3).trans up4) os ag
        obtain ⟨o4, vs4, e4, z4, d4⟩ := fl4.there
        refine store_ok (X := X.suite a ((a, o4) :: (X.pn ++ pins))) (v := .ref a) (J4.suite e4 d4 na nL nF) hN hi (.inl hln) rfl (fun s5 S5 => ?_) (.inr hln)
        have gone : ∀ {σ6 : L2.St} {H6 : Hp} {s6 : Shared} {Q : Shared → Prop}, L2.Inv (X.suite a ((a, o4) :: (X.pn ++ pins))) [] σ6 H6 s6 → (∀ s7, L2.Inv X pins (σ6.set i none) H6 s7 → Q s7) → wpAny (model X.prog X.w) X.A (do bindName X.env n .none; unbindBehindTheSuite X.env n q) (fun _ s7 => Q s7) X.xe s6 := fun S6 hq => gone_ok (S6.unsuite ok) hN hi hln hq
        refine wpAny_mono ((hsu a o4 cls d (X.pn ++ pins) z4 ⟨_, d4⟩).run [] s5 _ H' _ S5 (yes rfl a na)) (fun f s6 fin => ?_) fun _ _ z => z.elim
        cases f with
        | next => obtain ⟨_, _, S6, q6⟩ := fin; exact gone S6 fun s7 J7 => ⟨_, _, J7, q6⟩
        | brk => obtain ⟨_, _, S6, q6⟩ := fin; exact gone S6 fun s7 J7 => ⟨_, _, J7, q6⟩
        | cont => obtain ⟨_, _, S6, q6⟩ := fin; exact gone S6 fun s7 J7 => ⟨_, _, J7, q6⟩
        | ret u => obtain ⟨_, _, _, S6, r6, q6⟩ := fin; exact gone S6 fun s7 J7 => ⟨_, _, _, J7, r6, q6⟩
  exact walk hh want
end HX

end
section
namespace FT
open PySem PySem.Spec PyProof.Rows L2 Evl HotX L2H DL HX LamX
/-- an own class that the third clause takes, and no clause before it -/
structure CallOk (G : Gm) (D : Addr) (bs : List Bool) : Prop where
  k : KindsOk G D bs
  c1 : ∃ C, G.mg "TooMany" = some (.ref C) ∧ PySem.W.exmOne G.K (.ref D) (.ref C) = some false
  c2 : ∃ C, G.mg "InvalidText" = some (.ref C) ∧ PySem.W.exmOne G.K (.ref D) (.ref C) = some false
  c3 : ∃ C, G.mg "TreeError" = some (.ref C) ∧ PySem.W.exmOne G.K (.ref D) (.ref C) = some true
def Caught (G : Gm) (Q : VK) : XK := fun cls d H => ∃ (D : Addr) (bs : List Bool), cls = .ref D ∧ d = none ∧ CallOk G D bs ∧ ∀ t H2, Ex H H2 → H2 t = some (.tup [.str (kindsText bs)]) → Q (.ref t) H2
/-- what `_law_call` makes of its lambda -/
def TCall (G : Gm) : (XK → Hp → VK → Prop) → Hp → VK → Prop := fun tl H Q => ∀ (E : XK) (Q' : VK), (∀ cls d H', Caught G Q cls d H' → E cls d H') → (∀ v H', (∀ t H2, Ex H' H2 → H2 t = some (.tup [.str "told", v]) → Q (.ref t) H2) → Q' v H') → tl E H Q'
theorem exm_det {a b : Option Bool} {x y : Bool} (h1 : a = some x) (h2 : a = some y) : x = y := by rw [h1] at h2; exact Option.some.inj h2
theorem gives_call {G : Gm} {X : Cx} (xP : X.prog = G.P) (xw : X.w = G.w) (xK : X.K = G.K) (xm : X.mg = G.mg) (xb : X.base = G.base) {q : Str} {C1 C2 C3 : Addr} (h1 : G.mg "TooMany" = some (.ref C1)) (h2 : G.mg "InvalidText" = some (.ref C2)) (h3 : G.mg "TreeError" = some (.ref C3))
    (hk : ∃ (f : Addr) (fd : FuncData), G.mg "_law_kinds" = some (.ref f) ∧ PySem.W.keepIn G.K (.ref f) = true ∧ Binds G.K fd ["_law_e"] [] ∧ FnP G.P G.w G.K G.mg G.base (L2N.CX G.P G.w) 1 f fd ["_law_e"] (spKinds G)) (g : Addr) (cdg : Value) {r : Nat} (hr1 : 1 ≤ r) :
    GivesN X n_l_call "_law_call" (defScope s_l_call) g cdg (defBody s_l_call) "_law_call_so" q r (TCall G) := by
  intro f c' s H Q tl hr act hco hT
  obtain ⟨v0, v1, v2, g0, g1, g2, g3⟩ := fa_l_call
  obtain ⟨fk, fdk, k1, k2, k3, k4⟩ := hk
  generalize hZ : (gotC X n_l_call "_law_call" (defScope s_l_call) g cdg s H).nox = Z
  have zN : Z.N = n_l_call := by rw [← hZ]; rfl
  have zs : Z.env.scope = defScope s_l_call := by rw [← hZ]; rfl
  have zK : Z.K = G.K := by rw [← hZ]; exact xK
  have zm : Z.mg = G.mg := by rw [← hZ]; exact xm
  have nd : Z.N.Nodup := by rw [zN]; exact sc_l_call.nd
  have st : L2.start n_l_call [V.ref f] = [some (.ref f), none, none] := rfl
  rw [st]
  refine ws_of (pss_cons (ps_set (i := 1) nd (by rw [zN]; exact v1.hi) (.inl (by rw [zs]; exact v1.hl)) pe_non rfl (.inr (by rw [zs]; exact v1.hl))) ps_we) ?_
  show WSs Z _ _ [some (.ref f), some .non, none] H
  have nm : ∀ {x : Str} {C : Addr}, Gv (defScope s_l_call) x → G.mg x = some (.ref C) → Names Z x (.ref C) := fun {x C} gv hm => ⟨by show Z.env.scope.names.lookup x = _; rw [zs]; exact gv.h, gv.h1, .inl (by rw [zm]; exact hm)⟩
  have zP : Z.prog = G.P := by rw [← hZ]; exact xP
  have zw : Z.w = G.w := by rw [← hZ]; exact xw
  have zb : Z.base = G.base := by rw [← hZ]; exact xb
  have rH : RoomH 1 Z.A := by rw [← hZ]; exact roomH_of (hr.mono hr1)
  have km : Z.mg "_law_kinds" = some (.ref fk) := by rw [zm]; exact k1
  have kk : PySem.W.keepIn Z.K (.ref fk) = true := by rw [zK]; exact k2
  have kb : Binds Z.K fdk ["_law_e"] [] := by rw [zK]; exact k3
  have kF : FnP Z.prog Z.w Z.K Z.mg Z.base (L2N.CX G.P G.w) 1 fk fdk ["_law_e"] (spKinds G) := by rw [zP, zw, zK, zm, zb]; exact k4
  have kg : Z.env.scope.names.lookup ("_law_kinds" : Str) = some .globalImplicit := by rw [zs]; exact g1.h
  have l1 : Z.N[1]? = some ("_law_found" : Str) ∧ Z.env.scope.names.lookup ("_law_found" : Str) = some .local := ⟨by rw [zN]; exact v1.hi, by rw [zs]; exact v1.hl⟩
  have l2 : Z.N[2]? = some ("_law_e" : Str) ∧ Z.env.scope.names.lookup ("_law_e" : Str) = some .local := ⟨by rw [zN]; exact v2.hi, by rw [zs]; exact v2.hl⟩
  let ts3 : Suite := fun a cls d => fun Dn σ H => ∃ (D : Addr) (bs : List Bool), cls = .ref D ∧ d = none ∧ KindsOk G D bs ∧ σ[2]? = some (some (.ref a)) ∧ ∀ t H2, Ex H H2 → H2 t = some (.tup [.str (kindsText bs)]) → Dn.nx (σ.set 1 (some (.ref t))) H2
  let tb : WX → TS := fun W => fun Dn σ H => σ[0]? = some (some (.ref f)) ∧ H c' = some (CodeO c' q) ∧ tl (WE W σ) H fun v H1 => ([V.str "told", v] : List V).length ≤ sizeLine ∧ ∀ p, H1 p = none → Dn.nx (σ.set 1 (some (.ref p))) (L2.upd H1 p (.tup [.str "told", v]))
  have hcall : ∀ (W : WX) (pn : List (Addr × Obj)) (xe : Value → Shared → Prop) (p1 p2 : Pos), L2N.Takes (Z.tr pn xe) W → PE (Z.tr pn xe) (.Call (.Name "_law_call_so" p1) [] [] p2) (fun σZ HZ Q => σZ[0]? = some (some (.ref f)) ∧ HZ c' = some (CodeO c' q) ∧ tl (WE W σZ) HZ Q) := fun W pn xe p1 p2 tk => by
    rw [← hZ] at tk ⊢
    exact act W pn xe p1 p2 tk
  refine ws_of (pss_cons (ps_tryAs (i := 2) (tb := tb) (out := fun _ _ _ _ => False) (l := [(.ref C1, fun _ _ _ => tNever), (.ref C2, fun _ _ _ => tNever), (.ref C3, ts3)]) (by rw [← hZ]; rfl) (by rw [← hZ]; rfl) nd l2.1 l2.2 (fun u s2 ⟨_, _, _, _, _, _, _, _, _, _, _, _, _, _, _, _, w⟩ => w.elim)
    (fun W pn xe tk _ => ⟨fun pins s σ H Dn I h => ?_⟩) (.cons (nm g0 h1) (fun _ _ _ _ _ _ _ => pss_never) (.cons (nm g2 h2) (fun _ _ _ _ _ _ _ => pss_never) (.cons (nm g3 h3) (fun a oe cls d pn hz hfl => ⟨fun pins s σ H Dn I h => ?_⟩) .nil)))) ps_we) ?_
  · exact (pss_one (ps_set (X := Z.tr pn xe) (i := 1) nd l1.1 (.inl l1.2) (pe_tup (pa_cons pe_str (pa_cons (hcall W pn xe _ _ tk) pa_nil))) rfl (.inr l1.2))).run pins s σ H Dn I h
  · obtain ⟨D, bs, e1, e2, K, e3, e4⟩ := h
    have hot : Hot1 (Z.suite a ((a, oe) :: pn)).A (a, oe) := by
      obtain ⟨us, hu⟩ := hfl
      exact ⟨rfl, us, hu, hz.2.2 us hu⟩
    refine (pss_one (ps_set (X := Z.suite a ((a, oe) :: pn)) (i := 1) nd l1.1 (.inl l1.2) (pe_tup (pa_cons (pe_callP (X := Z.suite a ((a, oe) :: pn)) (p := (a, oe)) kF ⟨rH.dp, rH.un⟩ hot List.mem_cons_self kg km kk kb (fun σ pins H s e s' _ ⟨_, _, _, _, _, _, _, _, _, _, _, _, z⟩ => z.elim) (pa_cons (pe_var (i := 2) l2.1 (.inl l2.2) v2.h1 v2.h2) pa_nil) g1.h1 rfl rfl) pa_nil)) rfl (.inr l1.2))).run pins s σ H Dn I ?_
    refine ⟨_, e3, D, bs, rfl, hz.1.trans e1, hz.2.1.trans e2, hfl, K, fun H' ex => ⟨sz_of hle, fun p hp => e4 p _ (fun b o hb => ?_) upd_same⟩⟩
    rw [upd_ne (ne_of_none (ex _ _ hb) hp)]
    exact ex _ _ hb
  · refine ⟨rfl, hco, hT _ _ (fun cls d H' hc => ?_) (fun v H' hv => ⟨sz_of hle, fun p hp => ?_⟩)⟩
    · obtain ⟨D, bs, rfl, rfl, ok, qq⟩ := hc
      obtain ⟨D1, m1, x1⟩ := ok.c1
      obtain ⟨D2, m2, x2⟩ := ok.c2
      obtain ⟨D3, m3, x3⟩ := ok.c3
      rw [h1] at m1
      rw [h2] at m2
      rw [h3] at m3
      cases m1
      cases m2
      cases m3
      refine ⟨false, by rw [zK]; exact x1, (fun h => nomatch h), fun _ => ⟨false, by rw [zK]; exact x2, (fun h => nomatch h), fun _ => ⟨true, by rw [zK]; exact x3, fun _ a ha => ⟨D, bs, rfl, rfl, ok.k, rfl, fun t H2 ex ht => ?_⟩, (fun h => nomatch h)⟩⟩⟩
      exact ws_of (pss_cons (ps_ret (pe_var (i := 1) l1.1 (.inl l1.2) v1.h1 v1.h2)) pss_never) ⟨_, rfl, qq t H2 ex ht⟩
    · refine ws_of (pss_cons (ps_ret (pe_var (i := 1) l1.1 (.inl l1.2) v1.h1 v1.h2)) pss_never) ⟨_, rfl, hv p _ (fun b o hb => ?_) upd_same⟩
      rw [upd_ne (ne_of_none hb hp)]
      exact hb
end FT

end
section
/-! The law's context: a lambda handed to `_law_call`, what it told compared. -/
namespace FT
open PySem PySem.Spec PyProof.Rows L2 Evl HotX L2H DL HX LamX
section
variable {C : DC} {e : Expr} {es : List Expr} {ρ : DEnv} {x : Str} {p pos : Pos}
/-- a call of a def that a local holds -/
theorem wd_callV {r i : Nat} {f : Addr} {fd : FuncData} {ps : List Str} {φ : Phi} {k : Dat → Prop} (h2 : PySem.W.keepIn C.G.K (.ref f) = true) (h3 : Binds C.G.K fd ps []) (h4 : FnOk C.G.P C.G.w C.G.K C.G.mg C.G.base (L2N.CX C.G.P C.G.w) r f fd ps (spD C.G.K φ)) (hr : r ≤ C.r) (hi : C.N[i]? = some x) (hv : Vis C.sc x) (hρ : ρ[i]? = some (some (.d (.fn f)))) (h : AD C (e :: es) ρ fun ds => φ ds k C.kx)
    (d1 : (x == ("__debug__" : Str)) = false) (d2 : (x == ("__classdict__" : Str)) = false) (he : ∀ env : Env, starEach (e :: es) env = (false, eval e env) :: starEach es env) (hpl : ∀ env : Env, (backTo pos (starEach es env)).any (·.1) = false) : WD C (.Call (.Name x p) (e :: es) [] pos) ρ k := fun X F σ T H Q S q => by
  have h4' : FnOk X.prog X.w X.K X.mg X.base (L2N.CX X.prog X.w) C.r f fd ps (spD X.K φ) := by
    rw [F.prog, F.wld, F.K, F.mg, F.base]
    exact h4.mono hr
  have hx : L2.Passes (L2N.CX X.prog X.w) X (fun c d H' => d = none ∧ C.kx c ∧ ∃ T', RSt C T' H') := L2N.passes_call F.tk fun c d σ' H' ⟨hd, hc, T', R⟩ => by
    subst hd
    exact C.hx c σ' T' H' R.step R.ex R.jv R.wd hc
  obtain ⟨v, e1, e2⟩ := S.env.dat i _ hρ
  cases e2
  refine we_of (pe_callL h4' F.room (by rw [F.N]; exact hi) (by rw [F.sc]; exact hv) (by rw [F.K]; exact h2) (by rw [F.K]; exact h3) .nil hx pa_we d1 d2 (he _) (hpl _)) ⟨e1, ?_⟩
  refine h X F σ T H _ S fun vs ds T1 H1 S1 st1 i1 k1 => ?_
  show spD X.K φ (vs ++ []) H1 Q _
  rw [List.append_nil, F.K]
  refine ⟨T1, ds, k, C.kx, S1.ex, S1.tf, i1, k1, fun v d T' H' st ex' iv kd => ?_, fun c T' H' st ex' kc => ⟨rfl, kc, T', (S1.go0 ex' st).r⟩⟩
  exact q v d T' H' (S1.go0 ex' st) (st1.trans st.up) iv kd
end
/-! ### the lambda's body -/
abbrev lamC (G : Gm) (N : List Str) (sc : Scope) (r : Nat) (W : WX) (T0 H0 : Hp) (kx : Value → Prop) (hx : ∀ c σ T H, Step mv0 T0 H0 T H → Ex T H → kx c → W c none σ H) : DC := { mkC G N sc r W T0 H0 kx hx with df := false }
/-- an env without own slots -/
def noOwn (ρ : DEnv) : DEnv := ρ.map fun s => match s with | some (.d x) => some (.d x) | _ => none
theorem noOwn_at {ρ : DEnv} {i : Nat} {s : DL.Slot} (h : (noOwn ρ)[i]? = some (some s)) : ρ[i]? = some (some s) ∧ ¬ s.own := by
  unfold noOwn at h
  rw [List.getElem?_map] at h
  cases q : ρ[i]? with
  | none => rw [q] at h; cases h
  | some u =>
    rw [q] at h
    cases u with
    | none => cases h
    | some u =>
      cases u with
      | d x => cases h; exact ⟨rfl, id⟩
      | _ => cases h
/-- what the lambda's body is read for -/
def tBody (G : Gm) (N : List Str) (sc : Scope) (k : Nat) (body : Expr) (E : XK) : TE := fun σ H Q => ∃ (T : Hp) (ρ : DEnv) (kd : Dat → Prop) (kx : Value → Prop), Ex T H ∧ (∀ a ps, T a ≠ some (.tbl ps)) ∧ ρ.length = σ.length ∧ (∀ (i : Nat) (s : DL.Slot), ρ[i]? = some (some s) → ¬ s.own) ∧ (∀ (i : Nat) (x : Dat), ρ[i]? = some (some (.d x)) → ∃ v, σ[i]? = some (some v) ∧ Is G.K T v x) ∧
  (∀ W T0 H0 hx, WD (lamC G N sc k W T0 H0 kx hx) body ρ kd) ∧ (∀ v d T' H', Step mv0 T H T' H' → Ex T' H' → Is G.K T' v d → kd d → Q v H') ∧ ∀ c T' H', Step mv0 T H T' H' → Ex T' H' → kx c → E c none H'
theorem pe_body {C : DC} {X : Cx} (F : Fx C X) {A : Around} {outer : List Env} {s : Shared} {H0 : Hp} {E : XK} {scope : Scope} {f c' : Addr} {k : Nat} {body : Expr} (hr : Room k (A.deeper (lamEnv X scope s.heap.objs.size f c'))) : PE (lamN X A outer s H0 E scope f c') body (tBody C.G C.N scope k body E) := by
  refine ⟨fun pins s1 σ H Q I h => ?_⟩
  obtain ⟨T, ρ, kd, kx, ex, tf, len, no, dat, w, q1, q2⟩ := h
  have hx : ∀ c (σ : L2.St) T' H', Step mv0 T H T' H' → Ex T' H' → kx c → (fun (cls : Value) (d : Option Addr) (_ : L2.St) (H : Hp) => E cls d H) c none σ H' := fun c σ T' H' st e kc => q2 c T' H' st e kc
  have FX : Fx (lamC C.G C.N scope k (fun cls d _ H => E cls d H) T H kx hx) (lamN X A outer s H0 E scope f c') :=
    { prog := F.prog, wld := F.wld, K := F.K, mg := F.mg, base := F.base, N := F.N, sc := rfl, nd := F.nd, calm := rfl, room := hr, tk := L2N.takes_of rfl rfl rfl rfl, fn := fun h => Bool.noConfusion h, own := fun h => Bool.noConfusion h, cq := trivial }
  have ST : DSt (lamC C.G C.N scope k (fun cls d _ H => E cls d H) T H kx hx) σ T H ρ :=
    ⟨ex, Step.refl, trivial, (fun w h => nomatch h), (fun a h => nomatch h), tf, ⟨len, dat, fun i s h ho => absurd ho (no i s h), fun i j s u p _ h _ ho _ => absurd ho (no i s h)⟩⟩
  exact (w _ T H hx _ FX σ T H Q ST (fun v d T' H' S' st iv kv => q1 v d T' H' (st.weak fun a o z => z.elim (fun q => nomatch q) fun q => q.1.elim) S'.ex iv kv)).run pins s1 I
/-- tables only -/
theorem Step.ofN {C : DC} {T H H1 : Hp} (tb : C.tb) (e : ExtN H H1) : Step C.mv T H T H1 := ⟨Ex.refl T, fun a o h n => e a o h fun ps z => n (.inr ⟨tb, ps, z⟩), fun _ _ _ _ => rfl, fun a o h n => ⟨o, e a o h n, n⟩, fun _ _ h => h⟩
structure LamCtx (C : DC) (c P : Addr) (q : Str) : Prop where
  tb : C.tb
  jv : C.jv = Tabs [(P, q ++ "<lambda>")]
  code : ∀ env, C.cq env → env.code = .ref c ∧ env.qual = q
  TB : TabB C.G.base C.G.mg c P
structure CallFacts (G : Gm) : Prop where
  at_ : At G "_law_call" s_l_call ["_law_call_so"]
  c1 : ∃ C1, G.mg "TooMany" = some (.ref C1)
  c2 : ∃ C2, G.mg "InvalidText" = some (.ref C2)
  c3 : ∃ C3, G.mg "TreeError" = some (.ref C3)
  kinds : ∃ (f : Addr) (fd : FuncData), G.mg "_law_kinds" = some (.ref f) ∧ PySem.W.keepIn G.K (.ref f) = true ∧ Binds G.K fd ["_law_e"] [] ∧ FnP G.P G.w G.K G.mg G.base (L2N.CX G.P G.w) 1 f fd ["_law_e"] (spKinds G)
section
variable {C : DC} {ρ : DEnv} {rest : List Stmt} {D : DEnds} {c P : Addr} {q : Str}
theorem sd_lam {Cl : Addr} {bs : List Bool} {txt : Str} {params : Arguments} {body : Expr} {scope : Scope} {k j : Nat} {p lpos p1 p2 p3 pos ipos : Pos} {sts : List Stmt} (k2 : k + 2 ≤ C.r) (L : LamCtx C c P q) (CF : CallFacts C.G) (ok : CallOk C.G Cl bs) (ht : kindsText bs = txt) (hsm : sm 7 (.str txt) = true)
    (hb : ∀ W T0 H0 hx, WD (lamC C.G C.N scope k W T0 H0 (fun v => v = .ref Cl) hx) body (noOwn ρ) fun _ => False) (hrest : SD C rest ρ D) (hg : Gv C.sc "_law_call" := by assumption)
    (hL : lamSB C.sc scope = true := by decide +kernel) (hdef : ∀ env : Env, defaultsOf params env = ([], []) := by intro _; rfl)
    (hbind : ∀ (q : Str) (cl : List (Str × Addr)) (pm cv ctv : Value), bindArgs (PySem.W.kla_fn "<lambda>" q params body scope cl pm cv ctv) ⟨[], []⟩ = pure [] := by intro _ _ _ _ _; rfl) :
    SD C (.If (.Compare (.Call (.Name "_law_call" p) [.Lambda params body scope lpos] [] p1) [.NotEq] [.Tuple [.Constant (.str txt) j p2] 0 p3] pos) sts [] ipos :: rest) ρ D := by
  refine sd_no (z := false) ?_ rfl hrest
  intro X F σ T H Q S qq
  obtain ⟨g, fd, Fg, hm, hbi⟩ := CF.at_
  obtain ⟨C1, h1⟩ := CF.c1
  obtain ⟨C2, h2⟩ := CF.c2
  obtain ⟨C3, h3⟩ := CF.c3
  obtain ⟨hcode, hqual⟩ := L.code _ F.cq
  have hlam : PE X (.Call (.Name "_law_call" p) [.Lambda params body scope lpos] [] p1) (tLam [(P, X.env.qual ++ "<lambda>")] (TCall C.G) (tBody C.G C.N scope k body)) :=
    pe_lamN (gl_of F hg.h) (by rw [F.mg]; exact hm) (by rw [F.K]; exact Fg) (by rw [F.K]; exact hbi) sc_l_call rfl (.inl rfl)
      (fun cdg => gives_call F.prog F.wld F.K F.mg F.base h1 h2 h3 CF.kinds g cdg (by omega))
      (by rw [F.base, F.mg]; exact L.TB) hcode (List.mem_singleton.mpr rfl) (fun p hp _ => by rw [List.mem_singleton.mp hp]) (F.room.mono k2) (by
        have z := lamS_by hL
        rw [← F.sc] at z
        exact z) (hdef _) hbind (fun A outer s H E f c' hr => pe_body F hr) hg.h1 (by decide) (by decide)
  refine wt_of (pt_cmpR (op_neD (units64 F)) hlam pe_we (nomark _)) ?_
  have jv : Tabs [(P, X.env.qual ++ "<lambda>")] H := by
    have z := S.jv
    rw [L.jv, ← hqual] at z
    exact z
  refine ⟨jv, fun H1 e1 t1 E Q' hE _ => ?_⟩
  have exT1 : Ex T H1 := fun a o h => e1 a o (S.ex a o h) fun ps z => S.tf a ps (by rw [h, z])
  have st1 : Step C.mv T H T H1 := Step.ofN L.tb e1
  have S1 : DSt C σ T H1 ρ := S.go exT1 st1 (by rw [L.jv, ← hqual]; exact t1) fun w hw => by
    obtain ⟨a, b, z⟩ := S.wd w hw
    exact ⟨a, b, e1 _ _ z fun ps y => nomatch y⟩
  refine ⟨T, noOwn ρ, fun _ => False, fun v => v = .ref Cl, exT1, S.tf, ?_, fun i s h => (noOwn_at h).2, fun i x h => S.env.dat i x (noOwn_at h).1, hb, fun _ _ _ _ _ _ _ z => z.elim, fun cc T' H' st ex' hc => hE _ _ _ ⟨Cl, bs, hc, rfl, ok, fun t H2 ex2 ht2 => ?_⟩⟩
  · unfold noOwn
    rw [List.length_map]
    exact S.env.len
  · have S2 : DSt C σ T' H' ρ := S1.go0 ex' st
    have st2 : Step mv0 T' H' T' H2 := ⟨Ex.refl _, fun a o h _ => ex2 a o h, fun _ _ _ _ => rfl, fun a o h n => ⟨o, ex2 a o h, n⟩, fun _ _ h => h⟩
    have S3 : DSt C σ T' H2 ρ := S2.go0 (ex'.trans ex2) st2
    refine (show ED C (.Tuple [.Constant (.str txt) j p2] 0 p3) ρ (.tup [.str txt]) from ed_tup (ea_cons ed_str ea_nil)) X F σ T' H2 _ S3 fun w d T3 H3 S4 st3 iw kw => ?_
    subst kw
    have key : H3 t = some (.tup [.str (kindsText bs)]) := st3.k t _ ht2 fun z => z.elim (fun hw => by
      obtain ⟨a, b, y⟩ := S3.wd t hw
      rw [ht2] at y
      cases y) fun ⟨_, ps, y⟩ => nomatch y
    subst ht
    show rNeD X.K _ _ _ _
    rw [F.K]
    have hs2 : sm 8 (.tup [.str (kindsText bs)]) = true := by
      show (sm 7 (.str (kindsText bs)) && true) = true
      rw [hsm]
      rfl
    have D1 : Dp C.G.K H3 (.ref t) (toP (.tup [.str (kindsText bs)])) := by
      simp only [toP, toPs]
      exact .tup (st_of key) (.cons (.str _) .nil)
    refine ⟨_, _, D1, iw.dp S4.ex hs2, sm_shaped hs2 (by decide), sm_shaped hs2 (by decide), false, ?_, qq false T3 H3 S4 ((((st1.trans st.up).trans st2.up)).trans st3) rfl⟩
    rw [sm_eqv _ _ 8 8 hs2 hs2, deq_eq, decide_eq_true rfl]
    rfl
end
end FT

end
section
/-! What the head tells: defs, classes, constants. -/
namespace FT
open PySem PySem.Spec PyProof.Rows L2 DL HX LamX
structure DefK (K : PySem.W.Frag) (x : Str) (st : Stmt) (cd : Value) : Prop where
  ex : ∃ (f : Addr) (oc : Value) (od : Option Addr) (kV dc pm : Value) (an : Option Addr) (ct : Value) (osl : Array (Option Value)), PySem.W.nsIn K mainGlobals x = some (some (.ref f)) ∧ K.lookup f = some ⟨oc, od, .func (PySem.W.fnOf x x (defArgs st) (defBody st) (defScope st) .none kV dc pm an cd ct), osl⟩ ∧ PySem.W.codeIn K cd x = true ∧ PySem.W.keepIn K (.ref f) = true
theorem defK {K : PySem.W.Frag} {x : Str} {st : Stmt} {cd : Value} {f : Addr} {oc : Value} {od : Option Addr} {kV dc pm : Value} {an : Option Addr} {ct : Value} {osl : Array (Option Value)} (a : PySem.W.nsIn K mainGlobals x = some (some (.ref f))) (l : K.lookup f = some ⟨oc, od, .func (PySem.W.fnOf x x (defArgs st) (defBody st) (defScope st) .none kV dc pm an cd ct), osl⟩) (c : PySem.W.codeIn K cd x = true) (k : PySem.W.keepIn K (.ref f) = true) : DefK K x st cd := ⟨f, oc, od, kV, dc, pm, an, ct, osl, a, l, c, k⟩
theorem defKE {K : PySem.W.Frag} {x : Str} {st : Stmt} {cd : Value} {f : Addr} {oc : Value} {od : Option Addr} {kV dc pm : Value} {an : Option Addr} {ct : Value} {osl : Array (Option Value)} (a : PySem.W.nsIn K mainGlobals x = some (some (.ref f))) (l : K.lookup f = some ⟨oc, od, .func (PySem.W.fnOf x x (defArgs st) (defBody st) (defScope st) .none kV dc pm an cd ct), osl⟩) (c : PySem.W.codeIn K cd x = true) (k : PySem.W.keepIn K (.ref f) = true) : ∃ cd, DefK K x st cd := ⟨cd, f, oc, od, kV, dc, pm, an, ct, osl, a, l, c, k⟩
section
variable {G : Gm} {h : Heap} {x : Str} {st : Stmt} {cd : Value}
theorem DefK.at (X : G.K.In h) (N : h.Ns mainGlobals G.mg) (D : DefK G.K x st cd) (ps : List Str) (hb : ∀ (kV doc pm : Value) (an : Option Addr) (cdv ct : Value) (us : List Value), us.length = ps.length → bindArgs (PySem.W.fnOf x x (defArgs st) (defBody st) (defScope st) .none kV doc pm an cdv ct) ⟨us, []⟩ = pure (ps.zip us)) : At G x st ps := by
  obtain ⟨f, oc, od, kV, dc, pm, an, ct, osl, a, l, c, k⟩ := D.ex
  have F := fun_mk l c k
  exact ⟨f, _, F, PySem.W.mg_of X N a, F.binds hb⟩
theorem mgE {K : PySem.W.Frag} {mg : Str → Option Value} {v : Value} (X : K.In h) (N : h.Ns mainGlobals mg) (a : PySem.W.nsIn K mainGlobals x = some (some v)) : mg x = some v := PySem.W.mg_of X N a
theorem mg0 {K : PySem.W.Frag} {mg : Str → Option Value} (X : K.In h) (N : h.Ns mainGlobals mg) (a : PySem.W.nsIn K mainGlobals x = some none) : mg x = none := PySem.W.mg_none_of X N a
/-- an own exception class: what the head tells -/
structure ExcK (K : PySem.W.Frag) (x : Str) (Cl : Addr) : Prop where
  g : PySem.W.nsIn K mainGlobals x = some (some (.ref Cl))
  q : PySem.W.excIn K Cl [.type "ValueError", .type "Exception", .type "BaseException", .type "object"] "ValueError.__new__" = true
  k : PySem.W.keepIn K (.ref Cl) = true
  b : PySem.W.subIn K (.ref Cl) (.type "BaseException") = some true
  t : PySem.W.typeIn K (.ref Cl) = some (.type "type")
theorem ExcK.f {Cl : Addr} (X : G.K.In h) (N : h.Ns mainGlobals G.mg) (E : ExcK G.K x Cl) : ExcF G x Cl := ⟨mgE X N E.g, E.q, E.k, E.b, E.t⟩
theorem ktup_mk {ss : List Str} {a : Addr} {o : Obj} {its : Array Value} {n : Nat} (X : G.K.In h) (N : h.Ns mainGlobals G.mg) (g : PySem.W.nsIn G.K mainGlobals x = some (some (.ref a))) (l : G.K.lookup a = some o) (c : o.cls = .type "tuple") (d : o.data = .seq its n) (z : its.size ≤ sizeLine) (v : Vals (ss.map V.str) its.toList) : KTup G x ss := ⟨a, o, its, n, mgE X N g, l, c, d, z, v⟩
theorem cls_mk {D C : Addr} {b : Bool} (X : G.K.In h) (N : h.Ns mainGlobals G.mg) (g : PySem.W.nsIn G.K mainGlobals x = some (some (.ref C))) (k : PySem.W.kitOne G.K (.ref D) (.ref C) = some b) : ClsB G.K G.mg D x b := ⟨.ref C, .ref C, .inl (mgE X N g), rfl, fun _ r => r, k⟩
theorem cls_mkV {D : Addr} {b : Bool} (X : G.K.In h) (N : h.Ns mainGlobals G.mg) (g : PySem.W.nsIn G.K mainGlobals ("ValueError" : Str) = some none) (k : PySem.W.kitOne G.K (.ref D) (.type "ValueError") = some b) : ClsB G.K G.mg D "ValueError" b := ⟨.ty "ValueError", .type "ValueError", .inr ⟨mg0 X N g, by decide +kernel, by decide⟩, rfl, fun _ r => r, k⟩
/-- all classes of errors: where they stand, what the one at D stands below -/
structure ClsK (K : PySem.W.Frag) (D : Addr) (bs : List Bool) (TE C1 C2 : Addr) : Prop where
  exc : ExcC K D
  own : ∀ (i : Nat) (n : Str) (b : Bool), kindNames[i]? = some n → i < 12 → bs[i]? = some b → ∃ C, PySem.W.nsIn K mainGlobals n = some (some (.ref C)) ∧ PySem.W.kitOne K (.ref D) (.ref C) = some b
  val : PySem.W.nsIn K mainGlobals ("ValueError" : Str) = some none ∧ PySem.W.kitOne K (.ref D) (.type "ValueError") = some true
  len : bs.length = 13 ∧ bs[12]? = some true
  t1 : PySem.W.nsIn K mainGlobals ("TooMany" : Str) = some (some (.ref C1)) ∧ PySem.W.exmOne K (.ref D) (.ref C1) = some false
  t2 : PySem.W.nsIn K mainGlobals ("InvalidText" : Str) = some (some (.ref C2)) ∧ PySem.W.exmOne K (.ref D) (.ref C2) = some false
  t3 : PySem.W.nsIn K mainGlobals ("TreeError" : Str) = some (some (.ref TE)) ∧ PySem.W.exmOne K (.ref D) (.ref TE) = some true
theorem ClsK.ok {D TE C1 C2 : Addr} {bs : List Bool} (X : G.K.In h) (N : h.Ns mainGlobals G.mg) (c : ClsK G.K D bs TE C1 C2) : CallOk G D bs := by
  refine ⟨⟨c.exc, fun i n b hn hb => ?_, c.len.1⟩, ⟨_, mgE X N c.t1.1, c.t1.2⟩, ⟨_, mgE X N c.t2.1, c.t2.2⟩, ⟨_, mgE X N c.t3.1, c.t3.2⟩⟩
  by_cases hi : i < 12
  · obtain ⟨C, g, k⟩ := c.own i n b hn hi hb
    exact cls_mk X N g k
  · have hi2 : i < 13 := (List.getElem?_eq_some_iff.mp hn).1
    have e : i = 12 := by omega
    subst e
    cases hn
    rw [c.len.2] at hb
    cases hb
    exact cls_mkV X N c.val.1 c.val.2
theorem own_12 {K : PySem.W.Frag} {D : Addr} {b0 b1 b2 b3 b4 b5 b6 b7 b8 b9 b10 b11 b12 : Bool} {c0 c1 c2 c3 c4 c5 c6 c7 c8 c9 c10 c11 : Addr}
    (g0 : PySem.W.nsIn K mainGlobals ("Fallen" : Str) = some (some (.ref c0))) (g1 : PySem.W.nsIn K mainGlobals ("InvalidNumber" : Str) = some (some (.ref c1))) (g2 : PySem.W.nsIn K mainGlobals ("InvalidPlace" : Str) = some (some (.ref c2))) (g3 : PySem.W.nsIn K mainGlobals ("InvalidScript" : Str) = some (some (.ref c3))) (g4 : PySem.W.nsIn K mainGlobals ("InvalidSeen" : Str) = some (some (.ref c4))) (g5 : PySem.W.nsIn K mainGlobals ("InvalidText" : Str) = some (some (.ref c5)))
    (g6 : PySem.W.nsIn K mainGlobals ("InvalidTree" : Str) = some (some (.ref c6))) (g7 : PySem.W.nsIn K mainGlobals ("InvalidWays" : Str) = some (some (.ref c7))) (g8 : PySem.W.nsIn K mainGlobals ("InvalidWord" : Str) = some (some (.ref c8))) (g9 : PySem.W.nsIn K mainGlobals ("NothingToUndo" : Str) = some (some (.ref c9))) (g10 : PySem.W.nsIn K mainGlobals ("TooMany" : Str) = some (some (.ref c10))) (g11 : PySem.W.nsIn K mainGlobals ("Unlike" : Str) = some (some (.ref c11)))
    (k0 : PySem.W.kitOne K (.ref D) (.ref c0) = some b0) (k1 : PySem.W.kitOne K (.ref D) (.ref c1) = some b1) (k2 : PySem.W.kitOne K (.ref D) (.ref c2) = some b2) (k3 : PySem.W.kitOne K (.ref D) (.ref c3) = some b3) (k4 : PySem.W.kitOne K (.ref D) (.ref c4) = some b4) (k5 : PySem.W.kitOne K (.ref D) (.ref c5) = some b5) (k6 : PySem.W.kitOne K (.ref D) (.ref c6) = some b6) (k7 : PySem.W.kitOne K (.ref D) (.ref c7) = some b7) (k8 : PySem.W.kitOne K (.ref D) (.ref c8) = some b8) (k9 : PySem.W.kitOne K (.ref D) (.ref c9) = some b9) (k10 : PySem.W.kitOne K (.ref D) (.ref c10) = some b10) (k11 : PySem.W.kitOne K (.ref D) (.ref c11) = some b11) :
    ∀ (i : Nat) (n : Str) (b : Bool), kindNames[i]? = some n → i < 12 → ([b0, b1, b2, b3, b4, b5, b6, b7, b8, b9, b10, b11, b12] : List Bool)[i]? = some b → ∃ C, PySem.W.nsIn K mainGlobals n = some (some (.ref C)) ∧ PySem.W.kitOne K (.ref D) (.ref C) = some b := by
  intro i n b hn hi hb
  match i, hi with
  | 0, _ => cases hn; cases hb; exact ⟨_, g0, k0⟩
  | 1, _ => cases hn; cases hb; exact ⟨_, g1, k1⟩
  | 2, _ => cases hn; cases hb; exact ⟨_, g2, k2⟩
  | 3, _ => cases hn; cases hb; exact ⟨_, g3, k3⟩
  | 4, _ => cases hn; cases hb; exact ⟨_, g4, k4⟩
  | 5, _ => cases hn; cases hb; exact ⟨_, g5, k5⟩
  | 6, _ => cases hn; cases hb; exact ⟨_, g6, k6⟩
  | 7, _ => cases hn; cases hb; exact ⟨_, g7, k7⟩
  | 8, _ => cases hn; cases hb; exact ⟨_, g8, k8⟩
  | 9, _ => cases hn; cases hb; exact ⟨_, g9, k9⟩
  | 10, _ => cases hn; cases hb; exact ⟨_, g10, k10⟩
  | 11, _ => cases hn; cases hb; exact ⟨_, g11, k11⟩
theorem callFacts_mk {D TE C1 C2 : Addr} {bs : List Bool} (X : G.K.In h) (N : h.Ns mainGlobals G.mg) (c : ClsK G.K D bs TE C1 C2) (a : At G "_law_call" s_l_call ["_law_call_so"]) (k : At G "_law_kinds" s_l_kinds ["_law_e"]) (hi : G.mg "isinstance" = none) (hz : G.mg "zip" = none) : CallFacts G := ⟨a, ⟨_, mgE X N c.t1.1⟩, ⟨_, mgE X N c.t2.1⟩, ⟨_, mgE X N c.t3.1⟩, ok_l_kinds k hi hz⟩
structure BltK (K : PySem.W.Frag) : Prop where
  len : PySem.W.nsIn K mainGlobals ("len" : Str) = some none
  range : PySem.W.nsIn K mainGlobals ("range" : Str) = some none
  isinstance : PySem.W.nsIn K mainGlobals ("isinstance" : Str) = some none
  int : PySem.W.nsIn K mainGlobals ("int" : Str) = some none
  bool : PySem.W.nsIn K mainGlobals ("bool" : Str) = some none
  str : PySem.W.nsIn K mainGlobals ("str" : Str) = some none
  tuple : PySem.W.nsIn K mainGlobals ("tuple" : Str) = some none
  list : PySem.W.nsIn K mainGlobals ("list" : Str) = some none
  all : PySem.W.nsIn K mainGlobals ("all" : Str) = some none
  abs : PySem.W.nsIn K mainGlobals ("abs" : Str) = some none
  min : PySem.W.nsIn K mainGlobals ("min" : Str) = some none
  max : PySem.W.nsIn K mainGlobals ("max" : Str) = some none
  zip : PySem.W.nsIn K mainGlobals ("zip" : Str) = some none
theorem BltK.b (X : G.K.In h) (N : h.Ns mainGlobals G.mg) (b : BltK G.K) : Blt G := ⟨mg0 X N b.len, mg0 X N b.range, mg0 X N b.isinstance, mg0 X N b.int, mg0 X N b.bool, mg0 X N b.str, mg0 X N b.tuple, mg0 X N b.list, mg0 X N b.all, mg0 X N b.abs, mg0 X N b.min, mg0 X N b.max⟩
end
end FT

end
section
namespace FT
open PySem PySem.Spec PyProof.Rows L2 DL HX LamX
structure DefsK (K : PySem.W.Frag) (c : Addr) : Prop where
  d_is_int : ∃ cd, DefK K "is_int" s_is_int cd
  d_power : ∃ cd, DefK K "power" s_power cd
  d_is_step : ∃ cd, DefK K "is_step" s_is_step cd
  d_are_steps : ∃ cd, DefK K "are_steps" s_are_steps cd
  d_need_ways : ∃ cd, DefK K "need_ways" s_need_ways cd
  d_need_script : ∃ cd, DefK K "need_script" s_need_script cd
  d_step_to : ∃ cd, DefK K "step_to" s_step_to cd
  d_all_levels : ∃ cd, DefK K "all_levels" s_all_levels cd
  d_mark_of : ∃ cd, DefK K "mark_of" s_mark_of cd
  d_marks_of : ∃ cd, DefK K "marks_of" s_marks_of cd
  d_need_seen : ∃ cd, DefK K "need_seen" s_need_seen cd
  d_fitting : ∃ cd, DefK K "fitting" s_fitting cd
  d_depths_told : ∃ cd, DefK K "depths_told" s_depths_told cd
  d_levels_told : ∃ cd, DefK K "levels_told" s_levels_told cd
  d_l_wood : ∃ cd, DefK K "_law_wood" s_l_wood cd
  d_l_twig : ∃ cd, DefK K "_law_twig" s_l_twig cd
  d_l_any : ∃ cd, DefK K "_law_any" s_l_any cd
  d_l_one_step : ∃ cd, DefK K "_law_one_step" s_l_one_step cd
  d_l_steps : ∃ cd, DefK K "_law_steps" s_l_steps cd
  d_l_figures : ∃ cd, DefK K "_law_figures" s_l_figures cd
  d_l_by_figures : ∃ cd, DefK K "_law_by_figures" s_l_by_figures cd
  d_l_moved : ∃ cd, DefK K "_law_moved" s_l_moved cd
  d_l_step_so : ∃ cd, DefK K "_law_step_so" s_l_step_so cd
  d_l_out : ∃ cd, DefK K "_law_out" s_l_out cd
  d_l_kinds : ∃ cd, DefK K "_law_kinds" s_l_kinds cd
  d_l_call : ∃ cd, DefK K "_law_call" s_l_call cd
  d_l_marks : ∃ cd, DefK K "_law_marks" s_l_marks cd
  d_l_due : ∃ cd, DefK K "_law_due" s_l_due cd
  d_l_right : ∃ cd, DefK K "_law_right" s_l_right cd
  d_law : DefK K "law" s_law (.ref c)
section
variable {G : Gm} {h : Heap} {c : Addr}
theorem at_is_int (X : G.K.In h) (N : h.Ns mainGlobals G.mg) (D : DefsK G.K c) : At G "is_int" s_is_int ["value", "low", "high"] := by
  obtain ⟨_, d⟩ := D.d_is_int
  exact d.at X N _ fun _ _ _ _ _ _ us hl => match us, hl with | [_, _, _], _ => rfl
theorem at_power (X : G.K.In h) (N : h.Ns mainGlobals G.mg) (D : DefsK G.K c) : At G "power" s_power ["base", "many"] := by
  obtain ⟨_, d⟩ := D.d_power
  exact d.at X N _ fun _ _ _ _ _ _ us hl => match us, hl with | [_, _], _ => rfl
theorem at_is_step (X : G.K.In h) (N : h.Ns mainGlobals G.mg) (D : DefsK G.K c) : At G "is_step" s_is_step ["ways", "value"] := by
  obtain ⟨_, d⟩ := D.d_is_step
  exact d.at X N _ fun _ _ _ _ _ _ us hl => match us, hl with | [_, _], _ => rfl
theorem at_are_steps (X : G.K.In h) (N : h.Ns mainGlobals G.mg) (D : DefsK G.K c) : At G "are_steps" s_are_steps ["ways", "value", "most"] := by
  obtain ⟨_, d⟩ := D.d_are_steps
  exact d.at X N _ fun _ _ _ _ _ _ us hl => match us, hl with | [_, _, _], _ => rfl
theorem at_need_ways (X : G.K.In h) (N : h.Ns mainGlobals G.mg) (D : DefsK G.K c) : At G "need_ways" s_need_ways ["ways"] := by
  obtain ⟨_, d⟩ := D.d_need_ways
  exact d.at X N _ fun _ _ _ _ _ _ us hl => match us, hl with | [_], _ => rfl
theorem at_need_script (X : G.K.In h) (N : h.Ns mainGlobals G.mg) (D : DefsK G.K c) : At G "need_script" s_need_script ["ways", "script"] := by
  obtain ⟨_, d⟩ := D.d_need_script
  exact d.at X N _ fun _ _ _ _ _ _ us hl => match us, hl with | [_, _], _ => rfl
theorem at_step_to (X : G.K.In h) (N : h.Ns mainGlobals G.mg) (D : DefsK G.K c) : At G "step_to" s_step_to ["tree", "step", "place"] := by
  obtain ⟨_, d⟩ := D.d_step_to
  exact d.at X N _ fun _ _ _ _ _ _ us hl => match us, hl with | [_, _, _], _ => rfl
theorem at_all_levels (X : G.K.In h) (N : h.Ns mainGlobals G.mg) (D : DefsK G.K c) : At G "all_levels" s_all_levels ["most"] := by
  obtain ⟨_, d⟩ := D.d_all_levels
  exact d.at X N _ fun _ _ _ _ _ _ us hl => match us, hl with | [_], _ => rfl
theorem at_mark_of (X : G.K.In h) (N : h.Ns mainGlobals G.mg) (D : DefsK G.K c) : At G "mark_of" s_mark_of ["tree", "place"] := by
  obtain ⟨_, d⟩ := D.d_mark_of
  exact d.at X N _ fun _ _ _ _ _ _ us hl => match us, hl with | [_, _], _ => rfl
theorem at_marks_of (X : G.K.In h) (N : h.Ns mainGlobals G.mg) (D : DefsK G.K c) : At G "marks_of" s_marks_of ["tree", "script", "level"] := by
  obtain ⟨_, d⟩ := D.d_marks_of
  exact d.at X N _ fun _ _ _ _ _ _ us hl => match us, hl with | [_, _, _], _ => rfl
theorem at_need_seen (X : G.K.In h) (N : h.Ns mainGlobals G.mg) (D : DefsK G.K c) : At G "need_seen" s_need_seen ["script", "seen"] := by
  obtain ⟨_, d⟩ := D.d_need_seen
  exact d.at X N _ fun _ _ _ _ _ _ us hl => match us, hl with | [_, _], _ => rfl
theorem at_fitting (X : G.K.In h) (N : h.Ns mainGlobals G.mg) (D : DefsK G.K c) : At G "fitting" s_fitting ["ways", "script", "seen"] := by
  obtain ⟨_, d⟩ := D.d_fitting
  exact d.at X N _ fun _ _ _ _ _ _ us hl => match us, hl with | [_, _, _], _ => rfl
theorem at_depths_told (X : G.K.In h) (N : h.Ns mainGlobals G.mg) (D : DefsK G.K c) : At G "depths_told" s_depths_told ["ways", "script", "seen"] := by
  obtain ⟨_, d⟩ := D.d_depths_told
  exact d.at X N _ fun _ _ _ _ _ _ us hl => match us, hl with | [_, _, _], _ => rfl
theorem at_levels_told (X : G.K.In h) (N : h.Ns mainGlobals G.mg) (D : DefsK G.K c) : At G "levels_told" s_levels_told ["ways", "script", "seen"] := by
  obtain ⟨_, d⟩ := D.d_levels_told
  exact d.at X N _ fun _ _ _ _ _ _ us hl => match us, hl with | [_, _, _], _ => rfl
theorem at_l_wood (X : G.K.In h) (N : h.Ns mainGlobals G.mg) (D : DefsK G.K c) : At G "_law_wood" s_l_wood ["_law_script", "_law_k"] := by
  obtain ⟨_, d⟩ := D.d_l_wood
  exact d.at X N _ fun _ _ _ _ _ _ us hl => match us, hl with | [_, _], _ => rfl
theorem at_l_twig (X : G.K.In h) (N : h.Ns mainGlobals G.mg) (D : DefsK G.K c) : At G "_law_twig" s_l_twig ["_law_wood_here", "_law_many"] := by
  obtain ⟨_, d⟩ := D.d_l_twig
  exact d.at X N _ fun _ _ _ _ _ _ us hl => match us, hl with | [_, _], _ => rfl
theorem at_l_any (X : G.K.In h) (N : h.Ns mainGlobals G.mg) (D : DefsK G.K c) : At G "_law_any" s_l_any ["_law_wood_here", "_law_things"] := by
  obtain ⟨_, d⟩ := D.d_l_any
  exact d.at X N _ fun _ _ _ _ _ _ us hl => match us, hl with | [_, _], _ => rfl
theorem at_l_one_step (X : G.K.In h) (N : h.Ns mainGlobals G.mg) (D : DefsK G.K c) : At G "_law_one_step" s_l_one_step ["_law_wood_here", "_law_ways"] := by
  obtain ⟨_, d⟩ := D.d_l_one_step
  exact d.at X N _ fun _ _ _ _ _ _ us hl => match us, hl with | [_, _], _ => rfl
theorem at_l_steps (X : G.K.In h) (N : h.Ns mainGlobals G.mg) (D : DefsK G.K c) : At G "_law_steps" s_l_steps ["_law_wood_here", "_law_ways", "_law_most"] := by
  obtain ⟨_, d⟩ := D.d_l_steps
  exact d.at X N _ fun _ _ _ _ _ _ us hl => match us, hl with | [_, _, _], _ => rfl
theorem at_l_figures (X : G.K.In h) (N : h.Ns mainGlobals G.mg) (D : DefsK G.K c) : At G "_law_figures" s_l_figures ["_law_ways", "_law_spot"] := by
  obtain ⟨_, d⟩ := D.d_l_figures
  exact d.at X N _ fun _ _ _ _ _ _ us hl => match us, hl with | [_, _], _ => rfl
theorem at_l_by_figures (X : G.K.In h) (N : h.Ns mainGlobals G.mg) (D : DefsK G.K c) : At G "_law_by_figures" s_l_by_figures ["_law_ways", "_law_figures_here"] := by
  obtain ⟨_, d⟩ := D.d_l_by_figures
  exact d.at X N _ fun _ _ _ _ _ _ us hl => match us, hl with | [_, _], _ => rfl
theorem at_l_moved (X : G.K.In h) (N : h.Ns mainGlobals G.mg) (D : DefsK G.K c) : At G "_law_moved" s_l_moved ["_law_ways", "_law_figures_here", "_law_more"] := by
  obtain ⟨_, d⟩ := D.d_l_moved
  exact d.at X N _ fun _ _ _ _ _ _ us hl => match us, hl with | [_, _, _], _ => rfl
theorem at_l_step_so (X : G.K.In h) (N : h.Ns mainGlobals G.mg) (D : DefsK G.K c) : At G "_law_step_so" s_l_step_so ["_law_tree", "_law_step", "_law_figures_here"] := by
  obtain ⟨_, d⟩ := D.d_l_step_so
  exact d.at X N _ fun _ _ _ _ _ _ us hl => match us, hl with | [_, _, _], _ => rfl
theorem at_l_out (X : G.K.In h) (N : h.Ns mainGlobals G.mg) (D : DefsK G.K c) : At G "_law_out" s_l_out ["_law_tree", "_law_steps_so", "_law_spot"] := by
  obtain ⟨_, d⟩ := D.d_l_out
  exact d.at X N _ fun _ _ _ _ _ _ us hl => match us, hl with | [_, _, _], _ => rfl
theorem at_l_kinds (X : G.K.In h) (N : h.Ns mainGlobals G.mg) (D : DefsK G.K c) : At G "_law_kinds" s_l_kinds ["_law_e"] := by
  obtain ⟨_, d⟩ := D.d_l_kinds
  exact d.at X N _ fun _ _ _ _ _ _ us hl => match us, hl with | [_], _ => rfl
theorem at_l_call (X : G.K.In h) (N : h.Ns mainGlobals G.mg) (D : DefsK G.K c) : At G "_law_call" s_l_call ["_law_call_so"] := by
  obtain ⟨_, d⟩ := D.d_l_call
  exact d.at X N _ fun _ _ _ _ _ _ us hl => match us, hl with | [_], _ => rfl
theorem at_l_marks (X : G.K.In h) (N : h.Ns mainGlobals G.mg) (D : DefsK G.K c) : At G "_law_marks" s_l_marks ["_law_ways", "_law_depth", "_law_steps_so", "_law_level"] := by
  obtain ⟨_, d⟩ := D.d_l_marks
  exact d.at X N _ fun _ _ _ _ _ _ us hl => match us, hl with | [_, _, _, _], _ => rfl
theorem at_l_due (X : G.K.In h) (N : h.Ns mainGlobals G.mg) (D : DefsK G.K c) : At G "_law_due" s_l_due ["_law_ways", "_law_steps_so", "_law_seen"] := by
  obtain ⟨_, d⟩ := D.d_l_due
  exact d.at X N _ fun _ _ _ _ _ _ us hl => match us, hl with | [_, _, _], _ => rfl
theorem at_l_right (X : G.K.In h) (N : h.Ns mainGlobals G.mg) (D : DefsK G.K c) : At G "_law_right" s_l_right ["_law_ways", "_law_steps_so", "_law_seen"] := by
  obtain ⟨_, d⟩ := D.d_l_right
  exact d.at X N _ fun _ _ _ _ _ _ us hl => match us, hl with | [_, _, _], _ => rfl
end
end FT

end
section
namespace FT
open PySem PySem.Spec PyProof.Rows L2 Evl DL
/-! ### levels -/
def lvRow (m d : Nat) : List (Nat × Nat) := ((List.range (d + 1)).filter fun l => decide (l ≤ m) && decide (d - l ≤ m)).map fun l => (d, l)
theorem allLv_eq (m : Nat) : allLv m = (List.range (2 * m + 1)).flatMap (lvRow m) := rfl
theorem lvRow_len (m d : Nat) : (lvRow m d).length ≤ d + 1 := by
  unfold lvRow
  rw [List.length_map]
  have := List.length_filter_le (fun l => decide (l ≤ m) && decide (d - l ≤ m)) (List.range (d + 1))
  rw [List.length_range] at this
  exact this
theorem flat_len (m : Nat) : ∀ n, n ≤ 50 → ((List.range n).flatMap (lvRow m)).length ≤ n * 50
  | 0, _ => by simp
  | n + 1, h => by
    rw [List.range_succ, List.flatMap_append, List.length_append, List.flatMap_cons, List.flatMap_nil, List.append_nil]
    have a := flat_len m n (by omega)
    have b := lvRow_len m n
    omega
theorem allLv_mem {m d l : Nat} : (d, l) ∈ allLv m ↔ l ≤ d ∧ l ≤ m ∧ d - l ≤ m := by
  rw [allLv_eq, List.mem_flatMap]
  constructor
  · rintro ⟨d', h1, h2⟩
    unfold lvRow at h2
    obtain ⟨l', h3, h4⟩ := List.mem_map.mp h2
    cases h4
    obtain ⟨h5, h6⟩ := List.mem_filter.mp h3
    rw [Bool.and_eq_true, decide_eq_true_iff, decide_eq_true_iff] at h6
    have h5 := List.mem_range.mp h5
    omega
  · rintro ⟨h1, h2, h3⟩
    refine ⟨d, List.mem_range.mpr (by omega), ?_⟩
    unfold lvRow
    refine List.mem_map.mpr ⟨l, List.mem_filter.mpr ⟨List.mem_range.mpr (by omega), ?_⟩, rfl⟩
    rw [decide_eq_true h2, decide_eq_true h3]
    rfl
theorem treeOk_small {W d : Nat} (hW : W = 2 ∨ W = 3) (hd : d ≤ 40) : TreeOk W d := by
  refine ⟨hW, by omega, ?_⟩
  refine Int.lt_of_le_of_lt (pow_le' hW hd) ?_
  rcases hW with rfl | rfl <;> decide
theorem encMs_sm (ms : List Mk) : sm 8 (encMs ms) = true := by
  show (ms.map Mk.enc).all (sm 7) = true
  rw [List.all_eq_true]
  intro x hx
  obtain ⟨m, _, rfl⟩ := List.mem_map.mp hx
  cases m <;> decide +kernel
theorem Mk.enc_inj {a b : Mk} (h : a.enc = b.enc) : a = b := by
  have h : a.str = b.str := Dat.str.inj h
  have key : ∀ a ∈ ([.top, .leaf, .both, .none] : List Mk), ∀ b ∈ ([.top, .leaf, .both, .none] : List Mk), a.str = b.str → a = b := by decide +kernel
  exact key a (by cases a <;> simp) b (by cases b <;> simp) h
theorem map_inj' {α β : Type} {f : α → β} (hf : ∀ a b, f a = f b → a = b) : ∀ {xs ys : List α}, xs.map f = ys.map f → xs = ys
  | [], [], _ => rfl
  | [], _ :: _, h => by simp at h
  | _ :: _, [], h => by simp at h
  | x :: xs, y :: ys, h => by
    rw [List.map_cons, List.map_cons] at h
    obtain ⟨h1, h2⟩ := List.cons.inj h
    rw [hf _ _ h1, map_inj' hf h2]
theorem encMs_inj {a b : List Mk} (h : encMs a = encMs b) : a = b := map_inj' (fun _ _ => Mk.enc_inj) (Dat.tup.inj h)
theorem dec_iff {p q : Prop} [Decidable p] [Decidable q] (h : p ↔ q) : decide p = decide q := by
  by_cases hp : p
  · rw [decide_eq_true hp, decide_eq_true (h.mp hp)]
  · rw [decide_eq_false hp, decide_eq_false fun z => hp (h.mpr z)]
theorem encDL_sm (ps : List (Nat × Nat)) : sm 8 (.lst (ps.map encDL)) = true := by
  show (ps.map encDL).all (sm 7) = true
  rw [List.all_eq_true]
  intro x hx
  obtain ⟨m, _, rfl⟩ := List.mem_map.mp hx
  rfl
theorem lst_nil {xs : List Dat} : decide (Dat.lst xs = .lst []) = decide (xs = []) := dec_iff ⟨fun h => Dat.lst.inj h, fun h => by rw [h]⟩
theorem foldl_min : ∀ (xs : List Nat) (x : Nat), xs.foldl min x ≤ x ∧ (∀ y ∈ xs, xs.foldl min x ≤ y) ∧ (xs.foldl min x = x ∨ xs.foldl min x ∈ xs)
  | [], x => ⟨Nat.le_refl _, (fun y h => nomatch h), .inl rfl⟩
  | y :: ys, x => by
    obtain ⟨a, b, c⟩ := foldl_min ys (min x y)
    rw [List.foldl_cons]
    refine ⟨by omega, fun z hz => ?_, ?_⟩
    · rcases List.mem_cons.mp hz with rfl | hz
      · omega
      · exact b z hz
    · rcases c with c | c
      · rcases Nat.le_total x y with h | h
        · left; rw [c]; omega
        · right; rw [c, Nat.min_eq_right h]; exact List.mem_cons_self
      · right; exact List.mem_cons_of_mem _ c
theorem foldl_max : ∀ (xs : List Nat) (x : Nat), x ≤ xs.foldl max x ∧ (∀ y ∈ xs, y ≤ xs.foldl max x) ∧ (xs.foldl max x = x ∨ xs.foldl max x ∈ xs)
  | [], x => ⟨Nat.le_refl _, (fun y h => nomatch h), .inl rfl⟩
  | y :: ys, x => by
    obtain ⟨a, b, c⟩ := foldl_max ys (max x y)
    rw [List.foldl_cons]
    refine ⟨by omega, fun z hz => ?_, ?_⟩
    · rcases List.mem_cons.mp hz with rfl | hz
      · omega
      · exact b z hz
    · rcases c with c | c
      · rcases Nat.le_total y x with h | h
        · left; rw [c]; omega
        · right; rw [c, Nat.max_eq_right h]; exact List.mem_cons_self
      · right; exact List.mem_cons_of_mem _ c
theorem minL_ok {xs : List Nat} (h : xs ≠ []) : minL xs ∈ xs ∧ ∀ y ∈ xs, minL xs ≤ y := by
  cases xs with
  | nil => exact absurd rfl h
  | cons x xs =>
    obtain ⟨a, b, c⟩ := foldl_min xs x
    refine ⟨?_, fun y hy => ?_⟩
    · rcases c with c | c
      · show xs.foldl min x ∈ _
        rw [c]
        exact List.mem_cons_self
      · exact List.mem_cons_of_mem _ c
    · rcases List.mem_cons.mp hy with rfl | hy
      · exact a
      · exact b y hy
theorem maxL_ok {xs : List Nat} (h : xs ≠ []) : maxL xs ∈ xs ∧ ∀ y ∈ xs, y ≤ maxL xs := by
  cases xs with
  | nil => exact absurd rfl h
  | cons x xs =>
    obtain ⟨a, b, c⟩ := foldl_max xs x
    refine ⟨?_, fun y hy => ?_⟩
    · rcases c with c | c
      · show xs.foldl max x ∈ _
        rw [c]
        exact List.mem_cons_self
      · exact List.mem_cons_of_mem _ c
    · rcases List.mem_cons.mp hy with rfl | hy
      · exact a
      · exact b y hy
section
variable {C : DC} {a : Expr} {ρ : DEnv} {p pos : Pos}
theorem min_nat {xs : List Nat} (h : ED C a ρ (.lst (xs.map fun n => Dat.int (n : Nat)))) (hx : xs ≠ []) (hm : C.G.mg "min" = none) (hg : Gv C.sc "min" := by assumption) (he : ∀ env : Env, starEach [a] env = (false, eval a env) :: starEach [] env := by intro _; rfl) : ED C (.Call (.Name "min" p) [a] [] pos) ρ (.int (minL xs : Nat)) := by
  obtain ⟨h1, h2⟩ := minL_ok hx
  refine ed_min (ns := xs.map fun n : Nat => (n : Int)) (by rw [List.map_map]; exact h) (List.mem_map.mpr ⟨_, h1, rfl⟩) (fun y hy => ?_) hg.h hm he
  obtain ⟨z, hz, rfl⟩ := List.mem_map.mp hy
  have := h2 z hz
  omega
theorem max_nat {xs : List Nat} (h : ED C a ρ (.lst (xs.map fun n => Dat.int (n : Nat)))) (hx : xs ≠ []) (hm : C.G.mg "max" = none) (hg : Gv C.sc "max" := by assumption) (he : ∀ env : Env, starEach [a] env = (false, eval a env) :: starEach [] env := by intro _; rfl) : ED C (.Call (.Name "max" p) [a] [] pos) ρ (.int (maxL xs : Nat)) := by
  obtain ⟨h1, h2⟩ := maxL_ok hx
  refine ed_max (ns := xs.map fun n : Nat => (n : Int)) (by rw [List.map_map]; exact h) (List.mem_map.mpr ⟨_, h1, rfl⟩) (fun y hy => ?_) hg.h hm he
  obtain ⟨z, hz, rfl⟩ := List.mem_map.mp hy
  have := h2 z hz
  omega
end
section
variable {G : Gm}
theorem ok_all_levels (hf : At G "all_levels" s_all_levels ["most"]) (B : Blt G) : FnD G 1 "all_levels" phi_all_levels := by
  refine fnD_of hf sc_all_levels (fun ds k kx h => ?_) ?_
  · obtain ⟨m, rfl, _⟩ := h
    rfl
  rintro W T0 H0 kx hx ds kd ⟨m, rfl, hm, hk⟩
  obtain ⟨v0, v1, v2, g0⟩ := fa_all_levels
  rw [st_all_levels]
  refine set_ 1 (ed_lst ea_nil) ?_
  refine forR_ (m := ((2 * m + 1 : Nat) : Int)) (ed_is (ed_add (ed_mul ed_int (vc 0) (.inl ⟨by decide, by decide⟩)) ed_int) (congrArg Dat.int (by omega))) ⟨by omega, by omega⟩ B.range (fun n ρ => n ≤ 2 * m + 1 ∧ ∃ t, ρ = [some (.d (.int m)), some (.d (.lst (((List.range n).flatMap (lvRow m)).map encDL))), t, none]) ⟨by omega, none, rfl⟩ ?_ ?_
  · rintro n ρ hn ⟨hn2, t, rfl⟩
    refine ⟨_, _, tgc_ 2, ?_⟩
    refine set_ 1 (ed_catL (v 1) (wd_lc (lcE_range [("level", 3)] ((n + 1 : Nat) : Int) (fun l => decide (l ≤ m) && decide (n - l ≤ m)) (fun l => encDL (n, l)) (ed_is (ed_add (vc 2) ed_int) rfl) ⟨by omega, by omega⟩ B.range (blkOk_by (N := n_all_levels) (sc := defScope s_all_levels) (by decide +kernel)) (fun l hl => ?_) rfl)) ?_) (sd_nil ⟨by omega, some (.d (.int (n : Int))), ?_⟩)
    · refine ⟨_, gd_name 3 rfl (.inl rfl), ?_, fun _ => ed_tup (ea_cons (vv 2) (ea_cons (vv 3) ea_nil))⟩
      have hl : l < n + 1 := by omega
      refine et_is (et_and (et_le (vv 3) (vv 0)) (fun _ => et_le (ed_sub (vv 2) (vv 3)) (vv 0))) ?_
      rw [dec_iff (show ((l : Int) ≤ (m : Int)) ↔ l ≤ m by omega), dec_iff (show ((n : Int) - (l : Int) ≤ (m : Int)) ↔ n - l ≤ m by omega)]
    · have h1 := flat_len m n (by omega)
      have h2 := List.length_filter_le (fun l => decide (l ≤ m) && decide (n - l ≤ m)) (List.range (n + 1))
      rw [List.length_range] at h2
      rw [List.length_map, List.length_map, Int.toNat_natCast]
      omega
    · rw [List.range_succ (n := n), List.flatMap_append, List.map_append, List.flatMap_cons, List.flatMap_nil, List.append_nil, Int.toNat_natCast]
      show _ = _
      rw [show (lvRow m n).map encDL = ((List.range (n + 1)).filter fun l => decide (l ≤ m) && decide (n - l ≤ m)).map (fun l => encDL (n, l)) by unfold lvRow; rw [List.map_map]; rfl]
      rfl
  · rintro ρ ⟨_, t, rfl⟩
    refine sd_retE (v 1) ?_
    rw [Int.toNat_natCast, ← allLv_eq]
    exact hk
theorem ok_mark_of (hf : At G "mark_of" s_mark_of ["tree", "place"]) : FnD G 1 "mark_of" phi_mark_of := by
  refine fnD_of hf sc_mark_of (fun ds k kx h => ?_) ?_
  · obtain ⟨W, d, p, rfl, _⟩ := h
    rfl
  rintro W T0 H0 kx hx ds kd ⟨W', d, ⟨l, n⟩, rfl, hk⟩
  obtain ⟨v0, v1⟩ := fa_mark_of
  rw [st_mark_of]
  refine sd_when (et_eq (ed_ixT (v 1) ed_int (atI0 _ _)) ed_int rfl rfl) (fun e => ?_) (fun e => ?_)
  · have e : l = 0 := by
      have := Dat.int.inj (of_decide_eq_true e)
      have : ((l : Nat) : Int) = 0 := this
      omega
    subst e
    refine sd_retE (ed_if (et_eq (ed_ixT (v 0) ed_int (atI1 _ _ _)) ed_int rfl rfl) (fun _ => ed_str) (fun _ => ed_str)) ?_
    have e : markOf d (0, n) = if d = 0 then .both else .top := if_pos rfl
    rw [e] at hk
    by_cases hd : d = 0
    · subst hd
      exact hk
    · rw [if_neg hd] at hk
      rw [if_neg (by
        rw [decide_eq_true_iff]
        intro z
        have z : ((d : Nat) : Int) = 0 := Dat.int.inj z
        omega)]
      exact hk
  · have e : ¬ l = 0 := by
      intro z
      subst z
      exact of_decide_eq_false e rfl
    refine sd_retE (ed_if (et_eq (ed_ixT (v 1) ed_int (atI0 _ _)) (ed_ixT (v 0) ed_int (atI1 _ _ _)) rfl rfl) (fun _ => ed_str) (fun _ => ed_str)) ?_
    have e2 : markOf d (l, n) = if l = d then .leaf else .none := if_neg e
    rw [e2] at hk
    by_cases hd : l = d
    · subst hd
      rw [if_pos rfl] at hk
      rw [if_pos (decide_eq_true rfl)]
      exact hk
    · rw [if_neg hd] at hk
      rw [if_neg (by
        rw [decide_eq_true_iff]
        intro z
        have z : ((l : Nat) : Int) = ((d : Nat) : Int) := Dat.int.inj z
        omega)]
      exact hk
theorem ok_marks_of (hf : At G "marks_of" s_marks_of ["tree", "script", "level"]) (M : FnD G 1 "mark_of" phi_mark_of) (P : FnD G 2 "step_to" phi_step_to) : FnD G 3 "marks_of" phi_marks_of := by
  refine fnD_of hf sc_marks_of (fun ds k kx h => ?_) ?_
  · obtain ⟨W, d, ss, l, rfl, _⟩ := h
    rfl
  rintro W0 T0 H0 kx hx ds kd ⟨W, d, ss, l, rfl, t, hz, hs, hl, hk⟩
  obtain ⟨v0, v1, v2, v3, v4, v5, g0, g1⟩ := fa_marks_of
  rw [st_marks_of]
  refine set_ 3 (ed_tup (ea_cons (v 2) (ea_cons ed_int ea_nil))) ?_
  refine set_ 4 (ed_tup (ea_cons (call_ M (ea_cons (v 0) (ea_cons (v 3) ea_nil)) ⟨W, d, (l, 0), rfl, rfl⟩) ea_nil)) ?_
  refine sd_forT rfl (v 1) (fun n ρ => ∃ u, ρ = [some (.d (encT W d)), some (.d (encS ss)), some (.d (.int l)), some (.d (encO ((ss.take n).foldl (mkTurn W d) (some (l, 0), [markOf d (l, 0)])).1)), some (.d (encMs ((ss.take n).foldl (mkTurn W d) (some (l, 0), [markOf d (l, 0)])).2)), u]) ⟨none, rfl⟩ ?_ ?_
  · rintro n x ρ hx ⟨u, rfl⟩
    rw [List.getElem?_map] at hx
    cases q : ss[n]? with
    | none => rw [q] at hx; cases hx
    | some s =>
      rw [q] at hx
      cases hx
      refine ⟨_, _, tg_ 5, ?_⟩
      have hlq := marks_le (W := W) (ss := ss.take n) (p := (l, 0)) (f := [markOf d (l, 0)]) hl
      have hlen := marks_len (W := W) (d := d) (ss.take n) (some (l, 0), [markOf d (l, 0)])
      rw [List.length_take] at hlen
      have hlen1 : ([markOf d (l, 0)] : List Mk).length = 1 := rfl
      have e := foldl_take (mkTurn W d) (some (l, 0), [markOf d (l, 0)]) q
      generalize (ss.take n).foldl (mkTurn W d) (some (l, 0), [markOf d (l, 0)]) = st at e hlq hlen
      obtain ⟨o, f⟩ := st
      refine sd_when (et_notN (v 3)) (fun hn => ?_) (fun hn => sd_nil ?_)
      · cases o with
        | none => cases hn
        | some p =>
          refine set_ 3 (call_ P (ea_cons (v 0) (ea_cons (v 5) (ea_cons (v 3) ea_nil))) ⟨W, d, s, p, rfl, t, hs s (List.mem_of_getElem? q), hlq p rfl, rfl⟩) ?_
          cases e2 : stepTo W d s p with
          | none =>
            have e3 : mkTurn W d (some p, f) s = (none, f) := by simp only [mkTurn, e2]
            rw [e3] at e
            refine set_ 4 (ed_ifT (et_isN (v 3)) rfl (v 4)) (sd_nil (sd_nil ⟨some (.d s.enc), ?_⟩))
            rw [e]
            rfl
          | some p2 =>
            have e3 : mkTurn W d (some p, f) s = (some p2, f ++ [markOf d p2]) := by simp only [mkTurn, e2]
            rw [e3] at e
            refine set_ 4 (ed_ifF (et_isN (v 3)) rfl (ed_catT (v 4) (ed_tup (ea_cons (call_ M (ea_cons (v 0) (ea_cons (v 3) ea_nil)) ⟨W, d, p2, rfl, rfl⟩) ea_nil)) ?_)) (sd_nil (sd_nil ⟨some (.d s.enc), ?_⟩))
            · rw [List.length_map]
              show f.length + 1 ≤ 100000
              have hlen : f.length ≤ 1 + min n ss.length := hlen
              omega
            · rw [e]
              show _ = _
              unfold encMs
              rw [List.map_append]
              rfl
      · cases o with
        | some p => cases hn
        | none =>
          have e3 : mkTurn W d (none, f) s = (none, f) := rfl
          rw [e3] at e
          refine ⟨some (.d s.enc), ?_⟩
          rw [e]
          rfl
  · rintro ρ ⟨u, rfl⟩
    refine sd_retE (v 4) ?_
    rw [List.length_map, List.take_length]
    exact hk
end
end FT

end
section
namespace FT
open PySem PySem.Spec PyProof.Rows L2 Evl DL
abbrev mkNames : List Str := ["top", "leaf", "both", "none"]
theorem mk_sm : (mkNames.map Dat.str).all (sm 8) = true := by decide +kernel
def mkGood (x : Dat) : Bool := tyStr x && (mkNames.map Dat.str).any fun z => decide (z = x)
theorem mkGood_mk (m : Mk) : mkGood m.enc = true := by cases m <;> decide +kernel
theorem mkGood_eq (x : Dat) : (match x with | .str s => decide (s ∈ mkNames) | _ => false) = mkGood x := by
  cases x with
  | str s =>
    show decide (s ∈ mkNames) = (true && (mkNames.map Dat.str).any fun z => decide (z = .str s))
    rw [any_w, Bool.true_and]
  | _ => rfl
theorem badSeen_tup (n : Nat) (xs : List Dat) : badSeen n (.tup xs) = (!(decide (1 ≤ xs.length) && decide (xs.length ≤ n + 1)) || !(xs.all mkGood)) := by
  have key : (xs.all fun x => match x with | .str s => decide (s ∈ mkNames) | _ => false) = xs.all mkGood := by
    congr 1
    funext x
    exact mkGood_eq x
  rw [← key]
  rfl
theorem allLv8_len : (allLv 8).length ≤ 850 := by
  rw [allLv_eq]
  exact flat_len 8 17 (by omega)
theorem fitting_len (W : Nat) (ss : List Stp) (ms : List Mk) : (fitting W ss ms).length ≤ 1000 := by
  have a := List.length_filter_le (fun p : Nat × Nat => decide (marksOf W p.1 ss p.2 = ms)) (allLv 8)
  have := allLv8_len
  unfold fitting
  omega
theorem et_inL {C : DC} {a b : Expr} {ρ : DEnv} {pos : Pos} {d : Dat} {ds : List Dat} (ha : ED C a ρ d) (hb : ED C b ρ (.lst ds)) (h1 : sm 8 d = true) (h2 : ds.all (sm 8) = true) (hm : behindInMarks .In b = false := by rfl) : ET C (.Compare a [.In] [b] pos) ρ (ds.any fun z => decide (z = d)) := by
  refine td_cmp (r := fun X => rInP X.K) (fun X F => op_inP (units65 F)) hm (wd_of ha (wd_of hb ?_))
  intro X F σ T H v w Q S iv iw q
  show rInP X.K _ _ _ _
  rw [F.K]
  have z : Dp C.G.K H w (.list (toPs ds)) := by
    have z := iw.dp (n := 9) S.ex (by simpa only [sm] using h2)
    simpa only [toP] using z
  refine ⟨toP d, toPs ds, iv.dp S.ex h1, .inl z, sm_shaped h1 (by decide), sms_lay h2, ?_⟩
  rw [any_eqv d 8 h1 8 ds h2]
  exact q _ T H S Step.refl rfl
theorem ints_sm (xs : List Int) : sm 8 (.lst (xs.map Dat.int)) = true := by
  show (xs.map Dat.int).all (sm 7) = true
  rw [List.all_eq_true]
  intro x hx
  obtain ⟨m, _, rfl⟩ := List.mem_map.mp hx
  rfl
section
variable {G : Gm}
theorem ok_need_seen (hf : At G "need_seen" s_need_seen ["script", "seen"]) (B : Blt G) {EN : Addr} (E : ExcF G "InvalidSeen" EN) (K : KTup G "MARKS" mkNames) : FnD G 1 "need_seen" (phi_need_seen EN) := by
  refine fnD_of hf sc_need_seen (fun ds k kx h => ?_) ?_
  · rcases h with ⟨ss, ms, rfl, _⟩ | ⟨ss, w, rfl, _⟩ <;> rfl
  rintro W0 T0 H0 kx hx ds kd h
  obtain ⟨v0, v1, g0, g1, g2, g3, g4⟩ := fa_need_seen
  have tu : ∀ (ss : List Stp) (xs : List Dat), (∃ k : Dat → Prop, ds = [encS ss, .tup xs] ∧ xs.length ≤ 10000 ∧ xs.all known = true ∧ xs.all (sm 8) = true ∧ (badSeen ss.length (.tup xs) = false → kd .non) ∧ (badSeen ss.length (.tup xs) = true → kx (.ref EN))) → SD (mkC G n_need_seen (defScope s_need_seen) 0 W0 T0 H0 kx hx) (defBody s_need_seen) (rho0 n_need_seen ds) (DEnds.mk (fun _ => kd .non) kd (fun _ => False) (fun _ => False)) := by
    rintro ss xs ⟨k, rfl, hl, hn, hs, h1, h2⟩
    rw [st_need_seen]
    rw [badSeen_tup] at h1 h2
    refine sd_when (et_or (et_not (et_val (tup_ (v 1) rfl B.tuple B.isinstance))) fun _ => et_not (et_leLe ed_int (len_ (v 1) rfl B.len) (ed_add (len_ (v 0) rfl B.len) ed_int))) (fun e => raise_ E ?_) (fun e => ?_)
    · refine h2 ?_
      have e : (false || !(decide ((1 : Int) ≤ (xs.length : Int)) && decide ((xs.length : Int) ≤ ((ss.map Stp.enc).length : Int) + 1))) = true := e
      rw [Bool.false_or, List.length_map, dec_iff (show ((1 : Int) ≤ (xs.length : Int)) ↔ 1 ≤ xs.length by omega), dec_iff (show ((xs.length : Int) ≤ (ss.length : Int) + 1) ↔ xs.length ≤ ss.length + 1 by omega)] at e
      rw [e]
      rfl
    · have e : (false || !(decide ((1 : Int) ≤ (xs.length : Int)) && decide ((xs.length : Int) ≤ ((ss.map Stp.enc).length : Int) + 1))) = false := e
      rw [Bool.false_or, List.length_map, dec_iff (show ((1 : Int) ≤ (xs.length : Int)) ↔ 1 ≤ xs.length by omega), dec_iff (show ((xs.length : Int) ≤ (ss.length : Int) + 1) ↔ xs.length ≤ ss.length + 1 by omega)] at e
      rw [e, Bool.false_or] at h1 h2
      refine sd_when (et_not (et_val (ed_all (ns := (xs.filter fun _ => true).map mkGood) (wd_lc ?_) rfl B.all))) (fun e => raise_ E (h2 ?_)) (fun e => sd_nil (h1 ?_))
      · refine lcE_tup [("mark", 2)] xs id (fun _ => true) (fun x => .bl (mkGood x)) (by rw [List.map_id]; exact v 1) (blkOk_by (N := n_need_seen) (sc := defScope s_need_seen) (by decide +kernel)) (by omega) (fun x h => ?_) (by rw [List.map_map]; rfl)
        refine ⟨_, gd_name 2 rfl (.inl rfl), rfl, fun _ => ?_⟩
        exact ed_and (isi_str (vv 2) (List.all_eq_true.mp hn x h) B.str B.isinstance) fun _ => ed_inT (vv 2) (ed_ktup K) (List.all_eq_true.mp hs x h) mk_sm
      · rw [List.filter_eq_self.mpr (fun _ _ => rfl), List.all_map] at e
        exact e
      · rw [List.filter_eq_self.mpr (fun _ _ => rfl), List.all_map] at e
        exact e
  rcases h with ⟨ss, ms, rfl, hl, h1, h2, hk⟩ | ⟨ss, w, rfl, hn, hb, ht, hk⟩
  · have hg : (ms.map Mk.enc).all mkGood = true := by
      rw [List.all_eq_true]
      intro x hx
      obtain ⟨m, _, rfl⟩ := List.mem_map.mp hx
      exact mkGood_mk m
    have hb : badSeen ss.length (.tup (ms.map Mk.enc)) = false := by
      rw [badSeen_tup, hg, List.length_map, decide_eq_true h1, decide_eq_true h2]
      rfl
    refine tu ss (ms.map Mk.enc) ⟨kd, rfl, by rw [List.length_map]; exact hl, ?_, ?_, fun _ => hk, fun z => by rw [hb] at z; cases z⟩
    · rw [List.all_eq_true]
      intro x hx
      obtain ⟨m, _, rfl⟩ := List.mem_map.mp hx
      rfl
    · rw [List.all_eq_true]
      intro x hx
      obtain ⟨m, _, rfl⟩ := List.mem_map.mp hx
      cases m <;> decide +kernel
  · by_cases hw : tyTup w = true
    · cases w with
      | tup xs =>
        obtain ⟨q1, q2, q3⟩ := ht xs rfl
        exact tu ss xs ⟨kd, rfl, q1, q2, q3, (fun z => by rw [hb] at z; cases z), fun _ => hk⟩
      | _ => cases hw
    · rw [Bool.not_eq_true] at hw
      rw [st_need_seen]
      refine sd_yes (et_or (y := true) (et_not (et_val (tup_ (v 1) hn B.tuple B.isinstance))) fun z => ?_) ?_ (raise_ E hk)
      · rw [hw] at z; cases z
      · rw [hw]; rfl
theorem ok_fitting (hf : At G "fitting" s_fitting ["ways", "script", "seen"]) (B : Blt G) {EW ES EN : Addr} {t8 : Tok} (hM : G.mg "ENOUGH" = some (.int 8 t8)) (N1 : FnD G 2 "need_ways" (phi_need_ways EW)) (N2 : FnD G 4 "need_script" (phi_need_script ES)) (N3 : FnD G 1 "need_seen" (phi_need_seen EN)) (A : FnD G 1 "all_levels" phi_all_levels) (M : FnD G 3 "marks_of" phi_marks_of) : FnD G 5 "fitting" (phi_fitting EN) := by
  refine fnD_of hf sc_fitting (fun ds k kx h => ?_) ?_
  · rcases h with ⟨W, ss, ms, rfl, _⟩ | ⟨W, ss, w, rfl, _⟩ <;> rfl
  rintro W0 T0 H0 kx hx ds kd h
  obtain ⟨v0, v1, v2, g0, g1, g2, g3, g4⟩ := fa_fitting
  rcases h with ⟨W, ss, ms, rfl, hW, hl, hs, h1, h2, hk⟩ | ⟨W, ss, w, rfl, hW, hl, hs, hn, hb, ht, hk⟩
  · rw [st_fitting]
    refine sd_exprW (callW_ N1 (ad_of (ea_cons (vc 0) ea_nil) (.inl ⟨W, rfl, hW, ?_⟩))) 
    refine sd_exprW (callW_ N2 (ad_of (ea_cons (vc 0) (ea_cons (vc 1) ea_nil)) (.inl ⟨W, ss, rfl, hl, hs, ?_⟩)))
    refine sd_exprW (callW_ N3 (ad_of (ea_cons (vc 1) (ea_cons (vc 2) ea_nil)) (.inl ⟨ss, ms, rfl, by omega, h1, h2, ?_⟩)))
    refine sd_ret (wd_lc (lcE_list [("pair", 3)] (allLv 8) encDL (fun p => decide (marksOf W p.1 ss p.2 = ms)) encDL (call_ A (ea_cons (kint_ hM) ea_nil) ⟨8, rfl, by omega, rfl⟩) (blkOk_by (N := n_fitting) (sc := defScope s_fitting) (by decide +kernel)) (by have := allLv8_len; omega) (fun p hp => ?_) hk))
    obtain ⟨d, l⟩ := p
    obtain ⟨q1, q2, q3⟩ := allLv_mem.mp hp
    refine ⟨_, gd_name 3 rfl (.inl rfl), ?_, fun _ => vv 3⟩
    refine et_is (et_eq (ed_call M hle rfl (ea_cons (ed_tup (ea_cons (vv 0) (ea_cons (ed_ixT (vv 3) ed_int (atI0 _ _)) ea_nil))) (ea_cons (vv 1) (ea_cons (ed_ixT (vv 3) ed_int (atI1 _ _ _)) ea_nil))) ⟨W, d, ss, l, rfl, treeOk_small hW (by omega), by omega, hs, q1, rfl⟩) (vv 2) (encMs_sm _) (encMs_sm _)) ?_
    exact dec_iff ⟨encMs_inj, fun e => congrArg encMs e⟩
  · rw [st_fitting]
    refine sd_exprW (callW_ N1 (ad_of (ea_cons (vc 0) ea_nil) (.inl ⟨W, rfl, hW, ?_⟩)))
    refine sd_exprW (callW_ N2 (ad_of (ea_cons (vc 0) (ea_cons (vc 1) ea_nil)) (.inl ⟨W, ss, rfl, hl, hs, ?_⟩)))
    exact sd_exprW (callW_ N3 (ad_of (ea_cons (vc 1) (ea_cons (vc 2) ea_nil)) (.inr ⟨ss, w, rfl, hn, hb, ht, hk⟩)))
theorem pairs_nil (ps : List (Nat × Nat)) : decide (Dat.lst (ps.map encDL) = .lst []) = decide (ps = []) := by
  rw [lst_nil]
  exact dec_iff List.map_eq_nil_iff
theorem ok_depths_told (hf : At G "depths_told" s_depths_told ["ways", "script", "seen"]) (B : Blt G) {EN : Addr} {t8 : Tok} (hM : G.mg "ENOUGH" = some (.int 8 t8)) (I : FnD G 5 "fitting" (phi_fitting EN)) : FnD G 6 "depths_told" (phi_told EN depthsTold) := by
  refine fnD_of hf sc_depths_told (fun ds k kx h => ?_) ?_
  · rcases h with ⟨W, ss, ms, rfl, _⟩ | ⟨W, ss, w, rfl, _⟩ <;> rfl
  rintro W0 T0 H0 kx hx ds kd h
  obtain ⟨v0, v1, v2, v3, v4, v5, g0, g1, g2⟩ := fa_depths_told
  rcases h with ⟨W, ss, ms, rfl, hW, hl, hs, h1, h2, hk⟩ | ⟨W, ss, w, rfl, hW, hl, hs, hn, hb, ht, hk⟩
  · rw [st_depths_told]
    refine setW_ 3 (callW_ I (ad_of (ea_cons (v 0) (ea_cons (v 1) (ea_cons (v 2) ea_nil))) (.inl ⟨W, ss, ms, rfl, hW, hl, hs, h1, h2, ?_⟩)))
    unfold depthsTold at hk
    have hle8 : ∀ p ∈ fitting W ss ms, p.2 ≤ p.1 := fun p hp => (allLv_mem.mp (List.mem_filter.mp hp).1).1
    have hlen := fitting_len W ss ms
    generalize fitting W ss ms = ps at hk hle8 hlen
    refine sd_when (et_is (et_eq (v 3) (ed_lst ea_nil) (encDL_sm _) rfl) (pairs_nil ps)) (fun e => sd_retE ed_non ?_) (fun e => ?_)
    · rw [decide_eq_true_iff] at e
      rw [if_pos e] at hk
      exact hk
    · rw [decide_eq_false_iff_not] at e
      rw [if_neg e] at hk
      refine setLc_ 4 (lcE_list [("depth", 6), ("level", 7)] ps encDL (fun _ => true) (fun p => .int p.1) (v 3) (blkOk_by (N := n_depths_told) (sc := defScope s_depths_told) (by decide +kernel)) (by omega) (fun p hp => ⟨_, gd_pair 6 7 rfl (.inl rfl) rfl (.inl rfl), rfl, fun _ => vv 6⟩) ?_)
      refine setLc_ 5 (lcE_list [("depth", 6), ("level", 7)] ps encDL (fun p => decide (p.2 = 8) || decide (p.1 - p.2 = 8)) (fun p => .int p.1) (v 3) (blkOk_by (N := n_depths_told) (sc := defScope s_depths_told) (by decide +kernel)) (by omega) (fun p hp => ⟨_, gd_pair 6 7 rfl (.inl rfl) rfl (.inl rfl), ?_, fun _ => vv 6⟩) ?_)
      · have hp := hle8 p hp
        refine et_is (et_inT (ed_glob (v := .int 8) hM ⟨t8, rfl⟩ (fun _ => .int 8)) (ed_tup (ea_cons (vv 7) (ea_cons (ed_sub (vv 6) (vv 7)) ea_nil))) rfl rfl) ?_
        rw [List.any_cons, List.any_cons, List.any_nil, Bool.or_false]
        rw [dec_iff (show (Dat.int (p.2 : Int) = .int 8) ↔ p.2 = 8 from ⟨fun h => by have := Dat.int.inj h; omega, fun h => by rw [h]; rfl⟩)]
        rw [dec_iff (show (Dat.int ((p.1 : Int) - (p.2 : Int)) = .int 8) ↔ p.1 - p.2 = 8 from ⟨fun h => by have := Dat.int.inj h; omega, fun h => congrArg Dat.int (by omega)⟩)]
      · have hne : ps.map (·.1) ≠ [] := fun h => e (List.map_eq_nil_iff.mp h)
        have e4 : (ps.filter fun _ => true).map (fun p => Dat.int (p.1 : Nat)) = (ps.map (·.1)).map fun n => Dat.int (n : Nat) := by
          rw [List.filter_eq_self.mpr (fun _ _ => rfl), List.map_map]
          rfl
        refine sd_retE (ed_tup (ea_cons (min_nat (by rw [← e4]; exact v 4) hne B.min) (ea_cons (ed_if (et_ne (v 5) (ed_lst ea_nil) ?_ rfl) (fun _ => ed_non) fun _ => max_nat (by rw [← e4]; exact v 4) hne B.max) ea_nil))) ?_
        · have := ints_sm ((ps.filter fun p => decide (p.2 = 8) || decide (p.1 - p.2 = 8)).map fun p => (p.1 : Int))
          rw [List.map_map] at this
          exact this
        · rw [lst_nil]
          have e5 : decide (((ps.filter fun p => decide (p.2 = 8) || decide (p.1 - p.2 = 8)).map fun p => Dat.int (p.1 : Nat)) = []) = decide (((ps.filter fun p => decide (p.2 = 8) || decide (p.1 - p.2 = 8)).map (·.1)) = []) := dec_iff (by rw [List.map_eq_nil_iff, List.map_eq_nil_iff])
          rw [e5]
          by_cases hc : ((ps.filter fun p => decide (p.2 = 8) || decide (p.1 - p.2 = 8)).map (·.1)) = []
          · rw [if_neg (fun h => h hc)] at hk
            rw [decide_eq_true hc]
            exact hk
          · rw [if_pos hc] at hk
            rw [decide_eq_false hc]
            exact hk
  · rw [st_depths_told]
    exact setW_ 3 (callW_ I (ad_of (ea_cons (v 0) (ea_cons (v 1) (ea_cons (v 2) ea_nil))) (.inr ⟨W, ss, w, rfl, hW, hl, hs, hn, hb, ht, hk⟩)))
theorem ok_levels_told (hf : At G "levels_told" s_levels_told ["ways", "script", "seen"]) (B : Blt G) {EN : Addr} {t8 : Tok} (hM : G.mg "ENOUGH" = some (.int 8 t8)) (I : FnD G 5 "fitting" (phi_fitting EN)) : FnD G 6 "levels_told" (phi_told EN levelsTold) := by
  refine fnD_of hf sc_levels_told (fun ds k kx h => ?_) ?_
  · rcases h with ⟨W, ss, ms, rfl, _⟩ | ⟨W, ss, w, rfl, _⟩ <;> rfl
  rintro W0 T0 H0 kx hx ds kd h
  obtain ⟨v0, v1, v2, v3, v4, g0, g1, g2, g3⟩ := fa_levels_told
  rcases h with ⟨W, ss, ms, rfl, hW, hl, hs, h1, h2, hk⟩ | ⟨W, ss, w, rfl, hW, hl, hs, hn, hb, ht, hk⟩
  · rw [st_levels_told]
    refine setW_ 3 (callW_ I (ad_of (ea_cons (v 0) (ea_cons (v 1) (ea_cons (v 2) ea_nil))) (.inl ⟨W, ss, ms, rfl, hW, hl, hs, h1, h2, ?_⟩)))
    unfold levelsTold at hk
    have hlen := fitting_len W ss ms
    generalize fitting W ss ms = ps at hk hlen
    refine sd_when (et_is (et_eq (v 3) (ed_lst ea_nil) (encDL_sm _) rfl) (pairs_nil ps)) (fun e => sd_retE ed_non ?_) (fun e => ?_)
    · rw [decide_eq_true_iff] at e
      rw [if_pos e] at hk
      exact hk
    · rw [decide_eq_false_iff_not] at e
      rw [if_neg e] at hk
      refine setLc_ 4 (lcE_list [("depth", 5), ("level", 6)] ps encDL (fun _ => true) (fun p => .int p.2) (v 3) (blkOk_by (N := n_levels_told) (sc := defScope s_levels_told) (by decide +kernel)) (by omega) (fun p hp => ⟨_, gd_pair 5 6 rfl (.inl rfl) rfl (.inl rfl), rfl, fun _ => vv 6⟩) ?_)
      have hne : ps.map (·.2) ≠ [] := fun h => e (List.map_eq_nil_iff.mp h)
      have e4 : (ps.filter fun _ => true).map (fun p => Dat.int (p.2 : Nat)) = (ps.map (·.2)).map fun n => Dat.int (n : Nat) := by
        rw [List.filter_eq_self.mpr (fun _ _ => rfl), List.map_map]
        rfl
      rw [e4]
      refine sd_retE (ed_tup (ea_cons (min_nat (v 4) hne B.min) (ea_cons (ed_if (et_inL (kint_ hM) (v 4) rfl ?_) (fun _ => ed_non) fun _ => max_nat (v 4) hne B.max) ea_nil))) ?_
      · rw [List.all_eq_true]
        intro x hx
        obtain ⟨m, _, rfl⟩ := List.mem_map.mp hx
        rfl
      · have e5 : (((ps.map (·.2)).map fun n => Dat.int (n : Nat)).any fun z => decide (z = .int 8)) = decide (8 ∈ ps.map (·.2)) := by
          rw [Bool.eq_iff_iff, List.any_eq_true, decide_eq_true_iff]
          constructor
          · rintro ⟨y, hy, e⟩
            obtain ⟨z, hz, rfl⟩ := List.mem_map.mp hy
            have e := Dat.int.inj (of_decide_eq_true e)
            have : z = 8 := by omega
            rw [← this]
            exact hz
          · intro h
            exact ⟨_, List.mem_map.mpr ⟨8, h, rfl⟩, decide_eq_true rfl⟩
        rw [e5]
        by_cases hc : 8 ∈ ps.map (·.2)
        · rw [if_pos hc] at hk
          rw [decide_eq_true hc]
          exact hk
        · rw [if_neg hc] at hk
          rw [decide_eq_false hc]
          exact hk
  · rw [st_levels_told]
    exact setW_ 3 (callW_ I (ad_of (ea_cons (v 0) (ea_cons (v 1) (ea_cons (v 2) ea_nil))) (.inr ⟨W, ss, w, rfl, hW, hl, hs, hn, hb, ht, hk⟩)))
end
end FT

end
section
namespace FT
open PySem PySem.Spec PyProof.Rows L2 Evl DL
theorem wpos2 {W : Nat} (h : W = 2 ∨ W = 3) : (0 : Int) < (W : Int) ∧ (W : Int) < 1073741824 := by omega
theorem wmul {W : Nat} (h : W = 2 ∨ W = 3) : -(2 ^ 64) < (W : Int) ∧ (W : Int) < 2 ^ 64 := by omega
theorem flat1 (x : Dat) : ∀ n : Nat, (List.replicate n [x]).flatten = List.replicate n x
  | 0 => rfl
  | n + 1 => by rw [List.replicate_succ, List.replicate_succ, List.flatten_cons, flat1 x n]; rfl
section
variable {G : Gm}
theorem ok_l_figures (hf : At G "_law_figures" s_l_figures ["_law_ways", "_law_spot"]) (B : Blt G) : FnD G 1 "_law_figures" phi_l_figures := by
  refine fnD_of hf sc_l_figures (fun ds k kx h => ?_) ?_
  · obtain ⟨W, l, n, rfl, _⟩ := h
    rfl
  rintro W0 T0 H0 kx hx ds kd ⟨W, l, n, rfl, hW, hl, hk⟩
  obtain ⟨v0, v1, v2, v3, v4, v5, g0⟩ := fa_l_figures
  rw [st_l_figures]
  refine unpack_ 2 3 (v 1) ?_
  refine set_ 4 (ed_lst ea_nil) ?_
  refine forR_ (m := (l : Int)) (v 2) ⟨by omega, by omega⟩ B.range (fun t ρ => t ≤ l ∧ ∃ u, ρ = [some (.d (.int W)), some (.d (encP (l, n))), some (.d (.int l)), some (.d (.int (n / (W : Int) ^ t))), some (.d (.lst ((figs W t n).map Dat.int))), u]) ⟨by omega, none, ?_⟩ ?_ ?_
  · rw [Int.pow_zero, Int.ediv_one]
    rfl
  · rintro t ρ ht ⟨ht2, u, rfl⟩
    refine ⟨_, _, tg_ 5, ?_⟩
    refine set_ 4 (ed_catL (ed_lst (ea_cons (ed_mod (v 3) (v 0) (wpos hW)) ea_nil)) (v 4) ?_) ?_
    · rw [List.length_map, figs_len]
      show 1 + t ≤ 100000
      omega
    refine set_ 3 (ed_div (v 3) (v 0) (wpos2 hW)) (sd_nil ⟨by omega, some (.d (.int (t : Int))), ?_⟩)
    rw [div_pow' hW, figs_top hW]
    rfl
  · rintro ρ ⟨_, u, rfl⟩
    exact sd_retE (v 4) hk
theorem ok_l_by_figures (hf : At G "_law_by_figures" s_l_by_figures ["_law_ways", "_law_figures_here"]) (B : Blt G) : FnD G 1 "_law_by_figures" phi_l_by_figures := by
  refine fnD_of hf sc_l_by_figures (fun ds k kx h => ?_) ?_
  · obtain ⟨W, l, n, rfl, _⟩ := h
    rfl
  rintro W0 T0 H0 kx hx ds kd ⟨W, l, n, rfl, hW, hl, h1, h2, hk⟩
  obtain ⟨v0, v1, v2, v3, g0⟩ := fa_l_by_figures
  rw [st_l_by_figures]
  have hlen := figs_len (W := W) l n
  have hval := val_figs hW l n h1 h2
  generalize figs W l n = fs at hlen hval
  refine set_ 2 ed_int ?_
  refine sd_forL rfl (v 1) (fun t ρ => ∃ u, ρ = [some (.d (.int W)), some (.d (.lst (fs.map Dat.int))), some (.d (.int (valF W (fs.take t)))), u]) ⟨none, rfl⟩ ?_ ?_
  · rintro t d ρ hd ⟨u, rfl⟩
    rw [List.getElem?_map] at hd
    cases q : fs[t]? with
    | none => rw [q] at hd; cases hd
    | some f =>
      rw [q] at hd
      cases hd
      refine ⟨_, _, tg_ 3, ?_⟩
      refine set_ 2 (ed_add (ed_mul (v 2) (v 0) (.inr (wmul hW))) (v 3)) (sd_nil ⟨some (.d (.int f)), ?_⟩)
      unfold valF
      rw [foldl_take _ _ q]
      rfl
  · rintro ρ ⟨u, rfl⟩
    refine sd_retE (ed_tup (ea_cons (len_ (v 1) rfl B.len) (ea_cons (v 2) ea_nil))) ?_
    rw [List.length_map, List.take_length, hval, hlen]
    exact hk
theorem ok_l_moved (hf : At G "_law_moved" s_l_moved ["_law_ways", "_law_figures_here", "_law_more"]) (B : Blt G) : FnD G 1 "_law_moved" phi_l_moved := by
  refine fnD_of hf sc_l_moved (fun ds k kx h => ?_) ?_
  · obtain ⟨W, l, n, m, rfl, _⟩ := h
    rfl
  rintro W0 T0 H0 kx hx ds kd ⟨W, l, n, m, rfl, hW, hl, hk⟩
  obtain ⟨v0, v1, v2, v3, v4, v5⟩ := fa_l_moved
  rw [st_l_moved]
  refine par_ 3 4 (ed_lst ea_nil) (v 2) ?_
  refine sd_forL rfl (ed_revL (v 1)) (fun t ρ => t ≤ l ∧ ∃ u, ρ = [some (.d (.int W)), some (.d (.lst ((figs W l n).map Dat.int))), some (.d (.int m)), some (.d (.lst ((figs W t (n + m)).map Dat.int))), some (.d (.int ((n % (W : Int) ^ t + m) / (W : Int) ^ t))), u]) ⟨by omega, none, ?_⟩ ?_ ?_
  · rw [Int.pow_zero, Int.ediv_one, Int.emod_one, Int.zero_add]
    rfl
  · rintro t d ρ hd ⟨ht2, u, rfl⟩
    have ht : t < l := by
      have := (List.getElem?_eq_some_iff.mp hd).1
      rw [List.length_reverse, List.length_map, figs_len] at this
      exact this
    rw [← List.map_reverse, List.getElem?_map, figs_at hW l n t ht] at hd
    cases hd
    refine ⟨_, _, tg_ 5, ?_⟩
    refine set_ 3 (ed_catL (ed_lst (ea_cons (ed_mod (ed_add (v 5) (v 4)) (v 0) (wpos hW)) ea_nil)) (v 3) ?_) ?_
    · rw [List.length_map, figs_len]
      show 1 + t ≤ 100000
      omega
    refine set_ 4 (ed_div (ed_add (v 5) (v 4)) (v 0) (wpos2 hW)) (sd_nil ⟨by omega, some (.d (.int (n / (W : Int) ^ t % W))), ?_⟩)
    rw [carry_next hW, fig_moved hW, figs_top hW]
    rfl
  · rintro ρ ⟨_, u, rfl⟩
    refine sd_retE (v 3) ?_
    rw [List.length_reverse, List.length_map, figs_len]
    exact hk
theorem ok_l_step_so (hf : At G "_law_step_so" s_l_step_so ["_law_tree", "_law_step", "_law_figures_here"]) (B : Blt G) (I : FnD G 1 "_law_moved" phi_l_moved) : FnD G 2 "_law_step_so" phi_l_step_so := by
  refine fnD_of hf sc_l_step_so (fun ds k kx h => ?_) ?_
  · obtain ⟨W, d, s, p, rfl, _⟩ := h
    rfl
  rintro W0 T0 H0 kx hx ds kd ⟨W, d, s, ⟨l, n⟩, rfl, hW, hd, hs, ⟨hp1, hp2, hp3⟩, hk⟩
  obtain ⟨v0, v1, v2, v3, v4, g0, g1⟩ := fa_l_step_so
  rw [st_l_step_so]
  have hp1 : l ≤ d := hp1
  have hlen := figs_len (W := W) l n
  have hlen2 : ((figs W l n).map Dat.int).length = l := by rw [List.length_map, hlen]
  rw [show encF W (some (l, n)) = .lst ((figs W l n).map Dat.int) from rfl]
  refine unpackc_ 3 4 (v 0) ?_
  have w1 : ∀ x ∈ (["up", "down", "leaf", "next", "last", "mirror", "top"] : List Str), True := fun _ _ => trivial
  have wd : ∀ {C : DC} {ρ : DEnv} {pos pn : Pos} {k : Nat} {q : Pos}, C.N = n_l_step_so → C.sc = defScope s_l_step_so → ρ[1]? = some (some (.d s.enc)) → ED C (.Subscript (.Name "_law_step" pn) (.Constant (.int 0) k q) pos) ρ (.str s.word) := fun {C ρ pos pn k q} h1 h2 h3 => by
    rw [Stp.enc_eq] at h3
    exact ed_ixT (ed_var 1 (by rw [h1]; exact v1.hi) h3 (.inl (by rw [h2]; exact v1.hl)) v1.h1 v1.h2) ed_int (atI0 _ _)
  cases s with
  | up =>
    refine sd_yes (et_eqS (wd rfl rfl rfl) ed_str) (by decide +kernel) ?_
    by_cases h : 0 < l
    · obtain ⟨m, rfl⟩ : ∃ m, l = m + 1 := ⟨l - 1, by omega⟩
      refine sd_retE (ed_ifT (et_ne (v 2) (ed_lst ea_nil) (ints_sm2 _) rfl) ?_ (ed_slL (v 2) (l := none) (h := some (-1)) trivial (ed_neg ed_int))) ?_
      · rw [lst_nil2, decide_eq_false (fun z => by rw [z] at hlen2; cases hlen2)]
        rfl
      · have e : stepTo W d .up (m + 1, n) = some (m, n / W) := if_pos (e := (none : Option Pl)) h
        rw [e] at hk
        rw [cutL_last, figs, List.map_append]
        show kd (.lst (((figs W m (n / W)).map Dat.int ++ [Dat.int (n % W)]).dropLast))
        rw [List.dropLast_concat]
        exact hk
    · have e0 : l = 0 := by omega
      subst e0
      refine sd_retE (ed_ifF (et_ne (v 2) (ed_lst ea_nil) (ints_sm2 _) rfl) rfl ed_non) ?_
      exact hk
  | down w =>
    have hw : w < W := hs
    refine sd_no (et_eqS (wd rfl rfl rfl) ed_str) (decide_eq_false (show ¬ ("down" : Str) = "up" by decide +kernel)) ?_
    refine sd_yes (et_eqS (wd rfl rfl rfl) ed_str) (decide_eq_true rfl) ?_
    by_cases h : l < d
    · refine sd_retE (ed_ifT (et_lt (len_ (v 2) rfl B.len) (v 4)) (decide_eq_true (by rw [hlen2]; omega)) (ed_catL (v 2) (ed_lst (ea_cons (ed_ixT (v 1) ed_int (atI1 _ _ _)) ea_nil)) (by rw [hlen2]; show l + 1 ≤ 100000; omega))) ?_
      have e : stepTo W d (.down w) (l, n) = some (l + 1, n * W + w) := if_pos h
      rw [e] at hk
      have e2 := congrArg (List.map Dat.int) (figs_down hW l n (w : Int) (by omega) (by omega))
      rw [List.map_append] at e2
      have e3 : encF W (some (l + 1, n * W + w)) = .lst ((figs W l n).map Dat.int ++ [Dat.int w]) := congrArg Dat.lst e2.symm
      rw [e3] at hk
      exact hk
    · refine sd_retE (ed_ifF (et_lt (len_ (v 2) rfl B.len) (v 4)) (decide_eq_false (by rw [hlen2]; omega)) ed_non) ?_
      have e : stepTo W d (.down w) (l, n) = none := if_neg h
      rw [e] at hk
      exact hk
  | leaf w =>
    have hw : w < W := hs
    refine sd_no (et_eqS (wd rfl rfl rfl) ed_str) (decide_eq_false (show ¬ ("leaf" : Str) = "up" by decide +kernel)) ?_
    refine sd_no (et_eqS (wd rfl rfl rfl) ed_str) (decide_eq_false (show ¬ ("leaf" : Str) = "down" by decide +kernel)) ?_
    refine sd_yes (et_eqS (wd rfl rfl rfl) ed_str) (decide_eq_true rfl) ?_
    have e2 : ((d : Int) - (l : Int)).toNat = d - l := by omega
    refine sd_retE (ed_catL (v 2) (ed_repL (ed_lst (ea_cons (ed_ixT (v 1) ed_int (atI1 _ _ _)) ea_nil)) (ed_is (ed_sub (v 4) (len_ (v 2) rfl B.len)) (congrArg (fun z : Nat => Dat.int ((d : Int) - (z : Int))) hlen2)) ⟨by omega, by omega⟩ ?_) ?_) ?_
    · show 1 * _ ≤ 100000
      omega
    · rw [flat1, hlen2, List.length_replicate]
      omega
    · rw [flat1, e2]
      have e3 := congrArg (List.map Dat.int) (figs_leaf hW l n (w : Int) (by omega) (by omega) (d - l))
      rw [List.map_append, List.map_replicate, leafAt_eq hW, show l + (d - l) = d by omega] at e3
      have e4 : encF W (stepTo W d (.leaf w) (l, n)) = .lst ((figs W l n).map Dat.int ++ List.replicate (d - l) (Dat.int w)) := congrArg Dat.lst e3.symm
      rw [e4] at hk
      exact hk
  | next =>
    refine sd_no (et_eqS (wd rfl rfl rfl) ed_str) (decide_eq_false (show ¬ ("next" : Str) = "up" by decide +kernel)) ?_
    refine sd_no (et_eqS (wd rfl rfl rfl) ed_str) (decide_eq_false (show ¬ ("next" : Str) = "down" by decide +kernel)) ?_
    refine sd_no (et_eqS (wd rfl rfl rfl) ed_str) (decide_eq_false (show ¬ ("next" : Str) = "leaf" by decide +kernel)) ?_
    refine sd_yes (et_inT (wd rfl rfl rfl) (ed_tup (ea_cons ed_str (ea_cons ed_str ea_nil))) (by decide +kernel) (by decide +kernel)) (by decide +kernel) ?_
    refine sd_retE (call_ I (ea_cons (vc 3) (ea_cons (v 2) (ea_cons (ed_ifT (et_eqS (wd rfl rfl rfl) ed_str) (decide_eq_true rfl) ed_int) ea_nil))) ⟨W, l, n, 1, rfl, hW, by omega, rfl⟩) ?_
    have e : encF W (stepTo W d .next (l, n)) = .lst ((figs W l (n + 1)).map Dat.int) := by rw [← figs_mod hW l (n + 1)]; rfl
    rw [e] at hk
    exact hk
  | last =>
    refine sd_no (et_eqS (wd rfl rfl rfl) ed_str) (decide_eq_false (show ¬ ("last" : Str) = "up" by decide +kernel)) ?_
    refine sd_no (et_eqS (wd rfl rfl rfl) ed_str) (decide_eq_false (show ¬ ("last" : Str) = "down" by decide +kernel)) ?_
    refine sd_no (et_eqS (wd rfl rfl rfl) ed_str) (decide_eq_false (show ¬ ("last" : Str) = "leaf" by decide +kernel)) ?_
    refine sd_yes (et_inT (wd rfl rfl rfl) (ed_tup (ea_cons ed_str (ea_cons ed_str ea_nil))) (by decide +kernel) (by decide +kernel)) (by decide +kernel) ?_
    refine sd_retE (call_ I (ea_cons (vc 3) (ea_cons (v 2) (ea_cons (ed_ifF (et_eqS (wd rfl rfl rfl) ed_str) (decide_eq_false (show ¬ ("last" : Str) = "next" by decide +kernel)) (ed_neg ed_int)) ea_nil))) ⟨W, l, n, -1, rfl, hW, by omega, rfl⟩) ?_
    have e : encF W (stepTo W d .last (l, n)) = .lst ((figs W l (n + -1)).map Dat.int) := by rw [← figs_mod hW l (n + -1)]; rfl
    rw [e] at hk
    exact hk
  | mirror =>
    refine sd_no (et_eqS (wd rfl rfl rfl) ed_str) (decide_eq_false (show ¬ ("mirror" : Str) = "up" by decide +kernel)) ?_
    refine sd_no (et_eqS (wd rfl rfl rfl) ed_str) (decide_eq_false (show ¬ ("mirror" : Str) = "down" by decide +kernel)) ?_
    refine sd_no (et_eqS (wd rfl rfl rfl) ed_str) (decide_eq_false (show ¬ ("mirror" : Str) = "leaf" by decide +kernel)) ?_
    refine sd_no (et_inT (wd rfl rfl rfl) (ed_tup (ea_cons ed_str (ea_cons ed_str ea_nil))) (by decide +kernel) (by decide +kernel)) (by decide +kernel) ?_
    refine sd_retE (ed_ifT (et_eqS (wd rfl rfl rfl) ed_str) (decide_eq_true rfl) (wd_lc (lcE_list [("_law_figure", 5)] (figs W l n) Dat.int (fun _ => true) (fun f => .int ((W : Int) - 1 - f)) (v 2) (blkOk_by (N := n_l_step_so) (sc := defScope s_l_step_so) (by decide +kernel)) (by omega) (fun f _ => ⟨_, gd_name 5 rfl (.inl rfl), rfl, fun _ => ed_sub (ed_sub (vv 3) ed_int) (vv 5)⟩) rfl))) ?_
    rw [List.filter_eq_self.mpr (fun _ _ => rfl)]
    have e : encF W (stepTo W d .mirror (l, n)) = .lst ((figs W l n).map fun f => Dat.int ((W : Int) - 1 - f)) := by
      show Dat.lst ((figs W l ((W : Int) ^ l - 1 - n)).map Dat.int) = _
      rw [← figs_mirror hW, List.map_map]
      rfl
    rw [e] at hk
    exact hk
  | top =>
    refine sd_no (et_eqS (wd rfl rfl rfl) ed_str) (decide_eq_false (show ¬ ("top" : Str) = "up" by decide +kernel)) ?_
    refine sd_no (et_eqS (wd rfl rfl rfl) ed_str) (decide_eq_false (show ¬ ("top" : Str) = "down" by decide +kernel)) ?_
    refine sd_no (et_eqS (wd rfl rfl rfl) ed_str) (decide_eq_false (show ¬ ("top" : Str) = "leaf" by decide +kernel)) ?_
    refine sd_no (et_inT (wd rfl rfl rfl) (ed_tup (ea_cons ed_str (ea_cons ed_str ea_nil))) (by decide +kernel) (by decide +kernel)) (by decide +kernel) ?_
    exact sd_retE (ed_ifF (et_eqS (wd rfl rfl rfl) ed_str) (decide_eq_false (show ¬ ("top" : Str) = "mirror" by decide +kernel)) (ed_lst ea_nil)) hk
theorem ok_l_out (hf : At G "_law_out" s_l_out ["_law_tree", "_law_steps_so", "_law_spot"]) (F1 : FnD G 1 "_law_figures" phi_l_figures) (F2 : FnD G 2 "_law_step_so" phi_l_step_so) (F3 : FnD G 1 "_law_by_figures" phi_l_by_figures) : FnD G 3 "_law_out" phi_l_out := by
  refine fnD_of hf sc_l_out (fun ds k kx h => ?_) ?_
  · obtain ⟨W, d, ss, p, rfl, _⟩ := h
    rfl
  rintro W0 T0 H0 kx hx ds kd ⟨W, d, ss, p, rfl, hW, hd, hl, hs, hp, hk⟩
  obtain ⟨v0, v1, v2, v3, v4, g0, g1, g2⟩ := fa_l_out
  rw [st_l_out]
  obtain ⟨l, n⟩ := p
  have hp1 : l ≤ d := hp.1
  refine set_ 3 (call_ F1 (ea_cons (ed_ixT (v 0) ed_int (atI0 _ _)) (ea_cons (v 2) ea_nil)) ⟨W, l, n, rfl, hW, by omega, rfl⟩) ?_
  refine sd_forT rfl (v 1) (fun t ρ => ∃ u o, (∀ q, o = some q → Pok W d q) ∧ o = walked W d (ss.take t) (some (l, n)) ∧ ρ = [some (.d (encT W d)), some (.d (encS ss)), some (.d (encP (l, n))), some (.d (encF W o)), u]) ⟨none, some (l, n), (fun q h => by cases h; exact hp), rfl, rfl⟩ ?_ ?_
  · rintro t x ρ hx ⟨u, o, ho, eo, rfl⟩
    rw [List.getElem?_map] at hx
    cases q : ss[t]? with
    | none => rw [q] at hx; cases hx
    | some s =>
      rw [q] at hx
      cases hx
      have hs1 := hs s (List.mem_of_getElem? q)
      refine ⟨_, _, tg_ 4, ?_⟩
      have ew : walked W d (ss.take (t + 1)) (some (l, n)) = o.bind (stepTo W d s) := by
        unfold walked at eo ⊢
        rw [foldl_take _ _ q, ← eo]
      cases o with
      | none =>
        exact set_ 3 (ed_ifT (et_isN (v 3)) rfl ed_non) (sd_nil ⟨some (.d s.enc), none, (fun q h => nomatch h), ew.symm, rfl⟩)
      | some p =>
        refine set_ 3 (ed_ifF (et_isN (v 3)) rfl (call_ F2 (ea_cons (v 0) (ea_cons (v 4) (ea_cons (v 3) ea_nil))) ⟨W, d, s, p, rfl, hW, hd, hs1, ho p rfl, rfl⟩)) (sd_nil ⟨some (.d s.enc), stepTo W d s p, (fun q h => stepTo_ok hW hs1 (ho p rfl) h), ew.symm, rfl⟩)
  · rintro ρ ⟨u, o, ho, eo, rfl⟩
    rw [List.length_map, List.take_length] at eo
    rw [← eo] at hk
    cases o with
    | none => exact sd_retE (ed_ifT (et_isN (v 3)) rfl ed_non) hk
    | some p =>
      obtain ⟨h1, h2, h3⟩ := ho p rfl
      exact sd_retE (ed_ifF (et_isN (v 3)) rfl (call_ F3 (ea_cons (ed_ixT (v 0) ed_int (atI0 _ _)) (ea_cons (v 3) ea_nil)) ⟨W, p.1, p.2, rfl, hW, by omega, h2, h3, rfl⟩)) hk
end
end FT

end
section
namespace FT
open PySem PySem.Spec PyProof.Rows L2 Evl DL
def forBody : Stmt → List Stmt
  | .For _ _ b _ _ => b
  | _ => []
def stAt (b : List Stmt) (i : Nat) : Stmt := b.getD i (.Pass ⟨0, 0, 0, 0⟩)
theorem enc_sm (s : Stp) : sm 8 s.enc = true := by
  have key : ∀ x ∈ (["up", "down", "leaf", "next", "last", "mirror", "top"] : List Str), sm 7 (.str x) = true := by decide +kernel
  have a := key s.word (by cases s <;> simp [Stp.word])
  rw [Stp.enc_eq]
  show (sm 7 (.str s.word) && s.rest.all (sm 7)) = true
  rw [a]
  cases s <;> rfl
theorem enc_ne (s : Stp) : s.enc ≠ .tup [] := by
  rw [Stp.enc_eq]
  exact fun h => nomatch Dat.tup.inj h
theorem markOf_expr (d : Nat) (p : Pl) : (if (decide (Dat.int (p.1 : Nat) = .int 0) && decide (Dat.int (p.1 : Nat) = .int (d : Nat))) = true then Mk.both else if decide (Dat.int (p.1 : Nat) = .int 0) = true then Mk.top else if decide (Dat.int (p.1 : Nat) = .int (d : Nat)) = true then Mk.leaf else Mk.none) = markOf d p := by
  rw [dec_iff (show (Dat.int (p.1 : Nat) = .int 0) ↔ p.1 = 0 from ⟨fun h => by have := Dat.int.inj h; omega, fun h => by rw [h]; rfl⟩)]
  rw [dec_iff (show (Dat.int (p.1 : Nat) = .int (d : Nat)) ↔ p.1 = d from ⟨fun h => by have := Dat.int.inj h; omega, fun h => by rw [h]⟩)]
  unfold markOf
  by_cases h1 : p.1 = 0
  · by_cases h2 : d = 0
    · simp [h1, h2]
    · have : ¬ (0 = d) := fun z => h2 z.symm
      simp [h1, h2, this]
  · by_cases h2 : p.1 = d
    · have h3 : ¬ d = 0 := by omega
      simp [h2, h3]
    · simp [h1, h2]
def phi_l_marks : Phi := fun ds k _ => ∃ (W d : Nat) (ss : List Stp) (l : Nat), ds = [.int W, .int d, encS ss, .int l] ∧ (W = 2 ∨ W = 3) ∧ d ≤ 1000 ∧ ss.length ≤ 1000 ∧ (∀ s ∈ ss, s.ok W) ∧ l ≤ d ∧ k (encMs (marksOf W d ss l))
section
variable {G : Gm}
theorem ok_l_marks (hf : At G "_law_marks" s_l_marks ["_law_ways", "_law_depth", "_law_steps_so", "_law_level"]) (O : FnD G 3 "_law_out" phi_l_out) : FnD G 4 "_law_marks" phi_l_marks := by
  refine fnD_of hf sc_l_marks (fun ds k kx h => ?_) ?_
  · obtain ⟨W, d, ss, l, rfl, _⟩ := h
    rfl
  rintro W0 T0 H0 kx hx ds kd ⟨W, d, ss, l, rfl, hW, hd, hl, hs, hld, hk⟩
  obtain ⟨v0, v1, v2, v3, v4, v5, v6, v7, v8, g0⟩ := fa_l_marks
  rw [st_l_marks]
  have tail : ∀ (p : Pl) (f : List Mk) (u6 u7 u8 : Option DL.Slot) (D : DEnds), f.length ≤ 5000 → (∀ u7 u8, D.nx [some (.d (.int W)), some (.d (.int d)), some (.d (encS ss)), some (.d (.int l)), some (.d (encP p)), some (.d (encMs (f ++ [markOf d p]))), u6, u7, u8]) →
      SD (mkC G n_l_marks (defScope s_l_marks) 3 W0 T0 H0 kx hx) ((forBody (stAt (defBody s_l_marks) 1)).drop 1) [some (.d (.int W)), some (.d (.int d)), some (.d (encS ss)), some (.d (.int l)), some (.d (encP p)), some (.d (encMs f)), u6, u7, u8] D := by
    intro p f u6 u7 u8 D hf h
    refine sd_yes (et_notN (v 4)) rfl ?_
    refine par_ 7 8 (ed_eq (ed_ixT (v 4) ed_int (atI0 _ _)) ed_int rfl rfl) (ed_eq (ed_ixT (v 4) ed_int (atI0 _ _)) (v 1) rfl rfl) ?_
    refine set_ 5 (ed_catT (v 5) (ed_tup (ea_cons (d := (markOf d p).enc) (ed_is (ed_if (et_and (et_val (v 7)) fun _ => et_val (v 8)) (fun _ => ed_str) fun _ => ed_if (et_val (v 7)) (fun _ => ed_str) fun _ => ed_if (et_val (v 8)) (fun _ => ed_str) fun _ => ed_str) ?_) ea_nil)) ?_) (sd_nil (sd_nil ?_))
    · rw [← markOf_expr]
      split
      · rfl
      · split
        · rfl
        · split <;> rfl
    · rw [List.length_map]
      show f.length + 1 ≤ 100000
      omega
    · have e : encMs (f ++ [markOf d p]) = .tup (f.map Mk.enc ++ [(markOf d p).enc]) := by
        unfold encMs
        rw [List.map_append]
        rfl
      have h := h (some (.d (.bl (decide (Dat.int (p.1 : Nat) = .int 0))))) (some (.d (.bl (decide (Dat.int (p.1 : Nat) = .int (d : Nat))))))
      rw [e] at h
      exact h
  refine par_ 4 5 (ed_tup (ea_cons (v 3) (ea_cons ed_int ea_nil))) (ed_tup ea_nil) ?_
  refine sd_forT rfl (ed_catT (ed_tup (ea_cons (ed_tup ea_nil) ea_nil)) (v 2) (by rw [List.length_map]; show 1 + ss.length ≤ _; omega)) (fun t ρ => ∃ (o : Option Pl) (f : List Mk) (u6 u7 u8 : Option DL.Slot), (∀ q, o = some q → Pok W d q) ∧ f.length ≤ t ∧ ((t = 0 ∧ o = some (l, 0) ∧ f = []) ∨ ∃ n, t = n + 1 ∧ (o, f) = (ss.take n).foldl (mkTurn W d) (some (l, 0), [markOf d (l, 0)])) ∧ ρ = [some (.d (.int W)), some (.d (.int d)), some (.d (encS ss)), some (.d (.int l)), some (.d (encO o)), some (.d (encMs f)), u6, u7, u8]) ⟨some (l, 0), [], none, none, none, (fun q h => by cases h; exact ⟨hld, Int.le_refl 0, pow_pos' hW l⟩), by simp, .inl ⟨rfl, rfl, rfl⟩, rfl⟩ ?_ ?_
  · rintro t x ρ hx ⟨o, f, u6, u7, u8, ho, hfl, hcase, rfl⟩
    have htl : t ≤ 1000 := by
      have := (List.getElem?_eq_some_iff.mp hx).1
      rw [List.length_append, List.length_map] at this
      have : t < 1 + ss.length := this
      omega
    refine ⟨_, _, tg_ 6, ?_⟩
    rcases hcase with ⟨rfl, rfl, rfl⟩ | ⟨n, rfl, e⟩
    · cases hx
      refine sd_no (et_and (et_notN (v 4)) fun _ => et_ne (v 6) (ed_tup ea_nil) rfl rfl) rfl ?_
      exact tail (l, 0) [] _ _ _ _ (by simp) fun u7 u8 => ⟨some (l, 0), [markOf d (l, 0)], _, u7, u8, ho, by simp, .inr ⟨0, rfl, rfl⟩, rfl⟩
    · have hx : (ss.map Stp.enc)[n]? = some x := hx
      rw [List.getElem?_map] at hx
      cases q : ss[n]? with
      | none => rw [q] at hx; cases hx
      | some s =>
        rw [q] at hx
        cases hx
        have hs1 := hs s (List.mem_of_getElem? q)
        have e' := foldl_take (mkTurn W d) (some (l, 0), [markOf d (l, 0)]) q
        rw [← e] at e'
        cases o with
        | none =>
          refine sd_no (et_and (y := false) (et_notN (v 4)) fun h => by cases h) rfl ?_
          refine sd_no (et_notN (v 4)) rfl (sd_nil ⟨none, f, some (.d s.enc), u7, u8, (fun q h => nomatch h), by omega, .inr ⟨n + 1, rfl, e'.symm⟩, rfl⟩)
        | some p =>
          have hne : (!decide (s.enc = Dat.tup [])) = true := by rw [decide_eq_false (enc_ne s)]; rfl
          refine sd_yes (et_and (et_notN (v 4)) fun _ => et_ne (v 6) (ed_tup ea_nil) (enc_sm s) rfl) (by rw [hne]; rfl) ?_
          refine set_ 4 (call_ O (ea_cons (ed_tup (ea_cons (v 0) (ea_cons (v 1) ea_nil))) (ea_cons (ed_tup (ea_cons (v 6) ea_nil)) (ea_cons (v 4) ea_nil))) ⟨W, d, [s], p, rfl, hW, hd, by simp, (fun z hz => by rw [List.mem_singleton.mp hz]; exact hs1), ho p rfl, rfl⟩) (sd_nil ?_)
          have ew : walked W d [s] (some p) = stepTo W d s p := rfl
          rw [ew]
          cases e2 : stepTo W d s p with
          | none =>
            have e3 : mkTurn W d (some p, f) s = (none, f) := by simp only [mkTurn, e2]
            rw [e3] at e'
            exact sd_no (et_notN (v 4)) rfl (sd_nil ⟨none, f, some (.d s.enc), u7, u8, (fun q h => nomatch h), by omega, .inr ⟨n + 1, rfl, e'.symm⟩, rfl⟩)
          | some p2 =>
            have e3 : mkTurn W d (some p, f) s = (some p2, f ++ [markOf d p2]) := by simp only [mkTurn, e2]
            rw [e3] at e'
            exact tail p2 f _ _ _ _ (by omega) fun u7 u8 => ⟨some p2, f ++ [markOf d p2], _, u7, u8, (fun q h => by cases h; exact stepTo_ok hW hs1 (ho p rfl) e2), by rw [List.length_append]; simp; omega, .inr ⟨n + 1, rfl, e'.symm⟩, rfl⟩
  · rintro ρ ⟨o, f, u6, u7, u8, ho, hfl, hcase, rfl⟩
    refine sd_retE (v 5) ?_
    rcases hcase with ⟨h0, _⟩ | ⟨n, h0, e⟩
    · rw [List.length_append, List.length_map] at h0
      have h0 : 1 + ss.length = 0 := h0
      omega
    · rw [List.length_append, List.length_map] at h0
      have h0 : 1 + ss.length = n + 1 := h0
      have : n = ss.length := by omega
      subst this
      rw [List.take_length] at e
      have e4 : marksOf W d ss l = f := by
        unfold marksOf
        rw [← e]
      rw [e4] at hk
      exact hk
end
/-! ### what is due -/
def rowD (W : Nat) (ss : List Stp) (ms : List Mk) (d m : Nat) : List (Nat × Nat) := ((List.range m).filter fun l => decide (marksOf W d ss l = ms)).map fun l => (d, l)
def dueLv (W : Nat) (ss : List Stp) (ms : List Mk) (n : Nat) : List (Nat × Nat) := (List.range n).flatMap fun d => rowD W ss ms d (d + 1)
theorem rowD_len (W : Nat) (ss : List Stp) (ms : List Mk) (d m : Nat) : (rowD W ss ms d m).length ≤ m := by
  unfold rowD
  rw [List.length_map]
  have := List.length_filter_le (fun l => decide (marksOf W d ss l = ms)) (List.range m)
  rw [List.length_range] at this
  exact this
theorem rowD_succ (W : Nat) (ss : List Stp) (ms : List Mk) (d m : Nat) : rowD W ss ms d (m + 1) = if marksOf W d ss m = ms then rowD W ss ms d m ++ [(d, m)] else rowD W ss ms d m := by
  unfold rowD
  rw [List.range_succ, List.filter_append, List.map_append, List.filter_cons]
  by_cases h : marksOf W d ss m = ms
  · rw [if_pos h, if_pos (decide_eq_true h)]
    rfl
  · rw [if_neg h, if_neg (by rw [decide_eq_true_iff]; exact h)]
    simp
theorem dueLv_succ (W : Nat) (ss : List Stp) (ms : List Mk) (n : Nat) : dueLv W ss ms (n + 1) = dueLv W ss ms n ++ rowD W ss ms n (n + 1) := by
  unfold dueLv
  rw [List.range_succ, List.flatMap_append, List.flatMap_cons, List.flatMap_nil, List.append_nil]
theorem dueLv_len (W : Nat) (ss : List Stp) (ms : List Mk) : ∀ n, n ≤ 21 → (dueLv W ss ms n).length ≤ 21 * n
  | 0, _ => by simp [dueLv]
  | n + 1, h => by
    rw [dueLv_succ, List.length_append]
    have a := dueLv_len W ss ms n (by omega)
    have b := rowD_len W ss ms n (n + 1)
    omega
def dueD (W : Nat) (ss : List Stp) (ms : List Mk) : Option (Nat × Option Nat) :=
  let ps := dueLv W ss ms 21
  if ps = [] then none else some (minL (ps.map (·.1)), if maxL (ps.map (·.1)) = 20 then none else some (maxL (ps.map (·.1))))
def dueL (W : Nat) (ss : List Stp) (ms : List Mk) : Option (Nat × Option Nat) :=
  let ps := dueLv W ss ms 21
  if ps = [] then none else some (minL (ps.map (·.2)), if 9 < maxL (ps.map (·.2)) then none else some (maxL (ps.map (·.2))))
def encDue (a b : Option (Nat × Option Nat)) : Dat := match a with
  | none => .non
  | _ => .tup [encSt a, encSt b]
def phi_l_due : Phi := fun ds k _ => ∃ (W : Nat) (ss : List Stp) (ms : List Mk), ds = [.int W, encS ss, encMs ms] ∧ (W = 2 ∨ W = 3) ∧ ss.length ≤ 1000 ∧ (∀ s ∈ ss, s.ok W) ∧ k (encDue (dueD W ss ms) (dueL W ss ms))
section
variable {G : Gm}
theorem ok_l_due (hf : At G "_law_due" s_l_due ["_law_ways", "_law_steps_so", "_law_seen"]) (B : Blt G) (M : FnD G 4 "_law_marks" phi_l_marks) : FnD G 5 "_law_due" phi_l_due := by
  refine fnD_of hf sc_l_due (fun ds k kx h => ?_) ?_
  · obtain ⟨W, ss, ms, rfl, _⟩ := h
    rfl
  rintro W0 T0 H0 kx hx ds kd ⟨W, ss, ms, rfl, hW, hl, hs, hk⟩
  obtain ⟨v0, v1, v2, v3, v4, v5, v6, v7, g0, g1, g2, g3⟩ := fa_l_due
  rw [st_l_due]
  refine newL2_ 3 4 ?_
  have E : ∀ ps : List (Nat × Nat), (ps.map fun p => Dat.int (p.1 : Nat)) = (ps.map (·.1)).map fun n => Dat.int (n : Nat) := fun ps => by rw [List.map_map]; rfl
  have E2 : ∀ ps : List (Nat × Nat), (ps.map fun p => Dat.int (p.2 : Nat)) = (ps.map (·.2)).map fun n => Dat.int (n : Nat) := fun ps => by rw [List.map_map]; rfl
  refine forR_ (m := ((21 : Nat) : Int)) ed_int ⟨by omega, by omega⟩ B.range (fun n ρ => n ≤ 21 ∧ ∃ u5 u6 u7, ρ = [some (.d (.int W)), some (.d (encS ss)), some (.d (encMs ms)), some (.l ((dueLv W ss ms n).map fun p => Dat.int (p.1 : Nat))), some (.l ((dueLv W ss ms n).map fun p => Dat.int (p.2 : Nat))), u5, u6, u7]) ⟨by omega, none, none, none, rfl⟩ ?_ ?_
  · rintro n ρ hn ⟨hn2, u5, u6, u7, rfl⟩
    refine ⟨_, _, tg_ 5, ?_⟩
    refine forR_ (m := ((n + 1 : Nat) : Int)) (ed_is (ed_add (v 5) ed_int) rfl) ⟨by omega, by omega⟩ B.range (fun m ρ => m ≤ n + 1 ∧ ∃ u6 u7, ρ = [some (.d (.int W)), some (.d (encS ss)), some (.d (encMs ms)), some (.l ((dueLv W ss ms n ++ rowD W ss ms n m).map fun p => Dat.int (p.1 : Nat))), some (.l ((dueLv W ss ms n ++ rowD W ss ms n m).map fun p => Dat.int (p.2 : Nat))), some (.d (.int (n : Nat))), u6, u7]) ⟨by omega, u6, u7, ?_⟩ ?_ ?_
    · have : rowD W ss ms n 0 = [] := rfl
      rw [this, List.append_nil]
      rfl
    · rintro m ρ hm ⟨hm2, u6, u7, rfl⟩
      refine ⟨_, _, tg_ 6, ?_⟩
      have la := dueLv_len W ss ms n hn2
      have lb := rowD_len W ss ms n m
      refine sd_when (et_is (et_eq (call_ M (ea_cons (v 0) (ea_cons (v 5) (ea_cons (v 1) (ea_cons (v 6) ea_nil)))) ⟨W, n, ss, m, rfl, hW, by omega, hl, hs, by omega, rfl⟩) (v 2) (encMs_sm _) (encMs_sm _)) (dec_iff ⟨encMs_inj, fun e => congrArg encMs e⟩)) (fun e => ?_) (fun e => sd_nil ⟨by omega, some (.d (.int (m : Nat))), u7, ?_⟩)
      · refine append_ 3 (v 5) (append_ 4 (v 6) (sd_nil (sd_nil ⟨by omega, some (.d (.int (m : Nat))), u7, ?_⟩)) (hz := ?_)) (hz := ?_)
        · rw [rowD_succ, if_pos (of_decide_eq_true e), ← List.append_assoc]
          rw [List.map_append (l₁ := dueLv W ss ms n ++ rowD W ss ms n m), List.map_append (l₁ := dueLv W ss ms n ++ rowD W ss ms n m)]
          rfl
        · rw [List.length_map, List.length_append]; omega
        · rw [List.length_map, List.length_append]; omega
      · rw [rowD_succ, if_neg (of_decide_eq_false e)]
        rfl
    · rintro ρ ⟨_, u6, u7, rfl⟩
      refine sd_nil ⟨by omega, some (.d (.int (n : Nat))), u6, u7, ?_⟩
      rw [Int.toNat_natCast, ← dueLv_succ]
  · rintro ρ ⟨_, u5, u6, u7, rfl⟩
    refine sd_freeze 3 rfl (sd_freeze 4 rfl ?_)
    rw [Int.toNat_natCast]
    unfold dueD dueL at hk
    generalize dueLv W ss ms 21 = ps at hk
    show SD _ _ [_, _, _, some (.d (.lst (ps.map fun p => Dat.int (p.1 : Nat)))), some (.d (.lst (ps.map fun p => Dat.int (p.2 : Nat)))), _, _, _] _
    refine sd_when (et_is (et_eq (v 3) (ed_lst ea_nil) (by have := ints_sm2 (ps.map fun p => (p.1 : Int)); rw [List.map_map] at this; exact this) rfl) (lst_nil2.trans (dec_iff2 (q := ps = []) List.map_eq_nil_iff))) (fun e => sd_retE ed_non ?_) (fun e => ?_)
    · rw [decide_eq_true_iff] at e
      rw [if_pos e, if_pos e] at hk
      exact hk
    · rw [decide_eq_false_iff_not] at e
      rw [if_neg e, if_neg e] at hk
      have hne : ps.map (·.1) ≠ [] := fun h => e (List.map_eq_nil_iff.mp h)
      have hne2 : ps.map (·.2) ≠ [] := fun h => e (List.map_eq_nil_iff.mp h)
      rw [E, E2]
      refine set_ 7 (ed_tup (ea_cons (min_nat (v 3) hne B.min) (ea_cons (ed_if (et_eq (max_nat (v 3) hne B.max) ed_int rfl rfl) (fun _ => ed_non) fun _ => max_nat (v 3) hne B.max) ea_nil))) ?_
      refine sd_retE (ed_tup (ea_cons (v 7) (ea_cons (ed_tup (ea_cons (min_nat (v 4) hne2 B.min) (ea_cons (ed_if (et_gt (max_nat (v 4) hne2 B.max) ed_int) (fun _ => ed_non) fun _ => max_nat (v 4) hne2 B.max) ea_nil))) ea_nil))) ?_
      have c1 : decide (Dat.int (maxL (ps.map (·.1)) : Nat) = .int 20) = decide (maxL (ps.map (·.1)) = 20) := dec_iff ⟨fun h => by have := Dat.int.inj h; omega, fun h => by rw [h]; rfl⟩
      have c2 : decide ((9 : Int) < (maxL (ps.map (·.2)) : Nat)) = decide (9 < maxL (ps.map (·.2))) := dec_iff (by omega)
      rw [c1, c2]
      by_cases d1 : maxL (ps.map (·.1)) = 20
      · by_cases d2 : 9 < maxL (ps.map (·.2))
        · rw [if_pos d1, if_pos d2] at hk
          rw [decide_eq_true d1, decide_eq_true d2]
          exact hk
        · rw [if_pos d1, if_neg d2] at hk
          rw [decide_eq_true d1, decide_eq_false d2]
          exact hk
      · by_cases d2 : 9 < maxL (ps.map (·.2))
        · rw [if_neg d1, if_pos d2] at hk
          rw [decide_eq_false d1, decide_eq_true d2]
          exact hk
        · rw [if_neg d1, if_neg d2] at hk
          rw [decide_eq_false d1, decide_eq_false d2]
          exact hk
end
end FT

end
section
/-! The plain law of the marks. -/
namespace FT
open PySem PySem.Spec PyProof.Rows L2 Evl DL
theorem fold_none (W d : Nat) : ∀ (ss : List Stp) (f : List Mk), (ss.foldl (mkTurn W d) (none, f)).2 = f
  | [], f => rfl
  | s :: ss, f => by
    rw [List.foldl_cons]
    exact fold_none W d ss f
theorem markOf_like {d d' : Nat} {p p' : Pl} (h1 : p.1 ≤ d) (h2 : p'.1 ≤ d') (h3 : p.1 = 0 ↔ p'.1 = 0) (h4 : d - p.1 = 0 ↔ d' - p'.1 = 0) : markOf d p = markOf d' p' := by
  unfold markOf
  by_cases z : p.1 = 0
  · rw [if_pos z, if_pos (h3.mp z)]
    have := h3.mp z
    by_cases y : d = 0
    · rw [if_pos y, if_pos (by omega)]
    · rw [if_neg y, if_neg (by omega)]
  · rw [if_neg z, if_neg fun q => z (h3.mpr q)]
    by_cases y : p.1 = d
    · rw [if_pos y, if_pos (by omega)]
    · rw [if_neg y, if_neg (by omega)]
theorem marks_like {W : Nat} : ∀ (ss : List Stp) (n : Nat), ss.length + 1 ≤ n → ∀ (d d' : Nat) (p p' : Pl) (f : List Mk), p.1 ≤ d → p'.1 ≤ d' → min p.1 n = min p'.1 n → min (d - p.1) n = min (d' - p'.1) n → (ss.foldl (mkTurn W d) (some p, f)).2 = (ss.foldl (mkTurn W d') (some p', f)).2
  | [], n, hn, d, d', p, p', f, _, _, _, _ => rfl
  | s :: ss, n, hn, d, d', ⟨l, x⟩, ⟨l', x'⟩, f, h1, h2, h3, h4 => by
    rw [List.length_cons] at hn
    have h1 : l ≤ d := h1
    have h2 : l' ≤ d' := h2
    have h3 : min l n = min l' n := h3
    have h4 : min (d - l) n = min (d' - l') n := h4
    obtain ⟨m, rfl⟩ : ∃ m, n = m + 1 := ⟨n - 1, by omega⟩
    have go : ∀ q q' : Pl, stepTo W d s (l, x) = some q → stepTo W d' s (l', x') = some q' → q.1 ≤ d → q'.1 ≤ d' → min q.1 m = min q'.1 m → min (d - q.1) m = min (d' - q'.1) m → ((s :: ss).foldl (mkTurn W d) (some (l, x), f)).2 = ((s :: ss).foldl (mkTurn W d') (some (l', x'), f)).2 := by
      intro q q' e e' a1 a2 a3 a4
      have t1 : mkTurn W d (some (l, x), f) s = (some q, f ++ [markOf d q]) := by simp only [mkTurn, e]
      have t2 : mkTurn W d' (some (l', x'), f) s = (some q', f ++ [markOf d' q']) := by simp only [mkTurn, e']
      rw [List.foldl_cons, List.foldl_cons, t1, t2, markOf_like a1 a2 (by omega) (by omega)]
      exact marks_like ss m (by omega) d d' q q' _ a1 a2 a3 a4
    have stop : stepTo W d s (l, x) = none → stepTo W d' s (l', x') = none → ((s :: ss).foldl (mkTurn W d) (some (l, x), f)).2 = ((s :: ss).foldl (mkTurn W d') (some (l', x'), f)).2 := by
      intro e e'
      have t1 : mkTurn W d (some (l, x), f) s = (none, f) := by simp only [mkTurn, e]
      have t2 : mkTurn W d' (some (l', x'), f) s = (none, f) := by simp only [mkTurn, e']
      rw [List.foldl_cons, List.foldl_cons, t1, t2, fold_none, fold_none]
    cases s with
    | up =>
      by_cases z : 0 < l
      · exact go (l - 1, x / W) (l' - 1, x' / W) (if_pos z) (if_pos (show 0 < l' by omega)) (by show l - 1 ≤ d; omega) (by show l' - 1 ≤ d'; omega) (by show min (l - 1) m = min (l' - 1) m; omega) (by show min (d - (l - 1)) m = min (d' - (l' - 1)) m; omega)
      · exact stop (if_neg z) (if_neg (show ¬ 0 < l' by omega))
    | down w =>
      by_cases z : l < d
      · exact go (l + 1, x * W + w) (l' + 1, x' * W + w) (if_pos z) (if_pos (show l' < d' by omega)) (by show l + 1 ≤ d; omega) (by show l' + 1 ≤ d'; omega) (by show min (l + 1) m = min (l' + 1) m; omega) (by show min (d - (l + 1)) m = min (d' - (l' + 1)) m; omega)
      · exact stop (if_neg z) (if_neg (show ¬ l' < d' by omega))
    | leaf w => exact go _ _ rfl rfl (Nat.le_refl d) (Nat.le_refl d') (by show min d m = min d' m; omega) (by show min (d - d) m = min (d' - d') m; omega)
    | next => exact go _ _ rfl rfl h1 h2 (by show min l m = min l' m; omega) (by show min (d - l) m = min (d' - l') m; omega)
    | last => exact go _ _ rfl rfl h1 h2 (by show min l m = min l' m; omega) (by show min (d - l) m = min (d' - l') m; omega)
    | mirror => exact go _ _ rfl rfl h1 h2 (by show min l m = min l' m; omega) (by show min (d - l) m = min (d' - l') m; omega)
    | top => exact go _ _ rfl rfl (Nat.zero_le d) (Nat.zero_le d') rfl (by show min (d - 0) m = min (d' - 0) m; omega)
theorem marksOf_like {W : Nat} {ss : List Stp} (h5 : ss.length ≤ 5) {d d' l l' : Nat} (h1 : l ≤ d) (h2 : l' ≤ d') (h3 : min l 6 = min l' 6) (h4 : min (d - l) 6 = min (d' - l') 6) : marksOf W d ss l = marksOf W d' ss l' := by
  unfold marksOf
  rw [markOf_like (p := (l, 0)) (p' := (l', 0)) h1 h2 (by show l = 0 ↔ l' = 0; omega) (by show d - l = 0 ↔ d' - l' = 0; omega)]
  exact marks_like ss 6 (by omega) d d' (l, 0) (l', 0) _ h1 h2 h3 h4
section
variable {W : Nat} {ss : List Stp} {ms : List Mk}
theorem fit_mem {d l : Nat} : (d, l) ∈ fitting W ss ms ↔ l ≤ d ∧ l ≤ 8 ∧ d - l ≤ 8 ∧ marksOf W d ss l = ms := by
  unfold fitting
  rw [List.mem_filter, allLv_mem, decide_eq_true_iff]
  constructor
  · rintro ⟨⟨a, b, c⟩, e⟩; exact ⟨a, b, c, e⟩
  · rintro ⟨a, b, c, e⟩; exact ⟨⟨a, b, c⟩, e⟩
theorem due_mem {d l : Nat} : (d, l) ∈ dueLv W ss ms 21 ↔ l ≤ d ∧ d ≤ 20 ∧ marksOf W d ss l = ms := by
  unfold dueLv rowD
  rw [List.mem_flatMap]
  constructor
  · rintro ⟨d', h1, h2⟩
    obtain ⟨l', h3, h4⟩ := List.mem_map.mp h2
    cases h4
    obtain ⟨h5, h6⟩ := List.mem_filter.mp h3
    have h5 := List.mem_range.mp h5
    have h1 := List.mem_range.mp h1
    exact ⟨by omega, by omega, of_decide_eq_true h6⟩
  · rintro ⟨h1, h2, h3⟩
    exact ⟨d, List.mem_range.mpr (by omega), List.mem_map.mpr ⟨l, List.mem_filter.mpr ⟨List.mem_range.mpr (by omega), decide_eq_true h3⟩, rfl⟩⟩
theorem minL_eq {xs ys : List Nat} (hx : xs ≠ []) (hy : ys ≠ []) (h1 : ∀ x ∈ xs, ∃ y ∈ ys, y ≤ x) (h2 : ∀ y ∈ ys, ∃ x ∈ xs, x ≤ y) : minL xs = minL ys := by
  obtain ⟨a1, a2⟩ := minL_ok hx
  obtain ⟨b1, b2⟩ := minL_ok hy
  obtain ⟨y, hy1, hy2⟩ := h1 _ a1
  obtain ⟨x, hx1, hx2⟩ := h2 _ b1
  have := b2 y hy1
  have := a2 x hx1
  omega
theorem maxL_eq {xs ys : List Nat} (hx : xs ≠ []) (hy : ys ≠ []) (h1 : ∀ x ∈ xs, ∃ y ∈ ys, x ≤ y) (h2 : ∀ y ∈ ys, ∃ x ∈ xs, y ≤ x) : maxL xs = maxL ys := by
  obtain ⟨a1, a2⟩ := maxL_ok hx
  obtain ⟨b1, b2⟩ := maxL_ok hy
  obtain ⟨y, hy1, hy2⟩ := h1 _ a1
  obtain ⟨x, hx1, hx2⟩ := h2 _ b1
  have := b2 y hy1
  have := a2 x hx1
  omega
theorem clip (h5 : ss.length ≤ 5) {d l a b : Nat} (h : l ≤ d) (e : marksOf W d ss l = ms) (h1 : min a 6 = min l 6) (h2 : min b 6 = min (d - l) 6) : marksOf W (a + b) ss a = ms := by
  rw [← e]
  exact marksOf_like h5 (by omega) h h1 (by rw [← h2]; congr 1; omega)
theorem nil_iff (h5 : ss.length ≤ 5) : fitting W ss ms = [] ↔ dueLv W ss ms 21 = [] := by
  constructor
  · intro h
    refine List.eq_nil_iff_forall_not_mem.mpr fun p hp => ?_
    obtain ⟨d, l⟩ := p
    obtain ⟨a, b, c⟩ := due_mem.mp hp
    have := fit_mem.mpr ⟨by omega, by omega, by omega, clip (a := min l 6) (b := min (d - l) 6) h5 a c (by omega) (by omega)⟩
    rw [h] at this
    cases this
  · intro h
    refine List.eq_nil_iff_forall_not_mem.mpr fun p hp => ?_
    obtain ⟨d, l⟩ := p
    obtain ⟨a, b, c, e⟩ := fit_mem.mp hp
    have := due_mem.mpr ⟨a, by omega, e⟩
    rw [h] at this
    cases this
theorem mem_fst {ps : List (Nat × Nat)} {d : Nat} : d ∈ ps.map (·.1) ↔ ∃ l, (d, l) ∈ ps := by
  rw [List.mem_map]
  constructor
  · rintro ⟨⟨a, b⟩, h, rfl⟩; exact ⟨b, h⟩
  · rintro ⟨l, h⟩; exact ⟨_, h, rfl⟩
theorem mem_snd {ps : List (Nat × Nat)} {l : Nat} : l ∈ ps.map (·.2) ↔ ∃ d, (d, l) ∈ ps := by
  rw [List.mem_map]
  constructor
  · rintro ⟨⟨a, b⟩, h, rfl⟩; exact ⟨a, h⟩
  · rintro ⟨l, h⟩; exact ⟨_, h, rfl⟩
theorem depths_due (h5 : ss.length ≤ 5) : depthsTold W ss ms = dueD W ss ms := by
  unfold depthsTold dueD
  by_cases hn : fitting W ss ms = []
  · simp only [hn, (nil_iff h5).mp hn, if_true]
  have hn2 : dueLv W ss ms 21 ≠ [] := fun z => hn ((nil_iff h5).mpr z)
  have hf : (fitting W ss ms).map (·.1) ≠ [] := fun z => hn (List.map_eq_nil_iff.mp z)
  have hd : (dueLv W ss ms 21).map (·.1) ≠ [] := fun z => hn2 (List.map_eq_nil_iff.mp z)
  simp only [if_neg hn, if_neg hn2]
  have sub : ∀ d ∈ (fitting W ss ms).map (·.1), d ∈ (dueLv W ss ms 21).map (·.1) := fun d h => by
    obtain ⟨l, h⟩ := mem_fst.mp h
    obtain ⟨a, b, c, e⟩ := fit_mem.mp h
    exact mem_fst.mpr ⟨l, due_mem.mpr ⟨a, by omega, e⟩⟩
  have e1 : minL ((fitting W ss ms).map (·.1)) = minL ((dueLv W ss ms 21).map (·.1)) := minL_eq hf hd (fun x hx => ⟨x, sub x hx, Nat.le_refl x⟩) fun y hy => by
    obtain ⟨l, h⟩ := mem_fst.mp hy
    obtain ⟨a, b, c⟩ := due_mem.mp h
    exact ⟨min l 6 + min (y - l) 6, mem_fst.mpr ⟨min l 6, fit_mem.mpr ⟨by omega, by omega, by omega, clip h5 a c (by omega) (by omega)⟩⟩, by omega⟩
  have top := (maxL_ok hd).1
  by_cases far : ((fitting W ss ms).filter fun p => decide (p.2 = 8) || decide (p.1 - p.2 = 8)).map (·.1) = []
  · have no8 : ∀ d l, (d, l) ∈ fitting W ss ms → l ≠ 8 ∧ d - l ≠ 8 := fun d l h => by
      have far := List.map_eq_nil_iff.mp far
      constructor
      · intro z
        have : (d, l) ∈ (fitting W ss ms).filter fun p => decide (p.2 = 8) || decide (p.1 - p.2 = 8) := List.mem_filter.mpr ⟨h, by rw [decide_eq_true (show (d, l).2 = 8 from z)]; rfl⟩
        rw [far] at this
        cases this
      · intro z
        have : (d, l) ∈ (fitting W ss ms).filter fun p => decide (p.2 = 8) || decide (p.1 - p.2 = 8) := List.mem_filter.mpr ⟨h, by rw [decide_eq_true (show (d, l).1 - (d, l).2 = 8 from z), Bool.or_true]⟩
        rw [far] at this
        cases this
    have low : ∀ d l, (d, l) ∈ dueLv W ss ms 21 → l ≤ 5 ∧ d - l ≤ 5 := fun d l h => by
      obtain ⟨a, b, c⟩ := due_mem.mp h
      constructor
      · refine Nat.le_of_not_lt fun z => ?_
        have := no8 _ _ (fit_mem.mpr ⟨by omega, by omega, by omega, clip (a := 8) (b := min (d - l) 6) h5 a c (by omega) (by omega)⟩)
        exact this.1 rfl
      · refine Nat.le_of_not_lt fun z => ?_
        have := no8 _ _ (fit_mem.mpr ⟨by omega, by omega, by omega, clip (a := min l 6) (b := 8) h5 a c (by omega) (by omega)⟩)
        exact this.2 (by omega)
    have e2 : maxL ((fitting W ss ms).map (·.1)) = maxL ((dueLv W ss ms 21).map (·.1)) := maxL_eq hf hd (fun x hx => ⟨x, sub x hx, Nat.le_refl x⟩) fun y hy => by
      obtain ⟨l, h⟩ := mem_fst.mp hy
      obtain ⟨a, b, c⟩ := due_mem.mp h
      obtain ⟨q1, q2⟩ := low _ _ h
      exact ⟨y, mem_fst.mpr ⟨l, fit_mem.mpr ⟨a, by omega, by omega, c⟩⟩, Nat.le_refl y⟩
    have e3 : maxL ((dueLv W ss ms 21).map (·.1)) ≠ 20 := fun z => by
      rw [z] at top
      obtain ⟨l, h⟩ := mem_fst.mp top
      obtain ⟨q1, q2⟩ := low _ _ h
      omega
    rw [if_neg (fun z => z far), if_neg e3, e1, e2]
  · have e3 : maxL ((dueLv W ss ms 21).map (·.1)) = 20 := by
      obtain ⟨l1, h1⟩ := mem_fst.mp top
      have lt : maxL ((dueLv W ss ms 21).map (·.1)) ≤ 20 := (due_mem.mp h1).2.1
      have ex : ∃ l, (20, l) ∈ dueLv W ss ms 21 := by
        obtain ⟨p, hp⟩ := List.exists_mem_of_ne_nil _ (fun z => far (List.map_eq_nil_iff.mpr z))
        obtain ⟨hp, hq⟩ := List.mem_filter.mp hp
        obtain ⟨d, l⟩ := p
        obtain ⟨a, b, c, e⟩ := fit_mem.mp hp
        rw [Bool.or_eq_true, decide_eq_true_iff, decide_eq_true_iff] at hq
        rcases hq with hq | hq
        · have hq : l = 8 := hq
          have q := clip (a := 20 - (d - l)) (b := d - l) h5 a e (by omega) rfl
          rw [show 20 - (d - l) + (d - l) = 20 by omega] at q
          exact ⟨_, due_mem.mpr ⟨by omega, by omega, q⟩⟩
        · have hq : d - l = 8 := hq
          have q := clip (a := l) (b := 20 - l) h5 a e rfl (by omega)
          rw [show l + (20 - l) = 20 by omega] at q
          exact ⟨_, due_mem.mpr ⟨by omega, by omega, q⟩⟩
      have := (maxL_ok hd).2 20 (mem_fst.mpr ex)
      omega
    rw [if_pos far, if_pos e3, e1]
theorem levels_due (h5 : ss.length ≤ 5) : levelsTold W ss ms = dueL W ss ms := by
  unfold levelsTold dueL
  by_cases hn : fitting W ss ms = []
  · simp only [hn, (nil_iff h5).mp hn, if_true]
  have hn2 : dueLv W ss ms 21 ≠ [] := fun z => hn ((nil_iff h5).mpr z)
  have hf : (fitting W ss ms).map (·.2) ≠ [] := fun z => hn (List.map_eq_nil_iff.mp z)
  have hd : (dueLv W ss ms 21).map (·.2) ≠ [] := fun z => hn2 (List.map_eq_nil_iff.mp z)
  simp only [if_neg hn, if_neg hn2]
  have sub : ∀ l ∈ (fitting W ss ms).map (·.2), l ∈ (dueLv W ss ms 21).map (·.2) := fun l h => by
    obtain ⟨d, h⟩ := mem_snd.mp h
    obtain ⟨a, b, c, e⟩ := fit_mem.mp h
    exact mem_snd.mpr ⟨d, due_mem.mpr ⟨a, by omega, e⟩⟩
  have e1 : minL ((fitting W ss ms).map (·.2)) = minL ((dueLv W ss ms 21).map (·.2)) := minL_eq hf hd (fun x hx => ⟨x, sub x hx, Nat.le_refl x⟩) fun y hy => by
    obtain ⟨d, h⟩ := mem_snd.mp hy
    obtain ⟨a, b, c⟩ := due_mem.mp h
    exact ⟨min y 6, mem_snd.mpr ⟨min y 6 + min (d - y) 6, fit_mem.mpr ⟨by omega, by omega, by omega, clip h5 a c (by omega) (by omega)⟩⟩, by omega⟩
  have top := (maxL_ok hd).1
  by_cases far : 8 ∈ (fitting W ss ms).map (·.2)
  · have e3 : 9 < maxL ((dueLv W ss ms 21).map (·.2)) := by
      obtain ⟨d, h⟩ := mem_snd.mp far
      obtain ⟨a, b, c, e⟩ := fit_mem.mp h
      have q := clip (a := 20 - (d - 8)) (b := d - 8) h5 a e (by omega) rfl
      have := (maxL_ok hd).2 (20 - (d - 8)) (mem_snd.mpr ⟨_, due_mem.mpr ⟨by omega, by omega, q⟩⟩)
      omega
    rw [if_pos far, if_pos e3, e1]
  · have low : ∀ d l, (d, l) ∈ dueLv W ss ms 21 → l ≤ 5 := fun d l h => by
      obtain ⟨a, b, c⟩ := due_mem.mp h
      refine Nat.le_of_not_lt fun z => far ?_
      exact mem_snd.mpr ⟨_, fit_mem.mpr ⟨by omega, by omega, by omega, clip (a := 8) (b := min (d - l) 6) h5 a c (by omega) (by omega)⟩⟩
    have e2 : maxL ((fitting W ss ms).map (·.2)) = maxL ((dueLv W ss ms 21).map (·.2)) := maxL_eq hf hd (fun x hx => ⟨x, sub x hx, Nat.le_refl x⟩) fun y hy => by
      obtain ⟨d, h⟩ := mem_snd.mp hy
      obtain ⟨a, b, c⟩ := due_mem.mp h
      have q1 := low _ _ h
      exact ⟨y, mem_snd.mpr ⟨y + min (d - y) 6, fit_mem.mpr ⟨by omega, by omega, by omega, clip h5 a c rfl (by omega)⟩⟩, Nat.le_refl y⟩
    have e3 : ¬ 9 < maxL ((dueLv W ss ms 21).map (·.2)) := fun z => by
      obtain ⟨d, h⟩ := mem_snd.mp top
      have := low _ _ h
      omega
    rw [if_neg far, if_neg e3, e1, e2]
end
end FT

end
section
namespace FT
open PySem PySem.Spec PyProof.Rows L2 Evl DL
def phi_l_right : Phi := fun ds k _ => ∃ (W : Nat) (ss : List Stp) (ms : List Mk), ds = [.int W, encS ss, encMs ms] ∧ (W = 2 ∨ W = 3) ∧ ss.length ≤ 5 ∧ (∀ s ∈ ss, s.ok W) ∧ 1 ≤ ms.length ∧ ms.length ≤ ss.length + 1 ∧ k (.bl true)
theorem encSt_sm (a : Option (Nat × Option Nat)) : sm 7 (encSt a) = true := by
  cases a with
  | none => rfl
  | some p =>
    obtain ⟨a, b⟩ := p
    cases b <;> rfl
theorem pair_sm (a b : Option (Nat × Option Nat)) : sm 8 (.tup [encSt a, encSt b]) = true := by
  show (sm 7 (encSt a) && (sm 7 (encSt b) && true)) = true
  rw [encSt_sm, encSt_sm]
  rfl
theorem due_both {W : Nat} {ss : List Stp} {ms : List Mk} (h : dueD W ss ms = none) : dueL W ss ms = none := by
  unfold dueD at h
  unfold dueL
  by_cases z : dueLv W ss ms 21 = []
  · simp only [if_pos z]
  · simp only [if_neg z] at h
    cases h
section
variable {G : Gm}
theorem ok_l_right (hf : At G "_law_right" s_l_right ["_law_ways", "_law_steps_so", "_law_seen"]) {EN : Addr} (U : FnD G 5 "_law_due" phi_l_due) (D1 : FnD G 6 "depths_told" (phi_told EN depthsTold)) (D2 : FnD G 6 "levels_told" (phi_told EN levelsTold)) : FnD G 7 "_law_right" phi_l_right := by
  refine fnD_of hf sc_l_right (fun ds k kx h => ?_) ?_
  · obtain ⟨W, ss, ms, rfl, _⟩ := h
    rfl
  rintro W0 T0 H0 kx hx ds kd ⟨W, ss, ms, rfl, hW, hl, hs, h1, h2, hk⟩
  obtain ⟨v0, v1, v2, v3, v4, g0, g1, g2⟩ := fa_l_right
  rw [st_l_right]
  refine set_ 3 (call_ U (ea_cons (v 0) (ea_cons (v 1) (ea_cons (v 2) ea_nil))) ⟨W, ss, ms, rfl, hW, by omega, hs, rfl⟩) ?_
  refine set_ 4 (ed_tup (ea_cons (call_ D1 (ea_cons (v 0) (ea_cons (v 1) (ea_cons (v 2) ea_nil))) (.inl ⟨W, ss, ms, rfl, hW, hl, hs, h1, h2, rfl⟩)) (ea_cons (call_ D2 (ea_cons (v 0) (ea_cons (v 1) (ea_cons (v 2) ea_nil))) (.inl ⟨W, ss, ms, rfl, hW, hl, hs, h1, h2, rfl⟩)) ea_nil))) ?_
  rw [depths_due hl, levels_due hl]
  have q := @due_both W ss ms
  generalize dueD W ss ms = a at q
  generalize dueL W ss ms = b at q
  cases a with
  | none =>
    rw [q rfl]
    refine sd_retE (ed_eq (v 4) (ed_ifF (et_notN (v 3)) rfl (ed_tup (ea_cons ed_non (ea_cons ed_non ea_nil)))) (pair_sm none none) (pair_sm none none)) ?_
    rw [decide_eq_true (show Dat.tup [encSt none, encSt none] = .tup [.non, .non] from rfl)]
    exact hk
  | some a =>
    refine sd_retE (ed_eq (v 4) (ed_ifT (et_notN (v 3)) rfl (v 3)) (pair_sm (some a) b) (pair_sm (some a) b)) ?_
    rw [decide_eq_true (show Dat.tup [encSt (some a), encSt b] = Dat.tup [encSt (some a), encSt b] from rfl)]
    exact hk
end
end FT

end
section
namespace FT
open PySem PySem.Spec PyProof.Rows L2 DL HX LamX
def badList (n : Nat) : List Dat := [.non, .tup [], .lst [.str "none"], .tup [.str "None"], .tup [.int 0], .tup (List.replicate (n + 2) (.str "none"))]
theorem bad_ok (n : Nat) (hn : n ≤ 5) : ∀ v ∈ badList n, known v = true ∧ badSeen n v = true ∧ ∀ xs, v = .tup xs → xs.length ≤ 10000 ∧ xs.all known = true ∧ xs.all (sm 8) = true := by
  have key : ∀ v ∈ badList n, known v = true ∧ badSeen n v = true ∧ (match v with | .tup xs => decide (xs.length ≤ 10000) && xs.all known && xs.all (sm 8) | _ => true) = true := by
    match n, hn with
    | 0, _ => decide +kernel
    | 1, _ => decide +kernel
    | 2, _ => decide +kernel
    | 3, _ => decide +kernel
    | 4, _ => decide +kernel
    | 5, _ => decide +kernel
  intro v hv
  obtain ⟨a, b, c⟩ := key v hv
  refine ⟨a, b, fun xs e => ?_⟩
  subst e
  simp only [Bool.and_eq_true, decide_eq_true_eq] at c
  exact ⟨c.1.1, c.1.2, c.2⟩
theorem marks_ge {W d : Nat} : ∀ (ss : List Stp) (s : Option Pl × List Mk), s.2.length ≤ (ss.foldl (mkTurn W d) s).2.length
  | [], _ => Nat.le_refl _
  | t :: ss, s => by
    rw [List.foldl_cons]
    have h := marks_ge (W := W) (d := d) ss (mkTurn W d s t)
    have h2 : s.2.length ≤ (mkTurn W d s t).2.length := by
      unfold mkTurn
      split
      · exact Nat.le_refl _
      · split
        · exact Nat.le_refl _
        · show s.2.length ≤ (s.2 ++ [_]).length
          rw [List.length_append]
          omega
    omega
theorem marksOf_len (W d : Nat) (ss : List Stp) (l : Nat) : 1 ≤ (marksOf W d ss l).length ∧ (marksOf W d ss l).length ≤ ss.length + 1 := by
  unfold marksOf
  have a := marks_len (W := W) (d := d) ss (some (l, 0), [markOf d (l, 0)])
  have b := marks_ge (W := W) (d := d) ss (some (l, 0), [markOf d (l, 0)])
  simp only [List.length_singleton] at a b
  exact ⟨b, by omega⟩
def allMk : List Mk := [.top, .leaf, .both, .none]
structure Told (G : Gm) (EN f : Addr) : Prop where
  ex : ∃ (F : Nat → List Stp → List Mk → Option (Nat × Option Nat)) (fd : FuncData) (ps : List Str), PySem.W.keepIn G.K (.ref f) = true ∧ Binds G.K fd ps [] ∧ FnOk G.P G.w G.K G.mg G.base (L2N.CX G.P G.w) 6 f fd ps (spD G.K (phi_told EN F))
section
variable {C : DC} {s w : Addr} {ns : List Int}
/-- the lambda of the law -/
theorem lam_body {G : Gm} {EN f : Addr} {N : List Str} {sc : Scope} {W : Nat} {ss : List Stp} {v : Dat} {W0 : WX} {T0 H0 : Hp} {hx} {ρ : DEnv} {p1 p2 p3 p4 p5 : Pos} (T : Told G EN f) (hW : W = 2 ∨ W = 3) (hl : ss.length ≤ 5) (hs : ∀ s ∈ ss, s.ok W) (hv : known v = true ∧ badSeen ss.length v = true ∧ ∀ xs, v = .tup xs → xs.length ≤ 10000 ∧ xs.all known = true ∧ xs.all (sm 8) = true)
    (n8 : N[8]? = some ("_law_bad" : Str)) (n9 : N[9]? = some ("_law_call_so" : Str)) (n10 : N[10]? = some ("_law_steps_so" : Str)) (n11 : N[11]? = some ("_law_ways" : Str)) (r8 : ρ[8]? = some (some (.d v))) (r9 : ρ[9]? = some (some (.d (.fn f)))) (r10 : ρ[10]? = some (some (.d (encS ss)))) (r11 : ρ[11]? = some (some (.d (.int W))))
    (s8 : Vis sc "_law_bad") (s9 : Vis sc "_law_call_so") (s10 : Vis sc "_law_steps_so") (s11 : Vis sc "_law_ways") : WD (lamC G N sc 6 W0 T0 H0 (fun v => v = .ref EN) hx) (.Call (.Name "_law_call_so" p1) [.Name "_law_ways" p2, .Name "_law_steps_so" p3, .Name "_law_bad" p4] [] p5) ρ fun _ => False := by
  obtain ⟨F, fd, ps, h1, h2, h3⟩ := T.ex
  exact wd_callV (C := lamC G N sc 6 W0 T0 H0 (fun v => v = .ref EN) hx) h1 h2 h3 (Nat.le_refl 6) n9 s9 r9 (ad_of (ea_cons (DL.ed_var 11 n11 r11 s11) (ea_cons (DL.ed_var 10 n10 r10 s10) (ea_cons (DL.ed_var 8 n8 r8 s8) ea_nil))) (.inr ⟨W, ss, v, rfl, hW, hl, hs, hv.1, hv.2.1, hv.2.2, rfl⟩)) (by decide) (by decide) (by intro _; rfl) (by intro _; rfl)
end

theorem setWC_ {C : DC} {e : Expr} {ρ : DEnv} {rest : List Stmt} {D : DEnds} {x : Str} {p pos : Pos} (i : Nat) (h : WD C e ρ fun d => SD C rest (ρ.set i (some (.d d))) D) (V : Cv C.N C.sc i x := by assumption) (hd : C.df = true := by rfl)
    (hs : ∀ env : Env, swapsWith e (some (.Name x p)) pos.line env = pure false := by intro _; rfl) : SD C (.Assign [.Name x p] e pos :: rest) ρ D := sd_setW i V.hi (.inr ⟨hd, V.hl⟩) h hs
theorem fun_okC {P : Program} {w : World} {K : PySem.W.Frag} {mg : Str → Option Value} {base : Heap} {x q : Str} {st : Stmt} {f : Addr} {fd : FuncData} {N ps : List Str} {k : Nat} {sp : Sp} {cv : Value} (F : Fun K x q st f fd) (S : FnScope N ps (defScope st)) (hcv : fd.code = cv) (hlen : ∀ vs H Q E, sp vs H Q E → vs.length = ps.length)
    (body : ∀ (A : Around) (o : List Env) (s : Shared) (H : Hp) (vs : List V) (Q : VK) (E : XK), Room k (A.deeper (envOfC q (defScope st) s.heap.objs.size f cv)) → sp vs H Q E →
      ∃ t, PSs (cxOf (L2N.CX P w) P w K mg base N q (defScope st) f cv A o s H E) (defBody st) t ∧ t { nx := fun _ H' => Q .non H', rt := Q } (L2.start N vs) H) : FnOk P w K mg base (L2N.CX P w) (k + 1) f fd ps sp := by
  obtain ⟨_, _, _, _, _, _, c, _, _, rfl, lk, hc⟩ := F.ex
  have e : c = cv := hcv
  subst e
  exact fn_of lk hc S hlen fun A o s H vs Q E hr => body A o s H vs Q E hr
/-- the context of the law -/
abbrev mkL (G : Gm) (N : List Str) (sc : Scope) (r : Nat) (W : WX) (T0 H0 : Hp) (c P : Addr) (q : Str) : DC where
  G := G
  N := N
  sc := sc
  r := r
  W := W
  wd := none
  tb := True
  jv := Tabs [(P, q ++ "<lambda>")]
  T0 := T0
  H0 := H0
  kx := fun _ => False
  df := true
  cq := fun env => env.code = .ref c ∧ env.qual = q
  stab := fun H H' h e p hp => by
    obtain ⟨ps, h1, h2, h3⟩ := h p hp
    refine ⟨ps, e _ _ h1 id, h2, fun pos cv hc => ?_⟩
    obtain ⟨c, e1, e2⟩ := h3 pos cv hc
    exact ⟨c, e1, e _ _ e2 id⟩
  hx := fun c σ T H st e _ _ hc => hc.elim
def spLaw (K : PySem.W.Frag) (P : Addr) : Sp := fun vs H Q _ => ∃ (s : Addr) (ns : List Int), vs = [.ref s] ∧ ns.length ≤ 63 ∧ H P = some (.tbl #[]) ∧ SqL K H s (ns.map V.int) ∧ ∀ H', Q (.bl true) H'
/-- any env of the law -/
def AnyEnv (s : Addr) (ρ : DEnv) : Prop := ∃ u1 u2 u3 u4 u5 u6 u7 u8 u9 u10 u11 : Option DL.Slot, ρ = [some (.d (.fn s)), u1, u2, u3, u4, u5, u6, u7, u8, u9, u10, u11]
section
variable {G : Gm} {W0 : WX} {T0 H0 : Hp} {c P EN : Addr} {q : Str}
/-- the three walks of a turn -/
theorem law_walks {hk} {w s : Addr} {D : DEnds} {rest : List Stmt} {u1 u3 u4 u5 u6 u7 u8 u9 : Option DL.Slot} {W : Nat} {ss : List Stp} (B : Blt G) (T : FnW G 1 "_law_twig" phi_l_twig) (An : FnW G 2 "_law_any" phi_l_any) (M : FnD G 4 "_law_marks" phi_l_marks) (R : FnD G 7 "_law_right" phi_l_right) (hW : W = 2 ∨ W = 3) (hl : ss.length ≤ 5) (hs : ∀ s ∈ ss, s.ok W)
    (hD : ∀ u3 u4 u5 u6, SD (woody (mkL G n_law (defScope s_law) 8 W0 T0 H0 c P q) hk w) rest [some (.d (.fn s)), u1, some (.d (.fn w)), u3, u4, u5, u6, u7, u8, u9, some (.d (encS ss)), some (.d (.int W))] D) :
    SD (woody (mkL G n_law (defScope s_law) 8 W0 T0 H0 c P q) hk w) (stAt (forBody (stAt (defBody s_law) 0)) 3 :: rest) [some (.d (.fn s)), u1, some (.d (.fn w)), u3, u4, u5, u6, u7, u8, u9, some (.d (encS ss)), some (.d (.int W))] D := by
  obtain ⟨v0, v1, v2, v3, v4, v5, v6, v7, v8, v9, v10, v11, g0, g1, g2, g3, g4, g5, g6, g7, g8, g9, g10, g11, g12⟩ := fa_law
  refine forR_ (m := ((3 : Nat) : Int)) ed_int ⟨by omega, by omega⟩ B.range (fun n ρ => ∃ u3 u4 u5 u6, ρ = [some (.d (.fn s)), u1, some (.d (.fn w)), u3, u4, u5, u6, u7, u8, u9, some (.d (encS ss)), some (.d (.int W))]) ⟨u3, u4, u5, u6, rfl⟩ ?_ ?_
  · rintro n ρ hn ⟨u3, u4, u5, u6, rfl⟩
    refine ⟨_, _, tg_ 3, ?_⟩
    refine setW_ 4 (callT_ T rfl (v 2) (ad_of (ea_cons ed_int ea_nil) ⟨8, rfl, by decide, by decide, fun d hd => ?_⟩))
    refine setW_ 5 (callW_ M (ad_cons (wd_of (vc 11) (ad_cons (wd_of (v 4) (ad_cons (wd_of (vc 10) (ad_cons (callT_ T rfl (v 2) (ad_of (ea_cons (ed_add (v 4) ed_int) ea_nil) ⟨_, rfl, by omega, by omega, fun l hl2 => ad_nil ⟨W, d, ss, l, rfl, hW, by omega, by omega, hs, by omega, ?_⟩⟩))))))))))
    have hml := marksOf_len W d ss l
    generalize marksOf W d ss l = ms at hml
    have fin : ∀ (ms : List Mk) u6, 1 ≤ ms.length → ms.length ≤ ss.length + 1 → SD (woody (mkL G n_law (defScope s_law) 8 W0 T0 H0 c P q) hk w) ((forBody (stAt (forBody (stAt (defBody s_law) 0)) 3)).drop 3) [some (.d (.fn s)), u1, some (.d (.fn w)), some (.d (.int (n : Nat))), some (.d (.int (d : Nat))), some (.d (encMs ms)), u6, u7, u8, u9, some (.d (encS ss)), some (.d (.int W))] { D with nx := fun ρ => ∃ u3 u4 u5 u6, ρ = [some (.d (.fn s)), u1, some (.d (.fn w)), u3, u4, u5, u6, u7, u8, u9, some (.d (encS ss)), some (.d (.int W))], ct := fun ρ => ∃ u3 u4 u5 u6, ρ = [some (.d (.fn s)), u1, some (.d (.fn w)), u3, u4, u5, u6, u7, u8, u9, some (.d (encS ss)), some (.d (.int W))], bk := fun ρ => SD (woody (mkL G n_law (defScope s_law) 8 W0 T0 H0 c P q) hk w) rest ρ D } := fun ms u6 h1 h2 => by
      exact sd_no (et_not (et_val (call_ R (ea_cons (vc 11) (ea_cons (vc 10) (ea_cons (v 5) ea_nil))) ⟨W, ss, ms, rfl, hW, hl, hs, h1, h2, rfl⟩))) rfl (sd_nil ⟨_, _, _, _, rfl⟩)
    refine sd_whenW (td_eqW (P := fun _ => True) (callT_ T rfl (v 2) (ad_of (ea_cons ed_int ea_nil) ⟨3, rfl, by decide, by decide, fun i hi => ⟨i, rfl, trivial⟩⟩)) ed_int fun i _ => ⟨fun _ => ?_, fun _ => fin ms _ hml.1 hml.2⟩)
    refine setW_ 6 (callT_ T rfl (v 2) (ad_of (ea_cons (len_ (v 5) rfl B.len) ea_nil) ⟨_, rfl, ?_, ?_, fun sp hsp => ?_⟩))
    · rw [List.length_map]; omega
    · rw [List.length_map]; omega
    rw [List.length_map] at hsp
    refine setW_ 5 (wd_catT (wd_catT (wd_of (ed_slT (l := none) (h := some (sp : Int)) (v 5) trivial (v 6)) (wd_tup (ad_cons (any_lit An rfl (v 2) (xs := allMk.map Mk.enc) rfl (by decide) ⟨_, rfl, (fun h => nomatch h), by decide, fun x hx => ad_nil ⟨hle, _, _, rfl, rfl, ?_, wd_of (ed_slT (l := some ((sp : Int) + 1)) (h := none) (v 5) (ed_add (v 6) ed_int) trivial) ⟨_, _, rfl, rfl, ?_, ?_⟩⟩⟩))))))
    · rw [cutL_take, List.length_take, List.length_map]
      show _ + 1 ≤ _
      omega
    · rw [show ((sp : Int) + 1) = ((sp + 1 : Nat) : Int) from rfl, cutL_take, cutL_drop, List.length_append, List.length_take, List.length_drop, List.length_map]
      show _ + 1 + _ ≤ _
      omega
    · obtain ⟨m, hm, rfl⟩ := List.mem_map.mp hx
      rw [show ((sp : Int) + 1) = ((sp + 1 : Nat) : Int) from rfl, cutL_take, cutL_drop]
      have e : (ms.map Mk.enc).take sp ++ [m.enc] ++ (ms.map Mk.enc).drop (sp + 1) = (ms.take sp ++ m :: ms.drop (sp + 1)).map Mk.enc := by
        rw [List.map_append, List.map_cons, List.map_take, List.map_drop, List.append_assoc]
        rfl
      rw [e]
      refine sd_nil (fin (ms.take sp ++ m :: ms.drop (sp + 1)) (some (.d (.int (sp : Nat)))) ?_ ?_)
      all_goals rw [List.length_append, List.length_cons, List.length_take, List.length_drop]; omega
  · rintro ρ ⟨u3, u4, u5, u6, rfl⟩
    exact hD u3 u4 u5 u6
theorem cut_m1 (a b : Dat) : cutL [a, b] (some (-1)) none = [b] := by
  unfold cutL
  rw [HT.sIx_none]
  have e : HT.sIx ([a, b] : List Dat).length 0 (some (-1)) = 1 := by
    show HT.sIx 2 0 (some (-1)) = 1
    decide +kernel
  rw [e]
  rfl
theorem bads_ed {C : DC} {ρ : DEnv} {n : Nat} {e1 e2 e3 e4 e5 lo e6 : Expr} {p1 p2 pos : Pos} (h1 : litOf 4 e1 = some .non) (h2 : litOf 4 e2 = some (.tup [])) (h3 : litOf 4 e3 = some (.lst [.str "none"])) (h4 : litOf 4 e4 = some (.tup [.str "None"])) (h5 : litOf 4 e5 = some (.tup [.str "none", .int 0])) (hlo : ED C lo ρ (.int (-1)))
    (h6 : ED C e6 ρ (.tup (List.replicate (n + 2) (.str "none")))) (s6 : isStar e6 = false) : ED C (.List [e1, e2, e3, e4, .Subscript e5 (.Slice (some lo) none none p1) p2, e6] pos) ρ (.lst (badList n)) := by
  have q5 : ED C (.Subscript e5 (.Slice (some lo) none none p1) p2) ρ (.tup [.int 0]) := by
    have z := ed_slT (C := C) (ρ := ρ) (lo := some lo) (hi := none) (l := some (-1 : Int)) (h := none) (p2 := p1) (pos := p2) (ed_lit h5) hlo trivial
    rw [cut_m1] at z
    exact z
  exact ed_lst (ea_cons (ed_lit h1) (ea_cons (ed_lit h2) (ea_cons (ed_lit h3) (ea_cons (ed_lit h4) (ea_cons q5 (ea_cons h6 ea_nil (star_ns s6)) (star_ns rfl)) (star_ns (lit_star h4))) (star_ns (lit_star h3))) (star_ns (lit_star h2))) (star_ns (lit_star h1))) (by show (6 : Nat) ≤ 100000; omega)
theorem sd_forBads {C : DC} {ρ : DEnv} {n : Nat} {e1 e2 e3 e4 e5 lo e6 tg : Expr} {p1 p2 p3 pos : Pos} {body rest : List Stmt} {D : DEnds} (h1 : litOf 4 e1 = some .non) (h2 : litOf 4 e2 = some (.tup [])) (h3 : litOf 4 e3 = some (.lst [.str "none"])) (h4 : litOf 4 e4 = some (.tup [.str "None"])) (h5 : litOf 4 e5 = some (.tup [.str "none", .int 0])) (hlo : ED C lo ρ (.int (-1)))
    (h6 : ED C e6 ρ (.tup (List.replicate (n + 2) (.str "none")))) (s6 : isStar e6 = false) (hdf : C.df = true) (J : Nat → DEnv → Prop) (h0 : J 0 ρ) (ht : ∀ n2 d ρ', (badList n)[n2]? = some d → J n2 ρ' → TurnS C tg body rest D ρ' d (J (n2 + 1))) (hd : ∀ ρ', J (badList n).length ρ' → SD C rest ρ' D) :
    SD C (.For tg (.List [e1, e2, e3, e4, .Subscript e5 (.Slice (some lo) none none p1) p2, e6] p3) body [] pos :: rest) ρ D := sd_forL hdf (bads_ed h1 h2 h3 h4 h5 hlo h6 s6) J h0 ht hd
/-- the calls with values that are none -/
theorem law_bads {hk} {w s : Addr} {D : DEnds} {rest : List Stmt} {u1 u3 u4 u5 u6 u7 u8 u9 : Option DL.Slot} {W : Nat} {ss : List Stp} (B : Blt G) (TB : TabB G.base G.mg c P) (CF : CallFacts G) (ok : CallOk G EN [false, false, false, false, true, false, false, false, false, false, false, false, true]) (D1 : FnD G 6 "depths_told" (phi_told EN depthsTold)) (D2 : FnD G 6 "levels_told" (phi_told EN levelsTold)) (hW : W = 2 ∨ W = 3) (hl : ss.length ≤ 5) (hs : ∀ s ∈ ss, s.ok W)
    (hD : ∀ u7 u8 u9, SD (woody (mkL G n_law (defScope s_law) 8 W0 T0 H0 c P q) hk w) rest [some (.d (.fn s)), u1, some (.d (.fn w)), u3, u4, u5, u6, u7, u8, u9, some (.d (encS ss)), some (.d (.int W))] D) :
    SD (woody (mkL G n_law (defScope s_law) 8 W0 T0 H0 c P q) hk w) (stAt (forBody (stAt (defBody s_law) 0)) 4 :: stAt (forBody (stAt (defBody s_law) 0)) 5 :: rest) [some (.d (.fn s)), u1, some (.d (.fn w)), u3, u4, u5, u6, u7, u8, u9, some (.d (encS ss)), some (.d (.int W))] D := by
  obtain ⟨v0, v1, v2, v3, v4, v5, v6, v7, v8, v9, v10, v11, g0, g1, g2, g3, g4, g5, g6, g7, g8, g9, g10, g11, g12⟩ := fa_law
  obtain ⟨f1, fd1, ps1, m1, k1, b1, o1⟩ := D1.ex
  obtain ⟨f2, fd2, ps2, m2, k2, b2, o2⟩ := D2.ex
  have told : ∀ f, f = f1 ∨ f = f2 → Told G EN f := by
    rintro f (rfl | rfl)
    · exact ⟨_, fd1, ps1, k1, b1, o1⟩
    · exact ⟨_, fd2, ps2, k2, b2, o2⟩
  have LC : LamCtx (woody (mkL G n_law (defScope s_law) 8 W0 T0 H0 c P q) hk w) c P q := ⟨trivial, rfl, fun env h => h, TB⟩
  refine set_ 7 (ed_repT (ed_tup (ea_cons ed_str ea_nil)) (ed_add (len_ (vc 10) rfl B.len) ed_int) ⟨by rw [List.length_map]; omega, by rw [List.length_map]; omega⟩ (fun h => nomatch h) (by decide)) ?_
  have e7 : (List.replicate (((ss.map Stp.enc).length : Int) + 2).toNat [Dat.str "none"]).flatten = List.replicate (ss.length + 2) (.str "none") := by
    have e : (((ss.map Stp.enc).length : Int) + 2).toNat = ss.length + 2 := by rw [List.length_map]; omega
    rw [e]
    generalize ss.length + 2 = m
    induction m with
    | zero => rfl
    | succ m ih => rw [List.replicate_succ, List.flatten_cons, ih, List.replicate_succ]; rfl
  rw [e7]
  refine sd_forBads (n := ss.length) rfl rfl rfl rfl rfl (ed_neg ed_int) (v 7) rfl rfl
    (fun n ρ => ∃ u8 u9, ρ = [some (.d (.fn s)), u1, some (.d (.fn w)), u3, u4, u5, u6, some (.d (.tup (List.replicate (ss.length + 2) (.str "none")))), u8, u9, some (.d (encS ss)), some (.d (.int W))]) ⟨u8, u9, rfl⟩ ?_ ?_
  · rintro n d ρ hd ⟨u8, u9, rfl⟩
    have hb := bad_ok ss.length hl d (List.mem_of_getElem? hd)
    refine ⟨_, _, tgc_ 8, ?_⟩
    refine sd_forT (ds := [.fn f1, .fn f2]) rfl (ed_tup (ea_cons (ed_glob (v := .ref f1) m1 rfl (fun _ => .fn f1) g10.h) (ea_cons (ed_glob (v := .ref f2) m2 rfl (fun _ => .fn f2) g11.h) ea_nil)))
      (fun n ρ => ∃ u9, ρ = [some (.d (.fn s)), u1, some (.d (.fn w)), u3, u4, u5, u6, some (.d (.tup (List.replicate (ss.length + 2) (.str "none")))), some (.d d), u9, some (.d (encS ss)), some (.d (.int W))]) ⟨u9, rfl⟩ ?_ ?_
    · rintro n2 d2 ρ hd2 ⟨u9, rfl⟩
      have hf : ∃ f, d2 = .fn f ∧ (f = f1 ∨ f = f2) := by
        match n2, hd2 with
        | 0, h => cases h; exact ⟨f1, rfl, .inl rfl⟩
        | 1, h => cases h; exact ⟨f2, rfl, .inr rfl⟩
        | n + 2, h => cases h
      obtain ⟨f, rfl, hf⟩ := hf
      refine ⟨_, _, tgc_ 9, ?_⟩
      refine sd_lam (k := 6) (show 8 ≤ 8 from Nat.le_refl 8) LC CF ok (by decide +kernel) (by decide +kernel) (fun W T0 H0 hx => ?_) (sd_nil ⟨_, rfl⟩) (hL := (by decide +kernel : lamSB (defScope s_law) _ = true))
      exact lam_body (told f hf) hW hl hs hb rfl rfl rfl rfl rfl rfl rfl rfl (.inr (.inr rfl)) (.inr (.inr rfl)) (.inr (.inr rfl)) (.inr (.inr rfl))
    · rintro ρ ⟨u9, rfl⟩
      exact sd_nil ⟨_, _, rfl⟩
  · rintro ρ ⟨u8, u9, rfl⟩
    exact hD _ u8 u9
theorem told_last : depthsTold 2 [.down 0] [.none, .none] = some (3, none) ∧ depthsTold 2 [.up] [.both] = some (0, some 0) ∧ levelsTold 2 [.up, .up] [.leaf, .none, .top] = some (2, some 2) := by
  refine ⟨?_, ?_, ?_⟩ <;> decide +kernel
theorem law_last {s : Addr} {u1 u2 u3 u4 u5 u6 u7 u8 u9 u10 u11 : Option DL.Slot} (D1 : FnD G 6 "depths_told" (phi_told EN depthsTold)) (D2 : FnD G 6 "levels_told" (phi_told EN levelsTold)) :
    SD (mkL G n_law (defScope s_law) 8 W0 T0 H0 c P q) ((defBody s_law).drop 1) [some (.d (.fn s)), u1, u2, u3, u4, u5, u6, u7, u8, u9, u10, u11] { nx := fun _ => False, rt := fun d => d = .bl true } := by
  obtain ⟨v0, v1, v2, v3, v4, v5, v6, v7, v8, v9, v10, v11, g0, g1, g2, g3, g4, g5, g6, g7, g8, g9, g10, g11, g12⟩ := fa_law
  obtain ⟨t1, t2, t3⟩ := told_last
  have q1 : phi_told EN depthsTold [.int 2, encS [.down 0], encMs [.none, .none]] (fun y => y = encSt (some (3, none))) (fun _ => False) := .inl ⟨2, [.down 0], [.none, .none], rfl, .inl rfl, by decide, by simp [Stp.ok], by decide, by decide, by rw [t1]⟩
  have q2 : phi_told EN depthsTold [.int 2, encS [.up], encMs [.both]] (fun y => y = encSt (some (0, some 0))) (fun _ => False) := .inl ⟨2, [.up], [.both], rfl, .inl rfl, by decide, by simp [Stp.ok], by decide, by decide, by rw [t2]⟩
  have q3 : phi_told EN levelsTold [.int 2, encS [.up, .up], encMs [.leaf, .none, .top]] (fun y => y = encSt (some (2, some 2))) (fun _ => False) := .inl ⟨2, [.up, .up], [.leaf, .none, .top], rfl, .inl rfl, by decide, by simp [Stp.ok], by decide, by decide, by rw [t3]⟩
  refine sd_no (z := false) (et_is (et_or (et_ne (call_ (d := encSt (some (3, none))) D1 (ea_cons ed_int (ea_cons (ed_lit (n := 4) (d := encS [.down 0]) rfl) (ea_cons (ed_lit (n := 4) (d := encMs [.none, .none]) rfl) ea_nil))) q1) (ed_tup (ea_cons ed_int (ea_cons ed_non ea_nil))) rfl rfl) fun _ => et_ne (call_ (d := encSt (some (0, some 0))) D1 (ea_cons ed_int (ea_cons (ed_lit (n := 4) (d := encS [.up]) rfl) (ea_cons (ed_lit (n := 4) (d := encMs [.both]) rfl) ea_nil))) q2) (ed_tup (ea_cons ed_int (ea_cons ed_int ea_nil))) rfl rfl) (by decide +kernel)) rfl ?_
  refine sd_retE (ed_eq (call_ (d := encSt (some (2, some 2))) D2 (ea_cons ed_int (ea_cons (ed_lit (n := 4) (d := encS [.up, .up]) rfl) (ea_cons (ed_lit (n := 4) (d := encMs [.leaf, .none, .top]) rfl) ea_nil))) q3) (ed_tup (ea_cons ed_int (ea_cons ed_int ea_nil))) rfl rfl) ?_
  exact congrArg Dat.bl (decide_eq_true rfl)
theorem law_sd {s : Addr} {ns : List Int} (hs0 : SqL G.K H0 s (ns.map V.int)) (TB : TabB G.base G.mg c P) (B : Blt G) (CF : CallFacts G) (ok : CallOk G EN [false, false, false, false, true, false, false, false, false, false, false, false, true]) (WO : WoodOk G) (T : FnW G 1 "_law_twig" phi_l_twig) (St : FnW G 4 "_law_steps" phi_l_steps) (An : FnW G 2 "_law_any" phi_l_any)
    (M : FnD G 4 "_law_marks" phi_l_marks) (R : FnD G 7 "_law_right" phi_l_right) (D1 : FnD G 6 "depths_told" (phi_told EN depthsTold)) (D2 : FnD G 6 "levels_told" (phi_told EN levelsTold)) :
    SD (mkL G n_law (defScope s_law) 8 W0 T0 H0 c P q) (defBody s_law) (rho0 n_law [.fn s]) { nx := fun _ => False, rt := fun d => d = .bl true } := by
  obtain ⟨v0, v1, v2, v3, v4, v5, v6, v7, v8, v9, v10, v11, g0, g1, g2, g3, g4, g5, g6, g7, g8, g9, g10, g11, g12⟩ := fa_law
  rw [st_law]
  have hmv : ¬ (mkL G n_law (defScope s_law) 8 W0 T0 H0 c P q).wv s := fun h => nomatch h
  have hk : ∀ x, ¬ (mkL G n_law (defScope s_law) 8 W0 T0 H0 c P q).kx x := fun _ h => h
  refine forR_ (ed_max2 ed_int (ed_min2 ed_int (ed_lenF (v 0) hs0 hmv B.len) g2.h B.min) g1.h B.max) (by split <;> split <;> omega) B.range (fun n ρ => AnyEnv s ρ) ⟨none, none, none, none, none, none, none, none, none, none, none, rfl⟩ ?_ ?_
  · rintro n ρ hn ⟨u1, u2, u3, u4, u5, u6, u7, u8, u9, u10, u11, rfl⟩
    have hn8 : n < 8 := by
      by_cases h1 : (if (ns.length : Int) < 8 then (ns.length : Int) else 8) > 1
      · rw [if_pos h1] at hn
        split at hn <;> omega
      · rw [if_neg h1] at hn
        omega
    clear hn
    refine ⟨_, _, tg_ 1, ?_⟩
    refine sd_wood (hk := hk) 2 WO rfl (ea_cons (v 0) (ea_cons (v 1) ea_nil)) hs0 (by omega) (fun w => ?_)
    refine setWC_ 11 (wi_k (P := fun i => ∃ W : Nat, i = W ∧ (W = 2 ∨ W = 3)) (wi_add (P := fun i => i = 2) (P' := fun i => ∃ n : Nat, i = n ∧ n < 2) (wi_of ed_int rfl) (callT_ T rfl (v 2) (ad_of (ea_cons ed_int ea_nil) ⟨2, rfl, by decide, by decide, fun n hn => ⟨n, rfl, n, rfl, by omega⟩⟩)) ?_) ?_)
    · rintro i j rfl ⟨n, rfl, hn⟩
      exact ⟨2 + n, by omega, by omega⟩
    rintro i ⟨W, rfl, hW⟩
    refine setWC_ 10 (callT_ St rfl (v 2) (ad_of (ea_cons (vc 11) (ea_cons ed_int ea_nil)) ⟨W, 5, rfl, hW, by decide, by decide, fun ss hl hs => ?_⟩))
    refine law_walks B T An M R hW hl hs fun u3 u4 u5 u6 => ?_
    refine law_bads B TB CF ok D1 D2 hW hl hs fun u7 u8 u9 => ?_
    exact sd_nil ⟨_, _, _, _, _, _, _, _, _, _, _, rfl⟩
  · rintro ρ ⟨u1, u2, u3, u4, u5, u6, u7, u8, u9, u10, u11, rfl⟩
    exact law_last D1 D2
theorem ok_law {f c P EN : Addr} {fd : FuncData} (hf : Fun G.K "law" "law" s_law f fd) (hcv : fd.code = .ref c) (TB : TabB G.base G.mg c P) (B : Blt G) (CF : CallFacts G) (ok : CallOk G EN [false, false, false, false, true, false, false, false, false, false, false, false, true]) (WO : WoodOk G) (T : FnW G 1 "_law_twig" phi_l_twig) (St : FnW G 4 "_law_steps" phi_l_steps) (An : FnW G 2 "_law_any" phi_l_any)
    (M : FnD G 4 "_law_marks" phi_l_marks) (R : FnD G 7 "_law_right" phi_l_right) (D1 : FnD G 6 "depths_told" (phi_told EN depthsTold)) (D2 : FnD G 6 "levels_told" (phi_told EN levelsTold)) :
    FnOk G.P G.w G.K G.mg G.base (L2N.CX G.P G.w) 9 f fd ["_law_script"] (spLaw G.K P) := by
  refine fun_okC hf sc_law hcv (fun vs H Q E h => ?_) (fun A outer s0 H vs Q E hr h => ?_)
  · obtain ⟨_, _, rfl, _⟩ := h
    rfl
  obtain ⟨s, ns, rfl, hlen, hP, hs0, hQ⟩ := h
  have hA : IsA G.K (fun _ => none) [V.ref s] [.fn s] := .cons (.fn s) .nil
  have eT : Evl.Ex (fun _ => none) H := fun a o h => by cases h
  refine ⟨_, ps_we, ?_⟩
  have FX : Fx (mkL G n_law (defScope s_law) 8 (fun cls d _ H => E cls d H) (fun _ => none) H c P "law.<locals>.") (cxOf (L2N.CX G.P G.w) G.P G.w G.K G.mg G.base n_law "law" (defScope s_law) f (.ref c) A outer s0 H E) := by
    exact { prog := rfl, wld := rfl, K := rfl, mg := rfl, base := rfl, N := rfl, sc := rfl, nd := sc_law.nd, calm := rfl, room := hr, tk := L2N.takes_of rfl rfl rfl rfl, fn := fun _ _ => rfl, own := fun _ => passes_of rfl, cq := ⟨rfl, rfl⟩ }
  have ST : DSt (mkL G n_law (defScope s_law) 8 (fun cls d _ H => E cls d H) (fun _ => none) H c P "law.<locals>.") (L2.start n_law [V.ref s]) (fun _ => none) H (rho0 n_law [.fn s]) := by
    refine ⟨eT, Step.refl, (fun p hp => ?_), (fun w h => nomatch h), (fun a h => nomatch h), (fun a ps h => nomatch h), ⟨rfl, fun i y h => start_at hA i y h, fun i s h ho => ?_, fun i j s u p _ h _ ho _ => ?_⟩⟩
    · rw [List.mem_singleton.mp hp]
      exact TabS.nil hP
    all_goals
      exfalso
      match i, h with
      | 0, h => cases h; exact ho
      | 1, h => cases h
      | 2, h => cases h
      | 3, h => cases h
      | 4, h => cases h
      | 5, h => cases h
      | 6, h => cases h
      | 7, h => cases h
      | 8, h => cases h
      | 9, h => cases h
      | 10, h => cases h
      | 11, h => cases h
      | n + 12, h => cases h
  refine ws_mono (law_sd hs0 TB B CF ok WO T St An M R D1 D2 _ FX _ _ H _ ST (Evl.Ex.refl _)) (fun σ' H' ⟨T', ρ', S', _, k'⟩ => k'.elim) (fun v H' ⟨T', d, R, iv, e⟩ => ?_) (fun _ _ ⟨_, _, _, _, z⟩ => z) (fun _ _ ⟨_, _, _, _, z⟩ => z)
  subst e
  cases iv
  exact hQ H'
end
end FT

end
section
namespace FT
open PySem PySem.Spec PyProof.Rows L2 Evl DL
section
variable {G : Gm}
theorem ok_power (hf : At G "power" s_power ["base", "many"]) (B : Blt G) : FnD G 1 "power" phi_power := by
  refine fnD_of hf sc_power (fun ds k kx h => ?_) ?_
  · obtain ⟨b, m, rfl, _⟩ := h
    rfl
  rintro W T0 H0 kx hx ds kd ⟨b, m, rfl, hm, h1, h2, hk⟩
  obtain ⟨v0, v1, v2, v3, g0⟩ := fa_power
  rw [st_power]
  refine set_ 2 ed_int ?_
  refine forR_ (v 1) ⟨by omega, by omega⟩ B.range (fun n ρ => ∃ t, ρ = [some (.d (.int b)), some (.d (.int m)), some (.d (.int (b ^ n))), t]) ⟨none, by rw [Int.pow_zero]; rfl⟩ ?_ ?_
  · rintro n ρ hn ⟨t, rfl⟩
    refine ⟨_, _, tg_ 3, ?_⟩
    refine set_ 2 (ed_mul (v 2) (v 0) (.inr ⟨h1, h2⟩)) (sd_nil ⟨some (.d (.int (n : Int))), ?_⟩)
    rw [Int.pow_succ]
    rfl
  · rintro ρ ⟨t, rfl⟩
    exact sd_retE (v 2) (by rw [Int.toNat_natCast]; exact hk)
theorem ok_is_int (hf : At G "is_int" s_is_int ["value", "low", "high"]) (B : Blt G) : FnD G 1 "is_int" phi_is_int := by
  refine fnD_of hf sc_is_int (fun ds k kx h => ?_) ?_
  · obtain ⟨v, lo, hi, rfl, _⟩ := h
    rfl
  rintro W T0 H0 kx hx ds kd ⟨d, lo, hi, rfl, hv, hk⟩
  obtain ⟨v0, v1, v2, g0, g1, g2⟩ := fa_is_int
  rw [st_is_int]
  cases d with
  | int i =>
    refine sd_retE (ed_and3 (int_ (v 0) rfl B.int B.isinstance) (fun _ => ed_not (bool_ (v 0) rfl B.bool B.isinstance)) fun _ _ => ed_leLe (v 1) (v 0) (v 2)) ?_
    exact hk
  | fn a => cases hv
  | bl b =>
    refine sd_retE (ed_and3 (z := false) (int_ (v 0) rfl B.int B.isinstance) (fun _ => ed_not (bool_ (v 0) rfl B.bool B.isinstance)) fun _ h => by cases h) ?_
    exact hk
  | _ =>
    refine sd_retE (ed_and3 (y := false) (z := false) (int_ (v 0) rfl B.int B.isinstance) (fun h => by cases h) fun h => by cases h) ?_
    exact hk
theorem ok_step_to (hf : At G "step_to" s_step_to ["tree", "step", "place"]) (P : FnD G 1 "power" phi_power) : FnD G 2 "step_to" phi_step_to := by
  refine fnD_of hf sc_step_to (fun ds k kx h => ?_) ?_
  · obtain ⟨W, d, s, p, rfl, _⟩ := h
    rfl
  rintro W0 T0 H0 kx hx ds kd ⟨W, d, s, ⟨l, n⟩, rfl, t, hs, hl, hk⟩
  have hW : 2 ≤ W ∧ W ≤ 3 := by rcases t.wm with h | h <;> omega
  have hl : l ≤ d := hl
  have hd := t.dm
  have hp := t.le hl
  obtain ⟨v0, v1, v2, v3, v4, v5, v6, v7, v8, v9, g0⟩ := fa_step_to
  rw [st_step_to, Stp.enc_eq]
  refine unpack_ 3 4 (v 0) ?_
  refine unpack_ 5 6 (v 2) ?_
  refine par_ 7 8 (ed_ixT (v 1) ed_int (atI0 _ _)) (call_ P (ea_cons (v 3) (ea_cons (v 5) ea_nil)) ⟨_, _, rfl, by omega, by omega, by omega, rfl⟩) ?_
  cases s with
  | up =>
    refine sd_yes (et_eqS (v 7) ed_str) (by decide +kernel) ?_
    by_cases h : 0 < l
    · refine sd_retE (ed_ifT (et_gt (v 5) ed_int) (decide_eq_true (by omega)) (ed_tup (ea_cons (ed_sub (v 5) ed_int) (ea_cons (ed_div (v 6) (v 3) ⟨by omega, by omega⟩) ea_nil)))) ?_
      have e : stepTo W d .up (l, n) = some (l - 1, n / W) := if_pos h
      rw [e] at hk
      have e2 : ((l - 1 : Nat) : Int) = (l : Int) - 1 := by omega
      simp only [encO, encP, e2] at hk
      exact hk
    · refine sd_retE (ed_ifF (et_gt (v 5) ed_int) (decide_eq_false (by omega)) ed_non) ?_
      have e : stepTo W d .up (l, n) = none := if_neg h
      rw [e] at hk
      exact hk
  | down w =>
    refine sd_no (et_eqS (v 7) ed_str) (decide_eq_false (show ¬ ("down" : Str) = "up" by decide +kernel)) ?_
    refine sd_yes (et_eqS (v 7) ed_str) (decide_eq_true rfl) ?_
    by_cases h : l < d
    · refine sd_retE (ed_ifT (et_lt (v 5) (v 4)) (decide_eq_true (by omega)) (ed_tup (ea_cons (ed_add (v 5) ed_int) (ea_cons (ed_add (ed_mul (v 6) (v 3) (.inr ⟨by omega, by omega⟩)) (ed_ixT (v 1) ed_int (atI1 _ _ _))) ea_nil)))) ?_
      have e : stepTo W d (.down w) (l, n) = some (l + 1, n * W + w) := if_pos h
      rw [e] at hk
      exact hk
    · refine sd_retE (ed_ifF (et_lt (v 5) (v 4)) (decide_eq_false (by omega)) ed_non) ?_
      have e : stepTo W d (.down w) (l, n) = none := if_neg h
      rw [e] at hk
      exact hk
  | leaf w =>
    have hw : w < W := hs
    have hp2 := t.le (show d - l ≤ d by omega)
    have e2 : (d : Int) - (l : Int) = ((d - l : Nat) : Int) := by omega
    refine sd_no (et_eqS (v 7) ed_str) (decide_eq_false (show ¬ ("leaf" : Str) = "up" by decide +kernel)) ?_
    refine sd_no (et_eqS (v 7) ed_str) (decide_eq_false (show ¬ ("leaf" : Str) = "down" by decide +kernel)) ?_
    refine sd_yes (et_eqS (v 7) ed_str) (decide_eq_true rfl) ?_
    refine set_ 9 (call_ P (ea_cons (v 3) (ea_cons (ed_is (ed_sub (v 4) (v 5)) (congrArg Dat.int e2)) ea_nil)) ⟨_, _, rfl, by omega, by omega, by omega, rfl⟩) ?_
    refine sd_retE (ed_tup (ea_cons (v 4) (ea_cons (ed_add (ed_mul (v 6) (v 9) (.inr ⟨by omega, by omega⟩)) (ed_mul (ed_ixT (v 1) ed_int (atI1 _ _ _)) (ed_div (ed_sub (v 9) ed_int) (ed_sub (v 3) ed_int) ⟨by omega, by omega⟩) (.inl ⟨by omega, by omega⟩))) ea_nil))) ?_
    exact hk
  | next =>
    refine sd_no (et_eqS (v 7) ed_str) (decide_eq_false (show ¬ ("next" : Str) = "up" by decide +kernel)) ?_
    refine sd_no (et_eqS (v 7) ed_str) (decide_eq_false (show ¬ ("next" : Str) = "down" by decide +kernel)) ?_
    refine sd_no (et_eqS (v 7) ed_str) (decide_eq_false (show ¬ ("next" : Str) = "leaf" by decide +kernel)) ?_
    refine sd_yes (et_eqS (v 7) ed_str) (decide_eq_true rfl) ?_
    refine sd_retE (ed_tup (ea_cons (v 5) (ea_cons (ed_mod (ed_add (v 6) ed_int) (v 8) hp.1) ea_nil))) ?_
    exact hk
  | last =>
    refine sd_no (et_eqS (v 7) ed_str) (decide_eq_false (show ¬ ("last" : Str) = "up" by decide +kernel)) ?_
    refine sd_no (et_eqS (v 7) ed_str) (decide_eq_false (show ¬ ("last" : Str) = "down" by decide +kernel)) ?_
    refine sd_no (et_eqS (v 7) ed_str) (decide_eq_false (show ¬ ("last" : Str) = "leaf" by decide +kernel)) ?_
    refine sd_no (et_eqS (v 7) ed_str) (decide_eq_false (show ¬ ("last" : Str) = "next" by decide +kernel)) ?_
    refine sd_yes (et_eqS (v 7) ed_str) (decide_eq_true rfl) ?_
    refine sd_retE (ed_tup (ea_cons (v 5) (ea_cons (ed_mod (ed_sub (v 6) ed_int) (v 8) hp.1) ea_nil))) ?_
    exact hk
  | mirror =>
    refine sd_no (et_eqS (v 7) ed_str) (decide_eq_false (show ¬ ("mirror" : Str) = "up" by decide +kernel)) ?_
    refine sd_no (et_eqS (v 7) ed_str) (decide_eq_false (show ¬ ("mirror" : Str) = "down" by decide +kernel)) ?_
    refine sd_no (et_eqS (v 7) ed_str) (decide_eq_false (show ¬ ("mirror" : Str) = "leaf" by decide +kernel)) ?_
    refine sd_no (et_eqS (v 7) ed_str) (decide_eq_false (show ¬ ("mirror" : Str) = "next" by decide +kernel)) ?_
    refine sd_no (et_eqS (v 7) ed_str) (decide_eq_false (show ¬ ("mirror" : Str) = "last" by decide +kernel)) ?_
    refine sd_retE (ed_ifT (et_eqS (v 7) ed_str) (decide_eq_true rfl) (ed_tup (ea_cons (v 5) (ea_cons (ed_sub (ed_sub (v 8) ed_int) (v 6)) ea_nil)))) ?_
    exact hk
  | top =>
    refine sd_no (et_eqS (v 7) ed_str) (decide_eq_false (show ¬ ("top" : Str) = "up" by decide +kernel)) ?_
    refine sd_no (et_eqS (v 7) ed_str) (decide_eq_false (show ¬ ("top" : Str) = "down" by decide +kernel)) ?_
    refine sd_no (et_eqS (v 7) ed_str) (decide_eq_false (show ¬ ("top" : Str) = "leaf" by decide +kernel)) ?_
    refine sd_no (et_eqS (v 7) ed_str) (decide_eq_false (show ¬ ("top" : Str) = "next" by decide +kernel)) ?_
    refine sd_no (et_eqS (v 7) ed_str) (decide_eq_false (show ¬ ("top" : Str) = "last" by decide +kernel)) ?_
    refine sd_retE (ed_ifF (et_eqS (v 7) ed_str) (decide_eq_false (show ¬ ("top" : Str) = "mirror" by decide +kernel)) (ed_tup (ea_cons ed_int (ea_cons ed_int ea_nil)))) ?_
    exact hk
end
end FT

end
section
namespace FT
open PySem PySem.Spec PyProof.Rows L2 Evl DL
def innerSteps : List Stp := [.next, .last, .mirror, .next]
def innerSteps2 : List Stp := [.next, .mirror]
theorem inner_ok {W : Nat} : ∀ s ∈ innerSteps, s.ok W := by
  intro s hs
  simp only [innerSteps, List.mem_cons, List.not_mem_nil, or_false] at hs
  rcases hs with rfl | rfl | rfl | rfl <;> exact True.intro
theorem inner_ok2 {W : Nat} : ∀ s ∈ innerSteps2, s.ok W := by
  intro s hs
  simp only [innerSteps2, List.mem_cons, List.not_mem_nil, or_false] at hs
  rcases hs with rfl | rfl <;> exact True.intro
def bases (st st2 : Stp) (n : Nat) : List (List Stp) := [[.up, st, .down n], [st, .up, .down n], [st, st2], [.leaf n, st, .up]]
theorem bases_ok {W n : Nat} {st st2 : Stp} (h1 : st.ok W) (h2 : st2.ok W) (hn : n < W) : ∀ b ∈ bases st st2 n, b.length ≤ 3 ∧ ∀ s ∈ b, s.ok W := by
  intro b hb
  simp only [bases, List.mem_cons, List.not_mem_nil, or_false] at hb
  rcases hb with rfl | rfl | rfl | rfl
  all_goals
    refine ⟨by simp, fun s hs => ?_⟩
    simp only [List.mem_cons, List.not_mem_nil, or_false] at hs
  · rcases hs with rfl | rfl | rfl
    · exact True.intro
    · exact h1
    · exact hn
  · rcases hs with rfl | rfl | rfl
    · exact h1
    · exact True.intro
    · exact hn
  · rcases hs with rfl | rfl
    · exact h1
    · exact h2
  · rcases hs with rfl | rfl | rfl
    · exact hn
    · exact h1
    · exact True.intro
section
variable {G : Gm}
theorem ok_l_steps (hf : At G "_law_steps" s_l_steps ["_law_wood_here", "_law_ways", "_law_most"]) (B : Blt G) (O : FnW G 3 "_law_one_step" phi_l_one_step) (A : FnW G 2 "_law_any" phi_l_any) (T : FnW G 1 "_law_twig" phi_l_twig) : FnW G 4 "_law_steps" phi_l_steps := by
  refine fnW_of hf sc_l_steps (fun ds k h => ?_) ?_
  · obtain ⟨W, m, rfl, _⟩ := h
    rfl
  rintro W0 T0 H0 w ds kd ⟨W, m, rfl, hW, h4, h5, hk⟩
  obtain ⟨v0, v1, v2, v3, v4, v5, v6, g0, g1, g2, g3⟩ := fa_l_steps
  rw [st_l_steps]
  refine setW_ 3 (wd_tupleOf (wd_lc (lcd_range (P := fun d => ∃ n : Nat, d = .int n ∧ n ≤ m) [("_law_turn", 7)] (callT_ T rfl (vc 0) (ad_of (ea_cons (ed_add (v 2) ed_int) ea_nil) ⟨_, rfl, by omega, by omega, fun n hn => ⟨n, rfl, by omega⟩⟩)) ?_ (blkOk_by (N := n_l_steps) (sc := defScope s_l_steps) (by decide +kernel)) rfl B.range
    (fun n acc => ∃ ss : List Stp, acc = ss.map Stp.enc ∧ ss.length = n ∧ ∀ s ∈ ss, s.ok W) ⟨[], rfl, rfl, fun s h => nomatch h⟩ ?_ ?_)) rfl B.tuple)
  · rintro d ⟨n, rfl, hn⟩
    exact ⟨n, rfl, by omega, by omega⟩
  · rintro m' n acc ⟨n', e, hn'⟩ hn ⟨ss, rfl, hl, hs⟩
    refine ⟨_, gd_name 7 rfl (.inl rfl), ⟨fun _ => ?_, fun h => nomatch h⟩⟩
    refine wd_callT O hle rfl rfl (ad_of (ea_cons (vv 0) (ea_cons (vv 1) ea_nil)) ⟨_, rfl, W, rfl, hW, fun s hs1 => ⟨ss ++ [s], ?_, ?_, ?_⟩⟩)
    · rw [List.map_append]
      rfl
    · rw [List.length_append, hl]
      rfl
    · intro z hz
      rcases List.mem_append.mp hz with hz | hz
      · exact hs z hz
      · rw [List.mem_singleton.mp hz]
        exact hs1
  rintro m' acc ⟨n', e, hn'⟩ ⟨ss, rfl, hl, hs⟩
  cases Dat.int.inj e
  rw [Int.toNat_natCast] at hl
  refine ⟨_, rfl, ?_⟩
  refine sd_whenW (td_or2 (td_eqW (P := fun _ => True) (callT_ T rfl (vc 0) (ad_of (ea_cons ed_int ea_nil) ⟨_, rfl, by decide, by decide, fun n hn => ⟨n, rfl, trivial⟩⟩)) ed_int fun i _ => ⟨fun _ => td_of (et_lt (v 2) ed_int) ⟨fun e => ?_, fun _ => ?_⟩, fun _ => ⟨fun _ => sd_retE (v 3) (hk ss (by omega) hs), fun h => nomatch h⟩⟩))
  · have e := of_decide_eq_true e
    omega
  refine setW_ 4 (any_lit A rfl (vc 0) (xs := innerSteps.map Stp.enc) rfl (by decide) ⟨_, rfl, (fun h => nomatch h), by decide, fun x hx => ?_⟩)
  obtain ⟨st, hst, rfl⟩ := List.mem_map.mp hx
  refine setW_ 5 (callT_ T rfl (vc 0) (ad_of (ea_cons (vc 1) ea_nil) ⟨_, rfl, wpos hW, by omega, fun n hn => ?_⟩))
  refine set_ 6 (d := .lst [encS [.up, st, .down n], encS [st, .up, .down n]]) (ed_lst (ea_cons (ed_tup (ea_cons (ed_lit (n := 2) rfl) (ea_cons (v 4) (ea_cons (ed_tup (ea_cons ed_str (ea_cons (v 5) ea_nil))) ea_nil)))) (ea_cons (ed_tup (ea_cons (v 4) (ea_cons (ed_lit (n := 2) rfl) (ea_cons (ed_tup (ea_cons ed_str (ea_cons (v 5) ea_nil))) ea_nil)))) ea_nil))) ?_
  refine setW_ 6 (wd_catL (wd_of (v 6) (wd_lst (ad_cons (wd_tup (ad_cons (wd_of (v 4) (ad_cons (any_lit A rfl (vc 0) (xs := innerSteps2.map Stp.enc) rfl (by decide) ⟨_, rfl, (fun h => nomatch h), by decide, fun x hx => ad_nil ⟨hle, ?_⟩⟩)))))))))
  obtain ⟨st2, hst2, rfl⟩ := List.mem_map.mp hx
  refine ad_of (ea_cons (ed_tup (ea_cons (ed_tup (ea_cons ed_str (ea_cons (v 5) ea_nil))) (ea_cons (v 4) (ea_cons (ed_lit (n := 2) rfl) ea_nil)))) ea_nil) ⟨hle, _, _, rfl, rfl, hle, ?_⟩
  have b := bases_ok (W := W) (inner_ok st hst) (inner_ok2 st2 hst2) (show n < W by omega)
  show SD _ _ [_, _, _, _, _, _, some (.d (.lst ((bases st st2 n).map encS))), _] _
  refine sd_ret (wd_catT (callT_ A rfl (vc 0) (ad_of (ea_cons (v 6) ea_nil) ⟨(bases st st2 n).map encS, rfl, (fun h => nomatch h), hle, fun x hx => ?_⟩)))
  obtain ⟨bs, hbs, rfl⟩ := List.mem_map.mp hx
  obtain ⟨b1, b2⟩ := b bs hbs
  refine wd_of (ed_slT (l := none) (h := some (1 : Int)) (ed_slT (l := none) (h := some ((m : Int) - 3)) (v 3) trivial (ed_sub (v 2) ed_int)) trivial ed_int) ⟨_, _, rfl, rfl, ?_, ?_⟩
  all_goals rw [show (m : Int) - 3 = ((m - 3 : Nat) : Int) by omega, cutL_take, show (1 : Int) = ((1 : Nat) : Int) from rfl, cutL_take]
  · rw [List.length_map, List.length_take, List.length_take]
    omega
  · have z := hk (bs ++ (ss.take (m - 3)).take 1) (by rw [List.length_append, List.length_take]; omega) (fun s h => by
      rcases List.mem_append.mp h with h | h
      · exact b2 s h
      · exact hs s (List.mem_of_mem_take (List.mem_of_mem_take h)))
    have e : encS (bs ++ (ss.take (m - 3)).take 1) = .tup (bs.map Stp.enc ++ ((ss.map Stp.enc).take (m - 3)).take 1) := by
      unfold encS
      rw [List.map_append, List.map_take, List.map_take]
    rw [e] at z
    exact z
end
end FT

end
section
namespace FT
open PySem PySem.Spec PyProof.Rows L2 DL HX LamX
def bsSeen : List Bool := [false, false, false, false, true, false, false, false, false, false, false, false, true]
theorem fin_k15 {l : PySem.W.OpenLaw} {w : World} {K : PySem.W.Frag} {h : Heap} {mg : Str → Option Value} {fa c P0 EW ES EN TE C1 C2 aw aa am : Addr} {t5 t8 : Tok} {ow oa om : Obj} {iw ia im : Array Value} {nw na nm : Nat} (X : K.In h) (N : h.Ns mainGlobals mg) (hfa : mg "law" = some (.ref fa)) (hT : ∀ Q ∈ [P0], h.get? Q = some (PySem.W.tabObj #[])) (D : DefsK K c) (hC : PySem.W.codeHdIn K c P0 = true) (nT : K.lookup P0 = none) (B : BltK K)
    (e1 : ExcK K "InvalidWays" EW) (e2 : ExcK K "InvalidScript" ES) (e3 : ExcK K "InvalidSeen" EN) (cl : ClsK K EN bsSeen TE C1 C2) (m5 : PySem.W.nsIn K mainGlobals ("MOST_STEPS" : Str) = some (some (.int 5 t5))) (m8 : PySem.W.nsIn K mainGlobals ("ENOUGH" : Str) = some (some (.int 8 t8)))
    (g1 : PySem.W.nsIn K mainGlobals ("WITH_WAY" : Str) = some (some (.ref aw))) (l1 : K.lookup aw = some ow) (c1 : ow.cls = .type "tuple") (d1 : ow.data = .seq iw nw) (z1 : iw.size ≤ sizeLine) (v1 : Vals ((["down", "leaf"] : List Str).map V.str) iw.toList)
    (g2 : PySem.W.nsIn K mainGlobals ("ALONE" : Str) = some (some (.ref aa))) (l2 : K.lookup aa = some oa) (c2 : oa.cls = .type "tuple") (d2 : oa.data = .seq ia na) (z2 : ia.size ≤ sizeLine) (v2 : Vals ((["up", "next", "last", "mirror", "top"] : List Str).map V.str) ia.toList)
    (g3 : PySem.W.nsIn K mainGlobals ("MARKS" : Str) = some (some (.ref am))) (l3 : K.lookup am = some om) (c3 : om.cls = .type "tuple") (d3 : om.data = .seq im nm) (z3 : im.size ≤ sizeLine) (v3 : Vals (mkNames.map V.str) im.toList) : LawAtS l w K (L2N.CX l.prog w) 40 63 "_law_script" mg fa h := by
  obtain ⟨f, oc, od, kV, dc, pm, an, ct, osl, a, lf, cf, kf⟩ := D.d_law.ex
  have e := hfa.symm.trans (PySem.W.mg_of X N a)
  cases e
  have F := fun_mk lf cf kf
  refine ⟨PySem.W.fnOf "law" "law" (defArgs s_law) (defBody s_law) (defScope s_law) .none kV dc pm an (.ref c) ct, [(c, P0)], spLaw K P0, fun p hp => ?_, fun p hp => ?_, fun p hp => ?_, fun s u => .of_eq rfl, fun H s ns hl _ hH hS => ?_, fun base X1 N1 TB => ?_⟩
  · rw [List.mem_singleton.mp hp]
    exact hT P0 (List.mem_singleton.mpr rfl)
  · rw [List.mem_singleton.mp hp]
    exact nT
  · rw [List.mem_singleton.mp hp]
    exact PySem.W.codeHd_of_K X hC
  · exact ⟨s, ns, rfl, hl, hH _ (List.mem_singleton.mpr rfl), hS, fun _ => rfl⟩
  · let G : Gm := { P := l.prog, w := w, K := K, mg := mg, base := base }
    have Bb : Blt G := BltK.b (G := G) X N B
    have CF : CallFacts G := callFacts_mk (G := G) X N cl (at_l_call X N D) (at_l_kinds X N D) (mg0 X N B.isinstance) (mg0 X N B.zip)
    have ok : CallOk G EN bsSeen := ClsK.ok (G := G) X N cl
    have K1 : KTup G "WITH_WAY" ["down", "leaf"] := ktup_mk (G := G) X N g1 l1 c1 d1 z1 v1
    have K2 : KTup G "ALONE" ["up", "next", "last", "mirror", "top"] := ktup_mk (G := G) X N g2 l2 c2 d2 z2 v2
    have K3 : KTup G "MARKS" mkNames := ktup_mk (G := G) X N g3 l3 c3 d3 z3 v3
    have E1 : ExcF G "InvalidWays" EW := ExcK.f (G := G) X N e1
    have E2 : ExcF G "InvalidScript" ES := ExcK.f (G := G) X N e2
    have E3 : ExcF G "InvalidSeen" EN := ExcK.f (G := G) X N e3
    have M5 : G.mg "MOST_STEPS" = some (.int 5 t5) := mgE X N m5
    have M8 : G.mg "ENOUGH" = some (.int 8 t8) := mgE X N m8
    have o1 := ok_power (at_power (G := G) X N D) Bb
    have o2 := ok_is_int (at_is_int (G := G) X N D) Bb
    have o3 := ok_step_to (at_step_to (G := G) X N D) o1
    have o4 := ok_is_step (at_is_step (G := G) X N D) Bb o2 K1 K2
    have o5 := ok_are_steps (at_are_steps (G := G) X N D) Bb o4
    have o6 := ok_need_ways (at_need_ways (G := G) X N D) E1 o2
    have o7 := ok_need_script (at_need_script (G := G) X N D) E2 M5 o5
    have o8 := ok_all_levels (at_all_levels (G := G) X N D) Bb
    have o9 := ok_mark_of (at_mark_of (G := G) X N D)
    have o10 := ok_marks_of (at_marks_of (G := G) X N D) o9 o3
    have o11 := ok_need_seen (at_need_seen (G := G) X N D) Bb E3 K3
    have o12 := ok_fitting (at_fitting (G := G) X N D) Bb M8 o6 o7 o11 o8 o10
    have o13 := ok_depths_told (at_depths_told (G := G) X N D) Bb M8 o12
    have o14 := ok_levels_told (at_levels_told (G := G) X N D) Bb M8 o12
    have p1 := ok_l_figures (at_l_figures (G := G) X N D) Bb
    have p2 := ok_l_by_figures (at_l_by_figures (G := G) X N D) Bb
    have p3 := ok_l_moved (at_l_moved (G := G) X N D) Bb
    have p4 := ok_l_step_so (at_l_step_so (G := G) X N D) Bb p3
    have p5 := ok_l_out (at_l_out (G := G) X N D) p1 p4 p2
    have p6 := ok_l_twig (at_l_twig (G := G) X N D) Bb
    have p7 := ok_l_any (at_l_any (G := G) X N D) Bb p6
    have p8 := ok_l_one_step (at_l_one_step (G := G) X N D) Bb p7 p6
    have p9 := ok_l_steps (at_l_steps (G := G) X N D) Bb p8 p7 p6
    have p10 := ok_l_wood (at_l_wood (G := G) X N D) Bb
    have p11 := ok_l_marks (at_l_marks (G := G) X N D) p5
    have p12 := ok_l_due (at_l_due (G := G) X N D) Bb p11
    have p13 := ok_l_right (at_l_right (G := G) X N D) p12 o13 o14
    have TB' : TabB G.base G.mg c P0 := TB (c, P0) (List.mem_singleton.mpr rfl)
    exact (ok_law (G := G) F rfl TB' Bb CF ok p10 p6 p9 p7 p11 p13 o13 o14).mono (by decide)
end FT

end
section
open PySem PySem.W PyProof.Rows
set_option maxHeartbeats 0 in
theorem PySem.Challenge.cw_fulltrees_k15_marks_that_were_seen_holds : PySem.Challenge.rw_fulltrees_k15_marks_that_were_seen.Holds := by
  w_on; o_law; k_head; (case hw => w_witness2)
  k_fill
  refine LamX.walk_ofTs (l := PySem.Challenge.rw_fulltrees_k15_marks_that_were_seen) (n := 63) (k := 40) (x := "_law_script") (CX := fun w => L2N.CX (PySem.Challenge.rw_fulltrees_k15_marks_that_were_seen).prog w) rfl (by decide) rfl ⟨rfl, by decide, by decide⟩ (fun w h Y => PySem.W.km_in_of Y) ?F ?hCX
  case hCX => exact fun _ _ _ _ _ ⟨_, _, _, _, _, _, _, _, _, _, _, _, z⟩ => z
  case F =>
    intro w mg fa h Y KX G hmg
    have hT8 := km_tabs_of Y
    refine' FT.fin_k15 KX G hmg hT8 ?D ?hC ?nT ?B ?e1 ?e2 ?e3 ?cl ?m5 ?m8 ?g1 ?l1 ?c1 ?d1 ?z1 ?v1 ?g2 ?l2 ?c2 ?d2 ?z2 ?v2 ?g3 ?l3 ?c3 ?d3 ?z3 ?v3
    case D =>
      refine' ⟨?e_0, ?e_1, ?e_2, ?e_3, ?e_4, ?e_5, ?e_6, ?e_7, ?e_8, ?e_9, ?e_10, ?e_11, ?e_12, ?e_13, ?e_14, ?e_15, ?e_16, ?e_17, ?e_18, ?e_19, ?e_20, ?e_21, ?e_22, ?e_23, ?e_24, ?e_25, ?e_26, ?e_27, ?e_28, ?e_29⟩
      (case e_0 => refine' FT.defKE ?a ?l ?c ?k; (case a => k_is); (case l => k_is); (case c => k_is); (case k => k_is))
      (case e_1 => refine' FT.defKE ?a ?l ?c ?k; (case a => k_is); (case l => k_is); (case c => k_is); (case k => k_is))
      (case e_2 => refine' FT.defKE ?a ?l ?c ?k; (case a => k_is); (case l => k_is); (case c => k_is); (case k => k_is))
      (case e_3 => refine' FT.defKE ?a ?l ?c ?k; (case a => k_is); (case l => k_is); (case c => k_is); (case k => k_is))
      (case e_4 => refine' FT.defKE ?a ?l ?c ?k; (case a => k_is); (case l => k_is); (case c => k_is); (case k => k_is))
      (case e_5 => refine' FT.defKE ?a ?l ?c ?k; (case a => k_is); (case l => k_is); (case c => k_is); (case k => k_is))
      (case e_6 => refine' FT.defKE ?a ?l ?c ?k; (case a => k_is); (case l => k_is); (case c => k_is); (case k => k_is))
      (case e_7 => refine' FT.defKE ?a ?l ?c ?k; (case a => k_is); (case l => k_is); (case c => k_is); (case k => k_is))
      (case e_8 => refine' FT.defKE ?a ?l ?c ?k; (case a => k_is); (case l => k_is); (case c => k_is); (case k => k_is))
      (case e_9 => refine' FT.defKE ?a ?l ?c ?k; (case a => k_is); (case l => k_is); (case c => k_is); (case k => k_is))
      (case e_10 => refine' FT.defKE ?a ?l ?c ?k; (case a => k_is); (case l => k_is); (case c => k_is); (case k => k_is))
      (case e_11 => refine' FT.defKE ?a ?l ?c ?k; (case a => k_is); (case l => k_is); (case c => k_is); (case k => k_is))
      (case e_12 => refine' FT.defKE ?a ?l ?c ?k; (case a => k_is); (case l => k_is); (case c => k_is); (case k => k_is))
      (case e_13 => refine' FT.defKE ?a ?l ?c ?k; (case a => k_is); (case l => k_is); (case c => k_is); (case k => k_is))
      (case e_14 => refine' FT.defKE ?a ?l ?c ?k; (case a => k_is); (case l => k_is); (case c => k_is); (case k => k_is))
      (case e_15 => refine' FT.defKE ?a ?l ?c ?k; (case a => k_is); (case l => k_is); (case c => k_is); (case k => k_is))
      (case e_16 => refine' FT.defKE ?a ?l ?c ?k; (case a => k_is); (case l => k_is); (case c => k_is); (case k => k_is))
      (case e_17 => refine' FT.defKE ?a ?l ?c ?k; (case a => k_is); (case l => k_is); (case c => k_is); (case k => k_is))
      (case e_18 => refine' FT.defKE ?a ?l ?c ?k; (case a => k_is); (case l => k_is); (case c => k_is); (case k => k_is))
      (case e_19 => refine' FT.defKE ?a ?l ?c ?k; (case a => k_is); (case l => k_is); (case c => k_is); (case k => k_is))
      (case e_20 => refine' FT.defKE ?a ?l ?c ?k; (case a => k_is); (case l => k_is); (case c => k_is); (case k => k_is))
      (case e_21 => refine' FT.defKE ?a ?l ?c ?k; (case a => k_is); (case l => k_is); (case c => k_is); (case k => k_is))
      (case e_22 => refine' FT.defKE ?a ?l ?c ?k; (case a => k_is); (case l => k_is); (case c => k_is); (case k => k_is))
      (case e_23 => refine' FT.defKE ?a ?l ?c ?k; (case a => k_is); (case l => k_is); (case c => k_is); (case k => k_is))
      (case e_24 => refine' FT.defKE ?a ?l ?c ?k; (case a => k_is); (case l => k_is); (case c => k_is); (case k => k_is))
      (case e_25 => refine' FT.defKE ?a ?l ?c ?k; (case a => k_is); (case l => k_is); (case c => k_is); (case k => k_is))
      (case e_26 => refine' FT.defKE ?a ?l ?c ?k; (case a => k_is); (case l => k_is); (case c => k_is); (case k => k_is))
      (case e_27 => refine' FT.defKE ?a ?l ?c ?k; (case a => k_is); (case l => k_is); (case c => k_is); (case k => k_is))
      (case e_28 => refine' FT.defKE ?a ?l ?c ?k; (case a => k_is); (case l => k_is); (case c => k_is); (case k => k_is))
      (case e_29 => refine' FT.defK ?a ?l ?c ?k; (case a => k_is); (case l => k_is); (case c => k_is); (case k => k_is))
    case hC => kernel_rfl
    case nT => kernel_rfl
    case B => refine' ⟨?_, ?_, ?_, ?_, ?_, ?_, ?_, ?_, ?_, ?_, ?_, ?_, ?_⟩ <;> k_is
    case e1 => refine' ⟨?e1g, ?e1q, ?e1k, ?e1b, ?e1t⟩; (case e1g => k_is); (case e1q => kernel_rfl); (case e1k => k_is); (case e1b => k_is); (case e1t => k_is)
    case e2 => refine' ⟨?e2g, ?e2q, ?e2k, ?e2b, ?e2t⟩; (case e2g => k_is); (case e2q => kernel_rfl); (case e2k => k_is); (case e2b => k_is); (case e2t => k_is)
    case e3 => refine' ⟨?e3g, ?e3q, ?e3k, ?e3b, ?e3t⟩; (case e3g => k_is); (case e3q => kernel_rfl); (case e3k => k_is); (case e3b => k_is); (case e3t => k_is)
    case cl =>
      refine' ⟨?clx, ?clo, ⟨?clv1, ?clv2⟩, ⟨rfl, rfl⟩, ⟨?clt1, ?clt2⟩, ⟨?clu1, ?clu2⟩, ⟨?clw1, ?clw2⟩⟩
      (case clx => refine' ⟨?clx0, ?clx1, ?clx2, ?clx3, ?clx4, ?clx5, ?clx6, ?clx7⟩ <;> k_is)
      case clo =>
        refine' FT.own_12 ?cg0 ?cg1 ?cg2 ?cg3 ?cg4 ?cg5 ?cg6 ?cg7 ?cg8 ?cg9 ?cg10 ?cg11 ?ck0 ?ck1 ?ck2 ?ck3 ?ck4 ?ck5 ?ck6 ?ck7 ?ck8 ?ck9 ?ck10 ?ck11
        (case cg0 => k_is)
        (case cg1 => k_is)
        (case cg2 => k_is)
        (case cg3 => k_is)
        (case cg4 => k_is)
        (case cg5 => k_is)
        (case cg6 => k_is)
        (case cg7 => k_is)
        (case cg8 => k_is)
        (case cg9 => k_is)
        (case cg10 => k_is)
        (case cg11 => k_is)
        (case ck0 => kernel_rfl)
        (case ck1 => kernel_rfl)
        (case ck2 => kernel_rfl)
        (case ck3 => kernel_rfl)
        (case ck4 => kernel_rfl)
        (case ck5 => kernel_rfl)
        (case ck6 => kernel_rfl)
        (case ck7 => kernel_rfl)
        (case ck8 => kernel_rfl)
        (case ck9 => kernel_rfl)
        (case ck10 => kernel_rfl)
        (case ck11 => kernel_rfl)
      (case clv1 => k_is)
      (case clv2 => kernel_rfl)
      (case clt1 => k_is)
      (case clt2 => kernel_rfl)
      (case clu1 => k_is)
      (case clu2 => kernel_rfl)
      (case clw1 => k_is)
      (case clw2 => kernel_rfl)
    case m5 => k_is
    case m8 => k_is
    case g1 => k_is
    case l1 => k_is
    case c1 => rfl
    case d1 => rfl
    case z1 => decide
    case v1 => exact .cons ⟨_, rfl⟩ (.cons ⟨_, rfl⟩ .nil)
    case g2 => k_is
    case l2 => k_is
    case c2 => rfl
    case d2 => rfl
    case z2 => decide
    case v2 => exact .cons ⟨_, rfl⟩ (.cons ⟨_, rfl⟩ (.cons ⟨_, rfl⟩ (.cons ⟨_, rfl⟩ (.cons ⟨_, rfl⟩ .nil))))
    case g3 => k_is
    case l3 => k_is
    case c3 => rfl
    case d3 => rfl
    case z3 => decide
    case v3 => exact .cons ⟨_, rfl⟩ (.cons ⟨_, rfl⟩ (.cons ⟨_, rfl⟩ (.cons ⟨_, rfl⟩ .nil)))

end
