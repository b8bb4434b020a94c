import PyProof.Rows.All
import Wide.All
import OpenK.AllK
import Wide.FinOn
import HandS.GenList
import HandS.DictComp
import HandS.ForMost
import HandS.Flow
import HandS.IsInst
import HandS.Star
import HandS.Walk
import KE.KDictKeyed
import KE.KDictDisplayH
import KE.KDictList
import HandS.Style
import PyProof.NeKinds
import KE.GoesMore
import KE.KDictZip
import HandS.Zip
import HandS.More
import PyProof.ReprRoads
import HandS.Ends
import PySem.Challenge.RW_meanshown_k14_whole_what_always_holds
section
set_option Elab.async false
set_option linter.all false
set_option maxRecDepth 100000
/-! A generator def whose consumer works between the items: its body's rules. No exception leaves it. -/
namespace K14
open PySem PySem.Spec PyProof.Rows L2 GenW

/-- what the consumer does with an item: the heap at the item, the heaps it may hand back -/
abbrev YL := V → Hp → (Hp → Prop) → Prop
/-- running: C is the consumer's own object, as it stood when this turn began; ip: the generator's own iterators, as they stand -/
def GI (X : Cx) (C : Addr) (s₀ : Shared) (ip : List (Addr × Obj)) (σ : L2.St) (H : Hp) (s : Shared) : Prop := ∃ o₀, (s₀.heap.get? C = some o₀ ∧ ∀ p ∈ X.pn ++ ip, p.1 ≠ C) ∧ Inv X ((C, o₀) :: ip) σ H s
/-- while it sleeps: all its own things are kept -/
structure Woke (X : Cx) (C : Addr) (ip : List (Addr × Obj)) (s : Shared) (H2 : Hp) (s2 : Shared) : Prop where
  os : s2.os = X.s_0.os
  bare : AllBare s2.gens
  un : Un X.fs X.ex X.H_0 H2 X.s_0.heap s2.heap
  hok : HOk X.prog X.w H2 s2.heap
  kept : ∀ p ∈ X.pn ++ ip, s2.heap.get? p.1 = some p.2 ∧ H2 p.1 = none
  frm : s2.heap.get? X.env.locals = s.heap.get? X.env.locals ∧ H2 X.env.locals = none
  con : H2 C = none ∧ ∃ o, s2.heap.get? C = some o ∧ ∀ v, o.data ≠ .cell v
theorem GI.woken {X : Cx} {C : Addr} {s₀ : Shared} {ip : List (Addr × Obj)} {σ : L2.St} {H H2 : Hp} {s s2 : Shared} (hcl : ∀ x, X.env.cells.lookup x = none) (h : GI X C s₀ ip σ H s) (z : Woke X C ip s H2 s2) : GI X C s2 ip σ H2 s2 := by
  obtain ⟨o₀, ⟨_, hne⟩, I⟩ := h
  obtain ⟨z1, z2, z3, z4, z5, z6, z7, o, z8, z9⟩ := z
  obtain ⟨c1, c2, c3, c4, _⟩ := I.pin (C, o₀) (List.mem_append_right _ List.mem_cons_self)
  refine ⟨o, ⟨z8, hne⟩, I.ok, z1, z2, z3, ?_, fun x c e => ?_, z6.2, fun x c e => ?_, fun p hp => ?_, z4, I.len⟩
  · obtain ⟨m, ⟨ob, es, ep, ho, r⟩, hl⟩ := I.loc
    refine ⟨m, ⟨ob, es, ep, z6.1.trans ho, r⟩, fun i x v e1 e2 e3 => ?_⟩
    obtain ⟨u, ru, l⟩ := hl i x v e1 e2 e3
    refine ⟨u, ru, ?_⟩
    rcases l with l | ⟨_, c, e, _⟩
    · exact .inl l
    · rw [hcl x] at e; cases e
  · rw [hcl x] at e; cases e
  · rw [hcl x] at e; cases e
  · rcases List.mem_append.mp hp with hp | hp
    · obtain ⟨q1, q2⟩ := z5 p (List.mem_append_left _ hp)
      obtain ⟨_, _, d3, d4, d5⟩ := I.pin p (List.mem_append_left _ hp)
      exact ⟨q1, q2, d3, d4, d5⟩
    · rcases List.mem_cons.mp hp with e | hp
      · rw [e]; exact ⟨z8, z7, c3, c4, z9⟩
      · obtain ⟨q1, q2⟩ := z5 p (List.mem_append_right _ hp)
        obtain ⟨_, _, d3, d4, d5⟩ := I.pin p (List.mem_append_right _ (List.mem_cons_of_mem _ hp))
        exact ⟨q1, q2, d3, d4, d5⟩

/-! ### the protocol -/
def GY (X : Cx) (C : Addr) (yl : YL) : Protocol := fun n s₀ v s kap =>
  ∃ x ip σ H k, RelV x v ∧ GI X C s₀ ip σ H s ∧ yl x H k ∧ ∀ H2 s2, Woke X C ip s H2 s2 → k H2 → kap (.send .none) s2
def GR (X : Cx) (C : Addr) (Q : VK) : GenEnd := fun n s₀ r s => match r with
  | .ok (.ret u) => ∃ v ip σ H, GI X C s₀ ip σ H s ∧ RelV v u ∧ Q v H
  | _ => False
/-- what is wanted behind a statement of a generator; the count: how many items are out -/
structure GEnds where
  yl : YL
  nx : Nat → L2.St → Hp → Prop
  rt : VK
  bk : Nat → L2.St → Hp → Prop := fun _ _ _ => False
  ct : Nat → L2.St → Hp → Prop := fun _ _ _ => False
abbrev TGn := GEnds → Nat → L2.St → Hp → Prop
def GEnds.at (D : GEnds) (m : Nat) : Ends := { nx := D.nx m, rt := D.rt, bk := D.bk m, ct := D.ct m }
def GSP (X : Cx) (C : Addr) (s₀ : Shared) (ip : List (Addr × Obj)) (D : GEnds) (m : Nat) (f : Flow) (s : Shared) : Prop :=
  match f with
  | .next => ∃ σ H, GI X C s₀ ip σ H s ∧ D.nx m σ H
  | .brk => ∃ σ H, GI X C s₀ ip σ H s ∧ D.bk m σ H
  | .cont => ∃ σ H, GI X C s₀ ip σ H s ∧ D.ct m σ H
  | .ret u => ∃ v σ H, GI X C s₀ ip σ H s ∧ RelV v u ∧ D.rt v H
/-- where the generator's code stands -/
structure GC (X : Cx) (C : Addr) (A : Around) (c : Code) (fs : List Frame) (gd : Bool → Bool) : Prop where
  xe : ∀ e s, ¬ X.xe e s
  cl : ∀ x, X.env.cells.lookup x = none
  over : A.over c fs = X.A
  split : splitAtGen fs = none
  guard : fs.any Frame.guarded = false
  gd : gd false = false
def GK (X : Cx) (C : Addr) (ip : List (Addr × Obj)) (A : Around) (R : GenEnd) (c : Code) (fs : List Frame) (K : Flow → Sem PySem.Fin) (D : GEnds) : Prop :=
  ∀ (n m : Nat) (s₀ s : Shared) (f : Flow), n + m = sizeLine → GSP X C s₀ ip D m f s → Seg (model X.prog X.w) A R (GY X C D.yl) n s₀ c (K f) fs s
structure GS (X : Cx) (st : Stmt) (t : TGn) : Prop where
  run : ∀ (A : Around) (C : Addr) (ip : List (Addr × Obj)) (R : GenEnd) (n m : Nat) (s₀ : Shared) (c : Code) (fs : List Frame) (K : Flow → Sem PySem.Fin) (J : Value → Sem PySem.Fin) (gd : Bool → Bool) (lv : List Value → List Value) (s : Shared) (σ : L2.St) (H : Hp) (D : GEnds),
    GC X C A c fs gd → n + m = sizeLine → GK X C ip A R c fs K D → GI X C s₀ ip σ H s → t D m σ H →
    Seg (model X.prog X.w) A R (GY X C D.yl) n s₀ c ((exec st X.env).wrap K J gd lv) fs s
structure GSs (X : Cx) (st : List Stmt) (t : TGn) : Prop where
  run : ∀ (A : Around) (C : Addr) (ip : List (Addr × Obj)) (R : GenEnd) (n m : Nat) (s₀ : Shared) (c : Code) (fs : List Frame) (K : Flow → Sem PySem.Fin) (J : Value → Sem PySem.Fin) (gd : Bool → Bool) (lv : List Value → List Value) (s : Shared) (σ : L2.St) (H : Hp) (D : GEnds),
    GC X C A c fs gd → n + m = sizeLine → GK X C ip A R c fs K D → GI X C s₀ ip σ H s → t D m σ H →
    Seg (model X.prog X.w) A R (GY X C D.yl) n s₀ c ((execs st X.env).wrap K J gd lv) fs s

section
variable {X : Cx} {st : Stmt} {rest : List Stmt}
/-- a statement that hands out nothing -/
def tPlain (t : TS) : TGn := fun D m σ H => t (D.at m) σ H
theorem sp_gsp {C : Addr} {s₀ : Shared} {o₀ : Obj} {ip : List (Addr × Obj)} {s : Shared} {D : GEnds} {m : Nat} {f : Flow} (r : s₀.heap.get? C = some o₀ ∧ ∀ p ∈ X.pn ++ ip, p.1 ≠ C) (h : SP X ((C, o₀) :: ip) (D.at m) f s) : GSP X C s₀ ip D m f s := by
  cases f with
  | next => obtain ⟨σ, H, I, q⟩ := h; exact ⟨σ, H, ⟨o₀, r, I⟩, q⟩
  | brk => obtain ⟨σ, H, I, q⟩ := h; exact ⟨σ, H, ⟨o₀, r, I⟩, q⟩
  | cont => obtain ⟨σ, H, I, q⟩ := h; exact ⟨σ, H, ⟨o₀, r, I⟩, q⟩
  | ret u => obtain ⟨v, σ, H, I, r1, q⟩ := h; exact ⟨v, σ, H, ⟨o₀, r, I⟩, r1, q⟩
theorem gs_ps {t : TS} (h : PS X st t) : GS X st (tPlain t) := by
  refine ⟨fun A C ip R n m s₀ c fs K J gd lv s σ H D g hn k hI ht => ?_⟩
  obtain ⟨o₀, r, I⟩ := hI
  refine seg_wrap ?_
  rw [g.over]
  exact wpAny_mono (h.run _ s σ H (D.at m) I ht) (fun f s' hs => k n m s₀ s' f hn (sp_gsp r hs)) fun x s' hx => (g.xe _ _ hx).elim
def tG0 : TGn := fun D m σ H => D.nx m σ H
theorem gss_nil : GSs X [] tG0 := by
  refine ⟨fun A C ip R n m s₀ c fs K J gd lv s σ H D g hn k hI ht => ?_⟩
  exact seg_execs_nil (k n m s₀ s .next hn ⟨σ, H, hI, ht⟩)
def tGThen (t u : TGn) : TGn := fun D m σ H => t { D with nx := fun m' σ' H' => u D m' σ' H' } m σ H
theorem gss_cons {t u : TGn} (a : GS X st t) (b : GSs X rest u) : GSs X (st :: rest) (tGThen t u) := by
  refine ⟨fun A C ip R n m s₀ c fs K J gd lv s σ H D g hn k hI ht => ?_⟩
  refine seg_execs_cons ?_
  refine a.run A C ip R n m s₀ c fs _ J gd lv s σ H { D with nx := fun m' σ' H' => u D m' σ' H' } g hn (fun n' m' s₀' s' f hn' hs => ?_) hI ht
  cases f with
  | next =>
    obtain ⟨σ', H', I', q⟩ := hs
    exact b.run A C ip R n' m' s₀' c fs K J gd lv s' σ' H' D g hn' k I' q
  | brk => exact k n' m' s₀' s' .brk hn' hs
  | cont => exact k n' m' s₀' s' .cont hn' hs
  | ret u => exact k n' m' s₀' s' (.ret u) hn' hs
theorem gss_one {t : TGn} (a : GS X st t) : GSs X [st] (tGThen t tG0) := gss_cons a gss_nil
/-! ### if -/
def tGIf (c : TT) (ta tb : TGn) : TGn := fun D m σ H => c σ H fun b H1 => if b = true then ta D m σ H1 else tb D m σ H1
theorem gs_if {test : Expr} {a b : List Stmt} {pos : Pos} {tc : TT} {ta tb : TGn} (hc : PT X test tc) (ha : GSs X a ta) (hb : GSs X b tb) : GS X (.If test a b pos) (tGIf tc ta tb) := by
  refine ⟨fun A C ip R n m s₀ c fs K J gd lv s σ H D g hn k hI ht => ?_⟩
  obtain ⟨o₀, r, I⟩ := hI
  rw [exec_If]
  show Seg _ _ _ _ _ _ _ (.at pos fun _ => (isTrue test X.env (eval test X.env) >>= fun z => if z = true then execs a X.env else execs b X.env).wrap K J gd lv) _ _
  refine seg_at ?_
  rw [Sem.bind_eq_wrap', Sem.wrap_wrap]
  refine seg_wrap ?_
  rw [g.over]
  refine wpAny_mono (hc.run _ s σ H _ I ht) (fun z s' hz => ?_) fun x s' hx => (g.xe _ _ hx).elim
  obtain ⟨H1, I1, q⟩ := hz
  cases z with
  | true =>
    rw [if_pos rfl] at q ⊢
    exact ha.run A C ip R n m s₀ c fs K J gd lv s' σ H1 D g hn k ⟨o₀, r, I1⟩ q
  | false =>
    rw [if_neg Bool.false_ne_true] at q ⊢
    exact hb.run A C ip R n m s₀ c fs K J gd lv s' σ H1 D g hn k ⟨o₀, r, I1⟩ q

/-! ### while -/
def tGWhile (c : TT) (tb : TGn) : TGn := fun D m σ H => ∃ W : Nat → Nat → L2.St → Hp → Prop, (∃ j, W j m σ H) ∧ ∀ j m σ H, W j m σ H →
  c σ H fun b H1 => if b = true then ∃ N : Nat → L2.St → Hp → Prop, (∀ m' σ' H', N m' σ' H' → ∃ j', j' < j ∧ W j' m' σ' H') ∧ tb { D with nx := N, ct := N, bk := D.nx } m σ H1 else D.nx m σ H1
theorem gc_loop {C : Addr} {A : Around} {c c' : Code} {fs : List Frame} {gd : Bool → Bool} {k : Result → Sem PySem.Fin} {l kp : List Value} {p : Pos} (g : GC X C A c fs gd) (hw : c'.weight = 0) (hu : c'.cUnits = 0) :
    GC X C A c' (.ret k none (gd false) l c p kp :: fs) id where
  xe := g.xe
  cl := g.cl
  over := (over_loop hw hu).trans g.over
  split := by
    show (splitAtGen fs).map _ = none
    rw [g.split]; rfl
  guard := by
    show (gd false || fs.any Frame.guarded) = false
    rw [g.gd, g.guard]; rfl
  gd := rfl
theorem gs_while {test : Expr} {body : List Stmt} {pos : Pos} {tc : TT} {tb : TGn} (hc : PT X test tc) (hb : GSs X body tb) : GS X (.While test body [] pos) (tGWhile tc tb) := by
  refine ⟨fun A C ip R n m s₀ c fs K J gd lv s σ H D g hn k hI ht => ?_⟩
  obtain ⟨W, ⟨m0, w0⟩, turn⟩ := ht
  refine seg_While fun p => ?_
  have gl := fun (kk : Result → Sem PySem.Fin) => gc_loop (k := kk) (c' := .whileLoop test body [] X.env) (l := lv []) (kp := []) (p := p) g rfl rfl
  have loop : ∀ (j n m : Nat) (s₀ s : Shared) (σ : L2.St) (H : Hp), n + m = sizeLine → W j m σ H → GI X C s₀ ip σ H s →
      Seg (model X.prog X.w) A R (GY X C D.yl) n s₀ (.whileLoop test body [] X.env) ((model X.prog X.w).den (.whileLoop test body [] X.env))
        (.ret (fun r => ((match r with | .ok f => (.pure f : Sem Flow) | .error e => .raise e).onRaise (L2.cameBack X.env)).wrap K J gd lv) none (gd false) (lv []) c p [] :: fs) s := by
    intro j
    induction j using Nat.strongRecOn with
    | ind j ih =>
      intro n m s₀ s σ H hn w hI
      refine seg_whileLoop ?_
      rw [(gl _).over]
      obtain ⟨o₀, r, I⟩ := hI
      refine wpAny_mono (hc.run _ s σ H _ I (turn j m σ H w)) (fun b s' hb' => ?_) fun x s' hx => (g.xe _ _ hx).elim
      obtain ⟨H2, I2, q2⟩ := hb'
      cases b with
      | true =>
        obtain ⟨N, hN, q2⟩ := q2
        rw [if_pos rfl]
        refine hb.run A C ip R n m s₀ _ _ _ _ id id s' σ H2 { D with nx := N, ct := N, bk := D.nx } (gl _) hn (fun n' m' s₀' s3 f hn' hs => ?_) ⟨o₀, r, I2⟩ q2
        cases f with
        | next =>
          obtain ⟨σ3, H3, I3, n3⟩ := hs
          obtain ⟨j', hj, w3⟩ := hN m' σ3 H3 n3
          exact seg_again rfl (ih j' hj n' m' s₀' s3 σ3 H3 hn' w3 I3)
        | cont =>
          obtain ⟨σ3, H3, I3, n3⟩ := hs
          obtain ⟨j', hj, w3⟩ := hN m' σ3 H3 n3
          exact seg_again rfl (ih j' hj n' m' s₀' s3 σ3 H3 hn' w3 I3)
        | brk => exact seg_leaf (.ok .next) (k n' m' s₀' s3 .next hn' hs)
        | ret v => exact seg_leaf (.ok (.ret v)) (k n' m' s₀' s3 (.ret v) hn' hs)
      | false =>
        rw [if_neg Bool.false_ne_true]
        refine seg_execs_nil ?_
        exact seg_leaf (.ok .next) (k n m s₀ s' .next hn ⟨σ, H2, ⟨o₀, r, I2⟩, q2⟩)
  exact loop m0 n m s₀ s σ H hn w0 hI

/-! ### yield -/
def tGYield (te : TE) : TGn := fun D m σ H => m < sizeLine ∧ te σ H fun x H1 => D.yl x H1 fun H2 => D.nx (m + 1) σ H2
theorem gs_yield {e : Expr} {yp pos : Pos} {te : TE} (he : PE X e te) (hco : X.env.scope.isCoroutine = false := by rfl) (hi : interactive X.env = false := by rfl) : GS X (.Expr (.Yield (some e) yp) pos) (tGYield te) := by
  refine ⟨fun A C ip R n m s₀ c fs K J gd lv s σ H D g hn k hI ht => ?_⟩
  obtain ⟨hlt, ht⟩ := ht
  obtain ⟨n, rfl⟩ : ∃ j, n = j + 1 := ⟨n - 1, by omega⟩
  obtain ⟨o₀, r, I⟩ := hI
  refine seg_Expr_Yield g.split g.gd g.guard ?_ hco hi
  rw [g.over]
  refine wpAny_mono (he.run _ s σ H _ I ht) (fun v s' hv => ?_) fun x s' hx => (g.xe _ _ hx).elim
  obtain ⟨x, H1, I1, rv, q⟩ := hv
  have G1 : GI X C s₀ ip σ H1 s' := ⟨o₀, r, I1⟩
  intro kap hk
  refine ⟨x, ip, σ, H1, _, rv, G1, q, fun H2 s'' z kk => hk .none s'' ?_⟩
  exact k n (m + 1) s'' s'' .next (by omega) ⟨σ, H2, G1.woken g.cl z, kk⟩
end
end K14
end
section
set_option Elab.async false
set_option linter.all false
set_option maxRecDepth 100000
/-! A generator def's body: for. -/
namespace K14
open PySem PySem.Spec PyProof.Rows L2 GenW

section
variable {M : Model} {A : Around} {R : GenEnd} {Y : Protocol} {n : Nat} {s₀ : Shared} {c : Code} {fs : List Frame} {s : Shared} {env : Env}
  {K : Flow → Sem PySem.Fin} {J : Value → Sem PySem.Fin} {gd : Bool → Bool} {lv : List Value → List Value}
theorem seg_For {target iter : Expr} {body orelse : List Stmt} {pos : Pos}
    (h : wpAny M (A.over c fs) (eval iter env) (fun x s₁ => wpAny M (A.over c fs) (pyIter x) (fun it s₂ => ∀ p, Seg M A R Y n s₀ (.forLoop target it body orelse env) (M.den (.forLoop target it body orelse env))
      (.ret (fun r => ((match r with | .ok f => (.pure f : Sem Flow) | .error e => .raise e).onRaise (L2.cameBack env)).wrap K J gd lv) none (gd false) (lv []) c p [] :: fs) s₂) (fun _ _ => False) s₁) (fun _ _ => False) s)
    (hs : ∀ x, foldedSetIterable iter env x = pure x) :
    Seg M A R Y n s₀ c ((exec (.For target iter body orelse pos) env).wrap K J gd lv) fs s := by
  rw [PySem.exec_For]
  show Seg _ _ _ _ _ _ _ (.at pos fun _ => (eval iter env >>= fun x => foldedSetIterable iter env x >>= fun x => standAt iter.pos >>= fun _ => holding [x] (pyIter x) >>= fun it => runOwn (.forLoop target it body orelse env) env).wrap K J gd lv) _ _
  refine seg_at ?_
  rw [Sem.bind_eq_wrap', Sem.wrap_wrap]
  refine seg_wrap (wpAny_mono h (fun x s₁ h₁ => ?_) fun _ _ z => z.elim)
  rw [hs x]
  show Seg _ _ _ _ _ _ _ (.at iter.pos fun _ => (holding [x] (pyIter x) >>= fun it => runOwn (.forLoop target it body orelse env) env).wrap K J _ _) _ _
  refine seg_at ?_
  rw [Sem.bind_eq_wrap', Sem.wrap_wrap]
  refine seg_wrap (wpAny_holding (wpAny_mono h₁ (fun it s₂ h₂ => ?_) fun _ _ z => z.elim))
  exact seg_call h₂
end
section
variable {prog : Program} {w : World} {A : Around} {R : GenEnd} {Y : Protocol} {n : Nat} {s₀ : Shared} {fs : List Frame} {s : Shared} {env : Env}
theorem seg_forLoop {target : Expr} {it : Value} {body : List Stmt}
    (h : wpAny (model prog w) (A.over (.forLoop target it body [] env) fs) (pyNext it) (fun r s₁ => match r with
      | none => Seg (model prog w) A R Y n s₀ (.forLoop target it body [] env) (.pure (.again (.block [] env))) fs s₁
      | some v => wpAny (model prog w) (A.over (.forLoop target it body [] env) fs) (letOwnedTupleGo target it v) (fun _ s₂ => wpAny (model prog w) (A.over (.forLoop target it body [] env) fs) (assign target env v) (fun _ s₃ =>
          Seg (model prog w) A R Y n s₀ (.forLoop target it body [] env) ((execs body env).wrap (fun f => match f with
            | .next | .cont => .pure (.again (.forLoop target it body [] env))
            | .brk => .pure (.done .next)
            | .ret v => .pure (.done (.ret v))) (fun e => (do noteFrame e env; theTreesLotGoes e : Sem Unit).wrap (fun _ => .raise e) .raise id id) id id) fs s₃) (fun _ _ => False) s₂) (fun _ _ => False) s₁) (fun _ _ => False) s) :
    Seg (model prog w) A R Y n s₀ (.forLoop target it body [] env) ((model prog w).den (.forLoop target it body [] env)) fs s := by
  show Seg _ A R Y n s₀ _ ((forTurn target it body [] env).onRaise (fun x => do noteFrame x env; theTreesLotGoes x)) fs s
  rw [Sem.onRaise_eq_wrap]
  unfold forTurn
  refine seg_at ?_
  show Seg _ A R Y n s₀ _ (Sem.wrap _ _ _ _ ((pyNext it).onRaise (fun _ => standAt { target.pos with line := 0 }) >>= _)) fs s
  rw [Sem.bind_eq_wrap', Sem.onRaise_eq_wrap, Sem.wrap_wrap, Sem.wrap_wrap]
  refine seg_wrap (wpAny_mono h (fun r s₁ h₁ => ?_) fun _ _ z => z.elim)
  cases r with
  | none => exact h₁
  | some v =>
    show Seg _ A R Y n s₀ _ (Sem.wrap _ _ _ _ (letOwnedTupleGo target it v >>= _)) _ _
    rw [Sem.bind_eq_wrap', Sem.wrap_wrap]
    refine seg_wrap (wpAny_mono h₁ (fun _ s₂ h₂ => ?_) fun _ _ z => z.elim)
    show Seg _ A R Y n s₀ _ (Sem.wrap _ _ _ _ (assign target env v >>= _)) _ _
    rw [Sem.bind_eq_wrap', Sem.wrap_wrap]
    refine seg_wrap (wpAny_mono h₂ (fun _ s₃ h₃ => ?_) fun _ _ z => z.elim)
    show Seg _ A R Y n s₀ _ (Sem.wrap _ _ _ _ (execs body env >>= _)) _ _
    rw [Sem.bind_eq_wrap', Sem.wrap_wrap]
    rw [Sem.wrap_congr (execs body env) _ _ (K' := fun f => match f with
            | .next | .cont => .pure (.again (.forLoop target it body [] env))
            | .brk => .pure (.done .next)
            | .ret v => .pure (.done (.ret v))) (H' := (fun e => (do noteFrame e env; theTreesLotGoes e : Sem Unit).wrap (fun _ => .raise e) .raise id id))
        (fun f => by cases f <;> rfl)
        (fun e => by first | exact Sem.bind_eq_wrap _ _ | (show (do noteFrame e env; theTreesLotGoes e : Sem Unit).bind (fun _ => .raise e) = _; rw [Sem.bind_eq_wrap]))]
    exact h₃
end

section
variable {X : Cx}
/-! ### for -/
def tGFor (wi : TI) (g : TG) (tb : TGn) : TGn := fun D m σ H => wi σ H fun J H1 => ∃ W : Nat → Nat → Nat → L2.St → Hp → Prop, (∃ j, W 0 j m σ H1) ∧ ∀ i j m σ H, W i j m σ H →
  (J.stop i H ∧ D.nx m σ H) ∨ (J.go i H ∧ ∃ N : Nat → L2.St → Hp → Prop, (∀ m' σ' H', N m' σ' H' → ∃ j', j' < j ∧ W (i + 1) j' m' σ' H') ∧ ∀ x H', J.yld i H x H' → g x σ H' fun σ2 H2 => tb { D with nx := N, ct := N, bk := D.nx } m σ2 H2)
theorem gs_for {tg iter : Expr} {body : List Stmt} {pos : Pos} {wi : TI} {g : TG} {tb : TGn} (hc : X.calm = true) (hi : PI X tg iter wi) (hg : PG X tg g) (hb : GSs X body tb)
    (hs : ∀ x, foldedSetIterable iter X.env x = pure x := by intro _; rfl) : GS X (.For tg iter body [] pos) (tGFor wi g tb) := by
  refine ⟨fun A C ip R n m s₀ c fs K J gd lv s σ H D gc hn k hI ht => ?_⟩
  obtain ⟨o₀, r, I⟩ := hI
  have no : ∀ {α : Type} {t : Sem α} {Q : α → Shared → Prop} {s : Shared}, wpAny (model X.prog X.w) X.A t Q X.xe s → wpAny (model X.prog X.w) X.A t Q (fun _ _ => False) s := fun h => wpAny_mono h (fun _ _ z => z) fun e s' z => (gc.xe e s' z).elim
  refine seg_For ?_ hs
  rw [gc.over]
  refine wpAny_mono (no (hi.run _ s σ H _ I ht)) (fun v s1 h1 => wpAny_mono (no h1) (fun itv s2 h2 => ?_) fun _ _ z => z) fun _ _ z => z
  obtain ⟨it, fp, tn, Jt, H2, e, I2, T, st2, f2, W, ⟨j0, w0⟩, turn⟩ := h2
  subst e
  intro p
  have gl := fun (kk : Result → Sem PySem.Fin) => gc_loop (k := kk) (c' := .forLoop tg (.ref it) body [] X.env) (l := lv []) (kp := []) (p := p) gc rfl rfl
  have loop : ∀ (j i n m : Nat) (s₀ s : Shared) (σ : L2.St) (H : Hp), n + m = sizeLine → W i j m σ H → tn i s.heap → GI X C s₀ ip σ H s → (∀ b ∈ fp, FpOk X ip H b) → (∀ b ∈ fp, b ≠ C) →
      Seg (model X.prog X.w) A R (GY X C D.yl) n s₀ (.forLoop tg (.ref it) body [] X.env) ((model X.prog X.w).den (.forLoop tg (.ref it) body [] X.env))
        (.ret (fun r => ((match r with | .ok f => (.pure f : Sem Flow) | .error e => .raise e).onRaise (L2.cameBack X.env)).wrap K J gd lv) none (gd false) (lv []) c p [] :: fs) s := by
    intro j
    induction j using Nat.strongRecOn with
    | ind j ih =>
      intro i n m s₀ s σ H hn w st hI hf hfC
      obtain ⟨o₀, r, I⟩ := hI
      have hf' : ∀ b ∈ fp, FpOk X ((C, o₀) :: ip) H b := fun b hb => by
        obtain ⟨z0, z1, z2, z3, z4, z5⟩ := hf b hb
        refine ⟨z0, z1, z2, z3, z4, fun p hp => ?_⟩
        rcases List.mem_append.mp hp with hp | hp
        · exact z5 p (List.mem_append_left _ hp)
        · rcases List.mem_cons.mp hp with e | hp
          · rw [e]; exact fun z => hfC b hb z.symm
          · exact z5 p (List.mem_append_right _ hp)
      refine seg_forLoop ?_
      rw [(gl _).over]
      rcases turn i j m σ H w with ⟨stop, qn⟩ | ⟨go, N, hN, step⟩
      · refine wpAny_mono (T.done X rfl rfl rfl hc i _ s σ H (fun _ _ => False) I hf' st stop) (fun rr s4 hh => ?_) fun _ _ z => z
        obtain ⟨hr, I4⟩ := hh
        subst hr
        refine seg_again rfl ?_
        show Seg _ A R _ n s₀ _ ((execs [] X.env >>= fun f => (pure (.done f) : Sem PySem.Fin))) _ s4
        exact seg_leaf (.ok .next) (k n m s₀ s4 .next hn ⟨σ, H, ⟨o₀, r, I4⟩, qn⟩)
      · refine wpAny_mono (T.item X rfl rfl rfl hc i _ s σ H (fun _ _ => False) I hf' st go) (fun rr s4 hh => ?_) fun _ _ z => z
        obtain ⟨u, hr, h4⟩ := hh
        subst hr
        refine wpAny_mono h4 (fun _ s5 hh => ?_) fun _ _ z => z
        obtain ⟨x, H5, I5, r5, y5, st5, fr5⟩ := hh
        have hf5 : ∀ b ∈ fp, FpOk X ((C, o₀) :: ip) H5 b := fun b hb => ⟨fr5 b hb, (hf' b hb).2⟩
        have I5' := I5.pinned hf5 (T.obj _ _ st5)
        refine wpAny_mono (no (hg.run _ s5 σ H5 x u _ I5' r5 (step x H5 y5))) (fun _ s6 hh => ?_) fun _ _ z => z
        obtain ⟨σ6, H6, I6, q6⟩ := hh
        have back : ∀ {s₀' : Shared} {σ7 : L2.St} {H7 : Hp} {s7 : Shared}, GI X C s₀' (ip ++ pinsAt fp s5.heap) σ7 H7 s7 → GI X C s₀' ip σ7 H7 s7 ∧ tn (i + 1) s7.heap ∧ (∀ b ∈ fp, FpOk X ip H7 b) := fun {s₀' σ7 H7 s7} ⟨o, ro, I7⟩ => by
          have pn : ∀ b ∈ fp, ∀ o, s5.heap.get? b = some o → s7.heap.get? b = some o ∧ H7 b = none := fun b hb o e => by
            obtain ⟨d1, d2, _⟩ := I7.pin (b, o) (List.mem_append_right _ (List.mem_cons_of_mem _ (List.mem_append_right _ (mem_pinsAt hb e))))
            exact ⟨d1, d2⟩
          refine ⟨⟨o, ⟨ro.1, fun p hp => ro.2 p ((List.mem_append.mp hp).elim (fun z => List.mem_append_left _ z) fun z => List.mem_append_right _ (List.mem_append_left _ z))⟩, I7.pins_of fun p hp => ?_⟩, T.keep _ _ _ st5 fun b hb o e => (pn b hb o e).1, fun b hb => ?_⟩
          · rcases List.mem_cons.mp hp with e | hp
            · rw [e]; exact I7.pin (C, o) (List.mem_append_right _ List.mem_cons_self)
            · exact I7.pin p (List.mem_append_right _ (List.mem_cons_of_mem _ (List.mem_append_left _ hp)))
          · obtain ⟨o', e', _⟩ := T.obj _ _ st5 b hb
            exact ⟨(pn b hb o' e').2, (hf b hb).2⟩
        refine hb.run A C (ip ++ pinsAt fp s5.heap) R n m s₀ _ _ _ _ id id s6 σ6 H6 { D with nx := N, ct := N, bk := D.nx } (gl _) hn (fun n' m' s₀' s7 f hn' hs => ?_) ⟨o₀, ⟨r.1, fun p hp => (List.mem_append.mp hp).elim (fun z => r.2 p (List.mem_append_left _ z)) fun z => (List.mem_append.mp z).elim (fun y => r.2 p (List.mem_append_right _ y)) fun y => hfC p.1 (of_pinsAt y).1⟩, I6⟩ q6
        cases f with
        | next =>
          obtain ⟨σ7, H7, I7, n7⟩ := hs
          obtain ⟨j', hj, w7⟩ := hN m' σ7 H7 n7
          obtain ⟨g7, t7, f7⟩ := back I7
          exact seg_again rfl (ih j' hj (i + 1) n' m' s₀' s7 σ7 H7 hn' w7 t7 g7 f7 hfC)
        | cont =>
          obtain ⟨σ7, H7, I7, n7⟩ := hs
          obtain ⟨j', hj, w7⟩ := hN m' σ7 H7 n7
          obtain ⟨g7, t7, f7⟩ := back I7
          exact seg_again rfl (ih j' hj (i + 1) n' m' s₀' s7 σ7 H7 hn' w7 t7 g7 f7 hfC)
        | brk =>
          obtain ⟨σ7, H7, I7, n7⟩ := hs
          exact seg_leaf (.ok .next) (k n' m' s₀' s7 .next hn' ⟨σ7, H7, (back I7).1, n7⟩)
        | ret v =>
          obtain ⟨z, σ7, H7, I7, rz, n7⟩ := hs
          exact seg_leaf (.ok (.ret v)) (k n' m' s₀' s7 (.ret v) hn' ⟨z, σ7, H7, (back I7).1, rz, n7⟩)
  have pC := fun b hb => (f2 b hb).2.2.2.2.2 (C, o₀) (List.mem_append_right _ List.mem_cons_self)
  refine loop j0 0 n m s₀ s2 σ H2 hn w0 st2 ⟨o₀, r, I2⟩ (fun b hb => ?_) (fun b hb z => pC b hb z.symm)
  obtain ⟨z0, z1, z2, z3, z4, z5⟩ := f2 b hb
  refine ⟨z0, z1, z2, z3, z4, fun p hp => ?_⟩
  rcases List.mem_append.mp hp with hp | hp
  · exact z5 p (List.mem_append_left _ hp)
  · exact z5 p (List.mem_append_right _ (List.mem_cons_of_mem _ hp))
end
end K14
end
section
set_option Elab.async false
set_option linter.all false
set_option maxRecDepth 100000
set_option maxHeartbeats 1000000
/-! A generator def: its promise by its body. -/
namespace K14
open PySem PySem.Spec PyProof.Rows L2 GenW

/-- the heap between two turns, whoever ran last -/
structure Wk (P : Program) (w : World) (outer : List Env) (H : Hp) (sc : Shared) (KA : List (Addr × Obj)) (C : Addr) (H2 : Hp) (s2 : Shared) : Prop where
  os : s2.os = sc.os
  bare : AllBare s2.gens
  un : Un (frs outer) [] H H2 sc.heap s2.heap
  hok : HOk P w H2 s2.heap
  kept : ∀ p ∈ KA, s2.heap.get? p.1 = some p.2 ∧ H2 p.1 = none
  con : H2 C = none ∧ ∃ o, s2.heap.get? C = some o ∧ ∀ v, o.data ≠ .cell v
def YIt (P : Program) (w : World) (outer : List Env) (H : Hp) (sc : Shared) (a : Addr) (go : Obj) (C : Addr) (yl : YL) : Protocol := fun n s₀ v s kap =>
  ∃ x H1 KA k, RelV x v ∧ Wk P w outer H sc KA C H1 s ∧ (a, go) ∈ KA ∧ (∀ p ∈ KA, p.1 ≠ C ∧ p.1 ∉ frs outer ∧ ∀ v, p.2.data ≠ .cell v) ∧ s.heap.get? C = s₀.heap.get? C ∧ yl x H1 k ∧ ∀ H2 s2, Wk P w outer H sc KA C H2 s2 → k H2 → kap (.send .none) s2
def REn (P : Program) (w : World) (outer : List Env) (H : Hp) (sc : Shared) (a : Addr) (go : Obj) (C : Addr) (Q : Hp → Prop) : GenEnd := fun n s₀ r s =>
  (r = .ok (.ret .none) ∨ r = .ok .next) ∧ ∃ H1, Wk P w outer H sc [(a, go)] C H1 s ∧ s.heap.get? C = s₀.heap.get? C ∧ Q H1
/-- what a call of a generator def gives; sp: what the heap must be when it begins, the consumer's work, what is wanted of the heap at the end -/
def GMd (P : Program) (w : World) (k : Nat) (outer : List Env) (H : Hp) (sc : Shared) (sp : Hp → YL → (Hp → Prop) → Prop) (u : Value) (s' : Shared) : Prop :=
  ∃ (a : Addr) (g : Nat) (c : Code) (go oL : Obj), u = .ref a ∧ sc.heap.objs.size < a ∧ a < s'.heap.objs.size ∧ s'.heap.get? a = some go ∧ (∀ h : Heap, h.get? a = some go → h.IsGen a g) ∧ (∀ v, go.data ≠ .cell v) ∧ s'.heap.get? sc.heap.objs.size = some oL ∧ (∀ v, oL.data ≠ .cell v) ∧
    s'.gens[g]? = some (.fresh c) ∧ s'.os = sc.os ∧ AllBare s'.gens ∧ (∀ b o, sc.heap.get? b = some o → s'.heap.get? b = some o) ∧ HOk P w H s'.heap ∧
    ∀ (A : Around) (C : Addr) (yl : YL) (Q : Hp → Prop) (H2 : Hp) (s2 : Shared), Room k A → A.frames = some outer → s'.heap.objs.size ≤ C → Wk P w outer H sc [(a, go), (sc.heap.objs.size, oL)] C H2 s2 → sp H2 yl Q →
      Seg (model P w) A (REn P w outer H sc a go C Q) (YIt P w outer H sc a go C yl) sizeLine s2 c ((model P w).den c) [] s2

/-- the context of the body -/
def gx (P : Program) (w : World) (K : PySem.W.Frag) (mg : Str → Option Value) (base : Heap) (N : List Str) (qual : Str) (scope : Scope) (f : Addr) (cd : Value) (A : Around) (outer : List Env) (s : Shared) (H : Hp) (pn : List (Addr × Obj)) : Cx :=
  { gcxOf P w K mg base N qual scope f cd A outer s H (fun _ _ _ => False) pn with xe := fun _ _ => False }

structure GFm (P : Program) (w : World) (K : PySem.W.Frag) (mg : Str → Option Value) (base : Heap) (k : Nat) (f : Addr) (fd : FuncData) (ps : List Str) (sp : List V → Hp → YL → (Hp → Prop) → Prop) : Prop where
  run : ∀ (A : Around) (outer : List Env) (s : Shared) (H : Hp) (args : Args) (us : List Value) (vs : List V), Room k A → Env0 P w K mg base A outer s H → BindsTo s fd args (ps.zip us) → Vals vs us → vs.length = ps.length →
    codeAny (model P w) A (.call (.ref f) args) (fun r s' => match r with | .ok (.ret u) => GMd P w k outer H s (sp vs) u s' | _ => False) s

theorem ncell_none {names : List (Str × NameKind)} (hn : ∀ y ∈ names, y.2 ≠ .cell) : ∀ (n : Nat) (acc : List (Str × Addr)) (x : Str) (c : Addr), (x, c) ∈ cellsFrom n names acc → (x, c) ∈ acc := by
  induction names with
  | nil => intro n acc x c h; exact h
  | cons p r ih =>
    intro n acc x c h
    obtain ⟨y, k⟩ := p
    unfold cellsFrom at h
    split at h
    · rename_i e
      first
        | exact absurd rfl (hn (y, .cell) List.mem_cons_self)
        | (have := hn (y, k) List.mem_cons_self; simp_all)
    · exact ih (fun y hy => hn y (List.mem_cons_of_mem _ hy)) n acc x c h
theorem gfm_of {P : Program} {w : World} {K : PySem.W.Frag} {mg : Str → Option Value} {base : Heap} {k : Nat} {f : Addr} {name qual : Str} {params : Arguments} {body : List Stmt} {scope : Scope} {dV kV doc pm cdv ct oc : Value} {an od : Option Addr}
    {osl : Array (Option Value)} {N ps : List Str} {sp : List V → Hp → YL → (Hp → Prop) → Prop} (lk : K.lookup f = some ⟨oc, od, .func (PySem.W.fnOf name qual params body scope dV kV doc pm an cdv ct), osl⟩) (hcd : PySem.W.codeIn K cdv qual = true) (S : GScope N ps scope)
    (ncell : ∀ y ∈ scope.names, y.2 ≠ .cell)
    (hbody : ∀ (A : Around) (outer : List Env) (s : Shared) (H : Hp) (vs : List V) (pn : List (Addr × Obj)), Room k (A.deeper (envOfC qual scope s.heap.objs.size f cdv)) → vs.length = ps.length →
      ∃ t, GSs (gx P w K mg base N qual scope f cdv A outer s H pn) body t ∧ ∀ H2 yl Q, sp vs H2 yl Q → t { yl := yl, nx := fun _ _ H' => Q H', rt := fun v H' => v = .non ∧ Q H' } 0 (start N vs) H2) :
    GFm P w K mg base (k + 1) f (PySem.W.fnOf name qual params body scope dV kV doc pm an cdv ct) ps sp := by
  refine ⟨fun A outer s H args us vs hr e0 hb r hl => ?_⟩
  have KX : K.In s.heap := e0.mod.kin.keeps fun b o e => (e0.bs b o e).1
  have lim : s.heap.NoLimit := e0.mod.nolimit.keeps fun b o e => (e0.bs b o e).1
  have hkind : ∀ y ∈ ps.zip us, scope.names.lookup y.1 = some .local ∨ (scope.names.lookup y.1 = some .cell ∧ ((cellsFrom (s.heap.objs.size + 1) scope.names []).lookup y.1).isSome = true) := fun ⟨n, v⟩ hy => by
    rcases S.par n (List.of_mem_zip hy).1 with q | q
    · exact .inl q
    · exact .inr ⟨q, PySem.W.cellsFrom_some _ _ _ (.inl q)⟩
  refine codeAny_call_generator hr.depth (KX _ _ lk) rfl S.co S.gen rfl (PySem.W.codeRec_of KX hcd) (hb _ _ _ _ ?_)
  refine wpAny_newFunctionEnv_cells S.kind hkind fun env he s1 x => ?_
  subst he
  have lim1 : s1.heap.NoLimit := lim.keeps x.toInCall.keep
  refine ⟨lim1, ?_⟩
  obtain ⟨h1, tk, es1, hk1⟩ := x.done
  have os1 : s1.os = s.os := by rw [es1]
  have gen1 : s1.gens = s.gens := by rw [es1]
  have lt1 : s.heap.objs.size < s1.heap.objs.size := x.toInCall.ns.lt
  have kp1 : ∀ b o, s.heap.get? b = some o → s1.heap.get? b = some o := x.toInCall.keep
  have ncl : ∀ y, (cellsFrom (s.heap.objs.size + 1) scope.names []).lookup y = none := fun y => by
    cases e : (cellsFrom (s.heap.objs.size + 1) scope.names []).lookup y with
    | none => rfl
    | some c =>
      have := ncell_none ncell _ _ _ _ (PySem.mem_of_lookup e)
      cases this
  have main : ∀ (go : Obj) (nm qn : Value) (tk2 : Nat), go.cls = .type "generator" → go.data = .fields #[.int s1.gens.size 0, nm, qn] → go.slots = #[] → (∀ h : Heap, (h.push go).get? h.objs.size = some go) →
      GMd P w (k + 1) outer H s (sp vs) (.ref s1.heap.objs.size) { s1 with gens := s1.gens.push (.fresh (.func body (envOfC qual scope s.heap.objs.size f cdv))), toks := tk2, heap := s1.heap.push go } := by
    intro go nm qn tk2 hgc hgd0 hgs hgp
    have hgen : ∀ h : Heap, h.get? s1.heap.objs.size = some go → h.IsGen s1.heap.objs.size s1.gens.size := fun h e => ⟨go, nm, qn, e, hgc, hgd0, hgs⟩
    have hpushed : (s1.heap.push go).get? s1.heap.objs.size = some go := hgp _
    have hgd : ∀ v, go.data ≠ .cell v := fun v q => by rw [hgd0] at q; cases q
    obtain ⟨oL, esL, epL, hoL, rL⟩ := id x.toInCall.ns
    have hoL : s1.heap.get? s.heap.objs.size = some oL := hoL
    have hLd : ∀ v, oL.data ≠ .cell v := fun v q => by rw [rL.1] at q; cases q
    have I1 : ∀ Aw, Room (k + 1) Aw → Aw.frames = some outer → Inv (gcxOf P w K mg base N qual scope f cdv Aw outer s H (fun _ _ _ => False) []) [] (start N vs) H s1 := fun Aw hrw hfr =>
      inv_startG S hrw.hd (⟨hfr, e0.mod, e0.bs, e0.bsz, e0.funs, e0.frf, e0.hok, e0.bare⟩ : Env0 P w K mg base Aw outer s H) hl r x
    refine ⟨s1.heap.objs.size, s1.gens.size, _, go, oL, rfl, lt1, ?_, hpushed, hgen, hgd, Heap.get?_push_of_some _ hoL, hLd, Array.getElem?_push_size .., os1, ?_, fun b o e => Heap.get?_push_of_some _ (kp1 b o e), e0.hok.kept fun b o e => Heap.get?_push_of_some _ (kp1 b o e), ?_⟩
    · show _ < (s1.heap.push _).objs.size
      rw [Heap.size_push]; exact Nat.lt_succ_self _
    · exact AllBare.push (by rw [gen1]; exact e0.bare) rfl
    intro Aw C yl Q H2 s2 hrw hfr hC hw hsp
    obtain ⟨t, ht, hq⟩ := hbody Aw outer s H vs [(s1.heap.objs.size, go)] (hrw.deeper _) hl
    have J := I1 Aw hrw hfr
    have young : ∀ b, s1.heap.objs.size ≤ b → b ≠ s.heap.objs.size ∧ b ∉ frs outer := fun b hb => ⟨Nat.ne_of_gt (Nat.lt_of_lt_of_le lt1 hb), J.nofs hb⟩
    have hCz : s1.heap.objs.size < C := by
      have hC' : (s1.heap.push go).objs.size ≤ C := hC
      rw [Heap.size_push] at hC'
      exact hC'
    obtain ⟨w1, w2, w3, w4, w5, w6, o₀, w7, w8⟩ := hw
    have kL := w5 (s.heap.objs.size, oL) (List.mem_cons_of_mem _ List.mem_cons_self)
    have ka := w5 (s1.heap.objs.size, go) List.mem_cons_self
    have hne : ∀ p ∈ [(s1.heap.objs.size, go)], p.1 ≠ C := fun p hp => by
      rw [List.mem_singleton.mp hp]
      exact Nat.ne_of_lt hCz
    have hG : GI (gx P w K mg base N qual scope f cdv Aw outer s H [(s1.heap.objs.size, go)]) C s2 [] (start N vs) H2 s2 := by
      refine ⟨o₀, ⟨w7, fun p hp => ?_⟩, ⟨J.ok.mod, J.ok.kind, J.ok.glob, J.ok.blt, J.ok.above, J.ok.inj, J.ok.has, J.ok.cab, J.ok.hd, J.ok.frames, J.ok.stk, J.ok.exf, J.ok.bs, J.ok.bsz, J.ok.noex, J.ok.exfs, J.ok.funs, J.ok.frf⟩,
        w1, w2, w3, ?_, fun y c e => ?_, kL.2, fun y c e => ?_, fun p hp => ?_, w4, J.len⟩
      · rcases List.mem_append.mp hp with hp | hp
        · exact hne p hp
        · cases hp
      · obtain ⟨m, ⟨ob, es, ep, ho, r⟩, hlk⟩ := J.loc
        have ho : s1.heap.get? s.heap.objs.size = some ob := ho
        rw [hoL] at ho
        cases ho
        refine ⟨m, ⟨oL, es, ep, kL.1, r⟩, fun i y v e1 e2 e3 => ?_⟩
        obtain ⟨u, ru, l⟩ := hlk i y v e1 e2 e3
        refine ⟨u, ru, ?_⟩
        rcases l with l | ⟨_, c, e, _⟩
        · exact .inl l
        · have e : (cellsFrom (s.heap.objs.size + 1) scope.names []).lookup y = some c := e
          rw [ncl y] at e; cases e
      · have e : (cellsFrom (s.heap.objs.size + 1) scope.names []).lookup y = some c := e
        rw [ncl y] at e; cases e
      · have e : (cellsFrom (s.heap.objs.size + 1) scope.names []).lookup y = some c := e
        rw [ncl y] at e; cases e
      · rcases List.mem_append.mp hp with hp | hp
        · rw [List.mem_singleton.mp hp]
          exact ⟨ka.1, ka.2, (young _ (Nat.le_refl _)).1, (young _ (Nat.le_refl _)).2, hgd⟩
        · rw [List.mem_singleton.mp hp]
          exact ⟨w7, w6, (young _ (Nat.le_of_lt hCz)).1, (young _ (Nat.le_of_lt hCz)).2, w8⟩
    -- a state of ours as the consumer sees it
    have wk : ∀ {ip : List (Addr × Obj)} {s₀ s' : Shared} {σ' : L2.St} {H' : Hp}, GI (gx P w K mg base N qual scope f cdv Aw outer s H [(s1.heap.objs.size, go)]) C s₀ ip σ' H' s' → ∃ oL', s'.heap.get? s.heap.objs.size = some oL' ∧ (∀ v, oL'.data ≠ .cell v) ∧
        Wk P w outer H s ((s1.heap.objs.size, go) :: (s.heap.objs.size, oL') :: ip) C H' s' ∧ s'.heap.get? C = s₀.heap.get? C ∧ (∀ p ∈ (s1.heap.objs.size, go) :: (s.heap.objs.size, oL') :: ip, p.1 ≠ C ∧ p.1 ∉ frs outer ∧ ∀ v, p.2.data ≠ .cell v) := fun {ip s₀ s' σ' H'} ⟨o, ⟨ro, rn⟩, I⟩ => by
      obtain ⟨m, ⟨ob, es, ep, ho, rr⟩, _⟩ := I.loc
      have ho : s'.heap.get? s.heap.objs.size = some ob := ho
      have hob : ∀ v, ob.data ≠ .cell v := fun v q => by rw [rr.1] at q; cases q
      obtain ⟨c1, c2, c3, c4, c5⟩ := I.pin (C, o) (List.mem_append_right _ List.mem_cons_self)
      obtain ⟨a1, a2, a3, a4, a5⟩ := I.pin (s1.heap.objs.size, go) (List.mem_append_left _ (List.mem_singleton.mpr rfl))
      have c3 : C ≠ s.heap.objs.size := c3
      have fL : s.heap.objs.size ∉ frs outer := fun z => by
        obtain ⟨_, _, hz, _⟩ := J.ok.funs.mem z
        exact absurd (Heap.lt_size hz) (Nat.lt_irrefl _)
      refine ⟨ob, ho, hob, ⟨I.os, I.bare, I.base, I.hok, fun p hp => ?_, c2, o, c1, c5⟩, c1.trans ro.symm, fun p hp => ?_⟩
      · rcases List.mem_cons.mp hp with e | hp
        · rw [e]; exact ⟨a1, a2⟩
        · rcases List.mem_cons.mp hp with e | hp
          · rw [e]; exact ⟨ho, I.free⟩
          · obtain ⟨q1, q2, _⟩ := I.pin p (List.mem_append_right _ (List.mem_cons_of_mem _ hp))
            exact ⟨q1, q2⟩
      · rcases List.mem_cons.mp hp with e | hp
        · rw [e]; exact ⟨hne _ (List.mem_singleton.mpr rfl), a4, a5⟩
        · rcases List.mem_cons.mp hp with e | hp
          · rw [e]; exact ⟨Ne.symm c3, fL, hob⟩
          · obtain ⟨_, _, _, q4, q5⟩ := I.pin p (List.mem_append_right _ (List.mem_cons_of_mem _ hp))
            exact ⟨rn p (List.mem_append_right _ hp), q4, q5⟩
    refine seg_func ?_
    refine seg_imp (R := GR (gx P w K mg base N qual scope f cdv Aw outer s H [(s1.heap.objs.size, go)]) C (fun v H' => v = .non ∧ Q H'))
      (Y := GY (gx P w K mg base N qual scope f cdv Aw outer s H [(s1.heap.objs.size, go)]) C yl) (fun n s₀ r s1' hR => ?_) (fun n s₀ v s1' kap kap' hkk hY => ?_) sizeLine ?_
    · cases r with
      | error e => exact hR.elim
      | ok fl =>
        cases fl with
        | next => exact False.elim hR
        | brk => exact False.elim hR
        | cont => exact False.elim hR
        | ret u =>
          obtain ⟨v, ip, σ', H', hI, rv, ev, hQ⟩ := hR
          subst ev
          have eu : u = Value.none := rv
          subst eu
          obtain ⟨oL', _, _, hw', hc', _⟩ := wk hI
          exact ⟨.inl rfl, H', ⟨hw'.os, hw'.bare, hw'.un, hw'.hok, fun p hp => hw'.kept p (by rw [List.mem_singleton.mp hp]; exact List.mem_cons_self), hw'.con⟩, hc', hQ⟩
    · obtain ⟨xx, ip, σ', H', kk, rv, hI, hyl, h3⟩ := hY
      obtain ⟨oL', hL', hLd', hw', hc', hn'⟩ := wk hI
      refine ⟨xx, H', _, kk, rv, hw', List.mem_cons_self, hn', hc', hyl, fun H3 s3 wk3 k3 => hkk _ _ (h3 H3 s3 ?_ k3)⟩
      obtain ⟨y1, y2, y3, y4, y5, y6⟩ := wk3
      have yL := y5 (s.heap.objs.size, oL') (List.mem_cons_of_mem _ List.mem_cons_self)
      refine ⟨y1, y2, y3, y4, fun p hp => ?_, ⟨yL.1.trans hL'.symm, yL.2⟩, y6⟩
      rcases List.mem_append.mp hp with hp | hp
      · rw [List.mem_singleton.mp hp]
        exact y5 _ List.mem_cons_self
      · exact y5 p (List.mem_cons_of_mem _ (List.mem_cons_of_mem _ hp))
    · refine ht.run Aw C [] _ sizeLine 0 s2 _ [] _ _ id id s2 (start N vs) H2 { yl := yl, nx := fun _ _ H' => Q H', rt := fun v H' => v = .non ∧ Q H' } ⟨fun _ _ z => z, ncl, over_func, rfl, rfl, rfl⟩ (Nat.add_zero _) (fun n m s₀ s' fl hn hs => ?_) hG (hq H2 yl Q hsp)
      cases fl with
      | next =>
        obtain ⟨σ', H', hI, hQ⟩ := hs
        exact seg_end (.ok (.ret .none)) ⟨.non, [], σ', H', hI, rfl, rfl, hQ⟩
      | brk => obtain ⟨_, _, _, q⟩ := hs; exact False.elim q
      | cont => obtain ⟨_, _, _, q⟩ := hs; exact False.elim q
      | ret u =>
        obtain ⟨v, σ', H', hI, rv, ev, hQ⟩ := hs
        exact seg_end (.ok (.ret u)) ⟨v, [], σ', H', hI, rv, ev, hQ⟩
  exact main _ _ _ _ rfl rfl rfl fun h => Heap.get?_push_size _ rfl
end K14
end
section
set_option Elab.async false
set_option linter.all false
set_option maxRecDepth 100000
/-! What the consumer of a generator runs between the items leaves the sleeping generator as it is: it is shown on a table in which the sleeper can't be woken. -/
namespace K14
open PySem GenW
open Sem (wp)

/-- frames of calls only -/
def ngF : List Frame → Prop
  | [] => True
  | .ret .. :: r => ngF r
  | .gen .. :: _ => False
theorem ngF.split : ∀ {fs : List Frame}, ngF fs → splitAtGen fs = none
  | [], _ => rfl
  | .ret .. :: r, h => by
    show (splitAtGen r).map _ = none
    rw [ngF.split (fs := r) h]; rfl
  | .gen .. :: _, h => h.elim
theorem ngF.of : ∀ {fs : List Frame}, splitAtGen fs = none → ngF fs
  | [], _ => trivial
  | .ret .. :: r, h => by
    show ngF r
    refine ngF.of ?_
    have h : (splitAtGen r).map _ = none := h
    exact Option.map_eq_none_iff.mp h
  | .gen .. :: _, h => by cases h
theorem ngF.app : ∀ {a b : List Frame}, ngF a → ngF b → ngF (a ++ b)
  | [], _, _, h => h
  | .ret .. :: r, _, h, k => ngF.app (a := r) h k
  | .gen .. :: _, _, h, _ => h.elim
def susp : GenState → Bool
  | .suspended .. => true
  | _ => false
/-- it can't be woken; to all that look it is as it was -/
def poison : GenState → GenState
  | .suspended _ l c p fs cl => .suspended (fun _ => .unsupported "") l c p fs cl
  | x => x
def ngG : GenState → Prop
  | .suspended _ _ _ _ fs _ => ngF fs
  | _ => True
def ngE : End → Prop
  | .susp _ _ _ _ _ _ fs => ngF fs
  | .ret _ => True
theorem ngE.gen {e : End} (h : ngE e) : ngG e.genState := by
  cases e with
  | ret _ => trivial
  | susp _ _ _ _ _ _ fs => exact h
theorem poison_seen (x : GenState) : (poison x).seen = x.seen := by cases x <;> rfl
theorem poison_bare (x : GenState) : (poison x).bare = x.bare := by cases x <;> rfl
/-- two tables: B's sleepers are poisoned in the first -/
structure GRel (B G1 G2 : Array GenState) : Prop where
  size : G1.size = G2.size
  le : B.size ≤ G1.size
  sl : ∀ (i : Nat) (x : GenState), B[i]? = some x → susp x = true → G1[i]? = some (poison x) ∧ G2[i]? = some x
  eq : ∀ i : Nat, (∀ x, B[i]? = some x → susp x = false) → G1[i]? = G2[i]?
  ng : ∀ (i : Nat) (y : GenState), (∀ x, B[i]? = some x → susp x = false) → G1[i]? = some y → ngG y
section
variable {B G1 G2 : Array GenState}
theorem GRel.cases (r : GRel B G1 G2) (i : Nat) : (∃ x, susp x = true ∧ G1[i]? = some (poison x) ∧ G2[i]? = some x) ∨ (G1[i]? = G2[i]? ∧ (∀ x, B[i]? = some x → susp x = false) ∧ ∀ y, G1[i]? = some y → ngG y) := by
  by_cases h : ∃ x, B[i]? = some x ∧ susp x = true
  · obtain ⟨x, e, hs⟩ := h
    exact .inl ⟨x, hs, r.sl i x e hs⟩
  · have h' : ∀ x, B[i]? = some x → susp x = false := fun x e => by
      cases hs : susp x with
      | false => rfl
      | true => exact absurd ⟨x, e, hs⟩ h
    exact .inr ⟨r.eq i h', h', fun y e => r.ng i y h' e⟩
theorem GRel.at (r : GRel B G1 G2) {i : Nat} {st : GenState} (e : G1[i]? = some st) : (∃ x, susp x = true ∧ st = poison x ∧ G2[i]? = some x) ∨ (G2[i]? = some st ∧ (∀ x, B[i]? = some x → susp x = false) ∧ ngG st) := by
  rcases r.cases i with ⟨x, h1, h2, h3⟩ | ⟨h1, h2, h3⟩
  · rw [e] at h2
    exact .inl ⟨x, h1, Option.some.inj h2, h3⟩
  · exact .inr ⟨h1.symm.trans e, h2, h3 st e⟩
theorem GRel.push (r : GRel B G1 G2) {y : GenState} (hy : ngG y) : GRel B (G1.push y) (G2.push y) where
  size := by rw [Array.size_push, Array.size_push, r.size]
  le := by rw [Array.size_push]; exact Nat.le_succ_of_le r.le
  sl := fun i x e hs => by
    have hi : i < B.size := (Array.getElem?_eq_some_iff.mp e).1
    have h1 : i < G1.size := Nat.lt_of_lt_of_le hi r.le
    have h2 : i < G2.size := by rw [← r.size]; exact h1
    rw [Array.getElem?_push_lt h1, Array.getElem?_push_lt h2, ← Array.getElem?_eq_getElem h1, ← Array.getElem?_eq_getElem h2]
    exact r.sl i x e hs
  eq := fun i h => by
    rw [Array.getElem?_push, Array.getElem?_push, r.size, r.eq i h]
  ng := fun i z h e => by
    rw [Array.getElem?_push] at e
    split at e
    · cases e; exact hy
    · exact r.ng i z h e
theorem GRel.set (r : GRel B G1 G2) {g : Nat} {y : GenState} (hg : ∀ x, B[g]? = some x → susp x = false) (hy : ngG y) : GRel B (G1.setIfInBounds g y) (G2.setIfInBounds g y) where
  size := by rw [Array.size_setIfInBounds, Array.size_setIfInBounds, r.size]
  le := by rw [Array.size_setIfInBounds]; exact r.le
  sl := fun i x e hs => by
    have ne : g ≠ i := fun z => by
      subst z
      rw [hg x e] at hs; cases hs
    rw [Array.getElem?_setIfInBounds_ne ne, Array.getElem?_setIfInBounds_ne ne]
    exact r.sl i x e hs
  eq := fun i h => by
    rw [Array.getElem?_setIfInBounds, Array.getElem?_setIfInBounds, r.size, r.eq i h]
  ng := fun i z h e => by
    rw [Array.getElem?_setIfInBounds] at e
    split at e
    · split at e
      · cases e; exact hy
      · cases e
    · exact r.ng i z h e
end
/-- two states: the same but for the tables -/
def SRel (B : Array GenState) (s1 s2 : Shared) : Prop := ∃ G, s2 = { s1 with gens := G } ∧ GRel B s1.gens G
theorem SRel.setGen {B : Array GenState} {s1 s2 : Shared} (r : SRel B s1 s2) {g : Nat} {y : GenState} (hg : ∀ x, B[g]? = some x → susp x = false) (hy : ngG y) : SRel B (s1.setGen g y) (s2.setGen g y) := by
  obtain ⟨G, rfl, q⟩ := r
  exact ⟨_, rfl, q.set hg hy⟩

theorem no_runs {M : Model} {w : String} : ∀ {Γ : Ctx} {p : Pos} {t : Sem PySem.Fin} {fs : List Frame} {s s' : Shared} {e : End}, Runs M Γ p t fs s e s' → t = .unsupported w → False := by
  intro Γ p t fs s s' e h
  induction h with
  | segRet _ _ ih _ => exact ih
  | segGen _ _ ih _ => exact ih
  | segSuspOut _ _ ih => exact ih
  | segSuspGen _ _ _ _ ih _ => exact ih
  | _ => intro q; cases q

theorem runs_sim {M : Model} {B : Array GenState} : ∀ {Γ : Ctx} {p : Pos} {t : Sem PySem.Fin} {fs : List Frame} {s s' : Shared} {e : End}, Runs M Γ p t fs s e s' → ngF fs → ∀ s2, SRel B s s2 → ∃ s2', Runs M Γ p t fs s2 e s2' ∧ SRel B s' s2' ∧ ngE e := by
  intro Γ p t fs s s' e h
  induction h with
  | done => intro _ s2 r; exact ⟨_, .done, r, trivial⟩
  | raise => intro _ s2 r; exact ⟨_, .raise, r, trivial⟩
  | again hq _ ih => intro n s2 r; obtain ⟨s2', a, b, c⟩ := ih trivial s2 r; exact ⟨_, .again hq a, b, c⟩
  | rule _ ih => intro n s2 r; obtain ⟨s2', a, b, c⟩ := ih trivial s2 r; exact ⟨_, .rule a, b, c⟩
  | «at» _ ih => intro n s2 r; obtain ⟨s2', a, b, c⟩ := ih trivial s2 r; exact ⟨_, .at a, b, c⟩
  | load ho _ ih =>
    intro n s2 r
    obtain ⟨s2', a, b, c⟩ := ih trivial s2 r
    obtain ⟨G, rfl, q⟩ := r
    exact ⟨_, .load ho a, b, c⟩
  | update ho _ ih =>
    intro n s2 r
    obtain ⟨G, rfl, q⟩ := r
    obtain ⟨s2', a, b, c⟩ := ih trivial _ ⟨G, rfl, q⟩
    exact ⟨_, .update ho a, b, c⟩
  | loadIfAlive _ ih =>
    intro n s2 r
    obtain ⟨G, rfl, q⟩ := r
    obtain ⟨s2', a, b, c⟩ := ih trivial _ ⟨G, rfl, q⟩
    exact ⟨_, .loadIfAlive a, b, c⟩
  | point _ ih => intro n s2 r; obtain ⟨s2', a, b, c⟩ := ih trivial s2 r; exact ⟨_, .point a, b, c⟩
  | alloc _ ih =>
    intro n s2 r
    obtain ⟨G, rfl, q⟩ := r
    obtain ⟨s2', a, b, c⟩ := ih trivial _ ⟨G, rfl, q⟩
    exact ⟨_, .alloc a, b, c⟩
  | fresh _ ih =>
    intro n s2 r
    obtain ⟨G, rfl, q⟩ := r
    obtain ⟨s2', a, b, c⟩ := ih trivial _ ⟨G, rfl, q⟩
    exact ⟨_, .fresh a, b, c⟩
  | ask _ ih => intro n s2 r; obtain ⟨s2', a, b, c⟩ := ih trivial s2 r; exact ⟨_, .ask a, b, c⟩
  | choose hn _ ih =>
    intro n s2 r
    obtain ⟨G, rfl, q⟩ := r
    obtain ⟨s2', a, b, c⟩ := ih trivial _ ⟨G, rfl, q⟩
    exact ⟨_, .choose hn a, b, c⟩
  | os _ ih =>
    intro n s2 r
    obtain ⟨G, rfl, q⟩ := r
    obtain ⟨s2', a, b, c⟩ := ih trivial _ ⟨G, rfl, q⟩
    exact ⟨_, .os a, b, c⟩
  | handled _ ih => intro n s2 r; obtain ⟨s2', a, b, c⟩ := ih trivial s2 r; exact ⟨_, .handled a, b, c⟩
  | genState hg _ ih =>
    intro n s2 r
    obtain ⟨s2', a, b, c⟩ := ih trivial s2 r
    obtain ⟨G, rfl, q⟩ := r
    rcases q.at hg with ⟨x, _, e1, h2⟩ | ⟨h2, _, _⟩
    · refine ⟨_, .genState (st := x) h2 ?_, b, c⟩
      rw [← poison_seen, ← e1]
      exact a
    · exact ⟨_, .genState h2 a, b, c⟩
  | stack _ ih => intro n s2 r; obtain ⟨s2', a, b, c⟩ := ih trivial s2 r; exact ⟨_, .stack a, b, c⟩
  | thread _ ih => intro n s2 r; obtain ⟨s2', a, b, c⟩ := ih trivial s2 r; exact ⟨_, .thread a, b, c⟩
  | newGen _ ih =>
    intro n s2 r
    obtain ⟨G, rfl, q⟩ := r
    obtain ⟨s2', a, b, c⟩ := ih trivial _ ⟨_, rfl, q.push (y := .fresh _) trivial⟩
    refine ⟨_, .newGen ?_, b, c⟩
    rw [q.size] at a
    exact a
  | call _ _ ih1 ih2 =>
    intro n s2 r
    obtain ⟨s3, a, b, c⟩ := ih1 trivial s2 r
    obtain ⟨s4, a2, b2, c2⟩ := ih2 trivial s3 b
    exact ⟨_, .call a a2, b2, c2⟩
  | callSusp _ ih =>
    intro n s2 r
    obtain ⟨s3, a, b, c⟩ := ih trivial s2 r
    exact ⟨_, .callSusp a, b, ngF.app c (show ngF [_] from trivial)⟩
  | yield => intro n s2 r; exact ⟨_, .yield, r, trivial⟩
  | resumeFresh hg _ hq _ ih1 ih2 =>
    intro n s2 r
    obtain ⟨G, e2, q⟩ := id r
    rcases q.at hg with ⟨x, hs, h1, h2⟩ | ⟨h2, hb, hy⟩
    · cases x with
      | suspended => cases h1
      | _ => cases hs
    · obtain ⟨s3, a, b, c⟩ := ih1 trivial _ (r.setGen (y := .running) hb trivial)
      obtain ⟨s4, a2, b2, c2⟩ := ih2 trivial _ (b.setGen hb c.gen)
      exact ⟨_, .resumeFresh (by rw [e2]; exact h2) a hq a2, b2, c2⟩
  | resumeSuspended hg hr hq _ ih1 ih2 =>
    intro n s2 r
    obtain ⟨G, e2, q⟩ := id r
    rcases q.at hg with ⟨x, hs, h1, h2⟩ | ⟨h2, hb, hy⟩
    · cases x with
      | suspended k l c p fs cl =>
        cases h1
        exact (no_runs hr rfl).elim
      | _ => cases hs
    · obtain ⟨s3, a, b, c⟩ := ih1 hy _ (r.setGen (y := .running) hb trivial)
      obtain ⟨s4, a2, b2, c2⟩ := ih2 trivial _ (b.setGen hb c.gen)
      exact ⟨_, .resumeSuspended (by rw [e2]; exact h2) a hq a2, b2, c2⟩
  | resumeJustStarted hg hv _ ih =>
    intro n s2 r
    obtain ⟨G, e2, q⟩ := id r
    obtain ⟨s3, a, b, c⟩ := ih trivial _ r
    rcases q.at hg with ⟨x, hs, h1, h2⟩ | ⟨h2, hb, hy⟩
    · cases x with
      | suspended => cases h1
      | _ => cases hs
    · exact ⟨_, .resumeJustStarted (by rw [e2]; exact h2) hv a, b, c⟩
  | resumeThrowFresh hg _ ih =>
    intro n s2 r
    obtain ⟨G, e2, q⟩ := id r
    rcases q.at hg with ⟨x, hs, h1, h2⟩ | ⟨h2, hb, hy⟩
    · cases x with
      | suspended => cases h1
      | _ => cases hs
    · obtain ⟨s3, a, b, c⟩ := ih trivial _ (r.setGen (y := .finished) hb trivial)
      exact ⟨_, .resumeThrowFresh (by rw [e2]; exact h2) a, b, c⟩
  | resumeRunning hg _ ih =>
    intro n s2 r
    obtain ⟨G, e2, q⟩ := id r
    obtain ⟨s3, a, b, c⟩ := ih trivial _ r
    rcases q.at hg with ⟨x, hs, h1, h2⟩ | ⟨h2, hb, hy⟩
    · cases x with
      | suspended => cases h1
      | _ => cases hs
    · exact ⟨_, .resumeRunning (by rw [e2]; exact h2) a, b, c⟩
  | resumeFinished hg _ ih =>
    intro n s2 r
    obtain ⟨G, e2, q⟩ := id r
    obtain ⟨s3, a, b, c⟩ := ih trivial _ r
    rcases q.at hg with ⟨x, hs, h1, h2⟩ | ⟨h2, hb, hy⟩
    · cases x with
      | suspended => cases h1
      | _ => cases hs
    · exact ⟨_, .resumeFinished (by rw [e2]; exact h2) a, b, c⟩
  | segRet _ _ ih1 ih2 =>
    intro n s2 r
    obtain ⟨s3, a, b, c⟩ := ih1 trivial s2 r
    obtain ⟨s4, a2, b2, c2⟩ := ih2 n s3 b
    exact ⟨_, .segRet a a2, b2, c2⟩
  | segGen _ _ _ _ => intro n; exact n.elim
  | segSuspOut hs _ ih =>
    intro n s2 r
    obtain ⟨s3, a, b, c⟩ := ih trivial s2 r
    exact ⟨_, .segSuspOut hs a, b, ngF.app c n⟩
  | segSuspGen hs _ _ _ _ _ =>
    intro n
    rw [n.split] at hs
    cases hs

theorem wakes_sim {M : Model} {B : Array GenState} {Γ : Ctx} {p : Pos} {g : Nat} {r : Resume} {s s' s2 : Shared} {res : GenResult} (h : Wakes M Γ p g r s res s') (rel : SRel B s s2) : ∃ s2', Wakes M Γ p g r s2 res s2' ∧ SRel B s' s2' := by
  obtain ⟨G, e2, q⟩ := id rel
  unfold Wakes at h
  cases hg : s.gens[g]? with
  | none => rw [hg] at h; exact h.elim
  | some st =>
    rw [hg] at h
    rcases q.at hg with ⟨x, hs, h1, h2⟩ | ⟨h2, hb, hy⟩
    · cases x with
      | suspended k l c p fs cl =>
        cases h1
        obtain ⟨e₁, s₁, hr, _⟩ := h
        exact (no_runs hr rfl).elim
      | _ => cases hs
    · have h2' : s2.gens[g]? = some st := by rw [e2]; exact h2
      unfold Wakes
      rw [h2']
      cases st with
      | fresh c =>
        dsimp only at h ⊢
        split at h
        · obtain ⟨e₁, s₁, hr, hq, hres, rfl⟩ := h
          obtain ⟨s3, a, b, c⟩ := runs_sim hr trivial _ (rel.setGen (y := .running) hb trivial)
          exact ⟨_, ⟨e₁, s3, a, hq, hres, rfl⟩, b.setGen hb c.gen⟩
        · obtain ⟨h3, rfl⟩ := h
          exact ⟨_, ⟨h3, rfl⟩, rel⟩
        · obtain ⟨h3, rfl⟩ := h
          exact ⟨_, ⟨h3, rfl⟩, rel.setGen hb trivial⟩
      | suspended k l c p fs cl =>
        obtain ⟨e₁, s₁, hr, hq, hres, rfl⟩ := h
        obtain ⟨s3, a, b, c⟩ := runs_sim hr hy _ (rel.setGen (y := .running) hb trivial)
        exact ⟨_, ⟨e₁, s3, a, hq, hres, rfl⟩, b.setGen hb c.gen⟩
      | running =>
        obtain ⟨h3, rfl⟩ := h
        exact ⟨_, ⟨h3, rfl⟩, rel⟩
      | finished =>
        obtain ⟨h3, rfl⟩ := h
        exact ⟨_, ⟨h3, rfl⟩, rel⟩
theorem wp_sim {α : Type} (M : Model) (Γ : Ctx) (B : Array GenState) (t : Sem α) : ∀ (Q : α → Pos → Shared → Prop) (E : Value → Pos → Shared → Prop) (p : Pos) (s s2 : Shared), SRel B s s2 → wp M Γ t Q E p s →
    wp M Γ t (fun a p' s2' => ∃ s', SRel B s' s2' ∧ Q a p' s') (fun e p' s2' => ∃ s', SRel B s' s2' ∧ E e p' s') p s2 := by
  induction t with
  | pure a => intro Q E p s s2 r h; exact ⟨s, r, h⟩
  | raise e => intro Q E p s s2 r h; exact ⟨s, r, h⟩
  | unsupported _ => intro Q E p s s2 _ h; exact h
  | finish _ => intro Q E p s s2 _ h; exact h
  | rule _ k ih => intro Q E p s s2 r h; exact ih () Q E p s s2 r h
  | «at» p' k ih => intro Q E p s s2 r h; exact ih () Q E p' s s2 r h
  | load a _ k ih =>
    intro Q E p s s2 r h
    obtain ⟨o, ho, h⟩ := h
    refine ⟨o, ?_, ih o Q E p s s2 r h⟩
    obtain ⟨G, rfl, q⟩ := r
    exact ho
  | update a _ f k ih =>
    intro Q E p s s2 r h
    obtain ⟨G, rfl, q⟩ := r
    exact ⟨h.1, ih () Q E p { s with heap := s.heap.update a f } _ ⟨G, rfl, q⟩ h.2⟩
  | loadIfAlive a k ih =>
    intro Q E p s s2 r h
    obtain ⟨G, rfl, q⟩ := r
    exact ih _ Q E p _ _ ⟨G, rfl, q⟩ h
  | point _ k ih => intro Q E p s s2 r h; exact ih () Q E p s s2 r h
  | register _ _ => intro Q E p s s2 _ h; exact h
  | alloc o k ih =>
    intro Q E p s s2 r h
    obtain ⟨G, rfl, q⟩ := r
    exact ih _ Q E p { s with heap := s.heap.push o } _ ⟨G, rfl, q⟩ h
  | fresh k ih =>
    intro Q E p s s2 r h
    obtain ⟨G, rfl, q⟩ := r
    exact ih _ Q E p { s with toks := s.toks + 1 } _ ⟨G, rfl, q⟩ h
  | ask k ih =>
    intro Q E p s s2 r h
    obtain ⟨G, rfl, q⟩ := r
    exact ih _ Q E p _ _ ⟨G, rfl, q⟩ h
  | choose src m k ih =>
    intro Q E p s s2 r h
    obtain ⟨G, rfl, q⟩ := r
    exact ⟨h.1, ih _ Q E p { s with drawn := s.drawn.bump src } _ ⟨G, rfl, q⟩ h.2⟩
  | os qq _ k ih =>
    intro Q E p s s2 r h
    obtain ⟨G, rfl, q⟩ := r
    exact ih _ Q E p { s with os := (Os.step s.os qq).1 } _ ⟨G, rfl, q⟩ h
  | call c hd _ _ k ih =>
    intro Q E p s s2 r h
    obtain ⟨rr, s', hr, h⟩ := h
    obtain ⟨s3, a, b, _⟩ := runs_sim (M := M) hr trivial s2 r
    exact ⟨rr, s3, a, ih rr Q E p s' s3 b h⟩
  | handled own k ih => intro Q E p s s2 r h; exact ih _ Q E p s s2 r h
  | genState g k ih =>
    intro Q E p s s2 r h
    obtain ⟨st, hs, h⟩ := h
    obtain ⟨G, rfl, q⟩ := id r
    rcases q.at hs with ⟨x, _, e1, h2⟩ | ⟨h2, _, _⟩
    · refine ⟨x, h2, ?_⟩
      rw [← poison_seen, ← e1]
      exact ih _ Q E p s _ r h
    · exact ⟨st, h2, ih _ Q E p s _ r h⟩
  | newGen c k ih =>
    intro Q E p s s2 r h
    obtain ⟨G, rfl, q⟩ := r
    have := ih _ Q E p { s with gens := s.gens.push (.fresh c) } { s with gens := G.push (.fresh c) } ⟨G.push (.fresh c), rfl, q.push (y := .fresh c) trivial⟩ h
    rw [q.size] at this
    exact this
  | resume g rr _ k ih =>
    intro Q E p s s2 r h
    obtain ⟨res, s', hw, h⟩ := h
    obtain ⟨s3, a, b⟩ := wakes_sim hw r
    exact ⟨res, s3, a, ih res Q E p s' s3 b h⟩
  | yield _ _ _ _ => intro Q E p s s2 _ h; exact h
  | stack k ih => intro Q E p s s2 r h; exact ih _ Q E p s s2 r h
  | fork _ _ => intro Q E p s s2 _ h; exact h
  | thread k ih => intro Q E p s s2 r h; exact ih _ Q E p s s2 r h
  | await _ _ _ _ _ => intro Q E p s s2 _ h; exact h
/-- a piece of the logic on the poisoned table tells of the true one -/
theorem wpAny_sim {α : Type} {M : Model} {A : Around} {B : Array GenState} {s s2 : Shared} {t : Sem α} {P Q : α → Shared → Prop} {E : Value → Shared → Prop} (r : SRel B s s2)
    (h : wpAny M A t P (fun _ _ => False) s) (hQ : ∀ a s' s2', SRel B s' s2' → P a s' → Q a s2') : wpAny M A t Q E s2 := fun Γ p hΓ =>
  Sem.wp_mono M Γ t (fun a p' s' ⟨s1, r1, q⟩ => hQ a s1 s' r1 q) (fun e p' s' ⟨s1, r1, q⟩ => q.elim) _ _ (wp_sim M Γ B t _ _ p s s2 r (h Γ p hΓ))
/-- the poisoned table of s -/
def poisoned (G : Array GenState) : Array GenState := G.map poison
theorem poisoned_rel {s : Shared} : SRel s.gens { s with gens := poisoned s.gens } s := by
  refine ⟨s.gens, rfl, ?_, ?_, fun i x e hs => ?_, fun i h => ?_, fun i y h e => ?_⟩
  · simp [poisoned]
  · simp [poisoned]
  · refine ⟨?_, e⟩
    show (s.gens.map poison)[i]? = _
    rw [Array.getElem?_map, e]; rfl
  · show (s.gens.map poison)[i]? = _
    rw [Array.getElem?_map]
    cases e : s.gens[i]? with
    | none => rfl
    | some x =>
      have := h x e
      cases x <;> first | rfl | cases this
  · have e : (s.gens.map poison)[i]? = some y := e
    rw [Array.getElem?_map] at e
    cases e2 : s.gens[i]? with
    | none => rw [e2] at e; cases e
    | some x =>
      rw [e2] at e
      have e := (Option.some.inj e).symm
      subst e
      have := h x e2
      cases x <;> first | trivial | cases this
theorem poisoned_bare {G : Array GenState} (h : PyProof.Rows.AllBare G) : PyProof.Rows.AllBare (poisoned G) := fun y hy => by
  obtain ⟨x, hx, rfl⟩ := Array.mem_map.mp hy
  rw [poison_bare]
  exact h x hx
end K14
end
section
set_option Elab.async false
set_option linter.all false
set_option maxRecDepth 100000
set_option maxHeartbeats 1000000
/-! next of such a generator; a dict comprehension over it. -/
namespace K14
open PySem PySem.Spec PyProof.Rows L2 GenW

theorem susp_of_end {v : Value} {g₀ : Bool} {l₀ : List Value} {k₀ : Resume → Sem PySem.Fin} {c₀ : Code} {p₀ : Pos} {fs₀ : List Frame} : susp (End.susp v g₀ l₀ k₀ c₀ p₀ fs₀).genState = true := rfl
/-- .. goes on, if any turn is left -/
def GNext (M : Model) (A : Around) (R : GenEnd) (Y : Protocol) : Nat → GenState → Resume → Shared → Prop
  | 0, _, _, _ => False
  | m + 1, gs, r, s => gs.Goes M A R Y m r s
section
variable {M : Model}
theorem resume_susp {A : Around} {R : GenEnd} {Y : Protocol} {n : Nat} {E : Value → Shared → Prop} {s : Shared} {g : Nat} {gs : GenState} {r : Resume} {l : List Value} {α : Type} {k : GenResult → Sem α} {Q : α → Shared → Prop} (hg : s.gens[g]? = some gs)
    (hgo : gs.Goes M A R Y n r (s.setGen g .running)) (hR : ∀ x s₁, R n (s.setGen g .running) x s₁ → wpAny M A (k (End.ret x).result) Q E (s₁.setGen g .finished))
    (hY : ∀ v s₁ gs', gs'.bare = true → susp gs' = true → Y (n - 1) (s.setGen g .running) v s₁ (fun r' s'' => GNext M A R Y n gs' r' s'') → wpAny M A (k (.yielded v)) Q E (s₁.setGen g gs')) :
    wpAny M A (.resume g r l k) Q E s := by
  intro Γ p hΓ
  rw [Sem.wp_resume]
  have fin : ∀ e₁ s₁, SegEnd R Y n (Seg.next M A R Y n) (s.setGen g .running) e₁ s₁ → e₁.quiet = true ∧ Sem.wp M Γ (k e₁.result) (fun a _ s' => Q a s') (fun e _ s' => E e s') p (s₁.setGen g e₁.genState) := fun e₁ s₁ he => by
    cases e₁ with
    | ret x => exact ⟨rfl, hR x s₁ he Γ p hΓ⟩
    | susp v g₀ l₀ k₀ c₀ p₀ fs₀ =>
      refine ⟨he.1, hY v s₁ _ (End.bare_of_quiet he.1) susp_of_end ?_ Γ p hΓ⟩
      cases n <;> exact he.2
  cases gs with
  | fresh c =>
    obtain ⟨rfl, hs⟩ := hgo
    obtain ⟨e₁, s₁, hr, he⟩ := seg_iff.mp hs (Γ.wake c p) p rfl (hΓ.wake c p)
    exact ⟨_, _, by unfold Wakes; rw [hg]; exact ⟨e₁, s₁, hr, (fin e₁ s₁ he).1, rfl, rfl⟩, (fin e₁ s₁ he).2⟩
  | suspended k₀ l₀ c₀ p₀ fs₀ cl =>
    obtain ⟨e₁, s₁, hr, he⟩ := seg_iff.mp hgo (Γ.wake c₀ p) p₀ rfl (hΓ.wake c₀ p)
    exact ⟨_, _, by unfold Wakes; rw [hg]; exact ⟨e₁, s₁, hr, (fin e₁ s₁ he).1, rfl, rfl⟩, (fin e₁ s₁ he).2⟩
  | running => exact hgo.elim
  | finished => exact hgo.elim
end
section
variable {P : Program} {w : World} {A : Around} {E : Value → Shared → Prop} {s : Shared}
theorem next_genS {a : Addr} {g n : Nat} {gs : GenState} {F : Nat → Shared → Shared → Prop} {Y : Protocol} {Q : Option Value → Shared → Prop} (hh : A.handled = none)
    (hl : s.heap.NoLimit) (hroom : A.depth < recursionLimit) (hg : s.heap.IsGen a g) (hgs : s.gens[g]? = some gs)
    (hgo : gs.Goes (model P w) A.in1 (fun n s₀ r s₁ => (r = .ok (.ret .none) ∨ r = .ok .next) ∧ F n s₀ s₁) Y n (.send .none) (s.setGen g .running))
    (hY : ∀ v s₁ gs', gs'.bare = true → susp gs' = true → Y (n - 1) (s.setGen g .running) v s₁ (fun r' s'' => GNext (model P w) A.in1 (fun n s₀ r s₁ => (r = .ok (.ret .none) ∨ r = .ok .next) ∧ F n s₀ s₁) Y n gs' r' s'') → Q (some v) (s₁.setGen g gs'))
    (hP : ∀ s₁, F n (s.setGen g .running) s₁ → ∀ h', (∀ b o, s₁.heap.get? b = some o → h'.get? b = some o) → Q none { s₁.setGen g .finished with heap := h' }) :
    wpAny (model P w) A (pyNext (.ref a)) Q E s := by
  unfold pyNext
  refine wpAny_bind (wpAny_attempt (wpAny_callSpecial?_slot (name := Str.ofString "__next__") hg.typeIs slot_gen_next (wpAny_call_entry slot_gen_next hg.typeIs entry_gen_next ?_ (args_gen_next _))))
  show wpAny _ A.in1 (Builtin.Generator.genWake (.ref a) (.send .none)) _ _ s
  unfold Builtin.Generator.genWake
  refine wpAny_bind (wpAny_holding (wpAny_genNumber hg (wpAny_bind (wpAny_genState hgs ?_))))
  cases gs with
  | running => exact hgo.elim
  | finished => exact hgo.elim
  | _ =>
    refine wpAny_bind (wpAny_roomToWake hl hroom ?_)
    show wpAny _ A.in1 (.resume g (.send .none) [] _) _ _ s
    refine resume_susp hgs hgo (fun x s₁ hx => ?_) (fun v s₁ gs' hb hs hv => wpAny_pure ⟨v, rfl, wpAny_pure (hY v s₁ gs' hb hs hv)⟩)
    obtain ⟨hr, hp⟩ := hx
    have hres : End.result (.ret x) = .returned .none := by
      rcases hr with hr | hr <;> rw [hr] <;> rfl
    first | rw [hres] | simp only [hres]
    show wpAny _ A.in1 (newExc (.type "StopIteration") [] >>= _) _ _ _
    refine wpAny_bind ?_
    simp only [newExc, newTuple]
    refine wpAny_bind (wpAny_newObj_type ?_ (by size_fits))
    refine wpAny_bind (m := firstArgMember _ _) (wpAny_of_eq (a := Value.none) (by first | rfl | (simp only [firstArgMember]; rfl)) ?_)
    refine wpAny_newObj_type ?_ (by size_fits)
    simp only [raiseNew]
    refine wpAny_bind (wpAny_bind (wpAny_handled ?_))
    first | rw [show A.in1.handled = none from hh] | rw [hh]
    refine wpAny_throw ?_
    refine wpAny_bind (wpAny_isInstance (T := "StopIteration") (b := true) ⟨_, Heap.get?_push_size _ rfl, rfl⟩ isSubtype_stop ?_)
    exact wpAny_pure (hP s₁ hp _ fun b o hb => Heap.get?_push_of_some _ (Heap.get?_push_of_some _ hb))
end
end K14
end
section
set_option Elab.async false
set_option linter.all false
set_option maxRecDepth 100000
set_option maxHeartbeats 2000000
/-! A dict comprehension over a generator def's call. -/
namespace K14
open PySem PySem.Spec PyProof.Rows L2 GenW

/-- a kind of dict: the empty one, a store -/
structure Flv (P : Program) (w : World) where
  nil : Addr → HO
  put : Hp → Addr → V → V → (Hp → Prop) → Prop
  rm : Around → Prop
  nil_ok : ∀ (H : Hp) (h : Heap), sysModules < h.objs.size → ObjOk P w H (h.push { cls := .type "dict", data := .dict #[] }) h.objs.size (nil h.objs.size)
  put_ok : ∀ {X : Cx} {pins : List (Addr × Obj)} {σ : L2.St} {H : Hp} {s : Shared} {E : Value → Shared → Prop} {D : Addr} {y z : V} {u r : Value} {kk : Hp → Prop} {Q : Unit → Shared → Prop}, X.prog = P → X.w = w → rm X.A → Inv X pins σ H s → put H D y z kk → RelV y u → RelV z r →
    (∀ H' s', Inv X pins σ H' s' → kk H' → Q () s') → wpAny (model P w) X.A (dictSet D u r) Q E s

section
variable {X : Cx} {pins : List (Addr × Obj)} {σ : L2.St} {H H2 : Hp} {s s2 : Shared}
theorem inv_gens {G : Array GenState} (I : Inv X pins σ H s) (h : AllBare G) : Inv X pins σ H { s with gens := G } :=
  ⟨I.ok, I.os, h, I.base, I.loc, I.cell, I.free, I.freeC, I.pin, I.hok, I.len⟩
theorem rel_inv {B : Array GenState} (I : Inv X pins σ H s) (r : SRel B s s2) : Inv X pins σ H s2 := by
  obtain ⟨G, rfl, q⟩ := r
  refine inv_gens I fun y hy => ?_
  obtain ⟨i, hi, e⟩ := Array.mem_iff_getElem.mp hy
  have ey : G[i]? = some y := by rw [Array.getElem?_eq_getElem hi, e]
  rcases q.cases i with ⟨x, _, h1, h2⟩ | ⟨h1, _, _⟩
  · rw [ey] at h2
    cases h2
    rw [← poison_bare]
    exact I.bare _ (Array.mem_of_getElem? h1)
  · rw [ey] at h1
    exact I.bare _ (Array.mem_of_getElem? h1)
/-- the block's context, told from the generator's beginning -/
theorem blk_root {sc s3 s4 : Shared} {H1 H3 : Hp} {scope : Scope} {ce : Env} {σw : L2.St} (I0 : Inv X pins σ H1 sc) (I4 : Inv (X.blk s3 H3 scope ce []) [] σw H3 s4) (hsz : sc.heap.objs.size ≤ s3.heap.objs.size) (hos : s4.os = sc.os) (un : Un (frs X.stack) [] H1 H3 sc.heap s4.heap) :
    Inv (X.blk sc H1 scope ce []) [] σw H3 s4 :=
  ⟨⟨I4.ok.mod, I4.ok.kind, I4.ok.glob, I4.ok.blt, Nat.le_trans hsz I4.ok.above, I4.ok.inj, I4.ok.has, fun x c hf e => Nat.le_trans hsz (I4.ok.cab x c hf e), I4.ok.hd, I4.ok.frames, .inl rfl, I4.ok.exf, I0.bs, Nat.le_trans I0.ok.bsz I0.sz, fun b o _ hb => (nomatch hb), fun b hb => (nomatch hb), I0.stack, I0.stkFree⟩,
    hos, I4.bare, un, I4.loc, I4.cell, I4.free, I4.freeC, I4.pin, I4.hok, I4.len⟩
/-- the generator has run: the consumer's block goes on -/
theorem con_woken {sc s5 s1 : Shared} {H1 H5 H6 : Hp} {scope : Scope} {ce : Env} {σw : L2.St} {KA KA' : List (Addr × Obj)} (hcell : ∀ x c, ce.cells.lookup x = some c → ∃ o, sc.heap.get? c = some o ∧ H1 c = none) (I : Inv (X.blk sc H1 scope ce []) KA σw H5 s5)
    (wk : Wk X.prog X.w X.stack H1 sc KA' ce.locals H6 s1) (hC : s1.heap.get? ce.locals = s5.heap.get? ce.locals) (hn : ∀ p ∈ KA', p.1 ≠ ce.locals ∧ p.1 ∉ frs X.stack ∧ ∀ v, p.2.data ≠ .cell v) : Inv (X.blk sc H1 scope ce []) KA' σw H6 s1 := by
  have hc : ∀ x c, ce.cells.lookup x = some c → ∀ v, s5.heap.IsCell c v → s1.heap.IsCell c v := fun x c e v ⟨o5, h5, hd⟩ => by
    obtain ⟨o, ho, hn⟩ := hcell x c e
    have I5 := I.base.any ho hn (by simp)
    obtain ⟨sl5, e5⟩ := I5
    obtain ⟨sl1, e1⟩ := wk.un.any ho hn (by simp)
    rw [h5] at e5
    cases e5
    exact ⟨_, e1, hd⟩
  refine ⟨I.ok, wk.os, wk.bare, wk.un, ?_, fun x c e => ?_, wk.con.1, fun x c e => ?_, fun p hp => ?_, wk.hok, I.len⟩
  · obtain ⟨m, ⟨o, es, ep, ho, r⟩, hl⟩ := I.loc
    refine ⟨m, ⟨o, es, ep, hC.trans ho, r⟩, fun i x v e1 e2 e3 => ?_⟩
    obtain ⟨u, ru, l⟩ := hl i x v e1 e2 e3
    refine ⟨u, ru, ?_⟩
    rcases l with l | ⟨k, c, e, z⟩
    · exact .inl l
    · exact .inr ⟨k, c, e, hc x c e _ z⟩
  · obtain ⟨v, z⟩ := I.cell x c e
    exact ⟨v, hc x c e v z⟩
  · obtain ⟨o, ho, hn⟩ := hcell x c e
    exact wk.un.free c o ho hn (by simp)
  · have hp : p ∈ KA' := (List.mem_append.mp hp).elim (fun z => absurd (show p ∈ ([] : List (Addr × Obj)) from z) (by simp)) id
    obtain ⟨z1, z2⟩ := wk.kept p hp
    obtain ⟨z3, z4, z5⟩ := hn p hp
    exact ⟨z1, z2, z3, z4, z5⟩
theorem inv_wk {sc s1 : Shared} {H1 H5 : Hp} {scope : Scope} {ce : Env} {σw : L2.St} {KA : List (Addr × Obj)} {g : Nat} (I : Inv (X.blk sc H1 scope ce []) KA σw H5 s1) : Wk X.prog X.w X.stack H1 sc KA ce.locals H5 (s1.setGen g .running) := by
  obtain ⟨m, ⟨o, es, ep, ho, r⟩, _⟩ := I.loc
  refine ⟨I.os, allBare_setGen I.bare rfl, I.base, I.hok, fun p hp => ?_, I.free, o, ho, fun v q => by rw [r.1] at q; cases q⟩
  obtain ⟨z1, z2, _⟩ := I.pin p (List.mem_append_right _ hp)
  exact ⟨z1, z2⟩
end

/-- an expression whose value is such a generator -/
structure PGm (X : Cx) (k : Nat) (e : Expr) (t : TA) (sp : List V → Hp → YL → (Hp → Prop) → Prop) : Prop where
  run : ∀ (pins : List (Addr × Obj)) (s : Shared) (σ : L2.St) (H : Hp) (Q : List V → Hp → Prop), Inv X pins σ H s → t σ H Q → wpAny (model X.prog X.w) X.A (eval e X.env)
    (fun u s' => ∃ vs H1 sc, Inv X pins σ H1 sc ∧ Q vs H1 ∧ GMd X.prog X.w k X.stack H1 sc (sp vs) u s') X.xe s
section
variable {X : Cx} {k : Nat}
theorem pgm_call {f : Addr} {fd : FuncData} {ps : List Str} {sp : List V → Hp → YL → (Hp → Prop) → Prop} {x : Str} {p pos' : Pos} {e : Expr} {es : List Expr} {t : TA} (F : GFm X.prog X.w X.K X.mg X.base k f fd ps sp) (hr : Room k X.A) (hg : Gl X x) (hm : X.mg x = some (.ref f)) (hk : PySem.W.keepIn X.K (.ref f) = true) (hb : Binds X.K fd ps [])
    (ha : PA X (e :: es) t) (hlen : ∀ σ H Q, t σ H Q → t σ H fun vs H1 => vs.length = ps.length ∧ Q vs H1) (hdb : (x == ("__debug__" : Str)) = false := by decide) (he : starEach (e :: es) X.env = (false, eval e X.env) :: starEach es X.env := by rfl) (hpl : (backTo pos' (starEach es X.env)).any (·.1) = false := by rfl) :
    PGm X k (.Call (.Name x p) (e :: es) [] pos') t sp := by
  refine ⟨fun pins s σ H Q I h => ?_⟩
  refine wpAny_Call_Name_kw (ld_glob I hg hm ?_ hdb)
  refine PySem.W.callWith_K (h₀ := X.base) I.ok.mod.kin hk (thn (ha.run pos' pins s σ H _ I (hlen σ H Q h)) fun us s1 ⟨vs, H1, I1, r, hl, q⟩ => ⟨I1.kIn, ?_⟩) he hpl
  have hl2 : (us ++ []).length = ps.length := by rw [List.append_nil, ← r.length]; exact hl
  have hbt := hb s1 us I1.kIn hl2
  rw [List.append_nil] at hbt
  refine wpAny_call (codeAny_mono (F.run X.A X.stack s1 H1 ⟨us, []⟩ us vs hr I1.env0 hbt r hl) fun rr s' hq => ?_)
  cases rr with
  | error e => exact False.elim hq
  | ok fl =>
    cases fl with
    | ret u => exact ⟨vs, H1, s1, I1, q, hq⟩
    | next => exact False.elim hq
    | brk => exact False.elim hq
    | cont => exact False.elim hq

/-- {k: v for target in f(..)} -/
def tDcG (fl : Flv X.prog X.w) (t : TA) (sp : List V → Hp → YL → (Hp → Prop) → Prop) (g : TG) (tk tv : TE) (vs : List Nat) : TE := fun σ H Q => t σ H fun us H1 => ∀ D, H1 D = none →
  sp us (upd H1 D (fl.nil D)) (fun x H kk => g x (wipe σ vs) H fun σ2 H2 => wipe σ2 vs = wipe σ vs ∧ tk σ2 H2 fun y H3 => tv σ2 H3 fun z H4 => fl.put H4 D y z kk) fun H' => Q (.ref D) H'
end
end K14
end
section
set_option Elab.async false
set_option linter.all false
set_option maxRecDepth 100000
set_option maxHeartbeats 4000000
/-! A dict comprehension over a generator def's call: the rule. -/
namespace K14
open PySem PySem.Spec PyProof.Rows L2 GenW

section
variable {X : Cx} {k : Nat}
theorem pe_dcG {kx vx tg iter : Expr} {scope : Scope} {own : List (Str × Nat)} {pos : Pos} {t : TA} {sp : List V → Hp → YL → (Hp → Prop) → Prop} {g : TG} {tk tv : TE} {fl : Flv X.prog X.w} (hN : X.N.Nodup) (hi : PGm X k iter t sp) (hr : Room (k + 1) X.A) (hrm : fl.rm X.A) (ok : BlkOk X.N X.env.scope scope own) (ncell : ∀ y ∈ scope.names, y.2 ≠ .cell)
    (hg : ∀ (s : Shared) (H : Hp) (C : Addr) (cl : List (Str × Addr)) (fp : List Addr), PG (X.blk s H scope (compEnvC scope cl C X.env) fp) tg g)
    (hk : ∀ (s : Shared) (H : Hp) (C : Addr) (cl : List (Str × Addr)) (fp : List Addr), PE (X.blk s H scope (compEnvC scope cl C X.env) fp) kx tk)
    (he : ∀ (s : Shared) (H : Hp) (C : Addr) (cl : List (Str × Addr)) (fp : List Addr), PE (X.blk s H scope (compEnvC scope cl C X.env) fp) vx tv) (hs : ∀ x, foldedSetIterable iter X.env x = pure x := by intro _; rfl) :
    PE X (.DictComp kx vx [⟨tg, iter, [], 0⟩] scope pos) (tDcG fl t sp g tk tv (own.map (·.2))) := by
  refine ⟨fun pins s σ H Q I h => ?_⟩
  rw [arm_eval_DictComp]
  have hfree : ∀ y ∈ scope.names, y.2 = .free → ∃ c, X.env.cells.lookup y.1 = some c := fun y hy e => by
    rcases ok.free y hy e with k | k
    · exact I.ok.has _ (.inl k)
    · exact I.ok.has _ (.inr k)
  refine wpAny_comprehension_free (use := none) rfl hs (closure_ok hfree) ok.kind (fun y hy e => by rw [ok.uniq y hy, e]) (thn (hi.run pins s σ H _ I h) fun xv s1 hx => ?_)
  obtain ⟨us, H1, sc, I0, q, a, gn, c, go, oL, rfl, ha1, ha2, hgo, hgen, hgd, hoL, hLd, hgs, hos, hb, hkp, hokH, wake⟩ := hx
  refine wpAny_pyIter_gen (hgen _ hgo) ?_
  refine wpAny_newObj_type (newEnv_comp ?_)
  generalize hD : s1.heap.objs.size = D
  have sz1 : sc.heap.objs.size < s1.heap.objs.size := Nat.lt_trans ha1 ha2
  have I1 : Inv X pins σ H1 s1 := I0.call' (ch := []) hos (Un.kept hkp) hokH hb fun b z => by simp at z
  have hDn : H1 D = none := I0.hok.fresh (by rw [← hD]; exact Nat.le_of_lt sz1)
  have hsp := q D hDn
  generalize hyl : (fun (x : V) (H : Hp) (kk : Hp → Prop) => g x (wipe σ (own.map (·.2))) H fun σ2 H2 => wipe σ2 (own.map (·.2)) = wipe σ (own.map (·.2)) ∧ tk σ2 H2 fun y H3 => tv σ2 H3 fun z H4 => fl.put H4 D y z kk) = yl at hsp
  generalize hs3 : ({ s1 with heap := s1.heap.push { cls := .type "dict", data := .dict #[] } } : Shared) = s3
  have h3 : s3.heap = s1.heap.push { cls := .type "dict", data := .dict #[] } := by rw [← hs3]
  have I3 : Inv X pins σ (upd H1 D (fl.nil D)) s3 := by
    rw [← hs3]
    refine I1.laid (t' := s1.toks) (fun b o e => Heap.get?_push_of_some _ e) (Nat.le_of_eq hD) ?_
    rw [← hD]
    exact fl.nil_ok _ s1.heap I1.big
  have I4 := block_start (fp := []) I3 ok hN fun b hb => by simp at hb
  have pg := hg sc H1 s3.heap.objs.size (cellsFrom (s3.heap.objs.size + 1) scope.names (cloFrom X.env.cells scope.names [])) []
  have pk := hk sc H1 s3.heap.objs.size (cellsFrom (s3.heap.objs.size + 1) scope.names (cloFrom X.env.cells scope.names [])) []
  have pe := he sc H1 s3.heap.objs.size (cellsFrom (s3.heap.objs.size + 1) scope.names (cloFrom X.env.cells scope.names [])) []
  show codeAny _ _ (.compStart (.DictComp kx vx [⟨tg, iter, [], 0⟩] scope pos) 0 (.ref a) (.ref D) (compEnvC scope (cellsFrom (s3.heap.objs.size + 1) scope.names (cloFrom X.env.cells scope.names [])) s3.heap.objs.size X.env)) (compPost (model X.prog X.w) X.A X.xe none _ (.ref D) s3.heap.objs.size) { s3 with heap := pushCells (s3.heap.push { cls := .type "dict", data := .dict #[] }) scope.names }
  have hcells : ∀ x c, (compEnvC scope (cellsFrom (s3.heap.objs.size + 1) scope.names (cloFrom X.env.cells scope.names [])) s3.heap.objs.size X.env).cells.lookup x = some c → ∃ o, sc.heap.get? c = some o ∧ H1 c = none := fun x c e => by
    have e : (cellsFrom (s3.heap.objs.size + 1) scope.names (cloFrom X.env.cells scope.names [])).lookup x = some c := e
    have hm := ncell_none ncell _ _ _ _ (PySem.mem_of_lookup e)
    rcases cloFrom_mem hm with hm | ⟨h1, h2⟩
    · cases hm
    · obtain ⟨c', hc'⟩ := hfree _ h1 rfl
      have h2 : c = (X.env.cells.lookup x).getD 0 := h2
      have hc' : X.env.cells.lookup x = some c' := hc'
      rw [hc'] at h2
      have h2 : c = c' := h2
      subst h2
      obtain ⟨v, o, ho, _⟩ := I0.cell x c hc'
      exact ⟨o, ho, I0.freeC x c hc'⟩
  generalize hce : compEnvC scope (cellsFrom (s3.heap.objs.size + 1) scope.names (cloFrom X.env.cells scope.names [])) s3.heap.objs.size X.env = ce at I4 pg pk pe hcells ⊢
  have cL : ce.locals = s3.heap.objs.size := by subst hce; rfl
  generalize hs4 : ({ s3 with heap := pushCells (s3.heap.push { cls := .type "dict", data := .dict #[] }) scope.names } : Shared) = s4 at I4 ⊢
  have kp4 : ∀ b o, s1.heap.get? b = some o → s4.heap.get? b = some o := fun b o e => by
    rw [← hs4]
    exact pushCells_keeps _ _ _ _ (Heap.get?_push_of_some _ (by rw [h3]; exact Heap.get?_push_of_some _ e))
  have os4 : s4.os = sc.os := by rw [← hs4, ← hs3]; exact hos
  have gens4 : s4.gens = s1.gens := by rw [← hs4, ← hs3]
  have sz3 : s1.heap.objs.size < s3.heap.objs.size := by rw [h3, Heap.size_push]; exact Nat.lt_succ_self _
  have Ib : Inv (X.blk sc H1 scope ce []) [] (wipe σ (own.map (·.2))) (upd H1 D (fl.nil D)) s4 :=
    blk_root I0 I4 (Nat.le_of_lt (Nat.lt_trans sz1 sz3)) os4 (Un.laid (fun b o e => kp4 b o (hkp b o e)) (by rw [← hD]; exact Nat.le_of_lt sz1) hDn)
  have LD : sc.heap.objs.size ≠ D := by rw [← hD]; exact Nat.ne_of_lt sz1
  have aD : a ≠ D := by rw [← hD]; exact Nat.ne_of_lt ha2
  have hKA0 : ∀ p ∈ [(a, go), (sc.heap.objs.size, oL)], p.1 ≠ ce.locals ∧ p.1 ∉ frs X.stack ∧ ∀ v, p.2.data ≠ .cell v := fun p hp => by
    have nf : ∀ b, sc.heap.objs.size ≤ b → b ∉ frs X.stack := fun b hb z => by
      rcases List.mem_cons.mp (I0.stkSub b z) with e | z
      · rw [e] at hb; exact absurd (Nat.lt_of_lt_of_le I0.lt hb) (Nat.lt_irrefl _)
      · exact I0.nofs hb z
    rw [cL]
    rcases List.mem_cons.mp hp with e | hp
    · rw [e]; exact ⟨Nat.ne_of_lt (Nat.lt_trans ha2 sz3), nf _ (Nat.le_of_lt ha1), hgd⟩
    · rw [List.mem_singleton.mp hp]; exact ⟨Nat.ne_of_lt (Nat.lt_trans sz1 sz3), nf _ (Nat.le_refl _), hLd⟩
  have Ib2 : Inv (X.blk sc H1 scope ce []) [(a, go), (sc.heap.objs.size, oL)] (wipe σ (own.map (·.2))) (upd H1 D (fl.nil D)) s4 := Ib.pins_of fun p hp => by
    obtain ⟨z3, z4, z5⟩ := hKA0 p hp
    rcases List.mem_cons.mp hp with e | hp
    · rw [e] at z3 z4 z5 ⊢
      exact ⟨kp4 _ _ hgo, by rw [upd_ne aD]; exact I0.hok.fresh (Nat.le_of_lt ha1), z3, z4, z5⟩
    · rw [List.mem_singleton.mp hp] at z3 z4 z5 ⊢
      exact ⟨kp4 _ _ hoL, by rw [upd_ne LD]; exact I0.hok.fresh (Nat.le_refl _), z3, z4, z5⟩
  have w0 := inv_wk (g := gn) Ib2
  have hrA : Room k X.A.in1 := ⟨hr.hd, by have := hr.dp; show X.A.depth + 3 * k + 5 < _; omega, by have := hr.un; show X.A.units + 1 + 16 * k + 200 < _; omega⟩
  have seg0 := wake X.A.in1 ce.locals yl _ _ _ hrA I0.ok.frames (by rw [cL]; exact Nat.le_of_lt sz3) w0 hsp
  have hdep : X.A.depth < recursionLimit := by have := hr.dp; omega
  have loop : codeAny (model X.prog X.w) X.A (.compLoop (.DictComp kx vx [⟨tg, iter, [], 0⟩] scope pos) 0 (.ref a) (.ref D) ce) (compPost (model X.prog X.w) X.A X.xe none (EP X pins σ Q) (.ref D) s3.heap.objs.size) s4 := by
    refine compLoop_anyD (fun n s' => ∃ H5 KA gs, Inv (X.blk sc H1 scope ce []) KA (wipe σ (own.map (·.2))) H5 s' ∧ (a, go) ∈ KA ∧ (∀ p ∈ KA, p.1 ≠ ce.locals ∧ p.1 ∉ frs X.stack ∧ ∀ v, p.2.data ≠ .cell v) ∧ s'.gens[gn]? = some gs ∧
      gs.Goes (model X.prog X.w) X.A.in1 (REn X.prog X.w X.stack H1 sc a go ce.locals (fun H' => Q (.ref D) H')) (YIt X.prog X.w X.stack H1 sc a go ce.locals yl) n (.send .none) (s'.setGen gn .running)) ?_ sizeLine
      ⟨_, _, .fresh c, Ib2, List.mem_cons_self, hKA0, by rw [gens4]; exact hgs, rfl, seg0⟩
    rintro n s5 ⟨H5, KA, gs, I5, haK, hKA, hgs5, hgo5⟩
    have hgl : gn < s5.gens.size := (Array.getElem?_eq_some_iff.mp hgs5).1
    have ha5 : s5.heap.get? a = some go := (I5.pin (a, go) (List.mem_append_right _ haK)).1
    refine wpAny_gsz (n := gn + 1) hgl (next_genS (A := X.A) hr.hd I5.nolimit hdep (hgen _ ha5) hgs5 hgo5 (fun v s₁ gs' hbare hsusp hv => ?_) (fun s₁ hp h' hk' => ?_))
    · intro hsz
      obtain ⟨x, H6, KA', kk, rv, wk, haK', hKA', hC, hyl2, cont⟩ := hv
      have hsz1 : gn < s₁.gens.size := by
        have q : (s₁.setGen gn gs').gens.size = s₁.gens.size := setGen_size _ _ _
        have hsz' : gn + 1 ≤ (s₁.setGen gn gs').gens.size := hsz
        omega
      have wk' : Wk X.prog X.w X.stack H1 sc KA' ce.locals H6 (s₁.setGen gn gs') := ⟨wk.os, allBare_setGen wk.bare hbare, wk.un, wk.hok, wk.kept, wk.con⟩
      have I6 : Inv (X.blk sc H1 scope ce []) KA' (wipe σ (own.map (·.2))) H6 (s₁.setGen gn gs') := con_woken hcells I5 wk' hC hKA'
      have hg6 : (s₁.setGen gn gs').gens[gn]? = some gs' := setGen_at hsz1
      generalize s₁.setGen gn gs' = s6 at I6 hg6
      have ha6 : s6.heap.get? a = some go := (I6.pin (a, go) (List.mem_append_right _ haK')).1
      obtain ⟨ogo, nm, qn, ego, hgc, hgd0, _⟩ := hgen _ ha6
      refine go_of (n := "generator") ego hgc hgd0 (by decide) ?_
      -- the block's code, on the poisoned table
      have rel6 := poisoned_rel (s := s6)
      have Ip := inv_gens I6 (poisoned_bare I6.bare)
      rw [← hyl] at hyl2
      refine wpAny_sim rel6 (pg.run KA' _ _ H6 x v _ Ip rv hyl2) (fun _ s7 s7' rel7 h7 => ?_)
      obtain ⟨σ7, H7, I7, hw7, q7⟩ := h7
      refine wpAny_pure ?_
      rw [if_pos rfl]
      refine wpAny_sim rel7 (pk.run _ s7 σ7 H7 _ I7 q7) (fun u s8 s8' rel8 h8 => ?_)
      obtain ⟨y, H8, I8, ry, q8⟩ := h8
      refine wpAny_sim rel8 (pe.run _ s8 σ7 H8 _ I8 q8) (fun r s9 s9' rel9 h9 => ?_)
      obtain ⟨z, H9, I9, rz, hput⟩ := h9
      refine wpAny_sim rel9 (fl.put_ok (X := X.blk sc H1 scope ce []) (E := fun _ _ => False) (Q := fun _ s' => ∃ H10, Inv (X.blk sc H1 scope ce []) KA' σ7 H10 s' ∧ kk H10) rfl rfl hrm I9 hput ry rz fun H' s' I' k' => ⟨H', I', k'⟩) (fun _ s10 s10' rel10 h10 => ?_)
      obtain ⟨H10, I10, kk10⟩ := h10
      -- the turn's end
      have Ir := rel_inv I10 rel10
      have hg10 : s10'.gens[gn]? = some gs' := by
        obtain ⟨G, e, q⟩ := rel10
        rw [e]
        exact (q.sl gn gs' hg6 hsusp).2
      have go10 := cont H10 (s10'.setGen gn .running) (inv_wk Ir) kk10
      have hl : (wipe σ (own.map (·.2))).length = σ7.length := by rw [← hw7, wipe_length]
      cases n with
      | zero => exact go10.elim
      | succ m =>
        refine ⟨m, Nat.lt_succ_self _, H10, KA', gs', Ir.weak hl (fun j v e => ?_), haK', hKA', hg10, go10⟩
        rw [← hw7] at e
        exact (wipe_some e).1
    · intro _
      obtain ⟨H6, wk, hC, qq⟩ := hp
      have wk' : Wk X.prog X.w X.stack H1 sc [(a, go)] ce.locals H6 { s₁.setGen gn .finished with heap := h' } := ⟨wk.os, allBare_setGen wk.bare rfl, wk.un.trans (Un.kept hk'), wk.hok.kept hk', fun p hp => ⟨hk' _ _ (wk.kept p hp).1, (wk.kept p hp).2⟩, wk.con.1, let ⟨o, e, d⟩ := wk.con.2; ⟨o, hk' _ _ e, d⟩⟩
      obtain ⟨oC, eC, _⟩ := wk.con.2
      have hC5 : h'.get? ce.locals = s5.heap.get? ce.locals := by
        have : s₁.heap.get? ce.locals = s5.heap.get? ce.locals := hC
        rw [← this, eC]
        exact hk' _ _ eC
      have I6 : Inv (X.blk sc H1 scope ce []) [(a, go)] (wipe σ (own.map (·.2))) H6 { s₁.setGen gn .finished with heap := h' } := con_woken hcells I5 wk' hC5 fun p hp => by
        rw [List.mem_singleton.mp hp]
        exact hKA (a, go) haK
      have I7 : Inv X pins σ H6 { s₁.setGen gn .finished with heap := h' } := I0.call' (ch := []) I6.os I6.base I6.hok I6.bare fun b hb => by simp at hb
      have nC : H6 s3.heap.objs.size = none := by
        have z : H6 ce.locals = none := I6.free
        rw [cL] at z
        exact z
      obtain ⟨m, hn, _⟩ := I6.loc
      have hn : Heap.Ns h' ce.locals m := hn
      rw [cL] at hn
      refine ⟨m, hn, fun h'' sb => ?_⟩
      have fC := I3.fpOk (Nat.le_refl _) (show (upd H1 D (fl.nil D)) s3.heap.objs.size = none from I3.hok.fresh (Nat.le_refl _))
      obtain ⟨_, f1, f2, f3, f4, f5⟩ := fC
      exact ⟨.ref D, H6, I7.turned (t' := (s₁.setGen gn .finished).toks) (fun b o hb e => (sb.2 b hb).trans e) nC f1 f3 f4 f5, rfl, qq⟩
  exact codeAny_compStart_dict loop (wpAny_pyIter_gen (hgen _ (kp4 _ _ hgo)) loop)
end
end K14
end
section
set_option Elab.async false
set_option linter.all false
/-! The mathematics: rules, rows, standings, deeds; each def of the text as a plain function; no text in sight. -/
namespace K14

inductive Meas where | mean | best | count deriving DecidableEq
inductive Cut where | exact | half | whole deriving DecidableEq
/-- a rule: three (top 3, else 2), meas, cut, two (least 2, else 1), less (ages), stay (struck), shown (keeping) -/
structure Ru where
  three : Bool
  meas : Meas
  cut : Cut
  two : Bool
  less : Bool
  stay : Bool
  shown : Bool
  deriving DecidableEq
def Ru.top (r : Ru) : Int := if r.three then 3 else 2
def Ru.least (r : Ru) : Int := if r.two then 2 else 1

inductive Rw where | struck | mk (m : Int) (old st : Bool) deriving DecidableEq
abbrev Rows := List (Bool × Rw)
structure Sg where
  rows : Rows
  kept : Option (Int × Int)
  deriving DecidableEq
inductive Dd where | give (p : Bool) (m : Int) | back (p : Bool) | strike (p : Bool) | night deriving DecidableEq

/-! ### reckoning -/
def gcdI (a b : Int) : Int := ((Int.gcd a b : Nat) : Int)
def numberOf (a b : Int) : Int × Int := (a / gcdI a b, b / gcdI a b)
def cutDown (c : Cut) (a b : Int) : Int × Int := match c with
  | .exact => numberOf a b
  | .half => numberOf (2 * a / b) 2
  | .whole => numberOf (1 * a / b) 1
def weightOf (less old : Bool) : Int := if old && less then 1 else 2
def meanOf (r : Ru) (ps : List (Int × Bool)) : Int × Int :=
  cutDown r.cut (ps.map fun p => p.1 * weightOf r.less p.2).sum (ps.map fun p => weightOf r.less p.2).sum
def maxI : List Int → Int
  | [] => 0
  | [x] => x
  | x :: r => if maxI r < x then x else maxI r
def numberFor (r : Ru) (ps : List (Int × Bool)) : Option (Int × Int) :=
  if (ps.length : Int) < r.least then none else match r.meas with
    | .count => some ((ps.length : Int), 1)
    | .best => some (maxI (ps.map (·.1)), 1)
    | .mean => some (meanOf r ps)
def bounded (r : Ru) (n : Int × Int) : Int × Int := if n.1 < n.2 then (1, 1) else if r.top * n.2 < n.1 then (r.top, 1) else n
def b01 (b : Bool) : Int := if b then 1 else 0
def leftOf (many : Int) (elder mark : Option Int) : Int := many - b01 elder.isSome + b01 mark.isSome
def bestOf (kept : Option (Int × Int)) (mark : Option Int) : Option (Int × Int) := match mark with
  | none => kept
  | some m => match kept with
    | none => some (m, 1)
    | some k => if m * k.2 ≤ k.1 then some k else some (m, 1)
def workedOn (r : Ru) (kept : Option (Int × Int)) (many : Int) (elder mark : Option Int) : Option (Int × Int) :=
  if leftOf many elder mark = 0 then none else match r.meas with
    | .count => some (leftOf many elder mark, 1)
    | .best => bestOf kept mark
    | .mean => some (bounded r (cutDown r.cut ((kept.getD (0, 1)).1 * many + (mark.getD 0 - elder.getD 0) * (kept.getD (0, 1)).2) ((kept.getD (0, 1)).2 * leftOf many elder mark)))
inductive Ft where | ghost | lacking | other deriving DecidableEq
def faultOf (shown due : Option (Int × Int)) : Option Ft :=
  if shown = due then none else if due = none then some .ghost else if shown = none then some .lacking else some .other

/-! ### standings -/
def cnt : Rows → List (Int × Bool × Bool)
  | [] => []
  | (_, .struck) :: r => cnt r
  | (_, .mk m o s) :: r => (m, o, s) :: cnt r
def prs (l : List (Int × Bool × Bool)) : List (Int × Bool) := l.map fun x => (x.1, x.2.1)
def many (rows : Rows) : Nat := (cnt rows).length
def shownBy (r : Ru) (S : Sg) : Option (Int × Int) :=
  if r.shown then (if r.least ≤ (many S.rows : Int) then S.kept else none) else numberFor r (prs (cnt S.rows))
def dueBy (r : Ru) (S : Sg) : Option (Int × Int) := numberFor r (prs ((cnt S.rows).filter fun x => !x.2.2))
def wrongBy (r : Ru) (S : Sg) : Option Ft := faultOf (shownBy r S) (dueBy r S)
def keptBy (r : Ru) (S : Sg) (elder mark : Option Int) : Option (Int × Int) :=
  if r.shown then workedOn r S.kept (many S.rows) elder mark else none
def rowAt : Rows → Bool → Option Rw
  | [], _ => none
  | (q, x) :: r, p => if q = p then some x else rowAt r p
def putR : Rows → Bool → Rw → Rows
  | [], p, x => [(p, x)]
  | (q, y) :: r, p, x => if q = p then (q, x) :: r else (q, y) :: putR r p x
def dropR : Rows → Bool → Rows
  | [], _ => []
  | (q, y) :: r, p => if q = p then dropR r p else (q, y) :: dropR r p
def struckAt (rows : Rows) (p : Bool) : Bool := match rowAt rows p with
  | none => false
  | some .struck => true
  | some (.mk _ _ s) => s
def markAt (rows : Rows) (p : Bool) : Option Int := match rowAt rows p with
  | some (.mk m _ false) => some m
  | _ => none
def oldAt (rows : Rows) (p : Bool) : Bool := match rowAt rows p with
  | some (.mk _ o _) => o
  | _ => false
def marked (r : Ru) (S : Sg) (p : Bool) (m : Int) : Sg := ⟨putR S.rows p (.mk m false false), keptBy r S (markAt S.rows p) (some m)⟩
def takenBack (r : Ru) (S : Sg) (p : Bool) : Sg := ⟨dropR S.rows p, keptBy r S (markAt S.rows p) none⟩
def struckOne (r : Ru) (S : Sg) (p : Bool) : Sg := match markAt S.rows p with
  | none => ⟨putR S.rows p .struck, S.kept⟩
  | some m => if r.stay then ⟨putR S.rows p (.mk m (oldAt S.rows p) true), S.kept⟩ else ⟨putR S.rows p .struck, keptBy r S (some m) none⟩
def aged : Rw → Rw
  | .struck => .struck
  | .mk m _ s => .mk m true s
def night (S : Sg) : Sg := ⟨S.rows.map fun x => (x.1, aged x.2), S.kept⟩
def done (r : Ru) (S : Sg) (d : Dd) : Sg := match d with
  | .night => night S
  | .give p m => if struckAt S.rows p then S else marked r S p m
  | .strike p => if struckAt S.rows p then S else struckOne r S p
  | .back p => if struckAt S.rows p then S else match markAt S.rows p with
    | none => S
    | some _ => takenBack r S p
def first : Sg := ⟨[], none⟩
def marksTo (three : Bool) : List Int := if three then [1, 2, 3] else [1, 2]
def deeds (three : Bool) : List Dd :=
  (marksTo three).map (.give false) ++ (marksTo three).map (.give true) ++ [.back false, .back true, .strike false, .strike true, .night]

/-! ### what rows may be -/
def rwOk (top : Int) (stay : Bool) : Rw → Bool
  | .struck => true
  | .mk m _ s => decide (1 ≤ m) && decide (m ≤ top) && (stay || !s)
def rowsOk (top : Int) (stay : Bool) (rows : Rows) : Bool :=
  (rows.all fun x => rwOk top stay x.2) && (match rows with
    | [] => true
    | [_] => true
    | [(p, _), (q, _)] => p != q
    | _ => false)
def ddOk (top : Int) : Dd → Bool
  | .give _ m => decide (1 ≤ m) && decide (m ≤ top)
  | _ => true
def doneRows (stay : Bool) (rows : Rows) (d : Dd) : Rows := match d with
  | .night => rows.map fun x => (x.1, aged x.2)
  | .give p m => if struckAt rows p then rows else putR rows p (.mk m false false)
  | .strike p => if struckAt rows p then rows else match markAt rows p with
    | none => putR rows p .struck
    | some m => if stay then putR rows p (.mk m (oldAt rows p) true) else putR rows p .struck
  | .back p => if struckAt rows p then rows else match markAt rows p with
    | none => rows
    | some _ => dropR rows p
theorem done_rows (r : Ru) (S : Sg) (d : Dd) : (done r S d).rows = doneRows r.stay S.rows d := by
  cases d with
  | night => rfl
  | give p m => unfold done doneRows; dsimp only; split <;> rfl
  | strike p =>
    unfold done doneRows struckOne; dsimp only; split
    · rfl
    · split
      · rfl
      · split <;> rfl
  | back p =>
    unfold done doneRows; dsimp only; split
    · rfl
    · split <;> rfl

theorem rowAt_ok {top : Int} {stay : Bool} : ∀ {rows : Rows} {p : Bool} {x : Rw}, (rows.all fun x => rwOk top stay x.2) = true → rowAt rows p = some x → rwOk top stay x = true
  | [], _, _, _, h => by simp [rowAt] at h
  | (q, y) :: r, p, x, a, h => by
    rw [List.all_cons, Bool.and_eq_true] at a
    unfold rowAt at h
    split at h
    · cases h; exact a.1
    · exact rowAt_ok a.2 h
theorem all_putR {f : Rw → Bool} {p : Bool} {x : Rw} (hx : f x = true) : ∀ {rows : Rows}, (rows.all fun x => f x.2) = true → ((putR rows p x).all fun x => f x.2) = true
  | [], _ => by simp [putR, hx]
  | (q, y) :: r, a => by
    rw [List.all_cons, Bool.and_eq_true] at a
    unfold putR
    split
    · simp only [List.all_cons, Bool.and_eq_true]; exact ⟨hx, a.2⟩
    · simp only [List.all_cons, Bool.and_eq_true]; exact ⟨a.1, all_putR hx a.2⟩
theorem all_dropR {f : Rw → Bool} {p : Bool} : ∀ {rows : Rows}, (rows.all fun x => f x.2) = true → ((dropR rows p).all fun x => f x.2) = true
  | [], _ => rfl
  | (q, y) :: r, a => by
    rw [List.all_cons, Bool.and_eq_true] at a
    unfold dropR
    split
    · exact all_dropR a.2
    · simp only [List.all_cons, Bool.and_eq_true]; exact ⟨a.1, all_dropR a.2⟩
def nd2 (rows : Rows) : Bool := match rows with
  | [] => true
  | [_] => true
  | [(p, _), (q, _)] => p != q
  | _ => false
theorem nd2_cases {rows : Rows} (h : nd2 rows = true) : rows = [] ∨ (∃ p x, rows = [(p, x)]) ∨ ∃ p x y, rows = [(p, x), (!p, y)] := by
  match rows, h with
  | [], _ => exact .inl rfl
  | [(p, x)], _ => exact .inr (.inl ⟨p, x, rfl⟩)
  | [(p, x), (q, y)], h =>
    refine .inr (.inr ⟨p, x, y, ?_⟩)
    have : q = !p := by
      cases p <;> cases q <;> first | rfl | simp [nd2] at h
    rw [this]
theorem nd2_put {rows : Rows} (h : nd2 rows = true) (p : Bool) (x : Rw) : nd2 (putR rows p x) = true := by
  rcases nd2_cases h with rfl | ⟨q, y, rfl⟩ | ⟨q, y, z, rfl⟩
  · rfl
  · cases p <;> cases q <;> rfl
  · cases p <;> cases q <;> rfl
theorem nd2_drop {rows : Rows} (h : nd2 rows = true) (p : Bool) : nd2 (dropR rows p) = true := by
  rcases nd2_cases h with rfl | ⟨q, y, rfl⟩ | ⟨q, y, z, rfl⟩
  · rfl
  · cases p <;> cases q <;> rfl
  · cases p <;> cases q <;> rfl
theorem rowsOk_iff {top : Int} {stay : Bool} {rows : Rows} : rowsOk top stay rows = true ↔ (rows.all fun x => rwOk top stay x.2) = true ∧ nd2 rows = true := by
  unfold rowsOk nd2
  rw [Bool.and_eq_true]
theorem all_aged {top : Int} {stay : Bool} : ∀ {rows : Rows}, (rows.all fun x => rwOk top stay x.2) = true → ((rows.map fun x => (x.1, aged x.2)).all fun x => rwOk top stay x.2) = true
  | [], _ => rfl
  | (q, y) :: r, a => by
    rw [List.all_cons, Bool.and_eq_true] at a
    rw [List.map_cons, List.all_cons, Bool.and_eq_true]
    refine ⟨?_, all_aged a.2⟩
    cases y with
    | struck => rfl
    | mk m o s => exact a.1
theorem nd2_aged {rows : Rows} (h : nd2 rows = true) : nd2 (rows.map fun x => (x.1, aged x.2)) = true := by
  rcases nd2_cases h with rfl | ⟨q, y, rfl⟩ | ⟨q, y, z, rfl⟩
  · rfl
  · rfl
  · cases q <;> rfl
theorem markAt_some {rows : Rows} {p : Bool} {m : Int} (h : markAt rows p = some m) : ∃ o, rowAt rows p = some (.mk m o false) := by
  unfold markAt at h
  split at h
  · rename_i m' o e
    cases h
    exact ⟨o, e⟩
  · cases h
theorem rows_done {top : Int} {stay : Bool} {rows : Rows} {d : Dd} (h : rowsOk top stay rows = true) (hd : ddOk top d = true) : rowsOk top stay (doneRows stay rows d) = true := by
  rw [rowsOk_iff] at h ⊢
  obtain ⟨h1, h2⟩ := h
  cases d with
  | night => exact ⟨all_aged h1, nd2_aged h2⟩
  | give p m =>
    unfold doneRows; dsimp only
    split
    · exact ⟨h1, h2⟩
    · refine ⟨all_putR ?_ h1, nd2_put h2 _ _⟩
      unfold ddOk at hd
      unfold rwOk
      simp only [Bool.not_false, Bool.or_true, Bool.and_true]
      exact hd
  | strike p =>
    unfold doneRows; dsimp only
    split
    · exact ⟨h1, h2⟩
    · split
      · exact ⟨all_putR rfl h1, nd2_put h2 _ _⟩
      · rename_i m e
        obtain ⟨o, e'⟩ := markAt_some e
        have q := rowAt_ok h1 e'
        split
        · rename_i hs
          refine ⟨all_putR ?_ h1, nd2_put h2 _ _⟩
          unfold rwOk at q ⊢
          simp only [hs, Bool.true_or, Bool.and_true] at q ⊢
          exact q
        · exact ⟨all_putR rfl h1, nd2_put h2 _ _⟩
  | back p =>
    unfold doneRows; dsimp only
    split
    · exact ⟨h1, h2⟩
    · split
      · exact ⟨h1, h2⟩
      · exact ⟨all_dropR h1, nd2_drop h2 _⟩
theorem deeds_ok (three : Bool) : ∀ d ∈ deeds three, ddOk (if three then 3 else 2) d = true := by
  cases three <;> decide
/-! ### what standings may be -/
def KpOk (n : Nat) (k : Option (Int × Int)) : Prop := ∀ a b, k = some (a, b) → 1 ≤ b ∧ b ≤ 2 ^ n ∧ b ≤ a ∧ a ≤ 3 * b
theorem KpOk.none {n : Nat} : KpOk n none := fun _ _ e => nomatch e
/-- what a standing must be for its numbers to be small -/
structure SgOk (S : Sg) : Prop where
  two : S.rows.length ≤ 2
  marks : ∀ p m o s, (p, Rw.mk m o s) ∈ S.rows → 1 ≤ m ∧ m ≤ 3
  kept : KpOk 20 S.kept
end K14
end
section
set_option Elab.async false
set_option linter.all false
set_option maxRecDepth 100000
/-! The text by places, what the top has left, how the data lies in the abstract heap. -/
namespace K14
open PySem L2

/-! ### the text -/
def txt (i : Nat) : Stmt := PySem.Challenge.pw_meanshown_k14_whole_what_always_holds.main.body.getD i (.Pass ⟨0, 0, 0, 0⟩)

/-- a def of the module as it stands behind the top -/
def FunAt (K : PySem.W.Frag) (mg : Str → Option Value) (x : Str) (st : Stmt) (ps : List Str) : Prop :=
  ∃ (f : Addr) (fd : FuncData), Fun K x x st f fd ∧ mg x = some (.ref f) ∧ Binds K fd ps []
/-- a def with its promise -/
def Df (P : Program) (w : World) (K : PySem.W.Frag) (mg : Str → Option Value) (base : Heap) (x : Str) (ps : List Str) (k : Nat) (sp : Sp) : Prop :=
  ∃ (f : Addr) (fd : FuncData), FnOk P w K mg base CX0 k f fd ps sp ∧ mg x = some (.ref f) ∧ PySem.W.keepIn K (.ref f) = true ∧ Binds K fd ps []
theorem Df.mono {P : Program} {w : World} {K : PySem.W.Frag} {mg : Str → Option Value} {base : Heap} {x : Str} {ps : List Str} {j k : Nat} {sp : Sp} (D : Df P w K mg base x ps j sp) (h : j ≤ k) : Df P w K mg base x ps k sp := by
  obtain ⟨f, fd, F, r⟩ := D
  exact ⟨f, fd, F.mono h, r⟩
theorem Df.imp {P : Program} {w : World} {K : PySem.W.Frag} {mg : Str → Option Value} {base : Heap} {x : Str} {ps : List Str} {k : Nat} {sp sp' : Sp} (D : Df P w K mg base x ps k sp)
    (h : ∀ vs H Q E, sp' vs H Q E → sp vs H Q E) : Df P w K mg base x ps k sp' := by
  obtain ⟨f, fd, F, r⟩ := D
  exact ⟨f, fd, F.imp h, r⟩
/-- THE RULE for a def of the text -/
theorem FunAt.ok {P : Program} {w : World} {K : PySem.W.Frag} {mg : Str → Option Value} {base : Heap} {x : Str} {st : Stmt} {N ps : List Str} {k : Nat} {sp : Sp} (F : FunAt K mg x st ps) (S : FnScope N ps (defScope st)) (len : ∀ vs H Q E, sp vs H Q E → vs.length = ps.length)
    (hbody : ∀ (f : Addr) (cdv : Value) (A : Around) (outer : List Env) (s : Shared) (H : Hp) (vs : List V) (Q : VK) (E : XK), Room k (A.deeper (PyProof.Rows.envOfC x (defScope st) s.heap.objs.size f cdv)) → sp vs H Q E →
      ∃ t, PSs (cxOf CX0 P w K mg base N x (defScope st) f cdv A outer s H E).nox (defBody st) t ∧ t { nx := fun _ H' => Q .non H', rt := Q } (start N vs) H) : Df P w K mg base x ps (k + 1) sp := by
  obtain ⟨f, fd, F, hm, hb⟩ := F
  exact ⟨f, fd, F.ok S len fun cdv A outer s H vs Q E hr h => hbody f cdv A outer s H vs Q E hr h, hm, F.kp, hb⟩
/-- f(e, ..) of such a def -/
theorem pe_df {X : Cx} {x : Str} {ps : List Str} {k : Nat} {sp : Sp} {e : Expr} {es : List Expr} {t : TA} {p pos : Pos} (D : Df X.prog X.w X.K X.mg X.base x ps k sp) (hr : Room k X.A) (hg : Gl X x) (ha : PA X (e :: es) t)
    (hdb : (x == ("__debug__" : Str)) = false := by decide) (he : starEach (e :: es) X.env = (false, eval e X.env) :: starEach es X.env := by rfl) (hpl : (backTo pos (starEach es X.env)).any (·.1) = false := by rfl) :
    PE X (.Call (.Name x p) (e :: es) [] pos) (tCall sp [] E0 t) := by
  obtain ⟨f, fd, F, hm, hk, hb⟩ := D
  exact pe_call F hr hg hm hk hb .nil pass0 ha hdb he hpl
theorem pe_df0 {X : Cx} {x : Str} {ps : List Str} {k : Nat} {sp : Sp} {p pos : Pos} (D : Df X.prog X.w X.K X.mg X.base x ps k sp) (hr : Room k X.A) (hg : Gl X x)
    (hdb : (x == ("__debug__" : Str)) = false := by decide) :
    PE X (.Call (.Name x p) [] [] pos) (tCall sp [] E0 tNil) := by
  obtain ⟨f, fd, F, hm, hk, hb⟩ := D
  exact pe_call0 F hr hg hm hk hb .nil pass0 hdb

/-! ### words -/
def measS : Meas → Str
  | .mean => "mean"
  | .best => "best"
  | .count => "count"
def cutS : Cut → Str
  | .exact => "exact"
  | .half => "half"
  | .whole => "whole"
def agesS (b : Bool) : Str := if b then "less" else "same"
def struckS (b : Bool) : Str := if b then "stay" else "gone"
def keepS (b : Bool) : Str := if b then "shown" else "anew"
/-- the words of a rule -/
def wordsOf (r : Ru) : List (Key × V) :=
  [(Sum.inr "top", .int r.top), (Sum.inr "measure", .str (measS r.meas)), (Sum.inr "cut", .str (cutS r.cut)), (Sum.inr "least", .int r.least),
   (Sum.inr "ages", .str (agesS r.less)), (Sum.inr "struck", .str (struckS r.stay)), (Sum.inr "keeping", .str (keepS r.shown))]
theorem words_top (r : Ru) : valV (wordsOf r) (Sum.inr "top" : Key) = some (.int r.top) := by
  refine valV_pos rfl
theorem kne {a b : Str} {v : V} (h : decide (a = b) = false) : ¬ ((Sum.inr a : Key), v).1 = Sum.inr b := fun e => by
  injection e with e
  rw [decide_eq_true e] at h
  cases h
theorem words_measure (r : Ru) : valV (wordsOf r) (Sum.inr "measure" : Key) = some (.str (measS r.meas)) := by
  unfold wordsOf
  rw [valV_neg (kne (by decide +kernel))]
  exact valV_pos rfl
theorem words_cut (r : Ru) : valV (wordsOf r) (Sum.inr "cut" : Key) = some (.str (cutS r.cut)) := by
  unfold wordsOf
  rw [valV_neg (kne (by decide +kernel)), valV_neg (kne (by decide +kernel))]
  exact valV_pos rfl
theorem words_least (r : Ru) : valV (wordsOf r) (Sum.inr "least" : Key) = some (.int r.least) := by
  unfold wordsOf
  rw [valV_neg (kne (by decide +kernel)), valV_neg (kne (by decide +kernel)), valV_neg (kne (by decide +kernel))]
  exact valV_pos rfl
theorem words_ages (r : Ru) : valV (wordsOf r) (Sum.inr "ages" : Key) = some (.str (agesS r.less)) := by
  unfold wordsOf
  rw [valV_neg (kne (by decide +kernel)), valV_neg (kne (by decide +kernel)), valV_neg (kne (by decide +kernel)), valV_neg (kne (by decide +kernel))]
  exact valV_pos rfl
theorem words_struck (r : Ru) : valV (wordsOf r) (Sum.inr "struck" : Key) = some (.str (struckS r.stay)) := by
  unfold wordsOf
  rw [valV_neg (kne (by decide +kernel)), valV_neg (kne (by decide +kernel)), valV_neg (kne (by decide +kernel)), valV_neg (kne (by decide +kernel)), valV_neg (kne (by decide +kernel))]
  exact valV_pos rfl
theorem words_keeping (r : Ru) : valV (wordsOf r) (Sum.inr "keeping" : Key) = some (.str (keepS r.shown)) := by
  unfold wordsOf
  rw [valV_neg (kne (by decide +kernel)), valV_neg (kne (by decide +kernel)), valV_neg (kne (by decide +kernel)), valV_neg (kne (by decide +kernel)), valV_neg (kne (by decide +kernel)), valV_neg (kne (by decide +kernel))]
  exact valV_pos rfl

/-! ### how the data lies -/
/-- a rule's object -/
def RuleAt (C : Addr) (H : Hp) (p : Addr) (r : Ru) : Prop := ∃ dx d, H p = some (.ins C dx [("words", .ref d)]) ∧ H d = some (.dK (wordsOf r))
def pI (p : Bool) : Int := if p then 1 else 0
/-- a number, or None -/
def NumAt (H : Hp) (v : V) : Option (Int × Int) → Prop
  | none => v = .non
  | some n => ∃ a, v = .ref a ∧ H a = some (.tup [.int n.1, .int n.2])
def RwAt (H : Hp) (v : V) : Rw → Prop
  | .struck => v = .str "struck"
  | .mk m o s => ∃ a, v = .ref a ∧ H a = some (.tup [.int m, .bl o, .bl s])
abbrev RowsAt (H : Hp) (kvs : List (Key × V)) (rows : Rows) : Prop := Paired (fun (x : Key × V) (y : Bool × Rw) => x.1 = Sum.inl (pI y.1) ∧ RwAt H x.2 y.2) kvs rows
/-- a standing's object -/
def SgAt (C : Addr) (H : Hp) (p : Addr) (S : Sg) : Prop := ∃ dx d kvs kv, H p = some (.ins C dx [("rows", .ref d), ("kept", kv)]) ∧ H d = some (.dK kvs) ∧ RowsAt H kvs S.rows ∧ NumAt H kv S.kept
def ddV : Dd → List V
  | .give p m => [.str "give", .int (pI p), .int m]
  | .back p => [.str "back", .int (pI p)]
  | .strike p => [.str "strike", .int (pI p)]
  | .night => [.str "night"]
def DdAt (H : Hp) (a : Addr) (d : Dd) : Prop := H a = some (.tup (ddV d))
/-- (mark, is_old) of counted rows, as a list of tuples -/
def PrAt (H : Hp) (v : V) (x : Int × Bool) : Prop := ∃ a, v = .ref a ∧ H a = some (.tup [.int x.1, .bl x.2])
def RwAt3 (H : Hp) (v : V) (x : Int × Bool × Bool) : Prop := ∃ a, v = .ref a ∧ H a = some (.tup [.int x.1, .bl x.2.1, .bl x.2.2])

/-- all that was there but lists is as it was -/
def SameN (H H' : Hp) : Prop := ∀ b o, H b = some o → (∀ l, o ≠ .lst l) → H' b = some o
section
variable {H H' : Hp}
theorem SameN.of (s : Same H H') : SameN H H' := fun b o e _ => s b o e
theorem SameN.refl (H : Hp) : SameN H H := fun _ _ e _ => e
theorem SameN.trans {H2 : Hp} (s : SameN H H') (t : SameN H' H2) : SameN H H2 := fun b o e n => t b o (s b o e n) n
theorem SameN.put (s : SameN H H') {p : Addr} {l : List V} {o : HO} (h : H' p = some (.lst l)) : SameN H (upd H' p o) := fun b u e n => by
  have q := s b u e n
  rw [upd_ne (fun z => by rw [z, h] at q; cases q; exact n _ rfl)]
  exact q
theorem RuleAt.mono {C p : Addr} {r : Ru} (s : SameN H H') (h : RuleAt C H p r) : RuleAt C H' p r := by
  obtain ⟨dx, d, h1, h2⟩ := h
  exact ⟨dx, d, s _ _ h1 (fun _ z => nomatch z), s _ _ h2 (fun _ z => nomatch z)⟩
theorem NumAt.mono {v : V} {n : Option (Int × Int)} (s : SameN H H') (h : NumAt H v n) : NumAt H' v n := by
  cases n with
  | none => exact h
  | some n => obtain ⟨a, e, h⟩ := h; exact ⟨a, e, s _ _ h (fun _ z => nomatch z)⟩
theorem RwAt.mono {v : V} {x : Rw} (s : SameN H H') (h : RwAt H v x) : RwAt H' v x := by
  cases x with
  | struck => exact h
  | mk m o st => obtain ⟨a, e, h⟩ := h; exact ⟨a, e, s _ _ h (fun _ z => nomatch z)⟩
theorem RowsAt.mono {kvs : List (Key × V)} {rows : Rows} (s : SameN H H') (h : RowsAt H kvs rows) : RowsAt H' kvs rows := Paired.mapP h fun _ _ z => ⟨z.1, z.2.mono s⟩
theorem SgAt.mono {C p : Addr} {S : Sg} (s : SameN H H') (h : SgAt C H p S) : SgAt C H' p S := by
  obtain ⟨dx, d, kvs, kv, h1, h2, h3, h4⟩ := h
  exact ⟨dx, d, kvs, kv, s _ _ h1 (fun _ z => nomatch z), s _ _ h2 (fun _ z => nomatch z), h3.mono s, h4.mono s⟩
theorem DdAt.mono {a : Addr} {d : Dd} (s : SameN H H') (h : DdAt H a d) : DdAt H' a d := s _ _ h (fun _ z => nomatch z)
theorem PrAt.mono {v : V} {x : Int × Bool} (s : SameN H H') (h : PrAt H v x) : PrAt H' v x := by
  obtain ⟨a, e, h⟩ := h; exact ⟨a, e, s _ _ h (fun _ z => nomatch z)⟩
theorem RwAt3.mono {v : V} {x : Int × Bool × Bool} (s : SameN H H') (h : RwAt3 H v x) : RwAt3 H' v x := by
  obtain ⟨a, e, h⟩ := h; exact ⟨a, e, s _ _ h (fun _ z => nomatch z)⟩
/-- a new object keeps all -/
theorem same_upd {p : Addr} {o : HO} (h : H p = none) : Same H (upd H p o) := fun b u e => by rw [upd_ne (ne_of_none e h)]; exact e
theorem snew (s : Same H H') {p : Addr} {o : HO} (h : H' p = none) : Same H (L2.upd H' p o) := s.trans (same_upd h)
/-- an object that was not there at first is changed -/
theorem sput (s : Same H H') {p : Addr} {o : HO} (h : H p = none) : Same H (L2.upd H' p o) := fun b u e => by rw [upd_ne (ne_of_none e h)]; exact s b u e
/-- a dict was locked, is unlocked -/
theorem same_unlock {d : Addr} {u : HO} {od : Obj} (h : H d = some u) (s : Same (upd H d (.frz od u)) H') : Same H (upd H' d u) := fun b o e => by
  by_cases hb : b = d
  · subst hb
    rw [upd_same]
    rw [h] at e
    exact e
  · rw [upd_ne hb]
    exact s b o (by rw [upd_ne hb]; exact e)
theorem RwAt.off {d : Addr} {kvs : List (Key × V)} {o : HO} {v : V} {x : Rw} (h : H d = some (.dK kvs)) (r : RwAt H v x) : RwAt (upd H d o) v x := by
  cases x with
  | struck => exact r
  | mk m ol st =>
    obtain ⟨a, e, q⟩ := r
    exact ⟨a, e, by rw [upd_ne (ne_of q h (by intro z; cases z))]; exact q⟩
end

/-! ### tests whose answer is known -/
theorem itT {b : Bool} {A B : Prop} (e : b = true) (h : A) : if b = true then A else B := by rw [if_pos e]; exact h
theorem itF {b : Bool} {A B : Prop} (e : b = false) (h : B) : if b = true then A else B := by rw [if_neg (by rw [e]; exact Bool.false_ne_true)]; exact h

/-! ### list comprehensions over what is walked -/
theorem lc_fm {J : It} {n : Nat} {G : Hp → Prop} {Y : Nat → Hp → V → Hp → Prop} (w : L2.Walk J n G Y) {α β : Type} {g : TG} {tt : TT} {te : TE} {vs : List Nat} {σ : L2.St} {H1 : Hp} {D : Addr} {Qd : Hp → Prop} (as : List α) (hn : as.length = n) (hz : n ≤ sizeLine) (hD : H1 D = none)
    (f : α → Option β) (Bt : Hp → V → β → Prop) (mB : ∀ {H H' v c}, SameN H H' → Bt H v c → Bt H' v c) (hG : ∀ H, Same H1 H → G H)
    (turn : ∀ (i : Nat) (a : α) (H : Hp) (x : V) (H' : Hp) (Yes : V → Hp → Prop) (No : Hp → Prop), as[i]? = some a → Same H1 H → Y i H x H' → (∀ y H4 c, Same H H4 → f a = some c → Bt H4 y c → Yes y H4) → (∀ H3, Same H H3 → f a = none → No H3) →
      g x (wipe σ vs) H' fun σ2 H2 => wipe σ2 vs = wipe σ vs ∧ tt σ2 H2 fun b H3 => if b = true then te σ2 H3 Yes else No H3)
    (fin : ∀ H ys, Same H1 H → H D = some (.lst ys) → Paired (Bt H) ys (as.filterMap f) → Qd H) :
    ∃ W : Nat → Nat → Hp → Prop, (∃ m, W 0 m (upd H1 D (.lst []))) ∧ ∀ i m H, W i m H →
      (J.stop i H ∧ Qd H) ∨ (J.go i H ∧ ∃ Nx : Hp → Prop, (∀ H', Nx H' → ∃ m', m' < m ∧ W (i + 1) m' H') ∧ ∀ x H', J.yld i H x H' → g x (wipe σ vs) H' fun σ2 H2 => wipe σ2 vs = wipe σ vs ∧ tt σ2 H2 fun b H3 =>
        if b = true then te σ2 H3 fun y H4 => ∃ acc, H4 D = some (.lst acc) ∧ acc.length < sizeLine ∧ Nx (upd H4 D (.lst (acc ++ [y]))) else Nx H3) := by
  refine lc_it w (fun i H => Same H1 H ∧ ∃ ys, H D = some (.lst ys) ∧ ys.length ≤ i ∧ Paired (Bt H) ys ((as.take i).filterMap f)) ⟨same_upd hD, [], upd_same, Nat.le_refl _, .nil⟩ (fun i H _ h => hG H h.1) ?_ ?_
  · rintro i x H H' hi ⟨s1, ys, hy, hl, p⟩ y
    have hi' : i < as.length := by rw [hn]; exact hi
    have ha : as[i]? = some as[i] := List.getElem?_eq_getElem hi'
    have tk : as.take (i + 1) = as.take i ++ [as[i]] := by rw [List.take_add_one, ha]; rfl
    refine turn i as[i] H x H' _ _ ha s1 y (fun z H4 c s4 e b => ⟨ys, s4 _ _ hy, Nat.lt_of_le_of_lt hl (Nat.lt_of_lt_of_le hi hz), sput (s1.trans s4) hD, ys ++ [z], upd_same, ?_, ?_⟩) (fun H3 s3 e => ⟨s1.trans s3, ys, s3 _ _ hy, Nat.le_succ_of_le hl, ?_⟩)
    · rw [List.length_append, List.length_singleton]; omega
    · rw [tk, List.filterMap_append]
      have q4 := s4 _ _ hy
      have e1 : [as[i]].filterMap f = [c] := by rw [List.filterMap_cons, e]; rfl
      rw [e1]
      exact Paired.snoc (Paired.mapP p fun _ _ b => mB ((SameN.of s4).put q4) b) (mB ((SameN.refl _).put q4) b)
    · rw [tk, List.filterMap_append, List.filterMap_cons, e]
      rw [List.filterMap_nil, List.append_nil]
      exact Paired.mapP p fun _ _ b => mB (SameN.of s3) b
  · rintro H ⟨s1, ys, hy, hl, p⟩
    rw [← hn, List.take_length] at p
    exact fin H ys s1 hy p

/-! ### what the top has left: constants -/
structure Txt (K : PySem.W.Frag) (w : World) (mg : Str → Option Value) (CR CS : Addr) : Prop where
  clR : Cls K CR
  nW : NoAttr K CR "words"
  clS : Cls K CS
  nRows : NoAttr K CS "rows"
  nKept : NoAttr K CS "kept"
  mgR : mg "Rule" = some (.ref CR)
  mgS : mg "Standing" = some (.ref CS)
  units : ∃ p, mg "UNITS" = some (.ref p) ∧ KDct K w p "half" (.int 2) ∧ KDct K w p "whole" (.int 1)
  struck : ∃ t, mg "STRUCK" = some (.str "struck" t)
  night : ∃ t, mg "NIGHT" = some (.str "night" t)
  len : mg "len" = none
  int : mg "int" = none
  str : mg "str" = none
  bool : mg "bool" = none
  tuple : mg "tuple" = none
  list : mg "list" = none
  dict : mg "dict" = none
  isi : mg "isinstance" = none
  sum : mg "sum" = none
  max : mg "max" = none
  zip : mg "zip" = none
  range : mg "range" = none
  enum : mg "enumerate" = none
  sorted : mg "sorted" = none
  repr : mg "repr" = none
end K14
end
section
set_option Elab.async false
set_option linter.all false
set_option maxRecDepth 100000
/-! Reckoning: the defs of numbers. -/
namespace K14
open PySem L2

/-! ### mathematics -/
theorem gcd_step (a b : Int) (hb : 0 < b) : gcdI a b = gcdI b (a % b) := by
  unfold gcdI
  have e : Int.gcd b (a % b) = Int.gcd a b := by
    rw [Int.emod_def, Int.gcd_sub_mul_left_right, Int.gcd_comm]
  rw [e]
theorem gcd_zero' (a : Int) (h : 0 < a) : gcdI a 0 = a := by
  unfold gcdI
  rw [Int.gcd_zero_right]
  omega
theorem gcd_pos {a b : Int} (hb : 0 < b) : 0 < gcdI a b := by
  unfold gcdI
  have := Int.gcd_pos_of_ne_zero_right a (show b ≠ 0 by omega)
  omega
theorem gcd_le {a b : Int} (hb : 0 < b) : gcdI a b ≤ b := by
  unfold gcdI
  exact Int.le_of_dvd hb (Int.gcd_dvd_right ..)

section
variable {P : Program} {w : World} {K : PySem.W.Frag} {mg : Str → Option Value} {base : Heap} {CR CS : Addr}

/-! ### common_part, number_of -/
def spCommon : Sp := fun vs H Q _ => ∃ a b : Int, vs = [.int a, .int b] ∧ 0 < b ∧ Q (.int (gcdI a b)) H
theorem scCommon : FnScope ["one", "other"] ["one", "other"] (defScope (txt 16)) := ⟨rfl, rfl, rfl, by decide +kernel, rfl, by decide +kernel, by decide +kernel⟩
theorem df_common (F : FunAt K mg "common_part" (txt 16) ["one", "other"]) : Df P w K mg base "common_part" ["one", "other"] 1 spCommon := by
  refine F.ok scCommon (fun vs H Q E h => ?_) (fun f cdv A outer s H vs Q E hr h => ?_)
  · obtain ⟨a, b, rfl, _⟩ := h
    rfl
  · obtain ⟨a, b, rfl, hb, k⟩ := h
    refine ⟨_, pss_cons (ps_while PassesOwn.never (pt_cmpR op_ne (pv 1) pe_int (nomark _)) (pss_one (ps_par (i := 0) (j := 1) rfl scCommon.nd rfl rfl (by decide) rfl rfl (pa_cons (pv 1) (pa_cons (pe_op op_mod (pv 0) (pv 1)) pa_nil)) rfl)))
      (pss_one (ps_ret (pv 0))), ?_⟩
    refine ⟨fun m σ H' => ∃ x y : Int, σ = [some (.int x), some (.int y)] ∧ H' = H ∧ 0 ≤ y ∧ (y = 0 → 0 < x) ∧ gcdI x y = gcdI a b ∧ m = y.toNat, ⟨_, a, b, rfl, rfl, by omega, by omega, rfl, rfl⟩, ?_⟩
    rintro m σ H' ⟨x, y, rfl, rfl, hy, hx, hg, rfl⟩
    refine ⟨_, rfl, rfl, _, rfl, ?_⟩
    by_cases e : y = 0
    · subst e
      refine iteF ?_
      have q := gcd_zero' x (hx rfl)
      exact ⟨_, rfl, by rw [← q, hg]; exact k⟩
    · have hd : (!decide (V.int y = V.int 0)) = true := by simp [e]
      rw [hd]
      refine iteT ?_
      have hy' : 0 < y := by omega
      refine ⟨fun σ' H'' => ∃ x' y' : Int, σ' = [some (.int x'), some (.int y')] ∧ H'' = H' ∧ 0 ≤ y' ∧ (y' = 0 → 0 < x') ∧ gcdI x' y' = gcdI a b ∧ y'.toNat < y.toNat, ?_, ?_⟩
      · rintro σ' H3 ⟨x', y', rfl, rfl, h1, h2, h3, h4⟩
        exact ⟨_, h4, x', y', rfl, rfl, h1, h2, h3, rfl⟩
      · have m1 := Int.emod_nonneg x (show y ≠ 0 by omega)
        have m2 := Int.emod_lt_of_pos x hy'
        refine ⟨_, rfl, _, rfl, _, rfl, _, _, rfl, rfl, hy', _, _, rfl, y, x % y, rfl, rfl, m1, fun _ => hy', ?_, by omega⟩
        rw [← gcd_step x y hy']; exact hg

def spNumber : Sp := fun vs H Q _ => ∃ a b : Int, vs = [.int a, .int b] ∧ 0 < b ∧ b < 1073741824 ∧ ∀ p, H p = none → Q (.ref p) (upd H p (.tup [.int (numberOf a b).1, .int (numberOf a b).2]))
theorem scNumber : FnScope ["numerator", "denominator", "part"] ["numerator", "denominator"] (defScope (txt 17)) := ⟨rfl, rfl, rfl, by decide +kernel, rfl, by decide +kernel, by decide +kernel⟩
theorem df_number (F : FunAt K mg "number_of" (txt 17) ["numerator", "denominator"]) (D : Df P w K mg base "common_part" ["one", "other"] 1 spCommon) : Df P w K mg base "number_of" ["numerator", "denominator"] 2 spNumber := by
  refine F.ok scNumber (fun vs H Q E h => ?_) (fun f cdv A outer s H vs Q E hr h => ?_)
  · obtain ⟨a, b, rfl, _⟩ := h
    rfl
  · obtain ⟨a, b, rfl, hb, hb2, k⟩ := h
    refine ⟨_, pss_cons (ps_set (i := 2) scNumber.nd rfl (Or.inl rfl) (pe_df D hr rfl (pa_cons (pv 0) (pa_cons (pv 1) pa_nil))))
      (pss_one (ps_ret (pe_tup (pa_cons (pe_op op_fdiv (pv 0) (pv 2)) (pa_cons (pe_op op_fdiv (pv 1) (pv 2)) pa_nil))))), ?_⟩
    have g1 := gcd_pos (a := a) hb
    have g2 := gcd_le (a := a) hb
    refine ⟨_, rfl, _, rfl, a, b, rfl, hb, _, rfl, _, rfl, _, _, rfl, rfl, ⟨g1, by omega⟩, _, rfl, _, rfl, _, _, rfl, rfl, ⟨g1, by omega⟩, (by show 2 ≤ sizeLine; decide), fun p hp => ?_⟩
    exact k p hp

/-! ### words read -/
theorem dg_top {H : Hp} {d : Addr} {r : Ru} (h : H d = some (.dK (wordsOf r))) : DGet H d (.str "top") (some (.int r.top)) := by have q := DGet.k (k := Sum.inr "top") h; rw [words_top] at q; exact q
theorem dg_measure {H : Hp} {d : Addr} {r : Ru} (h : H d = some (.dK (wordsOf r))) : DGet H d (.str "measure") (some (.str (measS r.meas))) := by have q := DGet.k (k := Sum.inr "measure") h; rw [words_measure] at q; exact q
theorem dg_cut {H : Hp} {d : Addr} {r : Ru} (h : H d = some (.dK (wordsOf r))) : DGet H d (.str "cut") (some (.str (cutS r.cut))) := by have q := DGet.k (k := Sum.inr "cut") h; rw [words_cut] at q; exact q
theorem dg_least {H : Hp} {d : Addr} {r : Ru} (h : H d = some (.dK (wordsOf r))) : DGet H d (.str "least") (some (.int r.least)) := by have q := DGet.k (k := Sum.inr "least") h; rw [words_least] at q; exact q
theorem dg_ages {H : Hp} {d : Addr} {r : Ru} (h : H d = some (.dK (wordsOf r))) : DGet H d (.str "ages") (some (.str (agesS r.less))) := by have q := DGet.k (k := Sum.inr "ages") h; rw [words_ages] at q; exact q
theorem dg_struck {H : Hp} {d : Addr} {r : Ru} (h : H d = some (.dK (wordsOf r))) : DGet H d (.str "struck") (some (.str (struckS r.stay))) := by have q := DGet.k (k := Sum.inr "struck") h; rw [words_struck] at q; exact q
theorem dg_keeping {H : Hp} {d : Addr} {r : Ru} (h : H d = some (.dK (wordsOf r))) : DGet H d (.str "keeping") (some (.str (keepS r.shown))) := by have q := DGet.k (k := Sum.inr "keeping") h; rw [words_keeping] at q; exact q

/-! ### cut_down -/
def spCut (CR : Addr) : Sp := fun vs H Q _ => ∃ (p : Addr) (r : Ru) (a b : Int), vs = [.ref p, .int a, .int b] ∧ RuleAt CR H p r ∧ 0 < b ∧ b < 1073741824 ∧
  ∀ q H', Same H H' → H' q = some (.tup [.int (cutDown r.cut a b).1, .int (cutDown r.cut a b).2]) → Q (.ref q) H'
theorem scCut : FnScope ["rule", "numerator", "denominator", "word"] ["rule", "numerator", "denominator"] (defScope (txt 18)) := ⟨rfl, rfl, rfl, by decide +kernel, rfl, by decide +kernel, by decide +kernel⟩
theorem df_cut (T : Txt K w mg CR CS) (F : FunAt K mg "cut_down" (txt 18) ["rule", "numerator", "denominator"]) (D : Df P w K mg base "number_of" ["numerator", "denominator"] 2 spNumber) : Df P w K mg base "cut_down" ["rule", "numerator", "denominator"] 3 (spCut CR) := by
  refine F.ok scCut (fun vs H Q E h => ?_) (fun f cdv A outer s H vs Q E hr h => ?_)
  · obtain ⟨p, r, a, b, rfl, _⟩ := h
    rfl
  · obtain ⟨p, r, a, b, rfl, ⟨dx, d, h1, h2⟩, hb, hb2, k⟩ := h
    have hu := hu_of hr
    obtain ⟨U, mU, uh, uw⟩ := T.units
    refine ⟨_, pss_cons (ps_set (i := 3) scCut.nd rfl (Or.inl rfl) (pe_dget hu (pe_fld (pv 0) rfl) pe_str (fun _ _ => rfl)))
      (pss_cons (ps_if (pt_cmpR op_eq (pv 3) pe_str (nomark _)) (pss_one (ps_ret (pe_df D hr rfl (pa_cons (pv 1) (pa_cons (pv 2) pa_nil))))) pss_nil)
      (pss_one (ps_ret (pe_df D hr rfl (pa_cons (pe_op op_fdiv (pe_op op_mul (pe_ix ix_kdict (pe_glob (v := V.ref U) (by rfl) mU rfl) (pv 3) (fun _ _ => rfl)) (pv 1)) (pv 2)) (pa_cons (pe_ix ix_kdict (pe_glob (v := V.ref U) (by rfl) mU rfl) (pv 3) (fun _ _ => rfl)) pa_nil)))))), ?_⟩
    refine ⟨_, rfl, p, CR, dx, _, _, rfl, h1, T.clR, T.nW, rfl, d, _, rfl, dg_cut h2, ?_⟩
    refine ⟨_, rfl, rfl, _, rfl, ?_⟩
    have fin : ∀ (x y : Int), cutDown r.cut a b = numberOf x y → ∀ q, H q = none → Q (.ref q) (upd H q (.tup [.int (numberOf x y).1, .int (numberOf x y).2])) := fun x y e q hq =>
      k q _ (same_upd hq) (by rw [e]; exact upd_same)
    cases hc : r.cut with
    | exact =>
      rw [hc] at fin
      refine itT (by decide +kernel) ?_
      exact ⟨_, rfl, _, rfl, a, b, rfl, hb, hb2, fin a b rfl⟩
    | half =>
      rw [hc] at fin
      refine itF (by decide +kernel) ?_
      exact ⟨_, rfl, U, _, _, rfl, rfl, uh, _, rfl, _, _, rfl, rfl, .inl ⟨by decide, by decide⟩, _, rfl, _, _, rfl, rfl, ⟨hb, hb2⟩, _, rfl, U, _, _, rfl, rfl, uh, 2 * a / b, 2, rfl, by decide, by decide, fin _ _ rfl⟩
    | whole =>
      rw [hc] at fin
      refine itF (by decide +kernel) ?_
      exact ⟨_, rfl, U, _, _, rfl, rfl, uw, _, rfl, _, _, rfl, rfl, .inl ⟨by decide, by decide⟩, _, rfl, _, _, rfl, rfl, ⟨hb, hb2⟩, _, rfl, U, _, _, rfl, rfl, uw, 1 * a / b, 1, rfl, by decide, by decide, fin _ _ rfl⟩

/-! ### weight_of -/
def spWeight (CR : Addr) : Sp := fun vs H Q _ => ∃ (p : Addr) (r : Ru) (o : Bool), vs = [.ref p, .bl o] ∧ RuleAt CR H p r ∧ Q (.int (weightOf r.less o)) H
theorem scWeight : FnScope ["rule", "is_old"] ["rule", "is_old"] (defScope (txt 19)) := ⟨rfl, rfl, rfl, by decide +kernel, rfl, by decide +kernel, by decide +kernel⟩
theorem df_weight (T : Txt K w mg CR CS) (F : FunAt K mg "weight_of" (txt 19) ["rule", "is_old"]) : Df P w K mg base "weight_of" ["rule", "is_old"] 1 (spWeight CR) := by
  refine F.ok scWeight (fun vs H Q E h => ?_) (fun f cdv A outer s H vs Q E hr h => ?_)
  · obtain ⟨p, r, o, rfl, _⟩ := h
    rfl
  · obtain ⟨p, r, o, rfl, ⟨dx, d, h1, h2⟩, k⟩ := h
    have hu := hu_of hr
    refine ⟨_, pss_one (ps_ret (pe_ifExp (PW.pt (pw_and (pt_val (pv 1)) (pw_and1 (pt_cmpR op_eq (pe_dget hu (pe_fld (pv 0) rfl) pe_str (fun _ _ => rfl)) pe_str (nomark _))))) pe_int pe_int)), ?_⟩
    refine ⟨_, rfl, _, rfl, ?_⟩
    cases o with
    | false => exact itF rfl (itF rfl (by have e : weightOf r.less false = 2 := by unfold weightOf; rw [Bool.false_and]; rfl
                                          rw [e] at k; exact k))
    | true =>
      refine itT rfl ?_
      refine ⟨_, rfl, p, CR, dx, _, _, rfl, h1, T.clR, T.nW, rfl, d, _, rfl, dg_ages h2, rfl, _, rfl, ?_⟩
      cases hl : r.less with
      | false => rw [hl] at k; exact itF (by decide +kernel) k
      | true => rw [hl] at k; exact itT (by decide +kernel) k

/-! ### mean_of, number_for -/
def PsOk (ps : List (Int × Bool)) : Prop := ps.length ≤ 2 ∧ ∀ x ∈ ps, 1 ≤ x.1 ∧ x.1 ≤ 3
theorem weight_le (l o : Bool) : 1 ≤ weightOf l o ∧ weightOf l o ≤ 2 := by
  unfold weightOf
  split <;> omega
theorem sums_ok {l : Bool} : ∀ {ps : List (Int × Bool)}, (ps.length : Int) ≤ (ps.map fun p => weightOf l p.2).sum ∧ (ps.map fun p => weightOf l p.2).sum ≤ 2 * (ps.length : Int)
  | [] => by simp
  | x :: r => by
    have := sums_ok (l := l) (ps := r)
    have w := weight_le l x.2
    simp only [List.map_cons, List.sum_cons, List.length_cons]
    omega
theorem paired_ints {ys : List V} {cs : List Int} (h : Paired (fun v c => v = V.int c) ys cs) : ys = cs.map V.int := by
  induction h with
  | nil => rfl
  | cons e _ ih => rw [e, ih]; rfl
theorem paired_at {α β : Type} {G : α → β → Prop} {l₁ : List α} {l₂ : List β} (h : Paired G l₁ l₂) {i : Nat} {a : α} {b : β} (ha : l₁[i]? = some a) (hb : l₂[i]? = some b) : G a b := by
  obtain ⟨c, e, g⟩ := L2.paired_get h ha
  rw [hb] at e
  cases e
  exact g
theorem filterMap_some {α β : Type} (g : α → β) (l : List α) : l.filterMap (fun a => some (g a)) = l.map g := by
  induction l with
  | nil => rfl
  | cons a r ih => rw [List.filterMap_cons, List.map_cons, ih]
def spMean (CR : Addr) : Sp := fun vs H Q _ => ∃ (p l : Addr) (r : Ru) (xs : List V) (ps : List (Int × Bool)), vs = [.ref p, .ref l] ∧ RuleAt CR H p r ∧ H l = some (.lst xs) ∧ Paired (PrAt H) xs ps ∧ PsOk ps ∧ ps ≠ [] ∧
  ∀ q H', Same H H' → NumAt H' q (some (meanOf r ps)) → Q q H'
theorem scMean : FnScope ["rule", "rows", "weights", "total", "mark", "is_old", "weight"] ["rule", "rows"] (defScope (txt 20)) := ⟨rfl, rfl, rfl, by decide +kernel, rfl, by decide +kernel, by decide +kernel⟩
theorem df_mean (T : Txt K w mg CR CS) (F : FunAt K mg "mean_of" (txt 20) ["rule", "rows"]) (D : Df P w K mg base "cut_down" ["rule", "numerator", "denominator"] 3 (spCut CR)) (DW : Df P w K mg base "weight_of" ["rule", "is_old"] 1 (spWeight CR)) :
    Df P w K mg base "mean_of" ["rule", "rows"] 4 (spMean CR) := by
  refine F.ok scMean (fun vs H Q E h => ?_) (fun f cdv A outer s H vs Q E hr h => ?_)
  · obtain ⟨p, l, r, xs, ps, rfl, _⟩ := h
    rfl
  · obtain ⟨p, l, r, xs, ps, rfl, hR, hl, pr, ok, ne, k⟩ := h
    have hlen : xs.length = ps.length := Paired.length pr
    refine ⟨_, pss_cons (ps_setLc (i := 2) (own := [("mark", 4), ("is_old", 5)]) (g := gTup K 2 (gCons (gName 4) (gCons (gName 5) gNil))) (tt := tYes) rfl scMean.nd rfl rfl (sw_true rfl rfl rfl (by decide +kernel)) (pi_list (pv 1)) (blkOk_by (N := ["rule", "rows", "weights", "total", "mark", "is_old", "weight"]) (sc := defScope (txt 20)) (by decide +kernel))
        (fun _ _ _ _ _ => pg_tup (by rfl) (pgs_cons (pg_name (i := 4) scMean.nd rfl (Or.inl rfl)) (pgs_cons (pg_name (i := 5) scMean.nd rfl (Or.inl rfl)) pgs_nil))) (fun _ _ _ _ _ => pts_nil)
        (fun _ _ _ _ _ => pe_df DW (hr.mono (by decide)) rfl (pa_cons (pv 0) (pa_cons (pv 5) pa_nil))))
      (pss_cons (ps_set (i := 3) scMean.nd rfl (Or.inl rfl) (pe_callB (cr_sum rfl) (by rfl) T.sum (by decide +kernel) (pa_cons (pe_lc (own := [("mark", 4), ("is_old", 5), ("weight", 6)]) (g := gTup K 2 (gCons (gTup K 2 (gCons (gName 4) (gCons (gName 5) gNil))) (gCons (gName 6) gNil))) (tt := tYes) rfl scMean.nd
          (pi_zip (by rfl) T.zip (pa_cons (pv 1) (pa_cons (pv 2) pa_nil))) (blkOk_by (N := ["rule", "rows", "weights", "total", "mark", "is_old", "weight"]) (sc := defScope (txt 20)) (by decide +kernel))
          (fun _ _ _ _ _ => pg_tup (by rfl) (pgs_cons (pg_tup (by rfl) (pgs_cons (pg_name (i := 4) scMean.nd rfl (Or.inl rfl)) (pgs_cons (pg_name (i := 5) scMean.nd rfl (Or.inl rfl)) pgs_nil))) (pgs_cons (pg_name (i := 6) scMean.nd rfl (Or.inl rfl)) pgs_nil))) (fun _ _ _ _ _ => pts_nil)
          (fun _ _ _ _ _ => pe_op op_mul (pv 4) (pv 6))) pa_nil)))
      (pss_one (ps_ret (pe_df D hr rfl (pa_cons (pv 0) (pa_cons (pv 3) (pa_cons (pe_callB (cr_sum rfl) (by rfl) T.sum (by decide +kernel) (pa_cons (pv 2) pa_nil)) pa_nil)))))))  , ?_⟩
    refine ⟨_, rfl, l, rfl, ⟨_, SqL.of hl⟩, fun D1 hD1 => lc_fm (walk_list (K := K) (a := l) (xs := xs)) ps hlen.symm (Nat.le_trans (Nat.le_of_eq hlen) (Nat.le_trans ok.1 (by decide))) hD1 (fun x => some (weightOf r.less x.2)) (fun _ v c => v = V.int c) (fun _ e => e) (fun H s => s.seq (SqL.of hl)) ?_ ?_⟩
    · rintro i a H1 x H1' Yes No ha s1 ⟨rfl, hx⟩ hy hn
      obtain ⟨t, rfl, ht⟩ := paired_at pr hx ha
      refine ⟨t, _, rfl, SqT.of (s1 _ _ ht), rfl, _, _, rfl, _, _, rfl, rfl, rfl, ?_⟩
      exact ⟨_, rfl, _, rfl, p, r, _, rfl, hR.mono (SameN.of s1), hy _ _ _ (Same.refl _) rfl rfl⟩
    · intro H1 ys s1 hy pw
      rw [filterMap_some] at pw
      have ey := paired_ints pw
      have s1n := SameN.of s1
      refine ⟨_, rfl, _, rfl, l, D1, xs, ys, rfl, SqL.of (s1 _ _ hl), SqL.of hy, ?_⟩
      have ly : ys.length = ps.length := by rw [ey, List.length_map, List.length_map]
      refine fun D2 hD2 => lc_fm (walk_zip (K := K) (a := l) (b := D1) (xs := xs) (ys := ys) (n := ps.length) (by rw [ly, hlen]; exact (Nat.min_self _).symm)) ps rfl (Nat.le_trans ok.1 (by decide)) hD2 (fun x => some (x.1 * weightOf r.less x.2)) (fun _ v c => v = V.int c) (fun _ e => e) (fun H s => ⟨s.seq (SqL.of (s1 _ _ hl)), s.seq (SqL.of hy)⟩) ?_ ?_
      · rintro i a H2 x H2' Yes No ha s2 ⟨T2, x1, y1, rfl, hT, rfl, hx1, hy1⟩ hyes hno
        obtain ⟨t, rfl, ht⟩ := paired_at pr hx1 ha
        have ey1 : y1 = V.int (weightOf r.less a.2) := by
          dsimp only at hy1
          rw [ey, List.getElem?_map, List.getElem?_map, ha] at hy1
          exact (Option.some.inj hy1).symm
        subst ey1
        have ht2 := s2 _ _ (s1 _ _ ht)
        refine ⟨T2, _, rfl, SqT.of upd_same, rfl, _, _, rfl, ⟨t, _, rfl, SqT.of ((same_upd hT) _ _ ht2), rfl, _, _, rfl, _, _, rfl, rfl, _, _, rfl, rfl, rfl, ?_⟩⟩
        have w1 := weight_le r.less a.2
        refine ⟨_, rfl, _, rfl, _, _, rfl, rfl, .inr ⟨by omega, by omega⟩, hyes _ _ _ (same_upd hT) rfl rfl⟩
      · intro H2 zs s2 hz pz
        rw [filterMap_some] at pz
        have ez := paired_ints pz
        refine ⟨D2, _, rfl, by rw [← ez]; exact SqL.of hz, ?_⟩
        have hR2 := hR.mono (SameN.of (s1.trans s2))
        have so := sums_ok (l := r.less) (ps := ps)
        have l1 : 1 ≤ ps.length := by
          cases ps with
          | nil => exact absurd rfl ne
          | cons a b => exact Nat.succ_le_succ (Nat.zero_le _)
        have l2 := ok.1
        refine ⟨_, rfl, _, rfl, _, rfl, D1, _, rfl, by rw [← ey]; exact SqL.of (s2 _ _ hy), p, r, _, _, rfl, hR2, by omega, by omega, fun q H' s' hq => ?_⟩
        exact k (.ref q) H' (s1.trans (s2.trans s')) ⟨q, rfl, hq⟩
end
end K14
end
section
set_option Elab.async false
set_option linter.all false
set_option maxRecDepth 100000
/-! Reckoning, further. -/
namespace K14
open PySem L2

theorem maxI_mem : ∀ {l : List Int}, l ≠ [] → maxI l ∈ l ∧ ∀ y ∈ l, y ≤ maxI l
  | [], h => absurd rfl h
  | [x], _ => ⟨List.mem_singleton.mpr rfl, fun y hy => by rw [List.mem_singleton.mp hy]; exact Int.le_refl _⟩
  | x :: z :: r, _ => by
    have ih := maxI_mem (l := z :: r) (by simp)
    show (if maxI (z :: r) < x then x else maxI (z :: r)) ∈ x :: z :: r ∧ ∀ y ∈ x :: z :: r, y ≤ (if maxI (z :: r) < x then x else maxI (z :: r))
    split
    · rename_i hlt
      refine ⟨List.mem_cons_self, fun y hy => ?_⟩
      rcases List.mem_cons.mp hy with e | hy
      · rw [e]; exact Int.le_refl _
      · exact Int.le_trans (ih.2 y hy) (Int.le_of_lt hlt)
    · rename_i hlt
      refine ⟨List.mem_cons_of_mem _ ih.1, fun y hy => ?_⟩
      rcases List.mem_cons.mp hy with e | hy
      · rw [e]; omega
      · exact ih.2 y hy
theorem maxI_eq {l : List Int} {m : Int} (h : m ∈ l) (hu : ∀ y ∈ l, y ≤ m) : m = maxI l := by
  have q := maxI_mem (l := l) (fun e => by rw [e] at h; cases h)
  exact Int.le_antisymm (q.2 m h) (hu _ q.1)
/-- an int, or None -/
def oI : Option Int → V
  | none => .non
  | some i => .int i

section
variable {P : Program} {w : World} {K : PySem.W.Frag} {mg : Str → Option Value} {base : Heap} {CR CS : Addr}
def spNumFor (CR : Addr) : Sp := fun vs H Q _ => ∃ (p l : Addr) (r : Ru) (xs : List V) (ps : List (Int × Bool)), vs = [.ref p, .ref l] ∧ RuleAt CR H p r ∧ H l = some (.lst xs) ∧ Paired (PrAt H) xs ps ∧ PsOk ps ∧
  ∀ q H', Same H H' → NumAt H' q (numberFor r ps) → Q q H'
theorem least_pos (r : Ru) : 1 ≤ r.least ∧ r.least ≤ 2 := by
  unfold Ru.least
  split <;> omega
theorem top_pos (r : Ru) : 2 ≤ r.top ∧ r.top ≤ 3 := by
  unfold Ru.top
  split <;> omega
theorem scNumFor : FnScope ["rule", "rows", "mark", "is_old"] ["rule", "rows"] (defScope (txt 21)) := ⟨rfl, rfl, rfl, by decide +kernel, rfl, by decide +kernel, by decide +kernel⟩
theorem df_numfor (T : Txt K w mg CR CS) (F : FunAt K mg "number_for" (txt 21) ["rule", "rows"]) (D : Df P w K mg base "mean_of" ["rule", "rows"] 4 (spMean CR)) : Df P w K mg base "number_for" ["rule", "rows"] 5 (spNumFor CR) := by
  refine F.ok scNumFor (fun vs H Q E h => ?_) (fun f cdv A outer s H vs Q E hr h => ?_)
  · obtain ⟨p, l, r, xs, ps, rfl, _⟩ := h
    rfl
  · obtain ⟨p, l, r, xs, ps, rfl, hR, hl, pr, ok, k⟩ := h
    have hlen : xs.length = ps.length := Paired.length pr
    have hu := hu_of hr
    obtain ⟨dx, d, h1, h2⟩ := id hR
    refine ⟨_, pss_cons (ps_if (pt_cmpR op_lt (pe_callB call_len_seq (by rfl) T.len PySem.boot_len (pa_cons (pv 1) pa_nil)) (pe_dget hu (pe_fld (pv 0) rfl) pe_str (fun _ _ => rfl)) (nomark _)) (pss_one (ps_ret pe_non)) pss_nil)
      (pss_cons (ps_if (pt_cmpR op_eq (pe_dget hu (pe_fld (pv 0) rfl) pe_str (fun _ _ => rfl)) pe_str (nomark _)) (pss_one (ps_ret (pe_tup (pa_cons (pe_callB call_len_seq (by rfl) T.len PySem.boot_len (pa_cons (pv 1) pa_nil)) (pa_cons pe_int pa_nil))))) pss_nil)
      (pss_cons (ps_if (pt_cmpR op_eq (pe_dget hu (pe_fld (pv 0) rfl) pe_str (fun _ _ => rfl)) pe_str (nomark _)) (pss_one (ps_ret (pe_tup (pa_cons (pe_callB (cr_max rfl) (by rfl) T.max (by decide +kernel) (pa_cons (pe_lc (own := [("mark", 2), ("is_old", 3)]) (g := gTup K 2 (gCons (gName 2) (gCons (gName 3) gNil))) (tt := tYes) rfl scNumFor.nd
          (pi_list (pv 1)) (blkOk_by (N := ["rule", "rows", "mark", "is_old"]) (sc := defScope (txt 21)) (by decide +kernel))
          (fun _ _ _ _ _ => pg_tup (by rfl) (pgs_cons (pg_name (i := 2) scNumFor.nd rfl (Or.inl rfl)) (pgs_cons (pg_name (i := 3) scNumFor.nd rfl (Or.inl rfl)) pgs_nil))) (fun _ _ _ _ _ => pts_nil)
          (fun _ _ _ _ _ => pv 2)) pa_nil)) (pa_cons pe_int pa_nil))))) pss_nil)
      (pss_one (ps_ret (pe_df D hr rfl (pa_cons (pv 0) (pa_cons (pv 1) pa_nil))))))), ?_⟩
    have hls := least_pos r
    -- len(rows) < least
    refine ⟨_, rfl, l, _, rfl, .inl (SqL.of hl), _, rfl, p, CR, dx, _, _, rfl, h1, T.clR, T.nW, rfl, d, _, rfl, dg_least h2, _, _, rfl, rfl, _, rfl, ?_⟩
    rw [hlen]
    by_cases hlt : (ps.length : Int) < r.least
    · refine itT (decide_eq_true hlt) ?_
      refine k .non H (Same.refl H) ?_
      unfold numberFor
      rw [if_pos hlt]
      rfl
    refine itF (decide_eq_false hlt) ?_
    have ne : ps ≠ [] := fun e => by rw [e] at hlt; exact hlt (by show (0 : Int) < r.least; omega)
    have fin : ∀ q n, numberFor r ps = some n → ∀ H', Same H H' → H' q = some (.tup [.int n.1, .int n.2]) → Q (.ref q) H' := fun q n e H' s hq => k (.ref q) H' s (by rw [e]; exact ⟨q, rfl, hq⟩)
    unfold numberFor at fin k
    rw [if_neg hlt] at fin k
    -- measure == "count"
    refine ⟨_, rfl, p, CR, dx, _, _, rfl, h1, T.clR, T.nW, rfl, d, _, rfl, dg_measure h2, rfl, _, rfl, ?_⟩
    cases hm : r.meas with
    | count =>
      rw [hm] at fin
      refine itT (by decide +kernel) ?_
      exact ⟨_, rfl, l, _, rfl, .inl (SqL.of hl), (by show 2 ≤ sizeLine; decide), fun q hq => fin q _ rfl _ (same_upd hq) (by rw [hlen]; exact upd_same)⟩
    | best =>
      rw [hm] at fin
      refine itF (by decide +kernel) ?_
      refine ⟨_, rfl, p, CR, dx, _, _, rfl, h1, T.clR, T.nW, rfl, d, _, rfl, dg_measure h2, rfl, _, rfl, ?_⟩
      rw [hm]
      refine itT (by decide +kernel) ?_
      refine ⟨_, rfl, l, rfl, ⟨_, SqL.of hl⟩, fun D1 hD1 => lc_fm (walk_list (K := K) (a := l) (xs := xs)) ps hlen.symm (Nat.le_trans (Nat.le_of_eq hlen) (Nat.le_trans ok.1 (by decide))) hD1 (fun x => some x.1) (fun _ v c => v = V.int c) (fun _ e => e) (fun H s => s.seq (SqL.of hl)) ?_ ?_⟩
      · rintro i a H1 x H1' Yes No ha s1 ⟨rfl, hx⟩ hy hn
        obtain ⟨t, rfl, ht⟩ := paired_at pr hx ha
        exact ⟨t, _, rfl, SqT.of (s1 _ _ ht), rfl, _, _, rfl, _, _, rfl, rfl, rfl, _, rfl, hy _ _ _ (Same.refl _) rfl rfl⟩
      · intro H1 ys s1 hy pw
        rw [filterMap_some] at pw
        have ey := paired_ints pw
        refine ⟨D1, _, rfl, by rw [← ey]; exact SqL.of hy, by rw [List.length_map]; exact List.length_pos_iff.mpr ne, fun m hm1 hm2 => ?_⟩
        refine ⟨(by show 2 ≤ sizeLine; decide), fun q hq => fin q _ rfl _ (snew s1 hq) ?_⟩
        rw [← maxI_eq hm1 hm2]
        exact upd_same
    | mean =>
      rw [hm] at k
      refine itF (by decide +kernel) ?_
      refine ⟨_, rfl, p, CR, dx, _, _, rfl, h1, T.clR, T.nW, rfl, d, _, rfl, dg_measure h2, rfl, _, rfl, ?_⟩
      rw [hm]
      refine itF (by decide +kernel) ?_
      exact ⟨_, rfl, _, rfl, p, l, r, xs, ps, rfl, hR, hl, pr, ok, ne, k⟩

/-! ### bounded -/
def spBounded (CR : Addr) : Sp := fun vs H Q _ => ∃ (p q : Addr) (r : Ru) (n : Int × Int), vs = [.ref p, .ref q] ∧ RuleAt CR H p r ∧ H q = some (.tup [.int n.1, .int n.2]) ∧ ∀ v H', Same H H' → NumAt H' v (some (bounded r n)) → Q v H'
theorem scBounded : FnScope ["rule", "number"] ["rule", "number"] (defScope (txt 22)) := ⟨rfl, rfl, rfl, by decide +kernel, rfl, by decide +kernel, by decide +kernel⟩
theorem df_bounded (T : Txt K w mg CR CS) (F : FunAt K mg "bounded" (txt 22) ["rule", "number"]) : Df P w K mg base "bounded" ["rule", "number"] 1 (spBounded CR) := by
  refine F.ok scBounded (fun vs H Q E h => ?_) (fun f cdv A outer s H vs Q E hr h => ?_)
  · obtain ⟨p, q, r, n, rfl, _⟩ := h
    rfl
  · obtain ⟨p, q, r, n, rfl, hR, hq, k⟩ := h
    have hu := hu_of hr
    obtain ⟨dx, d, h1, h2⟩ := id hR
    refine ⟨_, pss_cons (ps_if (pt_cmpR op_lt (pe_ix ix_tup (pv 1) pe_int (fun _ _ => rfl)) (pe_ix ix_tup (pv 1) pe_int (fun _ _ => rfl)) (nomark _)) (pss_one (ps_ret (pe_tup (pa_cons pe_int (pa_cons pe_int pa_nil))))) pss_nil)
      (pss_one (ps_ret (pe_ifExp (pt_cmpR op_gt (pe_ix ix_tup (pv 1) pe_int (fun _ _ => rfl)) (pe_op op_mul (pe_dget hu (pe_fld (pv 0) rfl) pe_str (fun _ _ => rfl)) (pe_ix ix_tup (pv 1) pe_int (fun _ _ => rfl))) (nomark _))
        (pe_tup (pa_cons (pe_dget hu (pe_fld (pv 0) rfl) pe_str (fun _ _ => rfl)) (pa_cons pe_int pa_nil))) (pv 1)))), ?_⟩
    have ht := top_pos r
    refine ⟨_, rfl, q, _, _, _, rfl, rfl, SqT.of hq, rfl, _, rfl, q, _, _, _, rfl, rfl, SqT.of hq, rfl, _, _, rfl, rfl, _, rfl, ?_⟩
    unfold bounded at k
    by_cases c1 : n.1 < n.2
    · rw [if_pos c1] at k
      refine itT (decide_eq_true c1) ?_
      exact ⟨(by show 2 ≤ sizeLine; decide), fun t ht => k (.ref t) _ (same_upd ht) ⟨t, rfl, upd_same⟩⟩
    rw [if_neg c1] at k
    refine itF (decide_eq_false c1) ?_
    refine ⟨_, rfl, q, _, _, _, rfl, rfl, SqT.of hq, rfl, _, rfl, p, CR, dx, _, _, rfl, h1, T.clR, T.nW, rfl, d, _, rfl, dg_top h2, _, rfl, q, _, _, _, rfl, rfl, SqT.of hq, rfl, _, _, rfl, rfl, .inl ⟨by omega, by omega⟩, _, _, rfl, rfl, _, rfl, ?_⟩
    by_cases c2 : r.top * n.2 < n.1
    · rw [if_pos c2] at k
      refine itT (decide_eq_true c2) ?_
      exact ⟨_, rfl, p, CR, dx, _, _, rfl, h1, T.clR, T.nW, rfl, d, _, rfl, dg_top h2, (by show 2 ≤ sizeLine; decide), fun t ht => k (.ref t) _ (same_upd ht) ⟨t, rfl, upd_same⟩⟩
    · rw [if_neg c2] at k
      refine itF (decide_eq_false c2) ?_
      exact ⟨_, rfl, k (.ref q) H (Same.refl H) ⟨q, rfl, hq⟩⟩

/-! ### worked_on -/
def spWorked (CR : Addr) : Sp := fun vs H Q _ => ∃ (p : Addr) (r : Ru) (kv : V) (kept : Option (Int × Int)) (n : Int) (elder mark : Option Int), vs = [.ref p, kv, .int n, oI elder, oI mark] ∧ RuleAt CR H p r ∧ NumAt H kv kept ∧ KpOk 20 kept ∧
  b01 elder.isSome ≤ n ∧ n ≤ 2 ∧ ∀ v H', Same H H' → NumAt H' v (workedOn r kept n elder mark) → Q v H'
theorem oI_none (x : Option Int) : decide (oI x = V.non) = !x.isSome := by cases x <;> rfl
theorem num_none {H : Hp} {v : V} {x : Option (Int × Int)} (h : NumAt H v x) : decide (v = V.non) = !x.isSome := by
  cases x with
  | none => cases h; rfl
  | some n => obtain ⟨a, rfl, _⟩ := h; rfl
theorem scWorked : FnScope ["rule", "kept", "many", "elder", "mark", "left", "before", "change"] ["rule", "kept", "many", "elder", "mark"] (defScope (txt 23)) := ⟨rfl, rfl, rfl, by decide +kernel, rfl, by decide +kernel, by decide +kernel⟩
theorem df_worked (T : Txt K w mg CR CS) (F : FunAt K mg "worked_on" (txt 23) ["rule", "kept", "many", "elder", "mark"]) (DB : Df P w K mg base "bounded" ["rule", "number"] 1 (spBounded CR)) (DC : Df P w K mg base "cut_down" ["rule", "numerator", "denominator"] 3 (spCut CR)) :
    Df P w K mg base "worked_on" ["rule", "kept", "many", "elder", "mark"] 4 (spWorked CR) := by
  refine F.ok scWorked (fun vs H Q E h => ?_) (fun f cdv A outer s H vs Q E hr h => ?_)
  · obtain ⟨p, r, kv, kept, n, elder, mark, rfl, _⟩ := h
    rfl
  · obtain ⟨p, r, kv, kept, n, elder, mark, rfl, hR, hk, kb, hn1, hn2, k⟩ := h
    have hu := hu_of hr
    obtain ⟨dx, d, h1, h2⟩ := id hR
    refine ⟨_, pss_cons (ps_set (i := 5) scWorked.nd rfl (Or.inl rfl) (pe_op op_add (pe_op op_sub (pv 2) (pe_callTy call_int1 (by rfl) T.int (by decide +kernel) (pa_cons (pe_cmpR op_notN (pv 3) pe_non (nomark _)) pa_nil))) (pe_callTy call_int1 (by rfl) T.int (by decide +kernel) (pa_cons (pe_cmpR op_notN (pv 4) pe_non (nomark _)) pa_nil))))
      (pss_cons (ps_if (pt_cmpR op_eq (pv 5) pe_int (nomark _)) (pss_one (ps_ret pe_non)) pss_nil)
      (pss_cons (ps_if (pt_cmpR op_eq (pe_dget hu (pe_fld (pv 0) rfl) pe_str (fun _ _ => rfl)) pe_str (nomark _)) (pss_one (ps_ret (pe_tup (pa_cons (pv 5) (pa_cons pe_int pa_nil))))) pss_nil)
      (pss_cons (ps_if (pt_cmpR op_eq (pe_dget hu (pe_fld (pv 0) rfl) pe_str (fun _ _ => rfl)) pe_str (nomark _))
        (pss_cons (ps_if (PW.pt (pw_or (pt_cmpR op_isN (pv 4) pe_non (nomark _)) (pw_or1 (PW.pt (pw_and (pt_cmpR op_notN (pv 1) pe_non (nomark _)) (pw_and1 (pt_cmpR op_ge (pe_ix ix_tup (pv 1) pe_int (fun _ _ => rfl)) (pe_op op_mul (pv 4) (pe_ix ix_tup (pv 1) pe_int (fun _ _ => rfl))) (nomark _)))))))) (pss_one (ps_ret (pv 1))) pss_nil)
        (pss_one (ps_ret (pe_tup (pa_cons (pv 4) (pa_cons pe_int pa_nil)))))) pss_nil)
      (pss_cons (ps_set (i := 6) scWorked.nd rfl (Or.inl rfl) (pe_ifExp (pt_cmpR op_isN (pv 1) pe_non (nomark _)) (pe_tup (pa_cons pe_int (pa_cons pe_int pa_nil))) (pv 1)))
      (pss_cons (ps_set (i := 7) scWorked.nd rfl (Or.inl rfl) (pe_op op_sub (pe_ifExp (pt_cmpR op_isN (pv 4) pe_non (nomark _)) pe_int (pv 4)) (pe_ifExp (pt_cmpR op_isN (pv 3) pe_non (nomark _)) pe_int (pv 3))))
      (pss_one (ps_ret (pe_df DB (hr.mono (by decide)) rfl (pa_cons (pv 0) (pa_cons (pe_df DC hr rfl (pa_cons (pv 0) (pa_cons (pe_op op_add (pe_op op_mul (pe_ix ix_tup (pv 6) pe_int (fun _ _ => rfl)) (pv 2)) (pe_op op_mul (pv 7) (pe_ix ix_tup (pv 6) pe_int (fun _ _ => rfl)))) (pa_cons (pe_op op_mul (pe_ix ix_tup (pv 6) pe_int (fun _ _ => rfl)) (pv 5)) pa_nil)))) pa_nil)))))))))), ?_⟩
    have el : ∀ x : Option Int, (if (!decide (oI x = V.non)) = true then (1 : Int) else 0) = b01 x.isSome := fun x => by rw [oI_none]; cases x <;> rfl
    -- left = ..
    refine ⟨_, rfl, _, rfl, rfl, .inr ⟨_, rfl, ?_⟩⟩
    refine ⟨_, _, rfl, rfl, _, rfl, rfl, .inr ⟨_, rfl, ?_⟩⟩
    refine ⟨_, _, rfl, rfl, ?_⟩
    rw [el, el]
    dsimp only
    have eL : n - b01 elder.isSome + b01 mark.isSome = leftOf n elder mark := rfl
    rw [eL]
    generalize hL : leftOf n elder mark = left
    have b1 : ∀ b : Bool, 0 ≤ b01 b ∧ b01 b ≤ 1 := fun b => by cases b <;> decide
    have l0 : 0 ≤ left ∧ left ≤ 3 := by
      have q1 := b1 elder.isSome
      have q2 := b1 mark.isSome
      unfold leftOf at hL
      omega
    have hn0 : 0 ≤ n := by
      have q1 := b1 elder.isSome
      omega
    unfold workedOn at k
    rw [hL] at k
    -- if left == 0
    refine ⟨_, rfl, rfl, _, rfl, ?_⟩
    by_cases c0 : left = 0
    · rw [if_pos c0] at k
      refine itT (by rw [c0]; rfl) ?_
      exact k .non H (Same.refl H) rfl
    rw [if_neg c0] at k
    refine itF (by simp [c0]) ?_
    refine ⟨_, rfl, p, CR, dx, _, _, rfl, h1, T.clR, T.nW, rfl, d, _, rfl, dg_measure h2, rfl, _, rfl, ?_⟩
    cases hm : r.meas with
    | count =>
      rw [hm] at k
      refine itT (by decide +kernel) ?_
      exact ⟨_, rfl, (by show 2 ≤ sizeLine; decide), fun q hq => k (.ref q) _ (same_upd hq) ⟨q, rfl, upd_same⟩⟩
    | best =>
      rw [hm] at k
      refine itF (by decide +kernel) ?_
      refine ⟨_, rfl, p, CR, dx, _, _, rfl, h1, T.clR, T.nW, rfl, d, _, rfl, dg_measure h2, rfl, _, rfl, ?_⟩
      rw [hm]
      refine itT (by decide +kernel) ?_
      refine ⟨_, rfl, rfl, _, rfl, ?_⟩
      rw [oI_none]
      dsimp only at k
      cases mark with
      | none =>
        refine itT rfl (itT rfl ?_)
        exact ⟨_, rfl, k kv H (Same.refl H) hk⟩
      | some m =>
        refine itF rfl ?_
        refine ⟨_, rfl, rfl, _, rfl, ?_⟩
        rw [num_none hk]
        cases kept with
        | none =>
          refine itF rfl (itF rfl ?_)
          exact ⟨_, rfl, (by show 2 ≤ sizeLine; decide), fun q hq => k (.ref q) _ (same_upd hq) ⟨q, rfl, upd_same⟩⟩
        | some kn =>
          obtain ⟨t, rfl, ht⟩ := id hk
          have kbb := kb kn.1 kn.2 rfl
          have e20 : (2 : Int) ^ 20 = 1048576 := by decide
          refine itT rfl ?_
          refine ⟨_, rfl, t, _, _, _, rfl, rfl, SqT.of ht, rfl, _, rfl, _, rfl, t, _, _, _, rfl, rfl, SqT.of ht, rfl, _, _, rfl, rfl, .inr ⟨by omega, by omega⟩, _, _, rfl, rfl, _, rfl, ?_⟩
          by_cases c : m * kn.2 ≤ kn.1
          · have kk : bestOf (some kn) (some m) = some kn := if_pos c
            rw [kk] at k
            refine itT (decide_eq_true c) ?_
            exact ⟨_, rfl, k (.ref t) H (Same.refl H) ⟨t, rfl, ht⟩⟩
          · have kk : bestOf (some kn) (some m) = some (m, 1) := if_neg c
            rw [kk] at k
            refine itF (decide_eq_false c) ?_
            exact ⟨_, rfl, (by show 2 ≤ sizeLine; decide), fun q hq => k (.ref q) _ (same_upd hq) ⟨q, rfl, upd_same⟩⟩
    | mean =>
      rw [hm] at k
      refine itF (by decide +kernel) ?_
      refine ⟨_, rfl, p, CR, dx, _, _, rfl, h1, T.clR, T.nW, rfl, d, _, rfl, dg_measure h2, rfl, _, rfl, ?_⟩
      rw [hm]
      refine itF (by decide +kernel) ?_
      dsimp only at k
      -- before
      refine ⟨_, rfl, rfl, _, rfl, ?_⟩
      rw [num_none hk]
      have e20 : (2 : Int) ^ 20 = 1048576 := by decide
      have bk : 1 ≤ (kept.getD (0, 1)).2 ∧ (kept.getD (0, 1)).2 ≤ 1048576 ∧ 0 ≤ (kept.getD (0, 1)).1 ∧ (kept.getD (0, 1)).1 ≤ 3145728 := by
        cases kept with
        | none => decide
        | some kn => have := kb kn.1 kn.2 rfl; show 1 ≤ kn.2 ∧ kn.2 ≤ 1048576 ∧ 0 ≤ kn.1 ∧ kn.1 ≤ 3145728; omega
      generalize hbf : kept.getD (0, 1) = bf at k bk
      cases kept with
      | none =>
        refine itT rfl ⟨(by show 2 ≤ sizeLine; decide), fun t ht0 => ?_⟩
        have s1 := same_upd (o := HO.tup [.int 0, .int 1]) ht0
        have ht : (upd H t (HO.tup [.int 0, .int 1])) t = some (.tup [.int bf.1, .int bf.2]) := by rw [upd_same, ← hbf]; rfl
        generalize upd H t (HO.tup [.int 0, .int 1]) = H1 at s1 ht ⊢
        -- change
        refine ⟨_, rfl, rfl, _, rfl, ?_⟩
        rw [oI_none]
        have e1 : ∀ (x : Option Int) (i : Nat) (σ : L2.St) (H' : Hp) (Q' : VK), σ[i]? = some (some (oI x)) → Q' (.int (x.getD 0)) H' → (if (!x.isSome) = true then tC (.int 0) σ H' Q' else tVar i σ H' Q') := fun x i σ H' Q' e q => by
          cases x with
          | none => exact itT rfl q
          | some z => exact itF rfl ⟨_, e, q⟩
        refine e1 mark 4 _ _ _ rfl ?_
        refine ⟨_, rfl, rfl, _, rfl, ?_⟩
        rw [oI_none]
        refine e1 elder 3 _ _ _ rfl ?_
        refine ⟨_, _, rfl, rfl, ?_⟩
        -- bounded(rule, cut_down(..))
        have hR1 := hR.mono (SameN.of s1)
        refine ⟨_, rfl, _, rfl, _, rfl, t, _, _, _, rfl, rfl, SqT.of ht, rfl, _, rfl, _, _, rfl, rfl, .inr ⟨by omega, by omega⟩, _, rfl, _, rfl, t, _, _, _, rfl, rfl, SqT.of ht, rfl, _, _, rfl, rfl, .inr ⟨by omega, by omega⟩, _, _, rfl, rfl, _, rfl, t, _, _, _, rfl, rfl, SqT.of ht, rfl, _, rfl, _, _, rfl, rfl, .inr ⟨by omega, by omega⟩, ?_⟩
        have dl : 0 < bf.2 * left ∧ bf.2 * left < 1073741824 := by
          have q0 : 0 < left := by omega
          refine ⟨Int.mul_pos (by omega) q0, ?_⟩
          have q1 : bf.2 * left ≤ 1048576 * 3 := Int.mul_le_mul bk.2.1 l0.2 l0.1 (by omega)
          omega
        refine ⟨p, r, _, _, rfl, hR1, dl.1, dl.2, fun q H2 s2 hq => ?_⟩
        refine ⟨p, q, r, (cutDown r.cut (bf.1 * n + (mark.getD 0 - elder.getD 0) * bf.2) (bf.2 * left)), rfl, hR1.mono (SameN.of s2), hq, fun v H3 s3 hv => ?_⟩
        exact k v H3 (s1.trans (s2.trans s3)) hv
      | some kn =>
        obtain ⟨t, rfl, ht⟩ := id hk
        refine itF rfl ⟨_, rfl, ?_⟩
        have s1 := Same.refl H
        have hbf : kn = bf := hbf
        rw [hbf] at ht
        -- change
        refine ⟨_, rfl, rfl, _, rfl, ?_⟩
        rw [oI_none]
        have e1 : ∀ (x : Option Int) (i : Nat) (σ : L2.St) (H' : Hp) (Q' : VK), σ[i]? = some (some (oI x)) → Q' (.int (x.getD 0)) H' → (if (!x.isSome) = true then tC (.int 0) σ H' Q' else tVar i σ H' Q') := fun x i σ H' Q' e q => by
          cases x with
          | none => exact itT rfl q
          | some z => exact itF rfl ⟨_, e, q⟩
        refine e1 mark 4 _ _ _ rfl ?_
        refine ⟨_, rfl, rfl, _, rfl, ?_⟩
        rw [oI_none]
        refine e1 elder 3 _ _ _ rfl ?_
        refine ⟨_, _, rfl, rfl, ?_⟩
        -- bounded(rule, cut_down(..))
        have hR1 := hR.mono (SameN.of s1)
        refine ⟨_, rfl, _, rfl, _, rfl, t, _, _, _, rfl, rfl, SqT.of ht, rfl, _, rfl, _, _, rfl, rfl, .inr ⟨by omega, by omega⟩, _, rfl, _, rfl, t, _, _, _, rfl, rfl, SqT.of ht, rfl, _, _, rfl, rfl, .inr ⟨by omega, by omega⟩, _, _, rfl, rfl, _, rfl, t, _, _, _, rfl, rfl, SqT.of ht, rfl, _, rfl, _, _, rfl, rfl, .inr ⟨by omega, by omega⟩, ?_⟩
        have dl : 0 < bf.2 * left ∧ bf.2 * left < 1073741824 := by
          have q0 : 0 < left := by omega
          refine ⟨Int.mul_pos (by omega) q0, ?_⟩
          have q1 : bf.2 * left ≤ 1048576 * 3 := Int.mul_le_mul bk.2.1 l0.2 l0.1 (by omega)
          omega
        refine ⟨p, r, _, _, rfl, hR1, dl.1, dl.2, fun q H2 s2 hq => ?_⟩
        refine ⟨p, q, r, (cutDown r.cut (bf.1 * n + (mark.getD 0 - elder.getD 0) * bf.2) (bf.2 * left)), rfl, hR1.mono (SameN.of s2), hq, fun v H3 s3 hv => ?_⟩
        exact k v H3 (s1.trans (s2.trans s3)) hv
end
end K14
end
section
set_option Elab.async false
set_option linter.all false
set_option maxRecDepth 100000
/-! Standings: the defs that read. -/
namespace K14
open PySem L2

/-! ### data compared -/
def nD : Option (Int × Int) → PyData
  | none => .none
  | some n => .tuple [.int n.1, .int n.2]
theorem NumAt.dp {K : PySem.W.Frag} {H : Hp} {v : V} {n : Option (Int × Int)} (h : NumAt H v n) : Dp K H v (nD n) := by
  cases n with
  | none => cases h; exact .non
  | some n => obtain ⟨a, rfl, h⟩ := h; exact .tup (SqT.of h) (.cons (.int _) (.cons (.int _) .nil))
theorem nD_shaped (n : Option (Int × Int)) : SeqAt.shaped (nD n) = true := by
  cases n with
  | none => decide +kernel
  | some n =>
    simp only [nD, SeqAt.shaped, PyData.canLay0, PyData.canLayAll0, PyData.depth, PyData.depthAll, Bool.and_true, Bool.true_and]
    decide
theorem nD_eqv (a b : Option (Int × Int)) : PyData.eqv (nD a) (nD b) = decide (a = b) := by
  cases a with
  | none => cases b with
    | none => simp [nD, PyData.eqv]
    | some b => simp [nD, PyData.eqv]
  | some a => cases b with
    | none => simp [nD, PyData.eqv]
    | some b =>
      obtain ⟨a1, a2⟩ := a
      obtain ⟨b1, b2⟩ := b
      simp [nD, PyData.eqv, PyData.eqvAll, Bool.decide_and, Prod.mk.injEq]
      by_cases h1 : a1 = b1 <;> by_cases h2 : a2 = b2 <;> simp [h1, h2]
def rwD : Rw → PyData
  | .struck => .str "struck"
  | .mk m o s => .tuple [.int m, .bool o, .bool s]
theorem RwAt.dp {K : PySem.W.Frag} {H : Hp} {v : V} {x : Rw} (h : RwAt H v x) : Dp K H v (rwD x) := by
  cases x with
  | struck => cases h; exact .str _
  | mk m o s => obtain ⟨a, rfl, h⟩ := h; exact .tup (SqT.of h) (.cons (.int _) (.cons (.bl _) (.cons (.bl _) .nil)))
theorem struck_shaped : SeqAt.shaped (.str "struck") = true := by decide +kernel
theorem rwD_shaped (x : Rw) : SeqAt.shaped (rwD x) = true := by
  cases x with
  | struck => exact struck_shaped
  | mk m o s =>
    simp only [rwD, SeqAt.shaped, PyData.canLay0, PyData.canLayAll0, PyData.depth, PyData.depthAll, Bool.and_true, Bool.true_and]
    decide
def isStr : Rw → Bool
  | .struck => true
  | _ => false
theorem rwD_eqv (x : Rw) : PyData.eqv (rwD x) (.str "struck") = isStr x := by
  cases x with
  | struck => simp only [rwD, PyData.eqv, isStr]; decide +kernel
  | mk m o s => simp [rwD, PyData.eqv, isStr]
def ftV : Option Ft → V
  | none => .non
  | some .ghost => .str "ghost"
  | some .lacking => .str "lacking"
  | some .other => .str "other"

/-! ### lists of rows -/
def cntF (x : Bool × Rw) : Option (Int × Bool × Bool) := match x.2 with
  | .struck => none
  | .mk m o s => some (m, o, s)
theorem cnt_eq : ∀ rows : Rows, rows.filterMap cntF = cnt rows
  | [] => rfl
  | (p, .struck) :: r => by
    rw [List.filterMap_cons]
    exact cnt_eq r
  | (p, .mk m o s) :: r => by
    rw [List.filterMap_cons]
    show (m, o, s) :: r.filterMap cntF = (m, o, s) :: cnt r
    rw [cnt_eq r]
theorem cnt_le : ∀ rows : Rows, (cnt rows).length ≤ rows.length
  | [] => Nat.le_refl _
  | (p, .struck) :: r => Nat.le_succ_of_le (cnt_le r)
  | (p, .mk m o s) :: r => Nat.succ_le_succ (cnt_le r)
theorem mem_cnt : ∀ {rows : Rows} {x : Int × Bool × Bool}, x ∈ cnt rows → ∃ p, (p, Rw.mk x.1 x.2.1 x.2.2) ∈ rows
  | [], _, h => nomatch h
  | (p, .struck) :: r, x, h => by
    obtain ⟨q, h⟩ := mem_cnt (rows := r) h
    exact ⟨q, List.mem_cons_of_mem _ h⟩
  | (p, .mk m o s) :: r, x, h => by
    rcases List.mem_cons.mp h with e | h
    · rw [e]; exact ⟨p, List.mem_cons_self⟩
    · obtain ⟨q, h⟩ := mem_cnt (rows := r) h
      exact ⟨q, List.mem_cons_of_mem _ h⟩
theorem SgOk.ps {S : Sg} (h : SgOk S) {l : List (Int × Bool × Bool)} (hs : l.Sublist (cnt S.rows)) : PsOk (prs l) := by
  refine ⟨?_, fun x hx => ?_⟩
  · unfold prs
    rw [List.length_map]
    exact Nat.le_trans hs.length_le (Nat.le_trans (cnt_le _) h.two)
  · obtain ⟨y, hy, rfl⟩ := List.mem_map.mp hx
    obtain ⟨p, hp⟩ := mem_cnt (hs.subset hy)
    exact h.marks p _ _ _ hp
theorem sg_look1 {d : Addr} {kv : V} : List.lookup ("rows" : Str) [(("rows" : Str), V.ref d), (("kept" : Str), kv)] = some (V.ref d) := rfl
theorem sg_look2 {d : Addr} {kv : V} : List.lookup ("kept" : Str) [(("rows" : Str), V.ref d), (("kept" : Str), kv)] = some kv := rfl

section
variable {P : Program} {w : World} {K : PySem.W.Frag} {mg : Str → Option Value} {base : Heap} {CR CS : Addr}
/-! ### fault_of -/
def spFault : Sp := fun vs H Q _ => ∃ (u v : V) (a b : Option (Int × Int)), vs = [u, v] ∧ NumAt H u a ∧ NumAt H v b ∧ Q (ftV (faultOf a b)) H
theorem scFault : FnScope ["shown", "due"] ["shown", "due"] (defScope (txt 24)) := ⟨rfl, rfl, rfl, by decide +kernel, rfl, by decide +kernel, by decide +kernel⟩
theorem df_fault (F : FunAt K mg "fault_of" (txt 24) ["shown", "due"]) : Df P w K mg base "fault_of" ["shown", "due"] 1 spFault := by
  refine F.ok scFault (fun vs H Q E h => ?_) (fun f cdv A outer s H vs Q E hr h => ?_)
  · obtain ⟨u, v, a, b, rfl, _⟩ := h
    rfl
  · obtain ⟨u, v, a, b, rfl, ha, hb, k⟩ := h
    refine ⟨_, pss_cons (ps_if (pt_cmpR (op_eqD hr.units) (pv 0) (pv 1) (nomark _)) (pss_one (ps_ret pe_non)) pss_nil)
      (pss_cons (ps_if (pt_cmpR op_isN (pv 1) pe_non (nomark _)) (pss_one (ps_ret pe_str)) pss_nil)
      (pss_one (ps_ret (pe_ifExp (pt_cmpR op_isN (pv 0) pe_non (nomark _)) pe_str pe_str)))), ?_⟩
    refine ⟨_, rfl, _, rfl, nD a, nD b, ha.dp, hb.dp, nD_shaped a, nD_shaped b, _, rfl, ?_⟩
    rw [nD_eqv]
    unfold faultOf at k
    by_cases c1 : a = b
    · rw [if_pos c1] at k
      exact itT (decide_eq_true c1) k
    rw [if_neg c1] at k
    refine itF (decide_eq_false c1) ?_
    refine ⟨_, rfl, rfl, _, rfl, ?_⟩
    rw [num_none hb]
    cases b with
    | none => exact itT rfl k
    | some b =>
      rw [if_neg (by simp)] at k
      refine itF rfl ?_
      refine ⟨_, rfl, rfl, _, rfl, ?_⟩
      rw [num_none ha]
      cases a with
      | none => exact itT rfl k
      | some a =>
        rw [if_neg (by simp)] at k
        exact itF rfl k

/-! ### counted_rows -/
def spCounted (CS : Addr) : Sp := fun vs H Q _ => ∃ (p : Addr) (S : Sg), vs = [.ref p] ∧ SgAt CS H p S ∧ S.rows.length ≤ 2 ∧ ∀ l ys H', Same H H' → H' l = some (.lst ys) → Paired (RwAt3 H') ys (cnt S.rows) → Q (.ref l) H'
theorem scCounted : FnScope ["standing", "row"] ["standing"] (defScope (txt 29)) := ⟨rfl, rfl, rfl, by decide +kernel, rfl, by decide +kernel, by decide +kernel⟩
theorem df_counted (T : Txt K w mg CR CS) (F : FunAt K mg "counted_rows" (txt 29) ["standing"]) : Df P w K mg base "counted_rows" ["standing"] 1 (spCounted CS) := by
  refine F.ok scCounted (fun vs H Q E h => ?_) (fun f cdv A outer s H vs Q E hr h => ?_)
  · obtain ⟨p, S, rfl, _⟩ := h
    rfl
  · obtain ⟨p, S, rfl, ⟨dx, d, kvs, kv, h1, h2, h3, h4⟩, hz, k⟩ := h
    obtain ⟨tS, mS⟩ := T.struck
    refine ⟨_, pss_one (ps_ret (pe_lock (pe_lc (own := [("row", 1)]) (g := gName 1) (tt := tTest (tOp (rNeD K) (tVar 1) (tC (V.str "struck")))) rfl scCounted.nd (pi_values (pe_fld (pv 0) rfl)) (blkOk_by (N := ["standing", "row"]) (sc := defScope (txt 29)) (by decide +kernel))
      (fun _ _ _ _ _ => pg_name (i := 1) scCounted.nd rfl (Or.inl rfl)) (fun _ _ _ _ _ => pts_one (pt_cmpR (op_neD hr.units) (pv 1) (pe_glob (v := V.str "struck") (by rfl) mS ⟨_, rfl⟩) (nomark _)))
      (fun _ _ _ _ _ => pv 1)))), ?_⟩
    have hlen : kvs.length = S.rows.length := Paired.length h3
    have npd : p ≠ d := ne_of h1 h2 (by intro z; cases z)
    refine ⟨d, _, h2, True.intro, fun od => ?_⟩
    have hp : (upd H d (HO.frz od (.dK kvs))) p = some (.ins CS dx [("rows", .ref d), ("kept", kv)]) := by rw [upd_ne npd]; exact h1
    have hr3 : Paired (fun (x : Key × V) (y : Bool × Rw) => RwAt (upd H d (HO.frz od (.dK kvs))) x.2 y.2) kvs S.rows := Paired.mapP h3 fun _ _ z => z.2.off h2
    refine ⟨_, rfl, p, CS, dx, _, _, rfl, hp, T.clS, T.nRows, sg_look1, d, od, kvs, rfl, upd_same, fun D1 hD1 => ?_⟩
    refine lc_fm (walk_values (d := d) (o := od) (kvs := kvs)) S.rows hlen.symm (Nat.le_trans (Nat.le_of_eq hlen) (Nat.le_trans hz (by decide))) hD1 cntF RwAt3 (fun s h => RwAt3.mono s h) (fun H' s => s _ _ upd_same) ?_ ?_
    · rintro i a H1 x H1' Yes No ha s1 ⟨rfl, kk, hx⟩ hy hn
      have hrw : RwAt H1' x a.2 := (paired_at hr3 hx ha).mono (SameN.of s1)
      refine ⟨rfl, _, rfl, rwD a.2, .str "struck", hrw.dp, .str _, rwD_shaped _, struck_shaped, _, rfl, ?_⟩
      rw [rwD_eqv]
      obtain ⟨pp, rw⟩ := a
      cases rw with
      | struck => exact hn _ (Same.refl _) rfl
      | mk m o st => exact ⟨_, rfl, hy _ _ (m, o, st) (Same.refl _) rfl hrw⟩
    · intro H1 ys s1 hy pw
      rw [cnt_eq] at pw
      have e1 : H1 d = some (HO.frz od (.dK kvs)) := s1 _ _ upd_same
      refine ⟨e1, k D1 ys _ (same_unlock h2 s1) ?_ ?_⟩
      · rw [upd_ne (fun z => by rw [z, e1] at hy; cases hy)]
        exact hy
      · refine Paired.mapP pw fun v c ⟨a, e, q⟩ => ⟨a, e, ?_⟩
        rw [upd_ne (fun z => by rw [z, e1] at q; cases q)]
        exact q
end
end K14
end
section
set_option Elab.async false
set_option linter.all false
set_option maxRecDepth 100000
/-! Standings: what is shown, what is due, marks. -/
namespace K14
open PySem L2

theorem prs_fm (l : List (Int × Bool × Bool)) : l.filterMap (fun x => some (x.1, x.2.1)) = prs l := filterMap_some _ _
theorem prs_if : ∀ l : List (Int × Bool × Bool), l.filterMap (fun x => if x.2.2 = true then none else some (x.1, x.2.1)) = prs (l.filter fun x => !x.2.2)
  | [] => rfl
  | x :: r => by
    rw [List.filterMap_cons, List.filter_cons]
    cases h : x.2.2 with
    | true => exact prs_if r
    | false =>
      show (x.1, x.2.1) :: r.filterMap _ = prs (x :: r.filter _)
      rw [prs_if r]
      rfl
/-- a row, or None -/
def ORwAt (H : Hp) (v : V) : Option Rw → Prop
  | none => v = .non
  | some x => RwAt H v x
def orD : Option Rw → PyData
  | none => .none
  | some x => rwD x
theorem ORwAt.dp {K : PySem.W.Frag} {H : Hp} {v : V} {x : Option Rw} (h : ORwAt H v x) : Dp K H v (orD x) := by
  cases x with
  | none => cases h; exact .non
  | some x => exact RwAt.dp h
theorem orD_shaped (x : Option Rw) : SeqAt.shaped (orD x) = true := by
  cases x with
  | none => decide +kernel
  | some x => exact rwD_shaped x
theorem orD_eqv (x : Option Rw) : PyData.eqv (orD x) (.str "struck") = (match x with | none => false | some x => isStr x) := by
  cases x with
  | none => simp [orD, PyData.eqv]
  | some x => exact rwD_eqv x
theorem orw_none {H : Hp} {v : V} {x : Option Rw} (h : ORwAt H v x) : decide (v = V.non) = !x.isSome := by
  cases x with
  | none => cases h; rfl
  | some x => cases x with
    | struck => cases h; rfl
    | mk m o s => obtain ⟨a, rfl, _⟩ := h; rfl
theorem pI_inj {p q : Bool} (h : (Sum.inl (pI p) : Key) = Sum.inl (pI q)) : p = q := by
  have e : pI p = pI q := Sum.inl.inj h
  cases p <;> cases q <;> first | rfl | (exact absurd e (by decide))
theorem rows_get {H : Hp} {kvs : List (Key × V)} {rows : Rows} (h : RowsAt H kvs rows) (p : Bool) : ∃ o, valV kvs (Sum.inl (pI p)) = o ∧ ORwAt H (o.getD .non) (rowAt rows p) ∧ o.isSome = (rowAt rows p).isSome := by
  refine ⟨_, rfl, ?_⟩
  induction h with
  | nil => exact ⟨rfl, rfl⟩
  | @cons x y l1 l2 r t ih =>
    obtain ⟨e, q⟩ := r
    obtain ⟨yp, yr⟩ := y
    by_cases c : yp = p
    · rw [valV_pos (show x.1 = Sum.inl (pI p) by rw [e, c])]
      unfold rowAt
      rw [if_pos c]
      exact ⟨q, rfl⟩
    · rw [valV_neg (fun z => c (pI_inj (e.symm.trans z)))]
      unfold rowAt
      rw [if_neg c]
      exact ih

section
variable {P : Program} {w : World} {K : PySem.W.Frag} {mg : Str → Option Value} {base : Heap} {CR CS : Addr}
/-! ### shown_by -/
def spShown (CR CS : Addr) : Sp := fun vs H Q _ => ∃ (p q : Addr) (r : Ru) (S : Sg), vs = [.ref p, .ref q] ∧ RuleAt CR H p r ∧ SgAt CS H q S ∧ SgOk S ∧ ∀ v H', Same H H' → NumAt H' v (shownBy r S) → Q v H'
theorem scShown : FnScope ["rule", "standing", "rows", "row"] ["rule", "standing"] (defScope (txt 30)) := ⟨rfl, rfl, rfl, by decide +kernel, rfl, by decide +kernel, by decide +kernel⟩
theorem df_shown (T : Txt K w mg CR CS) (F : FunAt K mg "shown_by" (txt 30) ["rule", "standing"]) (DC : Df P w K mg base "counted_rows" ["standing"] 1 (spCounted CS)) (DN : Df P w K mg base "number_for" ["rule", "rows"] 5 (spNumFor CR)) :
    Df P w K mg base "shown_by" ["rule", "standing"] 6 (spShown CR CS) := by
  refine F.ok scShown (fun vs H Q E h => ?_) (fun f cdv A outer s H vs Q E hr h => ?_)
  · obtain ⟨p, q, r, S, rfl, _⟩ := h
    rfl
  · obtain ⟨p, q, r, S, rfl, hR, hS, ok, k⟩ := h
    have hu := hu_of hr
    refine ⟨_, pss_cons (ps_setLc (i := 2) (own := [("row", 3)]) (g := gName 3) (tt := tYes) (te := tSl (rSlT K) (tVar 3) tNoPart (tPart (tC (V.int 2)))) rfl scShown.nd rfl rfl (sw_true rfl rfl rfl (by decide +kernel)) (pi_list (pe_df DC (hr.mono (by decide)) rfl (pa_cons (pv 1) pa_nil))) (blkOk_by (N := ["rule", "standing", "rows", "row"]) (sc := defScope (txt 30)) (by decide +kernel))
        (fun _ _ _ _ _ => pg_name (i := 3) scShown.nd rfl (Or.inl rfl)) (fun _ _ _ _ _ => pts_nil)
        (fun _ _ _ _ _ => pe_slice sl_tup (pv 3) po_none (po_some pe_int)))
      (pss_cons (ps_if (pt_cmpR op_eq (pe_dget hu (pe_fld (pv 0) rfl) pe_str (fun _ _ => rfl)) pe_str (nomark _)) (pss_one (ps_ret (pe_df DN hr rfl (pa_cons (pv 0) (pa_cons (pv 2) pa_nil))))) pss_nil)
      (pss_one (ps_ret (pe_ifExp (pt_cmpR op_ge (pe_callB call_len_seq (by rfl) T.len PySem.boot_len (pa_cons (pv 2) pa_nil)) (pe_dget hu (pe_fld (pv 0) rfl) pe_str (fun _ _ => rfl)) (nomark _)) (pe_fld (pv 1) rfl) pe_non)))), ?_⟩
    have h2 := ok.two
    refine ⟨_, rfl, q, S, rfl, hS, ok.two, fun l ys H1 s1 hl hy => ?_⟩
    have hlen : ys.length = (cnt S.rows).length := Paired.length hy
    have hcl := cnt_le S.rows
    refine ⟨l, rfl, ⟨_, SqL.of hl⟩, fun D1 hD1 => lc_fm (walk_list (K := K) (a := l) (xs := ys)) (cnt S.rows) hlen.symm (Nat.le_trans (by omega : ys.length ≤ 2) (by decide)) hD1 (fun x => some (x.1, x.2.1)) PrAt (fun s h => PrAt.mono s h) (fun H s => s.seq (SqL.of hl)) ?_ ?_⟩
    · rintro i a H2 x H2' Yes No ha s2 ⟨rfl, hx⟩ hyes hno
      obtain ⟨t, rfl, ht⟩ := paired_at hy hx ha
      have ht2 := s2 _ _ ht
      refine ⟨rfl, _, rfl, 2, rfl, t, _, rfl, SqT.of ht2, (by show ¬ (HT.sIx 3 0 none = 0 ∧ HT.sIx 3 3 (some 2) = 3); decide), fun pp hpp => ?_⟩
      exact hyes _ _ _ (same_upd hpp) rfl ⟨pp, rfl, upd_same⟩
    · intro H2 zs s2 hz pz
      rw [prs_fm] at pz
      have s12 := s1.trans s2
      have hR2 := hR.mono (SameN.of s12)
      obtain ⟨dx, d, g1, g2⟩ := id hR2
      have lz : zs.length = many S.rows := by
        rw [Paired.length pz]
        unfold prs many
        rw [List.length_map]
      refine ⟨_, rfl, p, CR, dx, _, _, rfl, g1, T.clR, T.nW, rfl, d, _, rfl, dg_keeping g2, rfl, _, rfl, ?_⟩
      unfold shownBy at k
      cases hk : r.shown with
      | false =>
        rw [hk] at k
        refine itT (by decide +kernel) ?_
        exact ⟨_, rfl, _, rfl, p, D1, r, zs, _, rfl, hR2, hz, pz, ok.ps (List.Sublist.refl _), fun v H3 s3 hv => k v H3 (s12.trans s3) hv⟩
      | true =>
        rw [hk, if_pos rfl] at k
        refine itF (by decide +kernel) ?_
        refine ⟨_, rfl, D1, _, rfl, .inl (SqL.of hz), _, rfl, p, CR, dx, _, _, rfl, g1, T.clR, T.nW, rfl, d, _, rfl, dg_least g2, _, _, rfl, rfl, _, rfl, ?_⟩
        rw [lz]
        by_cases c : r.least ≤ (many S.rows : Int)
        · rw [if_pos c] at k
          refine itT (decide_eq_true c) ?_
          obtain ⟨dx2, d2, kvs, kv, q1, q2, q3, q4⟩ := hS.mono (SameN.of s12)
          exact ⟨_, rfl, q, CS, dx2, _, _, rfl, q1, T.clS, T.nKept, sg_look2, k kv H2 s12 q4⟩
        · rw [if_neg c] at k
          exact itF (decide_eq_false c) (k .non H2 s12 rfl)

/-! ### due_by, wrong_by -/
def spDue (CR CS : Addr) : Sp := fun vs H Q _ => ∃ (p q : Addr) (r : Ru) (S : Sg), vs = [.ref p, .ref q] ∧ RuleAt CR H p r ∧ SgAt CS H q S ∧ SgOk S ∧ ∀ v H', Same H H' → NumAt H' v (dueBy r S) → Q v H'
theorem scDue : FnScope ["rule", "standing", "row"] ["rule", "standing"] (defScope (txt 31)) := ⟨rfl, rfl, rfl, by decide +kernel, rfl, by decide +kernel, by decide +kernel⟩
theorem df_due (T : Txt K w mg CR CS) (F : FunAt K mg "due_by" (txt 31) ["rule", "standing"]) (DC : Df P w K mg base "counted_rows" ["standing"] 1 (spCounted CS)) (DN : Df P w K mg base "number_for" ["rule", "rows"] 5 (spNumFor CR)) :
    Df P w K mg base "due_by" ["rule", "standing"] 6 (spDue CR CS) := by
  refine F.ok scDue (fun vs H Q E h => ?_) (fun f cdv A outer s H vs Q E hr h => ?_)
  · obtain ⟨p, q, r, S, rfl, _⟩ := h
    rfl
  · obtain ⟨p, q, r, S, rfl, hR, hS, ok, k⟩ := h
    refine ⟨_, pss_one (ps_ret (pe_df DN hr rfl (pa_cons (pv 0) (pa_cons (pe_lc (own := [("row", 2)]) (g := gName 2) (tt := tNot (tB (tOp (rIxT K) (tVar 2) (tC (V.int 2))))) (te := tSl (rSlT K) (tVar 2) tNoPart (tPart (tC (V.int 2)))) rfl scDue.nd (pi_list (pe_df DC (hr.mono (by decide)) rfl (pa_cons (pv 1) pa_nil))) (blkOk_by (N := ["rule", "standing", "row"]) (sc := defScope (txt 31)) (by decide +kernel))
        (fun _ _ _ _ _ => pg_name (i := 2) scDue.nd rfl (Or.inl rfl)) (fun _ _ _ _ _ => pts_one (pt_not (pt_val (pe_ix ix_tup (pv 2) pe_int (fun _ _ => rfl)))))
        (fun _ _ _ _ _ => pe_slice sl_tup (pv 2) po_none (po_some pe_int))) pa_nil)))), ?_⟩
    have h2 := ok.two
    refine ⟨_, rfl, _, rfl, q, S, rfl, hS, ok.two, fun l ys H1 s1 hl hy => ?_⟩
    have hlen : ys.length = (cnt S.rows).length := Paired.length hy
    have hcl := cnt_le S.rows
    refine ⟨l, rfl, ⟨_, SqL.of hl⟩, fun D1 hD1 => lc_fm (walk_list (K := K) (a := l) (xs := ys)) (cnt S.rows) hlen.symm (Nat.le_trans (by omega : ys.length ≤ 2) (by decide)) hD1 (fun x => if x.2.2 = true then none else some (x.1, x.2.1)) PrAt (fun s h => PrAt.mono s h) (fun H s => s.seq (SqL.of hl)) ?_ ?_⟩
    · rintro i a H2 x H2' Yes No ha s2 ⟨rfl, hx⟩ hyes hno
      obtain ⟨t, rfl, ht⟩ := paired_at hy hx ha
      have ht2 := s2 _ _ ht
      refine ⟨rfl, _, rfl, t, _, _, _, rfl, rfl, SqT.of ht2, rfl, _, rfl, ?_⟩
      obtain ⟨m, o, st⟩ := a
      cases st with
      | true => exact hno _ (Same.refl _) rfl
      | false =>
        refine ⟨_, rfl, 2, rfl, t, _, rfl, SqT.of ht2, (by show ¬ (HT.sIx 3 0 none = 0 ∧ HT.sIx 3 3 (some 2) = 3); decide), fun pp hpp => ?_⟩
        exact hyes _ _ _ (same_upd hpp) rfl ⟨pp, rfl, upd_same⟩
    · intro H2 zs s2 hz pz
      rw [prs_if] at pz
      have s12 := s1.trans s2
      exact ⟨p, D1, r, zs, _, rfl, hR.mono (SameN.of s12), hz, pz, ok.ps List.filter_sublist, fun v H3 s3 hv => k v H3 (s12.trans s3) hv⟩
def spWrong (CR CS : Addr) : Sp := fun vs H Q _ => ∃ (p q : Addr) (r : Ru) (S : Sg), vs = [.ref p, .ref q] ∧ RuleAt CR H p r ∧ SgAt CS H q S ∧ SgOk S ∧ ∀ H', Same H H' → Q (ftV (wrongBy r S)) H'
theorem scWrong : FnScope ["rule", "standing"] ["rule", "standing"] (defScope (txt 32)) := ⟨rfl, rfl, rfl, by decide +kernel, rfl, by decide +kernel, by decide +kernel⟩
theorem df_wrong (F : FunAt K mg "wrong_by" (txt 32) ["rule", "standing"]) (DS : Df P w K mg base "shown_by" ["rule", "standing"] 6 (spShown CR CS)) (DD : Df P w K mg base "due_by" ["rule", "standing"] 6 (spDue CR CS)) (DF : Df P w K mg base "fault_of" ["shown", "due"] 1 spFault) :
    Df P w K mg base "wrong_by" ["rule", "standing"] 7 (spWrong CR CS) := by
  refine F.ok scWrong (fun vs H Q E h => ?_) (fun f cdv A outer s H vs Q E hr h => ?_)
  · obtain ⟨p, q, r, S, rfl, _⟩ := h
    rfl
  · obtain ⟨p, q, r, S, rfl, hR, hS, ok, k⟩ := h
    refine ⟨_, pss_one (ps_ret (pe_df DF (hr.mono (by decide)) rfl (pa_cons (pe_df DS hr rfl (pa_cons (pv 0) (pa_cons (pv 1) pa_nil))) (pa_cons (pe_df DD hr rfl (pa_cons (pv 0) (pa_cons (pv 1) pa_nil))) pa_nil)))), ?_⟩
    refine ⟨_, rfl, _, rfl, p, q, r, S, rfl, hR, hS, ok, fun v H1 s1 hv => ?_⟩
    refine ⟨_, rfl, _, rfl, p, q, r, S, rfl, hR.mono (SameN.of s1), hS.mono (SameN.of s1), ok, fun u H2 s2 hu => ?_⟩
    exact ⟨v, u, _, _, rfl, hv.mono (SameN.of s2), hu, k H2 (s1.trans s2)⟩

/-! ### kept_by -/
def spKept (CR CS : Addr) : Sp := fun vs H Q _ => ∃ (p q : Addr) (r : Ru) (S : Sg) (elder mark : Option Int), vs = [.ref p, .ref q, oI elder, oI mark] ∧ RuleAt CR H p r ∧ SgAt CS H q S ∧ SgOk S ∧ b01 elder.isSome ≤ (many S.rows : Int) ∧
  ∀ v H', Same H H' → NumAt H' v (keptBy r S elder mark) → Q v H'
theorem scKept : FnScope ["rule", "standing", "elder", "mark"] ["rule", "standing", "elder", "mark"] (defScope (txt 33)) := ⟨rfl, rfl, rfl, by decide +kernel, rfl, by decide +kernel, by decide +kernel⟩
theorem df_kept (T : Txt K w mg CR CS) (F : FunAt K mg "kept_by" (txt 33) ["rule", "standing", "elder", "mark"]) (DC : Df P w K mg base "counted_rows" ["standing"] 1 (spCounted CS)) (DW : Df P w K mg base "worked_on" ["rule", "kept", "many", "elder", "mark"] 4 (spWorked CR)) :
    Df P w K mg base "kept_by" ["rule", "standing", "elder", "mark"] 5 (spKept CR CS) := by
  refine F.ok scKept (fun vs H Q E h => ?_) (fun f cdv A outer s H vs Q E hr h => ?_)
  · obtain ⟨p, q, r, S, elder, mark, rfl, _⟩ := h
    rfl
  · obtain ⟨p, q, r, S, elder, mark, rfl, hR, hS, ok, he, k⟩ := h
    have hu := hu_of hr
    obtain ⟨dx, d, g1, g2⟩ := id hR
    obtain ⟨dx2, d2, kvs, kv, q1, q2, q3, q4⟩ := id hS
    refine ⟨_, pss_cons (ps_if (pt_cmpR op_eq (pe_dget hu (pe_fld (pv 0) rfl) pe_str (fun _ _ => rfl)) pe_str (nomark _)) (pss_one (ps_ret pe_non)) pss_nil)
      (pss_one (ps_ret (pe_df DW hr rfl (pa_cons (pv 0) (pa_cons (pe_fld (pv 1) rfl) (pa_cons (pe_callB call_len_seq (by rfl) T.len PySem.boot_len (pa_cons (pe_df DC (hr.mono (by decide)) rfl (pa_cons (pv 1) pa_nil)) pa_nil)) (pa_cons (pv 2) (pa_cons (pv 3) pa_nil)))))))), ?_⟩
    refine ⟨_, rfl, p, CR, dx, _, _, rfl, g1, T.clR, T.nW, rfl, d, _, rfl, dg_keeping g2, rfl, _, rfl, ?_⟩
    unfold keptBy at k
    cases hk : r.shown with
    | false =>
      rw [hk] at k
      exact itT (by decide +kernel) (k .non H (Same.refl H) rfl)
    | true =>
      rw [hk, if_pos rfl] at k
      refine itF (by decide +kernel) ?_
      refine ⟨_, rfl, _, rfl, q, CS, dx2, _, _, rfl, q1, T.clS, T.nKept, sg_look2, _, rfl, q, S, rfl, hS, ok.two, fun l ys H1 s1 hl hy => ?_⟩
      have hlen : ys.length = many S.rows := Paired.length hy
      have hcl := cnt_le S.rows
      have h2 := ok.two
      have hm : many S.rows = (cnt S.rows).length := rfl
      refine ⟨l, _, rfl, .inl (SqL.of hl), _, rfl, _, rfl, p, r, kv, S.kept, _, elder, mark, rfl, hR.mono (SameN.of s1), q4.mono (SameN.of s1), ok.kept, by rw [hlen]; exact he, by omega, fun v H2 s2 hv => ?_⟩
      rw [hlen] at hv
      exact k v H2 (s1.trans s2) hv

/-! ### is_struck, mark_of -/
def spIsStruck (CS : Addr) : Sp := fun vs H Q _ => ∃ (p : Addr) (b : Bool) (S : Sg), vs = [.ref p, .int (pI b)] ∧ SgAt CS H p S ∧ Q (.bl (struckAt S.rows b)) H
theorem scIsStruck : FnScope ["standing", "person", "row"] ["standing", "person"] (defScope (txt 34)) := ⟨rfl, rfl, rfl, by decide +kernel, rfl, by decide +kernel, by decide +kernel⟩
theorem df_isstruck (T : Txt K w mg CR CS) (F : FunAt K mg "is_struck" (txt 34) ["standing", "person"]) : Df P w K mg base "is_struck" ["standing", "person"] 1 (spIsStruck CS) := by
  refine F.ok scIsStruck (fun vs H Q E h => ?_) (fun f cdv A outer s H vs Q E hr h => ?_)
  · obtain ⟨p, b, S, rfl, _⟩ := h
    rfl
  · obtain ⟨p, b, S, rfl, hS, k⟩ := h
    have hu := hu_of hr
    obtain ⟨tS, mS⟩ := T.struck
    obtain ⟨dx, d, kvs, kv, q1, q2, q3, q4⟩ := id hS
    refine ⟨_, pss_cons (ps_set (i := 2) scIsStruck.nd rfl (Or.inl rfl) (pe_dget2 hu (pe_fld (pv 0) rfl) (pv 1) pe_non ⟨rfl, rfl, rfl, rfl⟩))
      (pss_one (ps_ret (pe_or (pe_cmpR (op_eqD hr.units) (pv 2) (pe_glob (v := V.str "struck") (by rfl) mS ⟨_, rfl⟩) (nomark _)) (pe_one (pe_and (pe_cmpR op_notN (pv 2) pe_non (nomark _)) (pe_one (pe_ix ix_tup (pv 2) pe_int (fun _ _ => rfl)))))))), ?_⟩
    obtain ⟨o, e, rw, _⟩ := rows_get q3 b
    refine ⟨_, rfl, p, CS, dx, _, _, rfl, q1, T.clS, T.nRows, sg_look1, d, rfl, .inl ⟨_, .inl q2⟩, _, rfl, o, by rw [← e]; exact DGet.k (k := Sum.inl (pI b)) q2, ?_⟩
    generalize o.getD V.non = v at rw
    refine ⟨_, rfl, orD (rowAt S.rows b), .str "struck", rw.dp, .str _, orD_shaped _, struck_shaped, _, rfl, ?_⟩
    rw [orD_eqv]
    unfold struckAt at k
    cases hrow : rowAt S.rows b with
    | none =>
      rw [hrow] at k rw
      cases rw
      exact itF rfl ⟨_, rfl, rfl, _, rfl, itF rfl k⟩
    | some x =>
      rw [hrow] at k rw
      cases x with
      | struck =>
        exact itT rfl k
      | mk m o' st =>
        obtain ⟨t, rfl, ht⟩ := rw
        refine itF rfl ⟨_, rfl, rfl, _, rfl, itT rfl ⟨_, rfl, t, _, _, _, rfl, rfl, SqT.of ht, rfl, k⟩⟩
def spMarkOf (CS : Addr) : Sp := fun vs H Q _ => ∃ (p : Addr) (b : Bool) (S : Sg), vs = [.ref p, .int (pI b)] ∧ SgAt CS H p S ∧ Q (oI (markAt S.rows b)) H
theorem scMarkOf : FnScope ["standing", "person", "row"] ["standing", "person"] (defScope (txt 35)) := ⟨rfl, rfl, rfl, by decide +kernel, rfl, by decide +kernel, by decide +kernel⟩
theorem df_markof (T : Txt K w mg CR CS) (F : FunAt K mg "mark_of" (txt 35) ["standing", "person"]) : Df P w K mg base "mark_of" ["standing", "person"] 1 (spMarkOf CS) := by
  refine F.ok scMarkOf (fun vs H Q E h => ?_) (fun f cdv A outer s H vs Q E hr h => ?_)
  · obtain ⟨p, b, S, rfl, _⟩ := h
    rfl
  · obtain ⟨p, b, S, rfl, hS, k⟩ := h
    have hu := hu_of hr
    obtain ⟨tS, mS⟩ := T.struck
    obtain ⟨dx, d, kvs, kv, q1, q2, q3, q4⟩ := id hS
    refine ⟨_, pss_cons (ps_set (i := 2) scMarkOf.nd rfl (Or.inl rfl) (pe_dget2 hu (pe_fld (pv 0) rfl) (pv 1) pe_non ⟨rfl, rfl, rfl, rfl⟩))
      (pss_one (ps_ret (pe_ifExp (PW.pt (pw_or (pt_cmpR op_isN (pv 2) pe_non (nomark _)) (pw_or (pt_cmpR (op_eqD hr.units) (pv 2) (pe_glob (v := V.str "struck") (by rfl) mS ⟨_, rfl⟩) (nomark _)) (pw_or1 (pt_val (pe_ix ix_tup (pv 2) pe_int (fun _ _ => rfl))))))) pe_non (pe_ix ix_tup (pv 2) pe_int (fun _ _ => rfl))))), ?_⟩
    obtain ⟨o, e, rw, _⟩ := rows_get q3 b
    refine ⟨_, rfl, p, CS, dx, _, _, rfl, q1, T.clS, T.nRows, sg_look1, d, rfl, .inl ⟨_, .inl q2⟩, _, rfl, o, by rw [← e]; exact DGet.k (k := Sum.inl (pI b)) q2, ?_⟩
    generalize o.getD V.non = v at rw
    refine ⟨_, rfl, rfl, _, rfl, ?_⟩
    unfold markAt at k
    cases hrow : rowAt S.rows b with
    | none =>
      rw [hrow] at k rw
      cases rw
      exact itT rfl (itT rfl k)
    | some x =>
      rw [hrow] at k rw
      have e1 : decide (v = V.non) = false := orw_none (x := some x) rw
      refine itF e1 ?_
      refine ⟨_, rfl, rwD x, .str "struck", rw.dp, .str _, rwD_shaped _, struck_shaped, _, rfl, ?_⟩
      rw [rwD_eqv]
      cases x with
      | struck => exact itT rfl (itT rfl k)
      | mk m o' st =>
        obtain ⟨t, rfl, ht⟩ := rw
        refine itF rfl ⟨_, rfl, t, _, _, _, rfl, rfl, SqT.of ht, rfl, _, rfl, ?_⟩
        cases st with
        | true => exact itT rfl k
        | false => exact itF rfl ⟨_, rfl, t, _, _, _, rfl, rfl, SqT.of ht, rfl, k⟩
end
end K14
end
section
set_option Elab.async false
set_option linter.all false
set_option maxRecDepth 100000
set_option maxHeartbeats 1000000
/-! Dicts whose keys are nested tuples, or None: their object as it stands, and what its entries are. -/
namespace K14
open PySem PySem.Spec PyProof.Rows L2

mutual
/-- the value v is such a key; its tuples are tracked -/
inductive NIs (H : Hp) : NestedKey → V → Prop
  | none : NIs H .none .non
  | bl (b : Bool) : NIs H (.num (if b = true then 1 else 0)) (.bl b)
  | int (i : Int) : NIs H (.num i) (.int i)
  | text (x : Str) : NIs H (.text x) (.str x)
  | tup {a : Addr} {xs : List V} {ks : List NestedKey} : H a = some (.tup xs) → NAll H ks xs → NIs H (.tup ks) (.ref a)
inductive NAll (H : Hp) : List NestedKey → List V → Prop
  | nil : NAll H [] []
  | cons {k : NestedKey} {v : V} {ks : List NestedKey} {vs : List V} : NIs H k v → NAll H ks vs → NAll H (k :: ks) (v :: vs)
end
mutual
theorem NIs.keep {H H' : Hp} (s : ∀ a xs, H a = some (.tup xs) → H' a = some (.tup xs)) : ∀ (k : NestedKey) (v : V), NIs H k v → NIs H' k v
  | .none, _, h => by cases h; exact .none
  | .num i, _, h => by
    cases h with
    | bl b => exact .bl b
    | int _ => exact .int i
  | .text x, _, h => by cases h; exact .text x
  | .tup ks, _, h => by
    cases h with
    | tup h1 h2 => exact .tup (s _ _ h1) (NAll.keep s ks _ h2)
theorem NAll.keep {H H' : Hp} (s : ∀ a xs, H a = some (.tup xs) → H' a = some (.tup xs)) : ∀ (ks : List NestedKey) (vs : List V), NAll H ks vs → NAll H' ks vs
  | [], _, h => by cases h; exact .nil
  | k :: ks, _, h => by
    cases h with
    | cons h1 h2 => exact .cons (NIs.keep s k _ h1) (NAll.keep s ks _ h2)
end
theorem NIs.mono {H H' : Hp} (s : SameN H H') {k : NestedKey} {v : V} (h : NIs H k v) : NIs H' k v := NIs.keep (fun a xs e => s a _ e fun _ z => nomatch z) k v h
mutual
theorem NIs.real {P : Program} {w : World} {H : Hp} {h : Heap} (ok : HOk P w H h) : ∀ (k : NestedKey) (v : V) (u : Value), NIs H k v → RelV v u → NestedIs h k u
  | .none, _, u, q, r => by cases q; cases (show u = Value.none from r); exact .none
  | .num i, _, u, q, r => by
    cases q with
    | bl b => cases (show u = Value.bool b from r); exact .bool rfl
    | int _ => obtain ⟨t, rfl⟩ := (show ∃ t, u = Value.int i t from r); exact .int i t
  | .text x, _, u, q, r => by cases q; obtain ⟨t, rfl⟩ := (show ∃ t, u = Value.str x t from r); exact .text x t
  | .tup ks, _, u, q, r => by
    cases q with
    | @tup a xs _ h1 h2 =>
      cases (show u = Value.ref a from r)
      obtain ⟨_, its, rr, o, e1, e2, n, e3⟩ := (show ObjOk P w H h a (.tup xs) from ok a _ h1)
      exact .tup e1 e2 e3 (by simpa using NAll.real ok ks xs its h2 rr)
theorem NAll.real {P : Program} {w : World} {H : Hp} {h : Heap} (ok : HOk P w H h) : ∀ (ks : List NestedKey) (vs : List V) (us : List Value), NAll H ks vs → Vals vs us → NestedAll h ks us
  | [], _, _, q, r => by cases q; cases r; exact .nil
  | k :: ks, _, _, q, r => by
    cases q with
    | cons q1 q2 =>
      cases r with
      | cons r1 r2 => exact .cons (NIs.real ok k _ _ q1 r1) (NAll.real ok ks _ _ q2 r2)
end

/-- a dict's object as it stands -/
def RawO (d : Addr) (es : Array DictEntry) (ep : Nat) : HO := .ext fun h => h.DictRaw d es ep ∧ (d == sysModules) = false ∧ es.size ≤ sizeLine
theorem raw_ok {P : Program} {w : World} {H : Hp} {h : Heap} {d : Addr} {es : Array DictEntry} {ep : Nat} (r : h.DictRaw d es ep) (hs : (d == sysModules) = false) (hz : es.size ≤ sizeLine) : ObjOk P w H h d (RawO d es ep) := by
  obtain ⟨o, ho, hc, hd⟩ := id r
  exact ⟨⟨r, hs, hz⟩, ⟨o, ho⟩, fun h1 h2 ⟨⟨o1, e1, c1, d1⟩, z1, z2⟩ k => ⟨⟨o1, k _ e1, c1, d1⟩, z1, z2⟩⟩
theorem raw_of {P : Program} {w : World} {H : Hp} {h : Heap} {d : Addr} {es : Array DictEntry} {ep : Nat} (ok : HOk P w H h) (e : H d = some (RawO d es ep)) : h.DictRaw d es ep ∧ (d == sysModules) = false ∧ es.size ≤ sizeLine :=
  (show ObjOk P w H h d (RawO d es ep) from ok d _ e).1
theorem raw_empty {P : Program} {w : World} (H : Hp) (h : Heap) (hb : sysModules < h.objs.size) : ObjOk P w H (h.push { cls := .type "dict", data := .dict #[] }) h.objs.size (RawO h.objs.size #[] 0) :=
  raw_ok ⟨_, Heap.get?_push_size _ rfl, ⟨rfl, rfl, rfl⟩, rfl⟩ (beq_eq_false_iff_ne.mpr (Ne.symm (Nat.ne_of_lt hb))) (Nat.zero_le _)

/-! ### keys that are tuples -/
/-- where the keys stand -/
abbrev NT (H : Hp) (kvs : List (NestedKey × V)) (xs : List (NestedKey × Addr × Value)) : Prop :=
  Paired (fun (p : NestedKey × V) (q : NestedKey × Addr × Value) => p.1 = q.1 ∧ NIs H p.1 (.ref q.2.1) ∧ p.1.depth ≤ 8 ∧ RelV p.2 q.2.2) kvs xs
def NDk (P : Program) (w : World) (H : Hp) (d : Addr) (kvs : List (NestedKey × V)) : Prop :=
  ∃ es ep xs, H d = some (RawO d es ep) ∧ es.toList = xs.map (entryOfKey (nestedKind P w)) ∧ NT H kvs xs ∧ (xs.map (·.1)).Nodup
theorem NDk.mono {P : Program} {w : World} {H H' : Hp} {d : Addr} {kvs : List (NestedKey × V)} (s : SameN H H') (h : NDk P w H d kvs) : NDk P w H' d kvs := by
  obtain ⟨es, ep, xs, h1, h2, h3, h4⟩ := h
  exact ⟨es, ep, xs, s _ _ h1 (fun _ z => nomatch z), h2, Paired.mapP h3 fun _ _ z => ⟨z.1, z.2.1.mono s, z.2.2⟩, h4⟩
theorem NDk.nodup {P : Program} {w : World} {H : Hp} {d : Addr} {kvs : List (NestedKey × V)} (h : NDk P w H d kvs) : (kvs.map (·.1)).Nodup := by
  obtain ⟨es, ep, xs, h1, h2, h3, h4⟩ := h
  have e : kvs.map (·.1) = xs.map (·.1) := by
    clear h1 h2 h4
    induction h3 with
    | nil => rfl
    | cons r _ ih => rw [List.map_cons, List.map_cons, ih, r.1]
  rw [e]; exact h4
def valN (kvs : List (NestedKey × V)) (k : NestedKey) : Option V := (kvs.find? fun kv => decide (kv.1 = k)).map (·.2)
def putN (kvs : List (NestedKey × V)) (k : NestedKey) (v : V) : List (NestedKey × V) := if (valN kvs k).isSome then kvs.map (fun kv => if kv.1 = k then (kv.1, v) else kv) else kvs ++ [(k, v)]
theorem putN_len (kvs : List (NestedKey × V)) (k : NestedKey) (v : V) : (putN kvs k v).length ≤ kvs.length + 1 := by
  unfold putN
  split
  · rw [List.length_map]; omega
  · rw [List.length_append, List.length_singleton]; omega
section
variable {H : Hp}
theorem NT.val {kvs : List (NestedKey × V)} {xs : List (NestedKey × Addr × Value)} (r : NT H kvs xs) (k : NestedKey) : RelO (valN kvs k) ((atKey xs k).map (·.2)) := by
  unfold NT at r
  induction r with
  | nil => exact True.intro
  | @cons p q ps qs h t ih =>
    obtain ⟨h1, _, _, h2⟩ := h
    by_cases e : p.1 = k
    · have e' : q.1 = k := h1.symm.trans e
      have a : valN (p :: ps) k = some p.2 := by simp [valN, List.find?_cons, e]
      have b : atKey (q :: qs) k = some q.2 := by simp [atKey, List.find?_cons, e']
      rw [a, b]; exact h2
    · have e' : ¬ q.1 = k := fun z => e (h1.trans z)
      have a : valN (p :: ps) k = valN ps k := by simp [valN, List.find?_cons, e]
      have b : atKey (q :: qs) k = atKey qs k := by simp [atKey, List.find?_cons, e']
      rw [a, b]; exact ih
theorem NT.put {kvs : List (NestedKey × V)} {xs : List (NestedKey × Addr × Value)} (r : NT H kvs xs) {k : NestedKey} {b : Addr} {y : V} {u : Value} (hb : NIs H k (.ref b)) (hd : k.depth ≤ 8) (ry : RelV y u) : NT H (putN kvs k y) (storedH xs k b u) := by
  have e : (valN kvs k).isSome = (atKey xs k).isSome := by rw [(r.val k).isSome_eq, Option.isSome_map]
  unfold putN storedH
  rw [e]
  by_cases q : (atKey xs k).isSome = true
  · rw [if_pos q, if_pos q]
    clear e q
    unfold NT at r
    induction r with
    | nil => exact .nil
    | @cons p q ps qs h t ih =>
      rw [List.map_cons, List.map_cons]
      refine .cons ?_ ih
      obtain ⟨h1, h2, h3, h4⟩ := h
      unfold putAt
      by_cases e : p.1 = k
      · rw [if_pos e, if_pos (h1.symm.trans e)]; exact ⟨h1, h2, h3, ry⟩
      · rw [if_neg e, if_neg (fun z => e (h1.trans z))]; exact ⟨h1, h2, h3, h4⟩
  · rw [if_neg q, if_neg q]; exact Paired.snoc r ⟨rfl, hb, hd, ry⟩
theorem NDk.real {P : Program} {w : World} {h : Heap} {d : Addr} {kvs : List (NestedKey × V)} (ok : HOk P w H h) (n : NDk P w H d kvs) : ∃ xs, NT H kvs xs ∧ h.DictOfH (nestedKind P w) d xs ∧ (d == sysModules) = false ∧ xs.length ≤ sizeLine := by
  obtain ⟨es, ep, xs, h1, h2, h3, h4⟩ := n
  obtain ⟨⟨o, ho, hc, hd⟩, hs, hz⟩ := raw_of ok h1
  have all : ∀ {l : List (NestedKey × V)} {m : List (NestedKey × Addr × Value)}, NT H l m → ∀ x ∈ m, (nestedKind P w).is h x.1 x.2.1 := by
    intro l m q
    induction q with
    | nil => intro x hx; exact nomatch hx
    | @cons p q ps qs hq t ih =>
      intro x hx
      rcases List.mem_cons.mp hx with e | hx
      · subst e
        obtain ⟨z1, z2, z3, _⟩ := hq
        rw [← z1]
        exact ⟨NIs.real ok _ _ _ z2 rfl, z3⟩
      · exact ih x hx
  refine ⟨xs, h3, ⟨o, es, ep, ho, hc, hd, h2, all h3, h4⟩, hs, ?_⟩
  have : es.toList.length = xs.length := by rw [h2, List.length_map]
  simp at this
  omega
end
theorem nested_stay {P : Program} {w : World} {H : Hp} {h' : Heap} {d : Addr} {kvs : List (NestedKey × V)} {xs : List (NestedKey × Addr × Value)} (hs : (d == sysModules) = false) (hz : xs.length ≤ sizeLine) (dd : h'.DictOfH (nestedKind P w) d xs) :
    ∃ es ep, ObjOk P w (upd H d (RawO d es ep)) h' d (RawO d es ep) ∧ es.toList = xs.map (entryOfKey (nestedKind P w)) ∧ (xs.map (·.1)).Nodup := by
  obtain ⟨o, es, ep, ho, hc, hd, he, _, hn⟩ := dd
  refine ⟨es, ep, raw_ok ⟨o, ho, hc, hd⟩ hs ?_, he, hn⟩
  have : es.toList.length = xs.length := by rw [he, List.length_map]
  simp at this
  omega
/-- d[y] = z -/
def putNd (P : Program) (w : World) (H : Hp) (D : Addr) (y z : V) (K : Hp → Prop) : Prop :=
  ∃ kvs k b, NDk P w H D kvs ∧ y = .ref b ∧ NIs H k y ∧ k.depth ≤ 8 ∧ kvs.length < sizeLine ∧ ∀ H', (∀ b, b ≠ D → H' b = H b) → NDk P w H' D (putN kvs k z) → K H'
section
variable {X : Cx} {pins : List (Addr × Obj)} {σ : L2.St} {H : Hp} {s : Shared} {A : Around} {E : Value → Shared → Prop} {D : Addr} {y z : V} {u r : Value}
theorem nd_after {kvs : List (NestedKey × V)} {k : NestedKey} {b : Addr} {K : Hp → Prop} {h' : Heap} {t' : Nat} {xs : List (NestedKey × Addr × Value)} (I : Inv X pins σ H s) (n : NDk X.prog X.w H D kvs) (hk : NIs H k (.ref b)) (hd : k.depth ≤ 8) (hl : kvs.length < sizeLine) (rel : NT H kvs xs) (rz : RelV z r)
    (dd : h'.DictOfH (nestedKind X.prog X.w) D (storedH xs k b r)) (hs : Heap.SameBut D s.heap h') (hK : ∀ H', (∀ b, b ≠ D → H' b = H b) → NDk X.prog X.w H' D (putN kvs k z) → K H') : ∃ H', Inv X pins σ H' { s with heap := h', toks := t' } ∧ K H' := by
  obtain ⟨es0, ep0, xs0, e0, _⟩ := id n
  have hsys := (raw_of I.hok e0).2.1
  have rel2 := rel.put hk hd rz
  have hz : (storedH xs k b r).length ≤ sizeLine := by
    rw [← Paired.length rel2]
    have := putN_len kvs k z
    omega
  obtain ⟨es, ep, new, he, hn⟩ := nested_stay (H := H) (kvs := kvs) hsys hz dd
  have hob : ∃ q, h'.get? D = some q := let ⟨q, _, _, hq, _⟩ := dd; ⟨q, hq⟩
  refine ⟨_, d_write I (by rw [e0]; exact True.intro) hs hob new, hK _ (fun b hb => upd_ne hb) ⟨es, ep, _, upd_same, he, ?_, hn⟩⟩
  refine Paired.mapP rel2 fun p q z => ⟨z.1, NIs.keep (fun a ys e => ?_) _ _ z.2.1, z.2.2⟩
  rw [upd_ne (fun q => by rw [q, e0] at e; cases e)]
  exact e
theorem nd_room {k : Nat} (hr : Room k X.A) : (nestedKind X.prog X.w).room X.A.in1 := by
  have := hr.un
  show X.A.units + 1 + 8 < cLine
  omega
theorem nd_setItem {K : Hp → Prop} {Q : Unit → Shared → Prop} (hu : (nestedKind X.prog X.w).room A.in1) (I : Inv X pins σ H s) (g : putNd X.prog X.w H D y z K) (ry : RelV y u) (rz : RelV z r) (h : ∀ H' s', Inv X pins σ H' s' → K H' → Q () s') :
    wpAny (model X.prog X.w) A (setItem (.ref D) u r) Q E s := by
  obtain ⟨kvs, k, b, n, rfl, hk, hd, hl, hK⟩ := g
  cases (show u = Value.ref b from ry)
  obtain ⟨xs, rel, dd, hs, hz⟩ := n.real I.hok
  refine wpAny_setItem_heap (hsz := hz) hu ⟨NIs.real I.hok _ _ _ hk rfl, hd⟩ dd fun h' dd' sb => ?_
  obtain ⟨H', I', k'⟩ := nd_after I n hk hd hl rel rz dd' sb hK
  exact h H' _ I' k'
theorem nd_dictSet {K : Hp → Prop} {Q : Unit → Shared → Prop} (hu : (nestedKind X.prog X.w).room A) (I : Inv X pins σ H s) (g : putNd X.prog X.w H D y z K) (ry : RelV y u) (rz : RelV z r) (h : ∀ H' s', Inv X pins σ H' s' → K H' → Q () s') :
    wpAny (model X.prog X.w) A (dictSet D u r) Q E s := by
  obtain ⟨kvs, k, b, n, rfl, hk, hd, hl, hK⟩ := g
  cases (show u = Value.ref b from ry)
  obtain ⟨xs, rel, dd, hs, hz⟩ := n.real I.hok
  refine wpAny_dictSet_heap (hsz := hz) hu ⟨NIs.real I.hok _ _ _ hk rfl, hd⟩ dd fun h' dd' sb => ?_
  obtain ⟨H', I', k'⟩ := nd_after I n hk hd hl rel rz dd' sb hK
  exact h H' _ I' k'
end
end K14
end
section
set_option Elab.async false
set_option linter.all false
set_option maxRecDepth 100000
set_option maxHeartbeats 1000000
/-! Such dicts: the rules. -/
namespace K14
open PySem PySem.Spec PyProof.Rows L2

/-! ### keys None, ints, texts; each value True -/
def lV : Leaf → V
  | .none => .non
  | .num i => .int i
  | .text x => .str x
theorem lV_is {P : Program} {w : World} {k : Leaf} {u : Value} (r : RelV (lV k) u) : (leafKind P w).is k u = true := by
  cases k with
  | none => cases (show u = Value.none from r); rfl
  | num i => obtain ⟨t, rfl⟩ := (show ∃ t, u = Value.int i t from r); exact decide_eq_true rfl
  | text x => obtain ⟨t, rfl⟩ := (show ∃ t, u = Value.str x t from r); show (x == x) = true; simp
def tr (ks : List Leaf) : List (Leaf × Value) := ks.map fun k => (k, .bool true)
def addL (ks : List Leaf) (k : Leaf) : List Leaf := if k ∈ ks then ks else ks ++ [k]
theorem addL_len (ks : List Leaf) (k : Leaf) : (addL ks k).length ≤ ks.length + 1 := by
  unfold addL; split <;> simp
theorem tr_stored (ks : List Leaf) (k : Leaf) : stored (tr ks) k (.bool true) = tr (addL ks k) := by
  unfold stored tr addL
  have e : ((ks.map fun k => (k, Value.bool true)).any fun kv => decide (kv.1 = k)) = decide (k ∈ ks) := by
    rw [List.any_map]
    by_cases h : k ∈ ks
    · rw [decide_eq_true h, List.any_eq_true]
      exact ⟨k, h, by simp⟩
    · rw [decide_eq_false h, List.any_eq_false]
      intro x hx
      simp only [Function.comp_apply, decide_eq_true_eq]
      exact fun z => h (z ▸ hx)
  rw [e]
  by_cases h : k ∈ ks
  · rw [if_pos (decide_eq_true h), if_pos h, List.map_map]
    refine List.map_congr_left fun x _ => ?_
    by_cases c : x = k <;> simp [c]
  · rw [if_neg (by simp [h]), if_neg h, List.map_append, List.map_cons, List.map_nil]
def LDk (P : Program) (w : World) (H : Hp) (d : Addr) (ks : List Leaf) : Prop :=
  ∃ es ep, H d = some (RawO d es ep) ∧ KeysOf (leafKind P w) es ∧ Pairs (leafKind P w) es.toList (tr ks) ∧ ks.Nodup
theorem LDk.mono {P : Program} {w : World} {H H' : Hp} {d : Addr} {ks : List Leaf} (s : SameN H H') (h : LDk P w H d ks) : LDk P w H' d ks := by
  obtain ⟨es, ep, h1, h2⟩ := h
  exact ⟨es, ep, s _ _ h1 (fun _ z => nomatch z), h2⟩
theorem tr_keys (ks : List Leaf) : (tr ks).map (·.1) = ks := by unfold tr; rw [List.map_map]; exact List.map_id' ks
theorem LDk.real {P : Program} {w : World} {H : Hp} {h : Heap} {d : Addr} {ks : List Leaf} (ok : HOk P w H h) (n : LDk P w H d ks) : h.DictOf (leafKind P w) d (tr ks) ∧ (d == sysModules) = false ∧ ks.length ≤ sizeLine := by
  obtain ⟨es, ep, h1, h2, h3, h4⟩ := n
  obtain ⟨⟨o, ho, hc, hd⟩, hs, hz⟩ := raw_of ok h1
  refine ⟨⟨o, es, ep, ho, hc, hd, h2, h3, by rw [tr_keys]; exact h4⟩, hs, ?_⟩
  have := h3.length
  unfold tr at this
  rw [List.length_map] at this
  simp at this
  omega
def putLd (P : Program) (w : World) (H : Hp) (D : Addr) (y z : V) (K : Hp → Prop) : Prop :=
  ∃ ks k, LDk P w H D ks ∧ y = lV k ∧ z = .bl true ∧ ks.length < sizeLine ∧ ∀ H', (∀ b, b ≠ D → H' b = H b) → LDk P w H' D (addL ks k) → K H'
section
variable {X : Cx} {pins : List (Addr × Obj)} {σ : L2.St} {H : Hp} {s : Shared} {A : Around} {E : Value → Shared → Prop} {D : Addr} {y z : V} {u r : Value}
theorem ld_dictSet {K : Hp → Prop} {Q : Unit → Shared → Prop} (I : Inv X pins σ H s) (g : putLd X.prog X.w H D y z K) (ry : RelV y u) (rz : RelV z r) (h : ∀ H' s', Inv X pins σ H' s' → K H' → Q () s') :
    wpAny (model X.prog X.w) A (dictSet D u r) Q E s := by
  obtain ⟨ks, k, n, rfl, rfl, hl, hK⟩ := g
  cases (show r = Value.bool true from rz)
  obtain ⟨dd, hs, hz⟩ := n.real I.hok
  obtain ⟨es0, ep0, e0, _⟩ := id n
  refine wpAny_dictSet_pairs (hsz := by unfold tr; rw [List.length_map]; exact hz) (lV_is ry) dd fun h' dd' sb => ?_
  rw [tr_stored] at dd'
  obtain ⟨o, es, ep, ho, hc, hd, h2, h3, h4⟩ := dd'
  rw [tr_keys] at h4
  have hz' : es.size ≤ sizeLine := by
    have := h3.length
    unfold tr at this
    rw [List.length_map] at this
    simp at this
    have := addL_len ks k
    omega
  exact h _ _ (d_write (t' := s.toks + 1) I (by rw [e0]; exact True.intro) sb ⟨o, ho⟩ (raw_ok (ep := ep) ⟨o, ho, hc, hd⟩ hs hz')) (hK _ (fun b hb => upd_ne hb) ⟨es, ep, upd_same, h2, h3, h4⟩)
end
def flL (P : Program) (w : World) : Flv P w where
  nil := fun d => RawO d #[] 0
  put := putLd P w
  rm := fun _ => True
  nil_ok := fun H h hb => raw_empty H h hb
  put_ok := fun hp hw _ I g ry rz h => by
    subst hp hw
    exact ld_dictSet I g ry rz h
def flN (P : Program) (w : World) : Flv P w where
  nil := fun d => RawO d #[] 0
  put := putNd P w
  rm := fun A => A.units + 8 < cLine
  nil_ok := fun H h hb => raw_empty H h hb
  put_ok := fun hp hw hr I g ry rz h => by
    subst hp hw
    exact nd_dictSet hr I g ry rz h
theorem ld_nil {P : Program} {w : World} {H : Hp} {d : Addr} (h : H d = some (RawO d #[] 0)) : LDk P w H d [] := ⟨_, _, h, fun _ he => by simp at he, .nil, List.nodup_nil⟩
theorem nd_nil {P : Program} {w : World} {H : Hp} {d : Addr} (h : H d = some (RawO d #[] 0)) : NDk P w H d [] := ⟨_, _, [], h, rfl, .nil, List.nodup_nil⟩

section
variable {X : Cx} {o i e value : Expr} {pos pos' : Pos} {td ty tv : TE}
/-! ### rules -/
/-- {} -/
def tRawNew : TE := fun _ H Q => ∀ p, H p = none → Q (.ref p) (upd H p (RawO p #[] 0))
theorem pe_rnew : PE X (.Dict [] [] pos) tRawNew := ⟨fun pins s σ H Q I h =>
  wpAny_Dict_empty ⟨.ref s.heap.objs.size, _, I.laid (a := s.heap.objs.size) (o := RawO s.heap.objs.size #[] 0) (t' := s.toks) (fun _ _ q => Heap.get?_push_of_some _ q) (Nat.le_refl _) (raw_empty _ s.heap I.big), rfl, h _ (I.hok.fresh (Nat.le_refl _))⟩⟩
/-- d[y] = v -/
def sNPut (P : Program) (w : World) (td ty tv : TE) : TS := fun D σ H => tv σ H fun v H1 => td σ H1 fun x H2 => ty σ H2 fun y H3 => ∃ a, x = .ref a ∧ putNd P w H3 a y v fun H4 => D.nx σ H4
theorem ps_nput {k : Nat} (hr : Room k X.A) (ho : PE X o td) (hi : PE X i ty) (hv : PE X value tv) (hs : swapsWith value (some (.Subscript o i pos')) pos.line X.env = pure false) :
    PS X (.Assign [.Subscript o i pos'] value pos) (sNPut X.prog X.w td ty tv) := by
  refine ⟨fun pins s σ H D I h => ?_⟩
  refine wpAny_Assign_Subscript (thn (hv.run pins s σ H _ I h) fun r s1 ⟨v, H1, I1, rv, q1⟩ => thn (ho.run pins s1 σ H1 _ I1 q1) fun u s2 ⟨x, H2, I2, rx, q2⟩ => thn (hi.run pins s2 σ H2 _ I2 q2) fun iv s3 ⟨y, H3, I3, ry, a, ex, g⟩ => ?_) hs
  subst ex
  obtain rfl : u = Value.ref a := rx
  exact nd_setItem (nd_room hr) I3 g ry rv fun H' s4 I4 k4 => ⟨σ, H', I4, k4⟩
/-- y not in d -/
def tNNotIn (P : Program) (w : World) (ty td : TE) : TE := fun σ H Q => ty σ H fun y H1 => td σ H1 fun x H2 => ∃ a b kvs k, x = .ref a ∧ y = .ref b ∧ NDk P w H2 a kvs ∧ NIs H2 k (.ref b) ∧ k.depth ≤ 8 ∧ Q (.bl (!(valN kvs k).isSome)) H2
theorem pc_nnotin {k : Nat} (hr : Room k X.A) (hi : PE X i ty) (ho : PE X o td) : PC X .NotIn i o (tNNotIn X.prog X.w ty td) := by
  refine ⟨fun pins s σ H Q I h => ?_⟩
  refine thn (hi.run pins s σ H _ I h) fun iv s1 ⟨y, H1, I1, ry, q1⟩ => thn (ho.run pins s1 σ H1 _ I1 q1) fun u s2 ⟨x, H2, I2, rx, a, b, kvs, kk, ex, ey, n, hk, hd, q⟩ => ?_
  subst ex ey
  obtain rfl : u = Value.ref a := rx
  obtain rfl : iv = Value.ref b := ry
  obtain ⟨xs, rel, dd, hs, hz⟩ := n.real I2.hok
  refine wpAny_notIn_heap (nd_room hr) ⟨NIs.real I2.hok _ _ _ hk rfl, hd⟩ hs dd ?_
  have e := (rel.val kk).isSome_eq
  rw [Option.isSome_map] at e
  rw [← e]
  exact ⟨.bl (!(valN kvs kk).isSome), H2, I2.tok _, rfl, q⟩
/-- y in d, d of leaves -/
def tLIn (P : Program) (w : World) (ty td : TE) : TE := fun σ H Q => ty σ H fun y H1 => td σ H1 fun x H2 => ∃ a ks k, x = .ref a ∧ LDk P w H2 a ks ∧ y = lV k ∧ Q (.bl (decide (k ∈ ks))) H2
theorem pc_lin (hi : PE X i ty) (ho : PE X o td) : PC X .In i o (tLIn X.prog X.w ty td) := by
  refine ⟨fun pins s σ H Q I h => ?_⟩
  refine thn (hi.run pins s σ H _ I h) fun iv s1 ⟨y, H1, I1, ry, q1⟩ => thn (ho.run pins s1 σ H1 _ I1 q1) fun u s2 ⟨x, H2, I2, rx, a, ks, k, ex, n, ey, q⟩ => ?_
  subst ex ey
  obtain rfl : u = Value.ref a := rx
  obtain ⟨dd, hs, hz⟩ := n.real I2.hok
  refine wpAny_in_of (lV_is ry) hs dd.mapOf ?_
  have e : (valueAt (tr ks) k).isSome = decide (k ∈ ks) := by
    unfold valueAt tr
    rw [Option.isSome_map]
    by_cases h : k ∈ ks
    · rw [decide_eq_true h, List.find?_isSome]
      exact ⟨(k, .bool true), List.mem_map_of_mem h, by simp⟩
    · rw [decide_eq_false h, Option.isSome_eq_false_iff, Option.isNone_iff_eq_none, List.find?_eq_none]
      intro x hx
      obtain ⟨j, hj, rfl⟩ := List.mem_map.mp hx
      simp only [decide_eq_true_eq]
      exact fun z => h (z ▸ hj)
  rw [e]
  exact ⟨.bl (decide (k ∈ ks)), H2, I2.tok _, rfl, q⟩
/-- {k: v} -/
def tNOne (P : Program) (w : World) (tk tv : TE) : TE := fun σ H Q => ∀ p, H p = none → tk σ (upd H p (RawO p #[] 0)) fun y H1 => tv σ H1 fun z H2 => ∃ k b, H2 p = some (RawO p #[] 0) ∧ y = .ref b ∧ NIs H2 k y ∧ k.depth ≤ 8 ∧
  ∀ H', (∀ c, c ≠ p → H' c = H2 c) → NDk P w H' p [(k, z)] → Q (.ref p) H'
def OneQ (P : Program) (w : World) (p : Addr) (Q : VK) : List (V × V) → Hp → Prop
  | [(y, z)], H2 => ∃ k b, H2 p = some (RawO p #[] 0) ∧ y = .ref b ∧ NIs H2 k y ∧ k.depth ≤ 8 ∧ ∀ H', (∀ c, c ≠ p → H' c = H2 c) → NDk P w H' p [(k, z)] → Q (.ref p) H'
  | _, _ => False
theorem pe_none {k : Nat} {tk : TE} (hr : Room k X.A) (hk : PE X i tk) (hv : PE X value tv) : PE X (.Dict [some i] [value] pos) (tNOne X.prog X.w tk tv) := by
  refine ⟨fun pins s σ H Q I q => ?_⟩
  have hn := I.hok.fresh (Nat.le_refl s.heap.objs.size)
  have I1 := I.laid (a := s.heap.objs.size) (o := RawO s.heap.objs.size #[] 0) (h' := s.heap.push { cls := .type "dict", data := .dict #[] }) (t' := s.toks) (fun _ _ q => Heap.get?_push_of_some _ q) (Nat.le_refl _) (raw_empty _ s.heap I.big)
  have pp := pps_cons (pos := pos) hk hv pps_nil
  rw [arm_eval_Dict, show (evalEachOpt [some i] X.env).zip ((evalEach [value] X.env).map fun v => do let x ← v; standAt pos; pure x) = (pairTrees [some i] [value] X.env pos).map fun p => (some p.1, p.2) from rfl, dictDisplay_pairs _ (by intro z; cases z) (by show 1 < 17; decide)]
  refine wpAny_bind (wpAny_standAt (wpAny_bind (wpAny_subDictH (knd := nestedKind X.prog X.w) (Q := fun d s' => wpAny (model X.prog X.w) X.A (pure (Value.ref d)) (EP X pins σ Q) X.xe s') (by have := hr.un; show X.A.units + 8 < cLine; omega) (by show 1 ≤ 15; decide) ?_)))
  refine thn (pp.run pins _ σ _ (OneQ X.prog X.w s.heap.objs.size Q) I1 (q _ hn)) fun vs s1 ⟨ps, H2, I2, rel, hq⟩ => ?_
  cases rel with
  | nil => exact hq.elim
  | @cons a b as bs r t =>
    cases t with
    | cons r2 t2 => exact hq.elim
    | nil =>
      obtain ⟨y, z⟩ := a
      obtain ⟨u, v⟩ := b
      obtain ⟨kk, bb, h0, ey, hk2, hd, hK⟩ := hq
      obtain ⟨ry, rz⟩ := r
      dsimp only at ey ry rz hk2
      subst ey
      cases (show u = Value.ref bb from ry)
      have n0 : NDk X.prog X.w H2 s.heap.objs.size [] := nd_nil h0
      obtain ⟨xs, rel0, dd, hs, hz⟩ := n0.real I2.hok
      cases rel0
      refine ⟨[(kk, bb, v)], ⟨rfl, rfl, ⟨NIs.real I2.hok _ _ _ hk2 rfl, hd⟩, trivial⟩, dd, fun h' tk' hkd sb => wpAny_pure ?_⟩
      have dd' : h'.DictOfH (nestedKind X.prog X.w) s.heap.objs.size (storedH [] kk bb v) := hkd
      obtain ⟨H', I', k'⟩ := nd_after (t' := tk') (K := fun H' => Q (.ref s.heap.objs.size) H') I2 n0 hk2 hd (by decide) .nil rz dd' sb (fun H' e1 e2 => hK H' e1 e2)
      exact ⟨.ref s.heap.objs.size, H', I', rfl, k'⟩
end
end K14
end
section
set_option Elab.async false
set_option linter.all false
set_option maxRecDepth 100000
set_option maxHeartbeats 1000000
/-! Such dicts walked; len; list. -/
namespace K14
open PySem PySem.Spec PyProof.Rows L2

/-- the keys (the values) of the object's entries, as they are told -/
abbrev KsOf (ks : List V) (es : Array DictEntry) : Prop := Paired (fun (v : V) (e : DictEntry) => RelV v e.key) ks es.toList
abbrev VsOf (vs : List V) (es : Array DictEntry) : Prop := Paired (fun (v : V) (e : DictEntry) => RelV v e.val) vs es.toList
def ItRK (d : Addr) (es : Array DictEntry) (ep : Nat) (ks : List V) : It :=
  ⟨fun i H => H d = some (RawO d es ep) ∧ i < ks.length ∧ KsOf ks es, fun i H x H' => H' = H ∧ ks[i]? = some x, fun i H => H d = some (RawO d es ep) ∧ ks.length ≤ i ∧ KsOf ks es⟩
def ItRV (d : Addr) (es : Array DictEntry) (ep : Nat) (vs : List V) : It :=
  ⟨fun i H => H d = some (RawO d es ep) ∧ i < vs.length ∧ VsOf vs es, fun i H x H' => H' = H ∧ vs[i]? = some x, fun i H => H d = some (RawO d es ep) ∧ vs.length ≤ i ∧ VsOf vs es⟩
theorem walk_rk {d : Addr} {es : Array DictEntry} {ep : Nat} {ks : List V} (h : KsOf ks es) : Walk (ItRK d es ep ks) ks.length (fun H => H d = some (RawO d es ep)) (YAt ks) :=
  ⟨fun i H hi g => ⟨g, hi, h⟩, fun H g => ⟨g, Nat.le_refl _, h⟩, fun i H x H' _ _ y => y⟩
theorem walk_rv {d : Addr} {es : Array DictEntry} {ep : Nat} {vs : List V} (h : VsOf vs es) : Walk (ItRV d es ep vs) vs.length (fun H => H d = some (RawO d es ep)) (YAt vs) :=
  ⟨fun i H hi g => ⟨g, hi, h⟩, fun H g => ⟨g, Nat.le_refl _, h⟩, fun i H x H' _ _ y => y⟩
theorem paired_get {α β : Type} {F : α → β → Prop} {l1 : List α} {l2 : List β} (p : Paired F l1 l2) {i : Nat} {a : α} (h : l1[i]? = some a) : ∃ b, l2[i]? = some b ∧ F a b := by
  induction p generalizing i with
  | nil => simp at h
  | cons r t ih =>
    cases i with
    | zero => cases h; exact ⟨_, rfl, r⟩
    | succ i => exact ih h
theorem turn_rk {P : Program} {w : World} {K : PySem.W.Frag} {tg : Expr} {d : Addr} {es : Array DictEntry} {ep : Nat} {ks : List V} (it : Addr) : Turn P w K tg (ItRK d es ep ks) [it] it (fun i h => h.IsKeyIter it d i es.size ep) where
  mem := by simp
  obj := fun i h st b hb => by
    have e : b = it := by simpa using hb
    subst e
    obtain ⟨oi, e, c, dd⟩ := st
    exact ⟨oi, e, fun v z => by rw [dd] at z; cases z⟩
  keep := fun i h h' st k => by
    obtain ⟨oi, e, r⟩ := st
    exact ⟨oi, k it (by simp) oi e, r⟩
  item := by
    intro X hP hw hK hc i pins s σ H E I hf st hg
    subst hP hw hK
    obtain ⟨hd, hi, hks⟩ := hg
    obtain ⟨f0, f1, f2, f3, f4, f5⟩ := hf it (by simp)
    obtain ⟨hr, _, _⟩ := raw_of I.hok hd
    obtain ⟨e, he, re⟩ := paired_get hks (List.getElem?_eq_getElem hi)
    have hi2 : i < es.size := by
      have := (List.getElem?_eq_some_iff.mp he).1
      simpa using this
    have ee : es[i] = e := by
      have h1 : es.toList[i]? = some es[i] := by rw [Array.getElem?_toList]; exact Array.getElem?_eq_getElem hi2
      rw [h1] at he
      exact Option.some.inj he
    refine wpAny_pyNext_keys_item_raw st hr hi2 fun h' st' sb => ?_
    have I1 : Inv X pins σ H { s with heap := h' } := I.turned (t' := s.toks) (fun b ob hb e => (sb.2 b hb).trans e) f0 f1 f3 f4 f5
    obtain ⟨oi, e3, c, dd⟩ := id st'
    exact ⟨_, rfl, go_of (s := { s with heap := h' }) e3 c dd (by decide) ⟨ks[i], H, I1, by rw [ee]; exact re, ⟨rfl, List.getElem?_eq_getElem hi⟩, st', fun b hb => (hf b hb).1⟩⟩
  done := by
    intro X hP hw hK hc i pins s σ H E I hf st hg
    subst hP hw hK
    obtain ⟨hd, hi, hks⟩ := hg
    obtain ⟨f0, f1, f2, f3, f4, f5⟩ := hf it (by simp)
    obtain ⟨hr, _, _⟩ := raw_of I.hok hd
    have hl : ks.length = es.size := by rw [Paired.length hks]; simp
    exact wpAny_pyNext_keys_end_raw (I.ok.hd hc) st hr (by omega) fun h' eb => ⟨rfl, I.turned (t' := s.toks) (fun b ob hb e => eb b ob hb e) f0 f1 f3 f4 f5⟩
  self := fun A i s Q E st h => by
    refine wpAny_pyIter_slot st.typeIs F.slot_dict_keyiterator_iter (wpAny_call_entry F.slot_dict_keyiterator_iter st.typeIs F.entry_dict_keyiterator_iter ?_ (F.args_dict_keyiterator_iter_1 _))
    show wpAny _ _ (ret (.ref it)) _ _ s
    exact wpAny_pure ⟨_, rfl, "dict_keyiterator", _, st.typeIs, F.slot_dict_keyiterator_next.lookup, h⟩
theorem turn_rv {P : Program} {w : World} {K : PySem.W.Frag} {tg : Expr} {d : Addr} {es : Array DictEntry} {ep : Nat} {vs : List V} (it : Addr) : Turn P w K tg (ItRV d es ep vs) [it] it (fun i h => h.IsValIter it d i es.size ep) where
  mem := by simp
  obj := fun i h st b hb => by
    have e : b = it := by simpa using hb
    subst e
    obtain ⟨oi, e, c, dd⟩ := st
    exact ⟨oi, e, fun v z => by rw [dd] at z; cases z⟩
  keep := fun i h h' st k => st.at fun oi e => k it (by simp) oi e
  item := by
    intro X hP hw hK hc i pins s σ H E I hf st hg
    subst hP hw hK
    obtain ⟨hd, hi, hks⟩ := hg
    obtain ⟨f0, f1, f2, f3, f4, f5⟩ := hf it (by simp)
    obtain ⟨hr, _, _⟩ := raw_of I.hok hd
    obtain ⟨e, he, re⟩ := paired_get hks (List.getElem?_eq_getElem hi)
    have hi2 : i < es.size := by
      have := (List.getElem?_eq_some_iff.mp he).1
      simpa using this
    have ee : es[i] = e := by
      have h1 : es.toList[i]? = some es[i] := by rw [Array.getElem?_toList]; exact Array.getElem?_eq_getElem hi2
      rw [h1] at he
      exact Option.some.inj he
    refine wpAny_pyNext_values_item_raw st hr hi2 fun h' st' sb => ?_
    have I1 : Inv X pins σ H { s with heap := h' } := I.turned (t' := s.toks) (fun b ob hb e => (sb.2 b hb).trans e) f0 f1 f3 f4 f5
    obtain ⟨oi, e3, c, dd⟩ := id st'
    exact ⟨_, rfl, go_of (s := { s with heap := h' }) e3 c dd (by decide) ⟨vs[i], H, I1, by rw [ee]; exact re, ⟨rfl, List.getElem?_eq_getElem hi⟩, st', fun b hb => (hf b hb).1⟩⟩
  done := by
    intro X hP hw hK hc i pins s σ H E I hf st hg
    subst hP hw hK
    obtain ⟨hd, hi, hks⟩ := hg
    obtain ⟨f0, f1, f2, f3, f4, f5⟩ := hf it (by simp)
    obtain ⟨hr, _, _⟩ := raw_of I.hok hd
    have hl : vs.length = es.size := by rw [Paired.length hks]; simp
    exact wpAny_pyNext_values_end_raw (I.ok.hd hc) st hr (by omega) fun h' eb => ⟨rfl, I.turned (t' := s.toks) (fun b ob hb e => eb b ob hb e) f0 f1 f3 f4 f5⟩
  self := fun A i s Q E st h => wpAny_pyIter_valiter st h
def iRK (td : TE) : TI := fun σ H R => td σ H fun x H1 => ∃ d es ep ks, x = .ref d ∧ H1 d = some (RawO d es ep) ∧ KsOf ks es ∧ R (ItRK d es ep ks) H1
def iRV (td : TE) : TI := fun σ H R => td σ H fun x H1 => ∃ d es ep vs, x = .ref d ∧ H1 d = some (RawO d es ep) ∧ VsOf vs es ∧ R (ItRV d es ep vs) H1
section
variable {X : Cx} {tg e : Expr} {td : TE} {apos cpos : Pos}
theorem pi_rk (he : PE X e td) : PI X tg e (iRK td) := by
  refine ⟨fun pins s σ H R I h => ?_⟩
  refine thn (he.run pins s σ H _ I h) fun u s1 ⟨x, H1, I1, rx, d, es, ep, ks, ex, hd, hks, q⟩ => ?_
  subst ex
  obtain rfl : u = Value.ref d := rx
  obtain ⟨hr, hs, hz⟩ := raw_of I1.hok hd
  exact wpAny_pyIter_dict_raw hs hr (pi_one (tk := s1.toks) I1 _ (turn_rk _) ⟨_, Heap.get?_push_size _ rfl, rfl, rfl⟩ q)
theorem pi_rv (he : PE X e td) (hbase : attributeBase e "values" X.env (eval e X.env) = eval e X.env := by rfl) (hline : (apos.endLine == cpos.line) = true := by rfl) : PI X tg (.Call (.Attribute e "values" apos) [] [] cpos) (iRV td) := by
  refine ⟨fun pins s σ H R I h => ?_⟩
  refine wpAny_Call_method (T := "dict") (id := "dict.values") hbase rfl hline F.plainAttrs_dict F.slot_dict_values F.type_dict_values (thn (he.run pins s σ H _ I h) fun u s1 ⟨x, H1, I1, rx, d, es, ep, vs, ex, hd, hvs, q⟩ => ?_)
  subst ex
  obtain rfl : u = Value.ref d := rx
  obtain ⟨hr, hs, hz⟩ := raw_of I1.hok hd
  obtain ⟨o, ho, hc, hdat⟩ := id hr
  refine ⟨hr.typeIs, fun b z => by cases z; exact ⟨o, ho, hc.2.1⟩, ?_⟩
  have I2 : Inv X pins σ H1 { s1 with heap := s1.heap.push { cls := .type "dict_values", data := .fields #[.ref d] } } := I1.kept (t' := s1.toks) fun b ob q => Heap.get?_push_of_some _ q
  have hr2 := hr.push { cls := .type "dict_values", data := .fields #[.ref d] }
  have fin : wpAny (model X.prog X.w) X.A (pyIter (.ref s1.heap.objs.size)) (PIE X pins σ tg R) X.xe { s1 with heap := s1.heap.push { cls := .type "dict_values", data := .fields #[.ref d] } } :=
    wpAny_pyIter_values_raw (d := d) ⟨_, Heap.get?_push_size _ rfl, rfl, rfl⟩ hr2 (pi_one (tk := s1.toks) I2 _ (turn_rv _) ⟨_, Heap.get?_push_size _ rfl, rfl, rfl⟩ q)
  show wpAny _ _ (callWith cpos (.builtin "dict.values") [.ref d] [] []) _ X.xe s1
  exact method_meetsIn F.slot_dict_values F.entry_dict_values rfl (PySem.evalArgs_none ⟨rfl, hr.typeIs, F.args_dict_values_1 _, _, meets_dict_values_raw d hs, ⟨⟨es, ep, hr⟩, fin⟩⟩)
/-- len(d), list(d) of leaves -/
theorem call_len_ld : CallR X (.builtin "len") (fun xs H Q => ∃ d ks, xs = [.ref d] ∧ LDk X.prog X.w H d ks ∧ Q (.int (ks.length : Nat)) H) := by
  intro pins s σ H xs us Q I r h
  obtain ⟨d, ks, rfl, n, q⟩ := h
  obtain ⟨u, rfl, rx⟩ := vals1 r
  obtain rfl : u = Value.ref d := rx
  obtain ⟨dd, hs, hz⟩ := n.real I.hok
  have hl : (tr ks).length = ks.length := by unfold tr; rw [List.length_map]
  refine call_len_dict hs dd (by rw [hl]; rw [sizeLine_eq] at hz; omega) ?_
  rw [hl]
  exact ⟨.int (ks.length : Nat), H, I.tok _, ⟨_, rfl⟩, q⟩
theorem call_list_ld (hc : X.calm = true) : CallR X (.type "list") (fun xs H Q => ∃ d es ep ks, xs = [.ref d] ∧ H d = some (RawO d es ep) ∧ KsOf ks es ∧ ∀ l, H l = none → Q (.ref l) (upd H l (.lst ks))) := by
  intro pins s σ H xs us Q I r h
  obtain ⟨d, es, ep, ks, rfl, hd, hks, q⟩ := h
  obtain ⟨u, rfl, rx⟩ := vals1 r
  obtain rfl : u = Value.ref d := rx
  obtain ⟨hr, hs, hz⟩ := raw_of I.hok hd
  have hl : ks.length = es.size := by rw [Paired.length hks]; simp
  refine PySem.W.kdl_call (KdlSrc.rawDict (es := es) (ep := ep) hs) (I.ok.hd hc) hr hz fun h' tk acc' c' hkeep hS hacc => ?_
  refine ⟨.ref s.heap.objs.size, upd H s.heap.objs.size (.lst ks), I.laid hkeep (Nat.le_refl _) (show ObjOk X.prog X.w _ _ _ (.lst ks) from ⟨by omega, acc'.toList, c', ?_, hS⟩), rfl, q _ (I.hok.fresh (Nat.le_refl _))⟩
  obtain ⟨h1, h2⟩ := hacc
  have key : ∀ (l : List V) (m : List DictEntry) (a : List Value), Paired (fun (v : V) (e : DictEntry) => RelV v e.key) l m → a.length = m.length → (∀ (j : Nat) (v : Value), a[j]? = some v → ∃ e : DictEntry, m[j]? = some e ∧ v = e.key) → Vals l a := by
    intro l m a p
    induction p generalizing a with
    | nil =>
      intro e _
      cases a with
      | nil => exact .nil
      | cons _ _ => cases e
    | cons r t ih =>
      intro e g
      cases a with
      | nil => cases e
      | cons x xs =>
        obtain ⟨e0, he0, hx⟩ := g 0 x rfl
        cases he0
        subst hx
        exact .cons r (ih xs (Nat.succ.inj e) fun j v hj => g (j + 1) v hj)
  refine key ks es.toList acc'.toList hks (by simp [h1]) fun j v hj => ?_
  rw [Array.getElem?_toList] at hj
  obtain ⟨hi, e⟩ := h2 j v hj
  exact ⟨es[j], by rw [Array.getElem?_toList]; exact Array.getElem?_eq_getElem hi, e⟩
end

/-! ### what the entries are -/
theorem NDk.keys {P : Program} {w : World} {H : Hp} {d : Addr} {kvs : List (NestedKey × V)} (n : NDk P w H d kvs) : ∃ es ep ks, H d = some (RawO d es ep) ∧ KsOf ks es ∧ Paired (fun (v : V) (kv : NestedKey × V) => NIs H kv.1 v) ks kvs := by
  obtain ⟨es, ep, xs, h1, h2, h3, h4⟩ := n
  refine ⟨es, ep, xs.map fun x => .ref x.2.1, h1, ?_, ?_⟩
  · unfold KsOf
    rw [h2]
    clear h1 h2 h3 h4
    induction xs with
    | nil => exact .nil
    | cons x r ih => exact .cons rfl ih
  · clear h1 h2 h4
    induction h3 with
    | nil => exact .nil
    | cons r _ ih => exact .cons (by have := r.2.1; exact this) ih
theorem NDk.vals {P : Program} {w : World} {H : Hp} {d : Addr} {kvs : List (NestedKey × V)} (n : NDk P w H d kvs) : ∃ es ep, H d = some (RawO d es ep) ∧ VsOf (kvs.map (·.2)) es := by
  obtain ⟨es, ep, xs, h1, h2, h3, h4⟩ := n
  refine ⟨es, ep, h1, ?_⟩
  unfold VsOf
  rw [h2]
  clear h1 h2 h4
  induction h3 with
  | nil => exact .nil
  | cons r _ ih => exact .cons r.2.2.2 ih
theorem LDk.none {P : Program} {w : World} {H : Hp} {d : Addr} (n : LDk P w H d [.none]) : ∃ es ep, H d = some (RawO d es ep) ∧ KsOf [.non] es := by
  obtain ⟨es, ep, h1, _, h3, _⟩ := n
  refine ⟨es, ep, h1, ?_⟩
  unfold KsOf
  generalize es.toList = l at h3
  cases h3 with
  | @cons e kv es' kvs' a b c =>
    cases c
    refine .cons ?_ .nil
    have a : Leaf.isOf .none e.key = true := a
    show e.key = Value.none
    cases h : e.key <;> rw [h] at a <;> first | rfl | exact absurd a Bool.false_ne_true
end K14
end
section
set_option Elab.async false
set_option linter.all false
set_option maxRecDepth 100000
/-! {**d, k: v} -/
namespace K14
open PySem PySem.Spec PyProof.Rows
section
variable {prog : Program} {w : World} {K : Type} [DecidableEq K] {knd : KeyKind prog w K} {A : Around} {E : Value → Shared → Prop} {s : Shared}
theorem dictPut_pairs {d : Addr} {kvs : List (K × Value)} {k : K} {key v : Value} {Q : Unit → Shared → Prop} (hkey : knd.is k key = true) (hm : s.heap.DictOf knd d kvs)
    (hQ : ∀ h', h'.DictOf knd d (stored kvs k v) → Heap.SameBut d s.heap h' → Q () { s with heap := h' })
    (hsz : kvs.length ≤ sizeLine) :
    wpAny (model prog w) A (dictPut d (knd.hash k) key v) Q E s := by
  obtain ⟨o, es, ep, ho, hc, hd, hk, hp, hn⟩ := hm
  have hes : es.size ≤ sizeLine := by have e1 := hp.length; have e2 : es.toList.length = es.size := by simp
                                      omega
  unfold dictPut
  refine wpAny_bind (wpAny_dictFind_of hkey ho hd hk ?_)
  have hidx : (es.findIdx? fun e => knd.is k e.key) = kvs.findIdx? fun kv => decide (kv.1 = k) := by
    rw [← hp.findIdx k]; obtain ⟨l⟩ := es; simp
  cases hi : es.findIdx? fun e => knd.is k e.key with
  | some i =>
    refine wpAny_updateDict ho hd (hQ _ ⟨_, _, ep, Heap.get?_update_self _ ho (Obj.isFreed_of_dict (Obj.data_mapDict hd _)),
      hc.mapDict _, Obj.data_mapDict hd _, hk.modify _ _, ?_, ?_⟩ (Heap.SameBut.update ..))
    · rw [stored, if_pos (any_of_findIdx_some (hidx ▸ hi))]
      have hl : (es.toList.findIdx? fun e => knd.is k e.key) = some i := by rw [← hi]; obtain ⟨l⟩ := es; simp
      have := hp.modify hn hl v
      obtain ⟨l⟩ := es
      simpa using this
    · rw [stored, if_pos (any_of_findIdx_some (hidx ▸ hi)), keys_map_store]; exact hn
  | none =>
    have hnot : k ∉ kvs.map (·.1) := not_mem_of_findIdx_none (hidx ▸ hi)
    have hany : ¬ (kvs.any fun kv => decide (kv.1 = k)) = true := by
      rw [List.any_eq_true]; rintro ⟨kv, hkv, he⟩
      exact hnot (List.mem_map.mpr ⟨kv, hkv, of_decide_eq_true he⟩)
    refine wpAny_updateDictKeys (hz := hes) ho hd (hQ _ ⟨_, _, ep + 1, Heap.get?_update_self _ ho (Obj.isFreed_of_dict (Obj.data_mapDictKeys hd _)),
      hc.mapDictKeys _, Obj.data_mapDictKeys hd _, hk.push hkey _, ?_, ?_⟩ (Heap.SameBut.update ..))
    · rw [stored, if_neg hany]
      have := hp.append hkey (knd.hash k) v
      obtain ⟨l⟩ := es
      simpa using this
    · rw [stored, if_neg hany, List.map_append, List.nodup_append]
      refine ⟨hn, by simp, ?_⟩
      intro a ha b hb
      simp only [List.map_cons, List.map_nil, List.mem_singleton] at hb
      subst hb
      exact fun e => hnot (e ▸ ha)

theorem mergeMapping_pairs {d o : Addr} {kvs more : List (K × Value)} {Q : Unit → Shared → Prop} (hdo : d ≠ o) (hoS : (o == sysModules) = false)
    (hnr : ∀ k v, knd.is k v = true → ∀ a, v ≠ .ref a)
    (hd : s.heap.DictOf knd d kvs) (ho : s.heap.DictOf knd o more)
    (hQ : ∀ h', h'.DictOf knd d (merged kvs more) → h'.DictOf knd o more → Heap.SameBut d s.heap h' → Q () { s with heap := h' })
    (hsz : kvs.length + more.length ≤ sizeLine) :
    wpAny (model prog w) A (mergeMapping d (.ref o) false) Q E s := by
  obtain ⟨od, esd, epd, hod, hcd, hdd, hkd, hpd, hnd⟩ := id hd
  obtain ⟨oo, eso, epo, hoo, hco, hdo', hko, hpo, hno⟩ := id ho
  have hlen : more.length = eso.size := by rw [← hpo.length]; simp
  have hTo : s.TypeIs (.ref o) "dict" := ho.typeIs
  unfold mergeMapping
  refine wpAny_bind (wpAny_isInstance (T := "dict") (U := "dict") (b := true) hTo (by rfl) ?_)
  rw [if_pos rfl]
  refine wpAny_bind (wpAny_specialOf hTo F.slot_dict_iter.lookup ?_)
  refine wpAny_bind (wpAny_pure ?_)
  rw [show ((some (Value.builtin "dict.__iter__") == some (Value.builtin "dict.__iter__")) : Bool) = true from by decide]
  dsimp only
  rw [if_neg (by rw [hoS]; exact Bool.false_ne_true)]
  refine wpAny_bind (wpAny_dictEntries hod hdd ?_)
  have loop : wpAny (model prog w) A (do
      let l ← dictEntries o
      let epoch ← dictEpoch o
      forIn (List.range l.size) PUnit.unit fun i (_ : PUnit) => (do
          let l' ← dictEntries o
          match l'[i]? with
            | some e => do
              holding [e.key, e.val] (dictPut d e.hash e.key e.val)
              let ep' ← dictEpoch o
              if (ep' != epoch) = true then do
                  (unsupported "dict.changed-during-merge" : Sem PUnit)
                  pure (ForInStep.yield PUnit.unit)
                else pure (ForInStep.yield PUnit.unit)
            | _ => do
              (unsupported "dict.changed-during-merge" : Sem PUnit)
              pure (ForInStep.yield PUnit.unit) : Sem (ForInStep PUnit))
      pure ()) Q E s := by
    refine wpAny_bind (wpAny_dictEntries hoo hdo' ?_)
    refine wpAny_bind (wpAny_dictEpoch hoo hdo' ?_)
    refine wpAny_bind ?_
    rw [List.range_eq_range']
    refine wpAny_forIn_list _
      (fun rest _ s' => ∃ h' i, s' = { s with heap := h' } ∧ rest = List.range' i (eso.size - i) ∧ i ≤ eso.size ∧ h'.DictOf knd d (merged kvs (more.take i)) ∧ h'.get? o = some oo ∧ Heap.SameBut d s.heap h')
      _ ?_ ?_ _ _ ⟨s.heap, 0, rfl, by simp, Nat.zero_le _, by simpa [merged] using hd, hoo, Heap.SameBut.refl _ _⟩
    · rintro x rest b s' ⟨h', i, rfl, hr, hi, hd', hoo', hs'⟩
      have hlt : i < eso.size := by
        rcases Nat.lt_or_ge i eso.size with h | h
        · exact h
        · rw [Nat.sub_eq_zero_of_le h] at hr; simp at hr
      obtain ⟨rfl, hrest⟩ : x = i ∧ rest = List.range' (i + 1) (eso.size - (i + 1)) := by
        have e : eso.size - i = (eso.size - (i + 1)) + 1 := by omega
        rw [e, List.range'_succ] at hr
        injection hr with h1 h2
        exact ⟨h1, h2⟩
      refine wpAny_bind (wpAny_dictEntries hoo' hdo' ?_)
      rw [Array.getElem?_eq_getElem hlt]
      obtain ⟨kv, hkv⟩ : ∃ kv, more[x]? = some kv := ⟨more[x]'(by rw [hlen]; exact hlt), List.getElem?_eq_getElem _⟩
      obtain ⟨k, v⟩ := kv
      obtain ⟨hkey, hval⟩ := hpo.get? (e := eso[x]) (by simp [hlt]) hkv
      obtain ⟨k', hkey', hhash⟩ := hko eso[x] (Array.getElem_mem hlt)
      obtain rfl : k' = k := knd.inj _ _ _ hkey' hkey
      show wpAny _ _ (holding [eso[x].key, eso[x].val] (dictPut d eso[x].hash eso[x].key eso[x].val) >>= _) _ _ _
      rw [hhash, hval]
      have hmx : (merged kvs (more.take x)).length ≤ sizeLine := by
        have e1 := merged_length_le kvs (more.take x)
        have e2 : (more.take x).length ≤ more.length := by rw [List.length_take]; omega
        omega
      refine wpAny_bind (wpAny_holding (dictPut_pairs (hsz := hmx) hkey hd' fun h'' hd'' hs'' => ?_))
      have hoo'' : h''.get? o = some oo := (hs''.2 o (Ne.symm hdo)).trans hoo'
      refine wpAny_bind (wpAny_dictEpoch hoo'' hdo' ?_)
      rw [if_neg (by simp)]
      exact wpAny_pure ⟨h'', x + 1, rfl, hrest, hlt, by rw [merged_take_succ kvs more x (k', v) hkv]; exact hd'', hoo'', hs'.trans hs''⟩
    · rintro b s' ⟨h', i, rfl, hr, hi, hd', hoo', hs'⟩
      have hin : i = eso.size := by
        rcases Nat.lt_or_ge i eso.size with h | h
        · have e : eso.size - i = (eso.size - (i + 1)) + 1 := by omega
          rw [e, List.range'_succ] at hr; exact nomatch hr
        · exact Nat.le_antisymm hi h
      refine wpAny_pure (hQ h' ?_ ⟨oo, eso, epo, hoo', hco, hdo', hko, hpo, hno⟩ hs')
      rw [hin, ← hlen, List.take_length] at hd'; exact hd'
  split
  · refine wpAny_bind (wpAny_dictEntries hoo hdo' ?_)
    refine wpAny_bind ?_
    refine wpAny_mono (PySem.MeetsSeq2.wpAny_forIn_array (M := model prog w) (A := A) (E := E) _ (fun rest _ s' => s' = s ∧ ∀ e ∈ rest, e ∈ eso) (fun _ s' => s' = s) ?_ ?_ eso PUnit.unit ⟨rfl, fun e he => by simpa using he⟩) (fun _ s' e => by cases e; exact loop) fun _ _ e => e
    · rintro x rest b s' ⟨rfl, hm⟩
      obtain ⟨k', hkey', _⟩ := hko x (hm x List.mem_cons_self)
      have nr := hnr k' x.key hkey'
      cases hx : x.key with
      | ref a => exact absurd hx (nr a)
      | _ => exact wpAny_pure ⟨rfl, fun e he => hm e (List.mem_cons_of_mem _ he)⟩
    · rintro b s' ⟨rfl, _⟩
      rfl
  · exact loop

/-- {**a, k: v}: the trees -/
theorem display_spread (m k v : Sem Value) : dictDisplay [(none, m), (some k, v)] = (do
    let d ← alloc { cls := .type "dict", data := .dict #[] }
    let x ← holding [.ref d] m
    (((holding [.ref d, x] (mergeMapping d x false)).onRaise fun y => do let _ ← holding [.ref d, x, y] (runValue (.builtin "proto.let_go" {}))).tryCatch fun e => do
        if ← isInstance e (.type "AttributeError") then
          rule "dict.display.not-a-mapping"; raiseError "TypeError" s!"'{← typeNameOf x}' object is not a mapping"
        throw e).onRaise fun y => do let _ ← holding [.ref d, y] (runValue (.builtin "proto.let_go" {}))
    let sub ← holding [.ref d] (subDict [(k, v)])
    (holding [.ref d, .ref sub] (mergeMapping d (.ref sub) false)).onRaise fun x => do let _ ← holding [.ref d, x] (runValue (.builtin "proto.let_go" {}))
    pure (.ref d)) := by
  unfold dictDisplay
  simp [List.forIn_cons]
end
end K14

namespace K14
open PySem PySem.Spec PyProof.Rows L2
section
variable {X : Cx} {pins : List (Addr × Obj)} {σ : L2.St} {H : Hp} {s : Shared}
/-- a raw object of ours that stood pinned is tracked from now on -/
theorem inv_adopt {d : Addr} {o : Obj} {ob : HO} {h' : Heap} {t' : Nat} (I : Inv X ((d, o) :: pins) σ H s) (hd : X.s_0.heap.objs.size ≤ d) (hc : ∀ x c, X.env.cells.lookup x = some c → c ≠ d) (hp : ∀ p ∈ X.pn ++ pins, p.1 ≠ d)
    (sb : ∀ b u, b ≠ d → s.heap.get? b = some u → h'.get? b = some u) (new : ObjOk X.prog X.w (upd H d ob) h' d ob) : Inv X pins σ (upd H d ob) { s with heap := h', toks := t' } := by
  obtain ⟨e0, n0, nl, nf, _⟩ := I.pin (d, o) (List.mem_append_right _ List.mem_cons_self)
  have I0 : Inv X pins σ H s := I.pins_of fun p hp => I.pin p (List.mem_append_right _ (List.mem_cons_of_mem _ hp))
  have ne : ∀ b u, H b = some u → b ≠ d := fun b u e z => by rw [z] at e; rw [e] at n0; cases n0
  have nc : ∀ b, b ∉ [d] → b ≠ d := fun b hb e => hb (by rw [e]; exact List.mem_singleton.mpr rfl)
  refine I0.step (g' := s.gens) (t' := t') (d' := s.drawn) (ch := [d]) (fun b hb => ?_) (fun b u _ _ hc q _ => sb b u (nc b hc) q) (fun b u _ _ hc q _ => ⟨u.slots, sb b u (nc b hc) q⟩) (fun b u hc q n => by rw [upd_ne (nc b hc)]; exact n)
    (fun b u hc q => ⟨u, sb b u (nc b hc) q⟩) (fun b xs q => by rw [upd_ne (ne b _ q)]; exact q) (fun b u v q => by rw [upd_ne (ne b _ q)]; exact q) (fun b ps q => ⟨#[], by rw [upd_ne (ne b _ q), q]; simp⟩) (fun m hm => ?_) (fun b u q => ?_) I0.bare
  · rw [List.mem_singleton.mp hb]
    exact ⟨.inr hd, nl, hc, hp⟩
  · obtain ⟨u, es, ep, hu, r⟩ := hm
    exact ⟨u, es, ep, sb _ u (Ne.symm nl) hu, r⟩
  · by_cases hb : b = d
    · subst hb
      rw [upd_same] at q
      cases q
      exact new
    · rw [upd_ne hb] at q
      refine (I0.hok b u q).stay (fun c v hc y => sb c v ?_ y) (fun c y => by rw [upd_ne (ne c _ y)]; exact y) fun c xs y => by rw [upd_ne (ne c _ y)]; exact y
      rcases hc with z | z
      · rw [z]; exact hb
      · exact ne c _ z
/-- a new raw object is pinned -/
theorem inv_pin_new {o : Obj} {t' : Nat} (I : Inv X pins σ H s) (ho : ∀ v, o.data ≠ .cell v) (hn : ∀ h : Heap, (h.push o).get? h.objs.size = some o) : Inv X ((s.heap.objs.size, o) :: pins) σ H { s with heap := s.heap.push o, toks := t' } := by
  have I1 : Inv X pins σ H { s with heap := s.heap.push o, toks := t' } := I.kept fun b u e => Heap.get?_push_of_some _ e
  refine I1.pins_of fun p hp => ?_
  rcases List.mem_cons.mp hp with e | hp
  · rw [e]
    exact ⟨hn _, I.hok.fresh (Nat.le_refl _), Nat.ne_of_gt I.lt, I.nofs (Nat.le_refl _), ho⟩
  · exact I1.pin p (List.mem_append_right _ hp)
/-- such an object has changed -/
theorem inv_repin {d : Addr} {o o' : Obj} {h' : Heap} {t' : Nat} (I : Inv X ((d, o) :: pins) σ H s) (hd : X.s_0.heap.objs.size ≤ d) (hc : ∀ x c, X.env.cells.lookup x = some c → c ≠ d) (hp : ∀ p ∈ X.pn ++ pins, p.1 ≠ d)
    (sb : ∀ b u, b ≠ d → s.heap.get? b = some u → h'.get? b = some u) (e' : h'.get? d = some o') (ho : ∀ v, o'.data ≠ .cell v) : Inv X ((d, o') :: pins) σ H { s with heap := h', toks := t' } := by
  obtain ⟨e0, n0, nl, nf, _⟩ := I.pin (d, o) (List.mem_append_right _ List.mem_cons_self)
  have I0 : Inv X pins σ H s := I.pins_of fun p hp => I.pin p (List.mem_append_right _ (List.mem_cons_of_mem _ hp))
  have I1 : Inv X pins σ H { s with heap := h', toks := t' } := I0.turned sb n0 nl (.inr hd) hc hp
  refine I1.pins_of fun p hp => ?_
  rcases List.mem_cons.mp hp with e | hp
  · rw [e]; exact ⟨e', n0, nl, nf, ho⟩
  · exact I1.pin p (List.mem_append_right _ hp)
end

def tSpread (te tk tv : TE) : TE := fun σ H Q => te σ H fun x H1 => ∃ a kvs, x = .ref a ∧ Rd H1 a (.dK kvs) ∧ kvs.length + 1 ≤ sizeLine ∧ tk σ H1 fun y H2 => tv σ H2 fun z H3 => ∃ k, y = kV k ∧ ∀ p, H3 p = none → Q (.ref p) (upd H3 p (.dK (putK kvs k z)))
theorem mix_noref {P : Program} {w : World} : ∀ k v, (mixKind P w).is k v = true → ∀ a, v ≠ .ref a := fun k v h a e => by
  rcases keyIs_shape h with ⟨i, t, _, q⟩ | ⟨x, t, _, q⟩ <;> rw [e] at q <;> cases q
section
variable {X : Cx}
theorem pe_spread {e ek ev : Expr} {pos : Pos} {te tk tv : TE} (he : PE X e te) (hk : PE X ek tk) (hv : PE X ev tv) : PE X (.Dict [none, some ek] [e, ev] pos) (tSpread te tk tv) := by
  refine ⟨fun pins s σ H Q I h => ?_⟩
  rw [arm_eval_Dict]
  refine wpAny_bind (wpAny_standAt ?_)
  show wpAny _ _ (dictDisplay [(none, do let x ← eval e X.env; standAt pos; pure x), (some (eval ek X.env), do let x ← eval ev X.env; standAt pos; pure x)]) _ _ _
  rw [display_spread]
  refine wpAny_bind (wpAny_alloc ?_)
  generalize hD : s.heap.objs.size = D
  have hDs : X.s_0.heap.objs.size ≤ D := by rw [← hD]; exact I.sz
  have hDc : ∀ x c, X.env.cells.lookup x = some c → c ≠ D := fun x c q z => by
    obtain ⟨v, o, ho, _⟩ := I.cell x c q
    have := Heap.lt_size ho
    rw [z, ← hD] at this
    exact Nat.lt_irrefl _ this
  have hDp : ∀ p ∈ X.pn ++ pins, p.1 ≠ D := fun p hp z => by
    have := Heap.lt_size (I.pin p hp).1
    rw [z, ← hD] at this
    exact Nat.lt_irrefl _ this
  have I1 := inv_pin_new (t' := s.toks) (o := { cls := .type "dict", data := .dict #[] }) I (fun v z => nomatch z) (fun h => Heap.get?_push_size _ rfl)
  rw [hD] at I1
  refine wpAny_bind (wpAny_holding (wpAny_bind (thn (he.run _ _ σ H _ I1 h) fun u s1 ⟨x, H1, I2, rx, a, kvs, ex, hr, hz, q⟩ => wpAny_bind (wpAny_standAt (wpAny_pure ?_)))))
  subst ex
  cases rx
  obtain ⟨z1, hsys, vs, rel, da⟩ := dk_rd I2.hok hr
  have eD : s1.heap.get? D = some { cls := .type "dict", data := .dict #[] } := (I2.pin (D, _) (List.mem_append_right _ List.mem_cons_self)).1
  have nD : H1 D = none := (I2.pin (D, { cls := .type "dict", data := .dict #[] }) (List.mem_append_right _ List.mem_cons_self)).2.1
  have dD : s1.heap.DictOf (mixKind X.prog X.w) D [] := ⟨_, #[], 0, eD, ⟨rfl, rfl, rfl⟩, rfl, fun _ he => by simp at he, Pairs.nil, List.nodup_nil⟩
  have hlv : kvs.length = vs.length := Paired.length rel
  have hDa : D ≠ a := fun z => by
    rcases hr with hr | ⟨o, hr⟩ <;> rw [← z, nD] at hr <;> cases hr
  have hnd : (vs.map (·.1)).Nodup := by obtain ⟨_, _, _, _, _, _, _, _, n⟩ := da; exact n
  refine wpAny_bind (wpAny_onRaise (wpAny_tryCatch (wpAny_onRaise (wpAny_holding (mergeMapping_pairs hDa hsys mix_noref dD da (fun h2 d2 _ sb2 => ?_) (by simp; omega))))))
  rw [merged_nil_of_nodup vs hnd] at d2
  obtain ⟨o2, es2, ep2, eo2, r2⟩ := id d2
  have hcell2 : ∀ v, o2.data ≠ .cell v := fun v z => by rw [r2.2.1] at z; cases z
  have I3 := inv_repin (t' := s1.toks) I2 hDs hDc hDp (fun b u hb e => (sb2.2 b hb).trans e) eo2 hcell2
  -- the pair behind
  refine wpAny_bind (wpAny_holding ?_)
  refine wpAny_subDict (knd := mixKind X.prog X.w) (by show 1 ≤ 15; decide) ?_
  generalize hB : ({ s1 with heap := h2 } : Shared).heap.objs.size = B
  have hB : h2.objs.size = B := hB
  have hBs : X.s_0.heap.objs.size ≤ B := by rw [← hB]; exact I3.sz
  have hDB : D < B := by rw [← hB]; exact Heap.lt_size eo2
  have I4 := inv_pin_new (t' := s1.toks) (o := { cls := .type "dict", data := .dict #[] }) I3 (fun v z => nomatch z) (fun h => Heap.get?_push_size _ rfl)
  have I4 : Inv X ((B, { cls := .type "dict", data := .dict #[] }) :: (D, o2) :: pins) σ H1 { s1 with heap := h2.push { cls := .type "dict", data := .dict #[] } } := by rw [← hB]; exact I4
  refine evalPairs_cons (thn (hk.run _ _ σ H1 _ I4 q) fun u2 s2 ⟨y, H2, I5, ry, q2⟩ => wpAny_bind (thn (hv.run _ _ σ H2 _ I5 q2) fun u3 s3 ⟨z, H3, I6, rz, k, ey, q3⟩ => wpAny_bind (wpAny_standAt (wpAny_pure (evalPairs_nil ?_)))))
  subst ey
  have eB : s3.heap.get? B = some { cls := .type "dict", data := .dict #[] } := (I6.pin (B, _) (List.mem_append_right _ List.mem_cons_self)).1
  refine ⟨[(k, u3)], ⟨kV_is ry, rfl, True.intro⟩, ⟨_, #[], 0, eB, ⟨rfl, rfl, rfl⟩, rfl, fun _ he => by simp at he, Pairs.nil, List.nodup_nil⟩, fun h4 d4 sb4 => ?_⟩
  have I7 : Inv X ((D, o2) :: pins) σ H3 s3 := I6.pins_of fun p hp => I6.pin p (List.mem_append_right _ (List.mem_cons_of_mem _ hp))
  have nB : H3 B = none := (I6.pin (B, { cls := .type "dict", data := .dict #[] }) (List.mem_append_right _ List.mem_cons_self)).2.1
  have eD3 : s3.heap.get? D = some o2 := (I7.pin (D, o2) (List.mem_append_right _ List.mem_cons_self)).1
  have nD3 : H3 D = none := (I7.pin (D, o2) (List.mem_append_right _ List.mem_cons_self)).2.1
  have nDB : D ≠ B := Nat.ne_of_lt hDB
  have dD4 : h4.DictOf (mixKind X.prog X.w) D vs := ⟨o2, es2, ep2, (sb4.2 D nDB).trans eD3, r2⟩
  have bsys : (B == sysModules) = false := beq_eq_false_iff_ne.mpr fun z => by
    have := I3.big
    rw [← z] at this
    have : B < h2.objs.size := this
    rw [hB] at this
    exact Nat.lt_irrefl _ this
  have dsys : (D == sysModules) = false := beq_eq_false_iff_ne.mpr fun z => by
    have := I.big
    rw [← z, hD] at this
    exact Nat.lt_irrefl _ this
  refine wpAny_bind (wpAny_onRaise (wpAny_holding (mergeMapping_pairs (s := { s3 with heap := h4, toks := s3.toks + 1 }) nDB bsys mix_noref dD4 d4 (fun h5 d5 _ sb5 => ?_) (by show vs.length + 1 ≤ _; omega))))
  refine wpAny_pure ⟨.ref D, upd H3 D (.dK (putK kvs k z)), ?_, rfl, q3 D nD3⟩
  have hm : merged vs (merged [] [(k, u3)]) = stored vs k u3 := rfl
  rw [hm] at d5
  have kvn : KV (putK kvs k z) (stored vs k u3) := rel.put k rz
  have hpl : ∀ p ∈ X.pn ++ pins, p.1 ≠ B := fun p hp z => by
    have := Heap.lt_size (I3.pin p ((List.mem_append.mp hp).elim (fun q => List.mem_append_left _ q) fun q => List.mem_append_right _ (List.mem_cons_of_mem _ q))).1
    rw [z, ← hB] at this
    exact Nat.lt_irrefl _ this
  have hcB : ∀ x c, X.env.cells.lookup x = some c → c ≠ B := fun x c q z => by
    obtain ⟨v, o, ho, _⟩ := I3.cell x c q
    have := Heap.lt_size ho
    rw [z, ← hB] at this
    exact Nat.lt_irrefl _ this
  have hlB : B ≠ X.env.locals := (I6.pin (B, { cls := .type "dict", data := .dict #[] }) (List.mem_append_right _ List.mem_cons_self)).2.2.1
  have I8 : Inv X ((D, o2) :: pins) σ H3 { s3 with heap := h4, toks := s3.toks + 1 } := I7.turned (fun b u hb e => (sb4.2 b hb).trans e) nB hlB (.inr hBs) hcB fun p hp => by
    rcases List.mem_append.mp hp with hp | hp
    · exact hpl p (List.mem_append_left _ hp)
    · rcases List.mem_cons.mp hp with e | hp
      · rw [e]; exact nDB
      · exact hpl p (List.mem_append_right _ hp)
  refine inv_adopt (t' := s3.toks + 1) I8 hDs hDc hDp (fun b u hb e => (sb5.2 b hb).trans e) ?_
  exact ⟨Nat.le_trans (length_putK kvs k z) hz, dsys, _, kvn, d5⟩
end
end K14
end
section
set_option Elab.async false
set_option linter.all false
set_option maxRecDepth 100000
/-! Standings: made anew; a deed done. -/
namespace K14
open PySem L2

/-! ### a class of the module -/
def bodyOf : Stmt → List Stmt
  | .ClassDef (body := b) .. => b
  | _ => []
def mem (i j : Nat) : Stmt := (bodyOf (txt i)).getD j (.Pass ⟨0, 0, 0, 0⟩)
def MakAt (K : PySem.W.Frag) (mg : Str → Option Value) (x qual : Str) (C : Addr) (st : Stmt) (ps : List Str) : Prop :=
  ∃ (f : Addr) (fd : FuncData), Mk K C f ∧ Fun K "__init__" qual st f fd ∧ mg x = some (.ref C) ∧ Binds K fd ps []
def Ma (P : Program) (w : World) (K : PySem.W.Frag) (mg : Str → Option Value) (base : Heap) (x : Str) (C : Addr) (ps : List Str) (k : Nat) (sp : Sp) : Prop :=
  ∃ (f : Addr) (fd : FuncData), Mk K C f ∧ FnOk P w K mg base CX0 k f fd ps sp ∧ mg x = some (.ref C) ∧ Binds K fd ps []
theorem MakAt.ok {P : Program} {w : World} {K : PySem.W.Frag} {mg : Str → Option Value} {base : Heap} {x qual : Str} {C : Addr} {st : Stmt} {N ps : List Str} {k : Nat} {sp : Sp} (F : MakAt K mg x qual C st ps) (S : FnScope N ps (defScope st)) (len : ∀ vs H Q E, sp vs H Q E → vs.length = ps.length)
    (hbody : ∀ (f : Addr) (cdv : Value) (A : Around) (outer : List Env) (s : Shared) (H : Hp) (vs : List V) (Q : VK) (E : XK), Room k (A.deeper (PyProof.Rows.envOfC qual (defScope st) s.heap.objs.size f cdv)) → sp vs H Q E →
      ∃ t, PSs (cxOf CX0 P w K mg base N qual (defScope st) f cdv A outer s H E).nox (defBody st) t ∧ t { nx := fun _ H' => Q .non H', rt := Q } (start N vs) H) : Ma P w K mg base x C ps (k + 1) sp := by
  obtain ⟨f, fd, M, F, hm, hb⟩ := F
  exact ⟨f, fd, M, F.ok S len fun cdv A outer s H vs Q E hr h => hbody f cdv A outer s H vs Q E hr h, hm, hb⟩
theorem pe_ma {X : Cx} {x : Str} {C : Addr} {ps : List Str} {k : Nat} {sp : Sp} {e : Expr} {es : List Expr} {t : TA} {p pos : Pos} (D : Ma X.prog X.w X.K X.mg X.base x C ps k sp) (hr : Room (k + 1) X.A) (hg : Gl X x) (ha : PA X (e :: es) t)
    (hdb : (x == ("__debug__" : Str)) = false := by decide) (he : starEach (e :: es) X.env = (false, eval e X.env) :: starEach es X.env := by rfl) (hpl : (backTo pos (starEach es X.env)).any (·.1) = false := by rfl) :
    PE X (.Call (.Name x p) (e :: es) [] pos) (tMake C sp [] E0 t) := by
  obtain ⟨f, fd, M, F, hm, hb⟩ := D
  exact pe_make M F hr hg hm hb .nil pass0 ha hdb he hpl

/-! ### dict comprehensions over what is walked -/
theorem dc_it {J : It} {n : Nat} {G : Hp → Prop} {Y : Nat → Hp → V → Hp → Prop} (w : L2.Walk J n G Y) {g : TG} {tt : TT} {tk tv : TE} {vs : List Nat} {σ : L2.St} {H1 : Hp} {D : Addr} {Qd : Hp → Prop} (Pv : Nat → Hp → Prop) (h0 : Pv 0 (upd H1 D (.dK []))) (hG : ∀ i H, i ≤ n → Pv i H → G H)
    (hs : ∀ i x H H', i < n → Pv i H → Y i H x H' → g x (wipe σ vs) H' fun σ2 H2 => wipe σ2 vs = wipe σ vs ∧ tt σ2 H2 fun b H3 =>
      if b = true then tk σ2 H3 fun y H4 => tv σ2 H4 fun z H5 => ∃ kvs k, y = kV k ∧ H5 D = some (.dK kvs) ∧ kvs.length < sizeLine ∧ Pv (i + 1) (upd H5 D (.dK (putK kvs k z))) else Pv (i + 1) H3) (hd : ∀ H, Pv n H → Qd H) :
    ∃ W : Nat → Nat → Hp → Prop, (∃ m, W 0 m (upd H1 D (.dK []))) ∧ ∀ i m H, W i m H →
      (J.stop i H ∧ Qd H) ∨ (J.go i H ∧ ∃ Nx : Hp → Prop, (∀ H', Nx H' → ∃ m', m' < m ∧ W (i + 1) m' H') ∧ ∀ x H', J.yld i H x H' → g x (wipe σ vs) H' fun σ2 H2 => wipe σ2 vs = wipe σ vs ∧ tt σ2 H2 fun b H3 =>
        if b = true then tk σ2 H3 fun y H4 => tv σ2 H4 fun z H5 => ∃ kvs k, y = kV k ∧ H5 D = some (.dK kvs) ∧ kvs.length < sizeLine ∧ Nx (upd H5 D (.dK (putK kvs k z))) else Nx H3) := by
  refine ⟨fun i m H => m = n - i ∧ i ≤ n ∧ Pv i H, ⟨n, by simp, Nat.zero_le _, h0⟩, ?_⟩
  rintro i m H ⟨rfl, hi, p⟩
  have q := hG i H hi p
  by_cases hlt : i < n
  · exact .inr ⟨w.goes i H hlt q, Pv (i + 1), fun H' p' => ⟨n - (i + 1), by omega, rfl, hlt, p'⟩, fun x H' y => hs i x H H' hlt p (w.yields i H x H' hlt q y)⟩
  · have e : i = n := by omega
    subst e
    exact .inl ⟨w.stops H q, hd H p⟩

/-! ### rows put -/
theorem RowsAt.same_put {H : Hp} {p : Bool} {v : V} : ∀ {kvs : List (Key × V)} {rows : Rows}, RowsAt H kvs rows → (∀ y ∈ rows, y.1 ≠ p) → kvs.map (fun kv => if kv.1 = Sum.inl (pI p) then (kv.1, v) else kv) = kvs ∧ kvs.any (fun kv => decide (kv.1 = Sum.inl (pI p))) = false
  | _, _, .nil, _ => ⟨rfl, rfl⟩
  | _, _, .cons (a := a) (b := b) r t, h => by
    have ne : ¬ a.1 = Sum.inl (pI p) := fun z => h b List.mem_cons_self (pI_inj (r.1.symm.trans z))
    obtain ⟨h1, h2⟩ := RowsAt.same_put (v := v) t fun y hy => h y (List.mem_cons_of_mem _ hy)
    rw [List.map_cons, List.any_cons, if_neg ne, h1, h2, decide_eq_false ne]
    exact ⟨rfl, rfl⟩
theorem RowsAt.putR {H : Hp} {p : Bool} {v : V} {x : Rw} (hx : RwAt H v x) : ∀ {kvs : List (Key × V)} {rows : Rows}, RowsAt H kvs rows → (rows.map (·.1)).Nodup → RowsAt H (putK kvs (Sum.inl (pI p)) v) (putR rows p x)
  | _, _, .nil, _ => .cons ⟨rfl, hx⟩ .nil
  | _, _, .cons (a := a) (b := b) (l₁ := l1) (l₂ := l2) r t, hn => by
    rw [List.map_cons, List.nodup_cons] at hn
    have ih := RowsAt.putR (p := p) hx t hn.2
    obtain ⟨e, q⟩ := r
    obtain ⟨bp, br⟩ := b
    unfold L2.putK at ih ⊢
    unfold K14.putR
    rw [List.map_cons, List.any_cons]
    by_cases c : bp = p
    · have ea : a.1 = Sum.inl (pI p) := by rw [e, c]
      rw [if_pos c, if_pos ea, decide_eq_true ea, Bool.true_or, if_pos rfl]
      have hp : ∀ y ∈ l2, y.1 ≠ p := fun y hy z => hn.1 (List.mem_map.mpr ⟨y, hy, z.trans c.symm⟩)
      rw [(RowsAt.same_put (v := v) t hp).1]
      exact .cons ⟨e, hx⟩ t
    · have ea : ¬ a.1 = Sum.inl (pI p) := fun z => c (pI_inj (e.symm.trans z))
      rw [if_neg c, if_neg ea, decide_eq_false ea, Bool.false_or]
      by_cases g : (l1.any fun kv => decide (kv.1 = Sum.inl (pI p))) = true
      · rw [if_pos g] at ih ⊢
        exact .cons ⟨e, q⟩ ih
      · rw [if_neg g] at ih ⊢
        exact .cons ⟨e, q⟩ ih
theorem putR_new : ∀ {rows : Rows} {p : Bool} {x : Rw}, (∀ y ∈ rows, y.1 ≠ p) → putR rows p x = rows ++ [(p, x)]
  | [], _, _, _ => rfl
  | (q, y) :: r, p, x, h => by
    unfold putR
    rw [if_neg (h (q, y) List.mem_cons_self), putR_new fun y hy => h y (List.mem_cons_of_mem _ hy)]
    rfl
theorem items_at {H : Hp} {kvs : List (Key × V)} {rows : Rows} (h : RowsAt H kvs rows) {i : Nat} {x1 y1 : V} (hx : (fun i => kvs[i]?.map fun kv => kV kv.1) i = some x1) (hy : (fun i => kvs[i]?.map Prod.snd) i = some y1) :
    ∃ bp br, rows[i]? = some (bp, br) ∧ x1 = .int (pI bp) ∧ RwAt H y1 br := by
  dsimp only at hx hy
  cases hk : kvs[i]? with
  | none => rw [hk] at hx; cases hx
  | some kv =>
    rw [hk] at hx hy
    have hi : i < rows.length := by
      rw [← Paired.length h]
      rcases Nat.lt_or_ge i kvs.length with q | q
      · exact q
      · rw [List.getElem?_eq_none q] at hk; cases hk
    have ha : rows[i]? = some rows[i] := List.getElem?_eq_getElem hi
    obtain ⟨e1, q1⟩ := paired_at h hk ha
    refine ⟨rows[i].1, rows[i].2, ha, ?_, ?_⟩
    · rw [← Option.some.inj hx]
      show kV kv.1 = _
      rw [e1]
      rfl
    · rw [← Option.some.inj hy]
      exact q1
theorem take_new {rows : Rows} (h : (rows.map (·.1)).Nodup) {i : Nat} {a : Bool × Rw} (ha : rows[i]? = some a) : ∀ y ∈ rows.take i, y.1 ≠ a.1 := fun y hy z => by
  have hi : i < rows.length := by
    rcases Nat.lt_or_ge i rows.length with q | q
    · exact q
    · rw [List.getElem?_eq_none q] at ha; cases ha
  have hb : rows[i] = a := by rw [List.getElem?_eq_getElem hi] at ha; exact Option.some.inj ha
  have e : rows = rows.take i ++ (rows[i] :: rows.drop (i + 1)) := by rw [← List.drop_eq_getElem_cons hi, List.take_append_drop]
  rw [e, hb, List.map_append, List.nodup_append] at h
  exact h.2.2 y.1 (List.mem_map_of_mem hy) a.1 (by simp) z
def ndR (rows : Rows) : Prop := (rows.map (·.1)).Nodup
theorem nd2_nd {rows : Rows} (h : nd2 rows = true) : ndR rows := by
  unfold ndR
  rcases nd2_cases h with rfl | ⟨q, y, rfl⟩ | ⟨q, y, z, rfl⟩
  · exact List.nodup_nil
  · simp
  · cases q <;> simp
theorem nd2_len {rows : Rows} (h : nd2 rows = true) : rows.length ≤ 2 := by
  rcases nd2_cases h with rfl | ⟨q, y, rfl⟩ | ⟨q, y, z, rfl⟩ <;> simp
theorem dropR_filter : ∀ (rows : Rows) (p : Bool), dropR rows p = rows.filter fun x => !decide (x.1 = p)
  | [], _ => rfl
  | (q, y) :: r, p => by
    unfold dropR
    rw [List.filter_cons]
    by_cases c : q = p
    · rw [if_pos c, if_neg (by simp [c]), dropR_filter r p]
    · rw [if_neg c, if_pos (by simp [c]), dropR_filter r p]
theorem mark_many : ∀ {rows : Rows} {p : Bool} {m : Int} {o s : Bool}, rowAt rows p = some (.mk m o s) → 1 ≤ many rows
  | [], _, _, _, _, h => by simp [rowAt] at h
  | (q, .struck) :: r, p, m, o, s, h => by
    unfold rowAt at h
    split at h
    · cases h
    · exact mark_many (rows := r) h
  | (q, .mk _ _ _) :: r, p, m, o, s, h => Nat.succ_le_succ (Nat.zero_le _)
theorem elder_many (rows : Rows) (p : Bool) : b01 (markAt rows p).isSome ≤ (many rows : Int) := by
  cases h : markAt rows p with
  | none => exact Int.natCast_nonneg _
  | some m =>
    obtain ⟨o, e⟩ := markAt_some h
    have := mark_many e
    show (1 : Int) ≤ _
    omega

section
variable {P : Program} {w : World} {K : PySem.W.Frag} {mg : Str → Option Value} {base : Heap} {CR CS : Addr}
/-! ### Standing.__init__ -/
def spInitS (CS : Addr) : Sp := fun vs H Q _ => ∃ (p : Addr) (rv kv : V) (dx : Addr), vs = [.ref p, rv, kv] ∧ H p = some (.ins CS dx []) ∧ ∀ H', (∀ b, b ≠ p → H' b = H b) → H' p = some (.ins CS dx [("rows", rv), ("kept", kv)]) → Q .non H'
theorem scInitS : FnScope ["self", "rows", "kept"] ["self", "rows", "kept"] (defScope (mem 28 0)) := ⟨rfl, rfl, rfl, by decide +kernel, rfl, by decide +kernel, by decide +kernel⟩
theorem ma_standing (T : Txt K w mg CR CS) (F : MakAt K mg "Standing" "Standing.__init__" CS (mem 28 0) ["self", "rows", "kept"]) : Ma P w K mg base "Standing" CS ["self", "rows", "kept"] 1 (spInitS CS) := by
  refine F.ok scInitS (fun vs H Q E h => ?_) (fun f cdv A outer s H vs Q E hr h => ?_)
  · obtain ⟨p, rv, kv, dx, rfl, _⟩ := h
    rfl
  · obtain ⟨p, rv, kv, dx, rfl, hp, k⟩ := h
    refine ⟨_, pss_cons (ps_fld (pv 0) (pv 1) rfl) (pss_one (ps_fld (pv 0) (pv 2) rfl)), ?_⟩
    refine ⟨_, rfl, _, rfl, p, CS, dx, _, rfl, hp, T.clS, T.nRows, (by show 0 < 1000; decide), ?_⟩
    refine ⟨_, rfl, _, rfl, p, CS, dx, _, rfl, upd_same, T.clS, T.nKept, (by show 1 < 1000; decide), ?_⟩
    exact k _ (fun b hb => by rw [upd_ne hb, upd_ne hb]) upd_same
/-- a standing made -/
theorem made_sg {H : Hp} {Q : VK} {d : Addr} {kvs : List (Key × V)} {rows : Rows} {kv : V} {n : Option (Int × Int)} (hd : H d = some (.dK kvs)) (hr : RowsAt H kvs rows) (hk : NumAt H kv n) (q : ∀ x H', Same H H' → SgAt CS H' x ⟨rows, n⟩ → Q (.ref x) H') :
    ∀ x dx, H x = none → H dx = none → dx ≠ x → spInitS CS (.ref x :: ([.ref d, kv] ++ [])) (upd (upd H dx (.own x)) x (.ins CS dx [])) (fun v H2 => v = .non ∧ Q (.ref x) H2) E0 := by
  intro x dx hx hdx hne
  refine ⟨x, .ref d, kv, dx, rfl, upd_same, fun H' h1 h2 => ⟨rfl, ?_⟩⟩
  have s : Same H H' := fun b o e => by
    have nb : b ≠ x := ne_of_none e hx
    have nb2 : b ≠ dx := ne_of_none e hdx
    rw [h1 b nb, upd_ne nb, upd_ne nb2]
    exact e
  exact q x H' s ⟨dx, d, kvs, kv, h2, s _ _ hd, hr.mono (SameN.of s), hk.mono (SameN.of s)⟩

/-! ### without -/
def spWithout : Sp := fun vs H Q _ => ∃ (d : Addr) (p : Bool) (kvs : List (Key × V)) (rows : Rows), vs = [.ref d, .int (pI p)] ∧ H d = some (.dK kvs) ∧ RowsAt H kvs rows ∧ nd2 rows = true ∧ ∀ d' kvs' H', Same H H' → H' d' = some (.dK kvs') → RowsAt H' kvs' (dropR rows p) → Q (.ref d') H'
theorem scWithout : FnScope ["rows", "person", "other", "row"] ["rows", "person"] (defScope (txt 36)) := ⟨rfl, rfl, rfl, by decide +kernel, rfl, by decide +kernel, by decide +kernel⟩
theorem df_without (T : Txt K w mg CR CS) (F : FunAt K mg "without" (txt 36) ["rows", "person"]) : Df P w K mg base "without" ["rows", "person"] 1 spWithout := by
  refine F.ok scWithout (fun vs H Q E h => ?_) (fun f cdv A outer s H vs Q E hr h => ?_)
  · obtain ⟨d, p, kvs, rows, rfl, _⟩ := h
    rfl
  · obtain ⟨d, p, kvs, rows, rfl, hd, h3, hn, k⟩ := h
    refine ⟨_, pss_one (ps_ret (pe_lock (pe_dc (own := [("other", 2), ("row", 3)]) (g := gTup K 2 (gCons (gName 2) (gCons (gName 3) gNil))) (tt := tTest (tOp rNe (tVar 2) (tVar 1))) (tk := tVar 2) (tv := tVar 3) rfl scWithout.nd (pi_items (pv 0)) (blkOk_by (N := ["rows", "person", "other", "row"]) (sc := defScope (txt 36)) (by decide +kernel))
      (fun _ _ _ _ _ => pg_tup (by rfl) (pgs_cons (pg_name (i := 2) scWithout.nd rfl (Or.inl rfl)) (pgs_cons (pg_name (i := 3) scWithout.nd rfl (Or.inl rfl)) pgs_nil))) (fun _ _ _ _ _ => pts_one (pt_cmpR op_ne (pv 2) (pv 1) (nomark _)))
      (fun _ _ _ _ _ => pv 2) (fun _ _ _ _ _ => pv 3)))), ?_⟩
    have hlen : kvs.length = rows.length := Paired.length h3
    have h2l := nd2_len hn
    refine ⟨d, _, hd, True.intro, fun od => ?_⟩
    have hr3 : RowsAt (upd H d (HO.frz od (.dK kvs))) kvs rows := Paired.mapP h3 fun _ _ z => ⟨z.1, z.2.off hd⟩
    refine ⟨_, rfl, d, od, kvs, rfl, upd_same, fun D hD => ?_⟩
    refine dc_it (walk_items (d := d) (o := od) (kvs := kvs)) (fun i H1 => Same (upd H d (HO.frz od (.dK kvs))) H1 ∧ ∃ us, H1 D = some (.dK us) ∧ us.length ≤ i ∧ RowsAt H1 us ((rows.take i).filter fun x => !decide (x.1 = p))) ?_ (fun i H1 _ h => h.1 _ _ upd_same) ?_ ?_
    · exact ⟨same_upd hD, [], upd_same, Nat.le_refl _, .nil⟩
    · rintro i x H1 H1' hi ⟨s1, us, hu, hl, pr⟩ ⟨Tt, x1, y1, rfl, hT, rfl, hx1, hy1⟩
      obtain ⟨bp, br, ha, rfl, q1⟩ := items_at hr3 hx1 hy1
      have tk : rows.take (i + 1) = rows.take i ++ [(bp, br)] := by rw [List.take_add_one, ha]; rfl
      have sT : Same H1 (upd H1 Tt (.tup [.int (pI bp), y1])) := same_upd hT
      refine ⟨Tt, _, rfl, SqT.of upd_same, rfl, _, _, rfl, _, _, rfl, rfl, rfl, ?_⟩
      refine ⟨_, rfl, _, rfl, rfl, _, rfl, ?_⟩
      have hs12 := s1.trans sT
      by_cases c : bp = p
      · subst c
        refine itF (by simp [kV]) ⟨hs12, us, sT _ _ hu, by omega, ?_⟩
        rw [tk, List.filter_append, List.filter_cons_of_neg (by simp), List.filter_nil, List.append_nil]
        exact pr.mono (SameN.of sT)
      · have ne : (V.int (pI bp)) ≠ V.int (pI p) := fun z => c (pI_inj (by rw [V.int.inj z]))
        refine itT (by simp [kV]; exact fun z => ne (by rw [z])) ⟨_, rfl, _, rfl, us, Sum.inl (pI bp), rfl, sT _ _ hu, Nat.lt_of_le_of_lt (show us.length ≤ 2 by omega) (by decide), ?_⟩
        have sD : Same (upd H d (HO.frz od (.dK kvs))) (upd (upd H1 Tt (.tup [.int (pI bp), y1])) D (.dK (putK us (Sum.inl (pI bp)) y1))) := sput hs12 hD
        refine ⟨sD, _, upd_same, Nat.le_trans (length_putK _ _ _) (by omega), ?_⟩
        rw [tk, List.filter_append, List.filter_cons_of_pos (by simp [c]), List.filter_nil]
        have hnd := nd2_nd hn
        have hnew : ∀ y ∈ (rows.take i).filter (fun x => !decide (x.1 = p)), y.1 ≠ bp := fun y hy z => by
          have hy2 := (List.mem_filter.mp hy).1
          unfold ndR at hnd
          exact take_new hnd ha y hy2 z
        rw [← putR_new hnew]
        refine RowsAt.putR ((q1.mono (SameN.of hs12)).off (sT _ _ hu)) ?_ ?_
        · exact Paired.mapP pr fun a b z => ⟨z.1, (z.2.mono (SameN.of sT)).off (sT _ _ hu)⟩
        · exact (((List.filter_sublist (l := rows.take i)).trans (List.take_sublist i rows)).map _).nodup hnd
    · rintro H1 ⟨s1, us, hu, hl, pr⟩
      rw [hlen, List.take_length, ← dropR_filter] at pr
      have e1 : H1 d = some (HO.frz od (.dK kvs)) := s1 _ _ upd_same
      have nD : D ≠ d := fun z => by rw [z, e1] at hu; cases hu
      refine ⟨e1, k D us _ (same_unlock hd s1) (by rw [upd_ne nD]; exact hu) ?_⟩
      refine Paired.mapP pr fun a b z => ⟨z.1, ?_⟩
      obtain ⟨bp, br⟩ := b
      cases br with
      | struck => exact z.2
      | mk m o st =>
        obtain ⟨t, e, q⟩ := z.2
        exact ⟨t, e, by rw [upd_ne (fun z => by rw [z, e1] at q; cases q)]; exact q⟩
end
end K14
end
section
set_option Elab.async false
set_option linter.all false
set_option maxRecDepth 100000
/-! Standings: deeds done. -/
namespace K14
open PySem L2

section
variable {P : Program} {w : World} {K : PySem.W.Frag} {mg : Str → Option Value} {base : Heap} {CR CS : Addr}
theorem RwAt.of {H : Hp} {t : Addr} {m : Int} {o s : Bool} (h : H t = some (.tup [.int m, .bl o, .bl s])) : RwAt H (.ref t) (.mk m o s) := ⟨t, rfl, h⟩
theorem rows_at {H : Hp} {kvs : List (Key × V)} {rows : Rows} (h : RowsAt H kvs rows) {p : Bool} {x : Rw} (e : rowAt rows p = some x) : ∃ v, valV kvs (Sum.inl (pI p)) = some v ∧ RwAt H v x := by
  obtain ⟨o, e1, q, i⟩ := rows_get h p
  rw [e] at q i
  cases o with
  | none => cases i
  | some v => exact ⟨v, e1, q⟩
/-! ### marked, taken_back, struck_one -/
def spMarked (CR CS : Addr) : Sp := fun vs H Q _ => ∃ (p q : Addr) (r : Ru) (S : Sg) (b : Bool) (m : Int), vs = [.ref p, .ref q, .int (pI b), .int m] ∧ RuleAt CR H p r ∧ SgAt CS H q S ∧ SgOk S ∧ nd2 S.rows = true ∧
  ∀ x H', Same H H' → SgAt CS H' x (marked r S b m) → Q (.ref x) H'
theorem scMarked : FnScope ["rule", "standing", "person", "mark", "kept"] ["rule", "standing", "person", "mark"] (defScope (txt 37)) := ⟨rfl, rfl, rfl, by decide +kernel, rfl, by decide +kernel, by decide +kernel⟩
theorem df_marked (T : Txt K w mg CR CS) (F : FunAt K mg "marked" (txt 37) ["rule", "standing", "person", "mark"]) (DK : Df P w K mg base "kept_by" ["rule", "standing", "elder", "mark"] 5 (spKept CR CS)) (DM : Df P w K mg base "mark_of" ["standing", "person"] 1 (spMarkOf CS))
    (DS : Ma P w K mg base "Standing" CS ["self", "rows", "kept"] 1 (spInitS CS)) : Df P w K mg base "marked" ["rule", "standing", "person", "mark"] 6 (spMarked CR CS) := by
  refine F.ok scMarked (fun vs H Q E h => ?_) (fun f cdv A outer s H vs Q E hr h => ?_)
  · obtain ⟨p, q, r, S, b, m, rfl, _⟩ := h
    rfl
  · obtain ⟨p, q, r, S, b, m, rfl, hR, hS, ok, hn, k⟩ := h
    refine ⟨_, pss_cons (ps_set (i := 4) scMarked.nd rfl (Or.inl rfl) (pe_df DK hr rfl (pa_cons (pv 0) (pa_cons (pv 1) (pa_cons (pe_df DM (hr.mono (by decide)) rfl (pa_cons (pv 1) (pa_cons (pv 2) pa_nil))) (pa_cons (pv 3) pa_nil))))))
      (pss_one (ps_ret (pe_ma DS (hr.mono (by decide)) rfl (pa_cons (pe_spread (pe_fld (pv 1) rfl) (pv 2) (pe_tup (pa_cons (pv 3) (pa_cons pe_bl (pa_cons pe_bl pa_nil))))) (pa_cons (pv 4) pa_nil))))), ?_⟩
    refine ⟨_, rfl, _, rfl, _, rfl, _, rfl, q, b, S, rfl, hS, _, rfl, p, q, r, S, markAt S.rows b, some m, rfl, hR, hS, ok, elder_many _ _, fun v H1 s1 hv => ?_⟩
    obtain ⟨dx2, d2, kvs, kv, q1, q2, q3, q4⟩ := hS.mono (SameN.of s1)
    have hl : kvs.length = S.rows.length := Paired.length q3
    have h2l := nd2_len hn
    refine ⟨_, rfl, q, CS, dx2, _, _, rfl, q1, T.clS, T.nRows, sg_look1, d2, kvs, rfl, .inl q2, Nat.le_trans (show kvs.length + 1 ≤ 3 by omega) (by decide), ?_⟩
    refine ⟨_, rfl, _, rfl, (by show 3 ≤ sizeLine; decide), fun t ht => ⟨Sum.inl (pI b), rfl, fun d3 hd3 => ?_⟩⟩
    have s2 := same_upd (o := .tup [.int m, .bl false, .bl false]) ht
    have s3 := snew s2 (o := .dK (putK kvs (Sum.inl (pI b)) (.ref t))) hd3
    have s13 := s1.trans s3
    exact ⟨_, rfl, made_sg upd_same (RowsAt.putR (RwAt.of ((same_upd hd3) _ _ upd_same)) (q3.mono (SameN.of s3)) (nd2_nd hn)) (hv.mono (SameN.of s3)) fun x H4 s4 hx => k x H4 (s13.trans s4) hx⟩
def spTaken (CR CS : Addr) : Sp := fun vs H Q _ => ∃ (p q : Addr) (r : Ru) (S : Sg) (b : Bool), vs = [.ref p, .ref q, .int (pI b)] ∧ RuleAt CR H p r ∧ SgAt CS H q S ∧ SgOk S ∧ nd2 S.rows = true ∧
  ∀ x H', Same H H' → SgAt CS H' x (takenBack r S b) → Q (.ref x) H'
theorem scTaken : FnScope ["rule", "standing", "person", "kept"] ["rule", "standing", "person"] (defScope (txt 38)) := ⟨rfl, rfl, rfl, by decide +kernel, rfl, by decide +kernel, by decide +kernel⟩
theorem df_taken (T : Txt K w mg CR CS) (F : FunAt K mg "taken_back" (txt 38) ["rule", "standing", "person"]) (DK : Df P w K mg base "kept_by" ["rule", "standing", "elder", "mark"] 5 (spKept CR CS)) (DM : Df P w K mg base "mark_of" ["standing", "person"] 1 (spMarkOf CS))
    (DW : Df P w K mg base "without" ["rows", "person"] 1 spWithout) (DS : Ma P w K mg base "Standing" CS ["self", "rows", "kept"] 1 (spInitS CS)) : Df P w K mg base "taken_back" ["rule", "standing", "person"] 6 (spTaken CR CS) := by
  refine F.ok scTaken (fun vs H Q E h => ?_) (fun f cdv A outer s H vs Q E hr h => ?_)
  · obtain ⟨p, q, r, S, b, rfl, _⟩ := h
    rfl
  · obtain ⟨p, q, r, S, b, rfl, hR, hS, ok, hn, k⟩ := h
    refine ⟨_, pss_cons (ps_set (i := 3) scTaken.nd rfl (Or.inl rfl) (pe_df DK hr rfl (pa_cons (pv 0) (pa_cons (pv 1) (pa_cons (pe_df DM (hr.mono (by decide)) rfl (pa_cons (pv 1) (pa_cons (pv 2) pa_nil))) (pa_cons pe_non pa_nil))))))
      (pss_one (ps_ret (pe_ma DS (hr.mono (by decide)) rfl (pa_cons (pe_df DW (hr.mono (by decide)) rfl (pa_cons (pe_fld (pv 1) rfl) (pa_cons (pv 2) pa_nil))) (pa_cons (pv 3) pa_nil))))), ?_⟩
    refine ⟨_, rfl, _, rfl, _, rfl, _, rfl, q, b, S, rfl, hS, p, q, r, S, markAt S.rows b, none, rfl, hR, hS, ok, elder_many _ _, fun v H1 s1 hv => ?_⟩
    obtain ⟨dx2, d2, kvs, kv, q1, q2, q3, q4⟩ := hS.mono (SameN.of s1)
    refine ⟨_, rfl, q, CS, dx2, _, _, rfl, q1, T.clS, T.nRows, sg_look1, _, rfl, d2, b, kvs, S.rows, rfl, q2, q3, hn, fun d' kvs' H2 s2 h1 h2 => ?_⟩
    exact ⟨_, rfl, made_sg h1 h2 (hv.mono (SameN.of s2)) fun x H4 s4 hx => k x H4 ((s1.trans s2).trans s4) hx⟩
def spStruckOne (CR CS : Addr) : Sp := fun vs H Q _ => ∃ (p q : Addr) (r : Ru) (S : Sg) (b : Bool), vs = [.ref p, .ref q, .int (pI b)] ∧ RuleAt CR H p r ∧ SgAt CS H q S ∧ SgOk S ∧ nd2 S.rows = true ∧
  ∀ x H', Same H H' → SgAt CS H' x (struckOne r S b) → Q (.ref x) H'
theorem scStruckOne : FnScope ["rule", "standing", "person", "mark"] ["rule", "standing", "person"] (defScope (txt 39)) := ⟨rfl, rfl, rfl, by decide +kernel, rfl, by decide +kernel, by decide +kernel⟩
theorem df_struckone (T : Txt K w mg CR CS) (F : FunAt K mg "struck_one" (txt 39) ["rule", "standing", "person"]) (DK : Df P w K mg base "kept_by" ["rule", "standing", "elder", "mark"] 5 (spKept CR CS)) (DM : Df P w K mg base "mark_of" ["standing", "person"] 1 (spMarkOf CS))
    (DS : Ma P w K mg base "Standing" CS ["self", "rows", "kept"] 1 (spInitS CS)) : Df P w K mg base "struck_one" ["rule", "standing", "person"] 6 (spStruckOne CR CS) := by
  refine F.ok scStruckOne (fun vs H Q E h => ?_) (fun f cdv A outer s H vs Q E hr h => ?_)
  · obtain ⟨p, q, r, S, b, rfl, _⟩ := h
    rfl
  · obtain ⟨p, q, r, S, b, rfl, hR, hS, ok, hn, k⟩ := h
    have hu := hu_of hr
    obtain ⟨tS, mS⟩ := T.struck
    refine ⟨_, pss_cons (ps_set (i := 3) scStruckOne.nd rfl (Or.inl rfl) (pe_df DM (hr.mono (by decide)) rfl (pa_cons (pv 1) (pa_cons (pv 2) pa_nil))))
      (pss_cons (ps_if (pt_cmpR op_isN (pv 3) pe_non (nomark _)) (pss_one (ps_ret (pe_ma DS (hr.mono (by decide)) rfl (pa_cons (pe_spread (pe_fld (pv 1) rfl) (pv 2) (pe_glob (v := V.str "struck") (by rfl) mS ⟨_, rfl⟩)) (pa_cons (pe_fld (pv 1) rfl) pa_nil))))) pss_nil)
      (pss_cons (ps_if (pt_cmpR op_eq (pe_dget hu (pe_fld (pv 0) rfl) pe_str (fun _ _ => rfl)) pe_str (nomark _)) (pss_one (ps_ret (pe_ma DS (hr.mono (by decide)) rfl (pa_cons (pe_spread (pe_fld (pv 1) rfl) (pv 2) (pe_tup (pa_cons (pv 3) (pa_cons (pe_ix ix_tup (pe_dget hu (pe_fld (pv 1) rfl) (pv 2) (fun _ _ => rfl)) pe_int (fun _ _ => rfl)) (pa_cons pe_bl pa_nil))))) (pa_cons (pe_fld (pv 1) rfl) pa_nil))))) pss_nil)
      (pss_one (ps_ret (pe_ma DS (hr.mono (by decide)) rfl (pa_cons (pe_spread (pe_fld (pv 1) rfl) (pv 2) (pe_glob (v := V.str "struck") (by rfl) mS ⟨_, rfl⟩)) (pa_cons (pe_df DK hr rfl (pa_cons (pv 0) (pa_cons (pv 1) (pa_cons (pv 3) (pa_cons pe_non pa_nil))))) pa_nil))))))), ?_⟩
    obtain ⟨dx2, d2, kvs, kv, q1, q2, q3, q4⟩ := id hS
    have hl : kvs.length = S.rows.length := Paired.length q3
    have h2l := nd2_len hn
    have hsz : kvs.length + 1 ≤ sizeLine := Nat.le_trans (show kvs.length + 1 ≤ 3 by omega) (by decide)
    refine ⟨_, rfl, _, rfl, q, b, S, rfl, hS, _, rfl, rfl, _, rfl, ?_⟩
    rw [oI_none]
    unfold struckOne at k
    have hmm := elder_many S.rows b
    cases hm : markAt S.rows b with
    | none =>
      rw [hm] at k
      refine itT rfl ?_
      refine ⟨_, rfl, q, CS, dx2, _, _, rfl, q1, T.clS, T.nRows, sg_look1, d2, kvs, rfl, .inl q2, hsz, ?_⟩
      refine ⟨_, rfl, Sum.inl (pI b), rfl, fun d3 hd3 => ?_⟩
      have s3 := same_upd (o := .dK (putK kvs (Sum.inl (pI b)) (.str "struck"))) hd3
      refine ⟨_, rfl, q, CS, dx2, _, _, rfl, s3 _ _ q1, T.clS, T.nKept, sg_look2, ?_⟩
      exact made_sg upd_same (RowsAt.putR (x := .struck) rfl (q3.mono (SameN.of s3)) (nd2_nd hn)) (q4.mono (SameN.of s3)) fun x H4 s4 hx => k x H4 (s3.trans s4) hx
    | some m =>
      rw [hm] at k hmm
      refine itF rfl ?_
      obtain ⟨dx, d, g1, g2⟩ := id hR
      obtain ⟨ol, er⟩ := markAt_some hm
      refine ⟨_, rfl, p, CR, dx, _, _, rfl, g1, T.clR, T.nW, rfl, d, _, rfl, dg_struck g2, rfl, _, rfl, ?_⟩
      cases hst : r.stay with
      | true =>
        dsimp only at k
        rw [hst, if_pos rfl] at k
        refine itT (by decide +kernel) ?_
        obtain ⟨v, ev, ra⟩ := rows_at q3 er
        obtain ⟨t0, rfl, ht0⟩ := ra
        refine ⟨_, rfl, q, CS, dx2, _, _, rfl, q1, T.clS, T.nRows, sg_look1, d2, kvs, rfl, .inl q2, hsz, ?_⟩
        refine ⟨_, rfl, _, rfl, ⟨_, rfl, q, CS, dx2, _, _, rfl, q1, T.clS, T.nRows, sg_look1, _, rfl, d2, _, rfl, ev ▸ DGet.k (k := Sum.inl (pI b)) q2, t0, _, _, _, rfl, rfl, SqT.of ht0, rfl, (by show 3 ≤ sizeLine; decide), fun t ht => ⟨Sum.inl (pI b), rfl, fun d3 hd3 => ?_⟩⟩⟩
        have eo : oldAt S.rows b = ol := by unfold oldAt; rw [er]
        rw [eo] at k
        have s2 := same_upd (o := .tup [.int m, .bl ol, .bl true]) ht
        have s3 := snew s2 (o := .dK (putK kvs (Sum.inl (pI b)) (.ref t))) hd3
        refine ⟨_, rfl, q, CS, dx2, _, _, rfl, s3 _ _ q1, T.clS, T.nKept, sg_look2, ?_⟩
        exact made_sg upd_same (RowsAt.putR (RwAt.of ((same_upd hd3) _ _ upd_same)) (q3.mono (SameN.of s3)) (nd2_nd hn)) (q4.mono (SameN.of s3)) fun x H4 s4 hx => k x H4 (s3.trans s4) hx
      | false =>
        dsimp only at k
        rw [hst, if_neg (by simp)] at k
        refine itF (by decide +kernel) ?_
        refine ⟨_, rfl, q, CS, dx2, _, _, rfl, q1, T.clS, T.nRows, sg_look1, d2, kvs, rfl, .inl q2, hsz, ?_⟩
        refine ⟨_, rfl, Sum.inl (pI b), rfl, fun d3 hd3 => ?_⟩
        have s3 := same_upd (o := .dK (putK kvs (Sum.inl (pI b)) (.str "struck"))) hd3
        refine ⟨_, rfl, _, rfl, _, rfl, p, q, r, S, some m, none, rfl, hR.mono (SameN.of s3), hS.mono (SameN.of s3), ok, hmm, fun v H4 s4 hv => ?_⟩
        exact made_sg (s4 _ _ upd_same) (RowsAt.mono (SameN.of s4) (RowsAt.putR (x := .struck) rfl (q3.mono (SameN.of s3)) (nd2_nd hn))) hv fun x H5 s5 hx => k x H5 ((s3.trans s4).trans s5) hx

/-! ### behind_night -/
def spNight (CS : Addr) : Sp := fun vs H Q _ => ∃ (q : Addr) (S : Sg), vs = [.ref q] ∧ SgAt CS H q S ∧ nd2 S.rows = true ∧ ∀ x H', Same H H' → SgAt CS H' x (night S) → Q (.ref x) H'
theorem scNight : FnScope ["standing", "rows", "person", "row"] ["standing"] (defScope (txt 40)) := ⟨rfl, rfl, rfl, by decide +kernel, rfl, by decide +kernel, by decide +kernel⟩
theorem df_night (T : Txt K w mg CR CS) (F : FunAt K mg "behind_night" (txt 40) ["standing"]) (DS : Ma P w K mg base "Standing" CS ["self", "rows", "kept"] 1 (spInitS CS)) : Df P w K mg base "behind_night" ["standing"] 3 (spNight CS) := by
  refine F.ok scNight (fun vs H Q E h => ?_) (fun f cdv A outer s H vs Q E hr h => ?_)
  · obtain ⟨q, S, rfl, _⟩ := h
    rfl
  · obtain ⟨q, S, rfl, hS, hn, k⟩ := h
    have hu := hu_of hr
    obtain ⟨tS, mS⟩ := T.struck
    refine ⟨_, pss_cons (ps_set (i := 1) scNight.nd rfl (Or.inl rfl) pe_dnewK)
      (pss_cons (ps_lock (ps_for PassesOwn.never rfl (pi_items (pe_fld (pv 0) rfl)) (pg_tup (by rfl) (pgs_cons (pg_name (i := 2) scNight.nd rfl (Or.inl rfl)) (pgs_cons (pg_name (i := 3) scNight.nd rfl (Or.inl rfl)) pgs_nil)))
        (pss_one (ps_dput hu (pv 1) (pv 2) (pe_ifExp (pt_cmpR (op_eqD hr.units) (pv 3) (pe_glob (v := V.str "struck") (by rfl) mS ⟨_, rfl⟩) (nomark _)) (pv 3) (pe_tup (pa_cons (pe_ix ix_tup (pv 3) pe_int (fun _ _ => rfl)) (pa_cons pe_bl (pa_cons (pe_ix ix_tup (pv 3) pe_int (fun _ _ => rfl)) pa_nil))))) rfl))))
      (pss_one (ps_ret (pe_ma DS hr rfl (pa_cons (pv 1) (pa_cons (pe_fld (pv 0) rfl) pa_nil)))))), ?_⟩
    obtain ⟨dx, d, kvs, kv, q1, q2, q3, q4⟩ := id hS
    have hl : kvs.length = S.rows.length := Paired.length q3
    have h2l := nd2_len hn
    refine fun D hD => ?_
    have nDd : d ≠ D := ne_of_none q2 hD
    have q2' : (upd H D (.dK [])) d = some (.dK kvs) := by rw [upd_ne nDd]; exact q2
    refine ⟨d, _, q2', True.intro, fun od => ?_⟩
    have sL : Same (upd H d (HO.frz od (.dK kvs))) (upd (upd H D (.dK [])) d (HO.frz od (.dK kvs))) := fun b o e => by
      by_cases c : b = d
      · subst c; rw [upd_same] at e ⊢; exact e
      · rw [upd_ne c] at e ⊢
        rw [upd_ne (ne_of_none e hD)]; exact e
    have npd : q ≠ d := ne_of q1 q2 (by intro z; cases z)
    have hq : (upd H d (HO.frz od (.dK kvs))) q = some (.ins CS dx [("rows", .ref d), ("kept", kv)]) := by rw [upd_ne npd]; exact q1
    have hDL : (upd H d (HO.frz od (.dK kvs))) D = none := by rw [upd_ne (fun z => nDd z.symm)]; exact hD
    have hr3 : RowsAt (upd H d (HO.frz od (.dK kvs))) kvs S.rows := Paired.mapP q3 fun _ _ z => ⟨z.1, z.2.off q2⟩
    refine ⟨_, rfl, q, CS, dx, _, _, rfl, sL _ _ hq, T.clS, T.nRows, sg_look1, d, od, kvs, rfl, upd_same, ?_⟩
    refine for_it (walk_items (d := d) (o := od) (kvs := kvs)) (fun i σ H1 => (∃ x2 x3, σ = [some (.ref q), some (.ref D), x2, x3]) ∧ Same (upd H d (HO.frz od (.dK kvs))) H1 ∧ ∃ us, H1 D = some (.dK us) ∧ us.length ≤ i ∧ RowsAt H1 us ((S.rows.take i).map fun x => (x.1, aged x.2))) ?_ (fun i σ H1 _ h => h.2.1 _ _ upd_same) ?_ ?_
    · exact ⟨⟨_, _, rfl⟩, sL, [], by rw [upd_ne (fun z => nDd z.symm), upd_same], Nat.le_refl _, .nil⟩
    · rintro i x σ H1 H1' hi ⟨⟨x2, x3, rfl⟩, s1, us, hus, hl1, pr⟩ ⟨Tt, x1, y1, rfl, hT, rfl, hx1, hy1⟩
      obtain ⟨bp, br, ha, rfl, r1⟩ := items_at hr3 hx1 hy1
      have tk : S.rows.take (i + 1) = S.rows.take i ++ [(bp, br)] := by rw [List.take_add_one, ha]; rfl
      have sT : Same H1 (upd H1 Tt (.tup [.int (pI bp), y1])) := same_upd hT
      have hs12 := s1.trans sT
      have rr := r1.mono (SameN.of hs12)
      have hnd := nd2_nd hn
      have hnew : ∀ y ∈ (S.rows.take i).map (fun x => (x.1, aged x.2)), y.1 ≠ bp := fun y hy z => by
        obtain ⟨y0, hy0, rfl⟩ := List.mem_map.mp hy
        exact take_new hnd ha y0 hy0 z
      have hndm : (((S.rows.take i).map fun x => (x.1, aged x.2)).map (·.1)).Nodup := by
        rw [List.map_map]
        exact ((List.take_sublist i S.rows).map _).nodup hnd
      have hz : us.length < sizeLine := Nat.lt_of_le_of_lt (show us.length ≤ 2 by omega) (by decide)
      -- what stands behind the turn
      have fin : ∀ (v : V) (H2 : Hp), Same (upd H1 Tt (.tup [.int (pI bp), y1])) H2 → RwAt H2 v (aged br) →
          (∃ x2 x3, [some (V.ref q), some (V.ref D), some (V.int (pI bp)), some y1] = [some (.ref q), some (.ref D), x2, x3]) ∧ Same (upd H d (HO.frz od (.dK kvs))) (upd H2 D (.dK (putK us (Sum.inl (pI bp)) v))) ∧
          ∃ us', (upd H2 D (.dK (putK us (Sum.inl (pI bp)) v))) D = some (.dK us') ∧ us'.length ≤ i + 1 ∧ RowsAt (upd H2 D (.dK (putK us (Sum.inl (pI bp)) v))) us' ((S.rows.take (i + 1)).map fun x => (x.1, aged x.2)) := by
        intro v H2 s2 hv
        have h2 : H2 D = some (.dK us) := s2 _ _ (sT _ _ hus)
        refine ⟨⟨_, _, rfl⟩, sput (hs12.trans s2) hDL, _, upd_same, Nat.le_trans (length_putK _ _ _) (by omega), ?_⟩
        rw [tk, List.map_append, List.map_cons, List.map_nil, ← putR_new hnew]
        refine RowsAt.putR (hv.off h2) ?_ hndm
        exact Paired.mapP pr fun a b z => ⟨z.1, (z.2.mono (SameN.of (sT.trans s2))).off h2⟩
      refine ⟨Tt, _, rfl, SqT.of upd_same, rfl, _, _, rfl, _, _, rfl, rfl, ?_⟩
      refine ⟨_, rfl, rwD br, .str "struck", rr.dp, .str _, rwD_shaped _, struck_shaped, _, rfl, ?_⟩
      rw [rwD_eqv]
      cases br with
      | struck =>
        refine itT rfl ⟨_, rfl, _, rfl, _, rfl, D, _, rfl, DPut.k (k := Sum.inl (pI bp)) (sT _ _ hus) hz, ?_⟩
        exact fin y1 _ (Same.refl _) rr
      | mk m ol st =>
        obtain ⟨t, rfl, ht⟩ := rr
        refine itF rfl ⟨_, rfl, t, _, _, _, rfl, rfl, SqT.of ht, rfl, _, rfl, t, _, _, _, rfl, rfl, SqT.of ht, rfl, (by show 3 ≤ sizeLine; decide), fun t2 ht2 => ?_⟩
        have s2 : Same (upd H1 Tt (.tup [.int (pI bp), .ref t])) (upd (upd H1 Tt (.tup [.int (pI bp), .ref t])) t2 (.tup [.int m, .bl true, .bl st])) := same_upd ht2
        refine ⟨_, rfl, _, rfl, D, _, rfl, DPut.k (k := Sum.inl (pI bp)) (s2 _ _ (sT _ _ hus)) hz, ?_⟩
        exact fin (.ref t2) _ s2 (RwAt.of upd_same)
    · rintro σ H1 ⟨⟨x2, x3, rfl⟩, s1, us, hus, hl1, pr⟩
      rw [hl, List.take_length] at pr
      have e1 : H1 d = some (HO.frz od (.dK kvs)) := s1 _ _ upd_same
      have nD : D ≠ d := fun z => nDd z.symm
      have s2 := same_unlock q2 s1
      refine ⟨e1, ?_⟩
      refine ⟨_, rfl, _, rfl, q, CS, dx, _, _, rfl, s2 _ _ q1, T.clS, T.nKept, sg_look2, ?_⟩
      refine made_sg (d := D) (kvs := us) (by rw [upd_ne nD]; exact hus) ?_ (q4.mono (SameN.of s2)) fun x H4 s4 hx => k x H4 (s2.trans s4) hx
      refine Paired.mapP pr fun a b z => ⟨z.1, ?_⟩
      obtain ⟨bp, br⟩ := b
      cases br with
      | struck => exact z.2
      | mk m o st =>
        obtain ⟨t, e, q⟩ := z.2
        exact ⟨t, e, by rw [upd_ne (fun z => by rw [z, e1] at q; cases q)]; exact q⟩
end
end K14
end
section
set_option Elab.async false
set_option linter.all false
set_option maxRecDepth 100000
/-! done; key_of; first_standing. -/
namespace K14
open PySem L2

section
variable {P : Program} {w : World} {K : PySem.W.Frag} {mg : Str → Option Value} {base : Heap} {CR CS : Addr}
def spDone (CR CS : Addr) : Sp := fun vs H Q _ => ∃ (p q t : Addr) (r : Ru) (S : Sg) (d : Dd), vs = [.ref p, .ref q, .ref t] ∧ RuleAt CR H p r ∧ SgAt CS H q S ∧ DdAt H t d ∧ SgOk S ∧ nd2 S.rows = true ∧
  ∀ x H', Same H H' → SgAt CS H' x (done r S d) → Q (.ref x) H'
theorem scDone : FnScope ["rule", "standing", "deed", "person"] ["rule", "standing", "deed"] (defScope (txt 41)) := ⟨rfl, rfl, rfl, by decide +kernel, rfl, by decide +kernel, by decide +kernel⟩
theorem df_done (T : Txt K w mg CR CS) (F : FunAt K mg "done" (txt 41) ["rule", "standing", "deed"]) (DI : Df P w K mg base "is_struck" ["standing", "person"] 1 (spIsStruck CS)) (DM : Df P w K mg base "mark_of" ["standing", "person"] 1 (spMarkOf CS))
    (DG : Df P w K mg base "marked" ["rule", "standing", "person", "mark"] 6 (spMarked CR CS)) (DT : Df P w K mg base "taken_back" ["rule", "standing", "person"] 6 (spTaken CR CS)) (DO : Df P w K mg base "struck_one" ["rule", "standing", "person"] 6 (spStruckOne CR CS))
    (DN : Df P w K mg base "behind_night" ["standing"] 3 (spNight CS)) : Df P w K mg base "done" ["rule", "standing", "deed"] 7 (spDone CR CS) := by
  refine F.ok scDone (fun vs H Q E h => ?_) (fun f cdv A outer s H vs Q E hr h => ?_)
  · obtain ⟨p, q, t, r, S, d, rfl, _⟩ := h
    rfl
  · obtain ⟨p, q, t, r, S, d, rfl, hR, hS, hd, ok, hn, k⟩ := h
    obtain ⟨tN, mN⟩ := T.night
    refine ⟨_, pss_cons (ps_if (pt_cmpR op_eq (pe_ix ix_tup (pv 2) pe_int (fun _ _ => rfl)) (pe_glob (v := V.str "night") (by rfl) mN ⟨_, rfl⟩) (nomark _)) (pss_one (ps_ret (pe_df DN (hr.mono (by decide)) rfl (pa_cons (pv 1) pa_nil)))) pss_nil)
      (pss_cons (ps_set (i := 3) scDone.nd rfl (Or.inl rfl) (pe_ix ix_tup (pv 2) pe_int (fun _ _ => rfl)))
      (pss_cons (ps_if (pt_val (pe_df DI (hr.mono (by decide)) rfl (pa_cons (pv 1) (pa_cons (pv 3) pa_nil)))) (pss_one (ps_ret (pv 1))) pss_nil)
      (pss_cons (ps_if (pt_cmpR op_eq (pe_ix ix_tup (pv 2) pe_int (fun _ _ => rfl)) pe_str (nomark _)) (pss_one (ps_ret (pe_df DG hr rfl (pa_cons (pv 0) (pa_cons (pv 1) (pa_cons (pv 3) (pa_cons (pe_ix ix_tup (pv 2) pe_int (fun _ _ => rfl)) pa_nil))))))) pss_nil)
      (pss_cons (ps_if (pt_cmpR op_eq (pe_ix ix_tup (pv 2) pe_int (fun _ _ => rfl)) pe_str (nomark _)) (pss_one (ps_ret (pe_df DO hr rfl (pa_cons (pv 0) (pa_cons (pv 1) (pa_cons (pv 3) pa_nil)))))) pss_nil)
      (pss_one (ps_ret (pe_ifExp (pt_cmpR op_isN (pe_df DM (hr.mono (by decide)) rfl (pa_cons (pv 1) (pa_cons (pv 3) pa_nil))) pe_non (nomark _)) (pv 1) (pe_df DT hr rfl (pa_cons (pv 0) (pa_cons (pv 1) (pa_cons (pv 3) pa_nil))))))))))), ?_⟩
    have ht : SqT K H t (ddV d) := SqT.of hd
    cases d with
    | night =>
      refine ⟨_, rfl, t, _, _, _, rfl, rfl, ht, rfl, rfl, _, rfl, itT (by decide +kernel) ?_⟩
      exact ⟨_, rfl, q, S, rfl, hS, hn, fun x H1 s1 hx => k x H1 s1 hx⟩
    | give b m =>
      refine ⟨_, rfl, t, _, _, _, rfl, rfl, ht, rfl, rfl, _, rfl, itF (by decide +kernel) ?_⟩
      refine ⟨_, rfl, t, _, _, _, rfl, rfl, ht, rfl, ?_⟩
      refine ⟨_, rfl, _, rfl, q, b, S, rfl, hS, _, rfl, ?_⟩
      unfold done at k
      dsimp only at k
      cases hs : struckAt S.rows b with
      | true =>
        rw [hs, if_pos rfl] at k
        exact itT rfl ⟨_, rfl, k q H (Same.refl H) hS⟩
      | false =>
        rw [hs, if_neg (by simp)] at k
        refine itF rfl ?_
        refine ⟨_, rfl, t, _, _, _, rfl, rfl, ht, rfl, rfl, _, rfl, itT (by decide +kernel) ?_⟩
        exact ⟨_, rfl, _, rfl, _, rfl, _, rfl, t, _, _, _, rfl, rfl, ht, rfl, p, q, r, S, b, m, rfl, hR, hS, ok, hn, k⟩
    | back b =>
      refine ⟨_, rfl, t, _, _, _, rfl, rfl, ht, rfl, rfl, _, rfl, itF (by decide +kernel) ?_⟩
      refine ⟨_, rfl, t, _, _, _, rfl, rfl, ht, rfl, ?_⟩
      refine ⟨_, rfl, _, rfl, q, b, S, rfl, hS, _, rfl, ?_⟩
      unfold done at k
      dsimp only at k
      cases hs : struckAt S.rows b with
      | true =>
        rw [hs, if_pos rfl] at k
        exact itT rfl ⟨_, rfl, k q H (Same.refl H) hS⟩
      | false =>
        rw [hs, if_neg (by simp)] at k
        refine itF rfl ?_
        refine ⟨_, rfl, t, _, _, _, rfl, rfl, ht, rfl, rfl, _, rfl, itF (by decide +kernel) ?_⟩
        refine ⟨_, rfl, t, _, _, _, rfl, rfl, ht, rfl, rfl, _, rfl, itF (by decide +kernel) ?_⟩
        refine ⟨_, rfl, _, rfl, q, b, S, rfl, hS, rfl, _, rfl, ?_⟩
        rw [oI_none]
        cases hm : markAt S.rows b with
        | none =>
          rw [hm] at k
          exact itT rfl ⟨_, rfl, k q H (Same.refl H) hS⟩
        | some m =>
          rw [hm] at k
          exact itF rfl ⟨_, rfl, _, rfl, _, rfl, p, q, r, S, b, rfl, hR, hS, ok, hn, k⟩
    | strike b =>
      refine ⟨_, rfl, t, _, _, _, rfl, rfl, ht, rfl, rfl, _, rfl, itF (by decide +kernel) ?_⟩
      refine ⟨_, rfl, t, _, _, _, rfl, rfl, ht, rfl, ?_⟩
      refine ⟨_, rfl, _, rfl, q, b, S, rfl, hS, _, rfl, ?_⟩
      unfold done at k
      dsimp only at k
      cases hs : struckAt S.rows b with
      | true =>
        rw [hs, if_pos rfl] at k
        exact itT rfl ⟨_, rfl, k q H (Same.refl H) hS⟩
      | false =>
        rw [hs, if_neg (by simp)] at k
        refine itF rfl ?_
        refine ⟨_, rfl, t, _, _, _, rfl, rfl, ht, rfl, rfl, _, rfl, itF (by decide +kernel) ?_⟩
        refine ⟨_, rfl, t, _, _, _, rfl, rfl, ht, rfl, rfl, _, rfl, itT (by decide +kernel) ?_⟩
        exact ⟨_, rfl, _, rfl, _, rfl, p, q, r, S, b, rfl, hR, hS, ok, hn, k⟩
/-! ### first_standing -/
def spFirst (CS : Addr) : Sp := fun vs H Q _ => vs = [] ∧ ∀ x H', Same H H' → SgAt CS H' x first → Q (.ref x) H'
theorem scFirst : FnScope [] [] (defScope (txt 47)) := ⟨rfl, rfl, rfl, by decide +kernel, rfl, by decide +kernel, by decide +kernel⟩
theorem df_first (T : Txt K w mg CR CS) (F : FunAt K mg "first_standing" (txt 47) []) (DS : Ma P w K mg base "Standing" CS ["self", "rows", "kept"] 1 (spInitS CS)) : Df P w K mg base "first_standing" [] 3 (spFirst CS) := by
  refine F.ok scFirst (fun vs H Q E h => ?_) (fun f cdv A outer s H vs Q E hr h => ?_)
  · obtain ⟨rfl, _⟩ := h
    rfl
  · obtain ⟨rfl, k⟩ := h
    refine ⟨_, pss_one (ps_ret (pe_ma DS hr rfl (pa_cons pe_dnewK (pa_cons pe_non pa_nil)))), ?_⟩
    refine fun D hD => ?_
    exact made_sg (rows := []) (n := none) upd_same .nil rfl fun x H4 s4 hx => k x H4 ((same_upd hD).trans s4) hx
end
end K14
end
section
set_option Elab.async false
set_option linter.all false
set_option maxRecDepth 100000
/-! Deciding: deeds_of, key_of. -/
namespace K14
open PySem L2

structure Txt2 (K : PySem.W.Frag) (w : World) (mg : Str → Option Value) : Prop where
  persons : ∃ t, mg "PERSONS" = some (.ref t) ∧ ∀ H, SqT K H t [.int 0, .int 1]
  faults : ∃ t, mg "FAULTS" = some (.ref t) ∧ ∀ H, SqT K H t [.str "ghost", .str "lacking", .str "other"]

/-! ### layer != [] -/
def rNeNil : R2 := fun x y H Q => ∃ a b xs, x = .ref a ∧ y = .ref b ∧ H a = some (.lst xs) ∧ H b = some (.lst []) ∧ Q (.bl (!xs.isEmpty)) H
theorem op_neNil {X : Cx} (hu : X.A.units < cLine) : OpR X (compareOp .NotEq) rNeNil := by
  intro pins s σ H x y v u Q I rx ry h
  obtain ⟨a, b, xs, rfl, rfl, ha, hb, q⟩ := h
  obtain rfl : v = Value.ref a := rx
  obtain rfl : u = Value.ref b := ry
  obtain ⟨its, r1, p1, _⟩ := I.list (SqL.of ha)
  obtain ⟨its2, r2, p2, _⟩ := I.list (SqL.of hb)
  cases r2
  cases r1 with
  | nil => exact SeqAt.RcNeAt.lists (e := fun _ => true) p1.isList p2.isList rfl hu (fun j h1 _ => by simp at h1) X.prog X.w X.xe _ ⟨.bl false, H, I, rfl, q⟩
  | cons r t => exact SeqAt.RcNeAt.lists_lengths p1.isList p2.isList (by simp) hu X.prog X.w X.xe _ ⟨.bl true, H, I, rfl, q⟩

/-! ### the keys of standings -/
def rwN : Rw → NestedKey
  | .struck => .text "struck"
  | .mk m o s => .tup [.num m, .num (if o = true then 1 else 0), .num (if s = true then 1 else 0)]
def orN : Option Rw → NestedKey
  | none => .none
  | some x => rwN x
def nN : Option (Int × Int) → NestedKey
  | none => .none
  | some n => .tup [.num n.1, .num n.2]
def kyN (S : Sg) : NestedKey := .tup [orN (rowAt S.rows false), orN (rowAt S.rows true), .num (many S.rows), nN S.kept]
theorem RwAt.nis {H : Hp} {v : V} {x : Rw} (h : RwAt H v x) : NIs H (rwN x) v := by
  cases x with
  | struck => cases h; exact .text _
  | mk m o s => obtain ⟨a, rfl, h⟩ := h; exact .tup h (.cons (.int m) (.cons (.bl o) (.cons (.bl s) .nil)))
theorem ORwAt.nis {H : Hp} {v : V} {x : Option Rw} (h : ORwAt H v x) : NIs H (orN x) v := by
  cases x with
  | none => cases h; exact .none
  | some x => exact RwAt.nis h
theorem NumAt.nis {H : Hp} {v : V} {n : Option (Int × Int)} (h : NumAt H v n) : NIs H (nN n) v := by
  cases n with
  | none => cases h; exact .none
  | some n => obtain ⟨a, rfl, h⟩ := h; exact .tup h (.cons (.int _) (.cons (.int _) .nil))
theorem rwN_depth (x : Rw) : (rwN x).depth ≤ 1 := by cases x <;> simp [rwN, NestedKey.depth, NestedKey.depthAll]
theorem orN_depth (x : Option Rw) : (orN x).depth ≤ 1 := by
  cases x with
  | none => simp [orN, NestedKey.depth]
  | some x => exact rwN_depth x
theorem nN_depth (n : Option (Int × Int)) : (nN n).depth ≤ 1 := by cases n <;> simp [nN, NestedKey.depth, NestedKey.depthAll]
theorem kyN_depth (S : Sg) : (kyN S).depth ≤ 2 := by
  have h1 := orN_depth (rowAt S.rows false)
  have h2 := orN_depth (rowAt S.rows true)
  have h3 := nN_depth S.kept
  simp only [kyN, NestedKey.depth, NestedKey.depthAll]
  omega
theorem ORwAt.mono {H H' : Hp} (s : SameN H H') {v : V} {x : Option Rw} (h : ORwAt H v x) : ORwAt H' v x := by
  cases x with
  | none => exact h
  | some x => exact RwAt.mono s h

section
variable {P : Program} {w : World} {K : PySem.W.Frag} {mg : Str → Option Value} {base : Heap} {CR CS : Addr}
def spKey (CS : Addr) : Sp := fun vs H Q _ => ∃ (q : Addr) (S : Sg), vs = [.ref q] ∧ SgAt CS H q S ∧ S.rows.length ≤ 2 ∧ ∀ a H', Same H H' → NIs H' (kyN S) (.ref a) → Q (.ref a) H'
/-- a key's object, told exactly -/
def KyAt (H : Hp) (v : V) (S : Sg) : Prop := ∃ a r0 r1 kv, v = .ref a ∧ H a = some (.tup [r0, r1, .int (many S.rows : Nat), kv]) ∧ ORwAt H r0 (rowAt S.rows false) ∧ ORwAt H r1 (rowAt S.rows true) ∧ NumAt H kv S.kept
theorem KyAt.nis {H : Hp} {v : V} {S : Sg} (h : KyAt H v S) : NIs H (kyN S) v := by
  obtain ⟨a, r0, r1, kv, rfl, e, w0, w1, q⟩ := h
  exact .tup e (.cons w0.nis (.cons w1.nis (.cons (.int _) (.cons q.nis .nil))))
theorem KyAt.mono {H H' : Hp} {v : V} {S : Sg} (s : SameN H H') (h : KyAt H v S) : KyAt H' v S := by
  obtain ⟨a, r0, r1, kv, rfl, e, w0, w1, q⟩ := h
  exact ⟨a, r0, r1, kv, rfl, s _ _ e (fun _ z => nomatch z), w0.mono s, w1.mono s, q.mono s⟩
def spKeyX (CS : Addr) : Sp := fun vs H Q _ => ∃ (q : Addr) (S : Sg), vs = [.ref q] ∧ SgAt CS H q S ∧ S.rows.length ≤ 2 ∧ ∀ a H', Same H H' → KyAt H' (.ref a) S → Q (.ref a) H'
theorem scKey : FnScope ["standing", "rows", "person"] ["standing"] (defScope (txt 48)) := ⟨rfl, rfl, rfl, by decide +kernel, rfl, by decide +kernel, by decide +kernel⟩
theorem df_keyX (T : Txt K w mg CR CS) (T2 : Txt2 K w mg) (F : FunAt K mg "key_of" (txt 48) ["standing"]) (DC : Df P w K mg base "counted_rows" ["standing"] 1 (spCounted CS)) : Df P w K mg base "key_of" ["standing"] 2 (spKeyX CS) := by
  refine F.ok scKey (fun vs H Q E h => ?_) (fun f cdv A outer s H vs Q E hr h => ?_)
  · obtain ⟨q, S, rfl, _⟩ := h
    rfl
  · obtain ⟨q, S, rfl, hS, h2, k⟩ := h
    have hu := hu_of hr
    obtain ⟨tp, mp, hp⟩ := T2.persons
    refine ⟨_, pss_cons (ps_setLc (i := 1) (own := [("person", 2)]) (g := gName 2) (tt := tYes) (te := tDGet2 (tFld K (tVar 0) "rows") (tVar 2) (tC .non)) rfl scKey.nd rfl rfl (sw_true rfl rfl rfl (by decide +kernel)) (pi_tup (pe_glob (v := V.ref tp) (by rfl) mp rfl)) (blkOk_by (N := ["standing", "rows", "person"]) (sc := defScope (txt 48)) (by decide +kernel))
        (fun _ _ _ _ _ => pg_name (i := 2) scKey.nd rfl (Or.inl rfl)) (fun _ _ _ _ _ => pts_nil)
        (fun _ _ _ _ _ => pe_dget2 hu (pe_fld (pv 0) rfl) (pv 2) pe_non ⟨rfl, rfl, rfl, rfl⟩))
      (pss_one (ps_ret (pe_tup (pa_cons (pe_ix ix_list (pv 1) pe_int (fun _ _ => rfl)) (pa_cons (pe_ix ix_list (pv 1) pe_int (fun _ _ => rfl)) (pa_cons (pe_callB call_len_seq (by rfl) T.len PySem.boot_len (pa_cons (pe_df DC hr rfl (pa_cons (pv 0) pa_nil)) pa_nil)) (pa_cons (pe_fld (pv 0) rfl) pa_nil))))))), ?_⟩
    refine ⟨tp, rfl, ⟨_, hp _⟩, fun D1 hD1 => lc_fm (walk_tup (K := K) (a := tp) (xs := [.int 0, .int 1])) [false, true] rfl (by decide) hD1 (fun b => some (rowAt S.rows b)) ORwAt (fun s h => ORwAt.mono s h) (fun H s => hp H) ?_ ?_⟩
    · rintro i a H1 x H1' Yes No ha s1 ⟨rfl, hx⟩ hyes hno
      have ex : x = .int (pI a) := by
        match i, ha, hx with
        | 0, ha, hx => cases ha; cases hx; rfl
        | 1, ha, hx => cases ha; cases hx; rfl
      subst ex
      obtain ⟨dx, d, kvs, kv, q1, q2, q3, q4⟩ := hS.mono (SameN.of s1)
      obtain ⟨o, e, rw, _⟩ := rows_get q3 a
      refine ⟨rfl, _, rfl, q, CS, dx, _, _, rfl, q1, T.clS, T.nRows, sg_look1, d, rfl, .inl ⟨_, .inl q2⟩, _, rfl, o, by rw [← e]; exact DGet.k (k := Sum.inl (pI a)) q2, ?_⟩
      exact hyes _ _ _ (Same.refl _) rfl rw
    · intro H1 ys s1 hy pw
      have e2 : [false, true].filterMap (fun b => some (rowAt S.rows b)) = [rowAt S.rows false, rowAt S.rows true] := rfl
      rw [e2] at pw
      obtain ⟨y0, y1, rfl, w0, w1⟩ : ∃ y0 y1, ys = [y0, y1] ∧ ORwAt H1 y0 (rowAt S.rows false) ∧ ORwAt H1 y1 (rowAt S.rows true) := by
        cases pw with
        | cons r t => cases t with
          | cons r2 t2 => cases t2; exact ⟨_, _, rfl, r, r2⟩
      have hl1 : SqL K H1 D1 [y0, y1] := SqL.of hy
      refine ⟨_, rfl, D1, _, _, _, rfl, rfl, hl1, rfl, _, rfl, D1, _, _, _, rfl, rfl, hl1, rfl, ?_⟩
      refine ⟨_, rfl, q, S, rfl, hS.mono (SameN.of s1), h2, fun l zs H2 s2 hl hz => ?_⟩
      obtain ⟨dx, d, kvs, kv, q1, q2, q3, q4⟩ := hS.mono (SameN.of (s1.trans s2))
      refine ⟨l, _, rfl, .inl (SqL.of hl), _, rfl, q, CS, dx, _, _, rfl, q1, T.clS, T.nKept, sg_look2, (by show 4 ≤ sizeLine; decide), fun t ht => ?_⟩
      have s3 := same_upd (o := .tup [y0, y1, .int (zs.length : Nat), kv]) ht
      have el : zs.length = many S.rows := Paired.length hz
      rw [el] at s3 ⊢
      refine k t _ ((s1.trans s2).trans s3) ⟨t, y0, y1, kv, rfl, upd_same, ?_, ?_, ?_⟩
      · exact (w0.mono (SameN.of s2)).mono (SameN.of s3)
      · exact (w1.mono (SameN.of s2)).mono (SameN.of s3)
      · exact q4.mono (SameN.of s3)
theorem df_key (T : Txt K w mg CR CS) (T2 : Txt2 K w mg) (F : FunAt K mg "key_of" (txt 48) ["standing"]) (DC : Df P w K mg base "counted_rows" ["standing"] 1 (spCounted CS)) : Df P w K mg base "key_of" ["standing"] 2 (spKey CS) :=
  (df_keyX T T2 F DC).imp fun vs H Q E ⟨q, S, e, hS, h2, k⟩ => ⟨q, S, e, hS, h2, fun a H' s hk => k a H' s hk.nis⟩
end
end K14
end
section
set_option Elab.async false
set_option linter.all false
set_option maxRecDepth 100000
/-! deeds_of. -/
namespace K14
open PySem L2

/-- a comprehension's loop, whatever its turn is -/
theorem wk_it {J : It} {n : Nat} {G : Hp → Prop} {Y : Nat → Hp → V → Hp → Prop} (w : L2.Walk J n G Y) {B : V → Hp → (Hp → Prop) → Prop} {H0 : Hp} {Qd : Hp → Prop} (Pv : Nat → Hp → Prop) (h0 : Pv 0 H0) (hG : ∀ i H, i ≤ n → Pv i H → G H)
    (hs : ∀ i x H H', i < n → Pv i H → Y i H x H' → B x H' (Pv (i + 1))) (hd : ∀ H, Pv n H → Qd H) :
    ∃ W : Nat → Nat → Hp → Prop, (∃ m, W 0 m H0) ∧ ∀ i m H, W i m H → (J.stop i H ∧ Qd H) ∨ (J.go i H ∧ ∃ Nx : Hp → Prop, (∀ H', Nx H' → ∃ m', m' < m ∧ W (i + 1) m' H') ∧ ∀ x H', J.yld i H x H' → B x H' Nx) := by
  refine ⟨fun i m H => m = n - i ∧ i ≤ n ∧ Pv i H, ⟨n, by simp, Nat.zero_le _, h0⟩, ?_⟩
  rintro i m H ⟨rfl, hi, p⟩
  have q := hG i H hi p
  by_cases hlt : i < n
  · exact .inr ⟨w.goes i H hlt q, Pv (i + 1), fun H' p' => ⟨n - (i + 1), by omega, rfl, hlt, p'⟩, fun x H' y => hs i x H H' hlt p (w.yields i H x H' hlt q y)⟩
  · have e : i = n := by omega
    subst e
    exact .inl ⟨w.stops H q, hd H p⟩
/-- a deed's tuple -/
def DdV (H : Hp) (v : V) (d : Dd) : Prop := ∃ a, v = .ref a ∧ DdAt H a d
theorem DdV.mono {H H' : Hp} (s : SameN H H') {v : V} {d : Dd} (h : DdV H v d) : DdV H' v d := by
  obtain ⟨a, e, h⟩ := h; exact ⟨a, e, h.mono s⟩
theorem marks_top (r : Ru) : r.top.toNat = (marksTo r.three).length ∧ (1 : Int) ≤ r.top ∧ r.top ≤ 3 := by
  unfold Ru.top marksTo
  cases r.three <;> decide
theorem marks_at (three : Bool) {j : Nat} (h : j < (marksTo three).length) : (marksTo three)[j]? = some ((1 : Int) + j) := by
  cases three
  · match j, h with
    | 0, _ => rfl
    | 1, _ => rfl
  · match j, h with
    | 0, _ => rfl
    | 1, _ => rfl
    | 2, _ => rfl
def gives (three : Bool) (i j : Nat) : List Dd := (([false, true] : List Bool).take i).flatMap (fun p => (marksTo three).map (.give p)) ++ ((marksTo three).take j).map (.give (([false, true] : List Bool).getD i false))
theorem gives_len (three : Bool) (i j : Nat) : (gives three i j).length ≤ 9 := by
  unfold gives
  have h1 : (marksTo three).length ≤ 3 := by cases three <;> decide
  rw [List.length_append, List.length_map, List.length_take]
  have h2 : ((([false, true] : List Bool).take i).flatMap (fun p => (marksTo three).map (Dd.give p))).length ≤ 6 := by
    match i with
    | 0 => simp
    | 1 => simp; omega
    | (i + 2) => simp; omega
  omega
section
variable {P : Program} {w : World} {K : PySem.W.Frag} {mg : Str → Option Value} {base : Heap} {CR CS : Addr}
def spDeeds (CR : Addr) : Sp := fun vs H Q _ => ∃ (p : Addr) (r : Ru), vs = [.ref p] ∧ RuleAt CR H p r ∧ ∀ l ys H', Same H H' → H' l = some (.lst ys) → Paired (DdV H') ys (deeds r.three) → Q (.ref l) H'
theorem scDeeds : FnScope ["rule", "found", "person", "mark"] ["rule"] (defScope (txt 46)) := ⟨rfl, rfl, rfl, by decide +kernel, rfl, by decide +kernel, by decide +kernel⟩
theorem df_deeds (T : Txt K w mg CR CS) (T2 : Txt2 K w mg) (F : FunAt K mg "deeds_of" (txt 46) ["rule"]) : Df P w K mg base "deeds_of" ["rule"] 1 (spDeeds CR) := by
  refine F.ok scDeeds (fun vs H Q E h => ?_) (fun f cdv A outer s H vs Q E hr h => ?_)
  · obtain ⟨p, r, rfl, _⟩ := h
    rfl
  · obtain ⟨p, r, rfl, hR, k⟩ := h
    have hu := hu_of hr
    obtain ⟨tp, mp, hp⟩ := T2.persons
    have mt := marks_top r
    refine ⟨_, pss_cons (ps_setLc2 (i := 1) (own := [("person", 2), ("mark", 3)]) (vs1 := [3]) (g := gName 2) (tt := tYes) (wi1 := iRng2 (tCons (tC (.int 1)) (tCons (tOp rAdd (tDGet (tFld K (tVar 0) "words") (tC (.str "top"))) (tC (.int 1))) tNil))) (g1 := gName 3) (tt1 := tYes) (te := tTup (tCons (tC (.str "give")) (tCons (tVar 2) (tCons (tVar 3) tNil)))) rfl scDeeds.nd rfl rfl (sw_true rfl rfl rfl (by decide +kernel)) (pi_tup (pe_glob (v := V.ref tp) (by rfl) mp rfl)) (blkOk_by (N := ["rule", "found", "person", "mark"]) (sc := defScope (txt 46)) (by decide +kernel)) (by decide)
        (fun _ _ _ _ _ => pg_name (i := 2) scDeeds.nd rfl (Or.inl rfl)) (fun _ _ _ _ _ => pts_nil)
        (fun _ _ _ _ _ => pi_range2 (by rfl) T.range (pa_cons pe_int (pa_cons (pe_op op_add (pe_dget hu (pe_fld (pv 0) rfl) pe_str (fun _ _ => rfl)) pe_int) pa_nil)))
        (fun _ _ _ _ _ => pg_name (i := 3) scDeeds.nd rfl (Or.inl rfl)) (fun _ _ _ _ _ => pts_nil)
        (fun _ _ _ _ _ => pe_tup (pa_cons pe_str (pa_cons (pv 2) (pa_cons (pv 3) pa_nil)))))
      (pss_one (ps_ret (pe_lst (StX.pa_star (pv 1) (StX.pa_star (pe_lc (own := [("person", 2)]) (g := gName 2) (tt := tYes) (te := tTup (tCons (tC (.str "back")) (tCons (tVar 2) tNil))) rfl scDeeds.nd (pi_tup (pe_glob (v := V.ref tp) (by rfl) mp rfl)) (blkOk_by (N := ["rule", "found", "person", "mark"]) (sc := defScope (txt 46)) (by decide +kernel))
            (fun _ _ _ _ _ => pg_name (i := 2) scDeeds.nd rfl (Or.inl rfl)) (fun _ _ _ _ _ => pts_nil) (fun _ _ _ _ _ => pe_tup (pa_cons pe_str (pa_cons (pv 2) pa_nil))))
          (StX.pa_star (pe_lc (own := [("person", 2)]) (g := gName 2) (tt := tYes) (te := tTup (tCons (tC (.str "strike")) (tCons (tVar 2) tNil))) rfl scDeeds.nd (pi_tup (pe_glob (v := V.ref tp) (by rfl) mp rfl)) (blkOk_by (N := ["rule", "found", "person", "mark"]) (sc := defScope (txt 46)) (by decide +kernel))
            (fun _ _ _ _ _ => pg_name (i := 2) scDeeds.nd rfl (Or.inl rfl)) (fun _ _ _ _ _ => pts_nil) (fun _ _ _ _ _ => pe_tup (pa_cons pe_str (pa_cons (pv 2) pa_nil))))
          (pa_cons (pe_tup (pa_cons pe_str pa_nil)) pa_nil))))))), ?_⟩
    refine ⟨tp, rfl, ⟨_, hp _⟩, fun D1 hD1 => ?_⟩
    -- the gifts
    have mlen : (marksTo r.three).length ≤ 3 := by cases r.three <;> decide
    refine wk_it (walk_tup (K := K) (a := tp) (xs := [.int 0, .int 1])) (fun i H1 => Same H H1 ∧ ∃ ys, H1 D1 = some (.lst ys) ∧ Paired (DdV H1) ys (gives r.three i 0)) ?_ (fun i H1 _ h => hp H1) ?_ ?_
    · exact ⟨same_upd hD1, [], upd_same, .nil⟩
    · rintro i x H1 H1' hi ⟨s1, ys, hy, pw⟩ ⟨rfl, hx⟩
      have hi2 : i < 2 := hi
      obtain ⟨b, hb, rfl⟩ : ∃ b, ([false, true] : List Bool)[i]? = some b ∧ x = .int (pI b) := by
        match i, hi2, hx with
        | 0, _, hx => cases hx; exact ⟨false, rfl, rfl⟩
        | 1, _, hx => cases hx; exact ⟨true, rfl, rfl⟩
      obtain ⟨dx, d, g1, g2⟩ := hR.mono (SameN.of s1)
      refine ⟨rfl, _, rfl, p, CR, dx, _, _, rfl, g1, T.clR, T.nW, rfl, d, _, rfl, dg_top g2, _, _, rfl, rfl, 1, r.top + 1, rfl, ⟨by decide, by decide, by omega, by omega⟩, ?_⟩
      have en : (r.top + 1 - 1).toNat = (marksTo r.three).length := by rw [← mt.1]; congr 1; omega
      rw [en]
      refine wk_it (walk_range (lo := 1) (n := (marksTo r.three).length)) (fun j H2 => Same H H2 ∧ ∃ ys, H2 D1 = some (.lst ys) ∧ Paired (DdV H2) ys (gives r.three i j)) ⟨s1, ys, hy, pw⟩ (fun _ _ _ _ => trivial) ?_ ?_
      · rintro j x H2 H2' hj ⟨s2, zs, hz, pz⟩ ⟨rfl, rfl⟩
        refine ⟨rfl, _, rfl, _, rfl, (by show 3 ≤ sizeLine; decide), fun t ht => ⟨zs, ?_, ?_, ?_⟩⟩
        · exact (same_upd ht) _ _ hz
        · have := Paired.length pz
          have := gives_len r.three i j
          exact Nat.lt_of_le_of_lt (show zs.length ≤ 9 by omega) (by decide)
        · have s3 : Same H2' (upd H2' t (.tup [.str "give", .int (pI b), .int (1 + (j : Nat))])) := same_upd ht
          have hz3 := s3 _ _ hz
          refine ⟨sput (s2.trans s3) hD1, _, upd_same, ?_⟩
          have eg : gives r.three i (j + 1) = gives r.three i j ++ [.give b (1 + (j : Nat))] := by
            unfold gives
            rw [List.take_add_one, marks_at _ hj, List.map_append, ← List.append_assoc]
            have e0 : ([false, true] : List Bool).getD i false = b := by
              rw [List.getD_eq_getElem?_getD, hb]; rfl
            rw [e0]
            rfl
          rw [eg]
          exact Paired.snoc (Paired.mapP pz fun _ _ z => z.mono ((SameN.of s3).put hz3)) ⟨t, rfl, by show upd _ D1 _ t = _; rw [upd_ne (fun z => by rw [z, hz] at ht; cases ht), upd_same]; rfl⟩
      · rintro H2 ⟨s2, zs, hz, pz⟩
        refine ⟨s2, zs, hz, ?_⟩
        have eg : gives r.three (i + 1) 0 = gives r.three i (marksTo r.three).length := by
          unfold gives
          rw [List.take_add_one, hb, List.take_length, List.flatMap_append]
          have e0 : ([false, true] : List Bool).getD i false = b := by
            rw [List.getD_eq_getElem?_getD, hb]; rfl
          rw [e0]
          simp
        rw [eg]
        exact pz
    · rintro H1 ⟨s1, ys, hy, pw⟩
      -- the three lists
      refine ⟨_, rfl, D1, ys, rfl, .inr (SqL.of hy), ?_⟩
      have two : ∀ {i : Nat} {b : Bool} {x : V}, ([false, true] : List Bool)[i]? = some b → ([.int 0, .int 1] : List V)[i]? = some x → x = .int (pI b) := fun {i b x} hb hx => by
        match i, hb, hx with
        | 0, hb, hx => cases hb; cases hx; rfl
        | 1, hb, hx => cases hb; cases hx; rfl
      refine ⟨tp, rfl, ⟨_, hp _⟩, fun D2 hD2 => lc_fm (walk_tup (K := K) (a := tp) (xs := [.int 0, .int 1])) [false, true] rfl (by decide) hD2 (fun b => some (Dd.back b)) DdV (fun s h => DdV.mono s h) (fun H s => hp H) ?_ ?_⟩
      · rintro i b H2 x H2' Yes No hb s2 ⟨rfl, hx⟩ hyes hno
        have ex := two hb hx
        subst ex
        exact ⟨rfl, _, rfl, (by show 2 ≤ sizeLine; decide), fun t ht => hyes _ _ _ (same_upd ht) rfl ⟨t, rfl, upd_same⟩⟩
      · intro H2 zs s2 hz pz
        rw [filterMap_some] at pz
        refine ⟨D2, zs, rfl, .inr (SqL.of hz), ?_⟩
        refine ⟨tp, rfl, ⟨_, hp _⟩, fun D3 hD3 => lc_fm (walk_tup (K := K) (a := tp) (xs := [.int 0, .int 1])) [false, true] rfl (by decide) hD3 (fun b => some (Dd.strike b)) DdV (fun s h => DdV.mono s h) (fun H s => hp H) ?_ ?_⟩
        · rintro i b H3 x H3' Yes No hb s3 ⟨rfl, hx⟩ hyes hno
          have ex := two hb hx
          subst ex
          exact ⟨rfl, _, rfl, (by show 2 ≤ sizeLine; decide), fun t ht => hyes _ _ _ (same_upd ht) rfl ⟨t, rfl, upd_same⟩⟩
        · intro H3 us s3 hu3 pu
          rw [filterMap_some] at pu
          refine ⟨D3, us, rfl, .inr (SqL.of hu3), (by show 1 ≤ sizeLine; decide), fun t ht => ?_⟩
          have sT : Same H3 (upd H3 t (.tup [.str "night"])) := same_upd ht
          have l1 := Paired.length pw
          have l2 := Paired.length pz
          have l3 := Paired.length pu
          have l0 := gives_len r.three 2 0
          have l2' : zs.length = 2 := l2
          have l3' : us.length = 2 := l3
          refine ⟨?_, fun l hl => ?_⟩
          · have e : (ys ++ (zs ++ (us ++ [V.ref t]))).length ≤ 14 := by
              simp only [List.length_append, List.length_cons, List.length_nil]
              have : ys.length = (gives r.three 2 0).length := l1
              omega
            exact Nat.le_trans e (by decide)
          · have sL : Same (upd H3 t (.tup [.str "night"])) _ := same_upd (o := .lst (ys ++ (zs ++ (us ++ [V.ref t])))) hl
            have sA := ((s2.trans s3).trans sT).trans sL
            refine k l _ _ (s1.trans sA) upd_same ?_
            have eg : deeds r.three = gives r.three 2 0 ++ ([Dd.back false, Dd.back true] ++ ([Dd.strike false, Dd.strike true] ++ [Dd.night])) := by
              cases r.three <;> rfl
            rw [eg]
            have app : ∀ {F : V → Dd → Prop} {a1 a2 : List V} {b1 b2 : List Dd}, Paired F a1 b1 → Paired F a2 b2 → Paired F (a1 ++ a2) (b1 ++ b2) := fun {F a1 a2 b1 b2} p q => by
              induction p with
              | nil => exact q
              | cons r _ ih => exact .cons r ih
            refine app (Paired.mapP pw fun _ _ z => z.mono (SameN.of sA)) (app (Paired.mapP pz fun _ _ z => z.mono (SameN.of ((s3.trans sT).trans sL))) (app (Paired.mapP pu fun _ _ z => z.mono (SameN.of (sT.trans sL))) (.cons ⟨t, rfl, sL _ _ upd_same⟩ .nil)))
end
end K14
end
section
set_option Elab.async false
set_option linter.all false
set_option maxRecDepth 100000
set_option maxHeartbeats 4000000
/-! Dict comprehensions with other keys than ints and texts; turned from the rule for those. -/
namespace K14
open PySem PySem.Spec PyProof.Rows L2
section
variable {X : Cx}
/-- {k: v for target in iter if ..}: D the new dict -/
def tDcF (fl : Flv X.prog X.w) (wi : TI) (g : TG) (tt : TT) (tk tv : TE) (vs : List Nat) : TE := fun σ H Q => wi σ H fun J H1 => ∀ D, H1 D = none → ∃ W : Nat → Nat → Hp → Prop, (∃ m, W 0 m (upd H1 D (fl.nil D))) ∧ ∀ i m H, W i m H →
  (J.stop i H ∧ Q (.ref D) H) ∨ (J.go i H ∧ ∃ Nx : Hp → Prop, (∀ H', Nx H' → ∃ m', m' < m ∧ W (i + 1) m' H') ∧ ∀ x H', J.yld i H x H' → g x (wipe σ vs) H' fun σ2 H2 => wipe σ2 vs = wipe σ vs ∧ tt σ2 H2 fun b H3 =>
    if b = true then tk σ2 H3 fun y H4 => tv σ2 H4 fun z H5 => fl.put H5 D y z Nx else Nx H3)
theorem dcF_core {pins : List (Addr × Obj)} {s : Shared} {σ : L2.St} {H : Hp} {Q : VK} {kx vx tg iter : Expr} {ifs : List Expr} {scope : Scope} {own : List (Str × Nat)} {pos pos' : Pos} {wi : TI} {g : TG} {tt : TT} {tk tv : TE} {fl : Flv X.prog X.w} {use : Option (Value → Sem Unit)} {Qf : Value → Shared → Prop}
    (hc : X.calm = true) (hN : X.N.Nodup) (I : Inv X pins σ H s) (hi : PI X tg iter wi) (ok : BlkOk X.N X.env.scope scope own)
    (hg : ∀ (s : Shared) (H : Hp) (C : Addr) (cl : List (Str × Addr)) (fp : List Addr), PG (X.blk s H scope (compEnvC scope cl C X.env) fp) tg g) (ht : ∀ (s : Shared) (H : Hp) (C : Addr) (cl : List (Str × Addr)) (fp : List Addr), PTs (X.blk s H scope (compEnvC scope cl C X.env) fp) ifs tt)
    (hk : ∀ (s : Shared) (H : Hp) (C : Addr) (cl : List (Str × Addr)) (fp : List Addr), PE (X.blk s H scope (compEnvC scope cl C X.env) fp) kx tk)
    (he : ∀ (s : Shared) (H : Hp) (C : Addr) (cl : List (Str × Addr)) (fp : List Addr), PE (X.blk s H scope (compEnvC scope cl C X.env) fp) vx tv) (hs : ∀ x, foldedSetIterable iter X.env x = pure x)
    (hrm : fl.rm X.A) (h : tDcF fl wi g tt tk tv (own.map (·.2)) σ H Q)
    (hRR : ∀ D C s' m H', Inv X pins σ H' s' → Q (.ref D) H' → s'.heap.Ns C m → FpOk X pins H' C → compPost (model X.prog X.w) X.A X.xe use Qf (.ref D) C (.ok .next) s') :
    wpAny (model X.prog X.w) X.A (comprehension (.DictComp kx vx [⟨tg, iter, ifs, 0⟩] scope pos) scope X.env pos' newDict false (eval iter X.env) use) Qf X.xe s := by
  have hfree : ∀ y ∈ scope.names, y.2 = .free → ∃ c, X.env.cells.lookup y.1 = some c := fun y hy e => by
    rcases ok.free y hy e with k | k
    · exact I.ok.has _ (.inl k)
    · exact I.ok.has _ (.inr k)
  refine wpAny_comprehension_free (use := use) rfl hs (closure_ok hfree) ok.kind (fun y hy e => by rw [ok.uniq y hy, e])
    (thn (hi.run pins s σ H _ I h) fun xv s1 hx => thn hx fun itv s2 h2 => ?_)
  obtain ⟨it, fp, tn, J, H2, e, I2, T, st2, f2, q⟩ := h2
  subst e
  refine wpAny_newObj_type (newEnv_comp ?_)
  generalize hD : s2.heap.objs.size = D
  have hDn : H2 D = none := I2.hok.fresh (Nat.le_of_eq hD)
  obtain ⟨W, ⟨m0, w0⟩, turn⟩ := q D hDn
  -- the new list
  generalize hs3 : ({ s2 with heap := s2.heap.push { cls := .type "dict", data := .dict #[] } } : Shared) = s3
  have I3 : Inv X pins σ (upd H2 D (fl.nil D)) s3 := by
    rw [← hs3]
    refine I2.laid (t' := s2.toks) (fun b o e => Heap.get?_push_of_some _ e) (Nat.le_of_eq hD) ?_
    rw [← hD]
    exact fl.nil_ok _ s2.heap I2.big
  have h3 : s3.heap = s2.heap.push { cls := .type "dict", data := .dict #[] } := by rw [← hs3]
  have sz : ∀ b ∈ fp, b < s2.heap.objs.size := fun b hb => by
    obtain ⟨o, e, _⟩ := T.obj _ _ st2 b hb
    exact Heap.lt_size e
  have f3 : ∀ b ∈ fp, FpOk X pins (upd H2 D (fl.nil D)) b ∧ b < s3.heap.objs.size := fun b hb => by
    have hlt := sz b hb
    refine ⟨⟨?_, (f2 b hb).2⟩, by rw [h3, Heap.size_push]; exact Nat.lt_succ_of_lt hlt⟩
    rw [upd_ne (by rw [← hD]; exact Nat.ne_of_lt hlt)]
    exact (f2 b hb).1
  have st3 : tn 0 s3.heap := T.keep _ _ _ st2 fun b _ o e => by rw [h3]; exact Heap.get?_push_of_some _ e
  have I4 := block_start I3 ok hN f3
  have pg := hg s3 (upd H2 D (fl.nil D)) s3.heap.objs.size (cellsFrom (s3.heap.objs.size + 1) scope.names (cloFrom X.env.cells scope.names [])) fp
  have pt := ht s3 (upd H2 D (fl.nil D)) s3.heap.objs.size (cellsFrom (s3.heap.objs.size + 1) scope.names (cloFrom X.env.cells scope.names [])) fp
  have pk := hk s3 (upd H2 D (fl.nil D)) s3.heap.objs.size (cellsFrom (s3.heap.objs.size + 1) scope.names (cloFrom X.env.cells scope.names [])) fp
  have pe := he s3 (upd H2 D (fl.nil D)) s3.heap.objs.size (cellsFrom (s3.heap.objs.size + 1) scope.names (cloFrom X.env.cells scope.names [])) fp
  show codeAny _ _ (.compStart (.DictComp kx vx [⟨tg, iter, ifs, 0⟩] scope pos) 0 (.ref it) (.ref D) (compEnvC scope (cellsFrom (s3.heap.objs.size + 1) scope.names (cloFrom X.env.cells scope.names [])) s3.heap.objs.size X.env)) (compPost (model X.prog X.w) X.A X.xe use Qf (.ref D) s3.heap.objs.size) { s3 with heap := pushCells (s3.heap.push { cls := .type "dict", data := .dict #[] }) scope.names }
  have nfp : ∀ b ∈ fp, (upd H2 D (fl.nil D)) b = none := fun b hb => (f3 b hb).1.1
  generalize hce : compEnvC scope (cellsFrom (s3.heap.objs.size + 1) scope.names (cloFrom X.env.cells scope.names [])) s3.heap.objs.size X.env = ce at I4 pg pt pk pe ⊢
  have cL : ce.locals = s3.heap.objs.size := by subst hce; rfl
  generalize hH3 : upd H2 D (fl.nil D) = H3 at I3 I4 pg pt pk pe w0 nfp f3
  generalize hs4 : ({ s3 with heap := pushCells (s3.heap.push { cls := .type "dict", data := .dict #[] }) scope.names } : Shared) = s4 at I4 ⊢
  have st4 : tn 0 s4.heap := T.keep _ _ _ st3 fun b _ o e => by rw [← hs4]; exact pushCells_keeps _ _ _ _ (Heap.get?_push_of_some _ e)
  have stat : ∀ {σ' : L2.St} {H' : Hp} {s' : Shared}, Inv (X.blk s3 H3 scope ce fp) [] σ' H' s' → (∀ b ∈ fp, H' b = none) → ∀ b ∈ fp, FpOk (X.blk s3 H3 scope ce fp) [] H' b := fun {σ' H' s'} I' hn b hb =>
    ⟨hn b hb, (I'.ok.exf b hb).1, I'.ok.exfs b hb, .inl hb, fun x c e => (I'.ok.exf b hb).2 x c e, fun p hp => absurd (show p ∈ ([] : List (Addr × Obj)) ++ [] from hp) (by simp)⟩
  have loop : codeAny (model X.prog X.w) X.A (.compLoop (.DictComp kx vx [⟨tg, iter, ifs, 0⟩] scope pos) 0 (.ref it) (.ref D) ce) (compPost (model X.prog X.w) X.A X.xe use Qf (.ref D) s3.heap.objs.size) s4 := by
    refine compLoop_anyD (fun n s' => ∃ i H', Inv (X.blk s3 H3 scope ce fp) [] (wipe σ (own.map (·.2))) H' s' ∧ tn i s'.heap ∧ (∀ b ∈ fp, H' b = none) ∧ W i n H') ?_ m0 ⟨0, H3, I4, st4, nfp, w0⟩
    rintro n s5 ⟨i, H5, I5, st5, n5, w5⟩
    rcases turn i n H5 w5 with ⟨stop, qq⟩ | ⟨go, Nx, hNx, step⟩
    · have td := T.done (X.blk s3 H3 scope ce fp) rfl rfl rfl hc i [] s5 _ H5 (fun _ _ => False) I5 (stat I5 n5) st5 stop
      refine thnF td fun r s6 ⟨hr, I6⟩ => ?_
      subst hr
      -- back in the def's context
      have I7 : Inv X pins σ H5 s6 := I3.call' (ch := fp) I6.os I6.base I6.hok I6.bare fun b hb => ⟨(f3 b hb).1.2.2.2.1, (f3 b hb).1.2.1, (f3 b hb).1.2.2.2.2.1, (f3 b hb).1.2.2.2.2.2⟩
      have nC : H5 s3.heap.objs.size = none := by
        have z : H5 ce.locals = none := I6.free
        rw [cL] at z
        exact z
      obtain ⟨m, hn, _⟩ := I6.loc
      have hn : s6.heap.Ns ce.locals m := hn
      rw [cL] at hn
      exact hRR D s3.heap.objs.size s6 m H5 I7 qq hn (I3.fpOk (Nat.le_refl _) nC)
    · have ti := T.item (X.blk s3 H3 scope ce fp) rfl rfl rfl hc i [] s5 _ H5 (fun _ _ => False) I5 (stat I5 n5) st5 go
      refine thnF ti fun r s6 ⟨u, hr, h6⟩ => ?_
      subst hr
      refine thnF h6 fun _ s7 ⟨x, H7, I7, r7, y7, st7, n7⟩ => ?_
      have I7' := I7.pinned (stat I7 n7) (T.obj _ _ st7)
      refine thnF (pg.run _ s7 _ H7 x u _ I7' r7 (step x H7 y7)) fun _ s8 ⟨σ8, H8, I8, hw8, q8⟩ => ?_
      refine thnF (pt.run _ s8 σ8 H8 _ I8 q8) fun b s9 ⟨H9, I9, q9⟩ => ?_
      -- the turn's end
      have fin : ∀ {s' : Shared} {H' : Hp}, Inv (X.blk s3 H3 scope ce fp) ([] ++ pinsAt fp s7.heap) σ8 H' s' → Nx H' → ∃ m, m < n ∧ ∃ i H', Inv (X.blk s3 H3 scope ce fp) [] (wipe σ (own.map (·.2))) H' s' ∧ tn i s'.heap ∧ (∀ b ∈ fp, H' b = none) ∧ W i m H' := fun {s' H'} I' nx => by
        obtain ⟨m', hm, w'⟩ := hNx H' nx
        have pin' : ∀ b ∈ fp, ∀ o, s7.heap.get? b = some o → s'.heap.get? b = some o ∧ H' b = none := fun b hb o e =>
          let z := I'.pin (b, o) (List.mem_append_right _ (List.mem_append_right _ (mem_pinsAt hb e)))
          ⟨z.1, z.2.1⟩
        have hl : (wipe σ (own.map (·.2))).length = σ8.length := by rw [← hw8, wipe_length]
        refine ⟨m', hm, i + 1, H', (I'.unpinned (pins := [])).weak hl (fun j v e => ?_), T.keep _ _ _ st7 fun b hb o e => (pin' b hb o e).1, fun b hb => ?_, w'⟩
        · rw [← hw8] at e
          exact (wipe_some e).1
        · obtain ⟨o, e, _⟩ := T.obj _ _ st7 b hb
          exact (pin' b hb o e).2
      cases b with
      | false =>
        simp only [Bool.false_eq_true, if_false] at q9 ⊢
        exact fin I9 q9
      | true =>
        simp only [if_true] at q9 ⊢
        refine thnF (pk.run _ s9 σ8 H9 _ I9 q9) fun z s10 ⟨yk, H10, I10, r10, q10⟩ => ?_
        refine thnF (pe.run _ s10 σ8 H10 _ I10 q10) fun z2 s11 ⟨yv, H11, I11, r11, hput⟩ => ?_
        exact fl.put_ok (X := X.blk s3 H3 scope ce fp) rfl rfl hrm I11 hput r10 r11 fun H12 s12 I12 nx => fin I12 nx
  exact codeAny_compStart_dict loop (T.self X.A 0 _ _ _ st4 loop)

theorem pe_dcF {kx vx tg iter : Expr} {ifs : List Expr} {scope : Scope} {own : List (Str × Nat)} {pos : Pos} {wi : TI} {g : TG} {tt : TT} {tk tv : TE} {fl : Flv X.prog X.w} (hc : X.calm = true) (hN : X.N.Nodup) (hi : PI X tg iter wi) (hrm : fl.rm X.A) (ok : BlkOk X.N X.env.scope scope own)
    (hg : ∀ (s : Shared) (H : Hp) (C : Addr) (cl : List (Str × Addr)) (fp : List Addr), PG (X.blk s H scope (compEnvC scope cl C X.env) fp) tg g) (ht : ∀ (s : Shared) (H : Hp) (C : Addr) (cl : List (Str × Addr)) (fp : List Addr), PTs (X.blk s H scope (compEnvC scope cl C X.env) fp) ifs tt)
    (hk : ∀ (s : Shared) (H : Hp) (C : Addr) (cl : List (Str × Addr)) (fp : List Addr), PE (X.blk s H scope (compEnvC scope cl C X.env) fp) kx tk)
    (he : ∀ (s : Shared) (H : Hp) (C : Addr) (cl : List (Str × Addr)) (fp : List Addr), PE (X.blk s H scope (compEnvC scope cl C X.env) fp) vx tv) (hs : ∀ x, foldedSetIterable iter X.env x = pure x := by intro _; rfl) :
    PE X (.DictComp kx vx [⟨tg, iter, ifs, 0⟩] scope pos) (tDcF fl wi g tt tk tv (own.map (·.2))) := by
  refine ⟨fun pins s σ H Q I h => ?_⟩
  rw [arm_eval_DictComp]
  refine dcF_core hc hN I hi ok hg ht hk he hs hrm h fun D C s' m H' I' q hn f => ⟨m, hn, fun h'' sb => ?_⟩
  obtain ⟨f0, f1, f2, f3, f4, f5⟩ := f
  exact ⟨.ref D, H', I'.turned (t' := s'.toks) (fun b o hb e => (sb.2 b hb).trans e) f0 f1 f3 f4 f5, rfl, q⟩
theorem ps_setDcF {i : Nat} {y : Str} {py : Pos} {kx vx tg iter : Expr} {ifs : List Expr} {scope : Scope} {own : List (Str × Nat)} {pos spos : Pos} {wi : TI} {g : TG} {tt : TT} {tk tv : TE} {fl : Flv X.prog X.w} (hc : X.calm = true) (hN : X.N.Nodup) (hy : X.N[i]? = some y) (hyl : X.env.scope.names.lookup y = some .local)
    (hsw : swapsWith (.DictComp kx vx [⟨tg, iter, ifs, 0⟩] scope pos) (some (.Name y py)) spos.line X.env = pure true) (hi : PI X tg iter wi) (hrm : fl.rm X.A) (ok : BlkOk X.N X.env.scope scope own)
    (hg : ∀ (s : Shared) (H : Hp) (C : Addr) (cl : List (Str × Addr)) (fp : List Addr), PG (X.blk s H scope (compEnvC scope cl C X.env) fp) tg g) (ht : ∀ (s : Shared) (H : Hp) (C : Addr) (cl : List (Str × Addr)) (fp : List Addr), PTs (X.blk s H scope (compEnvC scope cl C X.env) fp) ifs tt)
    (hk : ∀ (s : Shared) (H : Hp) (C : Addr) (cl : List (Str × Addr)) (fp : List Addr), PE (X.blk s H scope (compEnvC scope cl C X.env) fp) kx tk)
    (he : ∀ (s : Shared) (H : Hp) (C : Addr) (cl : List (Str × Addr)) (fp : List Addr), PE (X.blk s H scope (compEnvC scope cl C X.env) fp) vx tv) (hs : ∀ x, foldedSetIterable iter X.env x = pure x := by intro _; rfl) :
    PS X (.Assign [.Name y py] (.DictComp kx vx [⟨tg, iter, ifs, 0⟩] scope pos) spos) (tAsg (tDcF fl wi g tt tk tv (own.map (·.2))) (gName i)) := by
  refine ⟨fun pins s σ H D I h => ?_⟩
  rw [exec_Assign_Name_used _ _ _ _ hsw]
  refine wpAny_bind (wpAny_standAt (wpAny_bind ?_))
  show wpAny _ X.A (do let _ ← comprehension (.DictComp kx vx [⟨tg, iter, ifs, 0⟩] scope pos) scope X.env (firstIterPos [⟨tg, iter, ifs, 0⟩] pos) newDict false (eval iter X.env) (some (assign (.Name y py) X.env))) _ _ s
  have h : tDcF fl wi g tt tk tv (own.map (·.2)) σ H (fun x H1 => gName i x σ H1 D.nx) := h
  refine wpAny_bind (thn (dcF_core (Qf := fun _ s' => SP X pins D .next s') hc hN I hi ok hg ht hk he hs hrm h fun L C s' m H' I' q hn f => ?_) fun _ s' hq => wpAny_pure (wpAny_pure hq))
  show wpAny _ _ (assign (.Name y py) X.env (.ref L)) _ _ _
  refine wpAny_assign_Name (store_ok2 (v := V.ref L) I' hN hy (.inl hyl) rfl (fun s2 I2 ⟨a, sb, ha⟩ => ?_) (.inr hyl))
  obtain ⟨f0, f1, f2, f3, f4, f5⟩ := f
  have haC : C ≠ a := by
    rcases ha with z | z
    · rw [z]; exact f1
    · exact fun e => f4 y a z e.symm
  refine ⟨m, hn.sameBut sb haC, fun h3 sb3 => ?_⟩
  exact ⟨_, H', I2.turned (t' := s2.toks) (fun b o hb e => (sb3.2 b hb).trans e) f0 f1 f3 f4 f5, q⟩
theorem sw_trueD {kx vx : Expr} {gs : List Comprehension} {scope : Scope} {pos py : Pos} {y : Str} {l : Nat} {env : Env} (hk : env.scope.kind = .function) (hy : env.scope.names.lookup y = some .local) (hl : (py.line == pos.line) = true)
    (ha : (scope.names.any fun (n, k) => n == y && (k == .local || k == .cell)) = false) : swapsWith (.DictComp kx vx gs scope pos) (some (.Name y py)) l env = pure true := by
  have ky : env.kindOf y = some .local := hy
  have hb : env.blockKind = .function := by unfold Env.blockKind; rw [hk]; rfl
  unfold swapsWith
  simp only [hb, ky, ha, Expr.pos, hl]
  rfl
end
end K14
end
section
set_option Elab.async false
set_option linter.all false
set_option maxRecDepth 100000
/-! walked: the generator. -/
namespace K14
open PySem L2

/-- all but what stands at D is kept -/
def KpD (D : Addr) (H H' : Hp) : Prop := ∀ b o, b ≠ D → H b = some o → H' b = some o
/-- what can be reached by deeds -/
structure Reach (r : Ru) (I : Sg → Prop) (pool : List NestedKey) : Prop where
  first : I first
  step : ∀ S d, I S → d ∈ deeds r.three → I (done r S d)
  ok : ∀ S, I S → SgOk S ∧ nd2 S.rows = true
  size : pool.length ≤ 40000
  key : ∀ S, I S → kyN S ∈ pool
def spWalked (P : Program) (w : World) (CR CS : Addr) : List V → Hp → YL → (Hp → Prop) → Prop := fun vs H yl Q =>
  ∃ (p : Addr) (r : Ru) (I : Sg → Prop) (pool : List NestedKey) (D : Addr) (Pc : Hp → Prop), vs = [.ref p] ∧ RuleAt CR H p r ∧ Reach r I pool ∧ Pc H ∧ (∀ H1 H2, H2 D = H1 D → Pc H1 → Pc H2) ∧ (∀ H1, Pc H1 → ∃ φ, H1 D = some (.ext φ)) ∧
    (∀ t hv q S H1 k, H1 t = some (.tup [hv, .ref q]) → SgAt CS H1 q S → I S → Pc H1 → KpD D H H1 → (∀ H2, KpD D H1 H2 → Pc H2 → k H2) → yl (.ref t) H1 k) ∧
    (∀ H1, KpD D H H1 → Pc H1 → Q H1)
/-! ### what stays -/
def flatO : HO → Bool
  | .tup _ => true
  | .ins _ _ _ => true
  | .dK _ => true
  | _ => false
/-- tuples, instances, plain dicts are kept -/
def SameO (H H' : Hp) : Prop := ∀ b o, H b = some o → flatO o = true → H' b = some o
section
variable {H H' : Hp}
theorem SameO.of (s : Same H H') : SameO H H' := fun b o e _ => s b o e
theorem SameO.trans {H2 : Hp} (s : SameO H H') (t : SameO H' H2) : SameO H H2 := fun b o e n => t b o (s b o e n) n
theorem SameO.upd {a : Addr} {o : HO} (h : ∀ u, H a = some u → flatO u = false) : SameO H (upd H a o) := fun b u e n => by
  rw [upd_ne (fun z => by rw [z] at e; rw [h u e] at n; cases n)]; exact e
theorem KpD.same {D : Addr} (s : KpD D H H') (hD : ∃ φ, H D = some (.ext φ)) : SameO H H' := fun b o e n => s b o (fun z => by
  obtain ⟨φ, h⟩ := hD
  rw [z, h] at e; cases e; cases n) e
theorem RuleAt.monoO {C p : Addr} {r : Ru} (s : SameO H H') (h : RuleAt C H p r) : RuleAt C H' p r := by
  obtain ⟨dx, d, h1, h2⟩ := h
  exact ⟨dx, d, s _ _ h1 rfl, s _ _ h2 rfl⟩
theorem NumAt.monoO {v : V} {n : Option (Int × Int)} (s : SameO H H') (h : NumAt H v n) : NumAt H' v n := by
  cases n with
  | none => exact h
  | some n => obtain ⟨a, e, h⟩ := h; exact ⟨a, e, s _ _ h rfl⟩
theorem RwAt.monoO {v : V} {x : Rw} (s : SameO H H') (h : RwAt H v x) : RwAt H' v x := by
  cases x with
  | struck => exact h
  | mk m o st => obtain ⟨a, e, h⟩ := h; exact ⟨a, e, s _ _ h rfl⟩
theorem SgAt.monoO {C p : Addr} {S : Sg} (s : SameO H H') (h : SgAt C H p S) : SgAt C H' p S := by
  obtain ⟨dx, d, kvs, kv, h1, h2, h3, h4⟩ := h
  exact ⟨dx, d, kvs, kv, s _ _ h1 rfl, s _ _ h2 rfl, Paired.mapP h3 fun _ _ z => ⟨z.1, z.2.monoO s⟩, h4.monoO s⟩
theorem DdV.monoO {v : V} {d : Dd} (s : SameO H H') (h : DdV H v d) : DdV H' v d := by
  obtain ⟨a, e, h⟩ := h
  exact ⟨a, e, s _ _ h rfl⟩
theorem NDk.keep {P : Program} {w : World} {d : Addr} {kvs : List (NestedKey × V)} (s : SameO H H') (hd : H' d = H d) (h : NDk P w H d kvs) : NDk P w H' d kvs := by
  obtain ⟨es, ep, xs, h1, h2, h3, h4⟩ := h
  exact ⟨es, ep, xs, hd.trans h1, h2, Paired.mapP h3 fun _ _ z => ⟨z.1, NIs.keep (fun a ys e => s a _ e rfl) _ _ z.2.1, z.2.2⟩, h4⟩
end
/-- an item of a layer: the history, h long, and the standing -/
def ItV (CS : Addr) (H : Hp) (h : Nat) (v : V) (S : Sg) : Prop := ∃ t hT q hs, v = .ref t ∧ H t = some (.tup [.ref hT, .ref q]) ∧ H hT = some (.tup hs) ∧ hs.length = h ∧ SgAt CS H q S
theorem ItV.monoO {CS : Addr} {H H' : Hp} {h : Nat} {v : V} {S : Sg} (s : SameO H H') (i : ItV CS H h v S) : ItV CS H' h v S := by
  obtain ⟨t, hT, q, hs, e, h1, h2, h3, h4⟩ := i
  exact ⟨t, hT, q, hs, e, s _ _ h1 rfl, s _ _ h2 rfl, h3, h4.monoO s⟩
theorem nodup_le {l : List NestedKey} : ∀ {p : List NestedKey}, l.Nodup → (∀ x ∈ l, x ∈ p) → l.length ≤ p.length := by
  induction l with
  | nil => intro p _ _; exact Nat.zero_le _
  | cons x r ih =>
    intro p hn hs
    rw [List.nodup_cons] at hn
    have hx : x ∈ p := hs x List.mem_cons_self
    have := ih (p := p.erase x) hn.2 fun y hy => (List.mem_erase_of_ne (fun e : y = x => hn.1 (by rw [← e]; exact hy))).mpr (hs y (List.mem_cons_of_mem _ hy))
    rw [List.length_erase_of_mem hx] at this
    have hp : 0 < p.length := List.length_pos_of_mem hx
    rw [List.length_cons]
    omega
theorem valN_none {kvs : List (NestedKey × V)} {k : NestedKey} : valN kvs k = none ↔ k ∉ kvs.map (·.1) := by
  unfold valN
  rw [Option.map_eq_none_iff, List.find?_eq_none]
  constructor
  · intro h hm
    obtain ⟨kv, hkv, rfl⟩ := List.mem_map.mp hm
    have := h kv hkv
    simp at this
  · intro h kv hkv
    simp only [decide_eq_true_eq]
    exact fun z => h (z ▸ List.mem_map_of_mem hkv)
theorem putN_new {kvs : List (NestedKey × V)} {k : NestedKey} {v : V} (h : valN kvs k = none) : putN kvs k v = kvs ++ [(k, v)] := by
  unfold putN
  rw [if_neg (by rw [h]; exact Bool.false_ne_true)]
/-- a for in a generator's body -/
theorem gfor_it {J : It} {n : Nat} {G : Hp → Prop} {Y : Nat → Hp → V → Hp → Prop} (w : L2.Walk J n G Y) {g : TG} {tb : TGn} {D : GEnds} {m : Nat} {σ : L2.St} {H : Hp} (Pv : Nat → Nat → L2.St → Hp → Prop) (h0 : Pv 0 m σ H) (hG : ∀ i m σ H, i ≤ n → Pv i m σ H → G H)
    (hs : ∀ i x m σ H H', i < n → Pv i m σ H → Y i H x H' → g x σ H' fun σ2 H2 => tb { D with nx := Pv (i + 1), ct := Pv (i + 1), bk := D.nx } m σ2 H2) (hd : ∀ m σ H, Pv n m σ H → D.nx m σ H) :
    ∃ W : Nat → Nat → Nat → L2.St → Hp → Prop, (∃ j, W 0 j m σ H) ∧ ∀ i j m σ H, W i j m σ H →
      (J.stop i H ∧ D.nx m σ H) ∨ (J.go i H ∧ ∃ N : Nat → L2.St → Hp → Prop, (∀ m' σ' H', N m' σ' H' → ∃ j', j' < j ∧ W (i + 1) j' m' σ' H') ∧ ∀ x H', J.yld i H x H' → g x σ H' fun σ2 H2 => tb { D with nx := N, ct := N, bk := D.nx } m σ2 H2) := by
  refine ⟨fun i j m σ H => j = n - i ∧ i ≤ n ∧ Pv i m σ H, ⟨n, by simp, Nat.zero_le _, h0⟩, ?_⟩
  rintro i j m σ H ⟨rfl, hi, p⟩
  have q := hG i m σ H hi p
  by_cases hlt : i < n
  · exact .inr ⟨w.goes i H hlt q, Pv (i + 1), fun m' σ' H' p' => ⟨n - (i + 1), by omega, rfl, hlt, p'⟩, fun x H' y => hs i x m σ H H' hlt p (w.yields i H x H' hlt q y)⟩
  · have e : i = n := by omega
    subst e
    exact .inl ⟨w.stops H q, hd m σ H p⟩
/-- the generator's own things between two steps -/
structure WF (P : Program) (w : World) (CR : Addr) (H : Hp) (p : Addr) (r : Ru) (pool : List NestedKey) (D : Addr) (Pc : Hp → Prop) (DL KD : Addr) (ds : List V) (H1 : Hp) (kvs : List (NestedKey × V)) : Prop where
  kp : KpD D H H1
  pc : Pc H1
  ru : RuleAt CR H1 p r
  fkd : H KD = none
  dl : H1 DL = some (.lst ds)
  dd : Paired (DdV H1) ds (deeds r.three)
  kd : NDk P w H1 KD kvs
  sub : ∀ kv ∈ kvs, kv.1 ∈ pool
section
variable {P : Program} {w : World} {CR : Addr} {H : Hp} {p : Addr} {r : Ru} {pool : List NestedKey} {D : Addr} {Pc : Hp → Prop} {DL KD : Addr} {ds : List V} {H1 H2 : Hp} {kvs : List (NestedKey × V)}
theorem WF.to (wf : WF P w CR H p r pool D Pc DL KD ds H1 kvs) (hPc : ∀ H1 H2, H2 D = H1 D → Pc H1 → Pc H2) (s : SameO H1 H2) (hD : H2 D = H1 D) (hDL : H2 DL = H1 DL) (hKD : H2 KD = H1 KD) (kp : KpD D H H2) : WF P w CR H p r pool D Pc DL KD ds H2 kvs :=
  ⟨kp, hPc _ _ hD wf.pc, wf.ru.monoO s, wf.fkd, hDL.trans wf.dl, Paired.mapP wf.dd fun _ _ z => z.monoO s, wf.kd.keep s hKD, wf.sub⟩
theorem WF.len (wf : WF P w CR H p r pool D Pc DL KD ds H1 kvs) : kvs.length ≤ pool.length := by
  have h1 : (kvs.map (·.1)).length ≤ pool.length := nodup_le wf.kd.nodup fun x hx => by
    obtain ⟨kv, hkv, rfl⟩ := List.mem_map.mp hx
    exact wf.sub kv hkv
  rwa [List.length_map] at h1
/-- a step that keeps all -/
theorem WF.same (wf : WF P w CR H p r pool D Pc DL KD ds H1 kvs) (hPc : ∀ H1 H2, H2 D = H1 D → Pc H1 → Pc H2) (hx : ∀ H1, Pc H1 → ∃ φ, H1 D = some (.ext φ)) (s : Same H1 H2) : WF P w CR H p r pool D Pc DL KD ds H2 kvs := by
  obtain ⟨φ, hD⟩ := hx H1 wf.pc
  obtain ⟨es, ep, xs, hk, _⟩ := id wf.kd
  exact wf.to hPc (.of s) (by rw [hD, s _ _ hD]) (by rw [wf.dl, s _ _ wf.dl]) (by rw [hk, s _ _ hk]) fun b o hb e => s _ _ (wf.kp b o hb e)
/-- the consumer has worked -/
theorem WF.con (wf : WF P w CR H p r pool D Pc DL KD ds H1 kvs) (hx : ∀ H1, Pc H1 → ∃ φ, H1 D = some (.ext φ)) (kp : KpD D H1 H2) (pc : Pc H2) (hKD : H KD = none) (hHD : ∃ φ, H D = some (.ext φ)) : WF P w CR H p r pool D Pc DL KD ds H2 kvs := by
  have s : SameO H1 H2 := kp.same (hx _ wf.pc)
  obtain ⟨φ, hD⟩ := hx H1 wf.pc
  obtain ⟨es, ep, xs, hk, _⟩ := id wf.kd
  obtain ⟨φ', hD'⟩ := hHD
  have n1 : KD ≠ D := fun z => by rw [z, hD'] at hKD; cases hKD
  have n2 : DL ≠ D := fun z => by have := wf.dl; rw [z, hD] at this; cases this
  exact ⟨fun b o hb e => kp b o hb (wf.kp b o hb e), pc, wf.ru.monoO s, wf.fkd, kp _ _ n2 wf.dl, Paired.mapP wf.dd fun _ _ z => z.monoO s, wf.kd.keep s (by rw [hk, kp _ _ n1 hk]), wf.sub⟩
/-- a key more -/
theorem WF.put (wf : WF P w CR H p r pool D Pc DL KD ds H1 kvs) (hPc : ∀ H1 H2, H2 D = H1 D → Pc H1 → Pc H2) (hHD : ∃ φ, H D = some (.ext φ)) {k : NestedKey} {v : V} (hk : k ∈ pool) (h : ∀ b, b ≠ KD → H2 b = H1 b) (n : NDk P w H2 KD (kvs ++ [(k, v)])) :
    WF P w CR H p r pool D Pc DL KD ds H2 (kvs ++ [(k, v)]) := by
  obtain ⟨es, ep, xs, hkd, _⟩ := id wf.kd
  have s : SameO H1 H2 := fun b o e f => by
    rw [h b (fun z => by rw [z, hkd] at e; cases e; cases f)]
    exact e
  obtain ⟨φ', hD'⟩ := hHD
  have n1 : D ≠ KD := fun z => by have := wf.fkd; rw [← z, hD'] at this; cases this
  have n2 : DL ≠ KD := fun z => by have := wf.dl; rw [z, hkd] at this; cases this
  refine ⟨fun b o hb e => ?_, hPc _ _ (h D n1) wf.pc, wf.ru.monoO s, wf.fkd, (h DL n2).trans wf.dl, Paired.mapP wf.dd fun _ _ z => z.monoO s, n, fun kv hkv => ?_⟩
  · rw [h b (ne_of_none e wf.fkd)]
    exact wf.kp b o hb e
  · rcases List.mem_append.mp hkv with z | z
    · exact wf.sub kv z
    · rw [List.mem_singleton.mp z]; exact hk
/-- an own list is written -/
theorem WF.lst (wf : WF P w CR H p r pool D Pc DL KD ds H1 kvs) (hPc : ∀ H1 H2, H2 D = H1 D → Pc H1 → Pc H2) (hx : ∀ H1, Pc H1 → ∃ φ, H1 D = some (.ext φ)) {a : Addr} {l l' : List V} (ha : H1 a = some (.lst l)) (hn : H a = none) (hd : a ≠ DL) : WF P w CR H p r pool D Pc DL KD ds (upd H1 a (.lst l')) kvs := by
  obtain ⟨φ, hD⟩ := hx H1 wf.pc
  obtain ⟨es, ep, xs, hk, _⟩ := id wf.kd
  refine wf.to hPc (SameO.upd fun u e => by rw [ha] at e; cases e; rfl) (upd_ne fun z => ?_) (upd_ne (Ne.symm hd)) (upd_ne fun z => ?_) fun b o hb e => ?_
  · rw [← z, hD] at ha; cases ha
  · rw [← z, hk] at ha; cases ha
  · rw [upd_ne (ne_of_none e hn)]
    exact wf.kp b o hb e
end
def GFunAt (P : Program) (w : World) (K : PySem.W.Frag) (mg : Str → Option Value) (base : Heap) (x : Str) (ps : List Str) (k : Nat) (sp : List V → Hp → YL → (Hp → Prop) → Prop) : Prop :=
  ∃ (f : Addr) (fd : FuncData), GFm P w K mg base k f fd ps sp ∧ mg x = some (.ref f) ∧ PySem.W.keepIn K (.ref f) = true ∧ Binds K fd ps []

section
variable {P : Program} {w : World} {K : PySem.W.Frag} {mg : Str → Option Value} {base : Heap} {CR CS : Addr}
abbrev NW : List Str := ["rule", "deeds", "known", "layer", "following", "history", "standing", "deed"]
theorem scWalked : GScope NW ["rule"] (defScope (txt 50)) := ⟨rfl, rfl, rfl, by decide +kernel, rfl, by decide +kernel, by decide +kernel⟩
theorem ncWalked : ∀ y ∈ (defScope (txt 50)).names, y.2 ≠ .cell := by decide +kernel
theorem gf_walked (T : Txt K w mg CR CS) (T2 : Txt2 K w mg) (F : FunAt K mg "walked" (txt 50) ["rule"]) (DD : Df P w K mg base "deeds_of" ["rule"] 1 (spDeeds CR)) (DF : Df P w K mg base "first_standing" [] 3 (spFirst CS)) (DK : Df P w K mg base "key_of" ["standing"] 2 (spKey CS))
    (DO : Df P w K mg base "done" ["rule", "standing", "deed"] 7 (spDone CR CS)) : GFunAt P w K mg base "walked" ["rule"] 8 (spWalked P w CR CS) := by
  obtain ⟨f, fd, F, hm, hb⟩ := F
  obtain ⟨oc, od, kV, doc, pm, an, cdv, ct, osl, rfl, lk, hcd⟩ := F.ex
  refine ⟨f, _, gfm_of lk hcd scWalked ncWalked fun A outer s H vs pn hr hl => ?_, hm, F.kp, hb⟩
  have hr : Room 7 (gx P w K mg base NW "walked" (defScope (txt 50)) f cdv A outer s H pn).A := hr
  have hu := hu_of hr
  have nd := scWalked.nd
  refine ⟨_, gss_cons (gs_ps (ps_par3 (i := 1) (j := 2) (l := 3) rfl nd rfl rfl rfl (by decide) (by decide) (by decide) rfl rfl rfl (pa_cons (pe_df DD (hr.mono (by decide)) rfl (pa_cons (pv 0) pa_nil)) (pa_cons pe_rnew (pa_cons (pe_lst (pa_cons (pe_tup (pa_cons (pe_tup pa_nil) (pa_cons (pe_df0 DF (hr.mono (by decide)) rfl) pa_nil))) pa_nil)) pa_nil))) rfl))
    (gss_one (gs_while (pt_cmpR (op_neNil (by have := hr.un; omega)) (pv 3) (pe_lst pa_nil) (nomark _))
      (gss_cons (gs_ps (ps_set (i := 4) nd rfl (Or.inl rfl) (pe_lst pa_nil)))
      (gss_cons (gs_for rfl (pi_list (pv 3)) (pg_tup (by rfl) (pgs_cons (pg_name (i := 5) nd rfl (Or.inl rfl)) (pgs_cons (pg_name (i := 6) nd rfl (Or.inl rfl)) pgs_nil)))
        (gss_one (gs_if (pt_cmp (pc_nnotin hr (pe_df DK (hr.mono (by decide)) rfl (pa_cons (pv 6) pa_nil)) (pv 2)))
          (gss_cons (gs_ps (ps_nput hr (pv 2) (pe_df DK (hr.mono (by decide)) rfl (pa_cons (pv 6) pa_nil)) pe_bl rfl))
          (gss_cons (gs_yield (pe_tup (pa_cons (pv 5) (pa_cons (pv 6) pa_nil))))
          (gss_one (gs_ps (ps_for PassesOwn.never rfl (pi_list (pv 1)) (pg_name (i := 7) nd rfl (Or.inl rfl))
            (pss_one (ps_expr (pe_bm PySem.F.plainAttrs_list PySem.F.slot_list_append PySem.F.type_list_append mt_append (pv 4) (pa_cons (pe_tup (pa_cons (pe_tup (StX.pa_star (pv 5) (pa_cons (pv 7) pa_nil))) (pa_cons (pe_df DO hr rfl (pa_cons (pv 0) (pa_cons (pv 6) (pa_cons (pv 7) pa_nil)))) pa_nil))) pa_nil)))))))))
          gss_nil)))
      (gss_one (gs_ps (ps_set (i := 3) nd rfl (Or.inl rfl) (pv 4)))))))), ?_⟩
  intro H yl Q ⟨p, r, I, pool, D, Pc, hvs, hR, hI, hPc0, hPc, hx, hyl, hQ⟩
  subst hvs
  obtain ⟨φ0, hD0⟩ := hx H hPc0
  -- the beginning
  refine ⟨_, rfl, p, r, rfl, hR, fun DL ds H1 s1 hdl hdd => ?_⟩
  intro KD hKD
  refine ⟨(by show 0 ≤ sizeLine; decide), fun e1 he1 => ⟨rfl, fun q0 H4 s4 hq0 => ⟨(by show 2 ≤ sizeLine; decide), fun t0 ht0 => ⟨(by show 1 ≤ sizeLine; decide), fun LA hLA => ⟨_, _, _, rfl, ?_⟩⟩⟩⟩⟩
  have s2 : Same H1 (upd H1 KD (RawO KD #[] 0)) := same_upd hKD
  have s3 : Same (upd H1 KD (RawO KD #[] 0)) (upd (upd H1 KD (RawO KD #[] 0)) e1 (.tup [])) := same_upd he1
  have s5 : Same H4 (upd H4 t0 (.tup [.ref e1, .ref q0])) := same_upd ht0
  have s6 : Same (upd H4 t0 (.tup [.ref e1, .ref q0])) (upd (upd H4 t0 (.tup [.ref e1, .ref q0])) LA (.lst [.ref t0])) := same_upd hLA
  have sA : Same H (upd (upd H4 t0 (.tup [.ref e1, .ref q0])) LA (.lst [.ref t0])) := ((((s1.trans s2).trans s3).trans s4).trans s5).trans s6
  have sB : Same H1 (upd (upd H4 t0 (.tup [.ref e1, .ref q0])) LA (.lst [.ref t0])) := (((s2.trans s3).trans s4).trans s5).trans s6
  have fr : ∀ {a : Addr} {H' : Hp}, Same H H' → H' a = none → H a = none := fun {a H'} s e => by
    cases h : H a with
    | none => rfl
    | some o => rw [s _ _ h] at e; cases e
  have wf0 : WF P w CR H p r pool D Pc DL KD ds (upd (upd H4 t0 (.tup [.ref e1, .ref q0])) LA (.lst [.ref t0])) [] :=
    ⟨fun b o _ e => sA _ _ e, hPc _ _ (by rw [sA _ _ hD0, hD0]) hPc0, hR.mono (SameN.of sA), fr s1 hKD, sB _ _ hdl, Paired.mapP hdd fun _ _ z => z.mono (SameN.of sB), nd_nil ((((s3.trans s4).trans s5).trans s6) _ _ upd_same), fun kv hkv => by simp at hkv⟩
  have hLA0 : (upd (upd H4 t0 (.tup [.ref e1, .ref q0])) LA (.lst [.ref t0])) LA = some (.lst [.ref t0]) := upd_same
  have hLD0 : LA ≠ DL := fun z => by
    have := (((s2.trans s3).trans s4).trans s5) _ _ hdl
    rw [← z, hLA] at this; cases this
  have hLAf : H LA = none := fr (((((s1.trans s2).trans s3).trans s4).trans s5)) hLA
  have it0 : ItV CS (upd (upd H4 t0 (.tup [.ref e1, .ref q0])) LA (.lst [.ref t0])) 0 (.ref t0) first :=
    ⟨t0, e1, q0, [], rfl, s6 _ _ upd_same, ((s4.trans s5).trans s6) _ _ upd_same, rfl, hq0.mono (SameN.of (s5.trans s6))⟩
  generalize upd (upd H4 t0 (.tup [.ref e1, .ref q0])) LA (.lst [.ref t0]) = H5 at *
  clear s2 s3 s4 s5 s6 sB hq0 ht0 hLA he1 hKD hdl hdd s1 sA
  -- the layers
  refine ⟨fun j m σ H1 => ∃ LA ys Ss h kvs o4 o5 o6 o7, σ = [some (.ref p), some (.ref DL), some (.ref KD), some (.ref LA), o4, o5, o6, o7] ∧ WF P w CR H p r pool D Pc DL KD ds H1 kvs ∧ H LA = none ∧ LA ≠ DL ∧ H1 LA = some (.lst ys) ∧
    Paired (ItV CS H1 h) ys Ss ∧ (∀ S ∈ Ss, I S) ∧ m = kvs.length ∧ (Ss ≠ [] → h ≤ kvs.length) ∧ Ss.length ≤ 11 * kvs.length + 1 ∧ j = 2 * (pool.length - kvs.length) + (if Ss = [] then 0 else 1), ⟨_, LA, _, [first], 0, [], _, _, _, _, rfl, wf0, hLAf, ?_, hLA0, .cons it0 .nil, ?_, rfl, fun _ => Nat.le_refl _, by simp, rfl⟩, ?_⟩
  · exact hLD0
  · intro S hS
    rw [List.mem_singleton.mp hS]
    exact hI.first
  rintro j m σ H1 ⟨LA, ys, Ss, h, kvs, o4, o5, o6, o7, rfl, wf, hLAf, hLD, hLA, pit, hIS, rfl, hh, hlen, rfl⟩
  have hkl := wf.len
  have hps := hI.size
  refine ⟨_, rfl, (by show 0 ≤ sizeLine; decide), fun nl hnl => ⟨LA, nl, ys, rfl, rfl, (same_upd hnl) _ _ hLA, upd_same, _, rfl, ?_⟩⟩
  have wf1 := wf.same hPc hx (same_upd (o := .lst []) hnl)
  have hLA1 := (same_upd (o := .lst []) hnl) _ _ hLA
  have pit1 : Paired (ItV CS (upd H1 nl (.lst [])) h) ys Ss := Paired.mapP pit fun _ _ z => z.monoO (.of (same_upd hnl))
  generalize upd H1 nl (.lst []) = H2 at *
  clear wf hLA pit hnl
  cases hys : ys with
  | nil =>
    refine itF rfl ?_
    exact hQ _ wf1.kp wf1.pc
  | cons y0 yr =>
    rw [← hys]
    have hSs : Ss ≠ [] := fun z => by rw [hys, z] at pit1; cases pit1
    have hh' := hh hSs
    refine itT (by rw [hys]; rfl) ⟨_, fun m' σ' H' z => z, ?_⟩
    refine ⟨(by show 0 ≤ sizeLine; decide), fun FL hFL => ?_⟩
    have wf2 := wf1.same hPc hx (same_upd (o := .lst []) hFL)
    have hLA2 := (same_upd (o := .lst []) hFL) _ _ hLA1
    have pit2 : Paired (ItV CS (upd H2 FL (.lst [])) h) ys Ss := Paired.mapP pit1 fun _ _ z => z.monoO (.of (same_upd hFL))
    have hFLf : H FL = none := by
      cases e : H FL with
      | none => rfl
      | some o =>
        by_cases z : FL = D
        · obtain ⟨φ, q⟩ := hx _ wf1.pc
          rw [z, q] at hFL; cases hFL
        · rw [wf1.kp FL o z e] at hFL; cases hFL
    have hFD : FL ≠ DL := fun z => by rw [z, wf1.dl] at hFL; cases hFL
    have hFA : FL ≠ LA := fun z => by rw [z, hLA1] at hFL; cases hFL
    have hFL2 : (upd H2 FL (.lst [])) FL = some (.lst []) := upd_same
    generalize upd H2 FL (.lst []) = H3 at *
    clear wf1 hLA1 pit1 hFL
    refine ⟨_, rfl, LA, rfl, ⟨_, SqL.of hLA2⟩, ?_⟩
    refine gfor_it (walk_list (K := K) (a := LA) (xs := ys)) (fun i m σ H4 => ∃ zs Fs kvs' o5 o6 o7, σ = [some (.ref p), some (.ref DL), some (.ref KD), some (.ref LA), some (.ref FL), o5, o6, o7] ∧ WF P w CR H p r pool D Pc DL KD ds H4 kvs' ∧ H4 LA = some (.lst ys) ∧ H4 FL = some (.lst zs) ∧
      Paired (ItV CS H4 h) ys Ss ∧ Paired (ItV CS H4 (h + 1)) zs Fs ∧ (∀ S ∈ Fs, I S) ∧ m = kvs'.length ∧ kvs.length ≤ kvs'.length ∧ (Fs ≠ [] → kvs.length < kvs'.length) ∧ Fs.length ≤ 11 * kvs'.length) ?_ (fun i m σ H4 _ ⟨_, _, _, _, _, _, _, _, z, _⟩ => SqL.of z) ?_ ?_
    · exact ⟨[], [], kvs, _, _, _, rfl, wf2, hLA2, hFL2, pit2, .nil, fun _ z => by simp at z, rfl, Nat.le_refl _, fun z => absurd rfl z, by simp⟩
    · rintro i x m σ H4 H4' hi ⟨zs, Fs, kvs', o5, o6, o7, rfl, wf3, hLA3, hFL3, pit3, pz, hIF, rfl, hk1, hk2, hk3⟩ ⟨rfl, hxx⟩
      have hi' : i < Ss.length := by rw [← Paired.length pit3]; exact hi
      have haS : Ss[i]? = some Ss[i] := List.getElem?_eq_getElem hi'
      obtain ⟨t, hT, q, hs, rfl, ht, hhT, hhs, hS⟩ := paired_at pit3 hxx haS
      have hIS' : I Ss[i] := hIS _ (List.getElem_mem hi')
      generalize Ss[i] = S at *
      obtain ⟨okS, nS⟩ := hI.ok S hIS'
      have hpl := hI.key S hIS'
      have hk' := wf3.len
      refine ⟨t, _, rfl, SqT.of ht, rfl, _, _, rfl, _, _, rfl, rfl, ?_⟩
      -- is the key known?
      refine ⟨_, rfl, q, S, rfl, hS, okS.two, fun a H5 s5 hka => ⟨_, rfl, KD, a, kvs', kyN S, rfl, rfl, ?_, hka, Nat.le_trans (kyN_depth S) (by decide), _, rfl, ?_⟩⟩
      · exact (wf3.same hPc hx s5).kd
      have wf4 := wf3.same hPc hx s5
      have hLA4 := s5 _ _ hLA3
      have hFL4 := s5 _ _ hFL3
      have pit4 : Paired (ItV CS H5 h) ys Ss := Paired.mapP pit3 fun _ _ z => z.monoO (.of s5)
      have pz4 : Paired (ItV CS H5 (h + 1)) zs Fs := Paired.mapP pz fun _ _ z => z.monoO (.of s5)
      have hS4 := hS.monoO (.of s5)
      have hhT4 := s5 _ _ hhT
      clear wf3 hLA3 hFL3 pit3 pz hS hhT ht s5
      cases hv : valN kvs' (kyN S) with
      | some v0 =>
        refine itF rfl ?_
        exact ⟨zs, Fs, kvs', _, _, _, rfl, wf4, hLA4, hFL4, pit4, pz4, hIF, rfl, hk1, hk2, hk3⟩
      | none =>
        refine itT rfl ?_
        refine ⟨_, rfl, _, rfl, q, S, rfl, hS4, okS.two, fun a2 H6 s6 hka2 => ⟨KD, rfl, kvs', kyN S, a2, ?_, rfl, hka2, Nat.le_trans (kyN_depth S) (by decide), Nat.lt_of_le_of_lt (show kvs'.length ≤ 40000 by omega) (by decide), fun H7 h7 n7 => ?_⟩⟩
        · exact (wf4.same hPc hx s6).kd
        rw [putN_new hv] at n7
        have wf5 := (wf4.same hPc hx s6).put hPc ⟨φ0, hD0⟩ hpl h7 n7
        have hk7 := wf5.len
        rw [List.length_append, List.length_singleton] at hk7
        obtain ⟨es, ep, xs, hkd6, _⟩ := (wf4.same hPc hx s6).kd
        have s7 : SameO H6 H7 := fun b o e f => by
          rw [h7 b (fun z => by rw [z, hkd6] at e; cases e; cases f)]
          exact e
        have keep7 : ∀ {b : Addr} {l : List V}, H6 b = some (.lst l) → H7 b = some (.lst l) := fun {b l} e => by
          rw [h7 b (fun z => by rw [z, hkd6] at e; cases e)]
          exact e
        have so7 : SameO H5 H7 := (SameO.of s6).trans s7
        have hLA5 := keep7 (s6 _ _ hLA4)
        have hFL5 := keep7 (s6 _ _ hFL4)
        have pit5 : Paired (ItV CS H7 h) ys Ss := Paired.mapP pit4 fun _ _ z => z.monoO so7
        have pz5 : Paired (ItV CS H7 (h + 1)) zs Fs := Paired.mapP pz4 fun _ _ z => z.monoO so7
        have hS5 := hS4.monoO so7
        have hhT5 := so7 _ _ hhT4 rfl
        clear wf4 hLA4 hFL4 pit4 pz4 hS4 hhT4 n7 h7 keep7 hkd6 s7 so7
        -- the yield
        refine ⟨Nat.lt_of_le_of_lt (show kvs'.length ≤ 40000 by omega) (by decide), _, rfl, _, rfl, (by show 2 ≤ sizeLine; decide), fun t2 ht2 => ?_⟩
        have s8 : Same H7 (upd H7 t2 (.tup [.ref hT, .ref q])) := same_upd ht2
        have wf6 := wf5.same hPc hx s8
        refine hyl t2 (.ref hT) q S _ _ upd_same (hS5.monoO (.of s8)) hIS' wf6.pc wf6.kp fun H9 k9 pc9 => ?_
        have wf7 := wf6.con hx k9 pc9 wf6.fkd ⟨φ0, hD0⟩
        have so9 : SameO H7 H9 := (SameO.of s8).trans (k9.same (hx _ wf6.pc))
        have keep9 : ∀ {b : Addr} {l : List V}, H7 b = some (.lst l) → H9 b = some (.lst l) := fun {b l} e => by
          refine k9 b _ (fun z => ?_) (s8 _ _ e)
          obtain ⟨φ, hd⟩ := hx _ wf6.pc
          have := s8 _ _ e
          rw [z, hd] at this; cases this
        have hLA6 := keep9 hLA5
        have hFL6 := keep9 hFL5
        have pit6 : Paired (ItV CS H9 h) ys Ss := Paired.mapP pit5 fun _ _ z => z.monoO so9
        have pz6 : Paired (ItV CS H9 (h + 1)) zs Fs := Paired.mapP pz5 fun _ _ z => z.monoO so9
        have hS6 := hS5.monoO so9
        have hhT6 := so9 _ _ hhT5 rfl
        clear wf5 wf6 hLA5 hFL5 pit5 pz5 hS5 hhT5 keep9 so9 k9 pc9 s8 ht2
        -- the deeds
        have dlen : (deeds r.three).length ≤ 11 := by cases r.three <;> decide
        refine ⟨_, rfl, DL, rfl, ⟨_, SqL.of wf7.dl⟩, ?_⟩
        refine for_it (walk_list (K := K) (a := DL) (xs := ds)) (fun i2 σ H10 => ∃ zs2 Fs2 o7, σ = [some (.ref p), some (.ref DL), some (.ref KD), some (.ref LA), some (.ref FL), some (.ref hT), some (.ref q), o7] ∧ WF P w CR H p r pool D Pc DL KD ds H10 (kvs' ++ [(kyN S, .bl true)]) ∧ H10 LA = some (.lst ys) ∧ H10 FL = some (.lst zs2) ∧
          Paired (ItV CS H10 h) ys Ss ∧ Paired (ItV CS H10 (h + 1)) zs2 Fs2 ∧ (∀ S ∈ Fs2, I S) ∧ Fs2.length = Fs.length + i2 ∧ SgAt CS H10 q S ∧ H10 hT = some (.tup hs)) ?_ (fun i2 σ H10 _ ⟨_, _, _, _, z, _⟩ => SqL.of z.dl) ?_ ?_
        · exact ⟨zs, Fs, _, rfl, wf7, hLA6, hFL6, pit6, pz6, hIF, rfl, hS6, hhT6⟩
        · rintro i2 x2 σ H10 H10' hi2 ⟨zs2, Fs2, o7, rfl, wf8, hLA7, hFL7, pit7, pz7, hIF2, hl2, hS7, hhT7⟩ ⟨rfl, hx2⟩
          have hi3 : i2 < (deeds r.three).length := by rw [← Paired.length wf8.dd]; exact hi2
          have hda : (deeds r.three)[i2]? = some (deeds r.three)[i2] := List.getElem?_eq_getElem hi3
          obtain ⟨td, rfl, htd⟩ := paired_at wf8.dd hx2 hda
          have hdm : (deeds r.three)[i2] ∈ deeds r.three := List.getElem_mem hi3
          generalize (deeds r.three)[i2] = d at *
          refine ⟨_, rfl, .inl ⟨rfl, _, SqL.of hFL7⟩, ?_⟩
          have hl1 : hs.length + 1 ≤ 40001 := by omega
          refine ⟨_, rfl, hT, hs, rfl, .inl (SqT.of hhT7), _, rfl, ⟨by rw [List.length_append, List.length_singleton]; exact Nat.le_trans hl1 (by decide), fun nt hnt => ?_⟩⟩
          have s11 : Same H10' (upd H10' nt (.tup (hs ++ [.ref td]))) := same_upd hnt
          refine ⟨_, rfl, _, rfl, _, rfl, p, q, td, r, S, d, rfl, wf8.ru.monoO (.of s11), hS7.monoO (.of s11), s11 _ _ htd, okS, nS, fun x H12 s12 hx12 => ⟨(by show 2 ≤ sizeLine; decide), fun t3 ht3 => ?_⟩⟩
          have s13 : Same H12 (upd H12 t3 (.tup [.ref nt, .ref x])) := same_upd ht3
          have sA := (s11.trans s12).trans s13
          have wf9 := wf8.same hPc hx sA
          have hFL8 := sA _ _ hFL7
          have hit : ItV CS (upd H12 t3 (.tup [.ref nt, .ref x])) (h + 1) (.ref t3) (done r S d) := ⟨t3, nt, x, _, rfl, upd_same, s13 _ _ (s12 _ _ upd_same), by rw [List.length_append, List.length_singleton, hhs], hx12.monoO (.of s13)⟩
          have hz := Paired.length pz7
          refine ⟨FL, zs2, .ref t3, rfl, rfl, hFL8, Nat.lt_of_le_of_lt (show zs2.length ≤ 440011 by omega) (by decide), ?_⟩
          have soF : SameO (upd H12 t3 (.tup [.ref nt, .ref x])) (upd (upd H12 t3 (.tup [.ref nt, .ref x])) FL (.lst (zs2 ++ [.ref t3]))) := SameO.upd fun u e => by rw [hFL8] at e; cases e; rfl
          have soA := (SameO.of sA).trans soF
          refine ⟨zs2 ++ [.ref t3], Fs2 ++ [done r S d], _, rfl, wf9.lst hPc hx hFL8 hFLf hFD, by rw [upd_ne (Ne.symm hFA)]; exact sA _ _ hLA7, upd_same, Paired.mapP pit7 fun _ _ z => z.monoO soA, Paired.snoc (Paired.mapP pz7 fun _ _ z => z.monoO soA) (hit.monoO soF), fun S' hS' => ?_, by rw [List.length_append, List.length_singleton]; omega, hS7.monoO soA, soA _ _ hhT7 rfl⟩
          rcases List.mem_append.mp hS' with z | z
          · exact hIF2 S' z
          · rw [List.mem_singleton.mp z]; exact hI.step S d hIS' hdm
        · rintro σ H10 ⟨zs2, Fs2, o7, rfl, wf8, hLA7, hFL7, pit7, pz7, hIF2, hl2, hS7, hhT7⟩
          have l1 : ds.length ≤ 11 := by rw [Paired.length wf8.dd]; exact dlen
          refine ⟨zs2, Fs2, _, _, _, _, rfl, wf8, hLA7, hFL7, pit7, pz7, hIF2, by rw [List.length_append, List.length_singleton], by rw [List.length_append]; omega, fun _ => by rw [List.length_append, List.length_singleton]; omega, by rw [List.length_append, List.length_singleton]; omega⟩
    · rintro m σ H4 ⟨zs, Fs, kvs', o5, o6, o7, rfl, wf3, hLA3, hFL3, pit3, pz, hIF, rfl, hk1, hk2, hk3⟩
      have hk' := wf3.len
      refine ⟨_, rfl, _, ?_, FL, zs, Fs, h + 1, kvs', _, _, _, _, rfl, wf3, hFLf, hFD, hFL3, pz, hIF, rfl, fun z => by have := hk2 z; omega, by omega, rfl⟩
      rw [if_neg hSs]
      by_cases z : Fs = []
      · rw [if_pos z]; omega
      · rw [if_neg z]
        have := hk2 z
        omega
end
end K14
end
section
set_option Elab.async false
set_option linter.all false
set_option maxRecDepth 100000
/-! first_parting, parting, alike. -/
namespace K14
open PySem L2

/-- what two rules reach side by side -/
structure Reach2 (r r2 : Ru) (I : Sg → Sg → Prop) (pool : List NestedKey) : Prop where
  first : I first first
  step : ∀ S T d, I S T → d ∈ deeds r.three → I (done r S d) (done r2 T d)
  ok : ∀ S T, I S T → (SgOk S ∧ nd2 S.rows = true) ∧ SgOk T ∧ nd2 T.rows = true
  size : pool.length ≤ 40000
  key : ∀ S T, I S T → NestedKey.tup [kyN S, kyN T] ∈ pool
  same : ∀ S T, I S T → shownBy r S = shownBy r2 T
theorem kyP_depth (S T : Sg) : (NestedKey.tup [kyN S, kyN T]).depth ≤ 3 := by
  have h1 := kyN_depth S
  have h2 := kyN_depth T
  simp only [NestedKey.depth, NestedKey.depthAll] at *
  omega
def ItP (CS : Addr) (H : Hp) (h : Nat) (v : V) (S : Sg × Sg) : Prop := ∃ t hT a b hs, v = .ref t ∧ H t = some (.tup [.ref hT, .ref a, .ref b]) ∧ H hT = some (.tup hs) ∧ hs.length = h ∧ SgAt CS H a S.1 ∧ SgAt CS H b S.2
theorem ItP.monoO {CS : Addr} {H H' : Hp} {h : Nat} {v : V} {S : Sg × Sg} (s : SameO H H') (i : ItP CS H h v S) : ItP CS H' h v S := by
  obtain ⟨t, hT, a, b, hs, e, h1, h2, h3, h4, h5⟩ := i
  exact ⟨t, hT, a, b, hs, e, s _ _ h1 rfl, s _ _ h2 rfl, h3, h4.monoO s, h5.monoO s⟩
/-- the def's own things between two steps -/
structure WP (P : Program) (w : World) (CR : Addr) (H : Hp) (p q : Addr) (r r2 : Ru) (pool : List NestedKey) (DL KD : Addr) (ds : List V) (H1 : Hp) (kvs : List (NestedKey × V)) : Prop where
  kp : Same H H1
  ru : RuleAt CR H1 p r
  ru2 : RuleAt CR H1 q r2
  fkd : H KD = none
  dl : H1 DL = some (.lst ds)
  dd : Paired (DdV H1) ds (deeds r.three)
  kd : NDk P w H1 KD kvs
  sub : ∀ kv ∈ kvs, kv.1 ∈ pool
section
variable {P : Program} {w : World} {CR : Addr} {H : Hp} {p q : Addr} {r r2 : Ru} {pool : List NestedKey} {DL KD : Addr} {ds : List V} {H1 H2 : Hp} {kvs : List (NestedKey × V)}
theorem WP.to (wf : WP P w CR H p q r r2 pool DL KD ds H1 kvs) (s : SameO H1 H2) (hDL : H2 DL = H1 DL) (hKD : H2 KD = H1 KD) (kp : Same H H2) : WP P w CR H p q r r2 pool DL KD ds H2 kvs :=
  ⟨kp, wf.ru.monoO s, wf.ru2.monoO s, wf.fkd, hDL.trans wf.dl, Paired.mapP wf.dd fun _ _ z => z.monoO s, wf.kd.keep s hKD, wf.sub⟩
theorem WP.len (wf : WP P w CR H p q r r2 pool DL KD ds H1 kvs) : kvs.length ≤ pool.length := by
  have h1 : (kvs.map (·.1)).length ≤ pool.length := nodup_le wf.kd.nodup fun x hx => by
    obtain ⟨kv, hkv, rfl⟩ := List.mem_map.mp hx
    exact wf.sub kv hkv
  rwa [List.length_map] at h1
theorem WP.same (wf : WP P w CR H p q r r2 pool DL KD ds H1 kvs) (s : Same H1 H2) : WP P w CR H p q r r2 pool DL KD ds H2 kvs := by
  obtain ⟨es, ep, xs, hk, _⟩ := id wf.kd
  exact wf.to (.of s) (by rw [wf.dl, s _ _ wf.dl]) (by rw [hk, s _ _ hk]) (wf.kp.trans s)
theorem WP.put (wf : WP P w CR H p q r r2 pool DL KD ds H1 kvs) {k : NestedKey} {v : V} (hk : k ∈ pool) (h : ∀ b, b ≠ KD → H2 b = H1 b) (n : NDk P w H2 KD (kvs ++ [(k, v)])) : WP P w CR H p q r r2 pool DL KD ds H2 (kvs ++ [(k, v)]) := by
  obtain ⟨es, ep, xs, hkd, _⟩ := id wf.kd
  have s : SameO H1 H2 := fun b o e f => by
    rw [h b (fun z => by rw [z, hkd] at e; cases e; cases f)]
    exact e
  have n2 : DL ≠ KD := fun z => by have := wf.dl; rw [z, hkd] at this; cases this
  refine ⟨fun b o e => ?_, wf.ru.monoO s, wf.ru2.monoO s, wf.fkd, (h DL n2).trans wf.dl, Paired.mapP wf.dd fun _ _ z => z.monoO s, n, fun kv hkv => ?_⟩
  · rw [h b (ne_of_none e wf.fkd)]
    exact wf.kp b o e
  · rcases List.mem_append.mp hkv with z | z
    · exact wf.sub kv z
    · rw [List.mem_singleton.mp z]; exact hk
theorem WP.lst (wf : WP P w CR H p q r r2 pool DL KD ds H1 kvs) {a : Addr} {l l' : List V} (ha : H1 a = some (.lst l)) (hn : H a = none) (hd : a ≠ DL) : WP P w CR H p q r r2 pool DL KD ds (upd H1 a (.lst l')) kvs := by
  obtain ⟨es, ep, xs, hk, _⟩ := id wf.kd
  refine wf.to (SameO.upd fun u e => by rw [ha] at e; cases e; rfl) (upd_ne (Ne.symm hd)) (upd_ne fun z => ?_) (fun b o e => ?_)
  · rw [← z, hk] at ha; cases ha
  · rw [upd_ne (ne_of_none e hn)]
    exact wf.kp b o e
end
section
variable {P : Program} {w : World} {K : PySem.W.Frag} {mg : Str → Option Value} {base : Heap} {CR CS : Addr}
abbrev NP : List Str := ["one", "other", "deeds", "known", "layer", "following", "history", "here", "there", "key", "deed"]
def spFirstP (CR : Addr) : Sp := fun vs H Q _ => ∃ (p q : Addr) (r r2 : Ru) (I : Sg → Sg → Prop) (pool : List NestedKey), vs = [.ref p, .ref q] ∧ RuleAt CR H p r ∧ RuleAt CR H q r2 ∧ Reach2 r r2 I pool ∧ ∀ H', Same H H' → Q .non H'
theorem scFirstP : FnScope NP ["one", "other"] (defScope (txt 52)) := ⟨rfl, rfl, rfl, by decide +kernel, rfl, by decide +kernel, by decide +kernel⟩
theorem df_firstp (T : Txt K w mg CR CS) (F : FunAt K mg "first_parting" (txt 52) ["one", "other"]) (DD : Df P w K mg base "deeds_of" ["rule"] 1 (spDeeds CR)) (DF : Df P w K mg base "first_standing" [] 3 (spFirst CS)) (DK : Df P w K mg base "key_of" ["standing"] 2 (spKey CS))
    (DO : Df P w K mg base "done" ["rule", "standing", "deed"] 7 (spDone CR CS)) (DS : Df P w K mg base "shown_by" ["rule", "standing"] 6 (spShown CR CS)) : Df P w K mg base "first_parting" ["one", "other"] 8 (spFirstP CR) := by
  refine F.ok scFirstP (fun vs H Q E h => ?_) (fun f cdv A outer s H vs Q E hr h => ?_)
  · obtain ⟨p, q, r, r2, I, pool, rfl, _⟩ := h
    rfl
  obtain ⟨p, q, r, r2, I, pool, rfl, hR, hR2, hI, k⟩ := h
  have hu := hu_of hr
  have nd := scFirstP.nd
  refine ⟨_, pss_cons (ps_par3 (i := 2) (j := 3) (l := 4) rfl nd rfl rfl rfl (by decide) (by decide) (by decide) rfl rfl rfl (pa_cons (pe_df DD (hr.mono (by decide)) rfl (pa_cons (pv 0) pa_nil)) (pa_cons pe_rnew (pa_cons (pe_lst (pa_cons (pe_tup (pa_cons (pe_tup pa_nil) (pa_cons (pe_df0 DF (hr.mono (by decide)) rfl) (pa_cons (pe_df0 DF (hr.mono (by decide)) rfl) pa_nil)))) pa_nil)) pa_nil))) rfl)
    (pss_cons (ps_while PassesOwn.never (pt_cmpR (op_neNil (Nat.lt_of_succ_lt hu)) (pv 4) (pe_lst pa_nil) (nomark _))
      (pss_cons (ps_set (i := 5) nd rfl (Or.inl rfl) (pe_lst pa_nil))
      (pss_cons (ps_for PassesOwn.never rfl (pi_list (pv 4)) (pg_tup (by rfl) (pgs_cons (pg_name (i := 6) nd rfl (Or.inl rfl)) (pgs_cons (pg_name (i := 7) nd rfl (Or.inl rfl)) (pgs_cons (pg_name (i := 8) nd rfl (Or.inl rfl)) pgs_nil))))
        (pss_cons (ps_if (pt_cmpR (op_neD hr.units) (pe_df DS (hr.mono (by decide)) rfl (pa_cons (pv 0) (pa_cons (pv 7) pa_nil))) (pe_df DS (hr.mono (by decide)) rfl (pa_cons (pv 1) (pa_cons (pv 8) pa_nil))) (nomark _)) (pss_one (ps_ret (pv 6))) pss_nil)
        (pss_cons (ps_set (i := 9) nd rfl (Or.inl rfl) (pe_tup (pa_cons (pe_df DK (hr.mono (by decide)) rfl (pa_cons (pv 7) pa_nil)) (pa_cons (pe_df DK (hr.mono (by decide)) rfl (pa_cons (pv 8) pa_nil)) pa_nil))))
        (pss_one (ps_if (pt_cmp (pc_nnotin hr (pv 9) (pv 3)))
          (pss_cons (ps_nput hr (pv 3) (pv 9) pe_bl rfl)
          (pss_one (ps_for PassesOwn.never rfl (pi_list (pv 2)) (pg_name (i := 10) nd rfl (Or.inl rfl))
            (pss_one (ps_expr (pe_bm PySem.F.plainAttrs_list PySem.F.slot_list_append PySem.F.type_list_append mt_append (pv 5) (pa_cons (pe_tup (pa_cons (pe_tup (StX.pa_star (pv 6) (pa_cons (pv 10) pa_nil))) (pa_cons (pe_df DO hr rfl (pa_cons (pv 0) (pa_cons (pv 7) (pa_cons (pv 10) pa_nil)))) (pa_cons (pe_df DO hr rfl (pa_cons (pv 1) (pa_cons (pv 8) (pa_cons (pv 10) pa_nil)))) pa_nil)))) pa_nil)))))))
          pss_nil)))))
      (pss_one (ps_set (i := 4) nd rfl (Or.inl rfl) (pv 5))))))
    (pss_one (ps_ret pe_non))), ?_⟩
  -- the beginning
  refine ⟨_, rfl, p, r, rfl, hR, fun DL ds H1 s1 hdl hdd => ?_⟩
  intro KD hKD
  refine ⟨(by show 0 ≤ sizeLine; decide), fun e1 he1 => ⟨rfl, fun q0 H4 s4 hq0 => ⟨rfl, fun q1 H5 s5 hq1 => ⟨(by show 3 ≤ sizeLine; decide), fun t0 ht0 => ⟨(by show 1 ≤ sizeLine; decide), fun LA hLA => ⟨_, _, _, rfl, ?_⟩⟩⟩⟩⟩⟩
  have s2 : Same H1 (upd H1 KD (RawO KD #[] 0)) := same_upd hKD
  have s3 : Same (upd H1 KD (RawO KD #[] 0)) (upd (upd H1 KD (RawO KD #[] 0)) e1 (.tup [])) := same_upd he1
  have s6 : Same H5 (upd H5 t0 (.tup [.ref e1, .ref q0, .ref q1])) := same_upd ht0
  have s7 : Same (upd H5 t0 (.tup [.ref e1, .ref q0, .ref q1])) (upd (upd H5 t0 (.tup [.ref e1, .ref q0, .ref q1])) LA (.lst [.ref t0])) := same_upd hLA
  have sM := ((s4.trans s5).trans s6).trans s7
  have sB := (s2.trans s3).trans sM
  have sA := s1.trans sB
  have fr : ∀ {a : Addr} {H' : Hp}, Same H H' → H' a = none → H a = none := fun {a H'} s e => by
    cases h : H a with
    | none => rfl
    | some o => rw [s _ _ h] at e; cases e
  have wf0 : WP P w CR H p q r r2 pool DL KD ds (upd (upd H5 t0 (.tup [.ref e1, .ref q0, .ref q1])) LA (.lst [.ref t0])) [] :=
    ⟨sA, hR.mono (SameN.of sA), hR2.mono (SameN.of sA), fr s1 hKD, sB _ _ hdl, Paired.mapP hdd fun _ _ z => z.mono (SameN.of sB), nd_nil ((s3.trans sM) _ _ upd_same), fun kv hkv => by simp at hkv⟩
  have hLA0 : (upd (upd H5 t0 (.tup [.ref e1, .ref q0, .ref q1])) LA (.lst [.ref t0])) LA = some (.lst [.ref t0]) := upd_same
  have hLD0 : LA ≠ DL := fun z => by
    have := ((((s2.trans s3).trans s4).trans s5).trans s6) _ _ hdl
    rw [← z, hLA] at this; cases this
  have hLAf : H LA = none := fr (((((s1.trans s2).trans s3).trans s4).trans s5).trans s6) hLA
  have it0 : ItP CS (upd (upd H5 t0 (.tup [.ref e1, .ref q0, .ref q1])) LA (.lst [.ref t0])) 0 (.ref t0) (K14.first, K14.first) :=
    ⟨t0, e1, q0, q1, [], rfl, s7 _ _ upd_same, sM _ _ upd_same, rfl, hq0.mono (SameN.of ((s5.trans s6).trans s7)), hq1.mono (SameN.of (s6.trans s7))⟩
  generalize upd (upd H5 t0 (.tup [.ref e1, .ref q0, .ref q1])) LA (.lst [.ref t0]) = H6 at *
  clear s2 s3 s4 s5 s6 s7 sM sB hq0 hq1 ht0 hLA he1 hKD hdl hdd s1 sA
  refine ⟨fun j σ H1 => ∃ LA ys Ss h kvs o5 o6 o7 o8 o9 o10, σ = [some (.ref p), some (.ref q), some (.ref DL), some (.ref KD), some (.ref LA), o5, o6, o7, o8, o9, o10] ∧ WP P w CR H p q r r2 pool DL KD ds H1 kvs ∧ H LA = none ∧ LA ≠ DL ∧ H1 LA = some (.lst ys) ∧
    Paired (ItP CS H1 h) ys Ss ∧ (∀ S ∈ Ss, I S.1 S.2) ∧ (Ss ≠ [] → h ≤ kvs.length) ∧ Ss.length ≤ 11 * kvs.length + 1 ∧ j = 2 * (pool.length - kvs.length) + (if Ss = [] then 0 else 1), ⟨_, LA, _, [(K14.first, K14.first)], 0, [], _, _, _, _, _, _, rfl, wf0, hLAf, hLD0, hLA0, .cons it0 .nil, ?_, fun _ => Nat.le_refl _, by simp, rfl⟩, ?_⟩
  · intro S hS
    rw [List.mem_singleton.mp hS]
    exact hI.first
  rintro j σ H1 ⟨LA, ys, Ss, h, kvs, o5, o6, o7, o8, o9, o10, rfl, wf, hLAf, hLD, hLA, pit, hIS, hh, hlen, rfl⟩
  have hkl := wf.len
  have hps := hI.size
  refine ⟨_, rfl, (by show 0 ≤ sizeLine; decide), fun nl hnl => ⟨LA, nl, ys, rfl, rfl, (same_upd hnl) _ _ hLA, upd_same, _, rfl, ?_⟩⟩
  have wf1 := wf.same (same_upd (o := .lst []) hnl)
  have hLA1 := (same_upd (o := .lst []) hnl) _ _ hLA
  have pit1 : Paired (ItP CS (upd H1 nl (.lst [])) h) ys Ss := Paired.mapP pit fun _ _ z => z.monoO (.of (same_upd hnl))
  generalize upd H1 nl (.lst []) = H2 at *
  clear wf hLA pit hnl
  cases hys : ys with
  | nil =>
    refine itF rfl ?_
    exact k _ wf1.kp
  | cons y0 yr =>
    rw [← hys]
    have hSs : Ss ≠ [] := fun z => by rw [hys, z] at pit1; cases pit1
    have hh' := hh hSs
    refine itT (by rw [hys]; rfl) ⟨_, fun σ' H' z => z, ?_⟩
    refine ⟨(by show 0 ≤ sizeLine; decide), fun FL hFL => ?_⟩
    have wf2 := wf1.same (same_upd (o := .lst []) hFL)
    have hLA2 := (same_upd (o := .lst []) hFL) _ _ hLA1
    have pit2 : Paired (ItP CS (upd H2 FL (.lst [])) h) ys Ss := Paired.mapP pit1 fun _ _ z => z.monoO (.of (same_upd hFL))
    have hFLf : H FL = none := by
      cases e : H FL with
      | none => rfl
      | some o => rw [wf1.kp FL o e] at hFL; cases hFL
    have hFD : FL ≠ DL := fun z => by rw [z, wf1.dl] at hFL; cases hFL
    have hFA : FL ≠ LA := fun z => by rw [z, hLA1] at hFL; cases hFL
    have hFL2 : (upd H2 FL (.lst [])) FL = some (.lst []) := upd_same
    generalize upd H2 FL (.lst []) = H3 at *
    clear wf1 hLA1 pit1 hFL
    refine ⟨_, rfl, LA, rfl, ⟨_, SqL.of hLA2⟩, ?_⟩
    refine for_it (walk_list (K := K) (a := LA) (xs := ys)) (fun i σ H4 => ∃ zs Fs kvs' o6 o7 o8 o9 o10, σ = [some (.ref p), some (.ref q), some (.ref DL), some (.ref KD), some (.ref LA), some (.ref FL), o6, o7, o8, o9, o10] ∧ WP P w CR H p q r r2 pool DL KD ds H4 kvs' ∧ H4 LA = some (.lst ys) ∧ H4 FL = some (.lst zs) ∧
      Paired (ItP CS H4 h) ys Ss ∧ Paired (ItP CS H4 (h + 1)) zs Fs ∧ (∀ S ∈ Fs, I S.1 S.2) ∧ kvs.length ≤ kvs'.length ∧ (Fs ≠ [] → kvs.length < kvs'.length) ∧ Fs.length ≤ 11 * kvs'.length) ?_ (fun i σ H4 _ ⟨_, _, _, _, _, _, _, _, _, _, z, _⟩ => SqL.of z) ?_ ?_
    · exact ⟨[], [], kvs, _, _, _, _, _, rfl, wf2, hLA2, hFL2, pit2, .nil, fun _ z => by simp at z, Nat.le_refl _, fun z => absurd rfl z, by simp⟩
    · rintro i x σ H4 H4' hi ⟨zs, Fs, kvs', o6, o7, o8, o9, o10, rfl, wf3, hLA3, hFL3, pit3, pz, hIF, hk1, hk2, hk3⟩ ⟨rfl, hxx⟩
      have hi' : i < Ss.length := by rw [← Paired.length pit3]; exact hi
      have haS : Ss[i]? = some Ss[i] := List.getElem?_eq_getElem hi'
      obtain ⟨t, hT, a, b, hs, rfl, ht, hhT, hhs, hS, hS2⟩ := paired_at pit3 hxx haS
      have hIS' := hIS _ (List.getElem_mem hi')
      generalize Ss[i] = SS at *
      obtain ⟨S, S2⟩ := SS
      dsimp only at hS hS2 hIS'
      obtain ⟨⟨okS, nS⟩, okS2, nS2⟩ := hI.ok S S2 hIS'
      have hpl := hI.key S S2 hIS'
      have hk' := wf3.len
      refine ⟨t, _, rfl, SqT.of ht, rfl, _, _, rfl, _, _, rfl, _, _, rfl, rfl, ?_⟩
      -- shown alike
      refine ⟨_, rfl, _, rfl, p, a, r, S, rfl, wf3.ru, hS, okS, fun v1 H5 s5 hv1 => ?_⟩
      have wf4 := wf3.same s5
      refine ⟨_, rfl, _, rfl, q, b, r2, S2, rfl, wf4.ru2, hS2.monoO (.of s5), okS2, fun v2 H6 s6 hv2 => ?_⟩
      refine ⟨nD (shownBy r S), nD (shownBy r2 S2), (hv1.mono (SameN.of s6)).dp, hv2.dp, nD_shaped _, nD_shaped _, _, rfl, ?_⟩
      rw [nD_eqv, hI.same S S2 hIS', decide_eq_true rfl]
      refine itF rfl ?_
      have s56 := s5.trans s6
      have wf5 := wf4.same s6
      -- the key
      refine ⟨_, rfl, a, S, rfl, hS.monoO (.of s56), okS.two, fun k1 H7 s7 hk7 => ⟨_, rfl, b, S2, rfl, hS2.monoO (.of (s56.trans s7)), okS2.two, fun k2 H8 s8 hk8 => ⟨(by show 2 ≤ sizeLine; decide), fun kt hkt => ?_⟩⟩⟩
      have s9 : Same H8 (upd H8 kt (.tup [.ref k1, .ref k2])) := same_upd hkt
      have sA := ((s56.trans s7).trans s8).trans s9
      have hky : NIs (upd H8 kt (.tup [.ref k1, .ref k2])) (.tup [kyN S, kyN S2]) (.ref kt) := .tup upd_same (.cons (hk7.mono (SameN.of (s8.trans s9))) (.cons (hk8.mono (SameN.of s9)) .nil))
      have wf6 := wf3.same sA
      have hLA4 := sA _ _ hLA3
      have hFL4 := sA _ _ hFL3
      have pit4 : Paired (ItP CS _ h) ys Ss := Paired.mapP pit3 fun _ _ z => z.monoO (.of sA)
      have pz4 : Paired (ItP CS _ (h + 1)) zs Fs := Paired.mapP pz fun _ _ z => z.monoO (.of sA)
      have hS4 := hS.monoO (.of sA)
      have hS24 := hS2.monoO (.of sA)
      have hhT4 := sA _ _ hhT
      generalize upd H8 kt (.tup [.ref k1, .ref k2]) = H9 at *
      clear wf3 wf4 wf5 hLA3 hFL3 pit3 pz hS hS2 hhT ht s5 s6 s56 s7 s8 s9 sA hv1 hv2 hk7 hk8 hkt
      refine ⟨_, rfl, _, rfl, KD, kt, kvs', _, rfl, rfl, wf6.kd, hky, Nat.le_trans (kyP_depth S S2) (by decide), _, rfl, ?_⟩
      cases hv : valN kvs' (.tup [kyN S, kyN S2]) with
      | some v0 =>
        refine itF rfl ?_
        exact ⟨zs, Fs, kvs', _, _, _, _, _, rfl, wf6, hLA4, hFL4, pit4, pz4, hIF, hk1, hk2, hk3⟩
      | none =>
        refine itT rfl ?_
        refine ⟨_, rfl, _, rfl, KD, rfl, kvs', _, kt, wf6.kd, rfl, hky, Nat.le_trans (kyP_depth S S2) (by decide), Nat.lt_of_le_of_lt (show kvs'.length ≤ 40000 by omega) (by decide), fun H10 h10 n10 => ?_⟩
        rw [putN_new hv] at n10
        have wf7 := wf6.put hpl h10 n10
        have hk7 := wf7.len
        rw [List.length_append, List.length_singleton] at hk7
        obtain ⟨es, ep, xs, hkd6, _⟩ := id wf6.kd
        have so7 : SameO H9 H10 := fun b o e f => by
          rw [h10 b (fun z => by rw [z, hkd6] at e; cases e; cases f)]
          exact e
        have keep7 : ∀ {b : Addr} {l : List V}, H9 b = some (.lst l) → H10 b = some (.lst l) := fun {b l} e => by
          rw [h10 b (fun z => by rw [z, hkd6] at e; cases e)]
          exact e
        have hLA5 := keep7 hLA4
        have hFL5 := keep7 hFL4
        have pit5 : Paired (ItP CS H10 h) ys Ss := Paired.mapP pit4 fun _ _ z => z.monoO so7
        have pz5 : Paired (ItP CS H10 (h + 1)) zs Fs := Paired.mapP pz4 fun _ _ z => z.monoO so7
        have hS5 := hS4.monoO so7
        have hS25 := hS24.monoO so7
        have hhT5 := so7 _ _ hhT4 rfl
        clear wf6 hLA4 hFL4 pit4 pz4 hS4 hS24 hhT4 n10 h10 keep7 hkd6 so7 hky
        -- the deeds
        have dlen : (deeds r.three).length ≤ 11 := by cases r.three <;> decide
        refine ⟨_, rfl, DL, rfl, ⟨_, SqL.of wf7.dl⟩, ?_⟩
        refine for_it (walk_list (K := K) (a := DL) (xs := ds)) (fun i2 σ H10 => ∃ zs2 Fs2 o10, σ = [some (.ref p), some (.ref q), some (.ref DL), some (.ref KD), some (.ref LA), some (.ref FL), some (.ref hT), some (.ref a), some (.ref b), some (.ref kt), o10] ∧ WP P w CR H p q r r2 pool DL KD ds H10 (kvs' ++ [(.tup [kyN S, kyN S2], .bl true)]) ∧ H10 LA = some (.lst ys) ∧ H10 FL = some (.lst zs2) ∧
          Paired (ItP CS H10 h) ys Ss ∧ Paired (ItP CS H10 (h + 1)) zs2 Fs2 ∧ (∀ S ∈ Fs2, I S.1 S.2) ∧ Fs2.length = Fs.length + i2 ∧ SgAt CS H10 a S ∧ SgAt CS H10 b S2 ∧ H10 hT = some (.tup hs)) ?_ (fun i2 σ H10 _ ⟨_, _, _, _, z, _⟩ => SqL.of z.dl) ?_ ?_
        · exact ⟨zs, Fs, _, rfl, wf7, hLA5, hFL5, pit5, pz5, hIF, rfl, hS5, hS25, hhT5⟩
        · rintro i2 x2 σ H11 H11' hi2 ⟨zs2, Fs2, o10, rfl, wf8, hLA7, hFL7, pit7, pz7, hIF2, hl2, hS7, hS27, hhT7⟩ ⟨rfl, hx2⟩
          have hi3 : i2 < (deeds r.three).length := by rw [← Paired.length wf8.dd]; exact hi2
          have hda : (deeds r.three)[i2]? = some (deeds r.three)[i2] := List.getElem?_eq_getElem hi3
          obtain ⟨td, rfl, htd⟩ := paired_at wf8.dd hx2 hda
          have hdm : (deeds r.three)[i2] ∈ deeds r.three := List.getElem_mem hi3
          generalize (deeds r.three)[i2] = d at *
          refine ⟨_, rfl, .inl ⟨rfl, _, SqL.of hFL7⟩, ?_⟩
          have hl1 : hs.length + 1 ≤ 40001 := by omega
          refine ⟨_, rfl, hT, hs, rfl, .inl (SqT.of hhT7), _, rfl, ⟨by rw [List.length_append, List.length_singleton]; exact Nat.le_trans hl1 (by decide), fun nt hnt => ?_⟩⟩
          have s11 : Same H11' (upd H11' nt (.tup (hs ++ [.ref td]))) := same_upd hnt
          refine ⟨_, rfl, _, rfl, _, rfl, p, a, td, r, S, d, rfl, wf8.ru.monoO (.of s11), hS7.monoO (.of s11), s11 _ _ htd, okS, nS, fun x H12 s12 hx12 => ?_⟩
          have s112 := s11.trans s12
          refine ⟨_, rfl, _, rfl, _, rfl, q, b, td, r2, S2, d, rfl, wf8.ru2.monoO (.of s112), hS27.monoO (.of s112), s112 _ _ htd, okS2, nS2, fun x2 H13 s13 hx13 => ⟨(by show 3 ≤ sizeLine; decide), fun t3 ht3 => ?_⟩⟩
          have s14 : Same H13 (upd H13 t3 (.tup [.ref nt, .ref x, .ref x2])) := same_upd ht3
          have sA := (s112.trans s13).trans s14
          have wf9 := wf8.same sA
          have hFL8 := sA _ _ hFL7
          have hit : ItP CS (upd H13 t3 (.tup [.ref nt, .ref x, .ref x2])) (h + 1) (.ref t3) (done r S d, done r2 S2 d) := ⟨t3, nt, x, x2, _, rfl, upd_same, ((s12.trans s13).trans s14) _ _ upd_same, by rw [List.length_append, List.length_singleton, hhs], hx12.monoO (.of (s13.trans s14)), hx13.monoO (.of s14)⟩
          have hz := Paired.length pz7
          refine ⟨FL, zs2, .ref t3, rfl, rfl, hFL8, Nat.lt_of_le_of_lt (show zs2.length ≤ 440011 by omega) (by decide), ?_⟩
          have soF : SameO (upd H13 t3 (.tup [.ref nt, .ref x, .ref x2])) (upd (upd H13 t3 (.tup [.ref nt, .ref x, .ref x2])) FL (.lst (zs2 ++ [.ref t3]))) := SameO.upd fun u e => by rw [hFL8] at e; cases e; rfl
          have soA := (SameO.of sA).trans soF
          refine ⟨zs2 ++ [.ref t3], Fs2 ++ [(done r S d, done r2 S2 d)], _, rfl, wf9.lst hFL8 hFLf hFD, by rw [upd_ne (Ne.symm hFA)]; exact sA _ _ hLA7, upd_same, Paired.mapP pit7 fun _ _ z => z.monoO soA, Paired.snoc (Paired.mapP pz7 fun _ _ z => z.monoO soA) (hit.monoO soF), fun S' hS' => ?_, by rw [List.length_append, List.length_singleton]; omega, hS7.monoO soA, hS27.monoO soA, soA _ _ hhT7 rfl⟩
          rcases List.mem_append.mp hS' with z | z
          · exact hIF2 S' z
          · rw [List.mem_singleton.mp z]; exact hI.step S S2 d hIS' hdm
        · rintro σ H11 ⟨zs2, Fs2, o10, rfl, wf8, hLA7, hFL7, pit7, pz7, hIF2, hl2, hS7, hS27, hhT7⟩
          have l1 : ds.length ≤ 11 := by rw [Paired.length wf8.dd]; exact dlen
          refine ⟨zs2, Fs2, _, _, _, _, _, _, rfl, wf8, hLA7, hFL7, pit7, pz7, hIF2, by rw [List.length_append]; omega, fun _ => by rw [List.length_append, List.length_singleton]; omega, by rw [List.length_append, List.length_singleton]; omega⟩
    · rintro σ H4 ⟨zs, Fs, kvs', o6, o7, o8, o9, o10, rfl, wf3, hLA3, hFL3, pit3, pz, hIF, hk1, hk2, hk3⟩
      have hk' := wf3.len
      refine ⟨_, rfl, _, ?_, FL, zs, Fs, h + 1, kvs', _, _, _, _, _, _, rfl, wf3, hFLf, hFD, hFL3, pz, hIF, fun z => by have := hk2 z; omega, by omega, rfl⟩
      rw [if_neg hSs]
      by_cases z : Fs = []
      · rw [if_pos z]; omega
      · rw [if_neg z]
        have := hk2 z
        omega
/-! ### parting, alike -/
def spParting (CR : Addr) : Sp := fun vs H Q _ => ∃ (p q : Addr) (r r2 : Ru) (I : Sg → Sg → Prop) (pool : List NestedKey), vs = [.ref p, .ref q] ∧ RuleAt CR H p r ∧ RuleAt CR H q r2 ∧ r.three = r2.three ∧ Reach2 r r2 I pool ∧ ∀ H', Same H H' → Q .non H'
theorem scParting : FnScope ["one", "other"] ["one", "other"] (defScope (txt 53)) := ⟨rfl, rfl, rfl, by decide +kernel, rfl, by decide +kernel, by decide +kernel⟩
theorem df_parting (T : Txt K w mg CR CS) (F : FunAt K mg "parting" (txt 53) ["one", "other"]) (D : Df P w K mg base "first_parting" ["one", "other"] 8 (spFirstP CR)) : Df P w K mg base "parting" ["one", "other"] 9 (spParting CR) := by
  refine F.ok scParting (fun vs H Q E h => ?_) (fun f cdv A outer s H vs Q E hr h => ?_)
  · obtain ⟨p, q, r, r2, I, pool, rfl, _⟩ := h
    rfl
  obtain ⟨p, q, r, r2, I, pool, rfl, hR, hR2, ht, hI, k⟩ := h
  have hu := hu_of hr
  refine ⟨_, pss_cons (ps_if (pt_cmpR op_ne (pe_dget hu (pe_fld (pv 0) rfl) pe_str (fun _ _ => rfl)) (pe_dget hu (pe_fld (pv 1) rfl) pe_str (fun _ _ => rfl)) (nomark _)) (pss_one ps_never) pss_nil)
    (pss_one (ps_ret (pe_df D hr rfl (pa_cons (pv 0) (pa_cons (pv 1) pa_nil))))), ?_⟩
  obtain ⟨dx, d, g1, g2⟩ := id hR
  obtain ⟨dx2, d2, g3, g4⟩ := id hR2
  refine ⟨_, rfl, p, CR, dx, _, _, rfl, g1, T.clR, T.nW, rfl, d, _, rfl, dg_top g2, ?_⟩
  refine ⟨_, rfl, q, CR, dx2, _, _, rfl, g3, T.clR, T.nW, rfl, d2, _, rfl, dg_top g4, rfl, _, rfl, ?_⟩
  have e : r.top = r2.top := by unfold Ru.top; rw [ht]
  rw [e]
  refine itF (by simp) ?_
  exact ⟨_, rfl, _, rfl, p, q, r, r2, I, pool, rfl, hR, hR2, hI, k⟩
def spAlike (CR : Addr) : Sp := fun vs H Q _ => ∃ (p q : Addr) (r r2 : Ru) (I : Sg → Sg → Prop) (pool : List NestedKey), vs = [.ref p, .ref q] ∧ RuleAt CR H p r ∧ RuleAt CR H q r2 ∧ r.three = r2.three ∧ Reach2 r r2 I pool ∧ ∀ H', Same H H' → Q (.bl true) H'
theorem scAlike : FnScope ["one", "other"] ["one", "other"] (defScope (txt 54)) := ⟨rfl, rfl, rfl, by decide +kernel, rfl, by decide +kernel, by decide +kernel⟩
theorem df_alike (F : FunAt K mg "alike" (txt 54) ["one", "other"]) (D : Df P w K mg base "parting" ["one", "other"] 9 (spParting CR)) : Df P w K mg base "alike" ["one", "other"] 10 (spAlike CR) := by
  refine F.ok scAlike (fun vs H Q E h => ?_) (fun f cdv A outer s H vs Q E hr h => ?_)
  · obtain ⟨p, q, r, r2, I, pool, rfl, _⟩ := h
    rfl
  obtain ⟨p, q, r, r2, I, pool, rfl, hR, hR2, ht, hI, k⟩ := h
  refine ⟨_, pss_one (ps_ret (pe_cmpR op_isN (pe_df D hr rfl (pa_cons (pv 0) (pa_cons (pv 1) pa_nil))) pe_non (nomark _))), ?_⟩
  exact ⟨_, rfl, _, rfl, p, q, r, r2, I, pool, rfl, hR, hR2, ht, hI, fun H' s' => ⟨rfl, k H' s'⟩⟩
end
end K14
end
section
set_option Elab.async false
set_option linter.all false
set_option maxRecDepth 100000
set_option maxHeartbeats 1000000
/-! zip of a written dict's keys and a tuple; dict(zip(..)). -/
namespace K14
open PySem L2
section
variable {prog : Program} {w : World} {A : Around} {E : Value → Shared → Prop} {s : Shared}
theorem nextOf_key_item {it d : Addr} {i ep : Nat} {es : Array DictEntry} {Q : Value → Shared → Prop} (hit : s.heap.IsKeyIter it d i es.size ep)
    (hm : s.heap.DictRaw d es ep) (hlt' : i < es.size)
    (hQ : ∀ h', h'.IsKeyIter it d (i + 1) es.size ep → Heap.SameBut it s.heap h' → Q es[i].key { s with heap := h' }) :
    wpAny (model prog w) A (Builtin.SmallTypes.nextOf (.ref it)) Q E s := by
  obtain ⟨o, ho, hc, hd⟩ := id hit
  obtain ⟨od, hod, hcd, hdd⟩ := id hm
  unfold Builtin.SmallTypes.nextOf
  refine wpAny_bind (wpAny_callSpecial?_slot (name := Str.ofString "__next__") hit.typeIs PySem.F.slot_dict_keyiterator_next
    (wpAny_call_entry PySem.F.slot_dict_keyiterator_next hit.typeIs PySem.F.entry_dict_keyiterator_next ?_ (PySem.F.args_dict_keyiterator_next_1 _)))
  refine wpAny_bind (wpAny_pure ?_)
  refine wpAny_bind ?_
  refine wpAny_bind ?_
  first | refine wpAny_bind (wpAny_typeNameOfWhole_keyiter hit.typeIs (wpAny_pure ?_)) | refine wpAny_bind (wpAny_typeNameOf_keyiter hit.typeIs (wpAny_pure ?_))
  refine wpAny_bind (wpAny_fieldsOf ho hd ?_)
  have hown : Builtin.Dict_items.ownsTuple "dict_keyiterator" = false := by decide
  simp only [hown, Bool.false_eq_true, if_false]
  show wpAny _ _ (if (Value.ref d == Value.none) = true then _ else _) _ _ s
  rw [if_neg (show ¬ ((Value.ref d == Value.none) = true) from Bool.false_ne_true)]
  refine wpAny_bind (wpAny_pure ?_)
  refine wpAny_bind (wpAny_dictEntries hod hdd ?_)
  rw [if_neg (by simp)]
  refine wpAny_bind (wpAny_pure ?_)
  refine wpAny_bind (wpAny_dictEpoch hod hdd ?_)
  rw [if_neg (by simp)]
  refine wpAny_pure ?_
  simp only [show ¬ ((i : Int) < 0) from by omega, if_false, Int.toNat_natCast, Array.getElem?_eq_getElem hlt']
  refine wpAny_bind ?_
  first | refine wpAny_bind (wpAny_typeNameOfWhole_keyiter hit.typeIs (wpAny_pure ?_)) | refine wpAny_bind (wpAny_typeNameOf_keyiter hit.typeIs (wpAny_pure ?_))
  refine wpAny_bind (wpAny_isOneOf_keyiter hit.typeIs ?_)
  show wpAny _ _ (setField (.ref it) 1 (rawInt ((i : Int) + 1)) >>= _) _ _ s
  refine wpAny_bind (wpAny_setField ho hd (by simp) ?_)
  have hit' : (s.heap.update it (Obj.mapFields (·.setIfInBounds 1 (rawInt ((i : Int) + 1))))).IsKeyIter it d (i + 1) es.size ep :=
    ⟨_, Heap.get?_update_self _ ho (Obj.isFreed_of_fields (Obj.data_mapFields hd _)), (Obj.cls_mapFields ..).trans hc, by rw [Obj.data_mapFields hd]; simp [rawInt]⟩
  refine wpAny_bind (wpAny_holding ?_)
  refine wpAny_bind (wpAny_isOneOf_keyiter (s := { s with heap := s.heap.update it (Obj.mapFields (·.setIfInBounds 1 (rawInt ((i : Int) + 1)))) }) hit'.typeIs ?_)
  show wpAny _ _ (pure es[i].key) _ _ _
  exact wpAny_pure (wpAny_pure ⟨_, rfl, wpAny_pure (hQ _ hit' (Heap.SameBut.update ..))⟩)

theorem nextOf_key_end {it d : Addr} {i ep : Nat} {es : Array DictEntry} {Q : Value → Shared → Prop} (hh : A.handled = none) (hit : s.heap.IsKeyIter it d i es.size ep)
    (hm : s.heap.DictRaw d es ep) (hge : es.size ≤ i)
    (hE : ∀ h' e, Heap.ExtBut it s.heap h' → (∃ o, h'.get? e = some o ∧ o.cls = .type "StopIteration") → E (.ref e) { s with heap := h' }) : wpAny (model prog w) A (Builtin.SmallTypes.nextOf (.ref it)) Q E s := by
  obtain ⟨o, ho, hc, hd⟩ := id hit
  obtain ⟨od, hod, hcd, hdd⟩ := id hm
  unfold Builtin.SmallTypes.nextOf
  refine wpAny_bind (wpAny_callSpecial?_slot (name := Str.ofString "__next__") hit.typeIs PySem.F.slot_dict_keyiterator_next
    (wpAny_call_entry PySem.F.slot_dict_keyiterator_next hit.typeIs PySem.F.entry_dict_keyiterator_next ?_ (PySem.F.args_dict_keyiterator_next_1 _)))
  refine wpAny_bind (wpAny_pure ?_)
  refine wpAny_bind ?_
  refine wpAny_bind ?_
  first | refine wpAny_bind (wpAny_typeNameOfWhole_keyiter hit.typeIs (wpAny_pure ?_)) | refine wpAny_bind (wpAny_typeNameOf_keyiter hit.typeIs (wpAny_pure ?_))
  refine wpAny_bind (wpAny_fieldsOf ho hd ?_)
  have hown : Builtin.Dict_items.ownsTuple "dict_keyiterator" = false := by decide
  simp only [hown, Bool.false_eq_true, if_false]
  show wpAny _ _ (if (Value.ref d == Value.none) = true then _ else _) _ _ s
  rw [if_neg (show ¬ ((Value.ref d == Value.none) = true) from Bool.false_ne_true)]
  refine wpAny_bind (wpAny_pure ?_)
  refine wpAny_bind (wpAny_dictEntries hod hdd ?_)
  rw [if_neg (by simp)]
  refine wpAny_bind (wpAny_pure ?_)
  refine wpAny_bind (wpAny_dictEpoch hod hdd ?_)
  rw [if_neg (by simp)]
  refine wpAny_pure ?_
  simp only [show ¬ ((i : Int) < 0) from by omega, if_false, Int.toNat_natCast, Array.getElem?_eq_none hge]
  refine wpAny_bind ?_
  first | refine wpAny_bind (wpAny_typeNameOfWhole_keyiter hit.typeIs (wpAny_pure ?_)) | refine wpAny_bind (wpAny_typeNameOf_keyiter hit.typeIs (wpAny_pure ?_))
  show wpAny _ _ (setField (.ref it) 0 .none >>= _) _ _ s
  refine wpAny_bind (wpAny_setField ho hd (by simp) ?_)
  show wpAny _ _ (newExc (.type "StopIteration") [] >>= _) _ _ _
  refine wpAny_bind ?_
  simp only [newExc, newTuple]
  refine wpAny_bind (wpAny_newObj_type ?_ (by size_fits))
  refine wpAny_bind (m := firstArgMember _ _) (wpAny_of_eq (a := Value.none) (by first | rfl | (simp only [firstArgMember]; rfl)) ?_)
  refine wpAny_newObj_type ?_ (by size_fits)
  simp only [raiseNew]
  refine wpAny_bind (wpAny_handled ?_)
  first | rw [show A.in1.handled = none from hh] | rw [hh]
  refine wpAny_bind (wpAny_pure (wpAny_throw ?_))
  exact hE _ _ (((Heap.SameBut.update ..).extBut.push _).push _) ⟨_, Heap.get?_push_size _ rfl, rfl⟩

theorem draws_keys (hh : A.handled = none) (it d : Addr) (hne : d ≠ it) (es : Array DictEntry) (ep : Nat) :
    Draws prog w A it [it, d] es.size (fun i v => ∃ hi : i < es.size, v = es[i].key) (fun i h => h.IsKeyIter it d i es.size ep ∧ h.DictRaw d es ep) where
  live := fun _ _ st => let ⟨o, ho, _⟩ := st.1; ⟨o, ho⟩
  frame := fun _ _ _ st hk => ⟨st.1.at fun o e => hk it (by simp) o e, st.2.at fun o e => hk d (by simp) o e⟩
  item := fun i s Q E hi st hQ => nextOf_key_item st.1 st.2 hi fun h' hit' hs' => hQ _ h' s.toks ⟨hi, rfl⟩ ⟨hit', st.2.at fun o e => hs'.extBut d o hne e⟩ hs'
  done := fun s Q E st hE => nextOf_key_end hh st.1 st.2 (Nat.le_refl _) hE
theorem begins_dict (d : Addr) (es : Array DictEntry) (ep : Nat) (hd : (d == sysModules) = false) : Begins (.ref d) { cls := .type "dict_keyiterator", data := .fields #[.ref d, .int 0 0, .int es.size 0, .int ep 0] } fun h => h.DictRaw d es ep where
  iter := fun prog w A E s Q hm h => wpAny_pyIter_dict_raw hd hm h
  keeps := fun h h' x hk => x.at fun o e => hk d o e
  free := rfl

variable {z TI TO T i1 i2 : Addr} {fp1 fp2 : List Addr} {n1 n2 i : Nat} {P1 P2 : Nat → Value → Prop} {St1 St2 : Nat → Heap → Prop} {a1 a2 : Value} {f : Bool} {oT : Obj}
theorem zipD2_held_item {Q : Value → Shared → Prop} (S : ZipSep2 z TI TO i1 i2 fp1 fp2) (D1 : Draws prog w A i1 fp1 n1 P1 St1) (D2 : Draws prog w A i2 fp2 n2 P2 St2)
    (hz : IsZipHeld s.heap z TI TO T f) (hT : s.heap.get? T = some oT) (hTI : IsTupOf2 s.heap TI (.ref i1) (.ref i2)) (st1 : St1 i s.heap) (st2 : St2 i s.heap) (hlt1 : i < n1) (hlt2 : i < n2)
    (hQ : ∀ x1 x2 h' tk, P1 i x1 → P2 i x2 → IsZipHeld h' z TI TO T true → St1 (i + 1) h' → St2 (i + 1) h' → IsTupOf2 h' s.heap.objs.size x1 x2 → h'.objs.size = s.heap.objs.size + 1 →
      (∀ c o, c ≠ z → c ≠ i1 → c ≠ i2 → s.heap.get? c = some o → h'.get? c = some o) → Q (.ref s.heap.objs.size) { s with heap := h', toks := tk }) :
    wpAny (model prog w) A (Builtin.«zip.__next__» ⟨[.ref z], []⟩) (fun fin s' => ∃ v, fin = .done (.ret v) ∧ Q v s') E s := by
  obtain ⟨hp, g, d, tk0, os⟩ := s
  show wpAny _ _ (field (.ref z) 2 >>= _) _ _ _
  refine wpAny_bind (wpAny_field hz rfl (x := .bool false) rfl ?_)
  show wpAny _ _ (field (.ref z) 3 >>= _) _ _ _
  refine wpAny_bind (wpAny_field hz rfl (x := .ref TI) rfl ?_)
  refine wpAny_bind (wpAny_seqItems hTI rfl ?_)
  show wpAny _ _ (Builtin.SmallTypes.ownedTupleIsFree (.ref z) >>= _) _ _ _
  refine wpAny_bind (wpAny_tupleHeld_zip hz hT fun g0 hz0 hs0 => ?_)
  replace hs0 : Heap.SameBut z hp g0 := hs0
  simp only [Bool.false_eq_true, if_false]
  refine wpAny_bind ?_
  rw [← Array.forIn_toList]
  simp only [List.forIn_cons, List.forIn_nil]
  refine wpAny_bind (wpAny_bind (wpAny_holding ?_))
  show wpAny _ _ (Builtin.SmallTypes.nextOf (.ref i1) >>= _) _ _ ⟨g0, g, d, tk0, os⟩
  refine wpAny_bind (D1.item i ⟨g0, g, d, tk0, os⟩ _ _ hlt1 (D1.over st1 hs0 S.zf1) fun x1 p1 tk1 hx1 sn1 hp1 => wpAny_pure ?_)
  replace hp1 : Heap.SameBut i1 g0 p1 := hp1
  refine wpAny_pure ?_
  refine wpAny_bind (wpAny_bind (wpAny_holding ?_))
  show wpAny _ _ (Builtin.SmallTypes.nextOf (.ref i2) >>= _) _ _ ⟨p1, g, d, tk1, os⟩
  refine wpAny_bind (D2.item i ⟨p1, g, d, tk1, os⟩ _ _ hlt2 (D2.over (D2.over st2 hs0 S.zf2) hp1 S.sep1_2) fun x2 p2 tk2 hx2 sn2 hp2 => wpAny_pure ?_)
  replace hp2 : Heap.SameBut i2 p1 p2 := hp2
  refine wpAny_pure (wpAny_pure ?_)
  show wpAny _ _ (newTuple [x1, x2] >>= _) _ _ _
  refine wpAny_bind (wpAny_newTuple ?_)
  have hsz : p2.objs.size = hp.objs.size := by rw [hp2.1, hp1.1, hs0.1]
  have hz2 : IsZipHeld p2 z TI TO T true := hp2.extBut _ _ S.zi2 (hp1.extBut _ _ S.zi1 hz0)
  have hk : ∀ c o, c ≠ z → c ≠ i1 → c ≠ i2 → hp.get? c = some o → p2.get? c = some o := fun c o c1 c2 c3 e => hp2.extBut _ _ c3 (hp1.extBut _ _ c2 (hs0.extBut _ _ c1 e))
  have hj1 : St1 (i + 1) p2 := D1.over sn1 hp2 S.sep2_1
  refine wpAny_pure ⟨_, rfl, ?_⟩
  show Q (.ref p2.objs.size) ⟨p2.push { cls := .type "tuple", data := .seq #[x1, x2] }, g, d, tk2, os⟩
  have hpp : IsTupOf2 (p2.push { cls := .type "tuple", data := .seq #[x1, x2] }) p2.objs.size x1 x2 := Heap.get?_push_size _ rfl
  have hz4 : (p2.push { cls := .type "tuple", data := .seq #[x1, x2] }).objs.size = p2.objs.size + 1 := Heap.size_push ..
  rw [hsz] at hpp hz4 ⊢
  exact hQ x1 x2 _ tk2 hx1 hx2 (Heap.get?_push_of_some _ hz2) (D1.frame _ _ _ hj1 fun b _ o e => Heap.get?_push_of_some _ e) (D2.frame _ _ _ sn2 fun b _ o e => Heap.get?_push_of_some _ e) hpp hz4 fun c o c1 c2 c3 e => Heap.get?_push_of_some _ (hk c o c1 c2 c3 e)

theorem zipD2_held_end {Q : Fin → Shared → Prop} (S : ZipSep2 z TI TO i1 i2 fp1 fp2) (D1 : Draws prog w A i1 fp1 n1 P1 St1) (D2 : Draws prog w A i2 fp2 n2 P2 St2)
    (hz : IsZipHeld s.heap z TI TO T f) (hT : s.heap.get? T = some oT) (hTI : IsTupOf2 s.heap TI (.ref i1) (.ref i2)) (st1 : St1 n1 s.heap)
    (hE : ∀ h' e, (∀ c o, c ≠ z → c ≠ i1 → s.heap.get? c = some o → h'.get? c = some o) → (∃ o, h'.get? e = some o ∧ o.cls = .type "StopIteration") → E (.ref e) { s with heap := h' }) :
    wpAny (model prog w) A (Builtin.«zip.__next__» ⟨[.ref z], []⟩) Q E s := by
  obtain ⟨hp, g, d, tk0, os⟩ := s
  show wpAny _ _ (field (.ref z) 2 >>= _) _ _ _
  refine wpAny_bind (wpAny_field hz rfl (x := .bool false) rfl ?_)
  show wpAny _ _ (field (.ref z) 3 >>= _) _ _ _
  refine wpAny_bind (wpAny_field hz rfl (x := .ref TI) rfl ?_)
  refine wpAny_bind (wpAny_seqItems hTI rfl ?_)
  show wpAny _ _ (Builtin.SmallTypes.ownedTupleIsFree (.ref z) >>= _) _ _ _
  refine wpAny_bind (wpAny_tupleHeld_zip hz hT fun g0 hz0 hs0 => ?_)
  replace hs0 : Heap.SameBut z hp g0 := hs0
  simp only [Bool.false_eq_true, if_false]
  refine wpAny_bind ?_
  rw [← Array.forIn_toList]
  simp only [List.forIn_cons, List.forIn_nil]
  refine wpAny_bind (wpAny_bind (wpAny_holding ?_))
  show wpAny _ _ (Builtin.SmallTypes.nextOf (.ref i1) >>= _) _ _ ⟨g0, g, d, tk0, os⟩
  refine wpAny_bind (D1.done ⟨g0, g, d, tk0, os⟩ _ _ (D1.over st1 hs0 S.zf1) fun q e hq he => ?_)
  exact hE q e (fun c o c1 c2 x => hq _ _ c2 (hs0.extBut _ _ c1 x)) he

theorem zipD2_held_next {Q : Option Value → Shared → Prop} (S : ZipSep2 z TI TO i1 i2 fp1 fp2) (D1 : Draws prog w A.in1 i1 fp1 n1 P1 St1) (D2 : Draws prog w A.in1 i2 fp2 n2 P2 St2)
    (hz : IsZipHeld s.heap z TI TO T f) (hT : s.heap.get? T = some oT) (hTI : IsTupOf2 s.heap TI (.ref i1) (.ref i2)) (st1 : St1 i s.heap) (st2 : St2 i s.heap) (hlt1 : i < n1) (hlt2 : i < n2)
    (hQ : ∀ x1 x2 h' tk, P1 i x1 → P2 i x2 → IsZipHeld h' z TI TO T true → St1 (i + 1) h' → St2 (i + 1) h' → IsTupOf2 h' s.heap.objs.size x1 x2 → h'.objs.size = s.heap.objs.size + 1 →
      (∀ c o, c ≠ z → c ≠ i1 → c ≠ i2 → s.heap.get? c = some o → h'.get? c = some o) → Q (some (.ref s.heap.objs.size)) { s with heap := h', toks := tk }) :
    wpAny (model prog w) A (pyNext (.ref z)) Q E s := by
  have hTy : s.TypeIs (.ref z) "zip" := ⟨_, hz, rfl⟩
  unfold pyNext
  exact wpAny_bind (wpAny_attempt (wpAny_callSpecial?_slot (name := Str.ofString "__next__") hTy PySem.F.slot_zip_next
    (wpAny_call_entry PySem.F.slot_zip_next hTy PySem.F.entry_zip_next
      (zipD2_held_item S D1 D2 hz hT hTI st1 st2 hlt1 hlt2 fun x1 x2 h' tk y1 y2 a1 a3 a4 a5 a6 a7 => wpAny_pure (hQ x1 x2 h' tk y1 y2 a1 a3 a4 a5 a6 a7)) (PySem.F.args_zip_next_1 _))))
theorem zipD2_held_stop {Q : Option Value → Shared → Prop} (S : ZipSep2 z TI TO i1 i2 fp1 fp2) (D1 : Draws prog w A.in1 i1 fp1 n1 P1 St1) (D2 : Draws prog w A.in1 i2 fp2 n2 P2 St2)
    (hz : IsZipHeld s.heap z TI TO T f) (hT : s.heap.get? T = some oT) (hTI : IsTupOf2 s.heap TI (.ref i1) (.ref i2)) (st1 : St1 n1 s.heap)
    (hQ : ∀ h', (∀ c o, c ≠ z → c ≠ i1 → s.heap.get? c = some o → h'.get? c = some o) → Q none { s with heap := h' }) : wpAny (model prog w) A (pyNext (.ref z)) Q E s := by
  have hTy : s.TypeIs (.ref z) "zip" := ⟨_, hz, rfl⟩
  unfold pyNext
  refine wpAny_bind (wpAny_attempt (wpAny_callSpecial?_slot (name := Str.ofString "__next__") hTy PySem.F.slot_zip_next
    (wpAny_call_entry PySem.F.slot_zip_next hTy PySem.F.entry_zip_next (zipD2_held_end S D1 D2 hz hT hTI st1 fun h' e hk he => ?_) (PySem.F.args_zip_next_1 _))))
  obtain ⟨o, ho, hc⟩ := he
  refine wpAny_bind (wpAny_isInstance (T := "StopIteration") (b := true) ⟨o, ho, hc⟩ isSubtype_stop ?_)
  exact wpAny_pure (hQ _ hk)

end
section
variable {prog : Program} {w : World}
/-- zip of two iterators that have the same number of items, as the argument of dict() -/
theorem pairArg_zipD {z TI TO i1 i2 : Addr} {fp1 fp2 : List Addr} {n : Nat} {P1 P2 : Nat → Value → Prop} {St1 St2 : Nat → Heap → Prop} (S : ZipSep2 z TI TO i1 i2 fp1 fp2)
    (D1 : ∀ A : Around, A.handled = none → Draws prog w A i1 fp1 n P1 St1) (D2 : ∀ A : Around, A.handled = none → Draws prog w A i2 fp2 n P2 St2) (L1 : ∀ h, St1 0 h → ∀ b ∈ fp1, ∃ o, h.get? b = some o) (L2 : ∀ h, St2 0 h → ∀ b ∈ fp2, ∃ o, h.get? b = some o) (hle : 0 ≤ n) :
    PairArg prog w "zip" z (z :: TI :: TO :: (fp1 ++ fp2)) [z, TO, i1, i2] n (fun i k v => P1 i k ∧ P2 i v)
      (fun h => IsZip h z TI TO .none ∧ IsTupOf2 h TI (.ref i1) (.ref i2) ∧ (∃ a b, IsTupOf2 h TO a b) ∧ St1 0 h ∧ St2 0 h) where
  type := fun s ok => ⟨_, ok.1, rfl⟩
  notDict := by decide
  keep := fun h h' ok hk => by
    obtain ⟨hz, hTI, ⟨a, b, hTO⟩, h1, h2⟩ := ok
    have A0 : ∃ A : Around, A.handled = none := ⟨{ depth := 0 }, rfl⟩
    obtain ⟨A0, e0⟩ := A0
    exact ⟨hk _ _ hz, hk _ _ hTI, ⟨a, b, hk _ _ hTO⟩, (D1 A0 e0).frame _ _ _ h1 fun b _ o e => hk b o e, (D2 A0 e0).frame _ _ _ h2 fun b _ o e => hk b o e⟩
  there := fun h ok b hb => by
    obtain ⟨hz, hTI, ⟨a, c, hTO⟩, h1, h2⟩ := ok
    simp only [List.mem_cons, List.mem_append] at hb
    rcases hb with rfl | rfl | rfl | hb | hb
    · exact ⟨_, hz⟩
    · exact ⟨_, hTI⟩
    · exact ⟨_, hTO⟩
    · exact L1 _ h1 _ hb
    · exact L2 _ h2 _ hb
  sub := fun b hb => by
    simp only [List.mem_cons, List.not_mem_nil, or_false] at hb
    simp only [List.mem_cons, List.mem_append]
    rcases hb with rfl | rfl | rfl | rfl
    · exact .inl rfl
    · exact .inr (.inr (.inl rfl))
    · exact .inr (.inr (.inr (.inl S.mem1)))
    · exact .inr (.inr (.inr (.inr S.mem2)))
  noKeys := fun A s Q E hA ok h => getAttrOr_miss_zip ok.1 rfl rfl rfl zip_no_keys (by decide +kernel) hA h
  iter := fun A s d Q E hA ok hd hdf h => by
    obtain ⟨hz, hTI, ⟨a, b, hTO⟩, h1, h2⟩ := ok
    simp only [List.mem_cons, List.mem_append, not_or] at hdf
    obtain ⟨dz, dTI, dTO, df1, df2⟩ := hdf
    have di1 : d ≠ i1 := fun e => df1 (e ▸ S.mem1)
    have di2 : d ≠ i2 := fun e => df2 (e ▸ S.mem2)
    have T1 := D1 A.in1 hA
    have T2 := D2 A.in1 hA
    refine wpAny_pyIter_zip hz (h z [z, TO, i1, i2] (fun i h => IsTupOf2 h TI (.ref i1) (.ref i2) ∧ St1 i h ∧ St2 i h ∧
      ((IsZip h z TI TO .none ∧ ∃ a b, IsTupOf2 h TO a b) ∨ ∃ T f oT, IsZipHeld h z TI TO T f ∧ h.get? T = some oT ∧ T ≠ z ∧ T ≠ i1 ∧ T ≠ i2 ∧ T ≠ d)) s.heap s.toks ?_
      ⟨hTI, h1, h2, .inl ⟨hz, a, b, hTO⟩⟩ (fun _ _ e => e) fun b hb => .inl hb)
    exact {
      off := fun hm => by
        simp only [List.mem_cons, List.not_mem_nil, or_false] at hm
        rcases hm with x | x | x | x
        · exact dz x
        · exact dTO x
        · exact di1 x
        · exact di2 x
      frame := fun i h₁ h₂ st hk => by
        obtain ⟨hTI, h1, h2, hz⟩ := st
        refine ⟨hk _ _ (Ne.symm dTI) hTI, T1.frame _ _ _ h1 fun b hb o e => hk b o (fun q => df1 (q ▸ hb)) e, T2.frame _ _ _ h2 fun b hb o e => hk b o (fun q => df2 (q ▸ hb)) e, ?_⟩
        rcases hz with ⟨hz, a, b, hTO⟩ | ⟨T, f, oT, hz, hT, r1, r2, r3, r4⟩
        · exact .inl ⟨hk _ _ (Ne.symm dz) hz, a, b, hk _ _ (Ne.symm dTO) hTO⟩
        · exact .inr ⟨T, f, oT, hk _ _ (Ne.symm dz) hz, hk _ _ r4 hT, r1, r2, r3, r4⟩
      item := fun i s₁ Q₁ E₁ hi st hds hQ => by
        obtain ⟨hTI, h1, h2, hz⟩ := st
        have lt : ∀ {c o}, s₁.heap.get? c = some o → s₁.heap.objs.size ≠ c := fun e => Nat.ne_of_gt (Heap.lt_size e)
        have n1 : s₁.heap.objs.size ≠ i1 := let ⟨_, e⟩ := T1.live _ _ h1; lt e
        have n2 : s₁.heap.objs.size ≠ i2 := let ⟨_, e⟩ := T2.live _ _ h2; lt e
        rcases hz with ⟨hz, a, b, hTO⟩ | ⟨T, f, oT, hz, hT, r1, r2, r3, r4⟩
        · refine wpAny_pyNext_zipD2_item S T1 T2 hz hTI hTO h1 h2 hi hi fun x1 x2 h' tk y1 y2 a1 a2 a3 a4 a5 a6 hk => ?_
          exact hQ s₁.heap.objs.size _ _ h' tk ⟨y1, y2⟩ (.inl ⟨_, a5, rfl, _, rfl⟩)
            ⟨hk _ _ S.TIz S.TITO S.TIi1 S.TIi2 hTI, a3, a4, .inr ⟨s₁.heap.objs.size, false, _, a1, a5, lt hz, n1, n2, Nat.ne_of_gt hds⟩⟩
            fun c o hc e => hk c o (fun x => hc (by simp [x])) (fun x => hc (by simp [x])) (fun x => hc (by simp [x])) (fun x => hc (by simp [x])) e
        · refine zipD2_held_next S T1 T2 hz hT hTI h1 h2 hi hi fun x1 x2 h' tk y1 y2 a1 a3 a4 a5 a6 hk => ?_
          exact hQ s₁.heap.objs.size _ _ h' tk ⟨y1, y2⟩ (.inl ⟨_, a5, rfl, _, rfl⟩)
            ⟨hk _ _ S.TIz S.TIi1 S.TIi2 hTI, a3, a4, .inr ⟨T, true, oT, a1, hk _ _ r1 r2 r3 hT, r1, r2, r3, r4⟩⟩
            fun c o hc e => hk c o (fun x => hc (by simp [x])) (fun x => hc (by simp [x])) (fun x => hc (by simp [x])) e
      done := fun s₁ Q₁ E₁ st hQ => by
        obtain ⟨hTI, h1, h2, hz⟩ := st
        rcases hz with ⟨hz, a, b, hTO⟩ | ⟨T, f, oT, hz, hT, r1, r2, r3, r4⟩
        · exact wpAny_pyNext_zipD2_end S T1 T2 hz hTI hTO h1 h2 (Nat.le_refl _) (Nat.le_refl _) (.inl rfl) fun h' tk hk => hQ h' tk fun c o hc e => hk c o (fun x => hc (by simp [x])) (fun x => hc (by simp [x])) (fun x => hc (by simp [x])) (fun x => hc (by simp [x])) e
        · exact zipD2_held_stop S T1 T2 hz hT hTI h1 fun h' hk => hQ h' s₁.toks fun c o hc e => hk c o (fun x => hc (by simp [x])) (fun x => hc (by simp [x])) e }
end
end K14
end
section
set_option Elab.async false
set_option linter.all false
set_option maxRecDepth 100000
set_option maxHeartbeats 1000000
/-! zip(PARTS, given) as an iterator of a loop and as the argument of dict(). -/
namespace K14
open PySem PySem.Spec PyProof.Rows L2
/-- the written dict at d has just these text keys, in this order -/
def KKeys (K : PySem.W.Frag) (w : World) (d : Addr) (ks : List Str) : Prop := ∃ es n, KDict K w d es n ∧ Paired (fun (k : Str) (e : DictEntry) => ∃ t, e.key = .str k t) ks es.toList
theorem pairedGetZ {α β : Type} {R : α → β → Prop} : ∀ {xs : List α} {ys : List β} {i : Nat} {x : α}, Paired R xs ys → xs[i]? = some x → ∃ y, ys[i]? = some y ∧ R x y
  | _, _, _, _, .nil, e => by simp at e
  | _, _, 0, _, .cons r _, e => by simp at e; subst e; exact ⟨_, rfl, r⟩
  | _, _, i + 1, x, .cons _ t, e => by
    simp only [List.getElem?_cons_succ] at e ⊢
    exact pairedGetZ t e
def ItzK (K : PySem.W.Frag) (ks : List Str) (b : Addr) : It :=
  ⟨fun i H => ∃ (ys : List V), SqT K H b ys ∧ ys.length = ks.length ∧ i < ks.length,
    fun i H v H' => ∃ T x y, v = .ref T ∧ H T = none ∧ H' = upd H T (.tup [.str x, y]) ∧ ks[i]? = some x ∧ ∀ ys, SqT K H b ys → ys[i]? = some y,
    fun i H => ∃ (ys : List V), SqT K H b ys ∧ ys.length = ks.length ∧ i = ks.length⟩
theorem sep_of {z TI TO i1 i2 a b : Addr} (D : ZipApart z TI TO i1 i2 a b) : ZipSep2 z TI TO i1 i2 [i1, a] [i2, b] where
  TIz := D.TIz
  TOz := D.TOz
  TITO := D.TITO
  TIi1 := D.TIi1
  mem1 := by simp
  zf1 := by simp; exact ⟨D.i1z.symm, D.l1z.symm⟩
  Tf1 := by simp; exact ⟨D.TOi1, D.l1TO.symm⟩
  TIi2 := D.TIi2
  mem2 := by simp
  zf2 := by simp; exact ⟨D.i2z.symm, D.l2z.symm⟩
  Tf2 := by simp; exact ⟨D.TOi2, D.l2TO.symm⟩
  sep1_2 := by simp; exact ⟨D.i12, D.l2i1.symm⟩
  sep2_1 := by simp; exact ⟨D.i12.symm, D.l1i2.symm⟩
theorem kk_raw {K : PySem.W.Frag} {w : World} {d : Addr} {es : Array DictEntry} {n : Nat} {h : Heap} (D : KDict K w d es n) (X : K.In h) : h.DictRaw d es n := ⟨_, X _ _ D.at_, ⟨rfl, rfl, rfl⟩, rfl⟩
theorem turn_zipK {P : Program} {w : World} {K : PySem.W.Frag} {elts : List Expr} {kk : Nat} {tpos : Pos} {a b z TI TO i1 i2 : Addr} {ks : List Str} {es : Array DictEntry} {n : Nat} (KD : KDict K w a es n) (pr : Paired (fun (k : Str) (e : DictEntry) => ∃ t, e.key = .str k t) ks es.toList) (D : ZipApart z TI TO i1 i2 a b) :
    Turn P w K (.Tuple elts kk tpos) (ItzK K ks b) [z, TI, TO, i1, i2] z (fun i h => IsZip h z TI TO .none ∧ IsTupOf2 h TI (.ref i1) (.ref i2) ∧ (∃ x y, IsTupOf2 h TO x y) ∧ h.IsKeyIter i1 a i es.size n ∧ h.IsTupleIter i2 b i) where
  mem := by simp
  obj := fun i h st c hc => by
    obtain ⟨hz, hTI, ⟨x, y, hTO⟩, ⟨o1, e1, _, d1⟩, ⟨o2, e2, _, d2⟩⟩ := st
    have e' : c = z ∨ c = TI ∨ c = TO ∨ c = i1 ∨ c = i2 := by simpa using hc
    rcases e' with q | q | q | q | q
    · rw [q]; exact ⟨_, hz, fun v q => nomatch q⟩
    · rw [q]; exact ⟨_, hTI, fun v q => nomatch q⟩
    · rw [q]; exact ⟨_, hTO, fun v q => nomatch q⟩
    · rw [q]; exact ⟨o1, e1, fun v q => by rw [d1] at q; cases q⟩
    · rw [q]; exact ⟨o2, e2, fun v q => by rw [d2] at q; cases q⟩
  keep := fun i h h' st k => by
    obtain ⟨hz, hTI, ⟨x, y, hTO⟩, h1, h2⟩ := st
    exact ⟨k z (by simp) _ hz, k TI (by simp) _ hTI, ⟨x, y, k TO (by simp) _ hTO⟩, h1.at fun o q => k i1 (by simp) o q, h2.at fun o q => k i2 (by simp) o q⟩
  item := by
    intro X hP hw hK hc i pins s σ H E I hf st hg
    subst hP hw hK
    obtain ⟨hz, hTI, ⟨x0, y0, hTO⟩, h1, h2⟩ := st
    obtain ⟨ys, hqy, hlen, hi⟩ := hg
    obtain ⟨its2, rv2, p2, _⟩ := I.tuple hqy
    have hes : ks.length = es.size := by rw [Paired.length pr]; simp
    have l2 : ys.length = its2.length := rv2.length
    have hzl : z < s.heap.objs.size := Heap.lt_size hz
    have hh := I.ok.hd hc
    have T1 := draws_keys (prog := X.prog) (w := X.w) (A := X.A.in1) hh i1 a D.l1i1 es n
    have T2 := Draws.tuple (prog := X.prog) (w := X.w) (A := X.A.in1) hh i2 b D.l2i2 its2.toArray
    refine wpAny_pyNext_zipD2_item (sep_of D) T1 T2 hz hTI hTO ⟨h1, kk_raw KD I.kIn⟩ ⟨h2, p2⟩ (by omega) (by simp; omega) fun x1 x2 h' tk y1 y2 z' TO' h1' h2' hT hsz hk => ?_
    refine ⟨_, rfl, wpAny_letOwnedTupleGo_zip (s := { s with heap := h', toks := tk }) z' fun h'' z'' sb => ?_⟩
    have hT2 : h''.get? s.heap.objs.size = some { cls := .type "tuple", data := .seq #[x1, x2] } := (sb.2 _ (Nat.ne_of_gt hzl)).trans hT
    have hx : ks[i]? = some ks[i] := List.getElem?_eq_getElem hi
    obtain ⟨e, he, t, ke⟩ := pairedGetZ pr hx
    have hy : ys[i]? = some (ys[i]'(by omega)) := List.getElem?_eq_getElem (by omega)
    obtain ⟨u2, hu2, ru2⟩ := rv2.get hy
    obtain ⟨hi', q1⟩ := y1
    have ex1 : x1 = .str ks[i] t := by
      rw [q1]
      have : es.toList[i]? = some es[i] := by simp
      rw [this] at he
      rw [Option.some.inj he, ke]
    have ex2 : x2 = u2 := by
      have y2 : its2.toArray[i]? = some x2 := y2
      have : its2.toArray[i]? = its2[i]? := by simp
      rw [this, hu2] at y2
      exact (Option.some.inj y2).symm
    subst ex1 ex2
    have new : ObjOk X.prog X.w (upd H s.heap.objs.size (.tup [.str ks[i], ys[i]'(by omega)])) h'' s.heap.objs.size (.tup [.str ks[i], ys[i]'(by omega)]) :=
      ⟨by show 2 ≤ sizeLine; decide, [_, _], .cons ⟨t, rfl⟩ (.cons ru2 .nil), ⟨_, hT2, rfl, _, rfl⟩⟩
    have I1 : Inv X pins σ (upd H s.heap.objs.size (.tup [.str ks[i], ys[i]'(by omega)])) { s with heap := h'', toks := tk } :=
      I.turnedNew (t' := tk) (ch := [z, TI, TO, i1, i2]) (fun c o hb q => (sb.2 c (fun q' => hb (by simp [q']))).trans (hk c o (fun q' => hb (by simp [q'])) (fun q' => hb (by simp [q'])) (fun q' => hb (by simp [q'])) (fun q' => hb (by simp [q'])) q)) hf (Nat.le_refl _) new
    have TO2 := (sb.2 _ D.TOz).trans TO'
    refine ⟨.ref s.heap.objs.size, _, I1, rfl, ⟨_, ks[i], _, rfl, I.hok.fresh (Nat.le_refl _), rfl, hx, fun l hl => by rw [I.tuple_inj hl hqy]; exact hy⟩, ⟨z'', ?_, ⟨_, _, TO2⟩, ?_, ?_⟩, fun c hcm => ?_⟩
    · exact (sb.2 _ D.TIz).trans (hk _ _ D.TIz D.TITO D.TIi1 D.TIi2 hTI)
    · exact h1'.1.at fun o q => (sb.2 _ D.i1z).trans q
    · exact h2'.1.at fun o q => (sb.2 _ D.i2z).trans q
    · have hlt : c < s.heap.objs.size := by
        have e' : c = z ∨ c = TI ∨ c = TO ∨ c = i1 ∨ c = i2 := by simpa using hcm
        rcases e' with q | q | q | q | q
        · rw [q]; exact hzl
        · rw [q]; exact Heap.lt_size hTI
        · rw [q]; exact Heap.lt_size hTO
        · rw [q]; obtain ⟨_, e1, _⟩ := h1; exact Heap.lt_size e1
        · rw [q]; obtain ⟨_, e2, _⟩ := h2; exact Heap.lt_size e2
      rw [upd_ne (Nat.ne_of_lt hlt)]
      exact (hf c hcm).1
  done := by
    intro X hP hw hK hc i pins s σ H E I hf st hg
    subst hP hw hK
    obtain ⟨hz, hTI, ⟨x0, y0, hTO⟩, h1, h2⟩ := st
    obtain ⟨ys, hqy, hlen, hend⟩ := hg
    obtain ⟨its2, rv2, p2, _⟩ := I.tuple hqy
    have hes : ks.length = es.size := by rw [Paired.length pr]; simp
    have l2 : ys.length = its2.length := rv2.length
    have hh := I.ok.hd hc
    have T1 := draws_keys (prog := X.prog) (w := X.w) (A := X.A.in1) hh i1 a D.l1i1 es n
    have T2 := Draws.tuple (prog := X.prog) (w := X.w) (A := X.A.in1) hh i2 b D.l2i2 its2.toArray
    exact wpAny_pyNext_zipD2_end (sep_of D) T1 T2 hz hTI hTO ⟨h1, kk_raw KD I.kIn⟩ ⟨h2, p2⟩ (by omega) (by simp; omega) (.inl (by omega)) fun h' tk hk => ⟨rfl, I.turnedL (t' := tk) (ch := [z, TI, TO, i1, i2]) (fun c o hb q =>
      hk c o (fun q' => hb (by simp [q'])) (fun q' => hb (by simp [q'])) (fun q' => hb (by simp [q'])) (fun q' => hb (by simp [q'])) q) hf⟩
  self := fun A i s Q E st h => wpAny_pyIter_zip st.1 h

def iZipK (K : PySem.W.Frag) (w : World) (ks : List Str) (ta : TA) : TI := fun σ H R => ta σ H fun vs H1 => ∃ a b ys, vs = [.ref a, .ref b] ∧ KKeys K w a ks ∧ SqT K H1 b ys ∧ ys.length = ks.length ∧ R (ItzK K ks b) H1
section
variable {X : Cx}
theorem zip_fresh {pins : List (Addr × Obj)} {σ : L2.St} {H : Hp} {s1 : Shared} (I1 : Inv X pins σ H s1) : ∀ c, c ∈ [s1.heap.objs.size + 4, s1.heap.objs.size + 2, s1.heap.objs.size + 3, s1.heap.objs.size, s1.heap.objs.size + 1] → FpOk X pins H c := fun c hcm => by
  have e' : c = s1.heap.objs.size + 4 ∨ c = s1.heap.objs.size + 2 ∨ c = s1.heap.objs.size + 3 ∨ c = s1.heap.objs.size ∨ c = s1.heap.objs.size + 1 := by simpa using hcm
  have hle : s1.heap.objs.size ≤ c := by
    rcases e' with z | z | z | z | z
    · rw [z]; exact Nat.le_add_right _ _
    · rw [z]; exact Nat.le_add_right _ _
    · rw [z]; exact Nat.le_add_right _ _
    · rw [z]; exact Nat.le_refl _
    · rw [z]; exact Nat.le_add_right _ _
  exact I1.fpOk hle (I1.hok.fresh hle)
theorem pi_zipK {e e2 : Expr} {ta : TA} {p pos tpos : Pos} {elts : List Expr} {kk : Nat} {ks : List Str} (hg : Gl X "zip") (hm : X.mg "zip" = none) (ha : PA X [e, e2] ta)
    (hs : starEach [e, e2] X.env = (false, eval e X.env) :: starEach [e2] X.env := by rfl) (hpl : (backTo pos (starEach [e2] X.env)).any (·.1) = false := by rfl) :
    PI X (.Tuple elts kk tpos) (.Call (.Name "zip" p) [e, e2] [] pos) (iZipK X.K X.w ks ta) := by
  refine ⟨fun pins s σ H R I h => ?_⟩
  refine Call_ (ld_blt I hg hm PyProof.Rows.boot_zip (PyProof.Rows.callWith_type1 (thn (ha.run pos pins s σ H _ I h) fun us s1 ⟨vs, H1, I1, r1, q1⟩ => ?_) hs hpl))
  obtain ⟨a, b, ys, ex, ⟨es, n, KD, pr⟩, hqy, hlen, q⟩ := q1
  subst ex
  cases r1 with
  | cons r rr =>
    cases rr with
    | cons r' rr =>
      cases rr
      cases r
      cases r'
      obtain ⟨its2, rv2, p2, _⟩ := I1.tuple hqy
      obtain ⟨o2, ho2, _⟩ := id p2
      have hr := kk_raw KD I1.kIn
      obtain ⟨o1, ho1, _⟩ := id hr
      refine zip_begins2 (begins_dict a es n KD.low) (begins_tuple b its2.toArray) hr (show s1.heap.IsTuple b its2.toArray from p2) fun h' hz hTI hTO h1 h2 hsz hk => wpAny_pyIter_zip hz ?_
      have I2 : Inv X pins σ H1 { s1 with heap := h' } := I1.kept (t' := s1.toks) hk
      exact ⟨s1.heap.objs.size + 4, [s1.heap.objs.size + 4, s1.heap.objs.size + 2, s1.heap.objs.size + 3, s1.heap.objs.size, s1.heap.objs.size + 1], _, _, H1, rfl, I2, turn_zipK KD pr (PySem.W.ktu_apart s1.heap.objs.size a b (Heap.lt_size ho1) (Heap.lt_size ho2)), ⟨hz, hTI, ⟨_, _, hTO⟩, ⟨_, h1, rfl, rfl⟩, ⟨_, h2, rfl, rfl⟩⟩, zip_fresh I1, q⟩
/-- a loop over zip of a written dict and a tuple of the same length -/
theorem for_zipK {K : PySem.W.Frag} {b : Addr} {ks : List Str} {ys : List V} {g : TG} {tb : TS} {D : Ends} {σ : L2.St} {H : Hp} (hl : ys.length = ks.length) (Pv : Nat → L2.St → Hp → Prop) (h0 : Pv 0 σ H) (hq : ∀ i σ H, Pv i σ H → SqT K H b ys)
    (hs : ∀ (i : Nat) (x : Str) (y : V) (T : Addr) (σ : L2.St) (H : Hp), ks[i]? = some x → ys[i]? = some y → Pv i σ H → H T = none → g (.ref T) σ (upd H T (.tup [.str x, y])) fun σ2 H2 => tb { D with nx := Pv (i + 1), ct := Pv (i + 1), bk := D.nx } σ2 H2) (hd : ∀ σ H, Pv ks.length σ H → D.nx σ H) :
    ∃ W : Nat → Nat → L2.St → Hp → Prop, (∃ m, W 0 m σ H) ∧ ∀ i m σ H, W i m σ H →
      ((ItzK K ks b).stop i H ∧ D.nx σ H) ∨ ((ItzK K ks b).go i H ∧ ∃ N : L2.St → Hp → Prop, (∀ σ' H', N σ' H' → ∃ m', m' < m ∧ W (i + 1) m' σ' H') ∧ ∀ v H', (ItzK K ks b).yld i H v H' → g v σ H' fun σ2 H2 => tb { D with nx := N, ct := N, bk := D.nx } σ2 H2) := by
  refine ⟨fun i m σ H => m = ks.length - i ∧ i ≤ ks.length ∧ Pv i σ H, ⟨ks.length, rfl, Nat.zero_le _, h0⟩, ?_⟩
  rintro i m σ H ⟨rfl, hi, p⟩
  have qy := hq i σ H p
  by_cases hlt : i < ks.length
  · refine .inr ⟨⟨ys, qy, hl, hlt⟩, Pv (i + 1), fun σ' H' p' => ⟨ks.length - (i + 1), by omega, rfl, hlt, p'⟩, fun v H' y => ?_⟩
    obtain ⟨T, x', y', rfl, hT, rfl, f1, f2⟩ := y
    exact hs i x' y' T σ H f1 (f2 ys qy) p hT
  · have e : i = ks.length := by omega
    subst e
    exact .inl ⟨⟨ys, qy, hl, rfl⟩, hd σ H p⟩

/-- dict(zip(d, t)) -/
def tDZip (K : PySem.W.Frag) (w : World) (ks : List Str) (ta : TA) : TE := fun σ H Q => ta σ H fun vs H1 => ∃ a b ys, vs = [.ref a, .ref b] ∧ KKeys K w a ks ∧ SqT K H1 b ys ∧ ys.length = ks.length ∧ ks.Nodup ∧ ks.length ≤ sizeLine ∧
  ∀ p, H1 p = none → Q (.ref p) (upd H1 p (.dK ((ks.map Sum.inr).zip ys)))
theorem kv_zip : ∀ {ks : List Key} {ys : List V} {us : List Value}, Vals ys us → KV (ks.zip ys) (ks.zip us)
  | [], _, _, _ => by simp; exact Paired.nil
  | _ :: _, _, _, .nil => by simp; exact Paired.nil
  | k :: ks, _, _, .cons r rr => .cons ⟨rfl, r⟩ (kv_zip rr)
theorem zip_keys {α β : Type} : ∀ {ks : List α} {ys : List β}, ks.length ≤ ys.length → (ks.zip ys).map (·.1) = ks
  | [], _, _ => by simp
  | k :: ks, [], h => by simp at h
  | k :: ks, y :: ys, h => by simp only [List.zip_cons_cons, List.map_cons]; rw [zip_keys (by simpa using h)]
theorem pe_dzip {e e2 : Expr} {ta : TA} {p p2 pos pos2 : Pos} {ks : List Str} (hcalm : X.calm = true) (hg : Gl X "zip") (hm : X.mg "zip" = none) (hg2 : Gl X "dict") (hm2 : X.mg "dict" = none) (ha : PA X [e, e2] ta)
    (hs : starEach [e, e2] X.env = (false, eval e X.env) :: starEach [e2] X.env := by rfl) (hpl : (backTo pos (starEach [e2] X.env)).any (·.1) = false := by rfl)
    (hs2 : starEach [.Call (.Name "zip" p) [e, e2] [] pos] X.env = [(false, eval (.Call (.Name "zip" p) [e, e2] [] pos) X.env)] := by rfl) :
    PE X (.Call (.Name "dict" p2) [.Call (.Name "zip" p) [e, e2] [] pos] [] pos2) (tDZip X.K X.w ks ta) := by
  refine ⟨fun pins s σ H Q I h => ?_⟩
  refine Call_ (ld_blt I hg2 hm2 PyProof.Rows.boot_dict ?_)
  rw [hs2]
  refine PyProof.Rows.callWith_type rfl (Calls.evalArgs_plain (Calls.spliced_cons ?_))
  refine Call_ (ld_blt I hg hm PyProof.Rows.boot_zip (PyProof.Rows.callWith_type1 (thn (ha.run pos pins s σ H _ I h) fun us s1 ⟨vs, H1, I1, r1, q1⟩ => ?_) hs hpl))
  obtain ⟨a, b, ys, ex, ⟨es, n, KD, pr⟩, hqy, hlen, hnd, hsz, q⟩ := q1
  subst ex
  cases r1 with
  | cons r rr =>
    cases rr with
    | cons r' rr =>
      cases rr
      cases r
      cases r'
      obtain ⟨its2, rv2, p2, _⟩ := I1.tuple hqy
      obtain ⟨o2, ho2, _⟩ := id p2
      have hr := kk_raw KD I1.kIn
      obtain ⟨o1, ho1, _⟩ := id hr
      have hes : ks.length = es.size := by rw [Paired.length pr]; simp
      have l2 : ys.length = its2.length := rv2.length
      have hh := I1.ok.hd hcalm
      have D := PySem.W.ktu_apart s1.heap.objs.size a b (Heap.lt_size ho1) (Heap.lt_size ho2)
      refine zip_begins2 (begins_dict a es n KD.low) (begins_tuple b its2.toArray) hr (show s1.heap.IsTuple b its2.toArray from p2) fun h' hz hTI hTO h1 h2 hsz' hk => Calls.spliced_nil ?_
      have P := pairArg_zipD (prog := X.prog) (w := X.w) (n := es.size) (sep_of D) (fun A hA => draws_keys hA _ a D.l1i1 es n) (fun A hA => (show es.size = its2.toArray.size by simp; omega) ▸ Draws.tuple hA _ b D.l2i2 its2.toArray)
        (fun h st c hc => by
          simp only [List.mem_cons, List.not_mem_nil, or_false] at hc
          rcases hc with rfl | rfl
          · obtain ⟨o, e, _⟩ := st.1; exact ⟨o, e⟩
          · obtain ⟨o, e, _⟩ := st.2; exact ⟨o, e⟩)
        (fun h st c hc => by
          simp only [List.mem_cons, List.not_mem_nil, or_false] at hc
          rcases hc with rfl | rfl
          · obtain ⟨o, e, _⟩ := st.1; exact ⟨o, e⟩
          · obtain ⟨o, e, _⟩ := st.2; exact ⟨o, e⟩) (Nat.zero_le _)
      refine PySem.call_dict_pairs (knd := mixKind X.prog X.w) (kvs := (ks.map Sum.inr).zip its2) P hh (s := { s1 with heap := h' }) ⟨hz, hTI, ⟨_, _, hTO⟩, ⟨⟨_, h1, rfl, rfl⟩, hr.at fun o e => hk _ o e⟩, ⟨⟨_, h2, rfl, rfl⟩, show h'.IsTuple b its2.toArray from (show s1.heap.IsTuple b its2.toArray from p2).at fun o e => hk _ o e⟩⟩ ⟨by simp; omega, ?_⟩ (by omega) fun h'' tk hd k => ?_
      · rintro i key v ⟨⟨hi, ek⟩, ev⟩
        have hx : ks[i]? = some (ks[i]'(by omega)) := List.getElem?_eq_getElem (by omega)
        obtain ⟨e, he, t, ke⟩ := pairedGetZ pr hx
        have e1 : es.toList[i]? = some es[i] := by simp
        rw [e1] at he
        refine ⟨Sum.inr (ks[i]'(by omega)), ?_, ?_⟩
        · have ev : its2.toArray[i]? = some v := ev
          have e2 : its2.toArray[i]? = its2[i]? := by simp
          rw [e2] at ev
          rw [List.getElem?_zip_eq_some]
          exact ⟨by rw [List.getElem?_map, hx]; rfl, ev⟩
        · rw [ek, Option.some.inj he, ke]
          exact mixKind_str _ _ _ t
      · have hm : merged [] ((ks.map Sum.inr).zip its2) = ((ks.map Sum.inr).zip its2 : List (Key × Value)) := merged_nil_of_nodup _ (by
          rw [zip_keys (by simp; omega)]
          exact List.Pairwise.map _ (fun x y hne e => hne (Sum.inr.inj e)) hnd)
        rw [hm] at hd
        have hp : s1.heap.objs.size ≤ h'.objs.size := by rw [hsz']; exact Nat.le_add_right _ _
        have hmod : (h'.objs.size == sysModules) = false := beq_eq_false_iff_ne.mpr (Nat.ne_of_gt (Nat.lt_of_lt_of_le I1.big hp))
        have k1 : ∀ c o, s1.heap.get? c = some o → h''.get? c = some o := fun c o e => k c o (fun hc => by
          have hlt : c < s1.heap.objs.size := Heap.lt_size e
          simp only [List.mem_cons, List.not_mem_nil, or_false] at hc
          rcases hc with q | q | q | q <;> rw [q] at hlt
          · exact absurd hlt (Nat.not_lt.mpr (Nat.le_add_right _ _))
          · exact absurd hlt (Nat.not_lt.mpr (Nat.le_add_right _ _))
          · exact absurd hlt (Nat.not_lt.mpr (Nat.le_refl _))
          · exact absurd hlt (Nat.not_lt.mpr (Nat.le_add_right _ _))) (hk c o e)
        have new : ObjOk X.prog X.w (upd H1 h'.objs.size (.dK ((ks.map Sum.inr).zip ys))) h'' h'.objs.size (.dK ((ks.map Sum.inr).zip ys)) :=
          ⟨by simp; omega, hmod, _, kv_zip rv2, hd⟩
        exact ⟨.ref h'.objs.size, _, I1.laid (t' := tk) k1 hp new, rfl, q _ (I1.hok.fresh hp)⟩
end
end K14
end
section
set_option Elab.async false
set_option linter.all false
set_option maxRecDepth 100000
/-! is_integer, is_word, Rule.__init__, rule_of, Rule.changed. -/
namespace K14
open PySem L2
/-- the parts and their words -/
def pks : List Str := ["top", "measure", "cut", "least", "ages", "struck", "keeping"]
def pws : List (Str × List V) := [("top", [.int 2, .int 3]), ("measure", [.str "mean", .str "best", .str "count"]), ("cut", [.str "exact", .str "half", .str "whole"]), ("least", [.int 1, .int 2]),
  ("ages", [.str "same", .str "less"]), ("struck", [.str "gone", .str "stay"]), ("keeping", [.str "anew", .str "shown"])]
/-- the words of a rule, in order -/
def rvs (r : Ru) : List V := [.int r.top, .str (measS r.meas), .str (cutS r.cut), .int r.least, .str (agesS r.less), .str (struckS r.stay), .str (keepS r.shown)]
structure Txt3 (K : PySem.W.Frag) (w : World) (mg : Str → Option Value) : Prop where
  parts : ∃ p, mg "PARTS" = some (.ref p) ∧ KKeys K w p pks ∧ (∀ k xs, (k, xs) ∈ pws → (∃ t, KDct K w p k (.ref t) ∧ ∀ H, SqT K H t xs) ∧ ∃ u, PySem.W.nsIn K p k = some (some u))
  counted : ∃ t, mg "COUNTED" = some (.ref t) ∧ ∀ H, SqT K H t [.str "top", .str "least"]
section
variable {P : Program} {w : World} {K : PySem.W.Frag} {mg : Str → Option Value} {base : Heap} {CR CS : Addr}
theorem cr_ty_int {H : Hp} {i : Int} {n : String} {b : Bool} (h : kitB "int" n = some b) {Q : VK} (q : Q (.bl b) H) : rIsi K [.int i, .ty n] H Q := ⟨.int i, .ty n, .type "int", .type n, b, rfl, .ty _, .base (.int i), kit_ty h, q⟩
theorem cr_ty_str {H : Hp} {i : Str} {n : String} {b : Bool} (h : kitB "str" n = some b) {Q : VK} (q : Q (.bl b) H) : rIsi K [.str i, .ty n] H Q := ⟨.str i, .ty n, .type "str", .type n, b, rfl, .ty _, .base (.str i), kit_ty h, q⟩
def spIsInt : Sp := fun vs H Q _ => ∃ (i lo hi : Int), vs = [.int i, .int lo, .int hi] ∧ lo ≤ i ∧ i ≤ hi ∧ Q (.bl true) H
theorem scIsInt : FnScope ["thing", "low", "high"] ["thing", "low", "high"] (defScope (txt 10)) := ⟨rfl, rfl, rfl, by decide +kernel, rfl, by decide +kernel, by decide +kernel⟩
theorem df_isint (T : Txt K w mg CR CS) (F : FunAt K mg "is_integer" (txt 10) ["thing", "low", "high"]) : Df P w K mg base "is_integer" ["thing", "low", "high"] 1 spIsInt := by
  refine F.ok scIsInt (fun vs H Q E h => ?_) (fun f cdv A outer s H vs Q E hr h => ?_)
  · obtain ⟨i, lo, hi, rfl, _⟩ := h
    rfl
  · obtain ⟨i, lo, hi, rfl, h1, h2, q⟩ := h
    refine ⟨_, pss_one (ps_ret (pe_and (pe_callB call_isi (by rfl) T.isi (by decide +kernel) (pa_cons (pv 0) (pa_cons (pe_bltn (v := V.ty "int") (by rfl) T.int (by decide +kernel) rfl) pa_nil)))
      (pe_and (pe_not (pe_callB call_isi (by rfl) T.isi (by decide +kernel) (pa_cons (pv 0) (pa_cons (pe_bltn (v := V.ty "bool") (by rfl) T.bool (by decide +kernel) rfl) pa_nil)))) (pe_one (pe_chain op_le op_le (pv 1) (pv 0) (pv 2)))))), ?_⟩
    refine ⟨_, rfl, ?_⟩
    simp only [tCons, tC, tNil]
    refine cr_ty_int (b := true) (by decide +kernel) ⟨_, rfl, ?_⟩
    refine ⟨_, rfl, ?_⟩
    simp only [tCons, tC, tNil]
    refine cr_ty_int (b := false) (by decide +kernel) ⟨_, rfl, ?_⟩
    refine ⟨_, rfl, _, rfl, _, rfl, lo, i, rfl, rfl, decide (lo ≤ i), rfl, ?_⟩
    rw [decide_eq_true h1]
    refine ⟨_, rfl, i, hi, rfl, rfl, ?_⟩
    show Q (.bl (decide (i ≤ hi))) H
    rw [decide_eq_true h2]
    exact q
def spIsWord : Sp := fun vs H Q _ => ∃ (k : Str) (xs : List V) (x : V), vs = [.str k, x] ∧ (k, xs) ∈ pws ∧ x ∈ xs ∧ Q (.bl true) H
theorem scIsWord : FnScope ["part", "thing"] ["part", "thing"] (defScope (txt 11)) := ⟨rfl, rfl, rfl, by decide +kernel, rfl, by decide +kernel, by decide +kernel⟩
/-- what a part's words are -/
theorem pws_kind : ∀ k xs, (k, xs) ∈ pws → xs.all flatV = true ∧ ((inV (.str k) [.str "top", .str "least"] = true ∧ ∀ x ∈ xs, ∃ i : Int, x = .int i ∧ 1 ≤ i ∧ i ≤ 3) ∨ (inV (.str k) [.str "top", .str "least"] = false ∧ ∀ x ∈ xs, ∃ z : Str, x = .str z)) := by
  intro k xs h
  simp only [pws, List.mem_cons, List.not_mem_nil, or_false, Prod.mk.injEq] at h
  rcases h with ⟨rfl, rfl⟩ | ⟨rfl, rfl⟩ | ⟨rfl, rfl⟩ | ⟨rfl, rfl⟩ | ⟨rfl, rfl⟩ | ⟨rfl, rfl⟩ | ⟨rfl, rfl⟩
  · refine ⟨rfl, .inl ⟨by decide +kernel, fun x hx => ?_⟩⟩
    simp only [List.mem_cons, List.not_mem_nil, or_false] at hx
    rcases hx with rfl | rfl <;> exact ⟨_, rfl, by decide, by decide⟩
  · refine ⟨rfl, .inr ⟨by decide +kernel, fun x hx => ?_⟩⟩
    simp only [List.mem_cons, List.not_mem_nil, or_false] at hx
    rcases hx with rfl | rfl | rfl <;> exact ⟨_, rfl⟩
  · refine ⟨rfl, .inr ⟨by decide +kernel, fun x hx => ?_⟩⟩
    simp only [List.mem_cons, List.not_mem_nil, or_false] at hx
    rcases hx with rfl | rfl | rfl <;> exact ⟨_, rfl⟩
  · refine ⟨rfl, .inl ⟨by decide +kernel, fun x hx => ?_⟩⟩
    simp only [List.mem_cons, List.not_mem_nil, or_false] at hx
    rcases hx with rfl | rfl <;> exact ⟨_, rfl, by decide, by decide⟩
  · refine ⟨rfl, .inr ⟨by decide +kernel, fun x hx => ?_⟩⟩
    simp only [List.mem_cons, List.not_mem_nil, or_false] at hx
    rcases hx with rfl | rfl <;> exact ⟨_, rfl⟩
  · refine ⟨rfl, .inr ⟨by decide +kernel, fun x hx => ?_⟩⟩
    simp only [List.mem_cons, List.not_mem_nil, or_false] at hx
    rcases hx with rfl | rfl <;> exact ⟨_, rfl⟩
  · refine ⟨rfl, .inr ⟨by decide +kernel, fun x hx => ?_⟩⟩
    simp only [List.mem_cons, List.not_mem_nil, or_false] at hx
    rcases hx with rfl | rfl <;> exact ⟨_, rfl⟩
theorem inV_mem : ∀ {x : V} {xs : List V}, x ∈ xs → (∃ i, x = .int i) ∨ (∃ z, x = .str z) → inV x xs = true := by
  intro x xs h hx
  unfold inV
  rw [List.any_eq_true]
  refine ⟨x, h, ?_⟩
  rcases hx with ⟨i, rfl⟩ | ⟨z, rfl⟩
  · show (i == i) = true
    exact beq_self_eq_true i
  · show (z == z) = true
    exact beq_self_eq_true z
theorem df_isword (T : Txt K w mg CR CS) (T3 : Txt3 K w mg) (F : FunAt K mg "is_word" (txt 11) ["part", "thing"]) (DI : Df P w K mg base "is_integer" ["thing", "low", "high"] 1 spIsInt) : Df P w K mg base "is_word" ["part", "thing"] 2 spIsWord := by
  refine F.ok scIsWord (fun vs H Q E h => ?_) (fun f cdv A outer s H vs Q E hr h => ?_)
  · obtain ⟨k, xs, x, rfl, _⟩ := h
    rfl
  · obtain ⟨k, xs, x, rfl, hk, hx, q⟩ := h
    obtain ⟨pt, mP, KK, tab⟩ := T3.parts
    obtain ⟨ct, mC, hC⟩ := T3.counted
    obtain ⟨⟨t, KD, hT⟩, _⟩ := tab k xs hk
    obtain ⟨fl, kind⟩ := pws_kind k xs hk
    refine ⟨_, pss_cons (ps_if (pt_cmpR op_in_seq (pv 0) (pe_glob (v := V.ref ct) (by rfl) mC rfl) (by with_unfolding_all rfl))
        (pss_one (ps_ret (pe_and (pe_df DI hr rfl (pa_cons (pv 1) (pa_cons pe_int (pa_cons pe_int pa_nil)))) (pe_one (pe_cmpR op_in_seq (pv 1) (pe_ix ix_kdict (pe_glob (v := V.ref pt) (by rfl) mP rfl) (pv 0) (fun _ _ => rfl)) (by with_unfolding_all rfl)))))) pss_nil)
      (pss_one (ps_ret (pe_and (pe_callB call_isi (by rfl) T.isi (by decide +kernel) (pa_cons (pv 1) (pa_cons (pe_bltn (v := V.ty "str") (by rfl) T.str (by decide +kernel) rfl) pa_nil)))
        (pe_one (pe_cmpR op_in_seq (pv 1) (pe_ix ix_kdict (pe_glob (v := V.ref pt) (by rfl) mP rfl) (pv 0) (fun _ _ => rfl)) (by with_unfolding_all rfl)))))), ?_⟩
    refine ⟨_, rfl, ct, _, rfl, .inr (hC _), rfl, rfl, _, rfl, ?_⟩
    rcases kind with ⟨e, ki⟩ | ⟨e, ki⟩
    · obtain ⟨i, rfl, i1, i2⟩ := ki x hx
      show if (if false = true then _ else inV _ _) = true then _ else _
      rw [if_neg Bool.false_ne_true, e, if_pos rfl]
      refine ⟨_, rfl, ⟨i, 1, 3, rfl, i1, i2, true, rfl, ?_⟩⟩
      refine ⟨_, rfl, _, rfl, pt, k, _, rfl, rfl, KD, t, xs, rfl, .inr (hT _), rfl, fl, ?_⟩
      rw [inV_mem hx (.inl ⟨i, rfl⟩)]
      exact q
    · obtain ⟨z, rfl⟩ := ki x hx
      show if (if false = true then _ else inV _ _) = true then _ else _
      rw [if_neg Bool.false_ne_true, e, if_neg Bool.false_ne_true]
      refine ⟨_, rfl, ?_⟩
      simp only [tCons, tC, tNil]
      refine cr_ty_str (b := true) (by decide +kernel) ⟨_, rfl, ?_⟩
      refine ⟨_, rfl, _, rfl, pt, k, _, rfl, rfl, KD, t, xs, rfl, .inr (hT _), rfl, fl, ?_⟩
      rw [inV_mem hx (.inr ⟨z, rfl⟩)]
      exact q
/-! ### Rule -/
theorem rvs_zip (r : Ru) : (pks.map Sum.inr).zip (rvs r) = wordsOf r := rfl
theorem rvs_ok (r : Ru) : Paired (fun k x => ∃ xs, (k, xs) ∈ pws ∧ x ∈ xs) pks (rvs r) := by
  obtain ⟨three, meas, cut, two, less, stay, shown⟩ := r
  refine .cons ⟨_, .head _, ?_⟩ (.cons ⟨_, .tail _ (.head _), ?_⟩ (.cons ⟨_, .tail _ (.tail _ (.head _)), ?_⟩ (.cons ⟨_, .tail _ (.tail _ (.tail _ (.head _))), ?_⟩
    (.cons ⟨_, .tail _ (.tail _ (.tail _ (.tail _ (.head _)))), ?_⟩ (.cons ⟨_, .tail _ (.tail _ (.tail _ (.tail _ (.tail _ (.head _))))), ?_⟩ (.cons ⟨_, .tail _ (.tail _ (.tail _ (.tail _ (.tail _ (.tail _ (.head _)))))), ?_⟩ .nil))))))
  · cases three <;> simp [Ru.top]
  · cases meas <;> simp [measS]
  · cases cut <;> simp [cutS]
  · cases two <;> simp [Ru.least]
  · cases less <;> simp [agesS]
  · cases stay <;> simp [struckS]
  · cases shown <;> simp [keepS]
def spInitR (CR : Addr) : Sp := fun vs H Q _ => ∃ (p : Addr) (r : Ru) (dx : Addr), vs = .ref p :: rvs r ∧ H p = some (.ins CR dx []) ∧
  ∀ H' d, (∀ b o, b ≠ p → H b = some o → H' b = some o) → H' p = some (.ins CR dx [("words", .ref d)]) → H' d = some (.dK (wordsOf r)) → Q .non H'
theorem scInitR : FnScope ["self", "top", "measure", "cut", "least", "ages", "struck", "keeping", "given", "part", "word"] ["self", "top", "measure", "cut", "least", "ages", "struck", "keeping"] (defScope (mem 12 0)) := ⟨rfl, rfl, rfl, by decide +kernel, rfl, by decide +kernel, by decide +kernel⟩
theorem ma_rule (T : Txt K w mg CR CS) (T3 : Txt3 K w mg) (F : MakAt K mg "Rule" "Rule.__init__" CR (mem 12 0) ["self", "top", "measure", "cut", "least", "ages", "struck", "keeping"])
    (DW : Df P w K mg base "is_word" ["part", "thing"] 2 spIsWord) : Ma P w K mg base "Rule" CR ["self", "top", "measure", "cut", "least", "ages", "struck", "keeping"] 3 (spInitR CR) := by
  refine F.ok scInitR (fun vs H Q E h => ?_) (fun f cdv A outer s H vs Q E hr h => ?_)
  · obtain ⟨p, r, dx, rfl, _⟩ := h
    rfl
  · obtain ⟨p, r, dx, rfl, hp, k⟩ := h
    have hu := hu_of hr
    obtain ⟨pt, mP, KK, tab⟩ := T3.parts
    refine ⟨_, pss_cons (ps_set (i := 8) scInitR.nd rfl (Or.inl rfl) (pe_tup (pa_cons (pv 1) (pa_cons (pv 2) (pa_cons (pv 3) (pa_cons (pv 4) (pa_cons (pv 5) (pa_cons (pv 6) (pa_cons (pv 7) pa_nil)))))))))
      (pss_cons (ps_for PassesOwn.never rfl (pi_zipK (ks := pks) (by rfl) T.zip (pa_cons (pe_glob (v := V.ref pt) (by rfl) mP rfl) (pa_cons (pv 8) pa_nil))) (pg_tup (by rfl) (pgs_cons (pg_name (i := 9) scInitR.nd rfl (Or.inl rfl)) (pgs_cons (pg_name (i := 10) scInitR.nd rfl (Or.inl rfl)) pgs_nil)))
        (pss_one (ps_if (pt_not (pt_val (pe_df DW hr rfl (pa_cons (pv 9) (pa_cons (pv 10) pa_nil))))) (pss_one ps_never) pss_nil)))
      (pss_one (ps_fld (pv 0) (pe_dzip (ks := pks) rfl (by rfl) T.zip (by rfl) T.dict (pa_cons (pe_glob (v := V.ref pt) (by rfl) mP rfl) (pa_cons (pv 8) pa_nil))) rfl))), ?_⟩
    have hK : ∀ i (x : Str) (y : V), pks[i]? = some x → (rvs r)[i]? = some y → ∃ xs, (x, xs) ∈ pws ∧ y ∈ xs := fun i x y h1 h2 => by
      obtain ⟨y', e, q⟩ := pairedGetZ (rvs_ok r) h1
      rw [e] at h2
      rw [← Option.some.inj h2]
      exact q
    have h7 : (rvs r).length = pks.length := rfl
    refine ⟨_, rfl, _, rfl, _, rfl, _, rfl, _, rfl, _, rfl, _, rfl, (by show 7 ≤ sizeLine; decide), fun g hg => ?_⟩
    have hpg : p ≠ g := ne_of_none hp hg
    refine ⟨_, rfl, pt, g, rvs r, rfl, KK, SqT.of upd_same, h7, ?_⟩
    refine for_zipK (ys := rvs r) h7 (fun i σ H1 => (∃ x9 x10, σ = [some (.ref p), some (.int r.top), some (.str (measS r.meas)), some (.str (cutS r.cut)), some (.int r.least), some (.str (agesS r.less)), some (.str (struckS r.stay)), some (.str (keepS r.shown)), some (.ref g), x9, x10]) ∧ Same (upd H g (.tup (rvs r))) H1) ?_ (fun i σ H1 h => SqT.of (h.2 _ _ upd_same)) ?_ ?_
    · exact ⟨⟨_, _, rfl⟩, Same.refl _⟩
    · rintro i x y Tt σ H1 hx hy ⟨⟨x9, x10, rfl⟩, s1⟩ hT
      obtain ⟨xs, hw, hm⟩ := hK i x y hx hy
      have s2 : Same H1 (upd H1 Tt (.tup [.str x, y])) := same_upd hT
      refine ⟨Tt, _, rfl, SqT.of upd_same, rfl, _, _, rfl, _, _, rfl, rfl, ?_⟩
      refine ⟨_, rfl, _, rfl, x, xs, y, rfl, hw, hm, _, rfl, ?_⟩
      refine itF rfl ?_
      exact ⟨⟨_, _, rfl⟩, s1.trans s2⟩
    · rintro σ H1 ⟨⟨x9, x10, rfl⟩, s1⟩
      refine ⟨_, rfl, pt, g, rvs r, rfl, KK, SqT.of (s1 _ _ upd_same), h7, by decide +kernel, by decide, fun d hd => ?_⟩
      have hp1 : H1 p = some (.ins CR dx []) := s1 _ _ (by rw [upd_ne hpg]; exact hp)
      have hpd : p ≠ d := ne_of_none hp1 hd
      refine ⟨_, rfl, p, CR, dx, _, rfl, by rw [upd_ne hpd]; exact hp1, T.clR, T.nW, (by show 0 < 1000; decide), ?_⟩
      refine k _ d (fun b o nb e => ?_) upd_same ?_
      · have e1 : (upd H g (.tup (rvs r))) b = some o := by rw [upd_ne (ne_of_none e hg)]; exact e
        have e2 := s1 _ _ e1
        rw [upd_ne nb, upd_ne (ne_of_none e2 hd)]
        exact e2
      · rw [upd_ne (fun z => hpd z.symm), upd_same]
        rfl
end
end K14
end
section
set_option Elab.async false
set_option linter.all false
set_option maxRecDepth 100000
/-! rule_of, Rule.changed. -/
namespace K14
open PySem L2
def MetAt (K : PySem.W.Frag) (C : Addr) (m qual : Str) (st : Stmt) (ps : List Str) : Prop := ∃ (f : Addr) (fd : FuncData), Meth K C m f ∧ Fun K m qual st f fd ∧ Binds K fd ps []
def Me (P : Program) (w : World) (K : PySem.W.Frag) (mg : Str → Option Value) (base : Heap) (C : Addr) (m : Str) (ps : List Str) (k : Nat) (sp : Sp) : Prop :=
  ∃ (f : Addr) (fd : FuncData), Meth K C m f ∧ FnOk P w K mg base CX0 k f fd ps sp ∧ Binds K fd ps []
theorem MetAt.ok {P : Program} {w : World} {K : PySem.W.Frag} {mg : Str → Option Value} {base : Heap} {m qual : Str} {C : Addr} {st : Stmt} {N ps : List Str} {k : Nat} {sp : Sp} (F : MetAt K C m qual st ps) (S : FnScope N ps (defScope st)) (len : ∀ vs H Q E, sp vs H Q E → vs.length = ps.length)
    (hbody : ∀ (f : Addr) (cdv : Value) (A : Around) (outer : List Env) (s : Shared) (H : Hp) (vs : List V) (Q : VK) (E : XK), Room k (A.deeper (PyProof.Rows.envOfC qual (defScope st) s.heap.objs.size f cdv)) → sp vs H Q E →
      ∃ t, PSs (cxOf CX0 P w K mg base N qual (defScope st) f cdv A outer s H E).nox (defBody st) t ∧ t { nx := fun _ H' => Q .non H', rt := Q } (start N vs) H) : Me P w K mg base C m ps (k + 1) sp := by
  obtain ⟨f, fd, M, F, hb⟩ := F
  exact ⟨f, fd, M, F.ok S len fun cdv A outer s H vs Q E hr h => hbody f cdv A outer s H vs Q E hr h, hb⟩
theorem pe_me {X : Cx} {C : Addr} {m : Str} {ps : List Str} {k : Nat} {sp : Sp} {o e : Expr} {es : List Expr} {ta : TE} {t : TA} {apos pos : Pos} {pl : Sem Bool} (he : PE X o ta) (c : Cls X.K C) (D : Me X.prog X.w X.K X.mg X.base C m ps k sp) (hr : Room k X.A) (ha : PA X (e :: es) t)
    (hst : starEach (e :: es) X.env = (false, eval e X.env) :: starEach es X.env := by rfl) (hpl : (backTo pos (starEach es X.env)).any (·.1) = false := by rfl)
    (ht : eval (.Call (.Attribute o m apos) (e :: es) [] pos) X.env = (do
      let ov ← eval o X.env
      standAt apos.atName
      let (f, first) ← holding [ov] (getMethod ov m pl)
      callWith pos f first (backTo pos (starEach (e :: es) X.env)) (backToKw pos (keywordEach [] X.env))) := by rfl) :
    PE X (.Call (.Attribute o m apos) (e :: es) [] pos) (tMeth C m sp [] E0 ta t) := by
  obtain ⟨f, fd, M, F, hb⟩ := D
  exact pe_meth he c M F hr hb .nil pass0 ha hst hpl ht

section
variable {P : Program} {w : World} {K : PySem.W.Frag} {mg : Str → Option Value} {base : Heap} {CR CS : Addr}
theorem made_rule {H : Hp} {Q : VK} {r : Ru} (q : ∀ x H', Same H H' → RuleAt CR H' x r → Q (.ref x) H') :
    ∀ x dx, H x = none → H dx = none → dx ≠ x → spInitR CR (.ref x :: (rvs r ++ [])) (upd (upd H dx (.own x)) x (.ins CR dx [])) (fun v H2 => v = .non ∧ Q (.ref x) H2) E0 := by
  intro x dx hx hdx hne
  refine ⟨x, r, dx, rfl, upd_same, fun H' d h1 h2 h3 => ⟨rfl, ?_⟩⟩
  have s : Same H H' := fun b o e => by
    have nb : b ≠ x := ne_of_none e hx
    refine h1 b o nb ?_
    rw [upd_ne nb, upd_ne (ne_of_none e hdx)]
    exact e
  exact q x H' s ⟨dx, d, h2, h3⟩
def spRuleOf (CR : Addr) : Sp := fun vs H Q _ => ∃ (d : Addr) (r : Ru), vs = [.ref d] ∧ H d = some (.dK (wordsOf r)) ∧ ∀ q H', Same H H' → RuleAt CR H' q r → Q (.ref q) H'
theorem scRuleOf : FnScope ["words"] ["words"] (defScope (txt 13)) := ⟨rfl, rfl, rfl, by decide +kernel, rfl, by decide +kernel, by decide +kernel⟩
theorem df_ruleof (T : Txt K w mg CR CS) (F : FunAt K mg "rule_of" (txt 13) ["words"])
    (DR : Ma P w K mg base "Rule" CR ["self", "top", "measure", "cut", "least", "ages", "struck", "keeping"] 3 (spInitR CR)) : Df P w K mg base "rule_of" ["words"] 5 (spRuleOf CR) := by
  refine F.ok scRuleOf (fun vs H Q E h => ?_) (fun f cdv A outer s H vs Q E hr h => ?_)
  · obtain ⟨d, r, rfl, _⟩ := h
    rfl
  · obtain ⟨d, r, rfl, hd, k⟩ := h
    have hu := hu_of hr
    refine ⟨_, pss_one (ps_ret (pe_ma DR hr rfl (pa_cons (pe_dget hu (pv 0) pe_str (fun _ _ => rfl)) (pa_cons (pe_dget hu (pv 0) pe_str (fun _ _ => rfl)) (pa_cons (pe_dget hu (pv 0) pe_str (fun _ _ => rfl)) (pa_cons (pe_dget hu (pv 0) pe_str (fun _ _ => rfl))
      (pa_cons (pe_dget hu (pv 0) pe_str (fun _ _ => rfl)) (pa_cons (pe_dget hu (pv 0) pe_str (fun _ _ => rfl)) (pa_cons (pe_dget hu (pv 0) pe_str (fun _ _ => rfl)) pa_nil))))))))), ?_⟩
    refine ⟨_, rfl, d, _, rfl, dg_top hd, _, rfl, d, _, rfl, dg_measure hd, _, rfl, d, _, rfl, dg_cut hd, _, rfl, d, _, rfl, dg_least hd, _, rfl, d, _, rfl, dg_ages hd, _, rfl, d, _, rfl, dg_struck hd, _, rfl, d, _, rfl, dg_keeping hd, ?_⟩
    exact made_rule k
/-! ### changed -/
def spChanged (CR : Addr) : Sp := fun vs H Q _ => ∃ (p : Addr) (k : Str) (x : V) (r r' : Ru) , vs = [.ref p, .str k, x] ∧ RuleAt CR H p r ∧ k ∈ pks ∧ putK (wordsOf r) (Sum.inr k) x = wordsOf r' ∧ ∀ q H', Same H H' → RuleAt CR H' q r' → Q (.ref q) H'
theorem scChanged : FnScope ["self", "part", "word"] ["self", "part", "word"] (defScope (mem 12 8)) := ⟨rfl, rfl, rfl, by decide +kernel, rfl, by decide +kernel, by decide +kernel⟩
theorem pks_pws {k : Str} (h : k ∈ pks) : ∃ xs, (k, xs) ∈ pws := by
  simp only [pks, List.mem_cons, List.not_mem_nil, or_false] at h
  rcases h with rfl | rfl | rfl | rfl | rfl | rfl | rfl
  · exact ⟨_, .head _⟩
  · exact ⟨_, .tail _ (.head _)⟩
  · exact ⟨_, .tail _ (.tail _ (.head _))⟩
  · exact ⟨_, .tail _ (.tail _ (.tail _ (.head _)))⟩
  · exact ⟨_, .tail _ (.tail _ (.tail _ (.tail _ (.head _))))⟩
  · exact ⟨_, .tail _ (.tail _ (.tail _ (.tail _ (.tail _ (.head _)))))⟩
  · exact ⟨_, .tail _ (.tail _ (.tail _ (.tail _ (.tail _ (.tail _ (.head _))))))⟩
theorem me_changed (T : Txt K w mg CR CS) (T3 : Txt3 K w mg) (F : MetAt K CR "changed" "Rule.changed" (mem 12 8) ["self", "part", "word"])
    (DR : Df P w K mg base "rule_of" ["words"] 5 (spRuleOf CR)) : Me P w K mg base CR "changed" ["self", "part", "word"] 6 (spChanged CR) := by
  refine F.ok scChanged (fun vs H Q E h => ?_) (fun f cdv A outer s H vs Q E hr h => ?_)
  · obtain ⟨p, k, x, r, r', rfl, _⟩ := h
    rfl
  · obtain ⟨p, k, x, r, r', rfl, hR, hk, e, q⟩ := h
    obtain ⟨dx, d, h1, h2⟩ := id hR
    obtain ⟨pt, mP, ⟨es, n, KD, pr⟩, tab⟩ := T3.parts
    obtain ⟨xs, hw⟩ := pks_pws hk
    obtain ⟨_, u, hu⟩ := tab k xs hw
    refine ⟨_, pss_cons (ps_if (PW.pt (pw_or (pt_not (pt_val (pe_callB call_isi (by rfl) T.isi (by decide +kernel) (pa_cons (pv 1) (pa_cons (pe_bltn (v := V.ty "str") (by rfl) T.str (by decide +kernel) rfl) pa_nil)))))
        (pw_or1 (pt_cmpR (op_notIn_kd KD) (pv 1) (pe_glob (v := V.ref pt) (by rfl) mP rfl) (by with_unfolding_all rfl))))) (pss_one ps_never) pss_nil)
      (pss_one (ps_ret (pe_df DR hr rfl (pa_cons (pe_spread (pe_fld (pv 0) rfl) (pv 1) (pv 2)) pa_nil)))), ?_⟩
    refine ⟨_, rfl, ?_⟩
    simp only [tCons, tC, tNil]
    refine cr_ty_str (b := true) (by decide +kernel) ⟨_, rfl, ?_⟩
    refine itF rfl ⟨_, rfl, k, _, rfl, rfl, hu, _, rfl, ?_⟩
    refine itF rfl ?_
    refine ⟨_, rfl, p, CR, dx, _, _, rfl, h1, T.clR, T.nW, rfl, d, _, rfl, .inl h2, (by show 8 ≤ sizeLine; decide), _, rfl, _, rfl, Sum.inr k, rfl, fun t ht => ?_⟩
    refine ⟨t, r', rfl, by rw [upd_same, e], fun z H' s1 hz => q z H' (Same.trans (same_upd ht) s1) hz⟩
end
end K14
end
section
set_option Elab.async false
set_option linter.all false
set_option maxRecDepth 100000
/-! is_deed, shown_behind. -/
namespace K14
open PySem L2
section
variable {P : Program} {w : World} {K : PySem.W.Frag} {mg : Str → Option Value} {base : Heap} {CR CS : Addr}
def spIsDeed (CR : Addr) : Sp := fun vs H Q _ => ∃ (p t : Addr) (r : Ru) (d : Dd), vs = [.ref p, .ref t] ∧ RuleAt CR H p r ∧ DdAt H t d ∧ ddOk r.top d = true ∧ ∀ H', Same H H' → Q (.bl true) H'
theorem scIsDeed : FnScope ["rule", "thing"] ["rule", "thing"] (defScope (txt 45)) := ⟨rfl, rfl, rfl, by decide +kernel, rfl, by decide +kernel, by decide +kernel⟩
theorem pI_01 (b : Bool) : 0 ≤ pI b ∧ pI b ≤ 1 := by cases b <;> decide
theorem df_isdeed (T : Txt K w mg CR CS) (F : FunAt K mg "is_deed" (txt 45) ["rule", "thing"]) (DI : Df P w K mg base "is_integer" ["thing", "low", "high"] 1 spIsInt) : Df P w K mg base "is_deed" ["rule", "thing"] 2 (spIsDeed CR) := by
  refine F.ok scIsDeed (fun vs H Q E h => ?_) (fun f cdv A outer s H vs Q E hr h => ?_)
  · obtain ⟨p, t, r, d, rfl, _⟩ := h
    rfl
  · obtain ⟨p, t, r, d, rfl, hR, hd, ok, k⟩ := h
    have hu := hu_of hr
    obtain ⟨dx, dw, h1, h2⟩ := id hR
    refine ⟨_, pss_cons (ps_if (PW.pt (pw_or (pt_not (pt_val (pe_callB call_isi (by rfl) T.isi (by decide +kernel) (pa_cons (pv 1) (pa_cons (pe_bltn (v := V.ty "tuple") (by rfl) T.tuple (by decide +kernel) rfl) pa_nil)))))
        (pw_or (pt_not (pt_chain op_le op_le pe_int (pe_callB call_len_seq (by rfl) T.len PySem.boot_len (pa_cons (pv 1) pa_nil)) pe_int))
        (pw_or1 (pt_not (pt_val (pe_callB call_isi (by rfl) T.isi (by decide +kernel) (pa_cons (pe_ix ix_tup (pv 1) pe_int (fun _ _ => rfl)) (pa_cons (pe_bltn (v := V.ty "str") (by rfl) T.str (by decide +kernel) rfl) pa_nil)))))))))
        (pss_one (ps_ret pe_bl)) pss_nil)
      (pss_cons (ps_if (pt_cmpR op_eq (pe_callB call_len_seq (by rfl) T.len PySem.boot_len (pa_cons (pv 1) pa_nil)) pe_int (nomark _)) (pss_one (ps_ret (pe_cmpR op_eq (pe_ix ix_tup (pv 1) pe_int (fun _ _ => rfl)) pe_str (nomark _)))) pss_nil)
      (pss_cons (ps_if (pt_not (pt_val (pe_df DI hr rfl (pa_cons (pe_ix ix_tup (pv 1) pe_int (fun _ _ => rfl)) (pa_cons pe_int (pa_cons pe_int pa_nil)))))) (pss_one (ps_ret pe_bl)) pss_nil)
      (pss_cons (ps_if (pt_cmpR op_eq (pe_callB call_len_seq (by rfl) T.len PySem.boot_len (pa_cons (pv 1) pa_nil)) pe_int (nomark _)) (pss_one (ps_ret (pe_cmpR op_in_seq (pe_ix ix_tup (pv 1) pe_int (fun _ _ => rfl)) (pe_tup (pa_cons pe_str (pa_cons pe_str pa_nil))) (by with_unfolding_all rfl)))) pss_nil)
      (pss_one (ps_ret (pe_and (pe_cmpR op_eq (pe_ix ix_tup (pv 1) pe_int (fun _ _ => rfl)) pe_str (nomark _)) (pe_one (pe_df DI hr rfl (pa_cons (pe_ix ix_tup (pv 1) pe_int (fun _ _ => rfl)) (pa_cons pe_int (pa_cons (pe_dget hu (pe_fld (pv 0) rfl) pe_str (fun _ _ => rfl)) pa_nil))))))))))), ?_⟩
    have ht : SqT K H t (ddV d) := SqT.of hd
    have hlen : 1 ≤ (ddV d).length ∧ (ddV d).length ≤ 3 := by cases d <;> simp [ddV]
    refine ⟨_, rfl, ?_⟩
    simp only [tCons, tC, tNil]
    refine ⟨.ref t, .ty "tuple", .type "tuple", .type "tuple", true, rfl, .ty _, .base (.tup hd), kit_ty (by decide +kernel), _, rfl, ?_⟩
    refine itF rfl ?_
    refine ⟨_, rfl, t, _, rfl, .inr ht, 1, ((ddV d).length : Int), rfl, rfl, _, rfl, itT (decide_eq_true (by omega)) ?_⟩
    refine ⟨_, 3, rfl, rfl, _, rfl, ?_⟩
    refine itF (by rw [decide_eq_true (by omega)]; rfl) ?_
    have hz : ∃ z, atI (ddV d) 0 = some (.str z) := by cases d <;> exact ⟨_, rfl⟩
    obtain ⟨z, hz⟩ := hz
    refine ⟨_, rfl, t, _, _, _, rfl, rfl, ht, hz, ?_⟩
    simp only [tCons, tC, tNil]
    refine ⟨.str z, .ty "str", .type "str", .type "str", true, rfl, .ty _, .base (.str z), kit_ty (by decide +kernel), _, rfl, ?_⟩
    refine itF rfl ?_
    cases d with
    | night =>
      refine ⟨_, rfl, t, _, rfl, .inr ht, rfl, _, rfl, itT (by decide +kernel) ?_⟩
      refine ⟨_, rfl, t, _, _, _, rfl, rfl, ht, rfl, rfl, ?_⟩
      exact k H (Same.refl H)
    | give b m =>
      have pb := pI_01 b
      refine ⟨_, rfl, t, _, rfl, .inr ht, rfl, _, rfl, itF (by simp [ddV]) ?_⟩
      refine ⟨_, rfl, t, _, _, _, rfl, rfl, ht, rfl, pI b, 0, 1, rfl, pb.1, pb.2, _, rfl, itF rfl ?_⟩
      refine ⟨_, rfl, t, _, rfl, .inr ht, rfl, _, rfl, itF (by simp [ddV]) ?_⟩
      have hm : 1 ≤ m ∧ m ≤ r.top := by simpa [ddOk] using ok
      refine ⟨_, rfl, t, _, _, _, rfl, rfl, ht, rfl, rfl, _, rfl, itT (by decide +kernel) ?_⟩
      refine ⟨_, rfl, t, _, _, _, rfl, rfl, ht, rfl, _, rfl, p, CR, dx, _, _, rfl, h1, T.clR, T.nW, rfl, dw, _, rfl, dg_top h2, m, 1, r.top, rfl, hm.1, hm.2, ?_⟩
      exact k H (Same.refl H)
    | back b =>
      have pb := pI_01 b
      refine ⟨_, rfl, t, _, rfl, .inr ht, rfl, _, rfl, itF (by simp [ddV]) ?_⟩
      refine ⟨_, rfl, t, _, _, _, rfl, rfl, ht, rfl, pI b, 0, 1, rfl, pb.1, pb.2, _, rfl, itF rfl ?_⟩
      refine ⟨_, rfl, t, _, rfl, .inr ht, rfl, _, rfl, itT (by simp [ddV]) ?_⟩
      refine ⟨_, rfl, t, _, _, _, rfl, rfl, ht, rfl, (by show 2 ≤ sizeLine; decide), fun t2 ht2 => ?_⟩
      refine ⟨t2, _, rfl, .inr (SqT.of upd_same), rfl, rfl, ?_⟩
      exact k _ (same_upd ht2)
    | strike b =>
      have pb := pI_01 b
      refine ⟨_, rfl, t, _, rfl, .inr ht, rfl, _, rfl, itF (by simp [ddV]) ?_⟩
      refine ⟨_, rfl, t, _, _, _, rfl, rfl, ht, rfl, pI b, 0, 1, rfl, pb.1, pb.2, _, rfl, itF rfl ?_⟩
      refine ⟨_, rfl, t, _, rfl, .inr ht, rfl, _, rfl, itT (by simp [ddV]) ?_⟩
      refine ⟨_, rfl, t, _, _, _, rfl, rfl, ht, rfl, (by show 2 ≤ sizeLine; decide), fun t2 ht2 => ?_⟩
      refine ⟨t2, _, rfl, .inr (SqT.of upd_same), rfl, rfl, ?_⟩
      exact k _ (same_upd ht2)
end
end K14
end
section
set_option Elab.async false
set_option linter.all false
set_option maxRecDepth 100000
set_option maxHeartbeats 1000000
/-! enumerate of a tuple. -/
namespace K14
open PySem PySem.Spec PyProof.Rows L2
theorem meets_enum_new1 {v : Value} {o : Obj} {H : Heap → Prop} (B : Begins v o H) :
    Meets (Builtin.«enumerate.__new__» ⟨[.type "enumerate", v], []⟩) (fun _ R s => H s.heap ∧
      R (.ok (.ret (.ref (s.heap.push o).objs.size))) { s with heap := (s.heap.push o).push { cls := .type "enumerate", data := .fields #[.none, .bool false, .ref s.heap.objs.size, rawInt 0, .none, .none] } }) :=
  .of_wp fun prog w A R s h => by
    obtain ⟨hp, g, d, tk, os⟩ := s; obtain ⟨h1, h⟩ := h
    have hsub := sub_enumerate
    have q1 : ∀ {A' : Around} {E : Value → Shared → Prop} {Q : Value → Shared → Prop}, Q (.ref hp.objs.size) ⟨hp.push o, g, d, tk, os⟩ → wpAny (model prog w) A' (pyIter v) Q E ⟨hp, g, d, tk, os⟩ :=
      fun q => B.iter prog w _ _ ⟨hp, g, d, tk, os⟩ _ h1 q
    wp_walk using q1
    refine wpAny_stack_any fun st => wpAny_pure ?_
    split
    · rename_i c _ _ _ _ _
      cases (c == Value.type "enumerate")
      · wp_walk using q1
        exact ⟨_, rfl, h⟩
      · wp_walk using q1
        exact ⟨_, rfl, h⟩
    · wp_walk using q1
      exact ⟨_, rfl, h⟩
section
variable {prog : Program} {w : World} {A : Around} {E : Value → Shared → Prop} {s : Shared}
theorem enum_begins1 {v : Value} {o : Obj} {H : Heap → Prop} {Q : Value → Shared → Prop} (B : Begins v o H) (h1 : H s.heap)
    (h : ∀ h', IsEnum h' (s.heap.objs.size + 1) s.heap.objs.size 0 .none → h'.get? s.heap.objs.size = some o → h'.objs.size = s.heap.objs.size + 2 →
      (∀ b o, s.heap.get? b = some o → h'.get? b = some o) → Q (.ref (s.heap.objs.size + 1)) { s with heap := h' }) :
    wpAny (model prog w) A (call (.type "enumerate") [v]) Q E s := by
  refine callType_new PySem.F.called_enumerate (by decide) (PySem.F.typeCall_enumerate_1 _) (PySem.F.newCall_enumerate_1 _) (fun obj => PySem.F.args_object_init_2 obj _) PySem.F.entry_enumerate_new
    (meets_enum_new1 B) ⟨h1, ?_⟩
  have hz : (s.heap.push o).objs.size = s.heap.objs.size + 1 := Heap.size_push ..
  show _ ∧ _
  rw [hz]
  have he : IsEnum ((s.heap.push o).push { cls := .type "enumerate", data := .fields #[.none, .bool false, .ref s.heap.objs.size, rawInt 0, .none, .none] }) (s.heap.objs.size + 1) s.heap.objs.size 0 .none := by
    have := Heap.get?_push_size (s.heap.push o) (o := { cls := .type "enumerate", data := .fields #[.none, .bool false, .ref s.heap.objs.size, rawInt 0, .none, .none] }) rfl
    rw [hz] at this; exact this
  refine ⟨⟨_, he, rfl⟩, h _ he (Heap.get?_push_of_some _ (Heap.get?_push_size _ B.free)) (by rw [Heap.size_push, hz]) fun b o x => Heap.get?_push_of_some _ (Heap.get?_push_of_some _ x)⟩
end
/-- the tuple at a, each item in a new pair with its place -/
def IteT (K : PySem.W.Frag) (a : Addr) : It :=
  ⟨fun i H => ∃ (xs : List V) (x : V), SqT K H a xs ∧ xs[i]? = some x, fun i H v H' => ∃ T x, v = .ref T ∧ H T = none ∧ H' = upd H T (.tup [.int (i : Nat), x]) ∧ ∀ xs, SqT K H a xs → xs[i]? = some x, fun i H => ∃ xs : List V, SqT K H a xs ∧ xs.length = i⟩
theorem turn_enumT {P : Program} {w : World} {K : PySem.W.Frag} {elts : List Expr} {kk : Nat} {tpos : Pos} (a e it : Addr) :
    Turn P w K (.Tuple elts kk tpos) (IteT K a) [e, it] e (fun i h => (∃ old, IsEnum h e it ((i : Nat) : Int) old) ∧ h.IsTupleIter it a i ∧ e ≠ it ∧ e ≠ a ∧ a ≠ it) where
  mem := by simp
  obj := fun i h st b hb => by
    obtain ⟨⟨old, he⟩, ⟨o, ho, hc, hd⟩, _⟩ := st
    have e' : b = e ∨ b = it := by simpa using hb
    rcases e' with z | z
    · rw [z]; exact ⟨_, he, fun v q => nomatch q⟩
    · rw [z]; exact ⟨o, ho, fun v q => by rw [hd] at q; cases q⟩
  keep := fun i h h' st k => let ⟨⟨old, he⟩, hi, hne⟩ := st; ⟨⟨old, k e (by simp) _ he⟩, hi.at fun o q => k it (by simp) o q, hne⟩
  item := by
    intro X hP hw hK hc i pins s σ H E I hf st hg
    subst hP hw hK
    obtain ⟨⟨old, he⟩, hit, hne, hea, hai⟩ := st
    obtain ⟨xs, x, hq, hx⟩ := hg
    obtain ⟨its, rv, p, hz⟩ := I.tuple hq
    obtain ⟨u, hu, ru⟩ := rv.get hx
    have hel : e < s.heap.objs.size := Heap.lt_size he
    have hil : it < s.heap.objs.size := by obtain ⟨_, q, _⟩ := hit; exact Heap.lt_size q
    have hlt : i < its.length := (List.getElem?_eq_some_iff.mp hu).1
    have D := Draws.tuple (prog := X.prog) (w := X.w) (A := X.A.in1) (I.ok.hd hc) it a hai its.toArray
    refine wpAny_pyNext_enum_itemD D he ⟨hit, p⟩ (by simpa using hlt) hne (by simp; exact ⟨hne, hea⟩) fun x' h' tk hx' ho hit' hT hsz hk => ?_
    have ex : x' = u := by
      have hx' : its.toArray[i]? = some x' := hx'
      have : its.toArray[i]? = its[i]? := by simp
      rw [this, hu] at hx'
      exact (Option.some.inj hx').symm
    subst ex
    refine ⟨_, rfl, wpAny_letOwnedTupleGo_enum (s := { s with heap := h', toks := tk + 1 }) ho fun h'' he' sb => ?_⟩
    have hT2 : h''.get? s.heap.objs.size = some { cls := .type "tuple", data := .seq #[.int i tk, x'] } := (sb.2 _ (Nat.ne_of_gt hel)).trans hT
    have new : ObjOk X.prog X.w (upd H s.heap.objs.size (.tup [.int (i : Nat), x])) h'' s.heap.objs.size (.tup [.int (i : Nat), x]) :=
      ⟨by show 2 ≤ sizeLine; decide, [.int i tk, x'], .cons ⟨_, rfl⟩ (.cons ru .nil), ⟨_, hT2, rfl, _, rfl⟩⟩
    have I1 : Inv X pins σ (upd H s.heap.objs.size (.tup [.int (i : Nat), x])) { s with heap := h'', toks := tk + 1 } :=
      I.turnedNew (ch := [e, it]) (fun b ob hb q => (sb.2 b (fun z => hb (by simp [z]))).trans (hk b ob (fun z => hb (by simp [z])) (fun z => hb (by simp [z])) q)) hf (Nat.le_refl _) new
    refine ⟨.ref s.heap.objs.size, _, I1, rfl, ⟨_, x, rfl, I.hok.fresh (Nat.le_refl _), rfl, fun ys hy => by rw [I.tuple_inj hy hq]; exact hx⟩, ⟨⟨x', ?_⟩, hit'.1.at fun o q => (sb.2 it (Ne.symm hne)).trans q, hne, hea, hai⟩, fun b hb => ?_⟩
    · have e1 : ((i + 1 : Nat) : Int) = (i : Int) + 1 := by omega
      rw [e1]; exact he'
    · have hb' : b < s.heap.objs.size := by
        have e' : b = e ∨ b = it := by simpa using hb
        rcases e' with z | z
        · rw [z]; exact hel
        · rw [z]; exact hil
      rw [upd_ne (Nat.ne_of_lt hb')]
      exact (hf b hb).1
  done := by
    intro X hP hw hK hc i pins s σ H E I hf st hg
    subst hP hw hK
    obtain ⟨⟨old, he⟩, hit, hne, hea, hai⟩ := st
    obtain ⟨xs, hq, hx⟩ := hg
    obtain ⟨its, rv, p, hz⟩ := I.tuple hq
    obtain ⟨f0, f1, f2, f3, f4, f5⟩ := hf it (by simp)
    have hl := rv.length
    have D := Draws.tuple (prog := X.prog) (w := X.w) (A := X.A.in1) (I.ok.hd hc) it a hai its.toArray
    have en : i = its.toArray.size := by simp; omega
    exact wpAny_pyNext_enum_endD D he (by rw [← en]; exact ⟨hit, p⟩) fun h' eb => ⟨rfl, I.turned (t' := s.toks) (fun b o hb q => eb b o hb q) f0 f1 f3 f4 f5⟩
  self := fun A i s Q E st h => let ⟨⟨_, he⟩, _⟩ := st; wpAny_pyIter_enum he h
def iEnumT (K : PySem.W.Frag) (ta : TA) : TI := fun σ H R => ta σ H fun vs H1 => ∃ a xs, vs = [.ref a] ∧ SqT K H1 a xs ∧ R (IteT K a) H1
theorem pi_enumT {X : Cx} {e : Expr} {ta : TA} {p pos tpos : Pos} {elts : List Expr} {kk : Nat} (hg : Gl X "enumerate") (hm : X.mg "enumerate" = none) (ha : PA X [e] ta) (hs : starEach [e] X.env = [(false, eval e X.env)] := by rfl) :
    PI X (.Tuple elts kk tpos) (.Call (.Name "enumerate" p) [e] [] pos) (iEnumT X.K ta) := by
  refine ⟨fun pins s σ H R I h => ?_⟩
  refine Call_ (ld_blt I hg hm boot_enumerate (PyProof.Rows.callWith_type1 (thn (ha.run pos pins s σ H _ I h) fun us s1 ⟨vs, H1, I1, r1, q1⟩ => ?_) hs rfl))
  obtain ⟨a, xs, ex, hq, q⟩ := q1
  subst ex
  cases r1 with
  | cons r rr =>
    cases rr
    cases r
    obtain ⟨its, rv, p', hz⟩ := I1.tuple hq
    obtain ⟨o2, ho2, _⟩ := id p'
    have hlt := Heap.lt_size ho2
    refine enum_begins1 (begins_tuple a its.toArray) (show s1.heap.IsTuple a its.toArray from p') fun h' he hit hsz hk => wpAny_pyIter_enum he ?_
    have I2 : Inv X pins σ H1 { s1 with heap := h' } := I1.kept (t' := s1.toks) hk
    refine ⟨s1.heap.objs.size + 1, [s1.heap.objs.size + 1, s1.heap.objs.size], _, _, H1, rfl, I2, turn_enumT a (s1.heap.objs.size + 1) s1.heap.objs.size, ⟨⟨.none, he⟩, ⟨_, hit, rfl, rfl⟩, Nat.succ_ne_self _, Nat.ne_of_gt (Nat.lt_succ_of_lt hlt), Nat.ne_of_lt hlt⟩, fun b hb => ?_, q⟩
    have e' : b = s1.heap.objs.size + 1 ∨ b = s1.heap.objs.size := by simpa using hb
    have hle : s1.heap.objs.size ≤ b := by
      rcases e' with z | z
      · rw [z]; exact Nat.le_add_right _ _
      · rw [z]; exact Nat.le_refl _
    exact I1.fpOk hle (I1.hok.fresh hle)
theorem walk_enumT {K : PySem.W.Frag} {a : Addr} {xs : List V} : Walk (IteT K a) xs.length (fun H => SqT K H a xs) (YPair (fun i => some (.int (i : Nat))) (fun i => xs[i]?)) := by
  refine ⟨fun i _ hi q => ⟨xs, xs[i], q, by simp [hi]⟩, fun _ q => ⟨xs, q, rfl⟩, fun i H v H' _ q y => ?_⟩
  obtain ⟨T, x, h1, h2, h3, h4⟩ := y
  exact ⟨T, .int (i : Nat), x, h1, h2, h3, rfl, h4 xs q⟩
end K14
end
section
set_option Elab.async false
set_option linter.all false
set_option maxRecDepth 100000
/-! shown_behind. -/
namespace K14
open PySem L2
/-- the standing behind deeds -/
def stOf (r : Ru) (ds : List Dd) : Sg := ds.foldl (done r) first
def shownL (r : Ru) (ds : List Dd) : List (Option (Int × Int)) := (List.range (ds.length + 1)).map fun i => shownBy r (stOf r (ds.take i))
theorem stOf_succ {r : Ru} {ds : List Dd} {i : Nat} {d : Dd} (h : ds[i]? = some d) : stOf r (ds.take (i + 1)) = done r (stOf r (ds.take i)) d := by
  unfold stOf
  rw [List.take_add_one, h, List.foldl_append]
  rfl
section
variable {P : Program} {w : World} {K : PySem.W.Frag} {mg : Str → Option Value} {base : Heap} {CR CS : Addr}
def spBehind (CR : Addr) : Sp := fun vs H Q _ => ∃ (p t : Addr) (r : Ru) (xs : List V) (ds : List Dd), vs = [.ref p, .ref t] ∧ RuleAt CR H p r ∧ H t = some (.tup xs) ∧ Paired (DdV H) xs ds ∧ (∀ d ∈ ds, ddOk r.top d = true) ∧
  (∀ i, i ≤ ds.length → SgOk (stOf r (ds.take i)) ∧ nd2 (stOf r (ds.take i)).rows = true) ∧ ds.length ≤ 1000 ∧ ∀ l ys H', Same H H' → H' l = some (.lst ys) → Paired (NumAt H') ys (shownL r ds) → Q (.ref l) H'
theorem scBehind : FnScope ["rule", "history", "index", "deed", "standing", "found"] ["rule", "history"] (defScope (txt 49)) := ⟨rfl, rfl, rfl, by decide +kernel, rfl, by decide +kernel, by decide +kernel⟩
theorem df_behind (T : Txt K w mg CR CS) (F : FunAt K mg "shown_behind" (txt 49) ["rule", "history"]) (DD : Df P w K mg base "is_deed" ["rule", "thing"] 2 (spIsDeed CR)) (D1 : Df P w K mg base "first_standing" [] 3 (spFirst CS))
    (DS : Df P w K mg base "shown_by" ["rule", "standing"] 6 (spShown CR CS)) (DO : Df P w K mg base "done" ["rule", "standing", "deed"] 7 (spDone CR CS)) : Df P w K mg base "shown_behind" ["rule", "history"] 8 (spBehind CR) := by
  refine F.ok scBehind (fun vs H Q E h => ?_) (fun f cdv A outer s H vs Q E hr h => ?_)
  · obtain ⟨p, t, r, xs, ds, rfl, _⟩ := h
    rfl
  · obtain ⟨p, t, r, xs, ds, rfl, hR, ht, hds, hok, hsg, hlen, k⟩ := h
    have hu := hu_of hr
    refine ⟨_, pss_cons (ps_if (pt_not (pt_val (pe_callB call_isi (by rfl) T.isi (by decide +kernel) (pa_cons (pv 1) (pa_cons (pe_bltn (v := V.ty "tuple") (by rfl) T.tuple (by decide +kernel) rfl) pa_nil))))) (pss_one ps_never) pss_nil)
      (pss_cons (ps_for PassesOwn.never rfl (pi_enumT (by rfl) T.enum (pa_cons (pv 1) pa_nil)) (pg_tup (by rfl) (pgs_cons (pg_name (i := 2) scBehind.nd rfl (Or.inl rfl)) (pgs_cons (pg_name (i := 3) scBehind.nd rfl (Or.inl rfl)) pgs_nil)))
        (pss_one (ps_if (pt_not (pt_val (pe_df DD (hr.mono (by decide)) rfl (pa_cons (pv 0) (pa_cons (pv 3) pa_nil))))) (pss_one ps_never) pss_nil)))
      (pss_cons (ps_set (i := 4) scBehind.nd rfl (Or.inl rfl) (pe_df0 D1 (hr.mono (by decide)) rfl))
      (pss_cons (ps_set (i := 5) scBehind.nd rfl (Or.inl rfl) (pe_lst (pa_cons (pe_df DS (hr.mono (by decide)) rfl (pa_cons (pv 0) (pa_cons (pv 4) pa_nil))) pa_nil)))
      (pss_cons (ps_for PassesOwn.never rfl (pi_tup (pv 1)) (pg_name (i := 3) scBehind.nd rfl (Or.inl rfl))
        (pss_cons (ps_set (i := 4) scBehind.nd rfl (Or.inl rfl) (pe_df DO hr rfl (pa_cons (pv 0) (pa_cons (pv 4) (pa_cons (pv 3) pa_nil)))))
        (pss_one (ps_expr (pe_bm PySem.F.plainAttrs_list PySem.F.slot_list_append PySem.F.type_list_append mt_append (pv 5) (pa_cons (pe_df DS (hr.mono (by decide)) rfl (pa_cons (pv 0) (pa_cons (pv 4) pa_nil))) pa_nil))))))
      (pss_one (ps_ret (pv 5))))))), ?_⟩
    have hxl : xs.length = ds.length := Paired.length hds
    refine ⟨_, rfl, ?_⟩
    simp only [tCons, tC, tNil]
    refine ⟨.ref t, .ty "tuple", .type "tuple", .type "tuple", true, rfl, .ty _, .base (.tup ht), kit_ty (by decide +kernel), _, rfl, ?_⟩
    refine itF rfl ?_
    refine ⟨_, rfl, t, xs, rfl, SqT.of ht, ?_⟩
    refine for_it (walk_enumT (a := t) (xs := xs)) (fun i σ H1 => (∃ x2 x3 x4 x5, σ = [some (.ref p), some (.ref t), x2, x3, x4, x5]) ∧ Same H H1) ?_ (fun i σ H1 _ h => SqT.of (h.2 _ _ ht)) ?_ ?_
    · exact ⟨⟨_, _, _, _, rfl⟩, Same.refl H⟩
    · rintro i x σ H1 H1' hi ⟨⟨x2, x3, x4, x5, rfl⟩, s1⟩ ⟨Tt, a1, b1, rfl, hT, rfl, ha1, hb1⟩
      have s2 : Same H1 (upd H1 Tt (.tup [a1, b1])) := same_upd hT
      obtain ⟨d, hd, a, rfl, hda⟩ : ∃ d, ds[i]? = some d ∧ DdV H b1 d := pairedGetZ hds hb1
      refine ⟨Tt, _, rfl, SqT.of upd_same, rfl, _, _, rfl, _, _, rfl, rfl, ?_⟩
      refine ⟨_, rfl, _, rfl, p, a, r, d, rfl, hR.mono (SameN.of (s1.trans s2)), (s1.trans s2) _ _ hda, hok d (List.mem_of_getElem? hd), fun H3 s3 => ⟨_, rfl, itF rfl ?_⟩⟩
      exact ⟨⟨_, _, _, _, rfl⟩, (s1.trans s2).trans s3⟩
    rintro σ H1 ⟨⟨x2, x3, x4, x5, rfl⟩, s1⟩
    refine ⟨rfl, fun S0 H2 s2 hS0 => ?_⟩
    have s12 := s1.trans s2
    have h00 := hsg 0 (Nat.zero_le _)
    refine ⟨_, rfl, _, rfl, p, S0, r, first, rfl, hR.mono (SameN.of s12), hS0, h00.1, fun v0 H3 s3 hv0 => ⟨(by show 1 ≤ sizeLine; decide), fun L hL => ?_⟩⟩
    have s13 := s12.trans s3
    have hLf : H L = none := by
      cases e : H L with
      | none => rfl
      | some o => rw [s13 _ _ e] at hL; cases hL
    refine ⟨_, rfl, t, rfl, ⟨_, SqT.of (sput s13 hLf _ _ ht)⟩, ?_⟩
    refine for_it (walk_tup (K := K) (a := t) (xs := xs)) (fun i σ H4 => ∃ x2 x3 S ys, σ = [some (.ref p), some (.ref t), x2, x3, some (.ref S), some (.ref L)] ∧ Same H H4 ∧ SgAt CS H4 S (stOf r (ds.take i)) ∧ H4 L = some (.lst ys) ∧ Paired (NumAt H4) ys ((List.range (i + 1)).map fun i => shownBy r (stOf r (ds.take i)))) ?_ (fun i σ H1 _ h => ?_) ?_ ?_
    · exact ⟨_, _, S0, [v0], rfl, sput s13 hLf, (hS0.mono (SameN.of (s3.trans (same_upd hL)))), upd_same, .cons (hv0.mono (SameN.of (same_upd hL))) .nil⟩
    · obtain ⟨_, _, _, _, _, s4, _⟩ := h
      exact SqT.of (s4 _ _ ht)
    · rintro i x σ H4 H4' hi ⟨x2, x3, S, ys, rfl, s4, hS, hL4, pz⟩ ⟨rfl, hx⟩
      have hi' : i < ds.length := by omega
      obtain ⟨d, hd, a, rfl, hda⟩ : ∃ d, ds[i]? = some d ∧ DdV H x d := pairedGetZ hds hx
      have e1 : stOf r (ds.take (i + 1)) = done r (stOf r (ds.take i)) d := stOf_succ hd
      have oki := hsg i (Nat.le_of_lt hi')
      have okj := hsg (i + 1) hi'
      have hyl : ys.length = i + 1 := by rw [Paired.length pz]; simp
      refine ⟨_, rfl, _, rfl, _, rfl, p, S, a, r, stOf r (ds.take i), d, rfl, hR.mono (SameN.of s4), hS, s4 _ _ hda, oki.1, oki.2, fun S1 H5 s5 hS1 => ?_⟩
      rw [← e1] at hS1
      have s45 := s4.trans s5
      refine ⟨_, rfl, .inl ⟨rfl, _, SqL.of (s5 _ _ hL4)⟩, _, rfl, _, rfl, p, S1, r, _, rfl, hR.mono (SameN.of s45), hS1, okj.1, fun v1 H6 s6 hv1 => ?_⟩
      refine ⟨L, ys, v1, rfl, rfl, s6 _ _ (s5 _ _ hL4), Nat.lt_of_le_of_lt (show ys.length ≤ 1001 by omega) (by decide), ?_⟩
      have hL6 : H6 L = some (.lst ys) := s6 _ _ (s5 _ _ hL4)
      have sN : SameN H6 (upd H6 L (.lst (ys ++ [v1]))) := (SameN.refl H6).put hL6
      refine ⟨_, _, S1, _, rfl, sput (s45.trans s6) hLf, hS1.mono ((SameN.of s6).trans sN), upd_same, ?_⟩
      rw [List.range_succ, List.map_append]
      exact (Paired.mapP pz fun _ _ z => z.mono ((SameN.of (s5.trans s6)).trans sN)).snoc (hv1.mono sN)
    · rintro σ H4 ⟨x2, x3, S, ys, rfl, s4, hS, hL4, pz⟩
      rw [hxl] at pz
      exact ⟨_, rfl, k L ys H4 s4 hL4 pz⟩
end
end K14
end
section
set_option Elab.async false
set_option linter.all false
set_option maxRecDepth 100000
/-! telling: seen_of, known_mark, told_person. -/
namespace K14
open PySem L2
/-- an eye: None or a person -/
def eyV : Option Bool → V
  | none => .non
  | some p => .int (pI p)
/-- what an eye sees of a deed -/
def seenB (e : Option Bool) (p : Bool) : Bool := decide (e = some p)
def seenV (e : Option Bool) : Dd → List V
  | .give p m => if seenB e p then [.str "give", .int (pI p), .int m] else [.str "give", .int (pI p)]
  | d => ddV d
theorem eyV_eq (e : Option Bool) (p : Bool) : decide (V.int (pI p) = eyV e) = seenB e p := by
  cases e with
  | none => rfl
  | some q => cases q <;> cases p <;> decide
theorem dcF_it {P : Program} {w : World} {fl : Flv P w} {J : It} {n : Nat} {G : Hp → Prop} {Y : Nat → Hp → V → Hp → Prop} (wk : L2.Walk J n G Y) {g : TG} {tt : TT} {tk tv : TE} {vs : List Nat} {σ : L2.St} {H1 : Hp} {D : Addr} {Qd : Hp → Prop} (Pv : Nat → Hp → Prop) (h0 : Pv 0 (upd H1 D (fl.nil D))) (hG : ∀ i H, i ≤ n → Pv i H → G H)
    (hs : ∀ i x H H', i < n → Pv i H → Y i H x H' → g x (wipe σ vs) H' fun σ2 H2 => wipe σ2 vs = wipe σ vs ∧ tt σ2 H2 fun b H3 =>
      if b = true then tk σ2 H3 fun y H4 => tv σ2 H4 fun z H5 => fl.put H5 D y z (Pv (i + 1)) else Pv (i + 1) H3) (hd : ∀ H, Pv n H → Qd H) :
    ∃ W : Nat → Nat → Hp → Prop, (∃ m, W 0 m (upd H1 D (fl.nil D))) ∧ ∀ i m H, W i m H →
      (J.stop i H ∧ Qd H) ∨ (J.go i H ∧ ∃ Nx : Hp → Prop, (∀ H', Nx H' → ∃ m', m' < m ∧ W (i + 1) m' H') ∧ ∀ x H', J.yld i H x H' → g x (wipe σ vs) H' fun σ2 H2 => wipe σ2 vs = wipe σ vs ∧ tt σ2 H2 fun b H3 =>
        if b = true then tk σ2 H3 fun y H4 => tv σ2 H4 fun z H5 => fl.put H5 D y z Nx else Nx H3) := by
  refine ⟨fun i m H => m = n - i ∧ i ≤ n ∧ Pv i H, ⟨n, by simp, Nat.zero_le _, h0⟩, ?_⟩
  rintro i m H ⟨rfl, hi, p⟩
  have q := hG i H hi p
  by_cases hlt : i < n
  · exact .inr ⟨wk.goes i H hlt q, Pv (i + 1), fun H' p' => ⟨n - (i + 1), by omega, rfl, hlt, p'⟩, fun x H' y => hs i x H H' hlt p (wk.yields i H x H' hlt q y)⟩
  · have e : i = n := by omega
    subst e
    exact .inl ⟨wk.stops H q, hd H p⟩
section
variable {P : Program} {w : World} {K : PySem.W.Frag} {mg : Str → Option Value} {base : Heap} {CR CS : Addr}
def spSeen : Sp := fun vs H Q _ => ∃ (a : Addr) (d : Dd) (e : Option Bool), vs = [.ref a, eyV e] ∧ DdAt H a d ∧ ∀ b H', Same H H' → H' b = some (.tup (seenV e d)) → Q (.ref b) H'
theorem scSeen : FnScope ["deed", "eye"] ["deed", "eye"] (defScope (txt 56)) := ⟨rfl, rfl, rfl, by decide +kernel, rfl, by decide +kernel, by decide +kernel⟩
theorem df_seen (F : FunAt K mg "seen_of" (txt 56) ["deed", "eye"]) : Df P w K mg base "seen_of" ["deed", "eye"] 1 spSeen := by
  refine F.ok scSeen (fun vs H Q E h => ?_) (fun f cdv A outer s H vs Q E hr h => ?_)
  · obtain ⟨a, d, e, rfl, _⟩ := h
    rfl
  · obtain ⟨a, d, e, rfl, hd, k⟩ := h
    refine ⟨_, pss_one (ps_ret (pe_ifExp (PW.pt (pw_or (pt_cmpR op_ne (pe_ix ix_tup (pv 0) pe_int (fun _ _ => rfl)) pe_str (nomark _)) (pw_or1 (pt_cmpR op_eq (pe_ix ix_tup (pv 0) pe_int (fun _ _ => rfl)) (pv 1) (nomark _)))))
      (pv 0) (pe_slice sl_tup (pv 0) po_none (po_some pe_int)))), ?_⟩
    have ht : SqT K H a (ddV d) := SqT.of hd
    cases d with
    | give b m =>
      refine ⟨_, rfl, a, _, _, _, rfl, rfl, ht, rfl, rfl, _, rfl, itF (by decide +kernel) ?_⟩
      refine ⟨_, rfl, a, _, _, _, rfl, rfl, ht, rfl, _, rfl, by cases e <;> rfl, _, rfl, ?_⟩
      rw [eyV_eq]
      unfold seenV at k
      dsimp only at k
      cases hs : seenB e b with
      | true =>
        rw [hs, if_pos rfl] at k
        exact itT rfl ⟨_, rfl, k a H (Same.refl H) hd⟩
      | false =>
        rw [hs, if_neg (by simp)] at k
        refine itF rfl ⟨_, rfl, 2, rfl, a, _, rfl, ht, (by show ¬ (HT.sIx 3 0 none = 0 ∧ HT.sIx 3 3 (some 2) = 3); decide), fun pp hpp => ?_⟩
        exact k pp _ (same_upd hpp) upd_same
    | back b =>
      refine ⟨_, rfl, a, _, _, _, rfl, rfl, ht, rfl, rfl, _, rfl, itT (by decide +kernel) ?_⟩
      exact itT rfl ⟨_, rfl, k a H (Same.refl H) hd⟩
    | strike b =>
      refine ⟨_, rfl, a, _, _, _, rfl, rfl, ht, rfl, rfl, _, rfl, itT (by decide +kernel) ?_⟩
      exact itT rfl ⟨_, rfl, k a H (Same.refl H) hd⟩
    | night =>
      refine ⟨_, rfl, a, _, _, _, rfl, rfl, ht, rfl, rfl, _, rfl, itT (by decide +kernel) ?_⟩
      exact itT rfl ⟨_, rfl, k a H (Same.refl H) hd⟩
end
end K14
end
section
set_option Elab.async false
set_option linter.all false
set_option maxRecDepth 100000
set_option maxHeartbeats 1000000
/-! Dicts of nested keys whose key objects are exact ones. -/
namespace K14
open PySem PySem.Spec PyProof.Rows L2
theorem ORwAt.monoO {H H' : Hp} {v : V} {x : Option Rw} (s : SameO H H') (h : ORwAt H v x) : ORwAt H' v x := by
  cases x with
  | none => exact h
  | some x => exact RwAt.monoO s h
theorem KyAt.monoO {H H' : Hp} {v : V} {S : Sg} (s : SameO H H') (h : KyAt H v S) : KyAt H' v S := by
  obtain ⟨a, r0, r1, kv, rfl, e, w0, w1, q⟩ := h
  exact ⟨a, r0, r1, kv, rfl, s _ _ e rfl, w0.monoO s, w1.monoO s, q.monoO s⟩
/-- .. and each key is a standing's -/
def NDx (P : Program) (w : World) (H : Hp) (d : Addr) (kvs : List (NestedKey × V)) : Prop :=
  ∃ es ep xs, H d = some (RawO d es ep) ∧ es.toList = xs.map (entryOfKey (nestedKind P w)) ∧ NT H kvs xs ∧ (xs.map (·.1)).Nodup ∧ ∀ x ∈ xs, ∃ S, KyAt H (.ref x.2.1) S
theorem NDx.nd {P : Program} {w : World} {H : Hp} {d : Addr} {kvs : List (NestedKey × V)} (h : NDx P w H d kvs) : NDk P w H d kvs := by
  obtain ⟨es, ep, xs, h1, h2, h3, h4, _⟩ := h
  exact ⟨es, ep, xs, h1, h2, h3, h4⟩
theorem NDx.mono {P : Program} {w : World} {H H' : Hp} {d : Addr} {kvs : List (NestedKey × V)} (s : SameN H H') (h : NDx P w H d kvs) : NDx P w H' d kvs := by
  obtain ⟨es, ep, xs, h1, h2, h3, h4, h5⟩ := h
  exact ⟨es, ep, xs, s _ _ h1 (fun _ z => nomatch z), h2, Paired.mapP h3 fun _ _ z => ⟨z.1, z.2.1.mono s, z.2.2⟩, h4, fun x hx => let ⟨S, q⟩ := h5 x hx; ⟨S, q.mono s⟩⟩
theorem ndx_nil {P : Program} {w : World} {H : Hp} {d : Addr} (h : H d = some (RawO d #[] 0)) : NDx P w H d [] := ⟨_, _, [], h, rfl, .nil, List.nodup_nil, fun _ h => by simp at h⟩
def putNx (P : Program) (w : World) (H : Hp) (D : Addr) (y z : V) (K : Hp → Prop) : Prop :=
  ∃ kvs S b, NDx P w H D kvs ∧ y = .ref b ∧ KyAt H y S ∧ kvs.length < sizeLine ∧ ∀ H', (∀ b, b ≠ D → H' b = H b) → NDx P w H' D (putN kvs (kyN S) z) → K H'
theorem NDx.real {P : Program} {w : World} {H : Hp} {h : Heap} {d : Addr} {kvs : List (NestedKey × V)} (ok : HOk P w H h) (n : NDx P w H d kvs) : ∃ es ep xs, H d = some (RawO d es ep) ∧ NT H kvs xs ∧ h.DictOfH (nestedKind P w) d xs ∧ (d == sysModules) = false ∧ xs.length ≤ sizeLine ∧ ∀ x ∈ xs, ∃ S, KyAt H (.ref x.2.1) S := by
  obtain ⟨es, ep, xs, h1, h2, h3, h4, h5⟩ := n
  obtain ⟨⟨o, ho, hc, hd⟩, hs, hz⟩ := raw_of ok h1
  have all : ∀ {l : List (NestedKey × V)} {m : List (NestedKey × Addr × Value)}, NT H l m → ∀ x ∈ m, (nestedKind P w).is h x.1 x.2.1 := by
    intro l m q
    induction q with
    | nil => intro x hx; exact nomatch hx
    | @cons p q ps qs hq t ih =>
      intro x hx
      rcases List.mem_cons.mp hx with e | hx
      · subst e
        obtain ⟨z1, z2, z3, _⟩ := hq
        rw [← z1]
        exact ⟨NIs.real ok _ _ _ z2 rfl, z3⟩
      · exact ih x hx
  refine ⟨es, ep, xs, h1, h3, ⟨o, es, ep, ho, hc, hd, h2, all h3, h4⟩, hs, ?_, h5⟩
  have : es.toList.length = xs.length := by rw [h2, List.length_map]
  simp at this
  omega
section
variable {X : Cx} {pins : List (Addr × Obj)} {σ : L2.St} {H : Hp} {s : Shared} {A : Around} {E : Value → Shared → Prop} {D : Addr} {y z : V} {u r : Value}
theorem nx_after {kvs : List (NestedKey × V)} {xs : List (NestedKey × Addr × Value)} {es0 : Array DictEntry} {ep0 : Nat} {S : Sg} {b : Addr} {K : Hp → Prop} {h' : Heap} {t' : Nat} (I : Inv X pins σ H s) (e0 : H D = some (RawO D es0 ep0)) (rel : NT H kvs xs) (hX : ∀ x ∈ xs, ∃ S, KyAt H (.ref x.2.1) S) (hk : KyAt H (.ref b) S) (hl : kvs.length < sizeLine) (rz : RelV z r)
    (dd : h'.DictOfH (nestedKind X.prog X.w) D (storedH xs (kyN S) b r)) (hs : Heap.SameBut D s.heap h') (hK : ∀ H', (∀ b, b ≠ D → H' b = H b) → NDx X.prog X.w H' D (putN kvs (kyN S) z) → K H') : ∃ H', Inv X pins σ H' { s with heap := h', toks := t' } ∧ K H' := by
  have hsys := (raw_of I.hok e0).2.1
  have hd : (kyN S).depth ≤ 8 := Nat.le_trans (kyN_depth S) (by decide)
  have rel2 := rel.put hk.nis hd rz
  have hz : (storedH xs (kyN S) b r).length ≤ sizeLine := by
    rw [← Paired.length rel2]
    have := putN_len kvs (kyN S) z
    omega
  obtain ⟨es, ep, new, he, hn⟩ := nested_stay (H := H) (kvs := kvs) hsys hz dd
  have hob : ∃ q, h'.get? D = some q := let ⟨q, _, _, hq, _⟩ := dd; ⟨q, hq⟩
  have so : SameO H (upd H D (RawO D es ep)) := fun c o e f => by
    rw [upd_ne (fun q => by rw [q, e0] at e; cases e; cases f)]
    exact e
  refine ⟨_, d_write I (by rw [e0]; exact True.intro) hs hob new, hK _ (fun b hb => upd_ne hb) ⟨es, ep, _, upd_same, he, ?_, hn, fun x hx => ?_⟩⟩
  · refine Paired.mapP rel2 fun p q z => ⟨z.1, NIs.keep (fun a ys e => ?_) _ _ z.2.1, z.2.2⟩
    rw [upd_ne (fun q => by rw [q, e0] at e; cases e)]
    exact e
  · rcases mem_storedH_key hx with ⟨y, hy, _, e2⟩ | ⟨_, e2⟩
    · obtain ⟨T, q⟩ := hX y hy
      exact ⟨T, by rw [e2]; exact q.monoO so⟩
    · exact ⟨S, by rw [e2]; exact hk.monoO so⟩
theorem nx_setItem {K : Hp → Prop} {Q : Unit → Shared → Prop} (hu : (nestedKind X.prog X.w).room A.in1) (I : Inv X pins σ H s) (g : putNx X.prog X.w H D y z K) (ry : RelV y u) (rz : RelV z r) (h : ∀ H' s', Inv X pins σ H' s' → K H' → Q () s') :
    wpAny (model X.prog X.w) A (setItem (.ref D) u r) Q E s := by
  obtain ⟨kvs, S, b, n, rfl, hk, hl, hK⟩ := g
  cases (show u = Value.ref b from ry)
  obtain ⟨es, ep, xs, e0, rel, dd, hs, hz, hX⟩ := n.real I.hok
  refine wpAny_setItem_heap (hsz := hz) hu ⟨NIs.real I.hok _ _ _ hk.nis rfl, Nat.le_trans (kyN_depth S) (by decide)⟩ dd fun h' dd' sb => ?_
  obtain ⟨H', I', k'⟩ := nx_after I e0 rel hX hk hl rz dd' sb hK
  exact h H' _ I' k'
end
section
variable {X : Cx} {o i e value : Expr} {pos pos' : Pos} {td ty tv : TE}
/-- d[y] = v -/
def sNPutX (P : Program) (w : World) (td ty tv : TE) : TS := fun D σ H => tv σ H fun v H1 => td σ H1 fun x H2 => ty σ H2 fun y H3 => ∃ a, x = .ref a ∧ putNx P w H3 a y v fun H4 => D.nx σ H4
theorem ps_nputX {k : Nat} (hr : Room k X.A) (ho : PE X o td) (hi : PE X i ty) (hv : PE X value tv) (hs : swapsWith value (some (.Subscript o i pos')) pos.line X.env = pure false) :
    PS X (.Assign [.Subscript o i pos'] value pos) (sNPutX X.prog X.w td ty tv) := by
  refine ⟨fun pins s σ H D I h => ?_⟩
  refine wpAny_Assign_Subscript (thn (hv.run pins s σ H _ I h) fun r s1 ⟨v, H1, I1, rv, q1⟩ => thn (ho.run pins s1 σ H1 _ I1 q1) fun u s2 ⟨x, H2, I2, rx, q2⟩ => thn (hi.run pins s2 σ H2 _ I2 q2) fun iv s3 ⟨y, H3, I3, ry, a, ex, g⟩ => ?_) hs
  subst ex
  obtain rfl : u = Value.ref a := rx
  exact nx_setItem (nd_room hr) I3 g ry rv fun H' s4 I4 k4 => ⟨σ, H', I4, k4⟩
/-- {k: v} -/
def tNOneX (P : Program) (w : World) (tk tv : TE) : TE := fun σ H Q => ∀ p, H p = none → tk σ (upd H p (RawO p #[] 0)) fun y H1 => tv σ H1 fun z H2 => ∃ S b, H2 p = some (RawO p #[] 0) ∧ y = .ref b ∧ KyAt H2 y S ∧
  ∀ H', (∀ c, c ≠ p → H' c = H2 c) → NDx P w H' p [(kyN S, z)] → Q (.ref p) H'
def OneQX (P : Program) (w : World) (p : Addr) (Q : VK) : List (V × V) → Hp → Prop
  | [(y, z)], H2 => ∃ S b, H2 p = some (RawO p #[] 0) ∧ y = .ref b ∧ KyAt H2 y S ∧ ∀ H', (∀ c, c ≠ p → H' c = H2 c) → NDx P w H' p [(kyN S, z)] → Q (.ref p) H'
  | _, _ => False
theorem pe_noneX {k : Nat} {tk : TE} (hr : Room k X.A) (hk : PE X i tk) (hv : PE X value tv) : PE X (.Dict [some i] [value] pos) (tNOneX X.prog X.w tk tv) := by
  refine ⟨fun pins s σ H Q I q => ?_⟩
  have hn := I.hok.fresh (Nat.le_refl s.heap.objs.size)
  have I1 := I.laid (a := s.heap.objs.size) (o := RawO s.heap.objs.size #[] 0) (h' := s.heap.push { cls := .type "dict", data := .dict #[] }) (t' := s.toks) (fun _ _ q => Heap.get?_push_of_some _ q) (Nat.le_refl _) (raw_empty _ s.heap I.big)
  have pp := pps_cons (pos := pos) hk hv pps_nil
  rw [arm_eval_Dict, show (evalEachOpt [some i] X.env).zip ((evalEach [value] X.env).map fun v => do let x ← v; standAt pos; pure x) = (pairTrees [some i] [value] X.env pos).map fun p => (some p.1, p.2) from rfl, dictDisplay_pairs _ (by intro z; cases z) (by show 1 < 17; decide)]
  refine wpAny_bind (wpAny_standAt (wpAny_bind (wpAny_subDictH (knd := nestedKind X.prog X.w) (Q := fun d s' => wpAny (model X.prog X.w) X.A (pure (Value.ref d)) (EP X pins σ Q) X.xe s') (by have := hr.un; show X.A.units + 8 < cLine; omega) (by show 1 ≤ 15; decide) ?_)))
  refine thn (pp.run pins _ σ _ (OneQX X.prog X.w s.heap.objs.size Q) I1 (q _ hn)) fun vs s1 ⟨ps, H2, I2, rel, hq⟩ => ?_
  cases rel with
  | nil => exact hq.elim
  | @cons a b as bs r t =>
    cases t with
    | cons r2 t2 => exact hq.elim
    | nil =>
      obtain ⟨y, z⟩ := a
      obtain ⟨u, v⟩ := b
      obtain ⟨S, bb, h0, ey, hk2, hK⟩ := hq
      obtain ⟨ry, rz⟩ := r
      dsimp only at ey ry rz hk2
      subst ey
      cases (show u = Value.ref bb from ry)
      have n0 : NDx X.prog X.w H2 s.heap.objs.size [] := ndx_nil h0
      obtain ⟨es, ep, xs, e0, rel0, dd, hs, hz, hX⟩ := n0.real I2.hok
      cases rel0
      refine ⟨[(kyN S, bb, v)], ⟨rfl, rfl, ⟨NIs.real I2.hok _ _ _ hk2.nis rfl, Nat.le_trans (kyN_depth S) (by decide)⟩, trivial⟩, dd, fun h' tk' hkd sb => wpAny_pure ?_⟩
      have dd' : h'.DictOfH (nestedKind X.prog X.w) s.heap.objs.size (storedH [] (kyN S) bb v) := hkd
      obtain ⟨H', I', k'⟩ := nx_after (t' := tk') (K := fun H' => Q (.ref s.heap.objs.size) H') I2 e0 (kvs := []) .nil (fun _ h => by simp at h) hk2 (by decide) rz dd' sb (fun H' e1 e2 => hK H' e1 e2)
      exact ⟨.ref s.heap.objs.size, H', I', rfl, k'⟩
end
theorem NDx.keys {P : Program} {w : World} {H : Hp} {d : Addr} {kvs : List (NestedKey × V)} (n : NDx P w H d kvs) : ∃ es ep ks, H d = some (RawO d es ep) ∧ KsOf ks es ∧ Paired (fun (v : V) (kv : NestedKey × V) => NIs H kv.1 v ∧ ∃ S, KyAt H v S) ks kvs := by
  obtain ⟨es, ep, xs, h1, h2, h3, h4, h5⟩ := n
  refine ⟨es, ep, xs.map fun x => .ref x.2.1, h1, ?_, ?_⟩
  · unfold KsOf
    rw [h2]
    clear h1 h2 h3 h4 h5
    induction xs with
    | nil => exact .nil
    | cons x r ih => exact .cons rfl ih
  · clear h1 h2 h4
    induction h3 with
    | nil => exact .nil
    | cons r _ ih => exact .cons ⟨r.2.1, h5 _ List.mem_cons_self⟩ (ih fun x hx => h5 x (List.mem_cons_of_mem _ hx))
end K14
end
section
set_option Elab.async false
set_option linter.all false
set_option maxRecDepth 100000
/-! known_mark, told_person. -/
namespace K14
open PySem L2
def lfO : Option Int → Leaf
  | none => .none
  | some m => .num m
theorem lfO_v (o : Option Int) : oI o = lV (lfO o) := by cases o <;> rfl
theorem lfO_inj {a b : Option Int} (h : lfO a = lfO b) : a = b := by
  cases a <;> cases b <;> simp [lfO] at h
  · rfl
  · rw [h]
/-- what an eye knows: standings by their keys -/
def KnAt (P : Program) (w : World) (CS : Addr) (H : Hp) (d : Addr) (Ss : List Sg) : Prop :=
  ∃ kvs, NDx P w H d kvs ∧ Paired (fun (kv : NestedKey × V) (S : Sg) => kv.1 = kyN S ∧ ∃ q, kv.2 = .ref q ∧ SgAt CS H q S) kvs Ss
theorem KnAt.mono {P : Program} {w : World} {CS : Addr} {H H' : Hp} {d : Addr} {Ss : List Sg} (s : SameN H H') (h : KnAt P w CS H d Ss) : KnAt P w CS H' d Ss := by
  obtain ⟨kvs, n, p⟩ := h
  exact ⟨kvs, n.mono s, Paired.mapP p fun _ _ ⟨e, q, e2, z⟩ => ⟨e, q, e2, z.mono s⟩⟩
/-- the marks don't tell one mark -/
def tellFree (ms : List (Option Int)) : Prop := (∀ x ∈ ms, x = none) ∨ ∃ x ∈ ms, ∃ y ∈ ms, x ≠ y
/-- what stands behind the first n marks -/
def LfI (ms : List (Option Int)) (n : Nat) (ks : List Leaf) : Prop := ∀ k, k ∈ ks ↔ ∃ o ∈ ms.take n, lfO o = k
theorem LfI.step {ms : List (Option Int)} {n : Nat} {ks : List Leaf} {o : Option Int} (h : LfI ms n ks) (e : ms[n]? = some o) : LfI ms (n + 1) (addL ks (lfO o)) := by
  intro k
  have t : ms.take (n + 1) = ms.take n ++ [o] := by rw [List.take_add_one, e]; rfl
  rw [t]
  have hm : k ∈ addL ks (lfO o) ↔ k ∈ ks ∨ k = lfO o := by
    unfold addL
    split
    · rename_i hk
      exact ⟨.inl, fun q => q.elim id fun q => q ▸ hk⟩
    · rw [List.mem_append, List.mem_singleton]
  rw [hm, h k]
  constructor
  · rintro (⟨o2, h1, h2⟩ | h1)
    · exact ⟨o2, List.mem_append_left _ h1, h2⟩
    · exact ⟨o, List.mem_append_right _ (List.mem_singleton.mpr rfl), h1.symm⟩
  · rintro ⟨o2, h1, h2⟩
    rcases List.mem_append.mp h1 with h1 | h1
    · exact .inl ⟨o2, h1, h2⟩
    · rw [List.mem_singleton.mp h1] at h2
      exact .inr h2.symm
theorem LfI.end_ {ms : List (Option Int)} {ks : List Leaf} (h : LfI ms ms.length ks) (hn : ks.Nodup) (ht : tellFree ms) : ks.length ≠ 1 ∨ ks = [.none] := by
  unfold LfI at h
  rw [List.take_length] at h
  rcases ht with ht | ⟨x, hx, y, hy, ne⟩
  · match ks, hn, h with
    | [], _, _ => exact .inl (by simp)
    | [k], _, h =>
      obtain ⟨o, ho, e⟩ := (h k).mp (List.mem_singleton.mpr rfl)
      rw [ht o ho] at e
      exact .inr (by rw [← e]; rfl)
    | _ :: _ :: _, _, _ => exact .inl (by simp)
  · refine .inl fun hl => ?_
    match ks, hl, h with
    | [k], _, h =>
      have h1 := (h (lfO x)).mpr ⟨x, hx, rfl⟩
      have h2 := (h (lfO y)).mpr ⟨y, hy, rfl⟩
      rw [List.mem_singleton] at h1 h2
      exact ne (lfO_inj (h1.trans h2.symm))
section
variable {P : Program} {w : World} {K : PySem.W.Frag} {mg : Str → Option Value} {base : Heap} {CR CS : Addr}
def spKnownMark (P : Program) (w : World) (CS : Addr) : Sp := fun vs H Q _ => ∃ (d : Addr) (p : Bool) (Ss : List Sg), vs = [.ref d, .int (pI p)] ∧ KnAt P w CS H d Ss ∧ Ss.length ≤ 10000 ∧ tellFree (Ss.map fun S => markAt S.rows p) ∧ ∀ H', Same H H' → Q .non H'
theorem scKnownMark : FnScope ["known", "person", "marks", "standing"] ["known", "person"] (defScope (txt 57)) := ⟨rfl, rfl, rfl, by decide +kernel, rfl, by decide +kernel, by decide +kernel⟩
theorem df_knownmark (T : Txt K w mg CR CS) (F : FunAt K mg "known_mark" (txt 57) ["known", "person"]) (DM : Df P w K mg base "mark_of" ["standing", "person"] 1 (spMarkOf CS)) : Df P w K mg base "known_mark" ["known", "person"] 2 (spKnownMark P w CS) := by
  refine F.ok scKnownMark (fun vs H Q E h => ?_) (fun f cdv A outer s H vs Q E hr h => ?_)
  · obtain ⟨d, p, Ss, rfl, _⟩ := h
    rfl
  · obtain ⟨d, p, Ss, rfl, hK, hl, ht, k⟩ := h
    have hu := hu_of hr
    refine ⟨_, pss_cons (ps_setDcF (i := 2) (fl := flL P w) (own := [("standing", 3)]) (g := gName 3) (tt := tYes) (tk := tCall (spMarkOf CS) [] E0 (tCons (tVar 3) (tCons (tVar 1) tNil))) (tv := tC (.bl true)) rfl scKnownMark.nd rfl rfl (sw_trueD rfl rfl rfl (by decide +kernel)) (pi_rv (pv 0)) trivial
        (blkOk_by (N := ["known", "person", "marks", "standing"]) (sc := defScope (txt 57)) (by decide +kernel))
        (fun _ _ _ _ _ => pg_name (i := 3) scKnownMark.nd rfl (Or.inl rfl)) (fun _ _ _ _ _ => pts_nil) (fun _ _ _ _ _ => pe_df DM hr rfl (pa_cons (pv 3) (pa_cons (pv 1) pa_nil))) (fun _ _ _ _ _ => pe_bl))
      (pss_one (ps_ret (pe_ifExp (pt_cmpR op_eq (pe_callB call_len_ld (by rfl) T.len PySem.boot_len (pa_cons (pv 2) pa_nil)) pe_int (nomark _)) (pe_ix ix_list (pe_callTy (call_list_ld rfl) (by rfl) T.list (by decide +kernel) (pa_cons (pv 2) pa_nil)) pe_int (fun _ _ => rfl)) pe_non))), ?_⟩
    obtain ⟨kvs, nk, pk⟩ := hK
    obtain ⟨es, ep, hes, hvs⟩ := nk.nd.vals
    have hkl : kvs.length = Ss.length := Paired.length pk
    refine ⟨_, rfl, d, es, ep, _, rfl, hes, hvs, fun D hD => ?_⟩
    have sD : Same H (upd H D (RawO D #[] 0)) := same_upd hD
    refine dcF_it (fl := flL P w) (walk_rv (d := d) (ep := ep) hvs) (fun i H1 => Same H H1 ∧ ∃ ks, LDk P w H1 D ks ∧ ks.length ≤ i ∧ LfI (Ss.map fun S => markAt S.rows p) i ks) ?_ (fun i H1 _ h => h.1 _ _ hes) ?_ ?_
    · exact ⟨sD, [], ld_nil upd_same, Nat.le_refl _, fun k => by simp⟩
    · rintro i x H1 H1' hi ⟨s1, ks, hks, hkz, li⟩ ⟨rfl, hx⟩
      rw [List.length_map] at hi
      have hx : (kvs.map (·.2))[i]? = some x := hx
      rw [List.getElem?_map] at hx
      obtain ⟨kv, hkv, ex⟩ := Option.map_eq_some_iff.mp hx
      obtain ⟨S, hS, ek, q, eq, hq⟩ := pairedGetZ pk hkv
      have exq : x = .ref q := by rw [← ex, eq]
      subst exq
      have hm : (Ss.map fun S => markAt S.rows p)[i]? = some (markAt S.rows p) := by rw [List.getElem?_map, hS]; rfl
      refine ⟨rfl, ?_⟩
      unfold tYes
      dsimp only
      rw [if_pos rfl]
      refine ⟨_, rfl, _, rfl, q, p, S, rfl, hq.mono (SameN.of s1), ?_⟩
      refine ⟨ks, lfO (markAt S.rows p), hks, lfO_v _, rfl, Nat.lt_of_le_of_lt (show ks.length ≤ 10000 by omega) (by decide), fun H2 h2 n2 => ?_⟩
      refine ⟨fun b o e => ?_, _, n2, Nat.le_trans (addL_len _ _) (by omega), li.step hm⟩
      rw [h2 b (ne_of_none e hD)]
      exact s1 _ _ e
    · rintro H1 ⟨s1, ks, hks, hkz, li⟩
      rw [List.length_map] at li hkz
      rw [hkl, ← List.length_map (f := fun S => markAt S.rows p)] at li
      have hnd : ks.Nodup := by obtain ⟨_, _, _, _, _, h⟩ := hks; exact h
      have he := li.end_ hnd ht
      refine ⟨_, rfl, D, ks, rfl, hks, rfl, _, rfl, ?_⟩
      rcases he with he | he
      · refine itF (decide_eq_false fun z => he ?_) ?_
        · injection z with z; omega
        · exact k H1 s1
      · subst he
        refine itT rfl ?_
        obtain ⟨es2, ep2, h1, h2⟩ := hks.none
        refine ⟨_, rfl, D, es2, ep2, _, rfl, h1, h2, fun l hl2 => ?_⟩
        refine ⟨l, _, _, _, rfl, rfl, SqL.of upd_same, rfl, ?_⟩
        exact k _ (s1.trans (same_upd hl2))
/-! ### told_person -/
def spTold (P : Program) (w : World) (CS : Addr) : Sp := fun vs H Q _ => ∃ (d : Addr) (e : Option Bool) (Ss : List Sg), vs = [.ref d, eyV e] ∧ KnAt P w CS H d Ss ∧ Ss.length ≤ 10000 ∧ (∀ p, e ≠ some p → tellFree (Ss.map fun S => markAt S.rows p)) ∧ ∀ H', Same H H' → Q .non H'
theorem scTold : FnScope ["known", "eye", "person"] ["known", "eye"] (defScope (txt 59)) := ⟨rfl, rfl, rfl, by decide +kernel, rfl, by decide +kernel, by decide +kernel⟩
theorem df_told (T2 : Txt2 K w mg) (F : FunAt K mg "told_person" (txt 59) ["known", "eye"]) (DK : Df P w K mg base "known_mark" ["known", "person"] 2 (spKnownMark P w CS)) : Df P w K mg base "told_person" ["known", "eye"] 3 (spTold P w CS) := by
  refine F.ok scTold (fun vs H Q E h => ?_) (fun f cdv A outer s H vs Q E hr h => ?_)
  · obtain ⟨d, e, Ss, rfl, _⟩ := h
    rfl
  · obtain ⟨d, e, Ss, rfl, hK, hl, ht, k⟩ := h
    obtain ⟨tp, mp, hp⟩ := T2.persons
    refine ⟨_, pss_cons (ps_for PassesOwn.never rfl (pi_tup (pe_glob (v := V.ref tp) (by rfl) mp rfl)) (pg_name (i := 2) scTold.nd rfl (Or.inl rfl))
        (pss_one (ps_if (PW.pt (pw_and (pt_cmpR op_ne (pv 2) (pv 1) (nomark _)) (pw_and1 (pt_cmpR op_notN (pe_df DK hr rfl (pa_cons (pv 0) (pa_cons (pv 2) pa_nil))) pe_non (nomark _))))) (pss_one (ps_ret (pv 2))) pss_nil)))
      (pss_one (ps_ret pe_non)), ?_⟩
    refine ⟨tp, rfl, ⟨_, hp _⟩, ?_⟩
    refine for_it (walk_tup (K := K) (a := tp) (xs := [.int 0, .int 1])) (fun i σ H1 => (∃ x2, σ = [some (.ref d), some (eyV e), x2]) ∧ Same H H1) ⟨⟨_, rfl⟩, Same.refl H⟩ (fun i σ H1 _ h => hp H1) ?_ ?_
    · rintro i x σ H1 H1' hi ⟨⟨x2, rfl⟩, s1⟩ ⟨rfl, hx⟩
      have hb : ∃ b, x = .int (pI b) := by
        match i, hx with
        | 0, hx => cases hx; exact ⟨false, rfl⟩
        | 1, hx => cases hx; exact ⟨true, rfl⟩
      obtain ⟨b, rfl⟩ := hb
      refine ⟨_, rfl, _, rfl, by cases e <;> rfl, _, rfl, ?_⟩
      rw [eyV_eq]
      cases hs : seenB e b with
      | true => exact itF rfl (itF rfl ⟨⟨_, rfl⟩, s1⟩)
      | false =>
        refine itT rfl ?_
        have hne : e ≠ some b := by simpa [seenB] using hs
        refine ⟨_, rfl, _, rfl, d, b, Ss, rfl, hK.mono (SameN.of s1), hl, ht b hne, fun H2 s2 => ⟨rfl, _, rfl, itF rfl ⟨⟨_, rfl⟩, s1.trans s2⟩⟩⟩
    · rintro σ H1 ⟨⟨x2, rfl⟩, s1⟩
      exact k H1 s1
end
end K14
end
section
set_option Elab.async false
set_option linter.all false
set_option maxRecDepth 100000
/-! behind_seen. -/
namespace K14
open PySem L2
def putS (Fs : List Sg) (S : Sg) : List Sg := if Fs.any (fun T => decide (kyN T = kyN S)) then Fs.map (fun T => if kyN T = kyN S then S else T) else Fs ++ [S]
theorem putS_len (Fs : List Sg) (S : Sg) : (putS Fs S).length ≤ Fs.length + 1 := by
  unfold putS
  split <;> simp
theorem putS_mem {Fs : List Sg} {S T : Sg} (h : T ∈ putS Fs S) : T = S ∨ T ∈ Fs := by
  unfold putS at h
  split at h
  · obtain ⟨U, hU, e⟩ := List.mem_map.mp h
    split at e
    · exact .inl e.symm
    · exact .inr (e ▸ hU)
  · rcases List.mem_append.mp h with h | h
    · exact .inr h
    · exact .inl (List.mem_singleton.mp h)
theorem putS_new (Fs : List Sg) (S : Sg) : ∃ T ∈ putS Fs S, kyN T = kyN S := by
  unfold putS
  split
  · rename_i h
    obtain ⟨T, hT, e⟩ := List.any_eq_true.mp h
    exact ⟨S, List.mem_map.mpr ⟨T, hT, if_pos (of_decide_eq_true e)⟩, rfl⟩
  · exact ⟨S, List.mem_append_right _ (List.mem_singleton.mpr rfl), rfl⟩
theorem putS_old {Fs : List Sg} {S T : Sg} (h : T ∈ Fs) : ∃ U ∈ putS Fs S, kyN U = kyN T := by
  unfold putS
  split
  · by_cases e : kyN T = kyN S
    · exact ⟨S, List.mem_map.mpr ⟨T, h, if_pos e⟩, e.symm⟩
    · exact ⟨T, List.mem_map.mpr ⟨T, h, if_neg e⟩, rfl⟩
  · exact ⟨T, List.mem_append_left _ h, rfl⟩
def KnR (CS : Addr) (H : Hp) (kv : NestedKey × V) (S : Sg) : Prop := kv.1 = kyN S ∧ ∃ q, kv.2 = .ref q ∧ SgAt CS H q S
theorem kn_any {CS : Addr} {H : Hp} {k : NestedKey} : ∀ {kvs : List (NestedKey × V)} {Fs : List Sg}, Paired (KnR CS H) kvs Fs → (valN kvs k).isSome = Fs.any fun T => decide (kyN T = k)
  | _, _, .nil => rfl
  | kv :: kvs, S :: Fs, .cons r t => by
    have ih := kn_any (k := k) t
    unfold valN at ih ⊢
    rw [Option.isSome_map] at ih ⊢
    rw [List.any_cons, ← ih, List.find?_cons]
    by_cases e : kv.1 = k
    · rw [decide_eq_true e, decide_eq_true (r.1 ▸ e)]; rfl
    · rw [decide_eq_false e, decide_eq_false (fun z => e (r.1.trans z))]; simp
theorem kn_put {CS : Addr} {H : Hp} {q : Addr} {S : Sg} {kvs : List (NestedKey × V)} {Fs : List Sg} (p : Paired (KnR CS H) kvs Fs) (hq : SgAt CS H q S) : Paired (KnR CS H) (putN kvs (kyN S) (.ref q)) (putS Fs S) := by
  unfold putN putS
  rw [kn_any p]
  split
  · rename_i hz
    clear hz
    induction p with
    | nil => exact .nil
    | @cons a b as bs r t ih =>
      refine .cons ?_ ih
      show KnR CS H (if a.1 = kyN S then (a.1, V.ref q) else a) (if kyN b = kyN S then S else b)
      by_cases e : kyN b = kyN S
      · rw [if_pos (r.1.trans e), if_pos e]
        exact ⟨r.1.trans e, q, rfl, hq⟩
      · rw [if_neg (fun z => e (r.1.symm.trans z)), if_neg e]
        exact r
  · exact p.snoc ⟨rfl, q, rfl, hq⟩
/-- what is found so far: i whole standings, j deeds of the next -/
structure BI (r : Ru) (shown : Option (Int × Int)) (ds : List Dd) (Ss : List Sg) (i j : Nat) (Fs : List Sg) : Prop where
  from_ : ∀ T ∈ Fs, ∃ S ∈ Ss, ∃ d ∈ ds, T = done r S d ∧ shownBy r T = shown
  old : ∀ i', i' < i → ∀ S d, Ss[i']? = some S → d ∈ ds → shownBy r (done r S d) = shown → ∃ T ∈ Fs, kyN T = kyN (done r S d)
  now : ∀ j', j' < j → ∀ S d, Ss[i]? = some S → ds[j']? = some d → shownBy r (done r S d) = shown → ∃ T ∈ Fs, kyN T = kyN (done r S d)
  len : Fs.length ≤ i * ds.length + j
theorem BI.next {r : Ru} {shown : Option (Int × Int)} {ds : List Dd} {Ss : List Sg} {i : Nat} {Fs : List Sg} (h : BI r shown ds Ss i ds.length Fs) : BI r shown ds Ss (i + 1) 0 Fs := by
  refine ⟨h.from_, fun i' hi S d hS hd hs => ?_, fun j' hj => absurd hj (Nat.not_lt_zero _), by have := h.len; rw [Nat.add_mul]; omega⟩
  by_cases c : i' = i
  · subst c
    obtain ⟨j', hj⟩ := List.getElem?_of_mem hd
    exact h.now j' (List.getElem?_eq_some_iff.mp hj).1 S d hS hj hs
  · exact h.old i' (by omega) S d hS hd hs
theorem BI.skip {r : Ru} {shown : Option (Int × Int)} {ds : List Dd} {Ss : List Sg} {i j : Nat} {Fs : List Sg} {S : Sg} {d : Dd} (h : BI r shown ds Ss i j Fs) (hS : Ss[i]? = some S) (hd : ds[j]? = some d) (hs : shownBy r (done r S d) ≠ shown) : BI r shown ds Ss i (j + 1) Fs := by
  refine ⟨h.from_, h.old, fun j' hj S' d' hS' hd' hs' => ?_, by have := h.len; omega⟩
  by_cases c : j' = j
  · subst c
    rw [hS] at hS'; rw [hd] at hd'
    cases hS'; cases hd'
    exact absurd hs' hs
  · exact h.now j' (by omega) S' d' hS' hd' hs'
theorem BI.put {r : Ru} {shown : Option (Int × Int)} {ds : List Dd} {Ss : List Sg} {i j : Nat} {Fs : List Sg} {S : Sg} {d : Dd} (h : BI r shown ds Ss i j Fs) (hS : Ss[i]? = some S) (hd : ds[j]? = some d) (hs : shownBy r (done r S d) = shown) : BI r shown ds Ss i (j + 1) (putS Fs (done r S d)) := by
  refine ⟨fun T hT => ?_, fun i' hi S' d' hS' hd' hs' => ?_, fun j' hj S' d' hS' hd' hs' => ?_, by have := h.len; have := putS_len Fs (done r S d); omega⟩
  · rcases putS_mem hT with e | hT
    · exact ⟨S, List.mem_of_getElem? hS, d, List.mem_of_getElem? hd, e, by rw [e]; exact hs⟩
    · exact h.from_ T hT
  · obtain ⟨T, hT, e⟩ := h.old i' hi S' d' hS' hd' hs'
    obtain ⟨U, hU, e2⟩ := putS_old (S := done r S d) hT
    exact ⟨U, hU, e2.trans e⟩
  · by_cases c : j' = j
    · subst c
      rw [hS] at hS'; rw [hd] at hd'
      cases hS'; cases hd'
      exact putS_new _ _
    · obtain ⟨T, hT, e⟩ := h.now j' (by omega) S' d' hS' hd' hs'
      obtain ⟨U, hU, e2⟩ := putS_old (S := done r S d) hT
      exact ⟨U, hU, e2.trans e⟩
section
variable {P : Program} {w : World} {K : PySem.W.Frag} {mg : Str → Option Value} {base : Heap} {CR CS : Addr}
def spBSeen (P : Program) (w : World) (CR CS : Addr) : Sp := fun vs H Q _ => ∃ (p d l : Addr) (sv : V) (r : Ru) (Ss : List Sg) (ys : List V) (ds : List Dd) (shown : Option (Int × Int)), vs = [.ref p, .ref d, .ref l, sv] ∧ RuleAt CR H p r ∧ KnAt P w CS H d Ss ∧
  H l = some (.lst ys) ∧ Paired (DdV H) ys ds ∧ NumAt H sv shown ∧ (∀ S ∈ Ss, SgOk S ∧ nd2 S.rows = true) ∧ (∀ S ∈ Ss, ∀ e ∈ ds, SgOk (done r S e)) ∧ Ss.length * ds.length ≤ 10000 ∧
  ∀ f Fs H', H f = none → Same H H' → KnAt P w CS H' f Fs → BI r shown ds Ss Ss.length 0 Fs → Q (.ref f) H'
theorem scBSeen : FnScope ["rule", "known", "deeds", "shown", "found", "standing", "deed", "later"] ["rule", "known", "deeds", "shown"] (defScope (txt 58)) := ⟨rfl, rfl, rfl, by decide +kernel, rfl, by decide +kernel, by decide +kernel⟩
theorem df_bseen (F : FunAt K mg "behind_seen" (txt 58) ["rule", "known", "deeds", "shown"]) (DO : Df P w K mg base "done" ["rule", "standing", "deed"] 7 (spDone CR CS)) (DS : Df P w K mg base "shown_by" ["rule", "standing"] 6 (spShown CR CS))
    (DK : Df P w K mg base "key_of" ["standing"] 2 (spKeyX CS)) : Df P w K mg base "behind_seen" ["rule", "known", "deeds", "shown"] 8 (spBSeen P w CR CS) := by
  refine F.ok scBSeen (fun vs H Q E h => ?_) (fun f cdv A outer s H vs Q E hr h => ?_)
  · obtain ⟨p, d, l, sv, r, Ss, ys, ds, shown, rfl, _⟩ := h
    rfl
  · obtain ⟨p, d, l, sv, r, Ss, ys, ds, shown, rfl, hR, hK, hl, pd, hsv, hS2, hS3, hlen, k⟩ := h
    refine ⟨_, pss_cons (ps_set (i := 4) scBSeen.nd rfl (Or.inl rfl) pe_rnew)
      (pss_cons (ps_for PassesOwn.never rfl (pi_rv (pv 1)) (pg_name (i := 5) scBSeen.nd rfl (Or.inl rfl))
        (pss_one (ps_for PassesOwn.never rfl (pi_list (pv 2)) (pg_name (i := 6) scBSeen.nd rfl (Or.inl rfl))
          (pss_cons (ps_set (i := 7) scBSeen.nd rfl (Or.inl rfl) (pe_df DO hr rfl (pa_cons (pv 0) (pa_cons (pv 5) (pa_cons (pv 6) pa_nil)))))
          (pss_one (ps_if (pt_cmpR (op_eqD hr.units) (pe_df DS (hr.mono (by decide)) rfl (pa_cons (pv 0) (pa_cons (pv 7) pa_nil))) (pv 3) (nomark _))
            (pss_one (ps_nputX hr (pv 4) (pe_df DK (hr.mono (by decide)) rfl (pa_cons (pv 7) pa_nil)) (pv 7) rfl)) pss_nil))))))
      (pss_one (ps_ret (pv 4)))), ?_⟩
    obtain ⟨kvs, nk, pk⟩ := id hK
    obtain ⟨es, ep, hes, hvs⟩ := nk.nd.vals
    have hkl : kvs.length = Ss.length := Paired.length pk
    have hyl : ys.length = ds.length := Paired.length pd
    refine fun D hD => ?_
    have sD : Same H (upd H D (RawO D #[] 0)) := same_upd hD
    refine ⟨_, rfl, d, es, ep, _, rfl, sD _ _ hes, hvs, ?_⟩
    refine for_it (walk_rv (d := d) (ep := ep) hvs) (fun i σ H1 => (∃ x5 x6 x7, σ = [some (.ref p), some (.ref d), some (.ref l), some sv, some (.ref D), x5, x6, x7]) ∧ Same H H1 ∧ ∃ Fs, KnAt P w CS H1 D Fs ∧ BI r shown ds Ss i 0 Fs) ?_ (fun i σ H1 _ h => h.2.1 _ _ hes) ?_ ?_
    · exact ⟨⟨_, _, _, rfl⟩, sD, [], ⟨[], ndx_nil upd_same, .nil⟩, ⟨fun _ h => by simp at h, fun _ h => absurd h (Nat.not_lt_zero _), fun _ h => absurd h (Nat.not_lt_zero _), by simp⟩⟩
    · rintro i x σ H1 H1' hi ⟨⟨x5, x6, x7, rfl⟩, s1, Fs, hF, bi⟩ ⟨rfl, hx⟩
      rw [List.length_map] at hi
      have hx : (kvs.map (·.2))[i]? = some x := hx
      rw [List.getElem?_map] at hx
      obtain ⟨kv, hkv, ex⟩ := Option.map_eq_some_iff.mp hx
      obtain ⟨S, hS, ek, q, eq, hq⟩ := pairedGetZ pk hkv
      have exq : x = .ref q := by rw [← ex, eq]
      subst exq
      obtain ⟨okS, nS⟩ := hS2 S (List.mem_of_getElem? hS)
      refine ⟨_, rfl, l, rfl, ⟨_, SqL.of (s1 _ _ hl)⟩, ?_⟩
      refine for_it (walk_list (K := K) (a := l) (xs := ys)) (fun j σ H1 => (∃ x6 x7, σ = [some (.ref p), some (.ref d), some (.ref l), some sv, some (.ref D), some (.ref q), x6, x7]) ∧ Same H H1 ∧ ∃ Fs, KnAt P w CS H1 D Fs ∧ BI r shown ds Ss i j Fs) ?_ (fun i σ H1 _ h => SqL.of (h.2.1 _ _ hl)) ?_ ?_
      · exact ⟨⟨_, _, rfl⟩, s1, Fs, hF, bi⟩
      · rintro j y σ H2 H2' hj ⟨⟨x6, x7, rfl⟩, s2, Gs, hG, bj⟩ ⟨rfl, hy⟩
        obtain ⟨e, he, a, rfl, ha⟩ : ∃ e, ds[j]? = some e ∧ DdV H y e := pairedGetZ pd hy
        have okL := hS3 S (List.mem_of_getElem? hS) e (List.mem_of_getElem? he)
        refine ⟨_, rfl, _, rfl, _, rfl, p, q, a, r, S, e, rfl, hR.mono (SameN.of s2), hq.mono (SameN.of s2), s2 _ _ ha, okS, nS, fun lt H3 s3 hlt => ?_⟩
        have s23 := s2.trans s3
        refine ⟨_, rfl, _, rfl, p, lt, r, _, rfl, hR.mono (SameN.of s23), hlt, okL, fun v4 H4 s4 hv4 => ?_⟩
        have s24 := s23.trans s4
        refine ⟨_, rfl, nD (shownBy r (done r S e)), nD shown, hv4.dp, (hsv.mono (SameN.of s24)).dp, nD_shaped _, nD_shaped _, _, rfl, ?_⟩
        rw [nD_eqv]
        have hG4 : KnAt P w CS H4 D Gs := hG.mono (SameN.of (s3.trans s4))
        by_cases hc : shownBy r (done r S e) = shown
        · refine itT (decide_eq_true hc) ?_
          refine ⟨_, rfl, _, rfl, _, rfl, lt, _, rfl, hlt.mono (SameN.of s4), okL.two, fun k5 H5 s5 hk5 => ?_⟩
          obtain ⟨kv5, n5, p5⟩ := hG4.mono (SameN.of s5)
          have hl5 : kv5.length = Gs.length := Paired.length p5
          have hb := bj.len
          have hjl : j < ds.length := by omega
          have hil : i < Ss.length := by omega
          have hmul : i * ds.length + ds.length ≤ Ss.length * ds.length := by
            have := Nat.mul_le_mul_right ds.length (show i + 1 ≤ Ss.length by omega)
            rw [Nat.add_mul] at this
            omega
          refine ⟨D, rfl, kv5, done r S e, k5, n5, rfl, hk5, Nat.lt_of_le_of_lt (show kv5.length ≤ 10000 by omega) (by decide), fun H6 h6 n6 => ?_⟩
          obtain ⟨es5, ep5, xs5, e5, _⟩ := id n5
          have so : SameO H5 H6 := fun b o e f => by
            rw [h6 b (fun z => by rw [z, e5] at e; cases e; cases f)]
            exact e
          have hlt6 : SgAt CS H6 lt (done r S e) := (hlt.mono (SameN.of (s4.trans s5))).monoO so
          have s26 : Same H H6 := fun b o e => by
            rw [h6 b (ne_of_none e hD)]
            exact (s24.trans s5) _ _ e
          refine ⟨⟨_, _, rfl⟩, s26, _, ⟨_, n6, kn_put (Paired.mapP p5 fun _ _ ⟨e1, q1, e2, z⟩ => ⟨e1, q1, e2, z.monoO so⟩) hlt6⟩, bj.put hS he hc⟩
        · refine itF (decide_eq_false hc) ?_
          exact ⟨⟨_, _, rfl⟩, s24, Gs, hG4, bj.skip hS he hc⟩
      · rintro σ H2 ⟨⟨x6, x7, rfl⟩, s2, Gs, hG, bj⟩
        rw [hyl] at bj
        exact ⟨⟨_, _, _, rfl⟩, s2, Gs, hG, bj.next⟩
    · rintro σ H1 ⟨⟨x5, x6, x7, rfl⟩, s1, Fs, hF, bi⟩
      rw [List.length_map, hkl] at bi
      exact ⟨_, rfl, k D Fs H1 hD s1 hF bi⟩
end
end K14
end
section
set_option Elab.async false
set_option linter.all false
set_option maxRecDepth 100000
set_option maxHeartbeats 1000000
/-! Promises under an empty guard list; repr of a key. -/
namespace K14
open PySem PySem.Spec PyProof.Rows L2
/-- FnOk where no repr is under way -/
structure FnG (P : Program) (w : World) (K : PySem.W.Frag) (mg : Str → Option Value) (base : Heap) (k : Nat) (f : Addr) (fd : FuncData) (ps : List Str) (sp : Sp) : Prop where
  len : ∀ vs H Q E, sp vs H Q E → vs.length = ps.length
  run : ∀ (A : Around) (outer : List Env) (s : Shared) (H : Hp) (args : Args) (us : List Value) (vs : List V) (Q : VK) (E : XK), Room k A → A.guards = some [] → Env0 P w K mg base A outer s H → BindsTo s fd args (ps.zip us) → Vals vs us → sp vs H Q E →
    codeAny (model P w) A (.call (.ref f) args) (CR CX0 outer P w H s Q E) s
def DfG (P : Program) (w : World) (K : PySem.W.Frag) (mg : Str → Option Value) (base : Heap) (x : Str) (ps : List Str) (k : Nat) (sp : Sp) : Prop :=
  ∃ (f : Addr) (fd : FuncData), FnG P w K mg base k f fd ps sp ∧ mg x = some (.ref f) ∧ PySem.W.keepIn K (.ref f) = true ∧ Binds K fd ps []
theorem fnG_of {P : Program} {w : World} {K : PySem.W.Frag} {mg : Str → Option Value} {base : Heap} {k : Nat} {f : Addr} {name qual : Str} {params : Arguments} {body : List Stmt} {scope : Scope} {dV kV doc pm cdv ct oc : Value} {an od : Option Addr}
    {osl : Array (Option Value)} {N ps : List Str} {sp : Sp} (lk : K.lookup f = some ⟨oc, od, .func (PySem.W.fnOf name qual params body scope dV kV doc pm an cdv ct), osl⟩) (hcd : PySem.W.codeIn K cdv qual = true) (S : FnScope N ps scope)
    (len : ∀ vs H Q E, sp vs H Q E → vs.length = ps.length)
    (hbody : ∀ (A : Around) (outer : List Env) (s : Shared) (H : Hp) (vs : List V) (Q : VK) (E : XK), Room k (A.deeper (envOfC qual scope s.heap.objs.size f cdv)) → A.guards = some [] → sp vs H Q E →
      ∃ t, PSs (cxOf CX0 P w K mg base N qual scope f cdv A outer s H E) body t ∧ t { nx := fun _ H' => Q .non H', rt := Q } (start N vs) H) :
    FnG P w K mg base (k + 1) f (PySem.W.fnOf name qual params body scope dV kV doc pm an cdv ct) ps sp := by
  refine ⟨len, fun A outer s H args us vs Q E hr hg e0 hb r hsp => ?_⟩
  have hl := len _ _ _ _ hsp
  have KX : K.In s.heap := e0.mod.kin.keeps fun b o e => (e0.bs b o e).1
  have lim : s.heap.NoLimit := e0.mod.nolimit.keeps fun b o e => (e0.bs b o e).1
  have hkind : ∀ y ∈ ps.zip us, scope.names.lookup y.1 = some .local ∨ (scope.names.lookup y.1 = some .cell ∧ ((cellsFrom (s.heap.objs.size + 1) scope.names []).lookup y.1).isSome = true) := fun ⟨n, v⟩ hy => by
    rcases S.par n (List.of_mem_zip hy).1 with q | q
    · exact .inl q
    · exact .inr ⟨q, PySem.W.cellsFrom_some _ _ _ (.inl q)⟩
  refine codeAny_call_function hr.depth (KX _ _ lk) rfl S.co S.gen rfl (PySem.W.codeRec_of KX hcd) (hb _ _ _ _ ?_)
  refine wpAny_newFunctionEnv_cells S.kind hkind fun env he s1 x => ?_
  subst he
  refine ⟨lim.keeps x.toInCall.keep, codeAny_func ?_⟩
  obtain ⟨t, ht, hq⟩ := hbody A outer s H vs Q E (hr.deeper _) hg hsp
  have I : Inv (cxOf CX0 P w K mg base N qual scope f cdv A outer s H E) [] (start N vs) H s1 := inv_start S hr.hd e0 hl r x
  refine wpAny_mono (ht.run [] s1 (start N vs) H _ I hq) (fun fl s' hs => ?_) fun e s' hs => hs
  have fin : ∀ {σ' : L2.St} {H' : Hp} {v : V} {u : Value}, Inv (cxOf CX0 P w K mg base N qual scope f cdv A outer s H E) [] σ' H' s' → RelV v u → Q v H' → CE outer P w H s Q u s' :=
    fun {σ' H' v u} J rv q => ⟨v, H', J.os, J.bare, J.base, J.hok, rv, q⟩
  cases fl with
  | ret u =>
    obtain ⟨v, σ', H', J, rv, q⟩ := hs
    exact fin J rv q
  | next =>
    obtain ⟨σ', H', J, q⟩ := hs
    exact fin (v := V.non) (u := Value.none) J rfl q
  | brk =>
    obtain ⟨_, _, _, q⟩ := hs
    exact False.elim q
  | cont =>
    obtain ⟨_, _, _, q⟩ := hs
    exact False.elim q
theorem FunAt.okG {P : Program} {w : World} {K : PySem.W.Frag} {mg : Str → Option Value} {base : Heap} {x : Str} {st : Stmt} {N ps : List Str} {k : Nat} {sp : Sp} (F : FunAt K mg x st ps) (S : FnScope N ps (defScope st)) (len : ∀ vs H Q E, sp vs H Q E → vs.length = ps.length)
    (hbody : ∀ (f : Addr) (cdv : Value) (A : Around) (outer : List Env) (s : Shared) (H : Hp) (vs : List V) (Q : VK) (E : XK), Room k (A.deeper (PyProof.Rows.envOfC x (defScope st) s.heap.objs.size f cdv)) → A.guards = some [] → sp vs H Q E →
      ∃ t, PSs (cxOf CX0 P w K mg base N x (defScope st) f cdv A outer s H E).nox (defBody st) t ∧ t { nx := fun _ H' => Q .non H', rt := Q } (start N vs) H) : DfG P w K mg base x ps (k + 1) sp := by
  obtain ⟨f, fd, F, hm, hb⟩ := F
  obtain ⟨oc, od, kV, doc, pm, an, cdv, ct, osl, rfl, lk, hcd⟩ := F.ex
  refine ⟨f, _, fnG_of lk hcd S len fun A outer s H vs Q E hr hg h => ?_, hm, F.kp, hb⟩
  obtain ⟨t, h1, q⟩ := hbody f cdv A outer s H vs Q E hr hg h
  exact ⟨t, h1.nox, q⟩
theorem pe_dfG {X : Cx} {x : Str} {ps : List Str} {k : Nat} {sp : Sp} {e : Expr} {es : List Expr} {t : TA} {p pos : Pos} (D : DfG X.prog X.w X.K X.mg X.base x ps k sp) (hr : Room k X.A) (hgd : X.A.guards = some []) (hg : Gl X x) (ha : PA X (e :: es) t)
    (hdb : (x == ("__debug__" : Str)) = false := by decide) (he : starEach (e :: es) X.env = (false, eval e X.env) :: starEach es X.env := by rfl) (hpl : (backTo pos (starEach es X.env)).any (·.1) = false := by rfl) :
    PE X (.Call (.Name x p) (e :: es) [] pos) (tCall sp [] E0 t) := by
  obtain ⟨f, fd, F, hm, hk, hb⟩ := D
  refine ⟨fun pins s σ H Q I h => ?_⟩
  refine wpAny_Call_Name_kw (ld_glob I hg hm ?_ hdb)
  refine PySem.W.callWith_K (h₀ := X.base) I.ok.mod.kin hk (thn (ha.run pos pins s σ H _ I h) fun us s1 ⟨vs, H1, I1, r, q⟩ => ⟨I1.kIn, ?_⟩) he hpl
  have q : sp (vs ++ []) H1 Q E0 := q
  rw [List.append_nil] at q
  have hl : (us ++ ([] : List Value)).length = ps.length := by rw [List.append_nil, ← r.length]; exact F.len _ _ _ _ q
  have hb2 := hb s1 us I1.kIn hl
  rw [List.append_nil] at hb2
  refine wpAny_call (codeAny_mono (F.run X.A X.stack s1 H1 ⟨us, []⟩ us vs Q E0 hr hgd I1.env0 hb2 r q) fun r s' hq => ?_)
  cases r with
  | error e => exact False.elim hq
  | ok fl =>
    cases fl with
    | ret u => exact I1.after hq
    | next => exact False.elim hq
    | brk => exact False.elim hq
    | cont => exact False.elim hq

/-! ### repr of a key -/
def kyD (S : Sg) : PyData := .tuple [orD (rowAt S.rows false), orD (rowAt S.rows true), .int (many S.rows : Nat), nD S.kept]
theorem KyAt.dp {K : PySem.W.Frag} {H : Hp} {v : V} {S : Sg} (h : KyAt H v S) : Dp K H v (kyD S) := by
  obtain ⟨a, r0, r1, kv, rfl, e, w0, w1, q⟩ := h
  exact .tup (SqT.of e) (.cons w0.dp (.cons w1.dp (.cons (.int _) (.cons q.dp .nil))))
theorem rwD_dict (x : Rw) : (rwD x).hasDict = false := by cases x <;> rfl
theorem orD_dict (x : Option Rw) : (orD x).hasDict = false := by cases x with | none => rfl | some x => exact rwD_dict x
theorem nD_dict (n : Option (Int × Int)) : (nD n).hasDict = false := by cases n <;> rfl
theorem kyD_dict (S : Sg) : (kyD S).hasDict = false := by
  simp [kyD, PyData.hasDict, PyData.hasDictAll, orD_dict, nD_dict]
theorem rwD_depth (x : Rw) : (rwD x).depth ≤ 2 := by cases x <;> simp [rwD, PyData.depth, PyData.depthAll]
theorem orD_depth (x : Option Rw) : (orD x).depth ≤ 2 := by
  cases x with
  | none => simp [orD, PyData.depth]
  | some x => exact rwD_depth x
theorem nD_depth (n : Option (Int × Int)) : (nD n).depth ≤ 2 := by cases n <;> simp [nD, PyData.depth, PyData.depthAll]
theorem kyD_depth (S : Sg) : (kyD S).depth ≤ 4 := by
  have h1 := orD_depth (rowAt S.rows false)
  have h2 := orD_depth (rowAt S.rows true)
  have h3 := nD_depth S.kept
  simp only [kyD, PyData.depth, PyData.depthAll]
  omega
/-- the text of a key, and that it is short -/
def kyT (S : Sg) : Str := (kyD S).shown
def KyShort (S : Sg) : Prop := (kyD S).showable = true ∧ (kyD S).shown.length ≤ sizeLine
def rReprK : List V → Hp → VK → Prop := fun xs H Q => ∃ (a : Addr) (S : Sg), xs = [.ref a] ∧ KyAt H (.ref a) S ∧ KyShort S ∧ Q (.str (kyT S)) H
theorem call_reprK {X : Cx} {k : Nat} (hr : Room k X.A) (hgd : X.A.guards = some []) : CallR X (.builtin "repr") rReprK := by
  intro pins s σ H xs us Q I r q
  obtain ⟨a, S, rfl, hk, ⟨h1, h2⟩, q⟩ := q
  obtain ⟨u, rfl, rx⟩ := vals1 r
  obtain rfl : u = Value.ref a := rx
  obtain ⟨as, rd⟩ := Dp.reads I (kyD S) (.ref a) (.ref a) hk.dp rfl
  have hd := kyD_depth S
  have hu := hr.un
  refine repr_of_reads' rd h1 (fun z => by rw [kyD_dict] at z; cases z) hgd (by omega) (fun _ _ e => e) (fun h' t tk hkp => ?_) h2
  exact ⟨.str (kyT S), H, I.kept (t' := tk) hkp, ⟨t, rfl⟩, q⟩
end K14
end
section
set_option Elab.async false
set_option linter.all false
set_option maxRecDepth 100000
set_option maxHeartbeats 1000000
/-! d[k] of nested keys; deeds as keys. -/
namespace K14
open PySem PySem.Spec PyProof.Rows L2
def rIxN (P : Program) (w : World) : R2 := fun x y H Q => ∃ a b kvs k v, x = .ref a ∧ y = .ref b ∧ NDk P w H a kvs ∧ NIs H k (.ref b) ∧ k.depth ≤ 8 ∧ valN kvs k = some v ∧ Q v H
theorem ix_nd {X : Cx} {k : Nat} (hr : Room k X.A) : IxR X (rIxN X.prog X.w) := by
  intro value slice pins s σ H x y v u Q I rx ry h hs
  obtain ⟨a, b, kvs, kk, z, rfl, rfl, n, hk, hd, hv, q⟩ := h
  obtain rfl : v = Value.ref a := rx
  obtain rfl : u = Value.ref b := ry
  obtain ⟨xs, rel, dd, hsys, hz⟩ := n.real I.hok
  have e := rel.val kk
  rw [hv] at e
  cases ha : atKey xs kk with
  | none => rw [ha] at e; exact e.elim
  | some p =>
    rw [ha] at e
    have hT : s.TypeIs (.ref a) "dict" := by
      obtain ⟨o, es, ep, ho, hc, _⟩ := dd
      exact ⟨o, ho, hc.1⟩
    exact tail_any hT slot_dict_getitem.lookup (wpAny_getItem_heap (nd_room hr) ⟨NIs.real I.hok _ _ _ hk rfl, hd⟩ dd ha ⟨z, H, I.tok _, e, q⟩) hs
/-- a deed as a key -/
def ddN : Dd → NestedKey
  | .give p m => .tup [.text "give", .num (pI p), .num m]
  | .back p => .tup [.text "back", .num (pI p)]
  | .strike p => .tup [.text "strike", .num (pI p)]
  | .night => .tup [.text "night"]
theorem DdAt.nis {H : Hp} {a : Addr} {d : Dd} (h : DdAt H a d) : NIs H (ddN d) (.ref a) := by
  cases d with
  | give p m => exact .tup h (.cons (.text _) (.cons (.int _) (.cons (.int _) .nil)))
  | back p => exact .tup h (.cons (.text _) (.cons (.int _) .nil))
  | strike p => exact .tup h (.cons (.text _) (.cons (.int _) .nil))
  | night => exact .tup h (.cons (.text _) .nil)
theorem ddN_depth (d : Dd) : (ddN d).depth ≤ 8 := by cases d <;> simp [ddN, NestedKey.depth, NestedKey.depthAll]
theorem pI_eq {p q : Bool} (h : pI p = pI q) : p = q := by cases p <;> cases q <;> simp [pI] at h <;> rfl
theorem ddN_inj {d e : Dd} (h : ddN d = ddN e) : d = e := by
  cases d <;> cases e <;> simp [ddN] at h
  · obtain ⟨h1, h2⟩ := h; rw [pI_eq h1, h2]
  all_goals first | (rw [pI_eq h]) | rfl | (exact absurd h (by decide +kernel)) | (exact absurd h.1 (by decide +kernel))
end K14
end
section
set_option Elab.async false
set_option linter.all false
set_option maxRecDepth 100000
/-! What telling_of keeps. -/
namespace K14
open PySem L2
theorem NDx.keep {P : Program} {w : World} {H H' : Hp} {d : Addr} {kvs : List (NestedKey × V)} (s : SameO H H') (hd : H' d = H d) (h : NDx P w H d kvs) : NDx P w H' d kvs := by
  have h0 := h.nd.keep s hd
  obtain ⟨es, ep, xs, h1, h2, h3, h4, h5⟩ := h
  refine ⟨es, ep, xs, hd.trans h1, h2, ?_, h4, fun x hx => let ⟨S, q⟩ := h5 x hx; ⟨S, q.monoO s⟩⟩
  exact Paired.mapP h3 fun p q z => ⟨z.1, NIs.keep (fun a ys e => s _ _ e rfl) _ _ z.2.1, z.2.2⟩
theorem KnAt.monoD {P : Program} {w : World} {CS : Addr} {H H' : Hp} {d : Addr} {Ss : List Sg} (s : SameO H H') (hd : H' d = H d) (h : KnAt P w CS H d Ss) : KnAt P w CS H' d Ss := by
  obtain ⟨kvs, n, p⟩ := h
  exact ⟨kvs, n.keep s hd, Paired.mapP p fun _ _ ⟨e, q, e2, z⟩ => ⟨e, q, e2, z.monoO s⟩⟩
/-- the deeds that look alike -/
def alikeOf (e : Option Bool) (ds : List Dd) (d : Dd) : List Dd := ds.filter fun o => decide (seenV e o = seenV e d)
def vD : V → PyData
  | .int i => .int i
  | .str x => .str x
  | _ => .none
def plainV : V → Bool
  | .int _ => true
  | .str _ => true
  | _ => false
theorem vD_eqv {x y : V} (hx : plainV x = true) (hy : plainV y = true) : PyData.eqv (vD x) (vD y) = decide (x = y) := by
  cases x <;> simp [plainV] at hx <;> cases y <;> simp [plainV] at hy <;> simp [vD, PyData.eqv]
  all_goals (rw [Bool.eq_iff_iff]; simp)
theorem vDs_eqv : ∀ {xs ys : List V}, xs.all plainV = true → ys.all plainV = true → PyData.eqvAll (xs.map vD) (ys.map vD) = decide (xs = ys)
  | [], [], _, _ => by simp [PyData.eqvAll]
  | [], _ :: _, _, _ => by simp [PyData.eqvAll]
  | _ :: _, [], _, _ => by simp [PyData.eqvAll]
  | x :: xs, y :: ys, hx, hy => by
    rw [List.all_cons, Bool.and_eq_true] at hx hy
    simp only [List.map_cons, PyData.eqvAll]
    rw [vD_eqv hx.1 hy.1, vDs_eqv hx.2 hy.2]
    by_cases h1 : x = y <;> by_cases h2 : xs = ys <;> simp [h1, h2]
theorem seen_plain (e : Option Bool) (d : Dd) : (seenV e d).all plainV = true := by
  cases d with
  | give p m => unfold seenV; dsimp only; split <;> rfl
  | back p => rfl
  | strike p => rfl
  | night => rfl
def seenD (e : Option Bool) (d : Dd) : PyData := .tuple ((seenV e d).map vD)
theorem seenD_eqv (e : Option Bool) (d d' : Dd) : PyData.eqv (seenD e d) (seenD e d') = decide (seenV e d = seenV e d') := by
  unfold seenD
  simp only [PyData.eqv]
  exact vDs_eqv (seen_plain e d) (seen_plain e d')
theorem dp_all {K : PySem.W.Frag} {H : Hp} : ∀ {xs : List V}, xs.all plainV = true → DpAll K H xs (xs.map vD)
  | [], _ => .nil
  | x :: xs, h => by
    rw [List.all_cons, Bool.and_eq_true] at h
    refine .cons ?_ (dp_all h.2)
    have h1 := h.1
    cases x <;> simp [plainV] at h1
    · exact .int _
    · exact .str _
theorem seen_dp {K : PySem.W.Frag} {H : Hp} {b : Addr} {e : Option Bool} {d : Dd} (h : H b = some (.tup (seenV e d))) : Dp K H (.ref b) (seenD e d) := .tup (SqT.of h) (dp_all (seen_plain e d))
theorem seenD_shaped (e : Option Bool) (d : Dd) : SeqAt.shaped (seenD e d) = true := by
  cases d with
  | give p m =>
    unfold seenD seenV
    dsimp only
    split <;> (simp only [List.map, vD, SeqAt.shaped, PyData.canLay0, PyData.canLayAll0, PyData.depth, PyData.depthAll, Bool.and_true, Bool.true_and]; decide +kernel)
  | back p => cases p <;> cases e <;> first | decide +kernel | (show SeqAt.shaped (.tuple [_, _]) = true; decide +kernel)
  | strike p => cases p <;> cases e <;> first | decide +kernel | (show SeqAt.shaped (.tuple [_, _]) = true; decide +kernel)
  | night => cases e <;> first | decide +kernel | (show SeqAt.shaped (.tuple [_]) = true; decide +kernel)
end K14
end
section
set_option Elab.async false
set_option linter.all false
set_option maxRecDepth 100000
/-! alike. -/
namespace K14
open PySem L2
def AlkR (H : Hp) (e : Option Bool) (ds : List Dd) (kv : NestedKey × V) (d : Dd) : Prop := kv.1 = ddN d ∧ ∃ l ys, kv.2 = .ref l ∧ H l = some (.lst ys) ∧ Paired (DdV H) ys (alikeOf e ds d)
def AlkAt (P : Program) (w : World) (H : Hp) (a : Addr) (e : Option Bool) (ds : List Dd) : Prop := ∃ kvs, NDk P w H a kvs ∧ Paired (AlkR H e ds) kvs ds
theorem AlkR.same {H H' : Hp} {e : Option Bool} {ds : List Dd} {kv : NestedKey × V} {d : Dd} (s : Same H H') (h : AlkR H e ds kv d) : AlkR H' e ds kv d := by
  obtain ⟨h1, l, ys, h2, h3, h4⟩ := h
  exact ⟨h1, l, ys, h2, s _ _ h3, Paired.mapP h4 fun _ _ z => z.mono (SameN.of s)⟩
theorem alike_fm (e : Option Bool) (d : Dd) : ∀ ds : List Dd, ds.filterMap (fun o => if seenV e o = seenV e d then some o else none) = alikeOf e ds d
  | [] => rfl
  | o :: ds => by
    unfold alikeOf
    rw [List.filterMap_cons, List.filter_cons, alike_fm e d ds]
    by_cases h : seenV e o = seenV e d <;> simp [h, alikeOf]
theorem AlkAt.get {P : Program} {w : World} {H : Hp} {a : Addr} {e : Option Bool} {ds : List Dd} (h : AlkAt P w H a e ds) {d : Dd} (hd : d ∈ ds) : ∃ kvs l ys, NDk P w H a kvs ∧ valN kvs (ddN d) = some (.ref l) ∧ H l = some (.lst ys) ∧ Paired (DdV H) ys (alikeOf e ds d) := by
  obtain ⟨kvs, n, p⟩ := h
  have key : ∀ (kvs : List (NestedKey × V)) (es : List Dd), Paired (AlkR H e ds) kvs es → d ∈ es → ∃ l ys, valN kvs (ddN d) = some (.ref l) ∧ H l = some (.lst ys) ∧ Paired (DdV H) ys (alikeOf e ds d) := by
    intro kvs es p
    induction p with
    | nil => intro h; simp at h
    | @cons kv d' kvs es r t ih =>
      intro h
      obtain ⟨h1, l, ys, h2, h3, h4⟩ := r
      by_cases c : d' = d
      · subst c
        exact ⟨l, ys, by simp [valN, List.find?_cons, h1, h2], h3, h4⟩
      · have hd : d ∈ es := by
          rcases List.mem_cons.mp h with z | z
          · exact absurd z.symm c
          · exact z
        obtain ⟨l2, ys2, q1, q2⟩ := ih hd
        refine ⟨l2, ys2, ?_, q2⟩
        have ne : ¬ kv.1 = ddN d := fun z => c (ddN_inj (h1.symm.trans z))
        unfold valN at q1 ⊢
        rw [List.find?_cons, decide_eq_false ne]
        exact q1
  obtain ⟨l, ys, h⟩ := key kvs ds p hd
  exact ⟨kvs, l, ys, n, h⟩
section
variable {K : PySem.W.Frag}
theorem alike_rd {X : Cx} {p S0 : V} {DL : Addr} {e : Option Bool} {x4 x5 x6 x7 x8 x9 x10 x11 x12 x13 x14 x15 x16 : Option V} {H : Hp} {ys : List V} {ds : List Dd} {Q : VK} (hl : H DL = some (.lst ys)) (pd : Paired (DdV H) ys ds) (nd : ds.Nodup) (hz : ds.length ≤ 20)
    (k : ∀ a H', Same H H' → AlkAt X.prog X.w H' a e ds → Q (.ref a) H') :
    tDcF (X := X) (flN X.prog X.w) (iList K (tVar 2)) (gName 12) tYes (tVar 12) (tLc (iList K (tVar 2)) (gName 15) (tTest (tOp (rEqD K) (tCall spSeen [] E0 (tCons (tVar 15) (tCons (tVar 1) tNil))) (tCall spSeen [] E0 (tCons (tVar 12) (tCons (tVar 1) tNil))))) (tVar 15) [15]) [12]
      [some p, some (eyV e), some (.ref DL), some S0, x4, x5, x6, x7, x8, x9, x10, x11, x12, x13, x14, x15, x16] H Q := by
  have hyl : ys.length = ds.length := Paired.length pd
  refine ⟨_, rfl, DL, rfl, ⟨_, SqL.of hl⟩, fun D hD => ?_⟩
  refine dcF_it (fl := flN X.prog X.w) (walk_list (K := K) (a := DL) (xs := ys)) (fun i H1 => Same H H1 ∧ ∃ kvs, NDk X.prog X.w H1 D kvs ∧ Paired (AlkR H1 e ds) kvs (ds.take i)) ?_ (fun i H1 _ h => SqL.of (h.1 _ _ hl)) ?_ ?_
  · exact ⟨same_upd hD, [], nd_nil upd_same, .nil⟩
  · rintro i x H1 H1' hi ⟨s1, kvs, n, pk⟩ ⟨rfl, hx⟩
    obtain ⟨d, hd, a, rfl, ha⟩ : ∃ d, ds[i]? = some d ∧ DdV H x d := pairedGetZ pd hx
    refine ⟨rfl, ?_⟩
    unfold tYes
    dsimp only
    rw [if_pos rfl]
    refine ⟨_, rfl, _, rfl, DL, rfl, ⟨_, SqL.of (s1 _ _ hl)⟩, fun L hL => ?_⟩
    refine lc_fm (walk_list (K := K) (a := DL) (xs := ys)) ds hyl.symm (Nat.le_trans (by omega : ys.length ≤ 20) (by decide)) hL (fun o => if seenV e o = seenV e d then some o else none) DdV (fun s h => h.mono s) (fun H s => SqL.of (s _ _ (s1 _ _ hl))) ?_ ?_
    · rintro j o H2 x2 H2' Yes No ho s2 ⟨rfl, hx2⟩ hyes hno
      obtain ⟨o', ho', b, rfl, hb⟩ : ∃ o, ds[j]? = some o ∧ DdV H x2 o := pairedGetZ pd hx2
      have eo : o' = o := by rw [ho] at ho'; exact (Option.some.inj ho').symm
      subst eo
      have s12 := s1.trans s2
      refine ⟨rfl, ?_⟩
      refine ⟨_, rfl, _, rfl, b, o', e, rfl, s12 _ _ hb, fun t1 H3 s3 ht1 => ?_⟩
      refine ⟨_, rfl, _, rfl, a, d, e, rfl, (s12.trans s3) _ _ ha, fun t2 H4 s4 ht2 => ?_⟩
      refine ⟨seenD e o', seenD e d, seen_dp (s4 _ _ ht1), seen_dp ht2, seenD_shaped _ _, seenD_shaped _ _, _, rfl, ?_⟩
      rw [seenD_eqv]
      by_cases c : seenV e o' = seenV e d
      · refine itT (decide_eq_true c) ⟨_, rfl, ?_⟩
        exact hyes _ _ _ (s3.trans s4) (if_pos c) ⟨b, rfl, ((s12.trans s3).trans s4) _ _ hb⟩
      · refine itF (decide_eq_false c) ?_
        exact hno _ (s3.trans s4) (if_neg c)
    · intro H2 zs s2 hz2 pz
      rw [alike_fm] at pz
      have n2 := n.mono (SameN.of s2)
      have s12 := s1.trans s2
      have hkl : kvs.length = (ds.take i).length := Paired.length pk
      have hv : valN kvs (ddN d) = none := by
        rw [valN_none]
        intro hm
        obtain ⟨kv, hkv, ek⟩ := List.mem_map.mp hm
        obtain ⟨j, hj⟩ := List.getElem?_of_mem hkv
        obtain ⟨d', hd', r⟩ := pairedGetZ pk hj
        have e2 : d' = d := ddN_inj (r.1.symm.trans ek)
        subst e2
        have hji : j < i := by
          have := (List.getElem?_eq_some_iff.mp hd').1
          rw [List.length_take] at this
          omega
        rw [List.getElem?_take_of_lt hji] at hd'
        obtain ⟨b1, h1⟩ := List.getElem?_eq_some_iff.mp hd'
        obtain ⟨b2, h2⟩ := List.getElem?_eq_some_iff.mp hd
        exact List.pairwise_iff_getElem.mp nd j i b1 b2 hji (h1.trans h2.symm)
      refine ⟨kvs, ddN d, a, n2, rfl, DdAt.nis (s12 _ _ ha), ddN_depth d, Nat.lt_of_le_of_lt (show kvs.length ≤ 20 by rw [hkl, List.length_take]; omega) (by decide), fun H3 h3 n3 => ?_⟩
      rw [putN_new hv] at n3
      obtain ⟨es, ep, xs, eD, _⟩ := id n2
      have s23 : ∀ {b o}, H2 b = some o → b ≠ D → H3 b = some o := fun {b o} e nb => by rw [h3 b nb]; exact e
      have so : SameO H2 H3 := fun b o e f => by
        rw [h3 b (fun z => by rw [z, eD] at e; cases e; cases f)]
        exact e
      have ar : ∀ {kv d}, AlkR H2 e ds kv d → AlkR H3 e ds kv d := fun {kv d} h => by
        obtain ⟨h1, l, zs, h2, h4, h5⟩ := h
        exact ⟨h1, l, zs, h2, s23 h4 (fun z => by rw [z, eD] at h4; cases h4), Paired.mapP h5 fun _ _ z => z.monoO so⟩
      refine ⟨fun b o e => ?_, _, n3, ?_⟩
      · rw [h3 b (ne_of_none e hD)]
        exact s12 _ _ e
      · have tk : ds.take (i + 1) = ds.take i ++ [d] := by rw [List.take_add_one, hd]; rfl
        rw [tk]
        exact (Paired.mapP pk fun _ _ z => ar (z.same s2)).snoc (ar ⟨rfl, L, zs, rfl, hz2, pz⟩)
  · rintro H1 ⟨s1, kvs, n, pk⟩
    rw [hyl, List.take_length] at pk
    exact k D H1 s1 ⟨kvs, n, pk⟩
end
end K14
end
section
set_option Elab.async false
set_option linter.all false
set_option maxRecDepth 100000
/-! What telling_of's layers keep. -/
namespace K14
open PySem L2
/-- a mark of telling_of -/
def mkN (S : Sg) (ts : List Str) : NestedKey := .tup [kyN S, .tup (ts.map .text)]
theorem texts_depth (ts : List Str) : NestedKey.depthAll (ts.map NestedKey.text) = 0 := by
  induction ts with
  | nil => simp [NestedKey.depthAll]
  | cons t ts ih => simp only [List.map_cons, NestedKey.depthAll, NestedKey.depth, ih]; rfl
theorem mkN_depth (S : Sg) (ts : List Str) : (mkN S ts).depth ≤ 3 := by
  have h1 := kyN_depth S
  have h2 := texts_depth ts
  simp only [mkN, NestedKey.depth, NestedKey.depthAll] at *
  omega
theorem texts_nis {H : Hp} : ∀ ts : List Str, NAll H (ts.map NestedKey.text) (ts.map V.str)
  | [] => .nil
  | t :: ts => .cons (.text t) (texts_nis ts)
/-- what telling_of reaches: standings with what is known -/
structure ReachT (r : Ru) (e : Option Bool) (I : Sg → List Sg → Prop) (pool : List NestedKey) : Prop where
  first : I first [first]
  step : ∀ S Ks d Fs, I S Ks → d ∈ deeds r.three → BI r (shownBy r (done r S d)) (alikeOf e (deeds r.three) d) Ks Ks.length 0 Fs → (Fs.map kyN).Nodup → I (done r S d) Fs
  ok : ∀ S Ks, I S Ks → SgOk S ∧ nd2 S.rows = true
  okK : ∀ S Ks T, I S Ks → T ∈ Ks → SgOk T ∧ nd2 T.rows = true ∧ KyShort T
  okD : ∀ S Ks T d, I S Ks → T ∈ Ks → d ∈ deeds r.three → SgOk (done r T d)
  okS : ∀ S Ks d, I S Ks → d ∈ deeds r.three → SgOk (done r S d)
  few : ∀ S Ks, I S Ks → Ks.length < 64
  told : ∀ S Ks p, I S Ks → e ≠ some p → tellFree (Ks.map fun T => markAt T.rows p)
  key : ∀ S Ks ts, I S Ks → ts.Perm (Ks.map kyT) → PyProof.Rows.sortedS ts = true → mkN S ts ∈ pool
  size : pool.length ≤ 40000
/-- all but lists and the dict at KD is as it was -/
def SameT (KD : Addr) (H H' : Hp) : Prop := ∀ b o, H b = some o → b ≠ KD → (∀ l, o ≠ .lst l) → H' b = some o
theorem SameT.of {KD : Addr} {H H' : Hp} (s : Same H H') : SameT KD H H' := fun b o e _ _ => s b o e
theorem SameT.o {KD : Addr} {H H' : Hp} {es : Array DictEntry} {ep : Nat} (s : SameT KD H H') (h : H KD = some (RawO KD es ep)) : SameO H H' := fun b o e f =>
  s b o e (fun z => by rw [z, h] at e; cases e; cases f) (fun l z => by subst z; cases f)
def ItT (P : Program) (w : World) (CS KD : Addr) (H : Hp) (h : Nat) (v : V) (S : Sg × List Sg) : Prop := ∃ t hT a kd hs, v = .ref t ∧ H t = some (.tup [.ref hT, .ref a, .ref kd]) ∧ H hT = some (.tup hs) ∧ hs.length = h ∧ SgAt CS H a S.1 ∧ KnAt P w CS H kd S.2 ∧ kd ≠ KD
theorem KnAt.raw {P : Program} {w : World} {CS : Addr} {H : Hp} {d : Addr} {Ss : List Sg} (h : KnAt P w CS H d Ss) : ∃ es ep, H d = some (RawO d es ep) := by
  obtain ⟨kvs, ⟨es, ep, xs, h1, _⟩, _⟩ := h
  exact ⟨es, ep, h1⟩
theorem KnAt.nodup {P : Program} {w : World} {CS : Addr} {H : Hp} {d : Addr} {Ss : List Sg} (h : KnAt P w CS H d Ss) : (Ss.map kyN).Nodup := by
  obtain ⟨kvs, n, p⟩ := h
  have e : Ss.map kyN = kvs.map (·.1) := by
    clear n
    induction p with
    | nil => rfl
    | cons r _ ih => rw [List.map_cons, List.map_cons, ih, r.1]
  rw [e]
  exact n.nd.nodup
theorem KnAt.monoT {P : Program} {w : World} {CS KD : Addr} {H H' : Hp} {d : Addr} {Ss : List Sg} (s : SameT KD H H') (so : SameO H H') (hd : d ≠ KD) (h : KnAt P w CS H d Ss) : KnAt P w CS H' d Ss := by
  obtain ⟨es, ep, e⟩ := h.raw
  exact h.monoD so (by rw [e]; exact s _ _ e hd (fun l z => nomatch z))
theorem ItT.monoT {P : Program} {w : World} {CS KD : Addr} {H H' : Hp} {h : Nat} {v : V} {S : Sg × List Sg} (s : SameT KD H H') (so : SameO H H') (i : ItT P w CS KD H h v S) : ItT P w CS KD H' h v S := by
  obtain ⟨t, hT, a, kd, hs, e, h1, h2, h3, h4, h5, h6⟩ := i
  exact ⟨t, hT, a, kd, hs, e, so _ _ h1 rfl, so _ _ h2 rfl, h3, h4.monoO so, h5.monoT s so h6, h6⟩
/-- the def's own things between two steps; B the heap behind the statement of alike -/
structure WT (P : Program) (w : World) (B : Hp) (pool : List NestedKey) (KD : Addr) (H1 : Hp) (kvs : List (NestedKey × V)) : Prop where
  kp : Same B H1
  fkd : B KD = none
  kd : NDk P w H1 KD kvs
  sub : ∀ kv ∈ kvs, kv.1 ∈ pool
section
variable {P : Program} {w : World} {B : Hp} {pool : List NestedKey} {KD : Addr} {H1 H2 : Hp} {kvs : List (NestedKey × V)}
theorem WT.raw (wf : WT P w B pool KD H1 kvs) : ∃ es ep, H1 KD = some (RawO KD es ep) := by
  obtain ⟨es, ep, xs, h, _⟩ := wf.kd
  exact ⟨es, ep, h⟩
theorem WT.len (wf : WT P w B pool KD H1 kvs) : kvs.length ≤ pool.length := by
  have h1 : (kvs.map (·.1)).length ≤ pool.length := nodup_le wf.kd.nodup fun x hx => by
    obtain ⟨kv, hkv, rfl⟩ := List.mem_map.mp hx
    exact wf.sub kv hkv
  rwa [List.length_map] at h1
theorem WT.same (wf : WT P w B pool KD H1 kvs) (s : Same H1 H2) : WT P w B pool KD H2 kvs :=
  ⟨wf.kp.trans s, wf.fkd, wf.kd.mono (SameN.of s), wf.sub⟩
theorem WT.put (wf : WT P w B pool KD H1 kvs) {k : NestedKey} {v : V} (hk : k ∈ pool) (h : ∀ b, b ≠ KD → H2 b = H1 b) (n : NDk P w H2 KD (kvs ++ [(k, v)])) : WT P w B pool KD H2 (kvs ++ [(k, v)]) ∧ SameT KD H1 H2 := by
  refine ⟨⟨fun b o e => ?_, wf.fkd, n, fun kv hkv => ?_⟩, fun b o e nb _ => by rw [h b nb]; exact e⟩
  · rw [h b (ne_of_none e wf.fkd)]
    exact wf.kp b o e
  · rcases List.mem_append.mp hkv with z | z
    · exact wf.sub kv z
    · rw [List.mem_singleton.mp z]; exact hk
theorem WT.lst (wf : WT P w B pool KD H1 kvs) {a : Addr} {l l' : List V} (ha : H1 a = some (.lst l)) (hn : B a = none) : WT P w B pool KD (upd H1 a (.lst l')) kvs ∧ SameN H1 (upd H1 a (.lst l')) := by
  have s : SameN H1 (upd H1 a (.lst l')) := (SameN.refl H1).put ha
  exact ⟨⟨sput wf.kp hn, wf.fkd, wf.kd.mono s, wf.sub⟩, s⟩
end
theorem SameT.ofN {KD : Addr} {H H' : Hp} (s : SameN H H') : SameT KD H H' := fun b o e _ n => s b o e n
end K14
end
section
set_option Elab.async false
set_option linter.all false
set_option maxRecDepth 100000
/-! Keys and their texts. -/
namespace K14
open PySem L2
mutual
theorem NIs.fn {H : Hp} : ∀ (k k' : NestedKey) (v : V), NIs H k v → NIs H k' v → k = k'
  | .none, _, _, h, h' => by cases h; cases h'; rfl
  | .num i, _, _, h, h' => by
    cases h with
    | bl b => cases h'; rfl
    | int i => cases h'; rfl
  | .text x, _, _, h, h' => by cases h; cases h'; rfl
  | .tup ks, k', _, h, h' => by
    cases h with
    | @tup a xs _ e n =>
      cases h' with
      | @tup _ xs' ks' e' n' =>
        rw [e] at e'
        cases e'
        rw [NAll.fn ks ks' xs n n']
theorem NAll.fn {H : Hp} : ∀ (ks ks' : List NestedKey) (vs : List V), NAll H ks vs → NAll H ks' vs → ks = ks'
  | [], _, _, h, h' => by cases h; cases h'; rfl
  | k :: ks, ks', _, h, h' => by
    cases h with
    | cons r t =>
      cases h' with
      | cons r' t' => rw [NIs.fn k _ _ r r', NAll.fn ks _ _ t t']
end
theorem b01_inj {a b : Bool} (h : (if a = true then (1 : Int) else 0) = if b = true then 1 else 0) : a = b := by cases a <;> cases b <;> simp at h <;> rfl
theorem rwN_inj {x y : Rw} (h : rwN x = rwN y) : x = y := by
  cases x <;> cases y <;> simp [rwN] at h
  · rfl
  · obtain ⟨h1, h2, h3⟩ := h
    rw [h1, b01_inj h2, b01_inj h3]
theorem orN_inj {x y : Option Rw} (h : orN x = orN y) : x = y := by
  cases x with
  | none => cases y with
    | none => rfl
    | some y => cases y <;> simp [orN, rwN] at h
  | some x => cases y with
    | none => cases x <;> simp [orN, rwN] at h
    | some y => rw [rwN_inj h]
theorem nN_inj {x y : Option (Int × Int)} (h : nN x = nN y) : x = y := by
  cases x with
  | none => cases y with
    | none => rfl
    | some y => simp [nN] at h
  | some x => cases y with
    | none => simp [nN] at h
    | some y =>
      obtain ⟨x1, x2⟩ := x
      obtain ⟨y1, y2⟩ := y
      simp [nN] at h
      rw [h.1, h.2]
theorem kyN_inj {S T : Sg} (h : kyN S = kyN T) : rowAt S.rows false = rowAt T.rows false ∧ rowAt S.rows true = rowAt T.rows true ∧ many S.rows = many T.rows ∧ S.kept = T.kept := by
  simp only [kyN, NestedKey.tup.injEq, List.cons.injEq, NestedKey.num.injEq, and_true] at h
  obtain ⟨h1, h2, h3, h4⟩ := h
  exact ⟨orN_inj h1, orN_inj h2, by omega, nN_inj h4⟩
theorem kyD_of {S T : Sg} (h : kyN S = kyN T) : kyD S = kyD T := by
  obtain ⟨h1, h2, h3, h4⟩ := kyN_inj h
  unfold kyD
  rw [h1, h2, h3, h4]
/-- a known key's object shows the text of its standing -/
theorem key_text {H : Hp} {v : V} {S T : Sg} (h : KyAt H v S) (n : NIs H (kyN T) v) : kyT S = kyT T ∧ (KyShort T → KyShort S) := by
  have e : kyN S = kyN T := NIs.fn _ _ _ h.nis n
  have d := kyD_of e
  unfold kyT KyShort
  rw [d]
  exact ⟨rfl, id⟩
end K14
end
section
set_option Elab.async false
set_option linter.all false
set_option maxRecDepth 100000
set_option maxHeartbeats 1000000
/-! telling_of. -/
namespace K14
open PySem L2
def NTl : List Str := ["rule", "eye", "deeds", "start", "alike", "layer", "done_ones", "following", "history", "standing", "known", "mark", "deed", "later", "after", "other", "key"]
theorem scTelling : FnScope NTl ["rule", "eye"] (defScope (txt 60)) := ⟨rfl, rfl, rfl, by decide +kernel, rfl, by decide +kernel, by decide +kernel⟩
def asgV : Stmt → Expr
  | .Assign _ v _ => v
  | _ => .Constant .none 0 ⟨0, 0, 0, 0⟩
def cmpS : Expr → Scope
  | .DictComp _ _ _ sc _ => sc
  | .ListComp _ _ sc _ => sc
  | _ => defScope (txt 60)
/-- the block of alike -/
def alSc : Scope := cmpS (asgV ((defBody (txt 60)).getD 1 (.Pass ⟨0, 0, 0, 0⟩)))
section
variable {P : Program} {w : World} {K : PySem.W.Frag} {mg : Str → Option Value} {base : Heap} {CR CS : Addr}
def spTelling (P : Program) (w : World) (CR : Addr) : Sp := fun vs H Q _ => ∃ (p : Addr) (r : Ru) (e : Option Bool) (I : Sg → List Sg → Prop) (pool : List NestedKey), vs = [.ref p, eyV e] ∧ RuleAt CR H p r ∧ ReachT r e I pool ∧ ∀ H', Same H H' → Q .non H'
theorem df_tellingof (T : Txt K w mg CR CS) (F : FunAt K mg "telling_of" (txt 60) ["rule", "eye"]) (DS : Df P w K mg base "seen_of" ["deed", "eye"] 1 spSeen) (DD : Df P w K mg base "deeds_of" ["rule"] 1 (spDeeds CR)) (D1 : Df P w K mg base "first_standing" [] 3 (spFirst CS))
    (DK : Df P w K mg base "key_of" ["standing"] 2 (spKeyX CS)) (DT : Df P w K mg base "told_person" ["known", "eye"] 3 (spTold P w CS)) (DO : Df P w K mg base "done" ["rule", "standing", "deed"] 7 (spDone CR CS)) (DW : Df P w K mg base "shown_by" ["rule", "standing"] 6 (spShown CR CS))
    (DB : Df P w K mg base "behind_seen" ["rule", "known", "deeds", "shown"] 8 (spBSeen P w CR CS)) : DfG P w K mg base "telling_of" ["rule", "eye"] 9 (spTelling P w CR) := by
  refine F.okG scTelling (fun vs H Q E h => ?_) (fun f cdv A outer s H vs Q E hr hgd h => ?_)
  · obtain ⟨p, r, e, I, pool, rfl, _⟩ := h
    rfl
  obtain ⟨p, r, e, I, pool, rfl, hR, hI, k⟩ := h
  have hu := hu_of hr
  have hu8 : (A.deeper (PyProof.Rows.envOfC "telling_of" (defScope (txt 60)) s.heap.objs.size f cdv)).units + 8 < cLine := by have := hr.un; omega
  refine ⟨_, pss_cons (ps_asg (pe_tup (pa_cons (pe_df DD (hr.mono (by decide)) rfl (pa_cons (pv 0) pa_nil)) (pa_cons (pe_df0 D1 (hr.mono (by decide)) rfl) pa_nil))) (pg_tup (by rfl) (pgs_cons (pg_name (i := 2) scTelling.nd rfl (Or.inr rfl)) (pgs_cons (pg_name (i := 3) scTelling.nd rfl (Or.inl rfl)) pgs_nil))))
    (pss_cons (ps_setDcF (i := 4) (fl := flN P w) (own := [("deed", 12)]) (g := gName 12) (tt := tYes) (tk := tVar 12)
      (tv := tLc (iList K (tVar 2)) (gName 15) (tTest (tOp (rEqD K) (tCall spSeen [] E0 (tCons (tVar 15) (tCons (tVar 1) tNil))) (tCall spSeen [] E0 (tCons (tVar 12) (tCons (tVar 1) tNil))))) (tVar 15) [15]) rfl scTelling.nd rfl rfl (sw_trueD rfl rfl rfl (by decide +kernel)) (pi_list (pv 2)) hu8
    (blkOk_by (N := NTl) (sc := defScope (txt 60)) (by decide +kernel))
    (fun _ _ _ _ _ => pg_name (i := 12) scTelling.nd rfl (Or.inr rfl)) (fun _ _ _ _ _ => pts_nil) (fun _ _ _ _ _ => pv 12)
    (fun _ _ _ _ _ => pe_lc (own := [("other", 15)]) (g := gName 15) (tt := tTest (tOp (rEqD K) (tCall spSeen [] E0 (tCons (tVar 15) (tCons (tVar 1) tNil))) (tCall spSeen [] E0 (tCons (tVar 12) (tCons (tVar 1) tNil))))) (te := tVar 15) rfl scTelling.nd (pi_list (pv 2)) (blkOk_by (N := NTl) (sc := relS _ (defScope (txt 60))) (by decide +kernel))
      (fun _ _ _ _ _ => pg_name (i := 15) scTelling.nd rfl (Or.inl rfl)) (fun _ _ _ _ _ => pts_one (pt_cmpR (op_eqD hr.units) (pe_df DS (hr.mono (by omega)) rfl (pa_cons (pv 15) (pa_cons (pv 1) pa_nil))) (pe_df DS (hr.mono (by omega)) rfl (pa_cons (pv 12) (pa_cons (pv 1) pa_nil))) (nomark _))) (fun _ _ _ _ _ => pv 15)))
    (pss_cons (ps_par (i := 5) (j := 6) rfl scTelling.nd rfl rfl (by decide) rfl rfl (pa_cons (pe_lst (pa_cons (pe_tup (pa_cons (pe_tup pa_nil) (pa_cons (pv 3) (pa_cons (pe_noneX hr (pe_df DK (hr.mono (by decide)) rfl (pa_cons (pv 3) pa_nil)) (pv 3)) pa_nil)))) pa_nil)) (pa_cons pe_rnew pa_nil)) rfl)
    (pss_cons (ps_while PassesOwn.never (pt_cmpR (op_neNil (Nat.lt_of_succ_lt hu)) (pv 5) (pe_lst pa_nil) (nomark _))
      (pss_cons (ps_set (i := 7) scTelling.nd rfl (Or.inl rfl) (pe_lst pa_nil))
      (pss_cons (ps_for PassesOwn.never rfl (pi_list (pv 5)) (pg_tup (by rfl) (pgs_cons (pg_name (i := 8) scTelling.nd rfl (Or.inl rfl)) (pgs_cons (pg_name (i := 9) scTelling.nd rfl (Or.inl rfl)) (pgs_cons (pg_name (i := 10) scTelling.nd rfl (Or.inl rfl)) pgs_nil))))
        (pss_cons (ps_set (i := 11) scTelling.nd rfl (Or.inl rfl) (pe_tup (pa_cons (pe_df DK (hr.mono (by decide)) rfl (pa_cons (pv 9) pa_nil)) (pa_cons (pe_callTy call_tuple_of (by rfl) T.tuple (by decide +kernel) (pa_cons (pe_callB cr_sortedS (by rfl) T.sorted (by decide +kernel) (pa_cons
            (pe_lc (own := [("key", 16)]) (g := gName 16) (tt := tYes) (te := tCB rReprK (tCons (tVar 16) tNil)) rfl scTelling.nd (pi_rk (pv 10)) (blkOk_by (N := NTl) (sc := defScope (txt 60)) (by decide +kernel)) (fun _ _ _ _ _ => pg_name (i := 16) scTelling.nd rfl (Or.inl rfl)) (fun _ _ _ _ _ => pts_nil)
              (fun _ _ _ _ _ => pe_callB (call_reprK hr hgd) (by rfl) T.repr (by decide +kernel) (pa_cons (pv 16) pa_nil))) pa_nil)) pa_nil)) pa_nil))))
        (pss_one (ps_if (pt_cmp (pc_nnotin hr (pv 11) (pv 6)))
          (pss_cons (ps_nput hr (pv 6) (pv 11) pe_bl rfl)
          (pss_cons (ps_if (pt_cmpR op_notN (pe_df DT (hr.mono (by decide)) rfl (pa_cons (pv 10) (pa_cons (pv 1) pa_nil))) pe_non (nomark _)) (pss_one ps_never) pss_nil)
          (pss_one (ps_for PassesOwn.never rfl (pi_list (pv 2)) (pg_name (i := 12) scTelling.nd rfl (Or.inl rfl))
            (pss_cons (ps_set (i := 13) scTelling.nd rfl (Or.inl rfl) (pe_df DO (hr.mono (by decide)) rfl (pa_cons (pv 0) (pa_cons (pv 9) (pa_cons (pv 12) pa_nil)))))
            (pss_cons (ps_set (i := 14) scTelling.nd rfl (Or.inl rfl) (pe_df DB hr rfl (pa_cons (pv 0) (pa_cons (pv 10) (pa_cons (pe_ix (ix_nd hr) (pv 4) (pv 12) (fun _ _ => rfl)) (pa_cons (pe_df DW (hr.mono (by decide)) rfl (pa_cons (pv 0) (pa_cons (pv 13) pa_nil))) pa_nil))))))
            (pss_one (ps_expr (pe_bm PySem.F.plainAttrs_list PySem.F.slot_list_append PySem.F.type_list_append mt_append (pv 7) (pa_cons (pe_tup (pa_cons (pe_tup (StX.pa_star (pv 8) (pa_cons (pv 12) pa_nil))) (pa_cons (pv 13) (pa_cons (pv 14) pa_nil)))) pa_nil)))))))))) pss_nil))))
      (pss_one (ps_set (i := 5) scTelling.nd rfl (Or.inl rfl) (pv 7))))))
    (pss_one (ps_ret pe_non))))), ?_⟩
  refine ⟨_, rfl, p, r, rfl, hR, fun DL ds H1 s1 hdl hdd => ⟨rfl, fun q0 H2 s2 hq0 => ⟨(by show 2 ≤ sizeLine; decide), fun t0 ht0 => ?_⟩⟩⟩
  refine ⟨t0, _, rfl, SqT.of upd_same, rfl, _, _, rfl, _, _, rfl, rfl, ?_⟩
  have s3 : Same H2 (upd H2 t0 (.tup [.ref DL, .ref q0])) := same_upd ht0
  have dnd : (deeds r.three).Nodup := by cases r.three <;> decide
  have dlen : (deeds r.three).length ≤ 11 := by cases r.three <;> decide
  dsimp only [tSeq, tAsg]
  refine alike_rd (X := (cxOf CX0 P w K mg base NTl "telling_of" (defScope (txt 60)) f cdv A outer s H E).nox) (K := K) (p := .ref p) (S0 := .ref q0) (x4 := none) (x5 := none) (x6 := none) (x7 := none) (x8 := none) (x9 := none) (x10 := none) (x11 := none) (x12 := none) (x13 := none) (x14 := none) (x15 := none) (x16 := none) (e := e) ((s2.trans s3) _ _ hdl) (Paired.mapP hdd fun _ _ z => z.mono (SameN.of (s2.trans s3))) dnd (by omega) fun AD B s4 hal => ?_
  have hR4 : RuleAt CR B p r := hR.mono (SameN.of (((s1.trans s2).trans s3).trans s4))
  have hq4 : SgAt CS B q0 K14.first := hq0.mono (SameN.of (s3.trans s4))
  have hdl4 : B DL = some (.lst ds) := ((s2.trans s3).trans s4) _ _ hdl
  have hdd4 : Paired (DdV B) ds (deeds r.three) := Paired.mapP hdd fun _ _ z => z.mono (SameN.of ((s2.trans s3).trans s4))
  have sHB : Same H B := ((s1.trans s2).trans s3).trans s4
  have ok0 := hI.ok _ _ hI.first
  clear hdl hdd hq0 s1 s2 s3 s4 ht0
  refine ⟨(by show 0 ≤ sizeLine; decide), fun e1 he1 => ⟨_, rfl, fun p0 hp0 => ⟨_, rfl, q0, K14.first, rfl, (hq4.mono (SameN.of (same_upd he1))).mono (SameN.of (same_upd hp0)), ok0.1.two, fun ka H5 s5 hk5 => ⟨_, rfl, K14.first, ka, s5 _ _ upd_same, rfl, hk5, fun H6 h6 n6 => ?_⟩⟩⟩⟩
  refine ⟨(by show 3 ≤ sizeLine; decide), fun t1 ht1 => ⟨(by show 1 ≤ sizeLine; decide), fun LA hLA => ?_⟩⟩
  intro KD hKD
  refine ⟨_, _, rfl, ?_⟩
  have he1 : Same B (upd B e1 (.tup [])) := same_upd he1
  have hp0s : Same (upd B e1 (.tup [])) (upd (upd B e1 (.tup [])) p0 (RawO p0 #[] 0)) := same_upd hp0
  obtain ⟨es6, ep6, xs6, e6, _⟩ := id n6
  have hB5 : ∀ b o, B b = some o → H5 b = some o := (he1.trans hp0s).trans s5
  have fB : ∀ b o, (upd B e1 (.tup [])) b = some o → H6 b = some o := fun b o e => by
    rw [h6 b (ne_of_none e hp0)]
    exact (hp0s.trans s5) _ _ e
  have sB6 : Same B H6 := fun b o e => fB _ _ (he1 _ _ e)
  have st1 : Same H6 (upd H6 t1 (.tup [.ref e1, .ref q0, .ref p0])) := same_upd ht1
  have sLA : Same (upd H6 t1 (.tup [.ref e1, .ref q0, .ref p0])) (upd (upd H6 t1 (.tup [.ref e1, .ref q0, .ref p0])) LA (.lst [.ref t1])) := same_upd hLA
  have sKD : Same (upd (upd H6 t1 (.tup [.ref e1, .ref q0, .ref p0])) LA (.lst [.ref t1])) (upd (upd (upd H6 t1 (.tup [.ref e1, .ref q0, .ref p0])) LA (.lst [.ref t1])) KD (RawO KD #[] 0)) := same_upd hKD
  have s6 := (st1.trans sLA).trans sKD
  have sBE := sB6.trans s6
  have fr : ∀ {a : Addr} {H' : Hp}, Same B H' → H' a = none → B a = none := fun {a H'} s e => by
    cases h : B a with
    | none => rfl
    | some o => rw [s _ _ h] at e; cases e
  have hKDB : B KD = none := fr ((sB6.trans st1).trans sLA) hKD
  have hLAB : B LA = none := fr (sB6.trans st1) hLA
  have hkp : p0 ≠ KD := ne_of_none ((st1.trans sLA) _ _ e6) hKD
  have wf0 : WT P w B pool KD (upd (upd (upd H6 t1 (.tup [.ref e1, .ref q0, .ref p0])) LA (.lst [.ref t1])) KD (RawO KD #[] 0)) [] := ⟨sBE, hKDB, nd_nil upd_same, fun kv hkv => by simp at hkv⟩
  have hLA0 : (upd (upd (upd H6 t1 (.tup [.ref e1, .ref q0, .ref p0])) LA (.lst [.ref t1])) KD (RawO KD #[] 0)) LA = some (.lst [.ref t1]) := sKD _ _ upd_same
  have hq6 : SgAt CS H6 q0 K14.first := hq4.mono (SameN.of sB6)
  have it0 : ItT P w CS KD (upd (upd (upd H6 t1 (.tup [.ref e1, .ref q0, .ref p0])) LA (.lst [.ref t1])) KD (RawO KD #[] 0)) 0 (.ref t1) (K14.first, [K14.first]) :=
    ⟨t1, e1, q0, p0, [], rfl, (sLA.trans sKD) _ _ upd_same, s6 _ _ (fB _ _ upd_same), rfl, hq6.mono (SameN.of s6), (show KnAt P w CS H6 p0 [K14.first] from ⟨_, n6, .cons ⟨rfl, q0, rfl, hq6⟩ .nil⟩).mono (SameN.of s6), hkp⟩
  generalize upd (upd (upd H6 t1 (.tup [.ref e1, .ref q0, .ref p0])) LA (.lst [.ref t1])) KD (RawO KD #[] 0) = H7 at *
  clear he1 hp0s e6 hB5 fB sB6 st1 sLA sKD s6 sBE hKD hLA ht1 h6 n6 hk5 s5 hp0 hq6
  refine ⟨fun j σ H1 => ∃ LA ys Ss h kvs o7 o8 o9 o10 o11 o12 o13 o14 o15 o16, σ = [some (.ref p), some (eyV e), some (.ref DL), some (.ref q0), some (.ref AD), some (.ref LA), some (.ref KD), o7, o8, o9, o10, o11, o12, o13, o14, o15, o16] ∧ WT P w B pool KD H1 kvs ∧ B LA = none ∧ H1 LA = some (.lst ys) ∧
    Paired (ItT P w CS KD H1 h) ys Ss ∧ (∀ S ∈ Ss, I S.1 S.2) ∧ (Ss ≠ [] → h ≤ kvs.length) ∧ Ss.length ≤ 11 * kvs.length + 1 ∧ j = 2 * (pool.length - kvs.length) + (if Ss = [] then 0 else 1), ⟨_, LA, _, [(K14.first, [K14.first])], 0, [], _, _, _, _, _, _, _, _, _, _, rfl, wf0, hLAB, hLA0, .cons it0 .nil, ?_, fun _ => Nat.le_refl _, by simp, rfl⟩, ?_⟩
  · intro S hS
    rw [List.mem_singleton.mp hS]
    exact hI.first
  clear wf0 hLAB hLA0 it0
  rintro j σ H1 ⟨LA, ys, Ss, h, kvs, o7, o8, o9, o10, o11, o12, o13, o14, o15, o16, rfl, wf, hLAf, hLA, pit, hIS, hh, hlen, rfl⟩
  have hkl := wf.len
  have hps := hI.size
  refine ⟨_, rfl, (by show 0 ≤ sizeLine; decide), fun nl hnl => ⟨LA, nl, ys, rfl, rfl, (same_upd hnl) _ _ hLA, upd_same, _, rfl, ?_⟩⟩
  have wf1 := wf.same (same_upd (o := .lst []) hnl)
  have hLA1 := (same_upd (o := .lst []) hnl) _ _ hLA
  have pit1 : Paired (ItT P w CS KD (upd H1 nl (.lst [])) h) ys Ss := Paired.mapP pit fun _ _ z => z.monoT (.of (same_upd hnl)) (.of (same_upd hnl))
  generalize upd H1 nl (.lst []) = H2 at *
  clear wf hLA pit hnl
  cases hys : ys with
  | nil =>
    refine itF rfl ?_
    exact k _ (sHB.trans wf1.kp)
  | cons y0 yr =>
    rw [← hys]
    have hSs : Ss ≠ [] := fun z => by rw [hys, z] at pit1; cases pit1
    have hh' := hh hSs
    refine itT (by rw [hys]; rfl) ⟨_, fun σ' H' z => z, ?_⟩
    refine ⟨(by show 0 ≤ sizeLine; decide), fun FL hFL => ?_⟩
    have wf2 := wf1.same (same_upd (o := .lst []) hFL)
    have hLA2 := (same_upd (o := .lst []) hFL) _ _ hLA1
    have pit2 : Paired (ItT P w CS KD (upd H2 FL (.lst [])) h) ys Ss := Paired.mapP pit1 fun _ _ z => z.monoT (.of (same_upd hFL)) (.of (same_upd hFL))
    have hFLf : B FL = none := by
      cases e : B FL with
      | none => rfl
      | some o => rw [wf1.kp FL o e] at hFL; cases hFL
    have hFA : FL ≠ LA := fun z => by rw [z, hLA1] at hFL; cases hFL
    have hFL2 : (upd H2 FL (.lst [])) FL = some (.lst []) := upd_same
    generalize upd H2 FL (.lst []) = H3 at *
    clear wf1 hLA1 pit1 hFL
    refine ⟨_, rfl, LA, rfl, ⟨_, SqL.of hLA2⟩, ?_⟩
    refine for_it (walk_list (K := K) (a := LA) (xs := ys)) (fun i σ H4 => ∃ zs Fs kvs' o8 o9 o10 o11 o12 o13 o14 o15 o16, σ = [some (.ref p), some (eyV e), some (.ref DL), some (.ref q0), some (.ref AD), some (.ref LA), some (.ref KD), some (.ref FL), o8, o9, o10, o11, o12, o13, o14, o15, o16] ∧ WT P w B pool KD H4 kvs' ∧ H4 LA = some (.lst ys) ∧ H4 FL = some (.lst zs) ∧
      Paired (ItT P w CS KD H4 h) ys Ss ∧ Paired (ItT P w CS KD H4 (h + 1)) zs Fs ∧ (∀ S ∈ Fs, I S.1 S.2) ∧ kvs.length ≤ kvs'.length ∧ (Fs ≠ [] → kvs.length < kvs'.length) ∧ Fs.length ≤ 11 * kvs'.length) ?_ (fun i σ H4 _ ⟨_, _, _, _, _, _, _, _, _, _, _, _, _, _, z, _⟩ => SqL.of z) ?_ ?_
    · exact ⟨[], [], kvs, _, _, _, _, _, _, _, _, _, rfl, wf2, hLA2, hFL2, pit2, .nil, fun _ z => by simp at z, Nat.le_refl _, fun z => absurd rfl z, by simp⟩
    · rintro i x σ H4 H4' hi ⟨zs, Fs, kvs', o8, o9, o10, o11, o12, o13, o14, o15, o16, rfl, wf3, hLA3, hFL3, pit3, pz, hIF, hk1, hk2, hk3⟩ ⟨rfl, hxx⟩
      have hi' : i < Ss.length := by rw [← Paired.length pit3]; exact hi
      have haS : Ss[i]? = some Ss[i] := List.getElem?_eq_getElem hi'
      obtain ⟨t, hT, a, kd, hs, rfl, ht, hhT, hhs, hS, hKn, hnk⟩ := paired_at pit3 hxx haS
      have hIS' := hIS _ (List.getElem_mem hi')
      generalize Ss[i] = SS at *
      obtain ⟨S, Ks⟩ := SS
      dsimp only at hS hKn hIS'
      obtain ⟨okS, nS⟩ := hI.ok S Ks hIS'
      have hfew := hI.few S Ks hIS'
      have hk' := wf3.len
      refine ⟨t, _, rfl, SqT.of ht, rfl, _, _, rfl, _, _, rfl, _, _, rfl, rfl, ?_⟩
      refine ⟨_, rfl, a, S, rfl, hS, okS.two, fun ka H5 s5 hka => ?_⟩
      have hKn5 := hKn.mono (SameN.of s5)
      obtain ⟨kn, nx5, pk5⟩ := id hKn5
      obtain ⟨es, ep, ks, hraw, hks, pks5⟩ := nx5.keys
      have hkl5 : ks.length = Ks.length := (Paired.length pks5).trans (Paired.length pk5)
      refine ⟨_, rfl, kd, es, ep, ks, rfl, hraw, hks, fun L hL => ?_⟩
      refine lc_fm (walk_rk (d := kd) (ep := ep) hks) Ks hkl5.symm (Nat.le_trans (by omega : ks.length ≤ 64) (by decide)) hL (fun T => some (kyT T)) (fun _ v c => v = V.str c) (fun _ e => e) (fun H s => s _ _ hraw) ?_ ?_
      · rintro j T H6 x6 H6' Yes No hTj s6 ⟨rfl, hx6⟩ hyes hno
        obtain ⟨kv, hkv, n6, S6, q6⟩ := pairedGetZ pks5 hx6
        obtain ⟨T2, hT2, e2, q2, _⟩ := pairedGetZ pk5 hkv
        have eT : T2 = T := by rw [hTj] at hT2; exact (Option.some.inj hT2).symm
        subst eT
        rw [e2] at n6
        obtain ⟨et, sh⟩ := key_text q6 n6
        obtain ⟨b6, _, _, _, rfl, _⟩ := id q6
        refine ⟨rfl, ?_⟩
        unfold tYes
        dsimp only
        rw [if_pos rfl]
        refine ⟨_, rfl, b6, S6, rfl, q6.mono (SameN.of s6), sh (hI.okK S Ks T2 hIS' (List.mem_of_getElem? hTj)).2.2, ?_⟩
        rw [et]
        exact hyes _ _ _ (Same.refl _) rfl rfl
      · intro H6 ts6 s6 hts6 pt6
        have ets : ts6 = (Ks.map kyT).map V.str := by
          clear hts6
          have e0 : Ks.filterMap (fun T => some (kyT T)) = Ks.map kyT := by rw [List.filterMap_eq_map']
          rw [e0] at pt6
          generalize Ks.map kyT = us at pt6
          induction pt6 with
          | nil => rfl
          | cons r _ ih => rw [r, ih]; rfl
        subst ets
        refine ⟨L, Ks.map kyT, rfl, SqL.of hts6, by rw [List.length_map]; exact hfew, fun ts pl perm sorted hpl => ?_⟩
        refine ⟨pl, _, rfl, .inl ⟨SqL.of upd_same, fun tt htt => ⟨(by show 2 ≤ sizeLine; decide), fun mk hmk => ?_⟩⟩⟩
        have s7 : Same H6 (upd H6 pl (.lst (ts.map V.str))) := same_upd hpl
        have s8 : Same (upd H6 pl (.lst (ts.map V.str))) (upd (upd H6 pl (.lst (ts.map V.str))) tt (.tup (ts.map V.str))) := same_upd htt
        have s9 : Same (upd (upd H6 pl (.lst (ts.map V.str))) tt (.tup (ts.map V.str))) (upd (upd (upd H6 pl (.lst (ts.map V.str))) tt (.tup (ts.map V.str))) mk (.tup [.ref ka, .ref tt])) := same_upd hmk
        have s59 := ((s6.trans s7).trans s8).trans s9
        have sA := s5.trans s59
        have hky : NIs (upd (upd (upd H6 pl (.lst (ts.map V.str))) tt (.tup (ts.map V.str))) mk (.tup [.ref ka, .ref tt])) (mkN S ts) (.ref mk) := .tup upd_same (.cons (hka.nis.mono (SameN.of s59)) (.cons (.tup (s9 _ _ upd_same) (texts_nis ts)) .nil))
        have hpl2 := hI.key S Ks ts hIS' perm sorted
        have wf6 := wf3.same sA
        have hLA4 := sA _ _ hLA3
        have hFL4 := sA _ _ hFL3
        have pit4 : Paired (ItT P w CS KD _ h) ys Ss := Paired.mapP pit3 fun _ _ z => z.monoT (.of sA) (.of sA)
        have pz4 : Paired (ItT P w CS KD _ (h + 1)) zs Fs := Paired.mapP pz fun _ _ z => z.monoT (.of sA) (.of sA)
        have hS4 := hS.mono (SameN.of sA)
        have hK4 := hKn.mono (SameN.of sA)
        have hhT4 := sA _ _ hhT
        generalize upd (upd (upd H6 pl (.lst (ts.map V.str))) tt (.tup (ts.map V.str))) mk (.tup [.ref ka, .ref tt]) = H9 at *
        clear wf3 hLA3 hFL3 pit3 pz hS hKn hhT ht s5 s6 s7 s8 s9 s59 sA hka hKn5 nx5 pk5 hraw hks pks5 hL hts6 hpl htt hmk pt6
        refine ⟨_, rfl, _, rfl, KD, mk, kvs', mkN S ts, rfl, rfl, wf6.kd, hky, Nat.le_trans (mkN_depth S ts) (by decide), _, rfl, ?_⟩
        cases hv : valN kvs' (mkN S ts) with
        | some v0 =>
          refine itF rfl ?_
          exact ⟨zs, Fs, kvs', _, _, _, _, _, _, _, _, _, rfl, wf6, hLA4, hFL4, pit4, pz4, hIF, hk1, hk2, hk3⟩
        | none =>
          refine itT rfl ?_
          refine ⟨_, rfl, _, rfl, KD, rfl, kvs', mkN S ts, mk, wf6.kd, rfl, hky, Nat.le_trans (mkN_depth S ts) (by decide), Nat.lt_of_le_of_lt (show kvs'.length ≤ 40000 by omega) (by decide), fun H10 h10 n10 => ?_⟩
          rw [putN_new hv] at n10
          obtain ⟨wf7, sT7⟩ := wf6.put hpl2 h10 n10
          obtain ⟨es9, ep9, e9⟩ := wf6.raw
          have so7 := sT7.o e9
          have hk7 := wf7.len
          rw [List.length_append, List.length_singleton] at hk7
          have keep7 : ∀ {b : Addr} {l : List V}, H9 b = some (.lst l) → H10 b = some (.lst l) := fun {b l} e => by
            rw [h10 b (fun z => by rw [z, e9] at e; cases e)]
            exact e
          have hLA5 := keep7 hLA4
          have hFL5 := keep7 hFL4
          have pit5 : Paired (ItT P w CS KD H10 h) ys Ss := Paired.mapP pit4 fun _ _ z => z.monoT sT7 so7
          have pz5 : Paired (ItT P w CS KD H10 (h + 1)) zs Fs := Paired.mapP pz4 fun _ _ z => z.monoT sT7 so7
          have hS5 := hS4.monoO so7
          have hK5 := hK4.monoT sT7 so7 hnk
          have hhT5 := so7 _ _ hhT4 rfl
          clear wf6 hLA4 hFL4 pit4 pz4 hS4 hK4 hhT4 n10 h10 keep7 e9 so7 sT7 hky
          refine ⟨_, rfl, _, rfl, kd, e, Ks, rfl, hK5, by omega, fun b hb => hI.told S Ks b hIS' hb, fun H11 s11 => ⟨rfl, _, rfl, itF rfl ?_⟩⟩
          have wf8 := wf7.same s11
          have hLA6 := s11 _ _ hLA5
          have hFL6 := s11 _ _ hFL5
          have pit6 : Paired (ItT P w CS KD H11 h) ys Ss := Paired.mapP pit5 fun _ _ z => z.monoT (.of s11) (.of s11)
          have pz6 : Paired (ItT P w CS KD H11 (h + 1)) zs Fs := Paired.mapP pz5 fun _ _ z => z.monoT (.of s11) (.of s11)
          have hS6 := hS5.mono (SameN.of s11)
          have hK6 := hK5.mono (SameN.of s11)
          have hhT6 := s11 _ _ hhT5
          clear wf7 hLA5 hFL5 pit5 pz5 hS5 hK5 hhT5 s11
          refine ⟨_, rfl, DL, rfl, ⟨_, SqL.of (wf8.kp _ _ hdl4)⟩, ?_⟩
          refine for_it (walk_list (K := K) (a := DL) (xs := ds)) (fun i2 σ H10 => ∃ zs2 Fs2 o12 o13 o14 o15 o16, σ = [some (.ref p), some (eyV e), some (.ref DL), some (.ref q0), some (.ref AD), some (.ref LA), some (.ref KD), some (.ref FL), some (.ref hT), some (.ref a), some (.ref kd), some (.ref mk), o12, o13, o14, o15, o16] ∧ WT P w B pool KD H10 (kvs' ++ [(mkN S ts, .bl true)]) ∧ H10 LA = some (.lst ys) ∧ H10 FL = some (.lst zs2) ∧
            Paired (ItT P w CS KD H10 h) ys Ss ∧ Paired (ItT P w CS KD H10 (h + 1)) zs2 Fs2 ∧ (∀ S ∈ Fs2, I S.1 S.2) ∧ Fs2.length = Fs.length + i2 ∧ SgAt CS H10 a S ∧ KnAt P w CS H10 kd Ks ∧ H10 hT = some (.tup hs)) ?_ (fun i2 σ H10 _ ⟨_, _, _, _, _, _, _, _, z, _⟩ => SqL.of (z.kp _ _ hdl4)) ?_ ?_
          · exact ⟨zs, Fs, _, _, _, _, _, rfl, wf8, hLA6, hFL6, pit6, pz6, hIF, rfl, hS6, hK6, hhT6⟩
          · rintro i2 x2 σ H11 H11' hi2 ⟨zs2, Fs2, o12, o13, o14, o15, o16, rfl, wf9, hLA7, hFL7, pit7, pz7, hIF2, hl2, hS7, hK7, hhT7⟩ ⟨rfl, hx2⟩
            have hi3 : i2 < (deeds r.three).length := by rw [← Paired.length hdd4]; exact hi2
            have hda : (deeds r.three)[i2]? = some (deeds r.three)[i2] := List.getElem?_eq_getElem hi3
            obtain ⟨td, rfl, htd⟩ := paired_at hdd4 hx2 hda
            have hdm : (deeds r.three)[i2] ∈ deeds r.three := List.getElem_mem hi3
            generalize (deeds r.three)[i2] = d at *
            have okD := hI.okS S Ks d hIS' hdm
            refine ⟨_, rfl, _, rfl, _, rfl, p, a, td, r, S, d, rfl, hR4.mono (SameN.of wf9.kp), hS7, wf9.kp _ _ htd, okS, nS, fun lt H12 s12 hlt => ?_⟩
            have kp12 := wf9.kp.trans s12
            obtain ⟨kva, la, ysa, nka, hva, hla, pla⟩ := hal.get hdm
            refine ⟨_, rfl, _, rfl, _, rfl, _, rfl, AD, td, kva, ddN d, _, rfl, rfl, nka.mono (SameN.of kp12), (DdAt.nis htd).mono (SameN.of kp12), ddN_depth d, hva, ?_⟩
            refine ⟨_, rfl, _, rfl, p, lt, r, _, rfl, hR4.mono (SameN.of kp12), hlt, okD, fun sv H13 s13 hsv => ?_⟩
            have kp13 := kp12.trans s13
            have hal2 : (alikeOf e (deeds r.three) d).length ≤ 11 := Nat.le_trans (List.length_filter_le _ _) dlen
            refine ⟨p, kd, la, sv, r, Ks, ysa, alikeOf e (deeds r.three) d, shownBy r (done r S d), rfl, hR4.mono (SameN.of kp13), hK7.mono (SameN.of (s12.trans s13)), kp13 _ _ hla, Paired.mapP pla fun _ _ z => z.mono (SameN.of kp13), hsv,
              fun T hT2 => ⟨(hI.okK S Ks T hIS' hT2).1, (hI.okK S Ks T hIS' hT2).2.1⟩, fun T hT2 o ho => hI.okD S Ks T o hIS' hT2 (List.mem_filter.mp ho).1, ?_, fun fd Gs H14 hfd s14 hG bi => ?_⟩
            · have := Nat.mul_le_mul (Nat.le_of_lt hfew) hal2
              omega
            have kp14 := kp13.trans s14
            have s1214 := (s12.trans s13).trans s14
            refine ⟨_, rfl, .inl ⟨rfl, _, SqL.of (s1214 _ _ hFL7)⟩, ?_⟩
            have hl1 : hs.length + 1 ≤ 40001 := by omega
            refine ⟨_, rfl, hT, hs, rfl, .inl (SqT.of (s1214 _ _ hhT7)), _, rfl, ⟨by rw [List.length_append, List.length_singleton]; exact Nat.le_trans hl1 (by decide), fun nt hnt => ?_⟩⟩
            refine ⟨_, rfl, _, rfl, (by show 3 ≤ sizeLine; decide), fun t3 ht3 => ?_⟩
            have s15 : Same H14 (upd H14 nt (.tup (hs ++ [.ref td]))) := same_upd hnt
            have s16 : Same (upd H14 nt (.tup (hs ++ [.ref td]))) (upd (upd H14 nt (.tup (hs ++ [.ref td]))) t3 (.tup [.ref nt, .ref lt, .ref fd])) := same_upd ht3
            have sA := (s1214.trans s15).trans s16
            have wf10 := wf9.same sA
            have hFL8 := sA _ _ hFL7
            have nfd : fd ≠ KD := fun z => by
              obtain ⟨es9, ep9, e9⟩ := wf9.raw
              have := (s12.trans s13) _ _ e9
              rw [← z, hfd] at this
              cases this
            have hit : ItT P w CS KD (upd (upd H14 nt (.tup (hs ++ [.ref td]))) t3 (.tup [.ref nt, .ref lt, .ref fd])) (h + 1) (.ref t3) (done r S d, Gs) :=
              ⟨t3, nt, lt, fd, _, rfl, upd_same, s16 _ _ upd_same, by rw [List.length_append, List.length_singleton, hhs], hlt.mono (SameN.of (((s13.trans s14).trans s15).trans s16)), hG.mono (SameN.of (s15.trans s16)), nfd⟩
            have hz := Paired.length pz7
            refine ⟨FL, zs2, .ref t3, rfl, rfl, hFL8, Nat.lt_of_le_of_lt (show zs2.length ≤ 440011 by omega) (by decide), ?_⟩
            obtain ⟨wf11, sN⟩ := wf10.lst (l' := zs2 ++ [.ref t3]) hFL8 hFLf
            have soF : SameO (upd (upd H14 nt (.tup (hs ++ [.ref td]))) t3 (.tup [.ref nt, .ref lt, .ref fd])) (upd (upd (upd H14 nt (.tup (hs ++ [.ref td]))) t3 (.tup [.ref nt, .ref lt, .ref fd])) FL (.lst (zs2 ++ [.ref t3]))) := SameO.upd fun u e => by rw [hFL8] at e; cases e; rfl
            refine ⟨zs2 ++ [.ref t3], Fs2 ++ [(done r S d, Gs)], _, _, _, _, _, rfl, wf11, by rw [upd_ne (Ne.symm hFA)]; exact sA _ _ hLA7, upd_same, Paired.mapP pit7 fun _ _ z => (z.monoT (.of sA) (.of sA)).monoT (.ofN sN) soF,
              Paired.snoc (Paired.mapP pz7 fun _ _ z => (z.monoT (.of sA) (.of sA)).monoT (.ofN sN) soF) (hit.monoT (.ofN sN) soF), fun S' hS' => ?_, by rw [List.length_append, List.length_singleton]; omega,
              (hS7.mono (SameN.of sA)).monoO soF, (hK7.mono (SameN.of sA)).monoT (.ofN sN) soF hnk, soF _ _ (sA _ _ hhT7) rfl⟩
            rcases List.mem_append.mp hS' with z | z
            · exact hIF2 S' z
            · rw [List.mem_singleton.mp z]; exact hI.step S Ks d Gs hIS' hdm bi hG.nodup
          · rintro σ H11 ⟨zs2, Fs2, o12, o13, o14, o15, o16, rfl, wf9, hLA7, hFL7, pit7, pz7, hIF2, hl2, hS7, hK7, hhT7⟩
            have l1 : ds.length ≤ 11 := by rw [Paired.length hdd4]; exact dlen
            refine ⟨zs2, Fs2, _, _, _, _, _, _, _, _, _, _, rfl, wf9, hLA7, hFL7, pit7, pz7, hIF2, by rw [List.length_append]; omega, fun _ => by rw [List.length_append, List.length_singleton]; omega, by rw [List.length_append, List.length_singleton]; omega⟩
    · rintro σ H4 ⟨zs, Fs, kvs', o8, o9, o10, o11, o12, o13, o14, o15, o16, rfl, wf3, hLA3, hFL3, pit3, pz, hIF, hk1, hk2, hk3⟩
      have hk' := wf3.len
      refine ⟨_, rfl, _, ?_, FL, zs, Fs, h + 1, kvs', _, _, _, _, _, _, _, _, _, _, rfl, wf3, hFLf, hFL3, pz, hIF, fun z => by have := hk2 z; omega, by omega, rfl⟩
      rw [if_neg hSs]
      by_cases z : Fs = []
      · rw [if_pos z]; omega
      · rw [if_neg z]
        have := hk2 z
        omega
end
end K14
end
section
set_option Elab.async false
set_option linter.all false
set_option maxRecDepth 100000
set_option maxHeartbeats 1000000
/-! telling; the law's source of draws. -/
namespace K14
open PySem L2
section
variable {P : Program} {w : World} {K : PySem.W.Frag} {mg : Str → Option Value} {base : Heap} {CR CS : Addr}
theorem scTellingT : FnScope ["rule", "eye"] ["rule", "eye"] (defScope (txt 61)) := ⟨rfl, rfl, rfl, by decide +kernel, rfl, by decide +kernel, by decide +kernel⟩
theorem df_telling (F : FunAt K mg "telling" (txt 61) ["rule", "eye"]) (DI : Df P w K mg base "is_integer" ["thing", "low", "high"] 1 spIsInt) (DT : DfG P w K mg base "telling_of" ["rule", "eye"] 9 (spTelling P w CR)) : DfG P w K mg base "telling" ["rule", "eye"] 10 (spTelling P w CR) := by
  refine F.okG scTellingT (fun vs H Q E h => ?_) (fun f cdv A outer s H vs Q E hr hgd h => ?_)
  · obtain ⟨p, r, e, I, pool, rfl, _⟩ := h
    rfl
  obtain ⟨p, r, e, I, pool, rfl, hR, hI, k⟩ := h
  refine ⟨_, pss_cons (ps_if (PW.pt (pw_and (pt_cmpR op_notN (pv 1) pe_non (nomark _)) (pw_and1 (pt_not (pt_val (pe_df DI (hr.mono (by decide)) rfl (pa_cons (pv 1) (pa_cons pe_int (pa_cons pe_int pa_nil))))))))) (pss_one ps_never) pss_nil)
    (pss_one (ps_ret (pe_dfG DT hr hgd rfl (pa_cons (pv 0) (pa_cons (pv 1) pa_nil))))), ?_⟩
  refine ⟨_, rfl, rfl, _, rfl, ?_⟩
  cases e with
  | none =>
    refine itF rfl (itF rfl ?_)
    exact ⟨_, rfl, _, rfl, p, r, none, I, pool, rfl, hR, hI, k⟩
  | some b =>
    refine itT rfl ?_
    refine ⟨_, rfl, pI b, 0, 1, rfl, (pI_01 b).1, (pI_01 b).2, _, rfl, itF rfl ?_⟩
    exact ⟨_, rfl, _, rfl, p, r, some b, I, pool, rfl, hR, hI, k⟩
/-! ### the source of draws -/
def HvAt (H : Hp) (h l : Addr) : Prop := ∃ (st ix : Int) (cs : List Int), H h = some (.lst [.int st, .ref l, .int ix]) ∧ H l = some (.lst (cs.map V.int)) ∧ h ≠ l ∧ cs.length ≤ 63 ∧ 0 ≤ st ∧ st < 2147483647 ∧ 0 ≤ ix
/-- all but the source is kept -/
def KpH (h l : Addr) (H H' : Hp) : Prop := ∀ b o, b ≠ h → b ≠ l → H b = some o → H' b = some o
theorem KpH.refl (h l : Addr) (H : Hp) : KpH h l H H := fun _ _ _ _ e => e
theorem KpH.of {h l : Addr} {H H' : Hp} (s : Same H H') : KpH h l H H' := fun b o _ _ e => s b o e
theorem KpH.trans {h l : Addr} {H H1 H2 : Hp} (s : KpH h l H H1) (t : KpH h l H1 H2) : KpH h l H H2 := fun b o n1 n2 e => t b o n1 n2 (s b o n1 n2 e)
theorem HvAt.same {h l : Addr} {H H' : Hp} (s : Same H H') (a : HvAt H h l) : HvAt H' h l := by
  obtain ⟨st, ix, cs, h1, h2, r⟩ := a
  exact ⟨st, ix, cs, s _ _ h1, s _ _ h2, r⟩
theorem HvAt.ne {h l b : Addr} {H : Hp} {o : HO} (a : HvAt H h l) (e : H b = some o) (n : ∀ xs, o ≠ .lst xs) : b ≠ h ∧ b ≠ l := by
  obtain ⟨st, ix, cs, h1, h2, r⟩ := a
  exact ⟨fun z => by (rw [z, h1] at e; cases e; exact n _ rfl), fun z => by (rw [z, h2] at e; cases e; exact n _ rfl)⟩
theorem HvAt.new {h l b : Addr} {H : Hp} (a : HvAt H h l) (e : H b = none) : b ≠ h ∧ b ≠ l := by
  obtain ⟨st, ix, cs, h1, h2, r⟩ := a
  exact ⟨fun z => by (rw [z, h1] at e; cases e), fun z => by (rw [z, h2] at e; cases e)⟩
/-- what is no list is kept -/
theorem KpH.sn {h l : Addr} {H H' : Hp} (a : HvAt H h l) (s : KpH h l H H') : SameN H H' := fun b o e n => s b o (a.ne e n).1 (a.ne e n).2 e
def spMix (K : PySem.W.Frag) : Sp := fun vs H Q _ => ∃ (a : Addr) (ns : List Int), vs = [.ref a, .int 14] ∧ SqL K H a (ns.map V.int) ∧ ns.length ≤ 63 ∧ ∀ h l H', Same H H' → HvAt H' h l → H h = none → H l = none → Q (.ref h) H'
theorem scMix : FnScope ["_law_script", "_law_seed", "_law_state", "_law_cell"] ["_law_script", "_law_seed"] (defScope (txt 63)) := ⟨rfl, rfl, rfl, by decide +kernel, rfl, by decide +kernel, by decide +kernel⟩
theorem df_mix (T : Txt K w mg CR CS) (F : FunAt K mg "_law_mix" (txt 63) ["_law_script", "_law_seed"]) : Df P w K mg base "_law_mix" ["_law_script", "_law_seed"] 1 (spMix K) := by
  refine F.ok scMix (fun vs H Q E h => ?_) (fun f cdv A outer s H vs Q E hr h => ?_)
  · obtain ⟨a, ns, rfl, _⟩ := h
    rfl
  obtain ⟨a, ns, rfl, hS, hl, k⟩ := h
  refine ⟨_, pss_cons (ps_set (i := 2) scMix.nd rfl (Or.inl rfl) (pv 1))
    (pss_cons (ps_for PassesOwn.never rfl (pi_list (pv 0)) (pg_name (i := 3) scMix.nd rfl (Or.inl rfl))
      (pss_one (ps_set (i := 2) scMix.nd rfl (Or.inl rfl) (pe_op op_mod (pe_callTy call_int1 (by rfl) T.int (by decide +kernel) (pa_cons (pe_op op_add (pe_op op_add (pe_op op_mul (pv 2) pe_int)
        (pe_op op_mod (pe_callTy call_int1 (by rfl) T.int (by decide +kernel) (pa_cons (pv 3) pa_nil)) pe_int)) pe_int) pa_nil)) pe_int))))
    (pss_one (ps_ret (pe_lst (pa_cons (pv 2) (pa_cons (pe_callTy call_list_of (by rfl) T.list (by decide +kernel) (pa_cons (pv 0) pa_nil)) (pa_cons pe_int pa_nil))))))), ?_⟩
  refine ⟨_, rfl, _, rfl, a, rfl, ⟨_, hS⟩, ?_⟩
  refine for_it (walk_list (K := K) (a := a) (xs := ns.map V.int)) (fun i σ H1 => H1 = H ∧ ∃ (st : Int) (x3 : Option V), σ = [some (.ref a), some (.int 14), some (.int st), x3] ∧ 0 ≤ st ∧ st < 2147483647) ?_ (fun i σ H1 _ h => by rw [h.1]; exact hS) ?_ ?_
  · exact ⟨rfl, 14, _, rfl, by decide, by decide⟩
  · rintro i x σ H1 H1' hi ⟨rfl, st, x3, rfl, h1, h2⟩ ⟨rfl, hx⟩
    have hx : (ns.map V.int)[i]? = some x := hx
    rw [List.getElem?_map] at hx
    obtain ⟨c, hc, rfl⟩ := Option.map_eq_some_iff.mp hx
    refine ⟨_, rfl, _, _, rfl, rfl, .inl ⟨by omega, by omega⟩, _, rfl, .inl ⟨_, rfl, _, _, rfl, rfl, (by show (0 : Int) < 2147483629; decide), _, _, rfl, rfl, _, _, rfl, rfl, .inl ⟨_, rfl, _, _, rfl, rfl, (by show (0 : Int) < 2147483647; decide), ?_⟩⟩⟩
    exact ⟨rfl, _, _, rfl, Int.emod_nonneg _ (by decide), Int.emod_lt_of_pos _ (by decide)⟩
  · rintro σ H1 ⟨rfl, st, x3, rfl, h1, h2⟩
    refine ⟨_, rfl, _, rfl, a, _, rfl, .inl hS, fun l hl0 => ⟨(by show 3 ≤ sizeLine; decide), fun h hh => ?_⟩⟩
    have ne : h ≠ l := fun z => by rw [z, upd_same] at hh; cases hh
    have hh0 : H1 h = none := by rw [upd_ne ne] at hh; exact hh
    exact k h l _ ((same_upd hl0).trans (same_upd hh)) ⟨st, 0, ns, upd_same, by rw [upd_ne (Ne.symm ne), upd_same], ne, hl, h1, h2, by decide⟩ hh0 hl0
def spNext : Sp := fun vs H Q _ => ∃ (h l : Addr) (cap : Int), vs = [.ref h, .int cap] ∧ HvAt H h l ∧ 0 < cap ∧ cap < 1000 ∧ ∀ n H', 0 ≤ n → n < cap → HvAt H' h l → KpH h l H H' → Q (.int n) H'
theorem scNext : FnScope ["_law_h", "_law_cap", "_law_cell"] ["_law_h", "_law_cap"] (defScope (txt 64)) := ⟨rfl, rfl, rfl, by decide +kernel, rfl, by decide +kernel, by decide +kernel⟩
theorem df_next (T : Txt K w mg CR CS) (F : FunAt K mg "_law_next" (txt 64) ["_law_h", "_law_cap"]) : Df P w K mg base "_law_next" ["_law_h", "_law_cap"] 1 spNext := by
  refine F.ok scNext (fun vs H Q E h => ?_) (fun f cdv A outer s H vs Q E hr h => ?_)
  · obtain ⟨h, l, cap, rfl, _⟩ := h
    rfl
  obtain ⟨h, l, cap, rfl, ⟨st, ix, cs, e1, e2, ne, hz, b1, b2, b3⟩, c1, c2, k⟩ := h
  refine ⟨_, pss_cons (ps_set (i := 2) scNext.nd rfl (Or.inl rfl) (pe_ix ix_list (pe_op op_cat (pe_ix ix_list (pv 0) pe_int (fun _ _ => rfl)) (pe_lst (pa_cons pe_int pa_nil)))
      (pe_op op_mod (pe_callTy call_int1 (by rfl) T.int (by decide +kernel) (pa_cons (pe_ix ix_list (pv 0) pe_int (fun _ _ => rfl)) pa_nil)) (pe_callB (call_max2 rfl) (by rfl) T.max (by decide +kernel) (pa_cons pe_int (pa_cons (pe_callB call_len_seq (by rfl) T.len PySem.boot_len (pa_cons (pe_ix ix_list (pv 0) pe_int (fun _ _ => rfl)) pa_nil)) pa_nil)))) (fun _ _ => rfl)))
    (pss_cons (ps_if (pt_cmpR op_ge (pv 2) (pe_op op_pow pe_int pe_int) (nomark _))
      (pss_cons (ps_asg (pe_op op_fdiv (pv 2) (pv 1)) (pg_sub (pe_ix ix_list (pv 0) pe_int (fun _ _ => rfl)) (pe_op op_mod (pe_callTy call_int1 (by rfl) T.int (by decide +kernel) (pa_cons (pe_ix ix_list (pv 0) pe_int (fun _ _ => rfl)) pa_nil)) (pe_callB call_len_seq (by rfl) T.len PySem.boot_len (pa_cons (pe_ix ix_list (pv 0) pe_int (fun _ _ => rfl)) pa_nil))) set_list))
      (pss_one (ps_ret (pe_op op_mod (pe_callTy call_int1 (by rfl) T.int (by decide +kernel) (pa_cons (pv 2) pa_nil)) (pv 1))))) pss_nil)
    (pss_cons (ps_asg (pe_op op_mod (pe_callTy call_int1 (by rfl) T.int (by decide +kernel) (pa_cons (pe_op op_add (pe_op op_add (pe_op op_mul (pe_ix ix_list (pv 0) pe_int (fun _ _ => rfl)) pe_int) (pe_op op_mul (pv 2) pe_int)) pe_int) pa_nil)) pe_int) (pg_sub (pv 0) pe_int set_list))
    (pss_cons (ps_asg (pe_op op_add (pe_ix ix_list (pv 0) pe_int (fun _ _ => rfl)) pe_int) (pg_sub (pv 0) pe_int set_list))
    (pss_one (ps_ret (pe_op op_mod (pe_callTy call_int1 (by rfl) T.int (by decide +kernel) (pa_cons (pe_op op_fdiv (pe_ix ix_list (pv 0) pe_int (fun _ _ => rfl)) pe_int) pa_nil)) (pv 1))))))), ?_⟩
  have q1 : ∀ {H' : Hp}, Same H H' → SqL K H' h [.int st, .ref l, .int ix] := fun s => SqL.of (s _ _ e1)
  have q2 : ∀ {H' : Hp}, Same H H' → SqL K H' l (cs.map V.int) := fun s => SqL.of (s _ _ e2)
  refine ⟨_, rfl, h, _, _, _, rfl, rfl, q1 (Same.refl H), rfl, (by show 1 ≤ sizeLine; decide), fun z hz0 => ?_⟩
  have s1 : Same H (upd H z (.lst [.int 0])) := same_upd hz0
  refine ⟨l, z, _, _, rfl, rfl, s1 _ _ e2, upd_same, Nat.le_trans (by rw [List.length_map]; exact Nat.succ_le_succ hz) (by decide : 64 ≤ sizeLine), fun t ht => ?_⟩
  have s2 : Same (upd H z (.lst [.int 0])) (upd (upd H z (.lst [.int 0])) t (.lst (cs.map V.int ++ [.int 0]))) := same_upd ht
  have s12 := s1.trans s2
  refine ⟨_, rfl, h, _, _, _, rfl, rfl, q1 s12, rfl, .inl ⟨_, rfl, ?_⟩⟩
  refine ⟨_, rfl, h, _, _, _, rfl, rfl, q1 s12, rfl, l, _, rfl, .inl (q2 s12), _, _, rfl, ?_⟩
  rw [List.length_map]
  have m1 : (1 : Int) ≤ (if ((cs.length : Nat) : Int) > 1 then ((cs.length : Nat) : Int) else 1) ∧ (if ((cs.length : Nat) : Int) > 1 then ((cs.length : Nat) : Int) else 1) ≤ (cs.length : Int) + 1 ∧ ((0 : Int) < cs.length → (if ((cs.length : Nat) : Int) > 1 then ((cs.length : Nat) : Int) else 1) = (cs.length : Int)) := by
    split <;> omega
  generalize (if ((cs.length : Nat) : Int) > 1 then ((cs.length : Nat) : Int) else 1) = m at *
  refine ⟨_, _, rfl, rfl, (by show (0 : Int) < m; omega), ?_⟩
  have k1 := Int.emod_nonneg ix (show m ≠ 0 by omega)
  have k2 := Int.emod_lt_of_pos ix (show 0 < m by omega)
  obtain ⟨j, ej⟩ : ∃ j : Nat, ix % m = (j : Int) := ⟨(ix % m).toNat, by omega⟩
  have hk : j < (cs ++ [0]).length := by rw [List.length_append, List.length_singleton]; omega
  have ecs : cs.map V.int ++ [.int 0] = (cs ++ [0]).map V.int := by rw [List.map_append]; rfl
  have hat : atI (cs.map V.int ++ [.int 0]) (ix % m) = some (.int ((cs ++ [0])[j]'hk)) := by
    rw [ecs, ej]
    exact atI_nat (by rw [List.getElem?_map, List.getElem?_eq_getElem hk]; rfl)
  refine ⟨t, _, _, _, rfl, rfl, SqL.of upd_same, hat, ?_⟩
  have hcell : (0 : Int) < cs.length ∨ (cs ++ [0])[j]'hk = 0 := by
    by_cases c : 0 < cs.length
    · exact .inl (by omega)
    · have : cs = [] := List.eq_nil_of_length_eq_zero (by omega)
      subst this
      refine .inr ?_
      have h0 : j = 0 := by
        rw [List.length_append, List.length_singleton] at hk
        exact Nat.lt_one_iff.mp hk
      simp [h0]
  generalize (cs ++ [0])[j]'hk = c at *
  have e3 : (upd (upd H z (.lst [.int 0])) t (.lst (cs.map V.int ++ [.int 0]))) h = some (.lst [.int st, .ref l, .int ix]) := s12 _ _ e1
  have e4 : (upd (upd H z (.lst [.int 0])) t (.lst (cs.map V.int ++ [.int 0]))) l = some (.lst (cs.map V.int)) := s12 _ _ e2
  generalize upd (upd H z (.lst [.int 0])) t (.lst (cs.map V.int ++ [.int 0])) = H3 at *
  clear hat hk ej s1 s2 hz0 ht
  refine ⟨_, rfl, _, _, rfl, rfl, ⟨by decide, by decide, by decide⟩, _, _, rfl, rfl, _, rfl, ?_⟩
  by_cases hc : (10 : Int) ^ (18 : Int).toNat ≤ c
  · refine itT (decide_eq_true hc) ?_
    have hn : (0 : Int) < cs.length := by
      rcases hcell with z | z
      · exact z
      · rw [z] at hc
        exact absurd hc (by decide)
    have em := m1.2.2 hn
    subst em
    refine ⟨_, rfl, _, rfl, _, _, rfl, rfl, ⟨c1, by omega⟩, ?_⟩
    refine ⟨_, rfl, h, _, _, _, rfl, rfl, SqL.of e3, rfl, ?_⟩
    refine ⟨_, rfl, h, _, _, _, rfl, rfl, SqL.of e3, rfl, .inl ⟨_, rfl, ?_⟩⟩
    refine ⟨_, rfl, h, _, _, _, rfl, rfl, SqL.of e3, rfl, l, _, rfl, .inl (SqL.of e4), ?_⟩
    rw [List.length_map]
    refine ⟨_, _, rfl, rfl, hn, ?_⟩
    refine ⟨l, _, _, (ix % (cs.length : Int)).toNat, rfl, rfl, e4, ?_, ?_⟩
    · unfold ixN
      rw [List.length_map, if_pos k1, if_pos k2]
    · refine ⟨_, rfl, .inl ⟨_, rfl, _, rfl, _, _, rfl, rfl, c1, ?_⟩⟩
      refine k _ _ (Int.emod_nonneg _ (by omega)) (Int.emod_lt_of_pos _ c1) ⟨st, ix, cs.set (ix % (cs.length : Int)).toNat (c / cap), ?_, ?_, ne, by rw [List.length_set]; exact hz, b1, b2, b3⟩ fun b o n1 n2 e => ?_
      · rw [upd_ne ne]; exact e3
      · rw [upd_same, List.map_set]
      · rw [upd_ne n2]; exact s12 _ _ e
  · refine itF (decide_eq_false hc) ?_
    refine ⟨_, rfl, h, _, _, _, rfl, rfl, SqL.of e3, rfl, _, _, rfl, rfl, .inl ⟨by omega, by omega⟩, _, rfl, _, _, rfl, rfl, .inr ⟨by decide, by decide⟩, _, _, rfl, rfl, _, _, rfl, rfl, .inl ⟨_, rfl, _, _, rfl, rfl, (by show (0 : Int) < 2147483647; decide), ?_⟩⟩
    have d1 : 0 ≤ (st * 48271 + c * 69621 + 11) % 2147483647 := Int.emod_nonneg _ (by decide)
    have d2 : (st * 48271 + c * 69621 + 11) % 2147483647 < 2147483647 := Int.emod_lt_of_pos _ (by decide)
    refine ⟨_, rfl, h, _, _, 0, rfl, rfl, e3, rfl, ?_⟩
    have e5 : ∀ v : V, (upd H3 h (.lst ([.int st, .ref l, .int ix].set 0 v))) h = some (.lst [v, .ref l, .int ix]) := fun v => upd_same
    refine ⟨_, rfl, h, _, _, _, rfl, rfl, SqL.of (e5 _), rfl, _, _, rfl, rfl, _, rfl, h, _, _, 2, rfl, rfl, e5 _, rfl, ?_⟩
    have e6 : ∀ (G : Hp) (v u : V), (upd G h (.lst ([v, .ref l, .int ix].set 2 u))) h = some (.lst [v, .ref l, u]) := fun G v u => upd_same
    refine ⟨_, rfl, h, _, _, _, rfl, rfl, SqL.of (e6 _ _ _), rfl, _, _, rfl, rfl, ⟨by decide, by decide⟩, .inl ⟨_, rfl, _, rfl, _, _, rfl, rfl, c1, ?_⟩⟩
    refine k _ _ (Int.emod_nonneg _ (by omega)) (Int.emod_lt_of_pos _ c1) ⟨_, ix + 1, cs, e6 _ _ _, ?_, ne, hz, d1, d2, by omega⟩ fun b o n1 n2 e => ?_
    · rw [upd_ne (Ne.symm ne), upd_ne (Ne.symm ne)]; exact e4
    · rw [upd_ne n1, upd_ne n1]; exact s12 _ _ e
end
end K14
end
section
set_option Elab.async false
set_option linter.all false
set_option maxRecDepth 100000
/-! Plain laws: finite lists of rows, growth of what is kept, persons exchanged. -/
namespace K14
/-! ### rows as a finite list -/
def rwsL (three stay : Bool) : List Rw :=
  .struck :: (marksTo three).flatMap fun m => ([false, true] : List Bool).flatMap fun o => (if stay then [false, true] else [false]).map fun s => .mk m o s
theorem marks_mem {three : Bool} {m : Int} (h1 : 1 ≤ m) (h2 : m ≤ (if three = true then 3 else 2)) : m ∈ marksTo three := by
  cases three
  · have : m = 1 ∨ m = 2 := by simp at h2; omega
    rcases this with rfl | rfl <;> decide
  · have : m = 1 ∨ m = 2 ∨ m = 3 := by simp at h2; omega
    rcases this with rfl | rfl | rfl <;> decide
theorem rw_mem {three stay : Bool} {x : Rw} (h : rwOk (if three = true then 3 else 2) stay x = true) : x ∈ rwsL three stay := by
  cases x with
  | struck => exact List.mem_cons_self
  | mk m o s =>
    simp only [rwOk, Bool.and_eq_true, decide_eq_true_eq, Bool.or_eq_true, Bool.not_eq_true'] at h
    obtain ⟨⟨h1, h2⟩, h3⟩ := h
    refine List.mem_cons_of_mem _ ?_
    simp only [List.mem_flatMap, List.mem_map]
    refine ⟨m, marks_mem h1 h2, o, by cases o <;> simp, s, ?_, rfl⟩
    cases stay <;> cases s <;> simp at *
def rowsL (L : List Rw) : List Rows :=
  [] :: ((([false, true] : List Bool).flatMap fun p => L.map fun x => [(p, x)]) ++ (([false, true] : List Bool).flatMap fun p => L.flatMap fun x => L.map fun y => [(p, x), (!p, y)]))
theorem bool_mem (b : Bool) : b ∈ ([false, true] : List Bool) := by cases b <;> simp
theorem rows_mem {L : List Rw} {rows : Rows} (hn : nd2 rows = true) (h : ∀ x ∈ rows, x.2 ∈ L) : rows ∈ rowsL L := by
  rcases nd2_cases hn with rfl | ⟨p, x, rfl⟩ | ⟨p, x, y, rfl⟩
  · exact List.mem_cons_self
  · refine List.mem_cons_of_mem _ (List.mem_append_left _ ?_)
    simp only [List.mem_flatMap, List.mem_map]
    exact ⟨p, bool_mem p, x, h (p, x) (by simp), rfl⟩
  · refine List.mem_cons_of_mem _ (List.mem_append_right _ ?_)
    simp only [List.mem_flatMap, List.mem_map]
    exact ⟨p, bool_mem p, x, h (p, x) (by simp), y, h (!p, y) (by simp), rfl⟩
theorem rowsOk_mem {three stay : Bool} {rows : Rows} (h : rowsOk (if three = true then 3 else 2) stay rows = true) : rows ∈ rowsL (rwsL three stay) := by
  rw [rowsOk_iff] at h
  refine rows_mem h.2 fun x hx => rw_mem ?_
  exact List.all_eq_true.mp h.1 x hx
theorem ru_top (r : Ru) : r.top = if r.three = true then 3 else 2 := rfl
theorem nd2_lenP {rows : Rows} (h : nd2 rows = true) : rows.length ≤ 2 := by
  rcases nd2_cases h with rfl | ⟨p, x, rfl⟩ | ⟨p, x, y, rfl⟩ <;> simp
theorem rowsOk_nd {top : Int} {stay : Bool} {rows : Rows} (h : rowsOk top stay rows = true) : nd2 rows = true := (rowsOk_iff.mp h).2
theorem cnt_len : ∀ rows : Rows, (cnt rows).length ≤ rows.length
  | [] => Nat.le_refl _
  | (_, .struck) :: r => Nat.le_succ_of_le (cnt_len r)
  | (_, .mk _ _ _) :: r => Nat.succ_le_succ (cnt_len r)
theorem many_two {rows : Rows} (h : nd2 rows = true) : many rows ≤ 2 := Nat.le_trans (cnt_len rows) (nd2_lenP h)
theorem many_pos {p : Bool} {m : Int} {o s : Bool} : ∀ {rows : Rows}, rowAt rows p = some (.mk m o s) → 1 ≤ many rows
  | [], h => by simp [rowAt] at h
  | (q, .struck) :: r, h => by
    unfold rowAt at h
    split at h
    · cases h
    · exact many_pos (rows := r) h
  | (q, .mk _ _ _) :: r, _ => by simp [many, cnt]
theorem elder_le (rows : Rows) (p : Bool) : b01 (markAt rows p).isSome ≤ (many rows : Int) := by
  cases h : markAt rows p with
  | none => simp [b01]
  | some m =>
    obtain ⟨o, e⟩ := markAt_some h
    have := many_pos e
    simp only [b01, Option.isSome_some, if_true]
    omega
theorem rowsOk_marks {three stay : Bool} {rows : Rows} (h : rowsOk (if three = true then 3 else 2) stay rows = true) : ∀ p m o s, (p, Rw.mk m o s) ∈ rows → 1 ≤ m ∧ m ≤ 3 := by
  intro p m o s hm
  have := List.all_eq_true.mp (rowsOk_iff.mp h).1 _ hm
  simp only [rwOk, Bool.and_eq_true, decide_eq_true_eq] at this
  cases three <;> simp at this <;> omega
theorem sgOk_of {three stay : Bool} {S : Sg} (h : rowsOk (if three = true then 3 else 2) stay S.rows = true) (k : KpOk 20 S.kept) : SgOk S ∧ nd2 S.rows = true :=
  ⟨⟨nd2_lenP (rowsOk_nd h), rowsOk_marks h, k⟩, rowsOk_nd h⟩
theorem rows_done' {r : Ru} {S : Sg} {d : Dd} (h : rowsOk r.top r.stay S.rows = true) (hd : d ∈ deeds r.three) : rowsOk r.top r.stay (done r S d).rows = true := by
  rw [done_rows]
  exact rows_done h (deeds_ok r.three d hd)
/-! ### what is kept grows slowly -/
def KpB (B : Int) (k : Option (Int × Int)) : Prop := ∀ a b, k = some (a, b) → 1 ≤ b ∧ b ≤ B ∧ b ≤ a ∧ a ≤ 3 * b
theorem KpB.none {B : Int} : KpB B none := fun _ _ e => nomatch e
theorem KpB.mono {B C : Int} {k : Option (Int × Int)} (h : KpB B k) (l : B ≤ C) : KpB C k := fun a b e => by
  obtain ⟨h1, h2, h3, h4⟩ := h a b e
  exact ⟨h1, by omega, h3, h4⟩
theorem KpB.ok {n : Nat} {B : Int} {k : Option (Int × Int)} (h : KpB B k) (l : B ≤ 2 ^ n) : KpOk n k := fun a b e => by
  obtain ⟨h1, h2, h3, h4⟩ := h a b e
  exact ⟨h1, Int.le_trans h2 l, h3, h4⟩
theorem top_23 (r : Ru) : r.top = 2 ∨ r.top = 3 := by unfold Ru.top; cases r.three <;> simp
theorem bounded_kp {r : Ru} {n : Int × Int} {B : Int} (h1 : 1 ≤ n.2) (h2 : n.2 ≤ B) : KpB B (some (bounded r n)) := by
  intro a b e
  unfold bounded at e
  split at e
  · cases e; omega
  · split at e
    · cases e
      rcases top_23 r with q | q <;> rw [q] <;> omega
    · cases e
      rename_i c1 c2
      dsimp only at *
      rcases top_23 r with q | q <;> rw [q] at c2 <;> omega
theorem number_den {a b : Int} (h : 1 ≤ b) : 1 ≤ (numberOf a b).2 ∧ (numberOf a b).2 ≤ b := by
  unfold numberOf gcdI
  dsimp only
  have hg : 0 < Int.gcd a b := Int.gcd_pos_of_ne_zero_right _ (by omega)
  have hd : ((Int.gcd a b : Nat) : Int) ∣ b := Int.gcd_dvd_right _ _
  generalize Int.gcd a b = g at *
  obtain ⟨c, rfl⟩ := hd
  have hgi : (0 : Int) < (g : Int) := by omega
  rw [Int.mul_ediv_cancel_left _ (by omega)]
  have hc : 0 < c := by
    rcases Int.lt_or_le 0 c with q | q
    · exact q
    · have := Int.mul_nonpos_of_nonneg_of_nonpos (Int.le_of_lt hgi) q
      omega
  refine ⟨hc, ?_⟩
  have := Int.mul_le_mul_of_nonneg_right (show (1 : Int) ≤ g by omega) (Int.le_of_lt hc)
  omega
theorem cut_den {c : Cut} {a b B : Int} (h : 1 ≤ b) (hb : b ≤ B) (h2 : 2 ≤ B) : 1 ≤ (cutDown c a b).2 ∧ (cutDown c a b).2 ≤ B := by
  cases c with
  | exact => have := number_den (a := a) h; unfold cutDown; dsimp only; omega
  | half => have := number_den (a := 2 * a / b) (b := 2) (by omega); unfold cutDown; dsimp only; omega
  | whole => have := number_den (a := 1 * a / b) (b := 1) (by omega); unfold cutDown; dsimp only; omega
theorem worked_kp {r : Ru} {kept : Option (Int × Int)} {n : Int} {elder mark : Option Int} {B : Int} (hB : 1 ≤ B) (hk : KpB B kept) (hn : n ≤ 2) (he : b01 elder.isSome ≤ n) (hm : ∀ m, mark = some m → 1 ≤ m ∧ m ≤ 3) :
    KpB (3 * B) (workedOn r kept n elder mark) := by
  unfold workedOn
  split
  · exact KpB.none
  · rename_i hl
    have l1 : 1 ≤ leftOf n elder mark ∧ leftOf n elder mark ≤ 3 := by
      unfold leftOf at *
      have a1 : 0 ≤ b01 mark.isSome ∧ b01 mark.isSome ≤ 1 := by unfold b01; split <;> omega
      have a2 : 0 ≤ b01 elder.isSome := by unfold b01; split <;> omega
      omega
    generalize leftOf n elder mark = l at *
    cases r.meas with
    | count => intro a b e; cases e; omega
    | best =>
      dsimp only
      unfold bestOf
      split
      · exact hk.mono (by omega)
      · rename_i m
        obtain ⟨m1, m2⟩ := hm m rfl
        split
        · intro a b e; cases e; omega
        · split
          · exact hk.mono (by omega)
          · intro a b e; cases e; omega
    | mean =>
      dsimp only
      have k1 : 1 ≤ (kept.getD (0, 1)).2 ∧ (kept.getD (0, 1)).2 ≤ B := by
        cases kept with
        | none => simp; exact hB
        | some k => obtain ⟨x, y⟩ := k; have := hk x y rfl; simp; omega
      generalize (kept.getD (0, 1)).2 = k2 at *
      have d1 : 1 ≤ k2 * l := by
        have := Int.mul_le_mul k1.1 l1.1 (by omega) (by omega)
        omega
      have d2 : k2 * l ≤ 3 * B := by
        have := Int.mul_le_mul k1.2 l1.2 (by omega) (by omega)
        omega
      have := cut_den (c := r.cut) (a := (kept.getD (0, 1)).1 * n + (mark.getD 0 - elder.getD 0) * k2) d1 d2 (by omega)
      exact bounded_kp this.1 this.2
theorem keptBy_kp {r : Ru} {S : Sg} {p : Bool} {mark : Option Int} {B : Int} (hB : 1 ≤ B) (hk : KpB B S.kept) (hn : nd2 S.rows = true) (hm : ∀ m, mark = some m → 1 ≤ m ∧ m ≤ 3) : KpB (3 * B) (keptBy r S (markAt S.rows p) mark) := by
  unfold keptBy
  split
  · have := many_two hn
    exact worked_kp hB hk (by omega) (elder_le _ _) hm
  · exact KpB.none
theorem done_kp {r : Ru} {S : Sg} {d : Dd} {B : Int} (hB : 1 ≤ B) (hk : KpB B S.kept) (hn : nd2 S.rows = true) (hd : d ∈ deeds r.three) : KpB (3 * B) (done r S d).kept := by
  have h0 : KpB (3 * B) S.kept := hk.mono (by omega)
  have hdd := deeds_ok r.three d hd
  cases d with
  | night => exact h0
  | give p m =>
    unfold done; dsimp only
    split
    · exact h0
    · refine keptBy_kp hB hk hn fun m' e => ?_
      cases e
      simp only [ddOk, Bool.and_eq_true, decide_eq_true_eq] at hdd
      revert hdd
      cases r.three <;> simp <;> omega
  | back p =>
    unfold done; dsimp only
    split
    · exact h0
    · split
      · exact h0
      · exact keptBy_kp hB hk hn fun m' e => nomatch e
  | strike p =>
    unfold done struckOne; dsimp only
    split
    · exact h0
    · split
      · exact h0
      · rename_i m e
        split
        · exact h0
        · rw [← e]; exact keptBy_kp hB hk hn fun m' e => nomatch e
/-- behind a history -/
theorem hist_ok {r : Ru} : ∀ (ds : List Dd) (S : Sg) (B : Int), 1 ≤ B → (∀ d ∈ ds, d ∈ deeds r.three) → KpB B S.kept → rowsOk r.top r.stay S.rows = true →
    KpB (3 ^ ds.length * B) (ds.foldl (done r) S).kept ∧ rowsOk r.top r.stay (ds.foldl (done r) S).rows = true
  | [], S, B, _, _, hk, h => ⟨by simpa using hk, h⟩
  | d :: ds, S, B, hB, hd, hk, h => by
    have hd1 := hd d List.mem_cons_self
    have q := hist_ok ds (done r S d) (3 * B) (by omega) (fun x hx => hd x (List.mem_cons_of_mem _ hx)) (done_kp hB hk (rowsOk_nd h) hd1) (rows_done' h hd1)
    refine ⟨?_, q.2⟩
    rw [List.foldl_cons, List.length_cons, Int.pow_succ, Int.mul_assoc]
    exact q.1
theorem first_rows (top : Int) (stay : Bool) : rowsOk top stay first.rows = true := by simp [first, rowsOk]
/-! ### persons exchanged -/
def swD : Dd → Dd
  | .give p m => .give (!p) m
  | .back p => .back (!p)
  | .strike p => .strike (!p)
  | .night => .night
def swR (rows : Rows) : Rows := rows.map fun x => (!x.1, x.2)
def swS (S : Sg) : Sg := ⟨swR S.rows, S.kept⟩
theorem cnt_sw : ∀ rows : Rows, cnt (swR rows) = cnt rows
  | [] => rfl
  | (p, .struck) :: r => cnt_sw r
  | (p, .mk m o s) :: r => congrArg ((m, o, s) :: ·) (cnt_sw r)
theorem rowAt_sw (p : Bool) : ∀ rows : Rows, rowAt (swR rows) (!p) = rowAt rows p
  | [] => rfl
  | (q, x) :: r => by
    have ih := rowAt_sw p r
    show (if (!q) = (!p) then some x else rowAt (swR r) (!p)) = if q = p then some x else rowAt r p
    rw [ih]
    cases p <;> cases q <;> rfl
theorem putR_sw (p : Bool) (y : Rw) : ∀ rows : Rows, putR (swR rows) (!p) y = swR (putR rows p y)
  | [] => rfl
  | (q, x) :: r => by
    have ih := putR_sw p y r
    show (if (!q) = (!p) then (!q, y) :: swR r else (!q, x) :: putR (swR r) (!p) y) = swR (if q = p then (q, y) :: r else (q, x) :: putR r p y)
    rw [ih]
    cases p <;> cases q <;> rfl
theorem dropR_sw (p : Bool) : ∀ rows : Rows, dropR (swR rows) (!p) = swR (dropR rows p)
  | [] => rfl
  | (q, x) :: r => by
    have ih := dropR_sw p r
    show (if (!q) = (!p) then dropR (swR r) (!p) else (!q, x) :: dropR (swR r) (!p)) = swR (if q = p then dropR r p else (q, x) :: dropR r p)
    rw [ih]
    cases p <;> cases q <;> rfl
theorem struckAt_sw (p : Bool) (rows : Rows) : struckAt (swR rows) (!p) = struckAt rows p := by unfold struckAt; rw [rowAt_sw]
theorem markAt_sw (p : Bool) (rows : Rows) : markAt (swR rows) (!p) = markAt rows p := by unfold markAt; rw [rowAt_sw]
theorem oldAt_sw (p : Bool) (rows : Rows) : oldAt (swR rows) (!p) = oldAt rows p := by unfold oldAt; rw [rowAt_sw]
theorem keptBy_sw (r : Ru) (S : Sg) (a b : Option Int) : keptBy r (swS S) a b = keptBy r S a b := by
  unfold keptBy many swS
  dsimp only
  rw [cnt_sw]
theorem shownBy_sw (r : Ru) (S : Sg) : shownBy r (swS S) = shownBy r S := by
  unfold shownBy many swS
  dsimp only
  rw [cnt_sw]
theorem night_sw (S : Sg) : night (swS S) = swS (night S) := by
  unfold night swS swR
  simp
theorem done_sw (r : Ru) (S : Sg) (d : Dd) : done r (swS S) (swD d) = swS (done r S d) := by
  cases d with
  | night => exact night_sw S
  | give p m =>
    show (if struckAt (swR S.rows) (!p) = true then swS S else marked r (swS S) (!p) m) = swS (if struckAt S.rows p = true then S else marked r S p m)
    rw [struckAt_sw]
    split
    · rfl
    · show Sg.mk (putR (swR S.rows) (!p) _) (keptBy r (swS S) (markAt (swR S.rows) (!p)) (some m)) = swS (marked r S p m)
      rw [putR_sw, markAt_sw, keptBy_sw]
      rfl
  | back p =>
    show (if struckAt (swR S.rows) (!p) = true then swS S else match markAt (swR S.rows) (!p) with | none => swS S | some _ => takenBack r (swS S) (!p)) = swS (if struckAt S.rows p = true then S else match markAt S.rows p with | none => S | some _ => takenBack r S p)
    rw [struckAt_sw, markAt_sw]
    split
    · rfl
    · cases h : markAt S.rows p with
      | none => rfl
      | some m =>
        show Sg.mk (dropR (swR S.rows) (!p)) (keptBy r (swS S) (markAt (swR S.rows) (!p)) none) = swS (takenBack r S p)
        rw [dropR_sw, markAt_sw, keptBy_sw]
        rfl
  | strike p =>
    show (if struckAt (swR S.rows) (!p) = true then swS S else struckOne r (swS S) (!p)) = swS (if struckAt S.rows p = true then S else struckOne r S p)
    rw [struckAt_sw]
    split
    · rfl
    · unfold struckOne
      have em : markAt (swS S).rows (!p) = markAt S.rows p := markAt_sw p S.rows
      have eo : oldAt (swS S).rows (!p) = oldAt S.rows p := oldAt_sw p S.rows
      rw [em, eo]
      cases h : markAt S.rows p with
      | none =>
        show Sg.mk (putR (swR S.rows) (!p) _) S.kept = _
        rw [putR_sw]
        rfl
      | some m =>
        dsimp only
        cases r.stay with
        | true =>
          show Sg.mk (putR (swR S.rows) (!p) _) S.kept = _
          rw [putR_sw]
          rfl
        | false =>
          show Sg.mk (putR (swR S.rows) (!p) _) (keptBy r (swS S) (some m) none) = _
          rw [putR_sw, keptBy_sw]
          rfl
theorem foldl_sw (r : Ru) : ∀ (ds : List Dd) (S : Sg), (ds.map swD).foldl (done r) (swS S) = swS (ds.foldl (done r) S)
  | [], _ => rfl
  | d :: ds, S => by
    rw [List.map_cons, List.foldl_cons, List.foldl_cons, done_sw, foldl_sw r ds]
theorem first_sw : swS first = first := rfl
end K14
end
section
set_option Elab.async false
set_option linter.all false
set_option maxRecDepth 100000
/-! Plain laws: kept anew, counts, exact means; ages and cuts mean nothing to best and count. -/
namespace K14
/-! ### what is kept anew is None -/
theorem keptBy_anew {r : Ru} (h : r.shown = false) (S : Sg) (a b : Option Int) : keptBy r S a b = none := by
  unfold keptBy
  rw [h]
  rfl
theorem kept_anew {r : Ru} (h : r.shown = false) {S : Sg} (d : Dd) (hk : S.kept = none) : (done r S d).kept = none := by
  cases d with
  | night => exact hk
  | give p m =>
    unfold done; dsimp only
    split
    · exact hk
    · exact keptBy_anew h _ _ _
  | back p =>
    unfold done; dsimp only
    split
    · exact hk
    · split
      · exact hk
      · exact keptBy_anew h _ _ _
  | strike p =>
    unfold done struckOne; dsimp only
    split
    · exact hk
    · split
      · exact hk
      · split
        · exact hk
        · exact keptBy_anew h _ _ _
/-! ### struck gone: what is counted stands -/
theorem cnt_gone {top : Int} : ∀ {rows : Rows}, (rows.all fun x => rwOk top false x.2) = true → (cnt rows).filter (fun x => !x.2.2) = cnt rows
  | [], _ => rfl
  | (p, .struck) :: r, h => cnt_gone (rows := r) (Bool.and_eq_true _ _ ▸ List.all_cons ▸ h : _ ∧ _).2
  | (p, .mk m o s) :: r, h => by
    rw [List.all_cons, Bool.and_eq_true] at h
    have hs : s = false := by
      have := h.1
      simp only [rwOk, Bool.and_eq_true, Bool.or_eq_true] at this
      cases s
      · rfl
      · simp at this
    subst hs
    have ih := cnt_gone h.2
    show List.filter _ ((m, o, false) :: cnt r) = _
    rw [List.filter_cons]
    simp only [Bool.not_false, if_true]
    rw [ih]
    rfl
theorem due_gone {r : Ru} (h : r.stay = false) {S : Sg} (ok : rowsOk r.top r.stay S.rows = true) : dueBy r S = numberFor r (prs (cnt S.rows)) := by
  unfold dueBy
  rw [h, rowsOk_iff] at ok
  rw [cnt_gone ok.1]
theorem wrong_same {r : Ru} {S : Sg} (h : shownBy r S = dueBy r S) : wrongBy r S = none := by
  unfold wrongBy faultOf
  rw [if_pos h]
theorem wrong_anew {r : Ru} (h : r.stay = false) (hs : r.shown = false) {S : Sg} (ok : rowsOk r.top r.stay S.rows = true) : wrongBy r S = none := by
  refine wrong_same ?_
  rw [due_gone h ok]
  unfold shownBy
  rw [hs]
  rfl
/-! ### rules that differ in what means nothing -/
theorem worked_like {r r' : Ru} (h : r.meas = r'.meas) (hm : r.meas ≠ .mean) (k : Option (Int × Int)) (n : Int) (a b : Option Int) : workedOn r k n a b = workedOn r' k n a b := by
  unfold workedOn
  rw [← h]
  cases e : r.meas with
  | mean => exact absurd e hm
  | best => rfl
  | count => rfl
theorem keptBy_like {r r' : Ru} (h : r.meas = r'.meas) (hm : r.meas ≠ .mean) (hk : r.shown = r'.shown) (S : Sg) (a b : Option Int) : keptBy r S a b = keptBy r' S a b := by
  unfold keptBy
  rw [worked_like h hm, hk]
theorem done_like {r r' : Ru} (h : r.meas = r'.meas) (hm : r.meas ≠ .mean) (hk : r.shown = r'.shown) (hs : r.stay = r'.stay) (S : Sg) (d : Dd) : done r S d = done r' S d := by
  have kb : ∀ S a b, keptBy r S a b = keptBy r' S a b := keptBy_like h hm hk
  cases d with
  | night => rfl
  | give p m => unfold done marked; dsimp only; rw [kb]
  | back p => unfold done takenBack; dsimp only; rw [kb]
  | strike p =>
    unfold done struckOne; dsimp only
    rw [hs]
    split
    · rfl
    · split
      · rfl
      · rw [kb]
theorem shown_like {r r' : Ru} (h : r.meas = r'.meas) (hm : r.meas ≠ .mean) (hk : r.shown = r'.shown) (ht : r.two = r'.two) (S : Sg) : shownBy r S = shownBy r' S := by
  have hl : r.least = r'.least := by unfold Ru.least; rw [ht]
  unfold shownBy numberFor
  rw [hk, hl, ← h]
  cases e : r.meas with
  | mean => exact absurd e hm
  | best => rfl
  | count => rfl
/-! ### counts -/
def keptC (rows : Rows) : Option (Int × Int) := if many rows = 0 then none else some ((many rows : Int), 1)
def ruC (stay : Bool) : Ru := ⟨true, .count, .exact, false, false, stay, true⟩
def checkC (stay : Bool) : Bool := (rowsL (rwsL true stay)).all fun rows => (deeds true).all fun d => decide ((done (ruC stay) ⟨rows, keptC rows⟩ d).kept = keptC (doneRows stay rows d))
theorem checkC_ok : ∀ stay, checkC stay = true := by decide +kernel
theorem rwOk_three {three stay : Bool} {x : Rw} (h : rwOk (if three = true then 3 else 2) stay x = true) : rwOk (if true = true then 3 else 2) stay x = true := by
  cases x with
  | struck => rfl
  | mk m o s =>
    simp only [rwOk, Bool.and_eq_true, decide_eq_true_eq] at h ⊢
    refine ⟨⟨h.1.1, ?_⟩, h.2⟩
    have := h.1.2
    cases three <;> simp at this ⊢ <;> omega
theorem rowsOk_three {three stay : Bool} {rows : Rows} (h : rowsOk (if three = true then 3 else 2) stay rows = true) : rowsOk (if true = true then 3 else 2) stay rows = true := by
  rw [rowsOk_iff] at h ⊢
  refine ⟨List.all_eq_true.mpr fun x hx => rwOk_three (List.all_eq_true.mp h.1 x hx), h.2⟩
theorem deeds_three {three : Bool} {d : Dd} (h : d ∈ deeds three) : d ∈ deeds true := by
  cases three
  · revert d; decide
  · exact h
def KC (r : Ru) (S : Sg) : Prop := S.kept = if r.shown = true then keptC S.rows else none
theorem kc_done {r : Ru} (hm : r.meas = .count) {S : Sg} {d : Dd} (ok : rowsOk r.top r.stay S.rows = true) (hd : d ∈ deeds r.three) (h : KC r S) : KC r (done r S d) := by
  unfold KC at *
  cases hs : r.shown with
  | false =>
    rw [hs] at h
    exact kept_anew hs d h
  | true =>
    rw [hs] at h
    simp only [if_true] at h ⊢
    have e : done r S d = done (ruC r.stay) S d := done_like (r' := ruC r.stay) (hm.trans rfl) (by rw [hm]; intro z; cases z) (hs.trans rfl) rfl S d
    have eS : S = ⟨S.rows, keptC S.rows⟩ := by cases S; simp only at h; rw [h]
    rw [e, done_rows]
    have c := checkC_ok r.stay
    unfold checkC at c
    have c1 := List.all_eq_true.mp c S.rows (rowsOk_mem (rowsOk_three (three := r.three) ok))
    have c2 := of_decide_eq_true (List.all_eq_true.mp c1 d (deeds_three hd))
    rw [← eS] at c2
    exact c2
theorem kc_shown {r : Ru} (hm : r.meas = .count) {S : Sg} (h : KC r S) : shownBy r S = if (many S.rows : Int) < r.least then none else some ((many S.rows : Int), 1) := by
  have hl : 1 ≤ r.least := by unfold Ru.least; cases r.two <;> simp
  unfold shownBy
  cases hs : r.shown with
  | false =>
    simp only [if_false, Bool.false_eq_true]
    unfold numberFor
    rw [hm]
    simp only [prs, List.length_map]
    rfl
  | true =>
    unfold KC at h
    rw [hs] at h
    simp only [if_true] at h ⊢
    rw [h]
    unfold keptC
    by_cases c : (many S.rows : Int) < r.least
    · rw [if_pos c, if_neg (by omega)]
    · rw [if_neg c, if_pos (by omega), if_neg (by omega)]
theorem wrong_count {r : Ru} (hm : r.meas = .count) (hs : r.stay = false) {S : Sg} (ok : rowsOk r.top r.stay S.rows = true) (h : KC r S) : wrongBy r S = none := by
  refine wrong_same ?_
  rw [due_gone hs ok, kc_shown hm h]
  unfold numberFor
  rw [hm]
  simp only [prs, List.length_map]
  rfl
/-! ### exact means -/
def ruM (three : Bool) : Ru := ⟨three, .mean, .exact, false, false, false, true⟩
def keptM (rows : Rows) : Option (Int × Int) := if many rows = 0 then none else some (meanOf (ruM true) (prs (cnt rows)))
def checkM (three : Bool) : Bool := (rowsL (rwsL three false)).all fun rows => (deeds three).all fun d => decide ((done (ruM three) ⟨rows, keptM rows⟩ d).kept = keptM (doneRows false rows d))
theorem checkM_ok : ∀ three, checkM three = true := by decide +kernel
theorem worked_two {r r' : Ru} (h : r.meas = r'.meas) (ht : r.three = r'.three) (hc : r.cut = r'.cut) (k : Option (Int × Int)) (n : Int) (a b : Option Int) : workedOn r k n a b = workedOn r' k n a b := by
  have e : r.top = r'.top := by unfold Ru.top; rw [ht]
  unfold workedOn bounded
  rw [h, hc, e]
theorem done_two {r r' : Ru} (h : r.meas = r'.meas) (ht : r.three = r'.three) (hc : r.cut = r'.cut) (hk : r.shown = r'.shown) (hs : r.stay = r'.stay) (S : Sg) (d : Dd) : done r S d = done r' S d := by
  have kb : ∀ S a b, keptBy r S a b = keptBy r' S a b := fun S a b => by unfold keptBy; rw [worked_two h ht hc, hk]
  cases d with
  | night => rfl
  | give p m => unfold done marked; dsimp only; rw [kb]
  | back p => unfold done takenBack; dsimp only; rw [kb]
  | strike p =>
    unfold done struckOne; dsimp only
    rw [hs]
    split
    · rfl
    · split
      · rfl
      · rw [kb]
/-- an exact mean of marks alike old, struck gone -/
structure IsM (r : Ru) : Prop where
  meas : r.meas = .mean
  cut : r.cut = .exact
  less : r.less = false
  stay : r.stay = false
def KM (r : Ru) (S : Sg) : Prop := S.kept = if r.shown = true then keptM S.rows else none
theorem km_done {r : Ru} (hm : IsM r) {S : Sg} {d : Dd} (ok : rowsOk r.top r.stay S.rows = true) (hd : d ∈ deeds r.three) (h : KM r S) : KM r (done r S d) := by
  unfold KM at *
  cases hs : r.shown with
  | false =>
    rw [hs] at h
    exact kept_anew hs d h
  | true =>
    rw [hs] at h
    simp only [if_true] at h ⊢
    have e : done r S d = done (ruM r.three) S d := done_two (r' := ruM r.three) (hm.meas.trans rfl) rfl (hm.cut.trans rfl) (hs.trans rfl) (hm.stay.trans rfl) S d
    have eS : S = ⟨S.rows, keptM S.rows⟩ := by cases S; simp only at h; rw [h]
    rw [e, done_rows]
    have c := checkM_ok r.three
    unfold checkM at c
    rw [hm.stay] at ok
    have c1 := List.all_eq_true.mp c S.rows (rowsOk_mem (three := r.three) ok)
    have c2 := of_decide_eq_true (List.all_eq_true.mp c1 d hd)
    rw [← eS] at c2
    exact c2
theorem mean_like {r : Ru} (hm : IsM r) (ps : List (Int × Bool)) : meanOf r ps = meanOf (ruM true) ps := by
  unfold meanOf
  rw [hm.cut, hm.less]
  rfl
theorem km_shown {r : Ru} (hm : IsM r) {S : Sg} (h : KM r S) : shownBy r S = numberFor r (prs (cnt S.rows)) := by
  have hl : 1 ≤ r.least := by unfold Ru.least; cases r.two <;> simp
  unfold shownBy
  cases hs : r.shown with
  | false => rfl
  | true =>
    unfold KM at h
    rw [hs] at h
    simp only [if_true] at h ⊢
    rw [h]
    unfold keptM numberFor
    rw [hm.meas]
    dsimp only
    rw [mean_like hm]
    have el : (prs (cnt S.rows)).length = many S.rows := by unfold prs many; rw [List.length_map]
    rw [el]
    by_cases c : (many S.rows : Int) < r.least
    · rw [if_pos c, if_neg (by omega)]
    · rw [if_neg c, if_pos (by omega), if_neg (by omega)]
theorem wrong_mean {r : Ru} (hm : IsM r) {S : Sg} (ok : rowsOk r.top r.stay S.rows = true) (h : KM r S) : wrongBy r S = none := by
  refine wrong_same ?_
  rw [due_gone hm.stay ok, km_shown hm h]
/-! ### numbers kept, as a finite list -/
def kL : List (Option (Int × Int)) := [none, some (1, 1), some (2, 1), some (3, 1), some (3, 2), some (5, 2)]
theorem kL_m {m : Int} (h1 : 1 ≤ m) (h2 : m ≤ 3) : some (m, (1 : Int)) ∈ kL := by
  have : m = 1 ∨ m = 2 ∨ m = 3 := by omega
  rcases this with rfl | rfl | rfl <;> decide
theorem keptC_L {rows : Rows} (h : nd2 rows = true) : keptC rows ∈ kL := by
  have := many_two h
  unfold keptC
  split
  · decide
  · exact kL_m (by omega) (by omega)
def checkL : Bool := (rowsL (rwsL true false)).all fun rows => decide (keptM rows ∈ kL)
theorem checkL_ok : checkL = true := by decide +kernel
theorem keptM_L {three : Bool} {rows : Rows} (h : rowsOk (if three = true then 3 else 2) false rows = true) : keptM rows ∈ kL := by
  have c := checkL_ok
  unfold checkL at c
  exact of_decide_eq_true (List.all_eq_true.mp c rows (rowsOk_mem (rowsOk_three h)))
theorem kL_kp {k : Option (Int × Int)} (h : k ∈ kL) : KpB 2 k := by
  intro a b e
  subst e
  simp only [kL, List.mem_cons, List.not_mem_nil, or_false, Option.some.injEq, Prod.mk.injEq, reduceCtorEq, false_or] at h
  omega
/-- best and count keep whole numbers -/
def kI : List (Option (Int × Int)) := [none, some (1, 1), some (2, 1), some (3, 1)]
theorem kI_m {m : Int} (h1 : 1 ≤ m) (h2 : m ≤ 3) : some (m, (1 : Int)) ∈ kI := by
  have : m = 1 ∨ m = 2 ∨ m = 3 := by omega
  rcases this with rfl | rfl | rfl <;> decide
theorem kI_L {k : Option (Int × Int)} (h : k ∈ kI) : k ∈ kL := by
  revert h; unfold kI kL; simp only [List.mem_cons, List.not_mem_nil, or_false]
  rintro (h | h | h | h) <;> simp [h]
theorem worked_I {r : Ru} (hr : r.meas ≠ .mean) {kept : Option (Int × Int)} {n : Int} {elder mark : Option Int} (hk : kept ∈ kI) (hn : n ≤ 2) (he : b01 elder.isSome ≤ n) (hm : ∀ m, mark = some m → 1 ≤ m ∧ m ≤ 3) : workedOn r kept n elder mark ∈ kI := by
  unfold workedOn
  split
  · decide
  · rename_i hl
    cases e : r.meas with
    | mean => exact absurd e hr
    | count =>
      dsimp only
      unfold leftOf at *
      have a1 : 0 ≤ b01 mark.isSome ∧ b01 mark.isSome ≤ 1 := by unfold b01; split <;> omega
      have a2 : 0 ≤ b01 elder.isSome := by unfold b01; split <;> omega
      exact kI_m (by omega) (by omega)
    | best =>
      dsimp only
      unfold bestOf
      split
      · exact hk
      · rename_i m
        obtain ⟨m1, m2⟩ := hm m rfl
        split
        · exact kI_m m1 m2
        · split
          · exact hk
          · exact kI_m m1 m2
theorem done_I {r : Ru} (hr : r.meas ≠ .mean) {S : Sg} {d : Dd} (hk : S.kept ∈ kI) (hn : nd2 S.rows = true) (hd : d ∈ deeds r.three) : (done r S d).kept ∈ kI := by
  have hdd := deeds_ok r.three d hd
  have kb : ∀ p mark, (∀ m, mark = some m → 1 ≤ m ∧ m ≤ 3) → keptBy r S (markAt S.rows p) mark ∈ kI := fun p mark hm => by
    unfold keptBy
    split
    · have := many_two hn
      exact worked_I hr hk (by omega) (elder_le _ _) hm
    · decide
  cases d with
  | night => exact hk
  | give p m =>
    unfold done; dsimp only
    split
    · exact hk
    · refine kb p _ fun m' e => ?_
      cases e
      simp only [ddOk, Bool.and_eq_true, decide_eq_true_eq] at hdd
      revert hdd
      cases r.three <;> simp <;> omega
  | back p =>
    unfold done; dsimp only
    split
    · exact hk
    · split
      · exact hk
      · exact kb p _ fun m' e => nomatch e
  | strike p =>
    unfold done struckOne; dsimp only
    split
    · exact hk
    · split
      · exact hk
      · rename_i m e
        split
        · exact hk
        · rw [← e]; exact kb p _ fun m' e => nomatch e
/-! ### what a key is made of, as a finite list -/
def orL : List (Option Rw) := none :: (rwsL true true).map some
abbrev Kq := Option Rw × Option Rw × Nat × Option (Int × Int)
def kq (S : Sg) : Kq := (rowAt S.rows false, rowAt S.rows true, many S.rows, S.kept)
def kqL : List Kq := orL.flatMap fun a => orL.flatMap fun b => ([0, 1, 2] : List Nat).flatMap fun n => kL.map fun k => (a, b, n, k)
theorem kqL_len : kqL.length ≤ 40000 := by decide +kernel
theorem rwOk_stay {top : Int} {stay : Bool} {x : Rw} (h : rwOk top stay x = true) : rwOk top true x = true := by
  cases x with
  | struck => rfl
  | mk m o s =>
    simp only [rwOk, Bool.and_eq_true, decide_eq_true_eq] at h ⊢
    exact ⟨h.1, by simp⟩
theorem or_mem {three stay : Bool} {rows : Rows} (h : rowsOk (if three = true then 3 else 2) stay rows = true) (p : Bool) : rowAt rows p ∈ orL := by
  cases e : rowAt rows p with
  | none => exact List.mem_cons_self
  | some x => exact List.mem_cons_of_mem _ (List.mem_map_of_mem (rw_mem (rwOk_three (rwOk_stay (rowAt_ok (rowsOk_iff.mp h).1 e)))))
theorem kq_mem {three stay : Bool} {S : Sg} (h : rowsOk (if three = true then 3 else 2) stay S.rows = true) (hk : S.kept ∈ kL) : kq S ∈ kqL := by
  unfold kqL kq
  simp only [List.mem_flatMap, List.mem_map]
  refine ⟨_, or_mem h false, _, or_mem h true, many S.rows, ?_, S.kept, hk, rfl⟩
  have := many_two (rowsOk_nd h)
  have : many S.rows = 0 ∨ many S.rows = 1 ∨ many S.rows = 2 := by omega
  simp only [List.mem_cons, List.not_mem_nil, or_false]
  exact this
end K14
end
section
set_option Elab.async false
set_option linter.all false
set_option maxRecDepth 100000
/-! Plain laws: what is reached. -/
namespace K14
open PySem L2
def kyF (q : Kq) : NestedKey := .tup [orN q.1, orN q.2.1, .num q.2.2.1, nN q.2.2.2]
theorem kyF_kq (S : Sg) : kyN S = kyF (kq S) := rfl
theorem kp20 {k : Option (Int × Int)} (h : k ∈ kL) : KpOk 20 k := (kL_kp h).ok (by decide)
theorem reach_of {r : Ru} {J : Sg → Prop} (h0 : J first) (hs : ∀ S d, rowsOk r.top r.stay S.rows = true → d ∈ deeds r.three → J S → J (done r S d)) (hk : ∀ S, rowsOk r.top r.stay S.rows = true → J S → S.kept ∈ kL) :
    Reach r (fun S => rowsOk r.top r.stay S.rows = true ∧ J S) (kqL.map kyF) where
  first := ⟨first_rows _ _, h0⟩
  step := fun S d ⟨ok, j⟩ hd => ⟨rows_done' ok hd, hs S d ok hd j⟩
  ok := fun S ⟨ok, j⟩ => sgOk_of (three := r.three) ok (kp20 (hk S ok j))
  size := by rw [List.length_map]; exact kqL_len
  key := fun S ⟨ok, j⟩ => by rw [kyF_kq]; exact List.mem_map_of_mem (kq_mem (three := r.three) ok (hk S ok j))
/-- kept anew, struck gone -/
theorem reach_anew {r : Ru} (hs : r.shown = false) : Reach r (fun S => rowsOk r.top r.stay S.rows = true ∧ S.kept = none) (kqL.map kyF) :=
  reach_of rfl (fun S d ok hd j => kept_anew hs d j) (fun S ok j => by rw [j]; decide)
theorem reach_count {r : Ru} (hm : r.meas = .count) : Reach r (fun S => rowsOk r.top r.stay S.rows = true ∧ KC r S) (kqL.map kyF) :=
  reach_of (by unfold KC; cases r.shown <;> rfl) (fun S d ok hd j => kc_done hm ok hd j) (fun S ok j => by
    rw [j]
    split
    · exact keptC_L (rowsOk_nd ok)
    · decide)
theorem reach_mean {r : Ru} (hm : IsM r) : Reach r (fun S => rowsOk r.top r.stay S.rows = true ∧ KM r S) (kqL.map kyF) :=
  reach_of (by unfold KM; cases r.shown <;> rfl) (fun S d ok hd j => km_done hm ok hd j) (fun S ok j => by
    rw [j]
    split
    · rw [hm.stay] at ok
      exact keptM_L (three := r.three) ok
    · decide)
theorem reach2_of {r r2 : Ru} {J : Sg → Sg → Prop} (f : Kq → Kq) (h0 : J first first) (hs : ∀ S T d, J S T → d ∈ deeds r.three → J (done r S d) (done r2 T d)) (hr : ∀ S T, J S T → S.rows = T.rows ∧ rowsOk r.top r.stay S.rows = true ∧ S.kept ∈ kL ∧ T.kept ∈ kL)
    (hk : ∀ S T, J S T → kq S = f (kq T)) (hsh : ∀ S T, J S T → shownBy r S = shownBy r2 T) : Reach2 r r2 J (kqL.map fun q => .tup [kyF (f q), kyF q]) where
  first := h0
  step := hs
  ok := fun S T j => by
    obtain ⟨e, ok, k1, k2⟩ := hr S T j
    refine ⟨sgOk_of (three := r.three) ok (kp20 k1), ?_⟩
    rw [e] at ok
    exact sgOk_of (three := r.three) ok (kp20 k2)
  size := by rw [List.length_map]; exact kqL_len
  key := fun S T j => by
    obtain ⟨e, ok, k1, k2⟩ := hr S T j
    rw [e] at ok
    rw [kyF_kq, kyF_kq, hk S T j]
    exact List.mem_map_of_mem (f := fun q => NestedKey.tup [kyF (f q), kyF q]) (kq_mem (three := r.three) ok k2)
  same := hsh
/-- exact means: worked on and anew -/
def JM (x : Ru) (S T : Sg) : Prop := S.rows = T.rows ∧ rowsOk x.top x.stay S.rows = true ∧ S.kept = none ∧ T.kept = keptM T.rows
theorem reach2_mean {x : Ru} (hm : IsM x) : Reach2 { x with shown := false } { x with shown := true } (JM x) (kqL.map fun q => .tup [kyF (q.1, q.2.1, q.2.2.1, none), kyF q]) := by
  have m1 : IsM { x with shown := false } := ⟨hm.meas, hm.cut, hm.less, hm.stay⟩
  have m2 : IsM { x with shown := true } := ⟨hm.meas, hm.cut, hm.less, hm.stay⟩
  refine reach2_of (fun q => (q.1, q.2.1, q.2.2.1, none)) ⟨rfl, first_rows _ _, rfl, rfl⟩ (fun S T d ⟨e, ok, k1, k2⟩ hd => ⟨?_, ?_, kept_anew rfl d k1, ?_⟩) (fun S T ⟨e, ok, k1, k2⟩ => ⟨e, ok, by rw [k1]; decide, ?_⟩) (fun S T ⟨e, ok, k1, k2⟩ => ?_) (fun S T ⟨e, ok, k1, k2⟩ => ?_)
  · rw [done_rows, done_rows, e]
  · exact rows_done' (r := { x with shown := false }) ok hd
  · have := km_done m2 (S := T) (d := d) (by rw [← e]; exact ok) hd k2
    exact this
  · rw [k2, ← e]
    rw [hm.stay] at ok
    exact keptM_L (three := x.three) ok
  · unfold kq
    rw [e, k1]
  · rw [km_shown m1 (S := S) k1, km_shown m2 (S := T) k2, e]
    rfl
/-- ages and cuts mean nothing to best and count -/
def JI (r : Ru) (S T : Sg) : Prop := S = T ∧ rowsOk r.top r.stay S.rows = true ∧ S.kept ∈ kI
theorem reach2_like {r r2 : Ru} (h3 : r.three = r2.three) (hm : r.meas = r2.meas) (ht : r.two = r2.two) (hs : r.stay = r2.stay) (hk : r.shown = r2.shown) (h : r.meas ≠ .mean) : Reach2 r r2 (JI r) (kqL.map fun q => .tup [kyF (id q), kyF q]) := by
  refine reach2_of id ⟨rfl, first_rows _ _, by decide⟩ (fun S T d ⟨e, ok, k⟩ hd => ⟨?_, rows_done' ok hd, done_I h k (rowsOk_nd ok) hd⟩) (fun S T ⟨e, ok, k⟩ => ⟨by rw [e], ok, kI_L k, by rw [← e]; exact kI_L k⟩) (fun S T ⟨e, ok, k⟩ => by rw [e]; rfl) (fun S T ⟨e, ok, k⟩ => ?_)
  · rw [← e]
    exact done_like hm h hk hs S d
  · rw [← e]
    exact shown_like hm h hk ht S
end K14
end
section
set_option Elab.async false
set_option linter.all false
set_option maxRecDepth 100000
set_option maxHeartbeats 1000000
/-! The law's defs: pick, parts, words, built, deeds, other. -/
namespace K14
open PySem L2
section
variable {P : Program} {w : World} {K : PySem.W.Frag} {mg : Str → Option Value} {base : Heap} {CR CS : Addr}
def spPick : Sp := fun vs H Q _ => ∃ (h l a : Addr) (xs : List V), vs = [.ref h, .ref a] ∧ HvAt H h l ∧ a ≠ h ∧ a ≠ l ∧ H a = some (.lst xs) ∧ 0 < xs.length ∧ xs.length < 1000 ∧ ∀ x H', x ∈ xs → HvAt H' h l → KpH h l H H' → Q x H'
theorem scPick : FnScope ["_law_h", "_law_things"] ["_law_h", "_law_things"] (defScope (txt 66)) := ⟨rfl, rfl, rfl, by decide +kernel, rfl, by decide +kernel, by decide +kernel⟩
theorem df_pick (T : Txt K w mg CR CS) (F : FunAt K mg "_law_pick" (txt 66) ["_law_h", "_law_things"]) (DN : Df P w K mg base "_law_next" ["_law_h", "_law_cap"] 1 spNext) : Df P w K mg base "_law_pick" ["_law_h", "_law_things"] 2 spPick := by
  refine F.ok scPick (fun vs H Q E h => ?_) (fun f cdv A outer s H vs Q E hr h => ?_)
  · obtain ⟨h, l, a, xs, rfl, _⟩ := h
    rfl
  obtain ⟨h, l, a, xs, rfl, hv, n1, n2, ha, z1, z2, k⟩ := h
  refine ⟨_, pss_one (ps_ret (pe_ix ix_list (pv 1) (pe_df DN hr rfl (pa_cons (pv 0) (pa_cons (pe_callB call_len_seq (by rfl) T.len PySem.boot_len (pa_cons (pv 1) pa_nil)) pa_nil))) (fun _ _ => rfl))), ?_⟩
  refine ⟨_, rfl, _, rfl, _, rfl, a, _, rfl, .inl (SqL.of ha), h, l, _, rfl, hv, by omega, by omega, fun n H' h1 h2 hv' kp => ?_⟩
  obtain ⟨j, rfl⟩ : ∃ j : Nat, n = (j : Int) := ⟨n.toNat, by omega⟩
  have hj : j < xs.length := by omega
  exact ⟨a, xs, _, xs[j], rfl, rfl, SqL.of (kp _ _ n1 n2 ha), atI_nat (List.getElem?_eq_getElem hj), k _ _ (List.getElem_mem hj) hv' kp⟩
/-! ### parts -/
def PtN (H0 H : Hp) (v : V) (x : Str × List V) : Prop := ∃ t l, v = .ref t ∧ H t = some (.tup [.str x.1, .ref l]) ∧ H l = some (.lst x.2) ∧ H0 l = none
theorem PtN.mono {H0 H H' : Hp} {v : V} {x : Str × List V} (s : Same H H') (h : PtN H0 H v x) : PtN H0 H' v x := by
  obtain ⟨t, l, e, h1, h2, h3⟩ := h
  exact ⟨t, l, e, s _ _ h1, s _ _ h2, h3⟩
theorem pair_facts {H0 H : Hp} {l t : Addr} {k : Str} {xs : List V} (s : Same H0 H) (hl : H l = none) (ht : (upd H l (.lst xs)) t = none) : Same H (upd (upd H l (.lst xs)) t (.tup [.str k, .ref l])) ∧ PtN H0 (upd (upd H l (.lst xs)) t (.tup [.str k, .ref l])) (.ref t) (k, xs) := by
  refine ⟨(same_upd hl).trans (same_upd ht), t, l, rfl, upd_same, (same_upd ht) _ _ upd_same, ?_⟩
  cases e : H0 l with
  | none => rfl
  | some o => rw [s _ _ e] at hl; cases hl
theorem fresh_of {H0 H : Hp} {b : Addr} (s : Same H0 H) (h : H b = none) : H0 b = none := by
  cases e : H0 b with
  | none => rfl
  | some o => rw [s _ _ e] at h; cases h
def spParts : Sp := fun vs H Q _ => vs = [] ∧ ∀ p ts H', Same H H' → H p = none → H' p = some (.lst ts) → Paired (PtN H H') ts pws → Q (.ref p) H'
theorem scParts : FnScope ["_law_found"] [] (defScope (txt 67)) := ⟨rfl, rfl, rfl, by decide +kernel, rfl, by decide +kernel, by decide +kernel⟩
theorem df_parts (F : FunAt K mg "_law_parts" (txt 67) []) : Df P w K mg base "_law_parts" [] 1 spParts := by
  refine F.ok scParts (fun vs H Q E h => ?_) (fun f cdv A outer s H vs Q E hr h => ?_)
  · obtain ⟨rfl, _⟩ := h
    rfl
  obtain ⟨rfl, k⟩ := h
  refine ⟨_, pss_cons (ps_set (i := 0) scParts.nd rfl (Or.inl rfl) (pe_lst (pa_cons (pe_tup (pa_cons pe_str (pa_cons (pe_lst (pa_cons pe_int (pa_cons pe_int pa_nil))) pa_nil))) (pa_cons (pe_tup (pa_cons pe_str (pa_cons (pe_lst (pa_cons pe_str (pa_cons pe_str (pa_cons pe_str pa_nil)))) pa_nil))) (pa_cons (pe_tup (pa_cons pe_str (pa_cons (pe_lst (pa_cons pe_str (pa_cons pe_str (pa_cons pe_str pa_nil)))) pa_nil))) pa_nil)))))
    (pss_cons (ps_set (i := 0) scParts.nd rfl (Or.inl rfl) (pe_op op_cat (pv 0) (pe_lst (pa_cons (pe_tup (pa_cons pe_str (pa_cons (pe_lst (pa_cons pe_int (pa_cons pe_int pa_nil))) pa_nil))) (pa_cons (pe_tup (pa_cons pe_str (pa_cons (pe_lst (pa_cons pe_str (pa_cons pe_str pa_nil))) pa_nil))) (pa_cons (pe_tup (pa_cons pe_str (pa_cons (pe_lst (pa_cons pe_str (pa_cons pe_str pa_nil))) pa_nil))) pa_nil))))))
    (pss_one (ps_ret (pe_op op_cat (pv 0) (pe_lst (pa_cons (pe_tup (pa_cons pe_str (pa_cons (pe_lst (pa_cons pe_str (pa_cons pe_str pa_nil))) pa_nil))) pa_nil)))))), ?_⟩
  have g0 : Same H H := Same.refl H
  refine ⟨(by show 2 ≤ sizeLine; decide), fun l1 hl1 => ⟨(by show 2 ≤ sizeLine; decide), fun t1 ht1 => ?_⟩⟩
  obtain ⟨s1, p1⟩ := pair_facts (k := "top") g0 hl1 ht1
  have g1 := g0.trans s1
  generalize upd (upd H l1 (.lst [.int 2, .int 3])) t1 (.tup [.str "top", .ref l1]) = G1 at *
  clear hl1 ht1
  refine ⟨(by show 3 ≤ sizeLine; decide), fun l2 hl2 => ⟨(by show 2 ≤ sizeLine; decide), fun t2 ht2 => ?_⟩⟩
  obtain ⟨s2, p2⟩ := pair_facts (k := "measure") g1 hl2 ht2
  have g2 := g1.trans s2
  have p1 := p1.mono s2
  generalize upd (upd G1 l2 (.lst [.str "mean", .str "best", .str "count"])) t2 (.tup [.str "measure", .ref l2]) = G2 at *
  clear hl2 ht2
  refine ⟨(by show 3 ≤ sizeLine; decide), fun l3 hl3 => ⟨(by show 2 ≤ sizeLine; decide), fun t3 ht3 => ?_⟩⟩
  obtain ⟨s3, p3⟩ := pair_facts (k := "cut") g2 hl3 ht3
  have g3 := g2.trans s3
  have p1 := p1.mono s3
  have p2 := p2.mono s3
  generalize upd (upd G2 l3 (.lst [.str "exact", .str "half", .str "whole"])) t3 (.tup [.str "cut", .ref l3]) = G3 at *
  clear hl3 ht3
  refine ⟨(by show 3 ≤ sizeLine; decide), fun a1 ha1 => ?_⟩
  have u1 : Same G3 (upd G3 a1 (.lst [.ref t1, .ref t2, .ref t3])) := same_upd ha1
  have e1 : (upd G3 a1 (.lst [.ref t1, .ref t2, .ref t3])) a1 = some (.lst [.ref t1, .ref t2, .ref t3]) := upd_same
  have p1 := p1.mono u1
  have p2 := p2.mono u1
  have p3 := p3.mono u1
  have g3 := g3.trans u1
  generalize upd G3 a1 (.lst [.ref t1, .ref t2, .ref t3]) = B1 at *
  clear ha1
  refine ⟨_, rfl, ⟨(by show 2 ≤ sizeLine; decide), fun l4 hl4 => ⟨(by show 2 ≤ sizeLine; decide), fun t4 ht4 => ?_⟩⟩⟩
  obtain ⟨s4, p4⟩ := pair_facts (k := "least") g3 hl4 ht4
  have g4 := g3.trans s4
  have p1 := p1.mono s4
  have p2 := p2.mono s4
  have p3 := p3.mono s4
  have e1 := s4 _ _ e1
  generalize upd (upd B1 l4 (.lst [.int 1, .int 2])) t4 (.tup [.str "least", .ref l4]) = G4 at *
  clear hl4 ht4
  refine ⟨(by show 2 ≤ sizeLine; decide), fun l5 hl5 => ⟨(by show 2 ≤ sizeLine; decide), fun t5 ht5 => ?_⟩⟩
  obtain ⟨s5, p5⟩ := pair_facts (k := "ages") g4 hl5 ht5
  have g5 := g4.trans s5
  have p1 := p1.mono s5
  have p2 := p2.mono s5
  have p3 := p3.mono s5
  have p4 := p4.mono s5
  have e1 := s5 _ _ e1
  generalize upd (upd G4 l5 (.lst [.str "same", .str "less"])) t5 (.tup [.str "ages", .ref l5]) = G5 at *
  clear hl5 ht5
  refine ⟨(by show 2 ≤ sizeLine; decide), fun l6 hl6 => ⟨(by show 2 ≤ sizeLine; decide), fun t6 ht6 => ?_⟩⟩
  obtain ⟨s6, p6⟩ := pair_facts (k := "struck") g5 hl6 ht6
  have g6 := g5.trans s6
  have p1 := p1.mono s6
  have p2 := p2.mono s6
  have p3 := p3.mono s6
  have p4 := p4.mono s6
  have p5 := p5.mono s6
  have e1 := s6 _ _ e1
  generalize upd (upd G5 l6 (.lst [.str "gone", .str "stay"])) t6 (.tup [.str "struck", .ref l6]) = G6 at *
  clear hl6 ht6
  refine ⟨(by show 3 ≤ sizeLine; decide), fun a2 ha2 => ⟨a1, a2, _, _, rfl, rfl, (same_upd ha2) _ _ e1, upd_same, (by show 6 ≤ sizeLine; decide), fun a3 ha3 => ?_⟩⟩
  have u2 : Same G6 (upd (upd G6 a2 (.lst [.ref t4, .ref t5, .ref t6])) a3 (.lst ([.ref t1, .ref t2, .ref t3] ++ [.ref t4, .ref t5, .ref t6]))) := (same_upd ha2).trans (same_upd ha3)
  have e1 : (upd (upd G6 a2 (.lst [.ref t4, .ref t5, .ref t6])) a3 (.lst ([.ref t1, .ref t2, .ref t3] ++ [.ref t4, .ref t5, .ref t6]))) a3 = some (.lst ([.ref t1, .ref t2, .ref t3] ++ [.ref t4, .ref t5, .ref t6])) := upd_same
  have p1 := p1.mono u2
  have p2 := p2.mono u2
  have p3 := p3.mono u2
  have p4 := p4.mono u2
  have p5 := p5.mono u2
  have p6 := p6.mono u2
  have g6 := g6.trans u2
  generalize upd (upd G6 a2 (.lst [.ref t4, .ref t5, .ref t6])) a3 (.lst ([.ref t1, .ref t2, .ref t3] ++ [.ref t4, .ref t5, .ref t6])) = B2 at *
  clear ha2 ha3
  refine ⟨_, rfl, ⟨(by show 2 ≤ sizeLine; decide), fun l7 hl7 => ⟨(by show 2 ≤ sizeLine; decide), fun t7 ht7 => ?_⟩⟩⟩
  obtain ⟨s7, p7⟩ := pair_facts (k := "keeping") g6 hl7 ht7
  have g7 := g6.trans s7
  have p1 := p1.mono s7
  have p2 := p2.mono s7
  have p3 := p3.mono s7
  have p4 := p4.mono s7
  have p5 := p5.mono s7
  have p6 := p6.mono s7
  have e1 := s7 _ _ e1
  generalize upd (upd B2 l7 (.lst [.str "anew", .str "shown"])) t7 (.tup [.str "keeping", .ref l7]) = G7 at *
  clear hl7 ht7
  refine ⟨(by show 1 ≤ sizeLine; decide), fun a4 ha4 => ⟨a3, a4, _, _, rfl, rfl, (same_upd ha4) _ _ e1, upd_same, (by show 7 ≤ sizeLine; decide), fun a5 ha5 => ?_⟩⟩
  have u3 := (same_upd ha4).trans (same_upd (o := .lst (([.ref t1, .ref t2, .ref t3] ++ [.ref t4, .ref t5, .ref t6]) ++ [.ref t7])) ha5)
  exact k a5 _ _ (g7.trans u3) (fresh_of (g7.trans (same_upd ha4)) ha5) upd_same (.cons (p1.mono u3) (.cons (p2.mono u3) (.cons (p3.mono u3) (.cons (p4.mono u3) (.cons (p5.mono u3) (.cons (p6.mono u3) (.cons (p7.mono u3) .nil)))))))
end
end K14
end
section
set_option Elab.async false
set_option linter.all false
set_option maxRecDepth 100000
set_option maxHeartbeats 1000000
/-! The law's defs: words, built, deeds, other. -/
namespace K14
open PySem L2
/-- drawn words are a rule's -/
theorem words_rvs {ys : List V} (h : Paired (fun (y : V) (kx : Str × List V) => y ∈ kx.2) ys pws) : ∃ r, ys = rvs r := by
  obtain ⟨y1, y2, y3, y4, y5, y6, y7, rfl, h1, h2, h3, h4, h5, h6, h7⟩ : ∃ y1 y2 y3 y4 y5 y6 y7, ys = [y1, y2, y3, y4, y5, y6, y7] ∧ y1 ∈ ([.int 2, .int 3] : List V) ∧ y2 ∈ ([.str "mean", .str "best", .str "count"] : List V) ∧ y3 ∈ ([.str "exact", .str "half", .str "whole"] : List V) ∧ y4 ∈ ([.int 1, .int 2] : List V) ∧ y5 ∈ ([.str "same", .str "less"] : List V) ∧ y6 ∈ ([.str "gone", .str "stay"] : List V) ∧ y7 ∈ ([.str "anew", .str "shown"] : List V) := by
    cases h with
    | cons a1 h => cases h with
      | cons a2 h => cases h with
        | cons a3 h => cases h with
          | cons a4 h => cases h with
            | cons a5 h => cases h with
              | cons a6 h => cases h with
                | cons a7 h => cases h; exact ⟨_, _, _, _, _, _, _, rfl, a1, a2, a3, a4, a5, a6, a7⟩
  simp only [List.mem_cons, List.not_mem_nil, or_false] at h1 h2 h3 h4 h5 h6 h7
  obtain ⟨three, e1⟩ : ∃ b : Bool, y1 = .int (if b = true then 3 else 2) := by
    rcases h1 with rfl | rfl
    · exact ⟨false, rfl⟩
    · exact ⟨true, rfl⟩
  obtain ⟨me, e2⟩ : ∃ m : Meas, y2 = .str (measS m) := by
    rcases h2 with rfl | rfl | rfl
    · exact ⟨.mean, rfl⟩
    · exact ⟨.best, rfl⟩
    · exact ⟨.count, rfl⟩
  obtain ⟨cu, e3⟩ : ∃ c : Cut, y3 = .str (cutS c) := by
    rcases h3 with rfl | rfl | rfl
    · exact ⟨.exact, rfl⟩
    · exact ⟨.half, rfl⟩
    · exact ⟨.whole, rfl⟩
  obtain ⟨two, e4⟩ : ∃ b : Bool, y4 = .int (if b = true then 2 else 1) := by
    rcases h4 with rfl | rfl
    · exact ⟨false, rfl⟩
    · exact ⟨true, rfl⟩
  obtain ⟨less, e5⟩ : ∃ b : Bool, y5 = .str (agesS b) := by
    rcases h5 with rfl | rfl
    · exact ⟨false, rfl⟩
    · exact ⟨true, rfl⟩
  obtain ⟨stay, e6⟩ : ∃ b : Bool, y6 = .str (struckS b) := by
    rcases h6 with rfl | rfl
    · exact ⟨false, rfl⟩
    · exact ⟨true, rfl⟩
  obtain ⟨shown, e7⟩ : ∃ b : Bool, y7 = .str (keepS b) := by
    rcases h7 with rfl | rfl
    · exact ⟨false, rfl⟩
    · exact ⟨true, rfl⟩
  refine ⟨⟨three, me, cu, two, less, stay, shown⟩, ?_⟩
  rw [e1, e2, e3, e4, e5, e6, e7]
  rfl
section
variable {P : Program} {w : World} {K : PySem.W.Frag} {mg : Str → Option Value} {base : Heap} {CR CS : Addr}
theorem HvAt.off {h l b : Addr} {H : Hp} {o : HO} (a : HvAt H h l) (n1 : b ≠ h) (n2 : b ≠ l) : HvAt (upd H b o) h l := by
  obtain ⟨st, ix, cs, h1, h2, r⟩ := a
  exact ⟨st, ix, cs, by rw [upd_ne (Ne.symm n1)]; exact h1, by rw [upd_ne (Ne.symm n2)]; exact h2, r⟩
theorem KpH.put {h l b : Addr} {H H' : Hp} {o : HO} (s : KpH h l H H') (e : H b = none) : KpH h l H (upd H' b o) := fun c u n1 n2 q => by
  rw [upd_ne (ne_of_none q e)]
  exact s c u n1 n2 q
def spWords : Sp := fun vs H Q _ => ∃ (h l : Addr), vs = [.ref h] ∧ HvAt H h l ∧ ∀ q r H', HvAt H' h l → KpH h l H H' → H q = none → H' q = some (.lst (rvs r)) → Q (.ref q) H'
abbrev NWd : List Str := ["_law_h", "_law_found", "_law_part", "_law_words_here"]
theorem scWords : FnScope NWd ["_law_h"] (defScope (txt 68)) := ⟨rfl, rfl, rfl, by decide +kernel, rfl, by decide +kernel, by decide +kernel⟩
theorem df_words (F : FunAt K mg "_law_words" (txt 68) ["_law_h"]) (DP : Df P w K mg base "_law_parts" [] 1 spParts) (DK : Df P w K mg base "_law_pick" ["_law_h", "_law_things"] 2 spPick) (DN : Df P w K mg base "_law_next" ["_law_h", "_law_cap"] 1 spNext) : Df P w K mg base "_law_words" ["_law_h"] 3 spWords := by
  refine F.ok scWords (fun vs H Q E h => ?_) (fun f cdv A outer s H vs Q E hr h => ?_)
  · obtain ⟨h, l, rfl, _⟩ := h
    rfl
  obtain ⟨h, l, rfl, hv, k⟩ := h
  have nd := scWords.nd
  refine ⟨_, pss_cons (ps_setLc (i := 1) (own := [("_law_part", 2), ("_law_words_here", 3)]) (g := gTup K 2 (gCons (gName 2) (gCons (gName 3) gNil))) (tt := tYes) (te := tCall spPick [] E0 (tCons (tVar 0) (tCons (tVar 3) tNil))) rfl nd rfl rfl (sw_true rfl rfl rfl (by decide +kernel)) (pi_list (pe_df0 DP (hr.mono (by decide)) rfl)) (blkOk_by (N := NWd) (sc := defScope (txt 68)) (by decide +kernel))
      (fun _ _ _ _ _ => pg_tup (by rfl) (pgs_cons (pg_name (i := 2) nd rfl (Or.inl rfl)) (pgs_cons (pg_name (i := 3) nd rfl (Or.inl rfl)) pgs_nil))) (fun _ _ _ _ _ => pts_nil) (fun _ _ _ _ _ => pe_df DK hr rfl (pa_cons (pv 0) (pa_cons (pv 3) pa_nil))))
    (pss_cons (ps_if (pt_cmpR op_eq (pe_df DN (hr.mono (by decide)) rfl (pa_cons (pv 0) (pa_cons pe_int pa_nil))) pe_int (nomark _)) (pss_one (ps_asg pe_str (pg_sub (pv 1) pe_int set_list))) pss_nil)
    (pss_one (ps_ret (pv 1)))), ?_⟩
  refine ⟨rfl, fun p ts H1 s1 hp hpl pt => ⟨p, rfl, ⟨_, SqL.of hpl⟩, fun D hD => ?_⟩⟩
  have hv1 := hv.same s1
  have np : p ≠ h ∧ p ≠ l := hv.new hp
  have nD : D ≠ h ∧ D ≠ l := hv1.new hD
  have hpd : p ≠ D := ne_of_none hpl hD
  refine wk_it (walk_list (K := K) (a := p) (xs := ts)) (fun i H2 => KpH h l H1 H2 ∧ HvAt H2 h l ∧ ∃ ys, H2 D = some (.lst ys) ∧ Paired (fun (y : V) (kx : Str × List V) => y ∈ kx.2) ys (pws.take i)) ?_ (fun i H2 _ z => SqL.of (z.1 _ _ np.1 np.2 hpl)) ?_ ?_
  · exact ⟨(KpH.refl h l H1).put hD, hv1.off nD.1 nD.2, [], upd_same, .nil⟩
  · rintro i x H2 H2' hi ⟨kp, hv2, ys, hy, py⟩ ⟨rfl, hx⟩
    obtain ⟨kx, hkx, t, l', rfl, ht, hl', hl0⟩ := pairedGetZ pt hx
    have nl := hv.new hl0
    have nt := hv1.ne ht (fun _ z => nomatch z)
    have ht2 := kp _ _ nt.1 nt.2 ht
    have hl2 := kp _ _ nl.1 nl.2 hl'
    refine ⟨t, _, rfl, SqT.of ht2, rfl, _, _, rfl, _, _, rfl, rfl, rfl, ?_⟩
    unfold tYes
    dsimp only
    rw [if_pos rfl]
    have hm : kx ∈ pws := List.mem_of_getElem? hkx
    have hlen : 0 < kx.2.length ∧ kx.2.length < 1000 := by
      revert hm
      simp only [pws, List.mem_cons, List.not_mem_nil, or_false]
      rintro (rfl | rfl | rfl | rfl | rfl | rfl | rfl) <;> decide
    refine ⟨_, rfl, _, rfl, h, l, l', kx.2, rfl, hv2, nl.1, nl.2, hl2, hlen.1, hlen.2, fun y H3 hym hv3 kp3 => ?_⟩
    have hy3 := kp3 _ _ nD.1 nD.2 hy
    have hyl : ys.length ≤ 7 := by rw [Paired.length py, List.length_take]; exact Nat.le_trans (Nat.min_le_right _ _) (by decide)
    refine ⟨ys, hy3, Nat.lt_of_le_of_lt hyl (by decide), (kp.trans kp3).put hD, hv3.off nD.1 nD.2, _, upd_same, ?_⟩
    have tk : pws.take (i + 1) = pws.take i ++ [kx] := by rw [List.take_add_one, hkx]; rfl
    rw [tk]
    exact py.snoc hym
  · rintro H2 ⟨kp, hv2, ys, hy, py⟩
    have e7 : ts.length = 7 := Paired.length pt
    rw [e7] at py
    obtain ⟨r, rfl⟩ := words_rvs py
    have kp0 : KpH h l H H2 := (KpH.of s1).trans kp
    have hD0 : H D = none := fresh_of s1 hD
    refine ⟨_, rfl, h, l, 2, rfl, hv2, by decide, by decide, fun n H3 n1 n2 hv3 kp3 => ⟨rfl, _, rfl, ?_⟩⟩
    have hy3 := kp3 _ _ nD.1 nD.2 hy
    by_cases c : (V.int n) = V.int 0
    · refine itT (decide_eq_true c) ?_
      refine ⟨_, rfl, D, _, _, 1, rfl, rfl, hy3, rfl, ?_⟩
      refine ⟨_, rfl, k D { r with meas := .mean } _ (hv3.off nD.1 nD.2) ((kp0.trans kp3).put hD0) hD0 ?_⟩
      rw [upd_same]
      rfl
    · refine itF (decide_eq_false c) ?_
      exact ⟨_, rfl, k D r _ hv3 (kp0.trans kp3) hD0 hy3⟩
/-! ### built -/
def spBuilt (CR : Addr) : Sp := fun vs H Q _ => ∃ (a : Addr) (r : Ru), vs = [.ref a] ∧ H a = some (.lst (rvs r)) ∧ ∀ q H', Same H H' → RuleAt CR H' q r → Q (.ref q) H'
theorem scBuilt : FnScope ["_law_words_here"] ["_law_words_here"] (defScope (txt 69)) := ⟨rfl, rfl, rfl, by decide +kernel, rfl, by decide +kernel, by decide +kernel⟩
theorem df_built (F : FunAt K mg "_law_built" (txt 69) ["_law_words_here"]) (DR : Ma P w K mg base "Rule" CR ["self", "top", "measure", "cut", "least", "ages", "struck", "keeping"] 3 (spInitR CR)) : Df P w K mg base "_law_built" ["_law_words_here"] 5 (spBuilt CR) := by
  refine F.ok scBuilt (fun vs H Q E h => ?_) (fun f cdv A outer s H vs Q E hr h => ?_)
  · obtain ⟨a, r, rfl, _⟩ := h
    rfl
  obtain ⟨a, r, rfl, ha, k⟩ := h
  refine ⟨_, pss_one (ps_ret (pe_ma DR hr rfl (pa_cons (pe_ix ix_list (pv 0) pe_int (fun _ _ => rfl)) (pa_cons (pe_ix ix_list (pv 0) pe_int (fun _ _ => rfl)) (pa_cons (pe_ix ix_list (pv 0) pe_int (fun _ _ => rfl)) (pa_cons (pe_ix ix_list (pv 0) pe_int (fun _ _ => rfl))
    (pa_cons (pe_ix ix_list (pv 0) pe_int (fun _ _ => rfl)) (pa_cons (pe_ix ix_list (pv 0) pe_int (fun _ _ => rfl)) (pa_cons (pe_ix ix_list (pv 0) pe_int (fun _ _ => rfl)) pa_nil))))))))), ?_⟩
  have q : SqL K H a (rvs r) := SqL.of ha
  refine ⟨_, rfl, a, _, _, _, rfl, rfl, q, rfl, _, rfl, a, _, _, _, rfl, rfl, q, rfl, _, rfl, a, _, _, _, rfl, rfl, q, rfl, _, rfl, a, _, _, _, rfl, rfl, q, rfl, _, rfl, a, _, _, _, rfl, rfl, q, rfl, _, rfl, a, _, _, _, rfl, rfl, q, rfl, _, rfl, a, _, _, _, rfl, rfl, q, rfl, ?_⟩
  exact made_rule k
/-! ### deeds -/
def spLDeeds : Sp := fun vs H Q _ => ∃ (r : Ru), vs = [.int r.top] ∧ ∀ l ys H', Same H H' → H l = none → H' l = some (.lst ys) → Paired (DdV H') ys (deeds r.three) → Q (.ref l) H'
abbrev NLd : List Str := ["_law_top", "_law_found", "_law_person", "_law_mark"]
theorem scLDeeds : FnScope NLd ["_law_top"] (defScope (txt 70)) := ⟨rfl, rfl, rfl, by decide +kernel, rfl, by decide +kernel, by decide +kernel⟩
theorem pApp {F : V → Dd → Prop} {a1 a2 : List V} {b1 b2 : List Dd} (p : Paired F a1 b1) (q : Paired F a2 b2) : Paired F (a1 ++ a2) (b1 ++ b2) := by
  induction p with
  | nil => exact q
  | cons r _ ih => exact .cons r ih
theorem df_ldeeds (T : Txt K w mg CR CS) (F : FunAt K mg "_law_deeds" (txt 70) ["_law_top"]) : Df P w K mg base "_law_deeds" ["_law_top"] 1 spLDeeds := by
  refine F.ok scLDeeds (fun vs H Q E h => ?_) (fun f cdv A outer s H vs Q E hr h => ?_)
  · obtain ⟨r, rfl, _⟩ := h
    rfl
  obtain ⟨r, rfl, k⟩ := h
  have nd := scLDeeds.nd
  have mt := marks_top r
  have mlen : (marksTo r.three).length ≤ 3 := by cases r.three <;> decide
  refine ⟨_, pss_cons (ps_set (i := 1) nd rfl (Or.inl rfl) (pe_lst pa_nil))
    (pss_cons (ps_for PassesOwn.never rfl (pi_list (pe_lst (pa_cons pe_int (pa_cons pe_int pa_nil)))) (pg_name (i := 2) nd rfl (Or.inr rfl))
      (pss_one (ps_set (i := 1) nd rfl (Or.inl rfl) (pe_op op_cat (pv 1) (pe_lc (own := [("_law_mark", 3)]) (g := gName 3) (tt := tYes) (te := tTup (tCons (tC (.str "give")) (tCons (tVar 2) (tCons (tVar 3) tNil)))) rfl nd (pi_range2 (by rfl) T.range (pa_cons pe_int (pa_cons (pe_op op_add (pv 0) pe_int) pa_nil))) (blkOk_by (N := NLd) (sc := defScope (txt 70)) (by decide +kernel))
        (fun _ _ _ _ _ => pg_name (i := 3) nd rfl (Or.inl rfl)) (fun _ _ _ _ _ => pts_nil) (fun _ _ _ _ _ => pe_tup (pa_cons pe_str (pa_cons (pv 2) (pa_cons (pv 3) pa_nil)))))))))
    (pss_one (ps_ret (pe_op op_cat (pv 1) (pe_lst (pa_cons (pe_tup (pa_cons pe_str (pa_cons pe_int pa_nil))) (pa_cons (pe_tup (pa_cons pe_str (pa_cons pe_int pa_nil))) (pa_cons (pe_tup (pa_cons pe_str (pa_cons pe_int pa_nil))) (pa_cons (pe_tup (pa_cons pe_str (pa_cons pe_int pa_nil))) (pa_cons (pe_tup (pa_cons pe_str pa_nil)) pa_nil)))))))))), ?_⟩
  refine ⟨(by show 0 ≤ sizeLine; decide), fun L0 hL0 => ?_⟩
  have s0 : Same H (upd H L0 (.lst [])) := same_upd hL0
  have e0 : (upd H L0 (.lst [])) L0 = some (.lst []) := upd_same
  generalize upd H L0 (.lst []) = H0 at *
  refine ⟨(by show 2 ≤ sizeLine; decide), fun pl hpl => ⟨pl, rfl, ⟨_, SqL.of upd_same⟩, ?_⟩⟩
  have s1 : Same H0 (upd H0 pl (.lst [.int 0, .int 1])) := same_upd hpl
  have e1 : (upd H0 pl (.lst [.int 0, .int 1])) pl = some (.lst [.int 0, .int 1]) := upd_same
  have e01 := s1 _ _ e0
  have s01 := s0.trans s1
  generalize upd H0 pl (.lst [.int 0, .int 1]) = H1 at *
  clear hpl e0 s0 s1
  refine for_it (walk_list (K := K) (a := pl) (xs := [.int 0, .int 1])) (fun i σ H2 => Same H1 H2 ∧ ∃ L ys x2 x3, σ = [some (.int r.top), some (.ref L), x2, x3] ∧ H2 L = some (.lst ys) ∧ Paired (DdV H2) ys (gives r.three i 0)) ?_ (fun i σ H2 _ z => SqL.of (z.1 _ _ e1)) ?_ ?_
  · exact ⟨Same.refl H1, L0, [], _, _, rfl, e01, .nil⟩
  · rintro i x σ H2 H2' hi ⟨s2, L, ys, x2, x3, rfl, hL, pw⟩ ⟨rfl, hx⟩
    have hi2 : i < 2 := hi
    obtain ⟨b, hb, rfl⟩ : ∃ b, ([false, true] : List Bool)[i]? = some b ∧ x = .int (pI b) := by
      match i, hi2, hx with
      | 0, _, hx => cases hx; exact ⟨false, rfl, rfl⟩
      | 1, _, hx => cases hx; exact ⟨true, rfl, rfl⟩
    refine ⟨_, rfl, _, rfl, _, _, rfl, rfl, 1, r.top + 1, rfl, ⟨by decide, by decide, by omega, by omega⟩, fun D hD => ?_⟩
    have en : (r.top + 1 - 1).toNat = (marksTo r.three).length := by rw [← mt.1]; congr 1; omega
    rw [en]
    refine wk_it (walk_range (lo := 1) (n := (marksTo r.three).length)) (fun j H3 => Same H2' H3 ∧ ∃ zs, H3 D = some (.lst zs) ∧ Paired (DdV H3) zs (((marksTo r.three).take j).map (.give b))) ?_ (fun _ _ _ _ => trivial) ?_ ?_
    · exact ⟨same_upd hD, [], upd_same, .nil⟩
    · rintro j x H3 H3' hj ⟨s3, zs, hz, pz⟩ ⟨rfl, rfl⟩
      refine ⟨rfl, ?_⟩
      unfold tYes
      dsimp only
      rw [if_pos rfl]
      refine ⟨_, rfl, _, rfl, (by show 3 ≤ sizeLine; decide), fun t ht => ⟨zs, (same_upd ht) _ _ hz, ?_, ?_⟩⟩
      · have h1 := Paired.length pz
        rw [List.length_map, List.length_take] at h1
        exact Nat.lt_of_le_of_lt (show zs.length ≤ 3 by omega) (by decide)
      · have s4 : Same H3' (upd H3' t (.tup [.str "give", .int (pI b), .int (1 + (j : Nat))])) := same_upd ht
        have hz4 := s4 _ _ hz
        refine ⟨sput (s3.trans s4) hD, _, upd_same, ?_⟩
        rw [List.take_add_one, marks_at _ hj, List.map_append]
        exact Paired.snoc (Paired.mapP pz fun _ _ z => z.mono ((SameN.of s4).put hz4)) ⟨t, rfl, by show upd _ D _ t = _; rw [upd_ne (fun z => by rw [z, hz] at ht; cases ht), upd_same]; rfl⟩
    · rintro H3 ⟨s3, zs, hz, pz⟩
      rw [List.take_length] at pz
      have hL3 := s3 _ _ hL
      have l1 := Paired.length pw
      have l2 := Paired.length pz
      rw [List.length_map] at l2
      have l0 := gives_len r.three i 0
      refine ⟨L, D, ys, zs, rfl, rfl, hL3, hz, Nat.le_trans (show ys.length + zs.length ≤ 12 by omega) (by decide), fun L2 hL2 => ?_⟩
      have s4 : Same H3 (upd H3 L2 (.lst (ys ++ zs))) := same_upd hL2
      refine ⟨(s2.trans s3).trans s4, L2, _, _, _, rfl, upd_same, ?_⟩
      have eg : gives r.three (i + 1) 0 = gives r.three i 0 ++ (marksTo r.three).map (.give b) := by
        unfold gives
        rw [List.take_add_one, hb, List.flatMap_append]
        simp
      rw [eg]
      exact pApp (Paired.mapP pw fun _ _ z => z.mono (SameN.of (s3.trans s4))) (Paired.mapP pz fun _ _ z => z.mono (SameN.of s4))
  · rintro σ H2 ⟨s2, L, ys, x2, x3, rfl, hL, pw⟩
    have l1 := Paired.length pw
    have l0 := gives_len r.three 2 0
    have l1 : ys.length = (gives r.three 2 0).length := l1
    have pw : Paired (DdV H2) ys (gives r.three 2 0) := pw
    refine ⟨_, rfl, (by show 2 ≤ sizeLine; decide), fun t1 h1 => ⟨(by show 2 ≤ sizeLine; decide), fun t2 h2 => ⟨(by show 2 ≤ sizeLine; decide), fun t3 h3 => ⟨(by show 2 ≤ sizeLine; decide), fun t4 h4 => ⟨(by show 1 ≤ sizeLine; decide), fun t5 h5 => ⟨(by show 5 ≤ sizeLine; decide), fun a ha => ?_⟩⟩⟩⟩⟩⟩
    have g1 : Same H2 (upd H2 t1 (.tup [.str "back", .int 0])) := same_upd h1
    have d1 : DdAt (upd H2 t1 (.tup [.str "back", .int 0])) t1 (.back false) := upd_same
    generalize upd H2 t1 (.tup [.str "back", .int 0]) = G1 at *
    have g2 : Same G1 (upd G1 t2 (.tup [.str "back", .int 1])) := same_upd h2
    have d2 : DdAt (upd G1 t2 (.tup [.str "back", .int 1])) t2 (.back true) := upd_same
    generalize upd G1 t2 (.tup [.str "back", .int 1]) = G2 at *
    have g3 : Same G2 (upd G2 t3 (.tup [.str "strike", .int 0])) := same_upd h3
    have d3 : DdAt (upd G2 t3 (.tup [.str "strike", .int 0])) t3 (.strike false) := upd_same
    generalize upd G2 t3 (.tup [.str "strike", .int 0]) = G3 at *
    have g4 : Same G3 (upd G3 t4 (.tup [.str "strike", .int 1])) := same_upd h4
    have d4 : DdAt (upd G3 t4 (.tup [.str "strike", .int 1])) t4 (.strike true) := upd_same
    generalize upd G3 t4 (.tup [.str "strike", .int 1]) = G4 at *
    have g5 : Same G4 (upd G4 t5 (.tup [.str "night"])) := same_upd h5
    have d5 : DdAt (upd G4 t5 (.tup [.str "night"])) t5 .night := upd_same
    generalize upd G4 t5 (.tup [.str "night"]) = G5 at *
    have g6 : Same G5 (upd G5 a (.lst [.ref t1, .ref t2, .ref t3, .ref t4, .ref t5])) := same_upd ha
    have e6 : (upd G5 a (.lst [.ref t1, .ref t2, .ref t3, .ref t4, .ref t5])) a = some (.lst [.ref t1, .ref t2, .ref t3, .ref t4, .ref t5]) := upd_same
    generalize upd G5 a (.lst [.ref t1, .ref t2, .ref t3, .ref t4, .ref t5]) = G6 at *
    have gA := ((((g1.trans g2).trans g3).trans g4).trans g5).trans g6
    refine ⟨L, a, ys, _, rfl, rfl, gA _ _ hL, e6, Nat.le_trans (show ys.length + 5 ≤ 14 by omega) (by decide), fun p hp => ?_⟩
    have g7 : Same G6 (upd G6 p (.lst (ys ++ [.ref t1, .ref t2, .ref t3, .ref t4, .ref t5]))) := same_upd hp
    refine k p _ _ (((s01.trans s2).trans gA).trans g7) (fresh_of ((s01.trans s2).trans gA) hp) upd_same ?_
    have eg : deeds r.three = gives r.three 2 0 ++ [Dd.back false, Dd.back true, Dd.strike false, Dd.strike true, Dd.night] := by
      cases r.three <;> rfl
    rw [eg]
    refine pApp (Paired.mapP pw fun _ _ z => z.mono (SameN.of (gA.trans g7))) (.cons ⟨t1, rfl, ?_⟩ (.cons ⟨t2, rfl, ?_⟩ (.cons ⟨t3, rfl, ?_⟩ (.cons ⟨t4, rfl, ?_⟩ (.cons ⟨t5, rfl, ?_⟩ .nil)))))
    · exact d1.mono (SameN.of (((((g2.trans g3).trans g4).trans g5).trans g6).trans g7))
    · exact d2.mono (SameN.of ((((g3.trans g4).trans g5).trans g6).trans g7))
    · exact d3.mono (SameN.of (((g4.trans g5).trans g6).trans g7))
    · exact d4.mono (SameN.of ((g5.trans g6).trans g7))
    · exact d5.mono (SameN.of (g6.trans g7))
/-! ### other -/
def spOther : Sp := fun vs H Q _ => ∃ (t : Addr) (d : Dd), vs = [.ref t] ∧ DdAt H t d ∧ ∀ u H', Same H H' → DdAt H' u (swD d) → Q (.ref u) H'
theorem scOther : FnScope ["_law_deed"] ["_law_deed"] (defScope (txt 71)) := ⟨rfl, rfl, rfl, by decide +kernel, rfl, by decide +kernel, by decide +kernel⟩
theorem pI_not (p : Bool) : 1 - pI p = pI (!p) := by cases p <;> rfl
theorem df_other (T : Txt K w mg CR CS) (F : FunAt K mg "_law_other" (txt 71) ["_law_deed"]) : Df P w K mg base "_law_other" ["_law_deed"] 1 spOther := by
  refine F.ok scOther (fun vs H Q E h => ?_) (fun f cdv A outer s H vs Q E hr h => ?_)
  · obtain ⟨t, d, rfl, _⟩ := h
    rfl
  obtain ⟨t, d, rfl, hd, k⟩ := h
  refine ⟨_, pss_one (ps_ret (pe_ifExp (pt_cmpR op_eq (pe_callB call_len_seq (by rfl) T.len PySem.boot_len (pa_cons (pv 0) pa_nil)) pe_int (nomark _)) (pv 0)
    (pe_op op_catT (pe_tup (pa_cons (pe_ix ix_tup (pv 0) pe_int (fun _ _ => rfl)) (pa_cons (pe_op op_sub pe_int (pe_ix ix_tup (pv 0) pe_int (fun _ _ => rfl))) pa_nil))) (pe_slice sl_tup (pv 0) (po_some pe_int) po_none)))), ?_⟩
  have ht : ∀ {H' : Hp}, Same H H' → SqT K H' t (ddV d) := fun s => SqT.of (s _ _ hd)
  refine ⟨_, rfl, t, _, rfl, .inr (ht (Same.refl H)), rfl, _, rfl, ?_⟩
  cases d with
  | night => exact itT (by decide) ⟨_, rfl, k t H (Same.refl H) hd⟩
  | give p m =>
    refine itF (by show decide (V.int 3 = V.int 1) = false; decide) ?_
    refine ⟨_, rfl, t, _, _, _, rfl, rfl, ht (Same.refl H), rfl, _, rfl, t, _, _, _, rfl, rfl, ht (Same.refl H), rfl, _, _, rfl, rfl, (by show 2 ≤ sizeLine; decide), fun u hu => ?_⟩
    have s1 : Same H (upd H u (.tup [.str "give", .int (1 - pI p)])) := same_upd hu
    refine ⟨_, rfl, 2, rfl, t, _, rfl, ht s1, (by show ¬ (HT.sIx 3 0 (some 2) = 0 ∧ HT.sIx 3 3 none = 3); decide), fun v hv => ?_⟩
    have s2 : Same (upd H u (.tup [.str "give", .int (1 - pI p)])) _ := same_upd (o := .tup [.int m]) hv
    refine ⟨u, v, _, _, rfl, rfl, SqT.of (s2 _ _ upd_same), SqT.of upd_same, by simp, (by show 3 ≤ sizeLine; decide), fun z => (nomatch z), fun _ x hx => ?_⟩
    refine k x _ ((s1.trans s2).trans (same_upd hx)) ?_
    show upd _ x _ x = _
    rw [upd_same, pI_not]
    rfl
  | back p =>
    refine itF (by show decide (V.int 2 = V.int 1) = false; decide) ?_
    refine ⟨_, rfl, t, _, _, _, rfl, rfl, ht (Same.refl H), rfl, _, rfl, t, _, _, _, rfl, rfl, ht (Same.refl H), rfl, _, _, rfl, rfl, (by show 2 ≤ sizeLine; decide), fun u hu => ?_⟩
    have s1 : Same H (upd H u (.tup [.str "back", .int (1 - pI p)])) := same_upd hu
    refine ⟨_, rfl, 2, rfl, t, _, rfl, ht s1, (by show ¬ (HT.sIx 2 0 (some 2) = 0 ∧ HT.sIx 2 2 none = 2); decide), fun v hv => ?_⟩
    have s2 : Same (upd H u (.tup [.str "back", .int (1 - pI p)])) _ := same_upd (o := .tup []) hv
    refine ⟨u, v, _, _, rfl, rfl, SqT.of (s2 _ _ upd_same), SqT.of upd_same, by simp, (by show 2 ≤ sizeLine; decide), fun _ => ?_, fun z => absurd rfl z⟩
    refine k u _ (s1.trans s2) (s2 _ _ ?_)
    rw [upd_same, pI_not]
    rfl
  | strike p =>
    refine itF (by show decide (V.int 2 = V.int 1) = false; decide) ?_
    refine ⟨_, rfl, t, _, _, _, rfl, rfl, ht (Same.refl H), rfl, _, rfl, t, _, _, _, rfl, rfl, ht (Same.refl H), rfl, _, _, rfl, rfl, (by show 2 ≤ sizeLine; decide), fun u hu => ?_⟩
    have s1 : Same H (upd H u (.tup [.str "strike", .int (1 - pI p)])) := same_upd hu
    refine ⟨_, rfl, 2, rfl, t, _, rfl, ht s1, (by show ¬ (HT.sIx 2 0 (some 2) = 0 ∧ HT.sIx 2 2 none = 2); decide), fun v hv => ?_⟩
    have s2 : Same (upd H u (.tup [.str "strike", .int (1 - pI p)])) _ := same_upd (o := .tup []) hv
    refine ⟨u, v, _, _, rfl, rfl, SqT.of (s2 _ _ upd_same), SqT.of upd_same, by simp, (by show 2 ≤ sizeLine; decide), fun _ => ?_, fun z => absurd rfl z⟩
    refine k u _ (s1.trans s2) (s2 _ _ ?_)
    rw [upd_same, pI_not]
    rfl
end
end K14
end
section
set_option Elab.async false
set_option linter.all false
set_option maxRecDepth 100000
set_option maxHeartbeats 1000000
/-! The law's comparison: of ints, of numbers, of lists of numbers. -/
namespace K14
open PySem L2
section
variable {P : Program} {w : World} {K : PySem.W.Frag} {mg : Str → Option Value} {base : Heap} {CR CS : Addr}
theorem cr_ty {H : Hp} {x : V} {a n : String} {b : Bool} (ty : TyX K H x (.type a)) (h : kitB a n = some b) {Q : VK} (q : Q (.bl b) H) : rIsi K [x, .ty n] H Q := ⟨x, .ty n, .type a, .type n, b, rfl, .ty _, ty, kit_ty h, q⟩
theorem kit2 {a : String} {b1 b2 : Bool} (h1 : kitB a "tuple" = some b1) (h2 : kitB a "list" = some b2) : PySem.W.kitAny K (.type a) [.type "tuple", .type "list"] = some (b1 || b2) :=
  kitAny_cons (kit_ty h1) (fun e => by subst e; exact kitAny_cons (kit_ty h2) (fun e => by subst e; rfl) (fun e => by subst e; rfl)) (fun e => by subst e; rfl)
theorem cr_tl {H : Hp} {x : V} {a : String} {b1 b2 : Bool} {Q : VK} (ty : ∀ H', Same H H' → TyX K H' x (.type a)) (h1 : kitB a "tuple" = some b1) (h2 : kitB a "list" = some b2) (q : ∀ H', Same H H' → Q (.bl (b1 || b2)) H') :
    [V.ty "tuple", V.ty "list"].length ≤ sizeLine ∧ ∀ tp, H tp = none → rIsiT K [x, .ref tp] (upd H tp (.tup [.ty "tuple", .ty "list"])) Q :=
  ⟨(by show 2 ≤ sizeLine; decide), fun tp htp => ⟨x, tp, _, .type a, _, _, rfl, upd_same, .cons (.ty _) (.cons (.ty _) .nil), ty _ (same_upd htp), kit2 h1 h2, q _ (same_upd htp)⟩⟩
abbrev NLa : List Str := ["_law_found", "_law_due", "_law_k"]
theorem scLAlike : FnScope NLa ["_law_found", "_law_due"] (defScope (txt 65)) := ⟨rfl, rfl, rfl, by decide +kernel, rfl, by decide +kernel, by decide +kernel⟩
/-! ### ints -/
def spAlA : Sp := fun vs H Q _ => ∃ (i : Int), vs = [.int i, .int i] ∧ ∀ H', Same H H' → Q (.bl true) H'
theorem df_alA (T : Txt K w mg CR CS) (F : FunAt K mg "_law_alike" (txt 65) ["_law_found", "_law_due"]) : Df P w K mg base "_law_alike" ["_law_found", "_law_due"] 1 spAlA := by
  refine F.ok scLAlike (fun vs H Q E h => ?_) (fun f cdv A outer s H vs Q E hr h => ?_)
  · obtain ⟨i, rfl, _⟩ := h
    rfl
  obtain ⟨i, rfl, k⟩ := h
  refine ⟨_, pss_cons (ps_if (pt_val (pe_callB call_isi (by rfl) T.isi (by decide +kernel) (pa_cons (pv 1) (pa_cons (pe_bltn (v := V.ty "dict") (by rfl) T.dict (by decide +kernel) rfl) pa_nil)))) (pss_one ps_never) pss_nil)
    (pss_cons (ps_if (pt_val (pe_callB call_isiT (by rfl) T.isi (by decide +kernel) (pa_cons (pv 1) (pa_cons (pe_tup (pa_cons (pe_bltn (v := V.ty "tuple") (by rfl) T.tuple (by decide +kernel) rfl) (pa_cons (pe_bltn (v := V.ty "list") (by rfl) T.list (by decide +kernel) rfl) pa_nil))) pa_nil)))) pss_never pss_nil)
    (pss_cons (ps_if (PW.pt (pw_or (pt_cmpR op_isN (pv 1) pe_non (nomark _)) (pw_or1 (pt_val (pe_callB call_isi (by rfl) T.isi (by decide +kernel) (pa_cons (pv 1) (pa_cons (pe_bltn (v := V.ty "str") (by rfl) T.str (by decide +kernel) rfl) pa_nil))))))) (pss_one ps_never) pss_nil)
    (pss_one (ps_ret (pe_and (pe_callB call_isi (by rfl) T.isi (by decide +kernel) (pa_cons (pv 0) (pa_cons (pe_bltn (v := V.ty "int") (by rfl) T.int (by decide +kernel) rfl) pa_nil))) (pe_and (pe_cmpR op_eq (pe_callB call_isi (by rfl) T.isi (by decide +kernel) (pa_cons (pv 0) (pa_cons (pe_bltn (v := V.ty "bool") (by rfl) T.bool (by decide +kernel) rfl) pa_nil))) (pe_callB call_isi (by rfl) T.isi (by decide +kernel) (pa_cons (pv 1) (pa_cons (pe_bltn (v := V.ty "bool") (by rfl) T.bool (by decide +kernel) rfl) pa_nil))) (nomark _)) (pe_one (pe_cmpR op_eq (pv 0) (pv 1) (nomark _))))))))), ?_⟩
  have ti : ∀ {H' : Hp}, TyX K H' (.int i) (.type "int") := fun {H'} => .base (.int i)
  refine ⟨_, rfl, ?_⟩
  simp only [tCons, tC, tNil]
  refine cr_ty (b := false) ti (by decide +kernel) ⟨_, rfl, itF rfl ?_⟩
  refine ⟨_, rfl, ?_⟩
  simp only [tTup, tCons, tC, tNil]
  refine cr_tl (b1 := false) (b2 := false) (fun H' _ => ti) (by decide +kernel) (by decide +kernel) fun H1 s1 => ⟨_, rfl, itF rfl ?_⟩
  refine ⟨_, rfl, rfl, _, rfl, itF (by rfl) ?_⟩
  refine ⟨_, rfl, ?_⟩
  simp only [tCons, tC, tNil]
  refine cr_ty (b := false) ti (by decide +kernel) ⟨_, rfl, itF rfl ?_⟩
  refine ⟨_, rfl, ?_⟩
  simp only [tCons, tC, tNil]
  refine cr_ty (b := true) ti (by decide +kernel) ⟨_, rfl, itT rfl ?_⟩
  refine ⟨_, rfl, ?_⟩
  simp only [tCons, tC, tNil]
  refine cr_ty (b := false) ti (by decide +kernel) ⟨_, rfl, ?_⟩
  simp only [tCons, tC, tNil]
  refine cr_ty (b := false) ti (by decide +kernel) ⟨rfl, _, rfl, itT (by decide) ?_⟩
  refine ⟨_, rfl, _, rfl, (by show (true : Bool) = true; rfl), ?_⟩
  rw [decide_eq_true rfl]
  exact k H1 s1
/-! ### numbers -/
def spAlB : Sp := fun vs H Q _ => ∃ (x y : V) (n : Option (Int × Int)), vs = [x, y] ∧ NumAt H x n ∧ NumAt H y n ∧ ∀ H', Same H H' → Q (.bl true) H'
theorem df_alB (T : Txt K w mg CR CS) (F : FunAt K mg "_law_alike" (txt 65) ["_law_found", "_law_due"]) (D : Df P w K mg base "_law_alike" ["_law_found", "_law_due"] 1 spAlA) : Df P w K mg base "_law_alike" ["_law_found", "_law_due"] 2 spAlB := by
  refine F.ok scLAlike (fun vs H Q E h => ?_) (fun f cdv A outer s H vs Q E hr h => ?_)
  · obtain ⟨x, y, n, rfl, _⟩ := h
    rfl
  obtain ⟨x, y, n, rfl, hx, hy, k⟩ := h
  refine ⟨_, pss_cons (ps_if (pt_val (pe_callB call_isi (by rfl) T.isi (by decide +kernel) (pa_cons (pv 1) (pa_cons (pe_bltn (v := V.ty "dict") (by rfl) T.dict (by decide +kernel) rfl) pa_nil)))) (pss_one ps_never) pss_nil)
    (pss_cons (ps_if (pt_val (pe_callB call_isiT (by rfl) T.isi (by decide +kernel) (pa_cons (pv 1) (pa_cons (pe_tup (pa_cons (pe_bltn (v := V.ty "tuple") (by rfl) T.tuple (by decide +kernel) rfl) (pa_cons (pe_bltn (v := V.ty "list") (by rfl) T.list (by decide +kernel) rfl) pa_nil))) pa_nil)))) (pss_cons (ps_if (PW.pt (pw_or (pt_not (pt_val (pe_callB call_isiT (by rfl) T.isi (by decide +kernel) (pa_cons (pv 0) (pa_cons (pe_tup (pa_cons (pe_bltn (v := V.ty "tuple") (by rfl) T.tuple (by decide +kernel) rfl) (pa_cons (pe_bltn (v := V.ty "list") (by rfl) T.list (by decide +kernel) rfl) pa_nil))) pa_nil))))) (pw_or1 (pt_cmpR op_ne (pe_callB call_isi (by rfl) T.isi (by decide +kernel) (pa_cons (pv 0) (pa_cons (pe_bltn (v := V.ty "list") (by rfl) T.list (by decide +kernel) rfl) pa_nil))) (pe_callB call_isi (by rfl) T.isi (by decide +kernel) (pa_cons (pv 1) (pa_cons (pe_bltn (v := V.ty "list") (by rfl) T.list (by decide +kernel) rfl) pa_nil))) (nomark _))))) (pss_one ps_never) pss_nil) (pss_cons (ps_if (pt_cmpR op_ne (pe_callB call_len_seq (by rfl) T.len PySem.boot_len (pa_cons (pv 0) pa_nil)) (pe_callB call_len_seq (by rfl) T.len PySem.boot_len (pa_cons (pv 1) pa_nil)) (nomark _)) (pss_one ps_never) pss_nil)
      (pss_one (ps_ret (pe_cmpR (op_eqD hr.units) (pe_lc (own := [("_law_k", 2)]) (g := gName 2) (tt := (tNot (tB (tCall spAlA [] E0 (tCons (tOp (rIxT K) (tVar 0) (tVar 2)) (tCons (tOp (rIxT K) (tVar 1) (tVar 2)) tNil)))))) (te := tVar 2) rfl scLAlike.nd (pi_range1 (by rfl) T.range (pa_cons (pe_callB call_len_seq (by rfl) T.len PySem.boot_len (pa_cons (pv 1) pa_nil)) pa_nil)) (blkOk_by (N := NLa) (sc := defScope (txt 65)) (by decide +kernel))
        (fun _ _ _ _ _ => pg_name (i := 2) scLAlike.nd rfl (Or.inl rfl)) (fun _ _ _ _ _ => pts_one (pt_not (pt_val (pe_df D hr rfl (pa_cons (pe_ix ix_tup (pv 0) (pv 2) (fun _ _ => rfl)) (pa_cons (pe_ix ix_tup (pv 1) (pv 2) (fun _ _ => rfl)) pa_nil)))))) (fun _ _ _ _ _ => pv 2)) (pe_lst pa_nil) (nomark _)))))) pss_nil)
    (pss_cons (ps_if (PW.pt (pw_or (pt_cmpR op_isN (pv 1) pe_non (nomark _)) (pw_or1 (pt_val (pe_callB call_isi (by rfl) T.isi (by decide +kernel) (pa_cons (pv 1) (pa_cons (pe_bltn (v := V.ty "str") (by rfl) T.str (by decide +kernel) rfl) pa_nil))))))) (pss_one (ps_ret (pe_and (pe_cmpR op_eq (pv 0) (pv 1) (nomark _)) (pe_one (pe_cmpR op_eq (pe_callB call_isi (by rfl) T.isi (by decide +kernel) (pa_cons (pv 0) (pa_cons (pe_bltn (v := V.ty "str") (by rfl) T.str (by decide +kernel) rfl) pa_nil))) (pe_callB call_isi (by rfl) T.isi (by decide +kernel) (pa_cons (pv 1) (pa_cons (pe_bltn (v := V.ty "str") (by rfl) T.str (by decide +kernel) rfl) pa_nil))) (nomark _)))))) pss_nil)
    pss_never)), ?_⟩
  cases n with
  | none =>
    obtain rfl : x = .non := hx
    obtain rfl : y = .non := hy
    have ti : ∀ {H' : Hp}, TyX K H' V.non (.type "NoneType") := fun {H'} => .base .non
    refine ⟨_, rfl, ?_⟩
    simp only [tCons, tC, tNil]
    refine cr_ty (b := false) ti (by decide +kernel) ⟨_, rfl, itF rfl ?_⟩
    refine ⟨_, rfl, ?_⟩
    simp only [tTup, tCons, tC, tNil]
    refine cr_tl (b1 := false) (b2 := false) (fun H' _ => ti) (by decide +kernel) (by decide +kernel) fun H1 s1 => ⟨_, rfl, itF rfl ?_⟩
    refine ⟨_, rfl, rfl, _, rfl, itT (by rfl) ?_⟩
    refine itT rfl ?_
    refine ⟨_, rfl, _, rfl, (by show (true : Bool) = true; rfl), _, rfl, itT (by decide) ?_⟩
    refine ⟨_, rfl, ?_⟩
    simp only [tCons, tC, tNil]
    refine cr_ty (b := false) ti (by decide +kernel) ⟨_, rfl, ?_⟩
    simp only [tCons, tC, tNil]
    refine cr_ty (b := false) ti (by decide +kernel) ⟨rfl, ?_⟩
    rw [decide_eq_true rfl]
    exact k H1 s1
  | some n =>
    obtain ⟨a, rfl, ha⟩ := hx
    obtain ⟨b, rfl, hb⟩ := hy
    have ta : ∀ {H' : Hp}, Same H H' → TyX K H' (.ref a) (.type "tuple") := fun {H'} s => .base (.tup (s _ _ ha))
    have tb : ∀ {H' : Hp}, Same H H' → TyX K H' (.ref b) (.type "tuple") := fun {H'} s => .base (.tup (s _ _ hb))
    refine ⟨_, rfl, ?_⟩
    simp only [tCons, tC, tNil]
    refine cr_ty (b := false) (tb (Same.refl H)) (by decide +kernel) ⟨_, rfl, itF rfl ?_⟩
    refine ⟨_, rfl, ?_⟩
    simp only [tTup, tCons, tC, tNil]
    refine cr_tl (b1 := true) (b2 := false) (fun H' s => tb s) (by decide +kernel) (by decide +kernel) fun H1 s1 => ⟨_, rfl, itT rfl ?_⟩
    refine ⟨_, rfl, ?_⟩
    simp only [tTup, tCons, tC, tNil]
    refine cr_tl (b1 := true) (b2 := false) (fun H' s => ta (s1.trans s)) (by decide +kernel) (by decide +kernel) fun H2 s2 => ⟨_, rfl, itF rfl ?_⟩
    have s12 := s1.trans s2
    refine ⟨_, rfl, ?_⟩
    simp only [tCons, tC, tNil]
    refine cr_ty (b := false) (ta s12) (by decide +kernel) ⟨_, rfl, ?_⟩
    simp only [tCons, tC, tNil]
    refine cr_ty (b := false) (tb s12) (by decide +kernel) ⟨rfl, _, rfl, itF (by decide) ?_⟩
    refine ⟨_, rfl, a, _, rfl, .inr (SqT.of (s12 _ _ ha)), _, rfl, b, _, rfl, .inr (SqT.of (s12 _ _ hb)), rfl, _, rfl, ?_⟩
    skip
    refine itF (by simp) ?_
    refine ⟨_, rfl, b, _, rfl, .inr (SqT.of (s12 _ _ hb)), _, rfl, (by show -(2 ^ 62 : Int) ≤ 2; decide), (by show (2 : Int) < 2 ^ 62; decide), fun D hD => ?_⟩
    rw [Int.toNat_natCast]
    refine wk_it (walk_range (lo := 0) (n := 2)) (fun i H3 => Same H2 H3 ∧ H3 D = some (.lst [])) ⟨same_upd hD, upd_same⟩ (fun _ _ _ _ => trivial) ?_ ?_
    · rintro i x H3 H3' hi ⟨s3, hz⟩ ⟨rfl, rfl⟩
      have s13 := s12.trans s3
      have hi2 : i < 2 := hi
      obtain ⟨v, hv⟩ : ∃ v : Int, ([.int n.1, .int n.2] : List V)[i]? = some (.int v) := by
        match i, hi2 with
        | 0, _ => exact ⟨n.1, rfl⟩
        | 1, _ => exact ⟨n.2, rfl⟩
      refine ⟨rfl, _, rfl, _, rfl, a, _, _, _, rfl, rfl, SqT.of (s13 _ _ ha), by rw [Int.zero_add]; exact atI_nat hv, ?_⟩
      refine ⟨_, rfl, _, rfl, b, _, _, _, rfl, rfl, SqT.of (s13 _ _ hb), by rw [Int.zero_add]; exact atI_nat hv, ?_⟩
      exact ⟨v, rfl, fun H4 s4 => ⟨_, rfl, itF rfl ⟨s3.trans s4, s4 _ _ hz⟩⟩⟩
    · rintro H3 ⟨s3, hz⟩
      refine ⟨(by show 0 ≤ sizeLine; decide), fun nl hnl => ⟨.list [], .list [], .lst (SqL.of ((same_upd hnl) _ _ hz)) .nil, .lst (SqL.of upd_same) .nil, by decide +kernel, by decide +kernel, ?_⟩⟩
      have ev : PyData.eqv (.list []) (.list []) = true := by decide +kernel
      rw [ev]
      exact k _ ((s12.trans s3).trans (same_upd hnl))
/-! ### lists of numbers -/
def spAlC : Sp := fun vs H Q _ => ∃ (a b : Addr) (xs ys : List V) (ns : List (Option (Int × Int))), vs = [.ref a, .ref b] ∧ H a = some (.lst xs) ∧ H b = some (.lst ys) ∧ Paired (NumAt H) xs ns ∧ Paired (NumAt H) ys ns ∧ ns.length ≤ 1000 ∧ ∀ H', Same H H' → Q (.bl true) H'
theorem df_alC (T : Txt K w mg CR CS) (F : FunAt K mg "_law_alike" (txt 65) ["_law_found", "_law_due"]) (D : Df P w K mg base "_law_alike" ["_law_found", "_law_due"] 2 spAlB) : Df P w K mg base "_law_alike" ["_law_found", "_law_due"] 3 spAlC := by
  refine F.ok scLAlike (fun vs H Q E h => ?_) (fun f cdv A outer s H vs Q E hr h => ?_)
  · obtain ⟨a, b, xs, ys, ns, rfl, _⟩ := h
    rfl
  obtain ⟨a, b, xs, ys, ns, rfl, ha, hb, pa, pb, hz0, k⟩ := h
  refine ⟨_, pss_cons (ps_if (pt_val (pe_callB call_isi (by rfl) T.isi (by decide +kernel) (pa_cons (pv 1) (pa_cons (pe_bltn (v := V.ty "dict") (by rfl) T.dict (by decide +kernel) rfl) pa_nil)))) (pss_one ps_never) pss_nil)
    (pss_cons (ps_if (pt_val (pe_callB call_isiT (by rfl) T.isi (by decide +kernel) (pa_cons (pv 1) (pa_cons (pe_tup (pa_cons (pe_bltn (v := V.ty "tuple") (by rfl) T.tuple (by decide +kernel) rfl) (pa_cons (pe_bltn (v := V.ty "list") (by rfl) T.list (by decide +kernel) rfl) pa_nil))) pa_nil)))) (pss_cons (ps_if (PW.pt (pw_or (pt_not (pt_val (pe_callB call_isiT (by rfl) T.isi (by decide +kernel) (pa_cons (pv 0) (pa_cons (pe_tup (pa_cons (pe_bltn (v := V.ty "tuple") (by rfl) T.tuple (by decide +kernel) rfl) (pa_cons (pe_bltn (v := V.ty "list") (by rfl) T.list (by decide +kernel) rfl) pa_nil))) pa_nil))))) (pw_or1 (pt_cmpR op_ne (pe_callB call_isi (by rfl) T.isi (by decide +kernel) (pa_cons (pv 0) (pa_cons (pe_bltn (v := V.ty "list") (by rfl) T.list (by decide +kernel) rfl) pa_nil))) (pe_callB call_isi (by rfl) T.isi (by decide +kernel) (pa_cons (pv 1) (pa_cons (pe_bltn (v := V.ty "list") (by rfl) T.list (by decide +kernel) rfl) pa_nil))) (nomark _))))) (pss_one ps_never) pss_nil) (pss_cons (ps_if (pt_cmpR op_ne (pe_callB call_len_seq (by rfl) T.len PySem.boot_len (pa_cons (pv 0) pa_nil)) (pe_callB call_len_seq (by rfl) T.len PySem.boot_len (pa_cons (pv 1) pa_nil)) (nomark _)) (pss_one ps_never) pss_nil)
      (pss_one (ps_ret (pe_cmpR (op_eqD hr.units) (pe_lc (own := [("_law_k", 2)]) (g := gName 2) (tt := (tNot (tB (tCall spAlB [] E0 (tCons (tOp (rIxL K) (tVar 0) (tVar 2)) (tCons (tOp (rIxL K) (tVar 1) (tVar 2)) tNil)))))) (te := tVar 2) rfl scLAlike.nd (pi_range1 (by rfl) T.range (pa_cons (pe_callB call_len_seq (by rfl) T.len PySem.boot_len (pa_cons (pv 1) pa_nil)) pa_nil)) (blkOk_by (N := NLa) (sc := defScope (txt 65)) (by decide +kernel))
        (fun _ _ _ _ _ => pg_name (i := 2) scLAlike.nd rfl (Or.inl rfl)) (fun _ _ _ _ _ => pts_one (pt_not (pt_val (pe_df D hr rfl (pa_cons (pe_ix ix_list (pv 0) (pv 2) (fun _ _ => rfl)) (pa_cons (pe_ix ix_list (pv 1) (pv 2) (fun _ _ => rfl)) pa_nil)))))) (fun _ _ _ _ _ => pv 2)) (pe_lst pa_nil) (nomark _)))))) pss_nil)
    pss_never), ?_⟩
  have ta : ∀ {H' : Hp}, Same H H' → TyX K H' (.ref a) (.type "list") := fun {H'} s => .base (.lst (s _ _ ha))
  have tb : ∀ {H' : Hp}, Same H H' → TyX K H' (.ref b) (.type "list") := fun {H'} s => .base (.lst (s _ _ hb))
  have la : xs.length = ns.length := Paired.length pa
  have lb : ys.length = ns.length := Paired.length pb
  refine ⟨_, rfl, ?_⟩
  simp only [tCons, tC, tNil]
  refine cr_ty (b := false) (tb (Same.refl H)) (by decide +kernel) ⟨_, rfl, itF rfl ?_⟩
  refine ⟨_, rfl, ?_⟩
  simp only [tTup, tCons, tC, tNil]
  refine cr_tl (b1 := false) (b2 := true) (fun H' s => tb s) (by decide +kernel) (by decide +kernel) fun H1 s1 => ⟨_, rfl, itT rfl ?_⟩
  refine ⟨_, rfl, ?_⟩
  simp only [tTup, tCons, tC, tNil]
  refine cr_tl (b1 := false) (b2 := true) (fun H' s => ta (s1.trans s)) (by decide +kernel) (by decide +kernel) fun H2 s2 => ⟨_, rfl, itF rfl ?_⟩
  have s12 := s1.trans s2
  refine ⟨_, rfl, ?_⟩
  simp only [tCons, tC, tNil]
  refine cr_ty (b := true) (ta s12) (by decide +kernel) ⟨_, rfl, ?_⟩
  simp only [tCons, tC, tNil]
  refine cr_ty (b := true) (tb s12) (by decide +kernel) ⟨rfl, _, rfl, itF (by decide) ?_⟩
  refine ⟨_, rfl, a, _, rfl, .inl (SqL.of (s12 _ _ ha)), _, rfl, b, _, rfl, .inl (SqL.of (s12 _ _ hb)), rfl, _, rfl, ?_⟩
  rw [la, lb]
  refine itF (by simp) ?_
  refine ⟨_, rfl, b, _, rfl, .inl (SqL.of (s12 _ _ hb)), _, rfl, by omega, by omega, fun D hD => ?_⟩
  rw [Int.toNat_natCast]
  refine wk_it (walk_range (lo := 0) (n := ys.length)) (fun i H3 => Same H2 H3 ∧ H3 D = some (.lst [])) ⟨same_upd hD, upd_same⟩ (fun _ _ _ _ => trivial) ?_ ?_
  · rintro i x H3 H3' hi ⟨s3, hz⟩ ⟨rfl, rfl⟩
    have s13 := s12.trans s3
    have hia : i < xs.length := by omega
    have hib : i < ys.length := by omega
    obtain ⟨n, hn, r1⟩ := pairedGetZ pa (List.getElem?_eq_getElem hia)
    obtain ⟨n', hn', r2⟩ := pairedGetZ pb (List.getElem?_eq_getElem hib)
    rw [hn] at hn'
    cases hn'
    refine ⟨rfl, _, rfl, _, rfl, a, _, _, _, rfl, rfl, SqL.of (s13 _ _ ha), by rw [Int.zero_add]; exact atI_nat (List.getElem?_eq_getElem hia), ?_⟩
    refine ⟨_, rfl, _, rfl, b, _, _, _, rfl, rfl, SqL.of (s13 _ _ hb), by rw [Int.zero_add]; exact atI_nat (List.getElem?_eq_getElem hib), ?_⟩
    exact ⟨_, _, n, rfl, r1.mono (SameN.of s13), r2.mono (SameN.of s13), fun H4 s4 => ⟨_, rfl, itF rfl ⟨s3.trans s4, s4 _ _ hz⟩⟩⟩
  · rintro H3 ⟨s3, hz⟩
    refine ⟨(by show 0 ≤ sizeLine; decide), fun nl hnl => ⟨.list [], .list [], .lst (SqL.of ((same_upd hnl) _ _ hz)) .nil, .lst (SqL.of upd_same) .nil, by decide +kernel, by decide +kernel, ?_⟩⟩
    have ev : PyData.eqv (.list []) (.list []) = true := by decide +kernel
    rw [ev]
    exact k _ ((s12.trans s3).trans (same_upd hnl))
end
end K14
end
section
set_option Elab.async false
set_option linter.all false
set_option maxRecDepth 100000
/-! Plain laws: what an eye can know of counts; persons one by one. -/
namespace K14
def stk : Option Rw → Bool
  | none => false
  | some .struck => true
  | some (.mk _ _ s) => s
def mrk : Option Rw → Option Int
  | some (.mk m _ false) => some m
  | _ => none
def odk : Option Rw → Bool
  | some (.mk _ o _) => o
  | _ => false
theorem struckAt_stk (rows : Rows) (p : Bool) : struckAt rows p = stk (rowAt rows p) := by
  unfold struckAt stk
  rcases rowAt rows p with _ | (_ | ⟨m, o, s⟩) <;> rfl
theorem markAt_mrk (rows : Rows) (p : Bool) : markAt rows p = mrk (rowAt rows p) := by
  unfold markAt mrk
  rcases rowAt rows p with _ | (_ | ⟨m, o, s⟩) <;> first | rfl | (cases s <;> rfl)
theorem oldAt_odk (rows : Rows) (p : Bool) : oldAt rows p = odk (rowAt rows p) := by
  unfold oldAt odk
  rcases rowAt rows p with _ | (_ | ⟨m, o, s⟩) <;> rfl
/-- what a deed is to one person -/
inductive Kd where | give (m : Int) | back | strike | night | idle deriving DecidableEq
def actK (stay : Bool) : Kd → Option Rw → Option Rw
  | .idle, x => x
  | .night, x => x.map aged
  | .give m, x => if stk x then x else some (.mk m false false)
  | .back, x => if stk x then x else match mrk x with
    | none => x
    | some _ => none
  | .strike, x => if stk x then x else match mrk x with
    | none => some .struck
    | some m => if stay then some (.mk m (odk x) true) else some .struck
def kdOf : Dd → Bool → Kd
  | .give q m, p => if q = p then .give m else .idle
  | .back q, p => if q = p then .back else .idle
  | .strike q, p => if q = p then .strike else .idle
  | .night, _ => .night
theorem rowAt_put (p q : Bool) (x : Rw) : ∀ rows : Rows, rowAt (putR rows q x) p = if q = p then some x else rowAt rows p
  | [] => rfl
  | (a, y) :: r => by
    have ih := rowAt_put p q x r
    unfold putR
    by_cases h : a = q
    · subst h
      rw [if_pos rfl]
      unfold rowAt
      by_cases h2 : a = p <;> simp [h2]
    · rw [if_neg h]
      unfold rowAt
      rw [ih]
      by_cases h2 : a = p
      · subst h2
        have h3 : q ≠ a := Ne.symm h
        simp [h3]
      · simp [h2]
theorem rowAt_drop (p q : Bool) : ∀ rows : Rows, rowAt (dropR rows q) p = if q = p then none else rowAt rows p
  | [] => by simp [dropR, rowAt]
  | (a, y) :: r => by
    have ih := rowAt_drop p q r
    unfold dropR
    by_cases h : a = q
    · subst h
      rw [if_pos rfl, ih]
      by_cases h2 : a = p
      · simp [h2]
      · simp [h2, rowAt]
    · rw [if_neg h]
      unfold rowAt
      rw [ih]
      by_cases h2 : a = p
      · subst h2
        have h3 : q ≠ a := Ne.symm h
        simp [h3]
      · simp [h2]
theorem rowAt_aged (p : Bool) : ∀ rows : Rows, rowAt (rows.map fun x => (x.1, aged x.2)) p = (rowAt rows p).map aged
  | [] => rfl
  | (a, y) :: r => by
    have ih := rowAt_aged p r
    rw [List.map_cons]
    unfold rowAt
    rw [ih]
    by_cases h2 : a = p <;> simp [h2]
theorem rowAt_done (stay : Bool) (rows : Rows) (d : Dd) (p : Bool) : rowAt (doneRows stay rows d) p = actK stay (kdOf d p) (rowAt rows p) := by
  cases d with
  | night => exact rowAt_aged p rows
  | give q m =>
    unfold doneRows kdOf
    dsimp only
    rw [struckAt_stk]
    by_cases h : q = p
    · subst h
      rw [if_pos rfl]
      unfold actK
      dsimp only
      by_cases hs : stk (rowAt rows q) = true
      · rw [if_pos hs, if_pos hs]
      · rw [if_neg hs, if_neg hs, rowAt_put, if_pos rfl]
    · rw [if_neg h]
      unfold actK
      split
      · rfl
      · rw [rowAt_put, if_neg h]
  | back q =>
    unfold doneRows kdOf
    dsimp only
    rw [struckAt_stk, markAt_mrk]
    by_cases h : q = p
    · subst h
      rw [if_pos rfl]
      unfold actK
      dsimp only
      by_cases hs : stk (rowAt rows q) = true
      · rw [if_pos hs, if_pos hs]
      · rw [if_neg hs, if_neg hs]
        cases mrk (rowAt rows q) with
        | none => rfl
        | some m => dsimp only; rw [rowAt_drop, if_pos rfl]
    · rw [if_neg h]
      unfold actK
      split
      · rfl
      · cases mrk (rowAt rows q) with
        | none => rfl
        | some m => dsimp only; rw [rowAt_drop, if_neg h]
  | strike q =>
    unfold doneRows kdOf
    dsimp only
    rw [struckAt_stk, markAt_mrk, oldAt_odk]
    by_cases h : q = p
    · subst h
      rw [if_pos rfl]
      unfold actK
      dsimp only
      by_cases hs : stk (rowAt rows q) = true
      · rw [if_pos hs, if_pos hs]
      · rw [if_neg hs, if_neg hs]
        cases mrk (rowAt rows q) with
        | none => dsimp only; rw [rowAt_put, if_pos rfl]
        | some m =>
          dsimp only
          cases stay with
          | true => simp only [if_true]; rw [rowAt_put, if_pos rfl]
          | false => simp only [if_false, Bool.false_eq_true]; rw [rowAt_put, if_pos rfl]
    · rw [if_neg h]
      unfold actK
      split
      · rfl
      · cases mrk (rowAt rows q) with
        | none => dsimp only; rw [rowAt_put, if_neg h]
        | some m =>
          dsimp only
          cases stay with
          | true => simp only [if_true]; rw [rowAt_put, if_neg h]
          | false => simp only [if_false, Bool.false_eq_true]; rw [rowAt_put, if_neg h]
/-! ### looking alike -/
def simR (seen : Bool) : Option Rw → Option Rw → Bool
  | none, none => true
  | some .struck, some .struck => true
  | some (.mk m o s), some (.mk m' o' s') => o == o' && s == s' && (!seen || m == m')
  | _, _ => false
def simK (seen : Bool) : Kd → Kd → Bool
  | .give m, .give m' => !seen || m == m'
  | .back, .back => true
  | .strike, .strike => true
  | .night, .night => true
  | .idle, .idle => true
  | _, _ => false
theorem simR_refl (b : Bool) (x : Option Rw) : simR b x x = true := by
  rcases x with _ | (_ | ⟨m, o, s⟩) <;> simp [simR]
theorem simR_symm {b : Bool} {x y : Option Rw} (h : simR b x y = true) : simR b y x = true := by
  rcases x with _ | (_ | ⟨m, o, s⟩) <;> rcases y with _ | (_ | ⟨m', o', s'⟩) <;> simp [simR] at *
  obtain ⟨⟨h1, h2⟩, h3⟩ := h
  exact ⟨⟨h1.symm, h2.symm⟩, h3.imp id Eq.symm⟩
theorem simR_trans {b : Bool} {x y z : Option Rw} (h : simR b x y = true) (g : simR b y z = true) : simR b x z = true := by
  rcases x with _ | (_ | ⟨m, o, s⟩) <;> rcases y with _ | (_ | ⟨m', o', s'⟩) <;> rcases z with _ | (_ | ⟨m'', o'', s''⟩) <;> simp [simR] at *
  obtain ⟨⟨h1, h2⟩, h3⟩ := h
  obtain ⟨⟨g1, g2⟩, g3⟩ := g
  refine ⟨⟨h1.trans g1, h2.trans g2⟩, ?_⟩
  rcases h3 with h3 | h3
  · exact .inl h3
  · rcases g3 with g3 | g3
    · exact .inl g3
    · exact .inr (h3.trans g3)
theorem simR_act {b stay : Bool} {k k' : Kd} {x y : Option Rw} (h : simR b x y = true) (g : simK b k k' = true) : simR b (actK stay k x) (actK stay k' y) = true := by
  rcases x with _ | (_ | ⟨m, o, s⟩) <;> rcases y with _ | (_ | ⟨m', o', s'⟩) <;> simp [simR] at h <;> cases k <;> cases k' <;> simp [simK] at g <;> simp [actK, stk, mrk, odk, aged, simR, *]
  all_goals (obtain ⟨⟨rfl, rfl⟩, h3⟩ := h; cases o <;> cases s <;> cases stay <;> simp_all [actK, stk, mrk, odk, aged, simR])
/-! ### and back, by a finite look -/
def orS (three stay : Bool) : List (Option Rw) := none :: (rwsL three stay).map some
def kdL (three : Bool) : List Kd := (marksTo three).map .give ++ [.back, .strike, .night, .idle]
def backOk (three stay seen : Bool) : Bool := (orS three stay).all fun x => (kdL three).all fun k => (orS three stay).all fun z => !simR seen (actK stay k x) z ||
  (orS three stay).any fun y => simR seen x y && (kdL three).any fun k' => simK seen k k' && decide (actK stay k' y = z)
theorem backOk_all : ∀ three stay seen, backOk three stay seen = true := by decide +kernel
theorem sim_back {three stay seen : Bool} {x z : Option Rw} {k : Kd} (hx : x ∈ orS three stay) (hk : k ∈ kdL three) (hz : z ∈ orS three stay) (h : simR seen (actK stay k x) z = true) :
    ∃ y ∈ orS three stay, simR seen x y = true ∧ ∃ k' ∈ kdL three, simK seen k k' = true ∧ actK stay k' y = z := by
  have c := backOk_all three stay seen
  unfold backOk at c
  have c1 := List.all_eq_true.mp (List.all_eq_true.mp (List.all_eq_true.mp c x hx) k hk) z hz
  rw [h] at c1
  simp only [Bool.not_true, Bool.false_or] at c1
  obtain ⟨y, hy, c2⟩ := List.any_eq_true.mp c1
  rw [Bool.and_eq_true] at c2
  obtain ⟨k', hk', c3⟩ := List.any_eq_true.mp c2.2
  rw [Bool.and_eq_true] at c3
  exact ⟨y, hy, c2.1, k', hk', c3.1, of_decide_eq_true c3.2⟩
/-! ### two persons -/
def seesB (e : Option Bool) (p : Bool) : Bool := decide (e = some p)
def simD (e : Option Bool) (d o : Dd) : Prop := ∀ p, simK (seesB e p) (kdOf d p) (kdOf o p) = true
def Sim (e : Option Bool) (S T : Sg) : Prop := ∀ p, simR (seesB e p) (rowAt S.rows p) (rowAt T.rows p) = true
theorem Sim.refl (e : Option Bool) (S : Sg) : Sim e S S := fun p => simR_refl _ _
theorem Sim.symm {e : Option Bool} {S T : Sg} (h : Sim e S T) : Sim e T S := fun p => simR_symm (h p)
theorem Sim.trans {e : Option Bool} {S T U : Sg} (h : Sim e S T) (g : Sim e T U) : Sim e S U := fun p => simR_trans (h p) (g p)
theorem Sim.done {e : Option Bool} {r : Ru} {S T : Sg} {d o : Dd} (h : Sim e S T) (g : simD e d o) : Sim e (done r S d) (done r T o) := fun p => by
  rw [done_rows, done_rows, rowAt_done, rowAt_done]
  exact simR_act (h p) (g p)
/-- rows of two persons -/
def mkR (x y : Option Rw) : Rows := (match x with | none => [] | some a => [(false, a)]) ++ (match y with | none => [] | some b => [(true, b)])
theorem mkR_at (x y : Option Rw) : rowAt (mkR x y) false = x ∧ rowAt (mkR x y) true = y := by
  cases x <;> cases y <;> exact ⟨rfl, rfl⟩
theorem rwsL_ok {three stay : Bool} {x : Rw} : x ∈ rwsL three stay → rwOk (if three = true then 3 else 2) stay x = true := by
  cases three <;> cases stay <;> revert x <;> decide
theorem mkR_ok {three stay : Bool} {x y : Option Rw} (hx : x ∈ orS three stay) (hy : y ∈ orS three stay) : rowsOk (if three = true then 3 else 2) stay (mkR x y) = true := by
  have f : ∀ {a : Rw}, some a ∈ orS three stay → rwOk (if three = true then 3 else 2) stay a = true := fun {a} h => by
    unfold orS at h
    rcases List.mem_cons.mp h with h | h
    · cases h
    · obtain ⟨b, hb, e⟩ := List.mem_map.mp h
      cases e
      exact rwsL_ok hb
  rw [rowsOk_iff]
  cases x with
  | none => cases y with
    | none => exact ⟨rfl, rfl⟩
    | some b => exact ⟨by simp [mkR, f hy], rfl⟩
  | some a => cases y with
    | none => exact ⟨by simp [mkR, f hx], rfl⟩
    | some b => exact ⟨by simp [mkR, f hx, f hy], rfl⟩
theorem orS_mem {three stay : Bool} {rows : Rows} (h : rowsOk (if three = true then 3 else 2) stay rows = true) (p : Bool) : rowAt rows p ∈ orS three stay := by
  cases e : rowAt rows p with
  | none => exact List.mem_cons_self
  | some x => exact List.mem_cons_of_mem _ (List.mem_map_of_mem (rw_mem (rowAt_ok (rowsOk_iff.mp h).1 e)))
/-- how many a row counts -/
def c1 : Option Rw → Nat
  | some (.mk _ _ _) => 1
  | _ => 0
theorem many_c1 {rows : Rows} (h : nd2 rows = true) : many rows = c1 (rowAt rows false) + c1 (rowAt rows true) := by
  rcases nd2_cases h with rfl | ⟨p, x, rfl⟩ | ⟨p, x, y, rfl⟩
  · rfl
  · cases p <;> cases x <;> rfl
  · cases p <;> cases x <;> cases y <;> rfl
theorem sim_c1 {b : Bool} {x y : Option Rw} (h : simR b x y = true) : c1 x = c1 y := by
  rcases x with _ | (_ | ⟨m, o, s⟩) <;> rcases y with _ | (_ | ⟨m', o', s'⟩) <;> simp [simR] at h <;> rfl
theorem Sim.many {e : Option Bool} {S T : Sg} (h : Sim e S T) (hS : nd2 S.rows = true) (hT : nd2 T.rows = true) : many S.rows = many T.rows := by
  rw [many_c1 hS, many_c1 hT, sim_c1 (h false), sim_c1 (h true)]
/-! ### a good standing of a count -/
structure GdC (r : Ru) (S : Sg) : Prop where
  ok : rowsOk r.top r.stay S.rows = true
  kc : KC r S
theorem GdC.kept_eq {r : Ru} {S T : Sg} (h : GdC r S) (g : GdC r T) (e : K14.many S.rows = K14.many T.rows) : S.kept = T.kept := by
  have h1 := h.kc
  have h2 := g.kc
  unfold KC at h1 h2
  rw [h1, h2]
  unfold keptC
  rw [e]
theorem GdC.kq_eq {r : Ru} {S T : Sg} (h : GdC r S) (g : GdC r T) (e : ∀ p, rowAt S.rows p = rowAt T.rows p) : kq S = kq T := by
  have em : K14.many S.rows = K14.many T.rows := by rw [many_c1 (rowsOk_nd h.ok), many_c1 (rowsOk_nd g.ok), e, e]
  unfold kq
  rw [e, e, em, h.kept_eq g em]
theorem GdC.done {r : Ru} (hm : r.meas = .count) {S : Sg} {d : Dd} (h : GdC r S) (hd : d ∈ deeds r.three) : GdC r (done r S d) := ⟨rows_done' h.ok hd, kc_done hm h.ok hd h.kc⟩
theorem GdC.kI {r : Ru} {S : Sg} (h : GdC r S) : S.kept ∈ ([none, some (1, 1), some (2, 1)] : List (Option (Int × Int))) := by
  have h1 := h.kc
  have h2 := many_two (rowsOk_nd h.ok)
  unfold KC keptC at h1
  rw [h1]
  split
  · split
    · simp
    · rename_i c
      have : K14.many S.rows = 1 ∨ K14.many S.rows = 2 := by omega
      rcases this with z | z <;> rw [z] <;> simp
  · simp
/-- a good standing of given rows -/
theorem mkS_ex {r : Ru} {x y : Option Rw} (hx : x ∈ orS r.three r.stay) (hy : y ∈ orS r.three r.stay) : ∃ T, GdC r T ∧ rowAt T.rows false = x ∧ rowAt T.rows true = y :=
  ⟨⟨mkR x y, if r.shown = true then keptC (mkR x y) else none⟩, ⟨mkR_ok hx hy, rfl⟩, (mkR_at x y).1, (mkR_at x y).2⟩
/-- deeds that look alike, from what they are to each person -/
theorem kdOf_mem {three : Bool} {d : Dd} (h : d ∈ deeds three) (p : Bool) : kdOf d p ∈ kdL three := by
  revert h
  cases three <;> cases p <;> revert d <;> decide
theorem simK_idle {b : Bool} {k : Kd} (h : simK b .idle k = true) : k = .idle := by cases k <;> simp [simK] at h <;> rfl
theorem deed_of {three : Bool} {e : Option Bool} {d : Dd} {k0 k1 : Kd} (hd : d ∈ deeds three) (h0 : k0 ∈ kdL three) (h1 : k1 ∈ kdL three) (s0 : simK (seesB e false) (kdOf d false) k0 = true) (s1 : simK (seesB e true) (kdOf d true) k1 = true) :
    ∃ o ∈ deeds three, kdOf o false = k0 ∧ kdOf o true = k1 := by
  have give_mem : ∀ {p : Bool} {m : Int}, Kd.give m ∈ kdL three → Dd.give p m ∈ deeds three := fun {p m} h => by
    unfold kdL at h
    have hm : m ∈ marksTo three := by
      rcases List.mem_append.mp h with h | h
      · obtain ⟨a, ha, e⟩ := List.mem_map.mp h
        cases e; exact ha
      · simp at h
    unfold deeds
    cases p
    · exact List.mem_append_left _ (List.mem_append_left _ (List.mem_map_of_mem hm))
    · exact List.mem_append_left _ (List.mem_append_right _ (List.mem_map_of_mem hm))
  cases d with
  | night =>
    simp only [kdOf] at s0 s1
    refine ⟨.night, hd, ?_, ?_⟩
    · cases k0 <;> simp [simK] at s0 <;> rfl
    · cases k1 <;> simp [simK] at s1 <;> rfl
  | give p m =>
    cases p
    · simp only [kdOf, if_true, Bool.false_eq_true, if_false] at s0 s1
      have e1 := simK_idle s1
      cases k0 <;> simp [simK] at s0
      exact ⟨.give false _, give_mem h0, rfl, e1.symm⟩
    · simp only [kdOf, if_true, Bool.true_eq_false, if_false] at s0 s1
      have e1 := simK_idle s0
      cases k1 <;> simp [simK] at s1
      exact ⟨.give true _, give_mem h1, e1.symm, rfl⟩
  | back p =>
    cases p
    · simp only [kdOf, if_true, Bool.false_eq_true, if_false] at s0 s1
      have e1 := simK_idle s1
      cases k0 <;> simp [simK] at s0
      exact ⟨.back false, hd, rfl, e1.symm⟩
    · simp only [kdOf, if_true, Bool.true_eq_false, if_false] at s0 s1
      have e1 := simK_idle s0
      cases k1 <;> simp [simK] at s1
      exact ⟨.back true, hd, e1.symm, rfl⟩
  | strike p =>
    cases p
    · simp only [kdOf, if_true, Bool.false_eq_true, if_false] at s0 s1
      have e1 := simK_idle s1
      cases k0 <;> simp [simK] at s0
      exact ⟨.strike false, hd, rfl, e1.symm⟩
    · simp only [kdOf, if_true, Bool.true_eq_false, if_false] at s0 s1
      have e1 := simK_idle s0
      cases k1 <;> simp [simK] at s1
      exact ⟨.strike true, hd, e1.symm, rfl⟩
/-- a standing that looks like the one behind a deed stands behind an alike deed of an alike standing -/
theorem behind_back {r : Ru} (hm : r.meas = .count) {e : Option Bool} {S U : Sg} {d : Dd} (hS : GdC r S) (hU : GdC r U) (hd : d ∈ deeds r.three) (h : Sim e (done r S d) U) :
    ∃ T o, GdC r T ∧ Sim e S T ∧ o ∈ deeds r.three ∧ simD e d o ∧ kq (done r T o) = kq U := by
  have g : ∀ p, ∃ y ∈ orS r.three r.stay, simR (seesB e p) (rowAt S.rows p) y = true ∧ ∃ k' ∈ kdL r.three, simK (seesB e p) (kdOf d p) k' = true ∧ actK r.stay k' y = rowAt U.rows p := fun p => by
    have q := h p
    rw [done_rows, rowAt_done] at q
    exact sim_back (orS_mem (three := r.three) hS.ok p) (kdOf_mem hd p) (orS_mem (three := r.three) hU.ok p) q
  obtain ⟨y0, m0, a0, k0, n0, b0, c0⟩ := g false
  obtain ⟨y1, m1, a1, k1, n1, b1, c1⟩ := g true
  obtain ⟨T, gT, e0, e1⟩ := mkS_ex m0 m1
  obtain ⟨o, ho, o0, o1⟩ := deed_of hd n0 n1 b0 b1
  refine ⟨T, o, gT, fun p => ?_, ho, fun p => ?_, ?_⟩
  · cases p
    · rw [e0]; exact a0
    · rw [e1]; exact a1
  · cases p
    · rw [o0]; exact b0
    · rw [o1]; exact b1
  · refine (gT.done hm ho).kq_eq hU fun p => ?_
    rw [done_rows, rowAt_done]
    cases p
    · rw [o0, e0]; exact c0
    · rw [o1, e1]; exact c1
/-- the free marks are not told -/
theorem mark_free {r : Ru} {e : Option Bool} {S : Sg} {p : Bool} {m : Int} (hS : GdC r S) (hp : e ≠ some p) (h : markAt S.rows p = some m) : ∃ T m', GdC r T ∧ Sim e S T ∧ markAt T.rows p = some m' ∧ m' ≠ m := by
  have hs : seesB e p = false := decide_eq_false hp
  obtain ⟨o, ho⟩ := markAt_some h
  have hm1 := rowAt_ok (rowsOk_iff.mp hS.ok).1 ho
  have hx : ∀ m', m' ∈ marksTo r.three → some (Rw.mk m' o false) ∈ orS r.three r.stay := fun m' h' => by
    refine List.mem_cons_of_mem _ (List.mem_map_of_mem (List.mem_cons_of_mem _ ?_))
    simp only [List.mem_flatMap, List.mem_map]
    refine ⟨m', h', o, bool_mem o, false, ?_, rfl⟩
    cases r.stay <;> simp
  obtain ⟨m', hm', ne⟩ : ∃ m' ∈ marksTo r.three, m' ≠ m := by
    by_cases c : m = 1
    · exact ⟨2, by cases r.three <;> decide, by omega⟩
    · exact ⟨1, by cases r.three <;> decide, by omega⟩
  have sim : simR (seesB e p) (rowAt S.rows p) (some (.mk m' o false)) = true := by rw [ho, hs]; simp [simR]
  have oq : ∀ q, rowAt S.rows q ∈ orS r.three r.stay := fun q => orS_mem (three := r.three) hS.ok q
  cases p with
  | false =>
    obtain ⟨T, gT, e0, e1⟩ := mkS_ex (r := r) (hx m' hm') (oq true)
    refine ⟨T, m', gT, fun q => ?_, ?_, ne⟩
    · cases q
      · rw [e0]; exact sim
      · rw [e1]; exact simR_refl _ _
    · rw [markAt_mrk, e0]; rfl
  | true =>
    obtain ⟨T, gT, e0, e1⟩ := mkS_ex (r := r) (oq false) (hx m' hm')
    refine ⟨T, m', gT, fun q => ?_, ?_, ne⟩
    · cases q
      · rw [e0]; exact simR_refl _ _
      · rw [e1]; exact sim
    · rw [markAt_mrk, e1]; rfl
theorem mark_none {b : Bool} {x y : Option Rw} (h : simR b x y = true) (hx : mrk x = none) : mrk y = none := by
  rcases x with _ | (_ | ⟨m, o, s⟩) <;> rcases y with _ | (_ | ⟨m', o', s'⟩) <;> simp [simR] at h <;> try rfl
  obtain ⟨⟨rfl, rfl⟩, _⟩ := h
  cases s
  · simp [mrk] at hx
  · rfl
/-- all that may look so, of one person -/
def simL : Option Rw → List (Option Rw)
  | some (.mk _ o s) => ([1, 2, 3] : List Int).map fun m => some (.mk m o s)
  | x => [x]
theorem simL_len (x : Option Rw) : (simL x).length ≤ 3 := by rcases x with _ | (_ | ⟨m, o, s⟩) <;> simp [simL]
theorem simL_mem {b : Bool} {three stay : Bool} {x y : Option Rw} (h : simR b x y = true) (hy : y ∈ orS three stay) : y ∈ simL x := by
  rcases x with _ | (_ | ⟨m, o, s⟩) <;> rcases y with _ | (_ | ⟨m', o', s'⟩) <;> simp [simR] at h <;> simp [simL]
  obtain ⟨⟨h1, h2⟩, _⟩ := h
  have : 1 ≤ m' ∧ m' ≤ 3 := by
    unfold orS at hy
    rcases List.mem_cons.mp hy with hy | hy
    · cases hy
    · obtain ⟨a, ha, e⟩ := List.mem_map.mp hy
      cases e
      have := rwsL_ok ha
      simp only [rwOk, Bool.and_eq_true, decide_eq_true_eq] at this
      obtain ⟨⟨q1, q2⟩, _⟩ := this
      cases three <;> simp at q2 <;> omega
  have : m' = 1 ∨ m' = 2 ∨ m' = 3 := by omega
  rcases this with z | z | z <;> simp [z, h1, h2]
def clsL (S : Sg) : List Kq := (simL (rowAt S.rows false)).flatMap fun a => (simL (rowAt S.rows true)).map fun b => (a, b, many S.rows, S.kept)
theorem flat_len {α β : Type} {f : α → List β} {n : Nat} (hf : ∀ a, (f a).length ≤ n) : ∀ l : List α, (l.flatMap f).length ≤ l.length * n
  | [] => by simp
  | a :: l => by
    rw [List.flatMap_cons, List.length_append, List.length_cons, Nat.add_mul]
    have := hf a
    have := flat_len hf l
    omega
theorem clsL_len (S : Sg) : (clsL S).length ≤ 9 := by
  have h := flat_len (f := fun a => (simL (rowAt S.rows true)).map fun b => (a, b, many S.rows, S.kept)) (n := 3) (fun a => by rw [List.length_map]; exact simL_len _) (simL (rowAt S.rows false))
  have := simL_len (rowAt S.rows false)
  unfold clsL
  omega
theorem clsL_mem {r : Ru} {e : Option Bool} {S T : Sg} (hS : GdC r S) (hT : GdC r T) (h : Sim e S T) : kq T ∈ clsL S := by
  have em := h.many (rowsOk_nd hS.ok) (rowsOk_nd hT.ok)
  unfold clsL kq
  simp only [List.mem_flatMap, List.mem_map]
  exact ⟨_, simL_mem (h false) (orS_mem (three := r.three) hT.ok false), _, simL_mem (h true) (orS_mem (three := r.three) hT.ok true), by rw [em, hS.kept_eq hT em]⟩
theorem GdC.first {r : Ru} : GdC r first := ⟨first_rows _ _, by unfold KC; cases r.shown <;> rfl⟩
theorem first_class {r : Ru} {e : Option Bool} {T : Sg} (hT : GdC r T) (h : Sim e K14.first T) : kq T = kq K14.first := by
  refine hT.kq_eq GdC.first fun p => ?_
  have q := h p
  have e0 : rowAt K14.first.rows p = none := rfl
  rw [e0] at q ⊢
  rcases hx : rowAt T.rows p with _ | (_ | ⟨m, o, s⟩)
  · rfl
  · rw [hx] at q; simp [simR] at q
  · rw [hx] at q; simp [simR] at q
end K14
end
section
set_option Elab.async false
set_option linter.all false
set_option maxRecDepth 100000
/-! Plain laws: counts tell no mark. -/
namespace K14
open PySem L2
/-! ### texts of keys are short -/
theorem join_len {B : Nat} : ∀ {ts : List Str}, (∀ t ∈ ts, t.length ≤ B) → (Str.join ", " ts).length ≤ ts.length * (B + 2)
  | [], _ => Nat.zero_le _
  | [x], h => by
    have := h x List.mem_cons_self
    show x.length ≤ 1 * (B + 2)
    omega
  | x :: y :: r, h => by
    have h1 := h x List.mem_cons_self
    have ih := join_len (ts := y :: r) fun t ht => h t (List.mem_cons_of_mem _ ht)
    have e : (Str.join ", " (x :: y :: r)).length = x.length + 2 + (Str.join ", " (y :: r)).length := by
      show (x ++ ", " ++ Str.join ", " (y :: r)).length = _
      rw [strLen_append, strLen_append]
      rfl
    rw [e, List.length_cons (a := x), Nat.add_mul]
    omega
theorem tup_len {B : Nat} {ts : List Str} (h : ∀ t ∈ ts, t.length ≤ B) : (tupleText ts).length ≤ 3 + ts.length * (B + 2) := by
  have h1 := join_len h
  unfold tupleText
  rw [strLen_append, strLen_append]
  have e1 : (("(" : String) : Str).length = 1 := rfl
  have e2 : ((if (ts.length == 1) = true then ",)" else ")" : String) : Str).length ≤ 2 := by split <;> decide
  omega
theorem int_len {i : Int} (h : i.natAbs < 10 ^ 3) : (PyData.int i).shown.length ≤ 10 := by
  simp only [PyData.shown]
  rw [ofString_length]
  have := int_text_length_le10 (k := 3) (by decide) h
  omega
theorem bool_len (b : Bool) : (PyData.bool b).shown.length ≤ 10 := by
  cases b <;> (simp only [PyData.shown]; decide)
theorem rw_len {x : Rw} (h : rwOk 3 true x = true) : (rwD x).shown.length ≤ 100 ∧ (rwD x).showable = true := by
  cases x with
  | struck => exact ⟨by simp only [rwD, PyData.shown]; decide +kernel, by simp only [rwD, PyData.showable]⟩
  | mk m o s =>
    simp only [rwOk, Bool.and_eq_true, decide_eq_true_eq] at h
    have h3 : m = 1 ∨ m = 2 ∨ m = 3 := by omega
    refine ⟨?_, ?_⟩
    · have e : (rwD (.mk m o s)).shown = tupleText [(PyData.int m).shown, (PyData.bool o).shown, (PyData.bool s).shown] := by simp only [rwD, PyData.shown, PyData.shownAll]
      rw [e]
      refine Nat.le_trans (tup_len (B := 10) fun t ht => ?_) (by decide : 3 + 3 * (10 + 2) ≤ 100)
      simp only [List.mem_cons, List.not_mem_nil, or_false] at ht
      rcases ht with rfl | rfl | rfl
      · exact int_len (by rcases h3 with rfl | rfl | rfl <;> decide)
      · exact bool_len o
      · exact bool_len s
    · simp only [rwD, PyData.showable, PyData.showableAll, Bool.and_true]
      rcases h3 with rfl | rfl | rfl <;> decide
theorem gd_short {r : Ru} {S : Sg} (h : GdC r S) : KyShort S := by
  have orl : ∀ p, (orD (rowAt S.rows p)).shown.length ≤ 100 ∧ (orD (rowAt S.rows p)).showable = true := fun p => by
    cases e : rowAt S.rows p with
    | none => exact ⟨by simp only [orD, PyData.shown]; decide, by simp only [orD, PyData.showable]⟩
    | some x => exact rw_len (rwOk_three (three := r.three) (rwOk_stay (rowAt_ok (rowsOk_iff.mp h.ok).1 e)))
  have hm := many_two (rowsOk_nd h.ok)
  have hk : (nD S.kept).shown.length ≤ 100 ∧ (nD S.kept).showable = true := by
    have q := h.kI
    simp only [List.mem_cons, List.not_mem_nil, or_false] at q
    have two : ∀ m : Int, m = 1 ∨ m = 2 → (nD (some (m, 1))).shown.length ≤ 100 ∧ (nD (some (m, 1))).showable = true := fun m h2 => by
      refine ⟨?_, ?_⟩
      · have e : (nD (some (m, 1))).shown = tupleText [(PyData.int m).shown, (PyData.int 1).shown] := by simp only [nD, PyData.shown, PyData.shownAll]
        rw [e]
        refine Nat.le_trans (tup_len (B := 10) fun t ht => ?_) (by decide : 3 + 2 * (10 + 2) ≤ 100)
        simp only [List.mem_cons, List.not_mem_nil, or_false] at ht
        rcases ht with rfl | rfl
        · exact int_len (by rcases h2 with rfl | rfl <;> decide)
        · exact int_len (by decide)
      · simp only [nD, PyData.showable, PyData.showableAll, Bool.and_true]
        rcases h2 with rfl | rfl <;> decide
    rcases q with q | q | q
    · rw [q]; exact ⟨by simp only [nD, PyData.shown]; decide, by simp only [nD, PyData.showable]⟩
    · rw [q]; exact two 1 (.inl rfl)
    · rw [q]; exact two 2 (.inr rfl)
  have h3 : many S.rows = 0 ∨ many S.rows = 1 ∨ many S.rows = 2 := by omega
  refine ⟨?_, ?_⟩
  · unfold kyD
    simp only [PyData.showable, PyData.showableAll, Bool.and_true, (orl false).2, (orl true).2, hk.2, Bool.true_and]
    rcases h3 with z | z | z <;> rw [z] <;> decide
  · have e : (kyD S).shown = tupleText [(orD (rowAt S.rows false)).shown, (orD (rowAt S.rows true)).shown, (PyData.int (many S.rows : Nat)).shown, (nD S.kept).shown] := by unfold kyD; simp only [PyData.shown, PyData.shownAll]
    rw [e]
    refine Nat.le_trans (tup_len (B := 100) fun t ht => ?_) (by decide : 3 + 4 * (100 + 2) ≤ sizeLine)
    simp only [List.mem_cons, List.not_mem_nil, or_false] at ht
    rcases ht with rfl | rfl | rfl | rfl
    · exact (orl false).1
    · exact (orl true).1
    · refine Nat.le_trans (int_len ?_) (by decide)
      rcases h3 with z | z | z <;> rw [z] <;> decide
    · exact hk.1
/-! ### what looks alike -/
def eyes : List (Option Bool) := [none, some false, some true]
theorem seen_sim : ∀ three : Bool, ∀ e ∈ eyes, ∀ d ∈ deeds three, ∀ o ∈ deeds three, (seenV e o = seenV e d) ↔ ((simK (seesB e false) (kdOf d false) (kdOf o false) && simK (seesB e true) (kdOf d true) (kdOf o true)) = true) := by decide +kernel
theorem eye_mem (e : Option Bool) : e ∈ eyes := by
  rcases e with _ | (_ | _) <;> simp [eyes]
theorem alike_sim {three : Bool} {e : Option Bool} {d o : Dd} (hd : d ∈ deeds three) : o ∈ alikeOf e (deeds three) d ↔ o ∈ deeds three ∧ simD e d o := by
  unfold alikeOf
  rw [List.mem_filter]
  constructor
  · rintro ⟨ho, h⟩
    have q := (seen_sim three e (eye_mem e) d hd o ho).mp (of_decide_eq_true h)
    rw [Bool.and_eq_true] at q
    exact ⟨ho, fun p => by cases p; exact q.1; exact q.2⟩
  · rintro ⟨ho, h⟩
    refine ⟨ho, decide_eq_true ((seen_sim three e (eye_mem e) d hd o ho).mpr ?_)⟩
    rw [Bool.and_eq_true]
    exact ⟨h false, h true⟩
/-! ### sorted texts -/
theorem rising_pw : ∀ (p : Str) (l : List Str), PyProof.Rows.risingS p l = true → (p :: l).Pairwise fun a b => a.cps.toList ≤ b.cps.toList
  | p, [], _ => List.pairwise_singleton _ _
  | p, x :: l, h => by
    have h1 : (!PySem.Spec.ltCps x.cps.toList p.cps.toList && PyProof.Rows.risingS x l) = true := h
    rw [Bool.and_eq_true, Bool.not_eq_true', PyProof.Rows.ltCps_eq] at h1
    have ih := rising_pw x l h1.2
    have hpx : p.cps.toList ≤ x.cps.toList := of_decide_eq_false h1.1
    refine List.pairwise_cons.mpr ⟨fun y hy => ?_, ih⟩
    rcases List.mem_cons.mp hy with rfl | hy
    · exact hpx
    · exact List.le_trans hpx ((List.pairwise_cons.mp ih).1 y hy)
theorem sorted_pw : ∀ (l : List Str), PyProof.Rows.sortedS l = true → l.Pairwise fun a b => a.cps.toList ≤ b.cps.toList
  | [], _ => List.Pairwise.nil
  | x :: l, h => rising_pw x l h
theorem str_ext {a b : Str} (h : a.cps.toList = b.cps.toList) : a = b := by
  obtain ⟨a⟩ := a
  obtain ⟨b⟩ := b
  have : a = b := Array.ext' h
  rw [this]
theorem sorted_one {l l' : List Str} (h : l.Perm l') (s : PyProof.Rows.sortedS l = true) (s' : PyProof.Rows.sortedS l' = true) : l = l' :=
  List.Perm.eq_of_pairwise (fun a b _ _ h1 h2 => str_ext (List.le_antisymm h1 h2)) (sorted_pw l s) (sorted_pw l' s') h
/-! ### what is known of counts -/
structure IT (r : Ru) (e : Option Bool) (S : Sg) (Ks : List Sg) : Prop where
  gd : GdC r S
  nd : (Ks.map kyN).Nodup
  from_ : ∀ T ∈ Ks, GdC r T ∧ Sim e S T
  all_ : ∀ T, GdC r T → Sim e S T → ∃ U ∈ Ks, kyN U = kyN T
theorem kq_of {S T : Sg} (h : kyN S = kyN T) : kq S = kq T := by
  obtain ⟨h1, h2, h3, h4⟩ := kyN_inj h
  unfold kq
  rw [h1, h2, h3, h4]
theorem rows_of {S T : Sg} (h : kyN S = kyN T) (p : Bool) : rowAt S.rows p = rowAt T.rows p := by
  obtain ⟨h1, h2, h3, h4⟩ := kyN_inj h
  cases p
  · exact h1
  · exact h2
theorem IT.len {r : Ru} {e : Option Bool} {S : Sg} {Ks : List Sg} (h : IT r e S Ks) : Ks.length < 64 := by
  have h1 : (Ks.map kyN).length ≤ ((clsL S).map kyF).length := nodup_le h.nd fun x hx => by
    obtain ⟨T, hT, rfl⟩ := List.mem_map.mp hx
    obtain ⟨gT, sT⟩ := h.from_ T hT
    rw [kyF_kq]
    exact List.mem_map_of_mem (clsL_mem h.gd gT sT)
  rw [List.length_map, List.length_map] at h1
  have := clsL_len S
  omega
/-- the text of a key -/
noncomputable def txtOf (k : NestedKey) : Str := by
  classical
  exact if h : ∃ S, kyN S = k then kyT h.choose else ""
theorem txtOf_ky (S : Sg) : txtOf (kyN S) = kyT S := by
  have hx : ∃ T, kyN T = kyN S := ⟨S, rfl⟩
  unfold txtOf
  rw [dif_pos hx]
  unfold kyT
  rw [kyD_of hx.choose_spec]
theorem texts_map (Ks : List Sg) : Ks.map kyT = (Ks.map kyN).map txtOf := by
  rw [List.map_map]
  exact List.map_congr_left fun S _ => (txtOf_ky S).symm
theorem perm_of_nodup {l l' : List NestedKey} (h : l.Nodup) (h' : l'.Nodup) (e : ∀ x, x ∈ l ↔ x ∈ l') : l.Perm l' := (List.perm_ext_iff_of_nodup h h').mpr e
theorem IT.perm {r : Ru} {e : Option Bool} {S S' : Sg} {Ks Ks' : List Sg} (h : IT r e S Ks) (h' : IT r e S' Ks') (k : kyN S = kyN S') : (Ks.map kyT).Perm (Ks'.map kyT) := by
  have one : ∀ {S S' : Sg} {Ks Ks' : List Sg}, IT r e S Ks → IT r e S' Ks' → kyN S = kyN S' → ∀ x, x ∈ Ks.map kyN → x ∈ Ks'.map kyN := fun {S S' Ks Ks'} h h' k x hx => by
    obtain ⟨T, hT, rfl⟩ := List.mem_map.mp hx
    obtain ⟨gT, sT⟩ := h.from_ T hT
    obtain ⟨U, hU, eU⟩ := h'.all_ T gT fun p => by rw [← rows_of k p]; exact sT p
    rw [← eU]
    exact List.mem_map_of_mem hU
  rw [texts_map, texts_map]
  exact (perm_of_nodup h.nd h'.nd fun x => ⟨one h h' k x, one h' h k.symm x⟩).map _
theorem IT.step {r : Ru} (hm : r.meas = .count) {e : Option Bool} {S : Sg} {Ks Fs : List Sg} {d : Dd} (h : IT r e S Ks) (hd : d ∈ deeds r.three) (bi : BI r (shownBy r (done r S d)) (alikeOf e (deeds r.three) d) Ks Ks.length 0 Fs) (nd : (Fs.map kyN).Nodup) : IT r e (done r S d) Fs := by
  refine ⟨h.gd.done hm hd, nd, fun T hT => ?_, fun U gU sU => ?_⟩
  · obtain ⟨K, hK, o, ho, rfl, _⟩ := bi.from_ T hT
    obtain ⟨gK, sK⟩ := h.from_ K hK
    obtain ⟨ho, so⟩ := (alike_sim hd).mp ho
    exact ⟨gK.done hm ho, sK.done so⟩
  · obtain ⟨T, o, gT, sT, ho, so, ek⟩ := behind_back hm h.gd gU hd sU
    obtain ⟨K, hK, eK⟩ := h.all_ T gT sT
    obtain ⟨gK, sK⟩ := h.from_ K hK
    obtain ⟨i, hi⟩ := List.getElem?_of_mem hK
    have hil : i < Ks.length := (List.getElem?_eq_some_iff.mp hi).1
    have gKo := gK.done hm ho
    have sKo : Sim e (done r S d) (done r K o) := sK.done so
    have hs : shownBy r (done r K o) = shownBy r (done r S d) := by
      rw [kc_shown hm gKo.kc, kc_shown hm (h.gd.done hm hd).kc, sKo.many (rowsOk_nd (h.gd.done hm hd).ok) (rowsOk_nd gKo.ok)]
    obtain ⟨F, hF, eF⟩ := bi.old i hil K o hi ((alike_sim hd).mpr ⟨ho, so⟩) hs
    refine ⟨F, hF, eF.trans ?_⟩
    have e1 : kq (done r K o) = kq (done r T o) := gKo.kq_eq (gT.done hm ho) fun p => by
      rw [done_rows, done_rows, rowAt_done, rowAt_done, rows_of eK p]
    rw [kyF_kq, kyF_kq, e1, ek]
theorem IT.told {r : Ru} {e : Option Bool} {S : Sg} {Ks : List Sg} (h : IT r e S Ks) {p : Bool} (hp : e ≠ some p) : tellFree (Ks.map fun T => markAt T.rows p) := by
  cases hm : markAt S.rows p with
  | none =>
    refine .inl fun x hx => ?_
    obtain ⟨T, hT, rfl⟩ := List.mem_map.mp hx
    rw [markAt_mrk] at hm ⊢
    exact mark_none ((h.from_ T hT).2 p) hm
  | some m =>
    obtain ⟨T, m', gT, sT, hT, ne⟩ := mark_free h.gd hp hm
    obtain ⟨U, hU, eU⟩ := h.all_ T gT sT
    obtain ⟨V, hV, eV⟩ := h.all_ S h.gd (Sim.refl e S)
    refine .inr ⟨_, List.mem_map_of_mem hU, _, List.mem_map_of_mem hV, ?_⟩
    rw [markAt_mrk, rows_of eU p, ← markAt_mrk, markAt_mrk V.rows, rows_of eV p, ← markAt_mrk, hT, hm]
    exact fun z => ne (Option.some.inj z)
/-- the marks of telling_of -/
noncomputable def poolT (r : Ru) (e : Option Bool) : List NestedKey := by
  classical
  exact kqL.map fun q => if h : ∃ x : Sg × List Sg × List Str, IT r e x.1 x.2.1 ∧ kyN x.1 = kyF q ∧ x.2.2.Perm (x.2.1.map kyT) ∧ PyProof.Rows.sortedS x.2.2 = true then mkN h.choose.1 h.choose.2.2 else .none
theorem GdC.sg {r : Ru} {S : Sg} (h : GdC r S) : SgOk S ∧ nd2 S.rows = true := sgOk_of (three := r.three) h.ok (kp20 (by
  have := h.kI
  simp only [List.mem_cons, List.not_mem_nil, or_false] at this
  rcases this with z | z | z <;> rw [z] <;> decide))
theorem GdC.kL {r : Ru} {S : Sg} (h : GdC r S) : S.kept ∈ K14.kL := by
  have := h.kI
  simp only [List.mem_cons, List.not_mem_nil, or_false] at this
  rcases this with z | z | z <;> rw [z] <;> decide
theorem reachT_count {r : Ru} (hm : r.meas = .count) (e : Option Bool) : ReachT r e (IT r e) (poolT r e) where
  first := ⟨GdC.first, by simp, fun T hT => by rw [List.mem_singleton.mp hT]; exact ⟨GdC.first, Sim.refl e _⟩, fun T gT sT => ⟨first, List.mem_singleton.mpr rfl, by rw [kyF_kq, kyF_kq, first_class gT sT]⟩⟩
  step := fun S Ks d Fs h hd bi nd => h.step hm hd bi nd
  ok := fun S Ks h => h.gd.sg
  okK := fun S Ks T h hT => ⟨(h.from_ T hT).1.sg.1, (h.from_ T hT).1.sg.2, gd_short (h.from_ T hT).1⟩
  okD := fun S Ks T d h hT hd => ((h.from_ T hT).1.done hm hd).sg.1
  okS := fun S Ks d h hd => (h.gd.done hm hd).sg.1
  few := fun S Ks h => h.len
  told := fun S Ks p h hp => h.told hp
  size := by unfold poolT; rw [List.length_map]; exact kqL_len
  key := fun S Ks ts h hp hs => by
    classical
    unfold poolT
    refine List.mem_map.mpr ⟨kq S, kq_mem (three := r.three) h.gd.ok h.gd.kL, ?_⟩
    have hx : ∃ x : Sg × List Sg × List Str, IT r e x.1 x.2.1 ∧ kyN x.1 = kyF (kq S) ∧ x.2.2.Perm (x.2.1.map kyT) ∧ PyProof.Rows.sortedS x.2.2 = true := ⟨(S, Ks, ts), h, rfl, hp, hs⟩
    rw [dif_pos hx]
    obtain ⟨h1, h2, h3, h4⟩ := hx.choose_spec
    have e1 : hx.choose.2.2 = ts := sorted_one ((h3.trans (h1.perm h (h2.trans (kyF_kq S).symm))).trans hp.symm) h4 hs
    unfold mkN
    rw [e1, h2, kyF_kq]
end K14
end
section
set_option Elab.async false
set_option linter.all false
set_option maxRecDepth 100000
/-! faults. -/
namespace K14
open PySem L2
section
variable {P : Program} {w : World} {K : PySem.W.Frag} {mg : Str → Option Value} {base : Heap} {CR CS : Addr}
def spFaults (CR : Addr) : Sp := fun vs H Q _ => ∃ (p : Addr) (r : Ru) (I : Sg → Prop) (pool : List NestedKey), vs = [.ref p] ∧ RuleAt CR H p r ∧ Reach r I pool ∧ (∀ S, I S → wrongBy r S = none) ∧ ∀ l H', Same H H' → H' l = some (.lst []) → Q (.ref l) H'
theorem LDk.at {H H' : Hp} {d : Addr} {ks : List Leaf} (e : H' d = H d) (h : LDk P w H d ks) : LDk P w H' d ks := by
  obtain ⟨es, ep, h1, h2⟩ := h
  exact ⟨es, ep, e.trans h1, h2⟩
theorem scFaults : FnScope ["rule", "found", "history", "standing", "word"] ["rule"] (defScope (txt 51)) := ⟨rfl, rfl, rfl, by decide +kernel, rfl, by decide +kernel, by decide +kernel⟩
theorem df_faults (T2 : Txt2 K w mg) (F : FunAt K mg "faults" (txt 51) ["rule"]) (G : GFunAt P w K mg base "walked" ["rule"] 8 (spWalked P w CR CS)) (DW : Df P w K mg base "wrong_by" ["rule", "standing"] 7 (spWrong CR CS)) : Df P w K mg base "faults" ["rule"] 10 (spFaults CR) := by
  obtain ⟨gf, gfd, GF, gm, gk, gb⟩ := G
  refine F.ok scFaults (fun vs H Q E h => ?_) (fun f cdv A outer s H vs Q E hr h => ?_)
  · obtain ⟨p, r, I, pool, rfl, _⟩ := h
    rfl
  · obtain ⟨p, r, I, pool, rfl, hR, hI, hw, k⟩ := h
    obtain ⟨tf, mf, hf⟩ := T2.faults
    refine ⟨_, pss_cons (ps_set (i := 1) scFaults.nd rfl (Or.inr rfl) (pe_dcG (own := [("history", 2), ("standing", 3)]) (g := gTup K 2 (gCons (gName 2) (gCons (gName 3) gNil))) (tk := tCall (spWrong CR CS) [] E0 (tCons (tVar 0) (tCons (tVar 3) tNil))) (tv := tC (.bl true)) (fl := flL P w) scFaults.nd
          (pgm_call GF (hr.mono (by decide)) rfl gm gk gb (pa_cons (pv 0) pa_nil) (fun σ H Q ⟨v, e, h⟩ => ⟨v, e, rfl, h⟩)) hr trivial (blkOk_by (N := ["rule", "found", "history", "standing", "word"]) (sc := defScope (txt 51)) (by decide +kernel)) (by decide +kernel)
          (fun _ _ _ _ _ => pg_tup (by rfl) (pgs_cons (pg_name (i := 2) scFaults.nd rfl (Or.inl rfl)) (pgs_cons (pg_name (i := 3) scFaults.nd rfl (Or.inl rfl)) pgs_nil)))
          (fun _ _ _ _ _ => pe_df DW (hr.mono (by decide)) rfl (pa_cons (pv 0) (pa_cons (pv 3) pa_nil))) (fun _ _ _ _ _ => pe_bl)))
      (pss_one (ps_ret (pe_lc (own := [("word", 4)]) (g := gName 4) (tt := tB (tLIn P w (tVar 4) (tVar 1))) (te := tVar 4) rfl scFaults.nd (pi_tup (pe_glob (v := V.ref tf) (by rfl) mf rfl)) (blkOk_by (N := ["rule", "found", "history", "standing", "word"]) (sc := defScope (txt 51)) (by decide +kernel))
          (fun _ _ _ _ _ => pg_name (i := 4) scFaults.nd rfl (Or.inl rfl)) (fun _ _ _ _ _ => pts_one (pt_cmp (pc_lin (pv 4) (pv 1)))) (fun _ _ _ _ _ => pv 4)))), ?_⟩
    refine ⟨_, rfl, fun D hD => ?_⟩
    have sD : Same H (upd H D (RawO D #[] 0)) := same_upd hD
    refine ⟨p, r, I, pool, D, fun H1 => LDk P w H1 D [] ∨ LDk P w H1 D [.none], rfl, hR.mono (SameN.of sD), hI, .inl (ld_nil upd_same), fun H1 H2 e z => z.elim (fun z => .inl (z.at e)) fun z => .inr (z.at e), fun H1 z => ?_, fun t hv q S H1 kk ht hS hIS hpc hkp hk => ?_, fun H1 hkp hpc => ?_⟩
    · rcases z with ⟨es, ep, z, _⟩ | ⟨es, ep, z, _⟩ <;> exact ⟨_, z⟩
    · obtain ⟨okS, nS⟩ := hI.ok S hIS
      have hp0 : RuleAt CR H1 p r := by
        obtain ⟨dx, d, h1, h2⟩ := hR
        refine ⟨dx, d, hkp _ _ (ne_of_none h1 hD) (sD _ _ h1), hkp _ _ (ne_of_none h2 hD) (sD _ _ h2)⟩
      refine ⟨t, _, rfl, SqT.of ht, rfl, _, _, rfl, _, _, rfl, rfl, rfl, ?_⟩
      refine ⟨_, rfl, _, rfl, p, q, r, S, rfl, hp0, hS, okS, fun H3 s3 => ?_⟩
      rw [hw S hIS]
      have hpc3 : LDk P w H3 D [] ∨ LDk P w H3 D [.none] := hpc.elim (fun z => .inl (z.mono (SameN.of s3))) fun z => .inr (z.mono (SameN.of s3))
      have fin : ∀ H', (∀ b, b ≠ D → H' b = H3 b) → LDk P w H' D [.none] → kk H' := fun H' h' ld => hk H' (fun b o hb e => by rw [h' b hb]; exact s3 _ _ e) (.inr ld)
      rcases hpc3 with z | z
      · exact ⟨[], .none, z, rfl, rfl, by decide, fun H' h' ld => fin H' h' ld⟩
      · exact ⟨[.none], .none, z, rfl, rfl, by decide, fun H' h' ld => fin H' h' ld⟩
    · -- the words
      have sA : ∀ b o, H b = some o → H1 b = some o := fun b o e => hkp b o (ne_of_none e hD) (sD _ _ e)
      refine ⟨tf, rfl, ⟨_, hf _⟩, fun D2 hD2 => lc_fm (walk_tup (K := K) (a := tf) (xs := [.str "ghost", .str "lacking", .str "other"])) [(Str.ofString "ghost"), "lacking", "other"] rfl (by decide) hD2 (fun _ => (none : Option Unit)) (fun _ _ _ => False) (fun _ h => h) (fun H s => hf H) ?_ ?_⟩
      · rintro i a H2 x H2' Yes No ha s2 ⟨rfl, hx⟩ hyes hno
        have ex : x = .str a := by
          match i, ha, hx with
          | 0, ha, hx => cases ha; cases hx; rfl
          | 1, ha, hx => cases ha; cases hx; rfl
          | 2, ha, hx => cases ha; cases hx; rfl
        subst ex
        have hl : ∃ ks, LDk P w H2' D ks ∧ Leaf.text a ∉ ks := by
          rcases hpc with z | z
          · exact ⟨[], z.mono (SameN.of s2), by simp⟩
          · exact ⟨[.none], z.mono (SameN.of s2), by simp⟩
        obtain ⟨ks, z, nk⟩ := hl
        refine ⟨rfl, _, rfl, _, rfl, D, ks, .text a, rfl, z, rfl, _, rfl, ?_⟩
        refine itF (decide_eq_false nk) ?_
        exact hno _ (Same.refl _) rfl
      · intro H2 ys s2 hy pw
        have e0 : [(Str.ofString "ghost"), "lacking", "other"].filterMap (fun _ => (none : Option Unit)) = [] := rfl
        rw [e0] at pw
        cases pw
        exact k D2 H2 (fun b o e => s2 _ _ (sA _ _ e)) hy
end
end K14
end
section
set_option Elab.async false
set_option linter.all false
set_option maxRecDepth 100000
set_option maxHeartbeats 2000000
/-! The law. -/
namespace K14
open PySem L2
/-! ### plain -/
theorem stOf_sw (r : Ru) (ds : List Dd) : stOf r (ds.map swD) = swS (stOf r ds) := by
  unfold stOf
  have h := foldl_sw r ds first
  rw [first_sw] at h
  exact h
theorem shownL_sw (r : Ru) (ds : List Dd) : shownL r (ds.map swD) = shownL r ds := by
  unfold shownL
  rw [List.length_map]
  refine List.map_congr_left fun i _ => ?_
  rw [← List.map_take, stOf_sw, shownBy_sw]
theorem sw_mem : ∀ three : Bool, ∀ d ∈ deeds three, swD d ∈ deeds three := by decide
theorem pow_small : ∀ n, n < 13 → (3 : Int) ^ n * 1 ≤ 2 ^ 20 := by decide
theorem stOf_ok {r : Ru} {ds : List Dd} (hd : ∀ d ∈ ds, d ∈ deeds r.three) (hl : ds.length ≤ 12) : ∀ i, i ≤ ds.length → SgOk (stOf r (ds.take i)) ∧ nd2 (stOf r (ds.take i)).rows = true := fun i _ => by
  obtain ⟨h1, h2⟩ := hist_ok (r := r) (ds.take i) first 1 (by decide) (fun d h => hd d (List.mem_of_mem_take h)) KpB.none (first_rows _ _)
  exact sgOk_of (three := r.three) h2 (h1.ok (pow_small _ (by rw [List.length_take]; omega)))
theorem put_struck (r : Ru) : putK (wordsOf r) (Sum.inr "struck") (.str "gone") = wordsOf { r with stay := false } := by rfl
theorem put_anew (r : Ru) : putK (wordsOf r) (Sum.inr "keeping") (.str "anew") = wordsOf { r with shown := false } := by rfl
theorem put_shown (r : Ru) : putK (wordsOf r) (Sum.inr "keeping") (.str "shown") = wordsOf { r with shown := true } := by rfl
theorem put_meas (r : Ru) (m : Meas) : putK (wordsOf r) (Sum.inr "measure") (.str (measS m)) = wordsOf { r with meas := m } := by rfl
theorem put_cut (r : Ru) (c : Cut) : putK (wordsOf r) (Sum.inr "cut") (.str (cutS c)) = wordsOf { r with cut := c } := by rfl
theorem put_ages (r : Ru) (b : Bool) : putK (wordsOf r) (Sum.inr "ages") (.str (agesS b)) = wordsOf { r with less := b } := by rfl
section
variable {P : Program} {w : World} {K : PySem.W.Frag} {mg : Str → Option Value} {base : Heap} {CR CS : Addr}
/-- the law's own things -/
structure LW (CR : Addr) (H : Hp) (h l q p : Addr) (r : Ru) : Prop where
  hv : HvAt H h l
  ru : RuleAt CR H p r
  wd : H q = some (.lst (rvs r))
  nq : q ≠ h ∧ q ≠ l
theorem LW.same {H H' : Hp} {h l q p : Addr} {r : Ru} (x : LW CR H h l q p r) (s : Same H H') : LW CR H' h l q p r := ⟨x.hv.same s, x.ru.mono (SameN.of s), s _ _ x.wd, x.nq⟩
theorem LW.kp {H H' : Hp} {h l q p : Addr} {r : Ru} (x : LW CR H h l q p r) (s : KpH h l H H') (hv : HvAt H' h l) : LW CR H' h l q p r := ⟨hv, x.ru.mono (s.sn x.hv), s _ _ x.nq.1 x.nq.2 x.wd, x.nq⟩
def spLaw (K : PySem.W.Frag) : Sp := fun vs H Q _ => ∃ (a : Addr) (ns : List Int), vs = [.ref a] ∧ SqL K H a (ns.map V.int) ∧ ns.length ≤ 63 ∧ ∀ H', Q (.bl true) H'
abbrev NL : List Str := ["_law_script", "_law_h", "_law_words_here", "_law_rule", "_law_gone", "_law_exact", "_law_plain", "_law_ages", "_law_cut", "_law_turn", "_law_history", "_law_other_here", "_law_k", "_law_deed"]
theorem scLaw : FnScope NL ["_law_script"] (defScope (txt 72)) := ⟨rfl, rfl, rfl, by decide +kernel, rfl, by decide +kernel, by decide +kernel⟩
theorem df_law (T : Txt K w mg CR CS) (F : FunAt K mg "law" (txt 72) ["_law_script"]) (DM : Df P w K mg base "_law_mix" ["_law_script", "_law_seed"] 1 (spMix K)) (DW : Df P w K mg base "_law_words" ["_law_h"] 3 spWords) (DBu : Df P w K mg base "_law_built" ["_law_words_here"] 5 (spBuilt CR))
    (DC : Me P w K mg base CR "changed" ["self", "part", "word"] 6 (spChanged CR)) (DF : Df P w K mg base "faults" ["rule"] 10 (spFaults CR)) (DA : Df P w K mg base "alike" ["one", "other"] 10 (spAlike CR)) (DK : Df P w K mg base "_law_pick" ["_law_h", "_law_things"] 2 spPick)
    (DT : DfG P w K mg base "telling" ["rule", "eye"] 10 (spTelling P w CR)) (DL : Df P w K mg base "_law_deeds" ["_law_top"] 1 spLDeeds) (DO : Df P w K mg base "_law_other" ["_law_deed"] 1 spOther) (DB : Df P w K mg base "shown_behind" ["rule", "history"] 8 (spBehind CR))
    (DAl : Df P w K mg base "_law_alike" ["_law_found", "_law_due"] 3 spAlC) : DfG P w K mg base "law" ["_law_script"] 11 (spLaw K) := by
  refine F.okG scLaw (fun vs H Q E h => ?_) (fun f cdv A outer s H vs Q E hr hgd h => ?_)
  · obtain ⟨a, ns, rfl, _⟩ := h
    rfl
  obtain ⟨a, ns, rfl, hS, hz, k⟩ := h
  have hu := hu_of hr
  have nd := scLaw.nd
  refine ⟨_, (pss_cons (ps_set (i := 1) nd rfl (Or.inr rfl) (pe_df DM (hr.mono (by decide)) rfl (pa_cons (pv 0) (pa_cons pe_int pa_nil))))
    (pss_cons (ps_set (i := 2) nd rfl (Or.inr rfl) (pe_df DW (hr.mono (by decide)) rfl (pa_cons (pv 1) pa_nil)))
    (pss_cons (ps_set (i := 3) nd rfl (Or.inl rfl) (pe_df DBu (hr.mono (by decide)) rfl (pa_cons (pv 2) pa_nil)))
    (pss_cons (ps_set (i := 4) nd rfl (Or.inl rfl) (pe_me (pv 3) T.clR DC (hr.mono (by decide)) (pa_cons pe_str (pa_cons pe_str pa_nil))))
    (pss_cons (ps_if (PW.pt (pw_or (pt_cmpR (op_neNil (Nat.lt_of_succ_lt hu)) (pe_df DF (hr.mono (by decide)) rfl (pa_cons (pe_me (pv 4) T.clR DC (hr.mono (by decide)) (pa_cons pe_str (pa_cons pe_str pa_nil))) pa_nil)) (pe_lst pa_nil) (nomark _)) (pw_or1 (pt_cmpR (op_neNil (Nat.lt_of_succ_lt hu)) (pe_df DF (hr.mono (by decide)) rfl (pa_cons (pe_me (pv 4) T.clR DC (hr.mono (by decide)) (pa_cons pe_str (pa_cons pe_str pa_nil))) pa_nil)) (pe_lst pa_nil) (nomark _))))) (pss_one ps_never) pss_nil)
    (pss_cons (ps_set (i := 5) nd rfl (Or.inl rfl) (pe_me (pe_me (pe_me (pv 4) T.clR DC (hr.mono (by decide)) (pa_cons pe_str (pa_cons pe_str pa_nil))) T.clR DC (hr.mono (by decide)) (pa_cons pe_str (pa_cons pe_str pa_nil))) T.clR DC (hr.mono (by decide)) (pa_cons pe_str (pa_cons pe_str pa_nil))))
    (pss_cons (ps_if (PW.pt (pw_or (pt_cmpR (op_neNil (Nat.lt_of_succ_lt hu)) (pe_df DF (hr.mono (by decide)) rfl (pa_cons (pv 5) pa_nil)) (pe_lst pa_nil) (nomark _)) (pw_or1 (pt_not (pt_val (pe_df DA (hr.mono (by decide)) rfl (pa_cons (pe_me (pv 5) T.clR DC (hr.mono (by decide)) (pa_cons pe_str (pa_cons pe_str pa_nil))) (pa_cons (pe_me (pv 5) T.clR DC (hr.mono (by decide)) (pa_cons pe_str (pa_cons pe_str pa_nil))) pa_nil)))))))) (pss_one ps_never) pss_nil)
    (pss_cons (ps_set (i := 6) nd rfl (Or.inl rfl) (pe_me (pv 3) T.clR DC (hr.mono (by decide)) (pa_cons pe_str (pa_cons (pe_df DK (hr.mono (by decide)) rfl (pa_cons (pv 1) (pa_cons (pe_lst (pa_cons pe_str (pa_cons pe_str pa_nil))) pa_nil))) pa_nil))))
    (pss_cons (ps_par (i := 7) (j := 8) rfl nd rfl rfl (by decide) rfl rfl (pa_cons (pe_df DK (hr.mono (by decide)) rfl (pa_cons (pv 1) (pa_cons (pe_lst (pa_cons pe_str (pa_cons pe_str pa_nil))) pa_nil))) (pa_cons (pe_df DK (hr.mono (by decide)) rfl (pa_cons (pv 1) (pa_cons (pe_lst (pa_cons pe_str (pa_cons pe_str (pa_cons pe_str pa_nil)))) pa_nil))) pa_nil)) rfl)
    (pss_cons (ps_if (pt_not (pt_val (pe_df DA (hr.mono (by decide)) rfl (pa_cons (pv 6) (pa_cons (pe_me (pe_me (pv 6) T.clR DC (hr.mono (by decide)) (pa_cons pe_str (pa_cons (pv 7) pa_nil))) T.clR DC (hr.mono (by decide)) (pa_cons pe_str (pa_cons (pv 8) pa_nil))) pa_nil))))) (pss_one ps_never) pss_nil)
    (pss_cons (ps_if (pt_cmpR op_notN (pe_dfG DT (hr.mono (by decide)) hgd rfl (pa_cons (pe_me (pv 3) T.clR DC (hr.mono (by decide)) (pa_cons pe_str (pa_cons pe_str pa_nil))) (pa_cons (pe_df DK (hr.mono (by decide)) rfl (pa_cons (pv 1) (pa_cons (pe_lst (pa_cons pe_non (pa_cons pe_int (pa_cons pe_int pa_nil)))) pa_nil))) pa_nil))) pe_non (nomark _)) (pss_one ps_never) pss_nil)
    (pss_cons (ps_for PassesOwn.never rfl (pi_range1 (by rfl) T.range (pa_cons pe_int pa_nil)) (pg_name (i := 9) nd rfl (Or.inl rfl))
      (pss_cons (ps_set (i := 10) nd rfl (Or.inl rfl) (pe_callTy call_tuple_of (by rfl) T.tuple (by decide +kernel) (pa_cons (pe_lc (own := [("_law_k", 12)]) (g := gName 12) (tt := tYes) (te := tCall spPick [] E0 (tCons (tVar 1) (tCons (tCall spLDeeds [] E0 (tCons (tOp (rIxL K) (tVar 2) (tC (.int 0))) tNil)) tNil))) rfl nd (pi_range1 (by rfl) T.range (pa_cons pe_int pa_nil)) (blkOk_by (N := NL) (sc := defScope (txt 72)) (by decide +kernel))
        (fun _ _ _ _ _ => pg_name (i := 12) nd rfl (Or.inl rfl)) (fun _ _ _ _ _ => pts_nil) (fun _ _ _ _ _ => (pe_df DK (hr.mono (by omega)) rfl (pa_cons (pv 1) (pa_cons (pe_df DL (hr.mono (by omega)) rfl (pa_cons (pe_ix ix_list (pv 2) pe_int (fun _ _ => rfl)) pa_nil)) pa_nil))))) pa_nil)))
      (pss_cons (ps_set (i := 11) nd rfl (Or.inl rfl) (pe_callTy call_tuple_of (by rfl) T.tuple (by decide +kernel) (pa_cons (pe_lc (own := [("_law_deed", 13)]) (g := gName 13) (tt := tYes) (te := tCall spOther [] E0 (tCons (tVar 13) tNil)) rfl nd (pi_tup (pv 10)) (blkOk_by (N := NL) (sc := defScope (txt 72)) (by decide +kernel))
        (fun _ _ _ _ _ => pg_name (i := 13) nd rfl (Or.inl rfl)) (fun _ _ _ _ _ => pts_nil) (fun _ _ _ _ _ => (pe_df DO (hr.mono (by omega)) rfl (pa_cons (pv 13) pa_nil)))) pa_nil)))
      (pss_one (ps_if (pt_not (pt_val (pe_df DAl (hr.mono (by decide)) rfl (pa_cons (pe_df DB (hr.mono (by decide)) rfl (pa_cons (pv 3) (pa_cons (pv 10) pa_nil))) (pa_cons (pe_df DB (hr.mono (by decide)) rfl (pa_cons (pv 3) (pa_cons (pv 11) pa_nil))) pa_nil))))) (pss_one ps_never) pss_nil)))))
    (pss_one (ps_ret pe_bl)))))))))))))), ?_⟩
  have look : ∀ {dd : Addr}, List.lookup ("changed" : Str) [(("words" : Str), V.ref dd)] = none := fun {dd} => rfl
  have k1 : ("struck" : Str) ∈ pks := by decide +kernel
  have k2 : ("keeping" : Str) ∈ pks := by decide +kernel
  have k3 : ("measure" : Str) ∈ pks := by decide +kernel
  have k4 : ("cut" : Str) ∈ pks := by decide +kernel
  have k5 : ("ages" : Str) ∈ pks := by decide +kernel
  -- the draws, the words, the rule
  refine ⟨_, rfl, a, ns, rfl, hS, hz, fun h l H1 s1 hv1 hh0 hl0 => ?_⟩
  refine ⟨_, rfl, h, l, rfl, hv1, fun q r H2 hv2 kp2 hq1 hq2 => ?_⟩
  have nq : q ≠ h ∧ q ≠ l := hv1.new hq1
  refine ⟨_, rfl, q, r, rfl, hq2, fun p H3 s3 hp => ?_⟩
  have w3 : LW CR H3 h l q p r := ⟨hv2.same s3, hp, s3 _ _ hq2, nq⟩
  clear hv1 hv2 kp2 hq1 hq2 hp s1 s3 hh0 hl0 hS
  -- gone
  obtain ⟨dx, d, g1, g2⟩ := id w3.ru
  refine ⟨_, rfl, p, dx, _, rfl, g1, look, p, _, _, r, _, rfl, w3.ru, k1, put_struck r, fun g H4 s4 hG4 => ?_⟩
  have w4 := w3.same s4
  clear g1 g2 w3
  -- faults of gone anew
  obtain ⟨dx, d, g1, g2⟩ := id hG4
  refine ⟨_, rfl, g, dx, _, rfl, g1, look, g, _, _, { r with stay := false }, _, rfl, hG4, k2, put_anew _, fun r1 H5 s5 hr1 => ?_⟩
  refine ⟨r1, _, _, _, rfl, hr1, reach_anew rfl, fun S hS => wrong_anew rfl rfl hS.1, fun l1 H6 s6 hl1 => ?_⟩
  refine ⟨(by show 0 ≤ sizeLine; decide), fun nl hnl => ⟨l1, nl, [], rfl, rfl, (same_upd hnl) _ _ hl1, upd_same, _, rfl, itF rfl ?_⟩⟩
  have t6 := (s5.trans s6).trans (same_upd (o := .lst []) hnl)
  have w6 := w4.same t6
  have hG6 := hG4.mono (SameN.of t6)
  generalize upd H6 nl (.lst []) = H7 at *
  clear g1 g2 w4 hG4 hr1 hl1 hnl s5 s6 t6
  -- faults of gone counts
  obtain ⟨dx, d, g1, g2⟩ := id hG6
  refine ⟨_, rfl, g, dx, _, rfl, g1, look, g, _, _, { r with stay := false }, _, rfl, hG6, k3, put_meas _ .count, fun r2 H8 s8 hr2 => ?_⟩
  refine ⟨r2, _, _, _, rfl, hr2, reach_count rfl, fun S hS => wrong_count rfl rfl hS.1 hS.2, fun l1 H9 s9 hl1 => ?_⟩
  refine ⟨(by show 0 ≤ sizeLine; decide), fun nl hnl => ⟨l1, nl, [], rfl, rfl, (same_upd hnl) _ _ hl1, upd_same, _, rfl, itF rfl ?_⟩⟩
  have t9 := (s8.trans s9).trans (same_upd (o := .lst []) hnl)
  have w9 := w6.same t9
  have hG9 := hG6.mono (SameN.of t9)
  generalize upd H9 nl (.lst []) = H10 at *
  clear g1 g2 w6 hG6 hr2 hl1 hnl s8 s9 t9
  -- exact
  obtain ⟨dx, d, g1, g2⟩ := id hG9
  refine ⟨_, rfl, g, dx, _, rfl, g1, look, g, _, _, { r with stay := false }, _, rfl, hG9, k3, put_meas _ .mean, fun x1 H11 s11 hx1 => ?_⟩
  obtain ⟨dx1, d1, g3, g4⟩ := id hx1
  refine ⟨x1, dx1, _, rfl, g3, look, x1, _, _, _, _, rfl, hx1, k4, put_cut _ .exact, fun x2 H12 s12 hx2 => ?_⟩
  obtain ⟨dx2, d2, g5, g6⟩ := id hx2
  refine ⟨x2, dx2, _, rfl, g5, look, x2, _, _, _, _, rfl, hx2, k5, put_ages _ false, fun x3 H13 s13 hx3 => ?_⟩
  have hM : IsM { r with stay := false, meas := .mean, cut := .exact, less := false } := ⟨rfl, rfl, rfl, rfl⟩
  have w13 := w9.same ((s11.trans s12).trans s13)
  clear g1 g2 g3 g4 g5 g6 w9 hG9 hx1 hx2 s11 s12 s13
  refine ⟨_, rfl, x3, _, _, _, rfl, hx3, reach_mean hM, fun S hS => wrong_mean hM hS.1 hS.2, fun l1 H14 s14 hl1 => ?_⟩
  refine ⟨(by show 0 ≤ sizeLine; decide), fun nl hnl => ⟨l1, nl, [], rfl, rfl, (same_upd hnl) _ _ hl1, upd_same, _, rfl, itF rfl ?_⟩⟩
  have t14 := s14.trans (same_upd (o := .lst []) hnl)
  have w14 := w13.same t14
  have hx14 := hx3.mono (SameN.of t14)
  generalize upd H14 nl (.lst []) = H15 at *
  clear w13 hx3 hl1 hnl s14 t14
  obtain ⟨dx3, d3, g1, g2⟩ := id hx14
  refine ⟨_, rfl, x3, dx3, _, rfl, g1, look, x3, _, _, _, _, rfl, hx14, k2, put_anew _, fun y1 H16 s16 hy1 => ?_⟩
  have hx16 := hx14.mono (SameN.of s16)
  obtain ⟨dx4, d4, g3, g4⟩ := id hx16
  refine ⟨_, rfl, x3, dx4, _, rfl, g3, look, x3, _, _, _, _, rfl, hx16, k2, put_shown _, fun y2 H17 s17 hy2 => ?_⟩
  refine ⟨y1, y2, _, _, _, _, rfl, hy1.mono (SameN.of s17), hy2, rfl, reach2_mean hM, fun H18 s18 => ⟨_, rfl, itF rfl ?_⟩⟩
  have w18 := w14.same ((s16.trans s17).trans s18)
  clear g1 g2 g3 g4 w14 hx14 hx16 hy1 hy2 s16 s17 s18
  -- plain
  have pr : ∀ {Hx : Hp} {L : Addr} {xs : List V}, LW CR Hx h l q p r → Hx L = none → LW CR (upd Hx L (.lst xs)) h l q p r ∧ L ≠ h ∧ L ≠ l := fun w e => ⟨w.same (same_upd e), (w.hv.new e).1, (w.hv.new e).2⟩
  obtain ⟨dx, d, g1, g2⟩ := id w18.ru
  refine ⟨_, rfl, p, dx, _, rfl, g1, look, _, rfl, (by show 2 ≤ sizeLine; decide), fun L hL => ?_⟩
  obtain ⟨wL, nL1, nL2⟩ := pr (xs := [.str "best", .str "count"]) w18 hL
  refine ⟨h, l, L, _, rfl, wL.hv, nL1, nL2, upd_same, by decide, by decide, fun x H19 hx hv19 kp19 => ?_⟩
  have w19 := wL.kp kp19 hv19
  obtain ⟨m, hmm, rfl⟩ : ∃ m : Meas, m ≠ .mean ∧ x = .str (measS m) := by
    simp only [List.mem_cons, List.not_mem_nil, or_false] at hx
    rcases hx with rfl | rfl
    · exact ⟨.best, (by intro z; cases z), rfl⟩
    · exact ⟨.count, (by intro z; cases z), rfl⟩
  refine ⟨p, _, _, r, _, rfl, w19.ru, k3, put_meas r m, fun pl H20 s20 hpl => ?_⟩
  have w20 := w19.same s20
  clear g1 g2 w18 hL wL kp19 hv19 w19 s20 hx
  refine ⟨_, rfl, (by show 2 ≤ sizeLine; decide), fun L hL => ?_⟩
  obtain ⟨wL, nL1, nL2⟩ := pr (xs := [.str "same", .str "less"]) w20 hL
  refine ⟨h, l, L, _, rfl, wL.hv, nL1, nL2, upd_same, by decide, by decide, fun x H21 hx hv21 kp21 => ?_⟩
  have w21 := wL.kp kp21 hv21
  have hpl21 := (hpl.mono (SameN.of (same_upd hL))).mono (kp21.sn wL.hv)
  obtain ⟨lb, rfl⟩ : ∃ b : Bool, x = .str (agesS b) := by
    simp only [List.mem_cons, List.not_mem_nil, or_false] at hx
    rcases hx with rfl | rfl
    · exact ⟨false, rfl⟩
    · exact ⟨true, rfl⟩
  clear w20 hL wL kp21 hv21 hx hpl
  refine ⟨_, rfl, (by show 3 ≤ sizeLine; decide), fun L hL => ?_⟩
  obtain ⟨wL, nL1, nL2⟩ := pr (xs := [.str "exact", .str "half", .str "whole"]) w21 hL
  refine ⟨h, l, L, _, rfl, wL.hv, nL1, nL2, upd_same, by decide, by decide, fun x H22 hx hv22 kp22 => ?_⟩
  have w22 := wL.kp kp22 hv22
  have hpl22 := (hpl21.mono (SameN.of (same_upd hL))).mono (kp22.sn wL.hv)
  obtain ⟨cc, rfl⟩ : ∃ c : Cut, x = .str (cutS c) := by
    simp only [List.mem_cons, List.not_mem_nil, or_false] at hx
    rcases hx with rfl | rfl | rfl
    · exact ⟨.exact, rfl⟩
    · exact ⟨.half, rfl⟩
    · exact ⟨.whole, rfl⟩
  clear w21 hL wL kp22 hv22 hx hpl21
  refine ⟨_, _, rfl, ?_⟩
  obtain ⟨dx, d, g1, g2⟩ := id hpl22
  refine ⟨_, rfl, _, rfl, pl, dx, _, rfl, g1, look, _, rfl, pl, _, _, _, _, rfl, hpl22, k5, put_ages _ lb, fun z1 H23 s23 hz1 => ?_⟩
  obtain ⟨dx1, d1, g3, g4⟩ := id hz1
  refine ⟨z1, dx1, _, rfl, g3, look, _, rfl, z1, _, _, _, _, rfl, hz1, k4, put_cut _ cc, fun z2 H24 s24 hz2 => ?_⟩
  have s234 := s23.trans s24
  refine ⟨pl, z2, _, _, _, _, rfl, hpl22.mono (SameN.of s234), hz2, rfl, reach2_like rfl rfl rfl rfl rfl hmm, fun H25 s25 => ⟨_, rfl, itF rfl ?_⟩⟩
  have w25 := w22.same (s234.trans s25)
  clear g1 g2 g3 g4 w22 hpl22 hz1 hz2 s23 s24 s234 s25
  -- telling
  obtain ⟨dx, d, g1, g2⟩ := id w25.ru
  refine ⟨_, rfl, p, dx, _, rfl, g1, look, p, _, _, r, _, rfl, w25.ru, k3, put_meas r .count, fun z H26 s26 hz => ?_⟩
  have w26 := w25.same s26
  refine ⟨_, rfl, (by show 3 ≤ sizeLine; decide), fun L hL => ?_⟩
  obtain ⟨wL, nL1, nL2⟩ := pr (xs := [.non, .int 0, .int 1]) w26 hL
  refine ⟨h, l, L, _, rfl, wL.hv, nL1, nL2, upd_same, by decide, by decide, fun x H27 hx hv27 kp27 => ?_⟩
  have w27 := wL.kp kp27 hv27
  have hz27 := (hz.mono (SameN.of (same_upd hL))).mono (kp27.sn wL.hv)
  obtain ⟨e, rfl⟩ : ∃ e : Option Bool, x = eyV e := by
    simp only [List.mem_cons, List.not_mem_nil, or_false] at hx
    rcases hx with rfl | rfl | rfl
    · exact ⟨none, rfl⟩
    · exact ⟨some false, rfl⟩
    · exact ⟨some true, rfl⟩
  refine ⟨z, _, e, _, _, rfl, hz27, reachT_count rfl e, fun H28 s28 => ⟨rfl, _, rfl, itF rfl ?_⟩⟩
  have w28 := w27.same s28
  clear g1 g2 w25 w26 w27 hL wL kp27 hv27 hx hz hz27 s26 s28
  -- the histories
  refine ⟨5, rfl, by decide, by decide, ?_⟩
  refine for_it (walk_range (lo := 0) (n := 5)) (fun i σ H1 => LW CR H1 h l q p r ∧ ∃ x9 x10 x11, σ = [some (.ref a), some (.ref h), some (.ref q), some (.ref p), some (.ref g), some (.ref x3), some (.ref pl), some (.str (agesS lb)), some (.str (cutS cc)), x9, x10, x11, none, none]) ⟨w28, _, _, _, rfl⟩ (fun _ _ _ _ _ => trivial) ?_ ?_
  · rintro i x σ H1 H1' hi ⟨w1, x9, x10, x11, rfl⟩ ⟨rfl, rfl⟩
    have dlen : 0 < (deeds r.three).length ∧ (deeds r.three).length < 1000 := by cases r.three <;> decide
    refine ⟨12, rfl, by decide, by decide, fun D hD => ?_⟩
    have nD := w1.hv.new hD
    refine wk_it (walk_range (lo := 0) (n := 12)) (fun i H2 => KpH h l H1' H2 ∧ HvAt H2 h l ∧ ∃ ys ds, H2 D = some (.lst ys) ∧ ys.length = i ∧ Paired (DdV H2) ys ds ∧ ∀ d ∈ ds, d ∈ deeds r.three) ?_ (fun _ _ _ _ => trivial) ?_ ?_
    · exact ⟨(KpH.refl h l H1').put hD, w1.hv.off nD.1 nD.2, [], [], upd_same, rfl, .nil, fun _ hx => by simp at hx⟩
    · rintro j x H2 H2' hj ⟨kp2, hv2, ys, ds, hy, hyl, pd, hds⟩ ⟨rfl, rfl⟩
      refine ⟨rfl, ?_⟩
      unfold tYes
      dsimp only
      rw [if_pos rfl]
      have hq2 := kp2 _ _ w1.nq.1 w1.nq.2 w1.wd
      refine ⟨_, rfl, _, rfl, q, _, _, _, rfl, rfl, SqL.of hq2, rfl, r, rfl, fun L zs H3 s3 hL0 hL pz => ?_⟩
      have hv3 := hv2.same s3
      have nL := hv2.new hL0
      have lz : zs.length = (deeds r.three).length := Paired.length pz
      refine ⟨h, l, L, zs, rfl, hv3, nL.1, nL.2, hL, by omega, by omega, fun v H4 hv hv4 kp4 => ?_⟩
      obtain ⟨n, hn⟩ := List.getElem?_of_mem hv
      obtain ⟨dd, hdd, hvd⟩ := pairedGetZ pz hn
      have kp24 : KpH h l H2' H4 := (KpH.of s3).trans kp4
      have hy4 := kp24 _ _ nD.1 nD.2 hy
      have sN4 := kp24.sn hv2
      refine ⟨ys, hy4, Nat.lt_of_le_of_lt (show ys.length ≤ 12 by omega) (by decide), (kp2.trans kp24).put hD, hv4.off nD.1 nD.2, ys ++ [v], ds ++ [dd], upd_same, by rw [List.length_append, List.length_singleton, hyl], ?_, ?_⟩
      · exact (Paired.mapP pd fun _ _ z => z.mono (sN4.put hy4)).snoc ((hvd.mono (kp4.sn hv3)).mono ((SameN.refl _).put hy4))
      · intro d' hd'
        rcases List.mem_append.mp hd' with z | z
        · exact hds d' z
        · rw [List.mem_singleton.mp z]; exact List.mem_of_getElem? hdd
    · rintro H2 ⟨kp2, hv2, ys, ds, hy, hyl, pd, hds⟩
      have w2 := w1.kp kp2 hv2
      have hdl : ds.length = 12 := by rw [← Paired.length pd, hyl]
      refine ⟨D, ys, rfl, .inl ⟨SqL.of hy, fun t1 ht1 => ?_⟩⟩
      have s3 : Same H2 (upd H2 t1 (.tup ys)) := same_upd ht1
      have ht := (show (upd H2 t1 (.tup ys)) t1 = some (.tup ys) from upd_same)
      have w3 := w2.same s3
      have pd3 : Paired (DdV (upd H2 t1 (.tup ys))) ys ds := Paired.mapP pd fun _ _ z => z.mono (SameN.of s3)
      generalize upd H2 t1 (.tup ys) = H3 at *
      clear w1 kp2 hv2 hy pd w2 s3 ht1
      -- the other one
      refine ⟨_, rfl, t1, rfl, ⟨_, SqT.of ht⟩, fun D2 hD2 => lc_fm (walk_tup (K := K) (a := t1) (xs := ys)) ds (by omega) (Nat.le_trans (show ys.length ≤ 12 by omega) (by decide)) hD2 (fun d => some (swD d)) DdV (fun s h => DdV.mono s h) (fun H s => SqT.of (s _ _ ht)) ?_ ?_⟩
      · rintro j dd H4 x H4' Yes No hdj s4 ⟨rfl, hx⟩ hyes hno
        obtain ⟨d', hd', td, rfl, htd⟩ : ∃ d', ds[j]? = some d' ∧ DdV H3 x d' := pairedGetZ pd3 hx
        have ed : d' = dd := by rw [hdj] at hd'; exact (Option.some.inj hd').symm
        subst ed
        refine ⟨rfl, ?_⟩
        unfold tYes
        dsimp only
        rw [if_pos rfl]
        exact ⟨_, rfl, td, d', rfl, s4 _ _ htd, fun u H5 s5 hu => hyes _ _ _ s5 rfl ⟨u, rfl, hu⟩⟩
      · intro H4 zs s4 hz4 pz
        rw [filterMap_some] at pz
        have hzl : zs.length = 12 := by rw [Paired.length pz, List.length_map, hdl]
        refine ⟨D2, zs, rfl, .inl ⟨SqL.of hz4, fun t2 ht2 => ?_⟩⟩
        have s5 : Same H4 (upd H4 t2 (.tup zs)) := same_upd ht2
        have w5 := w3.same (s4.trans s5)
        have ht1 := (s4.trans s5) _ _ ht
        have pd5 : Paired (DdV (upd H4 t2 (.tup zs))) ys ds := Paired.mapP pd3 fun _ _ z => z.mono (SameN.of (s4.trans s5))
        have pz5 : Paired (DdV (upd H4 t2 (.tup zs))) zs (ds.map swD) := Paired.mapP pz fun _ _ z => z.mono (SameN.of s5)
        have ht2' := (show (upd H4 t2 (.tup zs)) t2 = some (.tup zs) from upd_same)
        generalize upd H4 t2 (.tup zs) = H5 at *
        clear w3 ht pd3 s4 hz4 pz s5 ht2
        have hsw : ∀ d ∈ ds.map swD, d ∈ deeds r.three := fun d hd => by
          obtain ⟨d', h', rfl⟩ := List.mem_map.mp hd
          exact sw_mem _ _ (hds d' h')
        refine ⟨_, rfl, _, rfl, p, t1, r, ys, ds, rfl, w5.ru, ht1, pd5, fun d hd => deeds_ok r.three d (hds d hd), stOf_ok hds (by omega), by omega, fun l1 us H6 s6 hl1 pu => ?_⟩
        refine ⟨_, rfl, _, rfl, p, t2, r, zs, ds.map swD, rfl, w5.ru.mono (SameN.of s6), s6 _ _ ht2', Paired.mapP pz5 fun _ _ z => z.mono (SameN.of s6), fun d hd => deeds_ok r.three d (hsw d hd), stOf_ok hsw (by rw [List.length_map]; omega), by rw [List.length_map]; omega, fun l2 vs2 H7 s7 hl2 pv2 => ?_⟩
        rw [shownL_sw] at pv2
        refine ⟨l1, l2, us, vs2, _, rfl, s7 _ _ hl1, hl2, Paired.mapP pu fun _ _ z => z.mono (SameN.of s7), pv2, by unfold shownL; rw [List.length_map, List.length_range]; omega, fun H8 s8 => ⟨_, rfl, itF rfl ?_⟩⟩
        exact ⟨w5.same ((s6.trans s7).trans s8), _, _, _, rfl⟩
  · rintro σ H1 ⟨w1, x9, x10, x11, rfl⟩
    exact k H1
end
end K14
end
section
set_option Elab.async false
set_option linter.all false
set_option maxRecDepth 100000
set_option maxHeartbeats 1000000
/-! All defs, one upon the other; where they stand. -/
namespace K14
open PySem L2
/-- where the defs stand -/
structure Funs (K : PySem.W.Frag) (mg : Str → Option Value) (CR CS : Addr) : Prop where
  f_common_part : FunAt K mg "common_part" (txt 16) ["one", "other"]
  f_number_of : FunAt K mg "number_of" (txt 17) ["numerator", "denominator"]
  f_cut_down : FunAt K mg "cut_down" (txt 18) ["rule", "numerator", "denominator"]
  f_weight_of : FunAt K mg "weight_of" (txt 19) ["rule", "is_old"]
  f_mean_of : FunAt K mg "mean_of" (txt 20) ["rule", "rows"]
  f_number_for : FunAt K mg "number_for" (txt 21) ["rule", "rows"]
  f_bounded : FunAt K mg "bounded" (txt 22) ["rule", "number"]
  f_worked_on : FunAt K mg "worked_on" (txt 23) ["rule", "kept", "many", "elder", "mark"]
  f_fault_of : FunAt K mg "fault_of" (txt 24) ["shown", "due"]
  f_counted_rows : FunAt K mg "counted_rows" (txt 29) ["standing"]
  f_shown_by : FunAt K mg "shown_by" (txt 30) ["rule", "standing"]
  f_due_by : FunAt K mg "due_by" (txt 31) ["rule", "standing"]
  f_wrong_by : FunAt K mg "wrong_by" (txt 32) ["rule", "standing"]
  f_kept_by : FunAt K mg "kept_by" (txt 33) ["rule", "standing", "elder", "mark"]
  f_is_struck : FunAt K mg "is_struck" (txt 34) ["standing", "person"]
  f_mark_of : FunAt K mg "mark_of" (txt 35) ["standing", "person"]
  f_Standing___init__ : MakAt K mg "Standing" "Standing.__init__" CS (mem 28 0) ["self", "rows", "kept"]
  f_without : FunAt K mg "without" (txt 36) ["rows", "person"]
  f_marked : FunAt K mg "marked" (txt 37) ["rule", "standing", "person", "mark"]
  f_taken_back : FunAt K mg "taken_back" (txt 38) ["rule", "standing", "person"]
  f_struck_one : FunAt K mg "struck_one" (txt 39) ["rule", "standing", "person"]
  f_behind_night : FunAt K mg "behind_night" (txt 40) ["standing"]
  f_done : FunAt K mg "done" (txt 41) ["rule", "standing", "deed"]
  f_first_standing : FunAt K mg "first_standing" (txt 47) []
  f_key_of : FunAt K mg "key_of" (txt 48) ["standing"]
  f_deeds_of : FunAt K mg "deeds_of" (txt 46) ["rule"]
  f_walked : FunAt K mg "walked" (txt 50) ["rule"]
  f_first_parting : FunAt K mg "first_parting" (txt 52) ["one", "other"]
  f_parting : FunAt K mg "parting" (txt 53) ["one", "other"]
  f_alike : FunAt K mg "alike" (txt 54) ["one", "other"]
  f_is_integer : FunAt K mg "is_integer" (txt 10) ["thing", "low", "high"]
  f_is_word : FunAt K mg "is_word" (txt 11) ["part", "thing"]
  f_Rule___init__ : MakAt K mg "Rule" "Rule.__init__" CR (mem 12 0) ["self", "top", "measure", "cut", "least", "ages", "struck", "keeping"]
  f_rule_of : FunAt K mg "rule_of" (txt 13) ["words"]
  f_Rule_changed : MetAt K CR "changed" "Rule.changed" (mem 12 8) ["self", "part", "word"]
  f_is_deed : FunAt K mg "is_deed" (txt 45) ["rule", "thing"]
  f_shown_behind : FunAt K mg "shown_behind" (txt 49) ["rule", "history"]
  f_seen_of : FunAt K mg "seen_of" (txt 56) ["deed", "eye"]
  f_known_mark : FunAt K mg "known_mark" (txt 57) ["known", "person"]
  f_told_person : FunAt K mg "told_person" (txt 59) ["known", "eye"]
  f_behind_seen : FunAt K mg "behind_seen" (txt 58) ["rule", "known", "deeds", "shown"]
  f_telling_of : FunAt K mg "telling_of" (txt 60) ["rule", "eye"]
  f_telling : FunAt K mg "telling" (txt 61) ["rule", "eye"]
  f__law_mix : FunAt K mg "_law_mix" (txt 63) ["_law_script", "_law_seed"]
  f__law_next : FunAt K mg "_law_next" (txt 64) ["_law_h", "_law_cap"]
  f__law_pick : FunAt K mg "_law_pick" (txt 66) ["_law_h", "_law_things"]
  f__law_parts : FunAt K mg "_law_parts" (txt 67) []
  f__law_words : FunAt K mg "_law_words" (txt 68) ["_law_h"]
  f__law_built : FunAt K mg "_law_built" (txt 69) ["_law_words_here"]
  f__law_deeds : FunAt K mg "_law_deeds" (txt 70) ["_law_top"]
  f__law_other : FunAt K mg "_law_other" (txt 71) ["_law_deed"]
  f__law_alike : FunAt K mg "_law_alike" (txt 65) ["_law_found", "_law_due"]
  f_faults : FunAt K mg "faults" (txt 51) ["rule"]
  f_law : FunAt K mg "law" (txt 72) ["_law_script"]
section
variable {P : Program} {w : World} {K : PySem.W.Frag} {mg : Str → Option Value} {base : Heap} {CR CS : Addr}
theorem all_df (T : Txt K w mg CR CS) (T2 : Txt2 K w mg) (T3 : Txt3 K w mg) (F : Funs K mg CR CS) : DfG P w K mg base "law" ["_law_script"] 11 (spLaw K) := by
  have x_df_common : Df P w K mg base "common_part" ["one", "other"] 1 spCommon := df_common F.f_common_part
  have x_df_number : Df P w K mg base "number_of" ["numerator", "denominator"] 2 spNumber := df_number F.f_number_of x_df_common
  have x_df_cut : Df P w K mg base "cut_down" ["rule", "numerator", "denominator"] 3 (spCut CR) := df_cut T F.f_cut_down x_df_number
  have x_df_weight : Df P w K mg base "weight_of" ["rule", "is_old"] 1 (spWeight CR) := df_weight T F.f_weight_of
  have x_df_mean : Df P w K mg base "mean_of" ["rule", "rows"] 4 (spMean CR) := df_mean T F.f_mean_of x_df_cut x_df_weight
  have x_df_numfor : Df P w K mg base "number_for" ["rule", "rows"] 5 (spNumFor CR) := df_numfor T F.f_number_for x_df_mean
  have x_df_bounded : Df P w K mg base "bounded" ["rule", "number"] 1 (spBounded CR) := df_bounded T F.f_bounded
  have x_df_worked : Df P w K mg base "worked_on" ["rule", "kept", "many", "elder", "mark"] 4 (spWorked CR) := df_worked T F.f_worked_on x_df_bounded x_df_cut
  have x_df_fault : Df P w K mg base "fault_of" ["shown", "due"] 1 spFault := df_fault F.f_fault_of
  have x_df_counted : Df P w K mg base "counted_rows" ["standing"] 1 (spCounted CS) := df_counted T F.f_counted_rows
  have x_df_shown : Df P w K mg base "shown_by" ["rule", "standing"] 6 (spShown CR CS) := df_shown T F.f_shown_by x_df_counted x_df_numfor
  have x_df_due : Df P w K mg base "due_by" ["rule", "standing"] 6 (spDue CR CS) := df_due T F.f_due_by x_df_counted x_df_numfor
  have x_df_wrong : Df P w K mg base "wrong_by" ["rule", "standing"] 7 (spWrong CR CS) := df_wrong F.f_wrong_by x_df_shown x_df_due x_df_fault
  have x_df_kept : Df P w K mg base "kept_by" ["rule", "standing", "elder", "mark"] 5 (spKept CR CS) := df_kept T F.f_kept_by x_df_counted x_df_worked
  have x_df_isstruck : Df P w K mg base "is_struck" ["standing", "person"] 1 (spIsStruck CS) := df_isstruck T F.f_is_struck
  have x_df_markof : Df P w K mg base "mark_of" ["standing", "person"] 1 (spMarkOf CS) := df_markof T F.f_mark_of
  have x_ma_standing : Ma P w K mg base "Standing" CS ["self", "rows", "kept"] 1 (spInitS CS) := ma_standing T F.f_Standing___init__
  have x_df_without : Df P w K mg base "without" ["rows", "person"] 1 spWithout := df_without T F.f_without
  have x_df_marked : Df P w K mg base "marked" ["rule", "standing", "person", "mark"] 6 (spMarked CR CS) := df_marked T F.f_marked x_df_kept x_df_markof x_ma_standing
  have x_df_taken : Df P w K mg base "taken_back" ["rule", "standing", "person"] 6 (spTaken CR CS) := df_taken T F.f_taken_back x_df_kept x_df_markof x_df_without x_ma_standing
  have x_df_struckone : Df P w K mg base "struck_one" ["rule", "standing", "person"] 6 (spStruckOne CR CS) := df_struckone T F.f_struck_one x_df_kept x_df_markof x_ma_standing
  have x_df_night : Df P w K mg base "behind_night" ["standing"] 3 (spNight CS) := df_night T F.f_behind_night x_ma_standing
  have x_df_done : Df P w K mg base "done" ["rule", "standing", "deed"] 7 (spDone CR CS) := df_done T F.f_done x_df_isstruck x_df_markof x_df_marked x_df_taken x_df_struckone x_df_night
  have x_df_first : Df P w K mg base "first_standing" [] 3 (spFirst CS) := df_first T F.f_first_standing x_ma_standing
  have x_df_keyX : Df P w K mg base "key_of" ["standing"] 2 (spKeyX CS) := df_keyX T T2 F.f_key_of x_df_counted
  have x_df_key : Df P w K mg base "key_of" ["standing"] 2 (spKey CS) := df_key T T2 F.f_key_of x_df_counted
  have x_df_deeds : Df P w K mg base "deeds_of" ["rule"] 1 (spDeeds CR) := df_deeds T T2 F.f_deeds_of
  have x_gf_walked : GFunAt P w K mg base "walked" ["rule"] 8 (spWalked P w CR CS) := gf_walked T T2 F.f_walked x_df_deeds x_df_first x_df_key x_df_done
  have x_df_firstp : Df P w K mg base "first_parting" ["one", "other"] 8 (spFirstP CR) := df_firstp T F.f_first_parting x_df_deeds x_df_first x_df_key x_df_done x_df_shown
  have x_df_parting : Df P w K mg base "parting" ["one", "other"] 9 (spParting CR) := df_parting T F.f_parting x_df_firstp
  have x_df_alike : Df P w K mg base "alike" ["one", "other"] 10 (spAlike CR) := df_alike F.f_alike x_df_parting
  have x_df_isint : Df P w K mg base "is_integer" ["thing", "low", "high"] 1 spIsInt := df_isint T F.f_is_integer
  have x_df_isword : Df P w K mg base "is_word" ["part", "thing"] 2 spIsWord := df_isword T T3 F.f_is_word x_df_isint
  have x_ma_rule : Ma P w K mg base "Rule" CR ["self", "top", "measure", "cut", "least", "ages", "struck", "keeping"] 3 (spInitR CR) := ma_rule T T3 F.f_Rule___init__ x_df_isword
  have x_df_ruleof : Df P w K mg base "rule_of" ["words"] 5 (spRuleOf CR) := df_ruleof T F.f_rule_of x_ma_rule
  have x_me_changed : Me P w K mg base CR "changed" ["self", "part", "word"] 6 (spChanged CR) := me_changed T T3 F.f_Rule_changed x_df_ruleof
  have x_df_isdeed : Df P w K mg base "is_deed" ["rule", "thing"] 2 (spIsDeed CR) := df_isdeed T F.f_is_deed x_df_isint
  have x_df_behind : Df P w K mg base "shown_behind" ["rule", "history"] 8 (spBehind CR) := df_behind T F.f_shown_behind x_df_isdeed x_df_first x_df_shown x_df_done
  have x_df_seen : Df P w K mg base "seen_of" ["deed", "eye"] 1 spSeen := df_seen F.f_seen_of
  have x_df_knownmark : Df P w K mg base "known_mark" ["known", "person"] 2 (spKnownMark P w CS) := df_knownmark T F.f_known_mark x_df_markof
  have x_df_told : Df P w K mg base "told_person" ["known", "eye"] 3 (spTold P w CS) := df_told T2 F.f_told_person x_df_knownmark
  have x_df_bseen : Df P w K mg base "behind_seen" ["rule", "known", "deeds", "shown"] 8 (spBSeen P w CR CS) := df_bseen F.f_behind_seen x_df_done x_df_shown x_df_keyX
  have x_df_tellingof : DfG P w K mg base "telling_of" ["rule", "eye"] 9 (spTelling P w CR) := df_tellingof T F.f_telling_of x_df_seen x_df_deeds x_df_first x_df_keyX x_df_told x_df_done x_df_shown x_df_bseen
  have x_df_telling : DfG P w K mg base "telling" ["rule", "eye"] 10 (spTelling P w CR) := df_telling F.f_telling x_df_isint x_df_tellingof
  have x_df_mix : Df P w K mg base "_law_mix" ["_law_script", "_law_seed"] 1 (spMix K) := df_mix T F.f__law_mix
  have x_df_next : Df P w K mg base "_law_next" ["_law_h", "_law_cap"] 1 spNext := df_next T F.f__law_next
  have x_df_pick : Df P w K mg base "_law_pick" ["_law_h", "_law_things"] 2 spPick := df_pick T F.f__law_pick x_df_next
  have x_df_parts : Df P w K mg base "_law_parts" [] 1 spParts := df_parts F.f__law_parts
  have x_df_words : Df P w K mg base "_law_words" ["_law_h"] 3 spWords := df_words F.f__law_words x_df_parts x_df_pick x_df_next
  have x_df_built : Df P w K mg base "_law_built" ["_law_words_here"] 5 (spBuilt CR) := df_built F.f__law_built x_ma_rule
  have x_df_ldeeds : Df P w K mg base "_law_deeds" ["_law_top"] 1 spLDeeds := df_ldeeds T F.f__law_deeds
  have x_df_other : Df P w K mg base "_law_other" ["_law_deed"] 1 spOther := df_other T F.f__law_other
  have x_df_alA : Df P w K mg base "_law_alike" ["_law_found", "_law_due"] 1 spAlA := df_alA T F.f__law_alike
  have x_df_alB : Df P w K mg base "_law_alike" ["_law_found", "_law_due"] 2 spAlB := df_alB T F.f__law_alike x_df_alA
  have x_df_alC : Df P w K mg base "_law_alike" ["_law_found", "_law_due"] 3 spAlC := df_alC T F.f__law_alike x_df_alB
  have x_df_faults : Df P w K mg base "faults" ["rule"] 10 (spFaults CR) := df_faults T2 F.f_faults x_gf_walked x_df_wrong
  have x_df_law : DfG P w K mg base "law" ["_law_script"] 11 (spLaw K) := df_law T F.f_law x_df_mix x_df_words x_df_built x_me_changed x_df_faults x_df_alike x_df_pick x_df_telling x_df_ldeeds x_df_other x_df_behind x_df_alC
  exact x_df_law
/-! ### from what the top has left -/
theorem at_common_part {h : Heap} {f : Addr} {od an : Option Addr} {sl : Array (Option Value)} {oc kV dc pm cd ct : Value} (X : K.In h) (G : h.Ns mainGlobals mg) (a : PySem.W.nsIn K mainGlobals "common_part" = some (some (.ref f)))
    (l : K.lookup f = some ⟨oc, od, .func (PySem.W.fnOf "common_part" "common_part" (defArgs (txt 16)) (defBody (txt 16)) (defScope (txt 16)) .none kV dc pm an cd ct), sl⟩) (c : PySem.W.codeIn K cd "common_part" = true) (k : PySem.W.keepIn K (.ref f) = true) : FunAt K mg "common_part" (txt 16) ["one", "other"] :=
  ⟨f, _, fun_mk (st := txt 16) l c k, PySem.W.mg_of X G a, (fun_mk (st := txt 16) l c k).binds (ps := ["one", "other"]) fun _ _ _ _ _ _ us hl => match us, hl with | [_, _], _ => rfl⟩
theorem at_number_of {h : Heap} {f : Addr} {od an : Option Addr} {sl : Array (Option Value)} {oc kV dc pm cd ct : Value} (X : K.In h) (G : h.Ns mainGlobals mg) (a : PySem.W.nsIn K mainGlobals "number_of" = some (some (.ref f)))
    (l : K.lookup f = some ⟨oc, od, .func (PySem.W.fnOf "number_of" "number_of" (defArgs (txt 17)) (defBody (txt 17)) (defScope (txt 17)) .none kV dc pm an cd ct), sl⟩) (c : PySem.W.codeIn K cd "number_of" = true) (k : PySem.W.keepIn K (.ref f) = true) : FunAt K mg "number_of" (txt 17) ["numerator", "denominator"] :=
  ⟨f, _, fun_mk (st := txt 17) l c k, PySem.W.mg_of X G a, (fun_mk (st := txt 17) l c k).binds (ps := ["numerator", "denominator"]) fun _ _ _ _ _ _ us hl => match us, hl with | [_, _], _ => rfl⟩
theorem at_cut_down {h : Heap} {f : Addr} {od an : Option Addr} {sl : Array (Option Value)} {oc kV dc pm cd ct : Value} (X : K.In h) (G : h.Ns mainGlobals mg) (a : PySem.W.nsIn K mainGlobals "cut_down" = some (some (.ref f)))
    (l : K.lookup f = some ⟨oc, od, .func (PySem.W.fnOf "cut_down" "cut_down" (defArgs (txt 18)) (defBody (txt 18)) (defScope (txt 18)) .none kV dc pm an cd ct), sl⟩) (c : PySem.W.codeIn K cd "cut_down" = true) (k : PySem.W.keepIn K (.ref f) = true) : FunAt K mg "cut_down" (txt 18) ["rule", "numerator", "denominator"] :=
  ⟨f, _, fun_mk (st := txt 18) l c k, PySem.W.mg_of X G a, (fun_mk (st := txt 18) l c k).binds (ps := ["rule", "numerator", "denominator"]) fun _ _ _ _ _ _ us hl => match us, hl with | [_, _, _], _ => rfl⟩
theorem at_weight_of {h : Heap} {f : Addr} {od an : Option Addr} {sl : Array (Option Value)} {oc kV dc pm cd ct : Value} (X : K.In h) (G : h.Ns mainGlobals mg) (a : PySem.W.nsIn K mainGlobals "weight_of" = some (some (.ref f)))
    (l : K.lookup f = some ⟨oc, od, .func (PySem.W.fnOf "weight_of" "weight_of" (defArgs (txt 19)) (defBody (txt 19)) (defScope (txt 19)) .none kV dc pm an cd ct), sl⟩) (c : PySem.W.codeIn K cd "weight_of" = true) (k : PySem.W.keepIn K (.ref f) = true) : FunAt K mg "weight_of" (txt 19) ["rule", "is_old"] :=
  ⟨f, _, fun_mk (st := txt 19) l c k, PySem.W.mg_of X G a, (fun_mk (st := txt 19) l c k).binds (ps := ["rule", "is_old"]) fun _ _ _ _ _ _ us hl => match us, hl with | [_, _], _ => rfl⟩
theorem at_mean_of {h : Heap} {f : Addr} {od an : Option Addr} {sl : Array (Option Value)} {oc kV dc pm cd ct : Value} (X : K.In h) (G : h.Ns mainGlobals mg) (a : PySem.W.nsIn K mainGlobals "mean_of" = some (some (.ref f)))
    (l : K.lookup f = some ⟨oc, od, .func (PySem.W.fnOf "mean_of" "mean_of" (defArgs (txt 20)) (defBody (txt 20)) (defScope (txt 20)) .none kV dc pm an cd ct), sl⟩) (c : PySem.W.codeIn K cd "mean_of" = true) (k : PySem.W.keepIn K (.ref f) = true) : FunAt K mg "mean_of" (txt 20) ["rule", "rows"] :=
  ⟨f, _, fun_mk (st := txt 20) l c k, PySem.W.mg_of X G a, (fun_mk (st := txt 20) l c k).binds (ps := ["rule", "rows"]) fun _ _ _ _ _ _ us hl => match us, hl with | [_, _], _ => rfl⟩
theorem at_number_for {h : Heap} {f : Addr} {od an : Option Addr} {sl : Array (Option Value)} {oc kV dc pm cd ct : Value} (X : K.In h) (G : h.Ns mainGlobals mg) (a : PySem.W.nsIn K mainGlobals "number_for" = some (some (.ref f)))
    (l : K.lookup f = some ⟨oc, od, .func (PySem.W.fnOf "number_for" "number_for" (defArgs (txt 21)) (defBody (txt 21)) (defScope (txt 21)) .none kV dc pm an cd ct), sl⟩) (c : PySem.W.codeIn K cd "number_for" = true) (k : PySem.W.keepIn K (.ref f) = true) : FunAt K mg "number_for" (txt 21) ["rule", "rows"] :=
  ⟨f, _, fun_mk (st := txt 21) l c k, PySem.W.mg_of X G a, (fun_mk (st := txt 21) l c k).binds (ps := ["rule", "rows"]) fun _ _ _ _ _ _ us hl => match us, hl with | [_, _], _ => rfl⟩
theorem at_bounded {h : Heap} {f : Addr} {od an : Option Addr} {sl : Array (Option Value)} {oc kV dc pm cd ct : Value} (X : K.In h) (G : h.Ns mainGlobals mg) (a : PySem.W.nsIn K mainGlobals "bounded" = some (some (.ref f)))
    (l : K.lookup f = some ⟨oc, od, .func (PySem.W.fnOf "bounded" "bounded" (defArgs (txt 22)) (defBody (txt 22)) (defScope (txt 22)) .none kV dc pm an cd ct), sl⟩) (c : PySem.W.codeIn K cd "bounded" = true) (k : PySem.W.keepIn K (.ref f) = true) : FunAt K mg "bounded" (txt 22) ["rule", "number"] :=
  ⟨f, _, fun_mk (st := txt 22) l c k, PySem.W.mg_of X G a, (fun_mk (st := txt 22) l c k).binds (ps := ["rule", "number"]) fun _ _ _ _ _ _ us hl => match us, hl with | [_, _], _ => rfl⟩
theorem at_worked_on {h : Heap} {f : Addr} {od an : Option Addr} {sl : Array (Option Value)} {oc kV dc pm cd ct : Value} (X : K.In h) (G : h.Ns mainGlobals mg) (a : PySem.W.nsIn K mainGlobals "worked_on" = some (some (.ref f)))
    (l : K.lookup f = some ⟨oc, od, .func (PySem.W.fnOf "worked_on" "worked_on" (defArgs (txt 23)) (defBody (txt 23)) (defScope (txt 23)) .none kV dc pm an cd ct), sl⟩) (c : PySem.W.codeIn K cd "worked_on" = true) (k : PySem.W.keepIn K (.ref f) = true) : FunAt K mg "worked_on" (txt 23) ["rule", "kept", "many", "elder", "mark"] :=
  ⟨f, _, fun_mk (st := txt 23) l c k, PySem.W.mg_of X G a, (fun_mk (st := txt 23) l c k).binds (ps := ["rule", "kept", "many", "elder", "mark"]) fun _ _ _ _ _ _ us hl => match us, hl with | [_, _, _, _, _], _ => rfl⟩
theorem at_fault_of {h : Heap} {f : Addr} {od an : Option Addr} {sl : Array (Option Value)} {oc kV dc pm cd ct : Value} (X : K.In h) (G : h.Ns mainGlobals mg) (a : PySem.W.nsIn K mainGlobals "fault_of" = some (some (.ref f)))
    (l : K.lookup f = some ⟨oc, od, .func (PySem.W.fnOf "fault_of" "fault_of" (defArgs (txt 24)) (defBody (txt 24)) (defScope (txt 24)) .none kV dc pm an cd ct), sl⟩) (c : PySem.W.codeIn K cd "fault_of" = true) (k : PySem.W.keepIn K (.ref f) = true) : FunAt K mg "fault_of" (txt 24) ["shown", "due"] :=
  ⟨f, _, fun_mk (st := txt 24) l c k, PySem.W.mg_of X G a, (fun_mk (st := txt 24) l c k).binds (ps := ["shown", "due"]) fun _ _ _ _ _ _ us hl => match us, hl with | [_, _], _ => rfl⟩
theorem at_counted_rows {h : Heap} {f : Addr} {od an : Option Addr} {sl : Array (Option Value)} {oc kV dc pm cd ct : Value} (X : K.In h) (G : h.Ns mainGlobals mg) (a : PySem.W.nsIn K mainGlobals "counted_rows" = some (some (.ref f)))
    (l : K.lookup f = some ⟨oc, od, .func (PySem.W.fnOf "counted_rows" "counted_rows" (defArgs (txt 29)) (defBody (txt 29)) (defScope (txt 29)) .none kV dc pm an cd ct), sl⟩) (c : PySem.W.codeIn K cd "counted_rows" = true) (k : PySem.W.keepIn K (.ref f) = true) : FunAt K mg "counted_rows" (txt 29) ["standing"] :=
  ⟨f, _, fun_mk (st := txt 29) l c k, PySem.W.mg_of X G a, (fun_mk (st := txt 29) l c k).binds (ps := ["standing"]) fun _ _ _ _ _ _ us hl => match us, hl with | [_], _ => rfl⟩
theorem at_shown_by {h : Heap} {f : Addr} {od an : Option Addr} {sl : Array (Option Value)} {oc kV dc pm cd ct : Value} (X : K.In h) (G : h.Ns mainGlobals mg) (a : PySem.W.nsIn K mainGlobals "shown_by" = some (some (.ref f)))
    (l : K.lookup f = some ⟨oc, od, .func (PySem.W.fnOf "shown_by" "shown_by" (defArgs (txt 30)) (defBody (txt 30)) (defScope (txt 30)) .none kV dc pm an cd ct), sl⟩) (c : PySem.W.codeIn K cd "shown_by" = true) (k : PySem.W.keepIn K (.ref f) = true) : FunAt K mg "shown_by" (txt 30) ["rule", "standing"] :=
  ⟨f, _, fun_mk (st := txt 30) l c k, PySem.W.mg_of X G a, (fun_mk (st := txt 30) l c k).binds (ps := ["rule", "standing"]) fun _ _ _ _ _ _ us hl => match us, hl with | [_, _], _ => rfl⟩
theorem at_due_by {h : Heap} {f : Addr} {od an : Option Addr} {sl : Array (Option Value)} {oc kV dc pm cd ct : Value} (X : K.In h) (G : h.Ns mainGlobals mg) (a : PySem.W.nsIn K mainGlobals "due_by" = some (some (.ref f)))
    (l : K.lookup f = some ⟨oc, od, .func (PySem.W.fnOf "due_by" "due_by" (defArgs (txt 31)) (defBody (txt 31)) (defScope (txt 31)) .none kV dc pm an cd ct), sl⟩) (c : PySem.W.codeIn K cd "due_by" = true) (k : PySem.W.keepIn K (.ref f) = true) : FunAt K mg "due_by" (txt 31) ["rule", "standing"] :=
  ⟨f, _, fun_mk (st := txt 31) l c k, PySem.W.mg_of X G a, (fun_mk (st := txt 31) l c k).binds (ps := ["rule", "standing"]) fun _ _ _ _ _ _ us hl => match us, hl with | [_, _], _ => rfl⟩
theorem at_wrong_by {h : Heap} {f : Addr} {od an : Option Addr} {sl : Array (Option Value)} {oc kV dc pm cd ct : Value} (X : K.In h) (G : h.Ns mainGlobals mg) (a : PySem.W.nsIn K mainGlobals "wrong_by" = some (some (.ref f)))
    (l : K.lookup f = some ⟨oc, od, .func (PySem.W.fnOf "wrong_by" "wrong_by" (defArgs (txt 32)) (defBody (txt 32)) (defScope (txt 32)) .none kV dc pm an cd ct), sl⟩) (c : PySem.W.codeIn K cd "wrong_by" = true) (k : PySem.W.keepIn K (.ref f) = true) : FunAt K mg "wrong_by" (txt 32) ["rule", "standing"] :=
  ⟨f, _, fun_mk (st := txt 32) l c k, PySem.W.mg_of X G a, (fun_mk (st := txt 32) l c k).binds (ps := ["rule", "standing"]) fun _ _ _ _ _ _ us hl => match us, hl with | [_, _], _ => rfl⟩
theorem at_kept_by {h : Heap} {f : Addr} {od an : Option Addr} {sl : Array (Option Value)} {oc kV dc pm cd ct : Value} (X : K.In h) (G : h.Ns mainGlobals mg) (a : PySem.W.nsIn K mainGlobals "kept_by" = some (some (.ref f)))
    (l : K.lookup f = some ⟨oc, od, .func (PySem.W.fnOf "kept_by" "kept_by" (defArgs (txt 33)) (defBody (txt 33)) (defScope (txt 33)) .none kV dc pm an cd ct), sl⟩) (c : PySem.W.codeIn K cd "kept_by" = true) (k : PySem.W.keepIn K (.ref f) = true) : FunAt K mg "kept_by" (txt 33) ["rule", "standing", "elder", "mark"] :=
  ⟨f, _, fun_mk (st := txt 33) l c k, PySem.W.mg_of X G a, (fun_mk (st := txt 33) l c k).binds (ps := ["rule", "standing", "elder", "mark"]) fun _ _ _ _ _ _ us hl => match us, hl with | [_, _, _, _], _ => rfl⟩
theorem at_is_struck {h : Heap} {f : Addr} {od an : Option Addr} {sl : Array (Option Value)} {oc kV dc pm cd ct : Value} (X : K.In h) (G : h.Ns mainGlobals mg) (a : PySem.W.nsIn K mainGlobals "is_struck" = some (some (.ref f)))
    (l : K.lookup f = some ⟨oc, od, .func (PySem.W.fnOf "is_struck" "is_struck" (defArgs (txt 34)) (defBody (txt 34)) (defScope (txt 34)) .none kV dc pm an cd ct), sl⟩) (c : PySem.W.codeIn K cd "is_struck" = true) (k : PySem.W.keepIn K (.ref f) = true) : FunAt K mg "is_struck" (txt 34) ["standing", "person"] :=
  ⟨f, _, fun_mk (st := txt 34) l c k, PySem.W.mg_of X G a, (fun_mk (st := txt 34) l c k).binds (ps := ["standing", "person"]) fun _ _ _ _ _ _ us hl => match us, hl with | [_, _], _ => rfl⟩
theorem at_mark_of {h : Heap} {f : Addr} {od an : Option Addr} {sl : Array (Option Value)} {oc kV dc pm cd ct : Value} (X : K.In h) (G : h.Ns mainGlobals mg) (a : PySem.W.nsIn K mainGlobals "mark_of" = some (some (.ref f)))
    (l : K.lookup f = some ⟨oc, od, .func (PySem.W.fnOf "mark_of" "mark_of" (defArgs (txt 35)) (defBody (txt 35)) (defScope (txt 35)) .none kV dc pm an cd ct), sl⟩) (c : PySem.W.codeIn K cd "mark_of" = true) (k : PySem.W.keepIn K (.ref f) = true) : FunAt K mg "mark_of" (txt 35) ["standing", "person"] :=
  ⟨f, _, fun_mk (st := txt 35) l c k, PySem.W.mg_of X G a, (fun_mk (st := txt 35) l c k).binds (ps := ["standing", "person"]) fun _ _ _ _ _ _ us hl => match us, hl with | [_, _], _ => rfl⟩
theorem at_Standing___init__ {h : Heap} {CS f : Addr} {od an : Option Addr} {sl : Array (Option Value)} {oc kV dc pm cd ct : Value} (X : K.In h) (G : h.Ns mainGlobals mg) (aC : PySem.W.nsIn K mainGlobals "Standing" = some (some (.ref CS))) (mk : PySem.W.makesIn K CS = true) (kC : PySem.W.keepIn K (.ref CS) = true)
    (a : PySem.W.findIn K (.ref CS) "__init__" = some (some (.ref f))) (i : PySem.W.isFn K (.ref f) = true)
    (l : K.lookup f = some ⟨oc, od, .func (PySem.W.fnOf "__init__" "Standing.__init__" (defArgs (mem 28 0)) (defBody (mem 28 0)) (defScope (mem 28 0)) .none kV dc pm an cd ct), sl⟩) (c : PySem.W.codeIn K cd "Standing.__init__" = true) (k : PySem.W.keepIn K (.ref f) = true) : MakAt K mg "Standing" "Standing.__init__" CS (mem 28 0) ["self", "rows", "kept"] :=
  ⟨f, _, ⟨mk, a, i, kC⟩, fun_mk (st := mem 28 0) l c k, PySem.W.mg_of X G aC, (fun_mk (st := mem 28 0) l c k).binds (ps := ["self", "rows", "kept"]) fun _ _ _ _ _ _ us hl => match us, hl with | [_, _, _], _ => rfl⟩
theorem at_without {h : Heap} {f : Addr} {od an : Option Addr} {sl : Array (Option Value)} {oc kV dc pm cd ct : Value} (X : K.In h) (G : h.Ns mainGlobals mg) (a : PySem.W.nsIn K mainGlobals "without" = some (some (.ref f)))
    (l : K.lookup f = some ⟨oc, od, .func (PySem.W.fnOf "without" "without" (defArgs (txt 36)) (defBody (txt 36)) (defScope (txt 36)) .none kV dc pm an cd ct), sl⟩) (c : PySem.W.codeIn K cd "without" = true) (k : PySem.W.keepIn K (.ref f) = true) : FunAt K mg "without" (txt 36) ["rows", "person"] :=
  ⟨f, _, fun_mk (st := txt 36) l c k, PySem.W.mg_of X G a, (fun_mk (st := txt 36) l c k).binds (ps := ["rows", "person"]) fun _ _ _ _ _ _ us hl => match us, hl with | [_, _], _ => rfl⟩
theorem at_marked {h : Heap} {f : Addr} {od an : Option Addr} {sl : Array (Option Value)} {oc kV dc pm cd ct : Value} (X : K.In h) (G : h.Ns mainGlobals mg) (a : PySem.W.nsIn K mainGlobals "marked" = some (some (.ref f)))
    (l : K.lookup f = some ⟨oc, od, .func (PySem.W.fnOf "marked" "marked" (defArgs (txt 37)) (defBody (txt 37)) (defScope (txt 37)) .none kV dc pm an cd ct), sl⟩) (c : PySem.W.codeIn K cd "marked" = true) (k : PySem.W.keepIn K (.ref f) = true) : FunAt K mg "marked" (txt 37) ["rule", "standing", "person", "mark"] :=
  ⟨f, _, fun_mk (st := txt 37) l c k, PySem.W.mg_of X G a, (fun_mk (st := txt 37) l c k).binds (ps := ["rule", "standing", "person", "mark"]) fun _ _ _ _ _ _ us hl => match us, hl with | [_, _, _, _], _ => rfl⟩
theorem at_taken_back {h : Heap} {f : Addr} {od an : Option Addr} {sl : Array (Option Value)} {oc kV dc pm cd ct : Value} (X : K.In h) (G : h.Ns mainGlobals mg) (a : PySem.W.nsIn K mainGlobals "taken_back" = some (some (.ref f)))
    (l : K.lookup f = some ⟨oc, od, .func (PySem.W.fnOf "taken_back" "taken_back" (defArgs (txt 38)) (defBody (txt 38)) (defScope (txt 38)) .none kV dc pm an cd ct), sl⟩) (c : PySem.W.codeIn K cd "taken_back" = true) (k : PySem.W.keepIn K (.ref f) = true) : FunAt K mg "taken_back" (txt 38) ["rule", "standing", "person"] :=
  ⟨f, _, fun_mk (st := txt 38) l c k, PySem.W.mg_of X G a, (fun_mk (st := txt 38) l c k).binds (ps := ["rule", "standing", "person"]) fun _ _ _ _ _ _ us hl => match us, hl with | [_, _, _], _ => rfl⟩
theorem at_struck_one {h : Heap} {f : Addr} {od an : Option Addr} {sl : Array (Option Value)} {oc kV dc pm cd ct : Value} (X : K.In h) (G : h.Ns mainGlobals mg) (a : PySem.W.nsIn K mainGlobals "struck_one" = some (some (.ref f)))
    (l : K.lookup f = some ⟨oc, od, .func (PySem.W.fnOf "struck_one" "struck_one" (defArgs (txt 39)) (defBody (txt 39)) (defScope (txt 39)) .none kV dc pm an cd ct), sl⟩) (c : PySem.W.codeIn K cd "struck_one" = true) (k : PySem.W.keepIn K (.ref f) = true) : FunAt K mg "struck_one" (txt 39) ["rule", "standing", "person"] :=
  ⟨f, _, fun_mk (st := txt 39) l c k, PySem.W.mg_of X G a, (fun_mk (st := txt 39) l c k).binds (ps := ["rule", "standing", "person"]) fun _ _ _ _ _ _ us hl => match us, hl with | [_, _, _], _ => rfl⟩
theorem at_behind_night {h : Heap} {f : Addr} {od an : Option Addr} {sl : Array (Option Value)} {oc kV dc pm cd ct : Value} (X : K.In h) (G : h.Ns mainGlobals mg) (a : PySem.W.nsIn K mainGlobals "behind_night" = some (some (.ref f)))
    (l : K.lookup f = some ⟨oc, od, .func (PySem.W.fnOf "behind_night" "behind_night" (defArgs (txt 40)) (defBody (txt 40)) (defScope (txt 40)) .none kV dc pm an cd ct), sl⟩) (c : PySem.W.codeIn K cd "behind_night" = true) (k : PySem.W.keepIn K (.ref f) = true) : FunAt K mg "behind_night" (txt 40) ["standing"] :=
  ⟨f, _, fun_mk (st := txt 40) l c k, PySem.W.mg_of X G a, (fun_mk (st := txt 40) l c k).binds (ps := ["standing"]) fun _ _ _ _ _ _ us hl => match us, hl with | [_], _ => rfl⟩
theorem at_done {h : Heap} {f : Addr} {od an : Option Addr} {sl : Array (Option Value)} {oc kV dc pm cd ct : Value} (X : K.In h) (G : h.Ns mainGlobals mg) (a : PySem.W.nsIn K mainGlobals "done" = some (some (.ref f)))
    (l : K.lookup f = some ⟨oc, od, .func (PySem.W.fnOf "done" "done" (defArgs (txt 41)) (defBody (txt 41)) (defScope (txt 41)) .none kV dc pm an cd ct), sl⟩) (c : PySem.W.codeIn K cd "done" = true) (k : PySem.W.keepIn K (.ref f) = true) : FunAt K mg "done" (txt 41) ["rule", "standing", "deed"] :=
  ⟨f, _, fun_mk (st := txt 41) l c k, PySem.W.mg_of X G a, (fun_mk (st := txt 41) l c k).binds (ps := ["rule", "standing", "deed"]) fun _ _ _ _ _ _ us hl => match us, hl with | [_, _, _], _ => rfl⟩
theorem at_first_standing {h : Heap} {f : Addr} {od an : Option Addr} {sl : Array (Option Value)} {oc kV dc pm cd ct : Value} (X : K.In h) (G : h.Ns mainGlobals mg) (a : PySem.W.nsIn K mainGlobals "first_standing" = some (some (.ref f)))
    (l : K.lookup f = some ⟨oc, od, .func (PySem.W.fnOf "first_standing" "first_standing" (defArgs (txt 47)) (defBody (txt 47)) (defScope (txt 47)) .none kV dc pm an cd ct), sl⟩) (c : PySem.W.codeIn K cd "first_standing" = true) (k : PySem.W.keepIn K (.ref f) = true) : FunAt K mg "first_standing" (txt 47) [] :=
  ⟨f, _, fun_mk (st := txt 47) l c k, PySem.W.mg_of X G a, (fun_mk (st := txt 47) l c k).binds (ps := []) fun _ _ _ _ _ _ us hl => match us, hl with | [], _ => rfl⟩
theorem at_key_of {h : Heap} {f : Addr} {od an : Option Addr} {sl : Array (Option Value)} {oc kV dc pm cd ct : Value} (X : K.In h) (G : h.Ns mainGlobals mg) (a : PySem.W.nsIn K mainGlobals "key_of" = some (some (.ref f)))
    (l : K.lookup f = some ⟨oc, od, .func (PySem.W.fnOf "key_of" "key_of" (defArgs (txt 48)) (defBody (txt 48)) (defScope (txt 48)) .none kV dc pm an cd ct), sl⟩) (c : PySem.W.codeIn K cd "key_of" = true) (k : PySem.W.keepIn K (.ref f) = true) : FunAt K mg "key_of" (txt 48) ["standing"] :=
  ⟨f, _, fun_mk (st := txt 48) l c k, PySem.W.mg_of X G a, (fun_mk (st := txt 48) l c k).binds (ps := ["standing"]) fun _ _ _ _ _ _ us hl => match us, hl with | [_], _ => rfl⟩
theorem at_deeds_of {h : Heap} {f : Addr} {od an : Option Addr} {sl : Array (Option Value)} {oc kV dc pm cd ct : Value} (X : K.In h) (G : h.Ns mainGlobals mg) (a : PySem.W.nsIn K mainGlobals "deeds_of" = some (some (.ref f)))
    (l : K.lookup f = some ⟨oc, od, .func (PySem.W.fnOf "deeds_of" "deeds_of" (defArgs (txt 46)) (defBody (txt 46)) (defScope (txt 46)) .none kV dc pm an cd ct), sl⟩) (c : PySem.W.codeIn K cd "deeds_of" = true) (k : PySem.W.keepIn K (.ref f) = true) : FunAt K mg "deeds_of" (txt 46) ["rule"] :=
  ⟨f, _, fun_mk (st := txt 46) l c k, PySem.W.mg_of X G a, (fun_mk (st := txt 46) l c k).binds (ps := ["rule"]) fun _ _ _ _ _ _ us hl => match us, hl with | [_], _ => rfl⟩
theorem at_walked {h : Heap} {f : Addr} {od an : Option Addr} {sl : Array (Option Value)} {oc kV dc pm cd ct : Value} (X : K.In h) (G : h.Ns mainGlobals mg) (a : PySem.W.nsIn K mainGlobals "walked" = some (some (.ref f)))
    (l : K.lookup f = some ⟨oc, od, .func (PySem.W.fnOf "walked" "walked" (defArgs (txt 50)) (defBody (txt 50)) (defScope (txt 50)) .none kV dc pm an cd ct), sl⟩) (c : PySem.W.codeIn K cd "walked" = true) (k : PySem.W.keepIn K (.ref f) = true) : FunAt K mg "walked" (txt 50) ["rule"] :=
  ⟨f, _, fun_mk (st := txt 50) l c k, PySem.W.mg_of X G a, (fun_mk (st := txt 50) l c k).binds (ps := ["rule"]) fun _ _ _ _ _ _ us hl => match us, hl with | [_], _ => rfl⟩
theorem at_first_parting {h : Heap} {f : Addr} {od an : Option Addr} {sl : Array (Option Value)} {oc kV dc pm cd ct : Value} (X : K.In h) (G : h.Ns mainGlobals mg) (a : PySem.W.nsIn K mainGlobals "first_parting" = some (some (.ref f)))
    (l : K.lookup f = some ⟨oc, od, .func (PySem.W.fnOf "first_parting" "first_parting" (defArgs (txt 52)) (defBody (txt 52)) (defScope (txt 52)) .none kV dc pm an cd ct), sl⟩) (c : PySem.W.codeIn K cd "first_parting" = true) (k : PySem.W.keepIn K (.ref f) = true) : FunAt K mg "first_parting" (txt 52) ["one", "other"] :=
  ⟨f, _, fun_mk (st := txt 52) l c k, PySem.W.mg_of X G a, (fun_mk (st := txt 52) l c k).binds (ps := ["one", "other"]) fun _ _ _ _ _ _ us hl => match us, hl with | [_, _], _ => rfl⟩
theorem at_parting {h : Heap} {f : Addr} {od an : Option Addr} {sl : Array (Option Value)} {oc kV dc pm cd ct : Value} (X : K.In h) (G : h.Ns mainGlobals mg) (a : PySem.W.nsIn K mainGlobals "parting" = some (some (.ref f)))
    (l : K.lookup f = some ⟨oc, od, .func (PySem.W.fnOf "parting" "parting" (defArgs (txt 53)) (defBody (txt 53)) (defScope (txt 53)) .none kV dc pm an cd ct), sl⟩) (c : PySem.W.codeIn K cd "parting" = true) (k : PySem.W.keepIn K (.ref f) = true) : FunAt K mg "parting" (txt 53) ["one", "other"] :=
  ⟨f, _, fun_mk (st := txt 53) l c k, PySem.W.mg_of X G a, (fun_mk (st := txt 53) l c k).binds (ps := ["one", "other"]) fun _ _ _ _ _ _ us hl => match us, hl with | [_, _], _ => rfl⟩
theorem at_alike {h : Heap} {f : Addr} {od an : Option Addr} {sl : Array (Option Value)} {oc kV dc pm cd ct : Value} (X : K.In h) (G : h.Ns mainGlobals mg) (a : PySem.W.nsIn K mainGlobals "alike" = some (some (.ref f)))
    (l : K.lookup f = some ⟨oc, od, .func (PySem.W.fnOf "alike" "alike" (defArgs (txt 54)) (defBody (txt 54)) (defScope (txt 54)) .none kV dc pm an cd ct), sl⟩) (c : PySem.W.codeIn K cd "alike" = true) (k : PySem.W.keepIn K (.ref f) = true) : FunAt K mg "alike" (txt 54) ["one", "other"] :=
  ⟨f, _, fun_mk (st := txt 54) l c k, PySem.W.mg_of X G a, (fun_mk (st := txt 54) l c k).binds (ps := ["one", "other"]) fun _ _ _ _ _ _ us hl => match us, hl with | [_, _], _ => rfl⟩
theorem at_is_integer {h : Heap} {f : Addr} {od an : Option Addr} {sl : Array (Option Value)} {oc kV dc pm cd ct : Value} (X : K.In h) (G : h.Ns mainGlobals mg) (a : PySem.W.nsIn K mainGlobals "is_integer" = some (some (.ref f)))
    (l : K.lookup f = some ⟨oc, od, .func (PySem.W.fnOf "is_integer" "is_integer" (defArgs (txt 10)) (defBody (txt 10)) (defScope (txt 10)) .none kV dc pm an cd ct), sl⟩) (c : PySem.W.codeIn K cd "is_integer" = true) (k : PySem.W.keepIn K (.ref f) = true) : FunAt K mg "is_integer" (txt 10) ["thing", "low", "high"] :=
  ⟨f, _, fun_mk (st := txt 10) l c k, PySem.W.mg_of X G a, (fun_mk (st := txt 10) l c k).binds (ps := ["thing", "low", "high"]) fun _ _ _ _ _ _ us hl => match us, hl with | [_, _, _], _ => rfl⟩
theorem at_is_word {h : Heap} {f : Addr} {od an : Option Addr} {sl : Array (Option Value)} {oc kV dc pm cd ct : Value} (X : K.In h) (G : h.Ns mainGlobals mg) (a : PySem.W.nsIn K mainGlobals "is_word" = some (some (.ref f)))
    (l : K.lookup f = some ⟨oc, od, .func (PySem.W.fnOf "is_word" "is_word" (defArgs (txt 11)) (defBody (txt 11)) (defScope (txt 11)) .none kV dc pm an cd ct), sl⟩) (c : PySem.W.codeIn K cd "is_word" = true) (k : PySem.W.keepIn K (.ref f) = true) : FunAt K mg "is_word" (txt 11) ["part", "thing"] :=
  ⟨f, _, fun_mk (st := txt 11) l c k, PySem.W.mg_of X G a, (fun_mk (st := txt 11) l c k).binds (ps := ["part", "thing"]) fun _ _ _ _ _ _ us hl => match us, hl with | [_, _], _ => rfl⟩
theorem at_Rule___init__ {h : Heap} {CR f : Addr} {od an : Option Addr} {sl : Array (Option Value)} {oc kV dc pm cd ct : Value} (X : K.In h) (G : h.Ns mainGlobals mg) (aC : PySem.W.nsIn K mainGlobals "Rule" = some (some (.ref CR))) (mk : PySem.W.makesIn K CR = true) (kC : PySem.W.keepIn K (.ref CR) = true)
    (a : PySem.W.findIn K (.ref CR) "__init__" = some (some (.ref f))) (i : PySem.W.isFn K (.ref f) = true)
    (l : K.lookup f = some ⟨oc, od, .func (PySem.W.fnOf "__init__" "Rule.__init__" (defArgs (mem 12 0)) (defBody (mem 12 0)) (defScope (mem 12 0)) .none kV dc pm an cd ct), sl⟩) (c : PySem.W.codeIn K cd "Rule.__init__" = true) (k : PySem.W.keepIn K (.ref f) = true) : MakAt K mg "Rule" "Rule.__init__" CR (mem 12 0) ["self", "top", "measure", "cut", "least", "ages", "struck", "keeping"] :=
  ⟨f, _, ⟨mk, a, i, kC⟩, fun_mk (st := mem 12 0) l c k, PySem.W.mg_of X G aC, (fun_mk (st := mem 12 0) l c k).binds (ps := ["self", "top", "measure", "cut", "least", "ages", "struck", "keeping"]) fun _ _ _ _ _ _ us hl => match us, hl with | [_, _, _, _, _, _, _, _], _ => rfl⟩
theorem at_rule_of {h : Heap} {f : Addr} {od an : Option Addr} {sl : Array (Option Value)} {oc kV dc pm cd ct : Value} (X : K.In h) (G : h.Ns mainGlobals mg) (a : PySem.W.nsIn K mainGlobals "rule_of" = some (some (.ref f)))
    (l : K.lookup f = some ⟨oc, od, .func (PySem.W.fnOf "rule_of" "rule_of" (defArgs (txt 13)) (defBody (txt 13)) (defScope (txt 13)) .none kV dc pm an cd ct), sl⟩) (c : PySem.W.codeIn K cd "rule_of" = true) (k : PySem.W.keepIn K (.ref f) = true) : FunAt K mg "rule_of" (txt 13) ["words"] :=
  ⟨f, _, fun_mk (st := txt 13) l c k, PySem.W.mg_of X G a, (fun_mk (st := txt 13) l c k).binds (ps := ["words"]) fun _ _ _ _ _ _ us hl => match us, hl with | [_], _ => rfl⟩
theorem at_Rule_changed {CR f : Addr} {od an : Option Addr} {sl : Array (Option Value)} {oc kV dc pm cd ct : Value}
    (a : PySem.W.findIn K (.ref CR) "changed" = some (some (.ref f))) (i : PySem.W.isFn K (.ref f) = true)
    (l : K.lookup f = some ⟨oc, od, .func (PySem.W.fnOf "changed" "Rule.changed" (defArgs (mem 12 8)) (defBody (mem 12 8)) (defScope (mem 12 8)) .none kV dc pm an cd ct), sl⟩) (c : PySem.W.codeIn K cd "Rule.changed" = true) (k : PySem.W.keepIn K (.ref f) = true) : MetAt K CR "changed" "Rule.changed" (mem 12 8) ["self", "part", "word"] :=
  ⟨f, _, ⟨a, i, k⟩, fun_mk (st := mem 12 8) l c k, (fun_mk (st := mem 12 8) l c k).binds (ps := ["self", "part", "word"]) fun _ _ _ _ _ _ us hl => match us, hl with | [_, _, _], _ => rfl⟩
theorem at_is_deed {h : Heap} {f : Addr} {od an : Option Addr} {sl : Array (Option Value)} {oc kV dc pm cd ct : Value} (X : K.In h) (G : h.Ns mainGlobals mg) (a : PySem.W.nsIn K mainGlobals "is_deed" = some (some (.ref f)))
    (l : K.lookup f = some ⟨oc, od, .func (PySem.W.fnOf "is_deed" "is_deed" (defArgs (txt 45)) (defBody (txt 45)) (defScope (txt 45)) .none kV dc pm an cd ct), sl⟩) (c : PySem.W.codeIn K cd "is_deed" = true) (k : PySem.W.keepIn K (.ref f) = true) : FunAt K mg "is_deed" (txt 45) ["rule", "thing"] :=
  ⟨f, _, fun_mk (st := txt 45) l c k, PySem.W.mg_of X G a, (fun_mk (st := txt 45) l c k).binds (ps := ["rule", "thing"]) fun _ _ _ _ _ _ us hl => match us, hl with | [_, _], _ => rfl⟩
theorem at_shown_behind {h : Heap} {f : Addr} {od an : Option Addr} {sl : Array (Option Value)} {oc kV dc pm cd ct : Value} (X : K.In h) (G : h.Ns mainGlobals mg) (a : PySem.W.nsIn K mainGlobals "shown_behind" = some (some (.ref f)))
    (l : K.lookup f = some ⟨oc, od, .func (PySem.W.fnOf "shown_behind" "shown_behind" (defArgs (txt 49)) (defBody (txt 49)) (defScope (txt 49)) .none kV dc pm an cd ct), sl⟩) (c : PySem.W.codeIn K cd "shown_behind" = true) (k : PySem.W.keepIn K (.ref f) = true) : FunAt K mg "shown_behind" (txt 49) ["rule", "history"] :=
  ⟨f, _, fun_mk (st := txt 49) l c k, PySem.W.mg_of X G a, (fun_mk (st := txt 49) l c k).binds (ps := ["rule", "history"]) fun _ _ _ _ _ _ us hl => match us, hl with | [_, _], _ => rfl⟩
theorem at_seen_of {h : Heap} {f : Addr} {od an : Option Addr} {sl : Array (Option Value)} {oc kV dc pm cd ct : Value} (X : K.In h) (G : h.Ns mainGlobals mg) (a : PySem.W.nsIn K mainGlobals "seen_of" = some (some (.ref f)))
    (l : K.lookup f = some ⟨oc, od, .func (PySem.W.fnOf "seen_of" "seen_of" (defArgs (txt 56)) (defBody (txt 56)) (defScope (txt 56)) .none kV dc pm an cd ct), sl⟩) (c : PySem.W.codeIn K cd "seen_of" = true) (k : PySem.W.keepIn K (.ref f) = true) : FunAt K mg "seen_of" (txt 56) ["deed", "eye"] :=
  ⟨f, _, fun_mk (st := txt 56) l c k, PySem.W.mg_of X G a, (fun_mk (st := txt 56) l c k).binds (ps := ["deed", "eye"]) fun _ _ _ _ _ _ us hl => match us, hl with | [_, _], _ => rfl⟩
theorem at_known_mark {h : Heap} {f : Addr} {od an : Option Addr} {sl : Array (Option Value)} {oc kV dc pm cd ct : Value} (X : K.In h) (G : h.Ns mainGlobals mg) (a : PySem.W.nsIn K mainGlobals "known_mark" = some (some (.ref f)))
    (l : K.lookup f = some ⟨oc, od, .func (PySem.W.fnOf "known_mark" "known_mark" (defArgs (txt 57)) (defBody (txt 57)) (defScope (txt 57)) .none kV dc pm an cd ct), sl⟩) (c : PySem.W.codeIn K cd "known_mark" = true) (k : PySem.W.keepIn K (.ref f) = true) : FunAt K mg "known_mark" (txt 57) ["known", "person"] :=
  ⟨f, _, fun_mk (st := txt 57) l c k, PySem.W.mg_of X G a, (fun_mk (st := txt 57) l c k).binds (ps := ["known", "person"]) fun _ _ _ _ _ _ us hl => match us, hl with | [_, _], _ => rfl⟩
theorem at_told_person {h : Heap} {f : Addr} {od an : Option Addr} {sl : Array (Option Value)} {oc kV dc pm cd ct : Value} (X : K.In h) (G : h.Ns mainGlobals mg) (a : PySem.W.nsIn K mainGlobals "told_person" = some (some (.ref f)))
    (l : K.lookup f = some ⟨oc, od, .func (PySem.W.fnOf "told_person" "told_person" (defArgs (txt 59)) (defBody (txt 59)) (defScope (txt 59)) .none kV dc pm an cd ct), sl⟩) (c : PySem.W.codeIn K cd "told_person" = true) (k : PySem.W.keepIn K (.ref f) = true) : FunAt K mg "told_person" (txt 59) ["known", "eye"] :=
  ⟨f, _, fun_mk (st := txt 59) l c k, PySem.W.mg_of X G a, (fun_mk (st := txt 59) l c k).binds (ps := ["known", "eye"]) fun _ _ _ _ _ _ us hl => match us, hl with | [_, _], _ => rfl⟩
theorem at_behind_seen {h : Heap} {f : Addr} {od an : Option Addr} {sl : Array (Option Value)} {oc kV dc pm cd ct : Value} (X : K.In h) (G : h.Ns mainGlobals mg) (a : PySem.W.nsIn K mainGlobals "behind_seen" = some (some (.ref f)))
    (l : K.lookup f = some ⟨oc, od, .func (PySem.W.fnOf "behind_seen" "behind_seen" (defArgs (txt 58)) (defBody (txt 58)) (defScope (txt 58)) .none kV dc pm an cd ct), sl⟩) (c : PySem.W.codeIn K cd "behind_seen" = true) (k : PySem.W.keepIn K (.ref f) = true) : FunAt K mg "behind_seen" (txt 58) ["rule", "known", "deeds", "shown"] :=
  ⟨f, _, fun_mk (st := txt 58) l c k, PySem.W.mg_of X G a, (fun_mk (st := txt 58) l c k).binds (ps := ["rule", "known", "deeds", "shown"]) fun _ _ _ _ _ _ us hl => match us, hl with | [_, _, _, _], _ => rfl⟩
theorem at_telling_of {h : Heap} {f : Addr} {od an : Option Addr} {sl : Array (Option Value)} {oc kV dc pm cd ct : Value} (X : K.In h) (G : h.Ns mainGlobals mg) (a : PySem.W.nsIn K mainGlobals "telling_of" = some (some (.ref f)))
    (l : K.lookup f = some ⟨oc, od, .func (PySem.W.fnOf "telling_of" "telling_of" (defArgs (txt 60)) (defBody (txt 60)) (defScope (txt 60)) .none kV dc pm an cd ct), sl⟩) (c : PySem.W.codeIn K cd "telling_of" = true) (k : PySem.W.keepIn K (.ref f) = true) : FunAt K mg "telling_of" (txt 60) ["rule", "eye"] :=
  ⟨f, _, fun_mk (st := txt 60) l c k, PySem.W.mg_of X G a, (fun_mk (st := txt 60) l c k).binds (ps := ["rule", "eye"]) fun _ _ _ _ _ _ us hl => match us, hl with | [_, _], _ => rfl⟩
theorem at_telling {h : Heap} {f : Addr} {od an : Option Addr} {sl : Array (Option Value)} {oc kV dc pm cd ct : Value} (X : K.In h) (G : h.Ns mainGlobals mg) (a : PySem.W.nsIn K mainGlobals "telling" = some (some (.ref f)))
    (l : K.lookup f = some ⟨oc, od, .func (PySem.W.fnOf "telling" "telling" (defArgs (txt 61)) (defBody (txt 61)) (defScope (txt 61)) .none kV dc pm an cd ct), sl⟩) (c : PySem.W.codeIn K cd "telling" = true) (k : PySem.W.keepIn K (.ref f) = true) : FunAt K mg "telling" (txt 61) ["rule", "eye"] :=
  ⟨f, _, fun_mk (st := txt 61) l c k, PySem.W.mg_of X G a, (fun_mk (st := txt 61) l c k).binds (ps := ["rule", "eye"]) fun _ _ _ _ _ _ us hl => match us, hl with | [_, _], _ => rfl⟩
theorem at__law_mix {h : Heap} {f : Addr} {od an : Option Addr} {sl : Array (Option Value)} {oc kV dc pm cd ct : Value} (X : K.In h) (G : h.Ns mainGlobals mg) (a : PySem.W.nsIn K mainGlobals "_law_mix" = some (some (.ref f)))
    (l : K.lookup f = some ⟨oc, od, .func (PySem.W.fnOf "_law_mix" "_law_mix" (defArgs (txt 63)) (defBody (txt 63)) (defScope (txt 63)) .none kV dc pm an cd ct), sl⟩) (c : PySem.W.codeIn K cd "_law_mix" = true) (k : PySem.W.keepIn K (.ref f) = true) : FunAt K mg "_law_mix" (txt 63) ["_law_script", "_law_seed"] :=
  ⟨f, _, fun_mk (st := txt 63) l c k, PySem.W.mg_of X G a, (fun_mk (st := txt 63) l c k).binds (ps := ["_law_script", "_law_seed"]) fun _ _ _ _ _ _ us hl => match us, hl with | [_, _], _ => rfl⟩
theorem at__law_next {h : Heap} {f : Addr} {od an : Option Addr} {sl : Array (Option Value)} {oc kV dc pm cd ct : Value} (X : K.In h) (G : h.Ns mainGlobals mg) (a : PySem.W.nsIn K mainGlobals "_law_next" = some (some (.ref f)))
    (l : K.lookup f = some ⟨oc, od, .func (PySem.W.fnOf "_law_next" "_law_next" (defArgs (txt 64)) (defBody (txt 64)) (defScope (txt 64)) .none kV dc pm an cd ct), sl⟩) (c : PySem.W.codeIn K cd "_law_next" = true) (k : PySem.W.keepIn K (.ref f) = true) : FunAt K mg "_law_next" (txt 64) ["_law_h", "_law_cap"] :=
  ⟨f, _, fun_mk (st := txt 64) l c k, PySem.W.mg_of X G a, (fun_mk (st := txt 64) l c k).binds (ps := ["_law_h", "_law_cap"]) fun _ _ _ _ _ _ us hl => match us, hl with | [_, _], _ => rfl⟩
theorem at__law_pick {h : Heap} {f : Addr} {od an : Option Addr} {sl : Array (Option Value)} {oc kV dc pm cd ct : Value} (X : K.In h) (G : h.Ns mainGlobals mg) (a : PySem.W.nsIn K mainGlobals "_law_pick" = some (some (.ref f)))
    (l : K.lookup f = some ⟨oc, od, .func (PySem.W.fnOf "_law_pick" "_law_pick" (defArgs (txt 66)) (defBody (txt 66)) (defScope (txt 66)) .none kV dc pm an cd ct), sl⟩) (c : PySem.W.codeIn K cd "_law_pick" = true) (k : PySem.W.keepIn K (.ref f) = true) : FunAt K mg "_law_pick" (txt 66) ["_law_h", "_law_things"] :=
  ⟨f, _, fun_mk (st := txt 66) l c k, PySem.W.mg_of X G a, (fun_mk (st := txt 66) l c k).binds (ps := ["_law_h", "_law_things"]) fun _ _ _ _ _ _ us hl => match us, hl with | [_, _], _ => rfl⟩
theorem at__law_parts {h : Heap} {f : Addr} {od an : Option Addr} {sl : Array (Option Value)} {oc kV dc pm cd ct : Value} (X : K.In h) (G : h.Ns mainGlobals mg) (a : PySem.W.nsIn K mainGlobals "_law_parts" = some (some (.ref f)))
    (l : K.lookup f = some ⟨oc, od, .func (PySem.W.fnOf "_law_parts" "_law_parts" (defArgs (txt 67)) (defBody (txt 67)) (defScope (txt 67)) .none kV dc pm an cd ct), sl⟩) (c : PySem.W.codeIn K cd "_law_parts" = true) (k : PySem.W.keepIn K (.ref f) = true) : FunAt K mg "_law_parts" (txt 67) [] :=
  ⟨f, _, fun_mk (st := txt 67) l c k, PySem.W.mg_of X G a, (fun_mk (st := txt 67) l c k).binds (ps := []) fun _ _ _ _ _ _ us hl => match us, hl with | [], _ => rfl⟩
theorem at__law_words {h : Heap} {f : Addr} {od an : Option Addr} {sl : Array (Option Value)} {oc kV dc pm cd ct : Value} (X : K.In h) (G : h.Ns mainGlobals mg) (a : PySem.W.nsIn K mainGlobals "_law_words" = some (some (.ref f)))
    (l : K.lookup f = some ⟨oc, od, .func (PySem.W.fnOf "_law_words" "_law_words" (defArgs (txt 68)) (defBody (txt 68)) (defScope (txt 68)) .none kV dc pm an cd ct), sl⟩) (c : PySem.W.codeIn K cd "_law_words" = true) (k : PySem.W.keepIn K (.ref f) = true) : FunAt K mg "_law_words" (txt 68) ["_law_h"] :=
  ⟨f, _, fun_mk (st := txt 68) l c k, PySem.W.mg_of X G a, (fun_mk (st := txt 68) l c k).binds (ps := ["_law_h"]) fun _ _ _ _ _ _ us hl => match us, hl with | [_], _ => rfl⟩
theorem at__law_built {h : Heap} {f : Addr} {od an : Option Addr} {sl : Array (Option Value)} {oc kV dc pm cd ct : Value} (X : K.In h) (G : h.Ns mainGlobals mg) (a : PySem.W.nsIn K mainGlobals "_law_built" = some (some (.ref f)))
    (l : K.lookup f = some ⟨oc, od, .func (PySem.W.fnOf "_law_built" "_law_built" (defArgs (txt 69)) (defBody (txt 69)) (defScope (txt 69)) .none kV dc pm an cd ct), sl⟩) (c : PySem.W.codeIn K cd "_law_built" = true) (k : PySem.W.keepIn K (.ref f) = true) : FunAt K mg "_law_built" (txt 69) ["_law_words_here"] :=
  ⟨f, _, fun_mk (st := txt 69) l c k, PySem.W.mg_of X G a, (fun_mk (st := txt 69) l c k).binds (ps := ["_law_words_here"]) fun _ _ _ _ _ _ us hl => match us, hl with | [_], _ => rfl⟩
theorem at__law_deeds {h : Heap} {f : Addr} {od an : Option Addr} {sl : Array (Option Value)} {oc kV dc pm cd ct : Value} (X : K.In h) (G : h.Ns mainGlobals mg) (a : PySem.W.nsIn K mainGlobals "_law_deeds" = some (some (.ref f)))
    (l : K.lookup f = some ⟨oc, od, .func (PySem.W.fnOf "_law_deeds" "_law_deeds" (defArgs (txt 70)) (defBody (txt 70)) (defScope (txt 70)) .none kV dc pm an cd ct), sl⟩) (c : PySem.W.codeIn K cd "_law_deeds" = true) (k : PySem.W.keepIn K (.ref f) = true) : FunAt K mg "_law_deeds" (txt 70) ["_law_top"] :=
  ⟨f, _, fun_mk (st := txt 70) l c k, PySem.W.mg_of X G a, (fun_mk (st := txt 70) l c k).binds (ps := ["_law_top"]) fun _ _ _ _ _ _ us hl => match us, hl with | [_], _ => rfl⟩
theorem at__law_other {h : Heap} {f : Addr} {od an : Option Addr} {sl : Array (Option Value)} {oc kV dc pm cd ct : Value} (X : K.In h) (G : h.Ns mainGlobals mg) (a : PySem.W.nsIn K mainGlobals "_law_other" = some (some (.ref f)))
    (l : K.lookup f = some ⟨oc, od, .func (PySem.W.fnOf "_law_other" "_law_other" (defArgs (txt 71)) (defBody (txt 71)) (defScope (txt 71)) .none kV dc pm an cd ct), sl⟩) (c : PySem.W.codeIn K cd "_law_other" = true) (k : PySem.W.keepIn K (.ref f) = true) : FunAt K mg "_law_other" (txt 71) ["_law_deed"] :=
  ⟨f, _, fun_mk (st := txt 71) l c k, PySem.W.mg_of X G a, (fun_mk (st := txt 71) l c k).binds (ps := ["_law_deed"]) fun _ _ _ _ _ _ us hl => match us, hl with | [_], _ => rfl⟩
theorem at__law_alike {h : Heap} {f : Addr} {od an : Option Addr} {sl : Array (Option Value)} {oc kV dc pm cd ct : Value} (X : K.In h) (G : h.Ns mainGlobals mg) (a : PySem.W.nsIn K mainGlobals "_law_alike" = some (some (.ref f)))
    (l : K.lookup f = some ⟨oc, od, .func (PySem.W.fnOf "_law_alike" "_law_alike" (defArgs (txt 65)) (defBody (txt 65)) (defScope (txt 65)) .none kV dc pm an cd ct), sl⟩) (c : PySem.W.codeIn K cd "_law_alike" = true) (k : PySem.W.keepIn K (.ref f) = true) : FunAt K mg "_law_alike" (txt 65) ["_law_found", "_law_due"] :=
  ⟨f, _, fun_mk (st := txt 65) l c k, PySem.W.mg_of X G a, (fun_mk (st := txt 65) l c k).binds (ps := ["_law_found", "_law_due"]) fun _ _ _ _ _ _ us hl => match us, hl with | [_, _], _ => rfl⟩
theorem at_faults {h : Heap} {f : Addr} {od an : Option Addr} {sl : Array (Option Value)} {oc kV dc pm cd ct : Value} (X : K.In h) (G : h.Ns mainGlobals mg) (a : PySem.W.nsIn K mainGlobals "faults" = some (some (.ref f)))
    (l : K.lookup f = some ⟨oc, od, .func (PySem.W.fnOf "faults" "faults" (defArgs (txt 51)) (defBody (txt 51)) (defScope (txt 51)) .none kV dc pm an cd ct), sl⟩) (c : PySem.W.codeIn K cd "faults" = true) (k : PySem.W.keepIn K (.ref f) = true) : FunAt K mg "faults" (txt 51) ["rule"] :=
  ⟨f, _, fun_mk (st := txt 51) l c k, PySem.W.mg_of X G a, (fun_mk (st := txt 51) l c k).binds (ps := ["rule"]) fun _ _ _ _ _ _ us hl => match us, hl with | [_], _ => rfl⟩
theorem at_law {h : Heap} {f : Addr} {od an : Option Addr} {sl : Array (Option Value)} {oc kV dc pm cd ct : Value} (X : K.In h) (G : h.Ns mainGlobals mg) (a : PySem.W.nsIn K mainGlobals "law" = some (some (.ref f)))
    (l : K.lookup f = some ⟨oc, od, .func (PySem.W.fnOf "law" "law" (defArgs (txt 72)) (defBody (txt 72)) (defScope (txt 72)) .none kV dc pm an cd ct), sl⟩) (c : PySem.W.codeIn K cd "law" = true) (k : PySem.W.keepIn K (.ref f) = true) : FunAt K mg "law" (txt 72) ["_law_script"] :=
  ⟨f, _, fun_mk (st := txt 72) l c k, PySem.W.mg_of X G a, (fun_mk (st := txt 72) l c k).binds (ps := ["_law_script"]) fun _ _ _ _ _ _ us hl => match us, hl with | [_], _ => rfl⟩
end
end K14
end
section
set_option Elab.async false
set_option linter.all false
set_option maxRecDepth 100000
/-! The end: the law's own call where no repr is under way; constants that the top has left. -/
namespace K14
open PySem PySem.Spec PyProof.Rows L2
/-- only the script may be tracked -/
def scH (a : Addr) (t : Option HO) : Hp := fun b => if b = a then t else none
theorem scH_ne {a b : Addr} {t : Option HO} (n : b ≠ a) : scH a t b = none := if_neg n
theorem scH_at {a : Addr} {t : Option HO} : scH a t a = t := if_pos rfl
theorem scH_no {a b : Addr} : scH a none b = none := by unfold scH; split <;> rfl
section
variable {P : Program} {w : World} {K : PySem.W.Frag} {mg mb : Str → Option Value} {k : Nat} {fa a : Addr} {x nm : Str} {sp : Sp} {s1 : Shared} {its : Array Value} {t : Option HO}
theorem scH_free {o : Obj} {b : Addr} (ha : s1.heap.get? a = some { cls := .type "list", data := .seq its }) (e : s1.heap.get? b = some o) (h : ∀ n, o.data ≠ .seq its n) : scH a t b = none :=
  scH_ne fun z => by
    rw [z, ha] at e
    cases e
    exact h _ rfl
theorem enter_law (KX : K.In s1.heap) (hns : s1.heap.Ns mainGlobals mg) (hb : s1.heap.Ns builtinsNs mb) (hbb : ∀ x : Str, x ≠ "__name__" → mb x = bootBuiltins x) (hlim : s1.heap.NoLimit) (hg : s1.gens = #[])
    (ha : s1.heap.get? a = some { cls := .type "list", data := .seq its }) (hr : Room k callerA) (F : ∀ base : Heap, K.In base → base.Ns mainGlobals mg → DfG P w K mg base nm [x] k sp) (hm : mg nm = some (.ref fa))
    (ht : t = none ∨ (K.lookup a = none ∧ ∃ o xs, t = some (.frz o (.lst xs)))) (hok : HOk P w (scH a t) s1.heap) (hsp : sp [.ref a] (scH a t) (fun v _ => v = .bl true) fun _ _ _ => False) :
    codeAny (model P w) callerA (.call (.ref fa) ⟨[.ref a], []⟩) (fun r s' => r = .ok (.ret (.bool true)) ∧ OldK s1.heap s'.heap ∧ s'.os = s1.os ∧ AllBare s'.gens) s1 := by
  have ns : ∀ {b : Addr} {m : Str → Option Value}, s1.heap.Ns b m → (hidT s1.heap (scH a t)).Ns b m := fun ⟨o, es, ep, e, d, r⟩ => ⟨o, es, ep, hidT_get e (scH_free ha e fun n z => by rw [d] at z; cases z), d, r⟩
  have kin : K.In (hidT s1.heap (scH a t)) := fun b o e => hidT_get (KX b o e) (by
    rcases ht with rfl | ⟨n, _⟩
    · exact scH_no
    · exact scH_ne fun z => by rw [z, n] at e; cases e)
  obtain ⟨mc, hc1, hc2⟩ := hlim
  have md : Mod K mg (hidT s1.heap (scH a t)) := { kin := kin, glob := ns hns, blt := ⟨mb, ns hb, hbb⟩, nolimit := ⟨mc, ns hc1, hc2⟩ }
  have e0 : Env0 P w K mg (hidT s1.heap (scH a t)) callerA [] s1 (scH a t) :=
    { frames := rfl, mod := md, bs := fun b o e => of_hidT e, bsz := Nat.le_of_eq (hidT_size _ _), funs := trivial, frf := fun b hb => absurd (show b ∈ ([] : List Addr) from hb) (by simp), hok := hok, bare := .of_eq hg }
  obtain ⟨f, fd, FG, hf, _, hbd⟩ := F _ kin (ns hns)
  rw [hm] at hf
  cases hf
  have hb2 := hbd s1 [.ref a] KX rfl
  rw [List.append_nil] at hb2
  have run := FG.run callerA [] s1 (scH a t) ⟨[.ref a], []⟩ [.ref a] [.ref a] (fun v _ => v = .bl true) (fun _ _ _ => False) hr rfl e0 hb2 (.cons rfl .nil) hsp
  refine codeAny_mono run fun r s' h => ?_
  match r, h with
  | .error e, h => exact False.elim h
  | .ok .next, h => exact False.elim h
  | .ok .brk, h => exact False.elim h
  | .ok .cont, h => exact False.elim h
  | .ok (.ret u), h =>
    obtain ⟨v, H', os, bare, un, ok2, rv, ev⟩ := h
    have ev : v = .bl true := ev
    rw [ev] at rv
    obtain rfl : u = Value.bool true := rv
    refine ⟨rfl, .of_keep fun b o e => ?_, os, bare⟩
    have keep : scH a t b = none → s'.heap.get? b = some o := fun q => un.keep b o e q (fun z => absurd (show b ∈ ([] : List Addr) from z) (by simp)) (by simp)
    by_cases hba : b = a
    · rcases ht with rfl | ⟨_, ob, xs, rfl⟩
      · exact keep scH_no
      · have q1 : scH a (some (.frz ob (.lst xs))) b = some (.frz ob (.lst xs)) := by rw [hba]; exact scH_at
        have e1 := (hok b _ q1).1
        have e2 := (ok2 b _ (un.frzs b ob _ q1)).1
        rw [e] at e1
        cases e1
        exact e2
    · exact keep (scH_ne hba)
theorem vals_of {vs : List Value} {ns : List Int} (h : IntsAre vs ns) : Vals (ns.map V.int) vs := by
  induction h with
  | nil => exact .nil
  | cons n t _ ih => exact .cons ⟨t, rfl⟩ ih
end
/-- the law's row, from the law's promise -/
theorem walkG {l : PySem.W.OpenLaw} {n k : Nat} {q : Program} {loose : List Str} {XP : (Str → Option Value) → Heap → Prop} {YP : World → Heap → Prop} {d : DefRec} {K : Params → PySem.W.Frag} {x : Str} {sp : PySem.W.Frag → Sp}
    (hn : l.most = some n) (hn2 : n ≤ sizeLine) (hdf : d.params.defaults = []) (hr : Room k callerA) (hY : ∀ (w : World) (h : Heap), YP w h → (K w.params).In h)
    (F : ∀ (w : World) (mg : Str → Option Value) (fa : Addr) (h : Heap), (K w.params).In h → h.Ns mainGlobals mg → mg d.name = some (.ref fa) →
      ∀ base : Heap, (K w.params).In base → base.Ns mainGlobals mg → DfG l.prog w (K w.params) mg base d.name [x] k (sp (K w.params)))
    (hsp : ∀ (K : PySem.W.Frag) (H : Hp) (a : Addr) (ns : List Int), ns.length ≤ n → SqL K H a (ns.map V.int) → sp K [.ref a] H (fun v _ => v = .bl true) fun _ _ _ => False) :
    PySem.W.WalkO q loose XP YP l.row.toRowW d [] (fun f vs => PySem.call f vs) := by
  refine Att.attach_call hn hdf fun w s0 s1 mg mb fa o pm cd doc a vs ns G Y ho hd hcd hmg hobj hints hlen hg => ?_
  have KX := hY w _ Y
  have hF := F w mg fa _ KX G.T.g hmg
  have rv := vals_of hints
  have lv : vs.length = ns.length := hints.length
  have hz : ns.length ≤ sizeLine := Nat.le_trans hlen hn2
  have go : ∀ t : Option HO, (t = none ∨ ((K w.params).lookup a = none ∧ ∃ o xs, t = some (.frz o (.lst xs)))) → HOk l.prog w (scH a t) s1.heap → SqL (K w.params) (scH a t) a (ns.map V.int) →
      codeAny (model l.prog w) callerA (.call (.ref fa) ⟨[.ref a], []⟩) (fun r s' => r = .ok (.ret (.bool true)) ∧ OldK s1.heap s'.heap ∧ s'.os = s1.os ∧ AllBare s'.gens) s1 :=
    fun t h1 h2 h3 => enter_law KX G.T.g G.T.b G.T.builtins G.T.nolimit hg hobj hr hF hmg h1 h2 (hsp _ _ a ns hlen h3)
  cases hk : (K w.params).lookup a with
  | some ob =>
    have e := KX a ob hk
    rw [hobj] at e
    cases e
    exact go none (.inl rfl) (fun b u z => by rw [scH_no] at z; cases z) (.inr ⟨_, vs.toArray, _, hk, rfl, rfl, rfl, by rw [List.size_toArray, lv]; exact hz, by simpa using rv⟩)
  | none =>
    refine go (some (.frz { cls := .type "list", data := .seq vs.toArray } (.lst (ns.map V.int)))) (.inr ⟨hk, _, _, rfl⟩) (fun b u z => ?_) (.inl (.inr ⟨_, scH_at⟩))
    by_cases hba : b = a
    · subst hba
      rw [scH_at] at z
      cases z
      exact ⟨hobj, by rw [List.length_map]; exact hz, vs, _, rv, hobj⟩
    · rw [scH_ne hba] at z
      cases z
/-! ### constants -/
section
variable {w : World} {K : PySem.W.Frag} {mg : Str → Option Value} {h : Heap}
theorem sqT_k {t : Addr} {od : Option Addr} {arr : Array Value} {n : Nat} {sl : Array (Option Value)} {xs : List V} (l : K.lookup t = some ⟨.type "tuple", od, .seq arr n, sl⟩) (hz : arr.size ≤ sizeLine) (v : Vals xs arr.toList) : ∀ H, SqT K H t xs :=
  fun H => .inr ⟨_, arr, n, l, rfl, rfl, hz, v⟩
theorem units_k {p : Addr} {es : Array DictEntry} {n : Nat} {t1 t2 : Tok} (X : K.In h) (G : h.Ns mainGlobals mg) (a : PySem.W.nsIn K mainGlobals "UNITS" = some (some (.ref p))) (l : K.lookup p = some ⟨.type "dict", none, .dict es n, #[]⟩)
    (kl : PySem.W.KeysLit w.params es.toList) (u1 : PySem.W.nsIn K p "half" = some (some (.int 2 t1))) (u2 : PySem.W.nsIn K p "whole" = some (some (.int 1 t2))) :
    ∃ p, mg "UNITS" = some (.ref p) ∧ KDct K w p "half" (.int 2) ∧ KDct K w p "whole" (.int 1) :=
  ⟨p, PySem.W.mg_of X G a, ⟨es, n, _, l, kl, u1, ⟨_, rfl⟩⟩, ⟨es, n, _, l, kl, u2, ⟨_, rfl⟩⟩⟩
theorem text_k {x y : Str} {t : Tok} (X : K.In h) (G : h.Ns mainGlobals mg) (a : PySem.W.nsIn K mainGlobals x = some (some (.str y t))) : ∃ t, mg x = some (.str y t) := ⟨t, PySem.W.mg_of X G a⟩
theorem tup_k {x : Str} {t : Addr} {xs : List V} (X : K.In h) (G : h.Ns mainGlobals mg) (a : PySem.W.nsIn K mainGlobals x = some (some (.ref t))) (s : ∀ H, SqT K H t xs) : ∃ t, mg x = some (.ref t) ∧ ∀ H, SqT K H t xs := ⟨t, PySem.W.mg_of X G a, s⟩
theorem parts_k {p t1 t2 t3 t4 t5 t6 t7 : Addr} {es : Array DictEntry} {n : Nat} (X : K.In h) (G : h.Ns mainGlobals mg) (a : PySem.W.nsIn K mainGlobals "PARTS" = some (some (.ref p))) (l : K.lookup p = some ⟨.type "dict", none, .dict es n, #[]⟩)
    (kl : PySem.W.KeysLit w.params es.toList) (low : (p == sysModules) = false) (pr : Paired (fun (k : Str) (e : DictEntry) => ∃ t, e.key = .str k t) pks es.toList)
    (u1 : PySem.W.nsIn K p "top" = some (some (.ref t1))) (u2 : PySem.W.nsIn K p "measure" = some (some (.ref t2))) (u3 : PySem.W.nsIn K p "cut" = some (some (.ref t3))) (u4 : PySem.W.nsIn K p "least" = some (some (.ref t4)))
    (u5 : PySem.W.nsIn K p "ages" = some (some (.ref t5))) (u6 : PySem.W.nsIn K p "struck" = some (some (.ref t6))) (u7 : PySem.W.nsIn K p "keeping" = some (some (.ref t7)))
    (s1 : ∀ H, SqT K H t1 [.int 2, .int 3]) (s2 : ∀ H, SqT K H t2 [.str "mean", .str "best", .str "count"]) (s3 : ∀ H, SqT K H t3 [.str "exact", .str "half", .str "whole"]) (s4 : ∀ H, SqT K H t4 [.int 1, .int 2])
    (s5 : ∀ H, SqT K H t5 [.str "same", .str "less"]) (s6 : ∀ H, SqT K H t6 [.str "gone", .str "stay"]) (s7 : ∀ H, SqT K H t7 [.str "anew", .str "shown"]) :
    ∃ p, mg "PARTS" = some (.ref p) ∧ KKeys K w p pks ∧ (∀ k xs, (k, xs) ∈ pws → (∃ t, KDct K w p k (.ref t) ∧ ∀ H, SqT K H t xs) ∧ ∃ u, PySem.W.nsIn K p k = some (some u)) := by
  refine ⟨p, PySem.W.mg_of X G a, ⟨es, n, ⟨l, kl, low⟩, pr⟩, fun k xs hm => ?_⟩
  have one : ∀ {k : Str} {t : Addr} {xs : List V}, PySem.W.nsIn K p k = some (some (.ref t)) → (∀ H, SqT K H t xs) → (∃ t, KDct K w p k (.ref t) ∧ ∀ H, SqT K H t xs) ∧ ∃ u, PySem.W.nsIn K p k = some (some u) :=
    fun {k t xs} u s => ⟨⟨t, ⟨es, n, _, l, kl, u, rfl⟩, s⟩, _, u⟩
  simp only [pws, List.mem_cons, List.not_mem_nil, or_false, Prod.mk.injEq] at hm
  rcases hm with ⟨rfl, rfl⟩ | ⟨rfl, rfl⟩ | ⟨rfl, rfl⟩ | ⟨rfl, rfl⟩ | ⟨rfl, rfl⟩ | ⟨rfl, rfl⟩ | ⟨rfl, rfl⟩
  · exact one u1 s1
  · exact one u2 s2
  · exact one u3 s3
  · exact one u4 s4
  · exact one u5 s5
  · exact one u6 s6
  · exact one u7 s7
/-- the law's promise from what the top has left -/
theorem law_of {l : Program} {CR CS : Addr} {base : Heap} (aR : PySem.W.nsIn K mainGlobals "Rule" = some (some (.ref CR))) (aS : PySem.W.nsIn K mainGlobals "Standing" = some (some (.ref CS))) (T : Txt K w mg CR CS) (T2 : Txt2 K w mg) (T3 : Txt3 K w mg) (F : Funs K mg CR CS) :
    DfG l w K mg base "law" ["_law_script"] 11 (spLaw K) := all_df T T2 T3 F
end
end K14
end
section
set_option Elab.async false
set_option maxRecDepth 100000
open PySem PySem.W PyProof.Rows
set_option maxHeartbeats 0
open_top Ms_head for PySem.Challenge.rw_meanshown_k14_whole_what_always_holds
end
section
set_option Elab.async false
set_option linter.all false
set_option maxRecDepth 100000
open PySem PySem.W PyProof.Rows
set_option maxHeartbeats 0 in
theorem PySem.Challenge.cw_meanshown_k14_whole_what_always_holds_holds : PySem.Challenge.rw_meanshown_k14_whole_what_always_holds.Holds := by
  refine Ms_head ?_
  k_fill
  refine K14.walkG (l := PySem.Challenge.rw_meanshown_k14_whole_what_always_holds) (n := 63) (k := 11) (x := "_law_script") (sp := fun K => K14.spLaw K) rfl (by decide) rfl ⟨rfl, by decide, by decide⟩ (fun w h Y => PySem.W.kIn_of Y) ?F (fun K H a ns hl hS => ⟨a, ns, rfl, hS, hl, fun _ => rfl⟩)
  case F =>
    intro w mg fa h KX G hmg base _ _
    clear hmg
    refine' K14.law_of (l := PySem.Challenge.rw_meanshown_k14_whole_what_always_holds.prog) ?aR ?aS ?T ?T2 ?T3 ?F
    (case aR => k_is)
    (case aS => k_is)
    case T =>
      refine' ⟨⟨?r1, ?r2, ?r3, ?r4⟩, ?r5, ⟨?s1, ?s2, ?s3, ?s4⟩, ?s5, ?s6, PySem.W.mg_of KX G ?m1, PySem.W.mg_of KX G ?m2, K14.units_k KX G ?u1 ?u2 ?u3 ?u4 ?u5, K14.text_k KX G ?x1, K14.text_k KX G ?x2, PySem.W.mg_none_of KX G ?z1, PySem.W.mg_none_of KX G ?z2, PySem.W.mg_none_of KX G ?z3, PySem.W.mg_none_of KX G ?z4, PySem.W.mg_none_of KX G ?z5, PySem.W.mg_none_of KX G ?z6, PySem.W.mg_none_of KX G ?z7, PySem.W.mg_none_of KX G ?z8, PySem.W.mg_none_of KX G ?z9, PySem.W.mg_none_of KX G ?z10, PySem.W.mg_none_of KX G ?z11, PySem.W.mg_none_of KX G ?z12, PySem.W.mg_none_of KX G ?z13, PySem.W.mg_none_of KX G ?z14, PySem.W.mg_none_of KX G ?z15⟩
      (case r1 => k_is)
      (case r2 => k_is)
      (case r3 => k_is)
      (case r4 => k_is)
      (case r5 => (unfold L2.NoAttr; k_is))
      (case s1 => k_is)
      (case s2 => k_is)
      (case s3 => k_is)
      (case s4 => k_is)
      (case s5 => (unfold L2.NoAttr; k_is))
      (case s6 => (unfold L2.NoAttr; k_is))
      (case m1 => k_is)
      (case m2 => k_is)
      (case u1 => k_is)
      (case u2 => k_is)
      (case u3 => exact ⟨⟨_, _, rfl, rfl⟩, ⟨_, _, rfl, rfl⟩, trivial⟩)
      (case u4 => k_is)
      (case u5 => k_is)
      (case x1 => k_is)
      (case x2 => k_is)
      (case z1 => k_is)
      (case z2 => k_is)
      (case z3 => k_is)
      (case z4 => k_is)
      (case z5 => k_is)
      (case z6 => k_is)
      (case z7 => k_is)
      (case z8 => k_is)
      (case z9 => k_is)
      (case z10 => k_is)
      (case z11 => k_is)
      (case z12 => k_is)
      (case z13 => k_is)
      (case z14 => k_is)
      (case z15 => k_is)
    case T2 =>
      refine' ⟨K14.tup_k KX G ?a1 (K14.sqT_k ?al ?az ?av), K14.tup_k KX G ?b1 (K14.sqT_k ?bl ?bz ?bv)⟩
      (case a1 => k_is)
      (case al => k_is)
      (case az => exact (by show 2 ≤ sizeLine; decide))
      (case av => exact .cons ⟨_, rfl⟩ (.cons ⟨_, rfl⟩ .nil))
      (case b1 => k_is)
      (case bl => k_is)
      (case bz => exact (by show 3 ≤ sizeLine; decide))
      (case bv => exact .cons ⟨_, rfl⟩ (.cons ⟨_, rfl⟩ (.cons ⟨_, rfl⟩ .nil)))
    case T3 =>
      refine' ⟨K14.parts_k KX G ?a ?l ?kl ?low ?pr ?u1 ?u2 ?u3 ?u4 ?u5 ?u6 ?u7 (K14.sqT_k ?c1l ?c1z ?c1v) (K14.sqT_k ?c2l ?c2z ?c2v) (K14.sqT_k ?c3l ?c3z ?c3v) (K14.sqT_k ?c4l ?c4z ?c4v) (K14.sqT_k ?c5l ?c5z ?c5v) (K14.sqT_k ?c6l ?c6z ?c6v) (K14.sqT_k ?c7l ?c7z ?c7v), K14.tup_k KX G ?d1 (K14.sqT_k ?dl ?dz ?dv)⟩
      (case a => k_is)
      (case l => k_is)
      (case kl => exact ⟨⟨_, _, rfl, rfl⟩, ⟨_, _, rfl, rfl⟩, ⟨_, _, rfl, rfl⟩, ⟨_, _, rfl, rfl⟩, ⟨_, _, rfl, rfl⟩, ⟨_, _, rfl, rfl⟩, ⟨_, _, rfl, rfl⟩, trivial⟩)
      (case low => exact (by decide +kernel))
      (case pr => exact .cons ⟨_, rfl⟩ (.cons ⟨_, rfl⟩ (.cons ⟨_, rfl⟩ (.cons ⟨_, rfl⟩ (.cons ⟨_, rfl⟩ (.cons ⟨_, rfl⟩ (.cons ⟨_, rfl⟩ .nil)))))))
      (case u1 => k_is)
      (case u2 => k_is)
      (case u3 => k_is)
      (case u4 => k_is)
      (case u5 => k_is)
      (case u6 => k_is)
      (case u7 => k_is)
      (case c1l => k_is)
      (case c1z => exact (by show 2 ≤ sizeLine; decide))
      (case c1v => exact .cons ⟨_, rfl⟩ (.cons ⟨_, rfl⟩ .nil))
      (case c2l => k_is)
      (case c2z => exact (by show 3 ≤ sizeLine; decide))
      (case c2v => exact .cons ⟨_, rfl⟩ (.cons ⟨_, rfl⟩ (.cons ⟨_, rfl⟩ .nil)))
      (case c3l => k_is)
      (case c3z => exact (by show 3 ≤ sizeLine; decide))
      (case c3v => exact .cons ⟨_, rfl⟩ (.cons ⟨_, rfl⟩ (.cons ⟨_, rfl⟩ .nil)))
      (case c4l => k_is)
      (case c4z => exact (by show 2 ≤ sizeLine; decide))
      (case c4v => exact .cons ⟨_, rfl⟩ (.cons ⟨_, rfl⟩ .nil))
      (case c5l => k_is)
      (case c5z => exact (by show 2 ≤ sizeLine; decide))
      (case c5v => exact .cons ⟨_, rfl⟩ (.cons ⟨_, rfl⟩ .nil))
      (case c6l => k_is)
      (case c6z => exact (by show 2 ≤ sizeLine; decide))
      (case c6v => exact .cons ⟨_, rfl⟩ (.cons ⟨_, rfl⟩ .nil))
      (case c7l => k_is)
      (case c7z => exact (by show 2 ≤ sizeLine; decide))
      (case c7v => exact .cons ⟨_, rfl⟩ (.cons ⟨_, rfl⟩ .nil))
      (case d1 => k_is)
      (case dl => k_is)
      (case dz => exact (by show 2 ≤ sizeLine; decide))
      (case dv => exact .cons ⟨_, rfl⟩ (.cons ⟨_, rfl⟩ .nil))
    case F =>
      refine' ⟨?g0, ?g1, ?g2, ?g3, ?g4, ?g5, ?g6, ?g7, ?g8, ?g9, ?g10, ?g11, ?g12, ?g13, ?g14, ?g15, ?g16, ?g17, ?g18, ?g19, ?g20, ?g21, ?g22, ?g23, ?g24, ?g25, ?g26, ?g27, ?g28, ?g29, ?g30, ?g31, ?g32, ?g33, ?g34, ?g35, ?g36, ?g37, ?g38, ?g39, ?g40, ?g41, ?g42, ?g43, ?g44, ?g45, ?g46, ?g47, ?g48, ?g49, ?g50, ?g51, ?g52, ?g53⟩
      case g0 =>
        refine' K14.at_common_part KX G ?a ?l ?c ?k
        (case a => k_is); (case l => k_is); (case c => k_is); (case k => k_is)
      case g1 =>
        refine' K14.at_number_of KX G ?a ?l ?c ?k
        (case a => k_is); (case l => k_is); (case c => k_is); (case k => k_is)
      case g2 =>
        refine' K14.at_cut_down KX G ?a ?l ?c ?k
        (case a => k_is); (case l => k_is); (case c => k_is); (case k => k_is)
      case g3 =>
        refine' K14.at_weight_of KX G ?a ?l ?c ?k
        (case a => k_is); (case l => k_is); (case c => k_is); (case k => k_is)
      case g4 =>
        refine' K14.at_mean_of KX G ?a ?l ?c ?k
        (case a => k_is); (case l => k_is); (case c => k_is); (case k => k_is)
      case g5 =>
        refine' K14.at_number_for KX G ?a ?l ?c ?k
        (case a => k_is); (case l => k_is); (case c => k_is); (case k => k_is)
      case g6 =>
        refine' K14.at_bounded KX G ?a ?l ?c ?k
        (case a => k_is); (case l => k_is); (case c => k_is); (case k => k_is)
      case g7 =>
        refine' K14.at_worked_on KX G ?a ?l ?c ?k
        (case a => k_is); (case l => k_is); (case c => k_is); (case k => k_is)
      case g8 =>
        refine' K14.at_fault_of KX G ?a ?l ?c ?k
        (case a => k_is); (case l => k_is); (case c => k_is); (case k => k_is)
      case g9 =>
        refine' K14.at_counted_rows KX G ?a ?l ?c ?k
        (case a => k_is); (case l => k_is); (case c => k_is); (case k => k_is)
      case g10 =>
        refine' K14.at_shown_by KX G ?a ?l ?c ?k
        (case a => k_is); (case l => k_is); (case c => k_is); (case k => k_is)
      case g11 =>
        refine' K14.at_due_by KX G ?a ?l ?c ?k
        (case a => k_is); (case l => k_is); (case c => k_is); (case k => k_is)
      case g12 =>
        refine' K14.at_wrong_by KX G ?a ?l ?c ?k
        (case a => k_is); (case l => k_is); (case c => k_is); (case k => k_is)
      case g13 =>
        refine' K14.at_kept_by KX G ?a ?l ?c ?k
        (case a => k_is); (case l => k_is); (case c => k_is); (case k => k_is)
      case g14 =>
        refine' K14.at_is_struck KX G ?a ?l ?c ?k
        (case a => k_is); (case l => k_is); (case c => k_is); (case k => k_is)
      case g15 =>
        refine' K14.at_mark_of KX G ?a ?l ?c ?k
        (case a => k_is); (case l => k_is); (case c => k_is); (case k => k_is)
      case g16 =>
        refine' K14.at_Standing___init__ KX G ?aC ?mk ?kC ?a ?i ?l ?c ?k
        (case aC => k_is); (case mk => k_is); (case kC => k_is); (case a => k_is); (case i => k_is); (case l => k_is); (case c => k_is); (case k => k_is)
      case g17 =>
        refine' K14.at_without KX G ?a ?l ?c ?k
        (case a => k_is); (case l => k_is); (case c => k_is); (case k => k_is)
      case g18 =>
        refine' K14.at_marked KX G ?a ?l ?c ?k
        (case a => k_is); (case l => k_is); (case c => k_is); (case k => k_is)
      case g19 =>
        refine' K14.at_taken_back KX G ?a ?l ?c ?k
        (case a => k_is); (case l => k_is); (case c => k_is); (case k => k_is)
      case g20 =>
        refine' K14.at_struck_one KX G ?a ?l ?c ?k
        (case a => k_is); (case l => k_is); (case c => k_is); (case k => k_is)
      case g21 =>
        refine' K14.at_behind_night KX G ?a ?l ?c ?k
        (case a => k_is); (case l => k_is); (case c => k_is); (case k => k_is)
      case g22 =>
        refine' K14.at_done KX G ?a ?l ?c ?k
        (case a => k_is); (case l => k_is); (case c => k_is); (case k => k_is)
      case g23 =>
        refine' K14.at_first_standing KX G ?a ?l ?c ?k
        (case a => k_is); (case l => k_is); (case c => k_is); (case k => k_is)
      case g24 =>
        refine' K14.at_key_of KX G ?a ?l ?c ?k
        (case a => k_is); (case l => k_is); (case c => k_is); (case k => k_is)
      case g25 =>
        refine' K14.at_deeds_of KX G ?a ?l ?c ?k
        (case a => k_is); (case l => k_is); (case c => k_is); (case k => k_is)
      case g26 =>
        refine' K14.at_walked KX G ?a ?l ?c ?k
        (case a => k_is); (case l => k_is); (case c => k_is); (case k => k_is)
      case g27 =>
        refine' K14.at_first_parting KX G ?a ?l ?c ?k
        (case a => k_is); (case l => k_is); (case c => k_is); (case k => k_is)
      case g28 =>
        refine' K14.at_parting KX G ?a ?l ?c ?k
        (case a => k_is); (case l => k_is); (case c => k_is); (case k => k_is)
      case g29 =>
        refine' K14.at_alike KX G ?a ?l ?c ?k
        (case a => k_is); (case l => k_is); (case c => k_is); (case k => k_is)
      case g30 =>
        refine' K14.at_is_integer KX G ?a ?l ?c ?k
        (case a => k_is); (case l => k_is); (case c => k_is); (case k => k_is)
      case g31 =>
        refine' K14.at_is_word KX G ?a ?l ?c ?k
        (case a => k_is); (case l => k_is); (case c => k_is); (case k => k_is)
      case g32 =>
        refine' K14.at_Rule___init__ KX G ?aC ?mk ?kC ?a ?i ?l ?c ?k
        (case aC => k_is); (case mk => k_is); (case kC => k_is); (case a => k_is); (case i => k_is); (case l => k_is); (case c => k_is); (case k => k_is)
      case g33 =>
        refine' K14.at_rule_of KX G ?a ?l ?c ?k
        (case a => k_is); (case l => k_is); (case c => k_is); (case k => k_is)
      case g34 =>
        refine' K14.at_Rule_changed ?a ?i ?l ?c ?k
        (case a => k_is); (case i => k_is); (case l => k_is); (case c => k_is); (case k => k_is)
      case g35 =>
        refine' K14.at_is_deed KX G ?a ?l ?c ?k
        (case a => k_is); (case l => k_is); (case c => k_is); (case k => k_is)
      case g36 =>
        refine' K14.at_shown_behind KX G ?a ?l ?c ?k
        (case a => k_is); (case l => k_is); (case c => k_is); (case k => k_is)
      case g37 =>
        refine' K14.at_seen_of KX G ?a ?l ?c ?k
        (case a => k_is); (case l => k_is); (case c => k_is); (case k => k_is)
      case g38 =>
        refine' K14.at_known_mark KX G ?a ?l ?c ?k
        (case a => k_is); (case l => k_is); (case c => k_is); (case k => k_is)
      case g39 =>
        refine' K14.at_told_person KX G ?a ?l ?c ?k
        (case a => k_is); (case l => k_is); (case c => k_is); (case k => k_is)
      case g40 =>
        refine' K14.at_behind_seen KX G ?a ?l ?c ?k
        (case a => k_is); (case l => k_is); (case c => k_is); (case k => k_is)
      case g41 =>
        refine' K14.at_telling_of KX G ?a ?l ?c ?k
        (case a => k_is); (case l => k_is); (case c => k_is); (case k => k_is)
      case g42 =>
        refine' K14.at_telling KX G ?a ?l ?c ?k
        (case a => k_is); (case l => k_is); (case c => k_is); (case k => k_is)
      case g43 =>
        refine' K14.at__law_mix KX G ?a ?l ?c ?k
        (case a => k_is); (case l => k_is); (case c => k_is); (case k => k_is)
      case g44 =>
        refine' K14.at__law_next KX G ?a ?l ?c ?k
        (case a => k_is); (case l => k_is); (case c => k_is); (case k => k_is)
      case g45 =>
        refine' K14.at__law_pick KX G ?a ?l ?c ?k
        (case a => k_is); (case l => k_is); (case c => k_is); (case k => k_is)
      case g46 =>
        refine' K14.at__law_parts KX G ?a ?l ?c ?k
        (case a => k_is); (case l => k_is); (case c => k_is); (case k => k_is)
      case g47 =>
        refine' K14.at__law_words KX G ?a ?l ?c ?k
        (case a => k_is); (case l => k_is); (case c => k_is); (case k => k_is)
      case g48 =>
        refine' K14.at__law_built KX G ?a ?l ?c ?k
        (case a => k_is); (case l => k_is); (case c => k_is); (case k => k_is)
      case g49 =>
        refine' K14.at__law_deeds KX G ?a ?l ?c ?k
        (case a => k_is); (case l => k_is); (case c => k_is); (case k => k_is)
      case g50 =>
        refine' K14.at__law_other KX G ?a ?l ?c ?k
        (case a => k_is); (case l => k_is); (case c => k_is); (case k => k_is)
      case g51 =>
        refine' K14.at__law_alike KX G ?a ?l ?c ?k
        (case a => k_is); (case l => k_is); (case c => k_is); (case k => k_is)
      case g52 =>
        refine' K14.at_faults KX G ?a ?l ?c ?k
        (case a => k_is); (case l => k_is); (case c => k_is); (case k => k_is)
      case g53 =>
        refine' K14.at_law KX G ?a ?l ?c ?k
        (case a => k_is); (case l => k_is); (case c => k_is); (case k => k_is)
end
