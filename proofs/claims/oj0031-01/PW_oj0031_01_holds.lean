import PyProof.Rows.All
import Wide.All
import OpenK.AllK
import Wide.FinOn
import PySem.Challenge.RW_oj0031_01
open PySem PySem.W PyProof.Rows
set_option Elab.async false
set_option genSizeOf false
set_option genInjectivity false
set_option maxRecDepth 100000
namespace Mine
section
noncomputable abbrev MM (w : World) : Model := model PySem.Challenge.rw_oj0031_01.row.prog w
noncomputable abbrev St (s : Shared) (h : Heap) (t : Nat) : Shared := ⟨h, s.gens, s.drawn, t, s.os⟩

inductive Role | buf | gap | cells | marks | rows | mrk | mark | ring | pcs | deck | bigs | tmp
  deriving DecidableEq
noncomputable def Role.all : List Role := [.buf, .gap, .cells, .marks, .rows, .mrk, .mark, .ring, .pcs, .deck, .bigs, .tmp]
theorem Role.mem_all (r : Role) : r ∈ Role.all := by cases r <;> decide

inductive SV
  | none | bool (b : Bool) | int (i : Int) | str (x : Str) | any
  | role (r : Role)
  | lst (ns : List Int)
  | piece (ns : List Int)
  | lol (L : List (List Int))
  | ipair (a b : Int)
  | trip (a b : Int)
  | trips (L : List (Int × Int))
  | pcl (L : List (List Int))
  | rng (n : Nat)
  | stt (T : List Int) (p : Int) (L : List (List Int))
  | fn (v : Value)

inductive SO
  | absent
  | inst (C : Addr) (A : List (Str × SV))
  | nums (ns : List Int)
  | pieces (L : List (List Int))
  | rows (b : Bool)
  | slist (xs : List SV)

structure Wd where
  ad : Role → Addr
  dad : Role → Addr
  ob : Role → SO

noncomputable def Wd.adrs (W : Wd) (r : Role) : List Addr := match W.ob r with
  | .absent => []
  | .inst _ _ => [W.ad r, W.dad r]
  | _ => [W.ad r]
noncomputable def Wd.Mut (W : Wd) (x : Addr) : Prop := ∃ r, x ∈ W.adrs r

/-- an immutable list of ints at v -/
noncomputable def IsLst (P : Addr → Prop) (h : Heap) (v : Value) (ns : List Int) : Prop :=
  ∃ a vs n, v = .ref a ∧ h.get? a = some (PySem.W.listOf (List.toArray vs) n) ∧ IntsAre vs ns ∧ ¬ P a
inductive All2 {α β : Type} (R : α → β → Prop) : List α → List β → Prop
  | nil : All2 R [] []
  | cons {a b as bs} : R a b → All2 R as bs → All2 R (a :: as) (b :: bs)
theorem All2.imp {α β : Type} {R R' : α → β → Prop} (f : ∀ a b, R a b → R' a b) {as bs} (h : All2 R as bs) : All2 R' as bs := by
  induction h with
  | nil => exact .nil
  | cons h _ ih => exact .cons (f _ _ h) ih
theorem All2.length {α β : Type} {R : α → β → Prop} {as bs} (h : All2 R as bs) : as.length = bs.length := by
  induction h with
  | nil => rfl
  | cons _ _ ih => simp [ih]
noncomputable def IsPiece (P : Addr → Prop) (h : Heap) (v : Value) (ns : List Int) : Prop :=
  ∃ p dp es n vc vr, v = .ref p ∧ h.get? p = some (instObj 164 dp) ∧ h.get? dp = some (dictOf es n) ∧ getL (Str.ofString "codes") es = some (some vc) ∧ getL (Str.ofString "runs") es = some (some vr) ∧
    IsLst P h vc ns ∧ IsLst P h vr [] ∧ ¬ P p ∧ ¬ P dp
noncomputable def IsLol (P : Addr → Prop) (h : Heap) (v : Value) (L : List (List Int)) : Prop :=
  ∃ a vs n, v = .ref a ∧ h.get? a = some (PySem.W.listOf (List.toArray vs) n) ∧ All2 (IsLst P h) vs L ∧ ¬ P a

noncomputable def IsTrip (P : Addr → Prop) (h : Heap) (v : Value) (p : Int × Int) : Prop :=
  ∃ x t u n v3, v = .ref x ∧ h.get? x = some { cls := .type "tuple", data := .seq #[.int p.1 t, .int p.2 u, v3] n } ∧ IsLst P h v3 [] ∧ ¬ P x
noncomputable def IsTrips (P : Addr → Prop) (h : Heap) (v : Value) (L : List (Int × Int)) : Prop :=
  ∃ a vs n, v = .ref a ∧ h.get? a = some (PySem.W.listOf (List.toArray vs) n) ∧ All2 (IsTrip P h) vs L ∧ ¬ P a
noncomputable def IsPcl (P : Addr → Prop) (h : Heap) (v : Value) (L : List (List Int)) : Prop :=
  ∃ a vs n, v = .ref a ∧ h.get? a = some (PySem.W.listOf (List.toArray vs) n) ∧ All2 (IsPiece P h) vs L ∧ ¬ P a
noncomputable def IsRng (P : Addr → Prop) (h : Heap) (v : Value) (n : Nat) : Prop :=
  ∃ a o, v = .ref a ∧ h.get? a = some o ∧ (∃ t u z, o = { cls := .type "range", data := .fields #[.int 0 t, .int n u, .int 1 z] }) ∧ ¬ P a

/-- what is not to be leaned on: the roles' objects, the frames' names -/
noncomputable def Wd.P (W : Wd) (F : Addr → Prop) (x : Addr) : Prop := W.Mut x ∨ F x
noncomputable def SV.is (F : Addr → Prop) (W : Wd) (h : Heap) : SV → Value → Prop
  | .none, v => v = .none
  | .bool b, v => v = .bool b
  | .int i, v => ∃ t, v = .int i t
  | .str x, v => ∃ t, v = .str x t
  | .any, _ => True
  | .role r, v => v = .ref (W.ad r) ∧ W.ob r ≠ .absent
  | .lst ns, v => IsLst (W.P F) h v ns
  | .piece ns, v => IsPiece (W.P F) h v ns
  | .lol L, v => IsLol (W.P F) h v L
  | .ipair a b, v => ∃ x t u n, v = .ref x ∧ h.get? x = some { cls := .type "tuple", data := .seq #[.int a t, .int b u] n } ∧ ¬ W.P F x
  | .trip a b, v => IsTrip (W.P F) h v (a, b)
  | .trips L, v => IsTrips (W.P F) h v L
  | .pcl L, v => IsPcl (W.P F) h v L
  | .rng n, v => IsRng (W.P F) h v n
  | .stt T p L, v => ∃ x v1 t v3 n, v = .ref x ∧ h.get? x = some { cls := .type "tuple", data := .seq #[v1, .int p t, v3] n } ∧ IsLst (W.P F) h v1 T ∧ IsLol (W.P F) h v3 L ∧ ¬ W.P F x
  | .fn f, v => v = f

theorem IsLst.imp {P P' : Addr → Prop} {h h' : Heap} (k : ∀ b o, h.get? b = some o → ¬ P b → h'.get? b = some o ∧ ¬ P' b) {v ns} (x : IsLst P h v ns) : IsLst P' h' v ns := by
  obtain ⟨b, vs, n, e, q, i, m⟩ := x
  exact ⟨b, vs, n, e, (k _ _ q m).1, i, (k _ _ q m).2⟩
theorem IsPiece.imp {P P' : Addr → Prop} {h h' : Heap} (k : ∀ b o, h.get? b = some o → ¬ P b → h'.get? b = some o ∧ ¬ P' b) {v ns} (x : IsPiece P h v ns) : IsPiece P' h' v ns := by
  obtain ⟨p, dp, es, n, vc, vr, e, q1, q2, g1, g2, l1, l2, m1, m2⟩ := x
  exact ⟨p, dp, es, n, vc, vr, e, (k _ _ q1 m1).1, (k _ _ q2 m2).1, g1, g2, l1.imp k, l2.imp k, (k _ _ q1 m1).2, (k _ _ q2 m2).2⟩
theorem IsLol.imp {P P' : Addr → Prop} {h h' : Heap} (k : ∀ b o, h.get? b = some o → ¬ P b → h'.get? b = some o ∧ ¬ P' b) {v L} (x : IsLol P h v L) : IsLol P' h' v L := by
  obtain ⟨b, vs, n, e, q, i, m⟩ := x
  exact ⟨b, vs, n, e, (k _ _ q m).1, All2.imp (fun _ _ z => IsLst.imp k z) i, (k _ _ q m).2⟩
theorem IsTrip.imp {P P' : Addr → Prop} {h h' : Heap} (k : ∀ b o, h.get? b = some o → ¬ P b → h'.get? b = some o ∧ ¬ P' b) {v ns} (x : IsTrip P h v ns) : IsTrip P' h' v ns := by
  obtain ⟨b, t, u, n, v3, e, q, l, m⟩ := x
  exact ⟨b, t, u, n, v3, e, (k _ _ q m).1, l.imp k, (k _ _ q m).2⟩
theorem IsTrips.imp {P P' : Addr → Prop} {h h' : Heap} (k : ∀ b o, h.get? b = some o → ¬ P b → h'.get? b = some o ∧ ¬ P' b) {v L} (x : IsTrips P h v L) : IsTrips P' h' v L := by
  obtain ⟨b, vs, n, e, q, i, m⟩ := x
  exact ⟨b, vs, n, e, (k _ _ q m).1, All2.imp (fun _ _ z => IsTrip.imp k z) i, (k _ _ q m).2⟩
theorem IsPcl.imp {P P' : Addr → Prop} {h h' : Heap} (k : ∀ b o, h.get? b = some o → ¬ P b → h'.get? b = some o ∧ ¬ P' b) {v L} (x : IsPcl P h v L) : IsPcl P' h' v L := by
  obtain ⟨b, vs, n, e, q, i, m⟩ := x
  exact ⟨b, vs, n, e, (k _ _ q m).1, All2.imp (fun _ _ z => IsPiece.imp k z) i, (k _ _ q m).2⟩
theorem IsRng.imp {P P' : Addr → Prop} {h h' : Heap} (k : ∀ b o, h.get? b = some o → ¬ P b → h'.get? b = some o ∧ ¬ P' b) {v n} (x : IsRng P h v n) : IsRng P' h' v n := by
  obtain ⟨b, o, e, q, i, m⟩ := x
  exact ⟨b, o, e, (k _ _ q m).1, i, (k _ _ q m).2⟩
noncomputable def SV.stable : SV → Bool
  | .role .pcs => false
  | _ => true

inductive EntAre (F : Addr → Prop) (W : Wd) (h : Heap) : List DictEntry → List (Str × SV) → Prop
  | nil : EntAre F W h [] []
  | cons {hs x t v sv es A} : SV.is F W h sv v → EntAre F W h es A → EntAre F W h (⟨hs, .str x t, v⟩ :: es) ((x, sv) :: A)

noncomputable def SO.holds (w : World) (F : Addr → Prop) (W : Wd) (h : Heap) (r : Role) : SO → Prop
  | .absent => True
  | .inst C A => h.get? (W.ad r) = some (instObj C (W.dad r)) ∧ ∃ es n, h.get? (W.dad r) = some (dictOf es n) ∧ EntAre F W h es A
  | .nums ns => ∃ vs n, h.get? (W.ad r) = some (PySem.W.listOf (List.toArray vs) n) ∧ IntsAre vs ns
  | .pieces L => ∃ vs n, h.get? (W.ad r) = some (PySem.W.listOf (List.toArray vs) n) ∧ All2 (IsPiece (W.P F) h) vs L
  | .rows b => h.DictOf (intKind PySem.Challenge.rw_oj0031_01.row.prog w) (W.ad r) (if b then [(0, .ref (W.ad .mark))] else []) ∧ (b = true → W.ob .mark ≠ .absent) ∧ (W.ad r == sysModules) = false
  | .slist xs => ∃ vs n, h.get? (W.ad r) = some (PySem.W.listOf (List.toArray vs) n) ∧ All2 (SV.is F W h) xs vs

structure WS (w : World) (F : Addr → Prop) (g : Heap) (L : Addr) (h : Heap) (W : Wd) : Prop where
  holds : ∀ r, SO.holds w F W h r (W.ob r)
  fresh : ∀ r, ∀ x ∈ W.adrs r, g.get? x = none ∧ x ≠ L
  apart : ∀ r r', r ≠ r' → ∀ x ∈ W.adrs r, x ∉ W.adrs r'
  nodup : ∀ r, (W.adrs r).Nodup

/-- a step of the world; X: what else may have turned -/
structure Stp (X : Addr → Prop) (W : Wd) (h : Heap) (W' : Wd) (h' : Heap) : Prop where
  keep : ∀ b o, h.get? b = some o → ¬ W.Mut b → ¬ X b → h'.get? b = some o
  new : ∀ x, W'.Mut x → W.Mut x ∨ h.get? x = none
  live : ∀ x o, h.get? x = some o → ∃ o', h'.get? x = some o'
  role : ∀ r, r ≠ .pcs → W.ob r ≠ .absent → W'.ad r = W.ad r ∧ W'.ob r ≠ .absent
noncomputable def Nil : Addr → Prop := fun _ => False

section
variable {X F : Addr → Prop} {W W' : Wd} {h h' : Heap}
theorem Stp.refl (X : Addr → Prop) (W : Wd) (h : Heap) : Stp X W h W h := ⟨fun _ _ e _ _ => e, fun _ m => .inl m, fun _ _ e => ⟨_, e⟩, fun _ _ e => ⟨rfl, e⟩⟩
theorem Stp.notMut (a : Stp X W h W' h') {x : Addr} {o : Obj} (e : h.get? x = some o) (n : ¬ W.Mut x) : ¬ W'.Mut x := fun m => by
  rcases a.new x m with q | q
  · exact n q
  · rw [e] at q; cases q
theorem Stp.trans {W₁ h₁ W₂ h₂} (a : Stp X W h W₁ h₁) (b : Stp X W₁ h₁ W₂ h₂) : Stp X W h W₂ h₂ := by
  refine ⟨fun x o e n nx => b.keep x o (a.keep x o e n nx) (a.notMut e n) nx, fun x m => ?_, fun x o e => let ⟨o', e'⟩ := a.live x o e; b.live x o' e', fun r hr e => ?_⟩
  · rcases b.new x m with q | q
    · exact a.new x q
    · cases e : h.get? x with
      | none => exact .inr rfl
      | some o => obtain ⟨o', e'⟩ := a.live x o e; rw [e'] at q; cases q
  · obtain ⟨e1, e2⟩ := a.role r hr e
    obtain ⟨e3, e4⟩ := b.role r hr e2
    exact ⟨e3.trans e1, e4⟩
theorem Stp.weaken {X' : Addr → Prop} (a : Stp X W h W' h') (f : ∀ x, X x → X' x) : Stp X' W h W' h' := ⟨fun b o e n nx => a.keep b o e n fun z => nx (f b z), a.new, a.live, a.role⟩
theorem Stp.nil (a : Stp Nil W h W' h') : Stp X W h W' h' := a.weaken fun _ z => z.elim

theorem notP (hX : ∀ x, X x → F x) (a : Stp X W h W' h') {b : Addr} {o : Obj} (e : h.get? b = some o) (m : ¬ W.P F b) : h'.get? b = some o ∧ ¬ W'.P F b :=
  ⟨a.keep _ _ e (fun z => m (.inl z)) (fun z => m (.inr (hX _ z))), fun z => z.elim (a.notMut e fun y => m (.inl y)) fun y => m (.inr y)⟩
theorem IsLst.stp (hX : ∀ x, X x → F x) (a : Stp X W h W' h') {v ns} (x : IsLst (W.P F) h v ns) : IsLst (W'.P F) h' v ns := by
  obtain ⟨b, vs, n, e, q, i, m⟩ := x
  exact ⟨b, vs, n, e, (notP hX a q m).1, i, (notP hX a q m).2⟩
theorem IsPiece.stp (hX : ∀ x, X x → F x) (a : Stp X W h W' h') {v ns} (x : IsPiece (W.P F) h v ns) : IsPiece (W'.P F) h' v ns := by
  obtain ⟨p, dp, es, n, vc, vr, e, q1, q2, g1, g2, l1, l2, m1, m2⟩ := x
  exact ⟨p, dp, es, n, vc, vr, e, (notP hX a q1 m1).1, (notP hX a q2 m2).1, g1, g2, l1.stp hX a, l2.stp hX a, (notP hX a q1 m1).2, (notP hX a q2 m2).2⟩
theorem IsLol.stp (hX : ∀ x, X x → F x) (a : Stp X W h W' h') {v L} (x : IsLol (W.P F) h v L) : IsLol (W'.P F) h' v L := by
  obtain ⟨b, vs, n, e, q, i, m⟩ := x
  exact ⟨b, vs, n, e, (notP hX a q m).1, i.imp fun _ _ z => z.stp hX a, (notP hX a q m).2⟩
theorem SV.is_stp (hX : ∀ x, X x → F x) (a : Stp X W h W' h') {sv : SV} {v : Value} (hs : sv.stable = true) (x : sv.is F W h v) : sv.is F W' h' v := by
  cases sv with
  | role r =>
    obtain ⟨rfl, e⟩ := x
    have hr : r ≠ .pcs := by rintro rfl; cases hs
    obtain ⟨e1, e2⟩ := a.role r hr e
    exact ⟨by rw [e1], e2⟩
  | lst ns => exact IsLst.stp hX a x
  | piece ns => exact IsPiece.stp hX a x
  | lol L => exact IsLol.stp hX a x
  | ipair p q =>
    obtain ⟨b, t, u, n, e, o, m⟩ := x
    exact ⟨b, t, u, n, e, (notP hX a o m).1, (notP hX a o m).2⟩
  | trip p q => exact IsTrip.imp (fun _ _ e m => notP hX a e m) x
  | trips L => exact IsTrips.imp (fun _ _ e m => notP hX a e m) x
  | pcl L => exact IsPcl.imp (fun _ _ e m => notP hX a e m) x
  | rng n => exact IsRng.imp (fun _ _ e m => notP hX a e m) x
  | stt T p L =>
    obtain ⟨b, v1, t, v3, n, e, o, l1, l2, m⟩ := x
    exact ⟨b, v1, t, v3, n, e, (notP hX a o m).1, IsLst.stp hX a l1, IsLol.stp hX a l2, (notP hX a o m).2⟩
  | _ => exact x
end

/-! ### the facts about the written part -/
noncomputable def attTbl : List (Addr × List String) := [(164, ["codes", "runs"]), (209, ["most", "pieces", "pointer"]), (307, ["number", "advances", "buffer", "position"]), (375, ["rows"]), (403, ["most", "markers", "last"]),
  (586, ["room", "cells", "gap_start", "gap_end"]),
  (692, ["number", "name", "text", "markers", "point", "begv", "zv", "mark", "is_live", "is_read_only", "ticks", "codes_ticks", "saved_ticks", "listeners", "undo", "props", "overlays", "locals", "syntax", "file"])]
noncomputable def attOk (C : Addr) (x : Str) : Bool := attTbl.any fun (a, xs) => a == C && xs.any fun y => Str.ofString y == x
noncomputable def isCls (C : Addr) : Bool := attTbl.any fun (a, _) => a == C
noncomputable def mthTbl : List (Addr × String × Addr) := [(375, "numbers", 330), (375, "put", 337), (375, "inserted", 358), (375, "deleted", 365),
  (586, "size", 520), (586, "codes", 534), (586, "move_gap", 541), (586, "widen_gap", 548), (586, "insert", 555), (586, "delete", 562),
  (692, "size", 640), (692, "codes", 654), (692, "goto", 661), (692, "touch", 689),
  (164, "__init__", 161), (209, "__init__", 206), (307, "__init__", 283), (375, "__init__", 323), (403, "__init__", 400), (586, "__init__", 513), (692, "__init__", 605)]
noncomputable def mthOk (C : Addr) (x : Str) (f : Addr) : Bool := mthTbl.any fun (a, y, g) => a == C && Str.ofString y == x && g == f
noncomputable def glbTbl : List (String × Addr) := [("need_writable", 48), ("reached", 55), ("tell_ahead", 62), ("tell_behind", 69), ("text_out", 76), ("text_in", 83), ("hung_out", 90), ("hung_in", 97), ("put_in", 104), ("insert", 112), ("delete", 119),
  ("tidy_runs", 175), ("moved_runs", 180), ("piece_joined", 187), ("piece_without", 192), ("kill_new", 220), ("kill_append", 227), ("current_kill", 234), ("set_marker", 386), ("set_mark", 414), ("has_mark", 421), ("mark_place", 428),
  ("push_mark", 442), ("plist_rows", 447), ("piece_of", 452), ("insert_piece", 457), ("save_kill", 464), ("copy_region", 471), ("kill_region", 478), ("swap_point_and_mark", 485), ("yank", 492), ("yank_pop", 499),
  ("_law_deck", 699), ("_law_draw", 706), ("_law_state", 711), ("_law_saved", 718), ("_law_killed", 725),
  ("LispSignal", 38), ("Piece", 164), ("KillRing", 209), ("Marker", 307), ("Markers", 375), ("MarkRing", 403), ("GapText", 586), ("Buffer", 692)]
noncomputable def glbOk (x : Str) (f : Addr) : Bool := glbTbl.any fun (y, g) => Str.ofString y == x && g == f
noncomputable def bltOk (x : Str) : Bool := (["len", "min", "max", "abs", "list", "range", "sorted"] : List String).any fun y => Str.ofString y == x
noncomputable def kpOk (f : Addr) : Bool := glbTbl.any (fun (_, g) => g == f) || mthTbl.any fun (_, _, g) => g == f

noncomputable def stAt (i : Nat) : Option Stmt := PySem.Challenge.pw_oj0031_01.main.body[i]?
noncomputable def mtAt (i j : Nat) : Option Stmt := match stAt i with
  | some (.ClassDef _ _ _ b _ _ _ _ _ _ _) => b[j]?
  | _ => none
/-- the def at f -/
noncomputable def FnIs (K : Frag) (f : Addr) (q : String) (name : Str) (params : Arguments) (body : List Stmt) (scope : Scope) (ds : List Value) : Prop :=
  ∃ oc od osl dV doc pm an ct, K.lookup f = some ⟨oc, od, .func (fnOf name (Str.ofString q) params body scope dV .none doc pm an (.ref (f - 1)) ct), osl⟩ ∧ codeIn K (.ref (f - 1)) (Str.ofString q) = true ∧
    (match ds with | [] => dV = .none | _ :: _ => ∃ T tc td n tsl, dV = .ref T ∧ K.lookup T = some ⟨tc, td, .seq ds.toArray n, tsl⟩)
noncomputable def FnAt (K : Frag) (f : Addr) (q : String) (st : Option Stmt) (ds : List Value) : Prop := match st with
  | some (.FunctionDef name params body _ _ _ scope _ _ _) => FnIs K f q name params body scope ds
  | _ => False

/-- all that is closed about the law's own exception -/
noncomputable def sigK (K : Frag) : Bool := match K.lookup 38 with
  | some ⟨cl, _, .cls cd, sl⟩ => decide (cl = .type "type") && (decide (cd.mro = [.ref 38, .type "Exception", .type "BaseException", .type "object"]) && (decide (sl.size = 6) && (decide (sl[4]? = some (some (.builtin "Exception.__new__"))) && (!cd.hasDel && (cd.hasDict && (nsOkIn K cd.ns &&
      (decide (nsIn K cd.ns "__init__" = some (some (.ref 35))) && (decide (nsIn K cd.ns "__setattr__" = some none) && (decide (nsIn K cd.ns "symbol" = some none) && decide (nsIn K cd.ns "data" = some none))))))))))
  | _ => false
noncomputable def defP (st : Option Stmt) : Option (Str × Arguments × List Stmt × Scope) := match st with
  | some (.FunctionDef name params body _ _ _ scope _ _ _) => some (name, params, body, scope)
  | _ => none
noncomputable def fnD (K : Frag) (f : Addr) : Option FuncData := match K.lookup f with
  | some ⟨_, _, .func fd, _⟩ => some fd
  | _ => none
/-- all of a def that is to be seen, its other parts being what they are -/
noncomputable def fnSeen (K : Frag) (f : Addr) (q : String) (st : Option Stmt) : Option FuncData :=
  match fnD K f, defP st with
  | some fd, some (name, params, body, scope) => some (fnOf name (Str.ofString q) params body scope fd.defaults .none fd.doc fd.pyModule fd.annotations (.ref (f - 1)) fd.closureTuple)
  | _, _ => none
noncomputable def dfl (K : Frag) (f : Addr) : Value := match fnD K f with
  | some fd => fd.defaults
  | none => .bool true
theorem FnAt.of {K : Frag} {f : Addr} {q : String} {st : Option Stmt} {ds : List Value} (h : fnD K f = fnSeen K f q st) (hs : (fnSeen K f q st).isSome = true) (hc : codeIn K (.ref (f - 1)) (Str.ofString q) = true)
    (hd : match ds with | [] => dfl K f = .none | _ :: _ => ∃ T tc td n tsl, dfl K f = .ref T ∧ K.lookup T = some ⟨tc, td, .seq ds.toArray n, tsl⟩) : FnAt K f q st ds := by
  unfold fnSeen at h hs
  split at h
  · rename_i fd name params body scope e1 e2
    unfold defP at e2
    split at e2
    · cases e2
      unfold dfl at hd
      rw [e1] at hd
      rw [e1] at h
      unfold fnD at e1
      split at e1
      · rename_i oc od fd' sl ho
        cases e1
        show FnIs _ _ _ _ _ _ _ _
        refine ⟨oc, od, sl, fd.defaults, fd.doc, fd.pyModule, fd.annotations, fd.closureTuple, ?_, hc, hd⟩
        rw [ho]
        congr 2
        exact congrArg _ (Option.some.inj h)
      · cases e1
    · cases e2
  · rename_i z
    split at hs
    · rename_i a b; exact (z _ _ _ _ _ a b).elim
    · cases hs
noncomputable def attT (K : Frag) : Bool := attTbl.all fun (a, xs) => xs.all fun y => decide (findIn K (.ref a) (Str.ofString y) = some none)
noncomputable def clsT (K : Frag) : Bool := attTbl.all fun (a, _) => plainGet K a (Str.ofString "") && hasDictIn K a && plainOver K a && decide (findIn K (.ref a) "__setattr__" = some (some (.builtin "object.__setattr__"))) && makesIn K a
noncomputable def mthT (K : Frag) : Bool := mthTbl.all fun (a, y, f) => decide (findIn K (.ref a) (Str.ofString y) = some (some (.ref f))) && isFn K (.ref f)
noncomputable def glbT (K : Frag) : Bool := glbTbl.all fun (y, f) => decide (nsIn K mainGlobals (Str.ofString y) = some (some (.ref f)))
noncomputable def bltT (K : Frag) : Bool := (["len", "min", "max", "abs", "list", "range", "sorted"] : List String).all fun y => decide (nsIn K mainGlobals (Str.ofString y) = some none)
noncomputable def kpT (K : Frag) : Bool := (glbTbl.all fun (_, g) => keepIn K (.ref g)) && mthTbl.all fun (_, _, g) => keepIn K (.ref g)
theorem clsT_ok {K : Frag} (h : clsT K = true) : ∀ C, isCls C = true → plainGet K C (Str.ofString "") = true ∧ hasDictIn K C = true ∧ plainOver K C = true ∧ findIn K (.ref C) "__setattr__" = some (some (.builtin "object.__setattr__")) ∧ makesIn K C = true := by
  intro C hC
  obtain ⟨⟨a, xs⟩, hm, e⟩ := List.any_eq_true.mp hC
  have := List.all_eq_true.mp h _ hm
  cases beq_iff_eq.mp e
  simp only [Bool.and_eq_true, decide_eq_true_eq] at this
  obtain ⟨⟨⟨⟨a1, a2⟩, a3⟩, a4⟩, a5⟩ := this
  exact ⟨a1, a2, a3, a4, a5⟩
theorem attT_ok {K : Frag} (h : attT K = true) : ∀ C x, attOk C x = true → findIn K (.ref C) x = some none := by
  intro C x hC
  obtain ⟨⟨a, xs⟩, hm, e⟩ := List.any_eq_true.mp hC
  have := List.all_eq_true.mp h _ hm
  obtain ⟨e1, e2⟩ := Bool.and_eq_true_iff.mp e
  cases beq_iff_eq.mp e1
  obtain ⟨y, hy, e3⟩ := List.any_eq_true.mp e2
  cases beq_iff_eq.mp e3
  exact of_decide_eq_true (List.all_eq_true.mp this _ hy)
theorem mthT_ok {K : Frag} (h : mthT K = true) : ∀ C x f, mthOk C x f = true → findIn K (.ref C) x = some (some (.ref f)) ∧ isFn K (.ref f) = true := by
  intro C x f hC
  obtain ⟨⟨a, y, g⟩, hm, e⟩ := List.any_eq_true.mp hC
  have := List.all_eq_true.mp h _ hm
  obtain ⟨e1, e3⟩ := Bool.and_eq_true_iff.mp e
  obtain ⟨e1, e2⟩ := Bool.and_eq_true_iff.mp e1
  cases beq_iff_eq.mp e1
  cases beq_iff_eq.mp e2
  cases beq_iff_eq.mp e3
  obtain ⟨a1, a2⟩ := Bool.and_eq_true_iff.mp this
  exact ⟨of_decide_eq_true a1, a2⟩
theorem glbT_ok {K : Frag} (h : glbT K = true) : ∀ x f, glbOk x f = true → nsIn K mainGlobals x = some (some (.ref f)) := by
  intro x f hC
  obtain ⟨⟨y, g⟩, hm, e⟩ := List.any_eq_true.mp hC
  have := List.all_eq_true.mp h _ hm
  obtain ⟨e1, e2⟩ := Bool.and_eq_true_iff.mp e
  cases beq_iff_eq.mp e1
  cases beq_iff_eq.mp e2
  exact of_decide_eq_true this
theorem bltT_ok {K : Frag} (h : bltT K = true) : ∀ x, bltOk x = true → nsIn K mainGlobals x = some none := by
  intro x hC
  obtain ⟨y, hm, e⟩ := List.any_eq_true.mp hC
  have := List.all_eq_true.mp h _ hm
  cases beq_iff_eq.mp e
  exact of_decide_eq_true this
theorem kpT_ok {K : Frag} (h : kpT K = true) : ∀ f, kpOk f = true → keepIn K (.ref f) = true := by
  intro f hC
  obtain ⟨h1, h2⟩ := Bool.and_eq_true_iff.mp h
  rcases Bool.or_eq_true_iff.mp hC with e | e
  · obtain ⟨⟨y, g⟩, hm, e⟩ := List.any_eq_true.mp e
    cases beq_iff_eq.mp e
    exact List.all_eq_true.mp h1 _ hm
  · obtain ⟨⟨y, z, g⟩, hm, e⟩ := List.any_eq_true.mp e
    cases beq_iff_eq.mp e
    exact List.all_eq_true.mp h2 _ hm
noncomputable def ownT (K : Frag) : Bool := match nsIn K mainGlobals "OWN_NUMBER" with
  | some (some (.int 0 _)) => true
  | _ => false
theorem ownT_ok {K : Frag} (h : ownT K = true) : ∃ t, nsIn K mainGlobals "OWN_NUMBER" = some (some (.int 0 t)) := by
  unfold ownT at h
  split at h
  · rename_i t e; exact ⟨t, e⟩
  · cases h
noncomputable def dfT (K : Frag) (f : Addr) (v : Value) : Bool := match dfl K f with
  | .ref T => (match K.lookup T with
    | some ⟨_, _, .seq vs _, _⟩ => decide (vs = #[v])
    | _ => false)
  | _ => false
theorem dfT_ok {K : Frag} {f : Addr} {v : Value} (h : dfT K f v = true) : ∃ T tc td n tsl, dfl K f = .ref T ∧ K.lookup T = some ⟨tc, td, .seq [v].toArray n, tsl⟩ := by
  unfold dfT at h
  split at h
  · rename_i T e
    split at h
    · rename_i vs n _ e2
      cases of_decide_eq_true h
      exact ⟨T, _, _, _, _, e, e2⟩
    · cases h
  · cases h
noncomputable def fnTbl : List (Addr × String × Option Stmt × List Value) := [(35, "LispSignal.__init__", mtAt 2 0, []),
  (48, "need_writable", stAt 4, []),
  (55, "reached", stAt 5, []),
  (62, "tell_ahead", stAt 6, []),
  (69, "tell_behind", stAt 7, []),
  (76, "text_out", stAt 8, []),
  (83, "text_in", stAt 9, []),
  (90, "hung_out", stAt 10, []),
  (97, "hung_in", stAt 11, []),
  (104, "put_in", stAt 12, []),
  (112, "insert", stAt 13, [Value.bool false]),
  (119, "delete", stAt 14, []),
  (161, "Piece.__init__", mtAt 21 0, []),
  (175, "tidy_runs", stAt 22, []),
  (180, "moved_runs", stAt 23, []),
  (187, "piece_joined", stAt 24, []),
  (192, "piece_without", stAt 25, []),
  (206, "KillRing.__init__", mtAt 27 0, []),
  (220, "kill_new", stAt 28, []),
  (227, "kill_append", stAt 29, []),
  (234, "current_kill", stAt 30, []),
  (283, "Marker.__init__", mtAt 34 0, []),
  (323, "Markers.__init__", mtAt 35 0, []),
  (330, "Markers.numbers", mtAt 35 1, []),
  (337, "Markers.put", mtAt 35 2, []),
  (358, "Markers.inserted", mtAt 35 5, []),
  (365, "Markers.deleted", mtAt 35 6, []),
  (386, "set_marker", stAt 37, []),
  (400, "MarkRing.__init__", mtAt 40 0, []),
  (414, "set_mark", stAt 41, []),
  (421, "has_mark", stAt 42, []),
  (428, "mark_place", stAt 43, []),
  (442, "push_mark", stAt 45, []),
  (447, "plist_rows", stAt 47, []),
  (452, "piece_of", stAt 48, []),
  (457, "insert_piece", stAt 49, []),
  (464, "save_kill", stAt 51, []),
  (471, "copy_region", stAt 52, []),
  (478, "kill_region", stAt 53, []),
  (485, "swap_point_and_mark", stAt 54, []),
  (492, "yank", stAt 55, []),
  (499, "yank_pop", stAt 56, []),
  (513, "GapText.__init__", mtAt 58 0, []),
  (520, "GapText.size", mtAt 58 1, []),
  (534, "GapText.codes", mtAt 58 3, []),
  (541, "GapText.move_gap", mtAt 58 4, []),
  (548, "GapText.widen_gap", mtAt 58 5, []),
  (555, "GapText.insert", mtAt 58 6, []),
  (562, "GapText.delete", mtAt 58 7, []),
  (605, "Buffer.__init__", mtAt 60 0, [Value.int 8 1011]),
  (640, "Buffer.size", mtAt 60 5, []),
  (654, "Buffer.codes", mtAt 60 7, []),
  (661, "Buffer.goto", mtAt 60 8, []),
  (689, "Buffer.touch", mtAt 60 12, []),
  (699, "_law_deck", stAt 62, []),
  (706, "_law_draw", stAt 63, []),
  (711, "_law_state", stAt 64, []),
  (718, "_law_saved", stAt 65, []),
  (725, "_law_killed", stAt 66, []),
  (730, "law", stAt 67, [])]
noncomputable def allT (K : Frag) : Bool := sigK K && (isFn K (.ref 35) && (clsT K && (attT K && (mthT K && (glbT K && (bltT K && (ownT K && (kpT K &&
  fnTbl.all fun (f, q, st, ds) => (fnSeen K f q st).isSome && (codeIn K (.ref (f - 1)) (Str.ofString q) && match ds with | [] => decide (dfl K f = .none) | v :: _ => dfT K f v && ds.length == 1)))))))))
structure KF (K : Frag) : Prop where
  tab : allT K = true
  fns : fnTbl.map (fun e => fnD K e.1) = fnTbl.map fun e => fnSeen K e.1 e.2.1 e.2.2.1
theorem and2 {a b : Bool} (h : (a && b) = true) : b = true := (Bool.and_eq_true_iff.mp h).2
theorem and1 {a b : Bool} (h : (a && b) = true) : a = true := (Bool.and_eq_true_iff.mp h).1
section
variable {K : Frag} (k : KF K)
include k
theorem KF.sig : sigK K = true := and1 k.tab
theorem KF.i35 : isFn K (.ref 35) = true := and1 (and2 k.tab)
theorem KF.cls : ∀ C, isCls C = true → plainGet K C (Str.ofString "") = true ∧ hasDictIn K C = true ∧ plainOver K C = true ∧ findIn K (.ref C) "__setattr__" = some (some (.builtin "object.__setattr__")) ∧ makesIn K C = true := clsT_ok (and1 (and2 (and2 k.tab)))
theorem KF.att : ∀ C x, attOk C x = true → findIn K (.ref C) x = some none := attT_ok (and1 (and2 (and2 (and2 k.tab))))
theorem KF.mth : ∀ C x f, mthOk C x f = true → findIn K (.ref C) x = some (some (.ref f)) ∧ isFn K (.ref f) = true := mthT_ok (and1 (and2 (and2 (and2 (and2 k.tab)))))
theorem KF.glb : ∀ x f, glbOk x f = true → nsIn K mainGlobals x = some (some (.ref f)) := glbT_ok (and1 (and2 (and2 (and2 (and2 (and2 k.tab))))))
theorem KF.blt : ∀ x, bltOk x = true → nsIn K mainGlobals x = some none := bltT_ok (and1 (and2 (and2 (and2 (and2 (and2 (and2 k.tab)))))))
theorem KF.own : ∃ t, nsIn K mainGlobals "OWN_NUMBER" = some (some (.int 0 t)) := ownT_ok (and1 (and2 (and2 (and2 (and2 (and2 (and2 (and2 k.tab))))))))
theorem KF.kp : ∀ f, kpOk f = true → keepIn K (.ref f) = true := kpT_ok (and1 (and2 (and2 (and2 (and2 (and2 (and2 (and2 (and2 k.tab)))))))))
theorem KF.fn (i : Nat) {f : Addr} {q : String} {st : Option Stmt} {ds : List Value} (h : fnTbl[i]? = some (f, q, st, ds)) : FnAt K f q st ds := by
  have hm := List.mem_of_getElem? h
  have e := List.map_inj_left.mp k.fns _ hm
  have t := List.all_eq_true.mp (and2 (and2 (and2 (and2 (and2 (and2 (and2 (and2 (and2 k.tab))))))))) _ hm
  refine .of e (and1 t) (and1 (and2 t)) ?_
  have t := and2 (and2 t)
  cases ds with
  | nil => exact of_decide_eq_true t
  | cons v r =>
    cases r with
    | nil => exact dfT_ok (and1 t)
    | cons _ _ => exact nomatch (and2 t)
theorem KF.f35 : FnAt K 35 "LispSignal.__init__" (mtAt 2 0) [] := k.fn 0 rfl
theorem KF.f48 : FnAt K 48 "need_writable" (stAt 4) [] := k.fn 1 rfl
theorem KF.f55 : FnAt K 55 "reached" (stAt 5) [] := k.fn 2 rfl
theorem KF.f62 : FnAt K 62 "tell_ahead" (stAt 6) [] := k.fn 3 rfl
theorem KF.f69 : FnAt K 69 "tell_behind" (stAt 7) [] := k.fn 4 rfl
theorem KF.f76 : FnAt K 76 "text_out" (stAt 8) [] := k.fn 5 rfl
theorem KF.f83 : FnAt K 83 "text_in" (stAt 9) [] := k.fn 6 rfl
theorem KF.f90 : FnAt K 90 "hung_out" (stAt 10) [] := k.fn 7 rfl
theorem KF.f97 : FnAt K 97 "hung_in" (stAt 11) [] := k.fn 8 rfl
theorem KF.f104 : FnAt K 104 "put_in" (stAt 12) [] := k.fn 9 rfl
theorem KF.f112 : FnAt K 112 "insert" (stAt 13) [Value.bool false] := k.fn 10 rfl
theorem KF.f119 : FnAt K 119 "delete" (stAt 14) [] := k.fn 11 rfl
theorem KF.f161 : FnAt K 161 "Piece.__init__" (mtAt 21 0) [] := k.fn 12 rfl
theorem KF.f175 : FnAt K 175 "tidy_runs" (stAt 22) [] := k.fn 13 rfl
theorem KF.f180 : FnAt K 180 "moved_runs" (stAt 23) [] := k.fn 14 rfl
theorem KF.f187 : FnAt K 187 "piece_joined" (stAt 24) [] := k.fn 15 rfl
theorem KF.f192 : FnAt K 192 "piece_without" (stAt 25) [] := k.fn 16 rfl
theorem KF.f206 : FnAt K 206 "KillRing.__init__" (mtAt 27 0) [] := k.fn 17 rfl
theorem KF.f220 : FnAt K 220 "kill_new" (stAt 28) [] := k.fn 18 rfl
theorem KF.f227 : FnAt K 227 "kill_append" (stAt 29) [] := k.fn 19 rfl
theorem KF.f234 : FnAt K 234 "current_kill" (stAt 30) [] := k.fn 20 rfl
theorem KF.f283 : FnAt K 283 "Marker.__init__" (mtAt 34 0) [] := k.fn 21 rfl
theorem KF.f323 : FnAt K 323 "Markers.__init__" (mtAt 35 0) [] := k.fn 22 rfl
theorem KF.f330 : FnAt K 330 "Markers.numbers" (mtAt 35 1) [] := k.fn 23 rfl
theorem KF.f337 : FnAt K 337 "Markers.put" (mtAt 35 2) [] := k.fn 24 rfl
theorem KF.f358 : FnAt K 358 "Markers.inserted" (mtAt 35 5) [] := k.fn 25 rfl
theorem KF.f365 : FnAt K 365 "Markers.deleted" (mtAt 35 6) [] := k.fn 26 rfl
theorem KF.f386 : FnAt K 386 "set_marker" (stAt 37) [] := k.fn 27 rfl
theorem KF.f400 : FnAt K 400 "MarkRing.__init__" (mtAt 40 0) [] := k.fn 28 rfl
theorem KF.f414 : FnAt K 414 "set_mark" (stAt 41) [] := k.fn 29 rfl
theorem KF.f421 : FnAt K 421 "has_mark" (stAt 42) [] := k.fn 30 rfl
theorem KF.f428 : FnAt K 428 "mark_place" (stAt 43) [] := k.fn 31 rfl
theorem KF.f442 : FnAt K 442 "push_mark" (stAt 45) [] := k.fn 32 rfl
theorem KF.f447 : FnAt K 447 "plist_rows" (stAt 47) [] := k.fn 33 rfl
theorem KF.f452 : FnAt K 452 "piece_of" (stAt 48) [] := k.fn 34 rfl
theorem KF.f457 : FnAt K 457 "insert_piece" (stAt 49) [] := k.fn 35 rfl
theorem KF.f464 : FnAt K 464 "save_kill" (stAt 51) [] := k.fn 36 rfl
theorem KF.f471 : FnAt K 471 "copy_region" (stAt 52) [] := k.fn 37 rfl
theorem KF.f478 : FnAt K 478 "kill_region" (stAt 53) [] := k.fn 38 rfl
theorem KF.f485 : FnAt K 485 "swap_point_and_mark" (stAt 54) [] := k.fn 39 rfl
theorem KF.f492 : FnAt K 492 "yank" (stAt 55) [] := k.fn 40 rfl
theorem KF.f499 : FnAt K 499 "yank_pop" (stAt 56) [] := k.fn 41 rfl
theorem KF.f513 : FnAt K 513 "GapText.__init__" (mtAt 58 0) [] := k.fn 42 rfl
theorem KF.f520 : FnAt K 520 "GapText.size" (mtAt 58 1) [] := k.fn 43 rfl
theorem KF.f534 : FnAt K 534 "GapText.codes" (mtAt 58 3) [] := k.fn 44 rfl
theorem KF.f541 : FnAt K 541 "GapText.move_gap" (mtAt 58 4) [] := k.fn 45 rfl
theorem KF.f548 : FnAt K 548 "GapText.widen_gap" (mtAt 58 5) [] := k.fn 46 rfl
theorem KF.f555 : FnAt K 555 "GapText.insert" (mtAt 58 6) [] := k.fn 47 rfl
theorem KF.f562 : FnAt K 562 "GapText.delete" (mtAt 58 7) [] := k.fn 48 rfl
theorem KF.f605 : FnAt K 605 "Buffer.__init__" (mtAt 60 0) [Value.int 8 1011] := k.fn 49 rfl
theorem KF.f640 : FnAt K 640 "Buffer.size" (mtAt 60 5) [] := k.fn 50 rfl
theorem KF.f654 : FnAt K 654 "Buffer.codes" (mtAt 60 7) [] := k.fn 51 rfl
theorem KF.f661 : FnAt K 661 "Buffer.goto" (mtAt 60 8) [] := k.fn 52 rfl
theorem KF.f689 : FnAt K 689 "Buffer.touch" (mtAt 60 12) [] := k.fn 53 rfl
theorem KF.f699 : FnAt K 699 "_law_deck" (stAt 62) [] := k.fn 54 rfl
theorem KF.f706 : FnAt K 706 "_law_draw" (stAt 63) [] := k.fn 55 rfl
theorem KF.f711 : FnAt K 711 "_law_state" (stAt 64) [] := k.fn 56 rfl
theorem KF.f718 : FnAt K 718 "_law_saved" (stAt 65) [] := k.fn 57 rfl
theorem KF.f725 : FnAt K 725 "_law_killed" (stAt 66) [] := k.fn 58 rfl
end

/-! ### where a body runs -/
structure Gx where
  w : World
  K : Frag
  n : Nat
  A : Around
  A₀ : Around
  base : Heap
  outer : List Env
  g : Heap
  cn : Str
  cs : Scope
  L : Addr
  fa : Addr
  cd : Value
  its : List Addr
  cl : List (Str × Addr)
noncomputable abbrev Gx.env (c : Gx) : Env := envX c.cn c.cs c.L c.fa c.cd c.cl
noncomputable abbrev Gx.M (c : Gx) : Model := MM c.w
/-- the frames below, and this one -/
noncomputable def Gx.Fm (c : Gx) (x : Addr) : Prop := (∃ e ∈ c.env :: c.outer, e.frame = some x) ∨ x ∈ c.its
noncomputable abbrev Gx.X (c : Gx) (x : Addr) : Prop := x = c.L
theorem Gx.XF (c : Gx) : ∀ x, c.X x → c.Fm x := fun x e => .inl ⟨c.env, .head _, by show some c.L = _; rw [e]⟩

structure Gx.Ok (c : Gx) : Prop where
  B : Below c.A₀ c.base c.outer c.g
  fr : c.A.frames = some (c.env :: c.outer)
  kf : c.cs.kind = .function
  XB : c.K.In c.base
  F : KF c.K
  TB : ∃ p loose mean mg mb, Top p loose mean mg mb c.base
  hd : c.A.handled = none
  dep : c.A.depth + c.n ≤ 400
  un : c.A.units + 8 * c.n ≤ 1200
theorem Gx.Ok.X {c : Gx} (k : c.Ok) : c.K.In c.g := k.XB.keeps k.B.stays
theorem Gx.Ok.T {c : Gx} (k : c.Ok) : ∃ p loose mean mg mb, Top p loose mean mg mb c.g := let ⟨p, l, me, mg, mb, T⟩ := k.TB; ⟨p, l, me, mg, mb, T.keeps k.B.stays⟩

noncomputable abbrev Loc := List (Str × SV)
/-- where a name's value is: in the frame's names or in a cell -/
noncomputable def LocAt (cs : Scope) (cl : List (Str × Addr)) (P : Addr → Prop) (h : Heap) (m : Str → Option Value) (x : Str) (v : Value) : Prop :=
  (m x = some v ∧ cs.names.lookup x = some .local) ∨ (cs.names.lookup x = some .cell ∧ ∃ a o, cl.lookup x = some a ∧ h.get? a = some o ∧ o.data = .cell (some v) ∧ ¬ P a)
theorem LocAt.imp {cs cl} {P P' : Addr → Prop} {h h' : Heap} {m x v} (k : ∀ b o, h.get? b = some o → ¬ P b → h'.get? b = some o ∧ ¬ P' b) (y : LocAt cs cl P h m x v) : LocAt cs cl P' h' m x v :=
  Or.imp id (fun ⟨q, a, o, e1, e2, e3, e4⟩ => ⟨q, a, o, e1, (k _ _ e2 e4).1, e3, (k _ _ e2 e4).2⟩) y
noncomputable def LocOk (c : Gx) (h : Heap) (l : Loc) (W : Wd) (m : Str → Option Value) : Prop :=
  ∀ p ∈ l, (∃ v, LocAt c.cs c.cl (W.P c.Fm) h m p.1 v ∧ p.2.is c.Fm W h v) ∧ p.2.stable = true ∧ (p.1 == Str.ofString "__debug__") = false
structure Sim (c : Gx) (h : Heap) (l : Loc) (W : Wd) : Prop where
  ok : c.Ok
  fr : ∃ m, Fr c.g c.L h m ∧ LocOk c h l W m
  ws : WS c.w c.Fm c.g c.L h W
  it : ∀ x ∈ c.its, (∃ o, h.get? x = some o) ∧ ¬ W.Mut x

theorem Sim.K {c h l W} (x : Sim c h l W) : c.K.In h := let ⟨_, F, _⟩ := x.fr; x.ok.X.keeps F.keep
theorem Fr.stp {w F g L h W W' h' m} (ws : WS w F g L h W) (a : Stp Nil W h W' h') (fr : Fr g L h m) : Fr g L h' m := by
  have nm : ∀ b o, g.get? b = some o → ¬ W.Mut b := fun b o e ⟨r, hr⟩ => by have := (ws.fresh r b hr).1; rw [e] at this; cases this
  have nL : ¬ W.Mut L := fun ⟨r, hr⟩ => (ws.fresh r L hr).2 rfl
  obtain ⟨oL, es, ep, hL, r⟩ := fr.ns
  exact ⟨⟨oL, es, ep, a.keep _ _ hL nL id, r⟩, fun b o e => a.keep b o (fr.keep b o e) (nm b o e) id, fr.above⟩
theorem WS.Lmut {w F g L h W} (ws : WS w F g L h W) : ¬ W.Mut L := fun ⟨r, hr⟩ => (ws.fresh r L hr).2 rfl
theorem WS.gmut {w F g L h W} (ws : WS w F g L h W) {b o} (e : g.get? b = some o) : ¬ W.Mut b := fun ⟨r, hr⟩ => by have := (ws.fresh r b hr).1; rw [e] at this; cases this
theorem LocOk.stp {X : Addr → Prop} {c h l W m W' h'} (hX : ∀ x, X x → c.Fm x) (x : LocOk c h l W m) (a : Stp X W h W' h') : LocOk c h' l W' m := fun p hp => by
  obtain ⟨⟨v, e, i⟩, st, r⟩ := x p hp
  exact ⟨⟨v, e.imp (fun _ _ q n => notP hX a q n), SV.is_stp hX a st i⟩, st, r⟩
theorem nilF {F : Addr → Prop} : ∀ x, Nil x → F x := fun _ z => z.elim
theorem Sim.stp {c h l W W' h'} (x : Sim c h l W) (a : Stp Nil W h W' h') (ws : WS c.w c.Fm c.g c.L h' W') : Sim c h' l W' := by
  obtain ⟨m, F, hl⟩ := x.fr
  exact ⟨x.ok, ⟨m, Fr.stp x.ws a F, hl.stp nilF a⟩, ws, fun y hy => let ⟨⟨o, e⟩, n⟩ := x.it y hy; ⟨a.live y o e, a.notMut e n⟩⟩

/-! over a heap that keeps all, and under another set of frames -/
/-- two worlds with the same addresses and the same roles alive -/
structure Like (W W' : Wd) : Prop where
  ad : W'.ad = W.ad
  dad : W'.dad = W.dad
  adrs : ∀ r, W'.adrs r = W.adrs r
  ab : ∀ r, W'.ob r = .absent ↔ W.ob r = .absent
theorem Like.refl (W : Wd) : Like W W := ⟨rfl, rfl, fun _ => rfl, fun _ => Iff.rfl⟩
theorem Like.mut {W W'} (k : Like W W') : W'.Mut = W.Mut := by
  funext x
  unfold Wd.Mut
  simp only [k.adrs]
theorem SV.is_imp {F F' : Addr → Prop} {W W' : Wd} {h h' : Heap} (K : Like W W') (k : ∀ b o, h.get? b = some o → ¬ W.P F b → h'.get? b = some o ∧ ¬ W'.P F' b) {sv : SV} {v : Value} (x : sv.is F W h v) : sv.is F' W' h' v := by
  cases sv with
  | role r => exact ⟨by rw [K.ad]; exact x.1, fun e => x.2 ((K.ab r).mp e)⟩
  | lst ns => exact IsLst.imp k x
  | piece ns => exact IsPiece.imp k x
  | lol L => exact IsLol.imp k x
  | trip p q => exact IsTrip.imp k x
  | trips L => exact IsTrips.imp k x
  | pcl L => exact IsPcl.imp k x
  | rng n => exact IsRng.imp k x
  | ipair p q => obtain ⟨b, t, u, n, e, o, m⟩ := x; exact ⟨b, t, u, n, e, (k _ _ o m).1, (k _ _ o m).2⟩
  | stt T p L => obtain ⟨b, v1, t, v3, n, e, o, l1, l2, m⟩ := x; exact ⟨b, v1, t, v3, n, e, (k _ _ o m).1, IsLst.imp k l1, IsLol.imp k l2, (k _ _ o m).2⟩
  | _ => exact x
theorem SV.is_core {F F' : Addr → Prop} {W W' : Wd} {h h' : Heap} (k : ∀ b o, h.get? b = some o → ¬ W.P F b → h'.get? b = some o ∧ ¬ W'.P F' b) {sv : SV} {v : Value} (hr : ∀ r, sv = .role r → W.ob r ≠ .absent → W'.ad r = W.ad r ∧ W'.ob r ≠ .absent) (x : sv.is F W h v) : sv.is F' W' h' v := by
  cases sv with
  | role r => obtain ⟨e1, e2⟩ := hr r rfl x.2; exact ⟨by rw [e1]; exact x.1, e2⟩
  | lst ns => exact IsLst.imp k x
  | piece ns => exact IsPiece.imp k x
  | lol L => exact IsLol.imp k x
  | trip p q => exact IsTrip.imp k x
  | trips L => exact IsTrips.imp k x
  | pcl L => exact IsPcl.imp k x
  | rng n => exact IsRng.imp k x
  | ipair p q => obtain ⟨b, t, u, n, e, o, m⟩ := x; exact ⟨b, t, u, n, e, (k _ _ o m).1, (k _ _ o m).2⟩
  | stt T p L => obtain ⟨b, v1, t, v3, n, e, o, l1, l2, m⟩ := x; exact ⟨b, v1, t, v3, n, e, (k _ _ o m).1, IsLst.imp k l1, IsLol.imp k l2, (k _ _ o m).2⟩
  | _ => exact x
theorem EntAre.imp {F F' : Addr → Prop} {W W' : Wd} {h h' : Heap} (f : ∀ sv v, SV.is F W h sv v → SV.is F' W' h' sv v) {es A} (x : EntAre F W h es A) : EntAre F' W' h' es A := by
  induction x with
  | nil => exact .nil
  | cons a _ ih => exact .cons (f _ _ a) ih
/-- a role's object stands on where its own places and all that is not to be turned stand on -/
theorem SO.imp {w : World} {F F' : Addr → Prop} {W W' : Wd} {h h' : Heap} (K : Like W W') (k : ∀ b o, h.get? b = some o → ¬ W.P F b → h'.get? b = some o ∧ ¬ W'.P F' b) {r : Role}
    (ka : ∀ x ∈ W.adrs r, ∀ o, h.get? x = some o → h'.get? x = some o) (x : SO.holds w F W h r (W.ob r)) : SO.holds w F' W' h' r (W.ob r) := by
  cases q : W.ob r with
  | absent => trivial
  | inst C A =>
    rw [q] at x
    obtain ⟨a, es, n, b, en⟩ := x
    have e1 : W.adrs r = [W.ad r, W.dad r] := by unfold Wd.adrs; rw [q]
    refine ⟨?_, es, n, ?_, en.imp fun _ _ z => SV.is_imp K k z⟩
    · rw [K.ad, K.dad]; exact ka _ (by rw [e1]; simp) _ a
    · rw [K.dad]; exact ka _ (by rw [e1]; simp) _ b
  | nums ns =>
    rw [q] at x
    obtain ⟨vs, n, a, i⟩ := x
    have e1 : W.adrs r = [W.ad r] := by unfold Wd.adrs; rw [q]
    exact ⟨vs, n, by rw [K.ad]; exact ka _ (by rw [e1]; simp) _ a, i⟩
  | pieces ns =>
    rw [q] at x
    obtain ⟨vs, n, a, i⟩ := x
    have e1 : W.adrs r = [W.ad r] := by unfold Wd.adrs; rw [q]
    exact ⟨vs, n, by rw [K.ad]; exact ka _ (by rw [e1]; simp) _ a, All2.imp (fun _ _ z => IsPiece.imp k z) i⟩
  | slist ns =>
    rw [q] at x
    obtain ⟨vs, n, a, i⟩ := x
    have e1 : W.adrs r = [W.ad r] := by unfold Wd.adrs; rw [q]
    exact ⟨vs, n, by rw [K.ad]; exact ka _ (by rw [e1]; simp) _ a, All2.imp (fun _ _ z => SV.is_imp K k z) i⟩
  | rows b =>
    rw [q] at x
    have e1 : W.adrs r = [W.ad r] := by unfold Wd.adrs; rw [q]
    obtain ⟨⟨o, es, ep, ho, r⟩, z, lo⟩ := x
    exact ⟨⟨o, es, ep, by rw [K.ad]; exact ka _ (by rw [e1]; simp) _ ho, by rw [K.ad]; exact r⟩, fun e y => z e ((K.ab _).mp y), by rw [K.ad]; exact lo⟩
section
variable {w : World} {F F' : Addr → Prop} {g : Heap} {L : Addr} {W : Wd} {h h' : Heap}
theorem keepsP (hF : ∀ x o, F' x → h.get? x = some o → F x) (k : ∀ b o, h.get? b = some o → h'.get? b = some o) : ∀ b o, h.get? b = some o → ¬ W.P F b → h'.get? b = some o ∧ ¬ W.P F' b :=
  fun b o e m => ⟨k b o e, fun z => z.elim (fun y => m (.inl y)) fun y => m (.inr (hF b o y e))⟩
theorem SV.is_keeps (hF : ∀ x o, F' x → h.get? x = some o → F x) (k : ∀ b o, h.get? b = some o → h'.get? b = some o) {sv v} (x : SV.is F W h sv v) : SV.is F' W h' sv v := SV.is_imp (.refl W) (keepsP hF k) x
theorem WS.keeps (hF : ∀ x o, F' x → h.get? x = some o → F x) (k : ∀ b o, h.get? b = some o → h'.get? b = some o) (x : WS w F g L h W) : WS w F' g L h' W :=
  ⟨fun r => SO.imp (.refl W) (keepsP hF k) (fun x _ o e => k x o e) (x.holds r), x.fresh, x.apart, x.nodup⟩
theorem Stp.ofKeeps (k : ∀ b o, h.get? b = some o → h'.get? b = some o) : Stp Nil W h W h' := ⟨fun b o e _ _ => k b o e, fun _ m => .inl m, fun b o e => ⟨o, k b o e⟩, fun _ _ e => ⟨rfl, e⟩⟩
end
theorem Sim.keeps {c h h' l W} (k : ∀ b o, h.get? b = some o → h'.get? b = some o) (x : Sim c h l W) : Sim c h' l W := x.stp (Stp.ofKeeps k) (x.ws.keeps (fun _ _ z _ => z) k)

/-! ### the judgements -/
/-- a tree that gives a value -/
noncomputable def Tr (c : Gx) (l : Loc) (W : Wd) (P : Heap → Sem Value → Prop) (C : SV → Wd → Prop) : Prop :=
  ∀ (s : Shared) (h : Heap) (t : Nat) (Q E : Value → Shared → Prop) (tr : Sem Value), Sim c h l W → P h tr →
    (∀ v h' t' sv W', SV.is c.Fm W' h' sv v → Sim c h' l W' → Stp c.X W h W' h' → C sv W' → Q v (St s h' t')) → wpAny c.M c.A tr Q E (St s h t)
noncomputable def Ev (c : Gx) (l : Loc) (W : Wd) (e : Expr) (C : SV → Wd → Prop) : Prop := Tr c l W (fun _ tr => tr = eval e c.env) C
/-- a tree that gives a bool -/
noncomputable def TB (c : Gx) (l : Loc) (W : Wd) (tr : Sem Bool) (C : Bool → Wd → Prop) : Prop :=
  ∀ (s : Shared) (h : Heap) (t : Nat) (Q : Bool → Shared → Prop) (E : Value → Shared → Prop), Sim c h l W →
    (∀ b h' t' W', Sim c h' l W' → Stp c.X W h W' h' → C b W' → Q b (St s h' t')) → wpAny c.M c.A tr Q E (St s h t)
noncomputable def Is (c : Gx) (l : Loc) (W : Wd) (e : Expr) (C : Bool → Wd → Prop) : Prop := TB c l W (isTrue e c.env (eval e c.env)) C
/-- the arguments' values -/
noncomputable def Ars (c : Gx) (l : Loc) (W : Wd) (tr : Sem (List Value)) (C : List SV → Wd → Prop) : Prop :=
  ∀ (s : Shared) (h : Heap) (t : Nat) (Q : List Value → Shared → Prop) (E : Value → Shared → Prop), Sim c h l W →
    (∀ vs h' t' svs W', All2 (SV.is c.Fm W' h') svs vs → Sim c h' l W' → Stp c.X W h W' h' → C svs W' → Q vs (St s h' t')) → wpAny c.M c.A tr Q E (St s h t)
inductive Fl | next | brk | cont | ret (sv : SV)
noncomputable def Fl.is (F : Addr → Prop) (W : Wd) (h : Heap) : Fl → Flow → Prop
  | .next, f => f = .next
  | .brk, f => f = .brk
  | .cont, f => f = .cont
  | .ret sv, f => ∃ v, f = .ret v ∧ sv.is F W h v
noncomputable def TF (c : Gx) (l : Loc) (W : Wd) (tr : Sem Flow) (C : Fl → Loc → Wd → Prop) : Prop :=
  ∀ (s : Shared) (h : Heap) (t : Nat) (Q : Flow → Shared → Prop) (E : Value → Shared → Prop), Sim c h l W →
    (∀ f h' t' fl l' W', Fl.is c.Fm W' h' fl f → Sim c h' l' W' → Stp c.X W h W' h' → C fl l' W' → Q f (St s h' t')) → wpAny c.M c.A tr Q E (St s h t)
/-- a statement -/
noncomputable def Sx (c : Gx) (l : Loc) (W : Wd) (st : Stmt) (C : Fl → Loc → Wd → Prop) : Prop := TF c l W (exec st c.env) C
/-- a run of statements -/
noncomputable def Ex (c : Gx) (l : Loc) (W : Wd) (b : List Stmt) (C : Fl → Loc → Wd → Prop) : Prop := TF c l W (execs b c.env) C
/-- a call -/
noncomputable def FS (n : Nat) (f : Value) (args : List SV) (W : Wd) (C : SV → Wd → Prop) : Prop :=
  ∀ (c : Gx) (s : Shared) (h : Heap) (t : Nat) (R : Result → Shared → Prop) (vs : List Value), n ≤ c.n → Sim c h [] W → All2 (SV.is c.Fm W h) args vs →
    (∀ v h' t' sv W', SV.is c.Fm W' h' sv v → WS c.w c.Fm c.g c.L h' W' → Stp Nil W h W' h' → C sv W' → R (.ok (.ret v)) (St s h' t')) → codeAny c.M c.A (.call f ⟨vs, []⟩) R (St s h t)
end
section

theorem WS.live {w F g L h W} (ws : WS w F g L h W) {r : Role} {x : Addr} (hx : x ∈ W.adrs r) : ∃ o, h.get? x = some o := by
  have H := ws.holds r
  unfold Wd.adrs at hx
  cases e : W.ob r with
  | absent => rw [e] at hx; cases hx
  | inst C A =>
    rw [e] at hx H
    obtain ⟨a, es, n, b, _⟩ := H
    simp only [List.mem_cons, List.not_mem_nil, or_false] at hx
    rcases hx with rfl | rfl
    · exact ⟨_, a⟩
    · exact ⟨_, b⟩
  | nums ns =>
    rw [e] at hx H
    obtain ⟨vs, n, a, _⟩ := H
    simp only [List.mem_cons, List.not_mem_nil, or_false] at hx
    exact hx ▸ ⟨_, a⟩
  | pieces ns =>
    rw [e] at hx H
    obtain ⟨vs, n, a, _⟩ := H
    simp only [List.mem_cons, List.not_mem_nil, or_false] at hx
    exact hx ▸ ⟨_, a⟩
  | slist ns =>
    rw [e] at hx H
    obtain ⟨vs, n, a, _⟩ := H
    simp only [List.mem_cons, List.not_mem_nil, or_false] at hx
    exact hx ▸ ⟨_, a⟩
  | rows b =>
    rw [e] at hx H
    simp only [List.mem_cons, List.not_mem_nil, or_false] at hx
    obtain ⟨⟨o, es, ep, a, _⟩, _⟩ := H
    exact hx ▸ ⟨_, a⟩
noncomputable def Wd.all (W : Wd) : List Addr := Role.all.flatMap W.adrs
theorem Wd.mem_all {W : Wd} {x : Addr} : x ∈ W.all ↔ W.Mut x := by
  unfold Wd.all Wd.Mut
  rw [List.mem_flatMap]
  exact ⟨fun ⟨r, _, h⟩ => ⟨r, h⟩, fun ⟨r, h⟩ => ⟨r, r.mem_all, h⟩⟩
noncomputable def Wd.news (W : Wd) (h : Heap) : List (Addr × Obj) := W.all.map fun x => (x, (h.get? x).getD default)
theorem Wd.news_map (W : Wd) (h : Heap) : (W.news h).map (·.1) = W.all := by
  unfold Wd.news
  rw [List.map_map]
  exact List.map_id _
theorem WS.news {w F g L h W} (ws : WS w F g L h W) : News g L h (W.news h) := by
  intro p hp
  obtain ⟨x, hx, rfl⟩ := List.mem_map.mp hp
  obtain ⟨r, hr⟩ := Wd.mem_all.mp hx
  obtain ⟨o, ho⟩ := ws.live hr
  refine ⟨?_, (ws.fresh r x hr).2, (ws.fresh r x hr).1⟩
  show h.get? x = some ((h.get? x).getD default)
  rw [ho]; rfl
theorem WS.memlt {w F g L h W} (ws : WS w F g L h W) {x} (m : W.Mut x) : x < h.objs.size := by
  obtain ⟨r, hr⟩ := m
  obtain ⟨o, ho⟩ := ws.live hr
  exact Heap.lt_size ho

/-- names zipped with values, read from behind -/
theorem zip_lookup {R : SV → Value → Prop} : ∀ {names : List Str} {args : List SV} {vs : List Value}, names.Nodup → All2 R args vs → ∀ p ∈ names.zip args, ∃ v, (names.zip vs).reverse.lookup p.1 = some v ∧ R p.2 v := by
  intro names args vs hn h
  have key : ∀ {names : List Str} {args : List SV} {vs : List Value}, names.Nodup → All2 R args vs → ∀ p ∈ names.zip args, ∃ v, (p.1, v) ∈ names.zip vs ∧ R p.2 v := by
    intro names
    induction names with
    | nil => intro args vs _ _ p hp; simp at hp
    | cons x xs ih =>
      intro args vs hn h p hp
      cases h with
      | nil => simp at hp
      | cons h1 h2 =>
        rename_i a b as bs
        simp only [List.zip_cons_cons, List.mem_cons] at hp ⊢
        rcases hp with rfl | hp
        · exact ⟨b, .inl rfl, h1⟩
        · obtain ⟨v, hv, hr⟩ := ih (List.nodup_cons.mp hn).2 h2 p hp
          exact ⟨v, .inr hv, hr⟩
  have look : ∀ {l : List (Str × Value)} {x : Str} {v : Value}, (l.map (·.1)).Nodup → (x, v) ∈ l → l.lookup x = some v := by
    intro l
    induction l with
    | nil => intro x v _ h; cases h
    | cons q l ih =>
      intro x v hn h
      obtain ⟨y, u⟩ := q
      rw [List.lookup_cons]
      by_cases e : x = y
      · subst e
        rw [beq_self_eq_true]
        rcases List.mem_cons.mp h with e | h
        · cases e; rfl
        · exact absurd (List.mem_map.mpr ⟨_, h, rfl⟩) (List.nodup_cons.mp hn).1
      · have : (x == y) = false := by simpa using e
        rw [this]
        rcases List.mem_cons.mp h with e' | h
        · cases e'; exact absurd rfl e
        · exact ih (List.nodup_cons.mp hn).2 h
  intro p hp
  obtain ⟨v, hv, hr⟩ := key hn h p hp
  refine ⟨v, look ?_ (List.mem_reverse.mpr hv), hr⟩
  rw [List.map_reverse]
  refine List.pairwise_reverse.mpr (List.Pairwise.imp (fun h => Ne.symm h) ?_)
  have : ∀ {names : List Str} {vs : List Value}, names.Nodup → ((names.zip vs).map (·.1)).Nodup := by
    intro names
    induction names with
    | nil => intro vs _; simp
    | cons x xs ih =>
      intro vs hn
      cases vs with
      | nil => simp
      | cons v vs =>
        simp only [List.zip_cons_cons, List.map_cons, List.nodup_cons]
        refine ⟨fun hm => ?_, ih (List.nodup_cons.mp hn).2⟩
        obtain ⟨q, hq, e⟩ := List.mem_map.mp hm
        have h3 := (List.of_mem_zip hq).1
        rw [e] at h3
        exact (List.nodup_cons.mp hn).1 h3
  exact this hn

theorem All2.append {α β : Type} {R : α → β → Prop} {as bs cs ds} (h : All2 R as bs) (h' : All2 R cs ds) : All2 R (as ++ cs) (bs ++ ds) := by
  induction h with
  | nil => exact h'
  | cons a _ ih => exact .cons a ih

/-- what a body ends with -/
noncomputable def Done (C : SV → Wd → Prop) (f : Fl) (_ : Loc) (W : Wd) : Prop := match f with
  | .ret sv => C sv W
  | .next => C .none W
  | _ => False

/-- all that is closed about a def -/
noncomputable def fnOk (names : List Str) (scope : Scope) : Bool :=
  decide names.Nodup && names.all (fun y => decide (scope.names.lookup y = some .local) && !(y == Str.ofString "__debug__")) && scope.names.all (fun x => decide (x.2 ≠ .cell)) && !scope.isCoroutine && !scope.isGenerator && decide (scope.kind = .function)

/-- the frame of a def that is called -/
noncomputable def Gx.callee (c : Gx) (n : Nat) (f : Addr) (q : String) (scope : Scope) (h : Heap) (W : Wd) (cl : List (Str × Addr)) : Gx :=
  ⟨c.w, c.K, n, c.A.deeper (envX (Str.ofString q) scope h.objs.size f (.ref (f - 1)) cl), c.A, c.base, c.env :: c.outer, hideAll h W.all, Str.ofString q, scope, h.objs.size, f, .ref (f - 1), c.its, cl⟩
section
variable {c : Gx} {n : Nat} {f : Addr} {q : String} {scope : Scope} {h : Heap} {W : Wd} {cl : List (Str × Addr)} {l : Loc}
theorem calleeOk (s : Shared) (sim : Sim c h l W) (hcn : n + 1 ≤ c.n) (hk : scope.kind = .function) : (c.callee n f q scope h W cl).Ok := by
  have ok := sim.ok
  obtain ⟨m, F, -⟩ := sim.fr
  obtain ⟨FG, BG, st, -⟩ := groundX (R := fun _ _ => True) (s := St s h 0) (env := c.env) ok.B F sim.ws.news ok.fr rfl ok.kf
  rw [Wd.news_map] at FG BG st
  refine ⟨BG, ?_, hk, ok.XB, ok.F, ok.TB, ok.hd, ?_, ?_⟩
  · show c.A.frames.map _ = _
    rw [ok.fr]; rfl
  · have := ok.dep; show c.A.depth + 1 + n ≤ 400; omega
  · have := ok.un; show c.A.units + 3 + 8 * n ≤ 1200; omega
theorem calleeFm (x : Addr) (o : Obj) (y : (c.callee n f q scope h W cl).Fm x) (hx : h.get? x = some o) : c.Fm x := by
  rcases y with ⟨e, he, ex⟩ | y
  · rcases List.mem_cons.mp he with rfl | he
    · have e1 : h.objs.size = x := Option.some.inj ex
      have e2 := Heap.lt_size hx
      rw [← e1] at e2
      exact absurd e2 (Nat.lt_irrefl _)
    · exact .inl ⟨e, he, ex⟩
  · exact .inr y
theorem calleeFm' (x : Addr) (y : c.Fm x) : (c.callee n f q scope h W cl).Fm x := y.imp (fun ⟨e, he, ex⟩ => ⟨e, .tail _ he, ex⟩) id
theorem calleeSim (s : Shared) {h₂ : Heap} {m : Str → Option Value} {l₂ : Loc} (sim : Sim c h l W) (hcn : n + 1 ≤ c.n) (hk : scope.kind = .function) (kp : ∀ b o, h.get? b = some o → h₂.get? b = some o) (hn : h₂.Ns h.objs.size m)
    (loc : ∀ p ∈ l₂, (∃ v, LocAt scope cl (W.P (c.callee n f q scope h W cl).Fm) h₂ m p.1 v ∧ SV.is c.Fm W h p.2 v) ∧ p.2.stable = true ∧ (p.1 == Str.ofString "__debug__") = false) : Sim (c.callee n f q scope h W cl) h₂ l₂ W := by
  have ws := sim.ws
  refine ⟨calleeOk s sim hcn hk, ⟨m, ⟨hn, fun b o e => kp b o (of_hideAll _ e), Nat.le_of_eq (hideAll_size _ _)⟩, fun p hp => ?_⟩, ?_, fun y hy => let ⟨⟨o, e⟩, n⟩ := sim.it y hy; ⟨⟨o, kp y o e⟩, n⟩⟩
  · obtain ⟨⟨v, e, i⟩, r⟩ := loc p hp
    exact ⟨⟨v, e, SV.is_keeps calleeFm kp i⟩, r⟩
  · have a := ws.keeps (F' := (c.callee n f q scope h W cl).Fm) calleeFm kp
    exact ⟨a.holds, fun r x hx => ⟨hideAll_none _ (Wd.mem_all.mpr ⟨r, hx⟩), Nat.ne_of_lt (ws.memlt ⟨r, hx⟩)⟩, a.apart, a.nodup⟩
theorem calleeStp {h₂ h' : Heap} {W' : Wd} (kp : ∀ b o, h.get? b = some o → h₂.get? b = some o) (stp : Stp (c.callee n f q scope h W cl).X W h₂ W' h') : Stp Nil W h W' h' := by
  refine ⟨fun b o e n _ => stp.keep b o (kp b o e) n fun z => ?_, fun x m => (stp.new x m).imp id fun q => ?_, fun x o e => stp.live x o (kp x o e), stp.role⟩
  · have := Heap.lt_size e; rw [show b = h.objs.size from z] at this; exact Nat.lt_irrefl _ this
  · cases e : h.get? x with
    | none => rfl
    | some o => rw [kp x o e] at q; cases q
theorem calleeWS {h' : Heap} {W' : Wd} (sim : Sim c h l W) (stp' : Stp Nil W h W' h') (ws' : WS c.w (c.callee n f q scope h W cl).Fm (c.callee n f q scope h W cl).g (c.callee n f q scope h W cl).L h' W') : WS c.w c.Fm c.g c.L h' W' ∧ ∀ {sv v}, SV.is (c.callee n f q scope h W cl).Fm W' h' sv v → SV.is c.Fm W' h' sv v := by
  have weak : ∀ b o, h'.get? b = some o → ¬ W'.P (c.callee n f q scope h W cl).Fm b → h'.get? b = some o ∧ ¬ W'.P c.Fm b := fun b o e m => ⟨e, fun z => m (z.elim .inl fun y => .inr (calleeFm' b y))⟩
  obtain ⟨m, F, -⟩ := sim.fr
  refine ⟨⟨fun r => SO.imp (.refl W') weak (fun _ _ _ e => e) (ws'.holds r), fun r x hx => ?_, ws'.apart, ws'.nodup⟩, fun i => SV.is_imp (.refl W') weak i⟩
  rcases stp'.new x ⟨r, hx⟩ with ⟨r', q⟩ | q
  · exact sim.ws.fresh r' x q
  · refine ⟨?_, ?_⟩
    · cases e : c.g.get? x with
      | none => rfl
      | some o => have := F.keep _ _ e; rw [this] at q; cases q
    · rintro rfl
      obtain ⟨oL, _, _, e, _⟩ := F.ns
      rw [e] at q; cases q
/-- a body's end is the call's -/
theorem calleeEnd {h₂ h' : Heap} {t' : Nat} {W' : Wd} {l' : Loc} {s : Shared} {C : SV → Wd → Prop} {R : Result → Shared → Prop} {fl : Flow} {fl' : Fl} (sim : Sim c h l W) (kp : ∀ b o, h.get? b = some o → h₂.get? b = some o)
    (hR : ∀ v h' t' sv W', SV.is c.Fm W' h' sv v → WS c.w c.Fm c.g c.L h' W' → Stp Nil W h W' h' → C sv W' → R (.ok (.ret v)) (St s h' t'))
    (hfl : Fl.is (c.callee n f q scope h W cl).Fm W' h' fl' fl) (sim₂ : Sim (c.callee n f q scope h W cl) h' l' W') (stp : Stp (c.callee n f q scope h W cl).X W h₂ W' h') (hC : Done C fl' l' W') : R (.ok (.ret (match (generalizing := false) fl with | .ret v => v | _ => .none))) (St s h' t') := by
  have stp' := calleeStp kp stp
  obtain ⟨ws', back⟩ := calleeWS sim stp' sim₂.ws
  cases fl' with
  | next => subst hfl; exact hR _ h' t' .none W' rfl ws' stp' hC
  | ret sv => obtain ⟨v, rfl, i⟩ := hfl; exact hR v h' t' sv W' (back i) ws' stp' hC
  | brk => exact hC.elim
  | cont => exact hC.elim
end
theorem zip_self {args : List SV} {l : Loc} (hal : args = l.map (·.2)) : (l.map (·.1)).zip args = l := by
  rw [hal]
  clear hal
  induction l with
  | nil => rfl
  | cons p l ih => simp only [List.map_cons, List.zip_cons_cons, ih]
/-- into a def -/
theorem entry0 {n : Nat} {f : Addr} {args : List SV} {W : Wd} {q : String} {name : Str} {params : Arguments} {body : List Stmt} {scope : Scope} {ds : List Value}
    (hF : ∀ K, KF K → FnIs K f q name params body scope ds) (l : Loc) (dsv : List SV) (dvs : List Value) (hal : args ++ dsv = l.map (·.2))
    (hb : ∀ (dV doc pm ct : Value) (an : Option Addr) (s : Shared) (vs : List Value), vs.length = args.length → (match ds with | [] => dV = .none | _ :: _ => ∃ T o n, dV = .ref T ∧ s.heap.get? T = some o ∧ o.data = .seq ds.toArray n) →
      BindsTo s (fnOf name (Str.ofString q) params body scope dV .none doc pm an (.ref (f - 1)) ct) ⟨vs, []⟩ ((l.map (·.1)).zip (vs ++ dvs)))
    (hd : ∀ F W h, All2 (SV.is F W h) dsv dvs) (hst : l.all (fun p => p.2.stable) = true) (hok : fnOk (l.map (·.1)) scope = true)
    {c : Gx} {s : Shared} {h : Heap} {t : Nat} {R : Result → Shared → Prop} {vs : List Value} (hcn : n + 1 ≤ c.n) (sim : Sim c h [] W) (ha : All2 (SV.is c.Fm W h) args vs)
    (H : ∀ h₁ t₁, (∀ b o, h.get? b = some o → h₁.get? b = some o) → Sim (c.callee n f q scope h W []) h₁ l W →
      wpAny c.M (c.callee n f q scope h W []).A (execs body (c.callee n f q scope h W []).env) (fun fl s' => R (.ok (.ret (match fl with | .ret v => v | _ => .none))) s')
        (fun e s' => wpAny c.M (c.callee n f q scope h W []).A (leaving (c.callee n f q scope h W []).env e) (fun _ s'' => R (.error e) s'') (fun e' s'' => R (.error e') s'') s') (St s h₁ t₁)) : codeAny c.M c.A (.call (.ref f) ⟨vs, []⟩) R (St s h t) := by
  have ok := sim.ok
  have X := sim.K
  obtain ⟨m, F, -⟩ := sim.fr
  obtain ⟨oc, od, osl, dV, doc, pm, an, ct, ho, hcd, hdef⟩ := hF _ ok.F
  simp only [fnOk, Bool.and_eq_true, decide_eq_true_eq, List.all_eq_true, Bool.not_eq_true'] at hok
  obtain ⟨⟨⟨⟨⟨hn, hnames⟩, hcell⟩, hco⟩, hgen⟩, hk⟩ := hok
  obtain ⟨p, loose, mean, mg, mb, T⟩ := ok.T
  have bnd := hb dV doc pm ct an (St s h t) vs ha.length.symm (by cases ds with | nil => exact hdef | cons d ds => exact let ⟨T, tc, td, n, tsl, e, q⟩ := hdef; ⟨T, _, n, e, X _ _ q, rfl⟩)
  refine codeAny_call_def (fd := fnOf name (Str.ofString q) params body scope dV .none doc pm an (.ref (f - 1)) ct) (body := body) (binds := (l.map (·.1)).zip (vs ++ dvs)) (by have := ok.dep; show c.A.depth < 1000; (clear hcn; omega)) (X _ _ ho) rfl (T.nolimit.keeps F.keep) (codeRec_of X hcd) rfl bnd hcell
    (fun x hx => (hnames x.1 (List.of_mem_zip (show (x.1, x.2) ∈ _ from hx)).1).1) (fun h₁ hns hk₁ => ?_) hco hgen hk
  have hk₁ : ∀ b o, h.get? b = some o → h₁.get? b = some o := hk₁
  have sim' : Sim (c.callee n f q scope h W []) h₁ l W := calleeSim (m := fun y => ((l.map (·.1)).zip (vs ++ dvs)).reverse.lookup y) s sim hcn hk hk₁ hns fun pr hpr => by
    rw [← zip_self hal] at hpr
    have hm := List.of_mem_zip (show (pr.1, pr.2) ∈ _ from hpr)
    obtain ⟨v, e, i⟩ := zip_lookup hn (ha.append (hd c.Fm W h)) pr hpr
    rw [zip_self hal] at hpr
    exact ⟨⟨v, .inl ⟨e, (hnames _ hm.1).1⟩, i⟩, List.all_eq_true.mp hst _ hpr, (hnames _ hm.1).2⟩
  exact H h₁ _ hk₁ sim'
theorem FS.enter {n : Nat} {f : Addr} {args : List SV} {W : Wd} {C : SV → Wd → Prop} {q : String} {name : Str} {params : Arguments} {body : List Stmt} {scope : Scope} {ds : List Value}
    (hF : ∀ K, KF K → FnIs K f q name params body scope ds) (l : Loc) (dsv : List SV) (dvs : List Value) (hal : args ++ dsv = l.map (·.2))
    (hb : ∀ (dV doc pm ct : Value) (an : Option Addr) (s : Shared) (vs : List Value), vs.length = args.length → (match ds with | [] => dV = .none | _ :: _ => ∃ T o n, dV = .ref T ∧ s.heap.get? T = some o ∧ o.data = .seq ds.toArray n) →
      BindsTo s (fnOf name (Str.ofString q) params body scope dV .none doc pm an (.ref (f - 1)) ct) ⟨vs, []⟩ ((l.map (·.1)).zip (vs ++ dvs)))
    (hd : ∀ F W h, All2 (SV.is F W h) dsv dvs) (hst : l.all (fun p => p.2.stable) = true) (hok : fnOk (l.map (·.1)) scope = true)
    (H : ∀ c : Gx, c.n = n → c.cs = scope → Ex c l W body (Done C)) : FS (n + 1) (.ref f) args W C := fun c s h t R vs hcn sim ha hR =>
  entry0 hF l dsv dvs hal hb hd hst hok hcn sim ha fun h₁ t₁ hk₁ sim' => H _ rfl rfl s h₁ _ _ _ sim' fun fl h' t' f l' W' hfl sim₂ stp hC => calleeEnd sim hk₁ hR hfl sim₂ stp hC

theorem Sim.live {c : Gx} {h : Heap} {l : Loc} {W : Wd} (sim : Sim c h l W) {x : Addr} (hx : W.P c.Fm x) : ∃ o, h.get? x = some o := by
  rcases hx with ⟨r, hr⟩ | ⟨e, he, ex⟩ | hx
  · exact sim.ws.live hr
  rotate_left
  · exact (sim.it _ hx).1
  · obtain ⟨m, F, _⟩ := sim.fr
    rcases List.mem_cons.mp he with rfl | he
    · obtain ⟨oL, _, _, hL, _⟩ := F.ns
      have e1 : c.L = x := Option.some.inj ex
      exact ⟨oL, e1 ▸ hL⟩
    · obtain ⟨L₁, o₁, h1, h2⟩ := funFrames_in sim.ok.B.frames e he
      rw [h1] at ex
      have e1 : L₁ = x := Option.some.inj ex
      exact ⟨o₁, F.keep _ _ (e1 ▸ h2)⟩
theorem Sim.fresh {c : Gx} {h : Heap} {l : Loc} {W : Wd} (sim : Sim c h l W) {x : Addr} (hx : h.get? x = none) : ¬ W.P c.Fm x := fun z => by
  obtain ⟨o, e⟩ := sim.live z
  rw [hx] at e; cases e
end
section
variable {c : Gx} {l : Loc} {W : Wd} {C : SV → Wd → Prop}

theorem iInt {F : Addr → Prop} {W : Wd} {h : Heap} {i : Int} {t : Tok} : SV.is F W h (.int i) (.int i t) := ⟨t, rfl⟩
theorem iStr {F : Addr → Prop} {W : Wd} {h : Heap} {i : Str} {t : Tok} : SV.is F W h (.str i) (.str i t) := ⟨t, rfl⟩
theorem iBool {F : Addr → Prop} {W : Wd} {h : Heap} {b : Bool} : SV.is F W h (.bool b) (.bool b) := rfl
theorem iNone {F : Addr → Prop} {W : Wd} {h : Heap} : SV.is F W h .none .none := rfl
theorem iFn {F : Addr → Prop} {W : Wd} {h : Heap} {v : Value} : SV.is F W h (.fn v) v := rfl
/-! ### leaves -/
theorem Sim.name {x : Str} {pos : Pos} {sv : SV} {s : Shared} {h : Heap} {t : Nat} {Q E : Value → Shared → Prop} (sim : Sim c h l W) (hm : (x, sv) ∈ l) (hQ : ∀ v, sv.is c.Fm W h v → Q v (St s h t)) : wpAny c.M c.A (eval (.Name x pos) c.env) Q E (St s h t) := by
  obtain ⟨m, F, hl⟩ := sim.fr
  obtain ⟨⟨v, hv, i⟩, _, hd⟩ := hl _ hm
  rcases hv with ⟨hv, hk⟩ | ⟨hk, a, o, hc, ho, hdt, _⟩
  · exact nameX_L (s := St s h t) F hv (hQ v i) sim.ok.kf hk hd
  · exact wpAny_Name (wpAny_loadName_cell (s := St s h t) (env := c.env) sim.ok.kf hk hc ⟨o, ho, hdt⟩ (hQ v i)) hd
theorem Ev.name {x : Str} {pos : Pos} {sv : SV} (hm : (x, sv) ∈ l) (hC : C sv W) : Ev c l W (.Name x pos) C := by
  intro s h t Q E tr sim htr hQ
  subst htr
  exact sim.name hm fun v i => hQ v h t sv W i sim (.refl _ _ _) hC
theorem Ev.int {i : Int} {k pos} (hC : C (.int i) W) : Ev c l W (.Constant (.int i) k pos) C := by
  intro s h t Q E tr sim htr hQ
  subst htr
  exact wpAny_Constant_int (hQ _ h (t + 1) _ W iInt sim (.refl _ _ _) hC)
theorem Ev.str {x : Str} {k pos} (hC : C (.str x) W) : Ev c l W (.Constant (.str x) k pos) C := by
  intro s h t Q E tr sim htr hQ
  subst htr
  exact Calls.Constant_str (hQ _ h (t + 1) _ W iStr sim (.refl _ _ _) hC)
theorem Ev.bool {b : Bool} {k pos} (hC : C (.bool b) W) : Ev c l W (.Constant (.bool b) k pos) C := by
  intro s h t Q E tr sim htr hQ
  subst htr
  exact Constant_bool (hQ _ h t _ W iBool sim (.refl _ _ _) hC)
theorem Ev.none {k pos} (hC : C .none W) : Ev c l W (.Constant .none k pos) C := by
  intro s h t Q E tr sim htr hQ
  subst htr
  exact Constant_none (hQ _ h t _ W iNone sim (.refl _ _ _) hC)
/-- a global name -/
theorem Ev.glb {x : Str} {pos : Pos} {sc : Scope} (f : Addr) (hg : glbOk x f = true) (hs : c.cs = sc) (hk : sc.names.lookup x = some .globalImplicit) (hd : (x == Str.ofString "__debug__") = false) (hC : C (.fn (.ref f)) W) : Ev c l W (.Name x pos) C := by
  intro s h t Q E tr sim htr hQ
  subst htr
  obtain ⟨m, F, hl⟩ := sim.fr
  obtain ⟨p, loose, mean, mg, mb, T⟩ := sim.ok.T
  exact nameX_K (s := St s h t) F sim.ok.X (topRead_of T) (sim.ok.F.glb x f hg) (hQ _ h t _ W iFn sim (.refl _ _ _) hC) sim.ok.kf (by show c.cs.names.lookup x = _; rw [hs]; exact hk) hd
theorem Ev.blt {x : Str} {pos : Pos} {sc : Scope} {v : Value} (hg : bltOk x = true) (hv : bootBuiltins x = some v) (hs : c.cs = sc) (hk : sc.names.lookup x = some .globalImplicit) (hd : (x == Str.ofString "__debug__") = false) (hn : x ≠ "__name__") (hC : C (.fn v) W) : Ev c l W (.Name x pos) C := by
  intro s h t Q E tr sim htr hQ
  subst htr
  obtain ⟨m, F, hl⟩ := sim.fr
  obtain ⟨p, loose, mean, mg, mb, T⟩ := sim.ok.T
  exact nameX_B (s := St s h t) F sim.ok.X (topRead_of T) (sim.ok.F.blt x hg) hv hn (hQ _ h t _ W iFn sim (.refl _ _ _) hC) sim.ok.kf (by show c.cs.names.lookup x = _; rw [hs]; exact hk) hd

/-! ### attributes -/
theorem getL_ent {F : Addr → Prop} {W : Wd} {h : Heap} {es : List DictEntry} {A : List (Str × SV)} (x : EntAre F W h es A) (name : Str) {sv : SV} (hA : A.lookup name = some sv) : ∃ v, getL name es = some (some v) ∧ sv.is F W h v := by
  induction x with
  | nil => cases hA
  | @cons hs y t v sv' es A i _ ih =>
    unfold getL
    rw [List.find?_cons]
    rw [List.lookup_cons] at hA
    by_cases e : name = y
    · subst e
      rw [beq_self_eq_true] at hA
      cases hA
      have : (Value.str name t).isStr name = true := by show (name == name) = true; simp
      rw [this]
      exact ⟨v, rfl, i⟩
    · have q : (name == y) = false := by simpa using e
      rw [q] at hA
      have : (Value.str y t).isStr name = false := by show (y == name) = false; simpa using fun z => e z.symm
      rw [this]
      obtain ⟨u, hu, iu⟩ := ih hA
      refine ⟨u, ?_, iu⟩
      unfold getL at hu
      cases hf : es.find? fun e => e.key.isStr name with
      | some en => rw [hf] at hu; exact hu
      | none =>
        rw [hf] at hu
        simp only at hu
        split at hu <;> cases hu
theorem ent_noRef {F : Addr → Prop} {W : Wd} {h : Heap} {es : List DictEntry} {A : List (Str × SV)} (x : EntAre F W h es A) : es.any (·.refKey) = false := by
  induction x with
  | nil => rfl
  | cons _ _ ih => rw [List.any_cons, ih]; rfl
theorem getL_none {F : Addr → Prop} {W : Wd} {h : Heap} {es : List DictEntry} {A : List (Str × SV)} (x : EntAre F W h es A) (name : Str) (hA : A.lookup name = none) : getL name es = some none := by
  have hf : es.find? (fun e => e.key.isStr name) = none := by
    have x' := x
    induction x' with
    | nil => rfl
    | @cons hs y t v sv' es A i _ ih =>
      rw [List.lookup_cons] at hA
      rw [List.find?_cons]
      cases q : name == y with
      | true => rw [q] at hA; cases hA
      | false =>
        rw [q] at hA
        have : (Value.str y t).isStr name = false := by show (y == name) = false; simp only [beq_eq_false_iff_ne, ne_eq] at q ⊢; exact fun z => q z.symm
        rw [this]
        exact ih (by assumption) hA
  unfold getL
  rw [hf, ent_noRef x]
  rfl
/-- an own value may be handed out -/
theorem SV.handed {F : Addr → Prop} {W : Wd} {h : Heap} {sv : SV} {v : Value} (i : sv.is F W h v) (hn : ∀ f, sv ≠ .fn f) (ha : sv ≠ .any) : handedIn v = true := by
  cases sv with
  | none => cases i; rfl
  | bool b => cases i; rfl
  | int n => obtain ⟨t, rfl⟩ := i; rfl
  | str n => obtain ⟨t, rfl⟩ := i; rfl
  | any => exact absurd rfl ha
  | role r => obtain ⟨rfl, _⟩ := i; rfl
  | lst ns => obtain ⟨_, _, _, rfl, _⟩ := i; rfl
  | piece ns => obtain ⟨_, _, _, _, _, _, rfl, _⟩ := i; rfl
  | lol L => obtain ⟨_, _, _, rfl, _⟩ := i; rfl
  | ipair a b => obtain ⟨_, _, _, _, rfl, _⟩ := i; rfl
  | trip a b => obtain ⟨_, _, _, _, _, rfl, _⟩ := i; rfl
  | trips L => obtain ⟨_, _, _, rfl, _⟩ := i; rfl
  | pcl L => obtain ⟨_, _, _, rfl, _⟩ := i; rfl
  | rng n => obtain ⟨_, _, rfl, _⟩ := i; rfl
  | stt T p L => obtain ⟨_, _, _, _, _, rfl, _⟩ := i; rfl
  | fn f => exact absurd rfl (hn f)
noncomputable def SV.plain : SV → Bool
  | .fn _ => false
  | .any => false
  | _ => true
theorem SV.handedP {F : Addr → Prop} {W : Wd} {h : Heap} {sv : SV} {v : Value} (i : sv.is F W h v) (hp : sv.plain = true) : handedIn v = true :=
  SV.handed i (fun f e => by subst e; cases hp) (fun e => by subst e; cases hp)

noncomputable def Get (c : Gx) (l : Loc) (W : Wd) (o : SV) (x : Str) (C : SV → Wd → Prop) : Prop := Tr c l W (fun h tr => ∃ v, o.is c.Fm W h v ∧ tr = getAttr v x true) C
theorem Get.role {r : Role} {x : Str} {Cl : Addr} {A : List (Str × SV)} {sv : SV} (ho : W.ob r = .inst Cl A) (hA : A.lookup x = some sv) (hC' : isCls Cl = true) (hx : attOk Cl x = true) (hp : sv.plain = true) (hC : C sv W) : Get c l W (.role r) x C := by
  intro s h t Q E tr sim ⟨v, i, htr⟩ hQ
  obtain ⟨rfl, _⟩ := i
  subst htr
  have H := sim.ws.holds r
  rw [ho] at H
  obtain ⟨hx1, es, n, hd, en⟩ := H
  obtain ⟨u, hu, iu⟩ := getL_ent en x hA
  obtain ⟨m, F, hl⟩ := sim.fr
  obtain ⟨k1, k2, k3, k4, k5⟩ := sim.ok.F.cls Cl hC'
  exact get_own (s := St s h t) F sim.ok.X ⟨hx1, rfl, rfl, hd⟩ k1 k2 (sim.ok.F.att Cl x hx) rfl hu (SV.handedP iu hp) (hQ u h (t + 1) sv W iu sim (.refl _ _ _) hC)
theorem Get.codes {ns : List Int} (hC : C (.lst ns) W) : Get c l W (.piece ns) (Str.ofString "codes") C := by
  intro s h t Q E tr sim ⟨v, i, htr⟩ hQ
  obtain ⟨p, dp, es, n, vc, vr, rfl, q1, q2, g1, g2, l1, l2, m1, m2⟩ := i
  subst htr
  obtain ⟨m, F, hl⟩ := sim.fr
  obtain ⟨k1, k2, k3, k4, k5⟩ := sim.ok.F.cls 164 (by rfl)
  refine get_own (s := St s h t) F sim.ok.X ⟨q1, rfl, rfl, q2⟩ k1 k2 (sim.ok.F.att 164 _ (by kernel_rfl)) rfl g1 ?_ (hQ vc h (t + 1) (.lst ns) W l1 sim (.refl _ _ _) hC)
  obtain ⟨_, _, _, rfl, _⟩ := l1; rfl
theorem Get.runs {ns : List Int} (hC : C (.lst []) W) : Get c l W (.piece ns) (Str.ofString "runs") C := by
  intro s h t Q E tr sim ⟨v, i, htr⟩ hQ
  obtain ⟨p, dp, es, n, vc, vr, rfl, q1, q2, g1, g2, l1, l2, m1, m2⟩ := i
  subst htr
  obtain ⟨m, F, hl⟩ := sim.fr
  obtain ⟨k1, k2, k3, k4, k5⟩ := sim.ok.F.cls 164 (by rfl)
  refine get_own (s := St s h t) F sim.ok.X ⟨q1, rfl, rfl, q2⟩ k1 k2 (sim.ok.F.att 164 _ (by kernel_rfl)) rfl g2 ?_ (hQ vr h (t + 1) (.lst []) W l2 sim (.refl _ _ _) hC)
  obtain ⟨_, _, _, rfl, _⟩ := l2; rfl

theorem Ev.attr {e : Expr} {x : Str} {pos : Pos} (H : Ev c l W e fun o W₁ => Get c l W₁ o x C)
    (he : ∀ env, eval (.Attribute e x pos) env = (do
      let o ← eval e env
      standAt pos.atName
      let r ← holding [o] (getAttr o x true)
      letTemporaryGo e o r
      pure r))   : Ev c l W (.Attribute e x pos) C := by
  intro s h t Q E tr sim htr hQ
  subst htr
  refine Attribute_any_ ?_ (he _)
  refine H s h t _ E _ sim rfl fun v h' t' o W' i sim' st H' => ?_
  exact H' s h' t' Q E _ sim' ⟨v, i, rfl⟩ fun v2 h2 t2 sv W2 i2 sim2 st2 hC => hQ v2 h2 t2 sv W2 i2 sim2 (st.trans st2) hC

/-! ### operators -/
noncomputable def Bin (c : Gx) (l : Loc) (W : Wd) (op : Operator) (a b : SV) (C : SV → Wd → Prop) : Prop := Tr c l W (fun h tr => ∃ va vb, a.is c.Fm W h va ∧ b.is c.Fm W h vb ∧ tr = binaryOp op va vb) C
theorem Ev.bin {op : Operator} {x y : Expr} {pos : Pos} (H : Ev c l W x fun a W₁ => a.stable = true ∧ Ev c l W₁ y fun b W₂ => Bin c l W₂ op a b C) : Ev c l W (.BinOp x op y pos) C := by
  intro s h t Q E tr sim htr hQ
  subst htr
  refine wpAny_BinOp ?_
  refine H s h t _ E _ sim rfl fun va h' t' a W' ia sim' st ⟨sta, H'⟩ => ?_
  refine H' s h' t' _ E _ sim' rfl fun vb h2 t2 b W2 ib sim2 st2 H2 => ?_
  exact H2 s h2 t2 Q E _ sim2 ⟨va, vb, SV.is_stp c.XF st2 sta ia, ib, rfl⟩ fun v h3 t3 sv W3 i3 sim3 st3 hC => hQ v h3 t3 sv W3 i3 sim3 ((st.trans st2).trans st3) hC
theorem Bin.add {a b : Int} (hC : C (.int (a + b)) W) : Bin c l W .Add (.int a) (.int b) C := by
  rintro s h t Q E tr sim ⟨va, vb, ⟨ta, rfl⟩, ⟨tb, rfl⟩, rfl⟩ hQ
  exact PyProof.Rows.add_int (hQ _ h (t + 1) _ W iInt sim (.refl _ _ _) hC)
theorem Bin.sub {a b : Int} (hC : C (.int (a - b)) W) : Bin c l W .Sub (.int a) (.int b) C := by
  rintro s h t Q E tr sim ⟨va, vb, ⟨ta, rfl⟩, ⟨tb, rfl⟩, rfl⟩ hQ
  exact PyProof.Rows.sub_int (hQ _ h (t + 1) _ W iInt sim (.refl _ _ _) hC)
theorem Bin.mod {a b : Int} (hb : b ≠ 0) (hC : C (.int (a.fmod b)) W) : Bin c l W .Mod (.int a) (.int b) C := by
  rintro s h t Q E tr sim ⟨va, vb, ⟨ta, rfl⟩, ⟨tb, rfl⟩, rfl⟩ hQ
  exact PyProof.Rows.mod_int hb (hQ _ h (t + 1) _ W iInt sim (.refl _ _ _) hC)

/-! ### comparisons -/
noncomputable def Cmp (c : Gx) (l : Loc) (W : Wd) (op : CmpOp) (a b : SV) (C : SV → Wd → Prop) : Prop := Tr c l W (fun h tr => ∃ va vb, a.is c.Fm W h va ∧ b.is c.Fm W h vb ∧ tr = compareOp op va vb) C
theorem Ev.cmp {op : CmpOp} {x y : Expr} {pos : Pos} (H : Ev c l W x fun a W₁ => a.stable = true ∧ Ev c l W₁ y fun b W₂ => Cmp c l W₂ op a b C) (hm : behindInMarks op y = false) : Ev c l W (.Compare x [op] [y] pos) C := by
  intro s h t Q E tr sim htr hQ
  subst htr
  refine wpAny_Compare1 ?_ hm
  refine H s h t _ E _ sim rfl fun va h' t' a W' ia sim' st ⟨sta, H'⟩ => ?_
  refine H' s h' t' _ E _ sim' rfl fun vb h2 t2 b W2 ib sim2 st2 H2 => ?_
  exact H2 s h2 t2 Q E _ sim2 ⟨va, vb, SV.is_stp c.XF st2 sta ia, ib, rfl⟩ fun v h3 t3 sv W3 i3 sim3 st3 hC => hQ v h3 t3 sv W3 i3 sim3 ((st.trans st2).trans st3) hC
theorem Is.cmp {op : CmpOp} {x y : Expr} {pos : Pos} {D : Bool → Wd → Prop} (H : Ev c l W x fun a W₁ => a.stable = true ∧ Ev c l W₁ y fun b W₂ => Cmp c l W₂ op a b fun sv W₃ => ∃ z, sv = .bool z ∧ D z W₃) (hm : behindInMarks op y = false) : Is c l W (.Compare x [op] [y] pos) D := by
  intro s h t Q E sim hQ
  refine wpAny_isTrue_Compare1 ?_ hm
  refine H s h t _ E _ sim rfl fun va h' t' a W' ia sim' st ⟨sta, H'⟩ => ?_
  refine H' s h' t' _ E _ sim' rfl fun vb h2 t2 b W2 ib sim2 st2 H2 => ?_
  refine H2 s h2 t2 _ E _ sim2 ⟨va, vb, SV.is_stp c.XF st2 sta ia, ib, rfl⟩ fun v h3 t3 sv W3 i3 sim3 st3 hC => ?_
  obtain ⟨z, rfl, hD⟩ := hC
  cases i3
  exact wpAny_truthy_bool (hQ z h3 t3 W3 sim3 ((st.trans st2).trans st3) hD)
theorem Cmp.lt {a b : Int} (hC : C (.bool (decide (a < b))) W) : Cmp c l W .Lt (.int a) (.int b) C := by
  rintro s h t Q E tr sim ⟨va, vb, ⟨ta, rfl⟩, ⟨tb, rfl⟩, rfl⟩ hQ
  exact PyProof.Rows.lt_int (hQ _ h t _ W iBool sim (.refl _ _ _) hC)
theorem Cmp.gt {a b : Int} (hC : C (.bool (decide (b < a))) W) : Cmp c l W .Gt (.int a) (.int b) C := by
  rintro s h t Q E tr sim ⟨va, vb, ⟨ta, rfl⟩, ⟨tb, rfl⟩, rfl⟩ hQ
  exact PyProof.Rows.gt_int (hQ _ h t _ W iBool sim (.refl _ _ _) hC)
theorem Cmp.eq {a b : Int} (hC : C (.bool (a == b)) W) : Cmp c l W .Eq (.int a) (.int b) C := by
  rintro s h t Q E tr sim ⟨va, vb, ⟨ta, rfl⟩, ⟨tb, rfl⟩, rfl⟩ hQ
  exact PyProof.Rows.eq_int (hQ _ h t _ W iBool sim (.refl _ _ _) hC)

/-! ### truth -/
theorem Is.plain {e : Expr} {D : Bool → Wd → Prop} (H : Ev c l W e fun sv W₁ => ∃ z, sv = .bool z ∧ D z W₁) (he : ∀ env whole, isTrue e env whole = (do let v ← whole; standAt e.pos; holding [v] (truthy v))) : Is c l W e D := by
  intro s h t Q E sim hQ
  refine isTrue_plain ?_ (he _ _)
  refine H s h t _ E _ sim rfl fun v h' t' sv W' i sim' st hC => ?_
  obtain ⟨z, rfl, hD⟩ := hC
  cases i
  exact wpAny_truthy_bool (hQ z h' t' W' sim' st hD)
theorem Is.not {e : Expr} {pos : Pos} {D : Bool → Wd → Prop} (H : Is c l W e fun b W₁ => D (!b) W₁) : Is c l W (.UnaryOp .Not e pos) D := by
  intro s h t Q E sim hQ
  exact isTrue_not (H s h t _ E sim fun b h' t' W' sim' st hD => hQ _ h' t' W' sim' st hD)
theorem TB.orNil {pos : Pos} {whole} {D : Bool → Wd → Prop} (h : D false W) : TB c l W (isTrue (.BoolOp .Or [] pos) c.env whole) D := fun _ _ _ _ _ sim hQ => isTrue_or_nil (hQ _ _ _ W sim (.refl _ _ _) h)
theorem TB.andNil {pos : Pos} {whole} {D : Bool → Wd → Prop} (h : D true W) : TB c l W (isTrue (.BoolOp .And [] pos) c.env whole) D := fun _ _ _ _ _ sim hQ => isTrue_and_nil (hQ _ _ _ W sim (.refl _ _ _) h)
theorem TB.or {e : Expr} {es : List Expr} {pos : Pos} {whole} {D : Bool → Wd → Prop} (H : Is c l W e fun b W₁ => (b = true → D true W₁) ∧ (b = false → TB c l W₁ (isTrue (.BoolOp .Or es pos) c.env whole) D)) : TB c l W (isTrue (.BoolOp .Or (e :: es) pos) c.env whole) D := by
  intro s h t Q E sim hQ
  refine isTrue_or (H s h t _ E sim fun b h' t' W' sim' st hD => ?_)
  cases b with
  | true => exact hQ true h' t' W' sim' st (hD.1 rfl)
  | false => exact hD.2 rfl s h' t' Q E sim' fun b2 h2 t2 W2 sim2 st2 hD2 => hQ b2 h2 t2 W2 sim2 (st.trans st2) hD2
theorem TB.and {e : Expr} {es : List Expr} {pos : Pos} {whole} {D : Bool → Wd → Prop} (H : Is c l W e fun b W₁ => (b = false → D false W₁) ∧ (b = true → TB c l W₁ (isTrue (.BoolOp .And es pos) c.env whole) D)) : TB c l W (isTrue (.BoolOp .And (e :: es) pos) c.env whole) D := by
  intro s h t Q E sim hQ
  refine isTrue_and (H s h t _ E sim fun b h' t' W' sim' st hD => ?_)
  cases b with
  | false => exact hQ false h' t' W' sim' st (hD.1 rfl)
  | true => exact hD.2 rfl s h' t' Q E sim' fun b2 h2 t2 W2 sim2 st2 hD2 => hQ b2 h2 t2 W2 sim2 (st.trans st2) hD2

/-! ### arguments and calls -/
theorem Ars.nil {pos : Pos} {D : List SV → Wd → Prop} (h : D [] W) : Ars c l W (spliced (backTo pos (starEach [] c.env))) D := fun _ _ _ _ _ sim hQ => spliced_none (hQ [] _ _ [] W .nil sim (.refl _ _ _) h)
/-- a call of a def of the text by its name -/
theorem FS.at {n : Nat} {f : Value} {args : List SV} (H : FS n f args W C) (hn : n ≤ c.n) {s : Shared} {h : Heap} {t : Nat} {Q E : Value → Shared → Prop} {vs : List Value} (sim : Sim c h l W) (ha : All2 (SV.is c.Fm W h) args vs)
    (hQ : ∀ v h' t' sv W', SV.is c.Fm W' h' sv v → Sim c h' l W' → Stp c.X W h W' h' → C sv W' → Q v (St s h' t')) : wpAny c.M c.A (PySem.call f vs) Q E (St s h t) := by
  refine wpAny_call (H c s h t _ vs hn ⟨sim.ok, let ⟨m, F, _⟩ := sim.fr; ⟨m, F, fun p hp => nomatch hp⟩, sim.ws, sim.it⟩ ha fun v h' t' sv W' i ws st hC => ?_)
  exact hQ v h' t' sv W' i (sim.stp st ws) st.nil hC
theorem Ev.call {x : Str} {np pos : Pos} {e : Expr} {es : List Expr} {sc : Scope} (n : Nat) (f : Addr) (hg : glbOk x f = true) (hkp : kpOk f = true) (hs : c.cs = sc) (hk : sc.names.lookup x = some .globalImplicit) (hd : (x == Str.ofString "__debug__") = false) (hn : n ≤ c.n)
    (H : Ars c l W (spliced (backTo pos (starEach (e :: es) c.env))) fun as W₁ => FS n (.ref f) as W₁ C) (he : ∀ env, starEach (e :: es) env = (false, eval e env) :: starEach es env) (hp : ∀ env, (backTo pos (starEach es env)).any (·.1) = false)
    (hc : ∀ env, eval (.Call (.Name x np) (e :: es) [] pos) env = (do callWith pos (← eval (.Name x np) env) [] (backTo pos (starEach (e :: es) env)) (backToKw pos (keywordEach [] env)))) : Ev c l W (.Call (.Name x np) (e :: es) [] pos) C := by
  intro s h t Q E tr sim htr hQ
  subst htr
  refine Call_ ?_ (hc _)
  refine Ev.glb (C := fun sv W₁ => sv = .fn (.ref f) ∧ W₁ = W) f hg hs hk hd ⟨rfl, rfl⟩ s h t _ E _ sim rfl fun v h' t' sv W' i sim' st ⟨e1, e2⟩ => ?_
  subst e1 e2
  cases i
  refine callWith_K (s := St s h' t') sim'.ok.X (sim'.ok.F.kp f hkp) ?_ (he _) (hp _)
  refine H s h' t' _ E sim' fun vs h2 t2 as W2 is2 sim2 st2 hF => ⟨sim2.K, ?_⟩
  exact hF.at hn sim2 is2 fun v h3 t3 sv W3 i3 sim3 st3 hC => hQ v h3 t3 sv W3 i3 sim3 ((st.trans st2).trans st3) hC

/-- the method's def: what is at hand of it -/
theorem getM {r : Role} {x : Str} {f Cl : Addr} {A : List (Str × SV)} {s : Shared} {h : Heap} {t : Nat} {pl : Sem Bool} {Q : Value × List Value → Shared → Prop} {E : Value → Shared → Prop} (sim : Sim c h l W) (ho : W.ob r = .inst Cl A) (hA : A.lookup x = Option.none) (hC' : isCls Cl = true) (hm : mthOk Cl x f = true)
    (hQ : Q (.ref f, [.ref (W.ad r)]) (St s h t)) : wpAny c.M c.A (getMethod (.ref (W.ad r)) x pl) Q E (St s h t) := by
  have H := sim.ws.holds r
  rw [ho] at H
  obtain ⟨hx1, es, n, hd, en⟩ := H
  obtain ⟨m, F, hl⟩ := sim.fr
  obtain ⟨k1, k2, k3, k4, k5⟩ := sim.ok.F.cls Cl hC'
  obtain ⟨q1, q2⟩ := sim.ok.F.mth Cl x f hm
  exact method_inst (s := St s h t) F sim.ok.X ⟨hx1, rfl, rfl, hd⟩ k1 q1 q2 (getL_none en x hA) hQ
end
section

/-! ### a role's object is changed in place -/
noncomputable def SO.kind : SO → Nat
  | .absent => 0
  | .inst _ _ => 1
  | .nums _ => 2
  | .pieces _ => 3
  | .rows _ => 4
  | .slist _ => 5
noncomputable def Wd.put (W : Wd) (r : Role) (so : SO) : Wd := ⟨W.ad, W.dad, fun r' => if r' = r then so else W.ob r'⟩
theorem Wd.put_self (W : Wd) (r : Role) (so : SO) : (W.put r so).ob r = so := by simp [Wd.put]
theorem Wd.put_ne (W : Wd) {r r' : Role} (so : SO) (hne : r' ≠ r) : (W.put r so).ob r' = W.ob r' := by simp [Wd.put, hne]
theorem Like.put {W : Wd} {r : Role} {so : SO} (hk : so.kind = (W.ob r).kind) : Like W (W.put r so) := by
  refine ⟨rfl, rfl, fun r' => ?_, fun r' => ?_⟩
  · by_cases e : r' = r
    · subst e
      unfold Wd.adrs
      rw [Wd.put_self]
      cases h1 : W.ob r' <;> cases so <;> rw [h1] at hk <;> first | rfl | (simp [SO.kind] at hk)
    · unfold Wd.adrs
      rw [Wd.put_ne _ _ e]
      rfl
  · by_cases e : r' = r
    · subst e
      rw [Wd.put_self]
      cases h1 : W.ob r' <;> cases so <;> rw [h1] at hk <;> simp_all [SO.kind]
    · rw [Wd.put_ne _ _ e]

section
variable {w : World} {F : Addr → Prop} {g : Heap} {L : Addr} {h h' : Heap} {W W' : Wd} {r : Role}
theorem Like.stp (k : Like W W') (hk : ∀ b o, h.get? b = some o → b ∉ W.adrs r → h'.get? b = some o) (hl : ∀ b o, h.get? b = some o → ∃ o', h'.get? b = some o') : Stp Nil W h W' h' :=
  ⟨fun b o e n _ => hk b o e fun m => n ⟨r, m⟩, fun x m => .inl (by rw [k.mut] at m; exact m), hl, fun r' _ e => ⟨by rw [k.ad], fun z => e ((k.ab r').mp z)⟩⟩
theorem butP (k : Like W W') (hk : ∀ b o, h.get? b = some o → b ∉ W.adrs r → h'.get? b = some o) : ∀ b o, h.get? b = some o → ¬ W.P F b → h'.get? b = some o ∧ ¬ W'.P F b :=
  fun b o e m => ⟨hk b o e fun q => m (.inl ⟨r, q⟩), by unfold Wd.P; rw [k.mut]; exact m⟩
theorem WS.put (ws : WS w F g L h W) (k : Like W W') (hk : ∀ b o, h.get? b = some o → b ∉ W.adrs r → h'.get? b = some o) (hob : ∀ r', r' ≠ r → W'.ob r' = W.ob r') (hh : SO.holds w F W' h' r (W'.ob r)) : WS w F g L h' W' := by
  refine ⟨fun r' => ?_, fun r' x hx => ws.fresh r' x (by rw [k.adrs] at hx; exact hx), fun r1 r2 hne x hx => ?_, fun r' => by rw [k.adrs]; exact ws.nodup r'⟩
  · by_cases e : r' = r
    · subst e; exact hh
    · rw [hob r' e]
      exact SO.imp k (butP k hk) (fun x hx o ho => hk x o ho (ws.apart r' r e x hx)) (ws.holds r')
  · rw [k.adrs] at hx ⊢; exact ws.apart r1 r2 hne x hx
theorem upd_live {d : Addr} {f : Obj → Obj} {o : Obj} (hd : h.get? d = some o) (hf : (f o).isFreed = false) : ∀ b o', h.get? b = some o' → ∃ o'', (h.update d f).get? b = some o'' := fun b o' e => by
  by_cases q : b = d
  · subst q; exact ⟨_, Heap.get?_update_self f hd hf⟩
  · exact ⟨o', by rw [Heap.get?_update_ne _ _ _ _ q]; exact e⟩
end

/-! ### an attribute is set -/
noncomputable def setA (x : Str) (sv : SV) : List (Str × SV) → List (Str × SV)
  | [] => [(x, sv)]
  | (y, u) :: r => if (y == x) = true then (y, sv) :: r else (y, u) :: setA x sv r
theorem putL_ent {F : Addr → Prop} {W : Wd} {h : Heap} {es : List DictEntry} {A : List (Str × SV)} {name : Str} {hs : Int} {t : Tok} {v : Value} {sv : SV} (x : EntAre F W h es A) (i : sv.is F W h v) : EntAre F W h (putL name hs (.str name t) v es) (setA name sv A) := by
  induction x with
  | nil => exact .cons i .nil
  | @cons hs' y t' v' sv' es A i' _ ih =>
    unfold putL setA
    show EntAre F W h (if (y == name) = true then _ else _) _
    by_cases e : (y == name) = true
    · rw [if_pos e, if_pos e]; exact .cons i ‹_›
    · rw [if_neg e, if_neg e]; exact .cons i' ih
theorem ent_len {F : Addr → Prop} {W : Wd} {h : Heap} {es : List DictEntry} {A : List (Str × SV)} (x : EntAre F W h es A) : es.length = A.length := by
  induction x with
  | nil => rfl
  | cons _ _ ih => simp [ih]
theorem setA_len (x : Str) (sv : SV) : ∀ A : List (Str × SV), (setA x sv A).length ≤ A.length + 1
  | [] => by simp [setA]
  | (y, u) :: r => by
    unfold setA
    split
    · simp
    · have := setA_len x sv r; simp; omega

section
variable {prog : Program} {w : World} {A : Around} {E : Value → Shared → Prop} {s : Shared} {K : Frag} {x C dx : Addr} {es : List DictEntry} {n : Nat} {name : Str} {v : Value}
/-- object.__setattr__ with the heap behind it told -/
theorem osa_ex {R : Result → Shared → Prop} {tk : Tok} (X : K.In s.heap) (I : InstAt s.heap x (instObj C dx) C (some (dictOf es n))) (hp : plainOver K C = true) (ht : takerIn K C name = some none) (hh : hasDictIn K C = true)
    (hl : (getL name es).isSome = true) (hz : (putL name (PyData.keyHash w.params name) (.str name s.toks) v es).length ≤ 1000)
    (h : R (.ok (.ret .none)) { s with heap := s.heap.update dx (Obj.putName name (PyData.keyHash w.params name) (.str name s.toks) v), toks := s.toks + 1 }) :
    codeAny (model prog w) A (.call (.builtin "object.__setattr__") ⟨[.ref x, .str name tk, v], []⟩) R s := by
  refine osa_open X I hp ht fun b => ?_
  obtain ⟨cd, hc, hd'⟩ := any_some hh
  obtain ⟨hx, -, -, D⟩ := I
  have D : s.heap.get? dx = some (dictOf es n) := D
  have D' : (s.heap.update dx (Obj.putName name (PyData.keyHash w.params name) (.str name s.toks) v)).get? dx = some (dictOf (putL name (PyData.keyHash w.params name) (.str name s.toks) v es) (putN name es n)) := by
    have := Heap.get?_update_self (Obj.putName name (PyData.keyHash w.params name) (.str name s.toks) v) D (by rw [putName_dict]; rfl)
    rw [this, putName_dict]
  refine wpAny_bind (wpAny_pure (wpAny_bind (wpAny_bind (wpAny_loadPart hx (wpAny_bind ((looks_clsIn X hc).here ?_))))))
  rw [hd']
  refine wpAny_pure (a := some dx) (wpAny_bind (wpAny_pure (wpAny_bind ?_)))
  unfold nsSet
  refine wpAny_bind (wpAny_bind (wpAny_askSetting (wpAny_pure (wpAny_bind (wpAny_mkText (wpAny_bind (wpAny_loadPart D ?_)))))))
  have c : (!es.toArray.any (·.key.isStr name) && es.toArray.any (·.refKey)) = false := by
    unfold getL at hl
    rw [← Array.any_toList, ← Array.any_toList]
    show (!es.any _ && es.any _) = false
    split at hl
    · rename_i en he
      rw [List.any_eq_true.mpr ⟨en, List.mem_of_find?_eq_some he, List.find?_some he⟩]; rfl
    · split at hl
      · cases hl
      · rename_i z; rw [Bool.not_eq_true] at z; rw [z, Bool.and_false]
  dsimp only
  rw [aRefKeyMayBeTheName_at, c]
  refine wpAny_updatePart D ?_
  refine wpAny_bind (wpAny_lookBehind D' (pastItsLine_dict (by rw [List.size_toArray, sizeLine_eq]; omega)) ?_)
  exact wpAny_pure h
end

variable {c : Gx} {l : Loc} {W : Wd}
noncomputable def SetA (c : Gx) (l : Loc) (W : Wd) (o : SV) (x : Str) (sv : SV) (D : Wd → Prop) : Prop :=
  ∀ (s : Shared) (h : Heap) (t : Nat) (Q : Unit → Shared → Prop) (E : Value → Shared → Prop) (ov v : Value), Sim c h l W → o.is c.Fm W h ov → sv.is c.Fm W h v →
    (∀ h' t' W', Sim c h' l W' → Stp c.X W h W' h' → D W' → Q () (St s h' t')) → wpAny c.M c.A (setAttr ov x v) Q E (St s h t)
theorem getL_some {F : Addr → Prop} {W : Wd} {h : Heap} {es : List DictEntry} {A : List (Str × SV)} (x : EntAre F W h es A) (name : Str) : (getL name es).isSome = true := by
  cases q : A.lookup name with
  | none => rw [getL_none x name q]; rfl
  | some sv => obtain ⟨v, e, _⟩ := getL_ent x name q; rw [e]; rfl
theorem SetA.role {r : Role} {x : Str} {sv : SV} {Cl : Addr} {A : List (Str × SV)} {D : Wd → Prop} (ho : W.ob r = .inst Cl A) (hC : isCls Cl = true) (hx : attOk Cl x = true) (hlen : A.length ≤ 30) (hD : D (W.put r (.inst Cl (setA x sv A)))) : SetA c l W (.role r) x sv D := by
  intro s h t Q E ov v sim io iv hQ
  obtain ⟨rfl, _⟩ := io
  have H := sim.ws.holds r
  rw [ho] at H
  obtain ⟨hx1, es, n, hd, en⟩ := H
  obtain ⟨k1, k2, k3, k4, k5⟩ := sim.ok.F.cls Cl hC
  have X := sim.K
  have I : InstAt h (W.ad r) (instObj Cl (W.dad r)) Cl (some (dictOf es n)) := ⟨hx1, rfl, rfl, hd⟩
  have adrs : W.adrs r = [W.ad r, W.dad r] := by unfold Wd.adrs; rw [ho]
  refine set_plain (s := St s h t) X I k4 ?_
  have lenOk : (putL x (PyData.keyHash c.w.params x) (.str x (t + 1)) v es).length ≤ 1000 := by
    have e1 := ent_len (putL_ent (name := x) (hs := PyData.keyHash c.w.params x) (t := t + 1) en iv)
    have e2 := setA_len x sv A
    omega
  refine osa_ex (s := St s h (t + 1)) X I k3 (by unfold takerIn; rw [sim.ok.F.att Cl x hx]; rfl) k2 (getL_some en x) lenOk ?_
  let f := Obj.putName x (PyData.keyHash c.w.params x) (.str x (t + 1)) v
  have k : Like W (W.put r (.inst Cl (setA x sv A))) := Like.put (by rw [ho]; rfl)
  have hk : ∀ b o, h.get? b = some o → b ∉ W.adrs r → (h.update (W.dad r) f).get? b = some o := fun b o e m => by
    rw [adrs] at m
    rw [Heap.get?_update_ne _ _ _ _ (fun q => m (by rw [q]; simp))]; exact e
  have hdn : (h.update (W.dad r) f).get? (W.dad r) = some (dictOf (putL x (PyData.keyHash c.w.params x) (.str x (t + 1)) v es) (putN x es n)) := by
    have := Heap.get?_update_self f hd (by show (Obj.putName _ _ _ _ _).isFreed = false; rw [putName_dict]; rfl)
    rw [this]; show some (Obj.putName _ _ _ _ _) = _; rw [putName_dict]
  have nd : W.ad r ≠ W.dad r := by
    have := sim.ws.nodup r
    rw [adrs] at this
    simpa using this
  have hl := upd_live (f := f) hd (by show (Obj.putName _ _ _ _ _).isFreed = false; rw [putName_dict]; rfl)
  have stp : Stp Nil W h (W.put r (.inst Cl (setA x sv A))) (h.update (W.dad r) f) := Like.stp (r := r) k hk hl
  have ws : WS c.w c.Fm c.g c.L (h.update (W.dad r) f) (W.put r (.inst Cl (setA x sv A))) := by
    refine WS.put (r := r) sim.ws k hk (fun r' e => Wd.put_ne _ _ e) ?_
    rw [Wd.put_self]
    refine ⟨?_, _, _, hdn, ?_⟩
    · show (h.update (W.dad r) f).get? (W.ad r) = _
      rw [Heap.get?_update_ne _ _ _ _ nd]; exact hx1
    · exact putL_ent (en.imp fun _ _ z => SV.is_imp k (butP k hk) z) (SV.is_imp k (butP k hk) iv)
  exact hQ _ (t + 1 + 1) _ (sim.stp stp ws) stp.nil hD

/-! ### statements -/
variable {D : Fl → Loc → Wd → Prop}
theorem Ex.nil (h : D .next l W) : Ex c l W [] D := fun _ hh t _ _ sim hQ => wpAny_execs_nil (hQ .next hh t .next l W rfl sim (.refl _ _ _) h)
/-- what stands behind a statement -/
noncomputable def Nx (c : Gx) (rest : List Stmt) (D : Fl → Loc → Wd → Prop) (f : Fl) (l : Loc) (W : Wd) : Prop := match f with
  | .next => Ex c l W rest D
  | f => D f l W
theorem Ex.cons {st : Stmt} {rest : List Stmt} (H : Sx c l W st (Nx c rest D)) : Ex c l W (st :: rest) D := by
  intro s h t Q E sim hQ
  refine wpAny_execs_cons (H s h t _ E sim fun f h' t' fl l' W' hf sim' st hN => ?_)
  cases fl with
  | next => subst hf; exact hN s h' t' Q E sim' fun f2 h2 t2 fl2 l2 W2 hf2 sim2 st2 hD => hQ f2 h2 t2 fl2 l2 W2 hf2 sim2 (st.trans st2) hD
  | brk => subst hf; exact hQ .brk h' t' .brk l' W' rfl sim' st hN
  | cont => subst hf; exact hQ .cont h' t' .cont l' W' rfl sim' st hN
  | ret sv => obtain ⟨v, rfl, i⟩ := hf; exact hQ (.ret v) h' t' (.ret sv) l' W' ⟨v, rfl, i⟩ sim' st hN
theorem Sx.ret {e : Expr} {pos : Pos} (H : Ev c l W e fun sv W₁ => D (.ret sv) l W₁) : Sx c l W (.Return (some e) pos) D := by
  intro s h t Q E sim hQ
  exact wpAny_Return_some (H s h t _ E _ sim rfl fun v h' t' sv W' i sim' st hD => hQ (.ret v) h' t' (.ret sv) l W' ⟨v, rfl, i⟩ sim' st hD)
theorem Sx.retN {pos : Pos} (H : D (.ret .none) l W) : Sx c l W (.Return none pos) D := by
  intro s h t Q E sim hQ
  exact wpAny_Return_none (hQ (.ret .none) h t (.ret .none) l W ⟨_, rfl, rfl⟩ sim (.refl _ _ _) H)
theorem Sx.expr {e : Expr} {pos : Pos} (H : Ev c l W e fun _ W₁ => D .next l W₁) (hs : ∀ env, swapsWith e none pos.line env = pure false) : Sx c l W (.Expr e pos) D := by
  intro s h t Q E sim hQ
  have hi : interactive c.env = false := by unfold interactive; show (c.cs.kind == _ && _) = false; rw [sim.ok.kf]; rfl
  exact wpAny_Expr_any (H s h t _ E _ sim rfl fun v h' t' sv W' i sim' st hD => hQ .next h' t' .next l W' rfl sim' st hD) hi (hs _)
theorem Sx.if_ {test : Expr} {body orelse : List Stmt} {pos : Pos} (H : Is c l W test fun b W₁ => (b = true → Ex c l W₁ body D) ∧ (b = false → Ex c l W₁ orelse D)) : Sx c l W (.If test body orelse pos) D := by
  intro s h t Q E sim hQ
  refine wpAny_If (H s h t _ E sim fun b h' t' W' sim' st hD => ?_)
  cases b with
  | true => rw [if_pos rfl]; exact hD.1 rfl s h' t' Q E sim' fun f2 h2 t2 fl2 l2 W2 hf2 sim2 st2 hD => hQ f2 h2 t2 fl2 l2 W2 hf2 sim2 (st.trans st2) hD
  | false => rw [if_neg (by decide)]; exact hD.2 rfl s h' t' Q E sim' fun f2 h2 t2 fl2 l2 W2 hf2 sim2 st2 hD => hQ f2 h2 t2 fl2 l2 W2 hf2 sim2 (st.trans st2) hD
/-- a name is bound anew -/
noncomputable def setL (x : Str) (sv : SV) (l : Loc) : Loc := (x, sv) :: l.filter fun p => !(p.1 == x)
theorem setL_mem {x : Str} {sv : SV} {l : Loc} {p : Str × SV} (hp : p ∈ setL x sv l) : p = (x, sv) ∨ (p ∈ l ∧ p.1 ≠ x) := by
  rcases List.mem_cons.mp hp with e | e
  · exact .inl e
  · obtain ⟨a, b⟩ := List.mem_filter.mp e
    exact .inr ⟨a, by simpa using b⟩
theorem Sim.store {h : Heap} {x : Str} {sv : SV} {v : Value} (sim : Sim c h l W) (i : SV.is c.Fm W h sv v) (hst : sv.stable = true) (hk : c.cs.names.lookup x = some .local) (hd : (x == Str.ofString "__debug__") = false) {s : Shared} {t : Nat} {Q : Unit → Shared → Prop} {E : Value → Shared → Prop}
    (hQ : ∀ h' t', Sim c h' (setL x sv l) W → Stp c.X W h W h' → Q () (St s h' t')) : wpAny c.M c.A (storeName c.env x v) Q E (St s h t) := by
  obtain ⟨m, F, hl⟩ := sim.fr
  refine wpAny_storeName_local (s := St s h t) hk F.ns (fun h' hn hs => ?_) (by show (c.cs.kind == .class || (c.cs.kind == .module && _)) = false; rw [sim.ok.kf]; rfl)
  have F' : Fr c.g c.L h' (fun y => if y = x then some v else m y) := F.set hn hs
  have k : ∀ b o, h.get? b = some o → b ≠ c.L → h'.get? b = some o := fun b o e n => (hs.2 b n).trans e
  have nP : ∀ b o, h.get? b = some o → ¬ W.P c.Fm b → h'.get? b = some o ∧ ¬ W.P c.Fm b := fun b o e n => ⟨k b o e fun z => n (.inr (c.XF _ z)), n⟩
  have ws : WS c.w c.Fm c.g c.L h' W := ⟨fun r => SO.imp (.refl W) nP (fun b hb o e => k b o e (sim.ws.fresh r b hb).2) (sim.ws.holds r), sim.ws.fresh, sim.ws.apart, sim.ws.nodup⟩
  obtain ⟨oL, _, _, hL, _⟩ := hn
  have stp : Stp c.X W h W h' := ⟨fun b o e _ n => k b o e n, fun _ m => .inl m, fun b o e => by
    by_cases q : b = c.L
    · subst q; exact ⟨_, hL⟩
    · exact ⟨o, k b o e q⟩, fun _ _ e => ⟨rfl, e⟩⟩
  refine hQ h' (t + 1) ⟨sim.ok, ⟨_, F', fun p hp => ?_⟩, ws, fun y hy => let ⟨⟨o, e⟩, n⟩ := sim.it y hy; ⟨stp.live y o e, n⟩⟩ stp
  rcases setL_mem hp with rfl | ⟨hp, hne⟩
  · exact ⟨⟨v, .inl ⟨if_pos rfl, hk⟩, SV.is_imp (.refl W) nP i⟩, hst, hd⟩
  · obtain ⟨⟨u, e, iu⟩, r⟩ := hl p hp
    refine ⟨⟨u, ?_, SV.is_imp (.refl W) nP iu⟩, r⟩
    rcases e with ⟨e, hk'⟩ | e
    · exact .inl ⟨by show (if p.1 = x then _ else _) = _; rw [if_neg hne]; exact e, hk'⟩
    · exact .inr (let ⟨q, a, o, e1, e2, e3, e4⟩ := e; ⟨q, a, o, e1, (nP _ _ e2 e4).1, e3, (nP _ _ e2 e4).2⟩)
theorem Sx.setattr {o e : Expr} {x : Str} {pos' pos : Pos} (H : Ev c l W e fun sv W₁ => sv.stable = true ∧ Ev c l W₁ o fun ov W₂ => SetA c l W₂ ov x sv fun W₃ => D .next l W₃)
    (hsw : ∀ env, swapsWith e (some (.Attribute o x pos')) pos.line env = pure false) : Sx c l W (.Assign [.Attribute o x pos'] e pos) D := by
  intro s h t Q E sim hQ
  refine plainObj_wpAny_Assign_Attribute ?_ (hsw _)
  refine H s h t _ E _ sim rfl fun v h' t' sv W' i sim' st ⟨hst, H'⟩ => ?_
  refine H' s h' t' _ E _ sim' rfl fun ov h2 t2 osv W2 i2 sim2 st2 H2 => ?_
  exact H2 s h2 t2 _ E ov v sim2 i2 (SV.is_stp c.XF st2 hst i) fun h3 t3 W3 sim3 st3 hD => hQ .next h3 t3 .next l W3 rfl sim3 ((st.trans st2).trans st3) hD
end
section
variable {c : Gx} {l : Loc} {W : Wd} {C : SV → Wd → Prop}

/-! ### what a list holds -/
inductive Nl (W : Wd) : SV → List Int → Prop
  | lst {ns} : Nl W (.lst ns) ns
  | role {r ns} (h : W.ob r = .nums ns) : Nl W (.role r) ns
noncomputable def NumsAt (h : Heap) (v : Value) (ns : List Int) : Prop := ∃ a vs n, v = .ref a ∧ h.get? a = some (PySem.W.listOf (List.toArray vs) n) ∧ IntsAre vs ns
theorem Nl.at {sv ns h v} (k : Nl W sv ns) (sim : Sim c h l W) (i : SV.is c.Fm W h sv v) : NumsAt h v ns := by
  cases k with
  | lst => obtain ⟨a, vs, n, e, q, j, _⟩ := i; exact ⟨a, vs, n, e, q, j⟩
  | @role r ns ho =>
    have H := sim.ws.holds r
    rw [ho] at H
    obtain ⟨vs, n, q, j⟩ := H
    exact ⟨_, vs, n, i.1, q, j⟩
inductive Ln (W : Wd) : SV → Nat → Prop
  | nums {sv ns} (h : Nl W sv ns) : Ln W sv ns.length
  | lol {L} : Ln W (.lol L) L.length
  | pieces {r L} (h : W.ob r = .pieces L) : Ln W (.role r) L.length
theorem Ln.at {sv m h v} (k : Ln W sv m) (sim : Sim c h l W) (i : SV.is c.Fm W h sv v) : ∃ a vs n, v = .ref a ∧ h.get? a = some (PySem.W.listOf (List.toArray vs) n) ∧ vs.length = m := by
  cases k with
  | nums k => obtain ⟨a, vs, n, e, q, j⟩ := k.at sim i; exact ⟨a, vs, n, e, q, j.length⟩
  | lol => obtain ⟨a, vs, n, e, q, j, _⟩ := i; exact ⟨a, vs, n, e, q, j.length⟩
  | @pieces r L ho =>
    have H := sim.ws.holds r
    rw [ho] at H
    obtain ⟨vs, n, q, j⟩ := H
    exact ⟨_, vs, n, i.1, q, j.length⟩
theorem isList_of {h : Heap} {a : Addr} {vs : Array Value} {n : Nat} (q : h.get? a = some (PySem.W.listOf vs n)) : h.IsList a vs := ⟨_, q, rfl, n, rfl⟩

/-! ### built-ins called by name -/
noncomputable def BC (c : Gx) (l : Loc) (W : Wd) (id : String) (as : List SV) (C : SV → Wd → Prop) : Prop :=
  ∀ (s : Shared) (h : Heap) (t : Nat) (Q E : Value → Shared → Prop) (vs : List Value), Sim c h l W → All2 (SV.is c.Fm W h) as vs →
    (∀ v h' t' sv W', SV.is c.Fm W' h' sv v → Sim c h' l W' → Stp c.X W h W' h' → C sv W' → Q v (St s h' t')) → wpAny c.M c.A (PySem.call (.builtin id) vs) Q E (St s h t)
theorem Ev.bcall {x : Str} {np pos : Pos} {e : Expr} {es : List Expr} {sc : Scope} (id : String) (hg : bltOk x = true) (hv : bootBuiltins x = some (.builtin id)) (hs : c.cs = sc) (hk : sc.names.lookup x = some .globalImplicit) (hd : (x == Str.ofString "__debug__") = false) (hn : x ≠ "__name__")
    (H : Ars c l W (spliced (backTo pos (starEach (e :: es) c.env))) fun as W₁ => BC c l W₁ id as C) (he : ∀ env, starEach (e :: es) env = (false, eval e env) :: starEach es env) (hp : ∀ env, (backTo pos (starEach es env)).any (·.1) = false)
    (hc : ∀ env, eval (.Call (.Name x np) (e :: es) [] pos) env = (do callWith pos (← eval (.Name x np) env) [] (backTo pos (starEach (e :: es) env)) (backToKw pos (keywordEach [] env)))) : Ev c l W (.Call (.Name x np) (e :: es) [] pos) C := by
  intro s h t Q E tr sim htr hQ
  subst htr
  refine Call_ ?_ (hc _)
  refine Ev.blt (C := fun sv W₁ => sv = .fn (.builtin id) ∧ W₁ = W) hg hv hs hk hd hn ⟨rfl, rfl⟩ s h t _ E _ sim rfl fun v h' t' sv W' i sim' st ⟨e1, e2⟩ => ?_
  subst e1 e2
  cases i
  refine callWith_method1 (first := []) ?_ (he _) (hp _)
  refine H s h' t' _ E sim' fun vs h2 t2 as W2 is2 sim2 st2 hF => ?_
  exact hF s h2 t2 Q E vs sim2 is2 fun v h3 t3 sv W3 i3 sim3 st3 hC => hQ v h3 t3 sv W3 i3 sim3 ((st.trans st2).trans st3) hC
theorem All2.one {α β : Type} {R : α → β → Prop} {a : α} {bs : List β} (h : All2 R [a] bs) : ∃ b, bs = [b] ∧ R a b := by
  cases h with | cons h1 h2 => cases h2; exact ⟨_, rfl, h1⟩
theorem All2.two {α β : Type} {R : α → β → Prop} {a a' : α} {bs : List β} (h : All2 R [a, a'] bs) : ∃ b b', bs = [b, b'] ∧ R a b ∧ R a' b' := by
  cases h with | cons h1 h2 => obtain ⟨b, rfl, h3⟩ := h2.one; exact ⟨_, b, rfl, h1, h3⟩
theorem BC.len {sv : SV} {m : Nat} (k : Ln W sv m) (hz : m < 1000000) (hC : C (.int m) W) : BC c l W "len" [sv] C := by
  intro s h t Q E vs sim ha hQ
  obtain ⟨v, rfl, i⟩ := ha.one
  obtain ⟨a, us, n, rfl, q, hl⟩ := k.at sim i
  refine PySem.Calls.call_len_list (s := St s h t) (isList_of q) (by rw [List.size_toArray, hl]; (clear hl; omega)) ?_
  rw [List.size_toArray, hl]
  exact hQ _ h _ _ W iInt sim (.refl _ _ _) hC
theorem BC.max {a b : Int} (hC : C (.int (if a < b then b else a)) W) : BC c l W "max" [.int a, .int b] C := by
  intro s h t Q E vs sim ha hQ
  obtain ⟨v, u, rfl, ⟨ta, rfl⟩, ⟨tb, rfl⟩⟩ := ha.two
  refine PySem.Flt.max_two_num (s := St s h t) sim.ok.hd (.int _ _) (.int _ _) fun h' tk k => ?_
  have sim' := sim.keeps k
  have : SV.is c.Fm W h' (.int (if a < b then b else a)) (if PySem.Flt.ltV (.int a ta) (.int b tb) then Value.int b tb else .int a ta) := by
    show ∃ t, _
    by_cases q : a < b
    · rw [if_pos q, if_pos (by show decide (a < b) = true; simpa using q)]; exact ⟨_, rfl⟩
    · rw [if_neg q, if_neg (by show ¬ decide (a < b) = true; simpa using q)]; exact ⟨_, rfl⟩
  exact hQ _ h' tk _ W this sim' (Stp.ofKeeps k).nil hC
theorem BC.min {a b : Int} (hC : C (.int (if b < a then b else a)) W) : BC c l W "min" [.int a, .int b] C := by
  intro s h t Q E vs sim ha hQ
  obtain ⟨v, u, rfl, ⟨ta, rfl⟩, ⟨tb, rfl⟩⟩ := ha.two
  refine PySem.Flt.min_two_num (s := St s h t) sim.ok.hd (.int _ _) (.int _ _) fun h' tk k => ?_
  have sim' := sim.keeps k
  have : SV.is c.Fm W h' (.int (if b < a then b else a)) (if PySem.Flt.ltV (.int b tb) (.int a ta) then Value.int b tb else .int a ta) := by
    show ∃ t, _
    by_cases q : b < a
    · rw [if_pos q, if_pos (by show decide (b < a) = true; simpa using q)]; exact ⟨_, rfl⟩
    · rw [if_neg q, if_neg (by show ¬ decide (b < a) = true; simpa using q)]; exact ⟨_, rfl⟩
  exact hQ _ h' tk _ W this sim' (Stp.ofKeeps k).nil hC

/-! ### new lists -/
theorem push_keep {h : Heap} {o : Obj} : ∀ b o', h.get? b = some o' → (h.push o).get? b = some o' := fun _ _ e => Heap.get?_push_of_some _ e
theorem none_at_size (h : Heap) : h.get? h.objs.size = none := Heap.get?_none_of_le (Nat.le_refl _)
theorem Sim.newLst {h h' : Heap} {a : Addr} {vs : List Value} {n : Nat} {ns : List Int} (sim : Sim c h l W) (ha : h.get? a = none) (ho : h'.get? a = some (PySem.W.listOf (List.toArray vs) n)) (hi : IntsAre vs ns) : SV.is c.Fm W h' (.lst ns) (.ref a) :=
  ⟨a, vs, n, rfl, ho, hi, sim.fresh ha⟩
theorem Bin.cat {a b : SV} {xs ys : List Int} (ka : Nl W a xs) (kb : Nl W b ys) (hz : xs.length + ys.length ≤ 1000000) (hC : C (.lst (xs ++ ys)) W) : Bin c l W .Add a b C := by
  rintro s h t Q E tr sim ⟨va, vb, ia, ib, rfl⟩ hQ
  obtain ⟨p, us, n, rfl, q1, j1⟩ := ka.at sim ia
  obtain ⟨r, ws, k, rfl, q2, j2⟩ := kb.at sim ib
  refine PySem.P.add_list (s := St s h t) (items := us.toArray) (items2 := ws.toArray) (n := n) (n2 := k) q1 q2 ?_ (by rw [List.size_toArray, List.size_toArray, j1.length, j2.length, sizeLine_eq]; omega)
  have k : ∀ b o, h.get? b = some o → (h.push { cls := .type "list", data := .seq (us.toArray ++ ws.toArray) }).get? b = some o := push_keep
  exact hQ _ _ t (.lst (xs ++ ys)) W (sim.newLst (vs := us ++ ws) (n := 0) (none_at_size h) (by rw [Heap.get?_push_size _ rfl]; simp [PySem.W.listOf]) (j1.append j2)) (sim.keeps k) (Stp.ofKeeps k).nil hC

/-- the bounds of a slice -/
inductive Pt | no | num (i : Int)
noncomputable def Pt.opt : Pt → Option Int
  | .no => none
  | .num i => some i
noncomputable def Part (c : Gx) (l : Loc) (W : Wd) (e : Option Expr) (D : Pt → Wd → Prop) : Prop := match e with
  | none => D .no W
  | some e => Ev c l W e fun sv W₁ => ∃ i, sv = .int i ∧ D (.num i) W₁
theorem Part.step {e : Option Expr} {D : Pt → Wd → Prop} (H : Part c l W e D) {s : Shared} {h : Heap} {t : Nat} {Q E : Value → Shared → Prop} (sim : Sim c h l W)
    (hQ : ∀ v p h' t' W', IsPart v (Pt.opt p) → Sim c h' l W' → Stp c.X W h W' h' → D p W' → Q v (St s h' t')) : wpAny c.M c.A (evalPart e c.env) Q E (St s h t) := by
  cases e with
  | none => exact wpAny_pure (hQ _ .no h t W .none sim (.refl _ _ _) H)
  | some e =>
    rw [evalPart_some]
    refine H s h t _ E _ sim rfl fun v h' t' sv W' i sim' st ⟨k, e1, hD⟩ => ?_
    subst e1
    obtain ⟨tk, rfl⟩ := i
    exact hQ _ (.num k) h' t' W' (.int _ _) sim' st hD
end
section
section
variable {prog : Program} {w : World} {A : Around} {E : Value → Shared → Prop} {s : Shared}
theorem setItem_slice {la sl ua : Addr} {vs us : List Value} {n k : Nat} {vl vu : Value} {lo hi : Option Int} {Q : Unit → Shared → Prop} (hl : s.heap.get? la = some (PySem.W.listOf (List.toArray vs) n)) (hu : s.heap.get? ua = some (PySem.W.listOf (List.toArray us) k)) (hne : la ≠ ua)
    (hs : s.heap.IsSliceOf sl vl vu .none) (pl : IsPart vl lo) (pu : IsPart vu hi) (hz1 : vs.length ≤ 1000000) (hz2 : us.length ≤ 1000000)
    (h : Q () { s with heap := s.heap.update la (Obj.mapSeq fun xs => xs.extract 0 (kms_lo lo vs.length) ++ us.toArray ++ xs.extract (max (kms_lo lo vs.length) (kms_hi hi vs.length)) xs.size) }) :
    wpAny (model prog w) A (setItem (.ref la) (.ref sl) (.ref ua)) Q E s := by
  have IL := isList_of hl
  have IU := isList_of hu
  obtain ⟨os, hos, hcs, hds⟩ := id hs
  have hTs : s.TypeIs (.ref sl) "slice" := ⟨os, hos, hcs⟩
  unfold setItem
  try with_reducible refine wpAny_holding ?_
  first | refine wpAny_bind (wpAny_pure ?_) | skip
  refine wpAny_bind (wpAny_sequenceKey IL.typeIs (by decide) ?_)
  refine wpAny_bind (wpAny_callSpecial?_slot (name := Str.ofString "__setitem__") IL.typeIs slot_list_setitem
    (wpAny_call_entry slot_list_setitem IL.typeIs entry_list_setitem ?_ (args_list_setitem _ _ _)))
  show wpAny _ _ (Builtin.List.listSubscript? (.ref sl) >>= _) _ _ s
  refine wpAny_bind ?_
  unfold Builtin.List.listSubscript?
  refine wpAny_bind (wpAny_specialOf hTs slice_no_index ?_)
  simp only [Option.isNone_none, if_true]
  refine wpAny_pure ?_
  show wpAny _ _ (typeOf (.ref sl) >>= _) _ _ s
  refine wpAny_bind (wpAny_typeOf hTs ?_)
  rw [if_neg (by decide)]
  rw [listSliceParts_eq]
  refine wpAny_bind (wpAny_bind (wpAny_field hos hds (x := .none) rfl (wpAny_bind (wpAny_listPart .none ?_))))
  rw [if_neg (by decide)]
  refine wpAny_bind (wpAny_field hos hds (x := vl) rfl (wpAny_bind (wpAny_listPart pl ?_)))
  refine wpAny_bind (wpAny_field hos hds (x := vu) rfl (wpAny_bind (wpAny_listPart pu (wpAny_pure ?_))))
  rw [if_neg (show ¬ (Builtin.List.listSameRef (.ref la) (.ref ua) = true) by show ¬ ((la == ua) = true); simpa using hne)]
  unfold Builtin.List.listAllItems Builtin.List.listItems
  refine wpAny_bind (wpAny_bind (wpAny_typeOf IU.typeIs ?_))
  rw [if_pos (by decide)]
  refine wpAny_bind (wpAny_seqItems hu rfl (wpAny_pure ?_))
  refine wpAny_bind (wpAny_bind (wpAny_seqItems hl rfl (wpAny_pure ?_)))
  refine wpAny_bind (wpAny_of_eq (sliceIndices_raw lo hi none vs.toArray.size (by simp)) ?_)
  rw [kms_bounds lo hi]
  rw [if_pos (by rfl)]
  refine wpAny_bind (wpAny_rule ?_)
  rw [if_neg (by unfold Builtin.List.listTooLong; rw [List.size_toArray, List.size_toArray, sizeLine_eq, decide_eq_true_eq]; (clear hne; omega))]
  have e1 : ∀ n : Nat, ((n : Nat) : Int).toNat = n := Int.toNat_natCast
  have e2 : (max ((kms_lo lo vs.toArray.size : Nat) : Int) ((kms_hi hi vs.toArray.size : Nat) : Int)).toNat = max (kms_lo lo vs.length) (kms_hi hi vs.length) := by rw [List.size_toArray]; (clear hne hz1 hz2; omega)
  simp only [e2, e1]
  refine wpAny_bind (wpAny_updateSeq hl rfl ?_ (by rw [List.size_toArray, sizeLine_eq]; (clear hne hz2 e2; omega)) ?_)
  · refine wpAny_bind (wpAny_letGo (wpAny_pure ⟨.none, rfl, wpAny_pure ?_⟩))
    rw [List.size_toArray]
    exact h
  · simp only [Array.size_append, Array.size_extract, List.size_toArray, sizeLine_eq]; (clear hne e2; omega)
end
variable {c : Gx} {l : Loc} {W : Wd} {D : Fl → Loc → Wd → Prop}
/-- a slice is put in place of another -/
noncomputable def putCut (ns us : List Int) (lo hi : Pt) : List Int := ns.take (kms_lo lo.opt ns.length) ++ us ++ ns.drop (max (kms_lo lo.opt ns.length) (kms_hi hi.opt ns.length))
theorem Sx.setslice {o e : Expr} {lo hi : Option Expr} {p pos' pos : Pos} (r : Role) (us : List Int)
    (H : Ev c l W e fun sv W₁ => sv = .lst us ∧ Ev c l W₁ o fun ov W₂ => ov = .role r ∧ r ≠ .pcs ∧ Part c l W₂ lo fun pl W₃ => Part c l W₃ hi fun ph W₄ => ∃ ns, W₄.ob r = .nums ns ∧ ns.length ≤ 1000000 ∧ us.length ≤ 1000000 ∧ D .next l (W₄.put r (.nums (putCut ns us pl ph))))
    (hsw : ∀ env, swapsWith e (some (.Subscript o (.Slice lo hi none p) pos')) pos.line env = pure false) : Sx c l W (.Assign [.Subscript o (.Slice lo hi none p) pos'] e pos) D := by
  intro s h t Q E sim hQ
  refine wpAny_Assign_Subscript ?_ (hsw _)
  refine H s h t _ E _ sim rfl fun v h1 t1 sv W1 i1 sim1 st1 ⟨e1, H1⟩ => ?_
  subst e1
  refine H1 s h1 t1 _ E _ sim1 rfl fun ov h2 t2 osv W2 i2 sim2 st2 ⟨e2, hr, H2⟩ => ?_
  subst e2
  have str : SV.stable (.role r) = true := by cases r <;> first | rfl | exact absurd rfl hr
  refine wpAny_Slice ?_
  refine H2.step sim2 fun lv pl h3 t3 W3 i3 sim3 st3 H3 => ?_
  refine H3.step sim3 fun hv ph h4 t4 W4 i4 sim4 st4 ⟨ns, ho, z1, z2, hD⟩ => ?_
  rw [evalPart_none]
  refine wpAny_pure ?_
  have iv := SV.is_stp c.XF st4 rfl (SV.is_stp c.XF st3 rfl (SV.is_stp c.XF st2 rfl i1))
  have io := SV.is_stp c.XF st4 str (SV.is_stp c.XF st3 str i2)
  obtain ⟨rfl, _⟩ := io
  obtain ⟨ua, uvs, un, rfl, uq, uj, um⟩ := iv
  have H := sim4.ws.holds r
  rw [ho] at H
  obtain ⟨vs, n, q, j⟩ := H
  have adrs : W4.adrs r = [W4.ad r] := by unfold Wd.adrs; rw [ho]
  let h5 := h4.push { cls := .type "slice", data := .fields #[lv, hv, .none] }
  have k5 : ∀ b o, h4.get? b = some o → h5.get? b = some o := push_keep
  have sim5 : Sim c h5 l W4 := sim4.keeps k5
  let f : Obj → Obj := Obj.mapSeq fun xs => xs.extract 0 (kms_lo pl.opt vs.length) ++ uvs.toArray ++ xs.extract (max (kms_lo pl.opt vs.length) (kms_hi ph.opt vs.length)) xs.size
  have hne : W4.ad r ≠ ua := fun z => um (.inl ⟨r, by rw [adrs, z]; simp⟩)
  refine setItem_slice (s := St s h5 t4) (k5 _ _ q) (k5 _ _ uq) hne (Heap.IsSliceOf.new ..) i3 i4 (by rw [j.length]; exact z1) (by rw [uj.length]; exact z2) ?_
  have e : (vs.toArray.extract 0 (kms_lo pl.opt vs.length) ++ uvs.toArray ++ vs.toArray.extract (max (kms_lo pl.opt vs.length) (kms_hi ph.opt vs.length)) vs.toArray.size) = (vs.take (kms_lo pl.opt vs.length) ++ uvs ++ vs.drop (max (kms_lo pl.opt vs.length) (kms_hi ph.opt vs.length))).toArray := by
    apply Array.toList_inj.mp
    simp [List.extract_eq_take_drop]
    exact List.take_of_length_le (by rw [List.length_drop]; exact Nat.le_refl _)
  have hf : ∃ n', f (PySem.W.listOf (List.toArray vs) n) = PySem.W.listOf (vs.toArray.extract 0 (kms_lo pl.opt vs.length) ++ uvs.toArray ++ vs.toArray.extract (max (kms_lo pl.opt vs.length) (kms_hi ph.opt vs.length)) vs.toArray.size) n' := ⟨_, rfl⟩
  rw [e] at hf
  obtain ⟨n', hf⟩ := hf
  have k : Like W4 (W4.put r (.nums (putCut ns us pl ph))) := Like.put (by rw [ho]; rfl)
  have hk : ∀ b o, h5.get? b = some o → b ∉ W4.adrs r → (h5.update (W4.ad r) f).get? b = some o := fun b o e m => by
    rw [adrs] at m
    rw [Heap.get?_update_ne _ _ _ _ (fun q => m (by rw [q]; simp))]; exact e
  have hl := upd_live (f := f) (k5 _ _ q) (by rw [hf]; rfl)
  have stp : Stp Nil W4 h5 (W4.put r (.nums (putCut ns us pl ph))) (h5.update (W4.ad r) f) := Like.stp (r := r) k hk hl
  have ws : WS c.w c.Fm c.g c.L (h5.update (W4.ad r) f) (W4.put r (.nums (putCut ns us pl ph))) := by
    refine WS.put (r := r) sim5.ws k hk (fun r' e => Wd.put_ne _ _ e) ?_
    rw [Wd.put_self]
    refine ⟨vs.take (kms_lo pl.opt vs.length) ++ uvs ++ vs.drop (max (kms_lo pl.opt vs.length) (kms_hi ph.opt vs.length)), n', ?_, ?_⟩
    · show (h5.update (W4.ad r) f).get? (W4.ad r) = _
      rw [Heap.get?_update_self f (k5 _ _ q) (by rw [hf]; rfl), hf]
    · unfold putCut
      rw [← j.length]
      exact ((j.take _).append uj).append (j.drop _)
  exact hQ .next _ t4 .next l _ rfl (sim5.stp stp ws) ((((st1.trans st2).trans st3).trans st4).trans ((Stp.ofKeeps k5).trans stp).nil) hD
end
section
variable {c : Gx} {l : Loc} {W : Wd} {C : SV → Wd → Prop}

/-! ### a value is put into a target -/
noncomputable def As1 (c : Gx) (l : Loc) (W : Wd) (m : Value → Sem Unit) (sv : SV) (D : Loc → Wd → Prop) : Prop :=
  ∀ (s : Shared) (h : Heap) (t : Nat) (Q : Unit → Shared → Prop) (E : Value → Shared → Prop) (v : Value), Sim c h l W → sv.is c.Fm W h v →
    (∀ h' t' l' W', Sim c h' l' W' → Stp c.X W h W' h' → D l' W' → Q () (St s h' t')) → wpAny c.M c.A (m v) Q E (St s h t)
noncomputable def Aio (c : Gx) (l : Loc) (W : Wd) (ms : List (Value → Sem Unit)) (svs : List SV) (D : Loc → Wd → Prop) : Prop :=
  ∀ (s : Shared) (h : Heap) (t : Nat) (Q : Unit → Shared → Prop) (E : Value → Shared → Prop) (vs : List Value), Sim c h l W → All2 (SV.is c.Fm W h) svs vs →
    (∀ h' t' l' W', Sim c h' l' W' → Stp c.X W h W' h' → D l' W' → Q () (St s h' t')) → wpAny c.M c.A (assignInOrder ms vs) Q E (St s h t)
theorem Aio.nil {D : Loc → Wd → Prop} (H : D l W) : Aio c l W [] [] D := fun _ h t _ _ _ sim _ hQ => wpAny_pure (hQ h t l W sim (.refl _ _ _) H)
theorem All2.stp {svs : List SV} {vs : List Value} {h h' : Heap} {W' : Wd} (st : Stp c.X W h W' h') (hst : svs.all SV.stable = true) (a : All2 (SV.is c.Fm W h) svs vs) : All2 (SV.is c.Fm W' h') svs vs := by
  induction a with
  | nil => exact .nil
  | cons i _ ih =>
    simp only [List.all_cons, Bool.and_eq_true] at hst
    exact .cons (SV.is_stp c.XF st hst.1 i) (ih hst.2)
theorem Aio.cons {m : Value → Sem Unit} {ms : List (Value → Sem Unit)} {sv : SV} {svs : List SV} {D : Loc → Wd → Prop} (hst : svs.all SV.stable = true) (H : As1 c l W m sv fun l' W' => Aio c l' W' ms svs D) : Aio c l W (m :: ms) (sv :: svs) D := by
  intro s h t Q E vs sim a hQ
  cases a with
  | cons i a =>
    refine wpAny_bind (wpAny_holding (H s h t _ E _ sim i fun h' t' l' W' sim' st H' => ?_))
    exact H' s h' t' Q E _ sim' (a.stp st hst) fun h2 t2 l2 W2 sim2 st2 hD => hQ h2 t2 l2 W2 sim2 (st.trans st2) hD
/-- what a tuple holds -/
inductive Tup : SV → List SV → Prop
  | ipair {a b} : Tup (.ipair a b) [.int a, .int b]
  | trip {a b} : Tup (.trip a b) [.int a, .int b, .lst []]
theorem Tup.at {sv svs h v} (k : Tup sv svs) (i : SV.is c.Fm W h sv v) : ∃ x vs, v = .ref x ∧ IsTup h x (List.toArray vs) ∧ All2 (SV.is c.Fm W h) svs vs := by
  cases k with
  | ipair => obtain ⟨x, t, u, n, e, q, m⟩ := i; exact ⟨x, [_, _], e, ⟨_, q, rfl, n, rfl⟩, .cons ⟨_, rfl⟩ (.cons ⟨_, rfl⟩ .nil)⟩
  | trip => obtain ⟨x, t, u, n, v3, e, q, i3, m⟩ := i; exact ⟨x, [_, _, _], e, ⟨_, q, rfl, n, rfl⟩, .cons ⟨_, rfl⟩ (.cons ⟨_, rfl⟩ (.cons i3 .nil))⟩
theorem Tup.stable {sv svs} (k : Tup sv svs) : svs.all SV.stable = true := by cases k <;> rfl
theorem extKeep {h h' : Heap} (x : Heap.ExtBut h.objs.size h h') : ∀ b o, h.get? b = some o → h'.get? b = some o := fun b o e => x b o (Nat.ne_of_lt (Heap.lt_size e)) e
theorem As1.tup {elts : List Expr} {k : Nat} {pos : Pos} {sv : SV} {svs : List SV} {D : Loc → Wd → Prop} (kt : Tup sv svs) (hn : ∀ env, (assignEach elts env).length = svs.length) (hstar : ∀ env, (assignEach elts env).findIdx? (·.1) = none)
    (H : Aio c l W ((assignEach elts c.env).map (·.2)) svs D) : As1 c l W (assign (.Tuple elts k pos) c.env) sv D := by
  intro s h t Q E v sim i hQ
  obtain ⟨x, vs, rfl, q, a⟩ := kt.at i
  refine assign_Tuple_tuple (s := St s h t) sim.ok.hd q (by rw [hn, List.size_toArray, a.length]) (hstar _) fun h' he => ?_
  have kp := extKeep he
  have st := Stp.ofKeeps (W := W) kp
  exact H s h' t Q E vs (sim.keeps kp) (a.stp st.nil kt.stable) fun h2 t2 l2 W2 sim2 st2 hD => hQ h2 t2 l2 W2 sim2 (st.nil.trans st2) hD
/-- a tuple's parts into names -/
theorem Sx.unpack {elts : List Expr} {k : Nat} {tp pos : Pos} {e : Expr} {D : Fl → Loc → Wd → Prop} (H : Ev c l W e fun sv W₁ => As1 c l W₁ (PySem.assign (.Tuple elts k tp) c.env) sv fun l₂ W₂ => D .next l₂ W₂)
    (hs : ∀ env, swapsWithSole [.Tuple elts k tp] e pos.line env = pure false) (hw : ∀ env, swappedStores [.Tuple elts k tp] e env = pure none) : Sx c l W (.Assign [.Tuple elts k tp] e pos) D := by
  intro s h t Q E sim hQ
  refine Assign_Tuple ?_ (hs _) (hw _)
  refine H s h t _ E _ sim rfl fun v h' t' sv W' i sim' st H' => ?_
  exact H' s h' t' _ E v sim' i fun h2 t2 l2 W2 sim2 st2 hD => hQ .next h2 t2 .next l2 W2 rfl sim2 (st.trans st2) hD
theorem newTup {vs : List Value} {s : Shared} {h : Heap} {t : Nat} {Q E : Value → Shared → Prop} (hz : vs.length ≤ 100)
    (hQ : Q (.ref h.objs.size) (St s (h.push { cls := .type "tuple", data := .seq vs.toArray }) t)) : wpAny c.M c.A (newTuple vs) Q E (St s h t) :=
  wpAny_newObj_type hQ (by show vs.toArray.size ≤ sizeLine; rw [List.size_toArray, sizeLine_eq]; omega)
/-- a written tuple into names: no tuple is made to be kept -/
theorem Sx.tup {elts es : List Expr} {k k' : Nat} {tp ep pos : Pos} {D : Fl → Loc → Wd → Prop}
    (H : Ars c l W (spliced (backTo ep (starEach es c.env))) fun svs W₁ => svs.all SV.stable = true ∧ svs.length = elts.length ∧ Aio c l W₁ ((assignEach elts c.env).map (·.2)) svs fun l₂ W₂ => D .next l₂ W₂)
    (hn : ∀ env, (assignEach elts env).length = elts.length) (hstar : ∀ env, (assignEach elts env).findIdx? (·.1) = none) (hl2 : elts.length ≤ 100)
    (hs : ∀ env, swapsWithSole [.Tuple elts k tp] (.Tuple es k' ep) pos.line env = pure false) (hw : ∀ c : Gx, c.cs = c.cs → swappedStores [.Tuple elts k tp] (.Tuple es k' ep) c.env = pure none) : Sx c l W (.Assign [.Tuple elts k tp] (.Tuple es k' ep) pos) D := by
  intro s h t Q E sim hQ
  refine Assign_Tuple ?_ (hs _) (hw c rfl)
  refine Tuple_ (H s h t _ E sim fun vs h' t' svs W' a sim' st ⟨hst, hle, H'⟩ => ?_)
  refine newTup (by rw [← a.length]; (clear hle; omega)) ?_
  have kp : ∀ b o, h'.get? b = some o → (h'.push { cls := .type "tuple", data := .seq vs.toArray }).get? b = some o := push_keep
  have st2 := Stp.ofKeeps (W := W') kp
  refine assign_Tuple_tuple (s := St s _ t') (items := vs.toArray) sim'.ok.hd ⟨_, Heap.get?_push_size _ rfl, rfl, 0, rfl⟩ (by rw [hn, List.size_toArray, ← a.length, hle]) (hstar _) fun h2 he => ?_
  have kp2 := extKeep he
  have st3 := Stp.ofKeeps (W := W') kp2
  exact H' s h2 t' _ E vs ((sim'.keeps kp).keeps kp2) ((a.stp st2.nil hst).stp st3.nil hst) fun h4 t4 l4 W4 sim4 st4 hD => hQ .next h4 t4 .next l4 W4 rfl sim4 (((st.trans st2.nil).trans st3.nil).trans st4) hD
theorem All2.rev {α β : Type} {R : α → β → Prop} {as bs} (h : All2 R as bs) : All2 R as.reverse bs.reverse := by
  induction h with
  | nil => exact .nil
  | cons a _ ih => rw [List.reverse_cons, List.reverse_cons]; exact ih.append (.cons a .nil)
theorem Sx.swap {elts es : List Expr} {names : List Str} {k k' : Nat} {tp ep pos : Pos} {D : Fl → Loc → Wd → Prop}
    (H : Ars c l W (spliced (backTo ep (starEach es c.env))) fun svs W₁ => svs.all SV.stable = true ∧ svs.length = names.length ∧ Aio c l W₁ (names.reverse.map fun n => bindName c.env n) svs.reverse fun l₂ W₂ => D .next l₂ W₂)
    (hl2 : names.length ≤ 100)
    (hs : ∀ env, swapsWithSole [.Tuple elts k tp] (.Tuple es k' ep) pos.line env = pure false) (hw : swappedStores [.Tuple elts k tp] (.Tuple es k' ep) c.env = pure (some names)) : Sx c l W (.Assign [.Tuple elts k tp] (.Tuple es k' ep) pos) D := by
  intro s h t Q E sim hQ
  refine Assign_Tuple_swapped ?_ (hs _) hw
  refine Tuple_ (H s h t _ E sim fun vs h' t' svs W' a sim' st ⟨hst, hle, H'⟩ => ?_)
  refine newTup (by rw [← a.length]; (clear hle; omega)) ?_
  have kp : ∀ b o, h'.get? b = some o → (h'.push { cls := .type "tuple", data := .seq vs.toArray }).get? b = some o := push_keep
  have st2 := Stp.ofKeeps (W := W') kp
  have e1 : names.length = vs.toArray.size := by rw [List.size_toArray, ← a.length, hle]
  rw [e1]
  refine unpackItems_tuple (s := St s _ t') (items := vs.toArray) sim'.ok.hd ⟨_, Heap.get?_push_size _ rfl, rfl, 0, rfl⟩ fun h2 he => ?_
  have kp2 := extKeep he
  have st3 := Stp.ofKeeps (W := W') kp2
  refine H' s h2 t' _ E vs.reverse ((sim'.keeps kp).keeps kp2) ?_ fun h4 t4 l4 W4 sim4 st4 hD => hQ .next h4 t4 .next l4 W4 rfl sim4 (((st.trans st2.nil).trans st3.nil).trans st4) hD
  exact ((a.stp st2.nil hst).stp st3.nil hst).rev
end
section
variable {c : Gx} {l : Loc} {W : Wd} {C : SV → Wd → Prop}

/-! ### equality of data -/
theorem readsInts {h : Heap} : ∀ {vs : List Value} {ns : List Int}, IntsAre vs ns → ReadsAll h vs (ns.map .int) []
  | _, _, .nil => .nil
  | _, _, .cons n t r => .cons (as := []) (bs := []) (.int n t) (readsInts r)
theorem IsLst.reads {P : Addr → Prop} {h v ns} (x : IsLst P h v ns) : ∃ a, Reads h v (.list (ns.map .int)) a := by
  obtain ⟨a, vs, n, rfl, q, i, _⟩ := x
  exact ⟨_, .list q rfl rfl (by simpa using readsInts i)⟩
theorem NumsAt.reads {h v ns} (x : NumsAt h v ns) : ∃ a, Reads h v (.list (ns.map .int)) a := by
  obtain ⟨a, vs, n, rfl, q, i⟩ := x
  exact ⟨_, .list q rfl rfl (by simpa using readsInts i)⟩
noncomputable def ll (L : List (List Int)) : PyData := .list (L.map fun ns => .list (ns.map .int))
theorem readsLists {P : Addr → Prop} {h : Heap} {vs : List Value} {L : List (List Int)} (x : All2 (IsLst P h) vs L) : ∃ a, ReadsAll h vs (L.map fun ns => .list (ns.map .int)) a := by
  induction x with
  | nil => exact ⟨_, .nil⟩
  | cons i _ ih =>
    obtain ⟨a, ra⟩ := i.reads
    obtain ⟨b, rb⟩ := ih
    exact ⟨_, .cons ra rb⟩
theorem IsLol.reads {P : Addr → Prop} {h v L} (x : IsLol P h v L) : ∃ a, Reads h v (ll L) a := by
  obtain ⟨a, vs, n, rfl, q, i, _⟩ := x
  obtain ⟨b, rb⟩ := readsLists i
  exact ⟨_, .list q rfl rfl (by simpa using rb)⟩
inductive Dt (W : Wd) : SV → PyData → Prop
  | lst {ns} : Dt W (.lst ns) (.list (ns.map .int))
  | role {r ns} (h : W.ob r = .nums ns) : Dt W (.role r) (.list (ns.map .int))
  | lol {L} : Dt W (.lol L) (ll L)
  | stt {T p L} : Dt W (.stt T p L) (.tuple [.list (T.map .int), .int p, ll L])
theorem Dt.at {sv d h v} (k : Dt W sv d) (sim : Sim c h l W) (i : SV.is c.Fm W h sv v) : ∃ a, Reads h v d a := by
  cases k with
  | lst => exact IsLst.reads i
  | @role r ns ho => exact ((Nl.role ho).at sim i).reads
  | lol => exact IsLol.reads i
  | stt =>
    obtain ⟨x, v1, t, v3, n, rfl, q, i1, i3, m⟩ := i
    obtain ⟨a, ra⟩ := i1.reads
    obtain ⟨b, rb⟩ := i3.reads
    exact ⟨_, .tuple q rfl rfl (.cons ra (.cons (.int _ t) (.cons rb .nil)))⟩
theorem eqvInts : ∀ xs ys : List Int, PyData.eqvAll (xs.map .int) (ys.map .int) = decide (xs = ys)
  | [], [] => rfl
  | x :: xs, y :: ys => by
    show ((x == y) && PyData.eqvAll (xs.map .int) (ys.map .int)) = _
    rw [eqvInts xs ys]
    by_cases e : x = y <;> simp [e]
  | [], y :: ys => by simp [PyData.eqvAll]
  | x :: xs, [] => by simp [PyData.eqvAll]
theorem eqvLists : ∀ xs ys : List (List Int), PyData.eqvAll (xs.map fun ns => .list (ns.map .int)) (ys.map fun ns => .list (ns.map .int)) = decide (xs = ys)
  | [], [] => rfl
  | x :: xs, y :: ys => by
    show (PyData.eqvAll (x.map .int) (y.map .int) && PyData.eqvAll _ _) = _
    rw [eqvLists xs ys, eqvInts]
    by_cases e : x = y <;> simp [e]
  | [], y :: ys => by simp [PyData.eqvAll]
  | x :: xs, [] => by simp [PyData.eqvAll]
inductive Eqd (W : Wd) : SV → SV → Prop → Prop
  | nums {a b xs ys} (ha : Nl W a xs) (hb : Nl W b ys) : Eqd W a b (xs = ys)
  | lols {xs ys} : Eqd W (.lol xs) (.lol ys) (xs = ys)
  | stts {T p L T' p' L'} : Eqd W (.stt T p L) (.stt T' p' L') (T = T' ∧ p = p' ∧ L = L')
theorem Nl.dt {sv ns} (k : Nl W sv ns) : Dt W sv (.list (ns.map .int)) := by cases k with | lst => exact .lst | role h => exact .role h
theorem canInts : ∀ ns : List Int, PyData.canLayAll0 (ns.map .int) = true
  | [] => rfl
  | n :: ns => by show (true && PyData.canLayAll0 (ns.map .int)) = true; rw [canInts ns]; rfl
theorem depInts : ∀ ns : List Int, PyData.depthAll (ns.map .int) = 0
  | [] => rfl
  | n :: ns => by show max 0 (PyData.depthAll (ns.map .int)) = 0; rw [depInts ns]; rfl
theorem canLists : ∀ L : List (List Int), PyData.canLayAll0 (L.map fun ns => .list (ns.map .int)) = true
  | [] => rfl
  | n :: ns => by show (PyData.canLayAll0 (n.map .int) && PyData.canLayAll0 _) = true; rw [canLists ns, canInts]; rfl
theorem depLists : ∀ L : List (List Int), PyData.depthAll (L.map fun ns => .list (ns.map .int)) ≤ 1
  | [] => Nat.zero_le _
  | n :: ns => by
    show max (PyData.depthAll (n.map .int) + 1) (PyData.depthAll _) ≤ 1
    rw [depInts]
    have := depLists ns
    omega
theorem Dt.shaped {sv d} (k : Dt W sv d) : SeqAt.shaped d = true := by
  have hi : ∀ ns : List Int, SeqAt.shaped (.list (ns.map .int)) = true := fun ns => by
    show (PyData.canLayAll0 (ns.map .int) && decide (PyData.depthAll (ns.map .int) + 1 ≤ 64)) = true
    rw [canInts, depInts]; rfl
  have hl : ∀ L : List (List Int), SeqAt.shaped (ll L) = true := fun L => by
    show (PyData.canLayAll0 _ && decide (PyData.depthAll _ + 1 ≤ 64)) = true
    rw [canLists, Bool.true_and, decide_eq_true_eq]
    have := depLists L
    omega
  cases k with
  | lst => exact hi _
  | role h => exact hi _
  | lol => exact hl _
  | @stt T p L =>
    show ((PyData.canLayAll0 (T.map .int) && (true && (PyData.canLayAll0 (L.map fun ns => .list (ns.map .int)) && true))) && decide (max (PyData.depthAll (T.map .int) + 1) (max 0 (max (PyData.depthAll (L.map fun ns => .list (ns.map .int)) + 1) 0)) + 1 ≤ 64)) = true
    rw [canInts, canLists, depInts]
    have := depLists L
    simp
    omega
theorem Cmp.eqd {a b : SV} {da db : PyData} (ka : Dt W a da) (kb : Dt W b db) (hC : C (.bool (PyData.eqv da db)) W) : Cmp c l W .Eq a b C := by
  rintro s h t Q E tr sim ⟨va, vb, ia, ib, rfl⟩ hQ
  obtain ⟨p, ra⟩ := ka.at sim ia
  obtain ⟨q, rb⟩ := kb.at sim ib
  exact eq_dataH (s := St s h t) ra rb ka.shaped kb.shaped (by have := sim.ok.un; show c.A.units + 64 < 9900; omega) (hQ _ h t _ W iBool sim (.refl _ _ _) hC)
theorem Cmp.ned {a b : SV} {da db : PyData} (ka : Dt W a da) (kb : Dt W b db) (hC : C (.bool (!PyData.eqv da db)) W) : Cmp c l W .NotEq a b C := by
  rintro s h t Q E tr sim ⟨va, vb, ia, ib, rfl⟩ hQ
  obtain ⟨p, ra⟩ := ka.at sim ia
  obtain ⟨q, rb⟩ := kb.at sim ib
  exact ne_dataH (s := St s h t) ra rb ka.shaped kb.shaped (by have := sim.ok.un; show c.A.units + 64 < 9900; omega) (hQ _ h t _ W iBool sim (.refl _ _ _) hC)
theorem Cmp.neN {a b : SV} {xs ys : List Int} (ka : Nl W a xs) (kb : Nl W b ys) (hC : C (.bool (!decide (xs = ys))) W) : Cmp c l W .NotEq a b C := Cmp.ned ka.dt kb.dt (by rw [show PyData.eqv (.list (xs.map .int)) (.list (ys.map .int)) = _ from eqvInts xs ys]; exact hC)
theorem Cmp.eqL {xs ys : List (List Int)} (hC : C (.bool (decide (xs = ys))) W) : Cmp c l W .Eq (.lol xs) (.lol ys) C := Cmp.eqd .lol .lol (by rw [show PyData.eqv (ll xs) (ll ys) = _ from eqvLists xs ys]; exact hC)
theorem Cmp.neL0 {xs : List (List Int)} (hC : C (.bool (!decide (xs = []))) W) : Cmp c l W .NotEq (.lol xs) (.lst []) C := Cmp.ned .lol .lst (by rw [show PyData.eqv (ll xs) (.list (([] : List Int).map .int)) = _ from eqvLists xs []]; exact hC)
theorem Cmp.eqS {T T' : List Int} {p p' : Int} {L L' : List (List Int)} (hC : C (.bool (decide (T = T' ∧ p = p' ∧ L = L'))) W) : Cmp c l W .Eq (.stt T p L) (.stt T' p' L') C := Cmp.eqd .stt .stt (by
  have : PyData.eqv (.tuple [.list (T.map .int), .int p, ll L]) (.tuple [.list (T'.map .int), .int p', ll L']) = decide (T = T' ∧ p = p' ∧ L = L') := by
    show (PyData.eqvAll (T.map .int) (T'.map .int) && ((p == p') && (PyData.eqvAll (L.map fun ns => .list (ns.map .int)) (L'.map fun ns => .list (ns.map .int)) && true))) = _
    rw [eqvInts, eqvLists]
    by_cases e1 : T = T' <;> by_cases e2 : p = p' <;> by_cases e3 : L = L' <;> simp [e1, e2, e3]
  rw [this]; exact hC)
/-! ints -/
theorem Cmp.le {a b : Int} (hC : C (.bool (decide (a ≤ b))) W) : Cmp c l W .LtE (.int a) (.int b) C := by
  rintro s h t Q E tr sim ⟨va, vb, ⟨ta, rfl⟩, ⟨tb, rfl⟩, rfl⟩ hQ
  exact PyProof.Rows.le_int (hQ _ h t _ W iBool sim (.refl _ _ _) hC)
theorem Cmp.ge {a b : Int} (hC : C (.bool (decide (b ≤ a))) W) : Cmp c l W .GtE (.int a) (.int b) C := by
  rintro s h t Q E tr sim ⟨va, vb, ⟨ta, rfl⟩, ⟨tb, rfl⟩, rfl⟩ hQ
  exact PyProof.Rows.ge_int (hQ _ h t _ W iBool sim (.refl _ _ _) hC)
theorem Cmp.ne {a b : Int} (hC : C (.bool (a != b)) W) : Cmp c l W .NotEq (.int a) (.int b) C := by
  rintro s h t Q E tr sim ⟨va, vb, ⟨ta, rfl⟩, ⟨tb, rfl⟩, rfl⟩ hQ
  exact PyProof.Rows.ne_int (hQ _ h t _ W iBool sim (.refl _ _ _) hC)
/-! is None -/
noncomputable def SV.isN : SV → Bool
  | .none => true
  | _ => false
noncomputable def SV.sure : SV → Bool
  | .any => false
  | .fn _ => false
  | _ => true
theorem SV.isN_at {F : Addr → Prop} {W : Wd} {h : Heap} {sv : SV} {v : Value} (i : sv.is F W h v) (hp : sv.sure = true) : (v == .none) = sv.isN := by
  cases sv with
  | none => cases i; rfl
  | bool b => cases i; rfl
  | int n => obtain ⟨t, rfl⟩ := i; rfl
  | str n => obtain ⟨t, rfl⟩ := i; rfl
  | any => cases hp
  | role r => obtain ⟨rfl, _⟩ := i; rfl
  | lst ns => obtain ⟨_, _, _, rfl, _⟩ := i; rfl
  | piece ns => obtain ⟨_, _, _, _, _, _, rfl, _⟩ := i; rfl
  | lol L => obtain ⟨_, _, _, rfl, _⟩ := i; rfl
  | ipair a b => obtain ⟨_, _, _, _, rfl, _⟩ := i; rfl
  | trip a b => obtain ⟨_, _, _, _, _, rfl, _⟩ := i; rfl
  | trips L => obtain ⟨_, _, _, rfl, _⟩ := i; rfl
  | pcl L => obtain ⟨_, _, _, rfl, _⟩ := i; rfl
  | rng n => obtain ⟨_, _, rfl, _⟩ := i; rfl
  | stt T p L => obtain ⟨_, _, _, _, _, rfl, _⟩ := i; rfl
  | fn f => cases hp
theorem Cmp.isNone {a : SV} (hp : a.sure = true) (hC : C (.bool a.isN) W) : Cmp c l W .Is a .none C := by
  rintro s h t Q E tr sim ⟨va, vb, ia, rfl, rfl⟩ hQ
  refine is_none_gen ?_
  rw [SV.isN_at ia hp]
  exact hQ _ h t _ W iBool sim (.refl _ _ _) hC
theorem Cmp.notNone {a : SV} (hp : a.sure = true) (hC : C (.bool (!a.isN)) W) : Cmp c l W .IsNot a .none C := by
  rintro s h t Q E tr sim ⟨va, vb, ia, rfl, rfl⟩ hQ
  refine isnot_none_gen ?_
  rw [SV.isN_at ia hp]
  exact hQ _ h t _ W iBool sim (.refl _ _ _) hC
theorem Cmp.notSame {r : Role} (hC : C (.bool false) W) : Cmp c l W .IsNot (.role r) (.role r) C := by
  rintro s h t Q E tr sim ⟨va, vb, ⟨rfl, _⟩, ⟨rfl, _⟩, rfl⟩ hQ
  refine wpAny_isNot_ref_self ?_
  exact hQ _ h t _ W iBool sim (.refl _ _ _) hC
/-! ### choices -/
theorem Ev.ifx {test body orelse : Expr} {pos : Pos} (H : Is c l W test fun b W₁ => (b = true → Ev c l W₁ body C) ∧ (b = false → Ev c l W₁ orelse C)) : Ev c l W (.IfExp test body orelse pos) C := by
  intro s h t Q E tr sim htr hQ
  subst htr
  refine IfExp_ (H s h t _ E sim fun b h' t' W' sim' st hD => ?_)
  cases b with
  | true => rw [if_pos rfl]; exact hD.1 rfl s h' t' Q E _ sim' rfl fun v h2 t2 sv W2 i2 sim2 st2 hC => hQ v h2 t2 sv W2 i2 sim2 (st.trans st2) hC
  | false => rw [if_neg (by decide)]; exact hD.2 rfl s h' t' Q E _ sim' rfl fun v h2 t2 sv W2 i2 sim2 st2 hC => hQ v h2 t2 sv W2 i2 sim2 (st.trans st2) hC
theorem Ev.and {e₁ e₂ : Expr} {rest : List Expr} {pos : Pos} (H : Ev c l W e₁ fun sv W₁ => ∃ b, sv = .bool b ∧ (b = false → C (.bool false) W₁) ∧ (b = true → Ev c l W₁ (.BoolOp .And (e₂ :: rest) pos) C)) : Ev c l W (.BoolOp .And (e₁ :: e₂ :: rest) pos) C := by
  intro s h t Q E tr sim htr hQ
  subst htr
  refine BoolOp_and (H s h t _ E _ sim rfl fun v h' t' sv W' i sim' st hD => ?_)
  obtain ⟨b, rfl, h1, h2⟩ := hD
  cases i
  refine wpAny_truthy_bool ?_
  cases b with
  | true => rw [if_pos rfl]; exact h2 rfl s h' t' Q E _ sim' rfl fun v h2 t2 sv W2 i2 sim2 st2 hC => hQ v h2 t2 sv W2 i2 sim2 (st.trans st2) hC
  | false => rw [if_neg (by decide)]; exact hQ _ h' t' _ W' iBool sim' st (h1 rfl)
theorem Ev.and1 {e : Expr} {pos : Pos} (H : Ev c l W e C) : Ev c l W (.BoolOp .And [e] pos) C := by
  intro s h t Q E tr sim htr hQ
  subst htr
  exact BoolOp_one (H s h t Q E _ sim rfl hQ)
/-! ### more arithmetic -/
theorem Bin.mul {a b : Int} (hm : IntMulOk a b) (hC : C (.int (a * b)) W) : Bin c l W .Mult (.int a) (.int b) C := by
  rintro s h t Q E tr sim ⟨va, vb, ⟨ta, rfl⟩, ⟨tb, rfl⟩, rfl⟩ hQ
  exact PyProof.Rows.mul_int (hQ _ h (t + 1) _ W iInt sim (.refl _ _ _) hC) hm
end
section
variable {c : Gx} {l : Loc} {W : Wd} {C : SV → Wd → Prop}

noncomputable def Keep (o : SV) (W₁ W₂ : Wd) : Prop := o.stable = true ∨ ((∃ r, o = .role r) ∧ W₂ = W₁)
theorem Keep.is {o : SV} {W₁ W₂ : Wd} {h h' : Heap} {v : Value} (k : Keep o W₁ W₂) (st : Stp c.X W₁ h W₂ h') (i : o.is c.Fm W₁ h v) : o.is c.Fm W₂ h' v := by
  rcases k with k | ⟨⟨r, rfl⟩, rfl⟩
  · exact SV.is_stp c.XF st k i
  · exact i
theorem Ars.more {e : Expr} {es : List Expr} {pos : Pos} {D : List SV → Wd → Prop} (H : Ev c l W e fun a W₁ => Ars c l W₁ (spliced (backTo pos (starEach es c.env))) fun as W₂ => Keep a W₁ W₂ ∧ D (a :: as) W₂)
    (he : ∀ env, starEach (e :: es) env = (false, eval e env) :: starEach es env) : Ars c l W (spliced (backTo pos (starEach (e :: es) c.env))) D := by
  intro s h t Q E sim hQ
  refine spliced_more ?_ (he _)
  refine H s h t _ E _ sim rfl fun v h' t' a W' i sim' st H' => ?_
  refine H' s h' t' _ E sim' fun vs h2 t2 as W2 is2 sim2 st2 ⟨sta, hD⟩ => ?_
  exact hQ _ h2 t2 (a :: as) W2 (.cons (sta.is st2 i) is2) sim2 (st.trans st2) hD

/-! ### displays -/
inductive Dsp : List SV → SV → Prop
  | nums (ns : List Int) : Dsp (ns.map .int) (.lst ns)
  | lists (L : List (List Int)) : Dsp (L.map .lst) (.lol L)
  | pieces (L : List (List Int)) : Dsp (L.map .piece) (.pcl L)
  | trips (L : List (Int × Int)) : Dsp (L.map fun p => .trip p.1 p.2) (.trips L)
  | any (xs : List SV) : Dsp xs .any
theorem All2.ofMap {α β γ : Type} {R : α → β → Prop} {f : γ → α} : ∀ {cs : List γ} {bs : List β}, All2 R (cs.map f) bs → All2 (fun b c => R (f c) b) bs cs
  | [], _, h => by cases h; exact .nil
  | _ :: _, _, h => by cases h with | cons a b => exact .cons a b.ofMap
theorem intsOf {F : Addr → Prop} {h : Heap} : ∀ {ns : List Int} {vs : List Value}, All2 (SV.is F W h) (ns.map .int) vs → IntsAre vs ns
  | [], _, x => by cases x; exact .nil
  | n :: ns, _, x => by cases x with | cons a b => obtain ⟨t, rfl⟩ := a; exact .cons n t (intsOf b)
theorem Dsp.at {svs sv} (k : Dsp svs sv) {h h' : Heap} {vs : List Value} {a : Addr} {n : Nat} (sim : Sim c h l W) (i : All2 (SV.is c.Fm W h) svs vs) (hn : h.get? a = Option.none) (ho : h'.get? a = some (PySem.W.listOf (List.toArray vs) n)) (kp : ∀ b o, h.get? b = some o → h'.get? b = some o) : sv.is c.Fm W h' (.ref a) := by
  have kk : ∀ b o, h.get? b = some o → ¬ W.P c.Fm b → h'.get? b = some o ∧ ¬ W.P c.Fm b := fun b o e m => ⟨kp b o e, m⟩
  cases k with
  | nums ns => exact ⟨a, vs, n, rfl, ho, intsOf i, sim.fresh hn⟩
  | lists L => exact ⟨a, vs, n, rfl, ho, All2.imp (fun _ _ z => IsLst.imp kk z) i.ofMap, sim.fresh hn⟩
  | pieces L => exact ⟨a, vs, n, rfl, ho, All2.imp (fun _ _ z => IsPiece.imp kk z) i.ofMap, sim.fresh hn⟩
  | trips L => exact ⟨a, vs, n, rfl, ho, All2.imp (fun _ _ z => IsTrip.imp kk z) i.ofMap, sim.fresh hn⟩
  | any => exact trivial
theorem Ev.list {es : List Expr} {pos : Pos} (H : Ars c l W (spliced (backTo pos (starEach es c.env))) fun svs W₁ => svs.length ≤ 100 ∧ ∃ sv, Dsp svs sv ∧ C sv W₁) : Ev c l W (.List es pos) C := by
  intro s h t Q E tr sim htr hQ
  subst htr
  refine List_ (H s h t _ E sim fun vs h' t' svs W' a sim' st ⟨hz, sv, k, hC⟩ => ?_)
  refine wpAny_newObj_type ?_ (by show vs.toArray.size ≤ sizeLine; rw [List.size_toArray, sizeLine_eq, ← a.length]; (clear hz; omega))
  have kp : ∀ b o, h'.get? b = some o → (h'.push { cls := .type "list", data := .seq vs.toArray }).get? b = some o := push_keep
  exact hQ _ _ t' sv W' (k.at sim' a (none_at_size h') (n := 0) (by rw [Heap.get?_push_size _ rfl]) kp) (sim'.keeps kp) (st.trans (Stp.ofKeeps kp).nil) hC
inductive Dst : List SV → SV → Prop
  | ipair {a b} : Dst [.int a, .int b] (.ipair a b)
  | trip {a b} : Dst [.int a, .int b, .lst []] (.trip a b)
  | stt {T p L} : Dst [.lst T, .int p, .lol L] (.stt T p L)
theorem Ev.tuple {es : List Expr} {k : Nat} {pos : Pos} (H : Ars c l W (spliced (backTo pos (starEach es c.env))) fun svs W₁ => ∃ sv, Dst svs sv ∧ C sv W₁) : Ev c l W (.Tuple es k pos) C := by
  intro s h t Q E tr sim htr hQ
  subst htr
  refine Tuple_ (H s h t _ E sim fun vs h' t' svs W' a sim' st ⟨sv, k, hC⟩ => ?_)
  have hl : vs.length ≤ 100 := by rw [← a.length]; cases k <;> simp
  refine newTup hl ?_
  have kp : ∀ b o, h'.get? b = some o → (h'.push { cls := .type "tuple", data := .seq vs.toArray }).get? b = some o := push_keep
  have kk : ∀ b o, h'.get? b = some o → ¬ W'.P c.Fm b → (h'.push { cls := .type "tuple", data := .seq vs.toArray }).get? b = some o ∧ ¬ W'.P c.Fm b := fun b o e m => ⟨kp b o e, m⟩
  have ho : (h'.push { cls := .type "tuple", data := .seq vs.toArray }).get? h'.objs.size = some { cls := .type "tuple", data := .seq vs.toArray } := Heap.get?_push_size _ rfl
  have fr := sim'.fresh (none_at_size h')
  refine hQ _ _ t' sv W' ?_ (sim'.keeps kp) (st.trans (Stp.ofKeeps kp).nil) hC
  cases k with
  | ipair => obtain ⟨v, u, rfl, ⟨t1, rfl⟩, ⟨t2, rfl⟩⟩ := a.two; exact ⟨_, t1, t2, 0, rfl, ho, fr⟩
  | trip =>
    cases a with | cons a1 a =>
    obtain ⟨v, u, rfl, ⟨t2, rfl⟩, i3⟩ := a.two
    obtain ⟨t1, rfl⟩ := a1
    exact ⟨_, t1, t2, 0, u, rfl, ho, IsLst.imp kk i3, fr⟩
  | stt =>
    cases a with | cons a1 a =>
    obtain ⟨v, u, rfl, ⟨t2, rfl⟩, i3⟩ := a.two
    rename_i w
    exact ⟨_, w, t2, u, 0, rfl, ho, IsLst.imp kk a1, IsLol.imp kk i3, fr⟩

/-! ### types called by name -/
noncomputable def TC (c : Gx) (l : Loc) (W : Wd) (T : String) (as : List SV) (C : SV → Wd → Prop) : Prop :=
  ∀ (s : Shared) (h : Heap) (t : Nat) (Q E : Value → Shared → Prop) (vs : List Value), Sim c h l W → All2 (SV.is c.Fm W h) as vs →
    (∀ v h' t' sv W', SV.is c.Fm W' h' sv v → Sim c h' l W' → Stp c.X W h W' h' → C sv W' → Q v (St s h' t')) → wpAny c.M c.A (PySem.call (.type T) vs) Q E (St s h t)
theorem Ev.tcall {x : Str} {np pos : Pos} {e : Expr} {es : List Expr} {sc : Scope} (T : String) (hg : bltOk x = true) (hv : bootBuiltins x = some (.type T)) (hs : c.cs = sc) (hk : sc.names.lookup x = some .globalImplicit) (hd : (x == Str.ofString "__debug__") = false) (hn : x ≠ "__name__")
    (H : Ars c l W (spliced (backTo pos (starEach (e :: es) c.env))) fun as W₁ => TC c l W₁ T as C) (he : ∀ env, starEach (e :: es) env = (false, eval e env) :: starEach es env) (hp : ∀ env, (backTo pos (starEach es env)).any (·.1) = false)
    (hc : ∀ env, eval (.Call (.Name x np) (e :: es) [] pos) env = (do callWith pos (← eval (.Name x np) env) [] (backTo pos (starEach (e :: es) env)) (backToKw pos (keywordEach [] env)))) : Ev c l W (.Call (.Name x np) (e :: es) [] pos) C := by
  intro s h t Q E tr sim htr hQ
  subst htr
  refine Call_ ?_ (hc _)
  refine Ev.blt (C := fun sv W₁ => sv = .fn (.type T) ∧ W₁ = W) hg hv hs hk hd hn ⟨rfl, rfl⟩ s h t _ E _ sim rfl fun v h' t' sv W' i sim' st ⟨e1, e2⟩ => ?_
  subst e1 e2
  cases i
  refine PyProof.Rows.callWith_type1 ?_ (he _) (hp _)
  refine H s h' t' _ E sim' fun vs h2 t2 as W2 is2 sim2 st2 hF => ?_
  exact hF s h2 t2 Q E vs sim2 is2 fun v h3 t3 sv W3 i3 sim3 st3 hC => hQ v h3 t3 sv W3 i3 sim3 ((st.trans st2).trans st3) hC
inductive Cp (W : Wd) : SV → Nat → SV → Prop
  | nums {sv ns} (k : Nl W sv ns) : Cp W sv ns.length (.lst ns)
theorem TC.list {sv sv' : SV} {m : Nat} (k : Cp W sv m sv') (hz : m ≤ 1000000) (hC : C sv' W) : TC c l W "list" [sv] C := by
  intro s h t Q E vs sim ha hQ
  obtain ⟨v, rfl, i⟩ := ha.one
  cases k with
  | @nums ns k =>
    obtain ⟨a, us, n, rfl, q, j⟩ := k.at sim i
    refine call_list_seq (s := St s h t) a (.inl rfl) q rfl rfl (fun h' c' kp ho => ?_) (by rw [List.size_toArray, j.length, sizeLine_eq]; omega)
    exact hQ _ h' t (.lst ns) W (sim.newLst (vs := us) (n := c') (none_at_size h) ho j) (sim.keeps kp) (Stp.ofKeeps kp).nil hC
theorem TC.range {n : Nat} (hC : C (.rng n) W) : TC c l W "range" [.int n] C := by
  intro s h t Q E vs sim ha hQ
  obtain ⟨v, rfl, ⟨tk, rfl⟩⟩ := ha.one
  refine call_range_1 (s := St s h t) ?_
  have kp : ∀ b o, h.get? b = some o → (h.push { cls := .type "range", data := .fields #[.int 0 t, .int n tk, .int 1 (t + 1)] }).get? b = some o := push_keep
  exact hQ _ _ (t + 1 + 1) (.rng n) W ⟨_, _, rfl, Heap.get?_push_size _ rfl, ⟨_, _, _, rfl⟩, sim.fresh (none_at_size h)⟩ (sim.keeps kp) (Stp.ofKeeps kp).nil hC
theorem rangeSize0 (n : Nat) : Builtin.Range.rangeSize 0 n 1 = n := by
  unfold Builtin.Range.rangeSize
  simp
  omega
noncomputable def upto (n : Nat) : List Int := (List.range n).map fun i : Nat => (i : Int)
theorem itemsUpto {acc : Array Value} {n : Nat} (h : ItemsOf (fun i v => ∃ t, v = .int (0 + (i : Int) * 1) t) acc n) : IntsAre acc.toList (upto n) := by
  obtain ⟨h1, h2⟩ := h
  have key : ∀ (vs : List Value) (k : Nat), (∀ j v, vs[j]? = some v → ∃ t, v = Value.int ((k + j : Nat) : Int) t) → IntsAre vs ((List.range' k vs.length).map fun i : Nat => (i : Int)) := by
    intro vs
    induction vs with
    | nil => intro k _; exact .nil
    | cons v vs ih =>
      intro k hk
      obtain ⟨t, e⟩ := hk 0 v rfl
      subst e
      exact .cons _ t (ih (k + 1) fun j v hj => by obtain ⟨t, e⟩ := hk (j + 1) v hj; exact ⟨t, by rw [e]; congr 2; (clear h1; omega)⟩)
  have := key acc.toList 0 fun j v hj => by
    obtain ⟨t, e⟩ := h2 j v (by rw [← Array.getElem?_toList]; exact hj)
    exact ⟨t, by rw [e]; congr 1; (clear h1; omega)⟩
  rw [Array.length_toList, h1, ← List.range_eq_range'] at this
  exact this
theorem TC.listRange {n : Nat} (hz : n ≤ 1000000) (hC : C (.lst (upto n)) W) : TC c l W "list" [.rng n] C := by
  intro s h t Q E vs sim ha hQ
  obtain ⟨v, rfl, i⟩ := ha.one
  obtain ⟨a, o, rfl, q, ⟨t1, t2, t3, rfl⟩, m⟩ := i
  refine call_list_range (s := St s h t) (n := n) sim.ok.hd q (small_one (by decide) (by decide) (by (clear hz m; omega)) (by (clear m; omega))) (rangeSize0 n) (by have : 2 ^ 24 = 16777216 := rfl; (clear m this; omega)) fun h' tk acc c' kp ho hi => ?_
  exact hQ _ h' tk (.lst (upto n)) W (sim.newLst (vs := acc.toList) (n := c') (none_at_size h) ho (itemsUpto hi)) (sim.keeps kp) (Stp.ofKeeps kp).nil hC
end
section
variable {c : Gx} {l : Loc} {W : Wd} {C : SV → Wd → Prop}

theorem All2.drop {α β : Type} {R : α → β → Prop} : ∀ {as bs} (_ : All2 R as bs) (k : Nat), All2 R (as.drop k) (bs.drop k)
  | _, _, h, 0 => by simpa using h
  | _, _, .nil, _ + 1 => by simpa using All2.nil
  | _, _, .cons _ h, k + 1 => by simpa using h.drop k
theorem All2.take {α β : Type} {R : α → β → Prop} : ∀ {as bs} (_ : All2 R as bs) (k : Nat), All2 R (as.take k) (bs.take k)
  | _, _, _, 0 => by simpa using All2.nil
  | _, _, .nil, _ + 1 => by simpa using All2.nil
  | _, _, .cons a h, k + 1 => by simpa using All2.cons a (h.take k)
theorem All2.get {α β : Type} {R : α → β → Prop} : ∀ {as bs} (_ : All2 R as bs) {k : Nat} {b : β}, bs[k]? = some b → ∃ a, as[k]? = some a ∧ R a b
  | _, _, .nil, _, _, h => by simp at h
  | _, _, .cons a _, 0, _, h => by simp at h; subst h; exact ⟨_, rfl, a⟩
  | _, _, .cons _ r, k + 1, _, h => by simpa using r.get (by simpa using h)
theorem All2.set {α β : Type} {R : α → β → Prop} {a : α} {b : β} (x : R a b) : ∀ {as bs} (_ : All2 R as bs) (k : Nat), All2 R (as.set k a) (bs.set k b)
  | _, _, .nil, _ => by simpa using All2.nil
  | _, _, .cons _ r, 0 => by simpa using All2.cons x r
  | _, _, .cons y r, k + 1 => by simpa using All2.cons y (r.set x k)
/-! ### slices of any list -/
inductive Cut (W : Wd) : SV → Nat → (Nat → Nat → SV) → Prop
  | nums {sv ns} (k : Nl W sv ns) : Cut W sv ns.length (fun a b => .lst ((ns.drop a).take (b - a)))
  | lol {L} : Cut W (.lol L) L.length (fun a b => .lol ((L.drop a).take (b - a)))
  | pcl {L} : Cut W (.pcl L) L.length (fun a b => .pcl ((L.drop a).take (b - a)))
theorem Cut.at {sv n f h v} (k : Cut W sv n f) (sim : Sim c h l W) (i : SV.is c.Fm W h sv v) : ∃ a vs m, v = .ref a ∧ h.get? a = some (PySem.W.listOf (List.toArray vs) m) ∧ vs.length = n ∧
    ∀ lo hi h' a' m', (∀ b o, h.get? b = some o → h'.get? b = some o) → h.get? a' = Option.none → h'.get? a' = some (PySem.W.listOf (List.toArray ((vs.drop lo).take (hi - lo))) m') → SV.is c.Fm W h' (f lo hi) (.ref a') := by
  cases k with
  | nums k =>
    obtain ⟨a, vs, m, rfl, q, j⟩ := k.at sim i
    exact ⟨a, vs, m, rfl, q, j.length, fun lo hi h' a' m' kp hn ho => sim.newLst hn ho ((j.drop _).take _)⟩
  | lol =>
    obtain ⟨a, vs, m, rfl, q, j, _⟩ := i
    exact ⟨a, vs, m, rfl, q, j.length, fun lo hi h' a' m' kp hn ho => ⟨a', _, m', rfl, ho, All2.imp (fun _ _ z => IsLst.imp (fun b o e m => ⟨kp b o e, m⟩) z) ((j.drop _).take _), sim.fresh hn⟩⟩
  | pcl =>
    obtain ⟨a, vs, m, rfl, q, j, _⟩ := i
    exact ⟨a, vs, m, rfl, q, j.length, fun lo hi h' a' m' kp hn ho => ⟨a', _, m', rfl, ho, All2.imp (fun _ _ z => IsPiece.imp (fun b o e m => ⟨kp b o e, m⟩) z) ((j.drop _).take _), sim.fresh hn⟩⟩
theorem tail_b {value slice : Expr} {o i : Value} {T id : String} {s : Shared} {Q E : Value → Shared → Prop} (hT : s.TypeIs o T) (hl : typeLookup (.type T) "__getitem__" = pure (some (.builtin id))) (h : wpAny c.M c.A (getItem o i) Q E s)
    (hs : ∃ vs, subscripted slice false o i = operate vs (getItem o i)) : wpAny c.M c.A (subscriptTail value slice o i) Q E s := by
  obtain ⟨vs, hs⟩ := hs
  unfold subscriptTail
  refine wpAny_bind ?_
  rw [getitemInPython_of_ne hT.not_modules]
  refine wpAny_bind (wpAny_specialOf hT hl ?_)
  have fin : wpAny c.M c.A (subscripted slice false o i) (fun r s₃ => wpAny c.M c.A (letTemporaryGo value o r >>= fun _ => pure r) Q E s₃) E s := by
    rw [hs]
    exact wpAny_operating (wpAny_mono h (fun r s₃ h₃ => wpAny_bind (wpAny_letTemporaryGo (wpAny_pure h₃))) fun _ _ x => x)
  first
    | exact wpAny_pure (wpAny_bind fin)
    | exact wpAny_bind (wpAny_pure (wpAny_bind fin))
    | exact wpAny_bind fin
theorem Ev.cutS {v : Expr} {lo hi : Option Expr} {p pos : Pos} (H : Ev c l W v fun o W₁ => Part c l W₁ lo fun pl W₂ => Part c l W₂ hi fun ph W₃ => (o.stable = true ∨ ((∃ r, o = .role r) ∧ W₃ = W₁)) ∧ ∃ n f, Cut W₃ o n f ∧ n ≤ 1000000 ∧ C (f (kms_lo pl.opt n) (kms_hi ph.opt n)) W₃) : Ev c l W (.Subscript v (.Slice lo hi Option.none p) pos) C := by
  intro s h t Q E tr sim htr hQ
  subst htr
  refine Subscript_ ?_
  refine H s h t _ E _ sim rfl fun ov h' t' o W' i sim' st H' => ?_
  refine wpAny_Slice ?_
  refine H'.step sim' fun lv pl h2 t2 W2 i2 sim2 st2 H2 => ?_
  refine H2.step sim2 fun hv ph h3 t3 W3 i3 sim3 st3 ⟨sto, n, f, k, hz, hC⟩ => ?_
  rw [evalPart_none]
  refine wpAny_pure ?_
  have io : SV.is c.Fm W3 h3 o ov := Keep.is sto (st2.trans st3) i
  obtain ⟨a, vs, m, rfl, q, hl, hf⟩ := k.at sim3 io
  have kp1 : ∀ b o, h3.get? b = some o → (h3.push { cls := .type "slice", data := .fields #[lv, hv, .none] }).get? b = some o := push_keep
  refine tail_b (s := St s (h3.push { cls := .type "slice", data := .fields #[lv, hv, .none] }) t3) (isList_of (kp1 _ _ q)).typeIs list_getitem_lookup ?_ ⟨_, rfl⟩
  refine wpAny_getItem_list_slice (s := St s (h3.push { cls := .type "slice", data := .fields #[lv, hv, .none] }) t3) (isList_of (kp1 _ _ q)) (Heap.IsSliceOf.new ..) i2 i3 .none (by simp) ?_ (by rw [List.size_toArray, hl, sizeLine_eq]; (clear sto hl; omega))
  have kp : ∀ b o, h3.get? b = some o → ((h3.push { cls := .type "slice", data := .fields #[lv, hv, .none] }).push { cls := .type "list", data := .seq (slicePick vs.toArray pl.opt ph.opt Option.none) }).get? b = some o := fun b o e => push_keep _ _ (push_keep _ _ e)
  have ha : h3.get? (h3.push { cls := .type "slice", data := .fields #[lv, hv, .none] }).objs.size = Option.none := Heap.get?_none_of_le (by rw [Heap.size_push]; exact Nat.le_succ _)
  refine hQ _ _ t3 (f (kms_lo pl.opt n) (kms_hi ph.opt n)) W3 (hf _ _ _ _ 0 kp ha ?_) (sim3.keeps kp) (((st.trans st2).trans st3).trans (Stp.ofKeeps kp).nil) hC
  rw [Heap.get?_push_size _ rfl, kms_pick_eq]
  unfold kms_pick
  rw [hl]
/-! ### items -/
inductive Itm (W : Wd) : SV → Nat → (Nat → SV) → Prop
  | nums {sv ns} (k : Nl W sv ns) : Itm W sv ns.length (fun i => .int (ns.getD i 0))
  | lol {L} : Itm W (.lol L) L.length (fun i => .lst (L.getD i []))
  | pieces {r L} (h : W.ob r = .pieces L) : Itm W (.role r) L.length (fun i => .piece (L.getD i []))
  | slist {r xs} (h : W.ob r = .slist xs) : Itm W (.role r) xs.length (fun i => xs.getD i .none)
theorem getD_of {α : Type} {d : α} {xs : List α} {k : Nat} {a : α} (h : xs[k]? = some a) : xs.getD k d = a := by
  rw [List.getD_eq_getElem?_getD, h]; rfl
theorem Itm.at {sv n f h v} (k : Itm W sv n f) (sim : Sim c h l W) (i : SV.is c.Fm W h sv v) : ∃ a vs m, v = .ref a ∧ h.get? a = some (PySem.W.listOf (List.toArray vs) m) ∧ vs.length = n ∧ ∀ (j : Nat) u, vs[j]? = some u → SV.is c.Fm W h (f j) u := by
  cases k with
  | nums k =>
    obtain ⟨a, vs, m, rfl, q, j⟩ := k.at sim i
    refine ⟨a, vs, m, rfl, q, j.length, fun x u e => ?_⟩
    have hx := (List.getElem?_eq_some_iff.mp e).1
    rw [j.length] at hx
    obtain ⟨t, e'⟩ := j.get x _ (List.getElem?_eq_getElem hx)
    rw [e] at e'
    cases e'
    exact ⟨t, by rw [getD_of (List.getElem?_eq_getElem hx)]⟩
  | lol =>
    obtain ⟨a, vs, m, rfl, q, j, _⟩ := i
    refine ⟨a, vs, m, rfl, q, j.length, fun x u e => ?_⟩
    have hx := (List.getElem?_eq_some_iff.mp e).1
    rw [j.length] at hx
    obtain ⟨w, e', i'⟩ := j.get (List.getElem?_eq_getElem hx)
    rw [e] at e'
    cases e'
    dsimp only
    rw [getD_of (List.getElem?_eq_getElem hx)]
    exact i'
  | @pieces r L ho =>
    have H := sim.ws.holds r
    rw [ho] at H
    obtain ⟨vs, m, q, j⟩ := H
    refine ⟨_, vs, m, i.1, q, j.length, fun x u e => ?_⟩
    have hx := (List.getElem?_eq_some_iff.mp e).1
    rw [j.length] at hx
    obtain ⟨w, e', i'⟩ := j.get (List.getElem?_eq_getElem hx)
    rw [e] at e'
    cases e'
    dsimp only
    rw [getD_of (List.getElem?_eq_getElem hx)]
    exact i'
  | @slist r xs ho =>
    have H := sim.ws.holds r
    rw [ho] at H
    obtain ⟨vs, m, q, j⟩ := H
    refine ⟨_, vs, m, i.1, q, j.length.symm, fun x u e => ?_⟩
    obtain ⟨w, e', i'⟩ := j.get e
    dsimp only
    rw [getD_of e']
    exact i'
end
section
section
variable {prog : Program} {w : World} {A : Around} {E : Value → Shared → Prop} {s : Shared}
theorem setItem_at {la : Addr} {vs : List Value} {n : Nat} {k : Int} {t : Tok} {v : Value} {Q : Unit → Shared → Prop} (hl : s.heap.get? la = some (PySem.W.listOf (List.toArray vs) n)) (h0 : 0 ≤ k) (hfit : k < 2 ^ 63) (hn : k < vs.length)
    (hQ : Q () { s with heap := s.heap.update la (Obj.mapSeq (·.setIfInBounds k.toNat v)) }) : wpAny (model prog w) A (setItem (.ref la) (.int k t) v) Q E s := by
  have IL := isList_of hl
  unfold setItem
  try with_reducible refine wpAny_holding ?_
  first | refine wpAny_bind (wpAny_pure ?_) | skip
  refine wpAny_bind (wpAny_sequenceKey IL.typeIs (by decide) ?_)
  refine wpAny_bind (wpAny_callSpecial?_slot (name := Str.ofString "__setitem__") IL.typeIs slot_list_setitem
    (wpAny_call_entry slot_list_setitem IL.typeIs entry_list_setitem ?_ (args_list_setitem _ _ _)))
  show wpAny _ _ (Builtin.List.listSubscript? (.int k t) >>= _) _ _ s
  refine wpAny_bind (wpAny_listSubscript_int (fitsIndex_of h0 hfit) ?_)
  clear hfit
  obtain ⟨j, rfl⟩ := Int.eq_ofNat_of_zero_le h0
  have hj : j < vs.toArray.size := by rw [List.size_toArray]; (clear h0; omega)
  have hx' : vs.toArray[j]? = some vs.toArray[j] := Array.getElem?_eq_getElem hj
  show wpAny _ _ ((seqItemAt la j >>= fun r => pure (r.map (j, ·))) >>= _) _ _ s
  refine wpAny_bind (wpAny_bind (wpAny_seqItemAt hl rfl (wpAny_pure ?_)))
  rw [hx']
  show wpAny _ _ (setSeqItemAt la j v >>= _) _ _ s
  refine wpAny_bind (wpAny_setSeqItemAt hl rfl ?_)
  first
    | exact wpAny_bind (wpAny_pure (wpAny_pure ⟨.none, rfl, wpAny_pure hQ⟩))
    | exact wpAny_pure ⟨.none, rfl, wpAny_pure hQ⟩
end
variable {c : Gx} {l : Loc} {W : Wd} {C : SV → Wd → Prop} {D : Fl → Loc → Wd → Prop}
noncomputable def SetI (c : Gx) (l : Loc) (W : Wd) (r : Role) (k : Int) (sv : SV) (D : Wd → Prop) : Prop :=
  ∀ (s : Shared) (h : Heap) (t : Nat) (Q : Unit → Shared → Prop) (E : Value → Shared → Prop) (v : Value) (tk : Tok), Sim c h l W → sv.is c.Fm W h v →
    (∀ h' t' W', Sim c h' l W' → Stp c.X W h W' h' → D W' → Q () (St s h' t')) → wpAny c.M c.A (setItem (.ref (W.ad r)) (.int k tk) v) Q E (St s h t)
/-- a list of a role is changed at one place -/
theorem SetI.gen {r : Role} {k : Int} {sv : SV} {D : Wd → Prop} {so : SO} {n : Nat} (h0 : 0 ≤ k) (hk : k < n) (hz : n ≤ 1000000) (hkd : so.kind = (W.ob r).kind) (hadr : W.adrs r = [W.ad r])
    (hl : ∀ h, SO.holds c.w c.Fm W h r (W.ob r) → ∃ vs m, h.get? (W.ad r) = some (PySem.W.listOf (List.toArray vs) m) ∧ vs.length = n ∧
      ∀ h' m' v, sv.is c.Fm W h v → (∀ b o, h.get? b = some o → ¬ W.P c.Fm b → h'.get? b = some o ∧ ¬ (W.put r so).P c.Fm b) → h'.get? (W.ad r) = some (PySem.W.listOf (List.toArray (vs.set k.toNat v)) m') → SO.holds c.w c.Fm (W.put r so) h' r so)
    (hD : D (W.put r so)) : SetI c l W r k sv D := by
  intro s h t Q E v tk sim iv hQ
  obtain ⟨vs, m, q, hlen, fin⟩ := hl h (sim.ws.holds r)
  refine setItem_at (s := St s h t) q h0 (by have : (2:Int) ^ 63 = 9223372036854775808 := rfl; (clear h0 hkd hlen this; omega)) (by (clear h0 hz hkd; omega)) ?_
  let f : Obj → Obj := Obj.mapSeq (·.setIfInBounds k.toNat v)
  have hf : ∃ m', f (PySem.W.listOf (List.toArray vs) m) = PySem.W.listOf (List.toArray (vs.set k.toNat v)) m' := by
    refine ⟨?_, ?_⟩
    rotate_left
    · show PySem.W.listOf (vs.toArray.setIfInBounds k.toNat v) _ = _
      rw [show vs.toArray.setIfInBounds k.toNat v = (vs.set k.toNat v).toArray by simp]
  obtain ⟨m', hf⟩ := hf
  have kk : Like W (W.put r so) := Like.put hkd
  have hk' : ∀ b o, h.get? b = some o → b ∉ W.adrs r → (h.update (W.ad r) f).get? b = some o := fun b o e m => by
    rw [hadr] at m
    rw [Heap.get?_update_ne _ _ _ _ (fun q => m (by rw [q]; simp))]; exact e
  have hl' := upd_live (f := f) q (by rw [hf]; rfl)
  have stp : Stp Nil W h (W.put r so) (h.update (W.ad r) f) := Like.stp (r := r) kk hk' hl'
  have ws : WS c.w c.Fm c.g c.L (h.update (W.ad r) f) (W.put r so) := by
    refine WS.put (r := r) sim.ws kk hk' (fun r' e => Wd.put_ne _ _ e) ?_
    rw [Wd.put_self]
    exact fin _ m' v iv (butP kk hk') (by rw [Heap.get?_update_self f q (by rw [hf]; rfl), hf])
  exact hQ _ t _ (sim.stp stp ws) stp.nil hD
theorem intsSet {n : Int} {t : Tok} : ∀ {vs : List Value} {ns : List Int}, IntsAre vs ns → ∀ k : Nat, IntsAre (vs.set k (.int n t)) (ns.set k n)
  | _, _, .nil, _ => by simpa using IntsAre.nil
  | _, _, .cons _ _ r, 0 => by simpa using IntsAre.cons n t r
  | _, _, .cons m u r, k + 1 => by simpa using IntsAre.cons m u (intsSet r k)
theorem SetI.nums {r : Role} {k i : Int} {ns : List Int} {D : Wd → Prop} (ho : W.ob r = .nums ns) (h0 : 0 ≤ k) (hk : k < ns.length) (hz : ns.length ≤ 1000000) (hD : D (W.put r (.nums (ns.set k.toNat i)))) : SetI c l W r k (.int i) D := by
  refine SetI.gen (n := ns.length) h0 hk hz (by rw [ho]; rfl) (by unfold Wd.adrs; rw [ho]) (fun h H => ?_) hD
  rw [ho] at H
  obtain ⟨vs, m, q, j⟩ := H
  exact ⟨vs, m, q, j.length, fun h' m' v ⟨t, e⟩ _ ho' => ⟨_, m', ho', by subst e; exact intsSet j _⟩⟩
theorem SetI.pieces {r : Role} {k : Int} {p : List Int} {L : List (List Int)} {D : Wd → Prop} (ho : W.ob r = .pieces L) (h0 : 0 ≤ k) (hk : k < L.length) (hz : L.length ≤ 1000000) (hD : D (W.put r (.pieces (L.set k.toNat p)))) : SetI c l W r k (.piece p) D := by
  refine SetI.gen (n := L.length) h0 hk hz (by rw [ho]; rfl) (by unfold Wd.adrs; rw [ho]) (fun h H => ?_) hD
  rw [ho] at H
  obtain ⟨vs, m, q, j⟩ := H
  exact ⟨vs, m, q, j.length, fun h' m' v iv kp ho' => ⟨_, m', ho', (All2.imp (fun _ _ z => IsPiece.imp kp z) j).set (IsPiece.imp kp iv) _⟩⟩
theorem SetI.slist {r : Role} {k : Int} {sv : SV} {xs : List SV} {D : Wd → Prop} (ho : W.ob r = .slist xs) (h0 : 0 ≤ k) (hk : k < xs.length) (hz : xs.length ≤ 1000000) (hD : D (W.put r (.slist (xs.set k.toNat sv)))) : SetI c l W r k sv D := by
  have kk : Like W (W.put r (.slist (xs.set k.toNat sv))) := Like.put (by rw [ho]; rfl)
  refine SetI.gen (n := xs.length) h0 hk hz (by rw [ho]; rfl) (by unfold Wd.adrs; rw [ho]) (fun h H => ?_) hD
  rw [ho] at H
  obtain ⟨vs, m, q, j⟩ := H
  exact ⟨vs, m, q, j.length.symm, fun h' m' v iv kp ho' => ⟨_, m', ho', (All2.imp (fun _ _ z => SV.is_imp kk kp z) j).set (SV.is_imp kk kp iv) _⟩⟩
theorem SetI.rows {r : Role} {b : Bool} {D : Wd → Prop} (ho : W.ob r = .rows b) (hm : W.ob .mark ≠ .absent) (hD : D (W.put r (.rows true))) : SetI c l W r 0 (.role .mark) D := by
  intro s h t Q E v tk sim iv hQ
  obtain ⟨rfl, _⟩ := iv
  have H := sim.ws.holds r
  rw [ho] at H
  obtain ⟨hd, _, lo⟩ := H
  refine wpAny_setItem_pairs (s := St s h t) (k := (0 : Int)) (by simp [intKind, Value.isInt]) hd (fun h' hd' hs' => ?_) (by cases b <;> simp [sizeLine_eq])
  have hadr : W.adrs r = [W.ad r] := by unfold Wd.adrs; rw [ho]
  have kk : Like W (W.put r (.rows true)) := Like.put (by rw [ho]; rfl)
  have hk' : ∀ b o, h.get? b = some o → b ∉ W.adrs r → h'.get? b = some o := fun b o e m => by
    rw [hadr] at m
    exact (hs'.2 b (fun q => m (by rw [q]; simp))).trans e
  have hl' : ∀ b o, h.get? b = some o → ∃ o', h'.get? b = some o' := fun b o e => by
    by_cases q : b = W.ad r
    · subst q; obtain ⟨o, es, ep, e, _⟩ := hd'; exact ⟨o, e⟩
    · exact ⟨o, (hs'.2 b q).trans e⟩
  have stp : Stp Nil W h (W.put r (.rows true)) h' := Like.stp (r := r) kk hk' hl'
  have e1 : stored (if b = true then [((0 : Int), Value.ref (W.ad .mark))] else []) 0 (.ref (W.ad .mark)) = [(0, .ref (W.ad .mark))] := by cases b <;> rfl
  rw [e1] at hd'
  have ws : WS c.w c.Fm c.g c.L h' (W.put r (.rows true)) := by
    refine WS.put (r := r) sim.ws kk hk' (fun r' e => Wd.put_ne _ _ e) ?_
    rw [Wd.put_self]
    exact ⟨hd', fun _ z => hm ((kk.ab .mark).mp z), lo⟩
  exact hQ _ (t + 1) _ (sim.stp stp ws) stp.nil hD
theorem Sx.setitem {e o i : Expr} {pos' pos : Pos} (r : Role) (H : Ev c l W e fun sv W₁ => sv.stable = true ∧ Ev c l W₁ o fun ov W₂ => ov = .role r ∧ Ev c l W₂ i fun iv W₃ => (r ≠ .pcs ∨ W₃ = W₂) ∧ ∃ k, iv = .int k ∧ SetI c l W₃ r k sv fun W₄ => D .next l W₄)
    (hsw : ∀ env, swapsWith e (some (.Subscript o i pos')) pos.line env = pure false) : Sx c l W (.Assign [.Subscript o i pos'] e pos) D := by
  intro s h t Q E sim hQ
  refine wpAny_Assign_Subscript ?_ (hsw _)
  refine H s h t _ E _ sim rfl fun v h1 t1 sv W1 i1 sim1 st1 ⟨hst, H1⟩ => ?_
  refine H1 s h1 t1 _ E _ sim1 rfl fun ov h2 t2 osv W2 i2 sim2 st2 ⟨e2, H2⟩ => ?_
  subst e2
  refine H2 s h2 t2 _ E _ sim2 rfl fun iv h3 t3 isv W3 i3 sim3 st3 ⟨hr, k, e3, H3⟩ => ?_
  subst e3
  obtain ⟨tk, rfl⟩ := i3
  have iv := SV.is_stp c.XF st3 hst (SV.is_stp c.XF st2 hst i1)
  have io : SV.is c.Fm W3 h3 (.role r) ov := by
    rcases hr with hr | rfl
    · exact SV.is_stp c.XF st3 (by cases r <;> first | rfl | exact absurd rfl hr) i2
    · exact i2
  obtain ⟨rfl, _⟩ := io
  exact H3 s h3 t3 _ E v tk sim3 iv fun h4 t4 W4 sim4 st4 hD => hQ .next h4 t4 .next l W4 rfl sim4 (((st1.trans st2).trans st3).trans st4) hD
/-! floor division by a few -/
theorem Bin.fdiv {a b : Int} (hb : b ≠ 0) (hp : Builtin.divisionGoesByPylong a b = false) (hC : C (.int (a.fdiv b)) W) : Bin c l W .FloorDiv (.int a) (.int b) C := by
  rintro s h t Q E tr sim ⟨va, vb, ⟨ta, rfl⟩, ⟨tb, rfl⟩, rfl⟩ hQ
  exact PyProof.Rows.floordiv_int hb (hQ _ h (t + 1) _ W iInt sim (.refl _ _ _) hC) (.inl hp)
end
section
variable {c : Gx} {l : Loc} {W : Wd}

inductive Itr : SV → List SV → Prop
  | lst {ns} : Itr (.lst ns) (ns.map .int)
  | rng {n} : Itr (.rng n) ((upto n).map .int)
  | trips {L} : Itr (.trips L) (L.map fun p => .trip p.1 p.2)
noncomputable abbrev prg : Program := PySem.Challenge.rw_oj0031_01.row.prog
theorem letGo_fields {tg : Expr} {I : Addr} {v : Value} {T : String} {vs : Array Value} {s : Shared} {Q : Unit → Shared → Prop} {E : Value → Shared → Prop} (hI : s.heap.get? I = some { cls := .type T, data := .fields vs }) (hT : (["enumerate", "zip", "dict_itemiterator", "dict_reverseitemiterator", "odict_iterator", "itertools.zip_longest", "itertools.pairwise"].contains T) = false) (h : Q () s) : wpAny c.M c.A (letOwnedTupleGo tg (.ref I) v) Q E s := by
  unfold letOwnedTupleGo
  cases tg <;> first
    | exact wpAny_pure h
    | (cases v <;> first
        | exact wpAny_pure h
        | (refine wpAny_bind (wpAny_load hI ?_)
           dsimp only
           rw [hT]
           exact wpAny_pure h))
structure Strt (c : Gx) (W : Wd) (h : Heap) (es : List SV) (I : Addr) (o : Obj) (P : Nat → Value → Prop) (S : Nat → Heap → Prop) (fp : List Addr) : Prop where
  walks : Walks prg c.w c.A I fp [I] es.length P S
  live : ∀ i h, S i h → ∃ o, h.get? I = some o
  go : ∀ tg i (s : Shared) v (Q : Unit → Shared → Prop) (E : Value → Shared → Prop), S i s.heap → Q () s → wpAny c.M c.A (letOwnedTupleGo tg (.ref I) v) Q E s
  st : S 0 (h.push o)
  fp : ∀ b ∈ fp, b = I ∨ ∃ ob, h.get? b = some ob ∧ ¬ W.P c.Fm b
  es : ∀ i v, P i v → ∃ sv, es[i]? = some sv ∧ sv.stable = true ∧ sv.is c.Fm W h v
theorem itrList {h : Heap} {a : Addr} {vs : List Value} {n : Nat} {es : List SV} (sim : Sim c h l W) (q : h.get? a = some (PySem.W.listOf (List.toArray vs) n)) (hm : ¬ W.P c.Fm a) (hst : es.all SV.stable = true) (hi : All2 (fun v sv => SV.is c.Fm W h sv v) vs es) :
    ∃ S, Strt c W h es h.objs.size { cls := .type "list_iterator", data := .fields #[.ref a, .int 0 0] } (fun i v => vs.toArray[i]? = some v) S [h.objs.size, a] := by
  have hne : a ≠ h.objs.size := Nat.ne_of_lt (Heap.lt_size q)
  have W0 := Walks.list (prog := prg) (w := c.w) (A := c.A) sim.ok.hd h.objs.size a hne vs.toArray
  rw [show vs.toArray.size = es.length by rw [List.size_toArray, hi.length]] at W0
  refine ⟨_, W0, fun i h st => ?_, fun tg i s v Q E st hQ => ?_, ⟨⟨_, Heap.get?_push_size _ rfl, rfl, rfl⟩, (isList_of q).at fun o e => push_keep _ _ e⟩, fun b hb => ?_, fun i v e => ?_⟩
  · obtain ⟨⟨o, e, _⟩, _⟩ := st; exact ⟨o, e⟩
  · obtain ⟨⟨o, e, hc, hd⟩, _⟩ := st
    unfold letOwnedTupleGo
    cases tg <;> first
      | exact wpAny_pure hQ
      | (cases v <;> first
          | exact wpAny_pure hQ
          | (refine wpAny_bind (wpAny_load e ?_)
             rw [hc, hd]
             exact wpAny_pure hQ))
  · simp only [List.mem_cons, List.not_mem_nil, or_false] at hb
    rcases hb with rfl | rfl
    · exact .inl rfl
    · exact .inr ⟨_, q, hm⟩
  · have e' : vs[i]? = some v := by simpa using e
    have hx := (List.getElem?_eq_some_iff.mp e').1
    rw [hi.length] at hx
    obtain ⟨u, e2, i2⟩ := hi.get (List.getElem?_eq_getElem hx)
    rw [e'] at e2
    cases e2
    exact ⟨_, List.getElem?_eq_getElem hx, List.all_eq_true.mp hst _ (List.getElem_mem hx), i2⟩
theorem all2ints {F : Addr → Prop} {h : Heap} : ∀ {vs : List Value} {ns : List Int}, IntsAre vs ns → All2 (fun v sv => SV.is F W h sv v) vs (ns.map .int)
  | _, _, .nil => .nil
  | _, _, .cons n t r => .cons ⟨t, rfl⟩ (all2ints r)
theorem all2map {α β γ : Type} {R : α → γ → Prop} {f : β → γ} : ∀ {as : List α} {bs : List β}, All2 (fun a b => R a (f b)) as bs → All2 R as (bs.map f)
  | _, _, .nil => .nil
  | _, _, .cons a r => .cons a (all2map r)
theorem Itr.start {sv : SV} {es : List SV} (k : Itr sv es) {s : Shared} {h : Heap} {t : Nat} {v : Value} {Q E : Value → Shared → Prop} (hz : es.length ≤ 1000000) (sim : Sim c h l W) (i : sv.is c.Fm W h v)
    (hQ : ∀ o P S fp, Strt c W h es h.objs.size o P S fp → Q (.ref h.objs.size) (St s (h.push o) t)) : wpAny c.M c.A (pyIter v) Q E (St s h t) := by
  cases k with
  | lst =>
    obtain ⟨a, vs, n, rfl, q, j, m⟩ := i
    obtain ⟨S, st⟩ := itrList sim q m (by rw [List.all_map]; exact List.all_eq_true.mpr fun _ _ => rfl) (all2ints j)
    exact wpAny_pyIter_list (s := St s h t) (isList_of q) (hQ _ _ _ _ st)
  | trips =>
    obtain ⟨a, vs, n, rfl, q, j, m⟩ := i
    obtain ⟨S, st⟩ := itrList sim q m (by rw [List.all_map]; exact List.all_eq_true.mpr fun _ _ => rfl) (all2map (f := fun p : Int × Int => SV.trip p.1 p.2) (R := fun v sv => SV.is c.Fm W h sv v) (All2.imp (fun _ _ z => z) j))
    exact wpAny_pyIter_list (s := St s h t) (isList_of q) (hQ _ _ _ _ st)
  | @rng n =>
    obtain ⟨a, o, rfl, q, ⟨t1, t2, t3, rfl⟩, m⟩ := i
    have hn : n ≤ 1000000 := by simpa [upto] using hz
    refine wpAny_pyIter_range (s := St s h t) q (small_one (by decide) (by decide) (by (clear hz m hn; omega)) (by (clear hz m; omega))) ?_
    rw [rangeSize0]
    refine hQ _ (fun i v => ∃ t, v = .int (0 + i * 1) t ∧ i < n) (fun i h' => IsRangeIter h' h.objs.size (0 + (i : Nat) * 1) ((n : Int) - (i : Nat)) 1) [h.objs.size] ⟨?_, fun i h st => ⟨_, st⟩, fun tg i s v Q E st hQ => letGo_fields st rfl hQ, ?_, fun b hb => .inl (by simpa using hb), fun i v e => ?_⟩
    · have W0 := Walks.range (prog := prg) (w := c.w) (A := c.A) sim.ok.hd h.objs.size 0 1 n
      rw [show ((upto n).map SV.int).length = n by simp [upto]]
      exact ⟨W0.sub, W0.frame, fun i s Q E hi st hQ => W0.item i s Q E hi st fun v h' tk ⟨t, e⟩ st' kp => hQ v h' tk ⟨t, e, hi⟩ st' kp, W0.done, W0.self⟩
    · show IsRangeIter _ _ _ _ _
      have := Heap.get?_push_size h (o := { cls := .type "range_iterator", data := .fields #[rawInt 0, rawInt n, rawInt 1] }) rfl
      simpa using this
    · obtain ⟨t, rfl, hi⟩ := e
      refine ⟨.int i, by simp [upto, hi], rfl, t, by simp⟩

/-- what a loop's body ends with -/
noncomputable def Lp (J : Nat → Loc → Wd → Prop) (i : Nat) (D : Fl → Loc → Wd → Prop) (f : Fl) (l : Loc) (W : Wd) : Prop := match f with
  | .next => J (i + 1) l W
  | .cont => J (i + 1) l W
  | .brk => D .next l W
  | .ret sv => D (.ret sv) l W
noncomputable def Gx.on (c : Gx) (I : Addr) : Gx := { c with its := I :: c.its }
theorem Gx.on_Fm (c : Gx) (I x : Addr) : (c.on I).Fm x ↔ c.Fm x ∨ x = I := by
  unfold Gx.Fm Gx.on
  simp only [List.mem_cons]
  constructor
  · rintro (h | rfl | h)
    · exact .inl (.inl h)
    · exact .inr rfl
    · exact .inl (.inr h)
  · rintro ((h | h) | rfl)
    · exact .inl h
    · exact .inr (.inr h)
    · exact .inr (.inl rfl)
/-- into the loop -/
theorem Sim.on {h h' : Heap} {I : Addr} {o : Obj} (sim : Sim c h l W) (hI : h.get? I = Option.none) (kp : ∀ b o, h.get? b = some o → h'.get? b = some o) (ho : h'.get? I = some o) : Sim (c.on I) h' l W := by
  have hF : ∀ x o, (c.on I).Fm x → h.get? x = some o → c.Fm x := fun x o hx e => by
    rcases (c.on_Fm I x).mp hx with z | rfl
    · exact z
    · rw [hI] at e; cases e
  obtain ⟨m, F, hl⟩ := sim.fr
  refine ⟨⟨sim.ok.B, sim.ok.fr, sim.ok.kf, sim.ok.XB, sim.ok.F, sim.ok.TB, sim.ok.hd, sim.ok.dep, sim.ok.un⟩, ⟨m, ⟨F.ns.at' fun o e => kp _ o e, fun b o e => kp b o (F.keep b o e), F.above⟩, fun p hp => ?_⟩, sim.ws.keeps hF kp, fun x hx => ?_⟩
  · obtain ⟨⟨v, e, i⟩, r⟩ := hl p hp
    exact ⟨⟨v, LocAt.imp (keepsP hF kp) e, SV.is_keeps hF kp i⟩, r⟩
  · rcases List.mem_cons.mp hx with rfl | hx
    · exact ⟨⟨o, ho⟩, fun ⟨r, hr⟩ => by obtain ⟨o, e⟩ := sim.ws.live hr; rw [hI] at e; cases e⟩
    · obtain ⟨⟨o, e⟩, n⟩ := sim.it x hx; exact ⟨⟨o, kp x o e⟩, n⟩
/-- out of it -/
theorem Sim.off {h : Heap} {I : Addr} (sim : Sim (c.on I) h l W) : Sim c h l W := by
  have hF : ∀ x o, c.Fm x → h.get? x = some o → (c.on I).Fm x := fun x o hx _ => (c.on_Fm I x).mpr (.inl hx)
  obtain ⟨m, F, hl⟩ := sim.fr
  refine ⟨⟨sim.ok.B, sim.ok.fr, sim.ok.kf, sim.ok.XB, sim.ok.F, sim.ok.TB, sim.ok.hd, sim.ok.dep, sim.ok.un⟩, ⟨m, F, fun p hp => ?_⟩, sim.ws.keeps hF fun _ _ e => e, fun x hx => sim.it x (.tail _ hx)⟩
  obtain ⟨⟨v, e, i⟩, r⟩ := hl p hp
  exact ⟨⟨v, LocAt.imp (keepsP hF (fun _ _ e => e)) e, SV.is_keeps hF (fun _ _ e => e) i⟩, r⟩
theorem SV.off {h : Heap} {I : Addr} {sv v} (i : SV.is (c.on I).Fm W h sv v) : SV.is c.Fm W h sv v := SV.is_keeps (fun x o hx _ => (c.on_Fm I x).mpr (.inl hx)) (fun _ _ e => e) i
/-- the iterator has gone on -/
theorem Sim.turn {h h' : Heap} {I : Addr} {o : Obj} (sim : Sim (c.on I) h l W) (hm : ¬ W.Mut I) (hL : I ≠ c.L) (hg : c.g.get? I = Option.none) (kp : ∀ b o, b ∉ [I] → h.get? b = some o → h'.get? b = some o) (ho : h'.get? I = some o) : Sim (c.on I) h' l W ∧ (∀ {sv v}, sv.stable = true → SV.is (c.on I).Fm W h sv v → SV.is (c.on I).Fm W h' sv v) := by
  have st : Stp (fun x => x = I) W h W h' := ⟨fun b o e _ n => kp b o (by simpa using n) e, fun _ m => .inl m, fun b o' e => by
    by_cases q : b = I
    · subst q; exact ⟨o, ho⟩
    · exact ⟨o', kp b o' (by simpa using q) e⟩, fun _ _ e => ⟨rfl, e⟩⟩
  have hX : ∀ x, x = I → (c.on I).Fm x := fun x e => (c.on_Fm I x).mpr (.inr e)
  obtain ⟨m, F, hl⟩ := sim.fr
  have nP : ∀ b o, h.get? b = some o → ¬ W.P (c.on I).Fm b → h'.get? b = some o ∧ ¬ W.P (c.on I).Fm b := fun b o e n => ⟨kp b o (by simp only [List.mem_cons, List.not_mem_nil, or_false]; exact fun z => n (.inr (hX b z))) e, n⟩
  refine ⟨⟨sim.ok, ⟨m, ⟨F.ns.at' fun o e => kp _ o (by simp only [List.mem_cons, List.not_mem_nil, or_false]; exact fun z => hL z.symm) e, fun b o e => kp b o (by simp only [List.mem_cons, List.not_mem_nil, or_false]; rintro rfl; have : c.g.get? b = some o := e; rw [hg] at this; cases this) (F.keep b o e), F.above⟩, hl.stp hX st⟩, ?_, fun x hx => let ⟨⟨o, e⟩, n⟩ := sim.it x hx; ⟨st.live x o e, n⟩⟩, fun hs i => SV.is_stp hX st hs i⟩
  exact ⟨fun r => SO.imp (.refl W) nP (fun b hb o e => kp b o (by simp only [List.mem_cons, List.not_mem_nil, or_false]; rintro rfl; exact hm ⟨r, hb⟩) e) (sim.ws.holds r), sim.ws.fresh, sim.ws.apart, sim.ws.nodup⟩

theorem Sx.forO {tg iter : Expr} {body : List Stmt} {pos : Pos} {D : Fl → Loc → Wd → Prop} (J : Nat → Loc → Wd → Prop)
    (H : Ev c l W iter fun sv W₁ => ∃ es, Itr sv es ∧ es.length ≤ 1000000 ∧ J 0 l W₁ ∧
      (∀ (c' : Gx) i sv', c'.n = c.n → c'.cs = c.cs → c'.outer = c.outer → es[i]? = some sv' → ∀ l' W', J i l' W' → As1 c' l' W' (PySem.assign tg c'.env) sv' fun l₂ W₂ => Ex c' l₂ W₂ body (Lp J i D)) ∧
      (∀ l' W', J es.length l' W' → D .next l' W'))
    (hs : ∀ env x, foldedSetIterable iter env x = pure x) : Sx c l W (.For tg iter body [] pos) D := by
  intro s h t Q E sim hQ
  refine wpAny_For ?_ (hs _)
  refine H s h t _ E _ sim rfl fun v h₁ t₁ sv W₁ i sim₁ st₁ ⟨es, k, hz, hJ, step, done⟩ => ?_
  refine k.start hz sim₁ i fun o P S fp str => ?_
  generalize hI : h₁.objs.size = I at str ⊢
  have hn : h₁.get? I = Option.none := hI ▸ none_at_size h₁
  have kp₁ : ∀ b o', h₁.get? b = some o' → (h₁.push o).get? b = some o' := push_keep
  obtain ⟨oI, hoI⟩ := str.live _ _ str.st
  have simI : Sim (c.on I) (h₁.push o) l W₁ := sim₁.on hn kp₁ hoI
  obtain ⟨m₁, F₁, -⟩ := sim₁.fr
  have hg : c.g.get? I = Option.none := by
    cases e : c.g.get? I with
    | none => rfl
    | some o' => have := F₁.keep _ _ e; rw [hn] at this; cases this
  have hL : I ≠ c.L := by rintro rfl; obtain ⟨oL, _, _, e, _⟩ := F₁.ns; rw [hn] at e; cases e
  let Inv : Nat → Shared → Prop := fun k s' => ∃ h' t' i l' W', s' = St s h' t' ∧ Sim (c.on I) h' l' W' ∧ Stp c.X W₁ h₁ W' h' ∧ S i h' ∧ ¬ W'.Mut I ∧ J i l' W' ∧ i ≤ es.length ∧ k = es.length - i ∧ (∀ b ∈ fp, ¬ W'.Mut b ∧ b ≠ c.L ∧ ∃ o, h'.get? b = some o) ∧ (∀ i v, P i v → ∃ sv, es[i]? = some sv ∧ sv.stable = true ∧ sv.is (c.on I).Fm W' h' v)
  have hmI : ¬ W₁.Mut I := fun z => by obtain ⟨o', e⟩ := sim₁.ws.live z.choose_spec; rw [hn] at e; cases e
  refine codeAny_forLoop_any (R := fun r s' => match r with | .ok f => Q f s' | .error e => cameBackBy c.M c.A c.env E e s') Inv ?_ es.length
    ⟨h₁.push o, t₁, 0, l, W₁, rfl, simI, (Stp.ofKeeps kp₁).nil, str.st, hmI, hJ, Nat.zero_le _, rfl, fun b hb => ?_, fun i v hP => ?_⟩
  rotate_left
  · rcases str.fp b hb with rfl | ⟨ob, e, hP⟩
    · exact ⟨hmI, hL, _, hoI⟩
    · exact ⟨fun z => hP (.inl z), fun z => hP (.inr (c.XF _ z)), _, kp₁ _ _ e⟩
  · obtain ⟨sv, e, st, i⟩ := str.es i v hP
    refine ⟨sv, e, st, SV.is_keeps (fun x o' hx e' => ?_) kp₁ i⟩
    rcases (c.on_Fm I x).mp hx with z | rfl
    · exact z
    · rw [hn] at e'; cases e'
  rintro k s' ⟨h', t', i, l', W', rfl, sim', stp, hS, hm, hJ', hi, rfl, hfp, hes⟩
  by_cases hlt : i < es.length
  · refine str.walks.item i (St s h' t') _ _ hlt hS fun v h₂ t₂ hP hS₂ kp₂ => ?_
    obtain ⟨o₂, ho₂⟩ := str.live _ _ hS₂
    obtain ⟨sim₂, isk⟩ := sim'.turn hm hL hg kp₂ ho₂
    have stp₂ : Stp c.X W₁ h₁ W' h₂ := by
      refine ⟨fun b o e n nx => kp₂ b o (by simp only [List.mem_cons, List.not_mem_nil, or_false]; rintro rfl; rw [hn] at e; cases e) (stp.keep b o e n nx), stp.new, fun b o e => ?_, stp.role⟩
      obtain ⟨o', e'⟩ := stp.live b o e
      exact ⟨o', kp₂ b o' (by simp only [List.mem_cons, List.not_mem_nil, or_false]; rintro rfl; rw [hn] at e; cases e) e'⟩
    obtain ⟨sv', e', hst, iv⟩ := hes i v hP
    refine str.go tg _ (St s h₂ t₂) v _ _ hS₂ ?_
    refine step (c.on I) i sv' rfl rfl rfl e' l' W' hJ' s h₂ t₂ _ _ v sim₂ (isk hst iv) fun h₃ t₃ l₃ W₃ sim₃ st₃ hB => ?_
    refine hB s h₃ t₃ _ _ sim₃ fun f h₄ t₄ fl l₄ W₄ hf sim₄ st₄ hLp => ?_
    have st24 := st₃.trans st₄
    have stp₄ : Stp c.X W₁ h₁ W₄ h₄ := stp₂.trans st24
    have mI : ¬ W₄.Mut I := st24.notMut ho₂ hm
    have again : J (i + 1) l₄ W₄ → ∃ m, m < es.length - i ∧ Inv m (St s h₄ t₄) := fun hj => by
      refine ⟨es.length - (i + 1), by (clear hz hI hL hmI hm hi mI; omega), h₄, t₄, i + 1, l₄, W₄, rfl, sim₄, stp₄, ?_, mI, hj, hlt, rfl, fun b hb => ?_, fun i v hP => ?_⟩
      · refine str.walks.frame _ _ _ hS₂ fun b hb o e => ?_
        obtain ⟨q1, q2, _⟩ := hfp b hb
        exact st24.keep b o e q1 q2
      · obtain ⟨q1, q2, o, e⟩ := hfp b hb
        have e2 : ∃ o, h₂.get? b = some o := by
          by_cases z : b = I
          · subst z; exact ⟨_, ho₂⟩
          · exact ⟨o, kp₂ b o (by simpa using z) e⟩
        obtain ⟨o2, e2⟩ := e2
        obtain ⟨o3, e3⟩ := st24.live b o2 e2
        exact ⟨st24.notMut e2 q1, q2, o3, e3⟩
      · obtain ⟨sv, e, hst, iv⟩ := hes i v hP
        exact ⟨sv, e, hst, SV.is_stp (c.on I).XF st24 hst (isk hst iv)⟩
    cases fl with
    | next => subst hf; exact again hLp
    | cont => subst hf; exact again hLp
    | brk => subst hf; exact hQ .next h₄ t₄ .next l₄ W₄ rfl sim₄.off (st₁.trans stp₄) hLp
    | ret sv => obtain ⟨v, rfl, i⟩ := hf; exact hQ (.ret v) h₄ t₄ (.ret sv) l₄ W₄ ⟨v, rfl, SV.off i⟩ sim₄.off (st₁.trans stp₄) hLp
  · have hin : i = es.length := by (clear hz hI hL hmI hm; omega)
    subst hin
    refine str.walks.done (St s h' t') _ _ hS fun h₂ t₂ kp₂ => wpAny_execs_nil ?_
    have nI : ∀ b o, h₁.get? b = some o → b ∉ [I] := fun b o e => by simp only [List.mem_cons, List.not_mem_nil, or_false]; rintro rfl; rw [hn] at e; cases e
    have simO := sim'.off
    have hF : ∀ x o, c.Fm x → h'.get? x = some o → c.Fm x := fun _ _ z _ => z
    obtain ⟨m, F, hl⟩ := simO.fr
    have nP : ∀ b o, h'.get? b = some o → ¬ W'.P (c.on I).Fm b → h₂.get? b = some o ∧ ¬ W'.P c.Fm b := fun b o e n => ⟨kp₂ b o (by simp only [List.mem_cons, List.not_mem_nil, or_false]; exact fun z => n (.inr ((c.on_Fm I b).mpr (.inr z)))) e, fun z => n (z.imp id fun y => (c.on_Fm I b).mpr (.inl y))⟩
    obtain ⟨m', F', hl'⟩ := sim'.fr
    have hc : ∀ x ∈ c.its, x ≠ I := fun x hx => by rintro rfl; obtain ⟨⟨o, e⟩, _⟩ := sim₁.it x hx; rw [hn] at e; cases e
    have sim₂ : Sim c h₂ l' W' := by
      refine ⟨simO.ok, ⟨m', ⟨F'.ns.at' fun o e => kp₂ _ o (by simp only [List.mem_cons, List.not_mem_nil, or_false]; exact fun z => hL z.symm) e, fun b o e => kp₂ b o (by simp only [List.mem_cons, List.not_mem_nil, or_false]; rintro rfl; have : c.g.get? b = some o := e; rw [hg] at this; cases this) (F'.keep b o e), F'.above⟩, fun p hp => ?_⟩, ?_, fun x hx => ?_⟩
      · obtain ⟨⟨v, e, i⟩, r⟩ := hl' p hp
        exact ⟨⟨v, LocAt.imp nP e, SV.is_imp (.refl W') nP i⟩, r⟩
      · exact ⟨fun r => SO.imp (.refl W') nP (fun b hb o e => kp₂ b o (by simp only [List.mem_cons, List.not_mem_nil, or_false]; rintro rfl; exact hm ⟨r, hb⟩) e) (sim'.ws.holds r), sim'.ws.fresh, sim'.ws.apart, sim'.ws.nodup⟩
      · obtain ⟨⟨o, e⟩, n⟩ := simO.it x hx
        exact ⟨⟨o, kp₂ x o (by simpa using hc x hx) e⟩, n⟩
    have stp₂ : Stp c.X W₁ h₁ W' h₂ := by
      refine ⟨fun b o e n nx => kp₂ b o (nI b o e) (stp.keep b o e n nx), stp.new, fun b o e => ?_, stp.role⟩
      obtain ⟨o', e'⟩ := stp.live b o e
      exact ⟨o', kp₂ b o' (nI b o e) e'⟩
    exact hQ .next h₂ t₂ .next l' W' rfl sim₂ (st₁.trans stp₂) (done l' W' hJ')
theorem Sx.for_ {tg iter : Expr} {body : List Stmt} {pos : Pos} {D : Fl → Loc → Wd → Prop} (J : Nat → Loc → Wd → Prop)
    (H : Ev c l W iter fun sv W₁ => ∃ es, Itr sv es ∧ es.length ≤ 1000000 ∧ J 0 l W₁ ∧
      (∀ (c' : Gx) i sv', c'.n = c.n → c'.cs = c.cs → es[i]? = some sv' → ∀ l' W', J i l' W' → As1 c' l' W' (PySem.assign tg c'.env) sv' fun l₂ W₂ => Ex c' l₂ W₂ body (Lp J i D)) ∧
      (∀ l' W', J es.length l' W' → D .next l' W'))
    (hs : ∀ env x, foldedSetIterable iter env x = pure x) : Sx c l W (.For tg iter body [] pos) D :=
  Sx.forO J (fun s h t Q E tr sim htr hQ => H s h t Q E tr sim htr fun v h' t' sv W' i s' st ⟨es, k, hz, hJ, step, d⟩ => hQ v h' t' sv W' i s' st ⟨es, k, hz, hJ, fun c' i sv' a b _ => step c' i sv' a b, d⟩) hs
end
section
variable {c : Gx} {l : Loc} {W : Wd} {C : SV → Wd → Prop}

noncomputable def SO.noRole (z : Role) : SO → Prop
  | .inst _ A => ∀ p ∈ A, p.2 ≠ .role z
  | .slist xs => ∀ sv ∈ xs, sv ≠ .role z
  | .rows b => b = true → z ≠ .mark
  | _ => True
section
variable {w : World} {F F' : Addr → Prop} {g : Heap} {L : Addr} {W' : Wd} {h h' : Heap}
theorem EntAre.noRole {z : Role} (hz : W.ob z = .absent) {es A} (x : EntAre F W h es A) : ∀ p ∈ A, p.2 ≠ .role z := by
  induction x with
  | nil => intro p hp; cases hp
  | cons i _ ih =>
    intro p hp
    rcases List.mem_cons.mp hp with rfl | hp
    · rintro e; simp only at e; subst e; exact i.2 hz
    · exact ih p hp
theorem All2.noRole {z : Role} (hz : W.ob z = .absent) {xs vs} (x : All2 (SV.is F W h) xs vs) : ∀ sv ∈ xs, sv ≠ .role z := by
  induction x with
  | nil => intro p hp; cases hp
  | cons i _ ih =>
    intro p hp
    rcases List.mem_cons.mp hp with rfl | hp
    · rintro rfl; exact i.2 hz
    · exact ih p hp
theorem SO.holds.noRole {z r : Role} {so : SO} (hz : W.ob z = .absent) (x : SO.holds w F W h r so) : so.noRole z := by
  cases so with
  | inst C A => obtain ⟨_, _, _, _, en⟩ := x; exact en.noRole hz
  | slist xs => obtain ⟨_, _, _, en⟩ := x; exact en.noRole hz
  | rows b => rintro e rfl; exact x.2.1 e hz
  | _ => trivial
theorem EntAre.core {es A} (x : EntAre F W h es A) (f : ∀ p ∈ A, ∀ v, SV.is F W h p.2 v → SV.is F' W' h' p.2 v) : EntAre F' W' h' es A := by
  induction x with
  | nil => exact .nil
  | cons a _ ih => exact .cons (f _ (.head _) _ a) (ih fun p hp => f p (.tail _ hp))
theorem All2.core {xs vs} (x : All2 (SV.is F W h) xs vs) (f : ∀ sv ∈ xs, ∀ v, SV.is F W h sv v → SV.is F' W' h' sv v) : All2 (SV.is F' W' h') xs vs := by
  induction x with
  | nil => exact .nil
  | cons a _ ih => exact .cons (f _ (.head _) _ a) (ih fun p hp => f p (.tail _ hp))
theorem SO.core {z r : Role} (k : ∀ b o, h.get? b = some o → ¬ W.P F b → h'.get? b = some o ∧ ¬ W'.P F' b) (hr : ∀ r, r ≠ z → W.ob r ≠ .absent → W'.ad r = W.ad r ∧ W'.ob r ≠ .absent) (ha : W'.ad r = W.ad r) (hd : W'.dad r = W.dad r)
    (hz : (W.ob r).noRole z) (ka : ∀ x ∈ W.adrs r, ∀ o, h.get? x = some o → h'.get? x = some o) (x : SO.holds w F W h r (W.ob r)) : SO.holds w F' W' h' r (W.ob r) := by
  have f : ∀ sv, sv ≠ .role z → ∀ v, SV.is F W h sv v → SV.is F' W' h' sv v := fun sv hs v i => SV.is_core k (fun r e m => hr r (fun q => hs (by rw [e, q])) m) i
  cases q : W.ob r with
  | absent => trivial
  | inst C A =>
    rw [q] at x hz
    obtain ⟨a, es, n, b, en⟩ := x
    have e1 : W.adrs r = [W.ad r, W.dad r] := by unfold Wd.adrs; rw [q]
    refine ⟨?_, es, n, ?_, en.core fun p hp v => f _ (hz p hp) v⟩
    · rw [ha, hd]; exact ka _ (by rw [e1]; simp) _ a
    · rw [hd]; exact ka _ (by rw [e1]; simp) _ b
  | nums ns =>
    rw [q] at x
    obtain ⟨vs, n, a, i⟩ := x
    have e1 : W.adrs r = [W.ad r] := by unfold Wd.adrs; rw [q]
    exact ⟨vs, n, by rw [ha]; exact ka _ (by rw [e1]; simp) _ a, i⟩
  | pieces ns =>
    rw [q] at x
    obtain ⟨vs, n, a, i⟩ := x
    have e1 : W.adrs r = [W.ad r] := by unfold Wd.adrs; rw [q]
    exact ⟨vs, n, by rw [ha]; exact ka _ (by rw [e1]; simp) _ a, All2.imp (fun _ _ z => IsPiece.imp k z) i⟩
  | slist ns =>
    rw [q] at x hz
    obtain ⟨vs, n, a, i⟩ := x
    have e1 : W.adrs r = [W.ad r] := by unfold Wd.adrs; rw [q]
    exact ⟨vs, n, by rw [ha]; exact ka _ (by rw [e1]; simp) _ a, i.core fun sv hs v => f sv (hz sv hs) v⟩
  | rows b =>
    rw [q] at x hz
    have e1 : W.adrs r = [W.ad r] := by unfold Wd.adrs; rw [q]
    obtain ⟨⟨o, es, ep, ho, rr⟩, y, lo⟩ := x
    cases b with
    | false => exact ⟨⟨o, es, ep, by rw [ha]; exact ka _ (by rw [e1]; simp) _ ho, rr⟩, (fun e => by cases e), by rw [ha]; exact lo⟩
    | true =>
      obtain ⟨e2, e3⟩ := hr .mark (fun e => hz rfl e.symm) (y rfl)
      exact ⟨⟨o, es, ep, by rw [ha]; exact ka _ (by rw [e1]; simp) _ ho, by rw [e2]; exact rr⟩, fun _ => e3, by rw [ha]; exact lo⟩
end
/-- a role is born -/
noncomputable def Wd.born (W : Wd) (r : Role) (x dx : Addr) (so : SO) : Wd := ⟨fun r' => if r' = r then x else W.ad r', fun r' => if r' = r then dx else W.dad r', fun r' => if r' = r then so else W.ob r'⟩
theorem Wd.born_self (W : Wd) (r : Role) (x dx : Addr) (so : SO) : (W.born r x dx so).ob r = so ∧ (W.born r x dx so).ad r = x ∧ (W.born r x dx so).dad r = dx := by simp [Wd.born]
theorem Wd.born_ne (W : Wd) {r r' : Role} (x dx : Addr) (so : SO) (hne : r' ≠ r) : (W.born r x dx so).ob r' = W.ob r' ∧ (W.born r x dx so).ad r' = W.ad r' ∧ (W.born r x dx so).dad r' = W.dad r' := by simp [Wd.born, hne]
theorem Wd.born_adrs (W : Wd) {r r' : Role} (x dx : Addr) (so : SO) (hne : r' ≠ r) : (W.born r x dx so).adrs r' = W.adrs r' := by
  obtain ⟨a, b, d⟩ := W.born_ne x dx so hne
  unfold Wd.adrs
  rw [a, b, d]
theorem Sim.born {h h' : Heap} {r : Role} {x dx : Addr} {so : SO} (sim : Sim c h l W) (hab : W.ob r = .absent) (kp : ∀ b o, h.get? b = some o → h'.get? b = some o) (hx : ∀ a ∈ (W.born r x dx so).adrs r, h.get? a = none) (nd : ((W.born r x dx so).adrs r).Nodup) (hne : so ≠ .absent)
    (hh : SO.holds c.w c.Fm (W.born r x dx so) h' r so) : Sim c h' l (W.born r x dx so) ∧ Stp Nil W h (W.born r x dx so) h' := by
  generalize hW : W.born r x dx so = W' at *
  have e1 : ∀ r', r' ≠ r → W'.ob r' = W.ob r' ∧ W'.ad r' = W.ad r' ∧ W'.dad r' = W.dad r' := fun r' q => by rw [← hW]; exact W.born_ne x dx so q
  have e2 : ∀ r', r' ≠ r → W'.adrs r' = W.adrs r' := fun r' q => by rw [← hW]; exact W.born_adrs x dx so q
  have e3 : W'.ob r = so := by rw [← hW]; exact (W.born_self r x dx so).1
  have hnew : ∀ a, W'.Mut a → W.Mut a ∨ h.get? a = none := fun a ⟨r', ha⟩ => by
    by_cases q : r' = r
    · subst q; exact .inr (hx a ha)
    · rw [e2 r' q] at ha; exact .inl ⟨r', ha⟩
  have hr : ∀ r', r' ≠ r → W.ob r' ≠ .absent → W'.ad r' = W.ad r' ∧ W'.ob r' ≠ .absent := fun r' q m => ⟨(e1 r' q).2.1, by rw [(e1 r' q).1]; exact m⟩
  have hr' : ∀ r', W.ob r' ≠ .absent → W'.ad r' = W.ad r' ∧ W'.ob r' ≠ .absent := fun r' m => hr r' (fun q => m (by rw [q]; exact hab)) m
  have stp : Stp Nil W h W' h' := ⟨fun b o e _ _ => kp b o e, hnew, fun b o e => ⟨o, kp b o e⟩, fun r' _ m => hr' r' m⟩
  have kk : ∀ b o, h.get? b = some o → ¬ W.P c.Fm b → h'.get? b = some o ∧ ¬ W'.P c.Fm b := fun b o e m => ⟨kp b o e, fun z => z.elim (stp.notMut e fun y => m (.inl y)) fun y => m (.inr y)⟩
  obtain ⟨m, F, hl⟩ := sim.fr
  obtain ⟨oL, es, ep, hL, rL⟩ := F.ns
  refine ⟨⟨sim.ok, ⟨m, ⟨⟨oL, es, ep, kp _ _ hL, rL⟩, fun b o e => kp b o (F.keep b o e), F.above⟩, fun p hp => ?_⟩, ⟨fun r' => ?_, fun r' a ha => ?_, fun r1 r2 hne a ha => ?_, fun r' => ?_⟩, fun y hy => let ⟨⟨o, e⟩, n⟩ := sim.it y hy; ⟨⟨o, kp y o e⟩, stp.notMut e n⟩⟩, stp⟩
  · obtain ⟨⟨v, e, i⟩, rest⟩ := hl p hp
    exact ⟨⟨v, e.imp kk, SV.is_core kk (fun r' _ m => hr' r' m) i⟩, rest⟩
  · by_cases q : r' = r
    · subst q; rw [e3]; exact hh
    · rw [(e1 r' q).1]
      exact SO.core kk hr (e1 r' q).2.1 (e1 r' q).2.2 ((sim.ws.holds r').noRole hab) (fun y hy o e => kp y o e) (sim.ws.holds r')
  · by_cases q : r' = r
    · subst q
      have hn := hx a ha
      refine ⟨?_, ?_⟩
      · cases e : c.g.get? a with
        | none => rfl
        | some o => have := F.keep _ _ e; rw [hn] at this; cases this
      · rintro rfl; rw [hn] at hL; cases hL
    · rw [e2 r' q] at ha; exact sim.ws.fresh r' a ha
  · by_cases q1 : r1 = r
    · subst q1
      have hn := hx a ha
      have q2 : r2 ≠ r1 := fun z => hne z.symm
      rw [e2 r2 q2]
      intro z
      obtain ⟨o, e⟩ := sim.ws.live z
      rw [hn] at e; cases e
    · rw [e2 r1 q1] at ha
      by_cases q2 : r2 = r
      · subst q2
        intro z
        have hn := hx a z
        obtain ⟨o, e⟩ := sim.ws.live ha
        rw [hn] at e; cases e
      · rw [e2 r2 q2]; exact sim.ws.apart r1 r2 hne a ha
  · by_cases q : r' = r
    · subst q; exact nd
    · rw [e2 r' q]; exact sim.ws.nodup r'
/-! ### new values that may become a role's -/
noncomputable def Nw (c : Gx) (l : Loc) (W : Wd) (e : Expr) (C : SV → Wd → Prop) : Prop :=
  ∀ (s : Shared) (h : Heap) (t : Nat) (Q E : Value → Shared → Prop), Sim c h l W →
    (∀ a h₁ h' t' sv W', Sim c h₁ l W' → (∀ b o, h₁.get? b = some o → h'.get? b = some o) → h₁.get? a = none → SV.is c.Fm W' h' sv (.ref a) → Stp c.X W h W' h₁ → C sv W' → Q (.ref a) (St s h' t')) → wpAny c.M c.A (eval e c.env) Q E (St s h t)
inductive Adp : SV → SO → Prop
  | nums {ns} : Adp (.lst ns) (.nums ns)
  | pieces : Adp (.pcl []) (.pieces [])
theorem Ev.adopt {e : Expr} (r : Role) (H : Nw c l W e fun sv W₁ => W₁.ob r = .absent ∧ ∃ so, Adp sv so ∧ ∀ x, C (.role r) (W₁.born r x x so)) : Ev c l W e C := by
  intro s h t Q E tr sim htr hQ
  subst htr
  refine H s h t Q E sim fun a h₁ h' t' sv W' sim₁ kp ha i st ⟨hab, so, k, hC⟩ => ?_
  have key : Sim c h' l (W'.born r a a so) ∧ Stp Nil W' h₁ (W'.born r a a so) h' := by
    obtain ⟨b1, b2, b3⟩ := W'.born_self r a a so
    cases k with
    | @nums ns =>
      have ea : (W'.born r a a (.nums ns)).adrs r = [a] := by unfold Wd.adrs; rw [b1, b2]
      obtain ⟨a', vs, n, e, q, j, _⟩ := i
      cases e
      exact sim₁.born hab kp (fun y hy => by rw [ea] at hy; simp at hy; subst hy; exact ha) (by rw [ea]; simp) (by intro z; cases z) ⟨vs, n, by rw [b2]; exact q, j⟩
    | pieces =>
      have ea : (W'.born r a a (.pieces [])).adrs r = [a] := by unfold Wd.adrs; rw [b1, b2]
      obtain ⟨a', vs, n, e, q, j, _⟩ := i
      cases e
      cases j
      exact sim₁.born hab kp (fun y hy => by rw [ea] at hy; simp at hy; subst hy; exact ha) (by rw [ea]; simp) (by intro z; cases z) ⟨[], n, by rw [b2]; exact q, .nil⟩
  exact hQ (.ref a) h' t' (.role r) _ ⟨by rw [(W'.born_self r a a so).2.1], by rw [(W'.born_self r a a so).1]; cases k <;> (intro z; cases z)⟩ key.1 (st.trans key.2.nil) (hC a)
theorem Nw.ev {e : Expr} (H : Nw c l W e C) : Ev c l W e C := by
  intro s h t Q E tr sim htr hQ
  subst htr
  refine H s h t Q E sim fun a h₁ h' t' sv W' sim₁ kp ha i st hC => ?_
  exact hQ _ h' t' sv W' i (sim₁.keeps kp) (st.trans (Stp.ofKeeps kp).nil) hC
theorem Nw.list {es : List Expr} {pos : Pos} (H : Ars c l W (spliced (backTo pos (starEach es c.env))) fun svs W₁ => svs.length ≤ 100 ∧ ∃ sv, Dsp svs sv ∧ C sv W₁) : Nw c l W (.List es pos) C := by
  intro s h t Q E sim hQ
  refine List_ (H s h t _ E sim fun vs h' t' svs W' a sim' st ⟨hz, sv, k, hC⟩ => ?_)
  refine wpAny_newObj_type ?_ (by show vs.toArray.size ≤ sizeLine; rw [List.size_toArray, sizeLine_eq, ← a.length]; (clear hz; omega))
  have kp : ∀ b o, h'.get? b = some o → (h'.push { cls := .type "list", data := .seq vs.toArray }).get? b = some o := push_keep
  exact hQ _ h' _ t' sv W' sim' kp (none_at_size h') (k.at sim' a (none_at_size h') (n := 0) (by rw [Heap.get?_push_size _ rfl]) kp) st hC
theorem Nw.cat {x y : Expr} {pos : Pos} (H : Ev c l W x fun a W₁ => Ev c l W₁ y fun b W₂ => Keep a W₁ W₂ ∧ ∃ xs ys, Nl W₂ a xs ∧ Nl W₂ b ys ∧ xs.length + ys.length ≤ 1000000 ∧ C (.lst (xs ++ ys)) W₂) : Nw c l W (.BinOp x .Add y pos) C := by
  intro s h t Q E sim hQ
  refine wpAny_BinOp ?_
  refine H s h t _ E _ sim rfl fun va h' t' a W' ia sim' st H' => ?_
  refine H' s h' t' _ E _ sim' rfl fun vb h2 t2 b W2 ib sim2 st2 ⟨kp, xs, ys, ka, kb, hz, hC⟩ => ?_
  obtain ⟨p, us, n, rfl, q1, j1⟩ := ka.at sim2 (kp.is st2 ia)
  obtain ⟨r, ws, k, rfl, q2, j2⟩ := kb.at sim2 ib
  refine PySem.P.add_list (s := St s h2 t2) (items := us.toArray) (items2 := ws.toArray) (n := n) (n2 := k) q1 q2 ?_ (by rw [List.size_toArray, List.size_toArray, j1.length, j2.length, sizeLine_eq]; omega)
  have k : ∀ b o, h2.get? b = some o → (h2.push { cls := .type "list", data := .seq (us.toArray ++ ws.toArray) }).get? b = some o := push_keep
  exact hQ _ h2 _ t2 (.lst (xs ++ ys)) W2 sim2 k (none_at_size h2) (sim2.newLst (vs := us ++ ws) (n := 0) (none_at_size h2) (by rw [Heap.get?_push_size _ rfl]; simp [PySem.W.listOf]) (j1.append j2)) (st.trans st2) hC
/-- lists of lists, lists of pieces put together -/
theorem Bin.catL {xs ys : List (List Int)} (hz : xs.length + ys.length ≤ 1000000) (hC : C (.lol (xs ++ ys)) W) : Bin c l W .Add (.lol xs) (.lol ys) C := by
  rintro s h t Q E tr sim ⟨va, vb, ⟨p, us, n, rfl, q1, j1, _⟩, ⟨r, ws, k, rfl, q2, j2, _⟩, rfl⟩ hQ
  refine PySem.P.add_list (s := St s h t) (items := us.toArray) (items2 := ws.toArray) (n := n) (n2 := k) q1 q2 ?_ (by rw [List.size_toArray, List.size_toArray, j1.length, j2.length, sizeLine_eq]; omega)
  have k : ∀ b o, h.get? b = some o → (h.push { cls := .type "list", data := .seq (us.toArray ++ ws.toArray) }).get? b = some o := push_keep
  refine hQ _ _ t (.lol (xs ++ ys)) W ⟨_, us ++ ws, 0, rfl, by rw [Heap.get?_push_size _ rfl]; simp [PySem.W.listOf], ?_, sim.fresh (none_at_size h)⟩ (sim.keeps k) (Stp.ofKeeps k).nil hC
  exact All2.imp (fun _ _ z => IsLst.imp (fun b o e m => ⟨k b o e, m⟩) z) (j1.append j2)
theorem Bin.catP {r : Role} {xs ys : List (List Int)} (ho : W.ob r = .pieces ys) (hz : xs.length + ys.length ≤ 1000000) (hC : C (.pcl (xs ++ ys)) W) : Bin c l W .Add (.pcl xs) (.role r) C := by
  rintro s h t Q E tr sim ⟨va, vb, ⟨p, us, n, rfl, q1, j1, _⟩, ⟨rfl, _⟩, rfl⟩ hQ
  have H := sim.ws.holds r
  rw [ho] at H
  obtain ⟨ws, k, q2, j2⟩ := H
  refine PySem.P.add_list (s := St s h t) (items := us.toArray) (items2 := ws.toArray) (n := n) (n2 := k) q1 q2 ?_ (by rw [List.size_toArray, List.size_toArray, j1.length, j2.length, sizeLine_eq]; omega)
  have k : ∀ b o, h.get? b = some o → (h.push { cls := .type "list", data := .seq (us.toArray ++ ws.toArray) }).get? b = some o := push_keep
  refine hQ _ _ t (.pcl (xs ++ ys)) W ⟨_, us ++ ws, 0, rfl, by rw [Heap.get?_push_size _ rfl]; simp [PySem.W.listOf], ?_, sim.fresh (none_at_size h)⟩ (sim.keeps k) (Stp.ofKeeps k).nil hC
  exact All2.imp (fun _ _ z => IsPiece.imp (fun b o e m => ⟨k b o e, m⟩) z) (j1.append j2)
theorem mulL {prog : Program} {w : World} {A : Around} {E : Value → Shared → Prop} {s : Shared} {la : Addr} {items : Array Value} {k : Nat} {x : Int} {u : Tok} {Q : Value → Shared → Prop}
    (hl : s.heap.get? la = some { cls := .type "list", dict := none, data := .seq items k, slots := #[] })
    (hlo : -(2 ^ 63 : Int) ≤ x) (hhi : x < 2 ^ 63) (hsz : items.size * x.toNat ≤ 2 ^ 24)
    (h : Q (.ref s.heap.objs.size) { s with heap := s.heap.push { cls := .type "list", data := .seq (List.foldl (fun x1 x2 => x1 ++ x2) #[] (List.replicate (if items.isEmpty = true then 0 else x.toNat) items)) } }) :
    wpAny (model prog w) A (binaryOp .Mult (.ref la) (.int x u)) Q E s :=
  wpAny_binaryOp_repeat_ref (T := "list") (U := "int") (by decide) ⟨_, hl, rfl⟩ (fun s' => typeIs_int s' x u) noFill_list_mul F.fills_int_mul F.slot_int_rmul repeat_list F.slot_int_index.lookup
    (call_meets F.slot_int_rmul (typeIs_int s x u) F.entry_int_rmul (F.args_int_rmul_2 _ _) (int___rmul___int_list x u la items k)
      ⟨hl, rfl, ⟨_, hl, rfl⟩, call_meets F.slot_list_mul ⟨_, hl, rfl⟩ F.entry_list_mul (F.args_list_mul_2 _ _)
        (AutoListH.list___mul___list_int_3 la items k x u (by simp [Builtin.List.listFitsIndex]; (clear hsz; omega)) (by (clear hlo hhi; omega)) (by simp [Builtin.List.listTooLong, sizeLine]; (clear hlo hhi; omega)))
        ⟨hl, h⟩⟩)
/-- [0] * n -/
theorem Bin.rep {z : Int} {n : Int} (hn : n ≤ 1000000) (hC : C (.lst (List.replicate n.toNat z)) W) (hlo : -1000000 ≤ n) : Bin c l W .Mult (.lst [z]) (.int n) C := by
  rintro s h t Q E tr sim ⟨va, vb, ⟨p, us, m, rfl, q1, j1, _⟩, ⟨tk, rfl⟩, rfl⟩ hQ
  obtain ⟨tz, us', rfl, j2⟩ := IntsAre.cons_inv j1
  cases IntsAre.nil_inv j2
  refine mulL (s := St s h t) (items := #[.int z tz]) (k := m) q1 (by (clear hn; omega)) (by (clear hlo; omega)) (by show 1 * n.toNat ≤ 16777216; (clear hlo; omega)) ?_
  have e : (List.foldl (fun x1 x2 => x1 ++ x2) #[] (List.replicate (if (#[Value.int z tz] : Array Value).isEmpty = true then 0 else n.toNat) #[Value.int z tz])) = (List.replicate n.toNat (Value.int z tz)).toArray := by
    show List.foldl _ #[] (List.replicate n.toNat #[Value.int z tz]) = _
    generalize n.toNat = k
    have key : ∀ (k : Nat) (acc : Array Value), List.foldl (fun x1 x2 => x1 ++ x2) acc (List.replicate k #[Value.int z tz]) = acc ++ (List.replicate k (Value.int z tz)).toArray := by
      intro k
      induction k with
      | zero => intro acc; simp
      | succ k ih => intro acc; rw [List.replicate_succ, List.foldl_cons, ih, List.replicate_succ]; apply Array.toList_inj.mp; simp
    rw [key]; simp
  rw [e]
  have k : ∀ b o, h.get? b = some o → (h.push { cls := .type "list", data := .seq (List.replicate n.toNat (Value.int z tz)).toArray }).get? b = some o := push_keep
  refine hQ _ _ t (.lst (List.replicate n.toNat z)) W (sim.newLst (vs := List.replicate n.toNat (Value.int z tz)) (n := 0) (none_at_size h) (by rw [Heap.get?_push_size _ rfl]) ?_) (sim.keeps k) (Stp.ofKeeps k).nil hC
  generalize n.toNat = k
  induction k with
  | zero => exact .nil
  | succ k ih => exact .cons z tz ih
end
section
variable {c : Gx} {l : Loc} {W : Wd} {C : SV → Wd → Prop}
noncomputable def Gx.mk' (c : Gx) (n : Nat) (Cl : Addr) (vs : List Value) : Gx := { c with A := c.A.under (.builtin "type.__call__" ⟨.ref Cl :: vs, []⟩), n := n }
theorem Sim.mk' {h : Heap} {n : Nat} {Cl : Addr} {vs : List Value} (sim : Sim c h l W) (hn : n + 1 ≤ c.n) : Sim (c.mk' n Cl vs) h l W := by
  obtain ⟨ok, fr, ws, it⟩ := sim
  refine ⟨⟨ok.B, ?_, ok.kf, ok.XB, ok.F, ok.TB, ?_, ?_, ?_⟩, fr, ws, it⟩
  · exact ok.fr
  · exact ok.hd
  · have := ok.dep; have hw : (Code.builtin "type.__call__" ⟨.ref Cl :: vs, []⟩).weight = 1 := by rfl
    show c.A.depth + (Code.builtin "type.__call__" ⟨.ref Cl :: vs, []⟩).weight + n ≤ 400; rw [hw]; (clear hw; omega)
  · have := ok.un; show c.A.units + 1 + 8 * n ≤ 1200; omega
/-- an instance is made -/
theorem newInst {r : Role} {Cl fI : Addr} {as : List SV} {n : Nat} {s : Shared} {h : Heap} {t : Nat} {vs : List Value} {Q E : Value → Shared → Prop} (sim : Sim c h l W) (hn : n + 1 ≤ c.n) (ha : All2 (SV.is c.Fm W h) as vs) (hab : W.ob r = .absent) (hCl : isCls Cl = true) (hm : mthOk Cl (Str.ofString "__init__") fI = true)
    (H : ∀ x dx, FS n (.ref fI) (.role r :: as) (W.born r x dx (.inst Cl [])) fun sv W₂ => sv = .none ∧ C (.role r) W₂) (hr : r ≠ .pcs)
    (hQ : ∀ v h' t' W', SV.is c.Fm W' h' (.role r) v → Sim c h' l W' → Stp c.X W h W' h' → C (.role r) W' → Q v (St s h' t')) : wpAny c.M c.A (PySem.call (.ref Cl) vs) Q E (St s h t) := by
  obtain ⟨k1, k2, k3, k4, k5⟩ := sim.ok.F.cls Cl hCl
  obtain ⟨q1, q2⟩ := sim.ok.F.mth Cl _ fI hm
  refine wpAny_call (make_core (makes_of sim.K k5) (looks_findIn sim.K q1) (fun self => bind_fn sim.K self (beq_iff_eq.mp q2)) (.inl rfl) ?_)
  obtain ⟨b1, b2, b3⟩ := W.born_self r (h.objs.size + 1) h.objs.size (.inst Cl [])
  have e1 : (W.born r (h.objs.size + 1) h.objs.size (.inst Cl [])).adrs r = [h.objs.size + 1, h.objs.size] := by unfold Wd.adrs; rw [b1, b2, b3]
  have kp : ∀ b o, h.get? b = some o → ((h.push emptyDict).push (instObj Cl h.objs.size)).get? b = some o := fun b o e => push_keep _ _ (push_keep _ _ e)
  have hx : ((h.push emptyDict).push (instObj Cl h.objs.size)).get? (h.objs.size + 1) = some (instObj Cl h.objs.size) := by
    have := Heap.get?_push_size (h.push emptyDict) (o := instObj Cl h.objs.size) rfl
    rwa [Heap.size_push] at this
  have hdx : ((h.push emptyDict).push (instObj Cl h.objs.size)).get? h.objs.size = some emptyDict := Heap.get?_push_of_some _ (Heap.get?_push_size _ rfl)
  obtain ⟨sim', stp⟩ := sim.born (h' := (h.push emptyDict).push (instObj Cl h.objs.size)) (x := h.objs.size + 1) (dx := h.objs.size) (so := .inst Cl []) hab kp (fun a ha => by
    rw [e1] at ha
    simp only [List.mem_cons, List.not_mem_nil, or_false] at ha
    rcases ha with rfl | rfl
    · exact Heap.get?_none_of_le (Nat.le_succ _)
    · exact none_at_size h) (by rw [e1]; simp) (by intro z; cases z) ⟨by rw [b2, b3]; exact hx, [], 0, by rw [b3]; exact hdx, .nil⟩
  have sim2 : Sim (c.mk' n Cl vs) _ [] _ := (show Sim c _ [] _ from ⟨sim'.ok, let ⟨m, F, _⟩ := sim'.fr; ⟨m, F, fun p hp => nomatch hp⟩, sim'.ws, sim'.it⟩).mk' hn
  have kk : ∀ b o, h.get? b = some o → ¬ W.P c.Fm b → ((h.push emptyDict).push (instObj Cl h.objs.size)).get? b = some o ∧ ¬ (W.born r (h.objs.size + 1) h.objs.size (.inst Cl [])).P c.Fm b := fun b o e m => ⟨kp b o e, fun z => z.elim (stp.notMut e fun y => m (.inl y)) fun y => m (.inr y)⟩
  have ha' : All2 (SV.is c.Fm (W.born r (h.objs.size + 1) h.objs.size (.inst Cl [])) ((h.push emptyDict).push (instObj Cl h.objs.size))) as vs := ha.imp fun sv v i => SV.is_core kk (fun r' _ m => by
    have hne : r' ≠ r := fun q => m (by rw [q]; exact hab)
    obtain ⟨p1, p2, _⟩ := W.born_ne (h.objs.size + 1) h.objs.size (.inst Cl []) hne
    exact ⟨p2, by rw [p1]; exact m⟩) i
  refine H _ _ (c.mk' n Cl vs) s _ t _ _ (Nat.le_refl _) sim2 (.cons ⟨by rw [b2], by rw [b1]; intro z; cases z⟩ ha') fun v h' t' sv W' i ws st hC => ?_
  obtain ⟨rfl, hC⟩ := hC
  cases i
  refine ⟨rfl, ?_⟩
  obtain ⟨a1, a2⟩ := st.role r hr (by rw [b1]; intro z; cases z)
  exact hQ _ h' t' W' ⟨by rw [a1, b2], a2⟩ (sim'.stp st ws) (stp.trans st).nil hC
theorem Ev.new {x : Str} {np pos : Pos} {e : Expr} {es : List Expr} {sc : Scope} (n : Nat) (r : Role) (Cl fI : Addr) (hg : glbOk x Cl = true) (hkp : kpOk Cl = true) (hCl : isCls Cl = true) (hm : mthOk Cl (Str.ofString "__init__") fI = true) (hs : c.cs = sc) (hk : sc.names.lookup x = some .globalImplicit) (hd : (x == Str.ofString "__debug__") = false) (hn : n + 1 ≤ c.n) (hr : r ≠ .pcs)
    (H : Ars c l W (spliced (backTo pos (starEach (e :: es) c.env))) fun as W₁ => W₁.ob r = .absent ∧ ∀ x dx, FS n (.ref fI) (.role r :: as) (W₁.born r x dx (.inst Cl [])) fun sv W₂ => sv = .none ∧ C (.role r) W₂) (he : ∀ env, starEach (e :: es) env = (false, eval e env) :: starEach es env) (hp : ∀ env, (backTo pos (starEach es env)).any (·.1) = false)
    (hc : ∀ env, eval (.Call (.Name x np) (e :: es) [] pos) env = (do callWith pos (← eval (.Name x np) env) [] (backTo pos (starEach (e :: es) env)) (backToKw pos (keywordEach [] env)))) : Ev c l W (.Call (.Name x np) (e :: es) [] pos) C := by
  intro s h t Q E tr sim htr hQ
  subst htr
  refine Call_ ?_ (hc _)
  refine Ev.glb (C := fun sv W₁ => sv = .fn (.ref Cl) ∧ W₁ = W) Cl hg hs hk hd ⟨rfl, rfl⟩ s h t _ E _ sim rfl fun v h' t' sv W' i sim' st ⟨e1, e2⟩ => ?_
  subst e1 e2
  cases i
  refine callWith_K (s := St s h' t') sim'.ok.X (sim'.ok.F.kp Cl hkp) ?_ (he _) (hp _)
  refine H s h' t' _ E sim' fun vs h2 t2 as W2 is2 sim2 st2 ⟨hab, hF⟩ => ⟨sim2.K, ?_⟩
  exact newInst sim2 hn is2 hab hCl hm hF hr fun v h3 t3 W3 i3 sim3 st3 hC => hQ v h3 t3 _ W3 i3 sim3 ((st.trans st2).trans st3) hC
theorem Ev.new0 {x : Str} {np pos : Pos} {sc : Scope} (n : Nat) (r : Role) (Cl fI : Addr) (hg : glbOk x Cl = true) (hkp : kpOk Cl = true) (hCl : isCls Cl = true) (hm : mthOk Cl (Str.ofString "__init__") fI = true) (hs : c.cs = sc) (hk : sc.names.lookup x = some .globalImplicit) (hd : (x == Str.ofString "__debug__") = false) (hn : n + 1 ≤ c.n) (hr : r ≠ .pcs)
    (H : W.ob r = .absent ∧ ∀ x dx, FS n (.ref fI) [.role r] (W.born r x dx (.inst Cl [])) fun sv W₂ => sv = .none ∧ C (.role r) W₂)
    (hc : ∀ env, eval (.Call (.Name x np) [] [] pos) env = (do callWith pos (← eval (.Name x np) env) [] (backTo pos (starEach [] env)) (backToKw pos (keywordEach [] env)))) : Ev c l W (.Call (.Name x np) [] [] pos) C := by
  intro s h t Q E tr sim htr hQ
  subst htr
  refine Call_ ?_ (hc _)
  refine Ev.glb (C := fun sv W₁ => sv = .fn (.ref Cl) ∧ W₁ = W) Cl hg hs hk hd ⟨rfl, rfl⟩ s h t _ E _ sim rfl fun v h' t' sv W' i sim' st ⟨e1, e2⟩ => ?_
  subst e1 e2
  cases i
  refine callWith_K0 (s := St s h' t') sim'.K (sim'.ok.F.kp Cl hkp) ?_
  exact newInst sim' hn .nil H.1 hCl hm H.2 hr fun v h3 t3 W3 i3 sim3 st3 hC => hQ v h3 t3 _ W3 i3 sim3 (st.trans st3) hC
/-- {} -/
theorem Ev.dict0 {pos : Pos} (r : Role) (hab : W.ob r = .absent) (hC : ∀ x, C (.role r) (W.born r x x (.rows false))) : Ev c l W (.Dict [] [] pos) C := by
  intro s h t Q E tr sim htr hQ
  subst htr
  refine wpAny_Dict_empty ?_
  obtain ⟨b1, b2, b3⟩ := W.born_self r h.objs.size h.objs.size (.rows false)
  obtain ⟨_, F, _⟩ := sim.fr
  obtain ⟨_, _, _, _, _, T⟩ := sim.ok.T
  have e1 : (W.born r h.objs.size h.objs.size (.rows false)).adrs r = [h.objs.size] := by unfold Wd.adrs; rw [b1, b2]
  have kp : ∀ b o, h.get? b = some o → (h.push emptyDict).get? b = some o := push_keep
  obtain ⟨sim', stp⟩ := sim.born (h' := h.push emptyDict) (x := h.objs.size) (dx := h.objs.size) (so := .rows false) hab kp (fun a ha => by
    rw [e1] at ha; simp at ha; subst ha; exact none_at_size h) (by rw [e1]; simp) (by intro z; cases z) ⟨by rw [b2]; exact Heap.DictOf.new h, (fun e => by cases e), by rw [b2]; exact F.notModules (modules_low T.nolimit)⟩
  exact hQ _ _ t (.role r) _ ⟨by rw [b2], by rw [b1]; intro z; cases z⟩ sim' stp.nil (hC _)
end
section
variable {c : Gx} {l : Loc} {W : Wd} {C : SV → Wd → Prop}
/-- the role .tmp's object is a role's no more -/
theorem Sim.kill {h h₀ : Heap} {W₀ : Wd} (sim₀ : Sim c h₀ l W₀) (hab : W₀.ob .tmp = .absent) (sim : Sim c h l W) (hob : ∀ r, r ≠ .tmp → W.ob r = W₀.ob r) (st : Stp c.X W₀ h₀ W h) {W' : Wd} (hW : W' = ⟨W.ad, W.dad, W₀.ob⟩) :
    Sim c h l W' ∧ Stp c.X W₀ h₀ W' h ∧ (∀ b o, h.get? b = some o → ¬ W.P c.Fm b → h.get? b = some o ∧ ¬ W'.P c.Fm b) := by
  have e0 : W'.ob .tmp = .absent := by rw [hW]; exact hab
  have e1 : ∀ r, r ≠ .tmp → W'.ob r = W.ob r := fun r q => by rw [hW]; exact (hob r q).symm
  have e2 : ∀ r, r ≠ .tmp → W'.adrs r = W.adrs r := fun r q => by unfold Wd.adrs; rw [e1 r q, hW]
  have e3 : W'.adrs .tmp = [] := by unfold Wd.adrs; rw [e0]
  have ea : W'.ad = W.ad := by rw [hW]
  have ed : W'.dad = W.dad := by rw [hW]
  have sub : ∀ x, W'.Mut x → W.Mut x := fun x ⟨r, hr⟩ => by
    by_cases q : r = .tmp
    · subst q; rw [e3] at hr; cases hr
    · rw [e2 r q] at hr; exact ⟨r, hr⟩
  have kk : ∀ b o, h.get? b = some o → ¬ W.P c.Fm b → h.get? b = some o ∧ ¬ W'.P c.Fm b := fun b o e m => ⟨e, fun z => m (z.imp (sub b) id)⟩
  have hr : ∀ r, r ≠ .tmp → W.ob r ≠ .absent → W'.ad r = W.ad r ∧ W'.ob r ≠ .absent := fun r q m => ⟨by rw [ea], by rw [e1 r q]; exact m⟩
  obtain ⟨m₀, F₀, hl₀⟩ := sim₀.fr
  obtain ⟨m, F, hl⟩ := sim.fr
  refine ⟨⟨sim.ok, ⟨m, F, fun p hp => ?_⟩, ⟨fun r => ?_, fun r a ha => ?_, fun r1 r2 hne a ha => ?_, fun r => ?_⟩, fun x hx => ⟨(sim.it x hx).1, fun z => (sim.it x hx).2 (sub x z)⟩⟩, ⟨st.keep, fun x hx => st.new x (sub x hx), st.live, fun r q m => ?_⟩, kk⟩
  · obtain ⟨⟨v, e, i⟩, rest⟩ := hl p hp
    obtain ⟨⟨v₀, _, i₀⟩, _⟩ := hl₀ p hp
    refine ⟨⟨v, e.imp kk, SV.is_core kk (fun r q m => hr r (fun z => ?_) m) i⟩, rest⟩
    rw [q, z] at i₀
    exact i₀.2 hab
  · by_cases q : r = .tmp
    · subst q; rw [e0]; trivial
    · rw [e1 r q]
      refine SO.core kk hr (by rw [ea]) (by rw [ed]) ?_ (fun _ _ _ e => e) (sim.ws.holds r)
      rw [hob r q]
      exact (sim₀.ws.holds r).noRole hab
  · by_cases q : r = .tmp
    · subst q; rw [e3] at ha; cases ha
    · rw [e2 r q] at ha; exact sim.ws.fresh r a ha
  · by_cases q1 : r1 = .tmp
    · subst q1; rw [e3] at ha; cases ha
    · by_cases q2 : r2 = .tmp
      · subst q2; rw [e3]; simp
      · rw [e2 r1 q1] at ha; rw [e2 r2 q2]; exact sim.ws.apart r1 r2 hne a ha
  · by_cases q : r = .tmp
    · subst q; rw [e3]; simp
    · rw [e2 r q]; exact sim.ws.nodup r
  · have q' : r ≠ .tmp := fun z => m (by rw [z]; exact hab)
    obtain ⟨a, b⟩ := st.role r q m
    exact ⟨by rw [ea]; exact a, by rw [e1 r q']; exact b⟩
theorem newPiece {as : List SV} {ns : List Int} {n : Nat} {s : Shared} {h : Heap} {t : Nat} {vs : List Value} {Q E : Value → Shared → Prop} (sim : Sim c h l W) (hn : n + 1 ≤ c.n) (ha : All2 (SV.is c.Fm W h) as vs) (hab : W.ob .tmp = .absent)
    (H : ∀ x dx, FS n (.ref 161) (.role .tmp :: as) (W.born .tmp x dx (.inst 164 [])) fun sv W₂ => sv = .none ∧ W₂.ob .tmp = .inst 164 [(Str.ofString "codes", .lst ns), (Str.ofString "runs", .lst [])] ∧ ∀ r, r ≠ .tmp → W₂.ob r = W.ob r)
    (hQ : ∀ v h' t' W', SV.is c.Fm W' h' (.piece ns) v → Sim c h' l W' → Stp c.X W h W' h' → W'.ob = W.ob → Q v (St s h' t')) : wpAny c.M c.A (PySem.call (.ref 164) vs) Q E (St s h t) := by
  refine newInst (C := fun _ W₂ => W₂.ob .tmp = .inst 164 [(Str.ofString "codes", .lst ns), (Str.ofString "runs", .lst [])] ∧ ∀ r, r ≠ .tmp → W₂.ob r = W.ob r) sim hn ha hab (by rfl) (by kernel_rfl) H (by intro z; cases z) fun v h' t' W' i sim' st ⟨ht, hob⟩ => ?_
  obtain ⟨sim2, st2, kk⟩ := sim.kill hab sim' hob st rfl
  refine hQ v h' t' _ ?_ sim2 st2 rfl
  obtain ⟨rfl, _⟩ := i
  have Hh := sim'.ws.holds .tmp
  rw [ht] at Hh
  obtain ⟨hx, es, m, hd, en⟩ := Hh
  have mt : ∀ x ∈ W'.adrs .tmp, ¬ (⟨W'.ad, W'.dad, W.ob⟩ : Wd).P c.Fm x := by
    rintro x hx (⟨r, hr⟩ | hF)
    · by_cases q : r = .tmp
      · subst q; unfold Wd.adrs at hr; dsimp only at hr; rw [hab] at hr; cases hr
      · have : (⟨W'.ad, W'.dad, W.ob⟩ : Wd).adrs r = W'.adrs r := by unfold Wd.adrs; dsimp only; rw [hob r q]
        rw [this] at hr
        exact sim'.ws.apart _ _ q x hr hx
    · rcases st.new x ⟨_, hx⟩ with ⟨r, q⟩ | q
      · have q' : r ≠ .tmp := fun z => by subst z; unfold Wd.adrs at q; rw [hab] at q; cases q
        rcases hF with ⟨e, he, ex⟩ | hF
        · rcases List.mem_cons.mp he with rfl | he
          · exact (sim'.ws.fresh _ x hx).2 (Option.some.inj ex).symm
          · obtain ⟨m0, F0, _⟩ := sim'.fr
            obtain ⟨L₁, o₁, h1, h2⟩ := funFrames_in sim'.ok.B.frames e he
            rw [h1] at ex
            have e1 : L₁ = x := Option.some.inj ex
            have := (sim'.ws.fresh _ x hx).1
            rw [← e1, h2] at this; cases this
        · exact (sim.it x hF).2 ⟨r, q⟩
      · exact sim.fresh q (.inr hF)
  have adr : W'.adrs .tmp = [W'.ad .tmp, W'.dad .tmp] := by unfold Wd.adrs; rw [ht]
  obtain ⟨v1, g1, i1⟩ := getL_ent en (Str.ofString "codes") (sv := .lst ns) (by kernel_rfl)
  obtain ⟨v2, g2, i2⟩ := getL_ent en (Str.ofString "runs") (sv := .lst []) (by kernel_rfl)
  exact ⟨_, _, _, m, v1, v2, rfl, hx, hd, g1, g2, IsLst.imp kk i1, IsLst.imp kk i2, mt _ (by rw [adr]; simp), mt _ (by rw [adr]; simp)⟩
theorem Ev.newPiece {x : Str} {np pos : Pos} {e : Expr} {es : List Expr} {sc : Scope} (n : Nat) (hg : glbOk x 164 = true) (hs : c.cs = sc) (hk : sc.names.lookup x = some .globalImplicit) (hd : (x == Str.ofString "__debug__") = false) (hn : n + 1 ≤ c.n)
    (H : Ars c l W (spliced (backTo pos (starEach (e :: es) c.env))) fun as W₁ => W₁.ob .tmp = .absent ∧ ∃ ns, (∀ x dx, FS n (.ref 161) (.role .tmp :: as) (W₁.born .tmp x dx (.inst 164 [])) fun sv W₂ => sv = .none ∧ W₂.ob .tmp = .inst 164 [(Str.ofString "codes", .lst ns), (Str.ofString "runs", .lst [])] ∧ ∀ r, r ≠ .tmp → W₂.ob r = W₁.ob r) ∧ ∀ W₃ : Wd, W₃.ob = W₁.ob → C (.piece ns) W₃) (he : ∀ env, starEach (e :: es) env = (false, eval e env) :: starEach es env) (hp : ∀ env, (backTo pos (starEach es env)).any (·.1) = false)
    (hc : ∀ env, eval (.Call (.Name x np) (e :: es) [] pos) env = (do callWith pos (← eval (.Name x np) env) [] (backTo pos (starEach (e :: es) env)) (backToKw pos (keywordEach [] env)))) : Ev c l W (.Call (.Name x np) (e :: es) [] pos) C := by
  intro s h t Q E tr sim htr hQ
  subst htr
  refine Call_ ?_ (hc _)
  refine Ev.glb (C := fun sv W₁ => sv = .fn (.ref 164) ∧ W₁ = W) 164 hg hs hk hd ⟨rfl, rfl⟩ s h t _ E _ sim rfl fun v h' t' sv W' i sim' st ⟨e1, e2⟩ => ?_
  subst e1 e2
  cases i
  refine callWith_K (s := St s h' t') sim'.ok.X (sim'.ok.F.kp 164 (by kernel_rfl)) ?_ (he _) (hp _)
  refine H s h' t' _ E sim' fun vs h2 t2 as W2 is2 sim2 st2 ⟨hab, ns, hF, hC⟩ => ⟨sim2.K, ?_⟩
  exact Mine.newPiece sim2 hn is2 hab hF fun v h3 t3 W3 i3 sim3 st3 hob => hQ v h3 t3 _ W3 i3 sim3 ((st.trans st2).trans st3) (hC W3 hob)
/-! ### the ring's pieces are a new list -/
theorem putL_swap {F F' : Addr → Prop} {W' : Wd} {h h' : Heap} {name : Str} {hs : Int} {t : Tok} {v' : Value} {sv' : SV} : ∀ {es : List DictEntry} {A : List (Str × SV)}, EntAre F W h es A → A.lookup name = some sv' → sv'.is F' W' h' v' → (∀ p ∈ A, p.1 ≠ name → ∀ v, SV.is F W h p.2 v → SV.is F' W' h' p.2 v) → (A.map (·.1)).Nodup → EntAre F' W' h' (putL name hs (.str name t) v' es) A
  | _, _, .nil, hl, _, _, _ => by cases hl
  | _, _, @EntAre.cons _ _ _ hs0 y t0 v0 sv0 es A i r, hl, iv, f, nd => by
    unfold putL
    show EntAre F' W' h' (if (y == name) = true then _ else _) _
    have nd' := nd
    simp only [List.map_cons, List.nodup_cons] at nd'
    by_cases e : y = name
    · subst e
      rw [if_pos (by simp)]
      rw [List.lookup_cons, beq_self_eq_true] at hl
      cases hl
      refine .cons iv (r.core fun p hp v z => f p (.tail _ hp) (fun q => nd'.1 ?_) v z)
      exact List.mem_map.mpr ⟨p, hp, q⟩
    · rw [if_neg (by simpa using e)]
      rw [List.lookup_cons, show (name == y) = false by simpa using fun z => e z.symm] at hl
      exact .cons (f _ (.head _) e _ i) (putL_swap r hl iv (fun p hp q => f p (.tail _ hp) q) nd'.2)
theorem All2.impM {α β : Type} {R R' : α → β → Prop} : ∀ {as bs}, All2 R as bs → (∀ a ∈ as, ∀ b, R a b → R' a b) → All2 R' as bs
  | _, _, .nil, _ => .nil
  | _, _, .cons x r, f => .cons (f _ (.head _) _ x) (r.impM fun a h => f a (.tail _ h))
theorem intsNoRef {p : Addr} : ∀ {vs : List Value} {ns : List Int}, IntsAre vs ns → Value.ref p ∈ vs → False
  | _, _, .nil, h => by cases h
  | _, _, .cons n t r, h => by
    rcases List.mem_cons.mp h with h | h
    · cases h
    · exact intsNoRef r h
theorem Sx.setPcs {x : Str} {np pos' pos : Pos} {e : Expr} {D : Fl → Loc → Wd → Prop} {ringA : List (Str × SV)} (hm : (x, SV.role .ring) ∈ l) (hx : attOk 209 (Str.ofString "pieces") = true)
    (H : Nw c l W e fun sv W₁ => ∃ L L', sv = .pcl L ∧ W₁.ob .ring = .inst 209 ringA ∧ W₁.ob .pcs = .pieces L' ∧ (∀ r, r ≠ .ring → (W₁.ob r).noRole .pcs) ∧ ∀ W₂ : Wd, W₂.ob = (W₁.put .pcs (.pieces L)).ob → D .next l W₂)
    (hA : ringA.lookup (Str.ofString "pieces") = some (.role .pcs)) (hn : ∀ p ∈ ringA, p.1 ≠ Str.ofString "pieces" → p.2 ≠ .role .pcs) (hnd : (ringA.map (·.1)).Nodup) (hlen : ringA.length ≤ 30)
    (hsw : ∀ env, swapsWith e (some (.Attribute (.Name x np) (Str.ofString "pieces") pos')) pos.line env = pure false) : Sx c l W (.Assign [.Attribute (.Name x np) (Str.ofString "pieces") pos'] e pos) D := by
  intro s h t Q E sim hQ
  refine plainObj_wpAny_Assign_Attribute ?_ (hsw _)
  refine H s h t _ E sim fun a h₁ h₂ t₂ sv W₁ sim₁ kp ha iv st ⟨L, L', e1, ho, hpc, hno, hD⟩ => ?_
  subst e1
  have sim₂ := sim₁.keeps kp
  refine sim₂.name hm fun v i => ?_
  obtain ⟨rfl, _⟩ := i
  have Hr := sim₂.ws.holds .ring
  rw [ho] at Hr
  obtain ⟨hx1, es, n, hdd, en⟩ := Hr
  obtain ⟨k1, k2, k3, k4, k5⟩ := sim₂.ok.F.cls 209 (by rfl)
  have X := sim₂.K
  have I : InstAt h₂ (W₁.ad .ring) (instObj 209 (W₁.dad .ring)) 209 (some (dictOf es n)) := ⟨hx1, rfl, rfl, hdd⟩
  refine set_plain (s := St s h₂ t₂) X I k4 ?_
  have lenOk : (putL (Str.ofString "pieces") (PyData.keyHash c.w.params (Str.ofString "pieces")) (.str (Str.ofString "pieces") (t₂ + 1)) (.ref a) es).length ≤ 1000 := by
    have e1 := ent_len (putL_ent (name := Str.ofString "pieces") (hs := PyData.keyHash c.w.params (Str.ofString "pieces")) (t := t₂ + 1) en (sv := .any) (v := .ref a) trivial)
    have e2 := setA_len (Str.ofString "pieces") .any ringA
    omega
  refine osa_ex (s := St s h₂ (t₂ + 1)) X I k3 (by unfold takerIn; rw [sim₂.ok.F.att 209 _ hx]; rfl) k2 (getL_some en _) lenOk ?_
  let f := Obj.putName (Str.ofString "pieces") (PyData.keyHash c.w.params (Str.ofString "pieces")) (.str (Str.ofString "pieces") (t₂ + 1)) (.ref a)
  let W₂ : Wd := ⟨fun r => if r = .pcs then a else W₁.ad r, W₁.dad, (W₁.put .pcs (.pieces L)).ob⟩
  have o2 : ∀ r, r ≠ .pcs → W₂.ob r = W₁.ob r ∧ W₂.ad r = W₁.ad r ∧ W₂.adrs r = W₁.adrs r := fun r q => by
    have b1 : W₂.ob r = W₁.ob r := Wd.put_ne _ _ q
    have b2 : W₂.ad r = W₁.ad r := if_neg q
    exact ⟨b1, b2, by unfold Wd.adrs; rw [b1, b2]⟩
  have o3 : W₂.ob .pcs = .pieces L := by show (W₁.put .pcs (.pieces L)).ob .pcs = _; exact Wd.put_self _ _ _
  have o5 : W₂.ad .pcs = a := by show (if Role.pcs = Role.pcs then a else W₁.ad .pcs) = a; exact if_pos rfl
  have o4 : W₂.adrs .pcs = [a] := by unfold Wd.adrs; rw [o3, o5]
  have hadr : W₁.adrs .ring = [W₁.ad .ring, W₁.dad .ring] := by unfold Wd.adrs; rw [ho]
  have aM : ¬ W₁.Mut a := fun ⟨r, hr⟩ => by obtain ⟨o, e⟩ := sim₁.ws.live hr; rw [ha] at e; cases e
  have rM : W₁.Mut (W₁.dad .ring) := ⟨.ring, by rw [hadr]; simp⟩
  have hne : a ≠ W₁.dad .ring := fun z => aM (z ▸ rM)
  have hk' : ∀ b o, h₂.get? b = some o → b ≠ W₁.dad .ring → (h₂.update (W₁.dad .ring) f).get? b = some o := fun b o e q => by rw [Heap.get?_update_ne _ _ _ _ q]; exact e
  have hk₁ : ∀ b o, h₁.get? b = some o → b ≠ W₁.dad .ring → (h₂.update (W₁.dad .ring) f).get? b = some o := fun b o e q => hk' b o (kp b o e) q
  have hdn : (h₂.update (W₁.dad .ring) f).get? (W₁.dad .ring) = some (dictOf (putL (Str.ofString "pieces") (PyData.keyHash c.w.params (Str.ofString "pieces")) (.str (Str.ofString "pieces") (t₂ + 1)) (.ref a) es) (putN (Str.ofString "pieces") es n)) := by
    have := Heap.get?_update_self f hdd (by show (Obj.putName _ _ _ _ _).isFreed = false; rw [putName_dict]; rfl)
    rw [this]; show some (Obj.putName _ _ _ _ _) = _; rw [putName_dict]
  have nMut : ∀ x, W₂.Mut x → W₁.Mut x ∨ h₁.get? x = none := fun x ⟨r, hr⟩ => by
    by_cases q : r = .pcs
    · subst q; rw [o4] at hr; simp at hr; subst hr; exact .inr ha
    · rw [(o2 r q).2.2] at hr; exact .inl ⟨r, hr⟩
  have kk : ∀ b o, h₁.get? b = some o → ¬ W₁.P c.Fm b → (h₂.update (W₁.dad .ring) f).get? b = some o ∧ ¬ W₂.P c.Fm b := fun b o e mm => ⟨hk₁ b o e fun z => mm (.inl (z ▸ rM)), fun z => z.elim (fun y => (nMut b y).elim (fun q => mm (.inl q)) fun q => by rw [e] at q; cases q) fun y => mm (.inr y)⟩
  have hr : ∀ r, r ≠ .pcs → W₁.ob r ≠ .absent → W₂.ad r = W₁.ad r ∧ W₂.ob r ≠ .absent := fun r q mm => ⟨(o2 r q).2.1, by rw [(o2 r q).1]; exact mm⟩
  have hlive : ∀ b o, h₁.get? b = some o → ∃ o', (h₂.update (W₁.dad .ring) f).get? b = some o' := fun b o e => by
    by_cases q : b = W₁.dad .ring
    · subst q; exact ⟨_, hdn⟩
    · exact ⟨o, hk₁ b o e q⟩
  have stp : Stp Nil W₁ h₁ W₂ (h₂.update (W₁.dad .ring) f) := ⟨fun b o e mm _ => hk₁ b o e fun z => mm (z ▸ rM), nMut, hlive, fun r q mm => hr r q mm⟩
  have Hr₁ := sim₁.ws.holds .ring
  rw [ho] at Hr₁
  obtain ⟨hy1, es₁, n₁, hdd₁, en₁⟩ := Hr₁
  have ees : es₁ = es := by
    have := kp _ _ hdd₁
    rw [hdd] at this
    cases this; rfl
  subst ees
  obtain ⟨m₁, F₁, hl₁⟩ := sim₁.fr
  have Lne : c.L ≠ W₁.dad .ring := fun z => sim₁.ws.Lmut (z ▸ rM)
  have ws : WS c.w c.Fm c.g c.L (h₂.update (W₁.dad .ring) f) W₂ := by
    refine ⟨fun r => ?_, fun r b hb => ?_, fun r1 r2 hne' b hb => ?_, fun r => ?_⟩
    · by_cases q : r = .pcs
      · subst q
        rw [o3]
        obtain ⟨a', vs, n', e, q', j, mP⟩ := iv
        cases e
        refine ⟨vs, n', ?_, ?_⟩
        · show _ = _
          rw [o5]; exact hk' _ _ q' hne
        · refine j.impM fun v hv ns x => ?_
          obtain ⟨p, dp, es', n2, vc, vr, e1, q1, q2, g1, g2, l1, l2, m1, m2⟩ := x
          have k2 : ∀ b o, h₂.get? b = some o → ¬ W₁.P c.Fm b → b ≠ a → (h₂.update (W₁.dad .ring) f).get? b = some o ∧ ¬ W₂.P c.Fm b := fun b o e mm hb => ⟨hk' b o e fun z => mm (.inl (z ▸ rM)), fun z => z.elim (fun ⟨r, hr⟩ => by
            by_cases q : r = .pcs
            · subst q; rw [o4] at hr; simp at hr; exact hb hr
            · rw [(o2 r q).2.2] at hr; exact mm (.inl ⟨r, hr⟩)) fun y => mm (.inr y)⟩
          have nl : ∀ u ns, IsLst (W₁.P c.Fm) h₂ u ns → IsLst (W₂.P c.Fm) (h₂.update (W₁.dad .ring) f) u ns := fun u ns ⟨b, us, n3, e3, q3, j3, m3⟩ => by
            have hb : b ≠ a := by
              rintro rfl
              rw [q'] at q3
              have e4 : vs.toArray = us.toArray := by
                have := congrArg Obj.data (Option.some.inj q3)
                simp only [PySem.W.listOf] at this
                injection this
              have e5 : vs = us := by simpa using e4
              subst e5
              subst e1
              exact intsNoRef j3 hv
            exact ⟨b, us, n3, e3, (k2 b _ q3 m3 hb).1, j3, (k2 b _ q3 m3 hb).2⟩
          have n1 : p ≠ a := by rintro rfl; rw [q'] at q1; simp [PySem.W.listOf] at q1
          have n2 : dp ≠ a := by rintro rfl; rw [q'] at q2; simp [PySem.W.listOf, dictOf] at q2
          exact ⟨p, dp, es', _, vc, vr, e1, (k2 _ _ q1 m1 n1).1, (k2 _ _ q2 m2 n2).1, g1, g2, nl _ _ l1, nl _ _ l2, (k2 _ _ q1 m1 n1).2, (k2 _ _ q2 m2 n2).2⟩
      · rw [(o2 r q).1]
        by_cases q2 : r = .ring
        · subst q2
          rw [ho]
          refine ⟨?_, _, _, hdn, ?_⟩
          · rw [(o2 .ring q).2.1]; exact hk' _ _ hx1 fun z => by
              have := sim₁.ws.nodup .ring
              rw [hadr] at this
              simp at this; exact this z
          · refine putL_swap en₁ hA ⟨by rw [o5], by rw [o3]; intro z; cases z⟩ (fun p hp q3 v z => SV.is_core kk (fun r' q4 mm => hr r' (fun q5 => hn p hp q3 (by rw [q4, q5])) mm) z) hnd
        · refine SO.core kk hr (o2 r q).2.1 rfl (hno r q2) (fun b hb o e => hk₁ b o e fun z => ?_) (sim₁.ws.holds r)
          exact sim₁.ws.apart r .ring q2 b hb (by rw [hadr, z]; simp)
    · by_cases q : r = .pcs
      · subst q; rw [o4] at hb; simp at hb; subst hb
        refine ⟨?_, ?_⟩
        · cases e : c.g.get? b with
          | none => rfl
          | some o => have := F₁.keep _ _ e; rw [ha] at this; cases this
        · rintro rfl; obtain ⟨oL, _, _, e, _⟩ := F₁.ns; rw [ha] at e; cases e
      · rw [(o2 r q).2.2] at hb; exact sim₁.ws.fresh r b hb
    · by_cases q1 : r1 = .pcs
      · subst q1; rw [o4] at hb; simp at hb; subst hb
        rw [(o2 r2 (Ne.symm hne')).2.2]
        exact fun z => aM ⟨_, z⟩
      · rw [(o2 r1 q1).2.2] at hb
        by_cases q2 : r2 = .pcs
        · subst q2; rw [o4]; intro z; simp at z; subst z; exact aM ⟨_, hb⟩
        · rw [(o2 r2 q2).2.2]; exact sim₁.ws.apart r1 r2 hne' b hb
    · by_cases q : r = .pcs
      · subst q; rw [o4]; simp
      · rw [(o2 r q).2.2]; exact sim₁.ws.nodup r
  refine hQ .next _ (t₂ + 1 + 1) .next l W₂ rfl ⟨sim₁.ok, ⟨m₁, ⟨F₁.ns.at' fun o e => hk₁ _ o e Lne, fun b o e => hk₁ b o (F₁.keep b o e) fun z => ?_, F₁.above⟩, fun p hp => ?_⟩, ws, fun y hy => ?_⟩ (st.trans stp.nil) (hD W₂ rfl)
  · have := (sim₁.ws.fresh .ring b (by rw [hadr, z]; simp)).1
    have e' : c.g.get? b = some o := e
    rw [this] at e'; cases e'
  · obtain ⟨⟨v, e, i⟩, hst, rest⟩ := hl₁ p hp
    exact ⟨⟨v, e.imp kk, SV.is_core kk (fun r q mm => hr r (fun z => by rw [q, z] at hst; cases hst) mm) i⟩, hst, rest⟩
  · obtain ⟨⟨o, e⟩, mm⟩ := sim₁.it y hy
    exact ⟨hlive y o e, fun z => (nMut y z).elim mm fun q => by rw [e] at q; cases q⟩
end
section
variable {c : Gx} {l : Loc} {C : SV → Wd → Prop} {D : Wd → Prop} {ad dad : Role → Addr}
structure AS where
  cells : List Int
  gs : Int
  ge : Int
  p : Int
  zv : Int
  ro : Bool
  tk : Int
  ct : Int
  bm : Bool
  mx : Bool
  mb : Bool
  mp : Int
  rw : Bool
  kx : Bool
  ptr : Int
  R : List (List Int)
  bigs : List Int
  dcs : List Int
  dk : Int
noncomputable def bufA (x : AS) : List (Str × SV) := [(Str.ofString "number", .int 1), (Str.ofString "name", .str (Str.ofString "a")), (Str.ofString "text", .role .gap), (Str.ofString "markers", .role .marks), (Str.ofString "point", .int x.p), (Str.ofString "begv", .int 1), (Str.ofString "zv", .int x.zv), (Str.ofString "mark", (bif x.bm then .role .mark else .none)), (Str.ofString "is_live", .bool true), (Str.ofString "is_read_only", .bool x.ro), (Str.ofString "ticks", .int x.tk), (Str.ofString "codes_ticks", .int x.ct), (Str.ofString "saved_ticks", .int 1), (Str.ofString "listeners", .lst []), (Str.ofString "undo", .none), (Str.ofString "props", .none), (Str.ofString "overlays", .none), (Str.ofString "locals", .none), (Str.ofString "syntax", .none), (Str.ofString "file", .none)]
noncomputable def gapA (x : AS) : List (Str × SV) := [(Str.ofString "room", .int 8), (Str.ofString "cells", .role .cells), (Str.ofString "gap_start", .int x.gs), (Str.ofString "gap_end", .int x.ge)]
noncomputable def markA (x : AS) : List (Str × SV) := [(Str.ofString "number", .int 0), (Str.ofString "advances", .bool false), (Str.ofString "buffer", (bif x.mb then .role .buf else .none)), (Str.ofString "position", .int x.mp)]
noncomputable def ringA (x : AS) : List (Str × SV) := [(Str.ofString "most", .int 5), (Str.ofString "pieces", .role .pcs), (Str.ofString "pointer", .int x.ptr)]
noncomputable def obOf (x : AS) : Role → SO
  | .buf => .inst 692 (bufA x)
  | .gap => .inst 586 (gapA x)
  | .cells => .nums x.cells
  | .marks => .inst 375 [(Str.ofString "rows", .role .rows)]
  | .rows => .rows x.rw
  | .mrk => bif x.kx then .inst 403 [(Str.ofString "most", .int 3), (Str.ofString "markers", .lst []), (Str.ofString "last", .int 0)] else .absent
  | .mark => bif x.mx then .inst 307 (markA x) else .absent
  | .ring => .inst 209 (ringA x)
  | .pcs => .pieces x.R
  | .deck => .slist [.role .bigs, .lst x.dcs, .int x.dk]
  | .bigs => .nums x.bigs
  | .tmp => .absent
noncomputable def wd (ad dad : Role → Addr) (x : AS) : Wd := ⟨ad, dad, obOf x⟩
variable {x : AS}
theorem wd_put {r : Role} {so : SO} {x' : AS} (h1 : obOf x' r = so) (h2 : ∀ r', r' ≠ r → obOf x' r' = obOf x r') : (wd ad dad x).put r so = wd ad dad x' := by
  have : (fun r' => if r' = r then so else obOf x r') = obOf x' := by
    funext r'
    by_cases e : r' = r
    · subst e; rw [if_pos rfl, h1]
    · rw [if_neg e, h2 r' e]
  show (⟨ad, dad, fun r' => if r' = r then so else obOf x r'⟩ : Wd) = ⟨ad, dad, obOf x'⟩
  rw [this]
theorem ob_mark (h : x.mx = true) : (wd ad dad x).ob .mark = .inst 307 (markA x) := by show obOf x .mark = _; unfold obOf; rw [h]; rfl
theorem Get.buf_is_read_only (hC : C (.bool x.ro) (wd ad dad x)) : Get c l (wd ad dad x) (.role .buf) (Str.ofString "is_read_only") C := Get.role (A := bufA x) rfl (sv := .bool x.ro) (by kernel_rfl) (by rfl) (by kernel_rfl) (by rfl) hC
theorem Get.buf_name (hC : C (.str (Str.ofString "a")) (wd ad dad x)) : Get c l (wd ad dad x) (.role .buf) (Str.ofString "name") C := Get.role (A := bufA x) rfl (sv := .str (Str.ofString "a")) (by kernel_rfl) (by rfl) (by kernel_rfl) (by rfl) hC
theorem Get.buf_begv (hC : C (.int 1) (wd ad dad x)) : Get c l (wd ad dad x) (.role .buf) (Str.ofString "begv") C := Get.role (A := bufA x) rfl (sv := .int 1) (by kernel_rfl) (by rfl) (by kernel_rfl) (by rfl) hC
theorem Get.buf_zv (hC : C (.int x.zv) (wd ad dad x)) : Get c l (wd ad dad x) (.role .buf) (Str.ofString "zv") C := Get.role (A := bufA x) rfl (sv := .int x.zv) (by kernel_rfl) (by rfl) (by kernel_rfl) (by rfl) hC
theorem Get.buf_listeners (hC : C (.lst []) (wd ad dad x)) : Get c l (wd ad dad x) (.role .buf) (Str.ofString "listeners") C := Get.role (A := bufA x) rfl (sv := .lst []) (by kernel_rfl) (by rfl) (by kernel_rfl) (by rfl) hC
theorem Get.buf_undo (hC : C (.none) (wd ad dad x)) : Get c l (wd ad dad x) (.role .buf) (Str.ofString "undo") C := Get.role (A := bufA x) rfl (sv := .none) (by kernel_rfl) (by rfl) (by kernel_rfl) (by rfl) hC
theorem Get.buf_text (hC : C (.role .gap) (wd ad dad x)) : Get c l (wd ad dad x) (.role .buf) (Str.ofString "text") C := Get.role (A := bufA x) rfl (sv := .role .gap) (by kernel_rfl) (by rfl) (by kernel_rfl) (by rfl) hC
theorem Get.buf_point (hC : C (.int x.p) (wd ad dad x)) : Get c l (wd ad dad x) (.role .buf) (Str.ofString "point") C := Get.role (A := bufA x) rfl (sv := .int x.p) (by kernel_rfl) (by rfl) (by kernel_rfl) (by rfl) hC
theorem Get.buf_props (hC : C (.none) (wd ad dad x)) : Get c l (wd ad dad x) (.role .buf) (Str.ofString "props") C := Get.role (A := bufA x) rfl (sv := .none) (by kernel_rfl) (by rfl) (by kernel_rfl) (by rfl) hC
theorem Get.buf_overlays (hC : C (.none) (wd ad dad x)) : Get c l (wd ad dad x) (.role .buf) (Str.ofString "overlays") C := Get.role (A := bufA x) rfl (sv := .none) (by kernel_rfl) (by rfl) (by kernel_rfl) (by rfl) hC
theorem Get.buf_markers (hC : C (.role .marks) (wd ad dad x)) : Get c l (wd ad dad x) (.role .buf) (Str.ofString "markers") C := Get.role (A := bufA x) rfl (sv := .role .marks) (by kernel_rfl) (by rfl) (by kernel_rfl) (by rfl) hC
theorem Get.buf_ticks (hC : C (.int x.tk) (wd ad dad x)) : Get c l (wd ad dad x) (.role .buf) (Str.ofString "ticks") C := Get.role (A := bufA x) rfl (sv := .int x.tk) (by kernel_rfl) (by rfl) (by kernel_rfl) (by rfl) hC
theorem Get.gap_room (hC : C (.int 8) (wd ad dad x)) : Get c l (wd ad dad x) (.role .gap) (Str.ofString "room") C := Get.role (A := gapA x) rfl (sv := .int 8) (by kernel_rfl) (by rfl) (by kernel_rfl) (by rfl) hC
theorem Get.gap_cells (hC : C (.role .cells) (wd ad dad x)) : Get c l (wd ad dad x) (.role .gap) (Str.ofString "cells") C := Get.role (A := gapA x) rfl (sv := .role .cells) (by kernel_rfl) (by rfl) (by kernel_rfl) (by rfl) hC
theorem Get.gap_gap_start (hC : C (.int x.gs) (wd ad dad x)) : Get c l (wd ad dad x) (.role .gap) (Str.ofString "gap_start") C := Get.role (A := gapA x) rfl (sv := .int x.gs) (by kernel_rfl) (by rfl) (by kernel_rfl) (by rfl) hC
theorem Get.gap_gap_end (hC : C (.int x.ge) (wd ad dad x)) : Get c l (wd ad dad x) (.role .gap) (Str.ofString "gap_end") C := Get.role (A := gapA x) rfl (sv := .int x.ge) (by kernel_rfl) (by rfl) (by kernel_rfl) (by rfl) hC
theorem Get.mark_number (h : x.mx = true) (hC : C (.int 0) (wd ad dad x)) : Get c l (wd ad dad x) (.role .mark) (Str.ofString "number") C := Get.role (ob_mark h) (sv := .int 0) (by kernel_rfl) (by rfl) (by kernel_rfl) (by rfl) hC
theorem Get.mark_advances (h : x.mx = true) (hC : C (.bool false) (wd ad dad x)) : Get c l (wd ad dad x) (.role .mark) (Str.ofString "advances") C := Get.role (ob_mark h) (sv := .bool false) (by kernel_rfl) (by rfl) (by kernel_rfl) (by rfl) hC
theorem Get.mark_position (h : x.mx = true) (hC : C (.int x.mp) (wd ad dad x)) : Get c l (wd ad dad x) (.role .mark) (Str.ofString "position") C := Get.role (ob_mark h) (sv := .int x.mp) (by kernel_rfl) (by rfl) (by kernel_rfl) (by rfl) hC
theorem Get.ring_pieces (hC : C (.role .pcs) (wd ad dad x)) : Get c l (wd ad dad x) (.role .ring) (Str.ofString "pieces") C := Get.role (A := ringA x) rfl (sv := .role .pcs) (by kernel_rfl) (by rfl) (by kernel_rfl) (by rfl) hC
theorem Get.ring_most (hC : C (.int 5) (wd ad dad x)) : Get c l (wd ad dad x) (.role .ring) (Str.ofString "most") C := Get.role (A := ringA x) rfl (sv := .int 5) (by kernel_rfl) (by rfl) (by kernel_rfl) (by rfl) hC
theorem Get.ring_pointer (hC : C (.int x.ptr) (wd ad dad x)) : Get c l (wd ad dad x) (.role .ring) (Str.ofString "pointer") C := Get.role (A := ringA x) rfl (sv := .int x.ptr) (by kernel_rfl) (by rfl) (by kernel_rfl) (by rfl) hC
theorem Get.buf_mark0 (h : x.bm = false) (hC : C .none (wd ad dad x)) : Get c l (wd ad dad x) (.role .buf) (Str.ofString "mark") C := Get.role (A := bufA x) rfl (sv := .none) (by unfold bufA; rw [h]; kernel_rfl) (by rfl) (by kernel_rfl) (by rfl) hC
theorem Get.buf_mark1 (h : x.bm = true) (hC : C (.role .mark) (wd ad dad x)) : Get c l (wd ad dad x) (.role .buf) (Str.ofString "mark") C := Get.role (A := bufA x) rfl (sv := .role .mark) (by unfold bufA; rw [h]; kernel_rfl) (by rfl) (by kernel_rfl) (by rfl) hC
theorem Get.mark_buffer0 (h0 : x.mx = true) (h : x.mb = false) (hC : C .none (wd ad dad x)) : Get c l (wd ad dad x) (.role .mark) (Str.ofString "buffer") C := Get.role (ob_mark h0) (sv := .none) (by unfold markA; rw [h]; kernel_rfl) (by rfl) (by kernel_rfl) (by rfl) hC
theorem Get.mark_buffer1 (h0 : x.mx = true) (h : x.mb = true) (hC : C (.role .buf) (wd ad dad x)) : Get c l (wd ad dad x) (.role .mark) (Str.ofString "buffer") C := Get.role (ob_mark h0) (sv := .role .buf) (by unfold markA; rw [h]; kernel_rfl) (by rfl) (by kernel_rfl) (by rfl) hC
theorem Get.marks_rows (hC : C (.role .rows) (wd ad dad x)) : Get c l (wd ad dad x) (.role .marks) (Str.ofString "rows") C := Get.role (A := [(Str.ofString "rows", .role .rows)]) rfl (sv := .role .rows) (by kernel_rfl) (by rfl) (by kernel_rfl) (by rfl) hC
theorem SetA.buf_zv {i : Int} (hD : D (wd ad dad { x with zv := i })) : SetA c l (wd ad dad x) (.role .buf) (Str.ofString "zv") (.int i) D := SetA.role (A := bufA x) rfl (by rfl) (by kernel_rfl) (Nat.le_of_ble_eq_true rfl) (by rw [wd_put (x' := { x with zv := i }) (by kernel_rfl) (fun r' e => by cases r' <;> first | rfl | exact absurd rfl e)]; exact hD)
theorem SetA.buf_point {i : Int} (hD : D (wd ad dad { x with p := i })) : SetA c l (wd ad dad x) (.role .buf) (Str.ofString "point") (.int i) D := SetA.role (A := bufA x) rfl (by rfl) (by kernel_rfl) (Nat.le_of_ble_eq_true rfl) (by rw [wd_put (x' := { x with p := i }) (by kernel_rfl) (fun r' e => by cases r' <;> first | rfl | exact absurd rfl e)]; exact hD)
theorem SetA.buf_is_read_only {b : Bool} (hD : D (wd ad dad { x with ro := b })) : SetA c l (wd ad dad x) (.role .buf) (Str.ofString "is_read_only") (.bool b) D := SetA.role (A := bufA x) rfl (by rfl) (by kernel_rfl) (Nat.le_of_ble_eq_true rfl) (by rw [wd_put (x' := { x with ro := b }) (by kernel_rfl) (fun r' e => by cases r' <;> first | rfl | exact absurd rfl e)]; exact hD)
theorem SetA.buf_ticks {i : Int} (hD : D (wd ad dad { x with tk := i })) : SetA c l (wd ad dad x) (.role .buf) (Str.ofString "ticks") (.int i) D := SetA.role (A := bufA x) rfl (by rfl) (by kernel_rfl) (Nat.le_of_ble_eq_true rfl) (by rw [wd_put (x' := { x with tk := i }) (by kernel_rfl) (fun r' e => by cases r' <;> first | rfl | exact absurd rfl e)]; exact hD)
theorem SetA.buf_codes_ticks {i : Int} (hD : D (wd ad dad { x with ct := i })) : SetA c l (wd ad dad x) (.role .buf) (Str.ofString "codes_ticks") (.int i) D := SetA.role (A := bufA x) rfl (by rfl) (by kernel_rfl) (Nat.le_of_ble_eq_true rfl) (by rw [wd_put (x' := { x with ct := i }) (by kernel_rfl) (fun r' e => by cases r' <;> first | rfl | exact absurd rfl e)]; exact hD)
theorem SetA.buf_mark  (hD : D (wd ad dad { x with bm := true })) : SetA c l (wd ad dad x) (.role .buf) (Str.ofString "mark") (.role .mark) D := SetA.role (A := bufA x) rfl (by rfl) (by kernel_rfl) (Nat.le_of_ble_eq_true rfl) (by rw [wd_put (x' := { x with bm := true }) (by kernel_rfl) (fun r' e => by cases r' <;> first | rfl | exact absurd rfl e)]; exact hD)
theorem SetA.gap_gap_start {i : Int} (hD : D (wd ad dad { x with gs := i })) : SetA c l (wd ad dad x) (.role .gap) (Str.ofString "gap_start") (.int i) D := SetA.role (A := gapA x) rfl (by rfl) (by kernel_rfl) (Nat.le_of_ble_eq_true rfl) (by rw [wd_put (x' := { x with gs := i }) (by kernel_rfl) (fun r' e => by cases r' <;> first | rfl | exact absurd rfl e)]; exact hD)
theorem SetA.gap_gap_end {i : Int} (hD : D (wd ad dad { x with ge := i })) : SetA c l (wd ad dad x) (.role .gap) (Str.ofString "gap_end") (.int i) D := SetA.role (A := gapA x) rfl (by rfl) (by kernel_rfl) (Nat.le_of_ble_eq_true rfl) (by rw [wd_put (x' := { x with ge := i }) (by kernel_rfl) (fun r' e => by cases r' <;> first | rfl | exact absurd rfl e)]; exact hD)
theorem SetA.mark_position {i : Int} (h : x.mx = true) (hD : D (wd ad dad { x with mp := i })) : SetA c l (wd ad dad x) (.role .mark) (Str.ofString "position") (.int i) D := SetA.role (ob_mark h) (by rfl) (by kernel_rfl) (Nat.le_of_ble_eq_true rfl) (by rw [wd_put (x' := { x with mp := i }) (by show obOf _ .mark = _; unfold obOf; dsimp only; rw [h]; kernel_rfl) (fun r' e => by cases r' <;> first | rfl | exact absurd rfl e)]; exact hD)
theorem SetA.mark_buffer  (h : x.mx = true) (hD : D (wd ad dad { x with mb := true })) : SetA c l (wd ad dad x) (.role .mark) (Str.ofString "buffer") (.role .buf) D := SetA.role (ob_mark h) (by rfl) (by kernel_rfl) (Nat.le_of_ble_eq_true rfl) (by rw [wd_put (x' := { x with mb := true }) (by show obOf _ .mark = _; unfold obOf; dsimp only; rw [h]; kernel_rfl) (fun r' e => by cases r' <;> first | rfl | exact absurd rfl e)]; exact hD)
theorem SetA.ring_pointer {i : Int} (hD : D (wd ad dad { x with ptr := i })) : SetA c l (wd ad dad x) (.role .ring) (Str.ofString "pointer") (.int i) D := SetA.role (A := ringA x) rfl (by rfl) (by kernel_rfl) (Nat.le_of_ble_eq_true rfl) (by rw [wd_put (x' := { x with ptr := i }) (by kernel_rfl) (fun r' e => by cases r' <;> first | rfl | exact absurd rfl e)]; exact hD)
end
section
variable {c : Gx} {l : Loc} {W : Wd} {C : SV → Wd → Prop} {D : Fl → Loc → Wd → Prop}
theorem Nx.next {rest : List Stmt} (h : Ex c l W rest D) : Nx c rest D .next l W := h
theorem Nx.ret {rest : List Stmt} {sv : SV} (h : D (.ret sv) l W) : Nx c rest D (.ret sv) l W := h
theorem Done.next (h : C .none W) : Done C .next l W := h
theorem Done.ret {sv : SV} (h : C sv W) : Done C (.ret sv) l W := h
theorem FS.mono {k n : Nat} {f : Value} {as : List SV} (hk : k ≤ n) (h : FS k f as W C) : FS n f as W C := fun c s hh t R vs hn => h c s hh t R vs (Nat.le_trans hk hn)
theorem Part.some {e : Expr} {D : Pt → Wd → Prop} (H : Ev c l W e fun sv W₁ => ∃ i, sv = .int i ∧ D (.num i) W₁) : Part c l W (.some e) D := H
theorem Part.none {D : Pt → Wd → Prop} (H : D .no W) : Part c l W Option.none D := H
theorem Sim.fewer {h : Heap} {l' : Loc} (sim : Sim c h l W) (hl : ∀ p ∈ l', p ∈ l) : Sim c h l' W := by
  obtain ⟨ok, ⟨m, F, h⟩, ws, it⟩ := sim
  exact ⟨ok, ⟨m, F, fun p hp => h p (hl p hp)⟩, ws, it⟩
theorem mem_new {x : Str} {sv : SV} (hnew : (l.all fun p => !(p.1 == x)) = true) : ∀ p ∈ (x, sv) :: l, p ∈ setL x sv l := fun p hp => by
  rcases List.mem_cons.mp hp with rfl | hp
  · exact .head _
  · exact .tail _ (List.mem_filter.mpr ⟨hp, List.all_eq_true.mp hnew p hp⟩)
theorem mem_old {x : Str} {sv : SV} (k : Nat) (hnew : ((l.eraseIdx k).all fun p => !(p.1 == x)) = true) : ∀ p ∈ (x, sv) :: l.eraseIdx k, p ∈ setL x sv l := fun p hp => by
  rcases List.mem_cons.mp hp with rfl | hp
  · exact .head _
  · exact .tail _ (List.mem_filter.mpr ⟨List.mem_of_mem_eraseIdx hp, List.all_eq_true.mp hnew p hp⟩)
theorem Sx.assignNew {x : Str} {pos' pos : Pos} {e : Expr} {sc : Scope} (hs : c.cs = sc) (hk : sc.names.lookup x = some .local) (hd : (x == Str.ofString "__debug__") = false) (hnew : (l.all fun p => !(p.1 == x)) = true)
    (H : Ev c l W e fun sv W₁ => sv.stable = true ∧ D .next ((x, sv) :: l) W₁) (hsw : ∀ env, swapsWith e (some (.Name x pos')) pos.line env = pure false) : Sx c l W (.Assign [.Name x pos'] e pos) D := by
  intro s h t Q E sim hQ
  refine wpAny_Assign_Name ?_ (hsw _)
  refine H s h t _ E _ sim rfl fun v h' t' sv W' i sim' st ⟨hst, hD⟩ => ?_
  exact sim'.store i hst (by rw [hs]; exact hk) hd fun h2 t2 sim2 st2 => hQ .next h2 t2 .next _ W' rfl (sim2.fewer (mem_new hnew)) (st.trans st2) hD
theorem Sx.assignOld {x : Str} {pos' pos : Pos} {e : Expr} {sc : Scope} (k : Nat) (hs : c.cs = sc) (hk : sc.names.lookup x = some .local) (hd : (x == Str.ofString "__debug__") = false) (hnew : ((l.eraseIdx k).all fun p => !(p.1 == x)) = true)
    (H : Ev c l W e fun sv W₁ => sv.stable = true ∧ D .next ((x, sv) :: l.eraseIdx k) W₁) (hsw : ∀ env, swapsWith e (some (.Name x pos')) pos.line env = pure false) : Sx c l W (.Assign [.Name x pos'] e pos) D := by
  intro s h t Q E sim hQ
  refine wpAny_Assign_Name ?_ (hsw _)
  refine H s h t _ E _ sim rfl fun v h' t' sv W' i sim' st ⟨hst, hD⟩ => ?_
  exact sim'.store i hst (by rw [hs]; exact hk) hd fun h2 t2 sim2 st2 => hQ .next h2 t2 .next _ W' rfl (sim2.fewer (mem_old k hnew)) (st.trans st2) hD
theorem len0 {vs : List Value} (h : vs.length = 0) : vs = [] := List.eq_nil_of_length_eq_zero h
theorem lenA {α : Type} {vs : List α} {n : Nat} (h : vs.length = n + 1) : ∃ a r, vs = a :: r ∧ r.length = n := by
  cases vs with
  | nil => cases h
  | cons a r => exact ⟨a, r, rfl, Nat.succ.inj h⟩
theorem lenS {vs : List Value} {n : Nat} (h : vs.length = n + 1) : ∃ a r, vs = a :: r ∧ r.length = n := lenA h
theorem len1 {vs : List Value} (h : vs.length = 1) : ∃ a, vs = [a] := by obtain ⟨a, r, rfl, h2⟩ := lenS h; cases (len0 h2); exact ⟨a, rfl⟩
theorem len2 {vs : List Value} (h : vs.length = 2) : ∃ a b, vs = [a, b] := by obtain ⟨a, r, rfl, h2⟩ := lenS h; obtain ⟨b, rfl⟩ := len1 h2; exact ⟨a, b, rfl⟩
theorem len3 {vs : List Value} (h : vs.length = 3) : ∃ a b c, vs = [a, b, c] := by obtain ⟨a, r, rfl, h2⟩ := lenS h; obtain ⟨b, c, rfl⟩ := len2 h2; exact ⟨a, b, c, rfl⟩
theorem len4 {vs : List Value} (h : vs.length = 4) : ∃ a b c d, vs = [a, b, c, d] := by obtain ⟨a, r, rfl, h2⟩ := lenS h; obtain ⟨b, c, d, rfl⟩ := len3 h2; exact ⟨a, b, c, d, rfl⟩
theorem len5 {vs : List Value} (h : vs.length = 5) : ∃ a b c d e, vs = [a, b, c, d, e] := by obtain ⟨a, r, rfl, h2⟩ := lenS h; obtain ⟨b, c, d, e, rfl⟩ := len4 h2; exact ⟨a, b, c, d, e, rfl⟩
theorem len6 {vs : List Value} (h : vs.length = 6) : ∃ a b c d e f, vs = [a, b, c, d, e, f] := by obtain ⟨a, r, rfl, h2⟩ := lenS h; obtain ⟨b, c, d, e, f, rfl⟩ := len5 h2; exact ⟨a, b, c, d, e, f, rfl⟩
theorem Ev.callG {x : Str} {np pos : Pos} {e : Expr} {es : List Expr} {sc : Scope} (f : Addr) (hg : glbOk x f = true) (hkp : kpOk f = true) (hs : c.cs = sc) (hk : sc.names.lookup x = some .globalImplicit) (hd : (x == Str.ofString "__debug__") = false)
    (H : Ars c l W (spliced (backTo pos (starEach (e :: es) c.env))) fun as W₁ => FS c.n (.ref f) as W₁ C) (he : ∀ env, starEach (e :: es) env = (false, eval e env) :: starEach es env) (hp : ∀ env, (backTo pos (starEach es env)).any (·.1) = false)
    (hc : ∀ env, eval (.Call (.Name x np) (e :: es) [] pos) env = (do callWith pos (← eval (.Name x np) env) [] (backTo pos (starEach (e :: es) env)) (backToKw pos (keywordEach [] env)))) : Ev c l W (.Call (.Name x np) (e :: es) [] pos) C := Ev.call c.n f hg hkp hs hk hd (Nat.le_refl _) H he hp hc
/-- which method is called -/
noncomputable def Mth (W : Wd) (ov : SV) (x : Str) (P : Role → Addr → Prop) : Prop := ∃ r f Cl A, ov = .role r ∧ r ≠ .pcs ∧ kpOk f = true ∧ W.ob r = .inst Cl A ∧ A.lookup x = Option.none ∧ isCls Cl = true ∧ mthOk Cl x f = true ∧ P r f
theorem Ev.methG {o e : Expr} {es : List Expr} {x : Str} {ap pos : Pos}
    (H : Ev c l W o fun ov W₁ => Mth W₁ ov x fun r f => Ars c l W₁ (spliced (backTo pos (starEach (e :: es) c.env))) fun as W₂ => FS c.n (.ref f) (.role r :: as) W₂ C)
    (he : ∀ env, starEach (e :: es) env = (false, eval e env) :: starEach es env) (hp : ∀ env, (backTo pos (starEach es env)).any (·.1) = false)
    (hc : ∀ env : Env, eval (.Call (.Attribute o x ap) (e :: es) [] pos) env = (do
      let ov ← eval o env
      standAt ap.atName
      let (f, first) ← holding [ov] (getMethod ov x (do return (← importBound o env).getD true))
      callWith pos f first (backTo pos (starEach (e :: es) env)) [])) : Ev c l W (.Call (.Attribute o x ap) (e :: es) [] pos) C := by
  intro s h t Q E tr sim htr hQ
  subst htr
  refine MethodCall_ ?_ (hc _)
  refine H s h t _ E _ sim rfl fun v h' t' sv W' i sim' st ⟨r, f, Cl, A, e1, hr, hkp, a1, a2, a3, a4, H'⟩ => ?_
  subst e1
  have i' := i
  obtain ⟨rfl, i2⟩ := i
  refine getM sim' a1 a2 a3 a4 ?_
  refine callWith_K (s := St s h' t') sim'.ok.X (sim'.ok.F.kp f hkp) ?_ (he _) (hp _)
  refine H' s h' t' _ E sim' fun vs h2 t2 as W2 is2 sim2 st2 hF => ⟨sim2.K, ?_⟩
  have st1 : SV.stable (.role r) = true := by cases r <;> first | rfl | exact absurd rfl hr
  exact hF.at (Nat.le_refl _) sim2 (.cons (SV.is_stp c.XF st2 st1 i') is2) fun v h3 t3 sv W3 i3 sim3 st3 hC => hQ v h3 t3 sv W3 i3 sim3 ((st.trans st2).trans st3) hC
theorem Ev.meth0G {o : Expr} {x : Str} {ap pos : Pos}
    (H : Ev c l W o fun ov W₁ => Mth W₁ ov x fun r f => FS c.n (.ref f) [.role r] W₁ C)
    (hc : ∀ env : Env, eval (.Call (.Attribute o x ap) [] [] pos) env = (do
      let ov ← eval o env
      standAt ap.atName
      let (f, first) ← holding [ov] (getMethod ov x (do return (← importBound o env).getD true))
      callWith pos f first (backTo pos (starEach [] env)) [])) : Ev c l W (.Call (.Attribute o x ap) [] [] pos) C := by
  intro s h t Q E tr sim htr hQ
  subst htr
  refine MethodCall_ ?_ (hc _)
  refine H s h t _ E _ sim rfl fun v h' t' sv W' i sim' st ⟨r, f, Cl, A, e1, hr, hkp, a1, a2, a3, a4, hF⟩ => ?_
  subst e1
  have i' := i
  obtain ⟨rfl, i2⟩ := i
  refine getM sim' a1 a2 a3 a4 ?_
  refine callWith_K0 (s := St s h' t') sim'.K (sim'.ok.F.kp f hkp) ?_
  exact hF.at (Nat.le_refl _) sim' (.cons i' .nil) fun v h3 t3 sv W3 i3 sim3 st3 hC => hQ v h3 t3 sv W3 i3 sim3 (st.trans st3) hC
variable {ad dad : Role → Addr} {x : AS} {nm : Str} {P : Role → Addr → Prop}
theorem Mth.gap (f : Addr) (hm : mthOk 586 nm f = true) (hk : kpOk f = true) (hl : (gapA x).lookup nm = Option.none) (H : P .gap f) : Mth (wd ad dad x) (.role .gap) nm P := ⟨.gap, f, 586, gapA x, rfl, (by intro z; cases z), hk, rfl, hl, rfl, hm, H⟩
theorem Mth.buf (f : Addr) (hm : mthOk 692 nm f = true) (hk : kpOk f = true) (hl : (bufA x).lookup nm = Option.none) (H : P .buf f) : Mth (wd ad dad x) (.role .buf) nm P := ⟨.buf, f, 692, bufA x, rfl, (by intro z; cases z), hk, rfl, hl, rfl, hm, H⟩
theorem Mth.marks (f : Addr) (hm : mthOk 375 nm f = true) (hk : kpOk f = true) (hl : ([(Str.ofString "rows", SV.role .rows)] : List (Str × SV)).lookup nm = Option.none) (H : P .marks f) : Mth (wd ad dad x) (.role .marks) nm P := ⟨.marks, f, 375, _, rfl, (by intro z; cases z), hk, rfl, hl, rfl, hm, H⟩
end
section
variable {c : Gx} {l : Loc} {W : Wd} {C : SV → Wd → Prop}
theorem intsPerm1 {ns : List Int} {i : Int} (h : ns.Perm [i]) : ns = [i] := List.perm_singleton.mp h
/-- the rows' numbers in order -/
theorem BC.sorted {r : Role} {b : Bool} (ho : W.ob r = .rows b) (hC : C (.lst (if b then [0] else [])) W) : BC c l W "sorted" [.role r] C := by
  intro s h t Q E vs sim ha hQ
  obtain ⟨v, rfl, i⟩ := ha.one
  obtain ⟨rfl, _⟩ := i
  have H := sim.ws.holds r
  rw [ho] at H
  obtain ⟨hd, hm, lo⟩ := H
  obtain ⟨ep, hat⟩ := hd.dictAt
  refine PySem.Calls.call_function_entry kind_sorted plain_sorted entry_sorted (args_sorted1 _) ?_
  unfold Builtin.«sorted»
  refine wpAny_bind (m := checkCount "sorted" 1 1 _) (wpAny_pure ?_)
  refine wpAny_bind (kdu_collect (A := c.A.in1) (kdl_dict (knd := intKind prg c.w) (ep := ep) lo) sim.ok.hd hat (by cases b <;> simp [sizeLine_eq]) fun h' tk acc hk hacc => ?_)
  have hl : acc.toList.length = (if b = true then [((0 : Int), Value.ref (W.ad .mark))] else []).length := by rw [Array.length_toList]; exact hacc.1
  have hI : IntsAre acc.toList (if b then [0] else []) := by
    cases b with
    | false =>
      have : acc.toList = [] := List.eq_nil_of_length_eq_zero hl
      rw [this]; exact .nil
    | true =>
      match e : acc.toList, hl with
      | [v], _ =>
        obtain ⟨k, x, hx, hk'⟩ := hacc.2 0 v (by rw [← Array.getElem?_toList, e]; rfl)
        simp at hx
        obtain ⟨rfl, rfl⟩ := hx
        obtain ⟨t, rfl⟩ := Value.isInt_shape hk'
        exact .cons _ _ .nil
  have h64 : acc.toList.length < 64 := by rw [hl]; cases b <;> simp
  refine wpAny_bind (wpAny_newList ?_ (by rw [sizeLine_eq]; (clear hm hl; omega)))
  have ho' : (h'.push { cls := .type "list", data := .seq acc.toList.toArray }).get? h'.objs.size = some (seqObj "list" acc.toList.toArray 0) := Heap.get?_push_size _ rfl
  refine wpAny_bind (wpAny_holding ?_)
  refine wpAny_call_entry slot_list_sort ⟨_, ho', rfl⟩ entry_list_sort (list_sort_tree (n := 0) (vs := acc.toList) ho' hI h64 fun out ns' j1 j2 j3 => ⟨.none, rfl, ?_⟩) (args_list_sort _)
  refine wpAny_pure ⟨_, rfl, ?_⟩
  generalize hh1 : h'.push { cls := .type "list", data := .seq acc.toList.toArray } = h1 at ho'
  generalize ha1 : h'.objs.size = a at ho'
  have fin : ∃ n', (sortedHeap h1 a acc.toList out).get? a = some (PySem.W.listOf (List.toArray out.toList) n') := by
    unfold sortedHeap
    obtain ⟨e1, q1⟩ : ∃ e1, (h1.update a (Obj.mapSeq fun _ => #[])).get? a = some (seqObj "list" #[] e1) := ⟨_, get?_update_seq ho' (fun _ => #[])⟩
    have q2 := Heap.get?_push_of_some (seqObj "list" #[] 0) (Heap.get?_push_of_some (seqObj "tuple" acc.toList.toArray 0) q1)
    exact ⟨_, by rw [get?_update_seq q2 (fun _ => out)]⟩
  have kp : ∀ b o, h.get? b = some o → (sortedHeap h1 a acc.toList out).get? b = some o := fun b o e => by
    have e1 : h1.get? b = some o := hh1 ▸ push_keep _ _ (hk b o e)
    have ne : b ≠ a := by rw [← ha1]; exact Nat.ne_of_lt (Heap.lt_size (hk b o e))
    unfold sortedHeap
    rw [Heap.get?_update_ne _ _ _ _ ne]
    refine Heap.get?_push_of_some _ (Heap.get?_push_of_some _ ?_)
    rw [Heap.get?_update_ne _ _ _ _ ne]
    exact e1
  obtain ⟨n', fin⟩ := fin
  have hn : h.get? a = Option.none := by
    cases e : h.get? a with
    | none => rfl
    | some o => have := Heap.lt_size (hk a o e); rw [ha1] at this; exact absurd this (Nat.lt_irrefl _)
  have e9 : ns' = (if b then [0] else []) := by
    cases b with
    | true => exact intsPerm1 j2
    | false => exact List.perm_nil.mp j2
  subst e9
  exact hQ _ _ tk (.lst _) W (sim.newLst (vs := out.toList) (n := n') hn fin j1) (sim.keeps kp) (Stp.ofKeeps kp).nil hC
end
section
variable {c : Gx} {l : Loc} {W : Wd} {C : SV → Wd → Prop} {D : Fl → Loc → Wd → Prop}
theorem Itr.lst0 : Itr (.lst []) [] := Itr.lst (ns := [])
theorem Itr.lst1 {i : Int} : Itr (.lst [i]) [.int i] := Itr.lst (ns := [i])
theorem Itr.trips0 : Itr (.trips []) [] := Itr.trips (L := [])
theorem Itr.trips1 {a b : Int} : Itr (.trips [(a, b)]) [.trip a b] := Itr.trips (L := [(a, b)])
theorem Sx.for0 {tg iter : Expr} {body : List Stmt} {pos : Pos} (H : Ev c l W iter fun sv W₁ => Itr sv [] ∧ D .next l W₁) (hs : ∀ env x, foldedSetIterable iter env x = pure x) : Sx c l W (.For tg iter body [] pos) D := by
  refine Sx.for_ (fun _ l' W' => D .next l' W') ?_ hs
  intro s h t Q E tr sim htr hQ
  refine H s h t Q E tr sim htr fun v h' t' sv W' i sim' st ⟨k, hD⟩ => hQ v h' t' sv W' i sim' st ⟨[], k, by simp, hD, fun c' i sv' _ _ e => by simp at e, fun l' W' h => h⟩
noncomputable def Lp1 (D : Fl → Loc → Wd → Prop) (f : Fl) (l : Loc) (W : Wd) : Prop := match f with
  | .ret sv => D (.ret sv) l W
  | _ => D .next l W
theorem Lp1.next (h : D .next l W) : Lp1 D .next l W := h
theorem TF.imp {tr : Sem Flow} {D' : Fl → Loc → Wd → Prop} (H : TF c l W tr D) (f : ∀ fl l W, D fl l W → D' fl l W) : TF c l W tr D' := fun s h t Q E sim hQ => H s h t Q E sim fun f' h' t' fl l' W' a b cc d => hQ f' h' t' fl l' W' a b cc (f _ _ _ d)
theorem As1.imp {m : Value → Sem Unit} {sv : SV} {D D' : Loc → Wd → Prop} (H : As1 c l W m sv D) (f : ∀ l W, D l W → D' l W) : As1 c l W m sv D' := fun s h t Q E v sim i hQ => H s h t Q E v sim i fun h' t' l' W' a b d => hQ h' t' l' W' a b (f _ _ d)
theorem Sx.for1 {tg iter : Expr} {body : List Stmt} {pos : Pos} (sv' : SV) (H : Ev c l W iter fun sv W₁ => Itr sv [sv'] ∧ ∀ c' : Gx, c'.n = c.n → c'.cs = c.cs → As1 c' l W₁ (PySem.assign tg c'.env) sv' fun l₂ W₂ => Ex c' l₂ W₂ body (Lp1 D)) (hs : ∀ env x, foldedSetIterable iter env x = pure x) : Sx c l W (.For tg iter body [] pos) D := by
  refine Sx.for_ (fun i l' W' => match i with | 0 => (∀ c' : Gx, c'.n = c.n → c'.cs = c.cs → As1 c' l' W' (PySem.assign tg c'.env) sv' fun l₂ W₂ => Ex c' l₂ W₂ body (Lp1 D)) | _ => D .next l' W') ?_ hs
  intro s h t Q E tr sim htr hQ
  refine H s h t Q E tr sim htr fun v h' t' sv W' i sim' st ⟨k, hD⟩ => hQ v h' t' sv W' i sim' st ⟨[sv'], k, by simp, hD, fun c' i sv2 e1 e2 e l' W' hJ => ?_, fun l' W' h => h⟩
  cases i with
  | zero =>
    simp at e
    subst e
    refine (hJ c' e1 e2).imp fun l₂ W₂ hE => TF.imp hE fun fl l₃ W₃ hL => ?_
    cases fl <;> exact hL
  | succ i => simp at e
theorem As1.nameNew {x : Str} {pos : Pos} {sv : SV} {sc : Scope} {D : Loc → Wd → Prop} (hs : c.cs = sc) (hk : sc.names.lookup x = some .local) (hd : (x == Str.ofString "__debug__") = false) (hnew : (l.all fun p => !(p.1 == x)) = true) (hst : sv.stable = true) (H : D ((x, sv) :: l) W) : As1 c l W (assign (.Name x pos) c.env) sv D := by
  intro s h t Q E v sim i hQ
  exact assign_Name (sim.store i hst (by rw [hs]; exact hk) hd fun h2 t2 sim2 st2 => hQ h2 t2 _ W (sim2.fewer (mem_new hnew)) st2 H)
/-- some names are let go -/
theorem Ex.forget {b : List Stmt} (l' : Loc) (hl : ∀ p ∈ l', p ∈ l) (H : Ex c l' W b D) : Ex c l W b D := fun s h t Q E sim hQ => H s h t Q E (sim.fewer hl) hQ
theorem As1.bindNew {x : Str} {sv : SV} {sc : Scope} {D : Loc → Wd → Prop} (hs : c.cs = sc) (hk : sc.names.lookup x = some .local) (hd : (x == Str.ofString "__debug__") = false) (hnew : (l.all fun p => !(p.1 == x)) = true) (hst : sv.stable = true) (H : D ((x, sv) :: l) W) : As1 c l W (bindName c.env x) sv D := by
  intro s h t Q E v sim i hQ
  exact bindName_ (sim.store i hst (by rw [hs]; exact hk) hd fun h2 t2 sim2 st2 => hQ h2 t2 _ W (sim2.fewer (mem_new hnew)) st2 H)
theorem Sx.swap2 {es : List Expr} {k k' : Nat} {tp ep pos p1 p2 : Pos} {sc : Scope} {x y : Str} (hs : c.cs = sc) (hk : sc.names.lookup x = some .local) (hk2 : sc.names.lookup y = some .local) (hd : (x == Str.ofString "__debug__") = false) (hd2 : (y == Str.ofString "__debug__") = false) (hn : (l.all fun p => !(p.1 == x)) = true) (hn2 : (l.all fun p => !(p.1 == y)) = true) (hxy : (y == x) = false)
    (H : Ars c l W (spliced (backTo ep (starEach es c.env))) fun svs W₁ => ∃ a b, svs = [a, b] ∧ a.stable = true ∧ b.stable = true ∧ D .next ((x, a) :: (y, b) :: l) W₁)
    (hsw : ∀ env, swapsWithSole [.Tuple [.Name x p1, .Name y p2] k tp] (.Tuple es k' ep) pos.line env = pure false) (hw : ∀ c : Gx, c.cs = sc → swappedStores [.Tuple [.Name x p1, .Name y p2] k tp] (.Tuple es k' ep) c.env = pure (some [x, y])) : Sx c l W (.Assign [.Tuple [.Name x p1, .Name y p2] k tp] (.Tuple es k' ep) pos) D := by
  refine Sx.swap (names := [x, y]) ?_ (by simp) hsw (hw c hs)
  intro s h t Q E sim hQ
  refine H s h t Q E sim fun vs h' t' svs W' a sim' st ⟨p, q, e, s1, s2, hD⟩ => hQ vs h' t' svs W' a sim' st ?_
  subst e
  refine ⟨by simp [s1, s2], rfl, ?_⟩
  refine Aio.cons (ms := [bindName c.env x]) (svs := [p]) (by simp [s1]) (As1.bindNew hs hk2 hd2 hn2 s2 ?_)
  exact Aio.cons (by simp) (As1.bindNew hs hk hd (by rw [List.all_cons, hn, Bool.and_true]; simp only; rw [hxy]; rfl) s1 (Aio.nil hD))
theorem Sx.swap3 {es : List Expr} {k k' : Nat} {tp ep pos p1 p2 p3 : Pos} {sc : Scope} {x y z : Str} (hs : c.cs = sc) (hk : sc.names.lookup x = some .local) (hk2 : sc.names.lookup y = some .local) (hk3 : sc.names.lookup z = some .local) (hd : (x == Str.ofString "__debug__") = false) (hd2 : (y == Str.ofString "__debug__") = false) (hd3 : (z == Str.ofString "__debug__") = false) (hn : (l.all fun p => !(p.1 == x)) = true) (hn2 : (l.all fun p => !(p.1 == y)) = true) (hn3 : (l.all fun p => !(p.1 == z)) = true) (hxy : (y == x) = false) (hzx : (z == x) = false) (hzy : (z == y) = false)
    (H : Ars c l W (spliced (backTo ep (starEach es c.env))) fun svs W₁ => ∃ a b d, svs = [a, b, d] ∧ a.stable = true ∧ b.stable = true ∧ d.stable = true ∧ D .next ((x, a) :: (y, b) :: (z, d) :: l) W₁)
    (hsw : ∀ env, swapsWithSole [.Tuple [.Name x p1, .Name y p2, .Name z p3] k tp] (.Tuple es k' ep) pos.line env = pure false) (hw : ∀ c : Gx, c.cs = sc → swappedStores [.Tuple [.Name x p1, .Name y p2, .Name z p3] k tp] (.Tuple es k' ep) c.env = pure (some [x, y, z])) : Sx c l W (.Assign [.Tuple [.Name x p1, .Name y p2, .Name z p3] k tp] (.Tuple es k' ep) pos) D := by
  refine Sx.swap (names := [x, y, z]) ?_ (by simp) hsw (hw c hs)
  intro s h t Q E sim hQ
  refine H s h t Q E sim fun vs h' t' svs W' a sim' st ⟨p, q, r, e, s1, s2, s3, hD⟩ => hQ vs h' t' svs W' a sim' st ?_
  subst e
  refine ⟨by simp [s1, s2, s3], rfl, ?_⟩
  refine Aio.cons (ms := [bindName c.env y, bindName c.env x]) (svs := [q, p]) (by simp [s1, s2]) (As1.bindNew hs hk3 hd3 hn3 s3 ?_)
  refine Aio.cons (ms := [bindName c.env x]) (svs := [p]) (by simp [s1]) (As1.bindNew hs hk2 hd2 (by rw [List.all_cons, hn2, Bool.and_true]; simp only; rw [hzy]; rfl) s2 ?_)
  exact Aio.cons (by simp) (As1.bindNew hs hk hd (by rw [List.all_cons, List.all_cons, hn, Bool.and_true]; simp only; rw [hxy, hzx]; rfl) s1 (Aio.nil hD))
/-- a pair's parts into two names -/
theorem Sx.unpack2 {x y : Str} {p1 p2 : Pos} {k : Nat} {tp pos : Pos} {e : Expr} {sc : Scope} (hs : c.cs = sc) (hk : sc.names.lookup x = some .local) (hk2 : sc.names.lookup y = some .local) (hd : (x == Str.ofString "__debug__") = false) (hd2 : (y == Str.ofString "__debug__") = false) (hn : (l.all fun p => !(p.1 == x)) = true) (hn2 : (l.all fun p => !(p.1 == y)) = true) (hxy : (x == y) = false)
    (H : Ev c l W e fun sv W₁ => ∃ a b, sv = .ipair a b ∧ D .next ((y, .int b) :: (x, .int a) :: l) W₁)
    (hs' : ∀ env, swapsWithSole [.Tuple [.Name x p1, .Name y p2] k tp] e pos.line env = pure false) (hw : ∀ env, swappedStores [.Tuple [.Name x p1, .Name y p2] k tp] e env = pure none) : Sx c l W (.Assign [.Tuple [.Name x p1, .Name y p2] k tp] e pos) D := by
  refine Sx.unpack ?_ hs' hw
  intro s h t Q E tr sim htr hQ
  refine H s h t Q E tr sim htr fun v h' t' sv W' i sim' st ⟨a, b, e1, hD⟩ => hQ v h' t' sv W' i sim' st ?_
  subst e1
  refine As1.tup .ipair (fun _ => rfl) (fun _ => rfl) ?_
  refine Aio.cons (ms := [PySem.assign (.Name y p2) c.env]) (svs := [.int b]) rfl (As1.nameNew hs hk hd hn rfl ?_)
  exact Aio.cons rfl (As1.nameNew hs hk2 hd2 (by rw [List.all_cons, hn2, Bool.and_true]; simp only; rw [hxy]; rfl) rfl (Aio.nil hD))
theorem Is.or {es : List Expr} {pos : Pos} {D : Bool → Wd → Prop} (H : TB c l W (isTrue (.BoolOp .Or es pos) c.env (eval (.BoolOp .Or es pos) c.env)) D) : Is c l W (.BoolOp .Or es pos) D := H
theorem Is.and {es : List Expr} {pos : Pos} {D : Bool → Wd → Prop} (H : TB c l W (isTrue (.BoolOp .And es pos) c.env (eval (.BoolOp .And es pos) c.env)) D) : Is c l W (.BoolOp .And es pos) D := H
theorem Cmp.isN0 {C : SV → Wd → Prop} (hC : C (.bool true) W) : Cmp c l W .Is .none .none C := Cmp.isNone rfl hC
theorem Cmp.isNrole {r : Role} {C : SV → Wd → Prop} (hC : C (.bool false) W) : Cmp c l W .Is (.role r) .none C := Cmp.isNone rfl hC
theorem Cmp.isNlol {L : List (List Int)} {C : SV → Wd → Prop} (hC : C (.bool false) W) : Cmp c l W .Is (.lol L) .none C := Cmp.isNone rfl hC
theorem Cmp.notN0 {C : SV → Wd → Prop} (hC : C (.bool false) W) : Cmp c l W .IsNot .none .none C := Cmp.notNone rfl hC
theorem Cmp.notNrole {r : Role} {C : SV → Wd → Prop} (hC : C (.bool true) W) : Cmp c l W .IsNot (.role r) .none C := Cmp.notNone rfl hC
/-- an item -/
noncomputable def ItemG (W₁ W₂ : Wd) (o iv : SV) (C : SV → Wd → Prop) : Prop :=
  ((o.stable = true ∨ ((∃ r, o = .role r) ∧ W₂ = W₁)) ∧ ∃ k n f, iv = .int k ∧ Itm W₂ o n f ∧ 0 ≤ k ∧ k < n ∧ n ≤ 1000000 ∧ C (f k.toNat) W₂) ∨ (o = .role .rows ∧ iv = .int 0 ∧ W₂.ob .rows = .rows true ∧ C (.role .mark) W₂)
theorem Ev.itemG {C : SV → Wd → Prop} {v i : Expr} {pos : Pos} (H : Ev c l W v fun o W₁ => Ev c l W₁ i fun iv W₂ => ItemG W₁ W₂ o iv C)
    (hs : ∀ o iv, ∃ vs, subscripted i false o iv = operate vs (getItem o iv)) : Ev c l W (.Subscript v i pos) C := by
  intro s h t Q E tr sim htr hQ
  subst htr
  refine Subscript_ ?_
  refine H s h t _ E _ sim rfl fun ov h' t' o W' io sim' st H' => ?_
  refine H' s h' t' _ E _ sim' rfl fun iv h2 t2 isv W2 ii sim2 st2 HG => ?_
  rcases HG with ⟨sto, k, n, f, e, kk, h0, hk, hz, hC⟩ | ⟨e1, e, ho, hC⟩
  · subst e
    obtain ⟨tk, rfl⟩ := ii
    have io2 := Keep.is sto st2 io
    obtain ⟨a, vs, m, rfl, q, hl, hf⟩ := kk.at sim2 io2
    refine tail_b (s := St s h2 t2) (isList_of q).typeIs list_getitem_lookup ?_ (hs _ _)
    have hlt : k.toNat < vs.length := by (clear sto hz; omega)
    refine wpAny_getItem_list (s := St s h2 t2) (x := vs[k.toNat]) (isList_of q) h0 (by have : (2:Int) ^ 63 = 9223372036854775808 := rfl; (clear sto h0 hl hlt this; omega)) (by simp [hlt]) ?_
    exact hQ _ h2 t2 _ W2 (hf _ _ (List.getElem?_eq_getElem hlt)) sim2 (st.trans st2) hC
  · subst e1 e
    obtain ⟨tk, rfl⟩ := ii
    obtain ⟨rfl, _⟩ := SV.is_stp c.XF st2 rfl io
    have H := sim2.ws.holds .rows
    rw [ho] at H
    obtain ⟨hd, hm, _⟩ := H
    refine tail_b (s := St s h2 t2) (T := "dict") hd.mapOf.typeIs slot_dict_getitem.lookup ?_ (hs _ _)
    refine wpAny_getItem_of (s := St s h2 t2) (k := (0 : Int)) (by simp [intKind, Value.isInt]) hd.mapOf (v := .ref (W2.ad .mark)) (by simp [valueAt]) ?_
    exact hQ _ h2 (t2 + 1) (.role .mark) W2 ⟨rfl, hm rfl⟩ sim2 (st.trans st2) hC
section
variable {ad dad : Role → Addr} {x : AS} {C : SV → Wd → Prop}
theorem ItemG.rows (h : x.rw = true) (hC : C (.role .mark) (wd ad dad x)) : ItemG (wd ad dad x) (wd ad dad x) (.role .rows) (.int 0) C := .inr ⟨rfl, rfl, by show SO.rows x.rw = _; rw [h], hC⟩
theorem ItemG.pcs {k : Int} (h0 : 0 ≤ k) (h1 : k < x.R.length) (hz : x.R.length ≤ 1000000) (hC : C (.piece (x.R.getD k.toNat [])) (wd ad dad x)) : ItemG (wd ad dad x) (wd ad dad x) (.role .pcs) (.int k) C := .inl ⟨.inr ⟨⟨_, rfl⟩, rfl⟩, k, _, _, rfl, .pieces rfl, h0, h1, hz, hC⟩
theorem ItemG.lst {W : Wd} {k : Int} {ns : List Int} (h0 : 0 ≤ k) (h1 : k < ns.length) (hz : ns.length ≤ 1000000) (hC : C (.int (ns.getD k.toNat 0)) W) : ItemG W W (.lst ns) (.int k) C := .inl ⟨.inl rfl, k, _, _, rfl, .nums .lst, h0, h1, hz, hC⟩
theorem ItemG.lol {W : Wd} {k : Int} {L : List (List Int)} (h0 : 0 ≤ k) (h1 : k < L.length) (hz : L.length ≤ 1000000) (hC : C (.lst (L.getD k.toNat [])) W) : ItemG W W (.lol L) (.int k) C := .inl ⟨.inl rfl, k, _, _, rfl, .lol, h0, h1, hz, hC⟩
theorem ItemG.bigs {k : Int} (h0 : 0 ≤ k) (h1 : k < x.bigs.length) (hz : x.bigs.length ≤ 1000000) (hC : C (.int (x.bigs.getD k.toNat 0)) (wd ad dad x)) : ItemG (wd ad dad x) (wd ad dad x) (.role .bigs) (.int k) C := .inl ⟨.inl rfl, k, _, _, rfl, .nums (.role rfl), h0, h1, hz, hC⟩
theorem ItemG.deck0 (hC : C (.role .bigs) (wd ad dad x)) : ItemG (wd ad dad x) (wd ad dad x) (.role .deck) (.int 0) C := .inl ⟨.inl rfl, 0, _, _, rfl, .slist rfl, by decide, by simp, by simp, hC⟩
theorem ItemG.deck1 (hC : C (.lst x.dcs) (wd ad dad x)) : ItemG (wd ad dad x) (wd ad dad x) (.role .deck) (.int 1) C := .inl ⟨.inl rfl, 1, _, _, rfl, .slist rfl, by decide, by simp, by simp, hC⟩
theorem ItemG.deck2 (hC : C (.int x.dk) (wd ad dad x)) : ItemG (wd ad dad x) (wd ad dad x) (.role .deck) (.int 2) C := .inl ⟨.inl rfl, 2, _, _, rfl, .slist rfl, by decide, by simp, by simp, hC⟩
/-! what is set in a list -/
theorem SetI.put_marks (hx : x.mx = true) {D : Wd → Prop} (hD : D (wd ad dad { x with rw := true })) : SetI c l (wd ad dad x) .rows 0 (.role .mark) D := SetI.rows (b := x.rw) rfl (by show obOf x .mark ≠ _; unfold obOf; rw [hx]; intro z; cases z) (by rw [wd_put (r := .rows) (so := .rows true) (x' := { x with rw := true }) rfl (fun r' e => by cases r' <;> first | rfl | exact absurd rfl e)]; exact hD)
theorem SetI.put_pcs {k : Int} {ns : List Int} (h0 : 0 ≤ k) (h1 : k < x.R.length) (hz : x.R.length ≤ 1000000) {D : Wd → Prop} (hD : D (wd ad dad { x with R := x.R.set k.toNat ns })) : SetI c l (wd ad dad x) .pcs k (.piece ns) D := SetI.pieces (L := x.R) rfl h0 h1 hz (by rw [wd_put (r := .pcs) (so := .pieces (x.R.set k.toNat ns)) (x' := { x with R := x.R.set k.toNat ns }) rfl (fun r' e => by cases r' <;> first | rfl | exact absurd rfl e)]; exact hD)
theorem SetI.put_bigs {k i : Int} (h0 : 0 ≤ k) (h1 : k < x.bigs.length) (hz : x.bigs.length ≤ 1000000) {D : Wd → Prop} (hD : D (wd ad dad { x with bigs := x.bigs.set k.toNat i })) : SetI c l (wd ad dad x) .bigs k (.int i) D := SetI.nums (ns := x.bigs) rfl h0 h1 hz (by rw [wd_put (r := .bigs) (so := .nums (x.bigs.set k.toNat i)) (x' := { x with bigs := x.bigs.set k.toNat i }) rfl (fun r' e => by cases r' <;> first | rfl | exact absurd rfl e)]; exact hD)
theorem SetI.put_dk {i : Int} {D : Wd → Prop} (hD : D (wd ad dad { x with dk := i })) : SetI c l (wd ad dad x) .deck 2 (.int i) D := SetI.slist (xs := [.role .bigs, .lst x.dcs, .int x.dk]) rfl (by decide) (by simp) (by simp) (by rw [wd_put (r := .deck) (so := .slist ([.role .bigs, .lst x.dcs, .int x.dk].set (Int.toNat 2) (.int i))) (x' := { x with dk := i }) rfl (fun r' e => by cases r' <;> first | rfl | exact absurd rfl e)]; exact hD)
end
end
section
variable {c : Gx} {l : Loc} {W : Wd} {C : SV → Wd → Prop}
theorem Wd.put_put (W : Wd) (r : Role) (a b : SO) : (W.put r a).put r b = W.put r b := by
  show (⟨W.ad, W.dad, fun r' => if r' = r then b else if r' = r then a else W.ob r'⟩ : Wd) = ⟨W.ad, W.dad, fun r' => if r' = r then b else W.ob r'⟩
  congr 1
  funext r'
  by_cases e : r' = r
  · rw [if_pos e, if_pos e]
  · rw [if_neg e, if_neg e, if_neg e]
theorem Wd.born_put (W : Wd) (r : Role) (x dx : Addr) (a b : SO) : (W.born r x dx a).put r b = W.born r x dx b := by
  show (⟨_, _, fun r' => if r' = r then b else if r' = r then a else W.ob r'⟩ : Wd) = ⟨_, _, fun r' => if r' = r then b else W.ob r'⟩
  congr 1
  funext r'
  by_cases e : r' = r
  · rw [if_pos e, if_pos e]
  · rw [if_neg e, if_neg e, if_neg e]
theorem wd_born {ad dad : Role → Addr} {x x' : AS} {r : Role} {a d : Addr} {so : SO} (h1 : obOf x' r = so) (h2 : ∀ r', r' ≠ r → obOf x' r' = obOf x r') : (wd ad dad x).born r a d so = wd (fun r' => if r' = r then a else ad r') (fun r' => if r' = r then d else dad r') x' := by
  show (⟨_, _, fun r' => if r' = r then so else obOf x r'⟩ : Wd) = ⟨_, _, obOf x'⟩
  congr 1
  funext r'
  by_cases e : r' = r
  · subst e; rw [if_pos rfl, h1]
  · rw [if_neg e, h2 r' e]
theorem SetA.put {r : Role} {y : Str} {sv : SV} {Cl : Addr} {A A' : List (Str × SV)} {D : Wd → Prop} (hC : isCls Cl = true) (hx : attOk Cl y = true) (hlen : A.length ≤ 30) (hA : setA y sv A = A') (hD : D (W.put r (.inst Cl A'))) : SetA c l (W.put r (.inst Cl A)) (.role r) y sv D :=
  SetA.role (Wd.put_self _ _ _) hC hx hlen (by rw [Wd.put_put, hA]; exact hD)
theorem Ev.own {pos : Pos} {sc : Scope} (hs : c.cs = sc) (hk : sc.names.lookup (Str.ofString "OWN_NUMBER") = some .globalImplicit) (hC : C (.int 0) W) : Ev c l W (.Name (Str.ofString "OWN_NUMBER") pos) C := by
  intro s h t Q E tr sim htr hQ
  subst htr
  obtain ⟨m, F, hl⟩ := sim.fr
  obtain ⟨p, loose, mean, mg, mb, T⟩ := sim.ok.T
  obtain ⟨tk, ho⟩ := sim.ok.F.own
  exact nameX_K (s := St s h t) F sim.ok.X (topRead_of T) ho (hQ _ h t _ W iInt sim (.refl _ _ _) hC) sim.ok.kf (by show c.cs.names.lookup _ = _; rw [hs]; exact hk) (by decide)
end
section
theorem bindL_at {kd : Str → Option NameKind} {x : Str} {v : Value} (hk : kd x = some .local) : ∀ {binds : List (Str × Value)} {m : Str → Option Value}, (binds.map (·.1)).Nodup → ((x, v) ∈ binds ∨ (x ∉ binds.map (·.1) ∧ m x = some v)) → bindL kd binds m x = some v
  | [], m, _, h => by
    rcases h with h | ⟨_, h⟩
    · cases h
    · exact h
  | (n, u) :: r, m, nd, h => by
    unfold bindL
    simp only [List.map_cons, List.nodup_cons] at nd
    refine bindL_at hk nd.2 ?_
    rcases h with h | ⟨h1, h2⟩
    · rcases List.mem_cons.mp h with h | h
      · cases h
        exact .inr ⟨nd.1, by rw [if_pos hk, if_pos rfl]⟩
      · exact .inl h
    · simp only [List.map_cons, List.mem_cons, not_or] at h1
      refine .inr ⟨h1.2, ?_⟩
      split
      · show (if x = n then some u else m x) = _; rw [if_neg h1.1]; exact h2
      · exact h2
theorem bindC_at {kd : Str → Option NameKind} {x : Str} {v : Value} (hk : kd x ≠ some .local) : ∀ {binds : List (Str × Value)} {m : Str → Option Value}, (binds.map (·.1)).Nodup → ((x, v) ∈ binds ∨ (x ∉ binds.map (·.1) ∧ m x = some v)) → bindC kd binds m x = some v
  | [], m, _, h => by
    rcases h with h | ⟨_, h⟩
    · cases h
    · exact h
  | (n, u) :: r, m, nd, h => by
    unfold bindC
    simp only [List.map_cons, List.nodup_cons] at nd
    refine bindC_at hk nd.2 ?_
    rcases h with h | ⟨h1, h2⟩
    · rcases List.mem_cons.mp h with h | h
      · cases h
        exact .inr ⟨nd.1, by rw [if_neg hk, if_pos rfl]⟩
      · exact .inl h
    · simp only [List.map_cons, List.mem_cons, not_or] at h1
      refine .inr ⟨h1.2, ?_⟩
      split
      · exact h2
      · show (if x = n then some u else m x) = _; rw [if_neg h1.1]; exact h2
theorem lookup_mem {α : Type} {x : Str} {a : α} : ∀ {l : List (Str × α)}, l.lookup x = some a → (x, a) ∈ l
  | [], h => by cases h
  | (y, b) :: r, h => by
    rw [List.lookup_cons] at h
    by_cases e : x = y
    · subst e
      rw [beq_self_eq_true] at h
      cases h; exact .head _
    · rw [show (x == y) = false by simpa using e] at h
      exact .tail _ (lookup_mem h)
noncomputable def fnOkC (names : List Str) (scope : Scope) : Bool :=
  decide names.Nodup && names.all (fun y => (decide (scope.names.lookup y = some .local) || decide (scope.names.lookup y = some .cell)) && !(y == Str.ofString "__debug__")) && !scope.isCoroutine && !scope.isGenerator && decide (scope.kind = .function)
theorem zip_mem {R : SV → Value → Prop} : ∀ {names : List Str} {args : List SV} {vs : List Value}, All2 R args vs → ∀ p ∈ names.zip args, ∃ v, (p.1, v) ∈ names.zip vs ∧ R p.2 v
  | [], _, _, _, p, hp => by simp at hp
  | x :: xs, _, _, .nil, p, hp => by simp at hp
  | x :: xs, _, _, .cons (b := b) h1 h2, p, hp => by
    simp only [List.zip_cons_cons, List.mem_cons] at hp ⊢
    rcases hp with rfl | hp
    · exact ⟨b, .inl rfl, h1⟩
    · obtain ⟨v, hv, hr⟩ := zip_mem h2 p hp
      exact ⟨v, .inr hv, hr⟩
theorem zip_nodup : ∀ {names : List Str} {vs : List Value}, names.Nodup → ((names.zip vs).map (·.1)).Nodup
  | [], vs, _ => by simp
  | x :: xs, [], _ => by simp
  | x :: xs, v :: vs, hn => by
    simp only [List.zip_cons_cons, List.map_cons, List.nodup_cons]
    refine ⟨fun hm => ?_, zip_nodup (List.nodup_cons.mp hn).2⟩
    obtain ⟨q, hq, e⟩ := List.mem_map.mp hm
    have h3 := (List.of_mem_zip hq).1
    rw [e] at h3
    exact (List.nodup_cons.mp hn).1 h3
section
variable {c : Gx} {n : Nat} {f : Addr} {q : String} {scope : Scope} {h : Heap} {W : Wd} {l : Loc}
theorem calleeNewP {cl : List (Str × Addr)} (sim : Sim c h l W) {a : Addr} (ha : h.objs.size < a) : ¬ W.P (c.callee n f q scope h W cl).Fm a := fun z => by
  rcases z with z | z
  · exact absurd (sim.ws.memlt z) (Nat.not_lt.mpr (Nat.le_of_lt ha))
  · by_cases q : a = h.objs.size
    · subst q; exact Nat.lt_irrefl _ ha
    · have : c.Fm a := by
        rcases z with ⟨e, he, ex⟩ | y
        · rcases List.mem_cons.mp he with rfl | he
          · exact absurd (Option.some.inj ex).symm q
          · exact .inl ⟨e, he, ex⟩
        · exact .inr y
      obtain ⟨o, e⟩ := sim.live (.inr this)
      exact absurd (Heap.lt_size e) (Nat.not_lt.mpr (Nat.le_of_lt ha))
/-- the names of a def with cells, as the call lays them -/
theorem calleeLoc {args : List SV} {vs : List Value} {s₀ s₁ : Shared} {l₂ : Loc} {cl : List (Str × Addr)} (hcl : cl = cellsFrom (h.objs.size + 1) scope.names []) (sim : Sim c h l W) (ha : All2 (SV.is c.Fm W h) args vs) (hal : args = l₂.map (·.2)) (hst : l₂.all (fun p => p.2.stable) = true) (hn : (l₂.map (·.1)).Nodup)
    (hnames : ∀ y ∈ l₂.map (·.1), (scope.names.lookup y = some .local ∨ scope.names.lookup y = some .cell) ∧ (y == Str.ofString "__debug__") = false)
    (XC : InCallC s₀ h.objs.size (bindL (fun y => scope.names.lookup y) ((l₂.map (·.1)).zip vs) fun _ => none) cl (bindC (fun y => scope.names.lookup y) ((l₂.map (·.1)).zip vs) fun _ => none) s₁) :
    ∀ p ∈ l₂, (∃ v, LocAt scope cl (W.P (c.callee n f q scope h W cl).Fm) s₁.heap (bindL (fun y => scope.names.lookup y) ((l₂.map (·.1)).zip vs) fun _ => none) p.1 v ∧ SV.is c.Fm W h p.2 v) ∧ p.2.stable = true ∧ (p.1 == Str.ofString "__debug__") = false := fun pr hpr => by
  have hq := hpr
  rw [← zip_self hal] at hq
  have hm := List.of_mem_zip (show (pr.1, pr.2) ∈ _ from hq)
  obtain ⟨v, hv, i⟩ := zip_mem ha pr hq
  refine ⟨⟨v, ?_, i⟩, List.all_eq_true.mp hst _ hpr, (hnames _ hm.1).2⟩
  rcases (hnames _ hm.1).1 with e | e
  · exact .inl ⟨bindL_at e (zip_nodup hn) (.inl hv), e⟩
  · refine .inr ⟨e, ?_⟩
    have hs := cellsFrom_some scope.names (h.objs.size + 1) [] (x := pr.1) (.inl e)
    rw [← hcl] at hs
    obtain ⟨a, ea⟩ := Option.isSome_iff_exists.mp hs
    obtain ⟨o, eo, ed⟩ := XC.cell pr.1 a ea
    rw [bindC_at (by rw [e]; intro z; cases z) (zip_nodup hn) (.inl hv)] at ed
    exact ⟨a, o, ea, eo, ed, calleeNewP sim (XC.above pr.1 a (lookup_mem ea))⟩
end
theorem FS.enterC0 {n : Nat} {f : Addr} {args : List SV} {W : Wd} {C : SV → Wd → Prop} {q : String} {name : Str} {params : Arguments} {body : List Stmt} {scope : Scope}
    (hF : ∀ K, KF K → FnIs K f q name params body scope []) (l : Loc) (hal : args = l.map (·.2))
    (hb : ∀ (doc pm ct : Value) (an : Option Addr) (vs : List Value), vs.length = args.length → bindArgs (fnOf name (Str.ofString q) params body scope .none .none doc pm an (.ref (f - 1)) ct) ⟨vs, []⟩ = pure ((l.map (·.1)).zip vs))
    (hst : l.all (fun p => p.2.stable) = true) (hok : fnOkC (l.map (·.1)) scope = true)
    (H : ∀ (c c' : Gx) (s : Shared) (h h₁ : Heap) (t : Nat) (Q : Flow → Shared → Prop) (E : Value → Shared → Prop) m, c'.n = n → c'.cs = scope → n + 1 ≤ c.n → Sim c h [] W → c' = c.callee n f q scope h W c'.cl → Sim c' h₁ l W → (∀ b o, h.get? b = some o → h₁.get? b = some o) → h₁.Ns c'.L m →
      (∀ p ∈ l, (∃ v, LocAt scope c'.cl (W.P c'.Fm) h₁ m p.1 v ∧ SV.is c.Fm W h p.2 v) ∧ p.2.stable = true ∧ (p.1 == Str.ofString "__debug__") = false) →
      (∀ x, scope.names.lookup x = some .cell → ∃ a w, c'.cl.lookup x = some a ∧ h₁.IsCell a w ∧ h.objs.size < a) →
      (∀ fl h₂ h' t' fl' l' W', (∀ b o, h.get? b = some o → h₂.get? b = some o) → Fl.is c'.Fm W' h' fl' fl → Sim c' h' l' W' → Stp c'.X W h₂ W' h' → Done C fl' l' W' → Q fl (St s h' t')) → wpAny c'.M c'.A (execs body c'.env) Q E (St s h₁ t)) : FS (n + 1) (.ref f) args W C := by
  intro c s h t R vs hcn sim ha hR
  obtain ⟨m, F, -⟩ := sim.fr
  have ok := sim.ok
  have X := sim.K
  obtain ⟨oc, od, osl, dV, doc, pm, an, ct, ho, hcd, hdef⟩ := hF _ ok.F
  have hdef : dV = .none := hdef
  subst hdef
  simp only [fnOkC, Bool.and_eq_true, Bool.or_eq_true, decide_eq_true_eq, List.all_eq_true, Bool.not_eq_true'] at hok
  obtain ⟨⟨⟨⟨hn, hnames⟩, hco⟩, hgen⟩, hk⟩ := hok
  obtain ⟨p, loose, mean, mg, mb, T⟩ := ok.T
  refine codeAny_call_cells (s := St s h t) (fd := fnOf name (Str.ofString q) params body scope .none .none doc pm an (.ref (f - 1)) ct) (body := body) (binds := (l.map (·.1)).zip vs) (by have := ok.dep; show c.A.depth < 1000; (clear hcn; omega)) (X _ _ ho) rfl (T.nolimit.keeps F.keep) (codeRec_of X hcd) rfl (hb doc pm ct an vs ha.length.symm) rfl
    (fun x hx => (hnames x.1 (List.of_mem_zip (show (x.1, x.2) ∈ _ from hx)).1).1.imp id fun e => ⟨e, cellsFrom_some _ _ _ (.inl e)⟩) (fun s₁ XC => ?_) hco hgen hk
  have loc := calleeLoc (n := n) (f := f) (q := q) rfl sim ha hal hst hn hnames XC
  obtain ⟨h₁, tk, rfl, hk₁⟩ := XC.done
  have hk₁ : ∀ b o, h.get? b = some o → h₁.get? b = some o := hk₁
  have sim' : Sim (c.callee n f q scope h W (cellsFrom (h.objs.size + 1) scope.names [])) h₁ l W := calleeSim s sim hcn hk hk₁ XC.toInCall.ns loc
  refine H c (c.callee n f q scope h W (cellsFrom (h.objs.size + 1) scope.names [])) s h h₁ tk _ _ _ rfl rfl hcn sim rfl sim' hk₁ XC.toInCall.ns loc (fun x hx => ?_) fun fl h₂ h' t' fl' l' W' kp hfl sim₂ stp hC => calleeEnd sim kp hR hfl sim₂ stp hC
  have hs := cellsFrom_some scope.names (h.objs.size + 1) [] (x := x) (.inl hx)
  obtain ⟨a, ea⟩ := Option.isSome_iff_exists.mp hs
  exact ⟨a, _, ea, XC.cell x a ea, XC.above x a (lookup_mem ea)⟩
theorem FS.enterC {n : Nat} {f : Addr} {args : List SV} {W : Wd} {C : SV → Wd → Prop} {q : String} {name : Str} {params : Arguments} {body : List Stmt} {scope : Scope}
    (hF : ∀ K, KF K → FnIs K f q name params body scope []) (l : Loc) (hal : args = l.map (·.2))
    (hb : ∀ (doc pm ct : Value) (an : Option Addr) (vs : List Value), vs.length = args.length → bindArgs (fnOf name (Str.ofString q) params body scope .none .none doc pm an (.ref (f - 1)) ct) ⟨vs, []⟩ = pure ((l.map (·.1)).zip vs))
    (hst : l.all (fun p => p.2.stable) = true) (hok : fnOkC (l.map (·.1)) scope = true)
    (H : ∀ c : Gx, c.n = n → c.cs = scope → Ex c l W body (Done C)) : FS (n + 1) (.ref f) args W C :=
  FS.enterC0 hF l hal hb hst hok fun _ c' s _ h₁ t Q E _ hn hs _ _ _ sim' hk₁ _ _ _ hQ => H c' hn hs s h₁ t Q E sim' fun fl h' t' fl' l' W' hfl sim₂ stp hC => hQ fl h₁ h' t' fl' l' W' hk₁ hfl sim₂ stp hC
/-- a captured name is bound first, by a role's int -/
theorem FS.enterS {n : Nat} {f : Addr} {args : List SV} {W : Wd} {C : SV → Wd → Prop} {q : String} {name : Str} {params : Arguments} {rest : List Stmt} {scope : Scope} {x b att : Str} {px pb pa pos : Pos} {r : Role} {Cl : Addr} {A : List (Str × SV)} {i : Int}
    (hF : ∀ K, KF K → FnIs K f q name params (.Assign [.Name x px] (.Attribute (.Name b pb) att pa) pos :: rest) scope []) (l : Loc) (hal : args = l.map (·.2))
    (hb : ∀ (doc pm ct : Value) (an : Option Addr) (vs : List Value), vs.length = args.length → bindArgs (fnOf name (Str.ofString q) params (.Assign [.Name x px] (.Attribute (.Name b pb) att pa) pos :: rest) scope .none .none doc pm an (.ref (f - 1)) ct) ⟨vs, []⟩ = pure ((l.map (·.1)).zip vs))
    (hst : l.all (fun p => p.2.stable) = true) (hok : fnOkC (l.map (·.1)) scope = true)
    (hx : scope.names.lookup x = some .cell) (hdx : (x == Str.ofString "__debug__") = false) (hnew : (l.all fun p => !(p.1 == x)) = true) (hm : (b, SV.role r) ∈ l)
    (hap : (scope.names.all fun p => !decide (p.2 = .cell) || p.1 == x) = true)
    (ho : W.ob r = .inst Cl A) (hA : A.lookup att = some (.int i)) (hC' : isCls Cl = true) (hatt : attOk Cl att = true)
    (he : ∀ env, eval (.Attribute (.Name b pb) att pa) env = (do
      let o ← eval (.Name b pb) env
      standAt pa.atName
      let r ← holding [o] (getAttr o att true)
      letTemporaryGo (.Name b pb) o r
      pure r))
    (hsw : ∀ env, swapsWith (.Attribute (.Name b pb) att pa) (some (.Name x px)) pos.line env = pure false)
    (H : ∀ c : Gx, c.n = n → c.cs = scope → Ex c ((x, .int i) :: l) W rest (Done C)) : FS (n + 1) (.ref f) args W C := by
  refine FS.enterC0 hF l hal hb hst hok fun c c' s h h₁ t Q E m hn hs hcn sim ec sim' hk₁ hns loc cells hQ => ?_
  obtain ⟨a, w, ea, hcell, hlt⟩ := cells x hx
  refine wpAny_execs_cons (wpAny_Assign_Name ?_ (hsw _))
  refine Attribute_any_ ?_ (he _)
  refine sim'.name hm fun v iv => ?_
  obtain ⟨rfl, _⟩ := iv
  have Hr := sim'.ws.holds r
  rw [ho] at Hr
  obtain ⟨hx1, es, n1, hd, en⟩ := Hr
  obtain ⟨u, hu, iu⟩ := getL_ent en att hA
  obtain ⟨tu, rfl⟩ := iu
  obtain ⟨m', F, hl⟩ := sim'.fr
  obtain ⟨k1, k2, k3, k4, k5⟩ := sim'.ok.F.cls Cl hC'
  refine get_own (s := St s h₁ t) F sim'.ok.X ⟨hx1, rfl, rfl, hd⟩ k1 k2 (sim'.ok.F.att Cl att hatt) rfl hu rfl ?_
  refine wpAny_storeName_cell (s := St s h₁ (t + 1)) (env := c'.env) sim'.ok.kf (by show c'.cs.names.lookup x = _; rw [hs]; exact hx) ea hcell fun h₂ hc2 hsb => ?_
  have k2' : ∀ b o, b ≠ a → h₁.get? b = some o → h₂.get? b = some o := fun b o q e => hsb.extBut b o q e
  have kp : ∀ b o, h.get? b = some o → h₂.get? b = some o := fun b o e => k2' b o (Nat.ne_of_lt (Nat.lt_trans (Heap.lt_size e) hlt)) (hk₁ b o e)
  have eL : c'.L = h.objs.size := by rw [ec]; rfl
  have hns₂ : h₂.Ns c'.L m := hns.at' fun o e => k2' _ o (by rw [eL]; exact Nat.ne_of_lt hlt) e
  have sim₂ : Sim c' h₂ ((x, .int i) :: l) W := by
    have hkf := sim'.ok.kf
    rw [hs] at hkf
    rw [ec] at hns₂ ⊢
    refine calleeSim (m := m) s sim hcn hkf kp hns₂ fun p hp => ?_
    rw [← ec]
    rcases List.mem_cons.mp hp with rfl | hp
    · obtain ⟨o2, e2, d2⟩ := hc2
      refine ⟨⟨.int i tu, .inr ⟨hx, a, o2, ea, e2, d2, ?_⟩, tu, rfl⟩, rfl, hdx⟩
      rw [ec]; exact calleeNewP sim hlt
    · obtain ⟨⟨v, e, iv⟩, r⟩ := loc p hp
      refine ⟨⟨v, ?_, iv⟩, r⟩
      rcases e with e | ⟨e, r⟩
      · exact .inl e
      · have : p.1 = x := by
          have z := List.all_eq_true.mp hap _ (lookup_mem e)
          simpa using z
        have z := List.all_eq_true.mp hnew p hp
        rw [this] at z
        simp at z
  exact H c' hn hs s h₂ _ _ E sim₂ fun fl h' t' fl' l' W' hfl sim₃ stp hC => hQ fl h₂ h' t' fl' l' W' kp hfl sim₃ stp hC
end
section
variable {c : Gx} {l : Loc} {W : Wd} {C : SV → Wd → Prop}
theorem Nw.cutS {v : Expr} {lo hi : Option Expr} {p pos : Pos} (H : Ev c l W v fun o W₁ => Part c l W₁ lo fun pl W₂ => Part c l W₂ hi fun ph W₃ => (o.stable = true ∨ ((∃ r, o = .role r) ∧ W₃ = W₁)) ∧ ∃ n f, Cut W₃ o n f ∧ n ≤ 1000000 ∧ C (f (kms_lo pl.opt n) (kms_hi ph.opt n)) W₃) : Nw c l W (.Subscript v (.Slice lo hi Option.none p) pos) C := by
  intro s h t Q E sim hQ
  refine Subscript_ ?_
  refine H s h t _ E _ sim rfl fun ov h' t' o W' i sim' st H' => ?_
  refine wpAny_Slice ?_
  refine H'.step sim' fun lv pl h2 t2 W2 i2 sim2 st2 H2 => ?_
  refine H2.step sim2 fun hv ph h3 t3 W3 i3 sim3 st3 ⟨sto, n, f, k, hz, hC⟩ => ?_
  rw [evalPart_none]
  refine wpAny_pure ?_
  have io : SV.is c.Fm W3 h3 o ov := Keep.is sto (st2.trans st3) i
  obtain ⟨a, vs, m, rfl, q, hl, hf⟩ := k.at sim3 io
  have kp1 : ∀ b o, h3.get? b = some o → (h3.push { cls := .type "slice", data := .fields #[lv, hv, .none] }).get? b = some o := push_keep
  refine tail_b (s := St s (h3.push { cls := .type "slice", data := .fields #[lv, hv, .none] }) t3) (isList_of (kp1 _ _ q)).typeIs list_getitem_lookup ?_ ⟨_, rfl⟩
  refine wpAny_getItem_list_slice (s := St s (h3.push { cls := .type "slice", data := .fields #[lv, hv, .none] }) t3) (isList_of (kp1 _ _ q)) (Heap.IsSliceOf.new ..) i2 i3 .none (by simp) ?_ (by rw [List.size_toArray, hl, sizeLine_eq]; (clear sto hl; omega))
  have kp : ∀ b o, h3.get? b = some o → ((h3.push { cls := .type "slice", data := .fields #[lv, hv, .none] }).push { cls := .type "list", data := .seq (slicePick vs.toArray pl.opt ph.opt Option.none) }).get? b = some o := fun b o e => push_keep _ _ (push_keep _ _ e)
  have ha : h3.get? (h3.push { cls := .type "slice", data := .fields #[lv, hv, .none] }).objs.size = Option.none := Heap.get?_none_of_le (by rw [Heap.size_push]; exact Nat.le_succ _)
  refine hQ _ h3 _ t3 (f (kms_lo pl.opt n) (kms_hi ph.opt n)) W3 sim3 kp ha (hf _ _ _ _ 0 kp ha ?_) ((st.trans st2).trans st3) hC
  rw [Heap.get?_push_size _ rfl, kms_pick_eq]
  unfold kms_pick
  rw [hl]

theorem pcs_ob {ad dad : Role → Addr} {x : AS} {L : List (List Int)} {W₂ : Wd} (h : W₂.ob = ((wd ad dad x).put .pcs (.pieces L)).ob) : W₂ = wd W₂.ad W₂.dad { x with R := L } := by
  have e : ((wd ad dad x).put .pcs (.pieces L)) = wd ad dad { x with R := L } := wd_put (r := .pcs) (so := .pieces L) rfl (fun r' e => by cases r' <;> first | rfl | exact absurd rfl e)
  rw [e] at h
  cases W₂
  dsimp only at h
  subst h
  rfl
theorem noPcs {ad dad : Role → Addr} {x : AS} : ∀ r, r ≠ .ring → ((wd ad dad x).ob r).noRole .pcs := by
  intro r hr
  show (obOf x r).noRole .pcs
  cases r with
  | ring => exact absurd rfl hr
  | buf =>
    show ∀ p ∈ bufA x, p.2 ≠ .role .pcs
    intro p hp
    simp only [bufA, List.mem_cons, List.not_mem_nil, or_false] at hp
    rcases hp with rfl | rfl | rfl | rfl | rfl | rfl | rfl | rfl | rfl | rfl | rfl | rfl | rfl | rfl | rfl | rfl | rfl | rfl | rfl | rfl <;> first | (intro z; cases z; done) | (dsimp only; cases x.bm <;> (intro z; cases z))
  | gap =>
    show ∀ p ∈ gapA x, p.2 ≠ .role .pcs
    intro p hp
    simp only [gapA, List.mem_cons, List.not_mem_nil, or_false] at hp
    rcases hp with rfl | rfl | rfl | rfl <;> (intro z; cases z)
  | marks =>
    show ∀ p ∈ [(Str.ofString "rows", SV.role .rows)], p.2 ≠ .role .pcs
    intro p hp
    simp only [List.mem_cons, List.not_mem_nil, or_false] at hp
    rcases hp with rfl; intro z; cases z
  | rows => intro e z; cases z
  | mrk =>
    unfold obOf
    cases x.kx
    · trivial
    · show ∀ p ∈ [(Str.ofString "most", SV.int 3), (Str.ofString "markers", .lst []), (Str.ofString "last", .int 0)], p.2 ≠ .role .pcs
      intro p hp
      simp only [List.mem_cons, List.not_mem_nil, or_false] at hp
      rcases hp with rfl | rfl | rfl <;> (intro z; cases z)
  | mark =>
    unfold obOf
    cases x.mx
    · trivial
    · show ∀ p ∈ markA x, p.2 ≠ .role .pcs
      intro p hp
      simp only [markA, List.mem_cons, List.not_mem_nil, or_false] at hp
      rcases hp with rfl | rfl | rfl | rfl <;> first | (intro z; cases z; done) | (dsimp only; cases x.mb <;> (intro z; cases z))
  | deck =>
    show ∀ sv ∈ [SV.role .bigs, .lst x.dcs, .int x.dk], sv ≠ .role .pcs
    intro p hp
    simp only [List.mem_cons, List.not_mem_nil, or_false] at hp
    rcases hp with rfl | rfl | rfl <;> (intro z; cases z)
  | _ => trivial
theorem Nw.imp {e : Expr} {C' : SV → Wd → Prop} (H : Nw c l W e C) (f : ∀ sv W, C sv W → C' sv W) : Nw c l W e C' := fun s h t Q E sim hQ => H s h t Q E sim fun a h₁ h' t' sv W' s1 kp ha i st hC => hQ a h₁ h' t' sv W' s1 kp ha i st (f _ _ hC)
theorem Sx.setPcsW {ad dad : Role → Addr} {x : AS} {nm : Str} {np pos' pos q : Pos} {v sl : Expr} {D : Fl → Loc → Wd → Prop} (hm : (nm, SV.role .ring) ∈ l)
    (H : Nw c l (wd ad dad x) (.Subscript v sl q) fun sv W₁ => ∃ L, sv = .pcl L ∧ W₁ = wd ad dad x ∧ ∀ ad dad, D .next l (wd ad dad { x with R := L })) :
    Sx c l (wd ad dad x) (.Assign [.Attribute (.Name nm np) (Str.ofString "pieces") pos'] (.Subscript v sl q) pos) D := by
  refine Sx.setPcs (ringA := ringA x) hm (by kernel_rfl) (H.imp fun sv W₁ ⟨L, e1, e2, hD⟩ => ?_) (by kernel_rfl) (fun p hp => ?_) (show List.Nodup [Str.ofString "most", Str.ofString "pieces", Str.ofString "pointer"] by decide) (Nat.le_of_ble_eq_true rfl) (fun _ => rfl)
  · subst e2
    exact ⟨L, x.R, e1, rfl, rfl, noPcs, fun W₂ h => by rw [pcs_ob h]; exact hD _ _⟩
  · simp only [ringA, List.mem_cons, List.not_mem_nil, or_false] at hp
    rcases hp with rfl | rfl | rfl
    · intro _ z; cases z
    · intro h; exact absurd rfl h
    · intro _ z; cases z
end
section
variable {c : Gx} {l : Loc} {W : Wd} {C : SV → Wd → Prop}
/-- what a comprehension's element meets: a heap that keeps all but the iterator -/
theorem Sim.frBut {h h' : Heap} {I : Addr} {m : Str → Option Value} (F : Fr c.g c.L h m) (hI : h.get? I = none) {h₂ : Heap} (kp : ∀ b o, h.get? b = some o → h₂.get? b = some o) (k2 : ∀ b o, b ∉ [I] → h₂.get? b = some o → h'.get? b = some o) : Fr c.g c.L h' m ∧ ∀ b o, h.get? b = some o → h'.get? b = some o := by
  have k : ∀ b o, h.get? b = some o → h'.get? b = some o := fun b o e => k2 b o (by simp only [List.mem_cons, List.not_mem_nil, or_false]; rintro rfl; rw [hI] at e; cases e) (kp b o e)
  exact ⟨⟨F.ns.at' fun o e => k _ o e, fun b o e => k b o (F.keep b o e), F.above⟩, k⟩
/-- a list comprehension over an iterator: what is kept of each element may be told late -/
theorem compBlock {elt iter : Expr} {x : Str} {px : Pos} {ifs : List Expr} {scope : Scope} {pos : Pos} {s : Shared} {Q E : Value → Shared → Prop}
    (hfree : ∀ y ∈ scope.names, y.2 ≠ .free) (hcell : ∀ y ∈ scope.names, y.2 ≠ .cell) (hkind : scope.kind = .function)
    (hnames : ∀ y ∈ scope.names, y.2 = .local → scope.names.lookup y.1 = some .local) (hx : scope.names.lookup x = some .local)
    (h : wpAny c.M c.A (eval iter c.env) (fun xv s₁ => wpAny c.M c.A (pyIter xv) (fun it s₂ => ∃ I fp wr n P S p F, it = .ref I ∧ Walks prg c.w c.A I fp wr n P S ∧ n ≤ sizeLine ∧ S 0 s₂.heap ∧ (∀ b ∈ fp, b < s₂.heap.objs.size) ∧
      QuietOn prg c.w c.A c.env scope x ifs elt wr P p F s₂ ∧
      (∀ D h' tk ys (vs : List Value), s₂.heap.get? D = none → h'.IsList D ys → h'.PlainList D ys → vs.length = n → (∀ j v, vs[j]? = some v → P j v) → Paired F (vs.filter p) ys.toList →
        (∀ b o, b ∉ wr → s₂.heap.get? b = some o → h'.get? b = some o) → Q (.ref D) { s₂ with heap := h', toks := tk })) E s₁) E s)
    (hs : ∀ v, foldedSetIterable iter c.env v = pure v) :
    wpAny c.M c.A (eval (.ListComp elt [⟨.Name x px, iter, ifs, 0⟩] scope pos) c.env) Q E s := by
  refine wpAny_ListComp hfree hkind hnames (wpAny_mono h (fun xv s₁ h₁ => wpAny_mono h₁ (fun it s₂ h₂ => ?_) fun _ _ e => e) fun _ _ e => e) hs
  obtain ⟨I, fp, wr, n, P, St, p, F, rfl, W, hsz, hst, hfp, hq, hQ⟩ := h₂
  refine comp_block_walk (RR := fun acc cenv r s' => ∃ m, s'.heap.Ns cenv.locals m ∧ ∀ h', Heap.SameBut cenv.locals s'.heap h' →
    match r with | .ok _ => Q acc { s' with heap := h' } | .error x => wpAny c.M c.A (passOn "comprehension.variables-let-go" x cenv) Q E { s' with heap := h' }) W hsz p F hcell hkind hx hst hfp hq ?_
  intro D C h' tk m' ys vs hD hC hDC hn hl hpl hlen hP hF hk
  exact ⟨m', hn, fun h'' hs'' => hQ D h'' tk ys vs hD (hl.extBut hs''.extBut hDC) (hpl.extBut hs''.extBut hDC) hlen hP hF fun b o hbf e => hs''.extBut b o (by rintro rfl; rw [hC] at e; cases e) (hk b o hbf e)⟩
theorem All2.ofPaired {α β γ : Type} {F : α → β → Prop} {R : α → γ → Prop} {R' : β → γ → Prop} (f : ∀ a b g, F a b → R a g → R' b g) : ∀ {as : List α} {bs : List β} {gs : List γ}, Paired F as bs → All2 R as gs → All2 R' bs gs
  | _, _, _, .nil, .nil => .nil
  | _, _, _, .cons h1 t1, .cons h2 t2 => .cons (f _ _ _ h1 h2) (All2.ofPaired f t1 t2)
theorem filter_all {α : Type} (l : List α) : l.filter (fun _ => true) = l := List.filter_eq_self.mpr fun _ _ => rfl
theorem eq_of_items {vs us : List Value} (hl : us.length = vs.toArray.size) (hi : ∀ (j : Nat) v, us[j]? = some v → vs.toArray[j]? = some v) : us = vs := by
  apply List.ext_getElem?
  intro j
  cases e : us[j]? with
  | none =>
    have : us.length ≤ j := List.getElem?_eq_none_iff.mp e
    rw [List.size_toArray] at hl
    exact (List.getElem?_eq_none (by omega)).symm
  | some v => have := hi j v e; simpa using this.symm
/-- the codes of a ring's pieces -/
theorem Nw.compPieces {x : Str} {p1 p2 px pos : Pos} {iter : Expr} {scope : Scope}
    (hfree : ∀ y ∈ scope.names, y.2 ≠ .free) (hcell : ∀ y ∈ scope.names, y.2 ≠ .cell) (hkind : scope.kind = .function)
    (hnames : ∀ y ∈ scope.names, y.2 = .local → scope.names.lookup y.1 = some .local) (hx : scope.names.lookup x = some .local) (hd : (x == Str.ofString "__debug__") = false)
    (H : Ev c l W iter fun sv W₁ => ∃ r L, sv = .role r ∧ W₁.ob r = .pieces L ∧ L.length ≤ 1000000 ∧ C (.lol L) W₁)
    (he : ∀ env, eval (.Attribute (.Name x p1) (Str.ofString "codes") p2) env = (do
      let o ← eval (.Name x p1) env
      standAt p2.atName
      let r ← holding [o] (getAttr o (Str.ofString "codes") true)
      letTemporaryGo (.Name x p1) o r
      pure r))
    (hs : ∀ env v, foldedSetIterable iter env v = pure v) : Nw c l W (.ListComp (.Attribute (.Name x p1) (Str.ofString "codes") p2) [⟨.Name x px, iter, [], 0⟩] scope pos) C := by
  intro s h t Q E sim hQ
  refine compBlock hfree hcell hkind hnames hx ?_ (hs _)
  refine H s h t _ E _ sim rfl fun v h₁ t₁ sv W₁ i sim₁ st ⟨r, L, e1, ho, hz, hC⟩ => ?_
  subst e1
  obtain ⟨rfl, _⟩ := i
  have Hr := sim₁.ws.holds r
  rw [ho] at Hr
  obtain ⟨vs, n, q, j⟩ := Hr
  refine wpAny_pyIter_list (s := St s h₁ t₁) (isList_of q) ?_
  have hne : W₁.ad r ≠ h₁.objs.size := Nat.ne_of_lt (Heap.lt_size q)
  have W0 := Walks.list (prog := prg) (w := c.w) (A := c.A) sim₁.ok.hd h₁.objs.size (W₁.ad r) hne vs.toArray
  have kp : ∀ b o, h₁.get? b = some o → (h₁.push { cls := .type "list_iterator", data := .fields #[.ref (W₁.ad r), .int 0 0] }).get? b = some o := push_keep
  obtain ⟨m, F, -⟩ := sim₁.fr
  obtain ⟨k1, k2, k3, k4, k5⟩ := sim₁.ok.F.cls 164 (by rfl)
  refine ⟨_, _, _, _, _, _, fun _ => true, fun v y => ∃ p dp es n, v = .ref p ∧ h₁.get? p = some (instObj 164 dp) ∧ h₁.get? dp = some (dictOf es n) ∧ getL (Str.ofString "codes") es = some (some y), rfl, W0, ?_, ⟨⟨_, Heap.get?_push_size _ rfl, rfl, rfl⟩, (isList_of q).at fun o e => kp _ _ e⟩, ?_, ⟨?_, ?_⟩, ?_⟩
  · rw [List.size_toArray, j.length, sizeLine_eq]; (clear hne; omega)
  · intro b hb
    show b < (h₁.push _).objs.size
    rw [Heap.size_push]
    simp only [List.mem_cons, List.not_mem_nil, or_false] at hb
    rcases hb with rfl | rfl
    · exact Nat.lt_succ_self _
    · exact Nat.lt_succ_of_lt (Heap.lt_size q)
  · intro C' i v s₃ m₃ E' hv hn hm hk htk
    exact wpAny_tests_nil ⟨rfl, _, _, rfl, fun _ _ e => e⟩
  · intro C' i v s₃ m₃ E' hv _ hn hm hk htk
    obtain ⟨F₃, up⟩ := Sim.frBut F (none_at_size h₁) kp hk
    obtain ⟨ns, hns⟩ : ∃ ns, L[i]? = some ns := by
      have hv' : vs[i]? = some v := by simpa using hv
      have : i < L.length := by
        rw [← j.length]
        exact (List.getElem?_eq_some_iff.mp hv').1
      exact ⟨_, List.getElem?_eq_getElem this⟩
    obtain ⟨v', hv', ip⟩ := j.get hns
    have ev : v' = v := by
      have : vs[i]? = some v := by simpa using hv
      rw [hv'] at this; exact Option.some.inj this
    subst ev
    obtain ⟨p, dp, es, n2, vc, vr, rfl, q1, q2, g1, g2, l1, l2, m1, m2⟩ := ip
    refine Attribute_any_ ?_ (he _)
    refine wpAny_Name (wpAny_loadName_local (env := compEnv scope C' c.env) hkind hx hn hm ?_) hd
    refine get_own (s := s₃) F₃ sim₁.ok.X ⟨up _ _ q1, rfl, rfl, up _ _ q2⟩ k1 k2 (sim₁.ok.F.att 164 _ (by kernel_rfl)) rfl g1 ?_ ⟨⟨p, dp, es, n2, rfl, q1, q2, g1⟩, _, _, rfl, fun _ _ e => e⟩
    obtain ⟨_, _, _, rfl, _⟩ := l1; rfl
  · intro D h' tk ys us hD hl hpl hlen hi hF hk
    have e1 := eq_of_items hlen hi
    subst e1
    rw [filter_all] at hF
    obtain ⟨_, up⟩ := Sim.frBut F (none_at_size h₁) kp hk
    obtain ⟨n3, hD'⟩ := hpl
    have hD0 : h₁.get? D = Option.none := by
      cases e : h₁.get? D with
      | none => rfl
      | some o => have := kp _ _ e; rw [show (St s (h₁.push { cls := .type "list_iterator", data := .fields #[.ref (W₁.ad r), .int 0 0] }) t₁).heap = _ from rfl] at hD; rw [this] at hD; cases hD
    refine hQ D h₁ h' tk (.lol L) W₁ sim₁ up hD0 ⟨D, ys.toList, n3, rfl, ?_, ?_, sim₁.fresh hD0⟩ st hC
    · rw [hD']
    · refine All2.imp (fun _ _ z => IsLst.imp (fun b o e m => ⟨up b o e, m⟩) z) (All2.ofPaired (R := IsPiece (W₁.P c.Fm) h₁) (R' := IsLst (W₁.P c.Fm) h₁) (fun a b g hF hp => ?_) hF j)
      obtain ⟨p, dp, es, n2, vc, vr, rfl, q1, q2, g1, g2, l1, l2, m1, m2⟩ := hp
      obtain ⟨p', dp', es', n', e0, q1', q2', g1'⟩ := hF
      cases e0
      rw [q1] at q1'
      have e2 := Option.some.inj q1'
      have e3 : dp = dp' := by
        have := congrArg Obj.dict e2
        simpa [instObj] using this
      subst e3
      rw [q2] at q2'
      have e4 := Option.some.inj q2'
      have e5 : es = es' := by
        simpa [dictOf] using congrArg Obj.data e4 |> fun z => (by simpa [dictOf] using z : es = es' ∧ n2 = n').1
      subst e5
      rw [g1] at g1'
      cases g1'
      exact l1
end
section
variable {c : Gx} {l : Loc} {W : Wd} {C : SV → Wd → Prop}
noncomputable def bigOf (v : Value) : Bool := match v with
  | .int a _ => decide (10 ^ 18 ≤ a)
  | _ => false
theorem intsFilter : ∀ {vs : List Value} {ns : List Int}, IntsAre vs ns → IntsAre (vs.filter bigOf) (ns.filter fun a => decide (10 ^ 18 ≤ a))
  | _, _, .nil => .nil
  | _, _, .cons (n := a) t r => by
    rw [List.filter_cons, List.filter_cons]
    show IntsAre (if decide ((10 : Int) ^ 18 ≤ a) = true then _ else _) (if decide ((10 : Int) ^ 18 ≤ a) = true then _ else _)
    split
    · exact .cons _ _ (intsFilter r)
    · exact intsFilter r
theorem pairedSame : ∀ {as bs : List Value}, Paired (fun v y => y = v) as bs → bs = as
  | _, _, .nil => rfl
  | _, _, .cons h t => by rw [h, pairedSame t]
theorem intAt {vs : List Value} {ns : List Int} (j : IntsAre vs ns) {i : Nat} {v : Value} (h : vs[i]? = some v) : ∃ a t, v = .int a t := by
  induction j generalizing i with
  | nil => simp at h
  | cons t u r ih =>
    cases i with
    | zero => simp at h; exact ⟨_, _, h.symm⟩
    | succ i => exact ih (by simpa using h)
theorem itrFp {h : Heap} {a : Addr} {o o' : Obj} (q : h.get? a = some o) : ∀ b ∈ [h.objs.size, a], b < (h.push o').objs.size := by
  intro b hb
  rw [Heap.size_push]
  simp only [List.mem_cons, List.not_mem_nil, or_false] at hb
  rcases hb with rfl | rfl
  · exact Nat.lt_succ_self _
  · exact Nat.lt_succ_of_lt (Heap.lt_size q)
/-- the big cells of a list -/
theorem Nw.compBig {x : Str} {p1 p2 p3 p4 p5 p6 px pos : Pos} {k1 k2 : Nat} {iter : Expr} {scope : Scope}
    (hfree : ∀ y ∈ scope.names, y.2 ≠ .free) (hcell : ∀ y ∈ scope.names, y.2 ≠ .cell) (hkind : scope.kind = .function)
    (hnames : ∀ y ∈ scope.names, y.2 = .local → scope.names.lookup y.1 = some .local) (hx : scope.names.lookup x = some .local) (hd : (x == Str.ofString "__debug__") = false)
    (H : Ev c l W iter fun sv W₁ => ∃ ns, sv = .lst ns ∧ ns.length ≤ 1000000 ∧ C (.lst (ns.filter fun a => decide (10 ^ 18 ≤ a))) W₁)
    (hm : behindInMarks .GtE (.BinOp (.Constant (.int 10) k1 p3) .Pow (.Constant (.int 18) k2 p4) p5) = false)
    (hs : ∀ env v, foldedSetIterable iter env v = pure v) : Nw c l W (.ListComp (.Name x p1) [⟨.Name x px, iter, [.Compare (.Name x p2) [.GtE] [.BinOp (.Constant (.int 10) k1 p3) .Pow (.Constant (.int 18) k2 p4) p5] p6], 0⟩] scope pos) C := by
  intro s h t Q E sim hQ
  refine compBlock hfree hcell hkind hnames hx ?_ (hs _)
  refine H s h t _ E _ sim rfl fun v h₁ t₁ sv W₁ i sim₁ st ⟨ns, e1, hz, hC⟩ => ?_
  subst e1
  obtain ⟨a, vs, n, rfl, q, j, hP⟩ := i
  refine wpAny_pyIter_list (s := St s h₁ t₁) (isList_of q) ?_
  have hne : a ≠ h₁.objs.size := Nat.ne_of_lt (Heap.lt_size q)
  have W0 := Walks.list (prog := prg) (w := c.w) (A := c.A) sim₁.ok.hd h₁.objs.size a hne vs.toArray
  have kp : ∀ b o, h₁.get? b = some o → (h₁.push { cls := .type "list_iterator", data := .fields #[.ref a, .int 0 0] }).get? b = some o := push_keep
  obtain ⟨m, F, -⟩ := sim₁.fr
  refine ⟨_, _, _, _, _, _, bigOf, fun v y => y = v, rfl, W0, ?_, ⟨⟨_, Heap.get?_push_size _ rfl, rfl, rfl⟩, (isList_of q).at fun o e => kp _ _ e⟩, itrFp q, ⟨?_, ?_⟩, ?_⟩
  · rw [List.size_toArray, j.length, sizeLine_eq]; (clear hP hne; omega)
  · intro C' i v s₃ m₃ E' hv hn hm' hk htk
    obtain ⟨b, tb, rfl⟩ := intAt j (by simpa using hv)
    refine wpAny_tests_one (wpAny_isTrue_Compare1 ?_ hm)
    refine wpAny_Name (wpAny_loadName_local (env := compEnv scope C' c.env) hkind hx hn hm' ?_) hd
    refine wpAny_BinOp (wpAny_Constant_int (wpAny_Constant_int ?_))
    refine pow_int_small (by decide) (by decide) (by decide) ?_
    refine PyProof.Rows.ge_int (wpAny_truthy_bool ?_)
    exact ⟨rfl, _, _, rfl, fun _ _ e => e⟩
  · intro C' i v s₃ m₃ E' hv _ hn hm' hk htk
    exact wpAny_Name (wpAny_loadName_local (env := compEnv scope C' c.env) hkind hx hn hm' ⟨rfl, _, _, rfl, fun _ _ e => e⟩) hd
  · intro D h' tk ys us hD hl hpl hlen hi hF hk
    have e1 := eq_of_items hlen hi
    subst e1
    obtain ⟨_, up⟩ := Sim.frBut F (none_at_size h₁) kp hk
    obtain ⟨n3, hD'⟩ := hpl
    have hD0 : h₁.get? D = Option.none := by
      cases e : h₁.get? D with
      | none => rfl
      | some o => have := kp _ _ e; rw [show (St s (h₁.push { cls := .type "list_iterator", data := .fields #[.ref a, .int 0 0] }) t₁).heap = _ from rfl] at hD; rw [this] at hD; cases hD
    refine hQ D h₁ h' tk (.lst (ns.filter fun a => decide (10 ^ 18 ≤ a))) W₁ sim₁ up hD0 ⟨D, ys.toList, n3, rfl, ?_, ?_, sim₁.fresh hD0⟩ st hC
    · rw [hD']
    · rw [pairedSame hF]; exact intsFilter j
/-- a name is bound, told by the heap behind it -/
theorem Sim.stored {h h' : Heap} {x : Str} {sv : SV} {v : Value} {m : Str → Option Value} (sim : Sim c h l W) (F : Fr c.g c.L h m) (hl : LocOk c h l W m) (hn : h'.Ns c.L (fun z => if z = x then some v else m z))
    (k : ∀ b o, b ≠ c.L → h.get? b = some o → h'.get? b = some o) (i : SV.is c.Fm W h' sv v) (hst : sv.stable = true) (hk : c.cs.names.lookup x = some .local) (hd : (x == Str.ofString "__debug__") = false) :
    Sim c h' (setL x sv l) W ∧ Stp c.X W h W h' := by
  have F' : Fr c.g c.L h' (fun y => if y = x then some v else m y) := ⟨hn, fun b o e => k b o (Nat.ne_of_lt (Nat.lt_of_lt_of_le (Heap.lt_size e) F.above)) (F.keep b o e), F.above⟩
  have nP : ∀ b o, h.get? b = some o → ¬ W.P c.Fm b → h'.get? b = some o ∧ ¬ W.P c.Fm b := fun b o e n => ⟨k b o (fun z => n (.inr (c.XF _ z))) e, n⟩
  have ws : WS c.w c.Fm c.g c.L h' W := ⟨fun r => SO.imp (.refl W) nP (fun b hb o e => k b o (sim.ws.fresh r b hb).2 e) (sim.ws.holds r), sim.ws.fresh, sim.ws.apart, sim.ws.nodup⟩
  obtain ⟨oL, _, _, hL, _⟩ := hn
  have stp : Stp c.X W h W h' := ⟨fun b o e _ n => k b o n e, fun _ m => .inl m, fun b o e => by
    by_cases q : b = c.L
    · subst q; exact ⟨_, hL⟩
    · exact ⟨o, k b o q e⟩, fun _ _ e => ⟨rfl, e⟩⟩
  refine ⟨⟨sim.ok, ⟨_, F', fun p hp => ?_⟩, ws, fun y hy => let ⟨⟨o, e⟩, n⟩ := sim.it y hy; ⟨stp.live y o e, n⟩⟩, stp⟩
  rcases setL_mem hp with rfl | ⟨hp, hne⟩
  · exact ⟨⟨v, .inl ⟨if_pos rfl, hk⟩, i⟩, hst, hd⟩
  · obtain ⟨⟨u, e, iu⟩, r⟩ := hl p hp
    refine ⟨⟨u, ?_, SV.is_imp (.refl W) nP iu⟩, r⟩
    rcases e with ⟨e, hk'⟩ | e
    · exact .inl ⟨by show (if p.1 = x then _ else _) = _; rw [if_neg hne]; exact e, hk'⟩
    · exact .inr (let ⟨q, a, o, e1, e2, e3, e4⟩ := e; ⟨q, a, o, e1, (nP _ _ e2 e4).1, e3, (nP _ _ e2 e4).2⟩)
noncomputable def absI (a : Int) : Int := if a < 0 then -a else a
theorem pairedAbs : ∀ {vs ys : List Value} {ns : List Int}, IntsAre vs ns → Paired (fun v y => ∃ a t u, v = Value.int a t ∧ y = Value.int (absI a) u) vs ys → IntsAre ys (ns.map absI)
  | _, _, _, .nil, .nil => .nil
  | _, _, _, .cons t u r, .cons h p => by
    obtain ⟨a, t1, u1, e1, rfl⟩ := h
    cases e1
    exact .cons _ _ (pairedAbs r p)
/-- cells = [abs(cell) for cell in ..] -/
theorem Sx.assignAbs {x y : Str} {p1 p2 p3 px py pos spos : Pos} {iter : Expr} {scope sc : Scope} {D : Fl → Loc → Wd → Prop}
    (hsw : ∀ env : Env, env.scope = sc → swapsWith (.ListComp (.Call (.Name (Str.ofString "abs") p1) [.Name x p2] [] p3) [⟨.Name x px, iter, [], 0⟩] scope pos) (some (.Name y py)) spos.line env = pure true)
    (hfree : ∀ y ∈ scope.names, y.2 ≠ .free) (hcell : ∀ y ∈ scope.names, y.2 ≠ .cell) (hkind : scope.kind = .function)
    (hnames : ∀ y ∈ scope.names, y.2 = .local → scope.names.lookup y.1 = some .local) (hx : scope.names.lookup x = some .local) (hd : (x == Str.ofString "__debug__") = false)
    (hab : scope.names.lookup (Str.ofString "abs") = some .globalImplicit)
    (hsc : c.cs = sc) (hk : sc.names.lookup y = some .local) (hdy : (y == Str.ofString "__debug__") = false) (hnew : (l.all fun p => !(p.1 == y)) = true)
    (H : Ev c l W iter fun sv W₁ => ∃ ns, sv = .lst ns ∧ ns.length ≤ 1000000 ∧ D .next ((y, .lst (ns.map absI)) :: l) W₁)
    (he : ∀ env, starEach [.Name x p2] env = (false, eval (.Name x p2) env) :: starEach [] env)
    (hc : ∀ env, eval (.Call (.Name (Str.ofString "abs") p1) [.Name x p2] [] p3) env = (do callWith p3 (← eval (.Name (Str.ofString "abs") p1) env) [] (backTo p3 (starEach [.Name x p2] env)) (backToKw p3 (keywordEach [] env))))
    (hs : ∀ env v, foldedSetIterable iter env v = pure v) : Sx c l W (.Assign [.Name y py] (.ListComp (.Call (.Name (Str.ofString "abs") p1) [.Name x p2] [] p3) [⟨.Name x px, iter, [], 0⟩] scope pos) spos) D := by
  intro s h t Q E sim hQ
  refine wpAny_Assign_ListComp_walk (fun _ => true) (fun v y => ∃ a t u, v = Value.int a t ∧ y = Value.int (absI a) u) (hsw c.env hsc) hfree hcell hkind hnames hx (by show c.cs.names.lookup y = _; rw [hsc]; exact hk) (by show (c.cs.kind == .class || (c.cs.kind == .module && _)) = false; rw [sim.ok.kf]; rfl) ?_ (hs _)
  refine H s h t _ E _ sim rfl fun v h₁ t₁ sv W₁ i sim₁ st ⟨ns, e1, hz, hD⟩ => ?_
  subst e1
  obtain ⟨a, vs, n, rfl, q, j, hP⟩ := i
  refine wpAny_pyIter_list (s := St s h₁ t₁) (isList_of q) ?_
  have hne : a ≠ h₁.objs.size := Nat.ne_of_lt (Heap.lt_size q)
  have W0 := Walks.list (prog := prg) (w := c.w) (A := c.A) sim₁.ok.hd h₁.objs.size a hne vs.toArray
  have kp : ∀ b o, h₁.get? b = some o → (h₁.push { cls := .type "list_iterator", data := .fields #[.ref a, .int 0 0] }).get? b = some o := push_keep
  obtain ⟨m, F, hl⟩ := sim₁.fr
  obtain ⟨p, loose, mean, mg, mb, T⟩ := sim₁.ok.T
  have hLs : c.L ≠ h₁.objs.size := by
    obtain ⟨oL, _, _, hL, _⟩ := F.ns
    exact Nat.ne_of_lt (Heap.lt_size hL)
  refine ⟨_, _, _, _, _, _, m, rfl, W0, ?_, ⟨⟨_, Heap.get?_push_size _ rfl, rfl, rfl⟩, (isList_of q).at fun o e => kp _ _ e⟩, itrFp q, ?_, F.ns.at' fun o e => kp _ _ e, ⟨?_, ?_⟩, ?_⟩
  · rw [List.size_toArray, j.length, sizeLine_eq]; (clear hP hne hLs; omega)
  · show c.L ∉ [h₁.objs.size]
    simpa using hLs
  · intro C' i v s₃ m₃ E' hv hn hm' hk htk
    exact wpAny_tests_nil ⟨rfl, _, _, rfl, fun _ _ e => e⟩
  · intro C' i v s₃ m₃ E' hv _ hn hm' hk htk
    obtain ⟨b, tb, rfl⟩ := intAt j (by simpa using hv)
    obtain ⟨F₃, up⟩ := Sim.frBut F (none_at_size h₁) kp hk
    refine Call_ ?_ (hc _)
    have T' := topRead_of T
    refine PySem.Calls.Name_function_global (env := compEnv scope C' c.env) hkind hab (PySem.Calls.loadGlobal_builtin (env := compEnv scope C' c.env) (T'.g.keeps F₃.keep) (mg_none_of sim₁.ok.X T'.g (sim₁.ok.F.blt (Str.ofString "abs") (by kernel_rfl))) (T'.b.keeps F₃.keep) ((T'.builtins (Str.ofString "abs") (by decide)).trans boot_abs) ?_) (by kernel_rfl)
    refine callWith_method1 (first := []) ?_ (he _) rfl
    refine spliced_more ?_ (he _)
    refine wpAny_Name (wpAny_loadName_local (env := compEnv scope C' c.env) hkind hx hn hm' ?_) hd
    refine spliced_none ?_
    exact call_abs_int fun u tk' => ⟨⟨b, tb, u, rfl, rfl⟩, _, _, rfl, fun _ _ e => e⟩
  · intro D' h' tk ys us hD' hl' hpl hlen hi hF hn' hkk
    have e1 := eq_of_items hlen hi
    subst e1
    rw [filter_all] at hF
    obtain ⟨n3, hD3⟩ := hpl
    have up : ∀ b o, b ≠ c.L → h₁.get? b = some o → h'.get? b = some o := fun b o hb e => hkk b o hb (by simp only [List.mem_cons, List.not_mem_nil, or_false]; rintro rfl; rw [none_at_size] at e; cases e) (kp b o e)
    have hD0 : h₁.get? D' = Option.none := by
      cases e : h₁.get? D' with
      | none => rfl
      | some o => have := kp _ _ e; rw [show (St s (h₁.push { cls := .type "list_iterator", data := .fields #[.ref a, .int 0 0] }) t₁).heap = _ from rfl] at hD'; rw [this] at hD'; cases hD'
    obtain ⟨sim₂, st₂⟩ := sim₁.stored F hl hn' up (sv := .lst (ns.map absI)) ⟨D', ys.toList, n3, rfl, by rw [hD3], pairedAbs j hF, sim₁.fresh hD0⟩ rfl (by rw [hsc]; exact hk) hdy
    exact hQ .next h' tk .next _ W₁ rfl (sim₂.fewer fun q hq => mem_new hnew q hq) (st.trans st₂) hD
end
section
variable {c : Gx} {l : Loc} {W : Wd} {C : SV → Wd → Prop}
theorem neA {a b : Addr} (h : @Ne Nat a b) : a ≠ b := h
theorem All2.snoc {α β : Type} {R : α → β → Prop} {a : α} {b : β} {as bs} (h : All2 R as bs) (x : R a b) : All2 R (as ++ [a]) (bs ++ [b]) := h.append (.cons x .nil)
/-- the block of a list comprehension without tests, over any target -/
theorem blockT {elt target iter : Expr} {scope : Scope} {cl : List (Str × Addr)} {pos : Pos} {s : Shared} {h₁ : Heap} {t₁ : Nat} {W₁ : Wd} {es : List SV} {o : Obj} {P : Nat → Value → Prop} {S : Nat → Heap → Prop} {fp : List Addr} {E : Value → Shared → Prop}
    {RR : Value → Addr → Result → Shared → Prop} (sim₁ : Sim c h₁ l W₁) (str : Strt c W₁ h₁ es h₁.objs.size o P S fp) (hz : es.length ≤ 1000000)
    (hcell : ∀ y ∈ scope.names, y.2 ≠ .cell) (hkind : scope.kind = .function) (F : SV → SV → Prop)
    (turn : ∀ (I C D : Addr) v sv (h₃ : Heap) t₃ m₃ (Q E : Value → Shared → Prop), sv.is c.Fm W₁ h₁ v → sv ∈ es → (∀ b o, h₁.get? b = some o → h₃.get? b = some o) → h₁.get? C = none → h₃.Ns C m₃ → I ≠ C → D ≠ C → (∃ o, h₃.get? I = some o) → (∃ o, h₃.get? D = some o) →
      (∀ y svy h' t' m', F sv svy → svy.is (fun x => c.Fm x ∨ x = I ∨ x = C ∨ x = D) W₁ h' y → h'.Ns C m' → (∀ b o, b ≠ C → h₃.get? b = some o → h'.get? b = some o) → Q y (St s h' t')) →
      wpAny c.M c.A (assign target (compEnvC scope cl C c.env) v) (fun _ s₄ => wpAny c.M c.A (eval elt (compEnvC scope cl C c.env)) Q E s₄) E (St s h₃ t₃))
    (hRR : ∀ (C D : Addr) h' tk m' ys n svs, h₁.get? D = none → h₁.get? C = none → D ≠ C → h'.Ns C m' → h'.get? D = some { cls := .type "list", data := .seq ys n } → All2 (SV.is (fun x => c.Fm x ∨ x = C ∨ x = D) W₁ h') svs ys.toList → All2 F es svs →
      (∀ b o, h₁.get? b = some o → h'.get? b = some o) → RR (.ref D) C (.ok .next) (St s h' tk)) :
    wpAny c.M c.A (newList []) (fun acc s₃ => wpAny c.M c.A (newFunctionEnv scope c.env.globals cl [] c.env.qual none .none (some c.env)) (fun cenv s₄ =>
      codeAny c.M c.A (.compStart (.ListComp elt [⟨target, iter, [], 0⟩] scope pos) 0 (.ref h₁.objs.size) acc { cenv with scope := relabel scope c.env }) (RR acc cenv.locals) s₄) E s₃) E (St s (h₁.push o) t₁) := by
  refine wpAny_newObj_type (wpAny_newFunctionEnv hcell (by intro y hy; simp at hy) (fun h₂ hns₂ hsb₂ => ?_) hkind)
  dsimp only at hns₂ hsb₂ ⊢
  obtain ⟨oI, hoI⟩ := str.live _ _ str.st
  generalize hH2 : (h₁.push o).push { cls := .type "list", dict := none, data := .seq ([] : List Value).toArray } = H2 at hns₂ hsb₂ ⊢
  have hI1 : (h₁.push o).objs.size = h₁.objs.size + 1 := Heap.size_push _ _
  have hC : H2.objs.size = h₁.objs.size + 2 := by rw [← hH2, Heap.size_push, hI1]
  have hn0 : ∀ a, h₁.objs.size ≤ a → h₁.get? a = none := fun a ha => Heap.get?_none_of_le ha
  have kp2 : ∀ b ob, (h₁.push o).get? b = some ob → h₂.get? b = some ob := fun b ob e => by
    have lt : @LT.lt Nat _ b (h₁.push o).objs.size := Heap.lt_size e
    rw [hI1] at lt
    exact hsb₂.extBut b ob (neA (by rw [hC]; (clear hz hI1 hC; omega))) (Heap.get?_push_of_some _ (hH2 ▸ Heap.get?_push_of_some _ e))
  have kp1 : ∀ b ob, h₁.get? b = some ob → h₂.get? b = some ob := fun b ob e => kp2 b ob (push_keep b ob e)
  have hacc : h₂.get? (h₁.push o).objs.size = some { cls := .type "list", data := .seq #[] 0 } := hsb₂.extBut _ _ (neA (by rw [hC, hI1]; (clear hz hI1 hC; omega))) (Heap.get?_push_of_some _ (hH2 ▸ Heap.get?_push_size _ rfl))
  have hst₂ : S 0 h₂ := str.walks.frame _ _ _ str.st fun b _ ob e => kp2 b ob e
  have hoI₂ : h₂.get? h₁.objs.size = some oI := kp2 _ _ hoI
  generalize hDD : (h₁.push o).objs.size = D at hacc ⊢
  generalize hCC : H2.objs.size = Ca at hns₂ hsb₂ ⊢
  generalize hII : h₁.objs.size = I at str hoI₂ ⊢
  have hDI : D = I + 1 := by (clear hz hC hCC; omega)
  have hCI : Ca = I + 2 := by (clear hz hI1 hDD hDI; omega)
  have fpI : I ∈ fp := str.walks.sub I (List.mem_singleton.mpr rfl)
  have fpn : ∀ b ∈ fp, @Ne Nat b D ∧ @Ne Nat b Ca := fun b hb => by
    rcases str.fp b hb with rfl | ⟨ob, e, _⟩
    · (clear hz hDI hCI; omega)
    · have : @LT.lt Nat _ b h₁.objs.size := Heap.lt_size e; (clear hz hII hDI hCI; omega)
  let F3 : Addr → Prop := fun x => c.Fm x ∨ x = I ∨ x = Ca ∨ x = D
  have isK : ∀ {h h' : Heap} {svs : List SV} {ys : List Value}, (∀ b ob, b ≠ I → b ≠ Ca → b ≠ D → h.get? b = some ob → h'.get? b = some ob) → All2 (SV.is F3 W₁ h) svs ys → All2 (SV.is F3 W₁ h') svs ys := fun k a =>
    a.imp fun _ _ z => SV.is_imp (.refl W₁) (fun b ob e m => ⟨k b ob (fun q => m (.inr (.inr (.inl q)))) (fun q => m (.inr (.inr (.inr (.inl q))))) (fun q => m (.inr (.inr (.inr (.inr q))))) e, m⟩) z
  have loop : ∀ s₃ : Shared, s₃ = St s h₂ (t₁ + ([] : List (Str × Value)).length) → codeAny c.M c.A (.compLoop (.ListComp elt [⟨target, iter, [], 0⟩] scope pos) 0 (.ref I) (.ref D) (compEnvC scope cl Ca c.env)) (RR (.ref D) Ca) s₃ := by
    rintro s₃ rfl
    refine kcp_loop (fun k s' => ∃ (i : Nat) (h' : Heap) (tk : Nat) (m' : Str → Option Value) (ys : Array Value) (n : Nat) (svs : List SV), s' = St s h' tk ∧ k = es.length - i ∧ i ≤ es.length ∧ S i h' ∧ h'.Ns Ca m' ∧ h'.get? D = some { cls := .type "list", data := .seq ys n } ∧
      All2 (SV.is F3 W₁ h') svs ys.toList ∧ All2 F (es.take i) svs ∧ (∀ b ob, h₁.get? b = some ob → h'.get? b = some ob) ∧ ∃ ob, h'.get? I = some ob) ?_ es.length
      ⟨0, h₂, _, _, #[], 0, [], rfl, rfl, Nat.zero_le _, hst₂, hns₂, hacc, .nil, .nil, kp1, _, hoI₂⟩
    rintro k s' ⟨i, h', tk, m', ys, n, svs, rfl, rfl, hi, hS, hn, hD, hA, hF, kp, oi, hoi⟩
    have neI : ∀ b ob, h₁.get? b = some ob → @Ne Nat b I ∧ @Ne Nat b Ca ∧ @Ne Nat b D := fun b ob e => by have : @LT.lt Nat _ b h₁.objs.size := Heap.lt_size e; (clear hz hDI hCI hi; omega)
    by_cases hlt : i < es.length
    · refine str.walks.item i _ _ _ hlt hS fun v h₄ tk₄ hP hS₄ hk₄ => ?_
      have hk₄ : ∀ b ob, b ≠ I → h'.get? b = some ob → h₄.get? b = some ob := fun b ob hb e => hk₄ b ob (by simpa using hb) e
      obtain ⟨sv, hsv, _, isv⟩ := str.es i v hP
      refine str.go target _ _ v _ _ hS₄ ?_
      obtain ⟨oi4, hoi4⟩ := str.live _ _ hS₄
      have hD4 := hk₄ D _ (neA (by (clear hz hC hCC hDI hCI hi hlt; omega))) hD
      have hn4 := hn.at' fun ob e => hk₄ Ca ob (neA (by (clear hz hI1 hDD hDI hCI hi hlt; omega))) e
      have kp4 : ∀ b ob, h₁.get? b = some ob → h₄.get? b = some ob := fun b ob e => hk₄ b ob (neI b ob e).1 (kp b ob e)
      refine turn I Ca D v sv h₄ tk₄ _ _ _ isv (List.mem_of_getElem? hsv) kp4 (hn0 Ca (by (clear hz hI1 hDD hII hDI hCI hi hlt; omega))) hn4 (neA (by (clear hz hI1 hDD hDI hCI hi hlt; omega))) (neA (by (clear hz hII hDI hCI hi hlt; omega))) ⟨_, hoi4⟩ ⟨_, hD4⟩ fun y svy h₅ t₅ m₅ hFy iy hn5 hk5 => ?_
      have hys : ys.size ≤ sizeLine := by
        have := hA.length
        have := hF.length
        rw [List.length_take] at this
        rw [sizeLine_eq, ← Array.length_toList]
        (clear hI1 hC hDD hCC hII hDI hCI hi hlt; omega)
      refine wpAny_list_append_plain (hsz := hys) (s := St s h₅ t₅) ⟨n, hk5 D _ (neA (by (clear hz hII hDI hCI hi hlt hys; omega))) hD4⟩ fun h₆ hl₆ hs₆ => ?_
      obtain ⟨n6, hl₆⟩ := hl₆
      have hk6 : ∀ b ob, b ≠ D → h₅.get? b = some ob → h₆.get? b = some ob := fun b ob hb e => hs₆.extBut b ob hb e
      refine ⟨es.length - (i + 1), by (clear hz hI1 hC hDD hCC hII hDI hCI hi hys; omega), i + 1, h₆, t₅, m₅, ys.push y, n6, svs ++ [svy], rfl, rfl, hlt, ?_, hn5.sameBut hs₆ (neA (by (clear hz hII hDI hCI hi hlt hys; omega))), hl₆, ?_, ?_, ?_, ?_⟩
      · exact str.walks.frame _ _ _ hS₄ fun b hb ob e => hk6 b ob (fpn b hb).1 (hk5 b ob (fpn b hb).2 e)
      · rw [Array.toList_push]
        refine (isK (fun b ob q1 q2 q3 e => hk6 b ob q3 (hk5 b ob q2 (hk₄ b ob q1 e))) hA).snoc ?_
        exact SV.is_imp (.refl W₁) (fun b ob e m => ⟨hk6 b ob (fun q => m (.inr (.inr (.inr (.inr q))))) e, m⟩) iy
      · rw [List.take_add_one, hsv]
        exact hF.snoc hFy
      · exact fun b ob e => hk6 b ob (neI b ob e).2.2 (hk5 b ob (neI b ob e).2.1 (kp4 b ob e))
      · exact ⟨oi4, hk6 _ _ (neA (by (clear hz hC hCC hDI hCI hi hlt hys; omega))) (hk5 _ _ (neA (by (clear hz hI1 hDD hDI hCI hi hlt hys; omega))) hoi4)⟩
    · have hin : i = es.length := by (clear hz hI1 hC hDD hCC hII hDI hCI; omega)
      refine str.walks.done _ _ _ (hin ▸ hS) fun h₄ tk₄ hk₄ => ?_
      have hk₄ : ∀ b ob, b ≠ I → h'.get? b = some ob → h₄.get? b = some ob := fun b ob hb e => hk₄ b ob (by simpa using hb) e
      have hF' : All2 F es svs := by
        have := hF
        rwa [hin, List.take_of_length_le (Nat.le_refl _)] at this
      refine hRR Ca D h₄ tk₄ m' ys n svs (hn0 D (by (clear hz hC hCC hII hDI hCI hi hlt hin; omega))) (hn0 Ca (by (clear hz hI1 hDD hII hDI hCI hi hlt hin; omega))) (neA (by (clear hz hII hDI hCI hi hlt hin; omega))) (hn.at' fun ob e => hk₄ Ca ob (neA (by (clear hz hI1 hDD hDI hCI hi hlt hin; omega))) e) (hk₄ D _ (neA (by (clear hz hC hCC hDI hCI hi hlt hin; omega))) hD) ?_ hF' fun b ob e => hk₄ b ob (neI b ob e).1 (kp b ob e)
      refine (isK (fun b ob q1 _ _ e => hk₄ b ob q1 e) hA).imp fun _ _ z => SV.is_imp (.refl W₁) (fun b ob e m => ⟨e, fun q => m (q.elim .inl fun q => .inr (q.elim .inl fun q => .inr (.inr q)))⟩) z
  exact codeAny_compStart_list (loop _ rfl) (str.walks.self 0 _ _ _ hst₂ (loop _ rfl))
end
section
variable {c : Gx} {l : Loc} {W : Wd} {C : SV → Wd → Prop}
theorem Dsp.of {svs sv} (k : Dsp svs sv) {F : Addr → Prop} {h' : Heap} {vs : List Value} {a : Addr} {n : Nat} (i : All2 (SV.is F W h') svs vs) (hn : ¬ W.P F a) (ho : h'.get? a = some (PySem.W.listOf (List.toArray vs) n)) : sv.is F W h' (.ref a) := by
  cases k with
  | nums ns => exact ⟨a, vs, n, rfl, ho, intsOf i, hn⟩
  | lists L => exact ⟨a, vs, n, rfl, ho, All2.imp (fun _ _ z => z) i.ofMap, hn⟩
  | pieces L => exact ⟨a, vs, n, rfl, ho, All2.imp (fun _ _ z => z) i.ofMap, hn⟩
  | trips L => exact ⟨a, vs, n, rfl, ho, All2.imp (fun _ _ z => z) i.ofMap, hn⟩
  | any => exact trivial
/-- a captured name's cell -/
theorem Sim.cell {h : Heap} {x : Str} {sv : SV} (sim : Sim c h l W) (hm : (x, sv) ∈ l) (hk : c.cs.names.lookup x = some .cell) : ∃ a o v, c.cl.lookup x = some a ∧ h.get? a = some o ∧ o.data = .cell (some v) ∧ ¬ W.P c.Fm a ∧ sv.is c.Fm W h v := by
  obtain ⟨m, F, hl⟩ := sim.fr
  obtain ⟨⟨v, hv, i⟩, _⟩ := hl _ hm
  rcases hv with ⟨_, e⟩ | ⟨_, a, o, e1, e2, e3, e4⟩
  · rw [hk] at e; cases e
  · exact ⟨a, o, v, e1, e2, e3, e4, i⟩
/-- a list comprehension over nothing -/
theorem Nw.comp0 {elt target iter : Expr} {scope sc : Scope} {pos : Pos} {x : Str} {sv : SV} (hm : (x, sv) ∈ l) (hsc : c.cs = sc) (hk : sc.names.lookup x = some .cell)
    (hclos : ∀ (env : Env) (a : Addr), env.cells.lookup x = some a → closureFor scope env = pure [(x, a)])
    (hcell : ∀ y ∈ scope.names, y.2 ≠ .cell) (hkind : scope.kind = .function) (hnames : ∀ y ∈ scope.names, y.2 = .local → scope.names.lookup y.1 = some .local)
    (H : Ev c l W iter fun sv W₁ => Itr sv [] ∧ C (.lst []) W₁) (hs : ∀ env v, foldedSetIterable iter env v = pure v) : Nw c l W (.ListComp elt [⟨target, iter, [], 0⟩] scope pos) C := by
  intro s h t Q E sim hQ
  obtain ⟨a, _, _, ea, _⟩ := sim.cell hm (by rw [hsc]; exact hk)
  rw [eval_ListComp]
  refine wpAny_comprehension_free (use := none) rfl (hs _) (hclos c.env a ea) hkind hnames ?_
  refine H s h t _ E _ sim rfl fun v h₁ t₁ sv W₁ i sim₁ st ⟨k, hC⟩ => ?_
  refine k.start (by simp) sim₁ i fun o P S fp str => ?_
  refine blockT (RR := fun acc C => compPost c.M c.A E none Q acc C) sim₁ str (by simp) hcell hkind (fun _ _ => False) (fun _ _ _ _ _ _ _ _ _ _ _ hm => (nomatch hm)) ?_
  intro C' D h' tk m' ys n svs hD hC' hDC hn hDo hA hF kp
  cases hF
  refine ⟨m', hn, fun h'' hs'' => ?_⟩
  have k2 : ∀ b o, b ≠ C' → h'.get? b = some o → h''.get? b = some o := fun b o hb e => hs''.extBut b o hb e
  have up : ∀ b o, h₁.get? b = some o → h''.get? b = some o := fun b o e => k2 b o (by rintro rfl; rw [hC'] at e; cases e) (kp b o e)
  have hys : ys.toList = [] := by
    generalize ys.toList = q at hA
    cases hA; rfl
  exact hQ D h₁ h'' tk (.lst []) W₁ sim₁ up hD ⟨D, [], n, rfl, by rw [k2 D _ hDC hDo]; cases ys; simp at hys; subst hys; rfl, .nil, sim₁.fresh hD⟩ st hC

theorem tripsOf {a0 : Int} : ∀ {L : List (Int × Int)} {svs : List SV}, All2 (fun sv svy => ∃ p q, sv = SV.trip p q ∧ svy = SV.trip (p - a0) (q - a0)) (L.map fun p => SV.trip p.1 p.2) svs → svs = L.map fun p => SV.trip (p.1 - a0) (p.2 - a0)
  | [], _, h => by cases h; rfl
  | _ :: _, _, h => by cases h with | cons e r => obtain ⟨a1, b1, e1, e2⟩ := e; cases e1; rw [List.map_cons, e2, tripsOf r]
/-- a tuple of three into three names, in any environment of a block -/
theorem assign3 {s : Shared} {h : Heap} {t : Nat} {env : Env} {x1 x2 x3 : Str} {p1 p2 p3 tp : Pos} {kk : Nat} {T : Addr} {v1 v2 v3 : Value} {m : Str → Option Value} {Q : Unit → Shared → Prop} {E : Value → Shared → Prop} (hh : c.A.handled = none) (ht : h.IsTuple T #[v1, v2, v3])
    (h1 : env.kindOf x1 = some .local) (h2 : env.kindOf x2 = some .local) (h3 : env.kindOf x3 = some .local) (hp : (env.scope.kind == .class || (env.scope.kind == .module && env.locals != env.globals)) = false) (hn : h.Ns env.locals m)
    (hQ : ∀ (h' : Heap) (tk : Nat), h'.Ns env.locals (fun z => if z = x3 then some v3 else if z = x2 then some v2 else if z = x1 then some v1 else m z) → (∀ c o, c ≠ env.locals → h.get? c = some o → h'.get? c = some o) → Q () (St s h' tk)) :
    wpAny c.M c.A (assign (.Tuple [.Name x1 p1, .Name x2 p2, .Name x3 p3] kk tp) env (.ref T)) Q E (St s h t) := by
  refine wpAny_assign_Tuple (s := St s h t) hh ht rfl rfl fun h₁ he₁ => ?_
  have hL : env.locals ≠ h.objs.size := Nat.ne_of_lt hn.lt
  have hn₁ : h₁.Ns env.locals m := hn.at' fun o e => he₁ _ o hL e
  have up₁ : ∀ c o, h.get? c = some o → h₁.get? c = some o := fun c o e => he₁ c o (Nat.ne_of_lt (Heap.lt_size e)) e
  show wpAny _ _ (assignInOrder [assign (.Name x1 p1) env, assign (.Name x2 p2) env, assign (.Name x3 p3) env] [v1, v2, v3]) _ _ _
  refine assignInOrder_cons ?_
  refine wpAny_assign_Name (wpAny_storeName_local h1 hn₁ (fun h₂ hn₂ hs₂ => ?_) hp)
  refine assignInOrder_cons ?_
  refine wpAny_assign_Name (wpAny_storeName_local h2 hn₂ (fun h₃ hn₃ hs₃ => ?_) hp)
  refine assignInOrder_cons ?_
  refine wpAny_assign_Name (wpAny_storeName_local h3 hn₃ (fun h₄ hn₄ hs₄ => ?_) hp)
  refine assignInOrder_nil ?_
  exact hQ h₄ _ hn₄ fun c o hc e => hs₄.extBut c o hc (hs₃.extBut c o hc (hs₂.extBut c o hc (up₁ c o e)))
/-- runs = [(low - start, high - start, list(plist)) for low, high, plist in ..] -/
theorem Sx.assignRuns {y x1 x2 x3 st0 : Str} {p1 p2 p3 p4 p5 p6 p7 p8 p9 q1 q2 q3 tp tp2 py pos spos : Pos} {kk k2 : Nat} {iter : Expr} {scope sc : Scope} {a0 : Int} {D : Fl → Loc → Wd → Prop}
    (hsw : ∀ env : Env, env.scope = sc → swapsWith (.ListComp (.Tuple [.BinOp (.Name x1 p1) .Sub (.Name st0 p2) p3, .BinOp (.Name x2 p4) .Sub (.Name st0 p5) p6, .Call (.Name (Str.ofString "list") p7) [.Name x3 p8] [] p9] k2 tp2) [⟨.Tuple [.Name x1 q1, .Name x2 q2, .Name x3 q3] kk tp, iter, [], 0⟩] scope pos) (some (.Name y py)) spos.line env = pure true)
    (hm : (st0, .int a0) ∈ l) (hsc : c.cs = sc) (hk : sc.names.lookup st0 = some .cell)
    (hclos : ∀ (env : Env) (a : Addr), env.cells.lookup st0 = some a → closureFor scope env = pure [(st0, a)])
    (hcell : ∀ y ∈ scope.names, y.2 ≠ .cell) (hkind : scope.kind = .function) (hnames : ∀ y ∈ scope.names, y.2 = .local → scope.names.lookup y.1 = some .local)
    (h1 : scope.names.lookup x1 = some .local) (h2 : scope.names.lookup x2 = some .local) (h3 : scope.names.lookup x3 = some .local) (h12 : x1 ≠ x2) (h13 : x1 ≠ x3) (h23 : x2 ≠ x3)
    (hd1 : (x1 == Str.ofString "__debug__") = false) (hd2 : (x2 == Str.ofString "__debug__") = false) (hd3 : (x3 == Str.ofString "__debug__") = false) (hd0 : (st0 == Str.ofString "__debug__") = false)
    (hrl : ∀ env : Env, env.scope = sc → (relabel scope env).names.lookup st0 = some .cell ∧ (relabel scope env).names.lookup (Str.ofString "list") = some .globalImplicit)
    (hky : sc.names.lookup y = some .local) (hdy : (y == Str.ofString "__debug__") = false) (hnew : (l.all fun p => !(p.1 == y)) = true)
    (hc : ∀ env, eval (.Call (.Name (Str.ofString "list") p7) [.Name x3 p8] [] p9) env = (do callWith p9 (← eval (.Name (Str.ofString "list") p7) env) [] (backTo p9 (starEach [.Name x3 p8] env)) (backToKw p9 (keywordEach [] env))))
    (H : Ev c l W iter fun sv W₁ => ∃ L, sv = .trips L ∧ L.length ≤ 1000000 ∧ D .next ((y, .trips (L.map fun p => (p.1 - a0, p.2 - a0))) :: l) W₁)
    (hs : ∀ env v, foldedSetIterable iter env v = pure v) :
    Sx c l W (.Assign [.Name y py] (.ListComp (.Tuple [.BinOp (.Name x1 p1) .Sub (.Name st0 p2) p3, .BinOp (.Name x2 p4) .Sub (.Name st0 p5) p6, .Call (.Name (Str.ofString "list") p7) [.Name x3 p8] [] p9] k2 tp2) [⟨.Tuple [.Name x1 q1, .Name x2 q2, .Name x3 q3] kk tp, iter, [], 0⟩] scope pos) spos) D := by
  intro s h t Q E sim hQ
  obtain ⟨a, _, _, ea, _⟩ := sim.cell hm (by rw [hsc]; exact hk)
  rw [exec_Assign_Name_used _ _ _ _ (hsw c.env hsc)]
  refine wpAny_bind (wpAny_standAt (wpAny_bind ?_))
  show wpAny _ _ (do let _ ← comprehension (.ListComp (.Tuple [.BinOp (.Name x1 p1) .Sub (.Name st0 p2) p3, .BinOp (.Name x2 p4) .Sub (.Name st0 p5) p6, .Call (.Name (Str.ofString "list") p7) [.Name x3 p8] [] p9] k2 tp2) [⟨.Tuple [.Name x1 q1, .Name x2 q2, .Name x3 q3] kk tp, iter, [], 0⟩] scope pos) scope c.env _ (newList []) false (eval iter c.env) (some (PySem.assign (.Name y py) c.env))) _ _ _
  refine wpAny_bind (wpAny_mono (wpAny_comprehension_free (use := some (PySem.assign (.Name y py) c.env)) (Q := fun _ s' => Q .next s') rfl (hs _) (hclos c.env a ea) hkind hnames ?_) (fun _ s' hq => wpAny_pure (wpAny_pure hq)) fun _ _ e => e)
  refine H s h t _ E _ sim rfl fun v h₁ t₁ sv W₁ i sim₁ st ⟨L, e1, hz, hD⟩ => ?_
  subst e1
  refine Itr.trips.start (by rw [List.length_map]; exact hz) sim₁ i fun o P S fp str => ?_
  obtain ⟨a', oc, vc, ea', hoc, hocd, hPc, ivc⟩ := sim₁.cell hm (by rw [hsc]; exact hk)
  obtain ⟨u0, rfl⟩ := ivc
  rw [ea] at ea'
  obtain rfl := Option.some.inj ea'
  obtain ⟨m, F, hl⟩ := sim₁.fr
  obtain ⟨p, loose, mean, mg, mb, T⟩ := sim₁.ok.T
  have T' := topRead_of T
  obtain ⟨hr1, hr2⟩ := hrl c.env hsc
  refine blockT (RR := fun acc C => compPost c.M c.A E (some (PySem.assign (.Name y py) c.env)) (fun _ s' => Q .next s') acc C) sim₁ str (by rw [List.length_map]; exact hz) hcell hkind (fun sv svy => ∃ p q, sv = .trip p q ∧ svy = .trip (p - a0) (q - a0)) ?_ ?_
  · intro I Ca D' v sv h₃ t₃ m₃ Q' E' iv hmem kp hC0 hn3 hIC hDC ⟨oI, hI⟩ ⟨oD, hDl⟩ hQ'
    obtain ⟨⟨p, q⟩, -, rfl⟩ := List.mem_map.mp hmem
    obtain ⟨x, tx, ux, nx, v3, rfl, hx, iv3, hPx⟩ := iv
    refine assign3 (env := compEnvC scope [(st0, a)] Ca c.env) (m := m₃) sim₁.ok.hd ⟨_, kp _ _ hx, rfl, _, rfl⟩ (lookup_relabel_local h1) (lookup_relabel_local h2) (lookup_relabel_local h3) (by simp [compEnvC, relabel, hkind]) hn3 fun h₄ t₄ hn4 k4 => ?_
    have kC : ∀ b o, h₁.get? b = some o → h₄.get? b = some o := fun b o e => k4 b o (fun hb => by rw [hb, show h₁.get? (compEnvC scope [(st0, a)] Ca c.env).locals = none from hC0] at e; cases e) (kp b o e)
    have hkn : (compEnvC scope [(st0, a)] Ca c.env).scope.kind = .function := by simp [compEnvC, relabel, hkind]
    have nm : ∀ {x : Str} {pos : Pos} {v : Value} {t' : Nat} {h' : Heap} {m' : Str → Option Value} {Q : Value → Shared → Prop} {E : Value → Shared → Prop}, scope.names.lookup x = some .local → h'.Ns Ca m' → m' x = some v → (x == Str.ofString "__debug__") = false → Q v (St s h' t') → wpAny c.M c.A (eval (.Name x pos) (compEnvC scope [(st0, a)] Ca c.env)) Q E (St s h' t') :=
      fun e1 e2 e3 e4 e5 => wpAny_Name (wpAny_loadName_local (env := compEnvC scope [(st0, a)] Ca c.env) hkn (lookup_relabel_local e1) e2 e3 e5) e4
    have cellN : ∀ {pos : Pos} {t' : Nat} {Q : Value → Shared → Prop} {E : Value → Shared → Prop}, Q (.int a0 u0) (St s h₄ t') → wpAny c.M c.A (eval (.Name st0 pos) (compEnvC scope [(st0, a)] Ca c.env)) Q E (St s h₄ t') :=
      fun e5 => wpAny_Name (wpAny_loadName_cell (s := St s h₄ _) (env := compEnvC scope [(st0, a)] Ca c.env) hkn hr1 (c := a) (by show List.lookup st0 [(st0, a)] = _; simp [List.lookup_cons]) ⟨oc, kC _ _ hoc, hocd⟩ e5) hd0
    refine Tuple_ ?_
    refine spliced_more ?_ rfl
    refine wpAny_BinOp ?_
    refine nm (v := .int p tx) h1 hn4 (by simp [h13, h12]) hd1 ?_
    refine cellN ?_
    refine PyProof.Rows.sub_int ?_
    refine spliced_more ?_ rfl
    refine wpAny_BinOp ?_
    refine nm (v := .int q ux) h2 hn4 (by simp [h23]) hd2 ?_
    refine cellN ?_
    refine PyProof.Rows.sub_int ?_
    refine spliced_more ?_ rfl
    refine Call_ ?_ (hc _)
    have F₄ : Fr c.g c.L h₄ m := ⟨F.ns.at' fun o e => kC _ o e, fun b o e => kC b o (F.keep b o e), F.above⟩
    refine PySem.Calls.Name_function_global (env := compEnvC scope [(st0, a)] Ca c.env) hkn hr2 (PySem.Calls.loadGlobal_builtin (env := compEnvC scope [(st0, a)] Ca c.env) (T'.g.keeps F₄.keep) (mg_none_of sim₁.ok.X T'.g (sim₁.ok.F.blt (Str.ofString "list") (by kernel_rfl))) (T'.b.keeps F₄.keep) ((T'.builtins (Str.ofString "list") (by decide)).trans PyProof.Rows.boot_list) ?_) (by kernel_rfl)
    refine PyProof.Rows.callWith_type1 ?_ rfl rfl
    refine spliced_more ?_ rfl
    refine nm (v := v3) h3 hn4 (by simp) hd3 ?_
    refine spliced_none ?_
    obtain ⟨a3, us, n3, rfl, q3, j3, m3⟩ := iv3
    refine call_list_seq (s := St s h₄ _) a3 (.inl rfl) (kC _ _ q3) rfl rfl (fun h₅ c5 kp5 ho5 => ?_) (by rw [List.size_toArray, j3.length, sizeLine_eq]; decide)
    refine spliced_none ?_
    refine newTup (by simp) ?_
    have k5 : ∀ b o, h₄.get? b = some o → h₅.get? b = some o := kp5
    have kp6 : ∀ b o, h₅.get? b = some o → (h₅.push { cls := .type "tuple", data := .seq [Value.int (p - a0) t₄, .int (q - a0) (t₄ + 1), .ref h₄.objs.size].toArray }).get? b = some o := push_keep
    have ho : (h₅.push { cls := .type "tuple", data := .seq [Value.int (p - a0) t₄, .int (q - a0) (t₄ + 1), .ref h₄.objs.size].toArray }).get? h₅.objs.size = some _ := Heap.get?_push_size _ rfl
    have lt5 : @LT.lt Nat _ h₄.objs.size h₅.objs.size := Heap.lt_size ho5
    have nP : ∀ z, @LE.le Nat _ h₄.objs.size z → ¬ W₁.P (fun x => c.Fm x ∨ x = I ∨ x = Ca ∨ x = D') z := fun z hz hp => by
      have key : ∃ o, h₄.get? z = some o := by
        rcases hp with hp | hp | rfl | rfl | rfl
        · obtain ⟨o, e⟩ := sim₁.live (.inl hp); exact ⟨o, kC _ _ e⟩
        · obtain ⟨o, e⟩ := sim₁.live (.inr hp); exact ⟨o, kC _ _ e⟩
        · exact ⟨_, k4 _ _ hIC hI⟩
        · obtain ⟨o, _, _, e, _⟩ := hn4; exact ⟨o, e⟩
        · exact ⟨_, k4 _ _ hDC hDl⟩
      obtain ⟨o, e⟩ := key
      exact absurd (Heap.lt_size e) (Nat.not_lt.mpr hz)
    refine hQ' _ (.trip (p - a0) (q - a0)) _ _ _ ⟨p, q, rfl, rfl⟩ ⟨_, _, _, _, _, rfl, ho, ⟨_, us, c5, rfl, kp6 _ _ ho5, j3, nP _ (Nat.le_refl _)⟩, nP _ (Nat.le_of_lt lt5)⟩ (hn4.at' fun o e => kp6 _ _ (k5 _ o e)) fun b o hb e => kp6 _ _ (k5 _ _ (k4 b o hb e))
  · intro Ca D' h' tk m' ys n svs hD0 hC0 hDC hn hDo hA hF kp
    have neL : ∀ b, h₁.get? b = none → c.L ≠ b := fun b e z => by obtain ⟨oL, _, _, hL, _⟩ := F.ns; rw [z, e] at hL; cases hL
    show wpAny _ _ (PySem.assign (.Name y py) c.env (.ref D')) _ _ _
    refine wpAny_assign_Name (wpAny_storeName_local (s := St s h' tk) (env := c.env) (by show c.cs.names.lookup y = _; rw [hsc]; exact hky) (F.ns.at' fun o e => kp _ o e) (fun h₂ hn₂ hs₂ => ?_) (by show (c.cs.kind == .class || (c.cs.kind == .module && _)) = false; rw [sim.ok.kf]; rfl))
    refine ⟨m', hn.sameBut hs₂ (Ne.symm (neL Ca hC0)), fun h₃ hs₃ => ?_⟩
    have k2 : ∀ b o, b ≠ c.L → b ≠ Ca → h'.get? b = some o → h₃.get? b = some o := fun b o q1 q2 e => hs₃.extBut b o q2 (hs₂.extBut b o q1 e)
    have up : ∀ b o, b ≠ c.L → h₁.get? b = some o → h₃.get? b = some o := fun b o q1 e => k2 b o q1 (fun z => by rw [z, hC0] at e; cases e) (kp b o e)
    have hn₃ : h₃.Ns c.L (fun z => if z = y then some (.ref D') else m z) := hn₂.sameBut hs₃ (neL Ca hC0)
    have hA' : All2 (SV.is c.Fm W₁ h₃) svs ys.toList := hA.imp fun _ _ z => SV.is_imp (.refl W₁) (fun b o e mm => ⟨k2 b o (fun q => mm (.inr (.inl (c.XF _ q)))) (fun q => mm (.inr (.inr (.inl q)))) e, fun q => mm (q.elim .inl fun q => .inr (.inl q))⟩) z
    have hsv : svs = L.map fun p => SV.trip (p.1 - a0) (p.2 - a0) := tripsOf hF
    have isD : SV.is c.Fm W₁ h₃ (.trips (L.map fun p => (p.1 - a0, p.2 - a0))) (.ref D') := by
      refine Dsp.of (svs := svs) ?_ hA' (sim₁.fresh hD0) (n := n) (by rw [k2 D' _ (Ne.symm (neL D' hD0)) hDC hDo])
      rw [hsv]
      have := Dsp.trips (L.map fun p => (p.1 - a0, p.2 - a0))
      rw [List.map_map] at this
      exact this
    obtain ⟨sim₂, st₂⟩ := sim₁.stored F hl hn₃ up isD rfl (by rw [hsc]; exact hky) hdy
    exact hQ .next h₃ _ .next _ W₁ rfl (sim₂.fewer fun q hq => mem_new hnew q hq) (st.trans st₂) hD
end
section
variable {c : Gx} {l : Loc} {W : Wd} {C : SV → Wd → Prop}
theorem SetA.at' {r : Role} {y : Str} {sv : SV} {Cl : Addr} {A A' : List (Str × SV)} {D : Wd → Prop} (ho : W.ob r = .inst Cl A) (hC : isCls Cl = true) (hx : attOk Cl y = true) (hlen : A.length ≤ 30) (hA : setA y sv A = A') (hD : D (W.put r (.inst Cl A'))) : SetA c l W (.role r) y sv D :=
  SetA.role ho hC hx hlen (by rw [hA]; exact hD)
/-- an attribute is set by a value that may be any role's -/
theorem Sx.setattrK {o e : Expr} {x : Str} {pos' pos : Pos} {D : Fl → Loc → Wd → Prop} (H : Ev c l W e fun sv W₁ => Ev c l W₁ o fun ov W₂ => Keep sv W₁ W₂ ∧ SetA c l W₂ ov x sv fun W₃ => D .next l W₃)
    (hsw : ∀ env, swapsWith e (some (.Attribute o x pos')) pos.line env = pure false) : Sx c l W (.Assign [.Attribute o x pos'] e pos) D := by
  intro s h t Q E sim hQ
  refine plainObj_wpAny_Assign_Attribute ?_ (hsw _)
  refine H s h t _ E _ sim rfl fun v h' t' sv W' i sim' st H' => ?_
  refine H' s h' t' _ E _ sim' rfl fun ov h2 t2 osv W2 i2 sim2 st2 ⟨kp, H2⟩ => ?_
  exact H2 s h2 t2 _ E ov v sim2 i2 (kp.is st2 i) fun h3 t3 W3 sim3 st3 hD => hQ .next h3 t3 .next l W3 rfl sim3 ((st.trans st2).trans st3) hD
/-- a list display that becomes a role's list of values -/
theorem Ev.listS {es : List Expr} {pos : Pos} (r : Role) (H : Ars c l W (spliced (backTo pos (starEach es c.env))) fun svs W₁ => svs.length ≤ 100 ∧ svs.all SV.stable = true ∧ W₁.ob r = .absent ∧ (∀ sv ∈ svs, sv ≠ .role r) ∧ ∀ x, C (.role r) (W₁.born r x x (.slist svs))) : Ev c l W (.List es pos) C := by
  intro s h t Q E tr sim htr hQ
  subst htr
  refine List_ (H s h t _ E sim fun vs h' t' svs W' a sim' st ⟨hz, hst, hab, hnr, hC⟩ => ?_)
  refine wpAny_newObj_type ?_ (by show vs.toArray.size ≤ sizeLine; rw [List.size_toArray, sizeLine_eq, ← a.length]; (clear hz; omega))
  obtain ⟨b1, b2, b3⟩ := W'.born_self r h'.objs.size h'.objs.size (.slist svs)
  have e1 : (W'.born r h'.objs.size h'.objs.size (.slist svs)).adrs r = [h'.objs.size] := by unfold Wd.adrs; rw [b1, b2]
  have kp : ∀ b o, h'.get? b = some o → (h'.push { cls := .type "list", data := .seq vs.toArray }).get? b = some o := push_keep
  have kk : ∀ b o, h'.get? b = some o → ¬ W'.P c.Fm b → (h'.push { cls := .type "list", data := .seq vs.toArray }).get? b = some o ∧ ¬ (W'.born r h'.objs.size h'.objs.size (.slist svs)).P c.Fm b := fun b o e m => ⟨kp b o e, fun z => z.elim (fun ⟨r', y⟩ => by
    by_cases q : r' = r
    · subst q
      rw [e1] at y
      simp only [List.mem_cons, List.not_mem_nil, or_false] at y
      subst y
      rw [none_at_size] at e; cases e
    · rw [W'.born_adrs _ _ _ q] at y; exact m (.inl ⟨r', y⟩)) fun y => m (.inr y)⟩
  obtain ⟨sim2, st2⟩ := sim'.born (h' := h'.push { cls := .type "list", data := .seq vs.toArray }) (x := h'.objs.size) (dx := h'.objs.size) (so := .slist svs) hab kp (fun y hy => by rw [e1] at hy; simp at hy; subst hy; exact none_at_size h') (by rw [e1]; simp) (by intro z; cases z)
    ⟨vs, 0, by rw [b2, Heap.get?_push_size _ rfl], a.core fun sv hm v i => SV.is_core kk (fun r' e _ => by
      have hne : r' ≠ r := fun q => hnr _ hm (by rw [e, q])
      obtain ⟨p1, p2, _⟩ := W'.born_ne h'.objs.size h'.objs.size (.slist svs) hne
      exact ⟨p2, by rw [p1]; assumption⟩) i⟩
  exact hQ _ _ t' (.role r) _ ⟨by rw [b2], by rw [b1]; intro z; cases z⟩ sim2 (st.trans st2.nil) (hC _)
/-- four values into four names -/
theorem Sx.tup4 {x1 x2 x3 x4 : Str} {q1 q2 q3 q4 : Pos} {es : List Expr} {k k' : Nat} {tp ep pos : Pos} {D : Fl → Loc → Wd → Prop} {sc : Scope} (hs : c.cs = sc)
    (h1 : sc.names.lookup x1 = some .local) (h2 : sc.names.lookup x2 = some .local) (h3 : sc.names.lookup x3 = some .local) (h4 : sc.names.lookup x4 = some .local)
    (d1 : (x1 == Str.ofString "__debug__") = false) (d2 : (x2 == Str.ofString "__debug__") = false) (d3 : (x3 == Str.ofString "__debug__") = false) (d4 : (x4 == Str.ofString "__debug__") = false)
    (n1 : (l.all fun p => !(p.1 == x1)) = true) (n2 : (l.all fun p => !(p.1 == x2)) = true) (n3 : (l.all fun p => !(p.1 == x3)) = true) (n4 : (l.all fun p => !(p.1 == x4)) = true)
    (e21 : (x1 == x2) = false) (e31 : (x1 == x3) = false) (e32 : (x2 == x3) = false) (e41 : (x1 == x4) = false) (e42 : (x2 == x4) = false) (e43 : (x3 == x4) = false)
    (H : Ars c l W (spliced (backTo ep (starEach es c.env))) fun svs W₁ => ∃ a b d e, svs = [a, b, d, e] ∧ svs.all SV.stable = true ∧ D .next ((x4, e) :: (x3, d) :: (x2, b) :: (x1, a) :: l) W₁)
    (hsw : ∀ env, swapsWithSole [.Tuple [.Name x1 q1, .Name x2 q2, .Name x3 q3, .Name x4 q4] k tp] (.Tuple es k' ep) pos.line env = pure false) (hw : ∀ env, swappedStores [.Tuple [.Name x1 q1, .Name x2 q2, .Name x3 q3, .Name x4 q4] k tp] (.Tuple es k' ep) env = pure none) : Sx c l W (.Assign [.Tuple [.Name x1 q1, .Name x2 q2, .Name x3 q3, .Name x4 q4] k tp] (.Tuple es k' ep) pos) D := by
  refine Sx.tup (fun s h t Q E sim hQ => H s h t Q E sim fun vs h' t' svs W' a sim' st ⟨sa, sb, sd, se, e0, hst, hD⟩ => hQ vs h' t' svs W' a sim' st ⟨hst, by rw [e0]; rfl, ?_⟩) (fun _ => rfl) (fun _ => rfl) (by decide : (4 : Nat) ≤ 100) hsw (fun _ _ => hw _)
  subst e0
  have st2 : [sb, sd, se].all SV.stable = true := by simp only [List.all_cons, Bool.and_eq_true] at hst ⊢; exact hst.2
  have st3 : [sd, se].all SV.stable = true := by simp only [List.all_cons, Bool.and_eq_true] at st2 ⊢; exact st2.2
  have st4 : [se].all SV.stable = true := by simp only [List.all_cons, Bool.and_eq_true] at st3 ⊢; exact st3.2
  have f1 : sa.stable = true := by simp only [List.all_cons, Bool.and_eq_true] at hst; exact hst.1
  have f2 : sb.stable = true := by simp only [List.all_cons, Bool.and_eq_true] at st2; exact st2.1
  have f3 : sd.stable = true := by simp only [List.all_cons, Bool.and_eq_true] at st3; exact st3.1
  have f4 : se.stable = true := by simp only [List.all_cons, Bool.and_eq_true] at st4; exact st4.1
  refine Aio.cons (ms := [PySem.assign (.Name x2 q2) c.env, PySem.assign (.Name x3 q3) c.env, PySem.assign (.Name x4 q4) c.env]) (svs := [sb, sd, se]) st2 (As1.nameNew hs h1 d1 n1 f1 ?_)
  refine Aio.cons (ms := [PySem.assign (.Name x3 q3) c.env, PySem.assign (.Name x4 q4) c.env]) (svs := [sd, se]) st3 (As1.nameNew hs h2 d2 ?_ f2 ?_)
  · rw [List.all_cons, n2, Bool.and_true]; show (!(x1 == x2)) = true; rw [e21]; rfl
  refine Aio.cons (ms := [PySem.assign (.Name x4 q4) c.env]) (svs := [se]) st4 (As1.nameNew hs h3 d3 ?_ f3 ?_)
  · rw [List.all_cons, List.all_cons, n3, Bool.and_true]; show (!(x2 == x3) && !(x1 == x3)) = true; rw [e31, e32]; rfl
  refine Aio.cons (ms := []) (svs := []) rfl (As1.nameNew hs h4 d4 ?_ f4 (Aio.nil hD))
  rw [List.all_cons, List.all_cons, List.all_cons, n4, Bool.and_true]; show (!(x3 == x4) && (!(x2 == x4) && !(x1 == x4))) = true; rw [e41, e42, e43]; rfl
end
section
variable {c : Gx} {l : Loc} {W : Wd} {C : SV → Wd → Prop}
/-- o.pop(0) of a role's list of ints -/
theorem Ev.pop0 {o : Expr} {ap pos zp : Pos} {kz : Nat} (r : Role)
    (H : Ev c l W o fun ov W₁ => ov = .role r ∧ ∃ n ns, W₁.ob r = .nums (n :: ns) ∧ ns.length ≤ 1000000 ∧ C (.int n) (W₁.put r (.nums ns)))
    (he : ∀ env, starEach [.Constant (.int 0) kz zp] env = (false, eval (.Constant (.int 0) kz zp) env) :: starEach [] env)
    (hc : ∀ env : Env, eval (.Call (.Attribute o (Str.ofString "pop") ap) [.Constant (.int 0) kz zp] [] pos) env = (do
      let ov ← eval o env
      standAt ap.atName
      let (f, first) ← holding [ov] (getMethod ov (Str.ofString "pop") (do return (← importBound o env).getD true))
      callWith pos f first (backTo pos (starEach [.Constant (.int 0) kz zp] env)) [])) : Ev c l W (.Call (.Attribute o (Str.ofString "pop") ap) [.Constant (.int 0) kz zp] [] pos) C := by
  intro s h t Q E tr sim htr hQ
  subst htr
  refine MethodCall_ ?_ (hc _)
  refine H s h t _ E _ sim rfl fun v h' t' sv W' i sim' st ⟨e1, n, ns, ho, hz, hC⟩ => ?_
  subst e1
  obtain ⟨rfl, _⟩ := i
  have Hr := sim'.ws.holds r
  rw [ho] at Hr
  obtain ⟨vs, m, q, j⟩ := Hr
  refine getMethod_builtin ⟨_, q, rfl⟩ PySem.F.plainAttrs_list PySem.F.slot_list_pop (by exact PySem.F.type_list_pop) (fun a e => by cases e; exact ⟨_, q, rfl⟩) ?_
  refine callWith_method1 ?_ (he _) rfl
  refine spliced_more ?_ (he _)
  refine wpAny_Constant_int ?_
  refine spliced_none ?_
  cases j with
  | @cons n t0 us ns' j =>
    have q2 : (St s h' t').heap.get? (W'.ad r) = some (PySem.W.listOf (List.toArray (.int n t0 :: us)) m) := q
    have hz' : (List.toArray (Value.int n t0 :: us)).size ≤ sizeLine := by rw [List.size_toArray, List.length_cons, j.length, sizeLine_eq]; omega
    refine call_meets PySem.F.slot_list_pop ⟨_, q, rfl⟩ PySem.F.entry_list_pop (PySem.F.args_list_pop_2 _ _) (PySem.MeetsSeq.list_pop_at (W'.ad r) _ m 0 _ 0 (.int n t0) (by decide) (by simp [seqIndex?]) (by simp) hz') ⟨q2, ?_⟩
    let f : Obj → Obj := Obj.mapSeq fun xs => xs.eraseIdxIfInBounds 0
    have hf : ∃ m', f (PySem.W.listOf (List.toArray (.int n t0 :: us)) m) = PySem.W.listOf (List.toArray us) m' := by
      refine ⟨?_, ?_⟩
      rotate_left
      · show PySem.W.listOf ((List.toArray (.int n t0 :: us)).eraseIdxIfInBounds 0) _ = _
        rw [show (List.toArray (Value.int n t0 :: us)).eraseIdxIfInBounds 0 = us.toArray from kl_erase [] us (.int n t0)]
    obtain ⟨m', hf⟩ := hf
    have kk : Like W' (W'.put r (.nums ns)) := Like.put (by rw [ho]; rfl)
    have hadr : W'.adrs r = [W'.ad r] := by unfold Wd.adrs; rw [ho]
    have hk' : ∀ b o, h'.get? b = some o → b ∉ W'.adrs r → (h'.update (W'.ad r) f).get? b = some o := fun b o e m => by
      rw [hadr] at m
      rw [Heap.get?_update_ne _ _ _ _ (fun q => m (by rw [q]; simp))]; exact e
    have hl' := upd_live (f := f) q (by rw [hf]; rfl)
    have stp : Stp Nil W' h' (W'.put r (.nums ns)) (h'.update (W'.ad r) f) := Like.stp (r := r) kk hk' hl'
    have ws : WS c.w c.Fm c.g c.L (h'.update (W'.ad r) f) (W'.put r (.nums ns)) := by
      refine WS.put (r := r) sim'.ws kk hk' (fun r' e => Wd.put_ne _ _ e) ?_
      rw [Wd.put_self]
      exact ⟨us, m', by show (h'.update (W'.ad r) f).get? (W'.ad r) = _; rw [Heap.get?_update_self f q (by rw [hf]; rfl), hf], j⟩
    exact hQ _ _ _ (.int n) _ iInt (sim'.stp stp ws) (st.trans stp.nil) hC
/-- a role's list of ints against [] -/
theorem Cmp.neR0 {r : Role} {ns : List Int} (ho : W.ob r = .nums ns) (hC : C (.bool (!decide (ns = []))) W) : Cmp c l W .NotEq (.role r) (.lst []) C := Cmp.neN (.role ho) .lst hC
end
section
noncomputable abbrev bmX : List Value := [.type "Exception", .type "BaseException", .type "object"]
theorem ns_some_of {K : Frag} {h : Heap} {N : Addr} {mg : Str → Option Value} {n : Str} {v : Value} (X : K.In h) (G : h.Ns N mg) (e : nsIn K N n = some (some v)) : mg n = some v := by
  obtain ⟨o, es, ep, ho, hd, _, hf⟩ := G
  unfold nsIn at e
  split at e
  · rename_i c d es' n' sl q
    have := X _ _ q
    rw [ho] at this
    cases this
    cases hd
    split at e
    · rename_i en he
      cases e
      rw [← hf]
      unfold nsFind findBy
      rw [← Array.find?_toList, he]
      rfl
    · split at e <;> cases e
  · cases e
structure SigCls (h : Heap) (mN : Str → Option Value) : Prop where
  obj : ∃ N nm q bs sn sub ab col dd k0 k1 k2 k3 k5, h.get? 38 = some (excClassObj nm q 38 N bs bmX true sn sub ab col dd k0 k1 k2 k3 k5 "Exception.__new__") ∧ h.Ns N mN
  init : mN "__init__" = some (.ref 35)
  sa : mN "__setattr__" = none
  sym : mN "symbol" = none
  dat : mN "data" = none
theorem len6o {α : Type} {l : List α} (h : l.length = 6) : ∃ a b c d e f, l = [a, b, c, d, e, f] := by
  obtain ⟨a, r1, rfl, h1⟩ := lenA h
  obtain ⟨b, r2, rfl, h2⟩ := lenA h1
  obtain ⟨c, r3, rfl, h3⟩ := lenA h2
  obtain ⟨d, r4, rfl, h4⟩ := lenA h3
  obtain ⟨e, r5, rfl, h5⟩ := lenA h4
  obtain ⟨f, r6, rfl, h6⟩ := lenA h5
  cases List.eq_nil_of_length_eq_zero h6
  exact ⟨a, b, c, d, e, f, rfl⟩
theorem sigCls {K : Frag} {h : Heap} (k : sigK K = true) (X : K.In h) : ∃ mN, SigCls h mN := by
  unfold sigK at k
  split at k
  · rename_i cl dd cd sl ho
    simp only [Bool.and_eq_true, decide_eq_true_eq, Bool.not_eq_true'] at k
    obtain ⟨rfl, hm, h6, hn, hdel, hdict, hok, hi, hsa, hsy, hda⟩ := k
    obtain ⟨nm, bs, mro, ns, qn, hd, sn, sub, ab, col, del⟩ := cd
    dsimp only at hm hdel hdict hok hi hsa hsy hda
    subst hm hdel hdict
    obtain ⟨l⟩ := sl
    obtain ⟨k0, k1, k2, k3, k4, k5, rfl⟩ := len6o (show l.length = 6 from h6)
    have e4 : k4 = some (.builtin "Exception.__new__") := Option.some.inj hn
    subst e4
    have G : h.Ns ns (h.nsMap ns) := .of_isNs (isNs_of_in X hok)
    exact ⟨h.nsMap ns, ⟨ns, nm, qn, bs, sn, sub, ab, col, dd, k0, k1, k2, k3, k5, X _ _ ho, G⟩, ns_some_of X G hi, ns_none_of X G hsa, ns_none_of X G hsy, ns_none_of X G hda⟩
  · cases k
theorem SigCls.keeps {h h' : Heap} {mN} (x : SigCls h mN) (k : ∀ b o, h.get? b = some o → h'.get? b = some o) : SigCls h' mN := by
  obtain ⟨⟨N, nm, q, bs, sn, sub, ab, col, dd, k0, k1, k2, k3, k5, e, n⟩, a1, a2, a3, a4⟩ := x
  exact ⟨⟨N, nm, q, bs, sn, sub, ab, col, dd, k0, k1, k2, k3, k5, k _ _ e, n.keeps k⟩, a1, a2, a3, a4⟩

section
open Builtin Builtin.ObjectAttr
variable {prog : Program} {w : World} {A : Around} {E : Value → Shared → Prop} {h : Heap} {g : Array GenState} {d : Drawn} {t : Nat} {os : OsState} {mN : Str → Option Value} {x : Addr} {name : Str} {v : Value}
theorem tl_symbol : typeLookup (.type "Exception") "symbol" = pure none := by rw [typeLookup_type, builtinLookup_eq_fast]; kernel_rfl
theorem tl_data : typeLookup (.type "Exception") "data" = pure none := by rw [typeLookup_type, builtinLookup_eq_fast]; kernel_rfl
/-- the exception's first attribute: its dict is new -/
theorem sigStore1 {tk : Tok} {o : Obj} {Q : Fin → Shared → Prop} (S : SigCls h mN) (hna : mN name = none) (hB : typeLookup (.type "Exception") name = pure none) (hx : h.get? x = some o) (hc : o.cls = .ref 38) (hnc : ∀ c, o.data ≠ .cls c) (hdn : o.dict = none)
    (hq : ∀ h' tk', h'.get? x = some { cls := o.cls, dict := some h.objs.size, data := o.data, slots := o.slots } → h'.Ns1 h.objs.size (fun y => if y = name then some v else none) → (∀ b ob, b ≠ x → h.get? b = some ob → h'.get? b = some ob) → Q (.done (.ret .none)) ⟨h', g, d, tk', os⟩) :
    wpAny (model prog w) A (Builtin.«object.__setattr__» ⟨[.ref x, .str name tk, v], []⟩) Q E ⟨h, g, d, t, os⟩ := by
  obtain ⟨N, nm, q, bs, sn, sub, ab, col, dd, k0, k1, k2, k3, k5, hC, hn⟩ := S.obj
  have hpass := PySem.F.store_Exception.passes (.ref x)
  unfold Builtin.«object.__setattr__»
  repeat (first | rw [refuse_eq] | (rw [refuseLoop_ref, hpass]) | (with_reducible refine wpAny_loadPart_at hx ?_; rw [hc]) | with_reducible refine wpAny_mroOf_exc hC ?_ | (with_reducible refine wpAny_typeLookup_exc hC hn PySem.F.store_Exception.mro hB ?_; rw [hna]) | wp_step)
  rw [hdn, if_neg (by simp [typeHasDict])]
  split
  · rename_i hcd
    cases hcd
  split
  · rename_i c hcd
    exact absurd hcd (hnc c)
  · have hx₁ : (h.push { cls := .type "dict", data := .dict #[] }).get? x = some o := Heap.get?_push_of_some _ hx
    have hxs : x ≠ h.objs.size := Nat.ne_of_lt (Heap.lt_size hx)
    refine wpAny_bind (wpAny_alloc' ?_)
    refine wpAny_bind (wpAny_update' hx₁ ?_)
    refine wpAny_pure ?_
    have hgd : ((h.push { cls := .type "dict", data := .dict #[] }).update x fun o => { cls := o.cls, dict := some h.objs.size, data := o.data, slots := o.slots }).get? h.objs.size
        = some { cls := .type "dict", data := .dict #[] } :=
      (Heap.get?_update_ne _ _ _ _ hxs.symm).trans (Heap.get?_push_at rfl rfl)
    have hnd : ((h.push { cls := .type "dict", data := .dict #[] }).update x fun o => { cls := o.cls, dict := some h.objs.size, data := o.data, slots := o.slots }).Ns h.objs.size (fun _ => none) :=
      ⟨_, #[], _, hgd, rfl, fun e he => absurd he (by simp), fun _ => rfl⟩
    show wpAny _ _ (storeInDict h.objs.size (.str name tk) name v) _ _ _
    unfold storeInDict newKeyGuard
    refine wpAny_bind (wpAny_pure (wpAny_bind (wpAny_nsSet1 (Heap.Ns1.of_empty hnd) fun h' hn' hs => ?_)))
    obtain ⟨oD, esD, epD, hoD, hdD, hcD⟩ := hn'.count (Within.cons name v Within.nil)
    refine wpAny_bind (wpAny_lookBehind hoD (by rw [hdD]; exact pastItsLine_dict (Nat.le_trans hcD (by rw [List.length_cons, List.length_nil, sizeLine_eq]; (clear hxs hcD; omega)))) ?_)
    wp_walk
    refine hq h' _ ?_ hn' fun b ob hbx hb => ?_
    · refine (hs.2 x hxs).trans (Heap.get?_update_self _ hx₁ ?_)
      have hfr := (Heap.get?_some_iff.mp hx).2
      obtain ⟨oc, od, odt, osl⟩ := o
      cases odt <;> first | rfl | exact hfr
    · exact (hs.2 b (Nat.ne_of_lt (Heap.lt_size hb))).trans ((Heap.get?_update_ne _ _ _ _ hbx).trans (Heap.get?_push_of_some _ hb))
/-- the second -/
theorem sigStore2 {tk : Tok} {o : Obj} {dx : Addr} {n1 : Str} {v1 : Value} {Q : Fin → Shared → Prop} (S : SigCls h mN) (hna : mN name = none) (hB : typeLookup (.type "Exception") name = pure none) (hx : h.get? x = some o) (hc : o.cls = .ref 38) (hdx : o.dict = some dx)
    (hns : h.Ns1 dx (fun y => if y = n1 then some v1 else none))
    (hq : ∀ h' tk', (∀ b ob, b ≠ dx → h.get? b = some ob → h'.get? b = some ob) → Q (.done (.ret .none)) ⟨h', g, d, tk', os⟩) :
    wpAny (model prog w) A (Builtin.«object.__setattr__» ⟨[.ref x, .str name tk, v], []⟩) Q E ⟨h, g, d, t, os⟩ := by
  obtain ⟨N, nm, q, bs, sn, sub, ab, col, dd, k0, k1, k2, k3, k5, hC, hn⟩ := S.obj
  have hpass := PySem.F.store_Exception.passes (.ref x)
  unfold Builtin.«object.__setattr__»
  repeat (first | rw [refuse_eq] | (rw [refuseLoop_ref, hpass]) | (with_reducible refine wpAny_loadPart_at hx ?_; rw [hc]) | with_reducible refine wpAny_mroOf_exc hC ?_ | (with_reducible refine wpAny_typeLookup_exc hC hn PySem.F.store_Exception.mro hB ?_; rw [hna]) | wp_step)
  rw [hdx]
  refine wpAny_pure ?_
  show wpAny _ _ (storeInDict dx (.str name tk) name v) _ _ _
  unfold storeInDict newKeyGuard
  refine wpAny_bind (wpAny_pure (wpAny_bind (wpAny_nsSet1 hns fun h' hn' hs => ?_)))
  obtain ⟨oD, esD, epD, hoD, hdD, hcD⟩ := hn'.count (Within.cons name v (Within.cons n1 v1 Within.nil))
  refine wpAny_bind (wpAny_lookBehind hoD (by rw [hdD]; exact pastItsLine_dict (Nat.le_trans hcD (by rw [List.length_cons, List.length_cons, List.length_nil, sizeLine_eq]; (clear hcD; omega)))) ?_)
  wp_walk
  exact hq h' _ fun b ob hbd hb => (hs.2 b hbd).trans hb
theorem sigSet {o : Obj} {Q : Unit → Shared → Prop} (S : SigCls h mN) (hx : h.get? x = some o) (hc : o.cls = .ref 38)
    (H : ∀ tk, codeAny (model prog w) A (.call (.builtin "object.__setattr__") ⟨[.ref x, .str name tk, v], []⟩) (fun r s' => match r with | .ok (.ret _) => Q () s' | .ok _ => False | .error e => E e s') ⟨h, g, d, t + 1, os⟩) :
    wpAny (model prog w) A (setAttr (.ref x) name v) Q E ⟨h, g, d, t, os⟩ := by
  obtain ⟨N, nm, q, bs, sn, sub, ab, col, dd, k0, k1, k2, k3, k5, hC, hn⟩ := S.obj
  have f3 := PySem.F.store_Exception.slot.bind (.ref x)
  unfold setAttr callSpecial? specialOf
  repeat (any_goals (first | assumption | (with_reducible refine wpAny_loadPart_at hx ?_; rw [hc]) | (with_reducible refine wpAny_typeLookup_exc hC hn PySem.F.store_Exception.mro PySem.F.store_Exception.slot.lookup ?_; rw [S.sa]) | wp_step))
  refine codeAny_mono (H _) fun r s' hr => ?_
  rcases r with e | (v | _ | _ | _) <;> first | exact hr | exact hr.elim | skip
  exact wpAny_pure (wpAny_pure hr)
theorem sa_code {sa owner : String} (SF : StoreFacts "Exception" bmX sa owner) {o : Obj} {tk : Tok} {R : Result → Shared → Prop} (S : SigCls h mN) (hx : h.get? x = some o) (hc : o.cls = .ref 38)
    (H : wpAny (model prog w) A.in1 (Builtin.«object.__setattr__» ⟨[.ref x, .str name tk, v], []⟩) (fun fin s' => match fin with | .done f => R (.ok f) s' | .again c' => c'.quiet = true ∧ codeAny (model prog w) A c' R s') (fun e s' => R (.error e) s') ⟨h, g, d, t, os⟩) :
    codeAny (model prog w) A (.call (.builtin sa) ⟨[.ref x, .str name tk, v], []⟩) R ⟨h, g, d, t, os⟩ := by
  obtain ⟨N, nm, q, bs, sn, sub, ab, col, dd, k0, k1, k2, k3, k5, hC, hn⟩ := S.obj
  exact codeAny_call_builtin SF.slot.plain SF.entry (wpAny_check_sa SF hC hx hc H)
theorem sigSet1 {o : Obj} {Q : Unit → Shared → Prop} (S : SigCls h mN) (hna : mN name = none) (hB : typeLookup (.type "Exception") name = pure none) (hx : h.get? x = some o) (hc : o.cls = .ref 38) (hnc : ∀ c, o.data ≠ .cls c) (hdn : o.dict = none)
    (hq : ∀ h' tk', h'.get? x = some { cls := o.cls, dict := some h.objs.size, data := o.data, slots := o.slots } → h'.Ns1 h.objs.size (fun y => if y = name then some v else none) → (∀ b ob, b ≠ x → h.get? b = some ob → h'.get? b = some ob) → Q () ⟨h', g, d, tk', os⟩) :
    wpAny (model prog w) A (setAttr (.ref x) name v) Q E ⟨h, g, d, t, os⟩ := by
  refine sigSet S hx hc fun tk => ?_
  refine sa_code PySem.F.store_Exception S hx hc ?_
  exact sigStore1 S hna hB hx hc hnc hdn fun h' tk' a b e => hq h' tk' a b e
theorem sigSet2 {o : Obj} {dx : Addr} {n1 : Str} {v1 : Value} {Q : Unit → Shared → Prop} (S : SigCls h mN) (hna : mN name = none) (hB : typeLookup (.type "Exception") name = pure none) (hx : h.get? x = some o) (hc : o.cls = .ref 38) (hdx : o.dict = some dx)
    (hns : h.Ns1 dx (fun y => if y = n1 then some v1 else none))
    (hq : ∀ h' tk', (∀ b ob, b ≠ dx → h.get? b = some ob → h'.get? b = some ob) → Q () ⟨h', g, d, tk', os⟩) :
    wpAny (model prog w) A (setAttr (.ref x) name v) Q E ⟨h, g, d, t, os⟩ := by
  refine sigSet S hx hc fun tk => ?_
  refine sa_code PySem.F.store_Exception S hx hc ?_
  exact sigStore2 S hna hB hx hc hdx hns fun h' tk' a => hq h' tk' a
end
/-- an exception just made -/
structure Made (h h' : Heap) (e : Addr) : Prop where
  keeps : ∀ b o, h.get? b = some o → h'.get? b = some o
  new : h.get? e = none
  there : ∃ oe vs a0, h'.get? e = some oe ∧ oe.cls = .ref 38 ∧ oe.data = .fields vs ∧ vs[0]? = some a0 ∧ vs[1]? = some .none
variable {c : Gx} {l : Loc} {W : Wd}
theorem sigMake {h : Heap} {s : Shared} {t : Nat} {v1 v2 : Value} {Q E : Value → Shared → Prop} (sim : Sim c h l W)
    (hQ : ∀ e h' t', Made h h' e → Q (.ref e) (St s h' t')) : wpAny c.M c.A (PySem.call (.ref 38) [v1, v2]) Q E (St s h t) := by
  have X := sim.K
  obtain ⟨m, F, -⟩ := sim.fr
  obtain ⟨mN, S⟩ := sigCls sim.ok.F.sig X
  obtain ⟨p, loose, mean, mg, mb, T⟩ := sim.ok.T
  have hF := sim.ok.F.f35
  obtain ⟨oc, od, osl, dV, doc, pm, an, ct, ho, hcd, hdef⟩ := hF
  have hdef : dV = .none := hdef
  subst hdef
  have hfc : oc = .type "function" := by
    have := sim.ok.F.i35
    have this : (c.K.lookup 35).map (·.cls) = some (.type "function") := beq_iff_eq.mp this
    rw [ho] at this
    exact Option.some.inj this
  subst hfc
  obtain ⟨N, nm, q, bs, sn, sub, ab, col, dd, k0, k1, k2, k3, k5, hC, hn⟩ := id S.obj
  refine wpAny_call_exc_init (h := h) PySem.F.excBase_Exception hC hn S.init (X _ _ ho) rfl fun h₁ e Mk => ?_
  obtain ⟨tt, he, htn, ht⟩ := Mk.there
  have S₁ := S.keeps Mk.keeps
  refine wpAny_call ?_
  refine codeAny_call_def (s := St s h₁ t) (binds := [(Str.ofString "self", .ref e), (Str.ofString "symbol", v1), (Str.ofString "data", v2)]) ?_ (Mk.keeps _ _ (X _ _ ho)) rfl ((T.nolimit.keeps F.keep).keeps Mk.keeps) ((codeRec_of X hcd).keeps Mk.keeps) rfl (BindsTo.of_eq rfl) ?_ ?_ (fun h₂ hns hk₂ => ?_) rfl rfl rfl
  · have := sim.ok.dep; show c.A.depth + 1 < 1000; omega
  · show ∀ y ∈ [(Str.ofString "self", NameKind.local), (Str.ofString "symbol", NameKind.local), (Str.ofString "data", NameKind.local)], y.2 ≠ .cell
    decide
  · intro y hy
    simp only [List.mem_cons, List.not_mem_nil, or_false] at hy
    rcases hy with rfl | rfl | rfl <;> rfl
  have hk₂ : ∀ b o, h₁.get? b = some o → h₂.get? b = some o := hk₂
  have S₂ := S₁.keeps hk₂
  refine wpAny_execs_cons ?_
  refine plainObj_wpAny_Assign_Attribute ?_ rfl
  refine wpAny_Name (wpAny_loadName_local rfl rfl hns rfl ?_) (by kernel_rfl)
  refine wpAny_Name (wpAny_loadName_local rfl rfl hns rfl ?_) (by kernel_rfl)
  refine sigSet1 S₂ S.sym tl_symbol (hk₂ _ _ he) rfl (fun _ z => nomatch z) rfl fun h₃ t₃ hx3 hn3 hk3 => ?_
  have hLe : h₁.objs.size ≠ e := Nat.ne_of_gt (Heap.lt_size he)
  have S₃ : SigCls h₃ mN := S.keeps fun b o q => hk3 b o (fun z => by rw [z, Mk.new] at q; cases q) (hk₂ _ _ (Mk.keeps _ _ q))
  have hns3 : h₃.Ns h₁.objs.size _ := hns.at' fun o q => hk3 _ o hLe q
  refine wpAny_execs_cons ?_
  refine plainObj_wpAny_Assign_Attribute ?_ rfl
  refine wpAny_Name (wpAny_loadName_local rfl rfl hns3 rfl ?_) (by kernel_rfl)
  refine wpAny_Name (wpAny_loadName_local rfl rfl hns3 rfl ?_) (by kernel_rfl)
  refine sigSet2 S₃ S.dat tl_data hx3 rfl rfl hn3 fun h₄ t₄ hk4 => ?_
  refine wpAny_execs_nil ?_
  refine ⟨rfl, hQ e h₄ t₄ ⟨fun b o q => ?_, Mk.new, _, _, _, hk4 _ _ ?_ hx3, rfl, rfl, rfl, rfl⟩⟩
  · have q1 : h₂.get? b = some o := hk₂ _ _ (Mk.keeps _ _ q)
    refine hk4 b o (Nat.ne_of_lt ?_) (hk3 b o (fun z => by rw [z, Mk.new] at q; cases q) q1)
    exact Heap.lt_size q1
  · exact Nat.ne_of_lt (Heap.lt_size (hk₂ _ _ he))
/-- a run of statements that ends in an exception made in this very frame -/
noncomputable def ExM (c : Gx) (l : Loc) (W : Wd) (b : List Stmt) (C : Wd → Prop) : Prop :=
  ∀ (s : Shared) (h : Heap) (t : Nat) (Q : Flow → Shared → Prop) (E : Value → Shared → Prop), Sim c h l W →
    (∀ e h₁ h' t' l' W', Sim c h₁ l' W' → Stp c.X W h W' h₁ → Made h₁ h' e → C W' → E (.ref e) (St s h' t')) → wpAny c.M c.A (execs b c.env) Q E (St s h t)
theorem raiseMade {s : Shared} {h : Heap} {t : Nat} {e : Expr} {pos : Pos} {Q : Flow → Shared → Prop} {E : Value → Shared → Prop} (sim : Sim c h l W) (hh : c.A.handled = none)
    (H : wpAny c.M c.A (eval e c.env) (fun v s' => ∃ x h₁ h' t', v = .ref x ∧ s' = St s h' t' ∧ (∀ b o, c.g.get? b = some o → h₁.get? b = some o) ∧ Made h₁ h' x ∧ E (.ref x) (St s h' t')) E (St s h t)) : wpAny c.M c.A (exec (.Raise (some e) none pos) c.env) Q E (St s h t) := by
  rw [arm_exec_Raise]
  refine wpAny_bind (wpAny_standAt ?_)
  show wpAny _ _ (raiseStmt c.env (some (do let v ← eval e c.env; standAt pos; pure v)) none) _ _ _
  unfold raiseStmt
  refine wpAny_bind (wpAny_bind (wpAny_mono H (fun v s₁ h₁ => ?_) fun _ _ x => x))
  refine wpAny_bind (wpAny_standAt (wpAny_pure ?_))
  obtain ⟨x, h₁, h', t', rfl, rfl, kg, Mk, hE⟩ := h₁
  obtain ⟨oe, vs, a0, he, hc, hd, h0, h1⟩ := Mk.there
  obtain ⟨mN, S⟩ := sigCls sim.ok.F.sig (sim.ok.X.keeps fun b o q => Mk.keeps b o (kg b o q))
  obtain ⟨N, nm, q, bs, sn, sub, ab, col, dd, k0, k1, k2, k3, k5, hC, hn⟩ := S.obj
  have hcB : (Value.ref 38 :: bmX).contains (.type "BaseException") = true := by decide
  obtain ⟨oc, od, odt, osl⟩ := oe
  dsimp only at hc hd
  subst hc hd
  repeat (first | with_reducible refine wpAny_loadPart_at he ?_ | with_reducible refine wpAny_loadPart_at hC ?_ | (with_reducible refine wpAny_isSubtype_exc hC ?_; rw [hcB]) | wp_step)
  rw [h1]
  refine wpAny_pure ?_
  rw [if_neg (by decide)]
  exact wpAny_pure (wpAny_raiseNew_none hh hE)
theorem ExM.raise {np cpos pos : Pos} {e : Expr} {es : List Expr} {rest : List Stmt} {sc : Scope} {C : Wd → Prop} (hs : c.cs = sc) (hk : sc.names.lookup (Str.ofString "LispSignal") = some .globalImplicit)
    (H : Ars c l W (spliced (backTo cpos (starEach (e :: es) c.env))) fun as W₁ => as.length = 2 ∧ C W₁) (he : ∀ env, starEach (e :: es) env = (false, eval e env) :: starEach es env) (hp : ∀ env, (backTo cpos (starEach es env)).any (·.1) = false)
    (hc : ∀ env, eval (.Call (.Name (Str.ofString "LispSignal") np) (e :: es) [] cpos) env = (do callWith cpos (← eval (.Name (Str.ofString "LispSignal") np) env) [] (backTo cpos (starEach (e :: es) env)) (backToKw cpos (keywordEach [] env)))) :
    ExM c l W (.Raise (some (.Call (.Name (Str.ofString "LispSignal") np) (e :: es) [] cpos)) none pos :: rest) C := by
  intro s h t Q E sim hQ
  refine wpAny_execs_cons (raiseMade sim sim.ok.hd ?_)
  refine Call_ ?_ (hc _)
  refine Ev.glb (C := fun sv W₁ => sv = .fn (.ref 38) ∧ W₁ = W) 38 (by kernel_rfl) hs hk (by kernel_rfl) ⟨rfl, rfl⟩ s h t _ E _ sim rfl fun v h' t' sv W' i sim' st ⟨e1, e2⟩ => ?_
  subst e1 e2
  cases i
  refine callWith_K (s := St s h' t') sim'.ok.X (sim'.ok.F.kp 38 (by kernel_rfl)) ?_ (he _) (hp _)
  refine H s h' t' _ E sim' fun vs h2 t2 as W2 is2 sim2 st2 ⟨hl, hC⟩ => ⟨sim2.K, ?_⟩
  have hl2 : vs.length = 2 := by rw [← is2.length, hl]
  obtain ⟨v1, v2, rfl⟩ := len2 hl2
  refine sigMake sim2 fun e h3 t3 Mk => ?_
  obtain ⟨m, F, -⟩ := sim2.fr
  exact ⟨e, h2, h3, t3, rfl, rfl, F.keep, Mk, hQ e h2 h3 t3 l W2 sim2 (st.trans st2) Mk hC⟩
theorem ExM.if_ {test : Expr} {body orelse rest : List Stmt} {pos : Pos} {C : Wd → Prop} (H : Is c l W test fun b W₁ => b = true ∧ ExM c l W₁ body C) : ExM c l W (.If test body orelse pos :: rest) C := by
  intro s h t Q E sim hQ
  refine wpAny_execs_cons (wpAny_If (H s h t _ E sim fun b h' t' W' sim' st ⟨hb, H'⟩ => ?_))
  subst hb
  rw [if_pos rfl]
  exact H' s h' t' _ E sim' fun e h₁ h2 t2 l' W2 sim2 st2 Mk hC => hQ e h₁ h2 t2 l' W2 sim2 (st.trans st2) Mk hC
end
section
/-- the frames below; and this one -/
noncomputable def Gx.Out (c : Gx) (x : Addr) : Prop := ∃ e ∈ c.outer, e.frame = some x
noncomputable def Gx.Frm (c : Gx) (x : Addr) : Prop := x = c.L ∨ c.Out x
section
variable {c : Gx} {l : Loc} {W W' : Wd} {h h' : Heap}
theorem Gx.FrmF {x : Addr} (y : c.Frm x) : c.Fm x := by
  rcases y with rfl | ⟨e, he, ex⟩
  · exact c.XF _ rfl
  · exact .inl ⟨e, .tail _ he, ex⟩
theorem Sim.out (sim : Sim c h l W) {x : Addr} (y : c.Out x) : ∃ o, c.g.get? x = some o := by
  obtain ⟨e, he, ex⟩ := y
  obtain ⟨L₁, o₁, h1, h2⟩ := funFrames_in sim.ok.B.frames e he
  rw [h1] at ex
  exact ⟨o₁, Option.some.inj ex ▸ h2⟩
theorem Sim.outL (sim : Sim c h l W) {x : Addr} (y : c.Out x) : x ≠ c.L := by
  obtain ⟨o, e⟩ := sim.out y
  obtain ⟨m, F, -⟩ := sim.fr
  exact Nat.ne_of_lt (Nat.lt_of_lt_of_le (Heap.lt_size e) F.above)
theorem Sim.frmMut (sim : Sim c h l W) {x : Addr} (y : c.Frm x) : ¬ W.Mut x := by
  rcases y with rfl | y
  · exact sim.ws.Lmut
  · obtain ⟨o, e⟩ := sim.out y
    exact sim.ws.gmut e
theorem Sim.fmMut (sim : Sim c h l W) {x : Addr} (m : W.Mut x) : ¬ c.Fm x := fun y => by
  rcases y with ⟨e, he, ex⟩ | y
  · refine sim.frmMut ?_ m
    rcases List.mem_cons.mp he with rfl | he
    · exact .inl (Option.some.inj ex).symm
    · exact .inr ⟨e, he, ex⟩
  · exact (sim.it _ y).2 m
theorem Sim.frames (sim : Sim c h l W) : h.FunFrames c.base (c.env :: c.outer) := by
  obtain ⟨m, F, -⟩ := sim.fr
  exact (pushX (env := c.env) sim.ok.B F rfl sim.ok.kf).frames
theorem Gx.Frm_mem {x : Addr} : x ∈ (c.env :: c.outer).filterMap (·.frame) ↔ c.Frm x := by
  rw [List.mem_filterMap]
  constructor
  · rintro ⟨e, he, ex⟩
    rcases List.mem_cons.mp he with rfl | he
    · exact .inl (Option.some.inj ex).symm
    · exact .inr ⟨e, he, ex⟩
  · rintro (rfl | ⟨e, he, ex⟩)
    · exact ⟨c.env, .head _, rfl⟩
    · exact ⟨e, .tail _ he, ex⟩
/-- a frame's object holds no fields -/
theorem frmData {B : Heap} {l : List Env} (f : h.FunFrames B l) {x : Addr} (hx : x ∈ l.filterMap (·.frame)) {o : Obj} (e : h.get? x = some o) : ∀ vs, o.data ≠ .fields vs := by
  obtain ⟨_, o', e', d⟩ := f.mem hx
  rw [e] at e'
  cases e'
  exact d
/-- the world stands in a heap where the frames are hidden -/
theorem WS.inB {w F F' g L g' L' B} (ws : WS w F g L h W) (fr : ∀ r, ∀ x ∈ W.adrs r, g'.get? x = none ∧ x ≠ L') (k : ∀ b o, h.get? b = some o → ¬ F b → B.get? b = some o) (hF : ∀ b, F' b → F b) (hm : ∀ b, W.Mut b → ¬ F b) : WS w F' g' L' B W :=
  ⟨fun r => SO.imp (.refl W) (fun b o e m => ⟨k b o e fun z => m (.inr z), fun z => m (z.elim .inl fun y => .inr (hF b y))⟩) (fun x hx o e => k x o e (hm x ⟨r, hx⟩)) (ws.holds r), fr, ws.apart, ws.nodup⟩
end
/-- an exception of a call flies at this frame -/
structure Fly (c : Gx) (W : Wd) (h : Heap) (W' : Wd) (h' : Heap) (e : Addr) (B : Heap) : Prop where
  fl : ∃ a0, Heap.FlyingW B (c.env :: c.outer) e (.ref 38) a0 h'
  kB : ∀ b o, h.get? b = some o → ¬ W.Mut b → ¬ c.Frm b → B.get? b = some o
  ws : WS c.w c.Fm c.g c.L B W'
  new : ∀ x, W'.Mut x → W.Mut x ∨ h.get? x = none
  live : ∀ x o, h.get? x = some o → ¬ c.Frm x → ∃ o', B.get? x = some o'
  role : ∀ r, r ≠ .pcs → W.ob r ≠ .absent → W'.ad r = W.ad r ∧ W'.ob r ≠ .absent
  out : ∀ b o, c.Out b → h.get? b = some o → ∃ sl, h'.get? b = some { o with slots := sl }
/-- a call that raises -/
noncomputable def FX (n : Nat) (f : Value) (args : List SV) (W : Wd) (C : Wd → Prop) : Prop :=
  ∀ (c : Gx) (s : Shared) (h : Heap) (t : Nat) (R : Result → Shared → Prop) (vs : List Value), n ≤ c.n → Sim c h [] W → All2 (SV.is c.Fm W h) args vs →
    (∀ e h' t' W' B, Fly c W h W' h' e B → (∀ o, h.get? c.L = some o → ∃ sl, h'.get? c.L = some { o with slots := sl }) → C W' → R (.error (.ref e)) (St s h' t')) → codeAny c.M c.A (.call f ⟨vs, []⟩) R (St s h t)
/-- a run of statements out of which an exception of a call flies -/
noncomputable def ExF (c : Gx) (l : Loc) (W : Wd) (b : List Stmt) (C : Loc → Wd → Prop) : Prop :=
  ∀ (s : Shared) (h : Heap) (t : Nat) (Q : Flow → Shared → Prop) (E : Value → Shared → Prop), Sim c h l W →
    (∀ e h' t' l' W' B m, Fly c W h W' h' e B → h'.Ns c.L m → LocOk c B l' W' m → C l' W' → E (.ref e) (St s h' t')) → wpAny c.M c.A (execs b c.env) Q E (St s h t)
noncomputable def EvF (c : Gx) (l : Loc) (W : Wd) (e : Expr) (C : Wd → Prop) : Prop :=
  ∀ (s : Shared) (h : Heap) (t : Nat) (Q E : Value → Shared → Prop), Sim c h l W →
    (∀ e h' t' W' B m, Fly c W h W' h' e B → h'.Ns c.L m → LocOk c B l W' m → C W' → E (.ref e) (St s h' t')) → wpAny c.M c.A (eval e c.env) Q E (St s h t)
theorem FX.mono {k n : Nat} {f : Value} {as : List SV} {W : Wd} {C : Wd → Prop} (hk : k ≤ n) (h : FX k f as W C) : FX n f as W C := fun c s hh t R vs hn => h c s hh t R vs (Nat.le_trans hk hn)
section
variable {c : Gx} {l : Loc} {W : Wd}
theorem Fly.pre {W₁ W' : Wd} {h h₁ h' B : Heap} {e : Addr} {l₀ : Loc} (sim : Sim c h l₀ W) (st : Stp c.X W h W₁ h₁) (f : Fly c W₁ h₁ W' h' e B) : Fly c W h W' h' e B := by
  have nX : ∀ b, ¬ c.Frm b → ¬ c.X b := fun b n z => n (.inl z)
  refine ⟨f.fl, fun b o q n nf => f.kB b o (st.keep b o q n (nX b nf)) (st.notMut q n) nf, f.ws, fun x m => ?_, fun x o q nf => let ⟨o', q'⟩ := st.live x o q; f.live x o' q' nf, fun r hr e => ?_, fun b o y q => ?_⟩
  · rcases f.new x m with q | q
    · exact st.new x q
    · cases e : h.get? x with
      | none => exact .inr rfl
      | some o => obtain ⟨o', e'⟩ := st.live x o e; rw [e'] at q; cases q
  · obtain ⟨e1, e2⟩ := st.role r hr e
    obtain ⟨e3, e4⟩ := f.role r hr e2
    exact ⟨e3.trans e1, e4⟩
  · exact f.out b o y (st.keep b o q (sim.frmMut (.inr y)) (sim.outL y))
theorem Fly.loc {W' : Wd} {h h' B : Heap} {e : Addr} (sim : Sim c h l W) (f : Fly c W h W' h' e B) (own : ∀ o, h.get? c.L = some o → ∃ sl, h'.get? c.L = some { o with slots := sl }) : ∃ m, h'.Ns c.L m ∧ LocOk c B l W' m := by
  obtain ⟨m, F, hl⟩ := sim.fr
  have kk : ∀ b o, h.get? b = some o → ¬ W.P c.Fm b → B.get? b = some o ∧ ¬ W'.P c.Fm b := fun b o q n => by
    refine ⟨f.kB b o q (fun z => n (.inl z)) fun z => n (.inr (c.FrmF z)), fun z => n (z.elim (fun y => ?_) .inr)⟩
    rcases f.new b y with y | y
    · exact .inl y
    · rw [q] at y; cases y
  refine ⟨m, ?_, fun p hp => ?_⟩
  · obtain ⟨o, es, ep, ho, hd, r⟩ := F.ns
    obtain ⟨sl, hs⟩ := own o ho
    exact ⟨_, es, ep, hs, hd, r⟩
  · obtain ⟨⟨v, e1, i⟩, hst, r⟩ := hl p hp
    refine ⟨⟨v, LocAt.imp kk e1, SV.is_core kk (fun r hr hne => ?_) i⟩, hst, r⟩
    have hr' : r ≠ .pcs := by rintro rfl; rw [hr] at hst; cases hst
    exact f.role r hr' hne
theorem ExF.next {st : Stmt} {rest : List Stmt} {C : Loc → Wd → Prop} (H : Sx c l W st fun fl l' W' => fl = .next ∧ ExF c l' W' rest C) : ExF c l W (st :: rest) C := by
  intro s h t Q E sim hQ
  refine wpAny_execs_cons (H s h t _ E sim fun f h' t' fl l' W' hf sim' st ⟨e, hN⟩ => ?_)
  subst e
  subst hf
  exact hN s h' t' Q E sim' fun e h2 t2 l2 W2 B m f hn hl hC => hQ e h2 t2 l2 W2 B m (f.pre sim st) hn hl hC
theorem ExF.expr {e : Expr} {pos : Pos} {rest : List Stmt} {C : Loc → Wd → Prop} (H : EvF c l W e (C l)) (hs : ∀ env, swapsWith e none pos.line env = pure false) : ExF c l W (.Expr e pos :: rest) C := by
  intro s h t Q E sim hQ
  have hi : interactive c.env = false := by unfold interactive; show (c.cs.kind == _ && _) = false; rw [sim.ok.kf]; rfl
  exact wpAny_execs_cons (wpAny_Expr_any (H s h t _ E sim fun e h' t' W' B m f hn hl hC => hQ e h' t' l W' B m f hn hl hC) hi (hs _))
theorem ExF.assign {x : Str} {e : Expr} {px pos : Pos} {rest : List Stmt} {C : Loc → Wd → Prop} (H : EvF c l W e (C l)) (hs : ∀ env, swapsWith e (some (.Name x px)) pos.line env = pure false) : ExF c l W (.Assign [.Name x px] e pos :: rest) C := by
  intro s h t Q E sim hQ
  exact wpAny_execs_cons (wpAny_Assign_Name (H s h t _ E sim fun e h' t' W' B m f hn hl hC => hQ e h' t' l W' B m f hn hl hC) (hs _))
theorem EvF.callG {x : Str} {np pos : Pos} {e : Expr} {es : List Expr} {sc : Scope} {C : Wd → Prop} (f : Addr) (hg : glbOk x f = true) (hkp : kpOk f = true) (hs : c.cs = sc) (hk : sc.names.lookup x = some .globalImplicit) (hd : (x == Str.ofString "__debug__") = false)
    (H : Ars c l W (spliced (backTo pos (starEach (e :: es) c.env))) fun as W₁ => FX c.n (.ref f) as W₁ C) (he : ∀ env, starEach (e :: es) env = (false, eval e env) :: starEach es env) (hp : ∀ env, (backTo pos (starEach es env)).any (·.1) = false)
    (hc : ∀ env, eval (.Call (.Name x np) (e :: es) [] pos) env = (do callWith pos (← eval (.Name x np) env) [] (backTo pos (starEach (e :: es) env)) (backToKw pos (keywordEach [] env)))) : EvF c l W (.Call (.Name x np) (e :: es) [] pos) C := by
  intro s h t Q E sim hQ
  refine Call_ ?_ (hc _)
  refine Ev.glb (C := fun sv W₁ => sv = .fn (.ref f) ∧ W₁ = W) f hg hs hk hd ⟨rfl, rfl⟩ s h t _ E _ sim rfl fun v h' t' sv W' i sim' st ⟨e1, e2⟩ => ?_
  subst e1 e2
  cases i
  refine callWith_K (s := St s h' t') sim'.ok.X (sim'.ok.F.kp f hkp) ?_ (he _) (hp _)
  refine H s h' t' _ E sim' fun vs h2 t2 as W2 is2 sim2 st2 hF => ⟨sim2.K, ?_⟩
  refine wpAny_call (hF c s h2 t2 _ vs (Nat.le_refl _) (sim2.fewer fun _ z => nomatch z) is2 fun e h3 t3 W3 B f own hC => ?_)
  obtain ⟨m, hn, hl⟩ := f.loc sim2 own
  exact hQ e h3 t3 W3 B m (f.pre sim (st.trans st2)) hn hl hC
end
end
section
section
variable {c : Gx} {n : Nat} {f : Addr} {q : String} {scope : Scope} {h h₁ : Heap} {W : Wd} {l : Loc}
theorem callee_old {b : Addr} {o : Obj} (e : h.get? b = some o) : b ≠ (c.callee n f q scope h W []).L := Nat.ne_of_lt (Heap.lt_size e)
theorem callee_out {b : Addr} (y : c.Frm b) : (c.callee n f q scope h W []).Out b := by
  rcases y with rfl | ⟨e, he, ex⟩
  · exact ⟨c.env, .head _, rfl⟩
  · exact ⟨e, .tail _ he, ex⟩
theorem callee_frm {b : Addr} {o : Obj} (e : h.get? b = some o) (y : (c.callee n f q scope h W []).Frm b) : c.Frm b := by
  rcases y with rfl | ⟨e', he, ex⟩
  · exact absurd (Heap.lt_size e) (Nat.lt_irrefl _)
  · rcases List.mem_cons.mp he with rfl | he
    · exact .inl (Option.some.inj ex).symm
    · exact .inr ⟨e', he, ex⟩
/-- a role of the callee's end stands apart from the caller's frame too -/
theorem calleeFresh {W' : Wd} (sim : Sim c h l W) (new : ∀ x, W'.Mut x → W.Mut x ∨ h.get? x = none) : ∀ r, ∀ x ∈ W'.adrs r, c.g.get? x = none ∧ x ≠ c.L := fun r x hx => by
  obtain ⟨m, F, -⟩ := sim.fr
  rcases new x ⟨r, hx⟩ with ⟨r', q⟩ | q
  · exact sim.ws.fresh r' x q
  · refine ⟨?_, ?_⟩
    · cases e : c.g.get? x with
      | none => rfl
      | some o => have := F.keep _ _ e; rw [this] at q; cases q
    · rintro rfl
      obtain ⟨oL, _, _, e, _⟩ := F.ns
      rw [e] at q; cases q
end
theorem FX.enterM {n : Nat} {f : Addr} {args : List SV} {W : Wd} {C : Wd → Prop} {q : String} {name : Str} {params : Arguments} {body : List Stmt} {scope : Scope}
    (hF : ∀ K, KF K → FnIs K f q name params body scope []) (l : Loc) (hal : args = l.map (·.2))
    (hb : ∀ (dV doc pm ct : Value) (an : Option Addr) (s : Shared) (vs : List Value), vs.length = args.length → dV = .none →
      BindsTo s (fnOf name (Str.ofString q) params body scope dV .none doc pm an (.ref (f - 1)) ct) ⟨vs, []⟩ ((l.map (·.1)).zip (vs ++ [])))
    (hst : l.all (fun p => p.2.stable) = true) (hok : fnOk (l.map (·.1)) scope = true)
    (H : ∀ c : Gx, c.n = n → c.cs = scope → ExM c l W body C) : FX (n + 1) (.ref f) args W C := by
  intro c s h t R vs hcn sim ha hR
  refine entry0 (ds := []) hF l [] [] (by rw [List.append_nil]; exact hal) hb (fun _ _ _ => .nil) hst hok hcn sim ha fun h₁ t₁ hk₁ sim' => ?_
  refine H (c.callee n f q scope h W []) rfl rfl s h₁ t₁ _ _ sim' fun e h₂ h' t' l' W' sim₂ stp Mk hC => ?_
  obtain ⟨oe, vs, a0, he, hcls, hd, h0, h1⟩ := Mk.there
  have fr₂ := sim₂.frames
  have hid : (hideAll h₂ (((c.callee n f q scope h W []).env :: c.env :: c.outer).filterMap (·.frame))).StaysIn h' := fun b o z => Mk.keeps b o (of_hideAll _ z)
  have hen : (hideAll h₂ (((c.callee n f q scope h W []).env :: c.env :: c.outer).filterMap (·.frame))).get? e = none := by
    cases z : (hideAll h₂ (((c.callee n f q scope h W []).env :: c.env :: c.outer).filterMap (·.frame))).get? e with
    | none => rfl
    | some o => have := of_hideAll _ z; rw [Mk.new] at this; cases this
  have ff : h'.FunFrames (hideAll h₂ (((c.callee n f q scope h W []).env :: c.env :: c.outer).filterMap (·.frame))) ((c.callee n f q scope h W []).env :: c.env :: c.outer) :=
    (funFrames_hide fr₂ fun env he a ha => List.mem_filterMap.mpr ⟨env, he, ha⟩).of_keeps fun b o z _ => ⟨o, Mk.keeps b o z, rfl⟩
  refine wpAny_leaving_firstW (env := (c.callee n f q scope h W []).env) (outer := c.env :: c.outer) sim'.ok.fr ff rfl he hid hen hd h1 h0 fun h₃ hL => ?_
  obtain ⟨k1, ⟨_, _, k2⟩, k3, k4⟩ := hL
  rw [hcls] at k3
  have notFrm : ∀ b, ¬ (c.callee n f q scope h W []).Frm b → b ∉ ((c.callee n f q scope h W []).env :: c.env :: c.outer).filterMap (·.frame) := fun b z y => z (Gx.Frm_mem.mp y)
  have kB : ∀ b o, h₂.get? b = some o → ¬ (c.callee n f q scope h W []).Frm b → (hideAll h₂ (((c.callee n f q scope h W []).env :: c.env :: c.outer).filterMap (·.frame))).get? b = some o := fun b o z y => hideAll_get _ z (notFrm b y)
  have up : ∀ b o, h.get? b = some o → ¬ W.Mut b → h₂.get? b = some o := fun b o z y => stp.keep b o (hk₁ b o z) y (callee_old z)
  have stp' := calleeStp (n := n) (f := f) (q := q) (scope := scope) (cl := []) hk₁ stp
  have frm : ∀ b o, c.Frm b → h.get? b = some o → ∃ sl, h₃.get? b = some { o with slots := sl } := fun b o y z => by
    have z2 := Mk.keeps b o (up b o z (sim.frmMut y))
    exact k4 b o z2 (frmData ff (Gx.Frm_mem.mpr (.inr (callee_out y))) z2)
  refine hR e h₃ t' W' _ ⟨⟨a0, k1, hen, k2, k3⟩, fun b o z y y2 => kB b o (up b o z y) fun y3 => y2 (callee_frm z y3), ?_, stp'.new, fun x o z y => ?_, stp'.role, fun b o y z => frm b o (.inr y) z⟩ (fun o z => frm _ o (.inl rfl) z) hC
  · exact sim₂.ws.inB (F := (c.callee n f q scope h W []).Fm) (calleeFresh sim stp'.new) (fun b o z y => kB b o z fun y3 => y (Gx.FrmF y3)) (fun b y => calleeFm' b y) fun b y => sim₂.fmMut y
  · obtain ⟨o', z'⟩ := stp.live x o (hk₁ x o z)
    exact ⟨o', kB x o' z' fun y3 => y (callee_frm z y3)⟩
theorem FX.enterF {n : Nat} {f : Addr} {args : List SV} {W : Wd} {C : Wd → Prop} {q : String} {name : Str} {params : Arguments} {body : List Stmt} {scope : Scope}
    (hF : ∀ K, KF K → FnIs K f q name params body scope []) (l : Loc) (hal : args = l.map (·.2))
    (hb : ∀ (dV doc pm ct : Value) (an : Option Addr) (s : Shared) (vs : List Value), vs.length = args.length → dV = .none →
      BindsTo s (fnOf name (Str.ofString q) params body scope dV .none doc pm an (.ref (f - 1)) ct) ⟨vs, []⟩ ((l.map (·.1)).zip (vs ++ [])))
    (hst : l.all (fun p => p.2.stable) = true) (hok : fnOk (l.map (·.1)) scope = true)
    (H : ∀ c : Gx, c.n = n → c.cs = scope → ExF c l W body fun _ => C) : FX (n + 1) (.ref f) args W C := by
  intro c s h t R vs hcn sim ha hR
  refine entry0 (ds := []) hF l [] [] (by rw [List.append_nil]; exact hal) hb (fun _ _ _ => .nil) hst hok hcn sim ha fun h₁ t₁ hk₁ sim' => ?_
  refine H (c.callee n f q scope h W []) rfl rfl s h₁ t₁ _ _ sim' fun e h' t' l' W' B m fl hn hl hC => ?_
  obtain ⟨a0, hfl⟩ := fl.fl
  refine wpAny_leaves_onW (env := (c.callee n f q scope h W []).env) (outer := c.env :: c.outer) sim'.ok.fr rfl hfl fun h₃ hfl₃ hsm => ?_
  have new : ∀ x, W'.Mut x → W.Mut x ∨ h.get? x = none := fun x m => (fl.new x m).imp id fun z => by
    cases e : h.get? x with
    | none => rfl
    | some o => rw [hk₁ x o e] at z; cases z
  have frm : ∀ b o, c.Frm b → h.get? b = some o → ∃ sl, h₃.get? b = some { o with slots := sl } := fun b o y z => by
    obtain ⟨sl, z2⟩ := fl.out b o (callee_out y) (hk₁ b o z)
    have nd := frmData hfl.2.2.1 (Gx.Frm_mem.mpr (.inr (callee_out y))) z2
    obtain ⟨sl', z3⟩ := hsm b _ z2 nd
    exact ⟨sl', z3⟩
  have nf : ∀ b o, h.get? b = some o → ¬ c.Frm b → ¬ (c.callee n f q scope h W []).Frm b := fun b o z y y3 => y (callee_frm z y3)
  refine hR e h₃ t' W' B ⟨⟨a0, hfl₃⟩, fun b o z y y2 => fl.kB b o (hk₁ b o z) y (nf b o z y2), ?_, new, fun x o z y => fl.live x o (hk₁ x o z) (nf x o z y), fl.role, fun b o y z => frm b o (.inr y) z⟩ (fun o z => frm _ o (.inl rfl) z) hC
  have weak : ∀ b o, B.get? b = some o → ¬ W'.P (c.callee n f q scope h W []).Fm b → B.get? b = some o ∧ ¬ W'.P c.Fm b := fun b o e m => ⟨e, fun z => m (z.elim .inl fun y => .inr (calleeFm' b y))⟩
  exact ⟨fun r => SO.imp (.refl W') weak (fun _ _ _ e => e) (fl.ws.holds r), calleeFresh sim new, fl.ws.apart, fl.ws.nodup⟩
end
section
section
variable {c : Gx} {l : Loc} {W W' : Wd} {h h' B : Heap} {e : Addr}
theorem Fly.base (sim : Sim c h l W) (fl : Fly c W h W' h' e B) : c.base.StaysIn B := fun b o q => by
  obtain ⟨m, F, -⟩ := sim.fr
  have g := sim.ok.B.stays b o q
  refine fl.kB b o (F.keep b o g) (sim.ws.gmut g) fun y => ?_
  have := (sim.frames.mem (Gx.Frm_mem.mpr y)).1
  rw [q] at this; cases this
/-- except LispSignal: -/
theorem caughtSig {s : Shared} {t : Nat} {x : Str} {np pos : Pos} {b₀ : Stmt} {suite : List Stmt} {rest : List ExceptHandler} {Q : Flow → Shared → Prop} {E : Value → Shared → Prop} {sc : Scope} (sim : Sim c h l W) (fl : Fly c W h W' h' e B)
    (hx : x = Str.ofString "LispSignal") (hs : c.cs = sc) (hk : sc.names.lookup (Str.ofString "LispSignal") = some .globalImplicit)
    (k : ∀ h₆ (E' : Value → Shared → Prop), B.StaysIn h₆ → h₆.FunFrames B (c.env :: c.outer) → h'.UpToSlots h₆ → wpAny c.M (c.A.mark (some (.ref e))) (execs (b₀ :: suite) c.env) Q E' (St s h₆ t)) :
    wpAny c.M c.A (noteFrame (.ref e) c.env) (fun _ s₂ => wpAny c.M c.A (setFlight (.ref e) none) (fun _ s₃ => wpAny c.M c.A (handleBy (.ref e) c.env (.ExceptHandler (some (.Name x np)) none (b₀ :: suite) pos :: rest)) Q E s₃) E s₂) E (St s h' t) := by
  subst hx
  obtain ⟨a0, hfl⟩ := fl.fl
  obtain ⟨p, loose, mean, mg, mb, T⟩ := sim.ok.TB
  have T' := topRead_of T
  refine wpAny_looks_onW (env := c.env) (outer := c.outer) sim.ok.fr rfl hfl fun h₄ hheld₄ hsm₄ => ?_
  refine wpAny_landsW hheld₄ fun h₅ hheld hsm₅ => ?_
  have kb : ∀ b o, c.base.get? b = some o → h₅.get? b = some o := fun b o q => hheld.1 b o (fl.base sim b o q)
  obtain ⟨mN, S⟩ := sigCls sim.ok.F.sig (sim.ok.XB.keeps kb)
  obtain ⟨N, nm, q, bs, sn, sub, ab, col, dd, k0, k1, k2, k3, k5, hC, hn⟩ := S.obj
  obtain ⟨ob, hob, hobc⟩ := hheld.there
  refine wpAny_handleBy_cons (codeAny_handlers_test ?_) (by intro q; cases q)
  refine PySem.Calls.Name_function_global (env := c.env) sim.ok.kf (by show c.cs.names.lookup _ = _; rw [hs]; exact hk) (PySem.Calls.loadGlobal_global (env := c.env) (T'.g.keeps kb) (mg_of sim.ok.XB T'.g (sim.ok.F.glb (Str.ofString "LispSignal") 38 (by kernel_rfl))) ?_) (by kernel_rfl)
  refine wpAny_excMatches_sub_self hC hob hobc (by decide) (codeAny_handlers_suite ?_)
  refine lands_againW hheld fun h₆ hfl₆ hsm₆ => ?_
  exact k h₆ _ hfl₆.1 hfl₆.2.2.1 ((hsm₄.trans hsm₅).trans hsm₆)
theorem FunFrames.on {h h' base : Heap} : ∀ {l : List Env}, h.FunFrames base l → (∀ env ∈ l, ∀ L, env.frame = some L → ∀ o, h.get? L = some o → h'.get? L = some o) → h'.FunFrames base l
  | [], _, _ => trivial
  | env :: _, ⟨hk, ⟨L, o, hf, hn, ho, hd⟩, hr⟩, k => ⟨hk, ⟨L, o, hf, hn, k env (.head _) L hf o ho, hd⟩, FunFrames.on hr fun e he => k e (.tail _ he)⟩
/-- the step from before the call to behind the catch -/
structure StpR (c : Gx) (W : Wd) (h : Heap) (W' : Wd) (h' : Heap) : Prop where
  st : Stp c.Frm W h W' h'
  out : ∀ b o, c.Out b → h.get? b = some o → ∃ sl, h'.get? b = some { o with slots := sl }
theorem Stp.r (sim : Sim c h l W) (st : Stp c.X W h W' h') : StpR c W h W' h' := ⟨st.weaken fun _ z => .inl z, fun b o y q => ⟨o.slots, st.keep b o q (sim.frmMut (.inr y)) (sim.outL y)⟩⟩
theorem StpR.then {W₂ : Wd} {h₂ : Heap} (a : StpR c W h W' h') (sim : Sim c h l W) (b : Stp c.X W' h' W₂ h₂) : StpR c W h W₂ h₂ := by
  refine ⟨a.st.trans (b.weaken fun _ z => .inl z), fun x o y q => ?_⟩
  obtain ⟨sl, q'⟩ := a.out x o y q
  refine ⟨sl, b.keep x _ q' (fun z => ?_) (sim.outL y)⟩
  rcases a.st.new x z with z | z
  · exact sim.frmMut (.inr y) z
  · rw [q] at z; cases z
theorem Fly.stpR (sim : Sim c h l W) (fl : Fly c W h W' h' e B) {h₆ : Heap} (hB : B.StaysIn h₆) (hff : h₆.FunFrames B (c.env :: c.outer)) (hsm : h'.UpToSlots h₆) : StpR c W h W' h₆ := by
  obtain ⟨a0, hfl⟩ := fl.fl
  refine ⟨⟨fun b o q n nf => hB b o (fl.kB b o q n nf), fl.new, fun x o q => ?_, fl.role⟩, fun b o y q => ?_⟩
  · by_cases y : c.Frm x
    · obtain ⟨_, o', e', _⟩ := hff.mem (Gx.Frm_mem.mpr y)
      exact ⟨o', e'⟩
    · obtain ⟨o', e'⟩ := fl.live x o q y
      exact ⟨o', hB x o' e'⟩
  · obtain ⟨sl, q1⟩ := fl.out b o y q
    obtain ⟨sl', q2⟩ := hsm b _ q1 (frmData hfl.2.2.1 (Gx.Frm_mem.mpr (.inr y)) q1)
    exact ⟨sl', q2⟩
theorem reground (sim : Sim c h l W) (fl : Fly c W h W' h' e B) {h₆ g₂ : Heap} {l' : Loc} {m : Str → Option Value} (hB : B.StaysIn h₆) (hff : h₆.FunFrames B (c.env :: c.outer)) (hsm : h'.UpToSlots h₆) (hn : h'.Ns c.L m) (hl : LocOk c B l' W' m)
    (g1 : ∀ b o, g₂.get? b = some o → h₆.get? b = some o) (g2 : g₂.objs.size ≤ c.L) (g3 : ∀ x, W'.Mut x → g₂.get? x = none) (g4 : c.base.StaysIn g₂) (g5 : g₂.FunFrames c.base c.outer) : Sim { c with g := g₂ } h₆ l' W' := by
  have kk : ∀ b o, B.get? b = some o → ¬ W'.P c.Fm b → h₆.get? b = some o ∧ ¬ W'.P c.Fm b := fun b o q n => ⟨hB b o q, n⟩
  have st := fl.stpR sim hB hff hsm
  refine ⟨⟨⟨sim.ok.B.stack, g4, g5⟩, sim.ok.fr, sim.ok.kf, sim.ok.XB, sim.ok.F, sim.ok.TB, sim.ok.hd, sim.ok.dep, sim.ok.un⟩, ⟨m, ⟨hsm.ns hn, g1, g2⟩, fun p hp => ?_⟩, ?_, fun x hx => ?_⟩
  · obtain ⟨⟨v, e1, i⟩, r⟩ := hl p hp
    exact ⟨⟨v, LocAt.imp kk e1, SV.is_imp (.refl W') kk i⟩, r⟩
  · exact ⟨fun r => SO.imp (.refl W') kk (fun x _ o q => hB x o q) (fl.ws.holds r), fun r x hx => ⟨g3 x ⟨r, hx⟩, (fl.ws.fresh r x hx).2⟩, fl.ws.apart, fl.ws.nodup⟩
  · obtain ⟨⟨o, q⟩, n⟩ := sim.it x hx
    refine ⟨st.st.live x o q, fun z => ?_⟩
    rcases fl.new x z with z | z
    · exact n z
    · rw [q] at z; cases z
noncomputable def cutHeap (h : Heap) (n : Nat) : Heap := { h with objs := (h.objs.toList.take n).toArray }
theorem cutHeap_get {h : Heap} {n : Nat} {b : Addr} (hb : b < n) : (cutHeap h n).get? b = h.get? b := by
  unfold Heap.get? cutHeap
  simp only
  rw [List.getElem?_toArray, List.getElem?_take, if_pos hb, Array.getElem?_toList]
theorem cutHeap_of {h : Heap} {n : Nat} {b : Addr} {o : Obj} (q : (cutHeap h n).get? b = some o) : h.get? b = some o := by
  have : b < (cutHeap h n).objs.size := Heap.lt_size q
  have hb : b < n := by
    unfold cutHeap at this
    simp only [List.size_toArray, List.length_take] at this
    exact Nat.lt_of_lt_of_le this (Nat.min_le_left _ _)
  rw [cutHeap_get hb] at q
  exact q
/-- anew on the ground -/
theorem regroundR (sim : Sim c h l W) (fl : Fly c W h W' h' e B) {h₆ : Heap} {l' : Loc} {m : Str → Option Value} (hB : B.StaysIn h₆) (hff : h₆.FunFrames B (c.env :: c.outer)) (hsm : h'.UpToSlots h₆) (hn : h'.Ns c.L m) (hl : LocOk c B l' W' m) :
    ∃ g₂, Sim { c with g := g₂ } h₆ l' W' := by
  obtain ⟨m0, F, -⟩ := sim.fr
  have nm : ∀ b o, h.get? b = some o → ¬ W.Mut b → b ∉ W'.all := fun b o q n z => by
    rcases fl.new b (Wd.mem_all.mp z) with z | z
    · exact n z
    · rw [q] at z; cases z
  have put : ∀ b o o', c.g.get? b = some o' → h₆.get? b = some o → (hideAll (cutHeap h₆ c.g.objs.size) W'.all).get? b = some o := fun b o o' q q' =>
    hideAll_get _ (by rw [cutHeap_get (Heap.lt_size q)]; exact q') (nm b o' (F.keep b o' q) (sim.ws.gmut q))
  refine ⟨hideAll (cutHeap h₆ c.g.objs.size) W'.all, reground sim fl hB hff hsm hn hl (fun b o q => cutHeap_of (of_hideAll _ q)) ?_ (fun x z => hideAll_none _ (Wd.mem_all.mpr z)) (fun b o q => ?_) ?_⟩
  · rw [hideAll_size]
    refine Nat.le_trans ?_ F.above
    unfold cutHeap
    simp only [List.size_toArray, List.length_take]
    exact Nat.min_le_left _ _
  · exact put b o o (sim.ok.B.stays b o q) (hB b o (fl.base sim b o q))
  · refine FunFrames.on (funFrames_base (fl.base sim) hff).2.2 fun env he L hL o q => ?_
    obtain ⟨o', q'⟩ := sim.out ⟨env, he, hL⟩
    exact put L o o' q' q
theorem reground0 (sim : Sim c h l W) (h0 : c.outer = []) (fl : Fly c W h W' h' e B) {h₆ : Heap} {l' : Loc} {m : Str → Option Value} (hB : B.StaysIn h₆) (hff : h₆.FunFrames B (c.env :: c.outer)) (hsm : h'.UpToSlots h₆) (hn : h'.Ns c.L m) (hl : LocOk c B l' W' m) : Sim c h₆ l' W' := by
  obtain ⟨m0, F, -⟩ := sim.fr
  refine reground (g₂ := c.g) sim fl hB hff hsm hn hl (fun b o q => ?_) F.above (fun x ⟨r, hr⟩ => (fl.ws.fresh r x hr).1) sim.ok.B.stays sim.ok.B.frames
  refine hB b o (fl.kB b o (F.keep b o q) (sim.ws.gmut q) ?_)
  rintro (rfl | ⟨env, he, _⟩)
  · exact Nat.lt_irrefl _ (Nat.lt_of_lt_of_le (Heap.lt_size q) F.above)
  · rw [h0] at he; cases he
end
end
section
/-- a run of statements that may catch an exception of a call on its way -/
noncomputable def ExR (c : Gx) (l : Loc) (W : Wd) (b : List Stmt) (D : Fl → Loc → Wd → Prop) : Prop :=
  ∀ (s : Shared) (h : Heap) (t : Nat) (Q : Flow → Shared → Prop) (E : Value → Shared → Prop), Sim c h l W →
    (∀ f h' t' fl l' W' g₂, Fl.is c.Fm W' h' fl f → Sim { c with g := g₂ } h' l' W' → StpR c W h W' h' → D fl l' W' → Q f (St s h' t')) → wpAny c.M c.A (execs b c.env) Q E (St s h t)
noncomputable def FSr (n : Nat) (f : Value) (args : List SV) (W : Wd) (C : SV → Wd → Prop) : Prop :=
  ∀ (c : Gx) (s : Shared) (h : Heap) (t : Nat) (R : Result → Shared → Prop) (vs : List Value), n ≤ c.n → Sim c h [] W → All2 (SV.is c.Fm W h) args vs →
    (∀ v h' t' sv W', SV.is c.Fm W' h' sv v → WS c.w c.Fm c.g c.L h' W' → StpR c W h W' h' → (∀ o, h.get? c.L = some o → ∃ sl, h'.get? c.L = some { o with slots := sl }) → C sv W' → R (.ok (.ret v)) (St s h' t')) → codeAny c.M c.A (.call f ⟨vs, []⟩) R (St s h t)
section
variable {c : Gx} {l : Loc} {W : Wd} {D : Fl → Loc → Wd → Prop}
theorem ExR.of {b : List Stmt} (H : Ex c l W b D) : ExR c l W b D := fun s h t Q E sim hQ => H s h t Q E sim fun f h' t' fl l' W' hf sim' st hD => hQ f h' t' fl l' W' c.g hf sim' (st.r sim) hD
/-- what stands behind a statement -/
noncomputable def NxR (c : Gx) (rest : List Stmt) (D : Fl → Loc → Wd → Prop) (f : Fl) (l : Loc) (W : Wd) : Prop := match f with
  | .next => ExR c l W rest D
  | f => D f l W
theorem StpR.pre {W₁ W₂ : Wd} {h h₁ h₂ : Heap} (sim : Sim c h l W) (st : Stp c.X W h W₁ h₁) (a : StpR c W₁ h₁ W₂ h₂) : StpR c W h W₂ h₂ :=
  ⟨(st.weaken fun _ z => .inl z).trans a.st, fun b o y q => a.out b o y (st.keep b o q (sim.frmMut (.inr y)) (sim.outL y))⟩
theorem ExR.cons {st : Stmt} {rest : List Stmt} (H : Sx c l W st (NxR c rest D)) : ExR c l W (st :: rest) D := by
  intro s h t Q E sim hQ
  refine wpAny_execs_cons (H s h t _ E sim fun f h' t' fl l' W' hf sim' st hN => ?_)
  cases fl with
  | next => subst hf; exact hN s h' t' Q E sim' fun f2 h2 t2 fl2 l2 W2 g2 hf2 sim2 st2 hD => hQ f2 h2 t2 fl2 l2 W2 g2 hf2 sim2 (st2.pre sim st) hD
  | brk => subst hf; exact hQ .brk h' t' .brk l' W' c.g rfl sim' (st.r sim) hN
  | cont => subst hf; exact hQ .cont h' t' .cont l' W' c.g rfl sim' (st.r sim) hN
  | ret sv => obtain ⟨v, rfl, i⟩ := hf; exact hQ (.ret v) h' t' (.ret sv) l' W' c.g ⟨v, rfl, i⟩ sim' (st.r sim) hN
/-- a try whose body does not raise -/
theorem Sx.tryOk {b : List Stmt} {hd : ExceptHandler} {hs : List ExceptHandler} {pos : Pos} (H : Ex c l W b D) : Sx c l W (.Try b (hd :: hs) [] [] pos) D := by
  intro s h t Q E sim hQ
  refine wpAny_Try_except (H s h t _ _ sim fun f h' t' fl l' W' hf sim' st hD => ?_)
  cases fl with
  | next => subst hf; exact wpAny_execs_nil (hQ .next h' t' .next l' W' rfl sim' st hD)
  | brk => subst hf; exact hQ .brk h' t' .brk l' W' rfl sim' st hD
  | cont => subst hf; exact hQ .cont h' t' .cont l' W' rfl sim' st hD
  | ret sv => obtain ⟨v, rfl, i⟩ := hf; exact hQ (.ret v) h' t' (.ret sv) l' W' ⟨v, rfl, i⟩ sim' st hD
/-- a try whose body raises; the suite: y = False -/
theorem ExR.tryF {b rest : List Stmt} {hs : List ExceptHandler} {np hp ap yp cp tp : Pos} {kk : Nat} {y : Str} {sc : Scope} (hsc : c.cs = sc) (hk : sc.names.lookup (Str.ofString "LispSignal") = some .globalImplicit)
    (hy : sc.names.lookup y = some .local) (hdy : (y == Str.ofString "__debug__") = false) (hnew : (l.all fun p => !(p.1 == y)) = true)
    (H : ExF c l W b fun l' W' => l' = l ∧ ∀ c₂ : Gx, c₂.n = c.n → c₂.cs = c.cs → Ex c₂ ((y, .bool false) :: l) W' rest D)
    (hsw : ∀ env, swapsWith (.Constant (.bool false) kk cp) (some (.Name y yp)) ap.line env = pure false) :
    ExR c l W (.Try b (.ExceptHandler (some (.Name (Str.ofString "LispSignal") np)) none [.Assign [.Name y yp] (.Constant (.bool false) kk cp) ap] hp :: hs) [] [] tp :: rest) D := by
  intro s h t Q E sim hQ
  refine wpAny_execs_cons (wpAny_Try_except (H s h t _ _ sim fun e h' t' l' W' B m fl hn hl ⟨el, K⟩ => ?_))
  subst el
  refine caughtSig sim fl rfl hsc hk fun h₆ E' hB hff hsm => ?_
  obtain ⟨g₂, sim₆⟩ := regroundR sim fl hB hff hsm hn hl
  have st₆ := fl.stpR sim hB hff hsm
  obtain ⟨m₆, F₆, hl₆⟩ := sim₆.fr
  refine wpAny_execs_cons (wpAny_Assign_Name (Constant_bool ?_) (hsw _))
  refine wpAny_storeName_local (env := c.env) (by show c.cs.names.lookup y = _; rw [hsc]; exact hy) F₆.ns (fun h₇ hn₇ hs₇ => ?_) (by show (c.cs.kind == .class || (c.cs.kind == .module && _)) = false; rw [sim.ok.kf]; rfl)
  refine wpAny_execs_nil ?_
  obtain ⟨sim₇, st₇⟩ := sim₆.stored (sv := .bool false) F₆ hl₆ hn₇ (fun b o q z => hs₇.extBut b o q z) rfl rfl (by show c.cs.names.lookup y = _; rw [hsc]; exact hy) hdy
  exact K { c with g := g₂ } rfl rfl s h₇ _ Q E (sim₇.fewer fun q hq => mem_new hnew q hq) fun f h₈ t₈ fl l₈ W₈ hf sim₈ st₈ hD => hQ f h₈ t₈ fl l₈ W₈ g₂ hf sim₈ ((st₆.then sim st₇).then sim st₈) hD
/-- a try of the law's own whose body raises; the suite: return own == [] -/
theorem Sx.tryLaw {b : List Stmt} {hs : List ExceptHandler} {np hp rp op lp xp tp : Pos} {y : Str} {sc : Scope} (h0 : c.outer = []) (hsc : c.cs = sc) (hk : sc.names.lookup (Str.ofString "LispSignal") = some .globalImplicit) (hy : sc.names.lookup y = some .local)
    (H : ExF c l W b fun l' W' => (y, SV.lol []) ∈ l' ∧ D (.ret (.bool true)) l' W')
    (hm : behindInMarks .Eq (.List [] lp) = false) :
    Sx c l W (.Try b (.ExceptHandler (some (.Name (Str.ofString "LispSignal") np)) none [.Return (some (.Compare (.Name y op) [.Eq] [.List [] lp] xp)) rp] hp :: hs) [] [] tp) D := by
  intro s h t Q E sim hQ
  refine wpAny_Try_except (H s h t _ _ sim fun e h' t' l' W' B m fl hn hl ⟨hmem, hD⟩ => ?_)
  refine caughtSig sim fl rfl hsc hk fun h₆ E' hB hff hsm => ?_
  have sim₆ := reground0 sim h0 fl hB hff hsm hn hl
  have st₆ := fl.stpR sim hB hff hsm
  have st₆' : Stp c.X W h W' h₆ := st₆.st.weaken fun x z => z.elim id fun ⟨e, he, _⟩ => by rw [h0] at he; cases he
  obtain ⟨m₆, F₆, hl₆⟩ := sim₆.fr
  obtain ⟨⟨v, hv, iv⟩, _, hd⟩ := hl₆ _ hmem
  have hv : m₆ y = some v := by
    rcases hv with ⟨hv, _⟩ | ⟨z, _⟩
    · exact hv
    · rw [hsc, hy] at z; cases z
  refine wpAny_execs_cons (wpAny_Return_some (wpAny_Compare1 ?_ hm))
  refine wpAny_Name (wpAny_loadName_local (env := c.env) sim.ok.kf (by show c.cs.names.lookup y = _; rw [hsc]; exact hy) F₆.ns hv ?_) hd
  refine List_ (spliced_none ?_)
  refine wpAny_newObj_type ?_ (by show (0 : Nat) ≤ _; exact Nat.zero_le _)
  have kp : ∀ b o, h₆.get? b = some o → (h₆.push { cls := .type "list", data := .seq #[] }).get? b = some o := push_keep
  have sim₈ := sim₆.keeps kp
  obtain ⟨p, ra⟩ := (Dt.lol (W := W') (L := [])).at sim₈ (SV.is_keeps (fun _ _ z _ => z) kp iv)
  have il : SV.is c.Fm W' (h₆.push { cls := .type "list", data := .seq #[] }) (.lst []) (.ref h₆.objs.size) := ⟨_, [], 0, rfl, Heap.get?_push_size _ rfl, .nil, sim₆.fresh (none_at_size h₆)⟩
  obtain ⟨q, rb⟩ := (Dt.lst (W := W') (ns := [])).at sim₈ il
  refine eq_dataH ra rb (Dt.lol (W := W')).shaped (Dt.lst (W := W')).shaped (by have := sim.ok.un; show c.A.units + 64 < 9900; omega) ?_
  rw [show PyData.eqv (ll []) (.list (([] : List Int).map .int)) = _ from eqvLists [] []]
  exact hQ (.ret (.bool true)) _ _ (.ret (.bool true)) l' W' ⟨_, rfl, rfl⟩ sim₈ (st₆'.trans (Stp.ofKeeps kp).nil) hD
/-- into a def that may catch on its way -/
theorem FSr.enter {n : Nat} {f : Addr} {args : List SV} {C : SV → Wd → Prop} {q : String} {name : Str} {params : Arguments} {body : List Stmt} {scope : Scope}
    (hF : ∀ K, KF K → FnIs K f q name params body scope []) (l : Loc) (hal : args = l.map (·.2))
    (hb : ∀ (dV doc pm ct : Value) (an : Option Addr) (s : Shared) (vs : List Value), vs.length = args.length → dV = .none →
      BindsTo s (fnOf name (Str.ofString q) params body scope dV .none doc pm an (.ref (f - 1)) ct) ⟨vs, []⟩ ((l.map (·.1)).zip (vs ++ [])))
    (hst : l.all (fun p => p.2.stable) = true) (hok : fnOk (l.map (·.1)) scope = true)
    (H : ∀ c : Gx, c.n = n → c.cs = scope → ExR c l W body (Done C)) : FSr (n + 1) (.ref f) args W C := by
  intro c s h t R vs hcn sim ha hR
  refine entry0 (ds := []) hF l [] [] (by rw [List.append_nil]; exact hal) hb (fun _ _ _ => .nil) hst hok hcn sim ha fun h₁ t₁ hk₁ sim' => ?_
  refine H (c.callee n f q scope h W []) rfl rfl s h₁ t₁ _ _ sim' fun fl h' t' fl' l' W' g₂ hfl sim₂ stp hC => ?_
  have new : ∀ x, W'.Mut x → W.Mut x ∨ h.get? x = none := fun x m => (stp.st.new x m).imp id fun z => by
    cases e : h.get? x with
    | none => rfl
    | some o => rw [hk₁ x o e] at z; cases z
  have frm : ∀ b o, c.Frm b → h.get? b = some o → ∃ sl, h'.get? b = some { o with slots := sl } := fun b o y z => stp.out b o (callee_out y) (hk₁ b o z)
  have st : StpR c W h W' h' := ⟨⟨fun b o z n nf => stp.st.keep b o (hk₁ b o z) n fun y => nf (callee_frm z y), new, fun x o z => stp.st.live x o (hk₁ x o z), stp.st.role⟩, fun b o y z => frm b o (.inr y) z⟩
  have weak : ∀ b o, h'.get? b = some o → ¬ W'.P (c.callee n f q scope h W []).Fm b → h'.get? b = some o ∧ ¬ W'.P c.Fm b := fun b o e m => ⟨e, fun z => m (z.elim .inl fun y => .inr (calleeFm' b y))⟩
  have ws : WS c.w c.Fm c.g c.L h' W' := ⟨fun r => SO.imp (.refl W') weak (fun _ _ _ e => e) (sim₂.ws.holds r), calleeFresh sim new, sim₂.ws.apart, sim₂.ws.nodup⟩
  cases fl' with
  | next => subst hfl; exact hR _ h' t' .none W' rfl ws st (fun o z => frm _ o (.inl rfl) z) hC
  | ret sv => obtain ⟨v, rfl, i⟩ := hfl; exact hR v h' t' sv W' (SV.is_imp (.refl W') weak i) ws st (fun o z => frm _ o (.inl rfl) z) hC
  | brk => exact hC.elim
  | cont => exact hC.elim
theorem FSr.mono {k n : Nat} {f : Value} {as : List SV} {C : SV → Wd → Prop} (hk : k ≤ n) (h : FSr k f as W C) : FSr n f as W C := fun c s hh t R vs hn => h c s hh t R vs (Nat.le_trans hk hn)
/-- such a call from the law's own frame -/
theorem Ev.callR {x : Str} {np pos : Pos} {e : Expr} {es : List Expr} {sc : Scope} {C : SV → Wd → Prop} (h0 : c.outer = []) (f : Addr) (hg : glbOk x f = true) (hkp : kpOk f = true) (hs : c.cs = sc) (hk : sc.names.lookup x = some .globalImplicit) (hd : (x == Str.ofString "__debug__") = false)
    (H : Ars c l W (spliced (backTo pos (starEach (e :: es) c.env))) fun as W₁ => FSr c.n (.ref f) as W₁ C) (he : ∀ env, starEach (e :: es) env = (false, eval e env) :: starEach es env) (hp : ∀ env, (backTo pos (starEach es env)).any (·.1) = false)
    (hc : ∀ env, eval (.Call (.Name x np) (e :: es) [] pos) env = (do callWith pos (← eval (.Name x np) env) [] (backTo pos (starEach (e :: es) env)) (backToKw pos (keywordEach [] env)))) : Ev c l W (.Call (.Name x np) (e :: es) [] pos) C := by
  intro s h t Q E tr sim htr hQ
  subst htr
  refine Call_ ?_ (hc _)
  refine Ev.glb (C := fun sv W₁ => sv = .fn (.ref f) ∧ W₁ = W) f hg hs hk hd ⟨rfl, rfl⟩ s h t _ E _ sim rfl fun v h' t' sv W' i sim' st ⟨e1, e2⟩ => ?_
  subst e1 e2
  cases i
  refine callWith_K (s := St s h' t') sim'.ok.X (sim'.ok.F.kp f hkp) ?_ (he _) (hp _)
  refine H s h' t' _ E sim' fun vs h2 t2 as W2 is2 sim2 st2 hF => ⟨sim2.K, ?_⟩
  refine wpAny_call (hF c s h2 t2 _ vs (Nat.le_refl _) (sim2.fewer fun _ z => nomatch z) is2 fun v h3 t3 sv W3 i3 ws3 st3 own hC => ?_)
  have st3' : Stp c.X W2 h2 W3 h3 := st3.st.weaken fun x z => z.elim id fun ⟨e, he, _⟩ => by rw [h0] at he; cases he
  obtain ⟨m, F, hl⟩ := sim2.fr
  have ns3 : h3.Ns c.L m := by
    obtain ⟨o, es, ep, ho, hd, r⟩ := F.ns
    obtain ⟨sl, hs⟩ := own o ho
    exact ⟨_, es, ep, hs, hd, r⟩
  have sim3 : Sim c h3 l W3 := ⟨sim2.ok, ⟨m, ⟨ns3, fun b o q => st3'.keep b o (F.keep b o q) (sim2.ws.gmut q) (Nat.ne_of_lt (Nat.lt_of_lt_of_le (Heap.lt_size q) F.above)), F.above⟩, hl.stp c.XF st3'⟩, ws3, fun y hy => let ⟨⟨o, e⟩, n⟩ := sim2.it y hy; ⟨st3'.live y o e, st3'.notMut e n⟩⟩
  exact hQ v h3 t3 sv W3 i3 sim3 ((st.trans st2).trans st3') hC
end
theorem NxR.next {c : Gx} {l : Loc} {W : Wd} {rest : List Stmt} {D : Fl → Loc → Wd → Prop} (h : ExR c l W rest D) : NxR c rest D .next l W := h
theorem NxR.ret {c : Gx} {l : Loc} {W : Wd} {rest : List Stmt} {D : Fl → Loc → Wd → Prop} {sv : SV} (h : D (.ret sv) l W) : NxR c rest D (.ret sv) l W := h
theorem ExR.forget {c : Gx} {l : Loc} {W : Wd} {b : List Stmt} {D : Fl → Loc → Wd → Prop} (l' : Loc) (hl : ∀ p ∈ l', p ∈ l) (H : ExR c l' W b D) : ExR c l W b D := fun s h t Q E sim hQ => H s h t Q E (sim.fewer hl) hQ
theorem Sx.imp {c : Gx} {l : Loc} {W : Wd} {st : Stmt} {D D' : Fl → Loc → Wd → Prop} (H : Sx c l W st D') (f : ∀ fl l W, D' fl l W → D fl l W) : Sx c l W st D := TF.imp H f
theorem ExF.if_ {c : Gx} {l : Loc} {W : Wd} {test : Expr} {body orelse rest : List Stmt} {pos : Pos} {C : Loc → Wd → Prop} (H : Is c l W test fun b W₁ => (b = true → ExF c l W₁ body C) ∧ (b = false → ExF c l W₁ orelse C)) : ExF c l W (.If test body orelse pos :: rest) C := by
  intro s h t Q E sim hQ
  refine wpAny_execs_cons (wpAny_If (H s h t _ E sim fun b h' t' W' sim' st hD => ?_))
  cases b with
  | true => rw [if_pos rfl]; exact hD.1 rfl s h' t' _ E sim' fun e h2 t2 l2 W2 B m f hn hl hC => hQ e h2 t2 l2 W2 B m (f.pre sim st) hn hl hC
  | false => rw [if_neg (by decide)]; exact hD.2 rfl s h' t' _ E sim' fun e h2 t2 l2 W2 B m f hn hl hC => hQ e h2 t2 l2 W2 B m (f.pre sim st) hn hl hC
end
theorem memI {α : Type} {l : List α} {p : α} (i : Nat) (h : l[i]? = some p) : p ∈ l := List.mem_of_getElem? h
section
structure Txt (x : AS) (T : List Int) : Prop where
  g0 : 0 ≤ x.gs
  g1 : x.gs ≤ x.ge
  g2 : x.ge ≤ x.cells.length
  sz : x.cells.length ≤ 100000
  tx : T = x.cells.take x.gs.toNat ++ x.cells.drop x.ge.toNat
theorem Txt.len {x : AS} {T : List Int} (t : Txt x T) : (T.length : Int) = x.cells.length - x.ge + x.gs := by
  obtain ⟨a, b, c, d, e⟩ := t
  rw [e, List.length_append, List.length_take, List.length_drop]
  (clear d; omega)
variable {ad dad : Role → Addr} {x : AS} {T : List Int} {C : SV → Wd → Prop}
theorem wd_cells {ns : List Int} : (wd ad dad x).put .cells (.nums ns) = wd ad dad { x with cells := ns } := wd_put rfl (fun r' e => by cases r' <;> first | rfl | exact absurd rfl e)
theorem Nl.cells : Nl (wd ad dad x) (.role .cells) x.cells := .role rfl
theorem lo_num {i : Int} {n : Nat} (h : 0 ≤ i) : kms_lo (Pt.num i).opt n = min i.toNat n := by
  show (if i < 0 then _ else _) = _
  rw [if_neg (by omega)]
theorem hi_num {i : Int} {n : Nat} (h : 0 ≤ i) : kms_hi (Pt.num i).opt n = min i.toNat n := by
  show (if i < 0 then _ else _) = _
  rw [if_neg (by omega)]
theorem size_spec (t : Txt x T) (hC : C (.int T.length) (wd ad dad x)) : FS 1 (.ref 520) [.role .gap] (wd ad dad x) C := by
  refine FS.enter (n := 0) (q := "GapText.size") (ds := []) (fun K k => k.f520) [(Str.ofString "self", .role .gap)] [] [] rfl ?hb (fun _ _ _ => .nil) (by rfl) (by kernel_rfl) ?H
  case hb => intro dV doc pm ct an s vs hl hd; subst hd; obtain ⟨a, e0⟩ := len1 hl; subst e0; exact BindsTo.of_eq rfl
  intro c hn hs
  refine Ex.cons ?_; refine Sx.ret ?_; refine Ev.bin ?_; refine Ev.bin ?_; refine Ev.bcall "len" (by kernel_rfl) PySem.boot_len hs rfl (by kernel_rfl) (by decide) ?_ (fun _ => rfl) (fun _ => rfl) (fun _ => rfl); refine Ars.more ?_ (fun _ => rfl); refine Ev.attr ?_ (fun _ => rfl); refine Ev.name (memI 0 rfl) ?_; refine Get.gap_cells ?_; refine Ars.nil ?_; refine ⟨Or.inl rfl, ?_⟩
  refine BC.len (.nums Nl.cells) ?hz ?_
  case hz => have := t.sz; (clear hn; omega)
  refine ⟨rfl, ?_⟩; refine Ev.attr ?_ (fun _ => rfl); refine Ev.name (memI 0 rfl) ?_; refine Get.gap_gap_end ?_; refine Bin.sub ?_; refine ⟨rfl, ?_⟩; refine Ev.attr ?_ (fun _ => rfl); refine Ev.name (memI 0 rfl) ?_; refine Get.gap_gap_start ?_; refine Bin.add ?_; refine Nx.ret ?_; refine Done.ret ?_
  rw [← t.len]; exact hC
end
section
variable {ad dad : Role → Addr} {x : AS} {T : List Int} {C : SV → Wd → Prop}
/-- a stretch -/
noncomputable def sl (T : List Int) (i j : Int) : List Int := (T.drop i.toNat).take (j.toNat - i.toNat)
section
variable {c T us moved U : List Int} {g e i j a m : Nat}
theorem take2 (h : a ≤ g) : c.take a ++ (c.drop a).take (g - a) = c.take g := by
  rw [← List.take_add, Nat.add_sub_cancel' h]
theorem lenT (h : g ≤ c.length) : (c.take g).length = g := by rw [List.length_take, Nat.min_eq_left h]
theorem dropL (h : A.length = n) : (A ++ c).drop (n + k) = c.drop k := by
  subst h; rw [List.drop_append, List.drop_of_length_le (Nat.le_add_right _ _), List.nil_append, Nat.add_sub_cancel_left]
theorem takeL (h : A.length = n) : (A ++ c).take n = A := by subst h; exact List.take_left
theorem slA (hg : g ≤ c.length) (hi : i ≤ g) (hj : j ≤ g) : ((c.take g ++ c.drop e).drop i).take (j - i) = (c.drop i).take (j - i) := by
  rw [List.drop_append_of_le_length (by rw [lenT hg]; exact hi), List.drop_take, List.take_append_of_le_length (by rw [List.length_take, List.length_drop]; exact Nat.le_min.mpr ⟨Nat.sub_le_sub_right hj i, Nat.sub_le_sub_right (Nat.le_trans hj hg) i⟩), List.take_take, Nat.min_eq_left (Nat.sub_le_sub_right hj i)]
theorem slB (hg : g ≤ c.length) (hi : g ≤ i) : ((c.take g ++ c.drop e).drop i).take m = (c.drop (e + (i - g))).take m := by
  rw [← Nat.add_sub_cancel' hi, dropL (lenT hg), List.drop_drop, Nat.add_sub_cancel_left]
theorem slC (hg : g ≤ c.length) (hi : i ≤ g) (hj : g ≤ j) : ((c.take g ++ c.drop e).drop i).take (j - i) = (c.drop i).take (g - i) ++ (c.drop e).take (j - g) := by
  have hl : ((c.drop i).take (g - i)).length = g - i := by rw [List.length_take, List.length_drop, Nat.min_eq_left (Nat.sub_le_sub_right hg i)]
  rw [List.drop_append_of_le_length (by rw [lenT hg]; exact hi), List.drop_take, show j - i = (g - i) + (j - g) from (Nat.sub_add_sub_cancel hj hi ▸ Nat.add_comm _ _)]
  rw [List.take_append, hl, Nat.add_sub_cancel_left, List.take_of_length_le (by rw [hl]; exact Nat.le_add_right _ _)]
theorem tnG {a g e : Int} (h0 : 0 ≤ g) (h1 : g ≤ e) (h2 : g ≤ a) : (a + (e - g)).toNat = e.toNat + (a.toNat - g.toNat) := by omega
theorem lenTD {l : List Int} (a b : Nat) : ((l.drop a).take b).length ≤ l.length := by
  rw [List.length_take, List.length_drop]; exact Nat.le_trans (Nat.min_le_right _ _) (Nat.sub_le _ _)
end

theorem codes_spec (t : Txt x T) {i j : Int} (h0 : 0 ≤ i) (h1 : i ≤ j) (h2 : j ≤ T.length) (hC : C (.lst (sl T i j)) (wd ad dad x)) : FS 1 (.ref 534) [.role .gap, .int i, .int j] (wd ad dad x) C := by
  refine FS.enter (n := 0) (q := "GapText.codes") (ds := []) (fun K k => k.f534) [(Str.ofString "self", .role .gap), (Str.ofString "start", .int i), (Str.ofString "end", .int j)] [] [] rfl ?hb (fun _ _ _ => .nil) (by rfl) (by kernel_rfl) ?H
  case hb => intro dV doc pm ct an s vs hl hd; subst hd; obtain ⟨a, b, c, e0⟩ := len3 hl; subst e0; exact BindsTo.of_eq rfl
  intro c hn hs
  have g0 := t.g0
  have g1 := t.g1
  have g2 := t.g2
  have sz := t.sz
  have tl := t.len
  have G : x.gs.toNat ≤ x.cells.length := Int.toNat_le.mpr (Int.le_trans g1 g2)
  have I : i.toNat ≤ j.toNat := Int.toNat_le_toNat h1
  refine Ex.cons ?_; refine Sx.assignNew hs rfl (by kernel_rfl) rfl ?_ (fun _ => rfl); refine Ev.bin ?_; refine Ev.attr ?_ (fun _ => rfl); refine Ev.name (memI 0 rfl) ?_; refine Get.gap_gap_end ?_; refine ⟨rfl, ?_⟩; refine Ev.attr ?_ (fun _ => rfl); refine Ev.name (memI 0 rfl) ?_; refine Get.gap_gap_start ?_; refine Bin.sub ?_; refine ⟨rfl, ?_⟩; refine Nx.next ?_; refine Ex.cons ?_; refine Sx.if_ ?_; refine Is.cmp ?_ rfl; refine Ev.name (memI 3 rfl) ?_; refine ⟨rfl, ?_⟩; refine Ev.attr ?_ (fun _ => rfl); refine Ev.name (memI 1 rfl) ?_; refine Get.gap_gap_start ?_; refine Cmp.le ?_; refine ⟨_, rfl, ?_⟩
  refine ⟨fun h => ?_, fun h => ?_⟩ <;> simp only [decide_eq_true_eq, decide_eq_false_iff_not] at h
  · refine Ex.cons ?_; refine Sx.ret ?_; refine Ev.cutS ?_; refine Ev.attr ?_ (fun _ => rfl); refine Ev.name (memI 1 rfl) ?_; refine Get.gap_cells ?_; refine Part.some ?_; refine Ev.name (memI 2 rfl) ?_; refine ⟨_, rfl, ?_⟩; refine Part.some ?_; refine Ev.name (memI 3 rfl) ?_; refine ⟨_, rfl, ?_⟩; refine ⟨Or.inl rfl, ?_⟩
    refine ⟨_, _, .nums Nl.cells, by (clear h0 h1 h2 hn g0 g1 g2 tl h; omega), ?_⟩
    refine Nx.ret ?_; refine Nx.ret ?_; refine Done.ret ?_
    rw [lo_num h0, hi_num (by (clear h2 hn g0 g1 g2 sz tl h; omega))]
    have J := Int.toNat_le_toNat h
    have e : (x.cells.drop (min i.toNat x.cells.length)).take (min j.toNat x.cells.length - min i.toNat x.cells.length) = sl T i j := by
      unfold sl
      rw [t.tx, Nat.min_eq_left (Nat.le_trans I (Nat.le_trans J G)), Nat.min_eq_left (Nat.le_trans J G), slA G (Nat.le_trans I J) J]
    rw [e]; exact hC
  · refine Ex.nil ?_; refine Nx.next ?_; refine Ex.cons ?_; refine Sx.if_ ?_; refine Is.cmp ?_ rfl; refine Ev.name (memI 2 rfl) ?_; refine ⟨rfl, ?_⟩; refine Ev.attr ?_ (fun _ => rfl); refine Ev.name (memI 1 rfl) ?_; refine Get.gap_gap_start ?_; refine Cmp.ge ?_; refine ⟨_, rfl, ?_⟩
    refine ⟨fun h' => ?_, fun h' => ?_⟩ <;> simp only [decide_eq_true_eq, decide_eq_false_iff_not] at h'
    · refine Ex.cons ?_; refine Sx.ret ?_; refine Ev.cutS ?_; refine Ev.attr ?_ (fun _ => rfl); refine Ev.name (memI 1 rfl) ?_; refine Get.gap_cells ?_; refine Part.some ?_; refine Ev.bin ?_; refine Ev.name (memI 2 rfl) ?_; refine ⟨rfl, ?_⟩; refine Ev.name (memI 0 rfl) ?_; refine Bin.add ?_; refine ⟨_, rfl, ?_⟩; refine Part.some ?_; refine Ev.bin ?_; refine Ev.name (memI 3 rfl) ?_; refine ⟨rfl, ?_⟩; refine Ev.name (memI 0 rfl) ?_; refine Bin.add ?_; refine ⟨_, rfl, ?_⟩; refine ⟨Or.inl rfl, ?_⟩
      refine ⟨_, _, .nums Nl.cells, by (clear h0 h1 h2 hn g0 g1 g2 tl h h'; omega), ?_⟩
      refine Nx.ret ?_; refine Nx.ret ?_; refine Done.ret ?_
      rw [lo_num (by (clear h1 h2 hn g0 g2 sz tl h h'; omega)), hi_num (by (clear h2 hn g0 g2 sz tl h h'; omega))]
      have H' : x.gs ≤ i := by (clear h0 h1 h2 hn g0 g1 g2 sz tl h I G; omega)
      have e : (x.cells.drop (min (i + (x.ge - x.gs)).toNat x.cells.length)).take (min (j + (x.ge - x.gs)).toNat x.cells.length - min (i + (x.ge - x.gs)).toNat x.cells.length) = sl T i j := by
        have L : (j + (x.ge - x.gs)).toNat ≤ x.cells.length := by (clear h0 h1 hn g0 g1 g2 sz h h' H' I G; omega)
        rw [tnG g0 g1 (Int.le_trans H' h1)] at L ⊢
        rw [tnG g0 g1 H']
        have M := Nat.add_le_add_left (Nat.sub_le_sub_right I x.gs.toNat) x.ge.toNat
        rw [Nat.min_eq_left (Nat.le_trans M L), Nat.min_eq_left L, Nat.add_sub_add_left, Nat.sub_sub_sub_cancel_right (Int.toNat_le_toNat H')]
        unfold sl
        rw [t.tx, slB G (Int.toNat_le_toNat H')]
      rw [e]; exact hC
    · refine Ex.nil ?_; refine Nx.next ?_; refine Ex.cons ?_; refine Sx.ret ?_; refine Ev.bin ?_; refine Ev.cutS ?_; refine Ev.attr ?_ (fun _ => rfl); refine Ev.name (memI 1 rfl) ?_; refine Get.gap_cells ?_; refine Part.some ?_; refine Ev.name (memI 2 rfl) ?_; refine ⟨_, rfl, ?_⟩; refine Part.some ?_; refine Ev.attr ?_ (fun _ => rfl); refine Ev.name (memI 1 rfl) ?_; refine Get.gap_gap_start ?_; refine ⟨_, rfl, ?_⟩; refine ⟨Or.inl rfl, ?_⟩
      refine ⟨_, _, .nums Nl.cells, by (clear h0 h1 h2 hn g0 g1 g2 tl h h'; omega), ?_⟩
      refine ⟨rfl, ?_⟩; refine Ev.cutS ?_; refine Ev.attr ?_ (fun _ => rfl); refine Ev.name (memI 1 rfl) ?_; refine Get.gap_cells ?_; refine Part.some ?_; refine Ev.attr ?_ (fun _ => rfl); refine Ev.name (memI 1 rfl) ?_; refine Get.gap_gap_end ?_; refine ⟨_, rfl, ?_⟩; refine Part.some ?_; refine Ev.bin ?_; refine Ev.name (memI 3 rfl) ?_; refine ⟨rfl, ?_⟩; refine Ev.name (memI 0 rfl) ?_; refine Bin.add ?_; refine ⟨_, rfl, ?_⟩; refine ⟨Or.inl rfl, ?_⟩
      refine ⟨_, _, .nums Nl.cells, by (clear h0 h1 h2 hn g0 g1 g2 tl h h'; omega), ?_⟩
      refine Bin.cat .lst .lst (Nat.le_trans (Nat.add_le_add (lenTD _ _) (lenTD _ _)) (by (clear h0 h1 h2 hn g0 g1 g2 tl h h'; omega))) ?_
      refine Nx.ret ?_; refine Done.ret ?_
      rw [lo_num h0, hi_num (by (clear h0 h1 h2 hn g1 g2 sz tl h h'; omega)), lo_num (by (clear h1 h2 hn g0 g2 sz tl h; omega)), hi_num (by (clear h2 hn g0 g2 sz tl h h'; omega))]
      have H : x.gs ≤ j := by (clear h0 h1 h2 hn g0 g1 g2 sz tl h' I G; omega)
      have H' : i ≤ x.gs := by (clear h0 h1 h2 hn g0 g1 g2 sz tl h H I G; omega)
      have e : (x.cells.drop (min i.toNat x.cells.length)).take (min x.gs.toNat x.cells.length - min i.toNat x.cells.length) ++ (x.cells.drop (min x.ge.toNat x.cells.length)).take (min (j + (x.ge - x.gs)).toNat x.cells.length - min x.ge.toNat x.cells.length) = sl T i j := by
        have L : (j + (x.ge - x.gs)).toNat ≤ x.cells.length := by (clear h0 h1 hn g0 g1 g2 sz h h' H' H I G; omega)
        have I' := Int.toNat_le_toNat H'
        rw [tnG g0 g1 H] at L ⊢
        rw [Nat.min_eq_left (Nat.le_trans I' G), Nat.min_eq_left G, Nat.min_eq_left L, Nat.min_eq_left (Int.toNat_le.mpr g2), Nat.add_sub_cancel_left]
        unfold sl
        rw [t.tx, slC G I' (Int.toNat_le_toNat H)]
      rw [e]; exact hC
section
variable {c U z : List Int} {g e i j a A n : Nat}
theorem take3 (h : i ≤ n) (hn : n ≤ c.length) (X Y : List Int) : (c.take n ++ X ++ Y).take i = c.take i := by
  rw [List.append_assoc, List.take_append_of_le_length (by rw [lenT hn]; exact h), List.take_take, Nat.min_eq_left h]
theorem drop3 (hn : n ≤ c.length) (X Y : List Int) : (c.take n ++ X ++ Y).drop n = X ++ Y := by
  rw [List.append_assoc]; exact List.drop_left' (lenT hn)
theorem drop4 (X : List Int) (h : X.length = a) (k : Nat) : (X ++ c.drop n).drop (a + k) = c.drop (n + k) := by rw [dropL h, List.drop_drop]
theorem mvL (h : a ≤ g) (hA : a ≤ A) (hA2 : A ≤ c.length) : c.take g ++ c.drop e = (c.take A ++ (c.drop a).take (g - a) ++ c.drop e).take a ++ (c.take A ++ (c.drop a).take (g - a) ++ c.drop e).drop A := by
  rw [take3 hA hA2, drop3 hA2, ← List.append_assoc, take2 h]
theorem mvR (h : g ≤ a) (hge : g ≤ e) (he : e + (a - g) ≤ c.length) : c.take g ++ c.drop e = (c.take g ++ (c.drop e).take (a - g) ++ c.drop a).take a ++ (c.take g ++ (c.drop e).take (a - g) ++ c.drop a).drop (e + (a - g)) := by
  have hl : (c.take g ++ (c.drop e).take (a - g)).length = a := by
    rw [List.length_append, lenT (Nat.le_trans hge (Nat.le_trans (Nat.le_add_right _ _) he)), List.length_take, List.length_drop, Nat.min_eq_left (Nat.le_sub_of_add_le (Nat.add_comm _ _ ▸ he)), Nat.add_sub_cancel' h]
  rw [takeL hl, show e + (a - g) = a + (e - g) by omega, drop4 _ hl, List.append_assoc]
  congr 1
  rw [show a + (e - g) = e + (a - g) by omega, ← List.drop_drop, List.take_append_drop]
theorem wdn (h : g ≤ e) (he : e ≤ c.length) (hz : z.length = n) : c.take g ++ c.drop e = (c.take e ++ z ++ c.drop e).take g ++ (c.take e ++ z ++ c.drop e).drop (e + n) := by
  rw [take3 h he]
  congr 1
  have hl : (c.take e ++ z).length = e + n := by rw [List.length_append, lenT he, hz]
  exact (List.drop_left' hl).symm
theorem ins (ha : a ≤ c.length) (hn : U.length = n) (he : a + n ≤ e) : (c.take a ++ c.drop e).take a ++ U ++ (c.take a ++ c.drop e).drop a = (c.take a ++ U ++ c.drop (a + n)).take (a + n) ++ (c.take a ++ U ++ c.drop (a + n)).drop e := by
  have hl : (c.take a ++ U).length = a + n := by rw [List.length_append, lenT ha, hn]
  rw [takeL (lenT ha), takeL hl, List.drop_left' (lenT ha)]
  congr 1
  rw [show e = a + n + (e - (a + n)) by omega, drop4 _ hl]
theorem del (hg : g ≤ c.length) (hi : i ≤ g) (hj : g ≤ j) : (c.take g ++ c.drop e).take i ++ (c.take g ++ c.drop e).drop j = c.take i ++ c.drop (e + (j - g)) := by
  rw [List.take_append_of_le_length (by rw [lenT hg]; exact hi), List.take_take, Nat.min_eq_left hi, ← Nat.add_sub_cancel' hj, dropL (lenT hg), List.drop_drop, Nat.add_sub_cancel_left]
theorem putCut_nat {ns us : List Int} {i j : Int} (h0 : 0 ≤ i) (h1 : i ≤ j) (h2 : j ≤ ns.length) : putCut ns us (.num i) (.num j) = ns.take i.toNat ++ us ++ ns.drop j.toNat := by
  unfold putCut
  rw [lo_num h0, hi_num (Int.le_trans h0 h1), Nat.min_eq_left (Int.toNat_le.mpr (Int.le_trans h1 h2)), Nat.min_eq_left (Int.toNat_le.mpr h2), Nat.max_eq_right (Int.toNat_le_toNat h1)]
theorem putCut_len {ns us : List Int} {i j : Int} (h0 : 0 ≤ i) (h1 : i ≤ j) (h2 : j ≤ ns.length) : ((putCut ns us (.num i) (.num j)).length : Int) = ns.length + us.length - (j - i) := by
  rw [putCut_nat h0 h1 h2, List.length_append, List.length_append, lenT (Int.toNat_le.mpr (Int.le_trans h1 h2)), List.length_drop]
  obtain ⟨a, rfl⟩ := Int.eq_ofNat_of_zero_le h0
  obtain ⟨b, rfl⟩ := Int.eq_ofNat_of_zero_le (Int.le_trans h0 h1)
  rw [Int.toNat_natCast, Int.toNat_natCast]
  omega
end
theorem move_gap_spec (t : Txt x T) {a : Int} (h0 : 0 ≤ a) (h1 : a ≤ T.length) (hC : ∀ cells : List Int, cells.length = x.cells.length → Txt { x with cells := cells, gs := a, ge := a + (x.ge - x.gs) } T → C .none (wd ad dad { x with cells := cells, gs := a, ge := a + (x.ge - x.gs) })) : FS 1 (.ref 541) [.role .gap, .int a] (wd ad dad x) C := by
  refine FS.enter (n := 0) (q := "GapText.move_gap") (ds := []) (fun K k => k.f541) [(Str.ofString "self", .role .gap), (Str.ofString "at", .int a)] [] [] rfl ?hb (fun _ _ _ => .nil) (by rfl) (by kernel_rfl) ?H
  case hb => intro dV doc pm ct an s vs hl hd; subst hd; obtain ⟨a, b, e0⟩ := len2 hl; subst e0; exact BindsTo.of_eq rfl
  intro c hn hs
  have g0 := t.g0
  have g1 := t.g1
  have g2 := t.g2
  have sz := t.sz
  have tl := t.len
  refine Ex.cons ?_; refine Sx.if_ ?_; refine Is.cmp ?_ rfl; refine Ev.name (memI 1 rfl) ?_; refine ⟨rfl, ?_⟩; refine Ev.attr ?_ (fun _ => rfl); refine Ev.name (memI 0 rfl) ?_; refine Get.gap_gap_start ?_; refine Cmp.lt ?_; refine ⟨_, rfl, ?_⟩
  refine ⟨fun h => ?_, fun h => ?_⟩ <;> simp only [decide_eq_true_eq, decide_eq_false_iff_not] at h
  · refine Ex.cons ?_; refine Sx.assignNew hs rfl (by kernel_rfl) rfl ?_ (fun _ => rfl); refine Ev.cutS ?_; refine Ev.attr ?_ (fun _ => rfl); refine Ev.name (memI 0 rfl) ?_; refine Get.gap_cells ?_; refine Part.some ?_; refine Ev.name (memI 1 rfl) ?_; refine ⟨_, rfl, ?_⟩; refine Part.some ?_; refine Ev.attr ?_ (fun _ => rfl); refine Ev.name (memI 0 rfl) ?_; refine Get.gap_gap_start ?_; refine ⟨_, rfl, ?_⟩; refine ⟨Or.inl rfl, ?_⟩
    refine ⟨_, _, .nums Nl.cells, by (clear h0 h1 hn g0 g1 g2 tl h; omega), ?_⟩
    refine ⟨rfl, ?_⟩; refine Nx.next ?_; refine Ex.cons ?_
    rw [lo_num h0, hi_num (by (clear h0 h1 hn g1 g2 sz tl h; omega))]
    generalize hm : (x.cells.drop (min a.toNat x.cells.length)).take (min x.gs.toNat x.cells.length - min a.toNat x.cells.length) = moved
    have ml : (moved.length : Int) = x.gs - a := by
      have G := Int.toNat_le.mpr (Int.le_trans g1 g2)
      rw [← hm, Nat.min_eq_left (Nat.le_trans (Int.toNat_le_toNat (Int.le_of_lt h)) G), Nat.min_eq_left G, List.length_take, List.length_drop, Nat.min_eq_left (Nat.sub_le_sub_right G _), Int.ofNat_sub (Int.toNat_le_toNat (Int.le_of_lt h)), Int.toNat_of_nonneg g0, Int.toNat_of_nonneg h0]
    refine Sx.setslice .cells moved ?_ (fun _ => rfl)
    refine Ev.name (memI 0 rfl) ?_; refine ⟨rfl, ?_⟩; refine Ev.attr ?_ (fun _ => rfl); refine Ev.name (memI 1 rfl) ?_; refine Get.gap_cells ?_; refine ⟨rfl, ?_⟩; refine ⟨(by intro z; cases z), ?_⟩; refine Part.some ?_; refine Ev.bin ?_; refine Ev.attr ?_ (fun _ => rfl); refine Ev.name (memI 1 rfl) ?_; refine Get.gap_gap_end ?_; refine ⟨rfl, ?_⟩; refine Ev.bcall "len" (by kernel_rfl) PySem.boot_len hs rfl (by kernel_rfl) (by decide) ?_ (fun _ => rfl) (fun _ => rfl) (fun _ => rfl); refine Ars.more ?_ (fun _ => rfl); refine Ev.name (memI 0 rfl) ?_; refine Ars.nil ?_; refine ⟨Or.inl rfl, ?_⟩
    refine BC.len (.nums .lst) ?hz ?_
    case hz => (clear h1 hn g0 tl h; omega)
    refine Bin.sub ?_; refine ⟨_, rfl, ?_⟩; refine Part.some ?_; refine Ev.attr ?_ (fun _ => rfl); refine Ev.name (memI 1 rfl) ?_; refine Get.gap_gap_end ?_; refine ⟨_, rfl, ?_⟩
    refine ⟨x.cells, rfl, by (clear h0 h1 hn g0 g1 g2 tl h ml; omega), by (clear h1 hn g0 tl h; omega), ?_⟩
    rw [wd_cells]
    try dsimp only
    refine Nx.next ?_; refine Ex.cons ?_; refine Sx.setattr ?_ (fun _ => rfl); refine Ev.bin ?_; refine Ev.attr ?_ (fun _ => rfl); refine Ev.name (memI 1 rfl) ?_; refine Get.gap_gap_end ?_; refine ⟨rfl, ?_⟩; refine Ev.bcall "len" (by kernel_rfl) PySem.boot_len hs rfl (by kernel_rfl) (by decide) ?_ (fun _ => rfl) (fun _ => rfl) (fun _ => rfl); refine Ars.more ?_ (fun _ => rfl); refine Ev.name (memI 0 rfl) ?_; refine Ars.nil ?_; refine ⟨Or.inl rfl, ?_⟩
    refine BC.len (.nums .lst) ?hz ?_
    case hz => (clear h1 hn g0 tl h; omega)
    refine Bin.sub ?_; refine ⟨rfl, ?_⟩; refine Ev.name (memI 1 rfl) ?_; refine SetA.gap_gap_end ?_; (try dsimp only); refine Nx.next ?_; refine Ex.nil ?_; refine Nx.next ?_; refine Ex.cons ?_; refine Sx.setattr ?_ (fun _ => rfl); refine Ev.name (memI 2 rfl) ?_; refine ⟨rfl, ?_⟩; refine Ev.name (memI 1 rfl) ?_; refine SetA.gap_gap_start ?_; (try dsimp only); refine Nx.next ?_; refine Ex.nil ?_; refine Done.next ?_
    rw [ml]
    have e : x.ge - (x.gs - a) = a + (x.ge - x.gs) := by (clear h0 h1 hn g0 g1 g2 sz tl h ml; omega)
    rw [e]
    have hl := putCut_len (ns := x.cells) (us := moved) (i := a + (x.ge - x.gs)) (j := x.ge) (by (clear h1 hn g0 g2 sz tl h ml e; omega)) (by (clear h0 h1 hn g0 g1 g2 sz tl h e; omega)) (by (clear h0 h1 hn g0 g1 sz tl h ml e; omega))
    have A0 : a ≤ a + (x.ge - x.gs) := by (clear h0 h1 hn g0 g2 sz tl h ml e hl; omega)
    have A1 : a + (x.ge - x.gs) ≤ x.ge := by (clear h0 h1 hn g0 g1 g2 sz tl ml e hl A0; omega)
    have A2 := Int.le_trans A1 g2
    refine hC _ (by (clear h0 h1 hn g0 g1 g2 sz tl h e A0 A1 A2; omega)) ⟨h0, A0, by dsimp only; (clear h0 h1 hn g0 g1 sz tl h e; omega), by dsimp only; (clear h0 h1 hn g0 g1 g2 tl h e A0 A1 A2; omega), ?_⟩
    dsimp only
    rw [putCut_nat (Int.le_trans h0 A0) A1 g2, ← hm, t.tx, Nat.min_eq_left (Int.toNat_le.mpr (Int.le_trans A0 A2)), Nat.min_eq_left (Int.toNat_le.mpr (Int.le_trans g1 g2))]
    exact mvL (Int.toNat_le_toNat (Int.le_of_lt h)) (Int.toNat_le_toNat A0) (Int.toNat_le.mpr A2)
  · refine Ex.cons ?_; refine Sx.assignNew hs rfl (by kernel_rfl) rfl ?_ (fun _ => rfl); refine Ev.cutS ?_; refine Ev.attr ?_ (fun _ => rfl); refine Ev.name (memI 0 rfl) ?_; refine Get.gap_cells ?_; refine Part.some ?_; refine Ev.attr ?_ (fun _ => rfl); refine Ev.name (memI 0 rfl) ?_; refine Get.gap_gap_end ?_; refine ⟨_, rfl, ?_⟩; refine Part.some ?_; refine Ev.bin ?_; refine Ev.bin ?_; refine Ev.attr ?_ (fun _ => rfl); refine Ev.name (memI 0 rfl) ?_; refine Get.gap_gap_end ?_; refine ⟨rfl, ?_⟩; refine Ev.name (memI 1 rfl) ?_; refine Bin.add ?_; refine ⟨rfl, ?_⟩; refine Ev.attr ?_ (fun _ => rfl); refine Ev.name (memI 0 rfl) ?_; refine Get.gap_gap_start ?_; refine Bin.sub ?_; refine ⟨_, rfl, ?_⟩; refine ⟨Or.inl rfl, ?_⟩
    refine ⟨_, _, .nums Nl.cells, by (clear h0 h1 hn g0 g1 g2 tl h; omega), ?_⟩
    refine ⟨rfl, ?_⟩; refine Nx.next ?_; refine Ex.cons ?_
    rw [lo_num (by (clear h0 h1 hn g2 sz tl h; omega)), hi_num (by (clear h1 hn g0 g2 sz tl h; omega))]
    generalize hm : (x.cells.drop (min x.ge.toNat x.cells.length)).take (min (x.ge + a - x.gs).toNat x.cells.length - min x.ge.toNat x.cells.length) = moved
    have ml : (moved.length : Int) = a - x.gs := by
      have H := Int.not_lt.mp h
      have A5 : x.ge.toNat + (a.toNat - x.gs.toNat) ≤ x.cells.length := by rw [← tnG g0 g1 H]; exact Int.toNat_le.mpr (by (clear h0 hn g0 g1 g2 sz h H; omega))
      rw [← hm, show x.ge + a - x.gs = a + (x.ge - x.gs) by (clear h0 h1 hn g0 g1 g2 sz tl h H; omega), tnG g0 g1 H, Nat.min_eq_left (Int.toNat_le.mpr g2), Nat.min_eq_left A5, Nat.add_sub_cancel_left, List.length_take, List.length_drop, Nat.min_eq_left (Nat.le_sub_of_add_le (Nat.add_comm _ _ ▸ A5)), Int.ofNat_sub (Int.toNat_le_toNat H), Int.toNat_of_nonneg g0, Int.toNat_of_nonneg h0]
    refine Sx.setslice .cells moved ?_ (fun _ => rfl)
    refine Ev.name (memI 0 rfl) ?_; refine ⟨rfl, ?_⟩; refine Ev.attr ?_ (fun _ => rfl); refine Ev.name (memI 1 rfl) ?_; refine Get.gap_cells ?_; refine ⟨rfl, ?_⟩; refine ⟨(by intro z; cases z), ?_⟩; refine Part.some ?_; refine Ev.attr ?_ (fun _ => rfl); refine Ev.name (memI 1 rfl) ?_; refine Get.gap_gap_start ?_; refine ⟨_, rfl, ?_⟩; refine Part.some ?_; refine Ev.bin ?_; refine Ev.attr ?_ (fun _ => rfl); refine Ev.name (memI 1 rfl) ?_; refine Get.gap_gap_start ?_; refine ⟨rfl, ?_⟩; refine Ev.bcall "len" (by kernel_rfl) PySem.boot_len hs rfl (by kernel_rfl) (by decide) ?_ (fun _ => rfl) (fun _ => rfl) (fun _ => rfl); refine Ars.more ?_ (fun _ => rfl); refine Ev.name (memI 0 rfl) ?_; refine Ars.nil ?_; refine ⟨Or.inl rfl, ?_⟩
    refine BC.len (.nums .lst) ?hz ?_
    case hz => (clear h0 hn g2 h; omega)
    refine Bin.add ?_; refine ⟨_, rfl, ?_⟩
    refine ⟨x.cells, rfl, by (clear h0 h1 hn g0 g1 g2 tl h ml; omega), by (clear h0 hn g2 h; omega), ?_⟩
    rw [wd_cells]
    try dsimp only
    refine Nx.next ?_; refine Ex.cons ?_; refine Sx.setattr ?_ (fun _ => rfl); refine Ev.bin ?_; refine Ev.attr ?_ (fun _ => rfl); refine Ev.name (memI 1 rfl) ?_; refine Get.gap_gap_end ?_; refine ⟨rfl, ?_⟩; refine Ev.bcall "len" (by kernel_rfl) PySem.boot_len hs rfl (by kernel_rfl) (by decide) ?_ (fun _ => rfl) (fun _ => rfl) (fun _ => rfl); refine Ars.more ?_ (fun _ => rfl); refine Ev.name (memI 0 rfl) ?_; refine Ars.nil ?_; refine ⟨Or.inl rfl, ?_⟩
    refine BC.len (.nums .lst) ?hz ?_
    case hz => (clear h0 hn g2 h; omega)
    refine Bin.add ?_; refine ⟨rfl, ?_⟩; refine Ev.name (memI 1 rfl) ?_; refine SetA.gap_gap_end ?_; (try dsimp only); refine Nx.next ?_; refine Ex.nil ?_; refine Nx.next ?_; refine Ex.cons ?_; refine Sx.setattr ?_ (fun _ => rfl); refine Ev.name (memI 2 rfl) ?_; refine ⟨rfl, ?_⟩; refine Ev.name (memI 1 rfl) ?_; refine SetA.gap_gap_start ?_; (try dsimp only); refine Nx.next ?_; refine Ex.nil ?_; refine Done.next ?_
    rw [ml]
    have e : x.ge + (a - x.gs) = a + (x.ge - x.gs) := by (clear h0 h1 hn g0 g1 g2 sz tl h ml; omega)
    have e2 : x.gs + (a - x.gs) = a := by (clear h0 h1 hn g0 g1 g2 sz tl h ml e; omega)
    rw [e, e2]
    have hl := putCut_len (ns := x.cells) (us := moved) (i := x.gs) (j := a) (by (clear h0 h1 hn g1 g2 sz tl h ml e e2; omega)) (by (clear h0 h1 hn g0 g1 g2 sz tl h e e2; omega)) (by (clear h0 hn g0 g2 sz h ml e e2; omega))
    have H : x.gs ≤ a := by (clear h0 h1 hn g0 g1 g2 sz tl ml e e2 hl; omega)
    have A1 : x.gs ≤ x.cells.length := Int.le_trans g1 g2
    have A2 : a + (x.ge - x.gs) ≤ x.cells.length := by (clear h0 hn g0 g1 g2 sz h ml e e2 hl H A1; omega)
    have A3 : a ≤ x.cells.length := by (clear h0 h1 hn g0 g2 sz tl h ml e e2 hl H A1; omega)
    have A4 : (x.ge + a - x.gs).toNat = x.ge.toNat + (a.toNat - x.gs.toNat) := by rw [show x.ge + a - x.gs = a + (x.ge - x.gs) by (clear h0 h1 hn g0 g1 g2 sz tl h ml e e2 hl H A1 A2 A3; omega)]; exact tnG g0 g1 H
    have A5 : x.ge.toNat + (a.toNat - x.gs.toNat) ≤ x.cells.length := by rw [← tnG g0 g1 H]; exact Int.toNat_le.mpr A2
    refine hC _ (by (clear h0 h1 hn g0 g1 g2 sz tl h e e2 H A1 A2 A3 A4 A5; omega)) ⟨h0, by dsimp only; (clear h0 h1 hn g0 g2 sz tl h ml e e2 hl H A1 A2 A3 A4 A5; omega), by dsimp only; (clear h0 h1 hn g0 g1 g2 sz tl h e e2 H A1 A3 A4 A5; omega), by dsimp only; (clear h0 h1 hn g0 g1 g2 tl h e e2 H A1 A2 A3 A4 A5; omega), ?_⟩
    dsimp only
    rw [putCut_nat g0 H A3, ← hm, t.tx, Nat.min_eq_left (Int.toNat_le.mpr g2), A4, Nat.min_eq_left A5, Nat.add_sub_cancel_left, tnG g0 g1 H]
    exact mvR (Int.toNat_le_toNat H) (Int.toNat_le_toNat g1) A5
theorem widen_gap_spec (t : Txt x T) {n : Int} (h0 : 0 ≤ n) (hz : T.length + n ≤ 90000) (hC : ∀ (cells : List Int) (ge : Int), n ≤ ge - x.gs → Txt { x with cells := cells, ge := ge } T → C .none (wd ad dad { x with cells := cells, ge := ge })) : FS 1 (.ref 548) [.role .gap, .int n] (wd ad dad x) C := by
  refine FS.enter (n := 0) (q := "GapText.widen_gap") (ds := []) (fun K k => k.f548) [(Str.ofString "self", .role .gap), (Str.ofString "wanted", .int n)] [] [] rfl ?hb (fun _ _ _ => .nil) (by rfl) (by kernel_rfl) ?H
  case hb => intro dV doc pm ct an s vs hl hd; subst hd; obtain ⟨a, b, e0⟩ := len2 hl; subst e0; exact BindsTo.of_eq rfl
  intro c hn hs
  have g0 := t.g0
  have g1 := t.g1
  have g2 := t.g2
  have sz := t.sz
  have tl := t.len
  refine Ex.cons ?_; refine Sx.assignNew hs rfl (by kernel_rfl) rfl ?_ (fun _ => rfl); refine Ev.bin ?_; refine Ev.name (memI 1 rfl) ?_; refine ⟨rfl, ?_⟩; refine Ev.bin ?_; refine Ev.attr ?_ (fun _ => rfl); refine Ev.name (memI 0 rfl) ?_; refine Get.gap_gap_end ?_; refine ⟨rfl, ?_⟩; refine Ev.attr ?_ (fun _ => rfl); refine Ev.name (memI 0 rfl) ?_; refine Get.gap_gap_start ?_; refine Bin.sub ?_; refine Bin.sub ?_; refine ⟨rfl, ?_⟩; refine Nx.next ?_; refine Ex.cons ?_; refine Sx.if_ ?_; refine Is.cmp ?_ rfl; refine Ev.name (memI 0 rfl) ?_; refine ⟨rfl, ?_⟩; refine Ev.int ?_; refine Cmp.gt ?_; refine ⟨_, rfl, ?_⟩
  refine ⟨fun h => ?_, fun h => ?_⟩ <;> simp only [decide_eq_true_eq, decide_eq_false_iff_not] at h
  · refine Ex.cons ?_
    refine Sx.setslice .cells (List.replicate (n - (x.ge - x.gs) + 8).toNat 0) ?_ (fun _ => rfl)
    refine Ev.bin ?_; refine Ev.list ?_; refine Ars.more ?_ (fun _ => rfl); refine Ev.int ?_; refine Ars.nil ?_; refine ⟨Or.inl rfl, ?_⟩
    refine ⟨by decide, _, Dsp.nums [0], ?_⟩
    refine ⟨rfl, ?_⟩; refine Ev.bin ?_; refine Ev.name (memI 0 rfl) ?_; refine ⟨rfl, ?_⟩; refine Ev.attr ?_ (fun _ => rfl); refine Ev.name (memI 1 rfl) ?_; refine Get.gap_room ?_; refine Bin.add ?_
    refine Bin.rep (by (clear h0 hn g0 g1 g2 sz h; omega)) ?_ (by (clear h0 hz hn g0 g1 g2 sz tl; omega))
    refine ⟨rfl, ?_⟩; refine Ev.attr ?_ (fun _ => rfl); refine Ev.name (memI 1 rfl) ?_; refine Get.gap_cells ?_; refine ⟨rfl, ?_⟩; refine ⟨(by intro z; cases z), ?_⟩; refine Part.some ?_; refine Ev.attr ?_ (fun _ => rfl); refine Ev.name (memI 1 rfl) ?_; refine Get.gap_gap_end ?_; refine ⟨_, rfl, ?_⟩; refine Part.some ?_; refine Ev.attr ?_ (fun _ => rfl); refine Ev.name (memI 1 rfl) ?_; refine Get.gap_gap_end ?_; refine ⟨_, rfl, ?_⟩
    refine ⟨x.cells, rfl, by (clear h0 hz hn g0 g1 g2 tl h; omega), by rw [List.length_replicate]; (clear h0 hn g0 g1 g2 sz h; omega), ?_⟩
    rw [wd_cells]
    try dsimp only
    refine Nx.next ?_; refine Ex.cons ?_; refine Sx.setattr ?_ (fun _ => rfl); refine Ev.bin ?_; refine Ev.bin ?_; refine Ev.attr ?_ (fun _ => rfl); refine Ev.name (memI 1 rfl) ?_; refine Get.gap_gap_end ?_; refine ⟨rfl, ?_⟩; refine Ev.name (memI 0 rfl) ?_; refine Bin.add ?_; refine ⟨rfl, ?_⟩; refine Ev.attr ?_ (fun _ => rfl); refine Ev.name (memI 1 rfl) ?_; refine Get.gap_room ?_; refine Bin.add ?_; refine ⟨rfl, ?_⟩; refine Ev.name (memI 1 rfl) ?_; refine SetA.gap_gap_end ?_; (try dsimp only); refine Nx.next ?_; refine Ex.nil ?_; refine Nx.next ?_; refine Ex.nil ?_; refine Done.next ?_
    have hl := putCut_len (ns := x.cells) (us := List.replicate (n - (x.ge - x.gs) + 8).toNat 0) (i := x.ge) (j := x.ge) (by (clear h0 hz hn g2 sz tl h; omega)) (by (clear h0 hz hn g0 g1 g2 sz tl h; omega)) (by (clear h0 hz hn g0 g1 sz tl h; omega))
    rw [List.length_replicate] at hl
    have A1 : x.gs ≤ x.cells.length := Int.le_trans g1 g2
    refine hC _ _ (by (clear h0 hz hn g0 g1 g2 sz tl h hl; omega)) ⟨g0, by dsimp only; (clear h0 hz hn g0 g2 sz tl hl A1; omega), by dsimp only; (clear h0 hz hn g0 g1 sz tl h; omega), by dsimp only; (clear h0 hn g0 g1 g2 sz; omega), ?_⟩
    dsimp only
    rw [putCut_nat (Int.le_trans g0 g1) (Int.le_refl _) g2, t.tx, show (x.ge + (n - (x.ge - x.gs)) + 8).toNat = x.ge.toNat + (n - (x.ge - x.gs) + 8).toNat by (clear hz hn g2 sz tl hl A1; omega)]
    exact wdn (Int.toNat_le_toNat g1) (Int.toNat_le.mpr g2) List.length_replicate
  · refine Ex.nil ?_; refine Nx.next ?_; refine Ex.nil ?_; refine Done.next ?_
    exact hC x.cells x.ge (by (clear h0 hz hn g0 g1 g2 sz tl; omega)) t
/-- put in at a place -/
noncomputable def put (T : List Int) (a : Int) (U : List Int) : List Int := T.take a.toNat ++ U ++ T.drop a.toNat
theorem insert_spec (t : Txt x T) {a : Int} {U : List Int} (h0 : 0 ≤ a) (h1 : a ≤ T.length) (hz : T.length + U.length ≤ 90000) (hC : ∀ (cells : List Int) (gs ge : Int), Txt { x with cells := cells, gs := gs, ge := ge } (put T a U) → C .none (wd ad dad { x with cells := cells, gs := gs, ge := ge })) : FS 2 (.ref 555) [.role .gap, .int a, .lst U] (wd ad dad x) C := by
  refine FS.enter (n := 1) (q := "GapText.insert") (ds := []) (fun K k => k.f555) [(Str.ofString "self", .role .gap), (Str.ofString "at", .int a), (Str.ofString "codes", .lst U)] [] [] rfl ?hb (fun _ _ _ => .nil) (by rfl) (by kernel_rfl) ?H
  case hb => intro dV doc pm ct an s vs hl hd; subst hd; obtain ⟨a, b, c, e0⟩ := len3 hl; subst e0; exact BindsTo.of_eq rfl
  intro c hn hs
  refine Ex.cons ?_; refine Sx.expr ?_ (fun _ => rfl); refine' Ev.methG ?_ (fun _ => rfl) (fun _ => rfl) (fun _ => rfl); refine Ev.name (memI 0 rfl) ?_; refine Mth.gap 548 (by kernel_rfl) (by kernel_rfl) (by kernel_rfl) ?_; refine Ars.more ?_ (fun _ => rfl); refine Ev.bcall "len" (by kernel_rfl) PySem.boot_len hs rfl (by kernel_rfl) (by decide) ?_ (fun _ => rfl) (fun _ => rfl) (fun _ => rfl); refine Ars.more ?_ (fun _ => rfl); refine Ev.name (memI 2 rfl) ?_; refine Ars.nil ?_; refine ⟨Or.inl rfl, ?_⟩
  refine BC.len (.nums .lst) ?hz ?_
  case hz => (clear h0 h1 hn; omega)
  refine Ars.nil ?_; refine ⟨Or.inl rfl, ?_⟩
  refine FS.mono (by (clear h0 h1 hz; omega)) (widen_gap_spec t (by (clear h0 h1 hz hn; omega)) (by (clear h0 h1 hn; omega)) fun cells ge hg t2 => ?_)
  refine Nx.next ?_; refine Ex.cons ?_; refine Sx.expr ?_ (fun _ => rfl); refine' Ev.methG ?_ (fun _ => rfl) (fun _ => rfl) (fun _ => rfl); refine Ev.name (memI 0 rfl) ?_; refine Mth.gap 541 (by kernel_rfl) (by kernel_rfl) (by kernel_rfl) ?_; refine Ars.more ?_ (fun _ => rfl); refine Ev.name (memI 1 rfl) ?_; refine Ars.nil ?_; refine ⟨Or.inl rfl, ?_⟩
  refine FS.mono (by (clear h0 h1 hz hg; omega)) (move_gap_spec t2 h0 (by (clear h0 hz hn hg; omega)) fun cells2 hl t3 => ?_)
  dsimp only at hl t3 ⊢
  have g1 := t3.g1
  have g2 := t3.g2
  have sz := t3.sz
  dsimp only at g1 g2 sz
  refine Nx.next ?_; refine Ex.cons ?_
  refine Sx.setslice .cells U ?_ (fun _ => rfl)
  refine Ev.name (memI 2 rfl) ?_; refine ⟨rfl, ?_⟩; refine Ev.attr ?_ (fun _ => rfl); refine Ev.name (memI 0 rfl) ?_; refine Get.gap_cells ?_; refine ⟨rfl, ?_⟩; refine ⟨(by intro z; cases z), ?_⟩; refine Part.some ?_; refine Ev.name (memI 1 rfl) ?_; refine ⟨_, rfl, ?_⟩; refine Part.some ?_; refine Ev.bin ?_; refine Ev.name (memI 1 rfl) ?_; refine ⟨rfl, ?_⟩; refine Ev.bcall "len" (by kernel_rfl) PySem.boot_len hs rfl (by kernel_rfl) (by decide) ?_ (fun _ => rfl) (fun _ => rfl) (fun _ => rfl); refine Ars.more ?_ (fun _ => rfl); refine Ev.name (memI 2 rfl) ?_; refine Ars.nil ?_; refine ⟨Or.inl rfl, ?_⟩
  refine BC.len (.nums .lst) ?hz ?_
  case hz => (clear h0 h1 hn hg hl g1 g2 sz; omega)
  refine Bin.add ?_; refine ⟨_, rfl, ?_⟩
  refine ⟨cells2, rfl, by (clear h0 h1 hz hn hg hl g1 g2; omega), by (clear h0 h1 hn hg hl g1 g2 sz; omega), ?_⟩
  rw [wd_cells]
  try dsimp only
  refine Nx.next ?_; refine Ex.cons ?_; refine Sx.setattr ?_ (fun _ => rfl); refine Ev.bin ?_; refine Ev.name (memI 1 rfl) ?_; refine ⟨rfl, ?_⟩; refine Ev.bcall "len" (by kernel_rfl) PySem.boot_len hs rfl (by kernel_rfl) (by decide) ?_ (fun _ => rfl) (fun _ => rfl) (fun _ => rfl); refine Ars.more ?_ (fun _ => rfl); refine Ev.name (memI 2 rfl) ?_; refine Ars.nil ?_; refine ⟨Or.inl rfl, ?_⟩
  refine BC.len (.nums .lst) ?hz ?_
  case hz => (clear h0 h1 hn hg hl g1 g2 sz; omega)
  refine Bin.add ?_; refine ⟨rfl, ?_⟩; refine Ev.name (memI 0 rfl) ?_; refine SetA.gap_gap_start ?_; (try dsimp only); refine Nx.next ?_; refine Ex.nil ?_; refine Done.next ?_
  have hl2 := putCut_len (ns := cells2) (us := U) (i := a) (j := a + U.length) (by (clear h1 hz hn hg hl g1 g2 sz; omega)) (by (clear h0 h1 hz hn hg hl g1 g2 sz; omega)) (by (clear h0 h1 hz hn hl g1 sz; omega))
  have A1 : a + U.length ≤ a + (ge - x.gs) := by (clear h0 h1 hz hn hl g1 g2 sz hl2; omega)
  have A3 : a ≤ a + U.length := by (clear h0 h1 hz hn hg hl g1 g2 sz hl2 A1; omega)
  have A2 : a.toNat ≤ cells2.length := Int.toNat_le.mpr (Int.le_trans g1 g2)
  have A4 : (a + U.length).toNat = a.toNat + U.length := by (clear h1 hz hn hg hl g1 g2 sz hl2 A1 A2 A3; omega)
  have A5 := Int.toNat_le_toNat A1
  refine hC _ _ _ ⟨Int.le_trans h0 A3, A1, by dsimp only; (clear h0 h1 hz hn hg hl g1 sz A1 A2 A3 A4 A5; omega), by dsimp only; (clear h0 h1 hz hn hg hl g1 g2 A1 A2 A3 A4 A5; omega), ?_⟩
  dsimp only
  rw [putCut_nat h0 A3 (Int.le_trans A1 g2)]
  have tx : T = cells2.take a.toNat ++ cells2.drop (a + (ge - x.gs)).toNat := t3.tx
  unfold put
  rw [A4] at A5 ⊢
  generalize (a + (ge - x.gs)).toNat = E at tx A5
  rw [tx]
  exact ins A2 rfl A5
/-- cut out -/
noncomputable def out (T : List Int) (i j : Int) : List Int := T.take i.toNat ++ T.drop j.toNat
theorem delete_spec (t : Txt x T) {i j : Int} (h0 : 0 ≤ i) (h1 : i ≤ j) (h2 : j ≤ T.length) (hC : ∀ (cells : List Int) (gs ge : Int), Txt { x with cells := cells, gs := gs, ge := ge } (out T i j) → C (.lst (sl T i j)) (wd ad dad { x with cells := cells, gs := gs, ge := ge })) : FS 2 (.ref 562) [.role .gap, .int i, .int j] (wd ad dad x) C := by
  refine FS.enter (n := 1) (q := "GapText.delete") (ds := []) (fun K k => k.f562) [(Str.ofString "self", .role .gap), (Str.ofString "start", .int i), (Str.ofString "end", .int j)] [] [] rfl ?hb (fun _ _ _ => .nil) (by rfl) (by kernel_rfl) ?H
  case hb => intro dV doc pm ct an s vs hl hd; subst hd; obtain ⟨a, b, c, e0⟩ := len3 hl; subst e0; exact BindsTo.of_eq rfl
  intro c hn hs
  refine Ex.cons ?_; refine Sx.assignNew hs rfl (by kernel_rfl) rfl ?_ (fun _ => rfl); refine' Ev.methG ?_ (fun _ => rfl) (fun _ => rfl) (fun _ => rfl); refine Ev.name (memI 0 rfl) ?_; refine Mth.gap 534 (by kernel_rfl) (by kernel_rfl) (by kernel_rfl) ?_; refine Ars.more ?_ (fun _ => rfl); refine Ev.name (memI 1 rfl) ?_; refine Ars.more ?_ (fun _ => rfl); refine Ev.name (memI 2 rfl) ?_; refine Ars.nil ?_; refine ⟨Or.inl rfl, ?_⟩; refine ⟨Or.inl rfl, ?_⟩
  refine FS.mono (by (clear h0 h1 h2; omega)) (codes_spec t h0 h1 h2 ?_)
  have tail : ∀ (cells : List Int) (gs ge : Int), Txt { x with cells := cells, gs := gs, ge := ge } T → i ≤ gs → gs ≤ j → C (.lst (sl T i j)) (wd ad dad { x with cells := cells, gs := i, ge := ge + j - gs }) := fun cells gs ge t2 q1 q2 => by
    have g1 := t2.g1
    have g2 := t2.g2
    have sz := t2.sz
    have tl := t2.len
    dsimp only at g1 g2 sz tl
    have g0 := t2.g0
    dsimp only at g0
    have A1 : gs ≤ cells.length := Int.le_trans g1 g2
    have A2 : (ge + j - gs).toNat = ge.toNat + (j.toNat - gs.toNat) := by rw [show ge + j - gs = j + (ge - gs) by (clear h0 h1 h2 hn q1 q2 g0 g1 g2 sz tl A1; omega)]; exact tnG g0 g1 q2
    refine hC _ _ _ ⟨h0, by dsimp only; (clear h0 h2 hn g0 A1 A2 q1 q2 g2 sz tl; omega), by dsimp only; (clear h0 h1 hn g0 A1 A2 q1 q2 g1 g2 sz; omega), sz, ?_⟩
    dsimp only
    have tx : T = cells.take gs.toNat ++ cells.drop ge.toNat := t2.tx
    unfold out
    rw [A2, tx]
    exact del (Int.toNat_le.mpr A1) (Int.toNat_le_toNat q1) (Int.toNat_le_toNat q2)
  have g0 := t.g0
  have tl := t.len
  refine ⟨rfl, ?_⟩; refine Nx.next ?_; refine Ex.cons ?_; refine Sx.if_ ?_; refine Is.cmp ?_ rfl; refine Ev.name (memI 3 rfl) ?_; refine ⟨rfl, ?_⟩; refine Ev.attr ?_ (fun _ => rfl); refine Ev.name (memI 1 rfl) ?_; refine Get.gap_gap_start ?_; refine Cmp.lt ?_; refine ⟨_, rfl, ?_⟩
  refine ⟨fun h => ?_, fun h => ?_⟩ <;> simp only [decide_eq_true_eq, decide_eq_false_iff_not] at h
  · refine Ex.cons ?_; refine Sx.expr ?_ (fun _ => rfl); refine' Ev.methG ?_ (fun _ => rfl) (fun _ => rfl) (fun _ => rfl); refine Ev.name (memI 1 rfl) ?_; refine Mth.gap 541 (by kernel_rfl) (by kernel_rfl) (by kernel_rfl) ?_; refine Ars.more ?_ (fun _ => rfl); refine Ev.name (memI 3 rfl) ?_; refine Ars.nil ?_; refine ⟨Or.inl rfl, ?_⟩
    refine FS.mono (by (clear h0 h1 h2 g0 tl h; omega)) (move_gap_spec t (by (clear h2 hn g0 tl h; omega)) h2 fun cells hl t2 => ?_)
    refine Nx.next ?_; refine Ex.nil ?_; refine Nx.next ?_; refine Ex.cons ?_; refine Sx.if_ ?_; refine Is.cmp ?_ rfl; refine Ev.name (memI 2 rfl) ?_; refine ⟨rfl, ?_⟩; refine Ev.attr ?_ (fun _ => rfl); refine Ev.name (memI 1 rfl) ?_; refine Get.gap_gap_start ?_; refine Cmp.gt ?_; refine ⟨_, rfl, ?_⟩
    refine ⟨fun h' => ?_, fun h' => ?_⟩ <;> simp only [decide_eq_true_eq, decide_eq_false_iff_not] at h'
    · (clear h0 h2 hn g0 tl h hl; omega)
    · refine Ex.nil ?_; refine Nx.next ?_; refine Ex.cons ?_; refine Sx.setattr ?_ (fun _ => rfl); refine Ev.bin ?_; refine Ev.bin ?_; refine Ev.attr ?_ (fun _ => rfl); refine Ev.name (memI 1 rfl) ?_; refine Get.gap_gap_end ?_; refine ⟨rfl, ?_⟩; refine Ev.name (memI 3 rfl) ?_; refine Bin.add ?_; refine ⟨rfl, ?_⟩; refine Ev.attr ?_ (fun _ => rfl); refine Ev.name (memI 1 rfl) ?_; refine Get.gap_gap_start ?_; refine Bin.sub ?_; refine ⟨rfl, ?_⟩; refine Ev.name (memI 1 rfl) ?_; refine SetA.gap_gap_end ?_; (try dsimp only); refine Nx.next ?_; refine Ex.cons ?_; refine Sx.setattr ?_ (fun _ => rfl); refine Ev.name (memI 2 rfl) ?_; refine ⟨rfl, ?_⟩; refine Ev.name (memI 1 rfl) ?_; refine SetA.gap_gap_start ?_; (try dsimp only); refine Nx.next ?_; refine Ex.cons ?_; refine Sx.ret ?_; refine Ev.name (memI 0 rfl) ?_; refine Nx.ret ?_; refine Done.ret ?_
      exact tail _ _ _ t2 (by (clear h0 h2 hn g0 tl h hl h'; omega)) (by (clear h0 h1 h2 hn g0 tl h hl h'; omega))
  · refine Ex.nil ?_; refine Nx.next ?_; refine Ex.cons ?_; refine Sx.if_ ?_; refine Is.cmp ?_ rfl; refine Ev.name (memI 2 rfl) ?_; refine ⟨rfl, ?_⟩; refine Ev.attr ?_ (fun _ => rfl); refine Ev.name (memI 1 rfl) ?_; refine Get.gap_gap_start ?_; refine Cmp.gt ?_; refine ⟨_, rfl, ?_⟩
    refine ⟨fun h' => ?_, fun h' => ?_⟩ <;> simp only [decide_eq_true_eq, decide_eq_false_iff_not] at h'
    · refine Ex.cons ?_; refine Sx.expr ?_ (fun _ => rfl); refine' Ev.methG ?_ (fun _ => rfl) (fun _ => rfl) (fun _ => rfl); refine Ev.name (memI 1 rfl) ?_; refine Mth.gap 541 (by kernel_rfl) (by kernel_rfl) (by kernel_rfl) ?_; refine Ars.more ?_ (fun _ => rfl); refine Ev.name (memI 2 rfl) ?_; refine Ars.nil ?_; refine ⟨Or.inl rfl, ?_⟩
      refine FS.mono (by (clear h0 h1 h2 g0 tl h h'; omega)) (move_gap_spec t h0 (by (clear h0 hn g0 tl h h'; omega)) fun cells hl t2 => ?_)
      refine Nx.next ?_; refine Ex.nil ?_; refine Nx.next ?_; refine Ex.cons ?_; refine Sx.setattr ?_ (fun _ => rfl); refine Ev.bin ?_; refine Ev.bin ?_; refine Ev.attr ?_ (fun _ => rfl); refine Ev.name (memI 1 rfl) ?_; refine Get.gap_gap_end ?_; refine ⟨rfl, ?_⟩; refine Ev.name (memI 3 rfl) ?_; refine Bin.add ?_; refine ⟨rfl, ?_⟩; refine Ev.attr ?_ (fun _ => rfl); refine Ev.name (memI 1 rfl) ?_; refine Get.gap_gap_start ?_; refine Bin.sub ?_; refine ⟨rfl, ?_⟩; refine Ev.name (memI 1 rfl) ?_; refine SetA.gap_gap_end ?_; (try dsimp only); refine Nx.next ?_; refine Ex.cons ?_; refine Sx.setattr ?_ (fun _ => rfl); refine Ev.name (memI 2 rfl) ?_; refine ⟨rfl, ?_⟩; refine Ev.name (memI 1 rfl) ?_; refine SetA.gap_gap_start ?_; (try dsimp only); refine Nx.next ?_; refine Ex.cons ?_; refine Sx.ret ?_; refine Ev.name (memI 0 rfl) ?_; refine Nx.ret ?_; refine Done.ret ?_
      exact tail _ _ _ t2 (by (clear h0 h1 h2 hn g0 tl h h' hl; omega)) (by (clear h0 h2 hn g0 tl h h' hl; omega))
    · refine Ex.nil ?_; refine Nx.next ?_; refine Ex.cons ?_; refine Sx.setattr ?_ (fun _ => rfl); refine Ev.bin ?_; refine Ev.bin ?_; refine Ev.attr ?_ (fun _ => rfl); refine Ev.name (memI 1 rfl) ?_; refine Get.gap_gap_end ?_; refine ⟨rfl, ?_⟩; refine Ev.name (memI 3 rfl) ?_; refine Bin.add ?_; refine ⟨rfl, ?_⟩; refine Ev.attr ?_ (fun _ => rfl); refine Ev.name (memI 1 rfl) ?_; refine Get.gap_gap_start ?_; refine Bin.sub ?_; refine ⟨rfl, ?_⟩; refine Ev.name (memI 1 rfl) ?_; refine SetA.gap_gap_end ?_; (try dsimp only); refine Nx.next ?_; refine Ex.cons ?_; refine Sx.setattr ?_ (fun _ => rfl); refine Ev.name (memI 2 rfl) ?_; refine ⟨rfl, ?_⟩; refine Ev.name (memI 1 rfl) ?_; refine SetA.gap_gap_start ?_; (try dsimp only); refine Nx.next ?_; refine Ex.cons ?_; refine Sx.ret ?_; refine Ev.name (memI 0 rfl) ?_; refine Nx.ret ?_; refine Done.ret ?_
      exact tail _ _ _ t (by (clear h0 h1 h2 hn g0 tl h; omega)) (by (clear h0 h1 h2 hn g0 tl h'; omega))
end
section
variable {ad dad : Role → Addr} {x : AS} {T : List Int} {C : SV → Wd → Prop}
theorem buf_size_spec (t : Txt x T) (hC : C (.int T.length) (wd ad dad x)) : FS 2 (.ref 640) [.role .buf] (wd ad dad x) C := by
  refine FS.enter (n := 1) (q := "Buffer.size") (ds := []) (fun K k => k.f640) [(Str.ofString "self", .role .buf)] [] [] rfl ?hb (fun _ _ _ => .nil) (by rfl) (by kernel_rfl) ?H
  case hb => intro dV doc pm ct an s vs hl hd; subst hd; obtain ⟨a, e0⟩ := len1 hl; subst e0; exact BindsTo.of_eq rfl
  intro c hn hs
  refine Ex.cons ?_; refine Sx.ret ?_; refine' Ev.meth0G ?_ (fun _ => rfl); refine Ev.attr ?_ (fun _ => rfl); refine Ev.name (memI 0 rfl) ?_; refine Get.buf_text ?_; refine Mth.gap 520 (by kernel_rfl) (by kernel_rfl) (by kernel_rfl) ?_
  refine FS.mono (by omega) (size_spec t ?_)
  refine Nx.ret ?_; refine Done.ret ?_
  exact hC
theorem buf_codes_spec (t : Txt x T) {i j : Int} (h0 : 1 ≤ i) (h1 : i ≤ j) (h2 : j ≤ T.length + 1) (hC : C (.lst (sl T (i - 1) (j - 1))) (wd ad dad x)) : FS 2 (.ref 654) [.role .buf, .int i, .int j] (wd ad dad x) C := by
  refine FS.enter (n := 1) (q := "Buffer.codes") (ds := []) (fun K k => k.f654) [(Str.ofString "self", .role .buf), (Str.ofString "start", .int i), (Str.ofString "end", .int j)] [] [] rfl ?hb (fun _ _ _ => .nil) (by rfl) (by kernel_rfl) ?H
  case hb => intro dV doc pm ct an s vs hl hd; subst hd; obtain ⟨a, b, c, e0⟩ := len3 hl; subst e0; exact BindsTo.of_eq rfl
  intro c hn hs
  refine Ex.cons ?_; refine Sx.ret ?_; refine' Ev.methG ?_ (fun _ => rfl) (fun _ => rfl) (fun _ => rfl); refine Ev.attr ?_ (fun _ => rfl); refine Ev.name (memI 0 rfl) ?_; refine Get.buf_text ?_; refine Mth.gap 534 (by kernel_rfl) (by kernel_rfl) (by kernel_rfl) ?_; refine Ars.more ?_ (fun _ => rfl); refine Ev.bin ?_; refine Ev.name (memI 1 rfl) ?_; refine ⟨rfl, ?_⟩; refine Ev.int ?_; refine Bin.sub ?_; refine Ars.more ?_ (fun _ => rfl); refine Ev.bin ?_; refine Ev.name (memI 2 rfl) ?_; refine ⟨rfl, ?_⟩; refine Ev.int ?_; refine Bin.sub ?_; refine Ars.nil ?_; refine ⟨Or.inl rfl, ?_⟩; refine ⟨Or.inl rfl, ?_⟩
  refine FS.mono (by (clear h0 h1 h2; omega)) (codes_spec t (by (clear h1 h2 hn; omega)) (by (clear h0 h2 hn; omega)) (by (clear h0 h1 hn; omega)) ?_)
  refine Nx.ret ?_; refine Done.ret ?_
  exact hC
theorem goto_spec {i : Int} (h0 : 1 ≤ i) (h1 : i ≤ x.zv) (hC : C (.int i) (wd ad dad { x with p := i })) : FS 1 (.ref 661) [.role .buf, .int i] (wd ad dad x) C := by
  refine FS.enter (n := 0) (q := "Buffer.goto") (ds := []) (fun K k => k.f661) [(Str.ofString "self", .role .buf), (Str.ofString "place", .int i)] [] [] rfl ?hb (fun _ _ _ => .nil) (by rfl) (by kernel_rfl) ?H
  case hb => intro dV doc pm ct an s vs hl hd; subst hd; obtain ⟨a, b, e0⟩ := len2 hl; subst e0; exact BindsTo.of_eq rfl
  intro c hn hs
  refine Ex.cons ?_; refine Sx.setattr ?_ (fun _ => rfl); refine Ev.bcall "min" (by kernel_rfl) boot_min hs rfl (by kernel_rfl) (by decide) ?_ (fun _ => rfl) (fun _ => rfl) (fun _ => rfl); refine Ars.more ?_ (fun _ => rfl); refine Ev.bcall "max" (by kernel_rfl) boot_max hs rfl (by kernel_rfl) (by decide) ?_ (fun _ => rfl) (fun _ => rfl) (fun _ => rfl); refine Ars.more ?_ (fun _ => rfl); refine Ev.name (memI 1 rfl) ?_; refine Ars.more ?_ (fun _ => rfl); refine Ev.attr ?_ (fun _ => rfl); refine Ev.name (memI 0 rfl) ?_; refine Get.buf_begv ?_; refine Ars.nil ?_; refine ⟨Or.inl rfl, ?_⟩; refine ⟨Or.inl rfl, ?_⟩; refine BC.max ?_; refine Ars.more ?_ (fun _ => rfl); refine Ev.attr ?_ (fun _ => rfl); refine Ev.name (memI 0 rfl) ?_; refine Get.buf_zv ?_; refine Ars.nil ?_; refine ⟨Or.inl rfl, ?_⟩; refine ⟨Or.inl rfl, ?_⟩; refine BC.min ?_; refine ⟨rfl, ?_⟩; refine Ev.name (memI 0 rfl) ?_; refine SetA.buf_point ?_; (try dsimp only); refine Nx.next ?_; refine Ex.cons ?_; refine Sx.ret ?_; refine Ev.attr ?_ (fun _ => rfl); refine Ev.name (memI 0 rfl) ?_; refine Get.buf_point ?_; refine Nx.ret ?_; refine Done.ret ?_
  have e : (if x.zv < (if i < 1 then 1 else i) then x.zv else (if i < 1 then 1 else i)) = i := by rw [if_neg (show ¬ i < 1 by (clear h1 hn; omega)), if_neg (by (clear h0 hn; omega))]
  rw [e]; exact hC
theorem touch_spec (hC : C .none (wd ad dad { x with tk := x.tk + 1, ct := x.tk + 1 })) : FS 1 (.ref 689) [.role .buf, .bool true] (wd ad dad x) C := by
  refine FS.enter (n := 0) (q := "Buffer.touch") (ds := []) (fun K k => k.f689) [(Str.ofString "self", .role .buf), (Str.ofString "are_codes", .bool true)] [] [] rfl ?hb (fun _ _ _ => .nil) (by rfl) (by kernel_rfl) ?H
  case hb => intro dV doc pm ct an s vs hl hd; subst hd; obtain ⟨a, b, e0⟩ := len2 hl; subst e0; exact BindsTo.of_eq rfl
  intro c hn hs
  refine Ex.cons ?_; refine Sx.setattr ?_ (fun _ => rfl); refine Ev.bin ?_; refine Ev.attr ?_ (fun _ => rfl); refine Ev.name (memI 0 rfl) ?_; refine Get.buf_ticks ?_; refine ⟨rfl, ?_⟩; refine Ev.int ?_; refine Bin.add ?_; refine ⟨rfl, ?_⟩; refine Ev.name (memI 0 rfl) ?_; refine SetA.buf_ticks ?_; (try dsimp only); refine Nx.next ?_; refine Ex.cons ?_; refine Sx.if_ ?_; refine Is.plain ?_ (fun _ _ => rfl); refine Ev.name (memI 1 rfl) ?_; refine ⟨_, rfl, ?_⟩; refine ⟨?_, (by intro z; cases z)⟩; intro _; refine Ex.cons ?_; refine Sx.setattr ?_ (fun _ => rfl); refine Ev.attr ?_ (fun _ => rfl); refine Ev.name (memI 0 rfl) ?_; refine Get.buf_ticks ?_; refine ⟨rfl, ?_⟩; refine Ev.name (memI 0 rfl) ?_; refine SetA.buf_codes_ticks ?_; (try dsimp only); refine Nx.next ?_; refine Ex.nil ?_; refine Nx.next ?_; refine Ex.nil ?_; refine Done.next ?_
  exact hC
theorem need_writable_spec (h : x.ro = false) (hC : C .none (wd ad dad x)) : FS 1 (.ref 48) [.role .buf] (wd ad dad x) C := by
  refine FS.enter (n := 0) (q := "need_writable") (ds := []) (fun K k => k.f48) [(Str.ofString "buffer", .role .buf)] [] [] rfl ?hb (fun _ _ _ => .nil) (by rfl) (by kernel_rfl) ?H
  case hb => intro dV doc pm ct an s vs hl hd; subst hd; obtain ⟨a, e0⟩ := len1 hl; subst e0; exact BindsTo.of_eq rfl
  intro c hn hs
  refine Ex.cons ?_; refine Sx.if_ ?_; refine Is.plain ?_ (fun _ _ => rfl); refine Ev.attr ?_ (fun _ => rfl); refine Ev.name (memI 0 rfl) ?_; refine Get.buf_is_read_only ?_; refine ⟨_, rfl, ?_⟩
  refine ⟨fun e => (by rw [h] at e; cases e), fun _ => ?_⟩
  refine Ex.nil ?_; refine Nx.next ?_; refine Ex.nil ?_; refine Done.next ?_
  exact hC
theorem reached_spec {i j : Int} (h0 : 1 ≤ i) (h1 : i ≤ x.zv) (h2 : 1 ≤ j) (h3 : j ≤ x.zv) (hC : C (.ipair (min i j) (max i j)) (wd ad dad x)) : FS 1 (.ref 55) [.role .buf, .int i, .int j] (wd ad dad x) C := by
  refine FS.enter (n := 0) (q := "reached") (ds := []) (fun K k => k.f55) [(Str.ofString "buffer", .role .buf), (Str.ofString "start", .int i), (Str.ofString "end", .int j)] [] [] rfl ?hb (fun _ _ _ => .nil) (by rfl) (by kernel_rfl) ?H
  case hb => intro dV doc pm ct an s vs hl hd; subst hd; obtain ⟨a, b, c, e0⟩ := len3 hl; subst e0; exact BindsTo.of_eq rfl
  intro c hn hs
  refine Ex.cons ?_; refine Sx.swap2 hs rfl rfl (by kernel_rfl) (by kernel_rfl) rfl rfl rfl ?_ (fun _ => rfl) (by intro c e; cases c; dsimp only at e; subst e; rfl); refine Ars.more ?_ (fun _ => rfl); refine Ev.bcall "min" (by kernel_rfl) boot_min hs rfl (by kernel_rfl) (by decide) ?_ (fun _ => rfl) (fun _ => rfl) (fun _ => rfl); refine Ars.more ?_ (fun _ => rfl); refine Ev.name (memI 1 rfl) ?_; refine Ars.more ?_ (fun _ => rfl); refine Ev.name (memI 2 rfl) ?_; refine Ars.nil ?_; refine ⟨Or.inl rfl, ?_⟩; refine ⟨Or.inl rfl, ?_⟩; refine BC.min ?_; refine Ars.more ?_ (fun _ => rfl); refine Ev.bcall "max" (by kernel_rfl) boot_max hs rfl (by kernel_rfl) (by decide) ?_ (fun _ => rfl) (fun _ => rfl) (fun _ => rfl); refine Ars.more ?_ (fun _ => rfl); refine Ev.name (memI 1 rfl) ?_; refine Ars.more ?_ (fun _ => rfl); refine Ev.name (memI 2 rfl) ?_; refine Ars.nil ?_; refine ⟨Or.inl rfl, ?_⟩; refine ⟨Or.inl rfl, ?_⟩; refine BC.max ?_; refine Ars.nil ?_; refine ⟨Or.inl rfl, ?_⟩; refine ⟨Or.inl rfl, ?_⟩; refine ⟨_, _, rfl, ?_⟩; refine ⟨rfl, ?_⟩; refine ⟨rfl, ?_⟩; refine Nx.next ?_; refine Ex.cons ?_; refine Sx.if_ ?_; refine Is.or ?_; refine TB.or ?_; refine Is.cmp ?_ rfl; refine Ev.name (memI 0 rfl) ?_; refine ⟨rfl, ?_⟩; refine Ev.attr ?_ (fun _ => rfl); refine Ev.name (memI 2 rfl) ?_; refine Get.buf_begv ?_; refine Cmp.lt ?_; refine ⟨_, rfl, ?_⟩
  have l1 : (if j < i then j else i) = min i j := by (clear h0 h1 h2 h3 hn; omega)
  have l2 : (if i < j then j else i) = max i j := by (clear h0 h1 h2 h3 hn l1; omega)
  rw [l1, l2]
  refine ⟨fun h => ?_, fun h => ?_⟩ <;> simp only [decide_eq_true_eq, decide_eq_false_iff_not] at h
  · (clear h1 h3 hn l1 l2; omega)
  · refine TB.or ?_; refine Is.cmp ?_ rfl; refine Ev.name (memI 1 rfl) ?_; refine ⟨rfl, ?_⟩; refine Ev.attr ?_ (fun _ => rfl); refine Ev.name (memI 2 rfl) ?_; refine Get.buf_zv ?_; refine Cmp.gt ?_; refine ⟨_, rfl, ?_⟩
    refine ⟨fun h' => ?_, fun h' => ?_⟩ <;> simp only [decide_eq_true_eq, decide_eq_false_iff_not] at h'
    · (clear h0 h2 hn l1 l2 h; omega)
    · refine TB.orNil ?_; refine ⟨(by intro z; cases z), ?_⟩; intro _; refine Ex.nil ?_; refine Nx.next ?_; refine Ex.cons ?_; refine Sx.ret ?_; refine Ev.tuple ?_; refine Ars.more ?_ (fun _ => rfl); refine Ev.name (memI 0 rfl) ?_; refine Ars.more ?_ (fun _ => rfl); refine Ev.name (memI 1 rfl) ?_; refine Ars.nil ?_; refine ⟨Or.inl rfl, ?_⟩; refine ⟨Or.inl rfl, ?_⟩
      refine ⟨_, .ipair, ?_⟩
      refine Nx.ret ?_; refine Done.ret ?_
      exact hC
theorem tell_ahead_spec {i j : Int} (hC : C .none (wd ad dad x)) : FS 1 (.ref 62) [.role .buf, .int i, .int j] (wd ad dad x) C := by
  refine FS.enter (n := 0) (q := "tell_ahead") (ds := []) (fun K k => k.f62) [(Str.ofString "buffer", .role .buf), (Str.ofString "start", .int i), (Str.ofString "end", .int j)] [] [] rfl ?hb (fun _ _ _ => .nil) (by rfl) (by kernel_rfl) ?H
  case hb => intro dV doc pm ct an s vs hl hd; subst hd; obtain ⟨a, b, c, e0⟩ := len3 hl; subst e0; exact BindsTo.of_eq rfl
  intro c hn hs
  refine Ex.cons ?_
  refine Sx.for0 ?_ (fun _ _ => rfl)
  refine Ev.tcall "list" (by kernel_rfl) PyProof.Rows.boot_list hs rfl (by kernel_rfl) (by decide) ?_ (fun _ => rfl) (fun _ => rfl) (fun _ => rfl); refine Ars.more ?_ (fun _ => rfl); refine Ev.attr ?_ (fun _ => rfl); refine Ev.name (memI 0 rfl) ?_; refine Get.buf_listeners ?_; refine Ars.nil ?_; refine ⟨Or.inl rfl, ?_⟩
  refine TC.list (.nums .lst) (by decide) ?_
  refine ⟨Itr.lst0, ?_⟩
  refine Nx.next ?_; refine Ex.nil ?_; refine Done.next ?_
  exact hC
theorem tell_behind_spec {i j k : Int} (hC : C .none (wd ad dad { x with tk := x.tk + 1, ct := x.tk + 1 })) : FS 2 (.ref 69) [.role .buf, .int i, .int j, .int k] (wd ad dad x) C := by
  refine FS.enter (n := 1) (q := "tell_behind") (ds := []) (fun K k => k.f69) [(Str.ofString "buffer", .role .buf), (Str.ofString "start", .int i), (Str.ofString "end", .int j), (Str.ofString "old_length", .int k)] [] [] rfl ?hb (fun _ _ _ => .nil) (by rfl) (by kernel_rfl) ?H
  case hb => intro dV doc pm ct an s vs hl hd; subst hd; obtain ⟨a, b, c, d, e0⟩ := len4 hl; subst e0; exact BindsTo.of_eq rfl
  intro c hn hs
  refine Ex.cons ?_; refine Sx.expr ?_ (fun _ => rfl); refine' Ev.methG ?_ (fun _ => rfl) (fun _ => rfl) (fun _ => rfl); refine Ev.name (memI 0 rfl) ?_; refine Mth.buf 689 (by kernel_rfl) (by kernel_rfl) (by kernel_rfl) ?_; refine Ars.more ?_ (fun _ => rfl); refine Ev.bool ?_; refine Ars.nil ?_; refine ⟨Or.inl rfl, ?_⟩
  refine FS.mono (by omega) (touch_spec ?_)
  refine Nx.next ?_; refine Ex.cons ?_
  refine Sx.for0 ?_ (fun _ _ => rfl)
  refine Ev.tcall "list" (by kernel_rfl) PyProof.Rows.boot_list hs rfl (by kernel_rfl) (by decide) ?_ (fun _ => rfl) (fun _ => rfl) (fun _ => rfl); refine Ars.more ?_ (fun _ => rfl); refine Ev.attr ?_ (fun _ => rfl); refine Ev.name (memI 0 rfl) ?_; refine Get.buf_listeners ?_; refine Ars.nil ?_; refine ⟨Or.inl rfl, ?_⟩
  refine TC.list (.nums .lst) (by decide) ?_
  refine ⟨Itr.lst0, ?_⟩
  refine Nx.next ?_; refine Ex.nil ?_; refine Done.next ?_
  exact hC
theorem numbers_spec (hC : C (.lst (if x.rw then [0] else [])) (wd ad dad x)) : FS 1 (.ref 330) [.role .marks] (wd ad dad x) C := by
  refine FS.enter (n := 0) (q := "Markers.numbers") (ds := []) (fun K k => k.f330) [(Str.ofString "self", .role .marks)] [] [] rfl ?hb (fun _ _ _ => .nil) (by rfl) (by kernel_rfl) ?H
  case hb => intro dV doc pm ct an s vs hl hd; subst hd; obtain ⟨a, e0⟩ := len1 hl; subst e0; exact BindsTo.of_eq rfl
  intro c hn hs
  refine Ex.cons ?_; refine Sx.ret ?_; refine Ev.bcall "sorted" (by kernel_rfl) boot_sorted hs rfl (by kernel_rfl) (by decide) ?_ (fun _ => rfl) (fun _ => rfl) (fun _ => rfl); refine Ars.more ?_ (fun _ => rfl); refine Ev.attr ?_ (fun _ => rfl); refine Ev.name (memI 0 rfl) ?_; refine Get.marks_rows ?_; refine Ars.nil ?_; refine ⟨Or.inl rfl, ?_⟩
  refine BC.sorted (b := x.rw) rfl ?_
  refine Nx.ret ?_; refine Done.ret ?_
  exact hC
end
section
variable {ad dad : Role → Addr} {x : AS} {T : List Int} {C : SV → Wd → Prop}
theorem text_out_spec (t : Txt x T) {i j : Int} (h0 : 1 ≤ i) (h1 : i ≤ j) (h2 : j ≤ T.length + 1) (hC : ∀ (cells : List Int) (gs ge : Int), Txt { x with cells := cells, gs := gs, ge := ge } (out T (i - 1) (j - 1)) → C (.lst (sl T (i - 1) (j - 1))) (wd ad dad { x with cells := cells, gs := gs, ge := ge, zv := x.zv - (j - i), p := if i < x.p then max i (x.p - (j - i)) else x.p })) : FS 3 (.ref 76) [.role .buf, .int i, .int j] (wd ad dad x) C := by
  refine FS.enter (n := 2) (q := "text_out") (ds := []) (fun K k => k.f76) [(Str.ofString "buffer", .role .buf), (Str.ofString "start", .int i), (Str.ofString "end", .int j)] [] [] rfl ?hb (fun _ _ _ => .nil) (by rfl) (by kernel_rfl) ?H
  case hb => intro dV doc pm ct an s vs hl hd; subst hd; obtain ⟨a, b, c, e0⟩ := len3 hl; subst e0; exact BindsTo.of_eq rfl
  intro c hn hs
  refine Ex.cons ?_; refine Sx.if_ ?_; refine Is.cmp ?_ rfl; refine Ev.attr ?_ (fun _ => rfl); refine Ev.name (memI 0 rfl) ?_; refine Get.buf_undo ?_; refine ⟨rfl, ?_⟩; refine Ev.none ?_; refine Cmp.notN0 ?_; refine ⟨_, rfl, ?_⟩; refine ⟨(by intro z; cases z), ?_⟩; intro _; refine Ex.nil ?_; refine Nx.next ?_; refine Ex.cons ?_; refine Sx.assignNew hs rfl (by kernel_rfl) rfl ?_ (fun _ => rfl); refine' Ev.methG ?_ (fun _ => rfl) (fun _ => rfl) (fun _ => rfl); refine Ev.attr ?_ (fun _ => rfl); refine Ev.name (memI 0 rfl) ?_; refine Get.buf_text ?_; refine Mth.gap 562 (by kernel_rfl) (by kernel_rfl) (by kernel_rfl) ?_; refine Ars.more ?_ (fun _ => rfl); refine Ev.bin ?_; refine Ev.name (memI 1 rfl) ?_; refine ⟨rfl, ?_⟩; refine Ev.int ?_; refine Bin.sub ?_; refine Ars.more ?_ (fun _ => rfl); refine Ev.bin ?_; refine Ev.name (memI 2 rfl) ?_; refine ⟨rfl, ?_⟩; refine Ev.int ?_; refine Bin.sub ?_; refine Ars.nil ?_; refine ⟨Or.inl rfl, ?_⟩; refine ⟨Or.inl rfl, ?_⟩
  refine FS.mono (by (clear h0 h1 h2; omega)) (delete_spec t (by (clear h1 h2 hn; omega)) (by (clear h0 h2 hn; omega)) (by (clear h0 h1 hn; omega)) fun cells gs ge t2 => ?_)
  have hC := hC cells gs ge t2
  refine ⟨rfl, ?_⟩; refine Nx.next ?_; refine Ex.cons ?_; refine Sx.setattr ?_ (fun _ => rfl); refine Ev.bin ?_; refine Ev.attr ?_ (fun _ => rfl); refine Ev.name (memI 1 rfl) ?_; refine Get.buf_zv ?_; refine ⟨rfl, ?_⟩; refine Ev.bin ?_; refine Ev.name (memI 3 rfl) ?_; refine ⟨rfl, ?_⟩; refine Ev.name (memI 2 rfl) ?_; refine Bin.sub ?_; refine Bin.sub ?_; refine ⟨rfl, ?_⟩; refine Ev.name (memI 1 rfl) ?_; refine SetA.buf_zv ?_; (try dsimp only); refine Nx.next ?_; refine Ex.cons ?_; refine Sx.if_ ?_; refine Is.cmp ?_ rfl; refine Ev.attr ?_ (fun _ => rfl); refine Ev.name (memI 1 rfl) ?_; refine Get.buf_point ?_; refine ⟨rfl, ?_⟩; refine Ev.name (memI 2 rfl) ?_; refine Cmp.gt ?_; refine ⟨_, rfl, ?_⟩
  refine ⟨fun h => ?_, fun h => ?_⟩ <;> simp only [decide_eq_true_eq, decide_eq_false_iff_not] at h
  · rw [if_pos h] at hC
    refine Ex.cons ?_; refine Sx.setattr ?_ (fun _ => rfl); refine Ev.bcall "max" (by kernel_rfl) boot_max hs rfl (by kernel_rfl) (by decide) ?_ (fun _ => rfl) (fun _ => rfl) (fun _ => rfl); refine Ars.more ?_ (fun _ => rfl); refine Ev.name (memI 2 rfl) ?_; refine Ars.more ?_ (fun _ => rfl); refine Ev.bin ?_; refine Ev.attr ?_ (fun _ => rfl); refine Ev.name (memI 1 rfl) ?_; refine Get.buf_point ?_; refine ⟨rfl, ?_⟩; refine Ev.bin ?_; refine Ev.name (memI 3 rfl) ?_; refine ⟨rfl, ?_⟩; refine Ev.name (memI 2 rfl) ?_; refine Bin.sub ?_; refine Bin.sub ?_; refine Ars.nil ?_; refine ⟨Or.inl rfl, ?_⟩; refine ⟨Or.inl rfl, ?_⟩; refine BC.max ?_; refine ⟨rfl, ?_⟩; refine Ev.name (memI 1 rfl) ?_; refine SetA.buf_point ?_; (try dsimp only); refine Nx.next ?_; refine Ex.nil ?_; refine Nx.next ?_; refine Ex.cons ?_; refine Sx.ret ?_; refine Ev.name (memI 0 rfl) ?_; refine Nx.ret ?_; refine Done.ret ?_
    have l2 : (if i < x.p - (j - i) then x.p - (j - i) else i) = max i (x.p - (j - i)) := by (clear h0 h1 h2 hn h; omega)
    rw [l2]
    exact hC
  · rw [if_neg h] at hC
    refine Ex.nil ?_; refine Nx.next ?_; refine Ex.cons ?_; refine Sx.ret ?_; refine Ev.name (memI 0 rfl) ?_; refine Nx.ret ?_; refine Done.ret ?_
    exact hC
theorem text_in_spec (t : Txt x T) {i : Int} {U : List Int} (h0 : 1 ≤ i) (h1 : i ≤ T.length + 1) (hz : T.length + U.length ≤ 90000) (hC : ∀ (cells : List Int) (gs ge : Int), Txt { x with cells := cells, gs := gs, ge := ge } (put T (i - 1) U) → C .none (wd ad dad { x with cells := cells, gs := gs, ge := ge, zv := x.zv + U.length, p := if i < x.p then x.p + U.length else x.p })) : FS 3 (.ref 83) [.role .buf, .int i, .lst U] (wd ad dad x) C := by
  refine FS.enter (n := 2) (q := "text_in") (ds := []) (fun K k => k.f83) [(Str.ofString "buffer", .role .buf), (Str.ofString "place", .int i), (Str.ofString "codes", .lst U)] [] [] rfl ?hb (fun _ _ _ => .nil) (by rfl) (by kernel_rfl) ?H
  case hb => intro dV doc pm ct an s vs hl hd; subst hd; obtain ⟨a, b, c, e0⟩ := len3 hl; subst e0; exact BindsTo.of_eq rfl
  intro c hn hs
  refine Ex.cons ?_; refine Sx.if_ ?_; refine Is.cmp ?_ rfl; refine Ev.attr ?_ (fun _ => rfl); refine Ev.name (memI 0 rfl) ?_; refine Get.buf_undo ?_; refine ⟨rfl, ?_⟩; refine Ev.none ?_; refine Cmp.notN0 ?_; refine ⟨_, rfl, ?_⟩; refine ⟨(by intro z; cases z), ?_⟩; intro _; refine Ex.nil ?_; refine Nx.next ?_; refine Ex.cons ?_; refine Sx.expr ?_ (fun _ => rfl); refine' Ev.methG ?_ (fun _ => rfl) (fun _ => rfl) (fun _ => rfl); refine Ev.attr ?_ (fun _ => rfl); refine Ev.name (memI 0 rfl) ?_; refine Get.buf_text ?_; refine Mth.gap 555 (by kernel_rfl) (by kernel_rfl) (by kernel_rfl) ?_; refine Ars.more ?_ (fun _ => rfl); refine Ev.bin ?_; refine Ev.name (memI 1 rfl) ?_; refine ⟨rfl, ?_⟩; refine Ev.int ?_; refine Bin.sub ?_; refine Ars.more ?_ (fun _ => rfl); refine Ev.name (memI 2 rfl) ?_; refine Ars.nil ?_; refine ⟨Or.inl rfl, ?_⟩; refine ⟨Or.inl rfl, ?_⟩
  refine FS.mono (by (clear h0 h1 hz; omega)) (insert_spec t (by (clear h1 hz hn; omega)) (by (clear h0 hz hn; omega)) (by (clear h0 h1 hn; omega)) fun cells gs ge t2 => ?_)
  have hC := hC cells gs ge t2
  refine Nx.next ?_; refine Ex.cons ?_; refine Sx.setattr ?_ (fun _ => rfl); refine Ev.bin ?_; refine Ev.attr ?_ (fun _ => rfl); refine Ev.name (memI 0 rfl) ?_; refine Get.buf_zv ?_; refine ⟨rfl, ?_⟩; refine Ev.bcall "len" (by kernel_rfl) PySem.boot_len hs rfl (by kernel_rfl) (by decide) ?_ (fun _ => rfl) (fun _ => rfl) (fun _ => rfl); refine Ars.more ?_ (fun _ => rfl); refine Ev.name (memI 2 rfl) ?_; refine Ars.nil ?_; refine ⟨Or.inl rfl, ?_⟩
  refine BC.len (.nums .lst) ?hz ?_
  case hz => (clear h0 h1 hn; omega)
  refine Bin.add ?_; refine ⟨rfl, ?_⟩; refine Ev.name (memI 0 rfl) ?_; refine SetA.buf_zv ?_; (try dsimp only); refine Nx.next ?_; refine Ex.cons ?_; refine Sx.if_ ?_; refine Is.cmp ?_ rfl; refine Ev.attr ?_ (fun _ => rfl); refine Ev.name (memI 0 rfl) ?_; refine Get.buf_point ?_; refine ⟨rfl, ?_⟩; refine Ev.name (memI 1 rfl) ?_; refine Cmp.gt ?_; refine ⟨_, rfl, ?_⟩
  refine ⟨fun h => ?_, fun h => ?_⟩ <;> simp only [decide_eq_true_eq, decide_eq_false_iff_not] at h
  · rw [if_pos h] at hC
    refine Ex.cons ?_; refine Sx.setattr ?_ (fun _ => rfl); refine Ev.bin ?_; refine Ev.attr ?_ (fun _ => rfl); refine Ev.name (memI 0 rfl) ?_; refine Get.buf_point ?_; refine ⟨rfl, ?_⟩; refine Ev.bcall "len" (by kernel_rfl) PySem.boot_len hs rfl (by kernel_rfl) (by decide) ?_ (fun _ => rfl) (fun _ => rfl) (fun _ => rfl); refine Ars.more ?_ (fun _ => rfl); refine Ev.name (memI 2 rfl) ?_; refine Ars.nil ?_; refine ⟨Or.inl rfl, ?_⟩
    refine BC.len (.nums .lst) ?hz ?_
    case hz => (clear h0 h1 hn h; omega)
    refine Bin.add ?_; refine ⟨rfl, ?_⟩; refine Ev.name (memI 0 rfl) ?_; refine SetA.buf_point ?_; (try dsimp only); refine Nx.next ?_; refine Ex.nil ?_; refine Nx.next ?_; refine Ex.nil ?_; refine Done.next ?_
    exact hC
  · rw [if_neg h] at hC
    refine Ex.nil ?_; refine Nx.next ?_; refine Ex.nil ?_; refine Done.next ?_
    exact hC
theorem hung_out_spec {i j : Int} (hC : C .none (wd ad dad x)) : FS 1 (.ref 90) [.role .buf, .int i, .int j] (wd ad dad x) C := by
  refine FS.enter (n := 0) (q := "hung_out") (ds := []) (fun K k => k.f90) [(Str.ofString "buffer", .role .buf), (Str.ofString "start", .int i), (Str.ofString "end", .int j)] [] [] rfl ?hb (fun _ _ _ => .nil) (by rfl) (by kernel_rfl) ?H
  case hb => intro dV doc pm ct an s vs hl hd; subst hd; obtain ⟨a, b, c, e0⟩ := len3 hl; subst e0; exact BindsTo.of_eq rfl
  intro c hn hs
  refine Ex.cons ?_; refine Sx.if_ ?_; refine Is.cmp ?_ rfl; refine Ev.attr ?_ (fun _ => rfl); refine Ev.name (memI 0 rfl) ?_; refine Get.buf_props ?_; refine ⟨rfl, ?_⟩; refine Ev.none ?_; refine Cmp.notN0 ?_; refine ⟨_, rfl, ?_⟩; refine ⟨(by intro z; cases z), ?_⟩; intro _; refine Ex.nil ?_; refine Nx.next ?_; refine Ex.cons ?_; refine Sx.if_ ?_; refine Is.cmp ?_ rfl; refine Ev.attr ?_ (fun _ => rfl); refine Ev.name (memI 0 rfl) ?_; refine Get.buf_overlays ?_; refine ⟨rfl, ?_⟩; refine Ev.none ?_; refine Cmp.notN0 ?_; refine ⟨_, rfl, ?_⟩; refine ⟨(by intro z; cases z), ?_⟩; intro _; refine Ex.nil ?_; refine Nx.next ?_; refine Ex.nil ?_; refine Done.next ?_
  exact hC
theorem hung_in_spec {i j : Int} {b : Bool} (hC : C .none (wd ad dad x)) : FS 1 (.ref 97) [.role .buf, .int i, .int j, .bool b] (wd ad dad x) C := by
  refine FS.enter (n := 0) (q := "hung_in") (ds := []) (fun K k => k.f97) [(Str.ofString "buffer", .role .buf), (Str.ofString "place", .int i), (Str.ofString "many", .int j), (Str.ofString "before_markers", .bool b)] [] [] rfl ?hb (fun _ _ _ => .nil) (by rfl) (by kernel_rfl) ?H
  case hb => intro dV doc pm ct an s vs hl hd; subst hd; obtain ⟨a, b, c, d, e0⟩ := len4 hl; subst e0; exact BindsTo.of_eq rfl
  intro c hn hs
  refine Ex.cons ?_; refine Sx.if_ ?_; refine Is.cmp ?_ rfl; refine Ev.attr ?_ (fun _ => rfl); refine Ev.name (memI 0 rfl) ?_; refine Get.buf_props ?_; refine ⟨rfl, ?_⟩; refine Ev.none ?_; refine Cmp.notN0 ?_; refine ⟨_, rfl, ?_⟩; refine ⟨(by intro z; cases z), ?_⟩; intro _; refine Ex.nil ?_; refine Nx.next ?_; refine Ex.cons ?_; refine Sx.if_ ?_; refine Is.cmp ?_ rfl; refine Ev.attr ?_ (fun _ => rfl); refine Ev.name (memI 0 rfl) ?_; refine Get.buf_overlays ?_; refine ⟨rfl, ?_⟩; refine Ev.none ?_; refine Cmp.notN0 ?_; refine ⟨_, rfl, ?_⟩; refine ⟨(by intro z; cases z), ?_⟩; intro _; refine Ex.nil ?_; refine Nx.next ?_; refine Ex.nil ?_; refine Done.next ?_
  exact hC
theorem inserted_spec {i j : Int} (hx : x.rw = true → x.mx = true) (hC : C .none (wd ad dad { x with mp := if x.rw = true ∧ i < x.mp then x.mp + j - i else x.mp })) : FS 2 (.ref 358) [.role .marks, .int i, .int j, .bool false] (wd ad dad x) C := by
  refine FS.enter (n := 1) (q := "Markers.inserted") (ds := []) (fun K k => k.f358) [(Str.ofString "self", .role .marks), (Str.ofString "start", .int i), (Str.ofString "end", .int j), (Str.ofString "is_before", .bool false)] [] [] rfl ?hb (fun _ _ _ => .nil) (by rfl) (by kernel_rfl) ?H
  case hb => intro dV doc pm ct an s vs hl hd; subst hd; obtain ⟨a, b, c, d, e0⟩ := len4 hl; subst e0; exact BindsTo.of_eq rfl
  intro c hn hs
  refine Ex.cons ?_
  cases hr : x.rw with
  | false =>
    have e0 : (if x.rw = true ∧ i < x.mp then x.mp + j - i else x.mp) = x.mp := by rw [hr]; simp
    rw [e0] at hC
    refine Sx.for0 ?_ (fun _ _ => rfl)
    refine' Ev.meth0G ?_ (fun _ => rfl); refine Ev.name (memI 0 rfl) ?_; refine Mth.marks 330 (by kernel_rfl) (by kernel_rfl) (by kernel_rfl) ?_
    refine FS.mono (by (clear hx e0; omega)) (numbers_spec ?_)
    rw [hr]
    refine ⟨Itr.lst0, ?_⟩
    refine Nx.next ?_; refine Ex.nil ?_; refine Done.next ?_
    exact hC
  | true =>
    have hm := hx hr
    have e0 : (if x.rw = true ∧ i < x.mp then x.mp + j - i else x.mp) = if i < x.mp then x.mp + j - i else x.mp := by rw [hr]; simp
    rw [e0] at hC
    refine Sx.for1 (.int 0) ?_ (fun _ _ => rfl)
    refine' Ev.meth0G ?_ (fun _ => rfl); refine Ev.name (memI 0 rfl) ?_; refine Mth.marks 330 (by kernel_rfl) (by kernel_rfl) (by kernel_rfl) ?_
    refine FS.mono (by (clear hx e0; omega)) (numbers_spec ?_)
    rw [hr]
    refine ⟨Itr.lst1, fun c' hn' hs' => ?_⟩
    rw [hs] at hs'
    refine As1.nameNew hs' rfl (by kernel_rfl) rfl rfl ?_; refine Ex.cons ?_; refine Sx.assignNew hs' rfl (by kernel_rfl) rfl ?_ (fun _ => rfl); refine Ev.itemG ?_ (fun _ _ => ⟨_, rfl⟩); refine Ev.attr ?_ (fun _ => rfl); refine Ev.name (memI 1 rfl) ?_; refine Get.marks_rows ?_; refine Ev.name (memI 0 rfl) ?_; refine ItemG.rows (by assumption) ?_; refine ⟨rfl, ?_⟩; refine Nx.next ?_; refine Ex.cons ?_; refine Sx.if_ ?_; refine Is.or ?_; refine TB.or ?_; refine Is.cmp ?_ rfl; refine Ev.attr ?_ (fun _ => rfl); refine Ev.name (memI 0 rfl) ?_; refine Get.mark_position (by assumption) ?_; refine ⟨rfl, ?_⟩; refine Ev.name (memI 3 rfl) ?_; refine Cmp.gt ?_; refine ⟨_, rfl, ?_⟩
    refine ⟨fun h => ?_, fun h => ?_⟩ <;> simp only [decide_eq_true_eq, decide_eq_false_iff_not] at h
    · rw [if_pos h] at hC
      refine ⟨?_, (by intro z; cases z)⟩; intro _; refine Ex.cons ?_; refine Sx.setattr ?_ (fun _ => rfl); refine Ev.bin ?_; refine Ev.bin ?_; refine Ev.attr ?_ (fun _ => rfl); refine Ev.name (memI 0 rfl) ?_; refine Get.mark_position (by assumption) ?_; refine ⟨rfl, ?_⟩; refine Ev.name (memI 4 rfl) ?_; refine Bin.add ?_; refine ⟨rfl, ?_⟩; refine Ev.name (memI 3 rfl) ?_; refine Bin.sub ?_; refine ⟨rfl, ?_⟩; refine Ev.name (memI 0 rfl) ?_; refine SetA.mark_position (by assumption) ?_; (try dsimp only); refine Nx.next ?_; refine Ex.nil ?_; refine Nx.next ?_; refine Ex.nil ?_; refine Lp1.next ?_; refine Nx.next ?_; refine Ex.nil ?_; refine Done.next ?_
      exact hC
    · rw [if_neg h] at hC
      refine TB.or ?_; refine Is.and ?_; refine TB.and ?_; refine Is.cmp ?_ rfl; refine Ev.attr ?_ (fun _ => rfl); refine Ev.name (memI 0 rfl) ?_; refine Get.mark_position (by assumption) ?_; refine ⟨rfl, ?_⟩; refine Ev.name (memI 3 rfl) ?_; refine Cmp.eq ?_; refine ⟨_, rfl, ?_⟩
      refine ⟨fun h' => ?_, fun h' => ?_⟩
      · refine ⟨(by intro z; cases z), ?_⟩; intro _; refine TB.orNil ?_; refine ⟨(by intro z; cases z), ?_⟩; intro _; refine Ex.nil ?_; refine Nx.next ?_; refine Ex.nil ?_; refine Lp1.next ?_; refine Nx.next ?_; refine Ex.nil ?_; refine Done.next ?_
        exact hC
      · refine TB.and ?_; refine Is.or ?_; refine TB.or ?_; refine Is.plain ?_ (fun _ _ => rfl); refine Ev.name (memI 5 rfl) ?_; refine ⟨_, rfl, ?_⟩; refine ⟨(by intro z; cases z), ?_⟩; intro _; refine TB.or ?_; refine Is.plain ?_ (fun _ _ => rfl); refine Ev.attr ?_ (fun _ => rfl); refine Ev.name (memI 0 rfl) ?_; refine Get.mark_advances (by assumption) ?_; refine ⟨_, rfl, ?_⟩; refine ⟨(by intro z; cases z), ?_⟩; intro _; refine TB.orNil ?_; refine ⟨?_, (by intro z; cases z)⟩; intro _; refine ⟨(by intro z; cases z), ?_⟩; intro _; refine TB.orNil ?_; refine ⟨(by intro z; cases z), ?_⟩; intro _; refine Ex.nil ?_; refine Nx.next ?_; refine Ex.nil ?_; refine Lp1.next ?_; refine Nx.next ?_; refine Ex.nil ?_; refine Done.next ?_
        exact hC
theorem deleted_spec {i j : Int} (hx : x.rw = true → x.mx = true) (hC : C .none (wd ad dad { x with mp := if x.rw = true then (if j < x.mp then x.mp - (j - i) else if i < x.mp then i else x.mp) else x.mp })) : FS 2 (.ref 365) [.role .marks, .int i, .int j] (wd ad dad x) C := by
  refine FS.enter (n := 1) (q := "Markers.deleted") (ds := []) (fun K k => k.f365) [(Str.ofString "self", .role .marks), (Str.ofString "start", .int i), (Str.ofString "end", .int j)] [] [] rfl ?hb (fun _ _ _ => .nil) (by rfl) (by kernel_rfl) ?H
  case hb => intro dV doc pm ct an s vs hl hd; subst hd; obtain ⟨a, b, c, e0⟩ := len3 hl; subst e0; exact BindsTo.of_eq rfl
  intro c hn hs
  refine Ex.cons ?_
  cases hr : x.rw with
  | false =>
    have e0 : (if x.rw = true then (if j < x.mp then x.mp - (j - i) else if i < x.mp then i else x.mp) else x.mp) = x.mp := by rw [hr]; simp
    rw [e0] at hC
    refine Sx.for0 ?_ (fun _ _ => rfl)
    refine' Ev.meth0G ?_ (fun _ => rfl); refine Ev.name (memI 0 rfl) ?_; refine Mth.marks 330 (by kernel_rfl) (by kernel_rfl) (by kernel_rfl) ?_
    refine FS.mono (by (clear hx e0; omega)) (numbers_spec ?_)
    rw [hr]
    refine ⟨Itr.lst0, ?_⟩
    refine Nx.next ?_; refine Ex.nil ?_; refine Done.next ?_
    exact hC
  | true =>
    have hm := hx hr
    rw [if_pos hr] at hC
    refine Sx.for1 (.int 0) ?_ (fun _ _ => rfl)
    refine' Ev.meth0G ?_ (fun _ => rfl); refine Ev.name (memI 0 rfl) ?_; refine Mth.marks 330 (by kernel_rfl) (by kernel_rfl) (by kernel_rfl) ?_
    refine FS.mono (by (clear hx; omega)) (numbers_spec ?_)
    rw [hr]
    refine ⟨Itr.lst1, fun c' hn' hs' => ?_⟩
    rw [hs] at hs'
    refine As1.nameNew hs' rfl (by kernel_rfl) rfl rfl ?_; refine Ex.cons ?_; refine Sx.assignNew hs' rfl (by kernel_rfl) rfl ?_ (fun _ => rfl); refine Ev.itemG ?_ (fun _ _ => ⟨_, rfl⟩); refine Ev.attr ?_ (fun _ => rfl); refine Ev.name (memI 1 rfl) ?_; refine Get.marks_rows ?_; refine Ev.name (memI 0 rfl) ?_; refine ItemG.rows (by assumption) ?_; refine ⟨rfl, ?_⟩; refine Nx.next ?_; refine Ex.cons ?_; refine Sx.if_ ?_; refine Is.cmp ?_ rfl; refine Ev.attr ?_ (fun _ => rfl); refine Ev.name (memI 0 rfl) ?_; refine Get.mark_position (by assumption) ?_; refine ⟨rfl, ?_⟩; refine Ev.name (memI 4 rfl) ?_; refine Cmp.gt ?_; refine ⟨_, rfl, ?_⟩
    refine ⟨fun h => ?_, fun h => ?_⟩ <;> simp only [decide_eq_true_eq, decide_eq_false_iff_not] at h
    · rw [if_pos h] at hC
      refine Ex.cons ?_; refine Sx.setattr ?_ (fun _ => rfl); refine Ev.bin ?_; refine Ev.attr ?_ (fun _ => rfl); refine Ev.name (memI 0 rfl) ?_; refine Get.mark_position (by assumption) ?_; refine ⟨rfl, ?_⟩; refine Ev.bin ?_; refine Ev.name (memI 4 rfl) ?_; refine ⟨rfl, ?_⟩; refine Ev.name (memI 3 rfl) ?_; refine Bin.sub ?_; refine Bin.sub ?_; refine ⟨rfl, ?_⟩; refine Ev.name (memI 0 rfl) ?_; refine SetA.mark_position (by assumption) ?_; (try dsimp only); refine Nx.next ?_; refine Ex.nil ?_; refine Nx.next ?_; refine Ex.nil ?_; refine Lp1.next ?_; refine Nx.next ?_; refine Ex.nil ?_; refine Done.next ?_
      exact hC
    · rw [if_neg h] at hC
      refine Ex.cons ?_; refine Sx.if_ ?_; refine Is.cmp ?_ rfl; refine Ev.attr ?_ (fun _ => rfl); refine Ev.name (memI 0 rfl) ?_; refine Get.mark_position (by assumption) ?_; refine ⟨rfl, ?_⟩; refine Ev.name (memI 3 rfl) ?_; refine Cmp.gt ?_; refine ⟨_, rfl, ?_⟩
      refine ⟨fun h' => ?_, fun h' => ?_⟩ <;> simp only [decide_eq_true_eq, decide_eq_false_iff_not] at h'
      · rw [if_pos h'] at hC
        refine Ex.cons ?_; refine Sx.setattr ?_ (fun _ => rfl); refine Ev.name (memI 3 rfl) ?_; refine ⟨rfl, ?_⟩; refine Ev.name (memI 0 rfl) ?_; refine SetA.mark_position (by assumption) ?_; (try dsimp only); refine Nx.next ?_; refine Ex.nil ?_; refine Nx.next ?_; refine Ex.nil ?_; refine Nx.next ?_; refine Ex.nil ?_; refine Lp1.next ?_; refine Nx.next ?_; refine Ex.nil ?_; refine Done.next ?_
        exact hC
      · rw [if_neg h'] at hC
        refine Ex.nil ?_; refine Nx.next ?_; refine Ex.nil ?_; refine Nx.next ?_; refine Ex.nil ?_; refine Lp1.next ?_; refine Nx.next ?_; refine Ex.nil ?_; refine Done.next ?_
        exact hC
theorem mput_spec {i : Int} (hx : x.mx = true) (hC : C .none (wd ad dad { x with rw := true, mp := i })) : FS 1 (.ref 337) [.role .marks, .role .mark, .int i] (wd ad dad x) C := by
  refine FS.enter (n := 0) (q := "Markers.put") (ds := []) (fun K k => k.f337) [(Str.ofString "self", .role .marks), (Str.ofString "marker", .role .mark), (Str.ofString "position", .int i)] [] [] rfl ?hb (fun _ _ _ => .nil) (by rfl) (by kernel_rfl) ?H
  case hb => intro dV doc pm ct an s vs hl hd; subst hd; obtain ⟨a, b, c, e0⟩ := len3 hl; subst e0; exact BindsTo.of_eq rfl
  intro c hn hs
  refine Ex.cons ?_
  refine Sx.setitem .rows ?_ (fun _ => rfl)
  refine Ev.name (memI 1 rfl) ?_; refine ⟨rfl, ?_⟩; refine Ev.attr ?_ (fun _ => rfl); refine Ev.name (memI 0 rfl) ?_; refine Get.marks_rows ?_; refine ⟨rfl, ?_⟩; refine Ev.attr ?_ (fun _ => rfl); refine Ev.name (memI 1 rfl) ?_; refine Get.mark_number (by assumption) ?_
  refine ⟨.inl (by intro z; cases z), 0, rfl, SetI.put_marks hx ?_⟩
  refine Nx.next ?_; refine Ex.cons ?_; refine Sx.setattr ?_ (fun _ => rfl); refine Ev.name (memI 2 rfl) ?_; refine ⟨rfl, ?_⟩; refine Ev.name (memI 1 rfl) ?_; refine SetA.mark_position (by assumption) ?_; (try dsimp only); refine Nx.next ?_; refine Ex.nil ?_; refine Done.next ?_
  exact hC
/-- the marks are sound -/
structure Mk (x : AS) : Prop where
  r : x.rw = x.mx
  m : x.bm = x.mx
  b : x.mb = x.mx
/-- the buffer is sound -/
structure Bf (x : AS) (T : List Int) : Prop extends Txt x T, Mk x where
  z : x.zv = T.length + 1
  p0 : 1 ≤ x.p
  p1 : x.p ≤ x.zv
theorem Mk.rx {x : AS} (k : Mk x) : x.rw = true → x.mx = true := fun h => by rw [← k.r]; exact h
/-- what is not of the buffer is kept -/
structure Same (x y : AS) : Prop where
  ro : y.ro = x.ro
  kx : y.kx = x.kx
  ptr : y.ptr = x.ptr
  R : y.R = x.R
  bigs : y.bigs = x.bigs
  dcs : y.dcs = x.dcs
  dk : y.dk = x.dk
theorem Same.refl (x : AS) : Same x x := ⟨rfl, rfl, rfl, rfl, rfl, rfl, rfl⟩
theorem put_len {a : Int} {U : List Int} (h0 : 0 ≤ a) (h1 : a ≤ T.length) : (put T a U).length = T.length + U.length := by
  unfold put
  simp only [List.length_append, List.length_take, List.length_drop]
  (clear h0 h1; omega)
theorem out_len {i j : Int} (h0 : 0 ≤ i) (h1 : i ≤ j) (h2 : j ≤ T.length) : ((out T i j).length : Int) = T.length - (j - i) := by
  unfold out
  simp only [List.length_append, List.length_take, List.length_drop]
  omega
theorem put_nil (T : List Int) (a : Int) : put T a [] = T := by unfold put; rw [List.append_nil, List.take_append_drop]
theorem put_in_spec (t : Bf x T) {i : Int} {U : List Int} (hro : x.ro = false) (hi : i = x.p) (hz : T.length + U.length ≤ 90000)
    (hC : ∀ y : AS, Bf y (put T (x.p - 1) U) → y.p = x.p + U.length → y.mx = x.mx → (x.mx = true → y.mp = if x.p < x.mp then x.mp + U.length else x.mp) → Same x y → C .none (wd ad dad y)) : FS 4 (.ref 104) [.role .buf, .int i, .lst U, .bool false, .bool true] (wd ad dad x) C := by
  refine FS.enter (n := 3) (q := "put_in") (ds := []) (fun K k => k.f104) [(Str.ofString "buffer", .role .buf), (Str.ofString "place", .int i), (Str.ofString "codes", .lst U), (Str.ofString "before_markers", .bool false), (Str.ofString "is_point_behind", .bool true)] [] [] rfl ?hb (fun _ _ _ => .nil) (by rfl) (by kernel_rfl) ?H
  case hb => intro dV doc pm ct an s vs hl hd; subst hd; obtain ⟨a, b, c, d, e, e0⟩ := len5 hl; subst e0; exact BindsTo.of_eq rfl
  intro c hn hs
  have p0 := t.p0
  have p1 := t.p1
  have z := t.z
  have rx := t.toMk.rx
  subst hi
  refine Ex.cons ?_; refine Sx.expr ?_ (fun _ => rfl); refine Ev.callG 48 (by kernel_rfl) (by kernel_rfl) hs rfl (by kernel_rfl) ?_ (fun _ => rfl) (fun _ => rfl) (fun _ => rfl); refine Ars.more ?_ (fun _ => rfl); refine Ev.name (memI 0 rfl) ?_; refine Ars.nil ?_; refine ⟨Or.inl rfl, ?_⟩
  refine FS.mono (by (clear hz p0 p1 z rx; omega)) (need_writable_spec hro ?_)
  refine Nx.next ?_; refine Ex.cons ?_; refine Sx.expr ?_ (fun _ => rfl); refine Ev.callG 55 (by kernel_rfl) (by kernel_rfl) hs rfl (by kernel_rfl) ?_ (fun _ => rfl) (fun _ => rfl) (fun _ => rfl); refine Ars.more ?_ (fun _ => rfl); refine Ev.name (memI 0 rfl) ?_; refine Ars.more ?_ (fun _ => rfl); refine Ev.name (memI 1 rfl) ?_; refine Ars.more ?_ (fun _ => rfl); refine Ev.name (memI 1 rfl) ?_; refine Ars.nil ?_; refine ⟨Or.inl rfl, ?_⟩; refine ⟨Or.inl rfl, ?_⟩; refine ⟨Or.inl rfl, ?_⟩
  refine FS.mono (by (clear hz p0 p1 z rx; omega)) (reached_spec p0 p1 p0 p1 ?_)
  refine Nx.next ?_; refine Ex.cons ?_; refine Sx.if_ ?_; refine Is.cmp ?_ rfl; refine Ev.bcall "len" (by kernel_rfl) PySem.boot_len hs rfl (by kernel_rfl) (by decide) ?_ (fun _ => rfl) (fun _ => rfl) (fun _ => rfl); refine Ars.more ?_ (fun _ => rfl); refine Ev.name (memI 2 rfl) ?_; refine Ars.nil ?_; refine ⟨Or.inl rfl, ?_⟩
  refine BC.len (.nums .lst) ?hz ?_
  case hz => (clear hn p0 p1 z rx; omega)
  refine ⟨rfl, ?_⟩; refine Ev.int ?_; refine Cmp.eq ?_; refine ⟨_, rfl, ?_⟩
  refine ⟨fun h => ?_, fun h => ?_⟩
  · have h0 : U = [] := List.eq_nil_of_length_eq_zero (by simpa using h)
    subst h0
    refine Ex.cons ?_; refine Sx.retN ?_; refine Nx.ret ?_; refine Nx.ret ?_; refine Done.ret ?_
    refine hC x (by rw [put_nil]; exact t) (by simp) rfl (fun _ => by split <;> simp) (.refl x)
  · refine Ex.nil ?_; refine Nx.next ?_; refine Ex.cons ?_; refine Sx.expr ?_ (fun _ => rfl); refine Ev.callG 62 (by kernel_rfl) (by kernel_rfl) hs rfl (by kernel_rfl) ?_ (fun _ => rfl) (fun _ => rfl) (fun _ => rfl); refine Ars.more ?_ (fun _ => rfl); refine Ev.name (memI 0 rfl) ?_; refine Ars.more ?_ (fun _ => rfl); refine Ev.name (memI 1 rfl) ?_; refine Ars.more ?_ (fun _ => rfl); refine Ev.name (memI 1 rfl) ?_; refine Ars.nil ?_; refine ⟨Or.inl rfl, ?_⟩; refine ⟨Or.inl rfl, ?_⟩; refine ⟨Or.inl rfl, ?_⟩
    refine FS.mono (by (clear hz p0 p1 z rx; omega)) (tell_ahead_spec ?_)
    refine Nx.next ?_; refine Ex.cons ?_; refine Sx.expr ?_ (fun _ => rfl); refine Ev.callG 83 (by kernel_rfl) (by kernel_rfl) hs rfl (by kernel_rfl) ?_ (fun _ => rfl) (fun _ => rfl) (fun _ => rfl); refine Ars.more ?_ (fun _ => rfl); refine Ev.name (memI 0 rfl) ?_; refine Ars.more ?_ (fun _ => rfl); refine Ev.name (memI 1 rfl) ?_; refine Ars.more ?_ (fun _ => rfl); refine Ev.name (memI 2 rfl) ?_; refine Ars.nil ?_; refine ⟨Or.inl rfl, ?_⟩; refine ⟨Or.inl rfl, ?_⟩; refine ⟨Or.inl rfl, ?_⟩
    refine FS.mono (by (clear hz p0 p1 z rx; omega)) (text_in_spec t.toTxt p0 (by (clear hz hn p0 rx; omega)) hz fun cells gs ge t2 => ?_)
    refine Nx.next ?_; refine Ex.cons ?_; refine Sx.if_ ?_; refine Is.plain ?_ (fun _ _ => rfl); refine Ev.name (memI 4 rfl) ?_; refine ⟨_, rfl, ?_⟩; refine ⟨?_, (by intro z; cases z)⟩; intro _; refine Ex.cons ?_; refine Sx.setattr ?_ (fun _ => rfl); refine Ev.bin ?_; refine Ev.name (memI 1 rfl) ?_; refine ⟨rfl, ?_⟩; refine Ev.bcall "len" (by kernel_rfl) PySem.boot_len hs rfl (by kernel_rfl) (by decide) ?_ (fun _ => rfl) (fun _ => rfl) (fun _ => rfl); refine Ars.more ?_ (fun _ => rfl); refine Ev.name (memI 2 rfl) ?_; refine Ars.nil ?_; refine ⟨Or.inl rfl, ?_⟩
    refine BC.len (.nums .lst) ?hz ?_
    case hz => (clear hn p0 p1 z rx; omega)
    refine Bin.add ?_; refine ⟨rfl, ?_⟩; refine Ev.name (memI 0 rfl) ?_; refine SetA.buf_point ?_; (try dsimp only); refine Nx.next ?_; refine Ex.nil ?_; refine Nx.next ?_; refine Ex.cons ?_; refine Sx.expr ?_ (fun _ => rfl); refine' Ev.methG ?_ (fun _ => rfl) (fun _ => rfl) (fun _ => rfl); refine Ev.attr ?_ (fun _ => rfl); refine Ev.name (memI 0 rfl) ?_; refine Get.buf_markers ?_; refine Mth.marks 358 (by kernel_rfl) (by kernel_rfl) (by kernel_rfl) ?_; refine Ars.more ?_ (fun _ => rfl); refine Ev.name (memI 1 rfl) ?_; refine Ars.more ?_ (fun _ => rfl); refine Ev.bin ?_; refine Ev.name (memI 1 rfl) ?_; refine ⟨rfl, ?_⟩; refine Ev.bcall "len" (by kernel_rfl) PySem.boot_len hs rfl (by kernel_rfl) (by decide) ?_ (fun _ => rfl) (fun _ => rfl) (fun _ => rfl); refine Ars.more ?_ (fun _ => rfl); refine Ev.name (memI 2 rfl) ?_; refine Ars.nil ?_; refine ⟨Or.inl rfl, ?_⟩
    refine BC.len (.nums .lst) ?hz ?_
    case hz => (clear hn p0 p1 z rx; omega)
    refine Bin.add ?_; refine Ars.more ?_ (fun _ => rfl); refine Ev.name (memI 3 rfl) ?_; refine Ars.nil ?_; refine ⟨Or.inl rfl, ?_⟩; refine ⟨Or.inl rfl, ?_⟩; refine ⟨Or.inl rfl, ?_⟩
    refine FS.mono (by (clear hz p0 p1 z rx; omega)) (inserted_spec (by dsimp only; exact rx) ?_)
    refine Nx.next ?_; refine Ex.cons ?_; refine Sx.expr ?_ (fun _ => rfl); refine Ev.callG 97 (by kernel_rfl) (by kernel_rfl) hs rfl (by kernel_rfl) ?_ (fun _ => rfl) (fun _ => rfl) (fun _ => rfl); refine Ars.more ?_ (fun _ => rfl); refine Ev.name (memI 0 rfl) ?_; refine Ars.more ?_ (fun _ => rfl); refine Ev.name (memI 1 rfl) ?_; refine Ars.more ?_ (fun _ => rfl); refine Ev.bcall "len" (by kernel_rfl) PySem.boot_len hs rfl (by kernel_rfl) (by decide) ?_ (fun _ => rfl) (fun _ => rfl) (fun _ => rfl); refine Ars.more ?_ (fun _ => rfl); refine Ev.name (memI 2 rfl) ?_; refine Ars.nil ?_; refine ⟨Or.inl rfl, ?_⟩
    refine BC.len (.nums .lst) ?hz ?_
    case hz => (clear hn p0 p1 z rx; omega)
    refine Ars.more ?_ (fun _ => rfl); refine Ev.name (memI 3 rfl) ?_; refine Ars.nil ?_; refine ⟨Or.inl rfl, ?_⟩; refine ⟨Or.inl rfl, ?_⟩; refine ⟨Or.inl rfl, ?_⟩; refine ⟨Or.inl rfl, ?_⟩
    refine FS.mono (by (clear hz p0 p1 z rx; omega)) (hung_in_spec ?_)
    refine Nx.next ?_; refine Ex.cons ?_; refine Sx.expr ?_ (fun _ => rfl); refine Ev.callG 69 (by kernel_rfl) (by kernel_rfl) hs rfl (by kernel_rfl) ?_ (fun _ => rfl) (fun _ => rfl) (fun _ => rfl); refine Ars.more ?_ (fun _ => rfl); refine Ev.name (memI 0 rfl) ?_; refine Ars.more ?_ (fun _ => rfl); refine Ev.name (memI 1 rfl) ?_; refine Ars.more ?_ (fun _ => rfl); refine Ev.bin ?_; refine Ev.name (memI 1 rfl) ?_; refine ⟨rfl, ?_⟩; refine Ev.bcall "len" (by kernel_rfl) PySem.boot_len hs rfl (by kernel_rfl) (by decide) ?_ (fun _ => rfl) (fun _ => rfl) (fun _ => rfl); refine Ars.more ?_ (fun _ => rfl); refine Ev.name (memI 2 rfl) ?_; refine Ars.nil ?_; refine ⟨Or.inl rfl, ?_⟩
    refine BC.len (.nums .lst) ?hz ?_
    case hz => (clear hn p0 p1 z rx; omega)
    refine Bin.add ?_; refine Ars.more ?_ (fun _ => rfl); refine Ev.int ?_; refine Ars.nil ?_; refine ⟨Or.inl rfl, ?_⟩; refine ⟨Or.inl rfl, ?_⟩; refine ⟨Or.inl rfl, ?_⟩; refine ⟨Or.inl rfl, ?_⟩
    refine FS.mono (by (clear hz p0 p1 z rx; omega)) (tell_behind_spec ?_)
    refine Nx.next ?_; refine Ex.nil ?_; refine Done.next ?_
    have pl := put_len (T := T) (a := x.p - 1) (U := U) (by (clear hz hn p1 z rx; omega)) (by (clear hz hn p0 rx; omega))
    refine hC _ ⟨⟨t2.g0, t2.g1, t2.g2, t2.sz, t2.tx⟩, ⟨t.r, t.m, t.b⟩, by dsimp only; (clear hz hn p0 p1 rx; omega), by dsimp only; (clear hz hn p1 z rx pl; omega), by dsimp only; (clear hz hn p0 z rx pl; omega)⟩ rfl rfl (fun hm => ?_) ⟨rfl, rfl, rfl, rfl, rfl, rfl, rfl⟩
    dsimp only
    rw [t.r, hm]
    by_cases q : x.p < x.mp
    · rw [if_pos ⟨rfl, q⟩, if_pos q]; (clear hz hn p0 p1 z rx pl q; omega)
    · rw [if_neg (fun z => q z.2), if_neg q]
theorem insert_fn_spec (t : Bf x T) {U : List Int} (hro : x.ro = false) (hz : T.length + U.length ≤ 90000)
    (hC : ∀ y : AS, Bf y (put T (x.p - 1) U) → y.p = x.p + U.length → y.mx = x.mx → (x.mx = true → y.mp = if x.p < x.mp then x.mp + U.length else x.mp) → Same x y → C .none (wd ad dad y)) : FS 5 (.ref 112) [.role .buf, .lst U] (wd ad dad x) C := by
  refine FS.enter (n := 4) (q := "insert") (ds := [.bool false]) (fun K k => k.f112) [(Str.ofString "buffer", .role .buf), (Str.ofString "codes", .lst U), (Str.ofString "before_markers", .bool false)] [.bool false] [.bool false] rfl ?hb (fun _ _ _ => .cons rfl .nil) (by rfl) (by kernel_rfl) ?H
  case hb =>
    intro dV doc pm ct an s vs hl hd
    obtain ⟨a, b, e0⟩ := len2 hl
    subst e0
    obtain ⟨T', o, n, e1, e2, e3⟩ := hd
    subst e1
    exact BindsTo.of_defaults rfl e2 e3 rfl rfl
  intro c hn hs
  refine Ex.cons ?_; refine Sx.expr ?_ (fun _ => rfl); refine Ev.callG 104 (by kernel_rfl) (by kernel_rfl) hs rfl (by kernel_rfl) ?_ (fun _ => rfl) (fun _ => rfl) (fun _ => rfl); refine Ars.more ?_ (fun _ => rfl); refine Ev.name (memI 0 rfl) ?_; refine Ars.more ?_ (fun _ => rfl); refine Ev.attr ?_ (fun _ => rfl); refine Ev.name (memI 0 rfl) ?_; refine Get.buf_point ?_; refine Ars.more ?_ (fun _ => rfl); refine Ev.name (memI 1 rfl) ?_; refine Ars.more ?_ (fun _ => rfl); refine Ev.name (memI 2 rfl) ?_; refine Ars.more ?_ (fun _ => rfl); refine Ev.bool ?_; refine Ars.nil ?_; refine ⟨Or.inl rfl, ?_⟩; refine ⟨Or.inl rfl, ?_⟩; refine ⟨Or.inl rfl, ?_⟩; refine ⟨Or.inl rfl, ?_⟩; refine ⟨Or.inl rfl, ?_⟩
  refine FS.mono (by (clear hz; omega)) (put_in_spec t hro rfl hz fun y a b cc d e => ?_)
  refine Nx.next ?_; refine Ex.nil ?_; refine Done.next ?_
  exact hC y a b cc d e
theorem delete_fn_spec (t : Bf x T) {i j : Int} (hro : x.ro = false) (h0 : 1 ≤ i) (h1 : i ≤ x.zv) (h2 : 1 ≤ j) (h3 : j ≤ x.zv)
    (hC : ∀ (y : AS) (g : List Int), Bf y (out T (min i j - 1) (max i j - 1)) → y.p = (if min i j < x.p then max (min i j) (x.p - (max i j - min i j)) else x.p) → y.mx = x.mx → (x.mx = true → y.mp = if max i j < x.mp then x.mp - (max i j - min i j) else if min i j < x.mp then min i j else x.mp) → Same x y → C (.lst g) (wd ad dad y)) : FS 4 (.ref 119) [.role .buf, .int i, .int j] (wd ad dad x) C := by
  refine FS.enter (n := 3) (q := "delete") (ds := []) (fun K k => k.f119) [(Str.ofString "buffer", .role .buf), (Str.ofString "start", .int i), (Str.ofString "end", .int j)] [] [] rfl ?hb (fun _ _ _ => .nil) (by rfl) (by kernel_rfl) ?H
  case hb => intro dV doc pm ct an s vs hl hd; subst hd; obtain ⟨a, b, c, e0⟩ := len3 hl; subst e0; exact BindsTo.of_eq rfl
  intro c hn hs
  have p0 := t.p0
  have p1 := t.p1
  have z := t.z
  have rx := t.toMk.rx
  generalize hlo : min i j = lo at hC
  generalize hhi : max i j = hi at hC
  refine Ex.cons ?_; refine Sx.expr ?_ (fun _ => rfl); refine Ev.callG 48 (by kernel_rfl) (by kernel_rfl) hs rfl (by kernel_rfl) ?_ (fun _ => rfl) (fun _ => rfl) (fun _ => rfl); refine Ars.more ?_ (fun _ => rfl); refine Ev.name (memI 0 rfl) ?_; refine Ars.nil ?_; refine ⟨Or.inl rfl, ?_⟩
  refine FS.mono (by (clear h0 h1 h2 h3 p0 p1 z rx hlo hhi; omega)) (need_writable_spec hro ?_)
  refine Nx.next ?_; refine Ex.cons ?_; refine Sx.unpack2 hs rfl rfl (by kernel_rfl) (by kernel_rfl) rfl rfl rfl ?_ (fun _ => rfl) (fun _ => rfl); refine Ev.callG 55 (by kernel_rfl) (by kernel_rfl) hs rfl (by kernel_rfl) ?_ (fun _ => rfl) (fun _ => rfl) (fun _ => rfl); refine Ars.more ?_ (fun _ => rfl); refine Ev.name (memI 0 rfl) ?_; refine Ars.more ?_ (fun _ => rfl); refine Ev.name (memI 1 rfl) ?_; refine Ars.more ?_ (fun _ => rfl); refine Ev.name (memI 2 rfl) ?_; refine Ars.nil ?_; refine ⟨Or.inl rfl, ?_⟩; refine ⟨Or.inl rfl, ?_⟩; refine ⟨Or.inl rfl, ?_⟩
  refine FS.mono (by (clear h0 h1 h2 h3 p0 p1 z rx hlo hhi; omega)) (reached_spec h0 h1 h2 h3 ?_)
  rw [hlo, hhi]
  refine ⟨_, _, rfl, ?_⟩; refine Nx.next ?_; refine Ex.cons ?_; refine Sx.if_ ?_; refine Is.cmp ?_ rfl; refine Ev.name (memI 1 rfl) ?_; refine ⟨rfl, ?_⟩; refine Ev.name (memI 0 rfl) ?_; refine Cmp.eq ?_; refine ⟨_, rfl, ?_⟩
  refine ⟨fun h => ?_, fun h => ?_⟩
  · have h0 : lo = hi := by simpa using h
    subst h0
    refine Ex.cons ?_; refine Sx.ret ?_; refine Ev.list ?_; refine Ars.nil ?_
    refine ⟨by decide, _, .nums [], ?_⟩
    refine Nx.ret ?_; refine Nx.ret ?_; refine Done.ret ?_
    have e : out T (lo - 1) (lo - 1) = T := by unfold out; rw [List.take_append_drop]
    refine hC x [] (by rw [e]; exact t) ?_ rfl (fun _ => ?_) (.refl x)
    · by_cases q : lo < x.p
      · rw [if_pos q]; (clear h0 h1 h2 h3 hn p0 p1 z rx hlo hhi; omega)
      · rw [if_neg q]
    · by_cases q : lo < x.mp
      · rw [if_pos q]; (clear h0 h1 h2 h3 hn p0 p1 z rx hlo hhi q; omega)
      · rw [if_neg q, if_neg q]
  · have hne : lo ≠ hi := by simpa using h
    refine Ex.nil ?_; refine Nx.next ?_; refine Ex.cons ?_; refine Sx.expr ?_ (fun _ => rfl); refine Ev.callG 62 (by kernel_rfl) (by kernel_rfl) hs rfl (by kernel_rfl) ?_ (fun _ => rfl) (fun _ => rfl) (fun _ => rfl); refine Ars.more ?_ (fun _ => rfl); refine Ev.name (memI 2 rfl) ?_; refine Ars.more ?_ (fun _ => rfl); refine Ev.name (memI 1 rfl) ?_; refine Ars.more ?_ (fun _ => rfl); refine Ev.name (memI 0 rfl) ?_; refine Ars.nil ?_; refine ⟨Or.inl rfl, ?_⟩; refine ⟨Or.inl rfl, ?_⟩; refine ⟨Or.inl rfl, ?_⟩
    refine FS.mono (by (clear h0 h1 h2 h3 p0 p1 z rx hlo hhi hne; omega)) (tell_ahead_spec ?_)
    refine Nx.next ?_; refine Ex.cons ?_; refine Sx.assignNew hs rfl (by kernel_rfl) rfl ?_ (fun _ => rfl); refine Ev.callG 76 (by kernel_rfl) (by kernel_rfl) hs rfl (by kernel_rfl) ?_ (fun _ => rfl) (fun _ => rfl) (fun _ => rfl); refine Ars.more ?_ (fun _ => rfl); refine Ev.name (memI 2 rfl) ?_; refine Ars.more ?_ (fun _ => rfl); refine Ev.name (memI 1 rfl) ?_; refine Ars.more ?_ (fun _ => rfl); refine Ev.name (memI 0 rfl) ?_; refine Ars.nil ?_; refine ⟨Or.inl rfl, ?_⟩; refine ⟨Or.inl rfl, ?_⟩; refine ⟨Or.inl rfl, ?_⟩
    refine FS.mono (by (clear h0 h1 h2 h3 p0 p1 z rx hlo hhi hne; omega)) (text_out_spec t.toTxt (by (clear h1 h3 hn p0 p1 z rx hhi hne; omega)) (by (clear h0 h1 h2 h3 hn p0 p1 z rx hne; omega)) (by (clear h0 h2 hn p0 p1 rx hlo hne; omega)) fun cells gs ge t2 => ?_)
    refine ⟨rfl, ?_⟩; refine Nx.next ?_; refine Ex.cons ?_; refine Sx.expr ?_ (fun _ => rfl); refine' Ev.methG ?_ (fun _ => rfl) (fun _ => rfl) (fun _ => rfl); refine Ev.attr ?_ (fun _ => rfl); refine Ev.name (memI 3 rfl) ?_; refine Get.buf_markers ?_; refine Mth.marks 365 (by kernel_rfl) (by kernel_rfl) (by kernel_rfl) ?_; refine Ars.more ?_ (fun _ => rfl); refine Ev.name (memI 2 rfl) ?_; refine Ars.more ?_ (fun _ => rfl); refine Ev.name (memI 1 rfl) ?_; refine Ars.nil ?_; refine ⟨Or.inl rfl, ?_⟩; refine ⟨Or.inl rfl, ?_⟩
    refine FS.mono (by (clear h0 h1 h2 h3 p0 p1 z rx hlo hhi hne; omega)) (deleted_spec (by dsimp only; exact rx) ?_)
    refine Nx.next ?_; refine Ex.cons ?_; refine Sx.expr ?_ (fun _ => rfl); refine Ev.callG 90 (by kernel_rfl) (by kernel_rfl) hs rfl (by kernel_rfl) ?_ (fun _ => rfl) (fun _ => rfl) (fun _ => rfl); refine Ars.more ?_ (fun _ => rfl); refine Ev.name (memI 3 rfl) ?_; refine Ars.more ?_ (fun _ => rfl); refine Ev.name (memI 2 rfl) ?_; refine Ars.more ?_ (fun _ => rfl); refine Ev.name (memI 1 rfl) ?_; refine Ars.nil ?_; refine ⟨Or.inl rfl, ?_⟩; refine ⟨Or.inl rfl, ?_⟩; refine ⟨Or.inl rfl, ?_⟩
    refine FS.mono (by (clear h0 h1 h2 h3 p0 p1 z rx hlo hhi hne; omega)) (hung_out_spec ?_)
    refine Nx.next ?_; refine Ex.cons ?_; refine Sx.expr ?_ (fun _ => rfl); refine Ev.callG 69 (by kernel_rfl) (by kernel_rfl) hs rfl (by kernel_rfl) ?_ (fun _ => rfl) (fun _ => rfl) (fun _ => rfl); refine Ars.more ?_ (fun _ => rfl); refine Ev.name (memI 3 rfl) ?_; refine Ars.more ?_ (fun _ => rfl); refine Ev.name (memI 2 rfl) ?_; refine Ars.more ?_ (fun _ => rfl); refine Ev.name (memI 2 rfl) ?_; refine Ars.more ?_ (fun _ => rfl); refine Ev.bin ?_; refine Ev.name (memI 1 rfl) ?_; refine ⟨rfl, ?_⟩; refine Ev.name (memI 2 rfl) ?_; refine Bin.sub ?_; refine Ars.nil ?_; refine ⟨Or.inl rfl, ?_⟩; refine ⟨Or.inl rfl, ?_⟩; refine ⟨Or.inl rfl, ?_⟩; refine ⟨Or.inl rfl, ?_⟩
    refine FS.mono (by (clear h0 h1 h2 h3 p0 p1 z rx hlo hhi hne; omega)) (tell_behind_spec ?_)
    refine Nx.next ?_; refine Ex.cons ?_; refine Sx.ret ?_; refine Ev.name (memI 0 rfl) ?_; refine Nx.ret ?_; refine Done.ret ?_
    have pl := out_len (T := T) (i := lo - 1) (j := hi - 1) (by (clear h1 h3 hn p0 p1 z rx hhi hne; omega)) (by (clear h0 h1 h2 h3 hn p0 p1 z rx hne; omega)) (by (clear h0 h2 hn p0 p1 rx hlo hne; omega))
    refine hC _ _ ⟨⟨t2.g0, t2.g1, t2.g2, t2.sz, t2.tx⟩, ⟨t.r, t.m, t.b⟩, by dsimp only; (clear h0 h1 h2 h3 hn p0 p1 rx hlo hhi hne; omega), by dsimp only; split <;> omega, by dsimp only; split <;> omega⟩ rfl rfl (fun hm => ?_) ⟨rfl, rfl, rfl, rfl, rfl, rfl, rfl⟩
    dsimp only
    rw [t.r, hm, if_pos rfl]
end
section
variable {ad dad : Role → Addr} {x : AS} {T : List Int} {C : SV → Wd → Prop}
theorem Txt.cast {y : AS} (t : Txt x T) (h1 : y.cells = x.cells) (h2 : y.gs = x.gs) (h3 : y.ge = x.ge) : Txt y T :=
  ⟨by rw [h2]; exact t.g0, by rw [h2, h3]; exact t.g1, by rw [h3, h1]; exact t.g2, by rw [h1]; exact t.sz, by rw [h1, h2, h3]; exact t.tx⟩
theorem set_marker_spec (t : Txt x T) {i : Int} (hx : x.mx = true) (h0 : 1 ≤ i) (h1 : i ≤ T.length + 1) (hC : C .none (wd ad dad { x with mb := true, rw := true, mp := i })) : FS 3 (.ref 386) [.role .mark, .role .buf, .int i] (wd ad dad x) C := by
  refine FS.enter (n := 2) (q := "set_marker") (ds := []) (fun K k => k.f386) [(Str.ofString "marker", .role .mark), (Str.ofString "buffer", .role .buf), (Str.ofString "place", .int i)] [] [] rfl ?hb (fun _ _ _ => .nil) (by rfl) (by kernel_rfl) ?H
  case hb => intro dV doc pm ct an s vs hl hd; subst hd; obtain ⟨a, b, c, e0⟩ := len3 hl; subst e0; exact BindsTo.of_eq rfl
  intro c hn hs
  have e1 : (if T.length + 1 < (if i < 1 then 1 else i) then (T.length + 1 : Int) else (if i < 1 then 1 else i)) = i := by rw [if_neg (show ¬ i < 1 by (clear h1 hn; omega)), if_neg (by (clear h0 hn; omega))]
  cases hb : x.mb with
  | false =>
    refine Ex.cons ?_; refine Sx.if_ ?_; refine Is.and ?_; refine TB.and ?_; refine Is.cmp ?_ rfl; refine Ev.attr ?_ (fun _ => rfl); refine Ev.name (memI 0 rfl) ?_; refine Get.mark_buffer0 (by assumption) (by assumption) ?_; refine ⟨rfl, ?_⟩; refine Ev.none ?_; refine Cmp.notN0 ?_; refine ⟨_, rfl, ?_⟩; refine ⟨?_, (by intro z; cases z)⟩; intro _; refine ⟨(by intro z; cases z), ?_⟩; intro _; refine Ex.nil ?_; refine Nx.next ?_; refine Ex.cons ?_; refine Sx.setattr ?_ (fun _ => rfl); refine Ev.name (memI 1 rfl) ?_; refine ⟨rfl, ?_⟩; refine Ev.name (memI 0 rfl) ?_; refine SetA.mark_buffer (by assumption) ?_; (try dsimp only); refine Nx.next ?_; refine Ex.cons ?_; refine Sx.if_ ?_; refine Is.cmp ?_ rfl; refine Ev.name (memI 1 rfl) ?_; refine ⟨rfl, ?_⟩; refine Ev.none ?_; refine Cmp.isNrole ?_; refine ⟨_, rfl, ?_⟩; refine ⟨(by intro z; cases z), ?_⟩; intro _; refine Ex.cons ?_; refine Sx.expr ?_ (fun _ => rfl); refine' Ev.methG ?_ (fun _ => rfl) (fun _ => rfl) (fun _ => rfl); refine Ev.attr ?_ (fun _ => rfl); refine Ev.name (memI 1 rfl) ?_; refine Get.buf_markers ?_; refine Mth.marks 337 (by kernel_rfl) (by kernel_rfl) (by kernel_rfl) ?_; refine Ars.more ?_ (fun _ => rfl); refine Ev.name (memI 0 rfl) ?_; refine Ars.more ?_ (fun _ => rfl); refine Ev.bcall "min" (by kernel_rfl) boot_min hs rfl (by kernel_rfl) (by decide) ?_ (fun _ => rfl) (fun _ => rfl) (fun _ => rfl); refine Ars.more ?_ (fun _ => rfl); refine Ev.bcall "max" (by kernel_rfl) boot_max hs rfl (by kernel_rfl) (by decide) ?_ (fun _ => rfl) (fun _ => rfl) (fun _ => rfl); refine Ars.more ?_ (fun _ => rfl); refine Ev.name (memI 2 rfl) ?_; refine Ars.more ?_ (fun _ => rfl); refine Ev.int ?_; refine Ars.nil ?_; refine ⟨Or.inl rfl, ?_⟩; refine ⟨Or.inl rfl, ?_⟩; refine BC.max ?_; refine Ars.more ?_ (fun _ => rfl); refine Ev.bin ?_; refine' Ev.meth0G ?_ (fun _ => rfl); refine Ev.name (memI 1 rfl) ?_; refine Mth.buf 640 (by kernel_rfl) (by kernel_rfl) (by kernel_rfl) ?_
    refine FS.mono (by (clear h0 h1 e1; omega)) (buf_size_spec (t.cast rfl rfl rfl) ?_)
    refine ⟨rfl, ?_⟩; refine Ev.int ?_; refine Bin.add ?_; refine Ars.nil ?_; refine ⟨Or.inl rfl, ?_⟩; refine ⟨Or.inl rfl, ?_⟩; refine BC.min ?_; refine Ars.nil ?_; refine ⟨Or.inl rfl, ?_⟩; refine ⟨Or.inl rfl, ?_⟩
    rw [e1]
    refine FS.mono (by (clear h0 h1 e1; omega)) (mput_spec hx ?_)
    refine Nx.next ?_; refine Ex.nil ?_; refine Nx.next ?_; refine Ex.nil ?_; refine Done.next ?_
    exact hC
  | true =>
    refine Ex.cons ?_; refine Sx.if_ ?_; refine Is.and ?_; refine TB.and ?_; refine Is.cmp ?_ rfl; refine Ev.attr ?_ (fun _ => rfl); refine Ev.name (memI 0 rfl) ?_; refine Get.mark_buffer1 (by assumption) (by assumption) ?_; refine ⟨rfl, ?_⟩; refine Ev.none ?_; refine Cmp.notNrole ?_; refine ⟨_, rfl, ?_⟩; refine ⟨(by intro z; cases z), ?_⟩; intro _; refine TB.and ?_; refine Is.cmp ?_ rfl; refine Ev.attr ?_ (fun _ => rfl); refine Ev.name (memI 0 rfl) ?_; refine Get.mark_buffer1 (by assumption) (by assumption) ?_; refine ⟨rfl, ?_⟩; refine Ev.name (memI 1 rfl) ?_; refine Cmp.notSame ?_; refine ⟨_, rfl, ?_⟩; refine ⟨?_, (by intro z; cases z)⟩; intro _; refine ⟨(by intro z; cases z), ?_⟩; intro _; refine Ex.nil ?_; refine Nx.next ?_; refine Ex.cons ?_; refine Sx.setattr ?_ (fun _ => rfl); refine Ev.name (memI 1 rfl) ?_; refine ⟨rfl, ?_⟩; refine Ev.name (memI 0 rfl) ?_; refine SetA.mark_buffer (by assumption) ?_; (try dsimp only); refine Nx.next ?_; refine Ex.cons ?_; refine Sx.if_ ?_; refine Is.cmp ?_ rfl; refine Ev.name (memI 1 rfl) ?_; refine ⟨rfl, ?_⟩; refine Ev.none ?_; refine Cmp.isNrole ?_; refine ⟨_, rfl, ?_⟩; refine ⟨(by intro z; cases z), ?_⟩; intro _; refine Ex.cons ?_; refine Sx.expr ?_ (fun _ => rfl); refine' Ev.methG ?_ (fun _ => rfl) (fun _ => rfl) (fun _ => rfl); refine Ev.attr ?_ (fun _ => rfl); refine Ev.name (memI 1 rfl) ?_; refine Get.buf_markers ?_; refine Mth.marks 337 (by kernel_rfl) (by kernel_rfl) (by kernel_rfl) ?_; refine Ars.more ?_ (fun _ => rfl); refine Ev.name (memI 0 rfl) ?_; refine Ars.more ?_ (fun _ => rfl); refine Ev.bcall "min" (by kernel_rfl) boot_min hs rfl (by kernel_rfl) (by decide) ?_ (fun _ => rfl) (fun _ => rfl) (fun _ => rfl); refine Ars.more ?_ (fun _ => rfl); refine Ev.bcall "max" (by kernel_rfl) boot_max hs rfl (by kernel_rfl) (by decide) ?_ (fun _ => rfl) (fun _ => rfl) (fun _ => rfl); refine Ars.more ?_ (fun _ => rfl); refine Ev.name (memI 2 rfl) ?_; refine Ars.more ?_ (fun _ => rfl); refine Ev.int ?_; refine Ars.nil ?_; refine ⟨Or.inl rfl, ?_⟩; refine ⟨Or.inl rfl, ?_⟩; refine BC.max ?_; refine Ars.more ?_ (fun _ => rfl); refine Ev.bin ?_; refine' Ev.meth0G ?_ (fun _ => rfl); refine Ev.name (memI 1 rfl) ?_; refine Mth.buf 640 (by kernel_rfl) (by kernel_rfl) (by kernel_rfl) ?_
    refine FS.mono (by (clear h0 h1 e1; omega)) (buf_size_spec (t.cast rfl rfl rfl) ?_)
    refine ⟨rfl, ?_⟩; refine Ev.int ?_; refine Bin.add ?_; refine Ars.nil ?_; refine ⟨Or.inl rfl, ?_⟩; refine ⟨Or.inl rfl, ?_⟩; refine BC.min ?_; refine Ars.nil ?_; refine ⟨Or.inl rfl, ?_⟩; refine ⟨Or.inl rfl, ?_⟩
    rw [e1]
    refine FS.mono (by (clear h0 h1 e1; omega)) (mput_spec hx ?_)
    refine Nx.next ?_; refine Ex.nil ?_; refine Nx.next ?_; refine Ex.nil ?_; refine Done.next ?_
    exact hC
theorem marker_init_spec {W : Wd} (hC : C .none (W.put .mark (.inst 307 [(Str.ofString "number", .int 0), (Str.ofString "advances", .bool false), (Str.ofString "buffer", .none), (Str.ofString "position", .int 0)]))) : FS 1 (.ref 283) [.role .mark, .int 0, .bool false] (W.put .mark (.inst 307 [])) C := by
  refine FS.enter (n := 0) (q := "Marker.__init__") (ds := []) (fun K k => k.f283) [(Str.ofString "self", .role .mark), (Str.ofString "number", .int 0), (Str.ofString "advances", .bool false)] [] [] rfl ?hb (fun _ _ _ => .nil) (by rfl) (by kernel_rfl) ?H
  case hb => intro dV doc pm ct an s vs hl hd; subst hd; obtain ⟨a, b, c, e0⟩ := len3 hl; subst e0; exact BindsTo.of_eq rfl
  intro c hn hs
  refine Ex.cons ?_; refine Sx.setattr ?_ (fun _ => rfl); refine Ev.name (memI 1 rfl) ?_; refine ⟨rfl, ?_⟩; refine Ev.name (memI 0 rfl) ?_
  refine SetA.put (A' := [(Str.ofString "number", .int 0)]) rfl (by kernel_rfl) (by simp) (by kernel_rfl) ?_
  refine Nx.next ?_; refine Ex.cons ?_; refine Sx.setattr ?_ (fun _ => rfl); refine Ev.name (memI 2 rfl) ?_; refine ⟨rfl, ?_⟩; refine Ev.name (memI 0 rfl) ?_
  refine SetA.put (A' := [(Str.ofString "number", .int 0), (Str.ofString "advances", .bool false)]) rfl (by kernel_rfl) (by simp) (by kernel_rfl) ?_
  refine Nx.next ?_; refine Ex.cons ?_; refine Sx.setattr ?_ (fun _ => rfl); refine Ev.none ?_; refine ⟨rfl, ?_⟩; refine Ev.name (memI 0 rfl) ?_
  refine SetA.put (A' := [(Str.ofString "number", .int 0), (Str.ofString "advances", .bool false), (Str.ofString "buffer", .none)]) rfl (by kernel_rfl) (by simp) (by kernel_rfl) ?_
  refine Nx.next ?_; refine Ex.cons ?_; refine Sx.setattr ?_ (fun _ => rfl); refine Ev.int ?_; refine ⟨rfl, ?_⟩; refine Ev.name (memI 0 rfl) ?_
  refine SetA.put (A' := [(Str.ofString "number", .int 0), (Str.ofString "advances", .bool false), (Str.ofString "buffer", .none), (Str.ofString "position", .int 0)]) rfl (by kernel_rfl) (by simp) (by kernel_rfl) ?_
  refine Nx.next ?_; refine Ex.nil ?_; refine Done.next ?_
  exact hC
theorem set_mark_spec (t : Txt x T) (k : Mk x) {i : Int} (h0 : 1 ≤ i) (h1 : i ≤ T.length + 1) (hC : ∀ ad dad, C .none (wd ad dad { x with bm := true, mx := true, mb := true, rw := true, mp := i })) : FS 4 (.ref 414) [.role .buf, .int i] (wd ad dad x) C := by
  refine FS.enter (n := 3) (q := "set_mark") (ds := []) (fun K k => k.f414) [(Str.ofString "buffer", .role .buf), (Str.ofString "place", .int i)] [] [] rfl ?hb (fun _ _ _ => .nil) (by rfl) (by kernel_rfl) ?H
  case hb => intro dV doc pm ct an s vs hl hd; subst hd; obtain ⟨a, b, e0⟩ := len2 hl; subst e0; exact BindsTo.of_eq rfl
  intro c hn hs
  have kr := k.r
  have km := k.m
  have kb := k.b
  cases hm : x.mx with
  | true =>
    rw [hm] at kr km kb
    refine Ex.cons ?_; refine Sx.if_ ?_; refine Is.cmp ?_ rfl; refine Ev.attr ?_ (fun _ => rfl); refine Ev.name (memI 0 rfl) ?_; refine Get.buf_mark1 (by assumption) ?_; refine ⟨rfl, ?_⟩; refine Ev.none ?_; refine Cmp.isNrole ?_; refine ⟨_, rfl, ?_⟩; refine ⟨(by intro z; cases z), ?_⟩; intro _; refine Ex.nil ?_; refine Nx.next ?_; refine Ex.cons ?_; refine Sx.expr ?_ (fun _ => rfl); refine Ev.callG 386 (by kernel_rfl) (by kernel_rfl) hs rfl (by kernel_rfl) ?_ (fun _ => rfl) (fun _ => rfl) (fun _ => rfl); refine Ars.more ?_ (fun _ => rfl); refine Ev.attr ?_ (fun _ => rfl); refine Ev.name (memI 0 rfl) ?_; refine Get.buf_mark1 (by assumption) ?_; refine Ars.more ?_ (fun _ => rfl); refine Ev.name (memI 0 rfl) ?_; refine Ars.more ?_ (fun _ => rfl); refine Ev.name (memI 1 rfl) ?_; refine Ars.nil ?_; refine ⟨Or.inl rfl, ?_⟩; refine ⟨Or.inl rfl, ?_⟩; refine ⟨Or.inl rfl, ?_⟩
    refine FS.mono (by (clear h0 h1; omega)) (set_marker_spec t hm h0 h1 ?_)
    refine Nx.next ?_; refine Ex.nil ?_; refine Done.next ?_
    rw [show x.bm = true from km, hm]
    exact hC _ _
  | false =>
    rw [hm] at kr km kb
    refine Ex.cons ?_; refine Sx.if_ ?_; refine Is.cmp ?_ rfl; refine Ev.attr ?_ (fun _ => rfl); refine Ev.name (memI 0 rfl) ?_; refine Get.buf_mark0 (by assumption) ?_; refine ⟨rfl, ?_⟩; refine Ev.none ?_; refine Cmp.isN0 ?_; refine ⟨_, rfl, ?_⟩; refine ⟨?_, (by intro z; cases z)⟩; intro _; refine Ex.cons ?_; refine Sx.setattr ?_ (fun _ => rfl)
    refine Ev.new (c.n - 1) .mark 307 283 (by kernel_rfl) (by kernel_rfl) rfl (by kernel_rfl) hs rfl (by kernel_rfl) (by (clear h0 h1; omega)) (by intro z; cases z) ?_ (fun _ => rfl) (fun _ => rfl) (fun _ => rfl)
    refine Ars.more ?_ (fun _ => rfl); refine Ev.own hs rfl ?_; refine Ars.more ?_ (fun _ => rfl); refine Ev.bool ?_; refine Ars.nil ?_; refine ⟨Or.inl rfl, ?_⟩; refine ⟨Or.inl rfl, ?_⟩
    refine ⟨by show obOf x .mark = _; unfold obOf; rw [hm]; rfl, fun a d => ?_⟩
    rw [← Wd.born_put _ .mark a d (.inst 307 []) (.inst 307 [])]
    refine FS.mono (by (clear h0 h1; omega)) (marker_init_spec ⟨rfl, ?_⟩)
    rw [Wd.born_put, wd_born (r := .mark) (so := .inst 307 [(Str.ofString "number", .int 0), (Str.ofString "advances", .bool false), (Str.ofString "buffer", .none), (Str.ofString "position", .int 0)]) (x' := { x with mx := true, mb := false, mp := 0 }) rfl (fun r' e => by cases r' <;> first | rfl | exact absurd rfl e)]
    refine ⟨rfl, ?_⟩; refine Ev.name (memI 0 rfl) ?_; refine SetA.buf_mark ?_; (try dsimp only); refine Nx.next ?_; refine Ex.nil ?_; refine Nx.next ?_; refine Ex.cons ?_; refine Sx.expr ?_ (fun _ => rfl); refine Ev.callG 386 (by kernel_rfl) (by kernel_rfl) hs rfl (by kernel_rfl) ?_ (fun _ => rfl) (fun _ => rfl) (fun _ => rfl); refine Ars.more ?_ (fun _ => rfl); refine Ev.attr ?_ (fun _ => rfl); refine Ev.name (memI 0 rfl) ?_; refine Get.buf_mark1 (by assumption) ?_; refine Ars.more ?_ (fun _ => rfl); refine Ev.name (memI 0 rfl) ?_; refine Ars.more ?_ (fun _ => rfl); refine Ev.name (memI 1 rfl) ?_; refine Ars.nil ?_; refine ⟨Or.inl rfl, ?_⟩; refine ⟨Or.inl rfl, ?_⟩; refine ⟨Or.inl rfl, ?_⟩
    refine FS.mono (k := 3) (by (clear h0 h1; omega)) ?_
    refine set_marker_spec ?t1 ?t2 h0 h1 ?_
    case t1 => exact t.cast rfl rfl rfl
    case t2 => rfl
    refine Nx.next ?_; refine Ex.nil ?_; refine Done.next ?_
    exact hC _ _
theorem has_mark_spec (k : Mk x) (hC : C (.bool x.mx) (wd ad dad x)) : FS 1 (.ref 421) [.role .buf] (wd ad dad x) C := by
  refine FS.enter (n := 0) (q := "has_mark") (ds := []) (fun K k => k.f421) [(Str.ofString "buffer", .role .buf)] [] [] rfl ?hb (fun _ _ _ => .nil) (by rfl) (by kernel_rfl) ?H
  case hb => intro dV doc pm ct an s vs hl hd; subst hd; obtain ⟨a, e0⟩ := len1 hl; subst e0; exact BindsTo.of_eq rfl
  intro c hn hs
  have km := k.m
  have kb := k.b
  cases hm : x.mx with
  | true =>
    rw [hm] at km kb hC
    refine Ex.cons ?_; refine Sx.ret ?_; refine Ev.and ?_; refine Ev.cmp ?_ rfl; refine Ev.attr ?_ (fun _ => rfl); refine Ev.name (memI 0 rfl) ?_; refine Get.buf_mark1 (by assumption) ?_; refine ⟨rfl, ?_⟩; refine Ev.none ?_; refine Cmp.notNrole ?_; refine ⟨_, rfl, ?_⟩; refine ⟨(by intro z; cases z), ?_⟩; intro _; refine Ev.and1 ?_; refine Ev.cmp ?_ rfl; refine Ev.attr ?_ (fun _ => rfl); refine Ev.attr ?_ (fun _ => rfl); refine Ev.name (memI 0 rfl) ?_; refine Get.buf_mark1 (by assumption) ?_; refine Get.mark_buffer1 (by assumption) (by assumption) ?_; refine ⟨rfl, ?_⟩; refine Ev.none ?_; refine Cmp.notNrole ?_; refine Nx.ret ?_; refine Done.ret ?_
    exact hC
  | false =>
    rw [hm] at km kb hC
    refine Ex.cons ?_; refine Sx.ret ?_; refine Ev.and ?_; refine Ev.cmp ?_ rfl; refine Ev.attr ?_ (fun _ => rfl); refine Ev.name (memI 0 rfl) ?_; refine Get.buf_mark0 (by assumption) ?_; refine ⟨rfl, ?_⟩; refine Ev.none ?_; refine Cmp.notN0 ?_; refine ⟨_, rfl, ?_⟩; refine ⟨?_, (by intro z; cases z)⟩; intro _; refine Nx.ret ?_; refine Done.ret ?_
    exact hC
theorem mark_place_spec (k : Mk x) (hm : x.mx = true) (hC : C (.int x.mp) (wd ad dad x)) : FS 2 (.ref 428) [.role .buf] (wd ad dad x) C := by
  refine FS.enter (n := 1) (q := "mark_place") (ds := []) (fun K k => k.f428) [(Str.ofString "buffer", .role .buf)] [] [] rfl ?hb (fun _ _ _ => .nil) (by rfl) (by kernel_rfl) ?H
  case hb => intro dV doc pm ct an s vs hl hd; subst hd; obtain ⟨a, e0⟩ := len1 hl; subst e0; exact BindsTo.of_eq rfl
  intro c hn hs
  have km := k.m
  rw [hm] at km
  refine Ex.cons ?_; refine Sx.if_ ?_; refine Is.not ?_; refine Is.plain ?_ (fun _ _ => rfl); refine Ev.callG 421 (by kernel_rfl) (by kernel_rfl) hs rfl (by kernel_rfl) ?_ (fun _ => rfl) (fun _ => rfl) (fun _ => rfl); refine Ars.more ?_ (fun _ => rfl); refine Ev.name (memI 0 rfl) ?_; refine Ars.nil ?_; refine ⟨Or.inl rfl, ?_⟩
  refine FS.mono (by omega) (has_mark_spec k ?_)
  rw [hm]
  refine ⟨_, rfl, ?_⟩; refine ⟨(by intro z; cases z), ?_⟩; intro _; refine Ex.nil ?_; refine Nx.next ?_; refine Ex.cons ?_; refine Sx.ret ?_; refine Ev.attr ?_ (fun _ => rfl); refine Ev.attr ?_ (fun _ => rfl); refine Ev.name (memI 0 rfl) ?_; refine Get.buf_mark1 (by assumption) ?_; refine Get.mark_position (by assumption) ?_; refine Nx.ret ?_; refine Done.ret ?_
  exact hC
theorem swap_spec (t : Bf x T) (hm : x.mx = true) (h0 : 1 ≤ x.mp) (h1 : x.mp ≤ x.zv) (hC : ∀ ad dad, C .none (wd ad dad { x with bm := true, mx := true, mb := true, rw := true, mp := x.p, p := x.mp })) : FS 5 (.ref 485) [.role .buf] (wd ad dad x) C := by
  refine FS.enter (n := 4) (q := "swap_point_and_mark") (ds := []) (fun K k => k.f485) [(Str.ofString "buffer", .role .buf)] [] [] rfl ?hb (fun _ _ _ => .nil) (by rfl) (by kernel_rfl) ?H
  case hb => intro dV doc pm ct an s vs hl hd; subst hd; obtain ⟨a, e0⟩ := len1 hl; subst e0; exact BindsTo.of_eq rfl
  intro c hn hs
  have z := t.z
  have p0 := t.p0
  have p1 := t.p1
  refine Ex.cons ?_; refine Sx.assignNew hs rfl (by kernel_rfl) rfl ?_ (fun _ => rfl); refine Ev.callG 428 (by kernel_rfl) (by kernel_rfl) hs rfl (by kernel_rfl) ?_ (fun _ => rfl) (fun _ => rfl) (fun _ => rfl); refine Ars.more ?_ (fun _ => rfl); refine Ev.name (memI 0 rfl) ?_; refine Ars.nil ?_; refine ⟨Or.inl rfl, ?_⟩
  refine FS.mono (by (clear h0 h1 z p0 p1; omega)) (mark_place_spec t.toMk hm ?_)
  refine ⟨rfl, ?_⟩; refine Nx.next ?_; refine Ex.cons ?_; refine Sx.expr ?_ (fun _ => rfl); refine Ev.callG 414 (by kernel_rfl) (by kernel_rfl) hs rfl (by kernel_rfl) ?_ (fun _ => rfl) (fun _ => rfl) (fun _ => rfl); refine Ars.more ?_ (fun _ => rfl); refine Ev.name (memI 1 rfl) ?_; refine Ars.more ?_ (fun _ => rfl); refine Ev.attr ?_ (fun _ => rfl); refine Ev.name (memI 1 rfl) ?_; refine Get.buf_point ?_; refine Ars.nil ?_; refine ⟨Or.inl rfl, ?_⟩; refine ⟨Or.inl rfl, ?_⟩
  refine FS.mono (by (clear h0 h1 z p0 p1; omega)) (set_mark_spec t.toTxt t.toMk p0 (by (clear h0 h1 hn p0; omega)) fun ad dad => ?_)
  refine Nx.next ?_; refine Ex.cons ?_; refine Sx.expr ?_ (fun _ => rfl); refine' Ev.methG ?_ (fun _ => rfl) (fun _ => rfl) (fun _ => rfl); refine Ev.name (memI 1 rfl) ?_; refine Mth.buf 661 (by kernel_rfl) (by kernel_rfl) (by kernel_rfl) ?_; refine Ars.more ?_ (fun _ => rfl); refine Ev.name (memI 0 rfl) ?_; refine Ars.nil ?_; refine ⟨Or.inl rfl, ?_⟩
  refine FS.mono (by (clear h0 h1 z p0 p1; omega)) (goto_spec h0 h1 ?_)
  refine Nx.next ?_; refine Ex.nil ?_; refine Done.next ?_
  exact hC _ _
theorem push_mark_spec (t : Txt x T) (k : Mk x) (hm : x.mx = false) {i : Int} (h0 : 1 ≤ i) (h1 : i ≤ T.length + 1) (hC : ∀ ad dad, C .none (wd ad dad { x with bm := true, mx := true, mb := true, rw := true, mp := i })) : FS 5 (.ref 442) [.role .mrk, .role .buf, .int i] (wd ad dad x) C := by
  refine FS.enter (n := 4) (q := "push_mark") (ds := []) (fun K k => k.f442) [(Str.ofString "ring", .role .mrk), (Str.ofString "buffer", .role .buf), (Str.ofString "place", .int i)] [] [] rfl ?hb (fun _ _ _ => .nil) (by rfl) (by kernel_rfl) ?H
  case hb => intro dV doc pm ct an s vs hl hd; subst hd; obtain ⟨a, b, c, e0⟩ := len3 hl; subst e0; exact BindsTo.of_eq rfl
  intro c hn hs
  refine Ex.cons ?_; refine Sx.if_ ?_; refine Is.plain ?_ (fun _ _ => rfl); refine Ev.callG 421 (by kernel_rfl) (by kernel_rfl) hs rfl (by kernel_rfl) ?_ (fun _ => rfl) (fun _ => rfl) (fun _ => rfl); refine Ars.more ?_ (fun _ => rfl); refine Ev.name (memI 1 rfl) ?_; refine Ars.nil ?_; refine ⟨Or.inl rfl, ?_⟩
  refine FS.mono (by (clear h0 h1; omega)) (has_mark_spec k ?_)
  rw [hm]
  refine ⟨_, rfl, ?_⟩; refine ⟨(by intro z; cases z), ?_⟩; intro _; refine Ex.nil ?_; refine Nx.next ?_; refine Ex.cons ?_; refine Sx.expr ?_ (fun _ => rfl); refine Ev.callG 414 (by kernel_rfl) (by kernel_rfl) hs rfl (by kernel_rfl) ?_ (fun _ => rfl) (fun _ => rfl) (fun _ => rfl); refine Ars.more ?_ (fun _ => rfl); refine Ev.name (memI 1 rfl) ?_; refine Ars.more ?_ (fun _ => rfl); refine Ev.name (memI 2 rfl) ?_; refine Ars.nil ?_; refine ⟨Or.inl rfl, ?_⟩; refine ⟨Or.inl rfl, ?_⟩
  refine FS.mono (by (clear h0 h1; omega)) (set_mark_spec t k h0 h1 fun ad dad => ?_)
  refine Nx.next ?_; refine Ex.nil ?_; refine Done.next ?_
  exact hC _ _
end
section
variable {ad dad : Role → Addr} {x : AS} {T : List Int} {C : SV → Wd → Prop}
theorem piece_init_spec {W : Wd} {ns : List Int} (hC : C .none (W.put .tmp (.inst 164 [(Str.ofString "codes", .lst ns), (Str.ofString "runs", .lst [])]))) : FS 1 (.ref 161) [.role .tmp, .lst ns, .lst []] (W.put .tmp (.inst 164 [])) C := by
  refine FS.enter (n := 0) (q := "Piece.__init__") (ds := []) (fun K k => k.f161) [(Str.ofString "self", .role .tmp), (Str.ofString "codes", .lst ns), (Str.ofString "runs", .lst [])] [] [] rfl ?hb (fun _ _ _ => .nil) (by rfl) (by kernel_rfl) ?H
  case hb => intro dV doc pm ct an s vs hl hd; subst hd; obtain ⟨a, b, c, e0⟩ := len3 hl; subst e0; exact BindsTo.of_eq rfl
  intro c hn hs
  refine Ex.cons ?_; refine Sx.setattr ?_ (fun _ => rfl); refine Ev.name (memI 1 rfl) ?_; refine ⟨rfl, ?_⟩; refine Ev.name (memI 0 rfl) ?_
  refine SetA.put (A' := [(Str.ofString "codes", .lst ns)]) rfl (by kernel_rfl) (by simp) (by kernel_rfl) ?_
  refine Nx.next ?_; refine Ex.cons ?_; refine Sx.setattr ?_ (fun _ => rfl); refine Ev.name (memI 2 rfl) ?_; refine ⟨rfl, ?_⟩; refine Ev.name (memI 0 rfl) ?_
  refine SetA.put (A' := [(Str.ofString "codes", .lst ns), (Str.ofString "runs", .lst [])]) rfl (by kernel_rfl) (by simp) (by kernel_rfl) ?_
  refine Nx.next ?_; refine Ex.nil ?_; refine Done.next ?_
  exact hC
theorem tidy0_spec {W : Wd} (hC : C (.lst []) W) : FS 1 (.ref 175) [.lst []] W C := by
  refine FS.enter (n := 0) (q := "tidy_runs") (ds := []) (fun K k => k.f175) [(Str.ofString "runs", .lst [])] [] [] rfl ?hb (fun _ _ _ => .nil) (by rfl) (by kernel_rfl) ?H
  case hb => intro dV doc pm ct an s vs hl hd; subst hd; obtain ⟨a, e0⟩ := len1 hl; subst e0; exact BindsTo.of_eq rfl
  intro c hn hs
  refine Ex.cons ?_; refine Sx.assignNew hs rfl (by kernel_rfl) rfl ?_ (fun _ => rfl); refine Ev.list ?_; refine Ars.nil ?_
  refine ⟨by decide, _, .nums [], ?_⟩
  refine ⟨rfl, ?_⟩; refine Nx.next ?_; refine Ex.cons ?_
  refine Sx.for0 ?_ (fun _ _ => rfl)
  refine Ev.name (memI 1 rfl) ?_
  refine ⟨Itr.lst0, ?_⟩
  refine Nx.next ?_; refine Ex.cons ?_; refine Sx.ret ?_; refine Ev.name (memI 0 rfl) ?_; refine Nx.ret ?_; refine Done.ret ?_
  exact hC
theorem tidy1_spec {W : Wd} {a b : Int} (hC : C (.lst []) W) : FS 1 (.ref 175) [.trips [(a, b)]] W C := by
  refine FS.enter (n := 0) (q := "tidy_runs") (ds := []) (fun K k => k.f175) [(Str.ofString "runs", .trips [(a, b)])] [] [] rfl ?hb (fun _ _ _ => .nil) (by rfl) (by kernel_rfl) ?H
  case hb => intro dV doc pm ct an s vs hl hd; subst hd; obtain ⟨a, e0⟩ := len1 hl; subst e0; exact BindsTo.of_eq rfl
  intro c hn hs
  refine Ex.cons ?_; refine Sx.assignNew hs rfl (by kernel_rfl) rfl ?_ (fun _ => rfl); refine Ev.list ?_; refine Ars.nil ?_
  refine ⟨by decide, _, .nums [], ?_⟩
  refine ⟨rfl, ?_⟩; refine Nx.next ?_; refine Ex.cons ?_
  refine Sx.for1 (.trip a b) ?_ (fun _ _ => rfl)
  refine Ev.name (memI 1 rfl) ?_
  refine ⟨Itr.trips1, fun c' hn' hs' => ?_⟩
  rw [hs] at hs'
  refine As1.tup .trip (fun _ => rfl) (fun _ => rfl) ?_
  refine Aio.cons (ms := [PySem.assign _ c'.env, PySem.assign _ c'.env]) (svs := [.int b, .lst []]) rfl ?_
  refine As1.nameNew hs' rfl (by kernel_rfl) rfl rfl ?_
  refine Aio.cons (ms := [PySem.assign _ c'.env]) (svs := [.lst []]) rfl ?_
  refine As1.nameNew hs' rfl (by kernel_rfl) rfl rfl ?_
  refine Aio.cons (ms := []) (svs := []) rfl ?_
  refine As1.nameNew hs' rfl (by kernel_rfl) rfl rfl ?_
  refine Aio.nil ?_
  refine Ex.cons ?_; refine Sx.if_ ?_; refine Is.and ?_; refine TB.and ?_; refine Is.cmp ?_ rfl; refine Ev.name (memI 2 rfl) ?_; refine ⟨rfl, ?_⟩; refine Ev.name (memI 1 rfl) ?_; refine Cmp.lt ?_; refine ⟨_, rfl, ?_⟩
  cases hab : decide (a < b) with
  | false =>
    refine ⟨?_, (by intro z; cases z)⟩; intro _; refine ⟨(by intro z; cases z), ?_⟩; intro _; refine Ex.nil ?_; refine Nx.next ?_; refine Ex.nil ?_; refine Lp1.next ?_; refine Nx.next ?_; refine Ex.cons ?_; refine Sx.ret ?_; refine Ev.name (memI 3 rfl) ?_; refine Nx.ret ?_; refine Done.ret ?_
    exact hC
  | true =>
    refine ⟨(by intro z; cases z), ?_⟩; intro _; refine TB.and ?_; refine Is.cmp ?_ rfl; refine Ev.bcall "len" (by kernel_rfl) PySem.boot_len hs' rfl (by kernel_rfl) (by decide) ?_ (fun _ => rfl) (fun _ => rfl) (fun _ => rfl); refine Ars.more ?_ (fun _ => rfl); refine Ev.name (memI 0 rfl) ?_; refine Ars.nil ?_; refine ⟨Or.inl rfl, ?_⟩
    refine BC.len (.nums .lst) ?hz ?_
    case hz => decide
    refine ⟨rfl, ?_⟩; refine Ev.int ?_; refine Cmp.gt ?_; refine ⟨_, rfl, ?_⟩; refine ⟨?_, (by intro z; cases z)⟩; intro _; refine ⟨(by intro z; cases z), ?_⟩; intro _; refine Ex.nil ?_; refine Nx.next ?_; refine Ex.nil ?_; refine Lp1.next ?_; refine Nx.next ?_; refine Ex.cons ?_; refine Sx.ret ?_; refine Ev.name (memI 3 rfl) ?_; refine Nx.ret ?_; refine Done.ret ?_
    exact hC
theorem current_kill_spec {i : Int} (h0 : x.R ≠ []) (hz : x.R.length ≤ 100) (hC : C (.piece (x.R.getD ((x.ptr + i).fmod x.R.length).toNat [])) (wd ad dad { x with ptr := (x.ptr + i).fmod x.R.length })) : FS 1 (.ref 234) [.role .ring, .int i, .bool false] (wd ad dad x) C := by
  refine FS.enter (n := 0) (q := "current_kill") (ds := []) (fun K k => k.f234) [(Str.ofString "ring", .role .ring), (Str.ofString "by", .int i), (Str.ofString "keeps_pointer", .bool false)] [] [] rfl ?hb (fun _ _ _ => .nil) (by rfl) (by kernel_rfl) ?H
  case hb => intro dV doc pm ct an s vs hl hd; subst hd; obtain ⟨a, b, c, e0⟩ := len3 hl; subst e0; exact BindsTo.of_eq rfl
  intro c hn hs
  have hl : 0 < x.R.length := List.length_pos_iff.mpr h0
  refine Ex.cons ?_; refine Sx.if_ ?_; refine Is.cmp ?_ rfl; refine Ev.bcall "len" (by kernel_rfl) PySem.boot_len hs rfl (by kernel_rfl) (by decide) ?_ (fun _ => rfl) (fun _ => rfl) (fun _ => rfl); refine Ars.more ?_ (fun _ => rfl); refine Ev.attr ?_ (fun _ => rfl); refine Ev.name (memI 0 rfl) ?_; refine Get.ring_pieces ?_; refine Ars.nil ?_; refine ⟨Or.inr ⟨⟨_, rfl⟩, rfl⟩, ?_⟩
  refine BC.len (.pieces rfl) ?hz ?_
  case hz => (clear h0 hn hl; omega)
  refine ⟨rfl, ?_⟩; refine Ev.int ?_; refine Cmp.eq ?_; refine ⟨_, rfl, ?_⟩
  refine ⟨fun h => (by simp at h; exact absurd h h0), fun _ => ?_⟩
  refine Ex.nil ?_; refine Nx.next ?_; refine Ex.cons ?_; refine Sx.assignNew hs rfl (by kernel_rfl) rfl ?_ (fun _ => rfl); refine Ev.bin ?_; refine Ev.bin ?_; refine Ev.attr ?_ (fun _ => rfl); refine Ev.name (memI 0 rfl) ?_; refine Get.ring_pointer ?_; refine ⟨rfl, ?_⟩; refine Ev.name (memI 1 rfl) ?_; refine Bin.add ?_; refine ⟨rfl, ?_⟩; refine Ev.bcall "len" (by kernel_rfl) PySem.boot_len hs rfl (by kernel_rfl) (by decide) ?_ (fun _ => rfl) (fun _ => rfl) (fun _ => rfl); refine Ars.more ?_ (fun _ => rfl); refine Ev.attr ?_ (fun _ => rfl); refine Ev.name (memI 0 rfl) ?_; refine Get.ring_pieces ?_; refine Ars.nil ?_; refine ⟨Or.inr ⟨⟨_, rfl⟩, rfl⟩, ?_⟩
  refine BC.len (.pieces rfl) ?hz ?_
  case hz => (clear h0 hn hl; omega)
  refine Bin.mod (by (clear h0 hz hn; omega)) ?_
  have f0 := Int.fmod_nonneg_of_pos (x.ptr + i) (show (0:Int) < x.R.length by (clear h0 hz hn; omega))
  have f1 := Int.fmod_lt_of_pos (x.ptr + i) (show (0:Int) < x.R.length by (clear h0 hz hn f0; omega))
  refine ⟨rfl, ?_⟩; refine Nx.next ?_; refine Ex.cons ?_; refine Sx.if_ ?_; refine Is.not ?_; refine Is.plain ?_ (fun _ _ => rfl); refine Ev.name (memI 3 rfl) ?_; refine ⟨_, rfl, ?_⟩; refine ⟨?_, (by intro z; cases z)⟩; intro _; refine Ex.cons ?_; refine Sx.setattr ?_ (fun _ => rfl); refine Ev.name (memI 0 rfl) ?_; refine ⟨rfl, ?_⟩; refine Ev.name (memI 1 rfl) ?_; refine SetA.ring_pointer ?_; (try dsimp only); refine Nx.next ?_; refine Ex.nil ?_; refine Nx.next ?_; refine Ex.cons ?_; refine Sx.ret ?_; refine Ev.itemG ?_ (fun _ _ => ⟨_, rfl⟩); refine Ev.attr ?_ (fun _ => rfl); refine Ev.name (memI 1 rfl) ?_; refine Get.ring_pieces ?_; refine Ev.name (memI 0 rfl) ?_
  refine ItemG.pcs f0 f1 (by dsimp only; (clear h0 hn hl f0 f1; omega)) ?_
  refine Nx.ret ?_; refine Done.ret ?_
  exact hC
theorem kill_new_spec {ns : List Int} (hz : x.R.length ≤ 100) (hC : ∀ ad dad, C .none (wd ad dad { x with R := (ns :: x.R).take 5, ptr := 0 })) : FS 1 (.ref 220) [.role .ring, .piece ns, .bool false] (wd ad dad x) C := by
  refine FS.enter (n := 0) (q := "kill_new") (ds := []) (fun K k => k.f220) [(Str.ofString "ring", .role .ring), (Str.ofString "piece", .piece ns), (Str.ofString "is_replacing", .bool false)] [] [] rfl ?hb (fun _ _ _ => .nil) (by rfl) (by kernel_rfl) ?H
  case hb => intro dV doc pm ct an s vs hl hd; subst hd; obtain ⟨a, b, c, e0⟩ := len3 hl; subst e0; exact BindsTo.of_eq rfl
  intro c hn hs
  refine Ex.cons ?_; refine Sx.if_ ?_; refine Is.and ?_; refine TB.and ?_; refine Is.plain ?_ (fun _ _ => rfl); refine Ev.name (memI 2 rfl) ?_; refine ⟨_, rfl, ?_⟩; refine ⟨?_, (by intro z; cases z)⟩; intro _; refine ⟨(by intro z; cases z), ?_⟩; intro _; refine Ex.cons ?_; refine Sx.setPcsW (memI 0 rfl) ?_; refine Nw.cutS ?_; refine Ev.bin ?_; refine Ev.list ?_; refine Ars.more ?_ (fun _ => rfl); refine Ev.name (memI 1 rfl) ?_; refine Ars.nil ?_; refine ⟨Or.inl rfl, ?_⟩
  refine ⟨by simp, _, Dsp.pieces [ns], ?_⟩
  refine ⟨rfl, ?_⟩; refine Ev.attr ?_ (fun _ => rfl); refine Ev.name (memI 0 rfl) ?_; refine Get.ring_pieces ?_
  refine Bin.catP (r := .pcs) rfl (by simp; (clear hn; omega)) ?_
  refine Part.none ?_; refine Part.some ?_; refine Ev.attr ?_ (fun _ => rfl); refine Ev.name (memI 0 rfl) ?_; refine Get.ring_most ?_; refine ⟨_, rfl, ?_⟩; refine ⟨Or.inl rfl, ?_⟩
  refine ⟨_, _, .pcl, by simp; (clear hn; omega), ?_⟩
  refine ⟨(ns :: x.R).take 5, ?_, rfl, fun ad dad => ?_⟩
  · rw [hi_num (by decide)]
    have e : kms_lo Pt.no.opt ([ns] ++ x.R).length = 0 := rfl
    rw [e]
    congr 1
    show List.take (min 5 (ns :: x.R).length - 0) (ns :: x.R) = _
    rw [Nat.sub_zero]
    rcases Nat.le_total 5 (ns :: x.R).length with h | h
    · rw [Nat.min_eq_left h]
    · rw [Nat.min_eq_right h, List.take_of_length_le h, List.take_of_length_le (Nat.le_refl _)]
  · refine Nx.next ?_; refine Ex.nil ?_; refine Nx.next ?_; refine Ex.cons ?_; refine Sx.setattr ?_ (fun _ => rfl); refine Ev.int ?_; refine ⟨rfl, ?_⟩; refine Ev.name (memI 0 rfl) ?_; refine SetA.ring_pointer ?_; (try dsimp only); refine Nx.next ?_; refine Ex.nil ?_; refine Done.next ?_
    exact hC _ _
theorem kill_new1_spec {ns : List Int} (h0 : x.R ≠ []) (hz : x.R.length ≤ 100) (hC : C .none (wd ad dad { x with R := x.R.set 0 ns, ptr := 0 })) : FS 1 (.ref 220) [.role .ring, .piece ns, .bool true] (wd ad dad x) C := by
  refine FS.enter (n := 0) (q := "kill_new") (ds := []) (fun K k => k.f220) [(Str.ofString "ring", .role .ring), (Str.ofString "piece", .piece ns), (Str.ofString "is_replacing", .bool true)] [] [] rfl ?hb (fun _ _ _ => .nil) (by rfl) (by kernel_rfl) ?H
  case hb => intro dV doc pm ct an s vs hl hd; subst hd; obtain ⟨a, b, c, e0⟩ := len3 hl; subst e0; exact BindsTo.of_eq rfl
  intro c hn hs
  have hl : 0 < x.R.length := List.length_pos_iff.mpr h0
  refine Ex.cons ?_; refine Sx.if_ ?_; refine Is.and ?_; refine TB.and ?_; refine Is.plain ?_ (fun _ _ => rfl); refine Ev.name (memI 2 rfl) ?_; refine ⟨_, rfl, ?_⟩; refine ⟨(by intro z; cases z), ?_⟩; intro _; refine TB.and ?_; refine Is.cmp ?_ rfl; refine Ev.bcall "len" (by kernel_rfl) PySem.boot_len hs rfl (by kernel_rfl) (by decide) ?_ (fun _ => rfl) (fun _ => rfl) (fun _ => rfl); refine Ars.more ?_ (fun _ => rfl); refine Ev.attr ?_ (fun _ => rfl); refine Ev.name (memI 0 rfl) ?_; refine Get.ring_pieces ?_; refine Ars.nil ?_; refine ⟨Or.inr ⟨⟨_, rfl⟩, rfl⟩, ?_⟩
  refine BC.len (.pieces rfl) ?hz ?_
  case hz => (clear h0 hn hl; omega)
  refine ⟨rfl, ?_⟩; refine Ev.int ?_; refine Cmp.gt ?_; refine ⟨_, rfl, ?_⟩
  rw [show decide ((0 : Int) < x.R.length) = true by simp; (clear h0 hz hn; omega)]
  refine ⟨(by intro z; cases z), ?_⟩; intro _; refine TB.andNil ?_; refine ⟨?_, (by intro z; cases z)⟩; intro _; refine Ex.cons ?_
  refine Sx.setitem .pcs ?_ (fun _ => rfl)
  refine Ev.name (memI 1 rfl) ?_; refine ⟨rfl, ?_⟩; refine Ev.attr ?_ (fun _ => rfl); refine Ev.name (memI 0 rfl) ?_; refine Get.ring_pieces ?_; refine ⟨rfl, ?_⟩; refine Ev.int ?_
  refine ⟨.inr rfl, 0, rfl, SetI.put_pcs (by decide) (by (clear h0 hz hn; omega)) (by (clear h0 hn hl; omega)) ?_⟩
  refine Nx.next ?_; refine Ex.nil ?_; refine Nx.next ?_; refine Ex.cons ?_; refine Sx.setattr ?_ (fun _ => rfl); refine Ev.int ?_; refine ⟨rfl, ?_⟩; refine Ev.name (memI 0 rfl) ?_; refine SetA.ring_pointer ?_; (try dsimp only); refine Nx.next ?_; refine Ex.nil ?_; refine Done.next ?_
  exact hC
end
section
variable {ad dad : Role → Addr} {x : AS} {T : List Int} {C : SV → Wd → Prop}
theorem wd_of {W : Wd} (h : W.ob = (wd ad dad x).ob) : W = wd W.ad W.dad x := by
  cases W
  dsimp only at h
  subst h
  rfl
theorem piece_without_spec {ns : List Int} (hz : ns.length ≤ 100000) (hC : ∀ ad dad, C (.piece ns) (wd ad dad x)) : FS 3 (.ref 192) [.piece ns, .lst []] (wd ad dad x) C := by
  refine FS.enterC (n := 2) (q := "piece_without") (fun K k => k.f192) [(Str.ofString "piece", .piece ns), (Str.ofString "numbers", .lst [])] rfl ?hb (by rfl) (by kernel_rfl) ?H
  case hb =>
    intro doc pm ct an vs hl
    obtain ⟨a, b, e0⟩ := len2 hl
    subst e0
    rfl
  intro c hn hs
  refine Ex.cons ?_; refine Sx.assignNew hs rfl (by kernel_rfl) rfl ?_ (fun _ => rfl); refine Ev.list ?_; refine Ars.nil ?_
  refine ⟨by decide, _, .nums [], ?_⟩
  refine ⟨rfl, ?_⟩; refine Nx.next ?_; refine Ex.cons ?_
  refine Sx.for0 ?_ (fun _ _ => rfl)
  refine Ev.attr ?_ (fun _ => rfl); refine Ev.name (memI 1 rfl) ?_; refine Get.runs ?_
  refine ⟨Itr.lst0, ?_⟩
  refine Nx.next ?_; refine Ex.cons ?_; refine Sx.ret ?_
  refine Ev.newPiece (c.n - 1) (by kernel_rfl) hs rfl (by kernel_rfl) (by (clear hz; omega)) ?_ (fun _ => rfl) (fun _ => rfl) (fun _ => rfl)
  refine Ars.more ?_ (fun _ => rfl); refine Ev.tcall "list" (by kernel_rfl) PyProof.Rows.boot_list hs rfl (by kernel_rfl) (by decide) ?_ (fun _ => rfl) (fun _ => rfl) (fun _ => rfl); refine Ars.more ?_ (fun _ => rfl); refine Ev.attr ?_ (fun _ => rfl); refine Ev.name (memI 1 rfl) ?_; refine Get.codes ?_; refine Ars.nil ?_; refine ⟨Or.inl rfl, ?_⟩
  refine TC.list (.nums .lst) (by (clear hn; omega)) ?_
  refine Ars.more ?_ (fun _ => rfl); refine Ev.callG 175 (by kernel_rfl) (by kernel_rfl) hs rfl (by kernel_rfl) ?_ (fun _ => rfl) (fun _ => rfl) (fun _ => rfl); refine Ars.more ?_ (fun _ => rfl); refine Ev.name (memI 0 rfl) ?_; refine Ars.nil ?_; refine ⟨Or.inl rfl, ?_⟩
  refine FS.mono (by (clear hz; omega)) (tidy0_spec ?_)
  refine Ars.nil ?_; refine ⟨Or.inl rfl, ?_⟩; refine ⟨Or.inl rfl, ?_⟩; refine ⟨rfl, ?_⟩
  refine ⟨ns, fun a d => ?_, fun W₃ h => ?_⟩
  · rw [← Wd.born_put _ .tmp a d (.inst 164 []) (.inst 164 [])]
    refine FS.mono (by (clear hz; omega)) (piece_init_spec ⟨rfl, ?_, fun r hr => ?_⟩)
    · rw [Wd.born_put]; exact (Wd.born_self _ _ _ _ _).1
    · rw [Wd.born_put]; exact (Wd.born_ne _ _ _ _ hr).1
  · rw [wd_of h]
    refine Nx.ret ?_; refine Done.ret ?_
    exact hC _ _
end
section
variable {ad dad : Role → Addr} {x : AS} {T : List Int} {C : SV → Wd → Prop}
theorem moved0_spec {W : Wd} {i : Int} (hC : C (.lst []) W) : FS 1 (.ref 180) [.lst [], .int i] W C := by
  refine FS.enterC (n := 0) (q := "moved_runs") (fun K k => k.f180) [(Str.ofString "runs", .lst []), (Str.ofString "by", .int i)] rfl ?hb (by rfl) (by kernel_rfl) ?H
  case hb =>
    intro doc pm ct an vs hl
    obtain ⟨a, b, e0⟩ := len2 hl
    subst e0
    rfl
  intro c hn hs
  refine Ex.cons ?_; refine Sx.ret ?_
  refine Nw.ev (Nw.comp0 (x := Str.ofString "by") (sv := .int i) ?hm hs rfl ?hclos ?hcell rfl ?hnames ?_ (fun _ _ => rfl))
  case hm => exact memI 1 rfl
  case hclos => intro env a e; simp [closureFor, cellOf, e]
  case hcell => decide
  case hnames => decide
  refine Ev.name (memI 0 rfl) ?_
  refine ⟨Itr.lst0, ?_⟩
  refine Nx.ret ?_; refine Done.ret ?_
  exact hC
theorem piece_joined_spec {a b : List Int} (hz : a.length + b.length ≤ 100000) (hC : ∀ ad dad, C (.piece (a ++ b)) (wd ad dad x)) : FS 3 (.ref 187) [.piece a, .piece b] (wd ad dad x) C := by
  refine FS.enter (n := 2) (q := "piece_joined") (ds := []) (fun K k => k.f187) [(Str.ofString "one", .piece a), (Str.ofString "other", .piece b)] [] [] rfl ?hb (fun _ _ _ => .nil) (by rfl) (by kernel_rfl) ?H
  case hb => intro dV doc pm ct an s vs hl hd; subst hd; obtain ⟨a, b, e0⟩ := len2 hl; subst e0; exact BindsTo.of_eq rfl
  intro c hn hs
  refine Ex.cons ?_; refine Sx.ret ?_
  refine Ev.newPiece (c.n - 1) (by kernel_rfl) hs rfl (by kernel_rfl) (by (clear hz; omega)) ?_ (fun _ => rfl) (fun _ => rfl) (fun _ => rfl)
  refine Ars.more ?_ (fun _ => rfl); refine Ev.bin ?_; refine Ev.attr ?_ (fun _ => rfl); refine Ev.name (memI 0 rfl) ?_; refine Get.codes ?_; refine ⟨rfl, ?_⟩; refine Ev.attr ?_ (fun _ => rfl); refine Ev.name (memI 1 rfl) ?_; refine Get.codes ?_
  refine Bin.cat .lst .lst (by (clear hn; omega)) ?_
  refine Ars.more ?_ (fun _ => rfl); refine Ev.callG 175 (by kernel_rfl) (by kernel_rfl) hs rfl (by kernel_rfl) ?_ (fun _ => rfl) (fun _ => rfl) (fun _ => rfl); refine Ars.more ?_ (fun _ => rfl); refine Ev.bin ?_; refine Ev.attr ?_ (fun _ => rfl); refine Ev.name (memI 0 rfl) ?_; refine Get.runs ?_; refine ⟨rfl, ?_⟩; refine Ev.callG 180 (by kernel_rfl) (by kernel_rfl) hs rfl (by kernel_rfl) ?_ (fun _ => rfl) (fun _ => rfl) (fun _ => rfl); refine Ars.more ?_ (fun _ => rfl); refine Ev.attr ?_ (fun _ => rfl); refine Ev.name (memI 1 rfl) ?_; refine Get.runs ?_; refine Ars.more ?_ (fun _ => rfl); refine Ev.bcall "len" (by kernel_rfl) PySem.boot_len hs rfl (by kernel_rfl) (by decide) ?_ (fun _ => rfl) (fun _ => rfl) (fun _ => rfl); refine Ars.more ?_ (fun _ => rfl); refine Ev.attr ?_ (fun _ => rfl); refine Ev.name (memI 0 rfl) ?_; refine Get.codes ?_; refine Ars.nil ?_; refine ⟨Or.inl rfl, ?_⟩
  refine BC.len (.nums .lst) ?hz ?_
  case hz => (clear hn; omega)
  refine Ars.nil ?_; refine ⟨Or.inl rfl, ?_⟩; refine ⟨Or.inl rfl, ?_⟩
  refine FS.mono (by (clear hz; omega)) (moved0_spec ?_)
  refine Bin.cat .lst .lst (by simp) ?_
  refine Ars.nil ?_; refine ⟨Or.inl rfl, ?_⟩
  refine FS.mono (by (clear hz; omega)) (tidy0_spec ?_)
  refine Ars.nil ?_; refine ⟨Or.inl rfl, ?_⟩; refine ⟨Or.inl rfl, ?_⟩; refine ⟨rfl, ?_⟩
  refine ⟨a ++ b, fun p d => ?_, fun W₃ h => ?_⟩
  · rw [← Wd.born_put _ .tmp p d (.inst 164 []) (.inst 164 [])]
    refine FS.mono (by (clear hz; omega)) (piece_init_spec ⟨rfl, ?_, fun r hr => ?_⟩)
    · rw [Wd.born_put]; exact (Wd.born_self _ _ _ _ _).1
    · rw [Wd.born_put]; exact (Wd.born_ne _ _ _ _ hr).1
  · rw [wd_of h]
    refine Nx.ret ?_; refine Done.ret ?_
    exact hC _ _
theorem tidyN_spec {W : Wd} (hC : C (.lst []) W) : FS 1 (.ref 175) [.trips []] W C := by
  refine FS.enter (n := 0) (q := "tidy_runs") (ds := []) (fun K k => k.f175) [(Str.ofString "runs", .trips [])] [] [] rfl ?hb (fun _ _ _ => .nil) (by rfl) (by kernel_rfl) ?H
  case hb => intro dV doc pm ct an s vs hl hd; subst hd; obtain ⟨a, e0⟩ := len1 hl; subst e0; exact BindsTo.of_eq rfl
  intro c hn hs
  refine Ex.cons ?_; refine Sx.assignNew hs rfl (by kernel_rfl) rfl ?_ (fun _ => rfl); refine Ev.list ?_; refine Ars.nil ?_
  refine ⟨by decide, _, .nums [], ?_⟩
  refine ⟨rfl, ?_⟩; refine Nx.next ?_; refine Ex.cons ?_
  refine Sx.for0 ?_ (fun _ _ => rfl)
  refine Ev.name (memI 1 rfl) ?_
  refine ⟨Itr.trips0, ?_⟩
  refine Nx.next ?_; refine Ex.cons ?_; refine Sx.ret ?_; refine Ev.name (memI 0 rfl) ?_; refine Nx.ret ?_; refine Done.ret ?_
  exact hC
noncomputable def rows1 (i j : Int) : List (Int × Int) := if i < j then [(i, j)] else []
theorem plist_rows_spec {i j : Int} (hC : C (.trips (rows1 i j)) (wd ad dad x)) : FS 1 (.ref 447) [.role .buf, .int i, .int j] (wd ad dad x) C := by
  refine FS.enter (n := 0) (q := "plist_rows") (ds := []) (fun K k => k.f447) [(Str.ofString "buffer", .role .buf), (Str.ofString "start", .int i), (Str.ofString "end", .int j)] [] [] rfl ?hb (fun _ _ _ => .nil) (by rfl) (by kernel_rfl) ?H
  case hb => intro dV doc pm ct an s vs hl hd; subst hd; obtain ⟨a, b, c, e0⟩ := len3 hl; subst e0; exact BindsTo.of_eq rfl
  intro c hn hs
  refine Ex.cons ?_; refine Sx.if_ ?_; refine Is.cmp ?_ rfl; refine Ev.attr ?_ (fun _ => rfl); refine Ev.name (memI 0 rfl) ?_; refine Get.buf_props ?_; refine ⟨rfl, ?_⟩; refine Ev.none ?_; refine Cmp.isN0 ?_; refine ⟨_, rfl, ?_⟩; refine ⟨?_, (by intro z; cases z)⟩; intro _; refine Ex.cons ?_; refine Sx.ret ?_; refine Ev.ifx ?_; refine Is.cmp ?_ rfl; refine Ev.name (memI 1 rfl) ?_; refine ⟨rfl, ?_⟩; refine Ev.name (memI 2 rfl) ?_; refine Cmp.lt ?_; refine ⟨_, rfl, ?_⟩
  unfold rows1 at hC
  refine ⟨fun h => ?_, fun h => ?_⟩ <;> simp only [decide_eq_true_eq, decide_eq_false_iff_not] at h
  · rw [if_pos h] at hC
    refine Ev.list ?_; refine Ars.more ?_ (fun _ => rfl); refine Ev.tuple ?_; refine Ars.more ?_ (fun _ => rfl); refine Ev.name (memI 1 rfl) ?_; refine Ars.more ?_ (fun _ => rfl); refine Ev.name (memI 2 rfl) ?_; refine Ars.more ?_ (fun _ => rfl); refine Ev.list ?_; refine Ars.nil ?_
    refine ⟨by decide, _, .nums [], ?_⟩
    refine Ars.nil ?_; refine ⟨Or.inl rfl, ?_⟩; refine ⟨Or.inl rfl, ?_⟩; refine ⟨Or.inl rfl, ?_⟩
    refine ⟨_, .trip, ?_⟩
    refine Ars.nil ?_; refine ⟨Or.inl rfl, ?_⟩
    refine ⟨by simp, _, .trips [(i, j)], ?_⟩
    refine Nx.ret ?_; refine Nx.ret ?_; refine Done.ret ?_
    exact hC
  · rw [if_neg h] at hC
    refine Ev.list ?_; refine Ars.nil ?_
    refine ⟨by simp, _, .trips [], ?_⟩
    refine Nx.ret ?_; refine Nx.ret ?_; refine Done.ret ?_
    exact hC
end
section
variable {ad dad : Role → Addr} {x : AS} {T : List Int} {C : SV → Wd → Prop}
theorem rows1_map (i j a : Int) : (rows1 i j).map (fun p => (p.1 - a, p.2 - a)) = rows1 (i - a) (j - a) := by
  unfold rows1
  by_cases h : i < j
  · rw [if_pos h, if_pos (by omega)]; rfl
  · rw [if_neg h, if_neg (by omega)]; rfl
theorem tidyR_spec {W : Wd} {i j : Int} (hC : C (.lst []) W) : FS 1 (.ref 175) [.trips (rows1 i j)] W C := by
  unfold rows1
  split
  · exact tidy1_spec hC
  · exact tidyN_spec hC
theorem piece_of_spec (t : Txt x T) {i j : Int} (h0 : 1 ≤ i) (h1 : i ≤ j) (h2 : j ≤ T.length + 1) (hC : ∀ ad dad, C (.piece (sl T (i - 1) (j - 1))) (wd ad dad x)) : FS 4 (.ref 452) [.role .buf, .int i, .int j] (wd ad dad x) C := by
  refine FS.enterC (n := 3) (q := "piece_of") (fun K k => k.f452) [(Str.ofString "buffer", .role .buf), (Str.ofString "start", .int i), (Str.ofString "end", .int j)] rfl ?hb (by rfl) (by kernel_rfl) ?H
  case hb =>
    intro doc pm ct an vs hl
    obtain ⟨a, b, d, e0⟩ := len3 hl
    subst e0
    rfl
  intro c hn hs
  refine Ex.cons ?_
  refine Sx.assignRuns (a0 := i) ?hsw ?hm hs rfl ?hclos ?hcell rfl ?hnames rfl rfl rfl (by decide) (by decide) (by decide) (by kernel_rfl) (by kernel_rfl) (by kernel_rfl) (by kernel_rfl) ?hrl rfl (by kernel_rfl) rfl (fun _ => rfl) ?_ (fun _ _ => rfl)
  case hm => exact memI 1 rfl
  case hsw => intro env e; obtain ⟨sc, a1, a2, a3, a4, a5, a6, a7, a8⟩ := env; dsimp only at e; subst e; rfl
  case hclos => intro env a e; simp [closureFor, cellOf, e]
  case hcell => decide
  case hnames => decide
  case hrl => intro env e; obtain ⟨sc, a1, a2, a3, a4, a5, a6, a7, a8⟩ := env; dsimp only at e; subst e; exact ⟨rfl, rfl⟩
  refine Ev.callG 447 (by kernel_rfl) (by kernel_rfl) hs rfl (by kernel_rfl) ?_ (fun _ => rfl) (fun _ => rfl) (fun _ => rfl); refine Ars.more ?_ (fun _ => rfl); refine Ev.name (memI 0 rfl) ?_; refine Ars.more ?_ (fun _ => rfl); refine Ev.name (memI 1 rfl) ?_; refine Ars.more ?_ (fun _ => rfl); refine Ev.name (memI 2 rfl) ?_; refine Ars.nil ?_; refine ⟨Or.inl rfl, ?_⟩; refine ⟨Or.inl rfl, ?_⟩; refine ⟨Or.inl rfl, ?_⟩
  refine FS.mono (by (clear h0 h1 h2; omega)) (plist_rows_spec ?_)
  refine ⟨_, rfl, by unfold rows1; split <;> simp, ?_⟩
  rw [rows1_map]
  refine Nx.next ?_; refine Ex.cons ?_; refine Sx.ret ?_
  refine Ev.newPiece (c.n - 1) (by kernel_rfl) hs rfl (by kernel_rfl) (by (clear h0 h1 h2; omega)) ?_ (fun _ => rfl) (fun _ => rfl) (fun _ => rfl)
  refine Ars.more ?_ (fun _ => rfl); refine' Ev.methG ?_ (fun _ => rfl) (fun _ => rfl) (fun _ => rfl); refine Ev.name (memI 1 rfl) ?_; refine Mth.buf 654 (by kernel_rfl) (by kernel_rfl) (by kernel_rfl) ?_; refine Ars.more ?_ (fun _ => rfl); refine Ev.name (memI 2 rfl) ?_; refine Ars.more ?_ (fun _ => rfl); refine Ev.name (memI 3 rfl) ?_; refine Ars.nil ?_; refine ⟨Or.inl rfl, ?_⟩; refine ⟨Or.inl rfl, ?_⟩
  refine FS.mono (by (clear h0 h1 h2; omega)) (buf_codes_spec t h0 h1 h2 ?_)
  refine Ars.more ?_ (fun _ => rfl); refine Ev.callG 175 (by kernel_rfl) (by kernel_rfl) hs rfl (by kernel_rfl) ?_ (fun _ => rfl) (fun _ => rfl) (fun _ => rfl); refine Ars.more ?_ (fun _ => rfl); refine Ev.name (memI 0 rfl) ?_; refine Ars.nil ?_; refine ⟨Or.inl rfl, ?_⟩
  refine FS.mono (by (clear h0 h1 h2; omega)) (tidyR_spec ?_)
  refine Ars.nil ?_; refine ⟨Or.inl rfl, ?_⟩; refine ⟨Or.inl rfl, ?_⟩; refine ⟨rfl, ?_⟩
  refine ⟨sl T (i - 1) (j - 1), fun p d => ?_, fun W₃ h => ?_⟩
  · rw [← Wd.born_put _ .tmp p d (.inst 164 []) (.inst 164 [])]
    refine FS.mono (by (clear h0 h1 h2; omega)) (piece_init_spec ⟨rfl, ?_, fun r hr => ?_⟩)
    · rw [Wd.born_put]; exact (Wd.born_self _ _ _ _ _).1
    · rw [Wd.born_put]; exact (Wd.born_ne _ _ _ _ hr).1
  · rw [wd_of h]
    refine Nx.ret ?_; refine Done.ret ?_
    exact hC _ _
theorem insert_piece_spec (t : Bf x T) {U : List Int} (hro : x.ro = false) (hz : T.length + U.length ≤ 90000)
    (hC : ∀ y : AS, Bf y (put T (x.p - 1) U) → y.p = x.p + U.length → y.mx = x.mx → (x.mx = true → y.mp = if x.p < x.mp then x.mp + U.length else x.mp) → Same x y → C .none (wd ad dad y)) : FS 6 (.ref 457) [.role .buf, .piece U] (wd ad dad x) C := by
  refine FS.enterS (n := 5) (q := "insert_piece") (A := bufA x) (i := x.p) (r := .buf) (fun K k => k.f457) [(Str.ofString "buffer", .role .buf), (Str.ofString "piece", .piece U)] rfl ?hb (by rfl) (by kernel_rfl) rfl (by kernel_rfl) rfl ?hm (by kernel_rfl) rfl (by kernel_rfl) rfl (by kernel_rfl) (fun _ => rfl) (fun _ => rfl) ?H
  case hb =>
    intro doc pm ct an vs hl
    obtain ⟨a, b, e0⟩ := len2 hl
    subst e0
    rfl
  case hm => exact memI 0 rfl
  intro c hn hs
  refine Ex.cons ?_; refine Sx.expr ?_ (fun _ => rfl); refine Ev.callG 112 (by kernel_rfl) (by kernel_rfl) hs rfl (by kernel_rfl) ?_ (fun _ => rfl) (fun _ => rfl) (fun _ => rfl); refine Ars.more ?_ (fun _ => rfl); refine Ev.name (memI 1 rfl) ?_; refine Ars.more ?_ (fun _ => rfl); refine Ev.attr ?_ (fun _ => rfl); refine Ev.name (memI 2 rfl) ?_; refine Get.codes ?_; refine Ars.nil ?_; refine ⟨Or.inl rfl, ?_⟩; refine ⟨Or.inl rfl, ?_⟩
  refine FS.mono (by (clear hz; omega)) (insert_fn_spec t hro hz fun y a b cc d e => ?_)
  refine Nx.next ?_; refine Ex.cons ?_; refine Sx.if_ ?_; refine Is.and ?_; refine TB.and ?_; refine Is.cmp ?_ rfl; refine Ev.attr ?_ (fun _ => rfl); refine Ev.name (memI 1 rfl) ?_; refine Get.buf_props ?_; refine ⟨rfl, ?_⟩; refine Ev.none ?_; refine Cmp.notN0 ?_; refine ⟨_, rfl, ?_⟩; refine ⟨?_, (by intro z; cases z)⟩; intro _; refine ⟨(by intro z; cases z), ?_⟩; intro _; refine Ex.nil ?_; refine Nx.next ?_; refine Ex.nil ?_; refine Done.next ?_
  exact hC y a b cc d e
end
section
variable {ad dad : Role → Addr} {x : AS} {T : List Int} {C : SV → Wd → Prop}
/-- a kill is saved -/
noncomputable def saved (R : List (List Int)) (ns : List Int) (goes ahead : Bool) : List (List Int) :=
  if goes = true ∧ R ≠ [] then (if ahead = true then ns ++ R.getD 0 [] else R.getD 0 [] ++ ns) :: R.drop 1 else (ns :: R).take 5
theorem set0 {R : List (List Int)} (h : R ≠ []) (n : List Int) : R.set 0 n = n :: R.drop 1 := by
  cases R with
  | nil => exact absurd rfl h
  | cons a r => rfl
theorem kill_append_spec {ns : List Int} {ahead : Bool} (hz : x.R.length ≤ 100) (hp : ∀ p ∈ x.R, p.length ≤ 50000) (hn : ns.length ≤ 50000) (hC : ∀ ad dad, C .none (wd ad dad { x with R := saved x.R ns true ahead, ptr := 0 })) : FS 4 (.ref 227) [.role .ring, .piece ns, .bool ahead] (wd ad dad x) C := by
  refine FS.enter (n := 3) (q := "kill_append") (ds := []) (fun K k => k.f227) [(Str.ofString "ring", .role .ring), (Str.ofString "piece", .piece ns), (Str.ofString "is_ahead", .bool ahead)] [] [] rfl ?hb (fun _ _ _ => .nil) (by rfl) (by kernel_rfl) ?H
  case hb => intro dV doc pm ct an s vs hl hd; subst hd; obtain ⟨a, b, c, e0⟩ := len3 hl; subst e0; exact BindsTo.of_eq rfl
  intro c hnn hs
  refine Ex.cons ?_; refine Sx.if_ ?_; refine Is.cmp ?_ rfl; refine Ev.bcall "len" (by kernel_rfl) PySem.boot_len hs rfl (by kernel_rfl) (by decide) ?_ (fun _ => rfl) (fun _ => rfl) (fun _ => rfl); refine Ars.more ?_ (fun _ => rfl); refine Ev.attr ?_ (fun _ => rfl); refine Ev.name (memI 0 rfl) ?_; refine Get.ring_pieces ?_; refine Ars.nil ?_; refine ⟨Or.inr ⟨⟨_, rfl⟩, rfl⟩, ?_⟩
  refine BC.len (.pieces rfl) ?hz ?_
  case hz => (clear hn hnn; omega)
  refine ⟨rfl, ?_⟩; refine Ev.int ?_; refine Cmp.eq ?_; refine ⟨_, rfl, ?_⟩
  refine ⟨fun h => ?_, fun h => ?_⟩
  · have h0 : x.R = [] := List.eq_nil_of_length_eq_zero (by simpa using h)
    refine Ex.cons ?_; refine Sx.expr ?_ (fun _ => rfl); refine Ev.callG 220 (by kernel_rfl) (by kernel_rfl) hs rfl (by kernel_rfl) ?_ (fun _ => rfl) (fun _ => rfl) (fun _ => rfl); refine Ars.more ?_ (fun _ => rfl); refine Ev.name (memI 0 rfl) ?_; refine Ars.more ?_ (fun _ => rfl); refine Ev.name (memI 1 rfl) ?_; refine Ars.more ?_ (fun _ => rfl); refine Ev.bool ?_; refine Ars.nil ?_; refine ⟨Or.inl rfl, ?_⟩; refine ⟨Or.inl rfl, ?_⟩; refine ⟨Or.inl rfl, ?_⟩
    refine FS.mono (by (clear hz hn; omega)) (kill_new_spec hz fun ad dad => ?_)
    refine Nx.next ?_; refine Ex.cons ?_; refine Sx.retN ?_; refine Nx.ret ?_; refine Nx.ret ?_; refine Done.ret ?_
    have e : saved x.R ns true ahead = (ns :: x.R).take 5 := by unfold saved; rw [if_neg (fun z => z.2 h0)]
    have := hC ad dad
    rw [e] at this
    exact this
  · have h0 : x.R ≠ [] := fun z => by rw [z] at h; simp at h
    have hl : 0 < x.R.length := List.length_pos_iff.mpr h0
    have h1 : (x.R.getD 0 []).length ≤ 50000 := by
      cases q : x.R with
      | nil => exact absurd q h0
      | cons a r => exact hp a (by rw [q]; exact .head _)
    unfold saved at hC
    rw [if_pos ⟨rfl, h0⟩] at hC
    refine Ex.nil ?_; refine Nx.next ?_; refine Ex.cons ?_; refine Sx.assignNew hs rfl (by kernel_rfl) rfl ?_ (fun _ => rfl); refine Ev.itemG ?_ (fun _ _ => ⟨_, rfl⟩); refine Ev.attr ?_ (fun _ => rfl); refine Ev.name (memI 0 rfl) ?_; refine Get.ring_pieces ?_; refine Ev.int ?_
    refine ItemG.pcs (by decide) (by (clear hz hn hnn h0 h1; omega)) (by (clear hn hnn h0 hl h1; omega)) ?_
    refine ⟨rfl, ?_⟩; refine Nx.next ?_; refine Ex.cons ?_; refine Sx.expr ?_ (fun _ => rfl); refine Ev.callG 220 (by kernel_rfl) (by kernel_rfl) hs rfl (by kernel_rfl) ?_ (fun _ => rfl) (fun _ => rfl) (fun _ => rfl); refine Ars.more ?_ (fun _ => rfl); refine Ev.name (memI 1 rfl) ?_; refine Ars.more ?_ (fun _ => rfl); refine Ev.ifx ?_; refine Is.plain ?_ (fun _ _ => rfl); refine Ev.name (memI 3 rfl) ?_; refine ⟨_, rfl, ?_⟩
    cases ahead with
    | true =>
      rw [if_pos rfl] at hC
      refine ⟨?_, (by intro z; cases z)⟩; intro _; refine Ev.callG 187 (by kernel_rfl) (by kernel_rfl) hs rfl (by kernel_rfl) ?_ (fun _ => rfl) (fun _ => rfl) (fun _ => rfl); refine Ars.more ?_ (fun _ => rfl); refine Ev.name (memI 2 rfl) ?_; refine Ars.more ?_ (fun _ => rfl); refine Ev.name (memI 0 rfl) ?_; refine Ars.nil ?_; refine ⟨Or.inl rfl, ?_⟩; refine ⟨Or.inl rfl, ?_⟩
      refine FS.mono (by (clear hz hn h0 hl h1; omega)) (piece_joined_spec (by show ns.length + (x.R.getD 0 []).length ≤ _; (clear hz hnn h0 hl; omega)) fun ad dad => ?_)
      refine Ars.more ?_ (fun _ => rfl); refine Ev.bool ?_; refine Ars.nil ?_; refine ⟨Or.inl rfl, ?_⟩; refine ⟨Or.inl rfl, ?_⟩; refine ⟨Or.inl rfl, ?_⟩
      refine FS.mono (by (clear hz hn h0 hl h1; omega)) (kill_new1_spec h0 hz ?_)
      refine Nx.next ?_; refine Ex.nil ?_; refine Done.next ?_
      rw [set0 h0]
      exact hC _ _
    | false =>
      rw [if_neg (by decide)] at hC
      refine ⟨(by intro z; cases z), ?_⟩; intro _; refine Ev.callG 187 (by kernel_rfl) (by kernel_rfl) hs rfl (by kernel_rfl) ?_ (fun _ => rfl) (fun _ => rfl) (fun _ => rfl); refine Ars.more ?_ (fun _ => rfl); refine Ev.name (memI 0 rfl) ?_; refine Ars.more ?_ (fun _ => rfl); refine Ev.name (memI 2 rfl) ?_; refine Ars.nil ?_; refine ⟨Or.inl rfl, ?_⟩; refine ⟨Or.inl rfl, ?_⟩
      refine FS.mono (by (clear hz hn h0 hl h1; omega)) (piece_joined_spec (by show (x.R.getD 0 []).length + ns.length ≤ _; (clear hz hnn h0 hl; omega)) fun ad dad => ?_)
      refine Ars.more ?_ (fun _ => rfl); refine Ev.bool ?_; refine Ars.nil ?_; refine ⟨Or.inl rfl, ?_⟩; refine ⟨Or.inl rfl, ?_⟩; refine ⟨Or.inl rfl, ?_⟩
      refine FS.mono (by (clear hz hn h0 hl h1; omega)) (kill_new1_spec h0 hz ?_)
      refine Nx.next ?_; refine Ex.nil ?_; refine Done.next ?_
      rw [set0 h0]
      exact hC _ _
theorem save_kill_spec {ns : List Int} {goes ahead : Bool} (hz : x.R.length ≤ 100) (hp : ∀ p ∈ x.R, p.length ≤ 50000) (hn : ns.length ≤ 50000) (hC : ∀ ad dad, C .none (wd ad dad { x with R := saved x.R ns goes ahead, ptr := 0 })) : FS 5 (.ref 464) [.role .ring, .piece ns, .bool goes, .bool ahead] (wd ad dad x) C := by
  refine FS.enter (n := 4) (q := "save_kill") (ds := []) (fun K k => k.f464) [(Str.ofString "ring", .role .ring), (Str.ofString "piece", .piece ns), (Str.ofString "goes_on", .bool goes), (Str.ofString "is_ahead", .bool ahead)] [] [] rfl ?hb (fun _ _ _ => .nil) (by rfl) (by kernel_rfl) ?H
  case hb => intro dV doc pm ct an s vs hl hd; subst hd; obtain ⟨a, b, c, d, e0⟩ := len4 hl; subst e0; exact BindsTo.of_eq rfl
  intro c hnn hs
  cases goes with
  | true =>
    refine Ex.cons ?_; refine Sx.if_ ?_; refine Is.plain ?_ (fun _ _ => rfl); refine Ev.name (memI 2 rfl) ?_; refine ⟨_, rfl, ?_⟩; refine ⟨?_, (by intro z; cases z)⟩; intro _; refine Ex.cons ?_; refine Sx.expr ?_ (fun _ => rfl); refine Ev.callG 227 (by kernel_rfl) (by kernel_rfl) hs rfl (by kernel_rfl) ?_ (fun _ => rfl) (fun _ => rfl) (fun _ => rfl); refine Ars.more ?_ (fun _ => rfl); refine Ev.name (memI 0 rfl) ?_; refine Ars.more ?_ (fun _ => rfl); refine Ev.name (memI 1 rfl) ?_; refine Ars.more ?_ (fun _ => rfl); refine Ev.name (memI 3 rfl) ?_; refine Ars.nil ?_; refine ⟨Or.inl rfl, ?_⟩; refine ⟨Or.inl rfl, ?_⟩; refine ⟨Or.inl rfl, ?_⟩
    refine FS.mono (by (clear hz hn; omega)) (kill_append_spec hz hp hn fun ad dad => ?_)
    refine Nx.next ?_; refine Ex.nil ?_; refine Nx.next ?_; refine Ex.nil ?_; refine Done.next ?_
    exact hC _ _
  | false =>
    refine Ex.cons ?_; refine Sx.if_ ?_; refine Is.plain ?_ (fun _ _ => rfl); refine Ev.name (memI 2 rfl) ?_; refine ⟨_, rfl, ?_⟩; refine ⟨(by intro z; cases z), ?_⟩; intro _; refine Ex.cons ?_; refine Sx.expr ?_ (fun _ => rfl); refine Ev.callG 220 (by kernel_rfl) (by kernel_rfl) hs rfl (by kernel_rfl) ?_ (fun _ => rfl) (fun _ => rfl) (fun _ => rfl); refine Ars.more ?_ (fun _ => rfl); refine Ev.name (memI 0 rfl) ?_; refine Ars.more ?_ (fun _ => rfl); refine Ev.name (memI 1 rfl) ?_; refine Ars.more ?_ (fun _ => rfl); refine Ev.bool ?_; refine Ars.nil ?_; refine ⟨Or.inl rfl, ?_⟩; refine ⟨Or.inl rfl, ?_⟩; refine ⟨Or.inl rfl, ?_⟩
    refine FS.mono (by (clear hz hn; omega)) (kill_new_spec hz fun ad dad => ?_)
    refine Nx.next ?_; refine Ex.nil ?_; refine Nx.next ?_; refine Ex.nil ?_; refine Done.next ?_
    exact hC _ _
theorem sl_len (T : List Int) (i j : Int) : (sl T i j).length ≤ T.length := by
  unfold sl
  rw [List.length_take, List.length_drop]
  omega
theorem copy_region_spec (t : Txt x T) {i j : Int} {goes : Bool} (hzv : x.zv = T.length + 1) (h0 : 1 ≤ i) (h1 : i ≤ x.zv) (h2 : 1 ≤ j) (h3 : j ≤ x.zv) (hT : T.length ≤ 50000) (hz : x.R.length ≤ 100) (hp : ∀ p ∈ x.R, p.length ≤ 50000)
    (hC : ∀ ad dad, C .none (wd ad dad { x with R := saved x.R (sl T (min i j - 1) (max i j - 1)) goes (decide (j < i)), ptr := 0 })) : FS 6 (.ref 471) [.role .buf, .role .ring, .int i, .int j, .bool goes] (wd ad dad x) C := by
  refine FS.enter (n := 5) (q := "copy_region") (ds := []) (fun K k => k.f471) [(Str.ofString "buffer", .role .buf), (Str.ofString "ring", .role .ring), (Str.ofString "start", .int i), (Str.ofString "end", .int j), (Str.ofString "goes_on", .bool goes)] [] [] rfl ?hb (fun _ _ _ => .nil) (by rfl) (by kernel_rfl) ?H
  case hb => intro dV doc pm ct an s vs hl hd; subst hd; obtain ⟨a, b, c, d, e, e0⟩ := len5 hl; subst e0; exact BindsTo.of_eq rfl
  intro c hnn hs
  refine Ex.cons ?_; refine Sx.unpack2 hs rfl rfl (by kernel_rfl) (by kernel_rfl) rfl rfl rfl ?_ (fun _ => rfl) (fun _ => rfl); refine Ev.callG 55 (by kernel_rfl) (by kernel_rfl) hs rfl (by kernel_rfl) ?_ (fun _ => rfl) (fun _ => rfl) (fun _ => rfl); refine Ars.more ?_ (fun _ => rfl); refine Ev.name (memI 0 rfl) ?_; refine Ars.more ?_ (fun _ => rfl); refine Ev.name (memI 2 rfl) ?_; refine Ars.more ?_ (fun _ => rfl); refine Ev.name (memI 3 rfl) ?_; refine Ars.nil ?_; refine ⟨Or.inl rfl, ?_⟩; refine ⟨Or.inl rfl, ?_⟩; refine ⟨Or.inl rfl, ?_⟩
  refine FS.mono (by (clear hzv h0 h1 h2 h3 hT hz; omega)) (reached_spec h0 h1 h2 h3 ?_)
  refine ⟨_, _, rfl, ?_⟩; refine Nx.next ?_; refine Ex.cons ?_; refine Sx.expr ?_ (fun _ => rfl); refine Ev.callG 464 (by kernel_rfl) (by kernel_rfl) hs rfl (by kernel_rfl) ?_ (fun _ => rfl) (fun _ => rfl) (fun _ => rfl); refine Ars.more ?_ (fun _ => rfl); refine Ev.name (memI 3 rfl) ?_; refine Ars.more ?_ (fun _ => rfl); refine Ev.callG 452 (by kernel_rfl) (by kernel_rfl) hs rfl (by kernel_rfl) ?_ (fun _ => rfl) (fun _ => rfl) (fun _ => rfl); refine Ars.more ?_ (fun _ => rfl); refine Ev.name (memI 2 rfl) ?_; refine Ars.more ?_ (fun _ => rfl); refine Ev.name (memI 1 rfl) ?_; refine Ars.more ?_ (fun _ => rfl); refine Ev.name (memI 0 rfl) ?_; refine Ars.nil ?_; refine ⟨Or.inl rfl, ?_⟩; refine ⟨Or.inl rfl, ?_⟩; refine ⟨Or.inl rfl, ?_⟩
  refine FS.mono (by (clear hzv h0 h1 h2 h3 hT hz; omega)) (piece_of_spec t (by (clear hzv h1 h3 hT hz hnn; omega)) (by (clear hzv h0 h1 h2 h3 hT hz hnn; omega)) (by (clear h0 h2 hT hz hnn; omega)) fun ad dad => ?_)
  refine Ars.more ?_ (fun _ => rfl); refine Ev.name (memI 6 rfl) ?_; refine Ars.more ?_ (fun _ => rfl); refine Ev.cmp ?_ rfl; refine Ev.name (memI 5 rfl) ?_; refine ⟨rfl, ?_⟩; refine Ev.name (memI 4 rfl) ?_; refine Cmp.lt ?_; refine Ars.nil ?_; refine ⟨Or.inl rfl, ?_⟩; refine ⟨Or.inl rfl, ?_⟩; refine ⟨Or.inl rfl, ?_⟩; refine ⟨Or.inl rfl, ?_⟩
  refine FS.mono (by (clear hzv h0 h1 h2 h3 hT hz; omega)) (save_kill_spec hz hp (Nat.le_trans (sl_len _ _ _) hT) fun ad dad => ?_)
  refine Nx.next ?_; refine Ex.nil ?_; refine Done.next ?_
  exact hC _ _
end
section
variable {ad dad : Role → Addr} {x : AS} {T : List Int} {C : SV → Wd → Prop}
theorem Bf.cast {y : AS} (t : Bf x T) (h1 : y.cells = x.cells) (h2 : y.gs = x.gs) (h3 : y.ge = x.ge) (h4 : y.rw = x.rw) (h5 : y.mx = x.mx) (h6 : y.bm = x.bm) (h7 : y.mb = x.mb) (h8 : y.zv = x.zv) (h9 : y.p = x.p) : Bf y T :=
  ⟨t.toTxt.cast h1 h2 h3, ⟨by rw [h4, h5]; exact t.r, by rw [h6, h5]; exact t.m, by rw [h7, h5]; exact t.b⟩, by rw [h8]; exact t.z, by rw [h9]; exact t.p0, by rw [h9, h8]; exact t.p1⟩
/-- the ring behind a kill -/
noncomputable def killed (T : List Int) (R : List (List Int)) (i j : Int) (goes : Bool) : List (List Int) :=
  if min i j < max i j ∨ goes = true then saved R (sl T (min i j - 1) (max i j - 1)) goes (decide (j < i)) else R
/-- the ring's pointer behind a kill -/
noncomputable def killedP (p i j : Int) (goes : Bool) : Int := if min i j < max i j ∨ goes = true then 0 else p
theorem kill_region_spec (t : Bf x T) {i j : Int} {goes : Bool} (hro : x.ro = false) (h0 : 1 ≤ i) (h1 : i ≤ x.zv) (h2 : 1 ≤ j) (h3 : j ≤ x.zv) (hT : T.length ≤ 50000) (hz : x.R.length ≤ 100) (hp : ∀ p ∈ x.R, p.length ≤ 50000)
    (hC : ∀ ad dad (y : AS), Bf y (out T (min i j - 1) (max i j - 1)) → y.p = (if min i j < x.p then max (min i j) (x.p - (max i j - min i j)) else x.p) → y.mx = x.mx → Same { x with R := killed T x.R i j goes, ptr := killedP x.ptr i j goes } y → C .none (wd ad dad y)) : FS 6 (.ref 478) [.role .buf, .role .ring, .int i, .int j, .bool goes] (wd ad dad x) C := by
  refine FS.enter (n := 5) (q := "kill_region") (ds := []) (fun K k => k.f478) [(Str.ofString "buffer", .role .buf), (Str.ofString "ring", .role .ring), (Str.ofString "start", .int i), (Str.ofString "end", .int j), (Str.ofString "goes_on", .bool goes)] [] [] rfl ?hb (fun _ _ _ => .nil) (by rfl) (by kernel_rfl) ?H
  case hb => intro dV doc pm ct an s vs hl hd; subst hd; obtain ⟨a, b, c, d, e, e0⟩ := len5 hl; subst e0; exact BindsTo.of_eq rfl
  intro c hnn hs
  have z := t.z
  refine Ex.cons ?_; refine Sx.unpack2 hs rfl rfl (by kernel_rfl) (by kernel_rfl) rfl rfl rfl ?_ (fun _ => rfl) (fun _ => rfl); refine Ev.callG 55 (by kernel_rfl) (by kernel_rfl) hs rfl (by kernel_rfl) ?_ (fun _ => rfl) (fun _ => rfl) (fun _ => rfl); refine Ars.more ?_ (fun _ => rfl); refine Ev.name (memI 0 rfl) ?_; refine Ars.more ?_ (fun _ => rfl); refine Ev.name (memI 2 rfl) ?_; refine Ars.more ?_ (fun _ => rfl); refine Ev.name (memI 3 rfl) ?_; refine Ars.nil ?_; refine ⟨Or.inl rfl, ?_⟩; refine ⟨Or.inl rfl, ?_⟩; refine ⟨Or.inl rfl, ?_⟩
  refine FS.mono (by (clear h0 h1 h2 h3 hT hz z; omega)) (reached_spec h0 h1 h2 h3 ?_)
  refine ⟨_, _, rfl, ?_⟩; refine Nx.next ?_; refine Ex.cons ?_
  refine Sx.imp (D' := fun fl l' W' => ∃ ad dad, fl = .next ∧ l' = [(Str.ofString "high", .int (max i j)), (Str.ofString "low", .int (min i j)), (Str.ofString "buffer", .role .buf), (Str.ofString "ring", .role .ring), (Str.ofString "start", .int i), (Str.ofString "end", .int j), (Str.ofString "goes_on", .bool goes)] ∧ W' = wd ad dad { x with R := killed T x.R i j goes, ptr := killedP x.ptr i j goes }) ?_ ?_
  · have save : (min i j < max i j ∨ goes = true) → ∀ ad dad, wd ad dad { x with R := saved x.R (sl T (min i j - 1) (max i j - 1)) goes (decide (j < i)), ptr := 0 } = wd ad dad { x with R := killed T x.R i j goes, ptr := killedP x.ptr i j goes } := fun h ad dad => by unfold killed killedP; rw [if_pos h, if_pos h]
    refine Sx.if_ ?_; refine Is.or ?_; refine TB.or ?_; refine Is.cmp ?_ rfl; refine Ev.name (memI 1 rfl) ?_; refine ⟨rfl, ?_⟩; refine Ev.name (memI 0 rfl) ?_; refine Cmp.lt ?_; refine ⟨_, rfl, ?_⟩
    refine ⟨fun h => ?_, fun h => ?_⟩ <;> simp only [decide_eq_true_eq, decide_eq_false_iff_not] at h
    · refine ⟨?_, (by intro z; cases z)⟩; intro _; refine Ex.cons ?_; refine Sx.expr ?_ (fun _ => rfl); refine Ev.callG 464 (by kernel_rfl) (by kernel_rfl) hs rfl (by kernel_rfl) ?_ (fun _ => rfl) (fun _ => rfl) (fun _ => rfl); refine Ars.more ?_ (fun _ => rfl); refine Ev.name (memI 3 rfl) ?_; refine Ars.more ?_ (fun _ => rfl); refine Ev.callG 452 (by kernel_rfl) (by kernel_rfl) hs rfl (by kernel_rfl) ?_ (fun _ => rfl) (fun _ => rfl) (fun _ => rfl); refine Ars.more ?_ (fun _ => rfl); refine Ev.name (memI 2 rfl) ?_; refine Ars.more ?_ (fun _ => rfl); refine Ev.name (memI 1 rfl) ?_; refine Ars.more ?_ (fun _ => rfl); refine Ev.name (memI 0 rfl) ?_; refine Ars.nil ?_; refine ⟨Or.inl rfl, ?_⟩; refine ⟨Or.inl rfl, ?_⟩; refine ⟨Or.inl rfl, ?_⟩
      refine FS.mono (by (clear h0 h1 h2 h3 hT hz z save h; omega)) (piece_of_spec t.toTxt (by (clear h1 h3 hT hz hnn z save h; omega)) (by (clear h0 h1 h2 h3 hT hz hnn z save h; omega)) (by (clear h0 h2 hT hz hnn save h; omega)) fun ad dad => ?_)
      refine Ars.more ?_ (fun _ => rfl); refine Ev.name (memI 6 rfl) ?_; refine Ars.more ?_ (fun _ => rfl); refine Ev.cmp ?_ rfl; refine Ev.name (memI 5 rfl) ?_; refine ⟨rfl, ?_⟩; refine Ev.name (memI 4 rfl) ?_; refine Cmp.lt ?_; refine Ars.nil ?_; refine ⟨Or.inl rfl, ?_⟩; refine ⟨Or.inl rfl, ?_⟩; refine ⟨Or.inl rfl, ?_⟩; refine ⟨Or.inl rfl, ?_⟩
      refine FS.mono (by (clear h0 h1 h2 h3 hT hz z save h; omega)) (save_kill_spec hz hp (Nat.le_trans (sl_len _ _ _) hT) fun ad dad => ?_)
      rw [save (.inl h)]
      refine Nx.next ?_; refine Ex.nil ?_
      exact ⟨_, _, rfl, rfl, rfl⟩
    · cases goes with
      | true =>
        refine TB.or ?_; refine Is.plain ?_ (fun _ _ => rfl); refine Ev.name (memI 6 rfl) ?_; refine ⟨_, rfl, ?_⟩; refine ⟨?_, (by intro z; cases z)⟩; intro _; refine ⟨?_, (by intro z; cases z)⟩; intro _; refine Ex.cons ?_; refine Sx.expr ?_ (fun _ => rfl); refine Ev.callG 464 (by kernel_rfl) (by kernel_rfl) hs rfl (by kernel_rfl) ?_ (fun _ => rfl) (fun _ => rfl) (fun _ => rfl); refine Ars.more ?_ (fun _ => rfl); refine Ev.name (memI 3 rfl) ?_; refine Ars.more ?_ (fun _ => rfl); refine Ev.callG 452 (by kernel_rfl) (by kernel_rfl) hs rfl (by kernel_rfl) ?_ (fun _ => rfl) (fun _ => rfl) (fun _ => rfl); refine Ars.more ?_ (fun _ => rfl); refine Ev.name (memI 2 rfl) ?_; refine Ars.more ?_ (fun _ => rfl); refine Ev.name (memI 1 rfl) ?_; refine Ars.more ?_ (fun _ => rfl); refine Ev.name (memI 0 rfl) ?_; refine Ars.nil ?_; refine ⟨Or.inl rfl, ?_⟩; refine ⟨Or.inl rfl, ?_⟩; refine ⟨Or.inl rfl, ?_⟩
        refine FS.mono (by (clear h0 h1 h2 h3 hT hz z h save; omega)) (piece_of_spec t.toTxt (by (clear h0 h1 h3 hT hz hnn z save; omega)) (by (clear h0 h1 h2 h3 hT hz hnn z h save; omega)) (by (clear h0 h2 hT hz hnn h save; omega)) fun ad dad => ?_)
        refine Ars.more ?_ (fun _ => rfl); refine Ev.name (memI 6 rfl) ?_; refine Ars.more ?_ (fun _ => rfl); refine Ev.cmp ?_ rfl; refine Ev.name (memI 5 rfl) ?_; refine ⟨rfl, ?_⟩; refine Ev.name (memI 4 rfl) ?_; refine Cmp.lt ?_; refine Ars.nil ?_; refine ⟨Or.inl rfl, ?_⟩; refine ⟨Or.inl rfl, ?_⟩; refine ⟨Or.inl rfl, ?_⟩; refine ⟨Or.inl rfl, ?_⟩
        refine FS.mono (by (clear h0 h1 h2 h3 hT hz z h save; omega)) (save_kill_spec hz hp (Nat.le_trans (sl_len _ _ _) hT) fun ad dad => ?_)
        rw [save (.inr rfl)]
        refine Nx.next ?_; refine Ex.nil ?_
        exact ⟨_, _, rfl, rfl, rfl⟩
      | false =>
        refine TB.or ?_; refine Is.plain ?_ (fun _ _ => rfl); refine Ev.name (memI 6 rfl) ?_; refine ⟨_, rfl, ?_⟩; refine ⟨(by intro z; cases z), ?_⟩; intro _; refine TB.orNil ?_; refine ⟨(by intro z; cases z), ?_⟩; intro _; refine Ex.nil ?_
        refine ⟨ad, dad, rfl, rfl, ?_⟩
        unfold killed killedP
        rw [if_neg (by simp; (clear h0 h1 h2 h3 hT hz hnn z save; omega)), if_neg (by simp; (clear h0 h1 h2 h3 hT hz hnn z save; omega))]
  · rintro fl l' W' ⟨ad, dad, rfl, rfl, rfl⟩
    have t' : Bf { x with R := killed T x.R i j goes, ptr := killedP x.ptr i j goes } T := t.cast rfl rfl rfl rfl rfl rfl rfl rfl rfl
    refine Nx.next ?_; refine Ex.cons ?_; refine Sx.expr ?_ (fun _ => rfl); refine Ev.callG 48 (by kernel_rfl) (by kernel_rfl) hs rfl (by kernel_rfl) ?_ (fun _ => rfl) (fun _ => rfl) (fun _ => rfl); refine Ars.more ?_ (fun _ => rfl); refine Ev.name (memI 2 rfl) ?_; refine Ars.nil ?_; refine ⟨Or.inl rfl, ?_⟩
    refine FS.mono (by (clear h0 h1 h2 h3 hT hz z; omega)) (need_writable_spec hro ?_)
    refine Nx.next ?_; refine Ex.cons ?_; refine Sx.expr ?_ (fun _ => rfl); refine Ev.callG 119 (by kernel_rfl) (by kernel_rfl) hs rfl (by kernel_rfl) ?_ (fun _ => rfl) (fun _ => rfl) (fun _ => rfl); refine Ars.more ?_ (fun _ => rfl); refine Ev.name (memI 2 rfl) ?_; refine Ars.more ?_ (fun _ => rfl); refine Ev.name (memI 1 rfl) ?_; refine Ars.more ?_ (fun _ => rfl); refine Ev.name (memI 0 rfl) ?_; refine Ars.nil ?_; refine ⟨Or.inl rfl, ?_⟩; refine ⟨Or.inl rfl, ?_⟩; refine ⟨Or.inl rfl, ?_⟩
    refine FS.mono (by (clear h0 h1 h2 h3 hT hz z; omega)) (delete_fn_spec t' hro (by show 1 ≤ min i j; (clear h1 h3 hT hz hnn z; omega)) (by show min i j ≤ x.zv; (clear h0 h1 h2 hT hz hnn z; omega)) (by show 1 ≤ max i j; (clear h0 h1 h3 hT hz hnn z; omega)) (by show max i j ≤ x.zv; (clear h0 h2 hT hz hnn z; omega)) fun y g b1 b2 b3 b4 b5 => ?_)
    refine Nx.next ?_; refine Ex.nil ?_; refine Done.next ?_
    have e1 : min (min i j) (max i j) = min i j := by (clear h0 h1 h2 h3 hT hz hnn z b2 b4; omega)
    have e2 : max (min i j) (max i j) = max i j := by (clear h0 h1 h2 h3 hT hz hnn z b2 b4 e1; omega)
    rw [e1, e2] at b1 b2
    exact hC _ _ y b1 b2 b3 b5
end
section
variable {ad dad : Role → Addr} {x : AS} {T : List Int} {C : SV → Wd → Prop}
/-- a marker set leaves the buffer sound -/
theorem Bf.marked {y : AS} (t : Bf x T) (h1 : y.cells = x.cells) (h2 : y.gs = x.gs) (h3 : y.ge = x.ge) (h4 : y.rw = true) (h5 : y.mx = true) (h6 : y.bm = true) (h7 : y.mb = true) (h8 : y.zv = x.zv) (h0 : 1 ≤ y.p) (h9 : y.p ≤ x.zv) : Bf y T :=
  ⟨t.toTxt.cast h1 h2 h3, ⟨by rw [h4, h5], by rw [h6, h5], by rw [h7, h5]⟩, by rw [h8]; exact t.z, h0, by rw [h8]; exact h9⟩
/-- which piece is the ring's -/
noncomputable def at_ (x : AS) (i : Int) : Int := (x.ptr + i).fmod x.R.length
noncomputable def pieceAt (x : AS) (i : Int) : List Int := x.R.getD (at_ x i).toNat []
theorem yank_spec (t : Bf x T) {i : Int} {sw : Bool} (hro : x.ro = false) (hm : x.mx = false) (h0 : x.R ≠ []) (hz : x.R.length ≤ 100) (hT : T.length ≤ 40000) (hU : (pieceAt x (i - 1)).length ≤ 40000)
    (hC : ∀ ad dad (y : AS), Bf y (put T (x.p - 1) (pieceAt x (i - 1))) → y.mx = true → y.p = (if sw = true then x.p else x.p + (pieceAt x (i - 1)).length) → y.mp = (if sw = true then x.p + (pieceAt x (i - 1)).length else x.p) → Same { x with ptr := at_ x (i - 1) } y → C .none (wd ad dad y)) : FS 7 (.ref 492) [.role .buf, .role .ring, .role .mrk, .int i, .bool sw, .lst []] (wd ad dad x) C := by
  refine FS.enter (n := 6) (q := "yank") (ds := []) (fun K k => k.f492) [(Str.ofString "buffer", .role .buf), (Str.ofString "ring", .role .ring), (Str.ofString "marks", .role .mrk), (Str.ofString "count", .int i), (Str.ofString "is_swapped", .bool sw), (Str.ofString "excluded", .lst [])] [] [] rfl ?hb (fun _ _ _ => .nil) (by rfl) (by kernel_rfl) ?H
  case hb => intro dV doc pm ct an s vs hl hd; subst hd; obtain ⟨a, b, c, d, e, f, e0⟩ := len6 hl; subst e0; exact BindsTo.of_eq rfl
  intro c hnn hs
  have z := t.z
  have p0 := t.p0
  have p1 := t.p1
  refine Ex.cons ?_; refine Sx.expr ?_ (fun _ => rfl); refine Ev.callG 48 (by kernel_rfl) (by kernel_rfl) hs rfl (by kernel_rfl) ?_ (fun _ => rfl) (fun _ => rfl) (fun _ => rfl); refine Ars.more ?_ (fun _ => rfl); refine Ev.name (memI 0 rfl) ?_; refine Ars.nil ?_; refine ⟨Or.inl rfl, ?_⟩
  refine FS.mono (by (clear h0 hz hT hU z p0 p1; omega)) (need_writable_spec hro ?_)
  refine Nx.next ?_; refine Ex.cons ?_; refine Sx.assignNew hs rfl (by kernel_rfl) rfl ?_ (fun _ => rfl); refine Ev.callG 234 (by kernel_rfl) (by kernel_rfl) hs rfl (by kernel_rfl) ?_ (fun _ => rfl) (fun _ => rfl) (fun _ => rfl); refine Ars.more ?_ (fun _ => rfl); refine Ev.name (memI 1 rfl) ?_; refine Ars.more ?_ (fun _ => rfl); refine Ev.bin ?_; refine Ev.name (memI 3 rfl) ?_; refine ⟨rfl, ?_⟩; refine Ev.int ?_; refine Bin.sub ?_; refine Ars.more ?_ (fun _ => rfl); refine Ev.bool ?_; refine Ars.nil ?_; refine ⟨Or.inl rfl, ?_⟩; refine ⟨Or.inl rfl, ?_⟩; refine ⟨Or.inl rfl, ?_⟩
  refine FS.mono (by (clear h0 hz hT hU z p0 p1; omega)) (current_kill_spec h0 hz ?_)
  refine ⟨rfl, ?_⟩; refine Nx.next ?_; refine Ex.cons ?_; refine Sx.expr ?_ (fun _ => rfl); refine Ev.callG 442 (by kernel_rfl) (by kernel_rfl) hs rfl (by kernel_rfl) ?_ (fun _ => rfl) (fun _ => rfl) (fun _ => rfl); refine Ars.more ?_ (fun _ => rfl); refine Ev.name (memI 3 rfl) ?_; refine Ars.more ?_ (fun _ => rfl); refine Ev.name (memI 1 rfl) ?_; refine Ars.more ?_ (fun _ => rfl); refine Ev.attr ?_ (fun _ => rfl); refine Ev.name (memI 1 rfl) ?_; refine Get.buf_point ?_; refine Ars.nil ?_; refine ⟨Or.inl rfl, ?_⟩; refine ⟨Or.inl rfl, ?_⟩; refine ⟨Or.inl rfl, ?_⟩
  refine FS.mono (k := 5) (by (clear h0 hz hT hU z p0 p1; omega)) ?_
  dsimp only
  refine push_mark_spec (x := { x with ptr := at_ x (i - 1) }) (T := T) ?t1 ?t2 hm p0 (by (clear h0 hz hT hU hnn p0; omega)) fun ad dad => ?_
  case t1 => exact t.toTxt.cast rfl rfl rfl
  case t2 => exact ⟨t.r, t.m, t.b⟩
  refine Nx.next ?_; refine Ex.cons ?_; refine Sx.expr ?_ (fun _ => rfl); refine Ev.callG 457 (by kernel_rfl) (by kernel_rfl) hs rfl (by kernel_rfl) ?_ (fun _ => rfl) (fun _ => rfl) (fun _ => rfl); refine Ars.more ?_ (fun _ => rfl); refine Ev.name (memI 1 rfl) ?_; refine Ars.more ?_ (fun _ => rfl); refine Ev.callG 192 (by kernel_rfl) (by kernel_rfl) hs rfl (by kernel_rfl) ?_ (fun _ => rfl) (fun _ => rfl) (fun _ => rfl); refine Ars.more ?_ (fun _ => rfl); refine Ev.name (memI 0 rfl) ?_; refine Ars.more ?_ (fun _ => rfl); refine Ev.name (memI 6 rfl) ?_; refine Ars.nil ?_; refine ⟨Or.inl rfl, ?_⟩; refine ⟨Or.inl rfl, ?_⟩
  refine FS.mono (by (clear h0 hz hT hU z p0 p1; omega)) (piece_without_spec (by have := hU; show (pieceAt x (i - 1)).length ≤ _; (clear h0 hz hT hnn z p0 p1 this; omega)) fun ad dad => ?_)
  refine Ars.nil ?_; refine ⟨Or.inl rfl, ?_⟩; refine ⟨Or.inl rfl, ?_⟩
  refine FS.mono (k := 6) (by (clear h0 hz hT hU z p0 p1; omega)) ?_
  refine insert_piece_spec (T := T) ?t1 hro ?t2 fun y b1 b2 b3 b4 b5 => ?_
  case t1 => exact t.marked rfl rfl rfl rfl rfl rfl rfl rfl p0 p1
  case t2 => have := hU; show T.length + (pieceAt x (i - 1)).length ≤ _; (clear h0 hz hnn z p0 p1 this; omega)
  have b4 := b4 rfl
  dsimp only at b1 b2 b3 b4 b5
  rw [if_neg (Int.lt_irrefl _)] at b4
  have sm : Same { x with ptr := at_ x (i - 1) } y := ⟨b5.ro, b5.kx, b5.ptr, b5.R, b5.bigs, b5.dcs, b5.dk⟩
  have pl := put_len (T := T) (a := x.p - 1) (U := pieceAt x (i - 1)) (by (clear h0 hz hT hU hnn z p1 b2 b4; omega)) (by (clear h0 hz hT hU hnn p0 b2 b4; omega))
  have b1 : Bf y (put T (x.p - 1) (pieceAt x (i - 1))) := b1
  have yz := b1.z
  have b2 : y.p = x.p + (pieceAt x (i - 1)).length := b2
  cases sw with
  | true =>
    refine Nx.next ?_; refine Ex.cons ?_; refine Sx.if_ ?_; refine Is.plain ?_ (fun _ _ => rfl); refine Ev.name (memI 5 rfl) ?_; refine ⟨_, rfl, ?_⟩; refine ⟨?_, (by intro z; cases z)⟩; intro _; refine Ex.cons ?_; refine Sx.expr ?_ (fun _ => rfl); refine Ev.callG 485 (by kernel_rfl) (by kernel_rfl) hs rfl (by kernel_rfl) ?_ (fun _ => rfl) (fun _ => rfl) (fun _ => rfl); refine Ars.more ?_ (fun _ => rfl); refine Ev.name (memI 1 rfl) ?_; refine Ars.nil ?_; refine ⟨Or.inl rfl, ?_⟩
    refine FS.mono (by (clear h0 hz hT hU z p0 p1 b4 pl yz b2; omega)) (swap_spec b1 b3 (by (clear h0 hz hT hU hnn z p1 pl yz b2; omega)) (by rw [b4]; (clear h0 hz hT hU hnn p0 b4 b2; omega)) fun ad dad => ?_)
    refine Nx.next ?_; refine Ex.nil ?_; refine Nx.next ?_; refine Ex.nil ?_; refine Done.next ?_
    refine hC _ _ _ (b1.marked rfl rfl rfl rfl rfl rfl rfl rfl (by dsimp only; (clear h0 hz hT hU hnn z p1 pl yz b2; omega)) (by dsimp only; (clear h0 hz hT hU hnn p0 b2; omega))) rfl ?_ ?_ ⟨sm.ro, sm.kx, sm.ptr, sm.R, sm.bigs, sm.dcs, sm.dk⟩
    · rw [if_pos rfl]; exact b4
    · rw [if_pos rfl]; exact b2
  | false =>
    refine Nx.next ?_; refine Ex.cons ?_; refine Sx.if_ ?_; refine Is.plain ?_ (fun _ _ => rfl); refine Ev.name (memI 5 rfl) ?_; refine ⟨_, rfl, ?_⟩; refine ⟨(by intro z; cases z), ?_⟩; intro _; refine Ex.nil ?_; refine Nx.next ?_; refine Ex.nil ?_; refine Done.next ?_
    refine hC _ _ y b1 b3 ?_ ?_ sm
    · rw [if_neg (by decide)]; exact b2
    · rw [if_neg (by decide)]; exact b4
/-- what stands behind a yank-pop -/
theorem yank_pop_spec (t : Bf x T) {i : Int} (hro : x.ro = false) (hm : x.mx = true) (m0 : 1 ≤ x.mp) (m1 : x.mp ≤ x.zv) (h0 : x.R ≠ []) (hz : x.R.length ≤ 100) (hT : T.length ≤ 40000) (hU : (pieceAt x i).length ≤ 40000)
    (hC : ∀ ad dad (y : AS), Bf y (put (out T (min x.p x.mp - 1) (max x.p x.mp - 1)) (min x.p x.mp - 1) (pieceAt x i)) → y.mx = true → y.p = (if x.p < x.mp then min x.p x.mp else min x.p x.mp + (pieceAt x i).length) → y.mp = (if x.p < x.mp then min x.p x.mp + (pieceAt x i).length else min x.p x.mp) → Same { x with ptr := at_ x i } y → C .none (wd ad dad y)) : FS 7 (.ref 499) [.role .buf, .role .ring, .int i, .lst []] (wd ad dad x) C := by
  refine FS.enter (n := 6) (q := "yank_pop") (ds := []) (fun K k => k.f499) [(Str.ofString "buffer", .role .buf), (Str.ofString "ring", .role .ring), (Str.ofString "count", .int i), (Str.ofString "excluded", .lst [])] [] [] rfl ?hb (fun _ _ _ => .nil) (by rfl) (by kernel_rfl) ?H
  case hb => intro dV doc pm ct an s vs hl hd; subst hd; obtain ⟨a, b, c, d, e0⟩ := len4 hl; subst e0; exact BindsTo.of_eq rfl
  intro c hnn hs
  have z := t.z
  have p0 := t.p0
  have p1 := t.p1
  refine Ex.cons ?_; refine Sx.expr ?_ (fun _ => rfl); refine Ev.callG 48 (by kernel_rfl) (by kernel_rfl) hs rfl (by kernel_rfl) ?_ (fun _ => rfl) (fun _ => rfl) (fun _ => rfl); refine Ars.more ?_ (fun _ => rfl); refine Ev.name (memI 0 rfl) ?_; refine Ars.nil ?_; refine ⟨Or.inl rfl, ?_⟩
  refine FS.mono (by (clear m0 m1 h0 hz hT hU z p0 p1; omega)) (need_writable_spec hro ?_)
  refine Nx.next ?_; refine Ex.cons ?_; refine Sx.assignNew hs rfl (by kernel_rfl) rfl ?_ (fun _ => rfl); refine Ev.callG 428 (by kernel_rfl) (by kernel_rfl) hs rfl (by kernel_rfl) ?_ (fun _ => rfl) (fun _ => rfl) (fun _ => rfl); refine Ars.more ?_ (fun _ => rfl); refine Ev.name (memI 0 rfl) ?_; refine Ars.nil ?_; refine ⟨Or.inl rfl, ?_⟩
  refine FS.mono (by (clear m0 m1 h0 hz hT hU z p0 p1; omega)) (mark_place_spec t.toMk hm ?_)
  refine ⟨rfl, ?_⟩; refine Nx.next ?_; refine Ex.cons ?_; refine Sx.assignNew hs rfl (by kernel_rfl) rfl ?_ (fun _ => rfl); refine Ev.cmp ?_ rfl; refine Ev.attr ?_ (fun _ => rfl); refine Ev.name (memI 1 rfl) ?_; refine Get.buf_point ?_; refine ⟨rfl, ?_⟩; refine Ev.name (memI 0 rfl) ?_; refine Cmp.lt ?_; refine ⟨rfl, ?_⟩; refine Nx.next ?_; refine Ex.cons ?_; refine Sx.assignNew hs rfl (by kernel_rfl) rfl ?_ (fun _ => rfl); refine Ev.callG 234 (by kernel_rfl) (by kernel_rfl) hs rfl (by kernel_rfl) ?_ (fun _ => rfl) (fun _ => rfl) (fun _ => rfl); refine Ars.more ?_ (fun _ => rfl); refine Ev.name (memI 3 rfl) ?_; refine Ars.more ?_ (fun _ => rfl); refine Ev.name (memI 4 rfl) ?_; refine Ars.more ?_ (fun _ => rfl); refine Ev.bool ?_; refine Ars.nil ?_; refine ⟨Or.inl rfl, ?_⟩; refine ⟨Or.inl rfl, ?_⟩; refine ⟨Or.inl rfl, ?_⟩
  refine FS.mono (by (clear m0 m1 h0 hz hT hU z p0 p1; omega)) (current_kill_spec h0 hz ?_)
  refine ⟨rfl, ?_⟩; refine Nx.next ?_; refine Ex.cons ?_; refine Sx.expr ?_ (fun _ => rfl); refine Ev.callG 119 (by kernel_rfl) (by kernel_rfl) hs rfl (by kernel_rfl) ?_ (fun _ => rfl) (fun _ => rfl) (fun _ => rfl); refine Ars.more ?_ (fun _ => rfl); refine Ev.name (memI 3 rfl) ?_; refine Ars.more ?_ (fun _ => rfl); refine Ev.attr ?_ (fun _ => rfl); refine Ev.name (memI 3 rfl) ?_; refine Get.buf_point ?_; refine Ars.more ?_ (fun _ => rfl); refine Ev.name (memI 2 rfl) ?_; refine Ars.nil ?_; refine ⟨Or.inl rfl, ?_⟩; refine ⟨Or.inl rfl, ?_⟩; refine ⟨Or.inl rfl, ?_⟩
  dsimp only
  refine FS.mono (k := 4) (by (clear m0 m1 h0 hz hT hU z p0 p1; omega)) ?_
  refine delete_fn_spec (x := { x with ptr := at_ x i }) (T := T) ?t1 hro p0 p1 m0 m1 fun y g b1 b2 b3 b4 b5 => ?_
  case t1 => exact t.cast rfl rfl rfl rfl rfl rfl rfl rfl rfl
  have b4 := b4 hm
  dsimp only at b1 b2 b3 b4 b5
  generalize hlo : min x.p x.mp = lo at *
  generalize hhi : max x.p x.mp = hi at *
  have ol := out_len (T := T) (i := lo - 1) (j := hi - 1) (by (clear m1 h0 hz hT hU hnn z p1 hhi b2 b4; omega)) (by (clear m0 m1 h0 hz hT hU hnn z p0 p1 b2 b4; omega)) (by (clear m0 h0 hz hT hU hnn p0 hlo b2 b4; omega))
  have yz := b1.z
  have yp : y.p = lo := by rw [b2]; clear ol yz b4 b2 m0 m1 hT hz z p0 p1 hU; split <;> omega
  have ym : y.mp = lo := by rw [b4]; clear ol yz b4 b2 m0 m1 hT hz z p0 p1 hU; split <;> (try split) <;> omega
  refine Nx.next ?_; refine Ex.cons ?_; refine Sx.expr ?_ (fun _ => rfl); refine Ev.callG 414 (by kernel_rfl) (by kernel_rfl) hs rfl (by kernel_rfl) ?_ (fun _ => rfl) (fun _ => rfl) (fun _ => rfl); refine Ars.more ?_ (fun _ => rfl); refine Ev.name (memI 3 rfl) ?_; refine Ars.more ?_ (fun _ => rfl); refine Ev.attr ?_ (fun _ => rfl); refine Ev.name (memI 3 rfl) ?_; refine Get.buf_point ?_; refine Ars.nil ?_; refine ⟨Or.inl rfl, ?_⟩; refine ⟨Or.inl rfl, ?_⟩
  refine FS.mono (k := 4) (by (clear m0 m1 h0 hz hT hU z p0 p1 hlo hhi b2 b4 ol yz yp ym; omega)) ?_
  refine set_mark_spec b1.toTxt b1.toMk (by (clear m1 h0 hz hT hU hnn z p1 hhi b2 b4 ol yz ym; omega)) (by (clear m0 h0 hz hT hU hnn p0 hlo b2 b4 yz ym; omega)) fun ad dad => ?_
  refine Nx.next ?_; refine Ex.cons ?_; refine Sx.expr ?_ (fun _ => rfl); refine Ev.callG 457 (by kernel_rfl) (by kernel_rfl) hs rfl (by kernel_rfl) ?_ (fun _ => rfl) (fun _ => rfl) (fun _ => rfl); refine Ars.more ?_ (fun _ => rfl); refine Ev.name (memI 3 rfl) ?_; refine Ars.more ?_ (fun _ => rfl); refine Ev.callG 192 (by kernel_rfl) (by kernel_rfl) hs rfl (by kernel_rfl) ?_ (fun _ => rfl) (fun _ => rfl) (fun _ => rfl); refine Ars.more ?_ (fun _ => rfl); refine Ev.name (memI 0 rfl) ?_; refine Ars.more ?_ (fun _ => rfl); refine Ev.name (memI 6 rfl) ?_; refine Ars.nil ?_; refine ⟨Or.inl rfl, ?_⟩; refine ⟨Or.inl rfl, ?_⟩
  refine FS.mono (by (clear m0 m1 h0 hz hT hU z p0 p1 hlo hhi b2 b4 ol yz yp ym; omega)) (piece_without_spec (by have := hU; show (pieceAt x i).length ≤ _; (clear m0 m1 h0 hz hT hnn z p0 p1 hlo hhi b2 b4 ol yz yp ym this; omega)) fun ad dad => ?_)
  refine Ars.nil ?_; refine ⟨Or.inl rfl, ?_⟩; refine ⟨Or.inl rfl, ?_⟩
  refine FS.mono (k := 6) (by (clear m0 m1 h0 hz hT hU z p0 p1 hlo hhi b2 b4 ol yz yp ym; omega)) ?_
  refine insert_piece_spec (T := out T (lo - 1) (hi - 1)) ?t1 (b5.ro.trans hro) ?t2 fun w d1 d2 d3 d4 d5 => ?_
  case t1 => exact b1.marked rfl rfl rfl rfl rfl rfl rfl rfl (by dsimp only; (clear m1 h0 hz hT hU hnn z p1 hhi b2 b4 ol yz ym; omega)) (by dsimp only; (clear m0 h0 hz hT hU hnn p0 hlo b2 b4 ym; omega))
  case t2 => have := hU; show (out T (lo - 1) (hi - 1)).length + (pieceAt x i).length ≤ _; (clear m0 m1 h0 hz hnn z p0 p1 hlo hhi b2 yz yp this; omega)
  have d4 := d4 rfl
  dsimp only at d1 d2 d3 d4 d5
  rw [if_neg (Int.lt_irrefl _)] at d4
  have sm : Same { x with ptr := at_ x i } w := ⟨d5.ro.trans b5.ro, d5.kx.trans b5.kx, d5.ptr.trans b5.ptr, d5.R.trans b5.R, d5.bigs.trans b5.bigs, d5.dcs.trans b5.dcs, d5.dk.trans b5.dk⟩
  rw [yp] at d1 d2 d4
  have d1 : Bf w (put (out T (lo - 1) (hi - 1)) (lo - 1) (pieceAt x i)) := d1
  have d2 : w.p = lo + (pieceAt x i).length := d2
  have pl := put_len (T := out T (lo - 1) (hi - 1)) (a := lo - 1) (U := pieceAt x i) (by (clear m1 h0 hz hT hU hnn z p1 hhi b2 b4 ol yz yp ym d4 d2; omega)) (by (clear m0 h0 hz hT hU hnn p0 hlo b2 b4 yz yp ym d4 d2; omega))
  have wz := d1.z
  refine Nx.next ?_; refine Ex.cons ?_; refine Sx.if_ ?_; refine Is.plain ?_ (fun _ _ => rfl); refine Ev.name (memI 1 rfl) ?_; refine ⟨_, rfl, ?_⟩
  refine ⟨fun h => ?_, fun h => ?_⟩ <;> simp only [decide_eq_true_eq, decide_eq_false_iff_not] at h
  · refine Ex.cons ?_; refine Sx.expr ?_ (fun _ => rfl); refine Ev.callG 485 (by kernel_rfl) (by kernel_rfl) hs rfl (by kernel_rfl) ?_ (fun _ => rfl) (fun _ => rfl) (fun _ => rfl); refine Ars.more ?_ (fun _ => rfl); refine Ev.name (memI 3 rfl) ?_; refine Ars.nil ?_; refine ⟨Or.inl rfl, ?_⟩
    refine FS.mono (k := 5) (by (clear m0 m1 h0 hz hT hU z p0 p1 hlo hhi b2 b4 ol yz yp ym d4 d2 pl wz h; omega)) ?_
    refine swap_spec d1 d3 (by (clear m0 m1 h0 hz hT hU hnn z p1 hhi b2 b4 ol yz yp ym d2 pl wz; omega)) (by rw [d4]; (clear h0 hz hnn hlo; omega)) fun ad dad => ?_
    refine Nx.next ?_; refine Ex.nil ?_; refine Nx.next ?_; refine Ex.nil ?_; refine Done.next ?_
    refine hC _ _ _ (d1.marked rfl rfl rfl rfl rfl rfl rfl rfl (by dsimp only; (clear m0 m1 h0 hz hT hU hnn z p1 hhi b2 b4 ol yz yp ym d2 pl wz; omega)) (by dsimp only; (clear h0 hz hnn hlo; omega))) rfl ?_ ?_ ⟨sm.ro, sm.kx, sm.ptr, sm.R, sm.bigs, sm.dcs, sm.dk⟩
    · rw [if_pos h]; exact d4
    · rw [if_pos h]; exact d2
  · refine Ex.nil ?_; refine Nx.next ?_; refine Ex.nil ?_; refine Done.next ?_
    refine hC _ _ w d1 d3 ?_ ?_ sm
    · rw [if_neg h]; exact d2
    · rw [if_neg h]; exact d4
end
section
variable {C : SV → Wd → Prop} {W : Wd}
/-- a role's object is another -/
noncomputable def upd (f : Role → SO) (r : Role) (so : SO) : Role → SO := fun r' => if r' = r then so else f r'
theorem gap_init_spec (hab : W.ob .cells = .absent) (hC : ∀ W', W'.ob = upd (upd W.ob .cells (.nums (List.replicate 8 0))) .gap (.inst 586 [(Str.ofString "room", .int 8), (Str.ofString "cells", .role .cells), (Str.ofString "gap_start", .int 0), (Str.ofString "gap_end", .int 8)]) → C .none W') : FS 1 (.ref 513) [.role .gap, .lst [], .int 8] (W.put .gap (.inst 586 [])) C := by
  refine FS.enter (n := 0) (q := "GapText.__init__") (ds := []) (fun K k => k.f513) [(Str.ofString "self", .role .gap), (Str.ofString "codes", .lst []), (Str.ofString "room", .int 8)] [] [] rfl ?hb (fun _ _ _ => .nil) (by rfl) (by kernel_rfl) ?H
  case hb => intro dV doc pm ct an s vs hl hd; subst hd; obtain ⟨a, b, c, e0⟩ := len3 hl; subst e0; exact BindsTo.of_eq rfl
  intro c hn hs
  refine Ex.cons ?_; refine Sx.setattr ?_ (fun _ => rfl); refine Ev.name (memI 2 rfl) ?_; refine ⟨rfl, ?_⟩; refine Ev.name (memI 0 rfl) ?_
  refine SetA.put (A' := [(Str.ofString "room", .int 8)]) rfl (by kernel_rfl) (by simp) (by kernel_rfl) ?_
  refine Nx.next ?_; refine Ex.cons ?_
  refine Sx.setattr ?_ (fun _ => rfl)
  refine Ev.adopt .cells (Nw.cat ?_)
  refine Ev.tcall "list" (by kernel_rfl) PyProof.Rows.boot_list hs rfl (by kernel_rfl) (by decide) ?_ (fun _ => rfl) (fun _ => rfl) (fun _ => rfl); refine Ars.more ?_ (fun _ => rfl); refine Ev.name (memI 1 rfl) ?_; refine Ars.nil ?_; refine ⟨Or.inl rfl, ?_⟩
  refine TC.list (.nums .lst) (by decide) ?_
  refine Ev.bin ?_; refine Ev.list ?_; refine Ars.more ?_ (fun _ => rfl); refine Ev.int ?_; refine Ars.nil ?_; refine ⟨Or.inl rfl, ?_⟩
  refine ⟨by decide, _, Dsp.nums [0], ?_⟩
  refine ⟨rfl, ?_⟩; refine Ev.name (memI 2 rfl) ?_
  refine Bin.rep (by decide) ?_ (by decide)
  refine ⟨.inl rfl, _, _, .lst, .lst, by simp, ?_⟩
  refine ⟨?hab, _, .nums, fun a => ?_⟩
  case hab => exact hab
  refine ⟨rfl, ?_⟩; refine Ev.name (memI 0 rfl) ?_
  refine SetA.at' (A := [(Str.ofString "room", .int 8)]) (A' := [(Str.ofString "room", .int 8), (Str.ofString "cells", .role .cells)]) rfl rfl (by kernel_rfl) (by simp) (by kernel_rfl) ?_
  refine Nx.next ?_; refine Ex.cons ?_; refine Sx.setattr ?_ (fun _ => rfl); refine Ev.bcall "len" (by kernel_rfl) PySem.boot_len hs rfl (by kernel_rfl) (by decide) ?_ (fun _ => rfl) (fun _ => rfl) (fun _ => rfl); refine Ars.more ?_ (fun _ => rfl); refine Ev.name (memI 1 rfl) ?_; refine Ars.nil ?_; refine ⟨Or.inl rfl, ?_⟩
  refine BC.len (.nums .lst) ?hz ?_
  case hz => decide
  refine ⟨rfl, ?_⟩; refine Ev.name (memI 0 rfl) ?_
  refine SetA.put (A' := [(Str.ofString "room", .int 8), (Str.ofString "cells", .role .cells), (Str.ofString "gap_start", .int 0)]) rfl (by kernel_rfl) (by simp) (by kernel_rfl) ?_
  refine Nx.next ?_; refine Ex.cons ?_; refine Sx.setattr ?_ (fun _ => rfl); refine Ev.bin ?_; refine Ev.bcall "len" (by kernel_rfl) PySem.boot_len hs rfl (by kernel_rfl) (by decide) ?_ (fun _ => rfl) (fun _ => rfl) (fun _ => rfl); refine Ars.more ?_ (fun _ => rfl); refine Ev.name (memI 1 rfl) ?_; refine Ars.nil ?_; refine ⟨Or.inl rfl, ?_⟩
  refine BC.len (.nums .lst) ?hz ?_
  case hz => decide
  refine ⟨rfl, ?_⟩; refine Ev.name (memI 2 rfl) ?_; refine Bin.add ?_; refine ⟨rfl, ?_⟩; refine Ev.name (memI 0 rfl) ?_
  refine SetA.put (A' := [(Str.ofString "room", .int 8), (Str.ofString "cells", .role .cells), (Str.ofString "gap_start", .int 0), (Str.ofString "gap_end", .int 8)]) rfl (by kernel_rfl) (by simp) (by kernel_rfl) ?_
  refine Nx.next ?_; refine Ex.nil ?_; refine Done.next ?_
  refine hC _ ?_
  funext r
  cases r <;> rfl
theorem markers_init_spec (hab : W.ob .rows = .absent) (hC : ∀ W', W'.ob = upd (upd W.ob .rows (.rows false)) .marks (.inst 375 [(Str.ofString "rows", .role .rows)]) → C .none W') : FS 1 (.ref 323) [.role .marks] (W.put .marks (.inst 375 [])) C := by
  refine FS.enter (n := 0) (q := "Markers.__init__") (ds := []) (fun K k => k.f323) [(Str.ofString "self", .role .marks)] [] [] rfl ?hb (fun _ _ _ => .nil) (by rfl) (by kernel_rfl) ?H
  case hb => intro dV doc pm ct an s vs hl hd; subst hd; obtain ⟨a, e0⟩ := len1 hl; subst e0; exact BindsTo.of_eq rfl
  intro c hn hs
  refine Ex.cons ?_; refine Sx.setattr ?_ (fun _ => rfl)
  refine Ev.dict0 .rows ?hab fun a => ?_
  case hab => exact hab
  refine ⟨rfl, ?_⟩; refine Ev.name (memI 0 rfl) ?_
  refine SetA.at' (A := []) (A' := [(Str.ofString "rows", .role .rows)]) rfl rfl (by kernel_rfl) (by simp) (by kernel_rfl) ?_
  refine Nx.next ?_; refine Ex.nil ?_; refine Done.next ?_
  refine hC _ ?_
  funext r
  cases r <;> rfl
theorem ring_init_spec (hab : W.ob .pcs = .absent) (hC : ∀ W', W'.ob = upd (upd W.ob .pcs (.pieces [])) .ring (.inst 209 [(Str.ofString "most", .int 5), (Str.ofString "pieces", .role .pcs), (Str.ofString "pointer", .int 0)]) → C .none W') : FS 1 (.ref 206) [.role .ring, .int 5] (W.put .ring (.inst 209 [])) C := by
  refine FS.enter (n := 0) (q := "KillRing.__init__") (ds := []) (fun K k => k.f206) [(Str.ofString "self", .role .ring), (Str.ofString "most", .int 5)] [] [] rfl ?hb (fun _ _ _ => .nil) (by rfl) (by kernel_rfl) ?H
  case hb => intro dV doc pm ct an s vs hl hd; subst hd; obtain ⟨a, b, e0⟩ := len2 hl; subst e0; exact BindsTo.of_eq rfl
  intro c hn hs
  refine Ex.cons ?_; refine Sx.setattr ?_ (fun _ => rfl); refine Ev.name (memI 1 rfl) ?_; refine ⟨rfl, ?_⟩; refine Ev.name (memI 0 rfl) ?_
  refine SetA.put (A' := [(Str.ofString "most", .int 5)]) rfl (by kernel_rfl) (by simp) (by kernel_rfl) ?_
  refine Nx.next ?_; refine Ex.cons ?_
  refine Sx.setattrK ?_ (fun _ => rfl)
  refine Ev.adopt .pcs (Nw.list ?_)
  refine Ars.nil ?_
  refine ⟨by decide, _, Dsp.pieces [], ?_⟩
  refine ⟨?hab, _, .pieces, fun a => ?_⟩
  case hab => exact hab
  refine Ev.name (memI 0 rfl) ?_; refine ⟨Or.inr ⟨⟨_, rfl⟩, rfl⟩, ?_⟩
  refine SetA.at' (A := [(Str.ofString "most", .int 5)]) (A' := [(Str.ofString "most", .int 5), (Str.ofString "pieces", .role .pcs)]) rfl rfl (by kernel_rfl) (by simp) (by kernel_rfl) ?_
  refine Nx.next ?_; refine Ex.cons ?_; refine Sx.setattr ?_ (fun _ => rfl); refine Ev.int ?_; refine ⟨rfl, ?_⟩; refine Ev.name (memI 0 rfl) ?_
  refine SetA.put (A' := [(Str.ofString "most", .int 5), (Str.ofString "pieces", .role .pcs), (Str.ofString "pointer", .int 0)]) rfl (by kernel_rfl) (by simp) (by kernel_rfl) ?_
  refine Nx.next ?_; refine Ex.nil ?_; refine Done.next ?_
  refine hC _ ?_
  funext r
  cases r <;> rfl
theorem markring_init_spec (hC : ∀ W', W'.ob = upd W.ob .mrk (.inst 403 [(Str.ofString "most", .int 3), (Str.ofString "markers", .lst []), (Str.ofString "last", .int 0)]) → C .none W') : FS 1 (.ref 400) [.role .mrk, .int 3] (W.put .mrk (.inst 403 [])) C := by
  refine FS.enter (n := 0) (q := "MarkRing.__init__") (ds := []) (fun K k => k.f400) [(Str.ofString "self", .role .mrk), (Str.ofString "most", .int 3)] [] [] rfl ?hb (fun _ _ _ => .nil) (by rfl) (by kernel_rfl) ?H
  case hb => intro dV doc pm ct an s vs hl hd; subst hd; obtain ⟨a, b, e0⟩ := len2 hl; subst e0; exact BindsTo.of_eq rfl
  intro c hn hs
  refine Ex.cons ?_; refine Sx.setattr ?_ (fun _ => rfl); refine Ev.name (memI 1 rfl) ?_; refine ⟨rfl, ?_⟩; refine Ev.name (memI 0 rfl) ?_
  refine SetA.put (A' := [(Str.ofString "most", .int 3)]) rfl (by kernel_rfl) (by simp) (by kernel_rfl) ?_
  refine Nx.next ?_; refine Ex.cons ?_; refine Sx.setattr ?_ (fun _ => rfl); refine Ev.list ?_; refine Ars.nil ?_
  refine ⟨by decide, _, Dsp.nums [], ?_⟩
  refine ⟨rfl, ?_⟩; refine Ev.name (memI 0 rfl) ?_
  refine SetA.put (A' := [(Str.ofString "most", .int 3), (Str.ofString "markers", .lst [])]) rfl (by kernel_rfl) (by simp) (by kernel_rfl) ?_
  refine Nx.next ?_; refine Ex.cons ?_; refine Sx.setattr ?_ (fun _ => rfl); refine Ev.int ?_; refine ⟨rfl, ?_⟩; refine Ev.name (memI 0 rfl) ?_
  refine SetA.put (A' := [(Str.ofString "most", .int 3), (Str.ofString "markers", .lst []), (Str.ofString "last", .int 0)]) rfl (by kernel_rfl) (by simp) (by kernel_rfl) ?_
  refine Nx.next ?_; refine Ex.nil ?_; refine Done.next ?_
  refine hC _ ?_
  funext r
  cases r <;> rfl
end
section
variable {C : SV → Wd → Prop} {W : Wd}
noncomputable def bL : List (Str × SV) := [(Str.ofString "number", .int 1), (Str.ofString "name", .str (Str.ofString "a")), (Str.ofString "text", .role .gap), (Str.ofString "markers", .role .marks), (Str.ofString "point", .int 1), (Str.ofString "begv", .int 1), (Str.ofString "zv", .int 1), (Str.ofString "mark", .none), (Str.ofString "is_live", .bool true), (Str.ofString "is_read_only", .bool false), (Str.ofString "ticks", .int 1), (Str.ofString "codes_ticks", .int 1), (Str.ofString "saved_ticks", .int 1), (Str.ofString "listeners", .lst []), (Str.ofString "undo", .none), (Str.ofString "props", .none), (Str.ofString "overlays", .none), (Str.ofString "locals", .none), (Str.ofString "syntax", .none), (Str.ofString "file", .none)]
theorem buffer_init_spec (g1 : W.ob .gap = .absent) (g2 : W.ob .cells = .absent) (g3 : W.ob .marks = .absent) (g4 : W.ob .rows = .absent)
    (hC : ∀ W', W'.ob = (fun r => match r with | .buf => .inst 692 bL | .gap => .inst 586 [(Str.ofString "room", .int 8), (Str.ofString "cells", .role .cells), (Str.ofString "gap_start", .int 0), (Str.ofString "gap_end", .int 8)] | .cells => .nums (List.replicate 8 0) | .marks => .inst 375 [(Str.ofString "rows", .role .rows)] | .rows => .rows false | r => W.ob r) → C .none W') : FS 3 (.ref 605) [.role .buf, .int 1, .str (Str.ofString "a")] (W.put .buf (.inst 692 [])) C := by
  refine FS.enter (n := 2) (q := "Buffer.__init__") (ds := [Value.int 8 1011]) (fun K k => k.f605) [(Str.ofString "self", .role .buf), (Str.ofString "number", .int 1), (Str.ofString "name", .str (Str.ofString "a")), (Str.ofString "room", .int 8)] [.int 8] [Value.int 8 1011] rfl ?hb (fun _ _ _ => .cons ⟨_, rfl⟩ .nil) (by rfl) (by kernel_rfl) ?H
  case hb =>
    intro dV doc pm ct an s vs hl hd
    obtain ⟨a, b, d, e0⟩ := len3 hl
    subst e0
    obtain ⟨T', o, n, e1, e2, e3⟩ := hd
    subst e1
    exact BindsTo.of_defaults rfl e2 e3 rfl rfl
  intro c hn hs
  refine Ex.cons ?_; refine Sx.setattr ?_ (fun _ => rfl); refine Ev.name (memI 1 rfl) ?_; refine ⟨rfl, ?_⟩; refine Ev.name (memI 0 rfl) ?_
  refine SetA.put (A' := bL.take 1) rfl (by kernel_rfl) (Nat.le_of_ble_eq_true rfl) (by kernel_rfl) ?_
  refine Nx.next ?_; refine Ex.cons ?_; refine Sx.setattr ?_ (fun _ => rfl); refine Ev.name (memI 2 rfl) ?_; refine ⟨rfl, ?_⟩; refine Ev.name (memI 0 rfl) ?_
  refine SetA.put (A' := bL.take 2) rfl (by kernel_rfl) (Nat.le_of_ble_eq_true rfl) (by kernel_rfl) ?_
  refine Nx.next ?_; refine Ex.cons ?_; refine Sx.setattr ?_ (fun _ => rfl)
  refine Ev.new (c.n - 1) .gap 586 513 (by kernel_rfl) (by kernel_rfl) rfl (by kernel_rfl) hs rfl (by kernel_rfl) (by omega) (by intro z; cases z) ?_ (fun _ => rfl) (fun _ => rfl) (fun _ => rfl)
  refine Ars.more ?_ (fun _ => rfl); refine Ev.list ?_; refine Ars.nil ?_
  refine ⟨by decide, _, Dsp.nums [], ?_⟩
  refine Ars.more ?_ (fun _ => rfl); refine Ev.name (memI 3 rfl) ?_; refine Ars.nil ?_; refine ⟨Or.inl rfl, ?_⟩; refine ⟨Or.inl rfl, ?_⟩
  refine ⟨?g, fun a d => ?_⟩
  case g => exact g1
  rw [← Wd.born_put _ .gap a d (.inst 586 []) (.inst 586 [])]
  refine FS.mono (by omega) (gap_init_spec ?g fun W1 h1 => ⟨rfl, ?_⟩)
  case g => exact g2
  refine ⟨rfl, ?_⟩; refine Ev.name (memI 0 rfl) ?_
  refine SetA.at' (A := bL.take 2) (by rw [h1]; rfl) (A' := bL.take 3) rfl (by kernel_rfl) (Nat.le_of_ble_eq_true rfl) (by kernel_rfl) ?_
  refine Nx.next ?_; refine Ex.cons ?_; refine Sx.setattr ?_ (fun _ => rfl)
  refine Ev.new0 (c.n - 1) .marks 375 323 (by kernel_rfl) (by kernel_rfl) rfl (by kernel_rfl) hs rfl (by kernel_rfl) (by omega) (by intro z; cases z) ?_ (fun _ => rfl)
  refine ⟨?g, fun a d => ?_⟩
  case g => show W1.ob .marks = _; rw [h1]; exact g3
  rw [← Wd.born_put _ .marks a d (.inst 375 []) (.inst 375 [])]
  refine FS.mono (by omega) (markers_init_spec ?g fun W2 h2 => ⟨rfl, ?_⟩)
  case g => show W1.ob .rows = _; rw [h1]; exact g4
  refine ⟨rfl, ?_⟩; refine Ev.name (memI 0 rfl) ?_
  refine SetA.at' (A := bL.take 3) (by rw [h2]; rfl) (A' := bL.take 4) rfl (by kernel_rfl) (Nat.le_of_ble_eq_true rfl) (by kernel_rfl) ?_
  refine Nx.next ?_; refine Ex.cons ?_; refine Sx.setattr ?_ (fun _ => rfl); refine Ev.int ?_; refine ⟨rfl, ?_⟩; refine Ev.name (memI 0 rfl) ?_
  refine SetA.put (A' := bL.take 5) rfl (by kernel_rfl) (Nat.le_of_ble_eq_true rfl) (by kernel_rfl) ?_
  refine Nx.next ?_; refine Ex.cons ?_; refine Sx.setattr ?_ (fun _ => rfl); refine Ev.int ?_; refine ⟨rfl, ?_⟩; refine Ev.name (memI 0 rfl) ?_
  refine SetA.put (A' := bL.take 6) rfl (by kernel_rfl) (Nat.le_of_ble_eq_true rfl) (by kernel_rfl) ?_
  refine Nx.next ?_; refine Ex.cons ?_; refine Sx.setattr ?_ (fun _ => rfl); refine Ev.int ?_; refine ⟨rfl, ?_⟩; refine Ev.name (memI 0 rfl) ?_
  refine SetA.put (A' := bL.take 7) rfl (by kernel_rfl) (Nat.le_of_ble_eq_true rfl) (by kernel_rfl) ?_
  refine Nx.next ?_; refine Ex.cons ?_; refine Sx.setattr ?_ (fun _ => rfl); refine Ev.none ?_; refine ⟨rfl, ?_⟩; refine Ev.name (memI 0 rfl) ?_
  refine SetA.put (A' := bL.take 8) rfl (by kernel_rfl) (Nat.le_of_ble_eq_true rfl) (by kernel_rfl) ?_
  refine Nx.next ?_; refine Ex.cons ?_; refine Sx.setattr ?_ (fun _ => rfl); refine Ev.bool ?_; refine ⟨rfl, ?_⟩; refine Ev.name (memI 0 rfl) ?_
  refine SetA.put (A' := bL.take 9) rfl (by kernel_rfl) (Nat.le_of_ble_eq_true rfl) (by kernel_rfl) ?_
  refine Nx.next ?_; refine Ex.cons ?_; refine Sx.setattr ?_ (fun _ => rfl); refine Ev.bool ?_; refine ⟨rfl, ?_⟩; refine Ev.name (memI 0 rfl) ?_
  refine SetA.put (A' := bL.take 10) rfl (by kernel_rfl) (Nat.le_of_ble_eq_true rfl) (by kernel_rfl) ?_
  refine Nx.next ?_; refine Ex.cons ?_; refine Sx.setattr ?_ (fun _ => rfl); refine Ev.int ?_; refine ⟨rfl, ?_⟩; refine Ev.name (memI 0 rfl) ?_
  refine SetA.put (A' := bL.take 11) rfl (by kernel_rfl) (Nat.le_of_ble_eq_true rfl) (by kernel_rfl) ?_
  refine Nx.next ?_; refine Ex.cons ?_; refine Sx.setattr ?_ (fun _ => rfl); refine Ev.int ?_; refine ⟨rfl, ?_⟩; refine Ev.name (memI 0 rfl) ?_
  refine SetA.put (A' := bL.take 12) rfl (by kernel_rfl) (Nat.le_of_ble_eq_true rfl) (by kernel_rfl) ?_
  refine Nx.next ?_; refine Ex.cons ?_; refine Sx.setattr ?_ (fun _ => rfl); refine Ev.int ?_; refine ⟨rfl, ?_⟩; refine Ev.name (memI 0 rfl) ?_
  refine SetA.put (A' := bL.take 13) rfl (by kernel_rfl) (Nat.le_of_ble_eq_true rfl) (by kernel_rfl) ?_
  refine Nx.next ?_; refine Ex.cons ?_; refine Sx.setattr ?_ (fun _ => rfl); refine Ev.list ?_; refine Ars.nil ?_
  refine ⟨by decide, _, Dsp.nums [], ?_⟩
  refine ⟨rfl, ?_⟩; refine Ev.name (memI 0 rfl) ?_
  refine SetA.put (A' := bL.take 14) rfl (by kernel_rfl) (Nat.le_of_ble_eq_true rfl) (by kernel_rfl) ?_
  refine Nx.next ?_; refine Ex.cons ?_; refine Sx.setattr ?_ (fun _ => rfl); refine Ev.none ?_; refine ⟨rfl, ?_⟩; refine Ev.name (memI 0 rfl) ?_
  refine SetA.put (A' := bL.take 15) rfl (by kernel_rfl) (Nat.le_of_ble_eq_true rfl) (by kernel_rfl) ?_
  refine Nx.next ?_; refine Ex.cons ?_; refine Sx.setattr ?_ (fun _ => rfl); refine Ev.none ?_; refine ⟨rfl, ?_⟩; refine Ev.name (memI 0 rfl) ?_
  refine SetA.put (A' := bL.take 16) rfl (by kernel_rfl) (Nat.le_of_ble_eq_true rfl) (by kernel_rfl) ?_
  refine Nx.next ?_; refine Ex.cons ?_; refine Sx.setattr ?_ (fun _ => rfl); refine Ev.none ?_; refine ⟨rfl, ?_⟩; refine Ev.name (memI 0 rfl) ?_
  refine SetA.put (A' := bL.take 17) rfl (by kernel_rfl) (Nat.le_of_ble_eq_true rfl) (by kernel_rfl) ?_
  refine Nx.next ?_; refine Ex.cons ?_; refine Sx.setattr ?_ (fun _ => rfl); refine Ev.none ?_; refine ⟨rfl, ?_⟩; refine Ev.name (memI 0 rfl) ?_
  refine SetA.put (A' := bL.take 18) rfl (by kernel_rfl) (Nat.le_of_ble_eq_true rfl) (by kernel_rfl) ?_
  refine Nx.next ?_; refine Ex.cons ?_; refine Sx.setattr ?_ (fun _ => rfl); refine Ev.none ?_; refine ⟨rfl, ?_⟩; refine Ev.name (memI 0 rfl) ?_
  refine SetA.put (A' := bL.take 19) rfl (by kernel_rfl) (Nat.le_of_ble_eq_true rfl) (by kernel_rfl) ?_
  refine Nx.next ?_; refine Ex.cons ?_; refine Sx.setattr ?_ (fun _ => rfl); refine Ev.none ?_; refine ⟨rfl, ?_⟩; refine Ev.name (memI 0 rfl) ?_
  refine SetA.put (A' := bL.take 20) rfl (by kernel_rfl) (Nat.le_of_ble_eq_true rfl) (by kernel_rfl) ?_
  refine Nx.next ?_; refine Ex.nil ?_; refine Done.next ?_
  refine hC _ ?_
  funext r
  cases r <;> first | rfl | (show W2.ob _ = _; rw [h2]; first | rfl | (show W1.ob _ = _; rw [h1]; rfl))
end
section
variable {ad dad : Role → Addr} {x : AS} {C : SV → Wd → Prop} {W : Wd}
noncomputable def cellsOf (ns : List Int) : List Int := (ns.take 20).map absI
noncomputable def bigsOf (ns : List Int) : List Int := (cellsOf ns).filter fun a => decide (10 ^ 18 ≤ a)
noncomputable def dcsOf (ns : List Int) : List Int := cellsOf ns ++ [417 + ((cellsOf ns).length : Int)]
theorem cellsOf_len (ns : List Int) : (cellsOf ns).length ≤ 20 := by unfold cellsOf; rw [List.length_map, List.length_take]; omega
theorem deck_spec {ns : List Int} (h1 : W.ob .deck = .absent) (h2 : W.ob .bigs = .absent) (hz : ns.length ≤ 1000)
    (hC : ∀ W', W'.ob = upd (upd W.ob .bigs (.nums (bigsOf ns))) .deck (.slist [.role .bigs, .lst (dcsOf ns), .int 0]) → C (.role .deck) W') : FS 1 (.ref 699) [.lst ns] W C := by
  refine FS.enter (n := 0) (q := "_law_deck") (ds := []) (fun K k => k.f699) [(Str.ofString "script", .lst ns)] [] [] rfl ?hb (fun _ _ _ => .nil) (by rfl) (by kernel_rfl) ?H
  case hb => intro dV doc pm ct an s vs hl hd; subst hd; obtain ⟨a, e0⟩ := len1 hl; subst e0; exact BindsTo.of_eq rfl
  intro c hn hs
  refine Ex.cons ?_
  refine Sx.assignAbs ?hsw ?hfree ?hcell rfl ?hnames rfl (by kernel_rfl) rfl hs rfl (by kernel_rfl) rfl ?_ (fun _ => rfl) (fun _ => rfl) (fun _ _ => rfl)
  case hsw => intro env e; obtain ⟨sc, a1, a2, a3, a4, a5, a6, a7, a8⟩ := env; dsimp only at e; subst e; rfl
  case hfree => decide
  case hcell => decide
  case hnames => decide
  refine Ev.cutS ?_; refine Ev.name (memI 0 rfl) ?_; refine Part.none ?_; refine Part.some ?_; refine Ev.int ?_; refine ⟨_, rfl, ?_⟩; refine ⟨Or.inl rfl, ?_⟩
  refine ⟨_, _, .nums .lst, by (clear hn; omega), ?_⟩
  have hcl := cellsOf_len ns
  have e1 : ns.take (min 20 ns.length) = ns.take 20 := by
    rcases Nat.le_total 20 ns.length with h | h
    · rw [Nat.min_eq_left h]
    · rw [Nat.min_eq_right h, List.take_of_length_le h, List.take_of_length_le (Nat.le_refl _)]
  refine ⟨ns.take 20, ?_, by rw [List.length_take]; (clear hz hn hcl; omega), ?_⟩
  · rw [hi_num (by decide)]
    show SV.lst (ns.take (min 20 ns.length - 0)) = _
    rw [Nat.sub_zero, e1]
  show Nx c _ _ .next ((Str.ofString "cells", .lst (cellsOf ns)) :: _) _
  refine Nx.next ?_
  refine Ex.cons ?_
  refine Sx.ret ?_
  refine Ev.listS .deck ?_
  refine Ars.more ?_ (fun _ => rfl)
  refine Ev.adopt .bigs ?_
  refine Nw.compBig ?hfree ?hcell rfl ?hnames rfl (by kernel_rfl) ?_ rfl (fun _ _ => rfl)
  case hfree => decide
  case hcell => decide
  case hnames => decide
  refine Ev.name (memI 0 rfl) ?_
  refine ⟨_, rfl, by (clear hz hn; omega), ?_⟩
  refine ⟨h2, _, .nums, fun a => ?_⟩
  refine Ars.more ?_ (fun _ => rfl); refine Ev.bin ?_; refine Ev.name (memI 0 rfl) ?_; refine ⟨rfl, ?_⟩; refine Ev.list ?_; refine Ars.more ?_ (fun _ => rfl); refine Ev.bin ?_; refine Ev.int ?_; refine ⟨rfl, ?_⟩; refine Ev.bcall "len" (by kernel_rfl) PySem.boot_len hs rfl (by kernel_rfl) (by decide) ?_ (fun _ => rfl) (fun _ => rfl) (fun _ => rfl); refine Ars.more ?_ (fun _ => rfl); refine Ev.name (memI 0 rfl) ?_; refine Ars.nil ?_; refine ⟨Or.inl rfl, ?_⟩
  refine BC.len (.nums .lst) ?hz ?_
  case hz => (clear hz hn; omega)
  refine Bin.add ?_; refine Ars.nil ?_; refine ⟨Or.inl rfl, ?_⟩
  refine ⟨by simp, _, Dsp.nums [417 + (cellsOf ns).length], ?_⟩
  refine Bin.cat .lst .lst (by simp; (clear hz hn; omega)) ?_
  refine Ars.more ?_ (fun _ => rfl); refine Ev.int ?_; refine Ars.nil ?_; refine ⟨Or.inl rfl, ?_⟩; refine ⟨Or.inl rfl, ?_⟩; refine ⟨Or.inl rfl, ?_⟩
  refine ⟨by simp, rfl, ?_, by simp; (intro z; cases z), fun b => ?_⟩
  · exact h1
  refine Nx.ret ?_; refine Done.ret ?_
  exact hC _ rfl
end
section
variable {ad dad : Role → Addr} {x : AS} {C : SV → Wd → Prop} {W : Wd}
theorem noPylong {a b : Int} (h : b.natAbs < 2 ^ 64) : Builtin.divisionGoesByPylong a b = false := by
  unfold Builtin.divisionGoesByPylong
  dsimp only
  have : (if b == 0 then 0 else b.natAbs.log2 / 30 + 1) ≤ 300 := by
    split
    · exact Nat.zero_le _
    · rename_i hb
      have hp : b.natAbs ≠ 0 := by simpa using hb
      have : b.natAbs.log2 < 64 := (Nat.log2_lt hp).mpr h
      (clear h hb hp; omega)
  rw [decide_eq_false (by (clear h; omega)), Bool.false_and]
theorem mulOk {a b : Int} (h0 : 0 ≤ a) (h1 : a < 10000000000) : IntMulOk a b := .of_left (intBits_le_64 (by have : (2:Int) ^ 64 = 18446744073709551616 := rfl; (clear h1 this; omega)) (by have : (2:Int) ^ 64 = 18446744073709551616 := rfl; (clear h0 this; omega)))
theorem wd_bigs {ns : List Int} : (wd ad dad x).put .bigs (.nums ns) = wd ad dad { x with bigs := ns } := wd_put rfl (fun r' e => by cases r' <;> first | rfl | exact absurd rfl e)
theorem draw_spec {many : Int} (h0 : 1 ≤ many) (h1 : many ≤ 1000) (hd0 : x.dcs ≠ []) (hd1 : x.dcs.length ≤ 1000) (hb : x.bigs.length ≤ 1000)
    (hC : ∀ (r : Int) b k, 0 ≤ r → r < many → b.length ≤ x.bigs.length → C (.int r) (wd ad dad { x with bigs := b, dk := k })) : FS 1 (.ref 706) [.role .deck, .int many] (wd ad dad x) C := by
  refine FS.enter (n := 0) (q := "_law_draw") (ds := []) (fun K k => k.f706) [(Str.ofString "deck", .role .deck), (Str.ofString "many", .int many)] [] [] rfl ?hb (fun _ _ _ => .nil) (by rfl) (by kernel_rfl) ?H
  case hb => intro dV doc pm ct an s vs hl hd; subst hd; obtain ⟨a, b, e0⟩ := len2 hl; subst e0; exact BindsTo.of_eq rfl
  intro c hn hs
  refine Ex.cons ?_; refine Sx.if_ ?_; refine Is.cmp ?_ rfl; refine Ev.itemG ?_ (fun _ _ => ⟨_, rfl⟩); refine Ev.name (memI 0 rfl) ?_; refine Ev.int ?_; refine ItemG.deck0 ?_; refine ⟨rfl, ?_⟩; refine Ev.list ?_; refine Ars.nil ?_
  refine ⟨by decide, _, Dsp.nums [], ?_⟩
  refine Cmp.neR0 (ns := x.bigs) rfl ?_
  refine ⟨_, rfl, ?_⟩
  refine ⟨fun h => ?_, fun h => ?_⟩
  · have hne : x.bigs ≠ [] := by simpa using h
    have hl : 0 < x.bigs.length := List.length_pos_iff.mpr hne
    generalize hrest : x.bigs.getD (Int.toNat 0) 0 = rest
    have f0 := Int.fmod_nonneg_of_pos rest (show (0:Int) < many by (clear h1 hd0 hd1 hb hn hne hl hrest; omega))
    have f1 := Int.fmod_lt_of_pos rest (show (0:Int) < many by (clear h1 hd0 hd1 hb hn hne hl hrest f0; omega))
    refine Ex.cons ?_; refine Sx.assignNew hs rfl (by kernel_rfl) rfl ?_ (fun _ => rfl); refine Ev.itemG ?_ (fun _ _ => ⟨_, rfl⟩); refine Ev.itemG ?_ (fun _ _ => ⟨_, rfl⟩); refine Ev.name (memI 0 rfl) ?_; refine Ev.int ?_; refine ItemG.deck0 ?_; refine Ev.int ?_
    refine ItemG.bigs (by decide) (by (clear h0 h1 hd0 hd1 hb hn hne hrest f0 f1; omega)) (by (clear h0 h1 hd0 hd1 hn hne hl hrest f0 f1; omega)) ?_
    rw [hrest]
    refine ⟨rfl, ?_⟩; refine Nx.next ?_; refine Ex.cons ?_
    refine Sx.setitem .bigs ?_ (fun _ => rfl)
    refine Ev.bin ?_; refine Ev.name (memI 0 rfl) ?_; refine ⟨rfl, ?_⟩; refine Ev.name (memI 2 rfl) ?_
    refine Bin.fdiv (by (clear h1 hd0 hd1 hb hn hne hl hrest f0 f1; omega)) (noPylong (by (clear hd0 hd1 hb hn hne hl hrest f0 f1; omega))) ?_
    refine ⟨rfl, ?_⟩; refine Ev.itemG ?_ (fun _ _ => ⟨_, rfl⟩); refine Ev.name (memI 1 rfl) ?_; refine Ev.int ?_; refine ItemG.deck0 ?_; refine ⟨rfl, ?_⟩; refine Ev.int ?_
    refine ⟨.inl (by intro z; cases z), 0, rfl, SetI.put_bigs (by decide) (by (clear h0 h1 hd0 hd1 hb hn hne hrest f0 f1; omega)) (by (clear h0 h1 hd0 hd1 hn hne hl hrest f0 f1; omega)) ?_⟩
    refine Nx.next ?_; refine Ex.cons ?_; refine Sx.if_ ?_; refine Is.cmp ?_ rfl; refine Ev.itemG ?_ (fun _ _ => ⟨_, rfl⟩); refine Ev.itemG ?_ (fun _ _ => ⟨_, rfl⟩); refine Ev.name (memI 1 rfl) ?_; refine Ev.int ?_; refine ItemG.deck0 ?_; refine Ev.int ?_
    refine ItemG.bigs (by decide) (by dsimp only; rw [List.length_set]; (clear h0 h1 hd0 hd1 hb hn hne hrest f0 f1; omega)) (by dsimp only; rw [List.length_set]; (clear h0 h1 hd0 hd1 hn hne hl hrest f0 f1; omega)) ?_
    refine ⟨rfl, ?_⟩; refine Ev.int ?_; refine Cmp.eq ?_; refine ⟨_, rfl, ?_⟩
    refine ⟨fun h' => ?_, fun h' => ?_⟩
    · refine Ex.cons ?_
      refine Sx.expr (Ev.pop0 .bigs ?_ (fun _ => rfl) (fun _ => rfl)) (fun _ => rfl)
      refine Ev.itemG ?_ (fun _ _ => ⟨_, rfl⟩); refine Ev.name (memI 1 rfl) ?_; refine Ev.int ?_; refine ItemG.deck0 ?_; refine ⟨rfl, ?_⟩
      cases q : x.bigs with
      | nil => exact absurd q hne
      | cons a bs =>
        refine ⟨rest.fdiv many, bs, rfl, ?_, ?_⟩
        · have : x.bigs.length = bs.length + 1 := by rw [q]; rfl
          (clear h0 h1 hd0 hd1 hn hne hl hrest f0 f1; omega)
        rw [wd_bigs]
        try dsimp only
        refine Nx.next ?_; refine Ex.nil ?_; refine Nx.next ?_; refine Ex.cons ?_; refine Sx.ret ?_; refine Ev.bin ?_; refine Ev.name (memI 0 rfl) ?_; refine ⟨rfl, ?_⟩; refine Ev.name (memI 2 rfl) ?_
        refine Bin.mod (by (clear h1 hd0 hd1 hb hn hne hl hrest f0 f1; omega)) ?_
        refine Nx.ret ?_; refine Nx.ret ?_; refine Done.ret ?_
        exact hC _ bs x.dk f0 f1 (by rw [q]; simp)
    · refine Ex.nil ?_; refine Nx.next ?_; refine Ex.cons ?_; refine Sx.ret ?_; refine Ev.bin ?_; refine Ev.name (memI 0 rfl) ?_; refine ⟨rfl, ?_⟩; refine Ev.name (memI 2 rfl) ?_
      refine Bin.mod (by (clear h1 hd0 hd1 hb hn hne hl hrest f0 f1; omega)) ?_
      refine Nx.ret ?_; refine Nx.ret ?_; refine Done.ret ?_
      exact hC _ _ x.dk f0 f1 (by rw [List.length_set]; (clear h0 h1 hd0 hd1 hb hn hne hl hrest f0 f1; omega))
  · refine Ex.nil ?_; refine Nx.next ?_; refine Ex.cons ?_
    refine Sx.setitem .deck ?_ (fun _ => rfl)
    refine Ev.bin ?_; refine Ev.itemG ?_ (fun _ _ => ⟨_, rfl⟩); refine Ev.name (memI 0 rfl) ?_; refine Ev.int ?_; refine ItemG.deck2 ?_; refine ⟨rfl, ?_⟩; refine Ev.int ?_; refine Bin.add ?_; refine ⟨rfl, ?_⟩; refine Ev.name (memI 0 rfl) ?_; refine ⟨rfl, ?_⟩; refine Ev.int ?_
    refine ⟨.inl (by intro z; cases z), 2, rfl, SetI.put_dk ?_⟩
    have hdl : 0 < x.dcs.length := List.length_pos_iff.mpr hd0
    refine Nx.next ?_; refine Ex.cons ?_; refine Sx.assignNew hs rfl (by kernel_rfl) rfl ?_ (fun _ => rfl); refine Ev.bin ?_; refine Ev.bin ?_; refine Ev.itemG ?_ (fun _ _ => ⟨_, rfl⟩); refine Ev.itemG ?_ (fun _ _ => ⟨_, rfl⟩); refine Ev.name (memI 0 rfl) ?_; refine Ev.int ?_; refine ItemG.deck1 ?_; refine Ev.bin ?_; refine Ev.itemG ?_ (fun _ _ => ⟨_, rfl⟩); refine Ev.name (memI 0 rfl) ?_; refine Ev.int ?_; refine ItemG.deck2 ?_; refine ⟨rfl, ?_⟩; refine Ev.bcall "len" (by kernel_rfl) PySem.boot_len hs rfl (by kernel_rfl) (by decide) ?_ (fun _ => rfl) (fun _ => rfl) (fun _ => rfl); refine Ars.more ?_ (fun _ => rfl); refine Ev.itemG ?_ (fun _ _ => ⟨_, rfl⟩); refine Ev.name (memI 0 rfl) ?_; refine Ev.int ?_; refine ItemG.deck1 ?_; refine Ars.nil ?_; refine ⟨Or.inl rfl, ?_⟩
    refine BC.len (.nums .lst) ?hz ?_
    case hz => dsimp only; (clear h0 h1 hd0 hb hn hdl; omega)
    refine Bin.mod (by dsimp only; (clear h0 h1 hd0 hd1 hb hn; omega)) ?_
    have g0 := Int.fmod_nonneg_of_pos (x.dk + 1) (show (0:Int) < x.dcs.length by (clear h0 h1 hd0 hd1 hb hn; omega))
    have g1 := Int.fmod_lt_of_pos (x.dk + 1) (show (0:Int) < x.dcs.length by (clear h0 h1 hd0 hd1 hb hn g0; omega))
    refine ItemG.lst g0 g1 (by dsimp only; (clear h0 h1 hd0 hb hn hdl g0 g1; omega)) ?_
    refine ⟨rfl, ?_⟩; refine Ev.bin ?_; refine Ev.int ?_; refine ⟨rfl, ?_⟩; refine Ev.itemG ?_ (fun _ _ => ⟨_, rfl⟩); refine Ev.name (memI 0 rfl) ?_; refine Ev.int ?_; refine ItemG.deck2 ?_
    refine Bin.mul (mulOk (by decide) (by decide)) ?_
    refine Bin.add ?_; refine ⟨rfl, ?_⟩; refine Ev.int ?_
    refine Bin.mod (by decide) ?_
    refine ⟨rfl, ?_⟩; refine Nx.next ?_; refine Ex.cons ?_; refine Sx.assignOld 0 hs rfl (by kernel_rfl) rfl ?_ (fun _ => rfl); dsimp only [List.eraseIdx]; refine Ev.bin ?_; refine Ev.bin ?_; refine Ev.bin ?_; refine Ev.name (memI 0 rfl) ?_; refine ⟨rfl, ?_⟩; refine Ev.name (memI 0 rfl) ?_
    generalize hm1 : Int.fmod (x.dcs.getD ((x.dk + 1).fmod x.dcs.length).toNat 0 + 1640531527 * (x.dk + 1)) 4294966297 = m1
    have a0 := Int.fmod_nonneg_of_pos (x.dcs.getD ((x.dk + 1).fmod x.dcs.length).toNat 0 + 1640531527 * (x.dk + 1)) (show (0:Int) < 4294966297 by decide)
    have a1 := Int.fmod_lt_of_pos (x.dcs.getD ((x.dk + 1).fmod x.dcs.length).toNat 0 + 1640531527 * (x.dk + 1)) (show (0:Int) < 4294966297 by decide)
    rw [hm1] at a0 a1
    refine Bin.mul (mulOk a0 (by (clear h0 h1 hd0 hd1 hb hn hdl g0 g1 hm1 a0; omega))) ?_
    refine ⟨rfl, ?_⟩; refine Ev.bin ?_; refine Ev.int ?_; refine ⟨rfl, ?_⟩; refine Ev.itemG ?_ (fun _ _ => ⟨_, rfl⟩); refine Ev.name (memI 1 rfl) ?_; refine Ev.int ?_; refine ItemG.deck2 ?_
    refine Bin.mul (mulOk (by decide) (by decide)) ?_
    refine Bin.add ?_; refine ⟨rfl, ?_⟩; refine Ev.int ?_
    refine Bin.mod (by decide) ?_
    refine ⟨rfl, ?_⟩; refine Nx.next ?_; refine Ex.cons ?_; refine Sx.ret ?_; refine Ev.bin ?_; refine Ev.bin ?_; refine Ev.bin ?_; refine Ev.bin ?_; refine Ev.name (memI 0 rfl) ?_; refine ⟨rfl, ?_⟩; refine Ev.name (memI 0 rfl) ?_
    generalize hm2 : Int.fmod (m1 * m1 + 122949823 * (x.dk + 1)) 4294966237 = m2
    have b0 := Int.fmod_nonneg_of_pos (m1 * m1 + 122949823 * (x.dk + 1)) (show (0:Int) < 4294966237 by decide)
    have b1 := Int.fmod_lt_of_pos (m1 * m1 + 122949823 * (x.dk + 1)) (show (0:Int) < 4294966237 by decide)
    rw [hm2] at b0 b1
    refine Bin.mul (mulOk b0 (by (clear h0 h1 hd0 hd1 hb hn hdl g0 g1 hm1 a0 a1 hm2 b0; omega))) ?_
    refine ⟨rfl, ?_⟩; refine Ev.int ?_
    refine Bin.mod (by decide) ?_
    refine ⟨rfl, ?_⟩; refine Ev.int ?_
    refine Bin.fdiv (by decide) (noPylong (by decide)) ?_
    refine ⟨rfl, ?_⟩; refine Ev.name (memI 2 rfl) ?_
    refine Bin.mod (by (clear h1 hd0 hd1 hb hn hdl g0 g1 hm1 a0 a1 hm2 b0 b1; omega)) ?_
    refine Nx.ret ?_; refine Done.ret ?_
    exact hC _ _ _ (Int.fmod_nonneg_of_pos _ (by (clear h1 hd0 hd1 hb hn hdl g0 g1 hm1 a0 a1 hm2 b0 b1; omega))) (Int.fmod_lt_of_pos _ (by (clear h1 hd0 hd1 hb hn hdl g0 g1 hm1 a0 a1 hm2 b0 b1; omega))) (Nat.le_refl _)
end
section
variable {ad dad : Role → Addr} {x : AS} {T : List Int} {C : SV → Wd → Prop} {W : Wd}
theorem state_spec (t : Txt x T) (hz : x.R.length ≤ 1000) (hC : C (.stt T x.p x.R) (wd ad dad x)) : FS 3 (.ref 711) [.role .buf, .role .ring] (wd ad dad x) C := by
  refine FS.enter (n := 2) (q := "_law_state") (ds := []) (fun K k => k.f711) [(Str.ofString "buffer", .role .buf), (Str.ofString "ring", .role .ring)] [] [] rfl ?hb (fun _ _ _ => .nil) (by rfl) (by kernel_rfl) ?H
  case hb => intro dV doc pm ct an s vs hl hd; subst hd; obtain ⟨a, b, e0⟩ := len2 hl; subst e0; exact BindsTo.of_eq rfl
  intro c hn hs
  have sz := t.sz
  have hl := t.len
  have g0 := t.g0
  have g1 := t.g1
  refine Ex.cons ?_; refine Sx.ret ?_; refine Ev.tuple ?_; refine Ars.more ?_ (fun _ => rfl); refine' Ev.methG ?_ (fun _ => rfl) (fun _ => rfl) (fun _ => rfl); refine Ev.name (memI 0 rfl) ?_; refine Mth.buf 654 (by kernel_rfl) (by kernel_rfl) (by kernel_rfl) ?_; refine Ars.more ?_ (fun _ => rfl); refine Ev.int ?_; refine Ars.more ?_ (fun _ => rfl); refine Ev.bin ?_; refine' Ev.meth0G ?_ (fun _ => rfl); refine Ev.name (memI 0 rfl) ?_; refine Mth.buf 640 (by kernel_rfl) (by kernel_rfl) (by kernel_rfl) ?_
  refine FS.mono (by (clear hz sz hl g0 g1; omega)) (buf_size_spec t ?_)
  refine ⟨rfl, ?_⟩; refine Ev.int ?_; refine Bin.add ?_; refine Ars.nil ?_; refine ⟨Or.inl rfl, ?_⟩; refine ⟨Or.inl rfl, ?_⟩
  refine FS.mono (by (clear hz sz hl g0 g1; omega)) (buf_codes_spec t (by (clear hz hn sz hl g0 g1; omega)) (by (clear hz hn sz hl g0 g1; omega)) (by (clear hz hn sz hl g0 g1; omega)) ?_)
  have e : sl T (1 - 1) (T.length + 1 - 1) = T := by
    unfold sl
    rw [show ((T.length : Int) + 1 - 1).toNat - (1 - 1 : Int).toNat = T.length by (clear hz hn sz hl g0 g1; omega)]
    exact List.take_of_length_le (Nat.le_refl _)
  rw [e]
  refine Ars.more ?_ (fun _ => rfl); refine Ev.attr ?_ (fun _ => rfl); refine Ev.name (memI 0 rfl) ?_; refine Get.buf_point ?_; refine Ars.more ?_ (fun _ => rfl)
  refine Nw.ev (Nw.compPieces ?hfree ?hcell rfl ?hnames rfl (by kernel_rfl) ?_ (fun _ => rfl) (fun _ _ => rfl))
  case hfree => decide
  case hcell => decide
  case hnames => decide
  refine Ev.attr ?_ (fun _ => rfl); refine Ev.name (memI 1 rfl) ?_; refine Get.ring_pieces ?_
  refine ⟨_, x.R, rfl, rfl, by (clear hn sz hl g0 g1; omega), ?_⟩
  refine Ars.nil ?_; refine ⟨Or.inl rfl, ?_⟩; refine ⟨Or.inl rfl, ?_⟩; refine ⟨Or.inl rfl, ?_⟩
  refine ⟨_, .stt, ?_⟩
  refine Nx.ret ?_; refine Done.ret ?_
  exact hC
theorem saved_spec {own : List (List Int)} {ns : List Int} {goes ahead : Bool} (hz : own.length ≤ 1000) (hp : ∀ p ∈ own, p.length ≤ 400000) (hn : ns.length ≤ 400000) (hC : C (.lol (saved own ns goes ahead)) W) : FS 1 (.ref 718) [.lol own, .lst ns, .bool goes, .bool ahead] W C := by
  refine FS.enter (n := 0) (q := "_law_saved") (ds := []) (fun K k => k.f718) [(Str.ofString "own", .lol own), (Str.ofString "codes", .lst ns), (Str.ofString "the_goes_on", .bool goes), (Str.ofString "is_ahead", .bool ahead)] [] [] rfl ?hb (fun _ _ _ => .nil) (by rfl) (by kernel_rfl) ?H
  case hb => intro dV doc pm ct an s vs hl hd; subst hd; obtain ⟨a, b, c, d, e0⟩ := len4 hl; subst e0; exact BindsTo.of_eq rfl
  intro c hnn hs
  have tail : goes = false ∨ own = [] → C (.lol ((ns :: own).take 5)) W := fun h => by
    have e : saved own ns goes ahead = (ns :: own).take 5 := by
      unfold saved
      rw [if_neg]
      rintro ⟨a, b⟩
      rcases h with h | h
      · rw [h] at a; cases a
      · exact b h
    rw [← e]; exact hC
  have e5 : ∀ L : List (List Int), L.take (min 5 L.length - 0) = L.take 5 := fun L => by
    rw [Nat.sub_zero]
    rcases Nat.le_total 5 L.length with h | h
    · rw [Nat.min_eq_left h]
    · rw [Nat.min_eq_right h, List.take_of_length_le h, List.take_of_length_le (Nat.le_refl _)]
  refine Ex.cons ?_; refine Sx.if_ ?_; refine Is.and ?_; refine TB.and ?_; refine Is.plain ?_ (fun _ _ => rfl); refine Ev.name (memI 2 rfl) ?_; refine ⟨_, rfl, ?_⟩
  refine ⟨fun h => ?_, fun h => ?_⟩
  · refine ⟨(by intro z; cases z), ?_⟩; intro _; refine Ex.nil ?_; refine Nx.next ?_; refine Ex.cons ?_; refine Sx.ret ?_; refine Ev.cutS ?_; refine Ev.bin ?_; refine Ev.list ?_; refine Ars.more ?_ (fun _ => rfl); refine Ev.name (memI 1 rfl) ?_; refine Ars.nil ?_; refine ⟨Or.inl rfl, ?_⟩
    refine ⟨by simp, _, Dsp.lists [ns], ?_⟩
    refine ⟨rfl, ?_⟩; refine Ev.name (memI 0 rfl) ?_
    refine Bin.catL (by simp; (clear hn hnn tail; omega)) ?_
    refine Part.none ?_; refine Part.some ?_; refine Ev.int ?_; refine ⟨_, rfl, ?_⟩; refine ⟨Or.inl rfl, ?_⟩
    refine ⟨_, _, .lol, by simp; (clear hn hnn tail; omega), ?_⟩
    refine Nx.ret ?_; refine Done.ret ?_
    rw [hi_num (by decide)]
    show C (.lol (([ns] ++ own).take (min 5 ([ns] ++ own).length - 0))) W
    rw [e5]
    exact tail (.inl h)
  · refine TB.and ?_; refine Is.cmp ?_ rfl; refine Ev.name (memI 0 rfl) ?_; refine ⟨rfl, ?_⟩; refine Ev.list ?_; refine Ars.nil ?_
    refine ⟨by decide, _, Dsp.nums [], ?_⟩
    refine Cmp.neL0 ?_
    refine ⟨_, rfl, ?_⟩
    refine ⟨fun h2 => ?_, fun h2 => ?_⟩
    · refine ⟨(by intro z; cases z), ?_⟩; intro _; refine Ex.nil ?_; refine Nx.next ?_; refine Ex.cons ?_; refine Sx.ret ?_; refine Ev.cutS ?_; refine Ev.bin ?_; refine Ev.list ?_; refine Ars.more ?_ (fun _ => rfl); refine Ev.name (memI 1 rfl) ?_; refine Ars.nil ?_; refine ⟨Or.inl rfl, ?_⟩
      refine ⟨by simp, _, Dsp.lists [ns], ?_⟩
      refine ⟨rfl, ?_⟩; refine Ev.name (memI 0 rfl) ?_
      refine Bin.catL (by simp; (clear hn hnn tail; omega)) ?_
      refine Part.none ?_; refine Part.some ?_; refine Ev.int ?_; refine ⟨_, rfl, ?_⟩; refine ⟨Or.inl rfl, ?_⟩
      refine ⟨_, _, .lol, by simp; (clear hn hnn tail; omega), ?_⟩
      refine Nx.ret ?_; refine Done.ret ?_
      rw [hi_num (by decide)]
      show C (.lol (([ns] ++ own).take (min 5 ([ns] ++ own).length - 0))) W
      rw [e5]
      exact tail (.inr (by simpa using h2))
    · have h0 : own ≠ [] := by simpa using h2
      have hl : 0 < own.length := List.length_pos_iff.mpr h0
      have h1 : (own.getD 0 []).length ≤ 400000 := by
        cases q : own with
        | nil => exact absurd q h0
        | cons a r => exact hp a (by rw [q]; exact .head _)
      unfold saved at hC
      rw [if_pos ⟨h, h0⟩] at hC
      have e1 : ∀ n : Nat, n = own.length → (own.drop (min 1 n)).take (n - min 1 n) = own.drop 1 := fun n hn => by
        rw [show min 1 n = 1 by (clear hz hnn tail h0 h1; omega)]
        exact List.take_of_length_le (by rw [List.length_drop]; (clear hz hnn tail h0 hl h1; omega))
      refine TB.andNil ?_; refine ⟨?_, (by intro z; cases z)⟩; intro _; refine Ex.cons ?_; refine Sx.ret ?_; refine Ev.bin ?_; refine Ev.list ?_; refine Ars.more ?_ (fun _ => rfl); refine Ev.ifx ?_; refine Is.plain ?_ (fun _ _ => rfl); refine Ev.name (memI 3 rfl) ?_; refine ⟨_, rfl, ?_⟩
      cases ahead with
      | true =>
        rw [if_pos rfl] at hC
        refine ⟨?_, (by intro z; cases z)⟩; intro _; refine Ev.bin ?_; refine Ev.name (memI 1 rfl) ?_; refine ⟨rfl, ?_⟩; refine Ev.itemG ?_ (fun _ _ => ⟨_, rfl⟩); refine Ev.name (memI 0 rfl) ?_; refine Ev.int ?_
        refine ItemG.lol (by decide) (by (clear hz hn hnn tail h0 h1; omega)) (by (clear hn hnn tail h0 hl h1; omega)) ?_
        refine Bin.cat .lst .lst (by show ns.length + (own.getD 0 []).length ≤ _; (clear hz hnn tail h0 hl; omega)) ?_
        refine Ars.nil ?_; refine ⟨Or.inl rfl, ?_⟩
        refine ⟨by simp, _, Dsp.lists [_], ?_⟩
        refine ⟨rfl, ?_⟩; refine Ev.cutS ?_; refine Ev.name (memI 0 rfl) ?_; refine Part.some ?_; refine Ev.int ?_; refine ⟨_, rfl, ?_⟩; refine Part.none ?_; refine ⟨Or.inl rfl, ?_⟩
        refine ⟨_, _, .lol, by (clear hn hnn tail h0 hl h1; omega), ?_⟩
        refine Bin.catL (by simp; (clear hn hnn tail h0 hl h1; omega)) ?_
        refine Nx.ret ?_; refine Nx.ret ?_; refine Done.ret ?_
        rw [lo_num (by decide)]
        show C (.lol ([_] ++ (own.drop (min 1 own.length)).take (own.length - min 1 own.length))) W
        rw [e1 _ rfl]
        exact hC
      | false =>
        rw [if_neg (by decide)] at hC
        refine ⟨(by intro z; cases z), ?_⟩; intro _; refine Ev.bin ?_; refine Ev.itemG ?_ (fun _ _ => ⟨_, rfl⟩); refine Ev.name (memI 0 rfl) ?_; refine Ev.int ?_
        refine ItemG.lol (by decide) (by (clear hz hn hnn tail h0 h1; omega)) (by (clear hn hnn tail h0 hl h1; omega)) ?_
        refine ⟨rfl, ?_⟩; refine Ev.name (memI 1 rfl) ?_
        refine Bin.cat .lst .lst (by show (own.getD 0 []).length + ns.length ≤ _; (clear hz hnn tail h0 hl; omega)) ?_
        refine Ars.nil ?_; refine ⟨Or.inl rfl, ?_⟩
        refine ⟨by simp, _, Dsp.lists [_], ?_⟩
        refine ⟨rfl, ?_⟩; refine Ev.cutS ?_; refine Ev.name (memI 0 rfl) ?_; refine Part.some ?_; refine Ev.int ?_; refine ⟨_, rfl, ?_⟩; refine Part.none ?_; refine ⟨Or.inl rfl, ?_⟩
        refine ⟨_, _, .lol, by (clear hn hnn tail h0 hl h1; omega), ?_⟩
        refine Bin.catL (by simp; (clear hn hnn tail h0 hl h1; omega)) ?_
        refine Nx.ret ?_; refine Nx.ret ?_; refine Done.ret ?_
        rw [lo_num (by decide)]
        show C (.lol ([_] ++ (own.drop (min 1 own.length)).take (own.length - min 1 own.length))) W
        rw [e1 _ rfl]
        exact hC
end
section
variable {ad dad : Role → Addr} {x : AS} {T : List Int} {W : Wd}
theorem need_writable_raise {C : Wd → Prop} (h : x.ro = true) (hC : C (wd ad dad x)) : FX 1 (.ref 48) [.role .buf] (wd ad dad x) C := by
  refine FX.enterM (n := 0) (q := "need_writable") (fun K k => k.f48) [(Str.ofString "buffer", .role .buf)] rfl ?hb (by rfl) (by kernel_rfl) ?H
  case hb => intro dV doc pm ct an s vs hl hd; subst hd; obtain ⟨a, e0⟩ := len1 hl; subst e0; exact BindsTo.of_eq rfl
  intro c hn hs
  refine ExM.if_ ?_
  refine Is.plain ?_ (fun _ _ => rfl); refine Ev.attr ?_ (fun _ => rfl); refine Ev.name (memI 0 rfl) ?_; refine Get.buf_is_read_only ?_; refine ⟨_, rfl, ?_⟩
  refine ⟨h, ?_⟩
  refine ExM.raise hs rfl ?_ (fun _ => rfl) (fun _ => rfl) (fun _ => rfl)
  refine Ars.more ?_ (fun _ => rfl); refine Ev.str ?_; refine Ars.more ?_ (fun _ => rfl); refine Ev.list ?_; refine Ars.more ?_ (fun _ => rfl); refine Ev.attr ?_ (fun _ => rfl); refine Ev.name (memI 0 rfl) ?_; refine Get.buf_name ?_; refine Ars.nil ?_; refine ⟨Or.inl rfl, ?_⟩
  refine ⟨by simp, _, Dsp.any _, ?_⟩
  refine Ars.nil ?_; refine ⟨Or.inl rfl, ?_⟩; refine ⟨Or.inl rfl, ?_⟩; refine ⟨rfl, ?_⟩
  exact hC
theorem current_kill_raise {C : Wd → Prop} {i : Int} (h0 : x.R = []) (hC : C (wd ad dad x)) : FX 1 (.ref 234) [.role .ring, .int i, .bool false] (wd ad dad x) C := by
  refine FX.enterM (n := 0) (q := "current_kill") (fun K k => k.f234) [(Str.ofString "ring", .role .ring), (Str.ofString "by", .int i), (Str.ofString "keeps_pointer", .bool false)] rfl ?hb (by rfl) (by kernel_rfl) ?H
  case hb => intro dV doc pm ct an s vs hl hd; subst hd; obtain ⟨a, b, c, e0⟩ := len3 hl; subst e0; exact BindsTo.of_eq rfl
  intro c hn hs
  refine ExM.if_ ?_
  refine Is.cmp ?_ rfl; refine Ev.bcall "len" (by kernel_rfl) PySem.boot_len hs rfl (by kernel_rfl) (by decide) ?_ (fun _ => rfl) (fun _ => rfl) (fun _ => rfl); refine Ars.more ?_ (fun _ => rfl); refine Ev.attr ?_ (fun _ => rfl); refine Ev.name (memI 0 rfl) ?_; refine Get.ring_pieces ?_; refine Ars.nil ?_; refine ⟨Or.inr ⟨⟨_, rfl⟩, rfl⟩, ?_⟩
  refine BC.len (.pieces rfl) ?hz ?_
  case hz => rw [h0]; decide
  refine ⟨rfl, ?_⟩; refine Ev.int ?_; refine Cmp.eq ?_; refine ⟨_, rfl, ?_⟩
  refine ⟨by rw [h0]; rfl, ?_⟩
  refine ExM.raise hs rfl ?_ (fun _ => rfl) (fun _ => rfl) (fun _ => rfl)
  refine Ars.more ?_ (fun _ => rfl); refine Ev.str ?_; refine Ars.more ?_ (fun _ => rfl); refine Ev.list ?_; refine Ars.more ?_ (fun _ => rfl); refine Ev.str ?_; refine Ars.nil ?_; refine ⟨Or.inl rfl, ?_⟩
  refine ⟨by simp, _, Dsp.any _, ?_⟩
  refine Ars.nil ?_; refine ⟨Or.inl rfl, ?_⟩; refine ⟨Or.inl rfl, ?_⟩; refine ⟨rfl, ?_⟩
  exact hC
theorem yank_raise {C : Wd → Prop} {i : Int} {sw : Bool} (hro : x.ro = false) (h0 : x.R = []) (hC : C (wd ad dad x)) : FX 2 (.ref 492) [.role .buf, .role .ring, .role .mrk, .int i, .bool sw, .lst []] (wd ad dad x) C := by
  refine FX.enterF (n := 1) (q := "yank") (fun K k => k.f492) [(Str.ofString "buffer", .role .buf), (Str.ofString "ring", .role .ring), (Str.ofString "marks", .role .mrk), (Str.ofString "count", .int i), (Str.ofString "is_swapped", .bool sw), (Str.ofString "excluded", .lst [])] rfl ?hb (by rfl) (by kernel_rfl) ?H
  case hb => intro dV doc pm ct an s vs hl hd; subst hd; obtain ⟨a, b, c, d, e, f, e0⟩ := len6 hl; subst e0; exact BindsTo.of_eq rfl
  intro c hn hs
  refine ExF.next ?_
  refine Sx.expr ?_ (fun _ => rfl); refine Ev.callG 48 (by kernel_rfl) (by kernel_rfl) hs rfl (by kernel_rfl) ?_ (fun _ => rfl) (fun _ => rfl) (fun _ => rfl); refine Ars.more ?_ (fun _ => rfl); refine Ev.name (memI 0 rfl) ?_; refine Ars.nil ?_; refine ⟨Or.inl rfl, ?_⟩
  refine FS.mono (by omega) (need_writable_spec hro ?_)
  refine ⟨rfl, ?_⟩
  refine ExF.assign (EvF.callG 234 (by kernel_rfl) (by kernel_rfl) hs rfl (by kernel_rfl) ?_ (fun _ => rfl) (fun _ => rfl) (fun _ => rfl)) (fun _ => rfl)
  refine Ars.more ?_ (fun _ => rfl); refine Ev.name (memI 1 rfl) ?_; refine Ars.more ?_ (fun _ => rfl); refine Ev.bin ?_; refine Ev.name (memI 3 rfl) ?_; refine ⟨rfl, ?_⟩; refine Ev.int ?_; refine Bin.sub ?_; refine Ars.more ?_ (fun _ => rfl); refine Ev.bool ?_; refine Ars.nil ?_; refine ⟨Or.inl rfl, ?_⟩; refine ⟨Or.inl rfl, ?_⟩; refine ⟨Or.inl rfl, ?_⟩
  exact FX.mono (by omega) (current_kill_raise h0 hC)
theorem kill_region_raise {C : Wd → Prop} (t : Bf x T) {i j : Int} {goes : Bool} (hro : x.ro = true) (h0 : 1 ≤ i) (h1 : i ≤ x.zv) (h2 : 1 ≤ j) (h3 : j ≤ x.zv) (hT : T.length ≤ 50000) (hz : x.R.length ≤ 100) (hp : ∀ p ∈ x.R, p.length ≤ 50000)
    (hC : ∀ ad dad, C (wd ad dad { x with R := killed T x.R i j goes, ptr := killedP x.ptr i j goes })) : FX 6 (.ref 478) [.role .buf, .role .ring, .int i, .int j, .bool goes] (wd ad dad x) C := by
  refine FX.enterF (n := 5) (q := "kill_region") (fun K k => k.f478) [(Str.ofString "buffer", .role .buf), (Str.ofString "ring", .role .ring), (Str.ofString "start", .int i), (Str.ofString "end", .int j), (Str.ofString "goes_on", .bool goes)] rfl ?hb (by rfl) (by kernel_rfl) ?H
  case hb => intro dV doc pm ct an s vs hl hd; subst hd; obtain ⟨a, b, c, d, e, e0⟩ := len5 hl; subst e0; exact BindsTo.of_eq rfl
  intro c hnn hs
  have z := t.z
  refine ExF.next ?_
  refine Sx.unpack2 hs rfl rfl (by kernel_rfl) (by kernel_rfl) rfl rfl rfl ?_ (fun _ => rfl) (fun _ => rfl); refine Ev.callG 55 (by kernel_rfl) (by kernel_rfl) hs rfl (by kernel_rfl) ?_ (fun _ => rfl) (fun _ => rfl) (fun _ => rfl); refine Ars.more ?_ (fun _ => rfl); refine Ev.name (memI 0 rfl) ?_; refine Ars.more ?_ (fun _ => rfl); refine Ev.name (memI 2 rfl) ?_; refine Ars.more ?_ (fun _ => rfl); refine Ev.name (memI 3 rfl) ?_; refine Ars.nil ?_; refine ⟨Or.inl rfl, ?_⟩; refine ⟨Or.inl rfl, ?_⟩; refine ⟨Or.inl rfl, ?_⟩
  refine FS.mono (by (clear h0 h1 h2 h3 hT hz z; omega)) (reached_spec h0 h1 h2 h3 ?_)
  refine ⟨_, _, rfl, ?_⟩; refine ⟨rfl, ?_⟩
  refine ExF.next ?_
  refine Sx.imp (D' := fun fl l' W' => ∃ ad dad, fl = .next ∧ l' = [(Str.ofString "high", .int (max i j)), (Str.ofString "low", .int (min i j)), (Str.ofString "buffer", .role .buf), (Str.ofString "ring", .role .ring), (Str.ofString "start", .int i), (Str.ofString "end", .int j), (Str.ofString "goes_on", .bool goes)] ∧ W' = wd ad dad { x with R := killed T x.R i j goes, ptr := killedP x.ptr i j goes }) ?_ ?_
  · have save : (min i j < max i j ∨ goes = true) → ∀ ad dad, wd ad dad { x with R := saved x.R (sl T (min i j - 1) (max i j - 1)) goes (decide (j < i)), ptr := 0 } = wd ad dad { x with R := killed T x.R i j goes, ptr := killedP x.ptr i j goes } := fun h ad dad => by unfold killed killedP; rw [if_pos h, if_pos h]
    refine Sx.if_ ?_; refine Is.or ?_; refine TB.or ?_; refine Is.cmp ?_ rfl; refine Ev.name (memI 1 rfl) ?_; refine ⟨rfl, ?_⟩; refine Ev.name (memI 0 rfl) ?_; refine Cmp.lt ?_; refine ⟨_, rfl, ?_⟩
    refine ⟨fun h => ?_, fun h => ?_⟩ <;> simp only [decide_eq_true_eq, decide_eq_false_iff_not] at h
    · refine ⟨?_, (by intro z; cases z)⟩; intro _; refine Ex.cons ?_; refine Sx.expr ?_ (fun _ => rfl); refine Ev.callG 464 (by kernel_rfl) (by kernel_rfl) hs rfl (by kernel_rfl) ?_ (fun _ => rfl) (fun _ => rfl) (fun _ => rfl); refine Ars.more ?_ (fun _ => rfl); refine Ev.name (memI 3 rfl) ?_; refine Ars.more ?_ (fun _ => rfl); refine Ev.callG 452 (by kernel_rfl) (by kernel_rfl) hs rfl (by kernel_rfl) ?_ (fun _ => rfl) (fun _ => rfl) (fun _ => rfl); refine Ars.more ?_ (fun _ => rfl); refine Ev.name (memI 2 rfl) ?_; refine Ars.more ?_ (fun _ => rfl); refine Ev.name (memI 1 rfl) ?_; refine Ars.more ?_ (fun _ => rfl); refine Ev.name (memI 0 rfl) ?_; refine Ars.nil ?_; refine ⟨Or.inl rfl, ?_⟩; refine ⟨Or.inl rfl, ?_⟩; refine ⟨Or.inl rfl, ?_⟩
      refine FS.mono (by (clear h0 h1 h2 h3 hT hz z save h; omega)) (piece_of_spec t.toTxt (by (clear h1 h3 hT hz hnn z save h; omega)) (by (clear h0 h1 h2 h3 hT hz hnn z save h; omega)) (by (clear h0 h2 hT hz hnn save h; omega)) fun ad dad => ?_)
      refine Ars.more ?_ (fun _ => rfl); refine Ev.name (memI 6 rfl) ?_; refine Ars.more ?_ (fun _ => rfl); refine Ev.cmp ?_ rfl; refine Ev.name (memI 5 rfl) ?_; refine ⟨rfl, ?_⟩; refine Ev.name (memI 4 rfl) ?_; refine Cmp.lt ?_; refine Ars.nil ?_; refine ⟨Or.inl rfl, ?_⟩; refine ⟨Or.inl rfl, ?_⟩; refine ⟨Or.inl rfl, ?_⟩; refine ⟨Or.inl rfl, ?_⟩
      refine FS.mono (by (clear h0 h1 h2 h3 hT hz z save h; omega)) (save_kill_spec hz hp (Nat.le_trans (sl_len _ _ _) hT) fun ad dad => ?_)
      rw [save (.inl h)]
      refine Nx.next ?_; refine Ex.nil ?_
      exact ⟨_, _, rfl, rfl, rfl⟩
    · cases goes with
      | true =>
        refine TB.or ?_; refine Is.plain ?_ (fun _ _ => rfl); refine Ev.name (memI 6 rfl) ?_; refine ⟨_, rfl, ?_⟩; refine ⟨?_, (by intro z; cases z)⟩; intro _; refine ⟨?_, (by intro z; cases z)⟩; intro _; refine Ex.cons ?_; refine Sx.expr ?_ (fun _ => rfl); refine Ev.callG 464 (by kernel_rfl) (by kernel_rfl) hs rfl (by kernel_rfl) ?_ (fun _ => rfl) (fun _ => rfl) (fun _ => rfl); refine Ars.more ?_ (fun _ => rfl); refine Ev.name (memI 3 rfl) ?_; refine Ars.more ?_ (fun _ => rfl); refine Ev.callG 452 (by kernel_rfl) (by kernel_rfl) hs rfl (by kernel_rfl) ?_ (fun _ => rfl) (fun _ => rfl) (fun _ => rfl); refine Ars.more ?_ (fun _ => rfl); refine Ev.name (memI 2 rfl) ?_; refine Ars.more ?_ (fun _ => rfl); refine Ev.name (memI 1 rfl) ?_; refine Ars.more ?_ (fun _ => rfl); refine Ev.name (memI 0 rfl) ?_; refine Ars.nil ?_; refine ⟨Or.inl rfl, ?_⟩; refine ⟨Or.inl rfl, ?_⟩; refine ⟨Or.inl rfl, ?_⟩
        refine FS.mono (by (clear h0 h1 h2 h3 hT hz z h save; omega)) (piece_of_spec t.toTxt (by (clear h0 h1 h3 hT hz hnn z save; omega)) (by (clear h0 h1 h2 h3 hT hz hnn z h save; omega)) (by (clear h0 h2 hT hz hnn h save; omega)) fun ad dad => ?_)
        refine Ars.more ?_ (fun _ => rfl); refine Ev.name (memI 6 rfl) ?_; refine Ars.more ?_ (fun _ => rfl); refine Ev.cmp ?_ rfl; refine Ev.name (memI 5 rfl) ?_; refine ⟨rfl, ?_⟩; refine Ev.name (memI 4 rfl) ?_; refine Cmp.lt ?_; refine Ars.nil ?_; refine ⟨Or.inl rfl, ?_⟩; refine ⟨Or.inl rfl, ?_⟩; refine ⟨Or.inl rfl, ?_⟩; refine ⟨Or.inl rfl, ?_⟩
        refine FS.mono (by (clear h0 h1 h2 h3 hT hz z h save; omega)) (save_kill_spec hz hp (Nat.le_trans (sl_len _ _ _) hT) fun ad dad => ?_)
        rw [save (.inr rfl)]
        refine Nx.next ?_; refine Ex.nil ?_
        exact ⟨_, _, rfl, rfl, rfl⟩
      | false =>
        refine TB.or ?_; refine Is.plain ?_ (fun _ _ => rfl); refine Ev.name (memI 6 rfl) ?_; refine ⟨_, rfl, ?_⟩; refine ⟨(by intro z; cases z), ?_⟩; intro _; refine TB.orNil ?_; refine ⟨(by intro z; cases z), ?_⟩; intro _; refine Ex.nil ?_
        refine ⟨ad, dad, rfl, rfl, ?_⟩
        unfold killed killedP
        rw [if_neg (by simp; (clear h0 h1 h2 h3 hT hz hnn z save; omega)), if_neg (by simp; (clear h0 h1 h2 h3 hT hz hnn z save; omega))]
  · rintro fl l' W' ⟨ad, dad, rfl, rfl, rfl⟩
    refine ⟨rfl, ?_⟩
    refine ExF.expr (EvF.callG 48 (by kernel_rfl) (by kernel_rfl) hs rfl (by kernel_rfl) ?_ (fun _ => rfl) (fun _ => rfl) (fun _ => rfl)) (fun _ => rfl)
    refine Ars.more ?_ (fun _ => rfl); refine Ev.name (memI 2 rfl) ?_; refine Ars.nil ?_; refine ⟨Or.inl rfl, ?_⟩
    exact FX.mono (by (clear h0 h1 h2 h3 hT hz z; omega)) (need_writable_raise hro (hC _ _))
end
section
variable {ad dad : Role → Addr} {x : AS} {T : List Int} {C : SV → Wd → Prop} {W : Wd}
theorem cut_sl {i j : Int} (h0 : 0 ≤ i) (h1 : i ≤ j) (h2 : j ≤ T.length) : (T.drop (kms_lo (Pt.num i).opt T.length)).take (kms_hi (Pt.num j).opt T.length - kms_lo (Pt.num i).opt T.length) = sl T i j := by
  rw [lo_num h0, hi_num (by (clear h2; omega))]
  unfold sl
  rw [show min i.toNat T.length = i.toNat by (clear h0; omega), show min j.toNat T.length = j.toNat by (clear h0 h1; omega)]
theorem cut_out {i j : Int} (h0 : 0 ≤ i) (h1 : i ≤ j) (h2 : j ≤ T.length) : (T.drop (kms_lo Pt.no.opt T.length)).take (kms_hi (Pt.num i).opt T.length - kms_lo Pt.no.opt T.length) ++ (T.drop (kms_lo (Pt.num j).opt T.length)).take (kms_hi Pt.no.opt T.length - kms_lo (Pt.num j).opt T.length) = out T i j := by
  rw [lo_num (by (clear h2; omega)), hi_num h0]
  show List.take (min i.toNat T.length - 0) T ++ List.take (T.length - min j.toNat T.length) (T.drop (min j.toNat T.length)) = _
  unfold out
  rw [show min i.toNat T.length - 0 = i.toNat by (clear h0; omega), show min j.toNat T.length = j.toNat by (clear h0 h1; omega), List.take_of_length_le (l := T.drop j.toNat) (by rw [List.length_drop]; (clear h0 h1 h2; omega))]
theorem saved_len (R : List (List Int)) (ns : List Int) (g a : Bool) (h : R.length ≤ 5) : (saved R ns g a).length ≤ 5 := by
  unfold saved
  split
  · rw [List.length_cons, List.length_drop]; omega
  · rw [List.length_take]; (clear h; omega)
theorem saved_mem {R : List (List Int)} {ns : List Int} {g a : Bool} {n : Nat} (h : ∀ p ∈ R, p.length ≤ n) : ∀ p ∈ saved R ns g a, p.length ≤ n + ns.length := by
  intro p hp
  unfold saved at hp
  split at hp
  · rename_i hg
    rcases List.mem_cons.mp hp with rfl | hp
    · have : (R.getD 0 []).length ≤ n := by
        cases R with
        | nil => exact absurd rfl hg.2
        | cons r R => exact h r (.head _)
      split <;> rw [List.length_append] <;> (clear hg; omega)
    · have := h p (List.mem_of_mem_drop hp); (clear hg; omega)
  · rcases List.mem_cons.mp (List.mem_of_mem_take hp) with rfl | hp
    · omega
    · have := h p hp; omega
theorem killed_len (R : List (List Int)) (i j : Int) (g : Bool) (h : R.length ≤ 5) : (killed T R i j g).length ≤ 5 := by
  unfold killed
  split
  · exact saved_len _ _ _ _ h
  · exact h
theorem killed_mem {R : List (List Int)} {i j : Int} {g : Bool} {n : Nat} (h : ∀ p ∈ R, p.length ≤ n) : ∀ p ∈ killed T R i j g, p.length ≤ n + T.length := by
  intro p hp
  unfold killed at hp
  split at hp
  · have := saved_mem h p hp
    have := sl_len T (min i j - 1) (max i j - 1)
    omega
  · have := h p hp; omega
theorem killedP0 {p i j : Int} {g : Bool} (h : p = 0) : killedP p i j g = 0 := by
  unfold killedP
  rw [h]
  split <;> rfl
theorem killed_spec {n : Nat} (t : Bf x T) (hq : x.ptr = 0) (hro : x.ro = false) (hT : T.length ≤ 100) (hR : x.R.length ≤ 5) (hp : ∀ p ∈ x.R, p.length ≤ n) (hn : n ≤ 10000) (hd0 : x.dcs ≠ []) (hd1 : x.dcs.length ≤ 1000) (hb : x.bigs.length ≤ 1000)
    (hC : ∀ ad dad (y : AS) (T' : List Int), Bf y T' → T'.length ≤ T.length → y.ro = false → y.mx = x.mx → y.kx = x.kx → y.ptr = 0 → y.R.length ≤ 5 → (∀ p ∈ y.R, p.length ≤ n + T.length) → y.dcs = x.dcs → y.bigs.length ≤ x.bigs.length → C (.lol y.R) (wd ad dad y)) : FSr 7 (.ref 725) [.role .deck, .role .buf, .role .ring, .lol x.R] (wd ad dad x) C := by
  refine FSr.enter (n := 6) (q := "_law_killed") (fun K k => k.f725) [(Str.ofString "deck", .role .deck), (Str.ofString "buffer", .role .buf), (Str.ofString "ring", .role .ring), (Str.ofString "own", .lol x.R)] rfl ?hb (by rfl) (by kernel_rfl) ?H
  case hb => intro dV doc pm ct an s vs hl hd; subst hd; obtain ⟨a, b, c, d, e0⟩ := len4 hl; subst e0; exact BindsTo.of_eq rfl
  intro c hnn hs
  have z := t.z
  have p0 := t.p0
  have p1 := t.p1
  refine ExR.cons ?_; refine Sx.swap2 hs rfl rfl (by kernel_rfl) (by kernel_rfl) rfl rfl rfl ?_ (fun _ => rfl) (by intro c e; cases c; dsimp only at e; subst e; rfl); refine Ars.more ?_ (fun _ => rfl); refine' Ev.methG ?_ (fun _ => rfl) (fun _ => rfl) (fun _ => rfl); refine Ev.name (memI 1 rfl) ?_; refine Mth.buf 654 (by kernel_rfl) (by kernel_rfl) (by kernel_rfl) ?_; refine Ars.more ?_ (fun _ => rfl); refine Ev.int ?_; refine Ars.more ?_ (fun _ => rfl); refine Ev.bin ?_; refine' Ev.meth0G ?_ (fun _ => rfl); refine Ev.name (memI 1 rfl) ?_; refine Mth.buf 640 (by kernel_rfl) (by kernel_rfl) (by kernel_rfl) ?_
  refine FS.mono (by (clear hq hT hR hn hd0 hd1 hb z p0 p1; omega)) (buf_size_spec t.toTxt ?_)
  refine ⟨rfl, ?_⟩; refine Ev.int ?_; refine Bin.add ?_; refine Ars.nil ?_; refine ⟨Or.inl rfl, ?_⟩; refine ⟨Or.inl rfl, ?_⟩
  refine FS.mono (by (clear hq hT hR hn hd0 hd1 hb z p0 p1; omega)) (buf_codes_spec t.toTxt (by (clear hq hT hR hn hd0 hd1 hb hnn z p0 p1; omega)) (by (clear hq hT hR hn hd0 hd1 hb hnn z p0 p1; omega)) (by (clear hq hT hR hn hd0 hd1 hb hnn z p0 p1; omega)) ?_)
  have e : sl T (1 - 1) (T.length + 1 - 1) = T := by
    unfold sl
    rw [show ((T.length : Int) + 1 - 1).toNat - (1 - 1 : Int).toNat = T.length by (clear hq hT hR hn hd0 hd1 hb hnn z p0 p1; omega)]
    exact List.take_of_length_le (Nat.le_refl _)
  rw [e]
  refine Ars.more ?_ (fun _ => rfl); refine Ev.attr ?_ (fun _ => rfl); refine Ev.name (memI 1 rfl) ?_; refine Get.buf_point ?_; refine Ars.nil ?_; refine ⟨Or.inl rfl, ?_⟩; refine ⟨Or.inl rfl, ?_⟩; refine ⟨_, _, rfl, ?_⟩; refine ⟨rfl, ?_⟩; refine ⟨rfl, ?_⟩; refine NxR.next ?_; refine ExR.cons ?_; refine Sx.swap2 hs rfl rfl (by kernel_rfl) (by kernel_rfl) rfl rfl rfl ?_ (fun _ => rfl) (by intro c e; cases c; dsimp only at e; subst e; rfl); refine Ars.more ?_ (fun _ => rfl); refine Ev.bin ?_; refine Ev.int ?_; refine ⟨rfl, ?_⟩; refine Ev.callG 706 (by kernel_rfl) (by kernel_rfl) hs rfl (by kernel_rfl) ?_ (fun _ => rfl) (fun _ => rfl) (fun _ => rfl); refine Ars.more ?_ (fun _ => rfl); refine Ev.name (memI 2 rfl) ?_; refine Ars.more ?_ (fun _ => rfl); refine Ev.bin ?_; refine Ev.bcall "len" (by kernel_rfl) PySem.boot_len hs rfl (by kernel_rfl) (by decide) ?_ (fun _ => rfl) (fun _ => rfl) (fun _ => rfl); refine Ars.more ?_ (fun _ => rfl); refine Ev.name (memI 0 rfl) ?_; refine Ars.nil ?_; refine ⟨Or.inl rfl, ?_⟩
  refine BC.len (.nums .lst) ?hz ?_
  case hz => (clear hq hR hn hd0 hd1 hb hnn z p0 p1; omega)
  refine ⟨rfl, ?_⟩; refine Ev.int ?_; refine Bin.add ?_; refine Ars.nil ?_; refine ⟨Or.inl rfl, ?_⟩; refine ⟨Or.inl rfl, ?_⟩
  refine FS.mono (by (clear hq hT hR hn hd0 hd1 hb z p0 p1; omega)) (draw_spec (by (clear hq hT hR hn hd0 hd1 hb hnn z p0 p1; omega)) (by (clear hq hR hn hd0 hd1 hb hnn z p0 p1; omega)) hd0 hd1 hb fun r1 b1 k1 r10 r11 hb1 => ?_)
  refine Bin.add ?_; refine Ars.more ?_ (fun _ => rfl); refine Ev.bin ?_; refine Ev.int ?_; refine ⟨rfl, ?_⟩; refine Ev.callG 706 (by kernel_rfl) (by kernel_rfl) hs rfl (by kernel_rfl) ?_ (fun _ => rfl) (fun _ => rfl) (fun _ => rfl); refine Ars.more ?_ (fun _ => rfl); refine Ev.name (memI 2 rfl) ?_; refine Ars.more ?_ (fun _ => rfl); refine Ev.bin ?_; refine Ev.bcall "len" (by kernel_rfl) PySem.boot_len hs rfl (by kernel_rfl) (by decide) ?_ (fun _ => rfl) (fun _ => rfl) (fun _ => rfl); refine Ars.more ?_ (fun _ => rfl); refine Ev.name (memI 0 rfl) ?_; refine Ars.nil ?_; refine ⟨Or.inl rfl, ?_⟩
  refine BC.len (.nums .lst) ?hz ?_
  case hz => (clear hq hR hn hd0 hd1 hb hnn z p0 p1 r10 r11 hb1; omega)
  refine ⟨rfl, ?_⟩; refine Ev.int ?_; refine Bin.add ?_; refine Ars.nil ?_; refine ⟨Or.inl rfl, ?_⟩; refine ⟨Or.inl rfl, ?_⟩
  refine FS.mono (by (clear hq hT hR hn hd0 hd1 hb z p0 p1 r10 r11 hb1; omega)) (draw_spec (by (clear hq hT hR hn hd0 hd1 hb hnn z p0 p1 r10 r11 hb1; omega)) (by (clear hq hR hn hd0 hd1 hb hnn z p0 p1 r10 r11 hb1; omega)) hd0 hd1 (by dsimp only; (clear hq hT hR hn hd0 hd1 hnn z p0 p1 r10 r11; omega)) fun r2 b2 k2 r20 r21 hb2 => ?_)
  dsimp only at hb2 ⊢
  refine Bin.add ?_; refine Ars.nil ?_; refine ⟨Or.inl rfl, ?_⟩; refine ⟨Or.inl rfl, ?_⟩; refine ⟨_, _, rfl, ?_⟩; refine ⟨rfl, ?_⟩; refine ⟨rfl, ?_⟩; refine NxR.next ?_; refine ExR.cons ?_; refine Sx.swap2 hs rfl rfl (by kernel_rfl) (by kernel_rfl) rfl rfl rfl ?_ (fun _ => rfl) (by intro c e; cases c; dsimp only at e; subst e; rfl); refine Ars.more ?_ (fun _ => rfl); refine Ev.cmp ?_ rfl; refine Ev.callG 706 (by kernel_rfl) (by kernel_rfl) hs rfl (by kernel_rfl) ?_ (fun _ => rfl) (fun _ => rfl) (fun _ => rfl); refine Ars.more ?_ (fun _ => rfl); refine Ev.name (memI 4 rfl) ?_; refine Ars.more ?_ (fun _ => rfl); refine Ev.int ?_; refine Ars.nil ?_; refine ⟨Or.inl rfl, ?_⟩; refine ⟨Or.inl rfl, ?_⟩
  refine FS.mono (by (clear hq hT hR hn hd0 hd1 hb z p0 p1 r10 r11 hb1 r20 r21 hb2; omega)) (draw_spec (by (clear hq hT hR hn hd0 hd1 hb hnn z p0 p1 r10 r11 hb1 r20 r21 hb2; omega)) (by (clear hq hT hR hn hd0 hd1 hb hnn z p0 p1 r10 r11 hb1 r20 r21 hb2; omega)) hd0 hd1 (by dsimp only; (clear hq hT hR hn hd0 hd1 hnn z p0 p1 r10 r11 r20 r21; omega)) fun r3 b3 k3 r30 r31 hb3 => ?_)
  dsimp only at hb3 ⊢
  refine ⟨rfl, ?_⟩; refine Ev.int ?_; refine Cmp.eq ?_; refine Ars.more ?_ (fun _ => rfl); refine Ev.callG 706 (by kernel_rfl) (by kernel_rfl) hs rfl (by kernel_rfl) ?_ (fun _ => rfl) (fun _ => rfl) (fun _ => rfl); refine Ars.more ?_ (fun _ => rfl); refine Ev.name (memI 4 rfl) ?_; refine Ars.more ?_ (fun _ => rfl); refine Ev.int ?_; refine Ars.nil ?_; refine ⟨Or.inl rfl, ?_⟩; refine ⟨Or.inl rfl, ?_⟩
  refine FS.mono (by (clear hq hT hR hn hd0 hd1 hb z p0 p1 r10 r11 hb1 r20 r21 hb2 r30 r31 hb3; omega)) (draw_spec (by (clear hq hT hR hn hd0 hd1 hb hnn z p0 p1 r10 r11 hb1 r20 r21 hb2 r30 r31 hb3; omega)) (by (clear hq hT hR hn hd0 hd1 hb hnn z p0 p1 r10 r11 hb1 r20 r21 hb2 r30 r31 hb3; omega)) hd0 hd1 (by dsimp only; (clear hq hT hR hn hd0 hd1 hnn z p0 p1 r10 r11 r20 r21 r30 r31; omega)) fun way b4 k4 w0 w1 hb4 => ?_)
  dsimp only at hb4 ⊢
  generalize hgo : (r3 == 0) = go
  generalize hi : 1 + r1 = i
  generalize hj : 1 + r2 = j
  refine Ars.nil ?_; refine ⟨Or.inl rfl, ?_⟩; refine ⟨Or.inl rfl, ?_⟩; refine ⟨_, _, rfl, ?_⟩; refine ⟨rfl, ?_⟩; refine ⟨rfl, ?_⟩; refine NxR.next ?_; refine ExR.cons ?_; refine Sx.swap2 hs rfl rfl (by kernel_rfl) (by kernel_rfl) rfl rfl rfl ?_ (fun _ => rfl) (by intro c e; cases c; dsimp only at e; subst e; rfl); refine Ars.more ?_ (fun _ => rfl); refine Ev.bcall "min" (by kernel_rfl) boot_min hs rfl (by kernel_rfl) (by decide) ?_ (fun _ => rfl) (fun _ => rfl) (fun _ => rfl); refine Ars.more ?_ (fun _ => rfl); refine Ev.name (memI 2 rfl) ?_; refine Ars.more ?_ (fun _ => rfl); refine Ev.name (memI 3 rfl) ?_; refine Ars.nil ?_; refine ⟨Or.inl rfl, ?_⟩; refine ⟨Or.inl rfl, ?_⟩; refine BC.min ?_; refine Ars.more ?_ (fun _ => rfl); refine Ev.bcall "max" (by kernel_rfl) boot_max hs rfl (by kernel_rfl) (by decide) ?_ (fun _ => rfl) (fun _ => rfl) (fun _ => rfl); refine Ars.more ?_ (fun _ => rfl); refine Ev.name (memI 2 rfl) ?_; refine Ars.more ?_ (fun _ => rfl); refine Ev.name (memI 3 rfl) ?_; refine Ars.nil ?_; refine ⟨Or.inl rfl, ?_⟩; refine ⟨Or.inl rfl, ?_⟩; refine BC.max ?_; refine Ars.nil ?_; refine ⟨Or.inl rfl, ?_⟩; refine ⟨Or.inl rfl, ?_⟩; refine ⟨_, _, rfl, ?_⟩; refine ⟨rfl, ?_⟩; refine ⟨rfl, ?_⟩; refine NxR.next ?_; refine ExR.cons ?_; refine Sx.assignNew hs rfl (by kernel_rfl) rfl ?_ (fun _ => rfl); refine Ev.cutS ?_; refine Ev.name (memI 6 rfl) ?_; refine Part.some ?_; refine Ev.bin ?_; refine Ev.name (memI 0 rfl) ?_; refine ⟨rfl, ?_⟩; refine Ev.int ?_; refine Bin.sub ?_; refine ⟨_, rfl, ?_⟩; refine Part.some ?_; refine Ev.bin ?_; refine Ev.name (memI 1 rfl) ?_; refine ⟨rfl, ?_⟩; refine Ev.int ?_; refine Bin.sub ?_; refine ⟨_, rfl, ?_⟩; refine ⟨Or.inl rfl, ?_⟩
  have l1 : (if j < i then j else i) = min i j := by (clear hq hT hR hn hd0 hd1 hb hnn z p0 p1 r10 r11 hb1 r20 r21 hb2 r30 r31 hb3 w0 w1 hb4 hi hj; omega)
  have l2 : (if i < j then j else i) = max i j := by (clear hq hT hR hn hd0 hd1 hb hnn z p0 p1 r10 r11 hb1 r20 r21 hb2 r30 r31 hb3 w0 w1 hb4 hi hj l1; omega)
  rw [l1, l2]
  refine ⟨_, _, .nums .lst, by (clear hq hR hn hd0 hd1 hb hnn z p0 p1 r10 r11 hb1 r20 r21 hb2 r30 r31 hb3 w0 w1 hb4 hi hj l1 l2; omega), ?_⟩
  rw [cut_sl (by (clear hq hT hR hn hd0 hd1 hb hnn z p0 p1 r11 hb1 r21 hb2 r30 r31 hb3 w0 w1 hb4 l1 l2; omega)) (by (clear hq hT hR hn hd0 hd1 hb hnn z p0 p1 r10 r11 hb1 r20 r21 hb2 r30 r31 hb3 w0 w1 hb4 hi hj l1 l2; omega)) (by (clear hq hT hR hn hd0 hd1 hb hnn z p0 p1 r10 hb1 r20 hb2 r30 r31 hb3 w0 w1 hb4 l1 l2; omega))]
  refine ⟨rfl, ?_⟩
  have t4 : Bf { x with bigs := b4, dk := k4 } T := t.cast rfl rfl rfl rfl rfl rfl rfl rfl rfl
  have slT := sl_len T (min i j - 1) (max i j - 1)
  generalize hcodes : sl T (min i j - 1) (max i j - 1) = codes at slT
  refine NxR.next ?_; refine ExR.cons ?_; refine Sx.if_ ?_; refine Is.cmp ?_ rfl; refine Ev.name (memI 4 rfl) ?_; refine ⟨rfl, ?_⟩; refine Ev.int ?_; refine Cmp.eq ?_; refine ⟨_, rfl, ?_⟩
  refine ⟨fun hw => ?_, fun hw => ?_⟩
  · refine Ex.cons ?_; refine Sx.expr ?_ (fun _ => rfl); refine Ev.callG 471 (by kernel_rfl) (by kernel_rfl) hs rfl (by kernel_rfl) ?_ (fun _ => rfl) (fun _ => rfl) (fun _ => rfl); refine Ars.more ?_ (fun _ => rfl); refine Ev.name (memI 10 rfl) ?_; refine Ars.more ?_ (fun _ => rfl); refine Ev.name (memI 11 rfl) ?_; refine Ars.more ?_ (fun _ => rfl); refine Ev.name (memI 5 rfl) ?_; refine Ars.more ?_ (fun _ => rfl); refine Ev.name (memI 6 rfl) ?_; refine Ars.more ?_ (fun _ => rfl); refine Ev.name (memI 3 rfl) ?_; refine Ars.nil ?_; refine ⟨Or.inl rfl, ?_⟩; refine ⟨Or.inl rfl, ?_⟩; refine ⟨Or.inl rfl, ?_⟩; refine ⟨Or.inl rfl, ?_⟩; refine ⟨Or.inl rfl, ?_⟩
    refine FS.mono (k := 6) (by (clear hq hT hR hn hd0 hd1 hb z p0 p1 r10 r11 hb1 r20 r21 hb2 r30 r31 hb3 w0 w1 hb4 hi hj l1 l2 slT; omega)) ?_
    refine copy_region_spec (x := { x with bigs := b4, dk := k4 }) (T := T) t4.toTxt z (by (clear hq hT hR hn hd0 hd1 hb hnn z p0 p1 r11 hb1 r20 r21 hb2 r30 r31 hb3 w0 w1 hb4 hj l1 l2 slT; omega)) (by show i ≤ x.zv; (clear hq hT hR hn hd0 hd1 hb hnn p0 p1 r10 hb1 r20 r21 hb2 r30 r31 hb3 w0 w1 hb4 hj l1 l2 slT; omega)) (by (clear hq hT hR hn hd0 hd1 hb hnn z p0 p1 r10 r11 hb1 r21 hb2 r30 r31 hb3 w0 w1 hb4 hi l1 l2 slT; omega)) (by show j ≤ x.zv; (clear hq hT hR hn hd0 hd1 hb hnn p0 p1 r10 r11 hb1 r20 hb2 r30 r31 hb3 w0 w1 hb4 hi l1 l2 slT; omega)) (by (clear hq hR hn hd0 hd1 hb hnn z p0 p1 r10 r11 hb1 r20 r21 hb2 r30 r31 hb3 w0 w1 hb4 hi hj l1 l2 slT; omega)) (by show x.R.length ≤ 100; (clear hq hT hn hd0 hd1 hb hnn z p0 p1 r10 r11 hb1 r20 r21 hb2 r30 r31 hb3 w0 w1 hb4 hi hj l1 l2 slT; omega)) (fun p h => by have := hp p h; (clear hq hT hR hd0 hd1 hb hnn z p0 p1 r10 r11 hb1 r20 r21 hb2 r30 r31 hb3 w0 w1 hb4 hi hj l1 l2 slT; omega)) fun ad dad => ?_
    rw [hcodes]
    dsimp only
    refine Nx.next ?_; refine Ex.cons ?_; refine Sx.assignOld 12 hs rfl (by kernel_rfl) rfl ?_ (fun _ => rfl); dsimp only [List.eraseIdx]; refine Ev.callG 718 (by kernel_rfl) (by kernel_rfl) hs rfl (by kernel_rfl) ?_ (fun _ => rfl) (fun _ => rfl) (fun _ => rfl); refine Ars.more ?_ (fun _ => rfl); refine Ev.name (memI 12 rfl) ?_; refine Ars.more ?_ (fun _ => rfl); refine Ev.name (memI 0 rfl) ?_; refine Ars.more ?_ (fun _ => rfl); refine Ev.name (memI 3 rfl) ?_; refine Ars.more ?_ (fun _ => rfl); refine Ev.cmp ?_ rfl; refine Ev.name (memI 6 rfl) ?_; refine ⟨rfl, ?_⟩; refine Ev.name (memI 5 rfl) ?_; refine Cmp.lt ?_; refine Ars.nil ?_; refine ⟨Or.inl rfl, ?_⟩; refine ⟨Or.inl rfl, ?_⟩; refine ⟨Or.inl rfl, ?_⟩; refine ⟨Or.inl rfl, ?_⟩
    refine FS.mono (by (clear hq hT hR hn hd0 hd1 hb z p0 p1 r10 r11 hb1 r20 r21 hb2 r30 r31 hb3 w0 w1 hb4 hi hj l1 l2 slT; omega)) (saved_spec (by (clear hq hT hn hd0 hd1 hb hnn z p0 p1 r10 r11 hb1 r20 r21 hb2 r30 r31 hb3 w0 w1 hb4 hi hj l1 l2 slT; omega)) (fun p h => by have := hp p h; (clear hq hT hR hd0 hd1 hb hnn z p0 p1 r10 r11 hb1 r20 r21 hb2 r30 r31 hb3 w0 w1 hb4 hi hj l1 l2 slT; omega)) (by (clear hq hR hn hd0 hd1 hb hnn z p0 p1 r10 r11 hb1 r20 r21 hb2 r30 r31 hb3 w0 w1 hb4 hi hj l1 l2; omega)) ?_)
    refine ⟨rfl, ?_⟩; refine Nx.next ?_; refine Ex.cons ?_; refine Sx.ret ?_; refine Ev.ifx ?_; refine Is.cmp ?_ rfl; refine Ev.callG 711 (by kernel_rfl) (by kernel_rfl) hs rfl (by kernel_rfl) ?_ (fun _ => rfl) (fun _ => rfl) (fun _ => rfl); refine Ars.more ?_ (fun _ => rfl); refine Ev.name (memI 11 rfl) ?_; refine Ars.more ?_ (fun _ => rfl); refine Ev.name (memI 12 rfl) ?_; refine Ars.nil ?_; refine ⟨Or.inl rfl, ?_⟩; refine ⟨Or.inl rfl, ?_⟩
    refine FS.mono (k := 3) (by (clear hq hT hR hn hd0 hd1 hb z p0 p1 r10 r11 hb1 r20 r21 hb2 r30 r31 hb3 w0 w1 hb4 hi hj l1 l2 slT; omega)) ?_
    refine state_spec (T := T) ?t1 ?t2 ?_
    case t1 => exact t.toTxt.cast rfl rfl rfl
    case t2 => have := saved_len x.R codes go (decide (j < i)) hR; dsimp only; (clear hq hT hR hn hd0 hd1 hb hnn z p0 p1 r10 r11 hb1 r20 r21 hb2 r30 r31 hb3 w0 w1 hb4 hi hj l1 l2 slT; omega)
    dsimp only
    refine ⟨rfl, ?_⟩; refine Ev.tuple ?_; refine Ars.more ?_ (fun _ => rfl); refine Ev.name (memI 8 rfl) ?_; refine Ars.more ?_ (fun _ => rfl); refine Ev.name (memI 9 rfl) ?_; refine Ars.more ?_ (fun _ => rfl); refine Ev.name (memI 0 rfl) ?_; refine Ars.nil ?_; refine ⟨Or.inl rfl, ?_⟩; refine ⟨Or.inl rfl, ?_⟩; refine ⟨Or.inl rfl, ?_⟩
    refine ⟨_, .stt, Cmp.eqS ?_⟩
    rw [decide_eq_true (by exact ⟨rfl, rfl, rfl⟩)]
    refine ⟨_, rfl, ?_⟩; refine ⟨?_, (by intro z; cases z)⟩; intro _; refine Ev.name (memI 0 rfl) ?_; refine Nx.ret ?_; refine NxR.ret ?_; refine Done.ret ?_
    refine hC _ _ { x with R := saved x.R codes go (decide (j < i)), ptr := 0, bigs := b4, dk := k4 } T (t.cast rfl rfl rfl rfl rfl rfl rfl rfl rfl) (Nat.le_refl _) hro rfl rfl rfl (saved_len _ _ _ _ hR) (fun p h => by have := saved_mem hp p h; (clear hq hT hR hn hd0 hd1 hb hnn z p0 p1 r10 r11 hb1 r20 r21 hb2 r30 r31 hb3 w0 w1 hb4 hi hj l1 l2; omega)) rfl (by dsimp only; (clear hq hT hR hn hd0 hd1 hb hnn z p0 p1 r10 r11 r20 r21 r30 r31 w0 w1 hi hj l1 l2 slT; omega))
  · refine Ex.nil ?_; refine NxR.next ?_; refine ExR.cons ?_
    have eK : (min i j < max i j ∨ go = true) → killed T x.R i j go = saved x.R codes go (decide (j < i)) := fun h => by unfold killed; rw [if_pos h, hcodes]
    have eN : ¬ (min i j < max i j ∨ go = true) → killed T x.R i j go = x.R := fun h => by unfold killed; rw [if_neg h]
    have kl := killed_len (T := T) x.R i j go hR
    have km := killed_mem (T := T) (i := i) (j := j) (g := go) hp
    generalize hK : killed T x.R i j go = K at eK eN kl km
    refine Sx.imp (D' := fun fl l' W' => fl = .next ∧ (∀ p ∈ (Str.ofString "own", SV.lol K) :: [(Str.ofString "codes", SV.lst codes), (Str.ofString "low", SV.int (min i j)), (Str.ofString "high", SV.int (max i j)), (Str.ofString "the_goes_on", SV.bool go),
      (Str.ofString "way", SV.int way), (Str.ofString "start", SV.int i), (Str.ofString "end", SV.int j), (Str.ofString "text", SV.lst T), (Str.ofString "the_point", SV.int x.p), (Str.ofString "deck", SV.role Role.deck), (Str.ofString "buffer", SV.role Role.buf), (Str.ofString "ring", SV.role Role.ring)], p ∈ l') ∧ W' = wd ad dad { x with bigs := b4, dk := k4 }) ?_ ?_
    · refine Sx.if_ ?_; refine Is.or ?_; refine TB.or ?_; refine Is.cmp ?_ rfl; refine Ev.name (memI 1 rfl) ?_; refine ⟨rfl, ?_⟩; refine Ev.name (memI 2 rfl) ?_; refine Cmp.lt ?_; refine ⟨_, rfl, ?_⟩
      refine ⟨fun h => ?_, fun h => ?_⟩ <;> simp only [decide_eq_true_eq, decide_eq_false_iff_not] at h
      · refine ⟨?_, (by intro z; cases z)⟩; intro _; refine Ex.cons ?_; refine Sx.assignOld 12 hs rfl (by kernel_rfl) rfl ?_ (fun _ => rfl); dsimp only [List.eraseIdx]; refine Ev.callG 718 (by kernel_rfl) (by kernel_rfl) hs rfl (by kernel_rfl) ?_ (fun _ => rfl) (fun _ => rfl) (fun _ => rfl); refine Ars.more ?_ (fun _ => rfl); refine Ev.name (memI 12 rfl) ?_; refine Ars.more ?_ (fun _ => rfl); refine Ev.name (memI 0 rfl) ?_; refine Ars.more ?_ (fun _ => rfl); refine Ev.name (memI 3 rfl) ?_; refine Ars.more ?_ (fun _ => rfl); refine Ev.cmp ?_ rfl; refine Ev.name (memI 6 rfl) ?_; refine ⟨rfl, ?_⟩; refine Ev.name (memI 5 rfl) ?_; refine Cmp.lt ?_; refine Ars.nil ?_; refine ⟨Or.inl rfl, ?_⟩; refine ⟨Or.inl rfl, ?_⟩; refine ⟨Or.inl rfl, ?_⟩; refine ⟨Or.inl rfl, ?_⟩
        refine FS.mono (by (clear hq hT hR hn hd0 hd1 hb z p0 p1 r10 r11 hb1 r20 r21 hb2 r30 r31 hb3 w0 w1 hb4 hi hj l1 l2 slT eK eN kl h; omega)) (saved_spec (by (clear hq hT hn hd0 hd1 hb hnn z p0 p1 r10 r11 hb1 r20 r21 hb2 r30 r31 hb3 w0 w1 hb4 hi hj l1 l2 slT eK eN kl h; omega)) (fun p h => by have := hp p h; (clear hq hT hR hd0 hd1 hb hnn z p0 p1 r10 r11 hb1 r20 r21 hb2 r30 r31 hb3 w0 w1 hb4 hi hj l1 l2 slT eK eN kl; omega)) (by (clear hq hR hn hd0 hd1 hb hnn z p0 p1 r10 r11 hb1 r20 r21 hb2 r30 r31 hb3 w0 w1 hb4 hi hj l1 l2 eK eN kl h; omega)) ?_)
        refine ⟨rfl, ?_⟩; refine Nx.next ?_; refine Ex.nil ?_; refine ⟨rfl, ?_⟩
        rw [eK (.inl h)]
        exact ⟨fun p hp => hp, rfl⟩
      · refine TB.or ?_; refine Is.plain ?_ (fun _ _ => rfl); refine Ev.name (memI 3 rfl) ?_; refine ⟨_, rfl, ?_⟩
        refine ⟨fun hg => ?_, fun hg => ?_⟩
        · refine ⟨?_, (by intro z; cases z)⟩; intro _; refine Ex.cons ?_; refine Sx.assignOld 12 hs rfl (by kernel_rfl) rfl ?_ (fun _ => rfl); dsimp only [List.eraseIdx]; refine Ev.callG 718 (by kernel_rfl) (by kernel_rfl) hs rfl (by kernel_rfl) ?_ (fun _ => rfl) (fun _ => rfl) (fun _ => rfl); refine Ars.more ?_ (fun _ => rfl); refine Ev.name (memI 12 rfl) ?_; refine Ars.more ?_ (fun _ => rfl); refine Ev.name (memI 0 rfl) ?_; refine Ars.more ?_ (fun _ => rfl); refine Ev.name (memI 3 rfl) ?_; refine Ars.more ?_ (fun _ => rfl); refine Ev.cmp ?_ rfl; refine Ev.name (memI 6 rfl) ?_; refine ⟨rfl, ?_⟩; refine Ev.name (memI 5 rfl) ?_; refine Cmp.lt ?_; refine Ars.nil ?_; refine ⟨Or.inl rfl, ?_⟩; refine ⟨Or.inl rfl, ?_⟩; refine ⟨Or.inl rfl, ?_⟩; refine ⟨Or.inl rfl, ?_⟩
          refine FS.mono (by (clear hq hT hR hn hd0 hd1 hb z p0 p1 r10 r11 hb1 r20 r21 hb2 r30 r31 hb3 w0 w1 hb4 hi hj l1 l2 slT eK eN kl h; omega)) (saved_spec (by (clear hq hT hn hd0 hd1 hb hnn z p0 p1 r10 r11 hb1 r20 r21 hb2 r30 r31 hb3 w0 w1 hb4 hi hj l1 l2 slT eK eN kl h; omega)) (fun p h => by have := hp p h; (clear hq hT hR hd0 hd1 hb hnn z p0 p1 r10 r11 hb1 r20 r21 hb2 r30 r31 hb3 w0 w1 hb4 hi hj l1 l2 slT eK eN kl; omega)) (by (clear hq hR hn hd0 hd1 hb hnn z p0 p1 r10 r11 hb1 r20 r21 hb2 r30 r31 hb3 w0 w1 hb4 hi hj l1 l2 eK eN kl h; omega)) ?_)
          refine ⟨rfl, ?_⟩; refine Nx.next ?_; refine Ex.nil ?_; refine ⟨rfl, ?_⟩
          rw [eK (.inr hg)]
          exact ⟨fun p hp => hp, rfl⟩
        · refine TB.orNil ?_; refine ⟨(by intro z; cases z), ?_⟩; intro _; refine Ex.nil ?_; refine ⟨rfl, ?_⟩
          rw [eN (by rintro (z | z); exact h z; rw [hg] at z; cases z)]
          refine ⟨fun p hp => ?_, rfl⟩
          rcases List.mem_cons.mp hp with rfl | hp
          · exact memI 12 rfl
          · exact List.mem_append_left [(Str.ofString "own", SV.lol x.R)] hp
    · rintro fl l' W' ⟨rfl, hsub, rfl⟩
      refine NxR.next (ExR.forget _ hsub ?_)
      refine ExR.cons ?_; refine Sx.setattr ?_ (fun _ => rfl); refine Ev.cmp ?_ rfl; refine Ev.name (memI 5 rfl) ?_; refine ⟨rfl, ?_⟩; refine Ev.int ?_; refine Cmp.eq ?_; refine ⟨rfl, ?_⟩; refine Ev.name (memI 11 rfl) ?_; refine SetA.buf_is_read_only ?_; (try dsimp only); refine NxR.next ?_
      have lo1 : 1 ≤ min i j := by (clear hq hT hR hn hd0 hd1 hb hnn z p0 p1 r11 hb1 r21 hb2 r30 r31 hb3 w0 w1 hb4 l1 l2 slT eK eN kl; omega)
      have hi1 : max i j ≤ T.length + 1 := by (clear hq hT hR hn hd0 hd1 hb hnn z p0 p1 r10 hb1 r20 hb2 r30 r31 hb3 w0 w1 hb4 l1 l2 slT eK eN kl lo1; omega)
      cases hw1 : way == 1 with
      | true =>
        refine ExR.tryF hs rfl rfl (by kernel_rfl) rfl ?_ (fun _ => rfl)
        refine ExF.expr (EvF.callG 478 (by kernel_rfl) (by kernel_rfl) hs rfl (by kernel_rfl) ?_ (fun _ => rfl) (fun _ => rfl) (fun _ => rfl)) (fun _ => rfl)
        refine Ars.more ?_ (fun _ => rfl); refine Ev.name (memI 11 rfl) ?_; refine Ars.more ?_ (fun _ => rfl); refine Ev.name (memI 12 rfl) ?_; refine Ars.more ?_ (fun _ => rfl); refine Ev.name (memI 6 rfl) ?_; refine Ars.more ?_ (fun _ => rfl); refine Ev.name (memI 7 rfl) ?_; refine Ars.more ?_ (fun _ => rfl); refine Ev.name (memI 4 rfl) ?_; refine Ars.nil ?_; refine ⟨Or.inl rfl, ?_⟩; refine ⟨Or.inl rfl, ?_⟩; refine ⟨Or.inl rfl, ?_⟩; refine ⟨Or.inl rfl, ?_⟩; refine ⟨Or.inl rfl, ?_⟩
        refine FX.mono (k := 6) (by (clear hq hT hR hn hd0 hd1 hb z p0 p1 r10 r11 hb1 r20 r21 hb2 r30 r31 hb3 w0 w1 hb4 hi hj l1 l2 slT eK eN kl lo1 hi1; omega)) ?_
        refine kill_region_raise (x := { x with bigs := b4, dk := k4, ro := true }) (T := T) ?t1 rfl (by (clear hq hT hR hn hd0 hd1 hb hnn z p0 p1 r11 hb1 r20 r21 hb2 r30 r31 hb3 w0 w1 hb4 hj l1 l2 slT eK eN kl lo1 hi1; omega)) (by show i ≤ x.zv; (clear hq hT hR hn hd0 hd1 hb hnn p0 p1 r10 hb1 r20 r21 hb2 r30 r31 hb3 w0 w1 hb4 hj l1 l2 slT eK eN kl lo1 hi1; omega)) (by (clear hq hT hR hn hd0 hd1 hb hnn z p0 p1 r10 r11 hb1 r21 hb2 r30 r31 hb3 w0 w1 hb4 hi l1 l2 slT eK eN kl lo1 hi1; omega)) (by show j ≤ x.zv; (clear hq hT hR hn hd0 hd1 hb hnn p0 p1 r10 r11 hb1 r20 hb2 r30 r31 hb3 w0 w1 hb4 hi l1 l2 slT eK eN kl lo1 hi1; omega)) (by (clear hq hR hn hd0 hd1 hb hnn z p0 p1 r10 r11 hb1 r20 r21 hb2 r30 r31 hb3 w0 w1 hb4 hi hj l1 l2 slT eK eN kl lo1 hi1; omega)) (by show x.R.length ≤ 100; (clear hq hT hn hd0 hd1 hb hnn z p0 p1 r10 r11 hb1 r20 r21 hb2 r30 r31 hb3 w0 w1 hb4 hi hj l1 l2 slT eK eN kl lo1 hi1; omega)) (fun p h => by have := hp p h; (clear hq hT hR hd0 hd1 hb hnn z p0 p1 r10 r11 hb1 r20 r21 hb2 r30 r31 hb3 w0 w1 hb4 hi hj l1 l2 slT eK eN kl lo1 hi1; omega)) fun ad dad => ?_
        case t1 => exact t.cast rfl rfl rfl rfl rfl rfl rfl rfl rfl
        rw [hK]
        refine ⟨rfl, fun c₂ hn₂ hs₂ => ?_⟩
        rw [hs] at hs₂
        dsimp only
        refine Ex.cons ?_; refine Sx.setattr ?_ (fun _ => rfl); refine Ev.bool ?_; refine ⟨rfl, ?_⟩; refine Ev.name (memI 12 rfl) ?_; refine SetA.buf_is_read_only ?_; (try dsimp only); refine Nx.next ?_; refine Ex.cons ?_; refine Sx.if_ ?_; refine Is.cmp ?_ rfl; refine Ev.name (memI 6 rfl) ?_; refine ⟨rfl, ?_⟩; refine Ev.int ?_; refine Cmp.eq ?_; refine ⟨_, rfl, ?_⟩
        refine ⟨fun _ => ?_, fun z => (by rw [hw1] at z; cases z)⟩
        refine Ex.cons ?_; refine Sx.ret ?_; refine Ev.ifx ?_; refine Is.and ?_; refine TB.and ?_; refine Is.not ?_; refine Is.plain ?_ (fun _ _ => rfl); refine Ev.name (memI 0 rfl) ?_; refine ⟨_, rfl, ?_⟩; refine ⟨(by intro z; cases z), ?_⟩; intro _; refine TB.and ?_; refine Is.cmp ?_ rfl; refine Ev.callG 711 (by kernel_rfl) (by kernel_rfl) hs₂ rfl (by kernel_rfl) ?_ (fun _ => rfl) (fun _ => rfl) (fun _ => rfl); refine Ars.more ?_ (fun _ => rfl); refine Ev.name (memI 12 rfl) ?_; refine Ars.more ?_ (fun _ => rfl); refine Ev.name (memI 13 rfl) ?_; refine Ars.nil ?_; refine ⟨Or.inl rfl, ?_⟩; refine ⟨Or.inl rfl, ?_⟩
        refine FS.mono (k := 3) (by (clear hq hT hR hn hd0 hd1 hb z p0 p1 r10 r11 hb1 r20 r21 hb2 r30 r31 hb3 w0 w1 hb4 hi hj l1 l2 slT eK eN kl lo1 hi1; omega)) ?_
        refine state_spec (T := T) ?t1 ?t2 ?_
        case t1 => exact t.toTxt.cast rfl rfl rfl
        case t2 => show K.length ≤ 1000; (clear hq hT hR hn hd0 hd1 hb hnn z p0 p1 r10 r11 hb1 r20 r21 hb2 r30 r31 hb3 w0 w1 hb4 hi hj l1 l2 slT eK eN lo1 hi1 hn₂; omega)
        dsimp only
        refine ⟨rfl, ?_⟩; refine Ev.tuple ?_; refine Ars.more ?_ (fun _ => rfl); refine Ev.name (memI 9 rfl) ?_; refine Ars.more ?_ (fun _ => rfl); refine Ev.name (memI 10 rfl) ?_; refine Ars.more ?_ (fun _ => rfl); refine Ev.name (memI 1 rfl) ?_; refine Ars.nil ?_; refine ⟨Or.inl rfl, ?_⟩; refine ⟨Or.inl rfl, ?_⟩; refine ⟨Or.inl rfl, ?_⟩
        refine ⟨_, .stt, Cmp.eqS ?_⟩
        rw [decide_eq_true (by exact ⟨rfl, rfl, rfl⟩)]
        refine ⟨_, rfl, ?_⟩; refine ⟨(by intro z; cases z), ?_⟩; intro _; refine TB.andNil ?_; refine ⟨?_, (by intro z; cases z)⟩; intro _; refine Ev.name (memI 1 rfl) ?_; refine Nx.ret ?_; refine Nx.ret ?_; refine Done.ret ?_
        refine hC _ _ { x with R := K, ptr := killedP x.ptr i j go, bigs := b4, dk := k4, ro := false } T (t.cast rfl rfl rfl rfl rfl rfl rfl rfl rfl) (Nat.le_refl _) rfl rfl rfl (killedP0 hq) kl km rfl (by show b4.length ≤ _; (clear hq hT hR hn hd0 hd1 hb hnn z p0 p1 r10 r11 r20 r21 r30 r31 w0 w1 hi hj l1 l2 slT eK eN kl lo1 hi1 hn₂; omega))
      | false =>
        refine ExR.of (Ex.cons (Sx.tryOk ?_))
        refine Ex.cons ?_; refine Sx.expr ?_ (fun _ => rfl); refine Ev.callG 478 (by kernel_rfl) (by kernel_rfl) hs rfl (by kernel_rfl) ?_ (fun _ => rfl) (fun _ => rfl) (fun _ => rfl); refine Ars.more ?_ (fun _ => rfl); refine Ev.name (memI 11 rfl) ?_; refine Ars.more ?_ (fun _ => rfl); refine Ev.name (memI 12 rfl) ?_; refine Ars.more ?_ (fun _ => rfl); refine Ev.name (memI 6 rfl) ?_; refine Ars.more ?_ (fun _ => rfl); refine Ev.name (memI 7 rfl) ?_; refine Ars.more ?_ (fun _ => rfl); refine Ev.name (memI 4 rfl) ?_; refine Ars.nil ?_; refine ⟨Or.inl rfl, ?_⟩; refine ⟨Or.inl rfl, ?_⟩; refine ⟨Or.inl rfl, ?_⟩; refine ⟨Or.inl rfl, ?_⟩; refine ⟨Or.inl rfl, ?_⟩
        refine FS.mono (k := 6) (by (clear hq hT hR hn hd0 hd1 hb z p0 p1 r10 r11 hb1 r20 r21 hb2 r30 r31 hb3 w0 w1 hb4 hi hj l1 l2 slT eK eN kl lo1 hi1; omega)) ?_
        refine kill_region_spec (x := { x with bigs := b4, dk := k4, ro := false }) (T := T) ?t1 rfl (by (clear hq hT hR hn hd0 hd1 hb hnn z p0 p1 r11 hb1 r20 r21 hb2 r30 r31 hb3 w0 w1 hb4 hj l1 l2 slT eK eN kl lo1 hi1; omega)) (by show i ≤ x.zv; (clear hq hT hR hn hd0 hd1 hb hnn p0 p1 r10 hb1 r20 r21 hb2 r30 r31 hb3 w0 w1 hb4 hj l1 l2 slT eK eN kl lo1 hi1; omega)) (by (clear hq hT hR hn hd0 hd1 hb hnn z p0 p1 r10 r11 hb1 r21 hb2 r30 r31 hb3 w0 w1 hb4 hi l1 l2 slT eK eN kl lo1 hi1; omega)) (by show j ≤ x.zv; (clear hq hT hR hn hd0 hd1 hb hnn p0 p1 r10 r11 hb1 r20 hb2 r30 r31 hb3 w0 w1 hb4 hi l1 l2 slT eK eN kl lo1 hi1; omega)) (by (clear hq hR hn hd0 hd1 hb hnn z p0 p1 r10 r11 hb1 r20 r21 hb2 r30 r31 hb3 w0 w1 hb4 hi hj l1 l2 slT eK eN kl lo1 hi1; omega)) (by show x.R.length ≤ 100; (clear hq hT hn hd0 hd1 hb hnn z p0 p1 r10 r11 hb1 r20 r21 hb2 r30 r31 hb3 w0 w1 hb4 hi hj l1 l2 slT eK eN kl lo1 hi1; omega)) (fun p h => by have := hp p h; (clear hq hT hR hd0 hd1 hb hnn z p0 p1 r10 r11 hb1 r20 r21 hb2 r30 r31 hb3 w0 w1 hb4 hi hj l1 l2 slT eK eN kl lo1 hi1; omega)) fun ad dad y c1 c2 c3 c4 => ?_
        case t1 => exact t.cast rfl rfl rfl rfl rfl rfl rfl rfl rfl
        have c4R : y.R = K := by rw [c4.R]; exact hK
        have c2 : y.p = (if min i j < x.p then max (min i j) (x.p - (max i j - min i j)) else x.p) := c2
        have c3 : y.mx = x.mx := c3
        refine Nx.next ?_; refine Ex.cons ?_; refine Sx.assignNew hs rfl (by kernel_rfl) rfl ?_ (fun _ => rfl); refine Ev.bool ?_; refine ⟨rfl, ?_⟩; refine Nx.next ?_; refine Ex.nil ?_; refine Nx.next ?_; refine Ex.cons ?_; refine Sx.setattr ?_ (fun _ => rfl); refine Ev.bool ?_; refine ⟨rfl, ?_⟩; refine Ev.name (memI 12 rfl) ?_; refine SetA.buf_is_read_only ?_; (try dsimp only); refine Nx.next ?_; refine Ex.cons ?_; refine Sx.if_ ?_; refine Is.cmp ?_ rfl; refine Ev.name (memI 6 rfl) ?_; refine ⟨rfl, ?_⟩; refine Ev.int ?_; refine Cmp.eq ?_; refine ⟨_, rfl, ?_⟩
        refine ⟨fun z => (by rw [hw1] at z; cases z), fun _ => ?_⟩
        refine Ex.nil ?_; refine Nx.next ?_; refine Ex.cons ?_
        have ol := out_len (T := T) (i := min i j - 1) (j := max i j - 1) (by (clear hq hT hR hn hd0 hd1 hb hnn z p0 p1 r10 r11 hb1 r20 r21 hb2 r30 r31 hb3 w0 w1 hb4 hi hj l1 l2 slT eK eN kl hi1 c2; omega)) (by (clear hq hT hR hn hd0 hd1 hb hnn z p0 p1 r10 r11 hb1 r20 r21 hb2 r30 r31 hb3 w0 w1 hb4 hi hj l1 l2 slT eK eN kl lo1 hi1 c2; omega)) (by (clear hq hT hR hn hd0 hd1 hb hnn z p0 p1 r10 r11 hb1 r20 r21 hb2 r30 r31 hb3 w0 w1 hb4 hi hj l1 l2 slT eK eN kl lo1 c2; omega))
        have yz := c1.z
        refine Sx.imp (D' := fun fl l' W' => fl = .next ∧ l' = (Str.ofString "the_point", SV.int y.p) :: [(Str.ofString "is_done", SV.bool true), (Str.ofString "own", SV.lol K), (Str.ofString "codes", SV.lst codes), (Str.ofString "low", SV.int (min i j)), (Str.ofString "high", SV.int (max i j)), (Str.ofString "the_goes_on", SV.bool go),
          (Str.ofString "way", SV.int way), (Str.ofString "start", SV.int i), (Str.ofString "end", SV.int j), (Str.ofString "text", SV.lst T), (Str.ofString "deck", SV.role Role.deck), (Str.ofString "buffer", SV.role Role.buf), (Str.ofString "ring", SV.role Role.ring)] ∧ W' = wd ad dad { y with ro := false }) ?_ ?_
        · refine Sx.assignOld 10 hs rfl (by kernel_rfl) rfl ?_ (fun _ => rfl); dsimp only [List.eraseIdx]; refine Ev.ifx ?_; refine Is.cmp ?_ rfl; refine Ev.name (memI 10 rfl) ?_; refine ⟨rfl, ?_⟩; refine Ev.name (memI 3 rfl) ?_; refine Cmp.le ?_; refine ⟨_, rfl, ?_⟩
          refine ⟨fun h => ?_, fun h => ?_⟩ <;> simp only [decide_eq_true_eq, decide_eq_false_iff_not] at h
          · rw [if_neg (by (clear hq hT hR hn hd0 hd1 hb hnn z p0 p1 r10 r11 hb1 r20 r21 hb2 r30 r31 hb3 w0 w1 hb4 hi hj l1 l2 slT eK eN kl lo1 hi1 c2 ol yz; omega))] at c2
            refine Ev.name (memI 10 rfl) ?_; refine ⟨rfl, ?_⟩; refine ⟨rfl, ?_⟩
            rw [c2]
            exact ⟨rfl, rfl⟩
          · rw [if_pos (by (clear hq hT hR hn hd0 hd1 hb hnn z p0 p1 r10 r11 hb1 r20 r21 hb2 r30 r31 hb3 w0 w1 hb4 hi hj l1 l2 slT eK eN kl lo1 hi1 c2 ol yz; omega))] at c2
            have l3 : (if min i j < x.p - (max i j - min i j) then x.p - (max i j - min i j) else min i j) = max (min i j) (x.p - (max i j - min i j)) := by (clear hq hT hR hn hd0 hd1 hb hnn z p0 p1 r10 r11 hb1 r20 r21 hb2 r30 r31 hb3 w0 w1 hb4 hi hj l1 l2 slT eK eN kl lo1 hi1 c2 ol yz h; omega)
            refine Ev.bcall "max" (by kernel_rfl) boot_max hs rfl (by kernel_rfl) (by decide) ?_ (fun _ => rfl) (fun _ => rfl) (fun _ => rfl); refine Ars.more ?_ (fun _ => rfl); refine Ev.name (memI 3 rfl) ?_; refine Ars.more ?_ (fun _ => rfl); refine Ev.bin ?_; refine Ev.name (memI 10 rfl) ?_; refine ⟨rfl, ?_⟩; refine Ev.bin ?_; refine Ev.name (memI 4 rfl) ?_; refine ⟨rfl, ?_⟩; refine Ev.name (memI 3 rfl) ?_; refine Bin.sub ?_; refine Bin.sub ?_; refine Ars.nil ?_; refine ⟨Or.inl rfl, ?_⟩; refine ⟨Or.inl rfl, ?_⟩; refine BC.max ?_; refine ⟨rfl, ?_⟩; refine ⟨rfl, ?_⟩
            rw [l3, ← c2]
            exact ⟨rfl, rfl⟩
        · rintro fl l' W' ⟨rfl, rfl, rfl⟩
          refine Nx.next ?_; refine Ex.cons ?_; refine Sx.assignNew hs rfl (by kernel_rfl) rfl ?_ (fun _ => rfl); refine Ev.tuple ?_; refine Ars.more ?_ (fun _ => rfl); refine Ev.bin ?_; refine Ev.cutS ?_; refine Ev.name (memI 10 rfl) ?_; refine Part.none ?_; refine Part.some ?_; refine Ev.bin ?_; refine Ev.name (memI 4 rfl) ?_; refine ⟨rfl, ?_⟩; refine Ev.int ?_; refine Bin.sub ?_; refine ⟨_, rfl, ?_⟩; refine ⟨Or.inl rfl, ?_⟩
          refine ⟨_, _, .nums .lst, by (clear hq hR hn hd0 hd1 hb hnn z p0 p1 r10 r11 hb1 r20 r21 hb2 r30 r31 hb3 w0 w1 hb4 hi hj l1 l2 slT eK eN kl lo1 hi1 c2 ol yz; omega), ?_⟩
          refine ⟨rfl, ?_⟩; refine Ev.cutS ?_; refine Ev.name (memI 10 rfl) ?_; refine Part.some ?_; refine Ev.bin ?_; refine Ev.name (memI 5 rfl) ?_; refine ⟨rfl, ?_⟩; refine Ev.int ?_; refine Bin.sub ?_; refine ⟨_, rfl, ?_⟩; refine Part.none ?_; refine ⟨Or.inl rfl, ?_⟩
          refine ⟨_, _, .nums .lst, by (clear hq hR hn hd0 hd1 hb hnn z p0 p1 r10 r11 hb1 r20 r21 hb2 r30 r31 hb3 w0 w1 hb4 hi hj l1 l2 slT eK eN kl lo1 hi1 c2 ol yz; omega), ?_⟩
          refine Bin.cat .lst .lst (Nat.le_trans (Nat.add_le_add (lenTD _ _) (lenTD _ _)) (by (clear hq hR hn hd0 hd1 hb hnn z p0 p1 r10 r11 hb1 r20 r21 hb2 r30 r31 hb3 w0 w1 hb4 hi hj l1 l2 slT eK eN kl lo1 hi1 c2 ol yz; omega))) ?_
          rw [cut_out (by (clear hq hT hR hn hd0 hd1 hb hnn z p0 p1 r10 r11 hb1 r20 r21 hb2 r30 r31 hb3 w0 w1 hb4 hi hj l1 l2 slT eK eN kl hi1 c2 ol yz; omega)) (by (clear hq hT hR hn hd0 hd1 hb hnn z p0 p1 r10 r11 hb1 r20 r21 hb2 r30 r31 hb3 w0 w1 hb4 hi hj l1 l2 slT eK eN kl lo1 hi1 c2 ol yz; omega)) (by (clear hq hT hR hn hd0 hd1 hb hnn z p0 p1 r10 r11 hb1 r20 r21 hb2 r30 r31 hb3 w0 w1 hb4 hi hj l1 l2 slT eK eN kl lo1 c2 ol yz; omega))]
          refine Ars.more ?_ (fun _ => rfl); refine Ev.name (memI 0 rfl) ?_; refine Ars.more ?_ (fun _ => rfl); refine Ev.name (memI 2 rfl) ?_; refine Ars.nil ?_; refine ⟨Or.inl rfl, ?_⟩; refine ⟨Or.inl rfl, ?_⟩; refine ⟨Or.inl rfl, ?_⟩
          refine ⟨_, .stt, rfl, ?_⟩
          refine Nx.next ?_; refine Ex.cons ?_; refine Sx.ret ?_; refine Ev.ifx ?_; refine Is.and ?_; refine TB.and ?_; refine Is.plain ?_ (fun _ _ => rfl); refine Ev.name (memI 2 rfl) ?_; refine ⟨_, rfl, ?_⟩; refine ⟨(by intro z; cases z), ?_⟩; intro _; refine TB.and ?_; refine Is.cmp ?_ rfl; refine Ev.callG 711 (by kernel_rfl) (by kernel_rfl) hs rfl (by kernel_rfl) ?_ (fun _ => rfl) (fun _ => rfl) (fun _ => rfl); refine Ars.more ?_ (fun _ => rfl); refine Ev.name (memI 13 rfl) ?_; refine Ars.more ?_ (fun _ => rfl); refine Ev.name (memI 14 rfl) ?_; refine Ars.nil ?_; refine ⟨Or.inl rfl, ?_⟩; refine ⟨Or.inl rfl, ?_⟩
          refine FS.mono (k := 3) (by (clear hq hT hR hn hd0 hd1 hb z p0 p1 r10 r11 hb1 r20 r21 hb2 r30 r31 hb3 w0 w1 hb4 hi hj l1 l2 slT eK eN kl lo1 hi1 c2 ol yz; omega)) ?_
          refine state_spec (T := out T (min i j - 1) (max i j - 1)) ?t1 ?t2 ?_
          case t1 => exact c1.toTxt.cast rfl rfl rfl
          case t2 => show y.R.length ≤ 1000; rw [c4R]; (clear hq hT hR hn hd0 hd1 hb hnn z p0 p1 r10 r11 hb1 r20 r21 hb2 r30 r31 hb3 w0 w1 hb4 hi hj l1 l2 slT eK eN lo1 hi1 c2 ol yz; omega)
          dsimp only
          refine ⟨rfl, ?_⟩; refine Ev.name (memI 0 rfl) ?_
          refine Cmp.eqS ?_
          rw [decide_eq_true (by exact ⟨rfl, rfl, c4R⟩)]
          refine ⟨_, rfl, ?_⟩; refine ⟨(by intro z; cases z), ?_⟩; intro _; refine TB.andNil ?_; refine ⟨?_, (by intro z; cases z)⟩; intro _; refine Ev.name (memI 3 rfl) ?_; refine Nx.ret ?_; refine Done.ret ?_
          rw [← c4R]
          refine hC _ _ { y with ro := false } _ (c1.cast rfl rfl rfl rfl rfl rfl rfl rfl rfl) (by (clear hq hT hR hn hd0 hd1 hb hnn z p0 p1 r10 r11 hb1 r20 r21 hb2 r30 r31 hb3 w0 w1 hb4 hi hj l1 l2 slT eK eN kl lo1 hi1 c2 yz; omega)) rfl c3 c4.kx (c4.ptr.trans (killedP0 hq)) (by show y.R.length ≤ 5; rw [c4R]; exact kl) (by show ∀ p ∈ y.R, _; rw [c4R]; exact km) c4.dcs (by show y.bigs.length ≤ _; rw [c4.bigs]; show b4.length ≤ _; (clear hq hT hR hn hd0 hd1 hb hnn z p0 p1 r10 r11 r20 r21 r30 r31 w0 w1 hi hj l1 l2 slT eK eN kl lo1 hi1 c2 ol yz; omega))
end
section
variable {ad dad : Role → Addr} {x : AS} {T : List Int} {C : SV → Wd → Prop} {W : Wd}
noncomputable def bodyOf (st : Option Stmt) : List Stmt := match st with
  | some (.FunctionDef _ _ body _ _ _ _ _ _ _) => body
  | _ => []
noncomputable def scopeOf (st : Option Stmt) : Option Scope := match st with
  | some (.FunctionDef _ _ _ _ _ _ scope _ _ _) => some scope
  | _ => none
/-- the law's own statements from the k-th on -/
noncomputable def ExLaw (k : Nat) (l : Loc) (W : Wd) (D : Fl → Loc → Wd → Prop) : Prop := ∀ c : Gx, 8 ≤ c.n → scopeOf (stAt 67) = some c.cs → c.outer = [] → Ex c l W ((bodyOf (stAt 67)).drop k) D
theorem ExLaw.of {k : Nat} {l : Loc} {D : Fl → Loc → Wd → Prop} {name : Str} {params : Arguments} {body : List Stmt} {scope : Scope} {a b c d e f} (h : stAt 67 = some (.FunctionDef name params body a b c scope d e f)) (H : ∀ c : Gx, 8 ≤ c.n → c.cs = scope → c.outer = [] → Ex c l W (body.drop k) D) : ExLaw k l W D := by
  unfold ExLaw
  rw [h]
  exact fun c hn hs h0 => H c hn (Option.some.inj hs).symm h0
theorem As1.forget {c : Gx} {l : Loc} {W : Wd} {m : Value → Sem Unit} {sv : SV} {D : Loc → Wd → Prop} (l' : Loc) (hl : ∀ p ∈ l', p ∈ l) (H : As1 c l' W m sv D) : As1 c l W m sv D := fun s h t Q E v sim i hQ => H s h t Q E v (sim.fewer hl) i hQ
theorem put_out {T U : List Int} {a b : Int} (h0 : 0 ≤ a) (h1 : a ≤ T.length) (hb : b = a + U.length) : out (put T a U) a b = T := by
  subst hb
  unfold out put
  have l1 : (T.take a.toNat).length = a.toNat := by rw [List.length_take]; (clear h0; omega)
  rw [List.append_assoc, List.take_append_of_le_length (by (clear h0 h1; omega)), List.take_of_length_le (by (clear h0 h1; omega)), ← List.append_assoc]
  rw [show (a + U.length).toNat = (T.take a.toNat ++ U).length by rw [List.length_append, l1]; (clear h1 l1; omega), List.drop_left, List.take_append_drop]
theorem dcsOf_ne (ns : List Int) : dcsOf ns ≠ [] := by unfold dcsOf; exact List.append_ne_nil_of_right_ne_nil _ (List.cons_ne_nil _ _)
theorem dcsOf_len (ns : List Int) : (dcsOf ns).length ≤ 1000 := by have := cellsOf_len ns; unfold dcsOf; rw [List.length_append]; simp only [List.length_cons, List.length_nil]; omega
theorem bigsOf_len (ns : List Int) : (bigsOf ns).length ≤ 1000 := by
  have := cellsOf_len ns
  have h : (bigsOf ns).length ≤ (cellsOf ns).length := List.length_filter_le _ _
  omega
structure Lw (x : AS) (T : List Int) (m : Nat) : Prop where
  t : Bf x T
  ro : x.ro = false
  mx : x.mx = false
  kx : x.kx = false
  ptr : x.ptr = 0
  R5 : x.R.length ≤ 5
  pm : ∀ p ∈ x.R, p.length ≤ m
  d0 : x.dcs ≠ []
  d1 : x.dcs.length ≤ 1000
  b : x.bigs.length ≤ 1000
  T8 : T.length ≤ 8
theorem Lw.le {m k : Nat} (w : Lw x T m) (h : m ≤ k) : Lw x T k := ⟨w.t, w.ro, w.mx, w.kx, w.ptr, w.R5, fun p hp => Nat.le_trans (w.pm p hp) h, w.d0, w.d1, w.b, w.T8⟩
theorem Lw.deck {m : Nat} {b : List Int} {k : Int} (w : Lw x T m) (h : b.length ≤ x.bigs.length) : Lw { x with bigs := b, dk := k } T m :=
  ⟨w.t.cast rfl rfl rfl rfl rfl rfl rfl rfl rfl, w.ro, w.mx, w.kx, w.ptr, w.R5, w.pm, w.d0, w.d1, Nat.le_trans h w.b, w.T8⟩
theorem Lw.at_ {m : Nat} {i : Int} (w : Lw x T m) (h0 : 1 ≤ i) (h1 : i ≤ x.zv) : Lw { x with p := i } T m :=
  ⟨⟨w.t.toTxt.cast rfl rfl rfl, ⟨w.t.r, w.t.m, w.t.b⟩, w.t.z, h0, h1⟩, w.ro, w.mx, w.kx, w.ptr, w.R5, w.pm, w.d0, w.d1, w.b, w.T8⟩
theorem rng_get {n i : Nat} {sv : SV} (h : ((upto n).map SV.int)[i]? = some sv) : i < n ∧ sv = .int i := by
  have hl : ((upto n).map SV.int).length = n := by simp [upto]
  obtain ⟨hi, e⟩ := List.getElem?_eq_some_iff.mp h
  rw [hl] at hi
  refine ⟨hi, ?_⟩
  rw [← e]
  simp [upto]
noncomputable def x00 (ns : List Int) : AS := { cells := List.replicate 8 0, gs := 0, ge := 8, p := 1, zv := 1, ro := false, tk := 1, ct := 1, bm := false, mx := false, mb := false, mp := 0, rw := false, kx := false, ptr := 0, R := [], bigs := bigsOf ns, dcs := dcsOf ns, dk := 0 }
theorem x00_ok (ns : List Int) : Lw (x00 ns) [] 0 where
  t := { g0 := by show (0 : Int) ≤ 0; decide, g1 := by show (0 : Int) ≤ 8; decide, g2 := by show (8 : Int) ≤ 8; decide, sz := by show 8 ≤ 100000; decide, tx := rfl, r := rfl, m := rfl, b := rfl, z := rfl, p0 := by show (1 : Int) ≤ 1; decide, p1 := by show (1 : Int) ≤ 1; decide }
  ro := rfl
  mx := rfl
  kx := rfl
  ptr := rfl
  R5 := Nat.zero_le _
  pm := fun _ z => nomatch z
  d0 := dcsOf_ne ns
  d1 := dcsOf_len ns
  b := bigsOf_len ns
  T8 := Nat.zero_le _
noncomputable def lA (R : List (List Int)) : Loc := [(Str.ofString "own", .lol R), (Str.ofString "ring", .role .ring), (Str.ofString "buffer", .role .buf), (Str.ofString "deck", .role .deck)]
noncomputable def J1 (i : Nat) (l : Loc) (W : Wd) : Prop := ∃ ad dad x T, (∀ p ∈ lA x.R, p ∈ l) ∧ W = wd ad dad x ∧ Lw x T (8 * i)
theorem law_ex {ns : List Int} (hz : ns.length ≤ 63) (hab : ∀ r, W.ob r = .absent) (H : ∀ ad dad (x : AS) T, Lw x T 40 → ExLaw 4 [(Str.ofString "text", .lst T), (Str.ofString "the_point", .int x.p), (Str.ofString "at", .int 0), (Str.ofString "own", .lol x.R), (Str.ofString "ring", .role .ring), (Str.ofString "buffer", .role .buf), (Str.ofString "deck", .role .deck)] (wd ad dad x) (Done C)) : ExLaw 0 [(Str.ofString "script", .lst ns)] W (Done C) := by
  refine ExLaw.of rfl fun c hn hs h0 => ?_
  refine Ex.cons ?_
  refine Sx.tup4 hs rfl rfl rfl rfl (by kernel_rfl) (by kernel_rfl) (by kernel_rfl) (by kernel_rfl) rfl rfl rfl rfl rfl rfl rfl rfl rfl rfl ?_ (fun _ => rfl) (fun _ => rfl)
  refine Ars.more ?_ (fun _ => rfl); refine Ev.callG 699 (by kernel_rfl) (by kernel_rfl) hs rfl (by kernel_rfl) ?_ (fun _ => rfl) (fun _ => rfl) (fun _ => rfl); refine Ars.more ?_ (fun _ => rfl); refine Ev.name (memI 0 rfl) ?_; refine Ars.nil ?_; refine ⟨Or.inl rfl, ?_⟩
  refine FS.mono (by (clear hz; omega)) (deck_spec (hab _) (hab _) (by (clear hn; omega)) fun W1 h1 => ?_)
  refine Ars.more ?_ (fun _ => rfl)
  refine Ev.new 3 .buf 692 605 (by kernel_rfl) (by kernel_rfl) rfl (by kernel_rfl) hs rfl (by kernel_rfl) (by (clear hz; omega)) (by intro z; cases z) ?_ (fun _ => rfl) (fun _ => rfl) (fun _ => rfl)
  refine Ars.more ?_ (fun _ => rfl); refine Ev.int ?_; refine Ars.more ?_ (fun _ => rfl); refine Ev.str ?_; refine Ars.nil ?_; refine ⟨Or.inl rfl, ?_⟩; refine ⟨Or.inl rfl, ?_⟩
  refine ⟨?g, fun a d => ?_⟩
  case g => rw [h1]; exact hab _
  rw [← Wd.born_put _ .buf a d (.inst 692 []) (.inst 692 [])]
  refine FS.mono (by (clear hz hn; omega)) (buffer_init_spec ?g1 ?g2 ?g3 ?g4 fun W2 h2 => ⟨rfl, ?_⟩)
  case g1 => show W1.ob .gap = _; rw [h1]; exact hab _
  case g2 => show W1.ob .cells = _; rw [h1]; exact hab _
  case g3 => show W1.ob .marks = _; rw [h1]; exact hab _
  case g4 => show W1.ob .rows = _; rw [h1]; exact hab _
  refine Ars.more ?_ (fun _ => rfl)
  refine Ev.new 1 .ring 209 206 (by kernel_rfl) (by kernel_rfl) rfl (by kernel_rfl) hs rfl (by kernel_rfl) (by (clear hz; omega)) (by intro z; cases z) ?_ (fun _ => rfl) (fun _ => rfl) (fun _ => rfl)
  refine Ars.more ?_ (fun _ => rfl); refine Ev.int ?_; refine Ars.nil ?_; refine ⟨Or.inl rfl, ?_⟩
  refine ⟨?g, fun a' d' => ?_⟩
  case g => rw [h2]; show W1.ob .ring = _; rw [h1]; exact hab _
  rw [← Wd.born_put _ .ring a' d' (.inst 209 []) (.inst 209 [])]
  refine FS.mono (by (clear hz hn; omega)) (ring_init_spec ?g fun W3 h3 => ⟨rfl, ?_⟩)
  case g => show W2.ob .pcs = _; rw [h2]; show W1.ob .pcs = _; rw [h1]; exact hab _
  refine Ars.more ?_ (fun _ => rfl); refine Ev.list ?_; refine Ars.nil ?_
  refine ⟨by decide, _, Dsp.lists [], ?_⟩
  refine Ars.nil ?_; refine ⟨Or.inl rfl, ?_⟩; refine ⟨Or.inl rfl, ?_⟩; refine ⟨Or.inl rfl, ?_⟩; refine ⟨Or.inl rfl, ?_⟩
  refine ⟨_, _, _, _, rfl, rfl, ?_⟩
  have e0 : W3.ob = (wd W3.ad W3.dad (x00 ns)).ob := by
    funext r
    rw [h3]
    cases r <;> first
      | rfl
      | (show W2.ob _ = _; rw [h2]; first | rfl | (show W1.ob _ = _; rw [h1]; first | rfl | exact hab _))
  rw [wd_of e0]
  generalize W3.ad = ad
  generalize W3.dad = dad
  have w0 := x00_ok ns
  generalize hx0 : x00 ns = x0 at w0 ⊢
  have hR0 : x0.R = [] := by rw [← hx0]; rfl
  have hp0 : x0.p = 1 := by rw [← hx0]; rfl
  refine Nx.next ?_; refine Ex.cons ?_; refine Sx.expr ?_ (fun _ => rfl); refine Ev.callG 112 (by kernel_rfl) (by kernel_rfl) hs rfl (by kernel_rfl) ?_ (fun _ => rfl) (fun _ => rfl) (fun _ => rfl); refine Ars.more ?_ (fun _ => rfl); refine Ev.name (memI 2 rfl) ?_; refine Ars.more ?_ (fun _ => rfl); refine Ev.tcall "list" (by kernel_rfl) PyProof.Rows.boot_list hs rfl (by kernel_rfl) (by decide) ?_ (fun _ => rfl) (fun _ => rfl) (fun _ => rfl); refine Ars.more ?_ (fun _ => rfl); refine Ev.tcall "range" (by kernel_rfl) PyProof.Rows.boot_range hs rfl (by kernel_rfl) (by decide) ?_ (fun _ => rfl) (fun _ => rfl) (fun _ => rfl); refine Ars.more ?_ (fun _ => rfl); refine Ev.bin ?_; refine Ev.int ?_; refine ⟨rfl, ?_⟩; refine Ev.callG 706 (by kernel_rfl) (by kernel_rfl) hs rfl (by kernel_rfl) ?_ (fun _ => rfl) (fun _ => rfl) (fun _ => rfl); refine Ars.more ?_ (fun _ => rfl); refine Ev.name (memI 3 rfl) ?_; refine Ars.more ?_ (fun _ => rfl); refine Ev.int ?_; refine Ars.nil ?_; refine ⟨Or.inl rfl, ?_⟩; refine ⟨Or.inl rfl, ?_⟩
  refine FS.mono (by (clear hz hp0; omega)) (draw_spec (by decide) (by decide) w0.d0 w0.d1 w0.b fun r b k r0 r1 hb => ?_)
  refine Bin.add ?_; refine Ars.nil ?_; refine ⟨Or.inl rfl, ?_⟩
  obtain ⟨m, hm⟩ : ∃ m : Nat, 2 + r = m := ⟨(2 + r).toNat, by (clear hz hn hp0 r1 hb; omega)⟩
  rw [hm]
  refine TC.range ?_
  refine Ars.nil ?_; refine ⟨Or.inl rfl, ?_⟩
  refine TC.listRange (by (clear hz hn hp0 r0 hb; omega)) ?_
  refine Ars.nil ?_; refine ⟨Or.inl rfl, ?_⟩; refine ⟨Or.inl rfl, ?_⟩
  have um : (upto m).length = m := by simp [upto]
  refine FS.mono (k := 5) (by (clear hz hp0 r0 r1 hb hm um; omega)) ?_
  refine insert_fn_spec (x := { x0 with bigs := b, dk := k }) (T := []) ?t1 w0.ro ?t2 fun y b1 b2 b3 _ b5 => ?_
  case t1 => exact w0.t.cast rfl rfl rfl rfl rfl rfl rfl rfl rfl
  case t2 => rw [um]; simp; (clear hz hn hp0 r0 hb um; omega)
  have w1 : Lw y (upto m) 0 := by
    dsimp only at b1 b3 b5
    rw [hp0, show put [] (1 - 1) (upto m) = upto m by unfold put; simp] at b1
    refine ⟨b1, b5.ro.trans w0.ro, b3.trans w0.mx, b5.kx.trans w0.kx, b5.ptr.trans w0.ptr, by rw [b5.R]; exact w0.R5, by rw [b5.R]; exact w0.pm, by rw [b5.dcs]; exact w0.d0, by rw [b5.dcs]; exact w0.d1, by rw [b5.bigs]; dsimp only; have := w0.b; (clear hz hn hp0 r0 r1 hm um b2; omega), by (clear hz hn hp0 r0 hb b2; omega)⟩
  have hR : y.R = [] := b5.R.trans hR0
  refine Nx.next ?_
  refine Ex.cons ?_
  refine Sx.forO J1 ?_ (fun _ _ => rfl)
  refine Ev.tcall "range" (by kernel_rfl) PyProof.Rows.boot_range hs rfl (by kernel_rfl) (by decide) ?_ (fun _ => rfl) (fun _ => rfl) (fun _ => rfl); refine Ars.more ?_ (fun _ => rfl); refine Ev.bin ?_; refine Ev.int ?_; refine ⟨rfl, ?_⟩; refine Ev.callG 706 (by kernel_rfl) (by kernel_rfl) hs rfl (by kernel_rfl) ?_ (fun _ => rfl) (fun _ => rfl) (fun _ => rfl); refine Ars.more ?_ (fun _ => rfl); refine Ev.name (memI 3 rfl) ?_; refine Ars.more ?_ (fun _ => rfl); refine Ev.int ?_; refine Ars.nil ?_; refine ⟨Or.inl rfl, ?_⟩; refine ⟨Or.inl rfl, ?_⟩
  refine FS.mono (by (clear hz hp0 r0 r1 hb hm um b2; omega)) (draw_spec (by decide) (by decide) w1.d0 w1.d1 w1.b fun r' b' k' r0' r1' hb' => ?_)
  have w2 := w1.deck (k := k') hb'
  refine Bin.add ?_; refine Ars.nil ?_; refine ⟨Or.inl rfl, ?_⟩
  obtain ⟨n1, hn1⟩ : ∃ n : Nat, 1 + r' = n := ⟨(1 + r').toNat, by (clear hz hn hp0 r0 r1 hb hm um b2 r1' hb'; omega)⟩
  rw [hn1]
  refine TC.range ?_
  have ln1 : ((upto n1).map SV.int).length = n1 := by simp [upto]
  refine ⟨_, Itr.rng, by (clear hz hn hp0 r0 r1 hb hm um b2 r0' hb'; omega), ⟨ad, dad, _, _, ?_, rfl, w2⟩, ?_, ?_⟩
  · intro p hp
    rw [show ({ y with bigs := b', dk := k' } : AS).R = [] from hR] at hp
    exact List.mem_append_left [(Str.ofString "script", SV.lst ns)] hp
  · rintro c' i sv' hn' hs' ho' hsv l' W' ⟨ad, dad, x, T, hsub, rfl, w⟩
    obtain ⟨hi, rfl⟩ := rng_get hsv
    have hs2 := hs'.trans hs
    refine As1.forget (lA x.R) hsub ?_
    unfold lA
    refine As1.nameNew hs2 rfl (by kernel_rfl) rfl rfl ?_; refine Ex.cons ?_
    refine Sx.assignOld 1 hs2 rfl (by kernel_rfl) rfl ?_ (fun _ => rfl)
    refine Ev.callR (ho'.trans h0) 725 (by kernel_rfl) (by kernel_rfl) hs2 rfl (by kernel_rfl) ?_ (fun _ => rfl) (fun _ => rfl) (fun _ => rfl)
    refine Ars.more ?_ (fun _ => rfl); refine Ev.name (memI 4 rfl) ?_; refine Ars.more ?_ (fun _ => rfl); refine Ev.name (memI 3 rfl) ?_; refine Ars.more ?_ (fun _ => rfl); refine Ev.name (memI 2 rfl) ?_; refine Ars.more ?_ (fun _ => rfl); refine Ev.name (memI 1 rfl) ?_; refine Ars.nil ?_; refine ⟨Or.inl rfl, ?_⟩; refine ⟨Or.inl rfl, ?_⟩; refine ⟨Or.inl rfl, ?_⟩; refine ⟨Or.inl rfl, ?_⟩
    refine FSr.mono (k := 7) (by (clear hz hp0 r0 r1 hb hm um b2 r0' r1' hb' hn1 ln1 hi; omega)) ?_
    refine killed_spec (n := 8 * i) (T := T) w.t w.ptr w.ro (by have := w.T8; (clear hz hn hp0 r0 r1 hb hm um b2 r0' r1' hb' hn1 ln1 hn' hi; omega)) w.R5 w.pm (by (clear hz hn hp0 r0 r1 hb hm um b2 r0' hb' ln1 hn'; omega)) w.d0 w.d1 w.b fun ad dad z T' z1 z2 z3 z4 z5 z6 z7 z8 z9 z10 => ?_
    have wz : Lw z T' (8 * (i + 1)) := ⟨z1, z3, z4.trans w.mx, z5.trans w.kx, z6, z7, fun p hp => by have := z8 p hp; have := w.T8; (clear hz hn hp0 r0 r1 hb hm um b2 r0' r1' hb' hn1 ln1 hn' hi z2 z6 z7 z10; omega), by rw [z9]; exact w.d0, by rw [z9]; exact w.d1, Nat.le_trans z10 w.b, by have := w.T8; (clear hz hn hp0 r0 r1 hb hm um b2 r0' r1' hb' hn1 ln1 hn' hi z6 z7 z10; omega)⟩
    refine ⟨rfl, ?_⟩
    dsimp only [List.eraseIdx]
    refine Nx.next ?_; refine Ex.cons ?_; refine Sx.if_ ?_; refine Is.cmp ?_ rfl; refine Ev.name (memI 0 rfl) ?_; refine ⟨rfl, ?_⟩; refine Ev.none ?_; refine Cmp.isNlol ?_; refine ⟨_, rfl, ?_⟩; refine ⟨(by intro z; cases z), ?_⟩; intro _; refine Ex.nil ?_; refine Nx.next ?_; refine Ex.cons ?_; refine Sx.expr ?_ (fun _ => rfl); refine' Ev.methG ?_ (fun _ => rfl) (fun _ => rfl) (fun _ => rfl); refine Ev.name (memI 3 rfl) ?_; refine Mth.buf 661 (by kernel_rfl) (by kernel_rfl) (by kernel_rfl) ?_; refine Ars.more ?_ (fun _ => rfl); refine Ev.bin ?_; refine Ev.int ?_; refine ⟨rfl, ?_⟩; refine Ev.callG 706 (by kernel_rfl) (by kernel_rfl) hs2 rfl (by kernel_rfl) ?_ (fun _ => rfl) (fun _ => rfl) (fun _ => rfl); refine Ars.more ?_ (fun _ => rfl); refine Ev.name (memI 4 rfl) ?_; refine Ars.more ?_ (fun _ => rfl); refine Ev.bin ?_; refine' Ev.meth0G ?_ (fun _ => rfl); refine Ev.name (memI 3 rfl) ?_; refine Mth.buf 640 (by kernel_rfl) (by kernel_rfl) (by kernel_rfl) ?_
    refine FS.mono (by (clear hz hp0 r0 r1 hb hm um b2 r0' r1' hb' hn1 ln1 hi z2 z6 z7 z10; omega)) (buf_size_spec z1.toTxt ?_)
    refine ⟨rfl, ?_⟩; refine Ev.int ?_; refine Bin.add ?_; refine Ars.nil ?_; refine ⟨Or.inl rfl, ?_⟩; refine ⟨Or.inl rfl, ?_⟩
    have T8' := wz.T8
    refine FS.mono (by (clear hz hp0 r0 r1 hb hm um b2 r0' r1' hb' hn1 ln1 hi z2 z6 z7 z10 T8'; omega)) (draw_spec (by (clear hz hn hp0 r0 r1 hb hm um b2 r0' r1' hb' hn1 ln1 hn' hi z2 z6 z7 z10 T8'; omega)) (by (clear hz hn hp0 r0 r1 hb hm um b2 r0' r1' hb' hn1 ln1 hn' hi z2 z6 z7 z10; omega)) wz.d0 wz.d1 wz.b fun q b k q0 q1 hb => ?_)
    have wy := wz.deck (k := k) hb
    have zz := z1.z
    refine Bin.add ?_; refine Ars.nil ?_; refine ⟨Or.inl rfl, ?_⟩
    refine FS.mono (by (clear hz hp0 r0 r1 hm um b2 r0' r1' hb' hn1 ln1 hi z2 z6 z7 z10 T8' q0 q1 hb zz; omega)) (goto_spec (by (clear hz hn hp0 r0 r1 hm um b2 r0' r1' hb' hn1 ln1 hn' hi z2 z6 z7 z10 T8' q1 hb zz; omega)) (by dsimp only; (clear hz hn hp0 r0 r1 hm um b2 r0' r1' hb' hn1 ln1 hn' hi z2 z6 z7 z10 T8' q0 hb; omega)) ?_)
    refine Nx.next ?_; refine Ex.nil ?_
    exact ⟨ad, dad, _, T', fun p hp => (by
      rcases List.mem_cons.mp hp with rfl | hp
      · exact .head _
      · exact .tail _ (.tail _ hp)), rfl, wy.at_ (i := 1 + q) (by (clear hz hn hp0 r0 r1 hm um b2 r0' r1' hb' hn1 ln1 hn' hi z2 z6 z7 z10 T8' q1 hb zz; omega)) (by dsimp only; (clear hz hn hp0 r0 r1 hm um b2 r0' r1' hb' hn1 ln1 hn' hi z2 z6 z7 z10 T8' q0 hb; omega))⟩
  · rintro l' W' ⟨ad, dad, x, T, hsub, rfl, w⟩
    refine Nx.next (Ex.forget (lA x.R) hsub ?_)
    unfold lA
    have T8 := w.T8
    refine Ex.cons ?_; refine Sx.swap3 hs rfl rfl rfl (by kernel_rfl) (by kernel_rfl) (by kernel_rfl) rfl rfl rfl rfl rfl rfl ?_ (fun _ => rfl) (by intro c e; cases c; dsimp only at e; subst e; rfl); refine Ars.more ?_ (fun _ => rfl); refine' Ev.methG ?_ (fun _ => rfl) (fun _ => rfl) (fun _ => rfl); refine Ev.name (memI 2 rfl) ?_; refine Mth.buf 654 (by kernel_rfl) (by kernel_rfl) (by kernel_rfl) ?_; refine Ars.more ?_ (fun _ => rfl); refine Ev.int ?_; refine Ars.more ?_ (fun _ => rfl); refine Ev.bin ?_; refine' Ev.meth0G ?_ (fun _ => rfl); refine Ev.name (memI 2 rfl) ?_; refine Mth.buf 640 (by kernel_rfl) (by kernel_rfl) (by kernel_rfl) ?_
    refine FS.mono (by (clear hz hp0 r0 r1 hb hm um b2 r0' r1' hb' hn1 ln1 T8; omega)) (buf_size_spec w.t.toTxt ?_)
    refine ⟨rfl, ?_⟩; refine Ev.int ?_; refine Bin.add ?_; refine Ars.nil ?_; refine ⟨Or.inl rfl, ?_⟩; refine ⟨Or.inl rfl, ?_⟩
    refine FS.mono (by (clear hz hp0 r0 r1 hb hm um b2 r0' r1' hb' hn1 ln1 T8; omega)) (buf_codes_spec w.t.toTxt (by (clear hz hn hp0 r0 r1 hb hm um b2 r0' r1' hb' hn1 ln1 T8; omega)) (by (clear hz hn hp0 r0 r1 hb hm um b2 r0' r1' hb' hn1 ln1 T8; omega)) (by (clear hz hn hp0 r0 r1 hb hm um b2 r0' r1' hb' hn1 ln1 T8; omega)) ?_)
    have e : sl T (1 - 1) (T.length + 1 - 1) = T := by
      unfold sl
      rw [show ((T.length : Int) + 1 - 1).toNat - (1 - 1 : Int).toNat = T.length by (clear hz hn hp0 r0 r1 hb hm um b2 r0' r1' hb' hn1 ln1 T8; omega)]
      exact List.take_of_length_le (Nat.le_refl _)
    rw [e]
    refine Ars.more ?_ (fun _ => rfl); refine Ev.attr ?_ (fun _ => rfl); refine Ev.name (memI 2 rfl) ?_; refine Get.buf_point ?_; refine Ars.more ?_ (fun _ => rfl); refine Ev.int ?_; refine Ars.nil ?_; refine ⟨Or.inl rfl, ?_⟩; refine ⟨Or.inl rfl, ?_⟩; refine ⟨Or.inl rfl, ?_⟩; refine ⟨_, _, _, rfl, ?_⟩; refine ⟨rfl, ?_⟩; refine ⟨rfl, ?_⟩; refine ⟨rfl, ?_⟩; refine Nx.next ?_
    exact H ad dad x T (w.le (by rw [ln1]; (clear hz hn hp0 r0 r1 hb hm um b2 r0' hb' ln1 T8; omega))) c hn (by rw [hs]; rfl) h0
end
section
variable {ad dad : Role → Addr} {x : AS} {C : SV → Wd → Prop} {W : Wd}
noncomputable def forBody (k : Nat) : List Stmt := match (bodyOf (stAt 67))[k]? with
  | some (.For _ _ b _ _) => b
  | _ => []
/-- the second loop's constants -/
theorem cut_put {T U : List Int} {j : Int} (h0 : 0 ≤ j) (h2 : j ≤ T.length) : (T.drop (kms_lo Pt.no.opt T.length)).take (kms_hi (Pt.num j).opt T.length - kms_lo Pt.no.opt T.length) ++ U ++ (T.drop (kms_lo (Pt.num j).opt T.length)).take (kms_hi Pt.no.opt T.length - kms_lo (Pt.num j).opt T.length) = put T j U := by
  rw [lo_num h0, hi_num h0]
  show List.take (min j.toNat T.length - 0) T ++ U ++ List.take (T.length - min j.toNat T.length) (T.drop (min j.toNat T.length)) = _
  unfold put
  rw [show min j.toNat T.length - 0 = j.toNat by (clear h0; omega), show min j.toNat T.length = j.toNat by (clear h0; omega), List.take_of_length_le (l := T.drop j.toNat) (by rw [List.length_drop]; (clear h0 h2; omega))]
structure Cs (R : List (List Int)) (T : List Int) (P : Int) : Prop where
  R5 : R.length ≤ 5
  pm : ∀ p ∈ R, p.length ≤ 40
  T8 : T.length ≤ 8
  P0 : 1 ≤ P
  P1 : P ≤ T.length + 1
theorem Cs.pc {R T P} (k : Cs R T P) (i : Nat) : (R.getD i []).length ≤ 40 := by
  rw [List.getD_eq_getElem?_getD]
  cases h : R[i]? with
  | none => exact Nat.zero_le _
  | some p => exact k.pm p (List.mem_of_getElem? h)
/-- what stays in the world -/
structure Ky (R : List (List Int)) (x : AS) : Prop where
  ro : x.ro = false
  kR : x.R = R
  d0 : x.dcs ≠ []
  d1 : x.dcs.length ≤ 1000
  b : x.bigs.length ≤ 1000
/-- a piece stands in the text -/
structure Yk (R : List (List Int)) (T : List Int) (P : Int) (sw : Bool) (x : AS) : Prop extends Ky R x where
  t : Bf x (put T (P - 1) (R.getD x.ptr.toNat []))
  mx : x.mx = true
  q0 : 0 ≤ x.ptr
  q1 : x.ptr < R.length
  p : x.p = (if sw = true then P else P + (R.getD x.ptr.toNat []).length)
  mp : x.mp = (if sw = true then P + (R.getD x.ptr.toNat []).length else P)
noncomputable def lB (R : List (List Int)) (T : List Int) (P a : Int) : Loc := [(Str.ofString "at", .int a), (Str.ofString "the_point", .int P), (Str.ofString "text", .lst T), (Str.ofString "own", .lol R), (Str.ofString "ring", .role .ring), (Str.ofString "buffer", .role .buf), (Str.ofString "deck", .role .deck)]
noncomputable def J2 (R : List (List Int)) (T : List Int) (P : Int) (i : Nat) (l : Loc) (W : Wd) : Prop := ∃ ad dad x, W = wd ad dad x ∧ (∀ p ∈ lB R T P x.ptr, p ∈ l) ∧ Ky R x ∧ match i with
  | 0 => x.ptr = 0 ∧ x.p = P ∧ Bf x T ∧ x.mx = false ∧ x.kx = false
  | _ => ∃ sw, (Str.ofString "is_ahead", SV.bool sw) ∈ l ∧ Yk R T P sw x ∧ (sw = true → R.getD x.ptr.toNat [] ≠ [])
theorem Yk.fin {R : List (List Int)} {T : List Int} {P : Int} {sw : Bool} {i : Nat} {D : Fl → Loc → Wd → Prop} {l : Loc} (y : Yk R T P sw x) (hU : sw = true → R.getD x.ptr.toNat [] ≠ []) (hm : (Str.ofString "is_ahead", SV.bool sw) ∈ l) (hl : ∀ p ∈ lB R T P x.ptr, p ∈ l) : Lp (J2 R T P) i D .next l (wd ad dad x) :=
  ⟨ad, dad, x, rfl, hl, y.toKy, sw, hm, y, hU⟩
theorem turn_tail {R : List (List Int)} {T : List Int} {P a by_ : Int} {sw : Bool} {i : Nat} {D : Fl → Loc → Wd → Prop} (k : Cs R T P) (y : Yk R T P sw x) (ha : x.ptr = (a + by_).fmod R.length)
    {c : Gx} (hn : 8 ≤ c.n) (hs : scopeOf (stAt 67) = some c.cs) : Ex c ([(Str.ofString "is_ahead", .bool sw), (Str.ofString "by", .int by_)] ++ lB R T P a) (wd ad dad x) ((forBody 4).drop 2) (Lp (J2 R T P) i D) := by
  have hs := (Option.some.inj hs).symm
  have q0 := y.q0
  have q1 := y.q1
  have R5 := k.R5
  have T8 := k.T8
  have P0 := k.P0
  have P1 := k.P1
  have hU := k.pc x.ptr.toNat
  have yp := y.p
  have ym := y.mp
  have yt := y.t
  unfold lB
  show Ex _ [(Str.ofString "is_ahead", .bool sw), (Str.ofString "by", .int by_), (Str.ofString "at", .int a), (Str.ofString "the_point", .int P), (Str.ofString "text", .lst T), (Str.ofString "own", .lol R), (Str.ofString "ring", .role .ring), (Str.ofString "buffer", .role .buf), (Str.ofString "deck", .role .deck)] _ _ _
  generalize hUU : R.getD x.ptr.toNat [] = U at *
  refine Ex.cons ?_
  refine Sx.assignOld 2 hs rfl (by kernel_rfl) rfl ?_ (fun _ => rfl); dsimp only [List.eraseIdx]; refine Ev.bin ?_; refine Ev.bin ?_; refine Ev.name (memI 2 rfl) ?_; refine ⟨rfl, ?_⟩; refine Ev.name (memI 1 rfl) ?_; refine Bin.add ?_; refine ⟨rfl, ?_⟩; refine Ev.bcall "len" (by kernel_rfl) PySem.boot_len hs rfl (by kernel_rfl) (by decide) ?_ (fun _ => rfl) (fun _ => rfl) (fun _ => rfl); refine Ars.more ?_ (fun _ => rfl); refine Ev.name (memI 5 rfl) ?_; refine Ars.nil ?_; refine ⟨Or.inl rfl, ?_⟩
  refine BC.len .lol (by (clear ha hn q0 q1 T8 P0 P1 hU yp ym; omega)) ?_
  refine Bin.mod (by (clear ha hn R5 T8 P0 P1 hU yp ym; omega)) ?_
  rw [← ha]
  refine ⟨rfl, ?_⟩; refine Nx.next ?_; refine Ex.cons ?_; refine Sx.assignNew hs rfl (by kernel_rfl) rfl ?_ (fun _ => rfl); refine Ev.itemG ?_ (fun _ _ => ⟨_, rfl⟩); refine Ev.name (memI 5 rfl) ?_; refine Ev.name (memI 0 rfl) ?_
  refine ItemG.lol q0 q1 (by (clear ha hn q0 q1 T8 P0 P1 hU yp ym; omega)) ?_
  rw [hUU]
  refine ⟨rfl, ?_⟩; refine Nx.next ?_; refine Ex.cons ?_
  refine Sx.imp (D' := fun fl l' W' => fl = .next ∧ l' = [(Str.ofString "places", .lst [x.p, x.mp]), (Str.ofString "codes", .lst U), (Str.ofString "at", .int x.ptr), (Str.ofString "is_ahead", .bool sw), (Str.ofString "by", .int by_), (Str.ofString "the_point", .int P), (Str.ofString "text", .lst T), (Str.ofString "own", .lol R), (Str.ofString "ring", .role .ring), (Str.ofString "buffer", .role .buf), (Str.ofString "deck", .role .deck)] ∧ W' = wd ad dad x) ?_ ?_
  · refine Sx.assignNew hs rfl (by kernel_rfl) rfl ?_ (fun _ => rfl); refine Ev.ifx ?_; refine Is.plain ?_ (fun _ _ => rfl); refine Ev.name (memI 2 rfl) ?_; refine ⟨_, rfl, ?_⟩
    refine ⟨fun h => ?_, fun h => ?_⟩
    · rw [h, if_pos rfl] at yp ym
      refine Ev.list ?_; refine Ars.more ?_ (fun _ => rfl); refine Ev.name (memI 4 rfl) ?_; refine Ars.more ?_ (fun _ => rfl); refine Ev.bin ?_; refine Ev.name (memI 4 rfl) ?_; refine ⟨rfl, ?_⟩; refine Ev.bcall "len" (by kernel_rfl) PySem.boot_len hs rfl (by kernel_rfl) (by decide) ?_ (fun _ => rfl) (fun _ => rfl) (fun _ => rfl); refine Ars.more ?_ (fun _ => rfl); refine Ev.name (memI 0 rfl) ?_; refine Ars.nil ?_; refine ⟨Or.inl rfl, ?_⟩
      refine BC.len (.nums .lst) (by (clear ha hn q0 q1 R5 T8 P0 P1 yp ym; omega)) ?_
      refine Bin.add ?_; refine Ars.nil ?_; refine ⟨Or.inl rfl, ?_⟩; refine ⟨Or.inl rfl, ?_⟩
      refine ⟨by simp, _, Dsp.nums [P, P + U.length], ?_⟩
      rw [yp, ym]
      exact ⟨rfl, rfl, rfl, rfl⟩
    · rw [h, if_neg (by decide)] at yp ym
      refine Ev.list ?_; refine Ars.more ?_ (fun _ => rfl); refine Ev.bin ?_; refine Ev.name (memI 4 rfl) ?_; refine ⟨rfl, ?_⟩; refine Ev.bcall "len" (by kernel_rfl) PySem.boot_len hs rfl (by kernel_rfl) (by decide) ?_ (fun _ => rfl) (fun _ => rfl) (fun _ => rfl); refine Ars.more ?_ (fun _ => rfl); refine Ev.name (memI 0 rfl) ?_; refine Ars.nil ?_; refine ⟨Or.inl rfl, ?_⟩
      refine BC.len (.nums .lst) (by (clear ha hn q0 q1 R5 T8 P0 P1 yp ym; omega)) ?_
      refine Bin.add ?_; refine Ars.more ?_ (fun _ => rfl); refine Ev.name (memI 4 rfl) ?_; refine Ars.nil ?_; refine ⟨Or.inl rfl, ?_⟩; refine ⟨Or.inl rfl, ?_⟩
      refine ⟨by simp, _, Dsp.nums [P + U.length, P], ?_⟩
      rw [yp, ym]
      exact ⟨rfl, rfl, rfl, rfl⟩
  rintro fl l' W' ⟨rfl, rfl, rfl⟩
  refine Nx.next ?_; refine Ex.cons ?_; refine Sx.if_ ?_; refine Is.or ?_; refine TB.or ?_; refine Is.cmp ?_ rfl; refine Ev.list ?_; refine Ars.more ?_ (fun _ => rfl); refine Ev.attr ?_ (fun _ => rfl); refine Ev.name (memI 9 rfl) ?_; refine Get.buf_point ?_; refine Ars.more ?_ (fun _ => rfl); refine Ev.callG 428 (by kernel_rfl) (by kernel_rfl) hs rfl (by kernel_rfl) ?_ (fun _ => rfl) (fun _ => rfl) (fun _ => rfl); refine Ars.more ?_ (fun _ => rfl); refine Ev.name (memI 9 rfl) ?_; refine Ars.nil ?_; refine ⟨Or.inl rfl, ?_⟩
  refine FS.mono (by (clear ha q0 q1 R5 T8 P0 P1 hU yp ym; omega)) (mark_place_spec yt.toMk y.mx ?_)
  refine Ars.nil ?_; refine ⟨Or.inl rfl, ?_⟩; refine ⟨Or.inl rfl, ?_⟩
  refine ⟨by simp, _, Dsp.nums [x.p, x.mp], ?_⟩
  refine ⟨rfl, ?_⟩; refine Ev.name (memI 0 rfl) ?_
  refine Cmp.neN .lst .lst ?_
  rw [decide_eq_true rfl]
  refine ⟨_, rfl, ?_⟩; refine ⟨(by intro z; cases z), ?_⟩; intro _; refine TB.or ?_; refine Is.cmp ?_ rfl; refine Ev.attr ?_ (fun _ => rfl); refine Ev.name (memI 8 rfl) ?_; refine Get.ring_pointer ?_; refine ⟨rfl, ?_⟩; refine Ev.name (memI 2 rfl) ?_; refine Cmp.ne ?_; refine ⟨_, rfl, ?_⟩
  rw [bne_self_eq_false]
  refine ⟨(by intro z; cases z), ?_⟩; intro _; refine TB.orNil ?_; refine ⟨(by intro z; cases z), ?_⟩; intro _; refine Ex.nil ?_; refine Nx.next ?_; refine Ex.cons ?_; refine Sx.if_ ?_; refine Is.cmp ?_ rfl; refine' Ev.methG ?_ (fun _ => rfl) (fun _ => rfl) (fun _ => rfl); refine Ev.name (memI 9 rfl) ?_; refine Mth.buf 654 (by kernel_rfl) (by kernel_rfl) (by kernel_rfl) ?_; refine Ars.more ?_ (fun _ => rfl); refine Ev.int ?_; refine Ars.more ?_ (fun _ => rfl); refine Ev.bin ?_; refine' Ev.meth0G ?_ (fun _ => rfl); refine Ev.name (memI 9 rfl) ?_; refine Mth.buf 640 (by kernel_rfl) (by kernel_rfl) (by kernel_rfl) ?_
  refine FS.mono (by (clear ha q0 q1 R5 T8 P0 P1 hU yp ym; omega)) (buf_size_spec yt.toTxt ?_)
  refine ⟨rfl, ?_⟩; refine Ev.int ?_; refine Bin.add ?_; refine Ars.nil ?_; refine ⟨Or.inl rfl, ?_⟩; refine ⟨Or.inl rfl, ?_⟩
  have pl := put_len (T := T) (a := P - 1) (U := U) (by (clear ha hn q0 q1 R5 T8 P1 hU yp ym; omega)) (by (clear ha hn q0 q1 R5 T8 P0 hU yp ym; omega))
  have e : sl (put T (P - 1) U) (1 - 1) ((put T (P - 1) U).length + 1 - 1) = put T (P - 1) U := by
    unfold sl
    rw [show (((put T (P - 1) U).length : Int) + 1 - 1).toNat - (1 - 1 : Int).toNat = (put T (P - 1) U).length by (clear ha hn q0 q1 R5 T8 P0 P1 hU yp ym pl; omega)]
    exact List.take_of_length_le (Nat.le_refl _)
  refine FS.mono (by (clear ha q0 q1 R5 T8 P0 P1 hU yp ym pl; omega)) (buf_codes_spec yt.toTxt (by (clear ha hn q0 q1 R5 T8 P0 P1 hU yp ym pl; omega)) (by (clear ha hn q0 q1 R5 T8 P0 P1 hU yp ym pl; omega)) (by (clear ha hn q0 q1 R5 T8 P0 P1 hU yp ym pl; omega)) ?_)
  rw [e]
  refine ⟨rfl, ?_⟩; refine Ev.bin ?_; refine Ev.bin ?_; refine Ev.cutS ?_; refine Ev.name (memI 6 rfl) ?_; refine Part.none ?_; refine Part.some ?_; refine Ev.bin ?_; refine Ev.name (memI 5 rfl) ?_; refine ⟨rfl, ?_⟩; refine Ev.int ?_; refine Bin.sub ?_; refine ⟨_, rfl, ?_⟩; refine ⟨Or.inl rfl, ?_⟩
  refine ⟨_, _, .nums .lst, by (clear ha hn q0 q1 R5 P0 P1 hU yp ym pl; omega), ?_⟩
  refine ⟨rfl, ?_⟩; refine Ev.name (memI 1 rfl) ?_
  refine Bin.cat .lst .lst (Nat.le_trans (Nat.add_le_add (lenTD _ _) (Nat.le_refl _)) (by (clear ha hn q0 q1 R5 P0 P1 yp ym pl; omega))) ?_
  refine ⟨rfl, ?_⟩; refine Ev.cutS ?_; refine Ev.name (memI 6 rfl) ?_; refine Part.some ?_; refine Ev.bin ?_; refine Ev.name (memI 5 rfl) ?_; refine ⟨rfl, ?_⟩; refine Ev.int ?_; refine Bin.sub ?_; refine ⟨_, rfl, ?_⟩; refine Part.none ?_; refine ⟨Or.inl rfl, ?_⟩
  refine ⟨_, _, .nums .lst, by (clear ha hn q0 q1 R5 P0 P1 hU yp ym pl; omega), ?_⟩
  refine Bin.cat .lst .lst (by rw [List.length_append]; exact Nat.le_trans (Nat.add_le_add (Nat.add_le_add (lenTD _ _) (Nat.le_refl _)) (lenTD _ _)) (by (clear ha hn q0 q1 R5 P0 P1 yp ym pl; omega))) ?_
  rw [cut_put (by (clear ha hn q0 q1 R5 T8 P1 hU yp ym pl; omega)) (by (clear ha hn q0 q1 R5 T8 P0 hU yp ym pl; omega))]
  refine Cmp.neN .lst .lst ?_
  rw [decide_eq_true rfl]
  refine ⟨_, rfl, ?_⟩; refine ⟨(by intro z; cases z), ?_⟩; intro _; refine Ex.nil ?_; refine Nx.next ?_; refine Ex.cons ?_; refine Sx.assignOld 3 hs rfl (by kernel_rfl) rfl ?_ (fun _ => rfl); dsimp only [List.eraseIdx]; refine Ev.and ?_; refine Ev.name (memI 3 rfl) ?_; refine ⟨_, rfl, ?_⟩
  refine ⟨fun h => ⟨rfl, ?_⟩, fun h => ?_⟩
  · subst h
    refine Nx.next (Ex.nil ?_)
    refine y.fin (fun z => nomatch z) (.head _) fun p hp => ?_
    simp only [lB, List.mem_cons, List.not_mem_nil, or_false] at hp
    rcases hp with rfl | rfl | rfl | rfl | rfl | rfl | rfl
    · exact memI 3 rfl
    · exact memI 5 rfl
    · exact memI 6 rfl
    · exact memI 7 rfl
    · exact memI 8 rfl
    · exact memI 9 rfl
    · exact memI 10 rfl
  · subst h
    refine Ev.and1 ?_; refine Ev.cmp ?_ rfl; refine Ev.name (memI 1 rfl) ?_; refine ⟨rfl, ?_⟩; refine Ev.list ?_; refine Ars.nil ?_
    refine ⟨by decide, _, Dsp.nums [], ?_⟩
    refine Cmp.neN .lst .lst ?_
    refine ⟨rfl, ?_⟩; refine Nx.next ?_; refine Ex.nil ?_
    refine Yk.fin (sw := !decide (U = [])) ⟨y.toKy, y.t, y.mx, y.q0, y.q1, ?_, ?_⟩ (fun h => ?_) (.head _) fun p hp => ?_
    · rw [y.p, if_pos rfl, hUU]
      by_cases h : U = []
      · rw [h]; show P = P + 0; (clear ha hn q0 q1 R5 T8 P0 P1 hU pl yp ym; omega)
      · rw [decide_eq_false h]; rfl
    · rw [y.mp, if_pos rfl, hUU]
      by_cases h : U = []
      · rw [h]; show P + 0 = P; (clear ha hn q0 q1 R5 T8 P0 P1 hU pl yp ym; omega)
      · rw [decide_eq_false h]; rfl
    · rw [hUU]; intro z; rw [z] at h; cases h
    · simp only [lB, List.mem_cons, List.not_mem_nil, or_false] at hp
      rcases hp with rfl | rfl | rfl | rfl | rfl | rfl | rfl
      · exact memI 3 rfl
      · exact memI 5 rfl
      · exact memI 6 rfl
      · exact memI 7 rfl
      · exact memI 8 rfl
      · exact memI 9 rfl
      · exact memI 10 rfl
end
section
variable {ad dad : Role → Addr} {x : AS} {C : SV → Wd → Prop} {W : Wd}
theorem Bf.deck {T : List Int} {b : List Int} {q : Int} (t : Bf x T) : Bf { x with bigs := b, dk := q } T := t.cast rfl rfl rfl rfl rfl rfl rfl rfl rfl
theorem Ky.deck {R : List (List Int)} {b : List Int} {q : Int} (y : Ky R x) (h : b.length ≤ x.bigs.length) : Ky R { x with bigs := b, dk := q } := ⟨y.ro, y.kR, y.d0, y.d1, Nat.le_trans h y.b⟩
theorem mrk_born (hk : x.kx = false) {D : Wd → Prop} (hD : ∀ ad dad, SV.none = SV.none ∧ D (wd ad dad { x with kx := true })) : (wd ad dad x).ob .mrk = .absent ∧ ∀ a d, FS 1 (.ref 400) [.role .mrk, .int 3] ((wd ad dad x).born .mrk a d (.inst 403 [])) fun sv W => sv = .none ∧ D W := by
  refine ⟨by show obOf x .mrk = _; unfold obOf; rw [hk]; rfl, fun a d => ?_⟩
  rw [← Wd.born_put _ .mrk a d (.inst 403 []) (.inst 403 [])]
  refine markring_init_spec fun W' h => ⟨rfl, ?_⟩
  have e : W'.ob = (wd ad dad { x with kx := true }).ob := by rw [h]; funext r; cases r <;> rfl
  rw [wd_of e]
  exact (hD _ _).2
theorem turn0 {R : List (List Int)} {T : List Int} {P : Int} (k : Cs R T P) {D : Fl → Loc → Wd → Prop} (hD : ∀ l W, D (.ret (.bool true)) l W) {c : Gx} (hn : 8 ≤ c.n) (hs0 : scopeOf (stAt 67) = some c.cs) (h0 : c.outer = [])
    (ky : Ky R x) (hq : x.ptr = 0) (hp : x.p = P) (t : Bf x T) (hm : x.mx = false) (hk : x.kx = false) : Ex c ([(Str.ofString "the_turn", .int 0)] ++ lB R T P x.ptr) (wd ad dad x) (forBody 4) (Lp (J2 R T P) 0 D) := by
  have hs := (Option.some.inj hs0).symm
  have R5 := k.R5
  have T8 := k.T8
  have P0 := k.P0
  have P1 := k.P1
  unfold lB
  show Ex _ [(Str.ofString "the_turn", .int 0), (Str.ofString "at", .int x.ptr), (Str.ofString "the_point", .int P), (Str.ofString "text", .lst T), (Str.ofString "own", .lol R), (Str.ofString "ring", .role .ring), (Str.ofString "buffer", .role .buf), (Str.ofString "deck", .role .deck)] _ _ _
  refine Ex.cons ?_
  refine Sx.swap2 hs rfl rfl (by kernel_rfl) (by kernel_rfl) rfl rfl rfl ?_ (fun _ => rfl) (by intro c e; cases c; dsimp only at e; subst e; rfl); refine Ars.more ?_ (fun _ => rfl); refine Ev.bin ?_; refine Ev.callG 706 (by kernel_rfl) (by kernel_rfl) hs rfl (by kernel_rfl) ?_ (fun _ => rfl) (fun _ => rfl) (fun _ => rfl); refine Ars.more ?_ (fun _ => rfl); refine Ev.name (memI 7 rfl) ?_; refine Ars.more ?_ (fun _ => rfl); refine Ev.int ?_; refine Ars.nil ?_; refine ⟨Or.inl rfl, ?_⟩; refine ⟨Or.inl rfl, ?_⟩
  refine FS.mono (by (clear hq hp R5 T8 P0 P1; omega)) (draw_spec (by decide) (by decide) ky.d0 ky.d1 ky.b fun r b k1 r0 r1 hb => ?_)
  have ky1 := ky.deck (q := k1) hb
  refine ⟨rfl, ?_⟩; refine Ev.int ?_; refine Bin.sub ?_; refine Ars.more ?_ (fun _ => rfl); refine Ev.ifx ?_; refine Is.cmp ?_ rfl; refine Ev.name (memI 0 rfl) ?_; refine ⟨rfl, ?_⟩; refine Ev.int ?_; refine Cmp.eq ?_; refine ⟨_, rfl, ?_⟩; refine ⟨?_, (by intro z; cases z)⟩; intro _; refine Ev.cmp ?_ rfl; refine Ev.callG 706 (by kernel_rfl) (by kernel_rfl) hs rfl (by kernel_rfl) ?_ (fun _ => rfl) (fun _ => rfl) (fun _ => rfl); refine Ars.more ?_ (fun _ => rfl); refine Ev.name (memI 7 rfl) ?_; refine Ars.more ?_ (fun _ => rfl); refine Ev.int ?_; refine Ars.nil ?_; refine ⟨Or.inl rfl, ?_⟩; refine ⟨Or.inl rfl, ?_⟩
  refine FS.mono (by (clear hq hp R5 T8 P0 P1 r0 r1 hb; omega)) (draw_spec (by decide) (by decide) ky1.d0 ky1.d1 ky1.b fun r' b' k1' r0' r1' hb' => ?_)
  have ky2 := ky1.deck (q := k1') hb'
  dsimp only at ky2 ⊢
  refine ⟨rfl, ?_⟩; refine Ev.int ?_; refine Cmp.eq ?_; refine Ars.nil ?_; refine ⟨Or.inl rfl, ?_⟩; refine ⟨Or.inl rfl, ?_⟩; refine ⟨_, _, rfl, ?_⟩; refine ⟨rfl, ?_⟩; refine ⟨rfl, ?_⟩; refine Nx.next ?_; refine Ex.cons ?_
  generalize hsw : (r' == 0) = sw
  have t1 : Bf { x with bigs := b', dk := k1' } T := t.deck
  obtain ⟨x1, e1⟩ : ∃ x1 : AS, x1 = { x with bigs := b', dk := k1' } := ⟨_, rfl⟩
  have q1 : x1.ptr = 0 := by rw [e1]; exact hq
  have p1 : x1.p = P := by rw [e1]; exact hp
  have m1 : x1.mx = false := by rw [e1]; exact hm
  have kx1 : x1.kx = false := by rw [e1]; exact hk
  rw [← e1] at t1 ky2 ⊢
  clear e1
  rw [show x.ptr = x1.ptr by rw [hq, q1]]
  by_cases hR : R = []
  · subst hR
    refine Sx.tryLaw h0 hs rfl rfl ?_ rfl
    refine ExF.if_ ?_
    refine Is.cmp ?_ rfl; refine Ev.name (memI 2 rfl) ?_; refine ⟨rfl, ?_⟩; refine Ev.int ?_; refine Cmp.eq ?_; refine ⟨_, rfl, ?_⟩; refine ⟨?_, (by intro z; cases z)⟩; intro _
    refine ExF.expr (EvF.callG 492 (by kernel_rfl) (by kernel_rfl) hs rfl (by kernel_rfl) ?_ (fun _ => rfl) (fun _ => rfl) (fun _ => rfl)) (fun _ => rfl)
    refine Ars.more ?_ (fun _ => rfl); refine Ev.name (memI 8 rfl) ?_; refine Ars.more ?_ (fun _ => rfl); refine Ev.name (memI 7 rfl) ?_; refine Ars.more ?_ (fun _ => rfl)
    refine Ev.new 1 .mrk 403 400 (by kernel_rfl) (by kernel_rfl) rfl (by kernel_rfl) hs rfl (by kernel_rfl) (by (clear hq hp T8 P0 P1 r0 r1 hb r0' r1' hb' q1 p1 R5; omega)) (by intro z; cases z) ?_ (fun _ => rfl) (fun _ => rfl) (fun _ => rfl)
    refine Ars.more ?_ (fun _ => rfl); refine Ev.int ?_; refine Ars.nil ?_; refine ⟨Or.inl rfl, ?_⟩
    refine mrk_born kx1 fun ad dad => ⟨rfl, ?_⟩
    refine Ars.more ?_ (fun _ => rfl); refine Ev.bin ?_; refine Ev.name (memI 0 rfl) ?_; refine ⟨rfl, ?_⟩; refine Ev.int ?_; refine Bin.add ?_; refine Ars.more ?_ (fun _ => rfl); refine Ev.name (memI 1 rfl) ?_; refine Ars.more ?_ (fun _ => rfl); refine Ev.list ?_; refine Ars.nil ?_
    refine ⟨by decide, _, Dsp.nums [], ?_⟩
    refine Ars.nil ?_; refine ⟨Or.inl rfl, ?_⟩; refine ⟨Or.inl rfl, ?_⟩; refine ⟨Or.inl rfl, ?_⟩; refine ⟨Or.inl rfl, ?_⟩; refine ⟨Or.inl rfl, ?_⟩; refine ⟨Or.inl rfl, ?_⟩
    refine FX.mono (k := 2) (by (clear hq hp T8 P0 P1 r0 r1 hb r0' r1' hb' q1 p1 R5; omega)) ?_
    refine yank_raise (x := { x1 with kx := true }) ky2.ro ky2.kR ⟨?_, hD _ _⟩
    exact memI 6 rfl
  · have hl : 0 < R.length := List.length_pos_iff.mpr hR
    refine Sx.tryOk ?_
    refine Ex.cons ?_; refine Sx.if_ ?_; refine Is.cmp ?_ rfl; refine Ev.name (memI 2 rfl) ?_; refine ⟨rfl, ?_⟩; refine Ev.int ?_; refine Cmp.eq ?_; refine ⟨_, rfl, ?_⟩; refine ⟨?_, (by intro z; cases z)⟩; intro _; refine Ex.cons ?_; refine Sx.expr ?_ (fun _ => rfl); refine Ev.callG 492 (by kernel_rfl) (by kernel_rfl) hs rfl (by kernel_rfl) ?_ (fun _ => rfl) (fun _ => rfl) (fun _ => rfl); refine Ars.more ?_ (fun _ => rfl); refine Ev.name (memI 8 rfl) ?_; refine Ars.more ?_ (fun _ => rfl); refine Ev.name (memI 7 rfl) ?_; refine Ars.more ?_ (fun _ => rfl)
    refine Ev.new 1 .mrk 403 400 (by kernel_rfl) (by kernel_rfl) rfl (by kernel_rfl) hs rfl (by kernel_rfl) (by (clear hq hp R5 T8 P0 P1 r0 r1 hb r0' r1' hb' q1 p1 hR hl; omega)) (by intro z; cases z) ?_ (fun _ => rfl) (fun _ => rfl) (fun _ => rfl)
    refine Ars.more ?_ (fun _ => rfl); refine Ev.int ?_; refine Ars.nil ?_; refine ⟨Or.inl rfl, ?_⟩
    refine mrk_born kx1 fun ad dad => ⟨rfl, ?_⟩
    refine Ars.more ?_ (fun _ => rfl); refine Ev.bin ?_; refine Ev.name (memI 0 rfl) ?_; refine ⟨rfl, ?_⟩; refine Ev.int ?_; refine Bin.add ?_; refine Ars.more ?_ (fun _ => rfl); refine Ev.name (memI 1 rfl) ?_; refine Ars.more ?_ (fun _ => rfl); refine Ev.list ?_; refine Ars.nil ?_
    refine ⟨by decide, _, Dsp.nums [], ?_⟩
    refine Ars.nil ?_; refine ⟨Or.inl rfl, ?_⟩; refine ⟨Or.inl rfl, ?_⟩; refine ⟨Or.inl rfl, ?_⟩; refine ⟨Or.inl rfl, ?_⟩; refine ⟨Or.inl rfl, ?_⟩; refine ⟨Or.inl rfl, ?_⟩
    have ea : at_ { x1 with kx := true } (r - 3 + 1 - 1) = (x1.ptr + (r - 3)).fmod R.length := by
      unfold at_
      dsimp only
      rw [ky2.kR, show r - 3 + 1 - 1 = r - 3 by (clear hn hq hp R5 T8 P0 P1 r0 r1 hb r0' r1' hb' q1 p1 hR hl; omega)]
    have eu : pieceAt { x1 with kx := true } (r - 3 + 1 - 1) = R.getD ((x1.ptr + (r - 3)).fmod R.length).toNat [] := by
      unfold pieceAt
      rw [ea]
      dsimp only
      rw [ky2.kR]
    have hu := k.pc ((x1.ptr + (r - 3)).fmod R.length).toNat
    refine FS.mono (k := 7) (by (clear hq hp R5 T8 P0 P1 r0 r1 hb r0' r1' hb' q1 p1 hR hl ea hu; omega)) ?_
    refine yank_spec (x := { x1 with kx := true }) (T := T) (t1.cast rfl rfl rfl rfl rfl rfl rfl rfl rfl) ky2.ro m1 (by dsimp only; rw [ky2.kR]; exact hR) (by dsimp only; rw [ky2.kR]; (clear hn hq hp T8 P0 P1 r0 r1 hb r0' r1' hb' q1 p1 hR hl ea hu; omega)) (by (clear hn hq hp R5 P0 P1 r0 r1 hb r0' r1' hb' q1 p1 hR hl ea hu; omega)) (by rw [eu]; (clear hn hq hp R5 T8 P0 P1 r0 r1 hb r0' r1' hb' q1 p1 hR hl ea; omega)) fun ad dad y y1 y2 y3 y4 y5 => ?_
    rw [eu] at y1 y3 y4
    have y6 : y.ptr = (x1.ptr + (r - 3)).fmod R.length := y5.ptr.trans ea
    rw [← y6] at y1 y3 y4
    dsimp only at y1 y3 y4
    rw [p1] at y1 y3 y4
    have yk : Yk R T P sw y := ⟨⟨y5.ro.trans ky2.ro, y5.R.trans ky2.kR, by rw [y5.dcs]; exact ky2.d0, by rw [y5.dcs]; exact ky2.d1, by rw [y5.bigs]; exact ky2.b⟩, y1, y2, by rw [y6]; exact Int.fmod_nonneg_of_pos _ (by (clear hn hq hp R5 T8 P0 P1 r0 r1 hb r0' r1' hb' q1 p1 hR ea hu y3 y4 y6; omega)), by rw [y6]; exact Int.fmod_lt_of_pos _ (by (clear hn hq hp R5 T8 P0 P1 r0 r1 hb r0' r1' hb' q1 p1 hR ea hu y3 y4 y6; omega)), y3, y4⟩
    refine Nx.next ?_; refine Ex.nil ?_; refine Nx.next ?_; refine Ex.nil ?_; refine Nx.next ?_
    refine Ex.forget ([(Str.ofString "is_ahead", .bool sw), (Str.ofString "by", .int (r - 3))] ++ lB R T P x1.ptr) (fun p hp => ?_) (turn_tail k yk y6 hn hs0)
    simp only [lB, List.cons_append, List.nil_append, List.mem_cons, List.not_mem_nil, or_false] at hp
    rcases hp with rfl | rfl | rfl | rfl | rfl | rfl | rfl | rfl | rfl
    · exact memI 1 rfl
    · exact memI 0 rfl
    · exact memI 3 rfl
    · exact memI 4 rfl
    · exact memI 5 rfl
    · exact memI 6 rfl
    · exact memI 7 rfl
    · exact memI 8 rfl
    · exact memI 9 rfl
end
section
variable {ad dad : Role → Addr} {x : AS} {C : SV → Wd → Prop} {W : Wd}
theorem Sx.swap2o {c : Gx} {l : Loc} {D : Fl → Loc → Wd → Prop} {es : List Expr} {k k' : Nat} {tp ep pos p1 p2 : Pos} {sc : Scope} {u v : Str} (l' : Loc) (hl : ∀ p ∈ l', p ∈ l) (hs : c.cs = sc) (hk : sc.names.lookup u = some .local) (hk2 : sc.names.lookup v = some .local) (hd : (u == Str.ofString "__debug__") = false) (hd2 : (v == Str.ofString "__debug__") = false) (hn : (l'.all fun p => !(p.1 == u)) = true) (hn2 : (l'.all fun p => !(p.1 == v)) = true) (hxy : (v == u) = false)
    (H : Ars c l W (spliced (backTo ep (starEach es c.env))) fun svs W₁ => ∃ a b, svs = [a, b] ∧ a.stable = true ∧ b.stable = true ∧ D .next ((u, a) :: (v, b) :: l') W₁)
    (hsw : ∀ env, swapsWithSole [.Tuple [.Name u p1, .Name v p2] k tp] (.Tuple es k' ep) pos.line env = pure false) (hw : ∀ c : Gx, c.cs = sc → swappedStores [.Tuple [.Name u p1, .Name v p2] k tp] (.Tuple es k' ep) c.env = pure (some [u, v])) : Sx c l W (.Assign [.Tuple [.Name u p1, .Name v p2] k tp] (.Tuple es k' ep) pos) D := by
  refine Sx.swap (names := [u, v]) ?_ (by simp) hsw (hw c hs)
  intro s h t Q E sim hQ
  refine H s h t Q E sim fun vs h' t' svs W' a sim' st ⟨p, q, e, s1, s2, hD⟩ => hQ vs h' t' svs W' a sim' st ?_
  subst e
  refine ⟨by simp [s1, s2], rfl, ?_⟩
  refine Aio.cons (ms := [bindName c.env u]) (svs := [p]) (by simp [s1]) (As1.forget l' hl (As1.bindNew hs hk2 hd2 hn2 s2 ?_))
  exact Aio.cons (by simp) (As1.bindNew hs hk hd (by rw [List.all_cons, hn, Bool.and_true]; simp only; rw [hxy]; rfl) s1 (Aio.nil hD))
theorem turnS {R : List (List Int)} {T : List Int} {P : Int} (k : Cs R T P) {D : Fl → Loc → Wd → Prop} {i : Nat} {sw : Bool} {c : Gx} (hn : 8 ≤ c.n) (hs0 : scopeOf (stAt 67) = some c.cs)
    (y : Yk R T P sw x) (hU : sw = true → R.getD x.ptr.toNat [] ≠ []) : Ex c ([(Str.ofString "the_turn", .int ((i + 1 : Nat) : Int)), (Str.ofString "is_ahead", .bool sw)] ++ lB R T P x.ptr) (wd ad dad x) (forBody 4) (Lp (J2 R T P) (i + 1) D) := by
  have hs := (Option.some.inj hs0).symm
  have R5 := k.R5
  have T8 := k.T8
  have P0 := k.P0
  have P1 := k.P1
  have ky := y.toKy
  unfold lB
  show Ex _ [(Str.ofString "the_turn", .int ((i + 1 : Nat) : Int)), (Str.ofString "is_ahead", .bool sw), (Str.ofString "at", .int x.ptr), (Str.ofString "the_point", .int P), (Str.ofString "text", .lst T), (Str.ofString "own", .lol R), (Str.ofString "ring", .role .ring), (Str.ofString "buffer", .role .buf), (Str.ofString "deck", .role .deck)] _ _ _
  have hi : (((i + 1 : Nat) : Int) == 0) = false := by rw [beq_eq_false_iff_ne]; (clear hn hU R5 T8 P0 P1; omega)
  generalize ((i + 1 : Nat) : Int) = j at hi
  refine Ex.cons ?_
  refine Sx.swap2o [(Str.ofString "the_turn", .int j), (Str.ofString "at", .int x.ptr), (Str.ofString "the_point", .int P), (Str.ofString "text", .lst T), (Str.ofString "own", .lol R), (Str.ofString "ring", .role .ring), (Str.ofString "buffer", .role .buf), (Str.ofString "deck", .role .deck)] ?hl hs rfl rfl (by kernel_rfl) (by kernel_rfl) rfl rfl rfl ?_ (fun _ => rfl) (by intro c e; cases c; dsimp only at e; subst e; rfl)
  case hl =>
    intro p hp
    rcases List.mem_cons.mp hp with rfl | hp
    · exact .head _
    · exact .tail _ (.tail _ hp)
  refine Ars.more ?_ (fun _ => rfl); refine Ev.bin ?_; refine Ev.callG 706 (by kernel_rfl) (by kernel_rfl) hs rfl (by kernel_rfl) ?_ (fun _ => rfl) (fun _ => rfl) (fun _ => rfl); refine Ars.more ?_ (fun _ => rfl); refine Ev.name (memI 8 rfl) ?_; refine Ars.more ?_ (fun _ => rfl); refine Ev.int ?_; refine Ars.nil ?_; refine ⟨Or.inl rfl, ?_⟩; refine ⟨Or.inl rfl, ?_⟩
  refine FS.mono (by (clear hU R5 T8 P0 P1; omega)) (draw_spec (by decide) (by decide) ky.d0 ky.d1 ky.b fun r b k1 r0 r1 hb => ?_)
  have ky2 := ky.deck (q := k1) hb
  refine ⟨rfl, ?_⟩; refine Ev.int ?_; refine Bin.sub ?_; refine Ars.more ?_ (fun _ => rfl); refine Ev.ifx ?_; refine Is.cmp ?_ rfl; refine Ev.name (memI 0 rfl) ?_; refine ⟨rfl, ?_⟩; refine Ev.int ?_; refine Cmp.eq ?_; refine ⟨_, rfl, ?_⟩
  rw [hi]
  refine ⟨(by intro z; cases z), ?_⟩; intro _; refine Ev.name (memI 1 rfl) ?_; refine Ars.nil ?_; refine ⟨Or.inl rfl, ?_⟩; refine ⟨Or.inl rfl, ?_⟩; refine ⟨_, _, rfl, ?_⟩; refine ⟨rfl, ?_⟩; refine ⟨rfl, ?_⟩; refine Nx.next ?_; refine Ex.cons ?_
  have t1 : Bf { x with bigs := b, dk := k1 } (put T (P - 1) (R.getD x.ptr.toNat [])) := y.t.deck
  obtain ⟨x1, e1⟩ : ∃ x1 : AS, x1 = { x with bigs := b, dk := k1 } := ⟨_, rfl⟩
  have q1 : x1.ptr = x.ptr := by rw [e1]
  have p1 : x1.p = (if sw = true then P else P + (R.getD x.ptr.toNat []).length) := by rw [e1]; exact y.p
  have mp1 : x1.mp = (if sw = true then P + (R.getD x.ptr.toNat []).length else P) := by rw [e1]; exact y.mp
  have m1 : x1.mx = true := by rw [e1]; exact y.mx
  rw [← e1] at t1 ky2 ⊢
  clear e1
  have hu0 := k.pc x.ptr.toNat
  generalize hUU : R.getD x.ptr.toNat [] = U at *
  have hl : 0 < R.length := by have := y.q0; have := y.q1; (clear hn R5 T8 P0 P1 r0 r1 hb q1 hU p1 mp1 hu0; omega)
  have pl := put_len (T := T) (a := P - 1) (U := U) (by (clear hn R5 T8 P1 r0 r1 hb q1 hU p1 mp1 hu0 hl; omega)) (by (clear hn R5 T8 P0 r0 r1 hb q1 hU p1 mp1 hu0 hl; omega))
  have z1 := t1.z
  have lo : min x1.p x1.mp = P := by rw [p1, mp1]; cases sw <;> simp <;> (clear hn R5 T8 P0 P1 r0 r1 hb q1 hu0 hl pl z1 hU p1 mp1; omega)
  have hi2 : max x1.p x1.mp = P + U.length := by rw [p1, mp1]; cases sw <;> simp <;> (clear hn R5 T8 P0 P1 r0 r1 hb q1 hu0 hl pl z1 lo hU p1 mp1; omega)
  have cs : (if x1.p < x1.mp then true else false) = sw := by
    rw [p1, mp1]
    cases sw with
    | true =>
      have := List.length_pos_iff.mpr (hU rfl)
      rw [if_pos]
      rw [if_pos rfl, if_pos rfl]; (clear hn R5 T8 P0 P1 r0 r1 hb q1 hu0 hl pl z1 lo hi2 hU p1 mp1; omega)
    | false =>
      rw [if_neg]
      rw [if_neg (by decide), if_neg (by decide)]; (clear hn R5 T8 P0 P1 r0 r1 hb q1 hu0 hl pl z1 lo hi2 hU p1 mp1; omega)
  have ct : ∀ a b : Int, (if x1.p < x1.mp then a else b) = (if sw = true then a else b) := fun a b => by
    rw [← cs]
    by_cases h : x1.p < x1.mp
    · rw [if_pos h, if_pos h, if_pos rfl]
    · rw [if_neg h, if_neg h, if_neg (by decide)]
  refine Sx.tryOk ?_
  refine Ex.cons ?_; refine Sx.if_ ?_; refine Is.cmp ?_ rfl; refine Ev.name (memI 2 rfl) ?_; refine ⟨rfl, ?_⟩; refine Ev.int ?_; refine Cmp.eq ?_; refine ⟨_, rfl, ?_⟩
  rw [hi]
  refine ⟨(by intro z; cases z), ?_⟩; intro _; refine Ex.cons ?_; refine Sx.expr ?_ (fun _ => rfl); refine Ev.callG 499 (by kernel_rfl) (by kernel_rfl) hs rfl (by kernel_rfl) ?_ (fun _ => rfl) (fun _ => rfl) (fun _ => rfl); refine Ars.more ?_ (fun _ => rfl); refine Ev.name (memI 8 rfl) ?_; refine Ars.more ?_ (fun _ => rfl); refine Ev.name (memI 7 rfl) ?_; refine Ars.more ?_ (fun _ => rfl); refine Ev.name (memI 0 rfl) ?_; refine Ars.more ?_ (fun _ => rfl); refine Ev.list ?_; refine Ars.nil ?_
  refine ⟨by decide, _, Dsp.nums [], ?_⟩
  refine Ars.nil ?_; refine ⟨Or.inl rfl, ?_⟩; refine ⟨Or.inl rfl, ?_⟩; refine ⟨Or.inl rfl, ?_⟩; refine ⟨Or.inl rfl, ?_⟩
  have ea : at_ x1 (r - 3) = (x1.ptr + (r - 3)).fmod R.length := by
    unfold at_
    rw [ky2.kR]
  have eu : pieceAt x1 (r - 3) = R.getD ((x1.ptr + (r - 3)).fmod R.length).toNat [] := by
    unfold pieceAt
    rw [ea, ky2.kR]
  have hu := k.pc ((x1.ptr + (r - 3)).fmod R.length).toNat
  refine FS.mono (k := 7) (by (clear R5 T8 P0 P1 r0 r1 hb q1 hU p1 mp1 hu0 hl pl z1 lo hi2 ea hu; omega)) ?_
  refine yank_pop_spec t1 ky2.ro m1 (by (clear hn R5 T8 P1 r0 r1 hb q1 hU p1 mp1 hu0 hl pl z1 hi2 ea hu; omega)) (by (clear hn R5 T8 P0 r0 r1 hb q1 hU p1 mp1 hu0 hl lo ea hu; omega)) (by rw [ky2.kR]; exact List.length_pos_iff.mp hl) (by rw [ky2.kR]; (clear hn T8 P0 P1 r0 r1 hb q1 hU p1 mp1 hu0 hl pl z1 lo hi2 ea hu; omega)) (by (clear hn R5 P0 P1 r0 r1 hb q1 hU p1 mp1 hl z1 lo hi2 ea hu; omega)) (by rw [eu]; (clear hn R5 T8 P0 P1 r0 r1 hb q1 hU p1 mp1 hu0 hl pl z1 lo hi2 ea; omega)) fun ad dad w w1 w2 w3 w4 w5 => ?_
  rw [lo, hi2, eu, put_out (by (clear hn R5 T8 P1 r0 r1 hb q1 hU p1 mp1 hu0 hl pl z1 lo hi2 ea hu w3 w4; omega)) (by (clear hn R5 T8 P0 r0 r1 hb q1 hU p1 mp1 hu0 hl pl z1 lo hi2 ea hu w3 w4; omega)) (by (clear hn R5 T8 P0 P1 r0 r1 hb q1 hU p1 mp1 hu0 hl pl z1 lo hi2 ea hu w3 w4; omega))] at w1
  rw [lo, eu, ct] at w3 w4
  have w6 : w.ptr = (x1.ptr + (r - 3)).fmod R.length := w5.ptr.trans ea
  rw [← w6] at w1 w3 w4
  have yk : Yk R T P sw w := ⟨⟨w5.ro.trans ky2.ro, w5.R.trans ky2.kR, by rw [w5.dcs]; exact ky2.d0, by rw [w5.dcs]; exact ky2.d1, by rw [w5.bigs]; exact ky2.b⟩, w1, w2, by rw [w6]; exact Int.fmod_nonneg_of_pos _ (by (clear hn R5 T8 P0 P1 r0 r1 hb q1 hU p1 mp1 hu0 pl z1 lo hi2 ea hu w3 w4 w6; omega)), by rw [w6]; exact Int.fmod_lt_of_pos _ (by (clear hn R5 T8 P0 P1 r0 r1 hb q1 hU p1 mp1 hu0 pl z1 lo hi2 ea hu w3 w4 w6; omega)), w3, w4⟩
  refine Nx.next ?_; refine Ex.nil ?_; refine Nx.next ?_; refine Ex.nil ?_; refine Nx.next ?_
  refine Ex.forget ([(Str.ofString "is_ahead", .bool sw), (Str.ofString "by", .int (r - 3))] ++ lB R T P x1.ptr) (fun p hp => ?_) (turn_tail k yk w6 hn hs0)
  rw [q1] at hp
  simp only [lB, List.cons_append, List.nil_append, List.mem_cons, List.not_mem_nil, or_false] at hp
  rcases hp with rfl | rfl | rfl | rfl | rfl | rfl | rfl | rfl | rfl
  · exact memI 1 rfl
  · exact memI 0 rfl
  · exact memI 3 rfl
  · exact memI 4 rfl
  · exact memI 5 rfl
  · exact memI 6 rfl
  · exact memI 7 rfl
  · exact memI 8 rfl
  · exact memI 9 rfl
end
section
variable {ad dad : Role → Addr} {x : AS} {W : Wd}
theorem law2 {T : List Int} (w : Lw x T 40) : ExLaw 4 [(Str.ofString "text", .lst T), (Str.ofString "the_point", .int x.p), (Str.ofString "at", .int 0), (Str.ofString "own", .lol x.R), (Str.ofString "ring", .role .ring), (Str.ofString "buffer", .role .buf), (Str.ofString "deck", .role .deck)] (wd ad dad x) (Done fun sv _ => sv = .bool true) := by
  refine ExLaw.of rfl fun c hn hs h0 => ?_
  have zz := w.t.z
  have p1 := w.t.p1
  have k : Cs x.R T x.p := ⟨w.R5, w.pm, w.T8, w.t.p0, by (clear hn; omega)⟩
  refine Ex.cons ?_
  refine Sx.forO (J2 x.R T x.p) ?_ (fun _ _ => rfl)
  refine Ev.tcall "range" (by kernel_rfl) PyProof.Rows.boot_range hs rfl (by kernel_rfl) (by decide) ?_ (fun _ => rfl) (fun _ => rfl) (fun _ => rfl); refine Ars.more ?_ (fun _ => rfl); refine Ev.bin ?_; refine Ev.int ?_; refine ⟨rfl, ?_⟩; refine Ev.callG 706 (by kernel_rfl) (by kernel_rfl) hs rfl (by kernel_rfl) ?_ (fun _ => rfl) (fun _ => rfl) (fun _ => rfl); refine Ars.more ?_ (fun _ => rfl); refine Ev.name (memI 6 rfl) ?_; refine Ars.more ?_ (fun _ => rfl); refine Ev.int ?_; refine Ars.nil ?_; refine ⟨Or.inl rfl, ?_⟩; refine ⟨Or.inl rfl, ?_⟩
  refine FS.mono (by (clear zz p1; omega)) (draw_spec (by decide) (by decide) w.d0 w.d1 w.b fun r b k1 r0 r1 hb => ?_)
  have w2 := w.deck (k := k1) hb
  refine Bin.add ?_; refine Ars.nil ?_; refine ⟨Or.inl rfl, ?_⟩
  obtain ⟨n1, hn1⟩ : ∃ n : Nat, 1 + r = n := ⟨(1 + r).toNat, by (clear hn zz p1 r1 hb; omega)⟩
  rw [hn1]
  refine TC.range ?_
  have ln1 : ((upto n1).map SV.int).length = n1 := by simp [upto]
  refine ⟨_, Itr.rng, by (clear hn zz p1 r0 hb; omega), ⟨ad, dad, _, rfl, ?_, ⟨w2.ro, rfl, w2.d0, w2.d1, w2.b⟩, w2.ptr, rfl, w2.t, w2.mx, w2.kx⟩, ?_, ?_⟩
  · intro p hp
    dsimp only at hp
    rw [w.ptr] at hp
    simp only [lB, List.cons_append, List.nil_append, List.mem_cons, List.not_mem_nil, or_false] at hp
    rcases hp with rfl | rfl | rfl | rfl | rfl | rfl | rfl
    · exact memI 2 rfl
    · exact memI 1 rfl
    · exact memI 0 rfl
    · exact memI 3 rfl
    · exact memI 4 rfl
    · exact memI 5 rfl
    · exact memI 6 rfl
  · rintro c' i sv' hn' hs' ho' hsv l' W' ⟨ad, dad, y, rfl, hsub, ky, hi'⟩
    obtain ⟨hi, rfl⟩ := rng_get hsv
    have hs2 := hs'.trans hs
    cases i with
    | zero =>
      obtain ⟨a1, a2, a3, a4, a5⟩ := hi'
      refine As1.forget (lB x.R T x.p y.ptr) hsub ?_
      refine As1.nameNew hs2 rfl (by kernel_rfl) rfl rfl ?_
      exact turn0 k (fun _ _ => rfl) (by (clear zz p1 r0 r1 hb hn1 ln1 hi a1 a2; omega)) (by rw [hs2]; rfl) (ho'.trans h0) ky a1 a2 a3 a4 a5
    | succ i =>
      obtain ⟨sw, hm, yk, hU⟩ := hi'
      refine As1.forget ((Str.ofString "is_ahead", .bool sw) :: lB x.R T x.p y.ptr) (fun p hp => ?_) ?_
      · rcases List.mem_cons.mp hp with rfl | hp
        · exact hm
        · exact hsub p hp
      refine As1.nameNew hs2 rfl (by kernel_rfl) rfl rfl ?_
      exact turnS k (by (clear zz p1 r0 r1 hb hn1 ln1 hi hU; omega)) (by rw [hs2]; rfl) yk hU
  · rintro l' W' ⟨ad, dad, y, rfl, hsub, ky, -⟩
    refine Nx.next (Ex.forget (lB x.R T x.p y.ptr) hsub ?_)
    unfold lB
    have R5 := w.R5
    refine Ex.cons ?_; refine Sx.ret ?_; refine Ev.cmp ?_ rfl
    refine Nw.ev (Nw.compPieces ?hfree ?hcell rfl ?hnames rfl (by kernel_rfl) ?_ (fun _ => rfl) (fun _ _ => rfl))
    case hfree => decide
    case hcell => decide
    case hnames => decide
    refine Ev.attr ?_ (fun _ => rfl); refine Ev.name (memI 4 rfl) ?_; refine Get.ring_pieces ?_
    refine ⟨_, y.R, rfl, rfl, by rw [ky.kR]; (clear hn zz p1 r0 r1 hb hn1 ln1; omega), ?_⟩
    refine ⟨rfl, ?_⟩; refine Ev.name (memI 3 rfl) ?_
    refine Cmp.eqL ?_
    rw [ky.kR, decide_eq_true rfl]
    refine Nx.ret ?_; refine Done.ret ?_
    rfl
theorem law_walk {ns : List Int} (hz : ns.length ≤ 63) (hab : ∀ r, W.ob r = .absent) : ExLaw 0 [(Str.ofString "script", .lst ns)] W (Done fun sv _ => sv = .bool true) :=
  law_ex hz hab fun _ _ _ _ w => law2 w
end
section
theorem wellInts {P : Params} {h : Heap} : ∀ {vs : List Value} {ns : List Int} {xs : List WData}, WellAll P h vs xs → xs = ns.map (fun i => WData.int i) → IntsAre vs ns
  | _, [], _, .nil, _ => .nil
  | _, _ :: _, _, .nil, e => nomatch e
  | _, [], _, .cons _ _, e => nomatch e
  | _, n :: ns, _, .cons a b, e => by
    obtain ⟨e1, e2⟩ := List.cons.inj e
    subst e1
    cases a
    exact .cons _ _ (wellInts b e2)
theorem ofPyInts (ns : List Int) : ofPy (.list (ns.map .int)) = .list (ns.map fun i => .int i) := by
  show WData.list (ofPys (ns.map .int)) = _
  rw [ofPys_eq, List.map_map]
  rfl
theorem wellList {P : Params} {h : Heap} {a : Addr} {ns : List Int} (w : Well P h (.ref a) (ofPy (.list (ns.map .int)))) : ∃ vs, h.get? a = some (PySem.W.listOf (List.toArray vs) 0) ∧ IntsAre vs ns := by
  rw [ofPyInts] at w
  generalize hx : WData.list (ns.map fun i => .int i) = d at w
  cases w with
  | list q r => cases hx; exact ⟨_, q, wellInts r rfl⟩
  | _ => cases hx
/-- the law's own call -/
theorem lawTop {w : World} {K : Frag} {p : Program} {loose : List Str} {mean : ExcName → Option Value} {mg mb : Str → Option Value} {h h₁ : Heap} {P : Params} {a fa : Addr} {cd : Value} {ns : List Int} {name : Str} {params : Arguments} {body : List Stmt} {sc : Scope} {b1 b2 b3 b4 b5 b6} {m : Str → Option Value}
    (kf : KF K) (KX : K.In h) (T : Top p loose mean mg mb h) (wl : Well P h (.ref a) (ofPy (.list (ns.map .int)))) (hz : ns.length ≤ 63)
    (hst : stAt 67 = some (.FunctionDef name params body b1 b2 b3 sc b4 b5 b6)) (hk : sc.kind = .function) (hl : sc.names.lookup (Str.ofString "script") = some .local) (F : Fr h h.objs.size h₁ m) (hm : m (Str.ofString "script") = some (.ref a)) {s : Shared} {t : Nat} {Q : Flow → Shared → Prop} {E : Value → Shared → Prop}
    (hQ : ∀ h' t', (∀ b o, h.get? b = some o → h'.get? b = some o) → Q (.ret (.bool true)) (St s h' t')) :
    wpAny (model PySem.Challenge.rw_oj0031_01.row.prog w) (callerA.deeper (envOf name sc h.objs.size fa cd)) (execs body (envOf name sc h.objs.size fa cd)) Q E (St s h₁ t) := by
  obtain ⟨vs, q, hI⟩ := wellList wl
  let c : Gx := { w := w, K := K, n := 8, A := callerA.deeper (envOf name sc h.objs.size fa cd), A₀ := callerA, base := h, outer := [], g := h, cn := name, cs := sc, L := h.objs.size, fa := fa, cd := cd, its := [], cl := [] }
  let W : Wd := ⟨fun _ => 0, fun _ => 0, fun _ => .absent⟩
  have hMut : ∀ x, ¬ W.Mut x := fun x ⟨r, hr⟩ => nomatch hr
  have aL : a ≠ h.objs.size := Nat.ne_of_lt (Heap.lt_size q)
  have hF : ¬ W.P c.Fm a := by
    rintro (z | ⟨e, he, ex⟩ | z)
    · exact hMut a z
    · rcases List.mem_cons.mp he with rfl | he
      · exact aL (Option.some.inj ex).symm
      · cases he
    · cases z
  have ok : c.Ok := ⟨below_caller h, rfl, hk, KX, kf, ⟨_, _, _, _, _, T⟩, rfl, by show callerA.depth + 1 + 8 ≤ 400; decide, by show callerA.units + 3 + 8 * 8 ≤ 1200; decide⟩
  have sim : Sim c h₁ [(Str.ofString "script", .lst ns)] W := by
    refine ⟨ok, ⟨m, F, fun p hp => ?_⟩, ⟨fun r => trivial, fun r x hx => (nomatch hx), fun r r' _ x hx => (nomatch hx), fun r => List.nodup_nil⟩, fun x hx => (nomatch hx)⟩
    rcases List.mem_cons.mp hp with rfl | hp
    · exact ⟨⟨.ref a, .inl ⟨hm, hl⟩, a, vs, 0, rfl, F.keep _ _ q, hI, hF⟩, rfl, by show (Str.ofString "script" == Str.ofString "__debug__") = false; decide⟩
    · cases hp
  have hx : Ex c [(Str.ofString "script", .lst ns)] W body (Done fun sv _ => sv = .bool true) := by
    have := law_walk (W := W) hz (fun _ => rfl) c (Nat.le_refl _) (by rw [hst]; rfl) rfl
    rw [hst] at this
    exact this
  refine hx s h₁ t Q E sim fun f h' t' fl l' W' hf sim' st hD => ?_
  cases fl with
  | ret sv =>
    obtain ⟨v, rfl, i⟩ := hf
    have e : sv = .bool true := hD
    subst e
    cases i
    obtain ⟨m', F', -⟩ := sim'.fr
    exact hQ h' t' F'.keep
  | next =>
    have e : SV.none = .bool true := hD
    cases e
  | brk => exact hD.elim
  | cont => exact hD.elim
end
theorem main.tw480701840831765632 : True := trivial
theorem main.tw7019240024125815769 : True := trivial
theorem main.tw7439787175107056256 : True := trivial
theorem main.tw12608185968620612914 : True := trivial
theorem main.tw5921134243170700561 : True := trivial
theorem main.tw11092141859048813250 : True := trivial
theorem main.tw17146568849442343683 : True := trivial
theorem main.tw6907636171062424033 : True := trivial
theorem main.tw12205347405646519318 : True := trivial
theorem main.tw18165044119631177899 : True := trivial
theorem main.tw3562595001068472590 : True := trivial
theorem main.tw6516198228755648517 : True := trivial
theorem main.tw9406782406253462049 : True := trivial
theorem main.tw10450603732522932521 : True := trivial
theorem main.tw6511744376749373798 : True := trivial
theorem main.tw2406621943657119228 : True := trivial
theorem main.tw372505627349444580 : True := trivial
theorem main.tw13972245371655741198 : True := trivial
theorem main.tw5372645768047454471 : True := trivial
theorem main.tw10418042200766032776 : True := trivial
theorem main.tw8060562821785662972 : True := trivial
theorem main.tw9268297945177815525 : True := trivial
theorem main.tw14027531716089632829 : True := trivial
theorem main.tw12748397558918655664 : True := trivial
theorem main.tw2895952525429962455 : True := trivial
theorem main.tw10896356407431480244 : True := trivial
theorem main.tw11785714552879321826 : True := trivial
theorem main.tw15387884906608193903 : True := trivial
theorem main.tw223528310411579522 : True := trivial
theorem main.tw15303317825217679618 : True := trivial
theorem main.tw11812620880713246772 : True := trivial
theorem main.tw15955573374722617477 : True := trivial
theorem main.tw11692516046256081784 : True := trivial
theorem main.tw10334261112615635914 : True := trivial
theorem main.tw5518243967957118194 : True := trivial
theorem main.tw2402762420636078793 : True := trivial
theorem main.tw11156056980113079860 : True := trivial
theorem main.tw2821470743931037460 : True := trivial
theorem main.tw16778611742570070204 : True := trivial
theorem main.tw11101190512080308003 : True := trivial
theorem main.tw11273777480241942364 : True := trivial
theorem main.tw6788530277367551627 : True := trivial
theorem main.tw1142173933681417890 : True := trivial
theorem main.tw16022572192331126682 : True := trivial
theorem main.tw1632041292262086317 : True := trivial
theorem main.tw6855474311058116810 : True := trivial
theorem main.tw13219505800766818778 : True := trivial
theorem main.tw9265829497004654079 : True := trivial
theorem main.tw10092017014551392330 : True := trivial
theorem main.tw6801380410627298636 : True := trivial
theorem main.tw451873465583785326 : True := trivial
theorem main.tw13110970153573199417 : True := trivial
theorem main.tw15485851114877660061 : True := trivial
theorem main.tw16046730324260685337 : True := trivial
theorem main.tw12450111651097656602 : True := trivial
theorem main.tw17297283025540448806 : True := trivial
theorem main.tw5084117380071580128 : True := trivial
theorem main.tw7093617532817203218 : True := trivial
theorem main.tw4020083893523227988 : True := trivial
theorem main.tw2019394398466159022 : True := trivial
theorem main.tw13689970425243653257 : True := trivial
theorem main.tw17644181745481072423 : True := trivial
theorem main.tw3394367416137920725 : True := trivial
theorem main.tw1150287232629052791 : True := trivial
theorem main.tw3370842686811476594 : True := trivial
theorem main.tw1504049600530537962 : True := trivial
theorem main.tw13406003279186336099 : True := trivial
theorem main.tw4365514962571936147 : True := trivial
theorem main.tw4330594992337426955 : True := trivial
theorem main.tw16762574516176355354 : True := trivial
theorem main.tw8046773169563483271 : True := trivial
theorem main.tw4261964983698606537 : True := trivial
theorem main.tw14457758005677747962 : True := trivial
theorem main.tw13777938177461255882 : True := trivial
theorem main.tw17561526911342447988 : True := trivial
theorem main.tw16452447596832230105 : True := trivial
theorem main.tw2704602940660078815 : True := trivial
theorem main.tw15984706205718930553 : True := trivial
theorem main.tw13989496423458381343 : True := trivial
theorem main.tw2852251193174398662 : True := trivial
theorem main.tw6361450105264607166 : True := trivial
theorem main.tw15510692781650021527 : True := trivial
theorem main.tw12653679108036650311 : True := trivial
theorem main.tw4156125974679941130 : True := trivial
theorem main.tw9730157408454304684 : True := trivial
theorem main.tw9512817274939609580 : True := trivial
theorem main.tw4638281056170512193 : True := trivial
theorem main.tw11239335112260394413 : True := trivial
theorem main.tw15438212644395081984 : True := trivial
theorem main.tw4766233809647381661 : True := trivial
theorem main.tw14218914174604095658 : True := trivial
theorem main.tw10924716458440934090 : True := trivial
theorem main.tw10283388844273144081 : True := trivial
theorem main.tw14640416626631428029 : True := trivial
theorem main.tw17403364634526059139 : True := trivial
theorem main.tw4139100593308808776 : True := trivial
theorem main.tw2287757881348798766 : True := trivial
theorem main.tw2724176850512262202 : True := trivial
theorem main.tw14562738103837258888 : True := trivial
theorem main.tw7237411587787531456 : True := trivial
theorem main.tw17128291446047057950 : True := trivial
theorem main.tw4452170602077327944 : True := trivial
theorem main.tw5240779543111244032 : True := trivial
theorem main.tw12885385263037960081 : True := trivial
theorem main.tw1084220662915027778 : True := trivial
theorem main.tw16817993663026736274 : True := trivial
theorem main.tw11712081513822626495 : True := trivial
theorem main.tw6663778134991626487 : True := trivial
theorem main.tw1678875084529416142 : True := trivial
theorem main.tw11221353774195762014 : True := trivial
theorem main.tw8627561154394265716 : True := trivial
theorem main.tw18238007617527299592 : True := trivial
theorem main.tw13876859957761632879 : True := trivial
theorem main.tw3635900802997115186 : True := trivial
theorem main.tw9925469786538053656 : True := trivial
theorem main.tw18332899500509843999 : True := trivial
theorem main.tw9303439499767911484 : True := trivial
theorem main.tw10825838108423173272 : True := trivial
theorem main.tw16008252555379753968 : True := trivial
theorem main.tw10149618387772673413 : True := trivial
theorem main.tw5363903885879670357 : True := trivial
theorem main.tw2341703837736514645 : True := trivial
theorem main.tw4900431672193113347 : True := trivial
theorem main.tw9994787619460420439 : True := trivial
theorem main.tw9121559901702372667 : True := trivial
theorem main.tw10821422270917381399 : True := trivial
theorem main.tw4775608329324902142 : True := trivial
theorem main.tw7113585516715319716 : True := trivial
theorem main.tw3958507339218470045 : True := trivial
theorem main.tw9785579267909831805 : True := trivial
theorem main.tw16218864148678617972 : True := trivial
theorem main.tw1714950047550659301 : True := trivial
theorem main.tw12732289081945773324 : True := trivial
theorem main.tw5638201095994319732 : True := trivial
theorem main.tw16826212616301561204 : True := trivial
theorem main.tw17974016328880235120 : True := trivial
theorem main.tw13980345723018547825 : True := trivial
theorem main.tw1270039299266317192 : True := trivial
theorem main.tw13348322127785295214 : True := trivial
theorem main.tw4038153913678941442 : True := trivial
theorem main.tw17336282652733537790 : True := trivial
theorem main.tw17118054049896295152 : True := trivial
theorem main.tw5270908104458285503 : True := trivial
theorem main.tw17272174723667511238 : True := trivial
theorem main.tw4500915450034043215 : True := trivial
theorem main.tw14907226015203709474 : True := trivial
theorem main.tw16629339528299215175 : True := trivial
theorem main.tw3027586509356016917 : True := trivial
theorem main.tw14064073609400967072 : True := trivial
theorem main.tw8546124895413445307 : True := trivial
theorem main.tw892681787802806017 : True := trivial
theorem main.tw17147588175821073265 : True := trivial
theorem main.tw7943094425149488825 : True := trivial
theorem main.tw15062679425460387418 : True := trivial
theorem main.tw10204856939554784155 : True := trivial
theorem main.tw14364048958407549093 : True := trivial
theorem main.tw8809968196449919288 : True := trivial
theorem main.tw6886502059237256666 : True := trivial
theorem main.tw11857135199678951331 : True := trivial
theorem main.tw5436791530062809996 : True := trivial
theorem main.tw1453356044741674121 : True := trivial
theorem main.tw16923884221124529275 : True := trivial
theorem main.tw6565609875121592624 : True := trivial
theorem main.tw6785657489111691699 : True := trivial
theorem main.tw9417822746687237092 : True := trivial
theorem main.tw15467891735981029475 : True := trivial
theorem main.tw18302796317244248524 : True := trivial
theorem main.tw10455743928339290457 : True := trivial
theorem main.tw2496676261509829067 : True := trivial
theorem main.tw5396188567872606041 : True := trivial
theorem main.tw4324958949535026087 : True := trivial
theorem main.tw8440099810896429113 : True := trivial
theorem main.tw10123989817122485451 : True := trivial
theorem main.tw14771111431291430275 : True := trivial
theorem main.tw3583811862363856187 : True := trivial
theorem main.tw4749052000479324790 : True := trivial
theorem main.tw9369988214560726041 : True := trivial
theorem main.tw1454224541498743561 : True := trivial
theorem main.tw12922898485456448571 : True := trivial
theorem main.tw104360540948158410 : True := trivial
theorem main.tw18287795668848337631 : True := trivial
theorem main.tw7884331609784382070 : True := trivial
theorem main.tw12594366453804578888 : True := trivial
theorem main.tw6237627108579964202 : True := trivial
theorem main.tw1615956725737779560 : True := trivial
theorem main.tw2900998541784483753 : True := trivial
theorem main.tw17298425922696826006 : True := trivial
theorem main.tw6162249291895867263 : True := trivial
theorem main.tw1677766988990989824 : True := trivial
theorem main.tw12800608258095302798 : True := trivial
theorem main.tw6455149578367423246 : True := trivial
theorem main.tw12590340796369385619 : True := trivial
theorem main.tw15350898050860989542 : True := trivial
theorem main.tw17958375852430007124 : True := trivial
theorem main.tw8663697691656813868 : True := trivial
theorem main.tw10919033858107767486 : True := trivial
theorem main.tw7624122152786673341 : True := trivial
theorem main.tw15558288988949320067 : True := trivial
theorem main.tw10864377008497418100 : True := trivial
theorem main.tw7298748307773712898 : True := trivial
theorem main.tw11403851563620829512 : True := trivial
theorem main.tw12361340156312767134 : True := trivial
theorem main.tw10234815189450012239 : True := trivial
theorem main.tw15734660467963936456 : True := trivial
theorem main.tw18134284020713443437 : True := trivial
theorem main.tw3464709057266567092 : True := trivial
theorem main.tw2906824675625879941 : True := trivial
theorem main.tw12939479104171293914 : True := trivial
theorem main.tw4605139254293405059 : True := trivial
theorem main.tw13724616953566380437 : True := trivial
theorem main.tw17091655785135471103 : True := trivial
theorem main.tw8478376212529829071 : True := trivial
theorem main.tw11086099901593105684 : True := trivial
theorem main.tw11476092923266045095 : True := trivial
theorem main.tw17353955331779342651 : True := trivial
theorem main.tw5102693214775723256 : True := trivial
theorem main.tw16451033083921036709 : True := trivial
theorem main.tw16572128252103988241 : True := trivial
theorem main.tw9840939614602229412 : True := trivial
theorem main.tw5797031442667253490 : True := trivial
theorem main.tw12519306246395310219 : True := trivial
theorem main.tw16135426469972691074 : True := trivial
theorem main.tw3829396358689915599 : True := trivial
theorem main.tw18190005008629794160 : True := trivial
theorem main.tw3314904115985164895 : True := trivial
theorem main.tw9155575984036265788 : True := trivial
theorem main.tw14859100970857779836 : True := trivial
theorem main.tw7590696779544312186 : True := trivial
theorem main.tw5396361742852586263 : True := trivial
theorem main.tw17057053908230417247 : True := trivial
theorem main.tw16789718646487238391 : True := trivial
theorem main.tw15595112118272840620 : True := trivial
theorem main.tw11311155076762098589 : True := trivial
theorem main.tw65644731488775911 : True := trivial
theorem main.tw6862268138105152660 : True := trivial
theorem main.tw5995161000843957690 : True := trivial
theorem main.tw10642606787283503386 : True := trivial
theorem main.tw4126091431370883743 : True := trivial
theorem main.tw14368271195830560734 : True := trivial
theorem main.tw10652863235454686790 : True := trivial
theorem main.tw9498315638749924794 : True := trivial
theorem main.tw17268439761433841065 : True := trivial
theorem main.tw6690441779611380620 : True := trivial
theorem main.tw7974275031393228247 : True := trivial
theorem main.tw9903775340124721222 : True := trivial
theorem main.tw10453263994017694363 : True := trivial
theorem main.tw12646911602827044314 : True := trivial
theorem main.tw11770474507260867162 : True := trivial
theorem main.tw1277820614484962519 : True := trivial
theorem main.tw11407399753219959037 : True := trivial
theorem main.tw14874410936036989788 : True := trivial
theorem main.tw15225127925928830808 : True := trivial
theorem main.tw7308723440029596264 : True := trivial
theorem main.tw13224007501803129859 : True := trivial
theorem main.tw14759895335926876869 : True := trivial
theorem main.tw3706830351922483016 : True := trivial
theorem main.tw14080665800827857628 : True := trivial
theorem main.tw17871620999419790863 : True := trivial
theorem main.tw6696893160125735727 : True := trivial
theorem main.tw11544348965984651327 : True := trivial
theorem main.tw4026956272090484662 : True := trivial
theorem main.tw17695171507069755227 : True := trivial
theorem main.tw14161005256144132680 : True := trivial
theorem main.tw365850788961202214 : True := trivial
theorem main.tw16136984950599521427 : True := trivial
theorem main.tw3748114642381145586 : True := trivial
theorem main.tw1587290215689348708 : True := trivial
theorem main.tw11020365191643786025 : True := trivial
theorem main.tw8228058824784995430 : True := trivial
theorem main.tw1439166485080882 : True := trivial
theorem main.tw13547569757486424058 : True := trivial
theorem main.tw1469836325065767749 : True := trivial
theorem main.tw14504180641510445567 : True := trivial
theorem main.tw6697339332421208802 : True := trivial
theorem main.tw14798791472264738832 : True := trivial
theorem main.tw4216741518440994707 : True := trivial
theorem main.tw10663580350406149668 : True := trivial
theorem main.tw1496695287857109588 : True := trivial
theorem main.tw16765925921980633802 : True := trivial
theorem main.tw14574029869970696880 : True := trivial
theorem main.tw12222963475772708484 : True := trivial
theorem main.tw5418533224930618480 : True := trivial
theorem main.tw16008457594558532635 : True := trivial
theorem main.tw15737690656516749961 : True := trivial
theorem main.tw73751810991705359 : True := trivial
theorem main.tw10625486282989778954 : True := trivial
theorem main.tw15017983477296125989 : True := trivial
theorem main.tw1409966394225722968 : True := trivial
theorem main.tw2729793432009153956 : True := trivial
theorem main.tw7186131708394509389 : True := trivial
theorem main.tw13465503431842376007 : True := trivial
theorem main.tw12941917028564957548 : True := trivial
theorem main.tw7235775444256392728 : True := trivial
theorem main.tw8905992674379837232 : True := trivial
theorem main.tw12543713266681445118 : True := trivial
theorem main.tw13693970394777133609 : True := trivial
theorem main.tw341453280667917650 : True := trivial
theorem main.tw10813080517026676716 : True := trivial
theorem main.tw7268301785047649679 : True := trivial
theorem main.tw6741292078354696603 : True := trivial
theorem main.tw31828345220925962 : True := trivial
theorem main.tw6674386428176565332 : True := trivial
theorem main.tw17292155258170135553 : True := trivial
theorem main.tw5623159541915647742 : True := trivial
theorem main.tw15356762974548107741 : True := trivial
theorem main.tw18344032359734412310 : True := trivial
theorem main.tw15803610866087392283 : True := trivial
theorem main.tw1156462466702112376 : True := trivial
theorem main.tw18120430973489738927 : True := trivial
theorem main.tw17906638245316424091 : True := trivial
theorem main.tw6075091234017535682 : True := trivial
theorem main.tw961187720498965250 : True := trivial
theorem main.tw854977524454699277 : True := trivial
theorem main.tw11135027115929721415 : True := trivial
theorem main.tw4458048076830672230 : True := trivial
theorem main.tw15608450976537380609 : True := trivial
theorem main.tw11967333016625521393 : True := trivial
theorem main.tw4544244032028310869 : True := trivial
theorem main.tw18218335207050127959 : True := trivial
theorem main.tw9394770849952503311 : True := trivial
theorem main.tw13355152605343272895 : True := trivial
theorem main.tw11403970630465759474 : True := trivial
theorem main.tw6768520987592691376 : True := trivial
theorem main.tw6981815665589151136 : True := trivial
theorem main.tw12702744160499308131 : True := trivial
theorem main.tw8249873531624179374 : True := trivial
theorem main.tw1306636233014830658 : True := trivial
theorem main.tw5287059835090251167 : True := trivial
theorem main.tw4946776927847147119 : True := trivial
theorem main.tw6334894449686545209 : True := trivial
theorem main.tw9573086628692744296 : True := trivial
theorem main.tw2195194259037543316 : True := trivial
theorem main.tw358491910552652209 : True := trivial
theorem main.tw7699798408344515789 : True := trivial
theorem main.tw3045742163950154196 : True := trivial
theorem main.tw10652611922669240339 : True := trivial
theorem main.tw11554813239044494598 : True := trivial
theorem main.tw4258463428174104133 : True := trivial
theorem main.tw10231336680788121439 : True := trivial
theorem main.tw16508919721030705984 : True := trivial
theorem main.tw16035907590883218939 : True := trivial
theorem main.tw2279707942289718827 : True := trivial
theorem main.tw453184122279072053 : True := trivial
theorem main.tw15624239662980076321 : True := trivial
theorem main.tw11987853993630220354 : True := trivial
theorem main.tw12027323910402764344 : True := trivial
theorem main.tw11461230924637031220 : True := trivial
theorem main.tw2583023086579268501 : True := trivial
theorem main.tw9563168847844234846 : True := trivial
theorem main.tw10877679251791092727 : True := trivial
theorem main.tw6674893403203295414 : True := trivial
theorem main.tw10114013102757674387 : True := trivial
theorem main.tw962032349192862916 : True := trivial
theorem main.tw12992176717851604617 : True := trivial
theorem main.tw16305672181175384284 : True := trivial
theorem main.tw13984339266708807426 : True := trivial
theorem main.tw8260724100714396741 : True := trivial
theorem main.tw12885673836220544336 : True := trivial
theorem main.tw3370190323706015969 : True := trivial
theorem main.tw10660814488641296832 : True := trivial
theorem main.tw15131278010643852716 : True := trivial
theorem main.tw17453503289922162039 : True := trivial
theorem main.tw17708487481403421675 : True := trivial
theorem main.tw5243159528196176124 : True := trivial
theorem main.tw796168687070700412 : True := trivial
theorem main.tw12839114828313443825 : True := trivial
theorem main.tw9976160756891316704 : True := trivial
theorem main.tw3613476055612923068 : True := trivial
theorem main.tw1826329307503635854 : True := trivial
theorem main.tw12518504611687188807 : True := trivial
theorem main.tw8127475511531132179 : True := trivial
theorem main.tw13227692790652741651 : True := trivial
theorem main.tw7751025194823839400 : True := trivial
theorem main.tw6044114016751833949 : True := trivial
theorem main.tw8466321980469482115 : True := trivial
theorem main.tw2225956059507018244 : True := trivial
theorem main.tw9483120023164983764 : True := trivial
theorem main.tw10140136200207757160 : True := trivial
theorem main.tw8436210846270712021 : True := trivial
theorem main.tw10899915308481594680 : True := trivial
theorem main.tw18385570937342765463 : True := trivial
theorem main.tw8988871441479999982 : True := trivial
theorem main.tw1682717812290203472 : True := trivial
theorem main.tw11501822485730972192 : True := trivial
theorem main.tw14666387041718499266 : True := trivial
theorem main.tw12431731261707249289 : True := trivial
theorem main.tw13503263706703578961 : True := trivial
theorem main.tw16965079339398995527 : True := trivial
theorem main.tw6545385358150927430 : True := trivial
theorem main.tw4990475226369331113 : True := trivial
theorem main.tw10750994468655217958 : True := trivial
theorem main.tw7647378279178456250 : True := trivial
theorem main.tw16411370214107742406 : True := trivial
theorem main.tw13838900630717943254 : True := trivial
theorem main.tw17431719831054627609 : True := trivial
theorem main.tw14635473669698735251 : True := trivial
theorem main.tw9368617206455126095 : True := trivial
theorem main.tw10363585996791799541 : True := trivial
theorem main.tw7411558596216406370 : True := trivial
theorem main.tw7293298908176781663 : True := trivial
theorem main.tw11646826074482590764 : True := trivial
theorem main.tw12343854547171428336 : True := trivial
theorem main.tw833945537157984683 : True := trivial
theorem main.tw12014785543569010823 : True := trivial
theorem main.tw1289389943133740499 : True := trivial
theorem main.tw3298483428156984901 : True := trivial
theorem main.tw8707812797481193996 : True := trivial
theorem main.tw6389877041954997217 : True := trivial
theorem main.tw17510229520200029679 : True := trivial
theorem main.tw14060465935940456498 : True := trivial
theorem main.tw17679725944135375923 : True := trivial
theorem main.tw2173562974560187446 : True := trivial
theorem main.tw6596593509180878263 : True := trivial
theorem main.tw16544489699163171333 : True := trivial
theorem main.tw12130321265151566525 : True := trivial
theorem main.tw3532412968194664532 : True := trivial
theorem main.tw2238316416991798583 : True := trivial
theorem main.tw4812270449578504274 : True := trivial
theorem main.tw11962923498438245051 : True := trivial
theorem main.tw8467378866343419333 : True := trivial
theorem main.tw3305931106042330821 : True := trivial
theorem main.tw8265370782698574782 : True := trivial
theorem main.tw2750411421705246143 : True := trivial
theorem main.tw17402982504261768225 : True := trivial
theorem main.tw2629084897520917108 : True := trivial
theorem main.tw2544328076492683441 : True := trivial
theorem main.tw13306352142949925410 : True := trivial
theorem main.tw4413345314126155841 : True := trivial
theorem main.tw6053611964639427726 : True := trivial
theorem main.tw7153082081811710619 : True := trivial
theorem main.tw8729708805864041840 : True := trivial
theorem main.tw17413556829735388813 : True := trivial
theorem main.tw1092785777240315536 : True := trivial
theorem main.tw452746233719593009 : True := trivial
theorem main.tw5473700226181020891 : True := trivial
theorem main.tw18004925070721025187 : True := trivial
theorem main.tw4924694640843408985 : True := trivial
theorem main.tw16356685582667847594 : True := trivial
theorem main.tw8484041278411425421 : True := trivial
theorem main.tw12077450504624328385 : True := trivial
theorem main.tw6508729118710982530 : True := trivial
theorem main.tw3779293765908593550 : True := trivial
theorem main.tw14235155234550121937 : True := trivial
theorem main.tw15277975159832343749 : True := trivial
theorem main.tw8844999433837080629 : True := trivial
theorem main.tw6542085627976250192 : True := trivial
theorem main.tw12463224122652932544 : True := trivial
theorem main.tw4039676971129161736 : True := trivial
theorem main.tw8118072479153026202 : True := trivial
theorem main.tw13626721169425172152 : True := trivial
theorem main.tw9957550378297406723 : True := trivial
theorem main.tw3491332818749588091 : True := trivial
theorem main.tw16026485685270457870 : True := trivial
theorem main.tw16689149305811164139 : True := trivial
theorem main.tw302440914744352476 : True := trivial
theorem main.tw2647654807098235363 : True := trivial
theorem main.tw2456247091588846565 : True := trivial
theorem main.tw11001617756164336837 : True := trivial
theorem main.tw7214478077546791972 : True := trivial
theorem main.tw6632538468102435922 : True := trivial
theorem main.tw11410963132546700228 : True := trivial
theorem main.tw5127751686995613262 : True := trivial
theorem main.tw18362344077887427874 : True := trivial
theorem main.tw14406990849044604362 : True := trivial
theorem main.tw11003572833241299968 : True := trivial
theorem main.tw13132915859168520264 : True := trivial
theorem main.tw14061640607465278742 : True := trivial
theorem main.tw474381771622712015 : True := trivial
theorem main.tw4475767826048309731 : True := trivial
theorem main.tw10665089971535097683 : True := trivial
theorem main.tw16950194794029067938 : True := trivial
theorem main.tw750237026923860459 : True := trivial
theorem main.tw11982392923317675503 : True := trivial
theorem main.tw13962693860625380366 : True := trivial
theorem main.tw15060185592220127646 : True := trivial
theorem main.tw5502569546826302122 : True := trivial
theorem main.tw17223442867436993403 : True := trivial
theorem main.tw4333880214566435006 : True := trivial
theorem main.tw9190990891756207365 : True := trivial
theorem main.tw18418235949754561950 : True := trivial
theorem main.tw387501639795913443 : True := trivial
theorem main.tw3960113756560652017 : True := trivial
theorem main.tw7623511443260959870 : True := trivial
theorem main.tw10391951854915411234 : True := trivial
theorem main.tw10047389527955405517 : True := trivial
theorem main.tw1850612553970854742 : True := trivial
theorem main.tw13667920496262714385 : True := trivial
theorem main.tw14216407083858561409 : True := trivial
theorem main.tw9808303207383738048 : True := trivial
theorem main.tw5456330333991267789 : True := trivial
theorem main.tw11710404883906591787 : True := trivial
theorem main.tw14639212616227390028 : True := trivial
theorem main.tw3137596982192898869 : True := trivial
theorem main.tw18325589031809861271 : True := trivial
theorem main.tw4917070330192852093 : True := trivial
theorem main.tw16187894506366716058 : True := trivial
theorem main.tw6862492499505807319 : True := trivial
theorem main.tw5400957986263281647 : True := trivial
theorem main.tw6702130215012162313 : True := trivial
theorem main.tw12139096438432415106 : True := trivial
theorem main.tw2921621734765799159 : True := trivial
theorem main.tw15957597259013190341 : True := trivial
theorem main.tw8211959896082780389 : True := trivial
theorem main.tw7761410557224570781 : True := trivial
theorem main.tw7054876372555587774 : True := trivial
theorem main.tw10177057350305019805 : True := trivial
theorem main.tw4088224383575840552 : True := trivial
theorem main.tw15514936471743626214 : True := trivial
theorem main.tw18431692314602308842 : True := trivial
theorem main.tw3994622017586750766 : True := trivial
theorem main.tw1777545030009416734 : True := trivial
theorem main.tw10159738436595150677 : True := trivial
theorem main.tw10094358506670053839 : True := trivial
theorem main.tw918671981122897330 : True := trivial
theorem main.tw16153842264607907944 : True := trivial
theorem main.tw12675357926760492328 : True := trivial
theorem main.tw4948327476702027199 : True := trivial
theorem main.tw12623159325031504133 : True := trivial
theorem main.tw2538046985915079169 : True := trivial
theorem main.tw1255815211270559930 : True := trivial
theorem main.tw17767330081159143506 : True := trivial
theorem main.tw9515011664573035354 : True := trivial
theorem main.tw1261021989165538067 : True := trivial
theorem main.tw7165207203227711834 : True := trivial
theorem main.tw471287901995484742 : True := trivial
theorem main.tw5616070069386785504 : True := trivial
theorem main.tw4044139247061151142 : True := trivial
theorem main.tw1615045767204293396 : True := trivial
theorem main.tw5684232945270242834 : True := trivial
theorem main.tw13270728482189477470 : True := trivial
theorem main.tw5671064798259553346 : True := trivial
theorem main.tw8834365191522931223 : True := trivial
theorem main.tw17699438841360665129 : True := trivial
theorem main.tw16676564476587882173 : True := trivial
theorem main.tw16798622893749714585 : True := trivial
theorem main.tw2007339730380871907 : True := trivial
theorem main.tw13591255225166038476 : True := trivial
theorem main.tw15059693217772790739 : True := trivial
theorem main.tw834873547066669988 : True := trivial
theorem main.tw16819838333489098493 : True := trivial
theorem main.tw16251939892948500945 : True := trivial
theorem main.tw13590572293223372214 : True := trivial
theorem main.tw3867218068155391060 : True := trivial
theorem main.tw6385024630547198690 : True := trivial
theorem main.tw4681395471914393968 : True := trivial
theorem main.tw12751799325998411230 : True := trivial
theorem main.tw9360745474812902239 : True := trivial
theorem main.tw9942282790977331292 : True := trivial
theorem main.tw7742616358663508648 : True := trivial
theorem main.tw14849204138880929251 : True := trivial
theorem main.tw2433702464844828792 : True := trivial
theorem main.tw5871769198996169552 : True := trivial
theorem main.tw1253437644075932092 : True := trivial
theorem main.tw3796207824708393856 : True := trivial
theorem main.tw5061512775090418087 : True := trivial
theorem main.tw8090509862211737132 : True := trivial
theorem main.tw17438294365789470252 : True := trivial
theorem main.tw9253799994812790149 : True := trivial
theorem main.tw10342771944232968086 : True := trivial
theorem main.tw6912675738884088206 : True := trivial
theorem main.tw1098248734344127483 : True := trivial
theorem main.tw2524017781993486291 : True := trivial
theorem main.tw15465920861327815835 : True := trivial
theorem main.tw16790050636404226231 : True := trivial
theorem main.tw13355165232487703845 : True := trivial
theorem main.tw5665406974723832613 : True := trivial
theorem main.tw4573282807186111410 : True := trivial
theorem main.tw962193829226610041 : True := trivial
theorem main.tw12483276189755474720 : True := trivial
theorem main.tw16049902774474827687 : True := trivial
theorem main.tw11120327062377616369 : True := trivial
theorem main.tw7472368607099979303 : True := trivial
theorem main.tw10609540516017602915 : True := trivial
theorem main.tw8952462522180670554 : True := trivial
theorem main.tw13154001654789283132 : True := trivial
theorem main.tw4585930131862741453 : True := trivial
theorem main.tw66260789543402106 : True := trivial
theorem main.tw15643365686152983790 : True := trivial
theorem main.tw7074144079889050967 : True := trivial
theorem main.tw13313126695403321540 : True := trivial
theorem main.tw11815829001073249272 : True := trivial
theorem main.tw1628013610222277130 : True := trivial
theorem main.tw13116522157475607773 : True := trivial
theorem main.tw8207831470162742035 : True := trivial
theorem main.tw16721930046160240684 : True := trivial
theorem main.tw5842977544298395883 : True := trivial
theorem main.tw12298629886278197574 : True := trivial
theorem main.tw9175052073728820173 : True := trivial
theorem main.tw9848185148710128376 : True := trivial
theorem main.tw10463206416058312583 : True := trivial
theorem main.tw12900284412222446716 : True := trivial
theorem main.tw645136716886899192 : True := trivial
theorem main.tw18425317256667529438 : True := trivial
theorem main.tw18421580907717582127 : True := trivial
theorem main.tw9656510801202774680 : True := trivial
theorem main.tw1545906260438175962 : True := trivial
theorem main.tw3343439749351644125 : True := trivial
theorem main.tw15023316991559800185 : True := trivial
theorem main.tw6449824600675878752 : True := trivial
theorem main.tw48596604365144762 : True := trivial
theorem main.tw14313897822631088780 : True := trivial
theorem main.tw10169072693733980587 : True := trivial
theorem main.tw49674306023711395 : True := trivial
theorem main.tw16193401482309157537 : True := trivial
theorem main.tw12564604832814323664 : True := trivial
theorem main.tw18392154025008590481 : True := trivial
theorem main.tw13402765919934010277 : True := trivial
theorem main.tw2190695567426971638 : True := trivial
theorem main.tw11261727412033496967 : True := trivial
theorem main.tw18403998269306519403 : True := trivial
theorem main.tw2921958311620399285 : True := trivial
theorem main.tw5649967823195072380 : True := trivial
theorem main.tw15365013842991253249 : True := trivial
theorem main.tw13797323745857372409 : True := trivial
theorem main.tw588950844065142505 : True := trivial
theorem main.tw3549514262204291990 : True := trivial
theorem main.tw161903638078081290 : True := trivial
theorem main.tw1157997071576566072 : True := trivial
theorem main.tw10044588960856096794 : True := trivial
theorem main.tw9361130925298907136 : True := trivial
theorem main.tw3234112476842188716 : True := trivial
theorem main.tw2702614204127132176 : True := trivial
theorem main.tw12093647306153771053 : True := trivial
theorem main.tw16480584520131690045 : True := trivial
theorem main.tw6788695710022549768 : True := trivial
theorem main.tw12915833801598196605 : True := trivial
theorem main.tw14439473939278146460 : True := trivial
theorem main.tw3934531018447913466 : True := trivial
theorem main.tw13148611719377898607 : True := trivial
theorem main.tw6639522245352263942 : True := trivial
theorem main.tw9681375758050803366 : True := trivial
theorem main.tw12057704586751987240 : True := trivial
theorem main.tw8930851030842425676 : True := trivial
theorem main.tw15079240505294077160 : True := trivial
theorem main.tw1027651156746619712 : True := trivial
theorem main.tw13350764725976880583 : True := trivial
theorem main.tw7083192437325867461 : True := trivial
theorem main.tw14390754486103292620 : True := trivial
theorem main.tw9274054859765456524 : True := trivial
theorem main.tw9392487213469676918 : True := trivial
theorem main.tw3626430660855392483 : True := trivial
theorem main.tw17970175261035232004 : True := trivial
theorem main.tw2744014450722944760 : True := trivial
theorem main.tw3848698983108048278 : True := trivial
theorem main.tw17290568124846718506 : True := trivial
theorem main.tw11487549891475536569 : True := trivial
theorem main.tw12670839924663504800 : True := trivial
theorem main.tw6877560268529008848 : True := trivial
theorem main.tw15410482203810522393 : True := trivial
theorem main.tw14662554035588321541 : True := trivial
theorem main.tw9561784451562097942 : True := trivial
theorem main.tw11251407683458634364 : True := trivial
theorem main.tw11349898740250378076 : True := trivial
theorem main.tw8905464785575363620 : True := trivial
theorem main.tw5837888446457221635 : True := trivial
theorem main.tw5831584030425509755 : True := trivial
theorem main.tw12170992721606120685 : True := trivial
theorem main.tw17477492558424962760 : True := trivial
theorem main.tw8947760058931562597 : True := trivial
theorem main.tw6880717277089553138 : True := trivial
theorem main.tw6635558491612396129 : True := trivial
theorem main.tw10199874654664476236 : True := trivial
theorem main.tw4189750870438640210 : True := trivial
theorem main.tw16922381011570985944 : True := trivial
theorem main.tw13113777628852026922 : True := trivial
theorem main.tw13260870731297125680 : True := trivial
theorem main.tw9272984997812220495 : True := trivial
theorem main.tw13995172100960836882 : True := trivial
theorem main.tw17725498274588495791 : True := trivial
theorem main.tw10564528347858357063 : True := trivial
theorem main.tw7108953243070827183 : True := trivial
theorem main.tw5665735395497279834 : True := trivial
theorem main.tw2110754180369666209 : True := trivial
theorem main.tw3160845607165458772 : True := trivial
theorem main.tw17216456486372921729 : True := trivial
theorem main.tw3864431920445960829 : True := trivial
theorem main.tw4839478117068044826 : True := trivial
theorem main.tw15970538086172389420 : True := trivial
theorem main.tw6164561884633627433 : True := trivial
theorem main.tw11595355409239048105 : True := trivial
theorem main.tw17201416709059790184 : True := trivial
theorem main.tw14106445559736802775 : True := trivial
theorem main.tw1054321117371714560 : True := trivial
theorem main.tw14097447854668400296 : True := trivial
theorem main.tw16551855485269240956 : True := trivial
theorem main.tw14793117695081215449 : True := trivial
theorem main.tw3557749057250611081 : True := trivial
theorem main.tw330327031418712150 : True := trivial
theorem main.tw13676971244355772609 : True := trivial
theorem main.tw9557352009045844224 : True := trivial
theorem main.tw3454311308915712629 : True := trivial
theorem main.tw9069182735580402390 : True := trivial
theorem main.tw1980160206288974728 : True := trivial
theorem main.tw10992214633131536827 : True := trivial
theorem main.tw17190941658635524449 : True := trivial
theorem main.tw12260438938755061251 : True := trivial
theorem main.tw16656740534632174751 : True := trivial
theorem main.tw14722489848711283861 : True := trivial
theorem main.tw10876229203375891673 : True := trivial
theorem main.tw6910295442248876197 : True := trivial
theorem main.tw12974819211118642341 : True := trivial
theorem main.tw2975029662820216040 : True := trivial
theorem main.tw15928290008803537013 : True := trivial
theorem main.tw17275675667316583603 : True := trivial
theorem main.tw4491334807805099456 : True := trivial
theorem main.tw15616401959046598769 : True := trivial
theorem main.tw14646587721710459877 : True := trivial
theorem main.tw799486724532869496 : True := trivial
theorem main.tw7273056430967151046 : True := trivial
theorem main.tw7691172733374981047 : True := trivial
theorem main.tw6222487380544312443 : True := trivial
theorem main.tw14788915703135433725 : True := trivial
theorem main.tw17016820405989369747 : True := trivial
theorem main.tw16292202817602668162 : True := trivial
theorem main.tw7639352225515584698 : True := trivial
theorem main.tw12338497608069007261 : True := trivial
theorem main.tw15579395750891953841 : True := trivial
theorem main.tw14168887731352723522 : True := trivial
theorem main.tw14672674291997333471 : True := trivial
theorem main.tw15734200111481486640 : True := trivial
theorem main.tw5309058905264134205 : True := trivial
theorem main.tw9470667924834194258 : True := trivial
theorem main.tw14814594519894181452 : True := trivial
theorem main.tw545269030811804461 : True := trivial
theorem main.tw15097543051748444868 : True := trivial
theorem main.tw5532463470591059822 : True := trivial
theorem main.tw13180746182150919023 : True := trivial
theorem main.tw785246043732427063 : True := trivial
theorem main.tw6418098437765475518 : True := trivial
theorem main.tw9670510015898674028 : True := trivial
theorem main.tw9189880136782149556 : True := trivial
theorem main.tw7875838824674609581 : True := trivial
theorem main.tw17456035664235451855 : True := trivial
theorem main.tw4072190877284726289 : True := trivial
theorem main.tw3905226178654972811 : True := trivial
theorem main.tw6657087868060814 : True := trivial
theorem main.tw16952715711813285254 : True := trivial
theorem main.tw6660377722381337597 : True := trivial
theorem main.tw5234446048077146213 : True := trivial
theorem main.tw5401703158475992631 : True := trivial
theorem main.tw3299218664060906527 : True := trivial
theorem main.tw11774690029378154688 : True := trivial
theorem main.tw11041547156204584376 : True := trivial
theorem main.tw1236483940969888574 : True := trivial
theorem main.tw1645717771770832407 : True := trivial
theorem main.tw1390771862084280389 : True := trivial
theorem main.tw13157206579259725088 : True := trivial
end Mine
set_option Elab.async true
set_option maxRecDepth 100000 in
set_option maxHeartbeats 8000000 in
theorem Mine.main : PySem.Challenge.rw_oj0031_01.Holds := by
  (w_on; o_law; k_head; (case hw => w_witness2); w_strict (k_go0; (all_goals try k_fold); (rename_i w s₀ s₁ mg mb G Y fa o pm doc kV ho hg KX X V GL T B TE TW a1 a2 M a3 a4 hcd ns hs hlay0 hL1 hr1 hl2 as1 as2 a vs as3 hL ra w1 r0 hI hr hcond cond' K0 hD h₁ F N0); refine Mine.lawTop ⟨by kernel_rfl, by kernel_rfl⟩ KX T w1 (by omega) rfl rfl rfl F rfl ?_; intro h' t' k; exact ⟨.inl ⟨.bool true, .bool true, [], rfl, fun cls => rfl, .bool true, by kernel_rfl, fun _ => ⟨List.nodup_nil, fun a z => nomatch z⟩⟩, k, rfl, hg⟩))
set_option Elab.async false
theorem PySem.Challenge.cw_oj0031_01_holds : PySem.Challenge.rw_oj0031_01.Holds :=
  Mine.main
