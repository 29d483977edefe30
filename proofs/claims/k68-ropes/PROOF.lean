import PyProof.Rows.All
import Wide.All
import OpenK.AllK
import Wide.FinOn
import KE.KSuper
import KE.KExcSuper
import HandS.ForMost
import HandS.Exc
import HandS.ExcInit
import HandS.ClsMeth
import HandS.Star
import KE.KStateDown
import HandS.Defaults
import HandS.ExcIs
import HandS.ExcField
import HandS.Property
import HandS.Head0
import HandS.Head1
import HandS.Head2
import HandS.HeadEnd
import HandS.HeadHook1
import HandS.HeadHook2
import HandS.HeadHook3
import HandS.HeadHook4
import KE.KUnpackStar
import HandS.TryMany
import HandS.SetFor
import HandS.TupAny
import HandS.Style
import HandS.Slots
import HandS.TryOnly
import HandS.Conv
import HandS.FStr
import HandS.IsInst
import HandS.CallSlots
import HandS.WordsExc
import HandS.MakeKw
import HandS.Lambda
import HandS.EndTab
import HandS.HeadWalk
import PySem.Challenge.RW_splitfolds_k68_whole_ropes_by_a_model
set_option Elab.async false
set_option linter.all false
set_option maxRecDepth 100000
set_option maxHeartbeats 0
/-! Plain mathematics: machines as maps and as readers, pieces, the model of a rope. -/
namespace K68

structure Mach where
  letters : Nat
  left : Bool
  start : Nat
  moves : List (List Nat)
  outs : List Nat

structure Mach.Ok (m : Mach) : Prop where
  two : 2 ≤ m.letters
  three : m.letters ≤ 3
  one : 1 ≤ m.moves.length
  four : m.moves.length ≤ 4
  st : m.start < m.moves.length
  row : ∀ r ∈ m.moves, r.length = m.letters ∧ ∀ x ∈ r, x < m.moves.length
  ol : m.outs.length = m.moves.length
  ob : ∀ x ∈ m.outs, x < 10

abbrev Word := List Nat
def Mach.Wok (m : Mach) (w : Word) : Prop := ∀ x ∈ w, x < m.letters
def Mach.step (m : Mach) (s a : Nat) : Nat := (m.moves.getD s []).getD a 0
def Mach.run (m : Mach) (w : Word) (s : Nat) : Nat := (if m.left then w else w.reverse).foldl m.step s
def Mach.read (m : Mach) (w : Word) : Nat := m.outs.getD (m.run w m.start) 0

def Mach.letterMap (m : Mach) (a : Nat) : List Nat := m.moves.map fun r => r.getD a 0
def after (f g : List Nat) : List Nat := f.map fun s => g.getD s 0
def Mach.joined (m : Mach) (f g : List Nat) : List Nat := if m.left then after f g else after g f
def Mach.appended (m : Mach) (f : List Nat) (a : Nat) : List Nat := m.joined f (m.letterMap a)
def Mach.mapOf (m : Mach) (w : Word) : List Nat := w.foldl m.appended (List.range m.moves.length)
def Mach.outcome (m : Mach) (f : List Nat) : Nat := m.outs.getD (f.getD m.start 0) 0
/-- a map of states -/
def Mach.IsMap (m : Mach) (f : List Nat) : Prop := f.length = m.moves.length ∧ ∀ x ∈ f, x < m.moves.length

section
variable {m : Mach}
theorem getD_mem {l : List Nat} {i : Nat} (h : i < l.length) : l.getD i 0 ∈ l := by
  rw [List.getD_eq_getElem?_getD, List.getElem?_eq_getElem h]
  exact List.getElem_mem h
theorem row_mem {l : List (List Nat)} {i : Nat} (h : i < l.length) : l.getD i [] ∈ l := by
  rw [List.getD_eq_getElem?_getD, List.getElem?_eq_getElem h]
  exact List.getElem_mem h
theorem getD_map' {α : Type} (l : List α) (f : α → Nat) (d : α) (i : Nat) (h : i < l.length) : (l.map f).getD i 0 = f (l.getD i d) := by
  rw [List.getD_eq_getElem?_getD, List.getD_eq_getElem?_getD, List.getElem?_map, List.getElem?_eq_getElem h]
  rfl
theorem step_lt (ok : m.Ok) {s a : Nat} (hs : s < m.moves.length) (ha : a < m.letters) : m.step s a < m.moves.length := by
  obtain ⟨h1, h2⟩ := ok.row _ (row_mem hs)
  exact h2 _ (getD_mem (by rw [h1]; exact ha))
theorem fold_lt (ok : m.Ok) : ∀ (w : Word) {s : Nat}, m.Wok w → s < m.moves.length → w.foldl m.step s < m.moves.length
  | [], s, _, hs => hs
  | a :: w, s, hw, hs => fold_lt ok w (fun x hx => hw x (List.mem_cons_of_mem _ hx)) (step_lt ok hs (hw a List.mem_cons_self))
theorem wok_rev {w : Word} (h : m.Wok w) : m.Wok w.reverse := fun x hx => h x (List.mem_reverse.mp hx)
theorem run_lt (ok : m.Ok) {w : Word} {s : Nat} (hw : m.Wok w) (hs : s < m.moves.length) : m.run w s < m.moves.length := by
  unfold Mach.run
  cases m.left with
  | true => exact fold_lt ok w hw hs
  | false => exact fold_lt ok _ (wok_rev hw) hs
theorem isMap_id : m.IsMap (List.range m.moves.length) := ⟨List.length_range, fun x hx => List.mem_range.mp hx⟩
theorem isMap_letter (ok : m.Ok) {a : Nat} (ha : a < m.letters) : m.IsMap (m.letterMap a) := by
  refine ⟨List.length_map .., fun x hx => ?_⟩
  obtain ⟨r, hr, rfl⟩ := List.mem_map.mp hx
  obtain ⟨h1, h2⟩ := ok.row r hr
  exact h2 _ (getD_mem (by rw [h1]; exact ha))
theorem isMap_after {f g : List Nat} (hf : m.IsMap f) (hg : m.IsMap g) : m.IsMap (after f g) := by
  refine ⟨by unfold after; rw [List.length_map]; exact hf.1, fun x hx => ?_⟩
  obtain ⟨s, hs, rfl⟩ := List.mem_map.mp hx
  exact hg.2 _ (getD_mem (by rw [hg.1]; exact hf.2 s hs))
theorem isMap_joined {f g : List Nat} (hf : m.IsMap f) (hg : m.IsMap g) : m.IsMap (m.joined f g) := by
  unfold Mach.joined
  cases m.left with
  | true => exact isMap_after hf hg
  | false => exact isMap_after hg hf
theorem isMap_appended (ok : m.Ok) {f : List Nat} {a : Nat} (hf : m.IsMap f) (ha : a < m.letters) : m.IsMap (m.appended f a) := isMap_joined hf (isMap_letter ok ha)
theorem isMap_fold (ok : m.Ok) : ∀ (w : Word) {f : List Nat}, m.Wok w → m.IsMap f → m.IsMap (w.foldl m.appended f)
  | [], _, _, hf => hf
  | a :: w, _, hw, hf => isMap_fold ok w (fun x hx => hw x (List.mem_cons_of_mem _ hx)) (isMap_appended ok hf (hw a List.mem_cons_self))
theorem isMap_mapOf (ok : m.Ok) {w : Word} (hw : m.Wok w) : m.IsMap (m.mapOf w) := isMap_fold ok w hw isMap_id
theorem letterMap_at (ok : m.Ok) {s a : Nat} (hs : s < m.moves.length) : (m.letterMap a).getD s 0 = m.step s a := getD_map' m.moves (fun r => r.getD a 0) [] s hs
theorem after_at {f g : List Nat} {s : Nat} (hs : s < f.length) : (after f g).getD s 0 = g.getD (f.getD s 0) 0 := getD_map' f (fun s => g.getD s 0) 0 s hs
/-- what the map of a word does with a state -/
theorem fold_at (ok : m.Ok) : ∀ (w : Word) {f : List Nat} {s : Nat}, m.Wok w → m.IsMap f → s < m.moves.length →
    (w.foldl m.appended f).getD s 0 = if m.left then w.foldl m.step (f.getD s 0) else f.getD (w.reverse.foldl m.step s) 0
  | [], f, s, _, _, _ => by cases m.left <;> rfl
  | a :: w, f, s, hw, hf, hs => by
    have ha : a < m.letters := hw a List.mem_cons_self
    have hw' : m.Wok w := fun x hx => hw x (List.mem_cons_of_mem _ hx)
    rw [List.foldl_cons, fold_at ok w hw' (isMap_appended ok hf ha) hs]
    cases hl : m.left with
    | true =>
      rw [if_pos rfl, if_pos rfl, List.foldl_cons]
      have e : (m.appended f a).getD s 0 = m.step (f.getD s 0) a := by
        unfold Mach.appended Mach.joined
        rw [hl, if_pos rfl, after_at (by rw [hf.1]; exact hs), letterMap_at ok (hf.2 _ (getD_mem (by rw [hf.1]; exact hs)))]
      rw [e]
    | false =>
      rw [if_neg Bool.false_ne_true, if_neg Bool.false_ne_true, List.reverse_cons, List.foldl_append]
      have ht : w.reverse.foldl m.step s < m.moves.length := fold_lt ok _ (wok_rev hw') hs
      unfold Mach.appended Mach.joined
      rw [hl, if_neg Bool.false_ne_true, after_at (by rw [(isMap_letter ok ha).1]; exact ht), letterMap_at ok ht]
      rfl
theorem range_at {n s : Nat} (h : s < n) : (List.range n).getD s 0 = s := by
  rw [List.getD_eq_getElem?_getD, List.getElem?_range h]
  rfl
theorem outcome_is (ok : m.Ok) {w : Word} (hw : m.Wok w) : m.outcome (m.mapOf w) = m.read w := by
  unfold Mach.outcome Mach.mapOf Mach.read
  rw [fold_at ok w hw isMap_id ok.st]
  unfold Mach.run
  cases hl : m.left with
  | true => rw [if_pos rfl, if_pos rfl, range_at ok.st]
  | false =>
    rw [if_neg Bool.false_ne_true, if_neg Bool.false_ne_true, range_at (fold_lt ok _ (wok_rev hw) ok.st)]
end

/-! ### ropes -/
abbrev Pieces := List Word
inductive Srt | rope | std | sht | both
  deriving DecidableEq
def Srt.isSteady : Srt → Bool
  | .std => true
  | .both => true
  | _ => false
def Srt.isShort : Srt → Bool
  | .sht => true
  | .both => true
  | _ => false
def Srt.most (s : Srt) (cap : Nat) : Nat := if s.isShort then cap else 20
inductive Err | limit (a l : Nat) | number | place | unsteady | nothing
  deriving DecidableEq
def fit0 (most : Nat) (ps : Pieces) : Option Err :=
  if 40 < ps.flatten.length then some (.limit ps.flatten.length 40) else if most < ps.length then some (.limit ps.length most) else none
def fitS (m : Mach) (ps : Pieces) : Option Err := if m.read ps.flatten = m.read [] then none else some .unsteady
def fit (s : Srt) (m : Mach) (cap : Nat) (ps : Pieces) : Option Err := (fit0 (s.most cap) ps).or (if s.isSteady then fitS m ps else none)
/-- the pieces behind a call, or what is raised ahead of the look at their number -/
inductive Way | right (w : Word) | left (w : Word) | three (w : Word) | undo | merge (k : Nat) | drop (k : Nat) | cut (k n : Nat)
def next (ps : Pieces) (past : List Pieces) : Way → Except Err Pieces
  | .right w => .ok (ps ++ [w])
  | .left w => .ok (w :: ps)
  | .three w => .ok [w, [], w]
  | .undo => match past.getLast? with | some q => .ok q | none => .error .nothing
  | .merge k => if k + 1 < ps.length then .ok (ps.take k ++ (ps.getD k [] ++ ps.getD (k + 1) []) :: ps.drop (k + 2)) else .error .place
  | .drop k => if k < ps.length then .ok (ps.take k ++ ps.drop (k + 1)) else .error .place
  | .cut k n => if k < ps.length then (if n ≤ (ps.getD k []).length then .ok (ps.take k ++ (ps.getD k []).take n :: (ps.getD k []).drop n :: ps.drop (k + 1)) else .error .number) else .error .place
/-- a call: the pieces and the earlier ones behind it, or what is raised -/
def op (s : Srt) (m : Mach) (cap : Nat) (ps : Pieces) (past : List Pieces) (y : Way) : Except Err (Pieces × List Pieces) :=
  match next ps past y with
  | .error e => .error e
  | .ok q => match y with
    | .undo => .ok (q, past.dropLast)
    | _ => match fit s m cap q with
      | some e => .error e
      | none => .ok (q, past ++ [ps])
end K68
/-! Methods whose first statement calls super(). -/
namespace K68R
open PySem PySem.Spec PyProof.Rows L2

/-- the frame of a def that closes over its class -/
abbrev supEnv (qual : Str) (scope : Scope) (L f : Addr) (cd : Value) (cc : Addr) : Env := PySem.W.ksEnv qual scope L f cd cc
/-- its names: the parameters, and the class -/
structure SupScope (ps : List Str) (sc : Scope) : Prop where
  kind : sc.kind = .function
  co : sc.isCoroutine = false
  gen : sc.isGenerator = false
  nd : ps.Nodup
  par : ∀ x ∈ ps, sc.names.lookup x = some .local
  nocell : ∀ y ∈ sc.names, y.2 ≠ .cell
  free : ∀ y ∈ sc.names, y.2 = .free → y.1 = "__class__"
def cxS (CX : CXT) (P : Program) (w : World) (K : PySem.W.Frag) (mg : Str → Option Value) (base : Heap) (N : List Str) (qual : Str) (scope : Scope) (f : Addr) (cd : Value) (cc : Addr) (A : Around) (outer : List Env) (s : Shared) (H : Hp) (E : XK) : Cx where
  prog := P
  w := w
  K := K
  mg := mg
  base := base
  A := A.deeper (supEnv qual scope s.heap.objs.size f cd cc)
  N := N
  s_0 := s
  H_0 := H
  env := supEnv qual scope s.heap.objs.size f cd cc
  outer := outer
  stack := supEnv qual scope s.heap.objs.size f cd cc :: outer
  ex := []
  calm := true
  fn := fun _ => false
  pn := []
  xe := fun e s' => wpAny (model P w) (A.deeper (supEnv qual scope s.heap.objs.size f cd cc)) (leaving (supEnv qual scope s.heap.objs.size f cd cc) e) (fun _ s'' => CX outer H s E e s'') (fun e' s'' => CX outer H s E e' s'') s'

section
variable {CX : CXT} {P : Program} {w : World} {K : PySem.W.Frag} {mg : Str → Option Value} {base : Heap} {k : Nat} {ps : List Str} {qual : Str} {scope : Scope} {f cc D : Addr} {cd : Value} {A : Around} {outer : List Env} {s : Shared} {H : Hp} {E : XK}
theorem zip_look : ∀ {ps : List Str} {us : List Value} {i : Nat} {x : Str} {u : Value}, ps.Nodup → ps[i]? = some x → us[i]? = some u → (ps.zip us).reverse.lookup x = some u := by
  intro ps us i x u nd h1 h2
  have key : ∀ {ps : List Str} {us : List Value} {i : Nat}, ps.Nodup → ps[i]? = some x → us[i]? = some u → ∀ acc : List (Str × Value), ((ps.zip us).reverse ++ acc).lookup x = some u := by
    intro ps
    induction ps with
    | nil => intro us i _ h1; simp at h1
    | cons p ps ih =>
      intro us i nd h1 h2 acc
      cases us with
      | nil => simp at h2
      | cons v us =>
        rw [List.zip_cons_cons, List.reverse_cons, List.append_assoc]
        cases i with
        | succ i => exact ih (i := i) (List.nodup_cons.mp nd).2 (by simpa using h1) (by simpa using h2) _
        | zero =>
          have e1 : p = x := by simpa using h1
          have e2 : v = u := by simpa using h2
          subst e1 e2
          have no : ∀ (l : List (Str × Value)) (r : List (Str × Value)), (∀ q ∈ l, q.1 ≠ p) → (l ++ r).lookup p = r.lookup p := by
            intro l
            induction l with
            | nil => intro r _; rfl
            | cons a l ih2 =>
              intro r hl
              have ha : (p == a.1) = false := beq_eq_false_iff_ne.mpr fun z => hl a List.mem_cons_self z.symm
              obtain ⟨a1, a2⟩ := a
              rw [List.cons_append]
              simp only [List.lookup]
              rw [ha]
              exact ih2 r fun q hq => hl q (List.mem_cons_of_mem _ hq)
          rw [no _ _ fun q hq z => ?_]
          · simp [List.lookup]
          · have hm := List.mem_reverse.mp hq
            exact (List.nodup_cons.mp nd).1 (by rw [← z]; exact (List.of_mem_zip (a := q.1) (b := q.2) hm).1)
  have := key nd h1 h2 []
  rwa [List.append_nil] at this
theorem one_cell {cc : Addr} {x : Str} {c : Addr} (h : ([((("__class__" : Str)), cc)] : List (Str × Addr)).lookup x = some c) : x = "__class__" ∧ c = cc := by
  by_cases e : x = "__class__"
  · subst e
    have h' : some cc = some c := by simpa [List.lookup] using h
    exact ⟨rfl, (Option.some.inj h').symm⟩
  · have hb : (x == ("__class__" : Str)) = false := beq_eq_false_iff_ne.mpr e
    simp only [List.lookup, hb] at h
    cases h
/-- what the written part says of the cell that holds the class D -/
def CellD (K : PySem.W.Frag) (cc D : Addr) : Prop := ∃ cl cld csl, K.lookup cc = some ⟨cl, cld, .cell (some (.ref D)), csl⟩
theorem inv_sup {us : List Value} {vs : List V} {h₁ : Heap} (S : SupScope ps scope) (c : CellD K cc D) (hd : A.handled = none) (e0 : Env0 P w K mg base A outer s H) (hl : vs.length = ps.length) (r : Vals vs us)
    (hns : h₁.Ns s.heap.objs.size fun x => (ps.zip us).reverse.lookup x) (kp : ∀ b o, s.heap.get? b = some o → h₁.get? b = some o) :
    Inv (cxS CX P w K mg base ps qual scope f cd cc A outer s H E) [] (vs.map some) H { s with heap := h₁, toks := s.toks + (ps.zip us).length } := by
  obtain ⟨cl, cld, csl, lc⟩ := c
  have bc : base.get? cc = some ⟨cl, cld, .cell (some (.ref D)), csl⟩ := e0.mod.kin _ _ lc
  obtain ⟨hc, nc⟩ := e0.bs _ _ bc
  have noA : ∀ b : Addr, b ∉ (cxS CX P w K mg base ps qual scope f cd cc A outer s H E).ex := fun b z => absurd (show b ∈ ([] : List Addr) from z) (by simp)
  refine ⟨⟨e0.mod, S.kind, rfl, rfl, Nat.le_refl _, fun y z c h1 h2 => ?_, fun y hy => ?_, fun y c z _ => ?_, fun _ => hd, Around.frames_deeper e0.frames, .inr ⟨rfl, rfl⟩, fun b z => absurd z (noA b), e0.bs, e0.bsz, fun b _ _ => noA b, fun b z => absurd z (noA b), e0.funs, e0.frf⟩,
    rfl, e0.bare, Un.kept kp, ⟨_, hns, fun i y v h1 h2 h3 => ?_⟩, fun y c h => ?_, e0.hok.fresh (Nat.le_refl _), fun y c h => ?_, fun p hp => absurd (show p ∈ ([] : List (Addr × Obj)) from hp) (by simp), e0.hok.kept kp, ?_⟩
  · exact (one_cell h1).1.trans (one_cell h2).1.symm
  · have hy' : scope.names.lookup y = some .cell ∨ scope.names.lookup y = some .free := hy
    rcases hy' with q | q
    · exact absurd rfl (S.nocell _ (PySem.mem_of_lookup q))
    · have e := S.free _ (PySem.mem_of_lookup q) rfl
      have e' : y = "__class__" := e
      subst e'
      exact ⟨cc, by show List.lookup _ [(("__class__" : Str), cc)] = _; simp [List.lookup]⟩
  · exact absurd (show false = true from z) Bool.false_ne_true
  · have ha : vs[i]? = some v := by
      rw [List.getElem?_map] at h2
      cases e : vs[i]? with
      | none => rw [e] at h2; cases h2
      | some a => rw [e] at h2; cases h2; rfl
    obtain ⟨u, hu, rv⟩ := r.get ha
    have hp : ps[i]? = some y := h1
    exact ⟨u, rv, .inl ⟨S.par y (List.mem_of_getElem? hp), zip_look S.nd hp hu⟩⟩
  · obtain ⟨_, e⟩ := one_cell h
    subst e
    exact ⟨_, _, kp _ _ hc, rfl⟩
  · obtain ⟨_, e⟩ := one_cell h
    subst e
    exact nc
  · rw [List.length_map]
    exact hl
/-- a def whose first statement calls super() -/
theorem fn_sup {name : Str} {params : Arguments} {st : Stmt} {rest : List Stmt} {dV kV doc pm ct oc : Value} {an od : Option Addr} {osl : Array (Option Value)} {sp : Sp}
    (lk : K.lookup f = some ⟨oc, od, .func (PySem.W.ksFn name qual params (st :: rest) scope dV kV doc pm an cd ct cc), osl⟩) (hcd : PySem.W.codeIn K cd qual = true) (S : SupScope ps scope) (c : CellD K cc D)
    (len : ∀ vs H Q E, sp vs H Q E → vs.length = ps.length)
    (hbody : ∀ (A : Around) (outer : List Env) (s : Shared) (H : Hp) (vs : List V) (Q : VK) (E : XK), Room k (A.deeper (supEnv qual scope s.heap.objs.size f cd cc)) → sp vs H Q E →
      ∃ (R : Hp → Prop) (t : TS), (∀ s1, Inv (cxS CX P w K mg base ps qual scope f cd cc A outer s H E) [] (vs.map some) H s1 →
          _root_.PySem.wpAt (model P w) (A.deeper (supEnv qual scope s.heap.objs.size f cd cc)) (.func (st :: rest) (supEnv qual scope s.heap.objs.size f cd cc)) (exec st (supEnv qual scope s.heap.objs.size f cd cc))
            (fun fl s' => fl = .next ∧ ∃ H', Inv (cxS CX P w K mg base ps qual scope f cd cc A outer s H E) [] (vs.map some) H' s' ∧ R H') (cxS CX P w K mg base ps qual scope f cd cc A outer s H E).xe s1) ∧
        PSs (cxS CX P w K mg base ps qual scope f cd cc A outer s H E) rest t ∧ ∀ H', R H' → t { nx := fun _ H' => Q .non H', rt := Q } (vs.map some) H') :
    FnOk P w K mg base CX (k + 1) f (PySem.W.ksFn name qual params (st :: rest) scope dV kV doc pm an cd ct cc) ps sp := by
  refine ⟨len, fun A outer s H args us vs Q E hr e0 hb r hsp => ?_⟩
  have hl := len _ _ _ _ hsp
  have KX : K.In s.heap := e0.mod.kin.keeps fun b o e => (e0.bs b o e).1
  have lim : s.heap.NoLimit := e0.mod.nolimit.keeps fun b o e => (e0.bs b o e).1
  refine ks_codeAny_call_defAt (fd := PySem.W.ksFn name qual params (st :: rest) scope dV kV doc pm an cd ct cc) (body := st :: rest) (binds := ps.zip us) hr.depth (KX _ _ lk) rfl lim (PySem.W.codeRec_of KX hcd) rfl hb S.nocell (fun y hy => ?_) (fun h₁ hns kp => ?_) S.co S.gen S.kind
  · obtain ⟨n, v⟩ := y
    exact S.par n (List.of_mem_zip hy).1
  · have I := inv_sup (CX := CX) (qual := qual) (f := f) (cd := cd) (E := E) S c hr.hd e0 hl r hns kp
    obtain ⟨R, t, h1, ht, h2⟩ := hbody A outer s H vs Q E (hr.deeper _) hsp
    refine ks_wpAt_execs_cons (_root_.PySem.wpAt_mono (h1 _ I) (fun fl s' hs => ?_) fun e s' he => he)
    obtain ⟨rfl, H', I', q⟩ := hs
    refine _root_.PySem.wpAt_of_wpAny (wpAny_mono (ht.run [] s' _ H' _ I' (h2 H' q)) (fun fl s'' hs => ?_) fun e s'' he => he)
    have fin : ∀ {σ' : L2.St} {H'' : Hp} {v : V} {u : Value}, Inv (cxS CX P w K mg base ps qual scope f cd cc A outer s H E) [] σ' H'' s'' → RelV v u → Q v H'' → CE outer P w H s Q u s'' :=
      fun {σ' H'' v u} J rv q => ⟨v, H'', J.os, J.bare, J.base, J.hok, rv, q⟩
    cases fl with
    | ret u =>
      obtain ⟨v, σ', H'', J, rv, q⟩ := hs
      exact fin J rv q
    | next =>
      obtain ⟨σ', H'', J, q⟩ := hs
      exact fin (v := V.non) (u := Value.none) J rfl q
    | brk =>
      obtain ⟨_, _, _, q⟩ := hs
      exact False.elim q
    | cont =>
      obtain ⟨_, _, _, q⟩ := hs
      exact False.elim q
end

/-! ### super() itself -/
/-- what the written part says of a def that closes over the class D, its code at ca, the cell at cc -/
structure SupK (P : Program) (K : PySem.W.Frag) (ca cc D : Addr) : Prop where
  code : ∃ ccl cdd vs ccs tf, K.lookup ca = some ⟨ccl, cdd, .fields vs, ccs⟩ ∧ vs[2]? = some (.str P.main.file tf)
  cell : CellD K cc D
  cls : ∃ cdD, PySem.W.clsIn K D = some cdD
  stat : PySem.W.nsIn K cStatics "thirdparty.any" = some none
  sup : PySem.W.nsIn K mainGlobals "super" = some none
section
variable {CX : CXT} {P : Program} {w : World} {K : PySem.W.Frag} {mg : Str → Option Value} {base : Heap} {ps : List Str} {qual name : Str} {scope : Scope} {f ca cc D C x : Addr} {A : Around} {outer : List Env} {s0 s : Shared} {H0 H : Hp} {E0 : XK} {σ : L2.St} {pins : List (Addr × Obj)}
  {fname self attr : Str} {params : Arguments} {st : Stmt} {rest : List Stmt} {dV kV doc pm ct oc : Value} {an od : Option Addr} {osl : Array (Option Value)} {whole : Sem Value} {p0 p1 : Pos} {ar : Arg} {ox : Obj} {odx : Option Obj}
theorem cls_there {h : Heap} {cdD : ClassData} (X : K.In h) (e : PySem.W.clsIn K D = some cdD) : ∃ oD, h.get? D = some oD ∧ oD.data = .cls cdD := by
  unfold PySem.W.clsIn at e
  split at e
  · rename_i c d cd' sl ho
    cases e
    exact ⟨_, X _ _ ho, rfl⟩
  · cases e
/-- the object super(): of the class D, bound to the instance at x -/
theorem sup_base {Q : Value → Shared → Prop} {E : Value → Shared → Prop} (T : SupK P K ca cc D)
    (lk : K.lookup f = some ⟨oc, od, .func (PySem.W.ksFn fname qual params (st :: rest) scope dV kV doc pm an (.ref ca) ct cc), osl⟩)
    (I : Inv (cxS CX P w K mg base ps qual scope f (.ref ca) cc A outer s0 H0 E0) pins σ H s) (hps : ps[0]? = some self) (hσ : σ[0]? = some (some (.ref x))) (hself : scope.names.lookup self = some .local)
    (hp : (params.posonlyargs ++ params.args).head? = some ar) (har : ar.arg = self) (J : PySem.W.InstAt s.heap x ox C odx) (hsub : PySem.W.mroIn K C (.ref D) = some true)
    (hks : scope.names.lookup ("super" : Str) = some .globalImplicit) (hkc : scope.names.lookup ("__class__" : Str) = some .free) (htop : (P.main.scope.names.lookup ("super" : Str)).isSome = false)
    (hat : (attr == ("__class__" : Str)) = false)
    (h : ∀ s', Inv (cxS CX P w K mg base ps qual scope f (.ref ca) cc A outer s0 H0 E0) ((s.heap.objs.size, PySem.W.ks_superObj D x C) :: pins) σ H s' → s'.heap.get? s.heap.objs.size = some (PySem.W.ks_superObj D x C) → (∀ b o, s.heap.get? b = some o → s'.heap.get? b = some o) → Q (.ref s.heap.objs.size) s') :
    _root_.PySem.wpAt (model P w) (A.deeper (supEnv qual scope s0.heap.objs.size f (.ref ca) cc)) (.func (st :: rest) (supEnv qual scope s0.heap.objs.size f (.ref ca) cc)) (attributeBase (.Call (.Name "super" p0) [] [] p1) attr (supEnv qual scope s0.heap.objs.size f (.ref ca) cc) whole) Q E s := by
  have X : K.In s.heap := I.kIn
  obtain ⟨ccl, cdd, vs, ccs, tf, hcode, hvs⟩ := T.code
  obtain ⟨cl, cld, csl, hcell⟩ := T.cell
  obtain ⟨cdD, hD⟩ := T.cls
  obtain ⟨oD, hD1, hD2⟩ := cls_there X hD
  obtain ⟨m, hn, hl⟩ := id I.loc
  obtain ⟨u, ru, lu⟩ := hl 0 self (.ref x) hps hσ (.inl hself)
  obtain rfl : u = Value.ref x := ru
  have hm : m self = some (.ref x) := by
    rcases lu with ⟨_, e⟩ | ⟨hk, _⟩
    · exact e
    · have e : (supEnv qual scope s0.heap.objs.size f (.ref ca) cc).kindOf self = some .local := hself
      rcases hk with k | k
      · rw [show (supEnv qual scope s0.heap.objs.size f (.ref ca) cc).kindOf self = some .cell from k] at e; cases e
      · rw [show (supEnv qual scope s0.heap.objs.size f (.ref ca) cc).kindOf self = some .free from k] at e; cases e
  subst har
  obtain ⟨hh, g, d, t, os⟩ := s
  refine ks_wpAt_super_base (env := supEnv qual scope s0.heap.objs.size f (.ref ca) cc) hks hkc hat rfl (X _ _ lk) rfl hp rfl (X _ _ hcode) rfl hvs (by simp) htop ?_
  obtain ⟨mb, hb1, hb2⟩ := I.mod.blt
  have kind : scope.kind = .function := I.ok.kind
  refine PySem.W.ks_loadName_global kind hks (Calls.loadGlobal_builtin (env := supEnv qual scope s0.heap.objs.size f (.ref ca) cc) (I.mod.glob.keeps I.bk) (PySem.W.mg_none_of I.mod.kin I.mod.glob T.sup) (hb1.keeps I.bk) ((hb2 _ (by decide +kernel)).trans PyProof.Rows.Boot.«super») ⟨rfl, ?_⟩)
  refine wpAny_loadName_free kind hkc rfl ⟨_, X _ _ hcell, rfl⟩ ?_
  refine wpAny_loadName_local kind hself hn hm ?_
  refine ks_wpAny_isType_cls hD1 hD2 ⟨rfl, ?_⟩
  refine ks_wpAny_call_super hD1 hD2 J.at_ J.cls (fun c e => ?_) (PySem.W.looks_mroIn X hsub) (fun h' e k => ?_)
  · have z := J.no
    unfold PySem.W.notCls at z
    rw [e] at z
    exact Bool.noConfusion z
  · exact h _ (ClX.pin_new (t' := t) I k (Nat.le_refl _) e fun v z => nomatch z) e k
/-- super().m(e, ..) as a statement, m a def of a class behind D -/
theorem sup_meth {pl : Sem Bool} {k : Nat} {f2 : Addr} {sp : Sp} {E : XK} {t : TA} {R : Hp → Prop} {e : Expr} {es : List Expr} {p2 p3 p4 : Pos} {dx : Addr} {fs : List (Str × V)} (T : SupK P K ca cc D)
    (lk : K.lookup f = some ⟨oc, od, .func (PySem.W.ksFn fname qual params (st :: rest) scope dV kV doc pm an (.ref ca) ct cc), osl⟩)
    (I : Inv (cxS CX P w K mg base ps qual scope f (.ref ca) cc A outer s0 H0 E0) [] σ H s) (hps : ps[0]? = some self) (hσ : σ[0]? = some (some (.ref x))) (hself : scope.names.lookup self = some .local)
    (hp : (params.posonlyargs ++ params.args).head? = some ar) (har : ar.arg = self) (hx : H x = some (.ins C dx fs)) (hsub : PySem.W.mroIn K C (.ref D) = some true)
    (hks : scope.names.lookup ("super" : Str) = some .globalImplicit) (hkc : scope.names.lookup ("__class__" : Str) = some .free) (htop : (P.main.scope.names.lookup ("super" : Str)).isSome = false)
    (hat : (attr == ("__class__" : Str)) = false) (hm : PySem.W.ks_superIn K C D attr = some (some (.ref f2))) (hf2 : PySem.W.fnIn K f2 = true) (ht2 : PySem.W.typeIn K (.ref f2) = some (.type "function"))
    (F : FnR P w K mg base CX k f2 sp) (hr : Room k (A.deeper (supEnv qual scope s0.heap.objs.size f (.ref ca) cc))) (hpass : Passes CX (cxS CX P w K mg base ps qual scope f (.ref ca) cc A outer s0 H0 E0) E)
    (ha : PA (cxS CX P w K mg base ps qual scope f (.ref ca) cc A outer s0 H0 E0) (e :: es) t)
    (q : t σ H fun vs H2 => sp (.ref x :: vs) H2 (fun _ H3 => R H3) E)
    (hst : starEach (e :: es) (supEnv qual scope s0.heap.objs.size f (.ref ca) cc) = (false, eval e (supEnv qual scope s0.heap.objs.size f (.ref ca) cc)) :: starEach es (supEnv qual scope s0.heap.objs.size f (.ref ca) cc) := by rfl)
    (hpl : (backTo p3 (starEach es (supEnv qual scope s0.heap.objs.size f (.ref ca) cc))).any (·.1) = false := by rfl)
    (hsw : swapsWith (.Call (.Attribute (.Call (.Name "super" p0) [] [] p1) attr p2) (e :: es) [] p3) none p4.line (supEnv qual scope s0.heap.objs.size f (.ref ca) cc) = pure false := by rfl)
    (hcall : eval (.Call (.Attribute (.Call (.Name "super" p0) [] [] p1) attr p2) (e :: es) [] p3) (supEnv qual scope s0.heap.objs.size f (.ref ca) cc) = (do
      let ov ← attributeBase (.Call (.Name "super" p0) [] [] p1) attr (supEnv qual scope s0.heap.objs.size f (.ref ca) cc) (eval (.Call (.Name "super" p0) [] [] p1) (supEnv qual scope s0.heap.objs.size f (.ref ca) cc))
      standAt p2.atName
      let (g, first) ← holding [ov] (getMethod ov attr pl)
      callWith p3 g first (backTo p3 (starEach (e :: es) (supEnv qual scope s0.heap.objs.size f (.ref ca) cc))) []) := by rfl) :
    _root_.PySem.wpAt (model P w) (A.deeper (supEnv qual scope s0.heap.objs.size f (.ref ca) cc)) (.func (st :: rest) (supEnv qual scope s0.heap.objs.size f (.ref ca) cc))
      (exec (.Expr (.Call (.Attribute (.Call (.Name "super" p0) [] [] p1) attr p2) (e :: es) [] p3) p4) (supEnv qual scope s0.heap.objs.size f (.ref ca) cc))
      (fun fl s' => fl = .next ∧ ∃ H', Inv (cxS CX P w K mg base ps qual scope f (.ref ca) cc A outer s0 H0 E0) [] σ H' s' ∧ R H') (cxS CX P w K mg base ps qual scope f (.ref ca) cc A outer s0 H0 E0).xe s := by
  have X : K.In s.heap := I.kIn
  obtain ⟨mA, O, _, _, _, _⟩ := ins_get I.hok hx
  obtain ⟨ob, J, _⟩ := O.look
  obtain ⟨cdD, hD⟩ := T.cls
  refine ks_wpAt_Expr_any ?_ I.quiet hsw
  refine ks_wpAt_MethodCall ?_ hcall
  refine sup_base T lk I hps hσ hself hp har J hsub hks hkc htop hat fun s1 I1 hso kp => ?_
  obtain ⟨of2, hof, hofc⟩ : ∃ of2, s1.heap.get? f2 = some of2 ∧ of2.cls = .type "function" := by
    have z : (K.lookup f2).map (·.cls) = some (.type "function") := ht2
    cases y : K.lookup f2 with
    | none => rw [y] at z; cases z
    | some of2 => rw [y] at z; exact ⟨of2, I1.kIn _ _ y, Option.some.inj z⟩
  have JC := J.at_
  cases hc : PySem.W.clsIn K C with
  | none => unfold PySem.W.ks_superIn at hm; rw [hc] at hm; cases hm
  | some cd =>
    unfold PySem.W.ks_superIn at hm
    rw [hc] at hm
    have hxC : x ≠ C := PySem.W.ks_ne (h := s.heap) X J hc
    obtain ⟨hh, g, d, tk, os⟩ := s1
    refine ks_wpAny_getMethod_super hso (PySem.W.looks_opaque I1.kIn T.stat) (l₀ := cd.mro) (fun A Q E s k q => wpAny_bind ((PySem.W.looks_clsIn I1.kIn hc) A _ E s k (wpAny_pure q))) rfl I1.kIn hm hof hofc hxC hat ?_
    have I2 := ClX.met_new (g := f2) (C := x) I1
    refine ClX.callwith_cm (g := f2) (C := x) I2 (ClX.base_none I1 (Nat.le_refl _)) hf2 (thn (ha.run p3 _ _ σ H _ I2 q) fun us s3 ⟨vs, H2, I3, rv, q2⟩ => ⟨⟨ClX.pin_at I3, I3.kIn⟩, ?_⟩) hst hpl
    refine thn (ClX.run_cm F hr hpass I3 rv q2) fun v s4 ⟨_, H3, I4, _, q3⟩ => ?_
    exact ⟨rfl, H3, ClX.unpin I4, q3⟩
/-- ValueError.__init__ bound to an exception that is being made, called -/
theorem call_mw {w0 : World} {A0 : Around} {E1 : Value → Shared → Prop} {X : Cx} {pins : List (Addr × Obj)} {σ : L2.St} {H : Hp} {s : Shared} {u a Ca : Addr} {us : List Value} {Q : Value → Shared → Prop} (T : OexC X.K Ca) (I : Inv X pins σ H s) (e : H a = some (exo a Ca none))
    (hu : s.heap.get? u = some (PySem.W.kxs_mw "ValueError.__init__" a)) (hl : us.length ≤ sizeLine) (h : ∀ s', Inv X pins σ H s' → Q .none s') : wpAny (model X.prog X.w) A0 (call (.ref u) us) Q E1 s := by
  obtain ⟨nm, q, N, bs, bm, sn, sub, ab, col, dd, k0, k1, k2, k3, k5, hC, hbm⟩ := T.cls
  obtain ⟨t1, ho⟩ := exo_at I.hok e
  have hC1 := I.kIn _ _ hC
  have back : ∀ h' : Heap, (∀ b o, b ≠ a → s.heap.get? b = some o → h'.get? b = some o) → h'.get? a = some (PySem.W.excObj Ca s.heap.objs.size none .none) → Q .none { s with heap := h' } := fun h' k hx => by
    have J := I.write (t' := s.toks) (x := a) (e := a) (o := exo a Ca none) (by rw [e]; exact True.intro) (.inl rfl) k ⟨_, hx⟩ (exo_ok hx)
    have eu : upd H a (exo a Ca none) = H := funext fun b => by
      by_cases hb : b = a
      · rw [hb, upd_same, e]
      · rw [upd_ne hb]
    rw [eu] at J
    exact h _ J
  obtain ⟨hp, g, d, t, os⟩ := s
  have two : (Value.type "method-wrapper" == Value.type "method" || Value.type "method-wrapper" == Value.type "builtin_function_or_method" || Value.type "method-wrapper" == Value.type "method-wrapper") = true := by decide
  refine wpAny_call (codeAny_of_tree ?_)
  show wpAny _ A0.in1 (callAny (.ref u) ⟨us, []⟩) _ _ _
  unfold callAny
  refine wpAny_bind (wpAny_load hu ?_)
  simp only [PySem.W.kxs_mw, two, if_true]
  refine PySem.W.KFB.if_so (by decide) (wpAny_bind (PySem.W.check_bound_init PySem.F.excBase_ValueError.toExcCallFacts hC1 ho rfl ?_))
  refine wpAny_bind (wpAny_pure (wpAny_pure ⟨plainId_quiet PySem.F.excBase_ValueError.init.plain _, codeAny_builtin PySem.F.excBase_ValueError.initEntry ?_⟩))
  exact PySem.W.exc_init_tree (cls := .ref Ca) (t0 := t1) (dv := none) (c2 := .none) (c3 := .none) (b4 := .bool false) ho hl fun h' k1 k2 _ => back h' k1 k2
/-- super().__init__(e, ..) as a statement, in an own exception over ValueError -/
theorem sup_exc {pl : Sem Bool} {t : TA} {R : Hp → Prop} {e : Expr} {es : List Expr} {p2 p3 p4 : Pos} (T : SupK P K ca cc D) (O : OexC K C)
    (lk : K.lookup f = some ⟨oc, od, .func (PySem.W.ksFn fname qual params (st :: rest) scope dV kV doc pm an (.ref ca) ct cc), osl⟩)
    (I : Inv (cxS CX P w K mg base ps qual scope f (.ref ca) cc A outer s0 H0 E0) [] σ H s) (hps : ps[0]? = some self) (hσ : σ[0]? = some (some (.ref x))) (hself : scope.names.lookup self = some .local)
    (hp : (params.posonlyargs ++ params.args).head? = some ar) (har : ar.arg = self) (hx : H x = some (exo x C none)) (hsub : PySem.W.mroIn K C (.ref D) = some true)
    (hks : scope.names.lookup ("super" : Str) = some .globalImplicit) (hkc : scope.names.lookup ("__class__" : Str) = some .free) (htop : (P.main.scope.names.lookup ("super" : Str)).isSome = false)
    (hm : PySem.W.ks_superIn K C D "__init__" = some (some (.builtin "ValueError.__init__"))) (hB : PySem.W.subIn K (.ref C) (.type "ValueError") = some true)
    (ha : PA (cxS CX P w K mg base ps qual scope f (.ref ca) cc A outer s0 H0 E0) (e :: es) t)
    (q : t σ H fun vs H2 => vs.length ≤ 1000 ∧ H2 x = some (exo x C none) ∧ R H2)
    (hst : starEach (e :: es) (supEnv qual scope s0.heap.objs.size f (.ref ca) cc) = (false, eval e (supEnv qual scope s0.heap.objs.size f (.ref ca) cc)) :: starEach es (supEnv qual scope s0.heap.objs.size f (.ref ca) cc) := by rfl)
    (hpl : (backTo p3 (starEach es (supEnv qual scope s0.heap.objs.size f (.ref ca) cc))).any (·.1) = false := by rfl)
    (hsw : swapsWith (.Call (.Attribute (.Call (.Name "super" p0) [] [] p1) "__init__" p2) (e :: es) [] p3) none p4.line (supEnv qual scope s0.heap.objs.size f (.ref ca) cc) = pure false := by rfl)
    (hcall : eval (.Call (.Attribute (.Call (.Name "super" p0) [] [] p1) "__init__" p2) (e :: es) [] p3) (supEnv qual scope s0.heap.objs.size f (.ref ca) cc) = (do
      let ov ← attributeBase (.Call (.Name "super" p0) [] [] p1) "__init__" (supEnv qual scope s0.heap.objs.size f (.ref ca) cc) (eval (.Call (.Name "super" p0) [] [] p1) (supEnv qual scope s0.heap.objs.size f (.ref ca) cc))
      standAt p2.atName
      let (g, first) ← holding [ov] (getMethod ov "__init__" pl)
      callWith p3 g first (backTo p3 (starEach (e :: es) (supEnv qual scope s0.heap.objs.size f (.ref ca) cc))) []) := by rfl) :
    _root_.PySem.wpAt (model P w) (A.deeper (supEnv qual scope s0.heap.objs.size f (.ref ca) cc)) (.func (st :: rest) (supEnv qual scope s0.heap.objs.size f (.ref ca) cc))
      (exec (.Expr (.Call (.Attribute (.Call (.Name "super" p0) [] [] p1) "__init__" p2) (e :: es) [] p3) p4) (supEnv qual scope s0.heap.objs.size f (.ref ca) cc))
      (fun fl s' => fl = .next ∧ ∃ H', Inv (cxS CX P w K mg base ps qual scope f (.ref ca) cc A outer s0 H0 E0) [] σ H' s' ∧ R H') (cxS CX P w K mg base ps qual scope f (.ref ca) cc A outer s0 H0 E0).xe s := by
  have X : K.In s.heap := I.kIn
  obtain ⟨t1, ho⟩ := exo_at I.hok hx
  have J : PySem.W.InstAt s.heap x { cls := .ref C, dict := none, data := .fields #[.ref t1, .none, .none, .none, .bool false, .none] } C none := ⟨ho, rfl, rfl, trivial⟩
  refine ks_wpAt_Expr_any ?_ I.quiet hsw
  refine ks_wpAt_MethodCall ?_ hcall
  refine sup_base T lk I hps hσ hself hp har J hsub hks hkc htop (by decide) fun s1 I1 hso kp => ?_
  have J1 : PySem.W.InstAt s1.heap x { cls := .ref C, dict := none, data := .fields #[.ref t1, .none, .none, .none, .bool false, .none] } C none := ⟨kp _ _ ho, rfl, rfl, trivial⟩
  cases hc : PySem.W.clsIn K C with
  | none => unfold PySem.W.ks_superIn at hm; rw [hc] at hm; cases hm
  | some cd =>
    unfold PySem.W.ks_superIn at hm
    rw [hc] at hm
    have hxC : x ≠ C := PySem.W.ks_ne (h := s.heap) X J hc
    have hI : PySem.W.Looks (model P w) s1.heap (isInstance (.ref x) (.type "ValueError")) true := J1.type.andThen (PySem.W.looks_subIn I1.kIn hB)
    obtain ⟨hh, g, d, tk, os⟩ := s1
    refine PySem.W.kxs_getMethod PySem.W.kxs_ValueError hso (PySem.W.looks_opaque I1.kIn T.stat) (l₀ := cd.mro) (fun A Q E s k q => wpAny_bind ((PySem.W.looks_clsIn I1.kIn hc) A _ E s k (wpAny_pure q))) rfl I1.kIn hm hI hxC (by decide) ?_
    have I2 := ClX.pin_new (o := PySem.W.kxs_mw "ValueError.__init__" x) (h' := hh.push (PySem.W.kxs_mw "ValueError.__init__" x)) (a := hh.objs.size) (t' := tk + 1) I1 (fun _ _ z => Heap.get?_push_of_some _ z) (Nat.le_refl _) (Heap.get?_push_size hh rfl) (fun v z => nomatch z)
    have run := ha.run p3 _ _ σ H _ I2 q
    rw [show starEach (e :: es) (cxS CX P w K mg base ps qual scope f (.ref ca) cc A outer s0 H0 E0).env = _ from hst] at run
    rw [hst]
    refine PySem.W.kxs_callWith (i := "ValueError.__init__") (x := x) (by show (false || (backTo p3 (starEach es (supEnv qual scope s0.heap.objs.size f (.ref ca) cc))).any (·.1)) = false; rw [hpl]; rfl) (Calls.evalArgs_plain ?_)
    refine thn run fun us s3 ⟨vs, H2, I3, rv, hlen, hx2, q2⟩ => ⟨ClX.pin_at I3, ?_⟩
    have hus : us.length ≤ sizeLine := by
      rw [← Paired.length rv, sizeLine_eq]
      omega
    refine call_mw (w0 := w) O I3 hx2 (ClX.pin_at I3) hus fun s4 I4 => ?_
    exact ⟨rfl, H2, ClX.unpin (ClX.unpin I4), q2⟩
end
end K68R
/-! What is looked at behind the top, and what it says. -/
namespace K68K
open PySem PySem.Spec PyProof.Rows L2 K68R

/-! ### defs, with or without the class cell -/
abbrev FnZ : Type := Option (Str × Str × Arguments × FuncBody × Scope × Addr × List Str × Addr)
def fnZ (K : PySem.W.Frag) (a : Addr) : FnZ := match K.lookup a with
  | some ⟨_, _, .func fd, _⟩ => some (fd.name, fd.qualname, fd.params, fd.body, fd.scope, fd.globals, fd.closure.map (·.1), fd.builtins)
  | _ => none
structure DefZ where
  at_ : PySem.W.Frag → Addr
  name : Str
  qual : Str
  stmt : Stmt
  cl : List Str := []
  dfl : List He.Dv := []
def DefZ.val (d : DefZ) : FnZ := some (d.name, d.qual, defArgs d.stmt, .stmts (defBody d.stmt), defScope d.stmt, mainGlobals, d.cl, builtinsNs)
def DefZ.dvs (K : PySem.W.Frag) (d : DefZ) : List V := d.dfl.map (He.Dv.v K)
def DefZ.ok (K : PySem.W.Frag) (d : DefZ) : Bool := PySem.W.keepIn K (.ref (d.at_ K)) && (match K.lookup (d.at_ K) with
  | some ⟨_, _, .func fd, _⟩ => PySem.W.codeIn K fd.code d.qual && He.dflB K fd.defaults (d.dvs K)
  | _ => false)
theorem DefZ.parts {K : PySem.W.Frag} {d : DefZ} (e : fnZ K (d.at_ K) = d.val) (c : d.ok K = true) : PySem.W.keepIn K (.ref (d.at_ K)) = true ∧
    ∃ oc od osl cl dV kV doc pm an cdv ct, K.lookup (d.at_ K) = some ⟨oc, od, .func (PySem.W.fnX d.name d.qual (defArgs d.stmt) (defBody d.stmt) (defScope d.stmt) cl dV kV doc pm an cdv ct), osl⟩ ∧ cl.map (·.1) = d.cl ∧ PySem.W.codeIn K cdv d.qual = true ∧ DflV K dV (d.dvs K) := by
  obtain ⟨kp, c2⟩ := He.ba c
  refine ⟨kp, ?_⟩
  unfold fnZ at e
  cases q : K.lookup (d.at_ K) with
  | none =>
    rw [q] at c2
    cases c2
  | some o =>
    obtain ⟨oc, od, dt, osl⟩ := o
    rw [q] at c2 e
    cases dt with
    | func fd =>
      obtain ⟨n1, n2, n3, n4, n5, n6, n7, n8, n9, n10, n11, n12, n13, n14, n15⟩ := fd
      have e2 : (some (n1, n2, n3, n4, n5, n6, n7.map (·.1), n15) : FnZ) = some (d.name, d.qual, defArgs d.stmt, .stmts (defBody d.stmt), defScope d.stmt, mainGlobals, d.cl, builtinsNs) := e
      simp only [Option.some.injEq, Prod.mk.injEq] at e2
      obtain ⟨h1, h2, h3, h4, h5, h6, h7, h8⟩ := e2
      subst h1 h2 h3 h4 h5 h6 h8
      obtain ⟨k1, k2⟩ := He.ba (show (PySem.W.codeIn K n13 d.qual && He.dflB K n8 (d.dvs K)) = true from c2)
      exact ⟨oc, od, osl, n7, n8, n9, n10, n11, n12, n13, n14, rfl, h7, k1, He.dflB_ok k2⟩
    | _ => cases c2
theorem DefZ.funD {K : PySem.W.Frag} {d : DefZ} (e : fnZ K (d.at_ K) = d.val) (c : d.ok K = true) (hcl : d.cl = []) : ∃ fd, FunD K d.name d.qual (defArgs d.stmt) (defBody d.stmt) (defScope d.stmt) (d.dvs K) [] (d.at_ K) fd := by
  obtain ⟨kp, oc, od, osl, cl, dV, kV, doc, pm, an, cdv, ct, lk, h1, h2, h3⟩ := DefZ.parts e c
  rw [hcl, List.map_eq_nil_iff] at h1
  subst h1
  exact ⟨_, ⟨oc, od, dV, kV, doc, pm, an, cdv, ct, osl, rfl, lk, h2, h3, .inl rfl⟩, kp⟩
/-- a def that closes over the class D, as it stands behind the top -/
structure FunC (P : Program) (K : PySem.W.Frag) (x qual : Str) (st : Stmt) (dvs : List V) (f D : Addr) (fd : FuncData) : Prop where
  ex : ∃ (oc : Value) (od : Option Addr) (dV kV doc pm : Value) (an : Option Addr) (ca : Addr) (ct : Value) (cc : Addr) (osl : Array (Option Value)),
    fd = PySem.W.ksFn x qual (defArgs st) (defBody st) (defScope st) dV kV doc pm an (.ref ca) ct cc ∧ K.lookup f = some ⟨oc, od, .func fd, osl⟩ ∧ PySem.W.codeIn K (.ref ca) qual = true ∧ DflV K dV dvs ∧ SupK P K ca cc D
  kp : PySem.W.keepIn K (.ref f) = true
def isFile (file : Str) : Option Value → Bool
  | some (.str z _) => decide (z = file)
  | _ => false
theorem isFile_ok {file : Str} {v : Option Value} (h : isFile file v = true) : ∃ t, v = some (.str file t) := by
  cases v with
  | none => cases h
  | some v =>
    cases v with
    | str z t =>
      have e : z = file := of_decide_eq_true h
      exact ⟨t, by rw [e]⟩
    | _ => cases h
/-- the def at a closes over the class D -/
def supB (K : PySem.W.Frag) (file : Str) (a D : Addr) : Bool := (match K.lookup a with
  | some ⟨_, _, .func fd, _⟩ => (match fd.code, fd.closure with
    | .ref ca, [(_, cc)] => (match K.lookup ca with
        | some ⟨_, _, .fields vs, _⟩ => isFile file vs[2]?
        | _ => false) && (match K.lookup cc with
        | some ⟨_, _, .cell (some (.ref D')), _⟩ => decide (D' = D)
        | _ => false)
    | _, _ => false)
  | _ => false) && ((PySem.W.clsIn K D).isSome && (He.eqO (PySem.W.nsIn K cStatics "thirdparty.any") (some none) && He.eqO (PySem.W.nsIn K mainGlobals "super") (some none)))
theorem supB_ok {P : Program} {K : PySem.W.Frag} {a D ca cc : Addr} {oc : Value} {od : Option Addr} {osl : Array (Option Value)} {fd : FuncData} {z : Str} (h : supB K P.main.file a D = true) (lk : K.lookup a = some ⟨oc, od, .func fd, osl⟩) (h1 : fd.code = .ref ca) (h2 : fd.closure = [(z, cc)]) : SupK P K ca cc D := by
  obtain ⟨k1, k2⟩ := He.ba h
  obtain ⟨k3, k4⟩ := He.ba k2
  obtain ⟨k5, k6⟩ := He.ba k4
  rw [lk] at k1
  simp only [h1, h2] at k1
  obtain ⟨j1, j2⟩ := He.ba k1
  refine ⟨?_, ?_, Option.isSome_iff_exists.mp k3, He.eqO_ok k5, He.eqO_ok k6⟩
  · cases q : K.lookup ca with
    | none =>
      rw [q] at j1
      cases j1
    | some o =>
      obtain ⟨oc, od, dt, osl⟩ := o
      rw [q] at j1
      cases dt with
      | fields vs =>
        obtain ⟨t, q2⟩ := isFile_ok j1
        exact ⟨_, _, vs, _, t, rfl, q2⟩
      | _ => cases j1
  · cases q : K.lookup cc with
    | none =>
      rw [q] at j2
      cases j2
    | some o =>
      obtain ⟨oc, od, dt, osl⟩ := o
      rw [q] at j2
      cases dt with
      | cell v =>
        cases v with
        | none => cases j2
        | some v =>
          cases v with
          | ref D' =>
            have e : D' = D := of_decide_eq_true j2
            rw [e] at q
            exact ⟨_, _, _, q⟩
          | _ => cases j2
      | _ => cases j2
theorem DefZ.funC {P : Program} {K : PySem.W.Frag} {d : DefZ} {D : Addr} {z : Str} (e : fnZ K (d.at_ K) = d.val) (c : d.ok K = true) (hcl : d.cl = [z]) (hz : z = "__class__") (h : supB K P.main.file (d.at_ K) D = true) : ∃ fd, FunC P K d.name d.qual d.stmt (d.dvs K) (d.at_ K) D fd := by
  obtain ⟨kp, oc, od, osl, cl, dV, kV, doc, pm, an, cdv, ct, lk, h1, h2, h3⟩ := DefZ.parts e c
  rw [hcl] at h1
  cases cl with
  | nil => cases h1
  | cons q r =>
    cases r with
    | cons _ _ => cases h1
    | nil =>
      obtain ⟨q1, cc⟩ := q
      have eq : q1 = z := by
        have h1' : [q1] = [z] := h1
        injection h1'
      subst eq
      subst hz
      obtain ⟨ca, rfl⟩ := He.codeIn_ref h2
      exact ⟨_, ⟨oc, od, dV, kV, doc, pm, an, ca, ct, cc, osl, rfl, lk, h2, h3, supB_ok h lk rfl rfl⟩, kp⟩

/-! ### more facts -/
/-- the property f of the class x: its object, its getter -/
def propAt (x f : Str) (K : PySem.W.Frag) : Addr := He.ma K (He.ga K x) f
def getAt (x f : Str) (K : PySem.W.Frag) : Addr := match PySem.W.recIn K (propAt x f K) "property" with
  | some (.ref g :: _) => g
  | _ => 0
def propB (K : PySem.W.Frag) (x f : Str) : Bool := He.eqO (PySem.W.findIn K (.ref (He.ga K x)) f) (some (some (.ref (propAt x f K)))) && (He.eqO (PySem.W.specialIn K (.ref (propAt x f K)) "__get__") (some (some (.builtin "property.__get__"))) &&
  (decide (PySem.W.takesIn K (.ref (propAt x f K)) = some true) && (match PySem.W.recIn K (propAt x f K) "property" with
    | some (.ref _ :: _) => true
    | _ => false)))
theorem propB_ok {K : PySem.W.Frag} {x f : Str} (h : propB K x f = true) : PropOf K (He.ga K x) f (propAt x f K) (getAt x f K) := by
  obtain ⟨k1, k2⟩ := He.ba h
  obtain ⟨k3, k4⟩ := He.ba k2
  obtain ⟨k5, k6⟩ := He.ba k4
  refine ⟨He.eqO_ok k1, He.eqO_ok k3, of_decide_eq_true k5, ?_⟩
  unfold getAt
  cases q : PySem.W.recIn K (propAt x f K) "property" with
  | none =>
    rw [q] at k6
    cases k6
  | some l =>
    rw [q] at k6
    cases l with
    | nil => cases k6
    | cons v r =>
      cases v with
      | ref g => exact ⟨r, rfl⟩
      | _ => cases k6
/-- instances of x may be called -/
def callB (K : PySem.W.Frag) (x : Str) : Bool := He.eqO (PySem.W.findIn K (.ref (He.ga K x)) "__call__") (some (some (.ref (He.ma K (He.ga K x) "__call__")))) && (PySem.W.isFn K (.ref (He.ma K (He.ga K x) "__call__")) && PySem.W.fnIn K (He.ma K (He.ga K x) "__call__"))
theorem callB_ok {K : PySem.W.Frag} {x : Str} (h : callB K x = true) : StX.CallO K (He.ga K x) (He.ma K (He.ga K x) "__call__") := by
  obtain ⟨k1, k2⟩ := He.ba h
  obtain ⟨k3, k4⟩ := He.ba k2
  exact ⟨He.eqO_ok k1, k3, k4⟩
/-- the class x finds m behind the class y as the def at a -/
def upB (K : PySem.W.Frag) (x y m : Str) (a : Addr) : Bool := He.eqO (PySem.W.ks_superIn K (He.ga K x) (He.ga K y) m) (some (some (.ref a))) && (decide (PySem.W.mroIn K (He.ga K x) (.ref (He.ga K y)) = some true) && (PySem.W.fnIn K a && decide (PySem.W.typeIn K (.ref a) = some (.type "function"))))
theorem upB_ok {K : PySem.W.Frag} {x y m : Str} {a : Addr} (h : upB K x y m a = true) : PySem.W.ks_superIn K (He.ga K x) (He.ga K y) m = some (some (.ref a)) ∧ PySem.W.mroIn K (He.ga K x) (.ref (He.ga K y)) = some true ∧ PySem.W.fnIn K a = true ∧ PySem.W.typeIn K (.ref a) = some (.type "function") := by
  obtain ⟨k1, k2⟩ := He.ba h
  obtain ⟨k3, k4⟩ := He.ba k2
  obtain ⟨k5, k6⟩ := He.ba k4
  exact ⟨He.eqO_ok k1, of_decide_eq_true k3, k5, of_decide_eq_true k6⟩
/-- the own exception x over ValueError with an __init__ of its own that calls super's -/
def oexB (K : PySem.W.Frag) (x : Str) : Bool := (match K.lookup (He.ga K x) with
  | some ⟨.type "type", _, .cls cd, sl⟩ => (match cd.mro, sl.toList with
    | .ref C' :: bm, [_, _, _, _, some (.builtin n), _] => decide (C' = He.ga K x) && (decide (n = "ValueError.__new__") && (!cd.hasDel && (cd.hasDict && PySem.HandSPX.refsVE bm)))
    | _, _ => false)
  | _ => false) && (He.eqO (PySem.W.findIn K (.ref (He.ga K x)) "__setattr__") (some (some (.builtin "object.__setattr__"))) && (decide (PySem.W.subIn K (.ref (He.ga K x)) (.type "BaseException") = some true) &&
    (decide (PySem.W.typeIn K (.ref (He.ga K x)) = some (.type "type")) && PySem.W.keepIn K (.ref (He.ga K x)))))
theorem oexB_ok {K : PySem.W.Frag} {x : Str} (h : oexB K x = true) : OexC K (He.ga K x) := by
  obtain ⟨k1, k2⟩ := He.ba h
  obtain ⟨k3, k4⟩ := He.ba k2
  obtain ⟨k5, k6⟩ := He.ba k4
  obtain ⟨k7, k8⟩ := He.ba k6
  refine ⟨?_, He.eqO_ok k3, of_decide_eq_true k5, of_decide_eq_true k7, k8⟩
  split at k1
  · rename_i dd cd sl ho
    split at k1
    · rename_i C' bm k0 k1' k2' k3' n k5' hm hs
      obtain ⟨j1, j2⟩ := He.ba k1
      obtain ⟨j3, j4⟩ := He.ba j2
      obtain ⟨j5, j6⟩ := He.ba j4
      obtain ⟨j7, j8⟩ := He.ba j6
      have e1 : C' = He.ga K x := of_decide_eq_true j1
      have e2 : n = "ValueError.__new__" := of_decide_eq_true j3
      have e3 : cd.hasDel = false := by simpa using j5
      obtain ⟨nm, bs, mro, ns, qn, hd, sn, sub, ab, col, del⟩ := cd
      dsimp only at hm e3 j7
      subst hm e3 j7 e1 e2
      have hsl : sl = #[k0, k1', k2', k3', some (.builtin "ValueError.__new__"), k5'] := by
        obtain ⟨l⟩ := sl
        simp only at hs
        rw [hs]
      subst hsl
      exact ⟨nm, qn, ns, bs, bm, sn, sub, ab, col, dd, k0, k1', k2', k3', k5', ho, j8⟩
    · cases k1
  · cases k1
/-- isinstance of the caught errors of the class x -/
def excCB (K : PySem.W.Frag) (x : Str) : Bool := He.eqO (PySem.W.findIn K (.ref (He.ga K x)) "__getattribute__") (some (some (.builtin "BaseException.__getattribute__"))) && (He.eqO (PySem.W.findIn K (.ref (He.ga K x)) "__getattr__") (some none) &&
  (decide (PySem.W.subIn K (.ref (He.ga K x)) (.type "BaseException") = some true) && (PySem.W.hasDictIn K (He.ga K x) && (He.eqO (PySem.W.findIn K (.ref (He.ga K x)) "__class__") (some (some (.builtin "object.__class__"))) &&
  (He.eqO (PySem.W.specialIn K (.builtin "object.__class__") "__get__") (some (some (.builtin "getset_descriptor.__get__"))) && (decide (PySem.W.takesIn K (.builtin "object.__class__") = some true) && decide (PySem.W.mroIn K (He.ga K x) (.type "object") = some true)))))))
theorem excCB_ok {K : PySem.W.Frag} {x : Str} (h : excCB K x = true) : ExcC K (He.ga K x) := by
  obtain ⟨k1, h⟩ := He.ba h
  obtain ⟨k2, h⟩ := He.ba h
  obtain ⟨k3, h⟩ := He.ba h
  obtain ⟨k4, h⟩ := He.ba h
  obtain ⟨k5, h⟩ := He.ba h
  obtain ⟨k6, h⟩ := He.ba h
  obtain ⟨k7, k8⟩ := He.ba h
  exact ⟨He.eqO_ok k1, He.eqO_ok k2, of_decide_eq_true k3, k4, He.eqO_ok k5, He.eqO_ok k6, of_decide_eq_true k7, of_decide_eq_true k8⟩

/-! ### the Hook -/
abbrev AlZ : Type := Bool × List FnZ
def asZ (g : Addr → Option Obj) (n : Nat) : List Addr := cStatics :: He.asD g n
def obsZ (n : Nat) (fa : List He.Fa) (fn : List DefZ) (tf : List He.Defn) (ex : List (PySem.W.Frag → Bool)) (g : Addr → Option Obj) : AlZ :=
  ((fa.all fun f => f.ok (He.frT g (asZ g n))) && ((fn.all fun d => d.ok (He.frT g (asZ g n))) && ((ex.all fun f => f (He.frT g (asZ g n))) && He.tabsB g tf (He.frT g (asZ g n)))), fn.map fun d => fnZ (He.frT g (asZ g n)) (d.at_ (He.frT g (asZ g n))))
def valZ (fn : List DefZ) : AlZ := (true, fn.map DefZ.val)
structure SaysZ (fa : List He.Fa) (fn : List DefZ) (tf : List He.Defn) (ex : List (PySem.W.Frag → Bool)) (h : Heap) (K : PySem.W.Frag) : Prop where
  fact : ∀ (i : Nat) (f : He.Fa), fa[i]? = some f → f.ok K = true
  defs : ∀ (i : Nat) (d : DefZ), fn[i]? = some d → d.ok K = true ∧ fnZ K (d.at_ K) = d.val
  more : ∀ (i : Nat) (f : PySem.W.Frag → Bool), ex[i]? = some f → f K = true
  hd : ∀ p ∈ tf, PySem.W.codeHdIn K (He.cT K p).1 (He.cT K p).2 = true
  out : ∀ p ∈ tf, K.lookup (He.cT K p).2 = none
  empty : ∀ p ∈ tf, h.get? (He.cT K p).2 = some { cls := .none, data := .fields #[] }
theorem saysZ_of {n : Nat} {fa : List He.Fa} {fn : List DefZ} {tf : List He.Defn} {ex : List (PySem.W.Frag → Bool)} {h : Heap} (e : obsZ n fa fn tf ex h.get? = valZ fn) : SaysZ fa fn tf ex h (He.frT h.get? (asZ h.get? n)) := by
  have e1 := congrArg (fun z : AlZ => z.1) e
  have e2 : fn.map (fun d => fnZ (He.frT h.get? (asZ h.get? n)) (d.at_ (He.frT h.get? (asZ h.get? n)))) = fn.map DefZ.val := congrArg (fun z : AlZ => z.2) e
  obtain ⟨a1, b1⟩ := He.ba e1
  obtain ⟨a2, b2⟩ := He.ba b1
  obtain ⟨a3, a4⟩ := He.ba b2
  have key : ∀ p ∈ tf, PySem.W.codeHdIn (He.frT h.get? (asZ h.get? n)) (He.cT (He.frT h.get? (asZ h.get? n)) p).1 (He.cT (He.frT h.get? (asZ h.get? n)) p).2 = true ∧ ∃ o, h.get? (He.cT (He.frT h.get? (asZ h.get? n)) p).2 = some o ∧ He.emptyTab o = true := fun p hp => by
    obtain ⟨h3, h4⟩ := He.ba (List.all_eq_true.mp a4 p hp)
    refine ⟨h3, ?_⟩
    cases q : h.get? (He.cT (He.frT h.get? (asZ h.get? n)) p).2 with
    | none =>
      rw [q] at h4
      cases h4
    | some o =>
      rw [q] at h4
      exact ⟨o, rfl, h4⟩
  refine ⟨fun i f hf => List.all_eq_true.mp a1 f (List.mem_of_getElem? hf), fun i d hd => ⟨List.all_eq_true.mp a2 d (List.mem_of_getElem? hd), ?_⟩, fun i f hf => List.all_eq_true.mp a3 f (List.mem_of_getElem? hf), fun p hp => (key p hp).1, fun p hp => ?_, fun p hp => ?_⟩
  · have e3 := congrArg (fun l : List FnZ => l[i]?) e2
    simp only [List.getElem?_map, hd, Option.map_some] at e3
    exact Option.some.inj e3
  · obtain ⟨_, o, q, z⟩ := key p hp
    exact He.frT_none q z
  · obtain ⟨_, o, q, z⟩ := key p hp
    rw [q, He.emptyTab_eq z]
def hookZ (n : Nat) (fa : List He.Fa) (fn : List DefZ) (tf : List He.Defn) (ex : List (PySem.W.Frag → Bool)) : PySem.W.Hook where
  α := AlZ
  obs := fun s => obsZ n fa fn tf ex s.heap.get?
  val := fun _ => valZ fn
  says := fun _ h => ∃ K : PySem.W.Frag, K.In h ∧ SaysZ fa fn tf ex h K
  of := fun _ _ e => ⟨_, He.frT_in, saysZ_of e⟩
  keeps := fun _ _ _ ⟨K, hK, c⟩ k => ⟨K, PySem.W.Frag.In.keeps hK k, ⟨c.fact, c.defs, c.more, c.hd, c.out, fun p hp => k _ _ (c.empty p hp)⟩⟩
theorem obsZ_eq {n : Nat} {fa : List He.Fa} {fn : List DefZ} {tf : List He.Defn} {ex : List (PySem.W.Frag → Bool)} {g : Addr → Option Obj} {s : Shared} (h : ∀ a, g a = s.heap.get? a) : obsZ n fa fn tf ex g = (hookZ n fa fn tf ex).obs s := by
  have e : g = s.heap.get? := funext h
  rw [e] <;> rfl
end K68K
/-! What the top has written, by names. (Printed by gen_txt.py.) -/
namespace K68T
open PySem PySem.Spec PyProof.Rows L2 K68R K68K K68
abbrev PP : Program := PySem.Challenge.pw_splitfolds_k68_whole_ropes_by_a_model
def top (i : Nat) : Stmt := PySem.Challenge.pw_splitfolds_k68_whole_ropes_by_a_model.main.body.getD i (.Pass ⟨0, 0, 0, 0⟩)
/-- the names of the four classes -/
def cname : Srt → Str
  | .rope => "Rope"
  | .std => "Steady"
  | .sht => "Short"
  | .both => "ShortSteady"
/-- where the classes part: who has the method -/
def owFit : Srt → Str
  | .rope => "Rope"
  | .std => "Steady"
  | .sht => "Rope"
  | .both => "Steady"
def owMost : Srt → Str
  | .rope => "Rope"
  | .std => "Rope"
  | .sht => "Short"
  | .both => "Short"
abbrev b_no_map : Stmt := top 20
def d_no_map : DefZ := ⟨fun K => He.ga K "no_map", "no_map", "no_map", b_no_map, [], []⟩
abbrev b_letter_map : Stmt := top 21
def d_letter_map : DefZ := ⟨fun K => He.ga K "letter_map", "letter_map", "letter_map", b_letter_map, [], []⟩
abbrev b_after : Stmt := top 22
def d_after : DefZ := ⟨fun K => He.ga K "after", "after", "after", b_after, [], []⟩
abbrev b_joined : Stmt := top 23
def d_joined : DefZ := ⟨fun K => He.ga K "joined", "joined", "joined", b_joined, [], []⟩
abbrev b_appended : Stmt := top 24
def d_appended : DefZ := ⟨fun K => He.ga K "appended", "appended", "appended", b_appended, [], []⟩
abbrev b_map_of : Stmt := top 25
def d_map_of : DefZ := ⟨fun K => He.ga K "map_of", "map_of", "map_of", b_map_of, [], []⟩
abbrev b_outcome : Stmt := top 26
def d_outcome : DefZ := ⟨fun K => He.ga K "outcome", "outcome", "outcome", b_outcome, [], []⟩
abbrev b_is_integer : Stmt := top 32
def d_is_integer : DefZ := ⟨fun K => He.ga K "is_integer", "is_integer", "is_integer", b_is_integer, [], []⟩
abbrev b_is_between : Stmt := top 33
def d_is_between : DefZ := ⟨fun K => He.ga K "is_between", "is_between", "is_between", b_is_between, [], []⟩
abbrev b_is_row : Stmt := top 34
def d_is_row : DefZ := ⟨fun K => He.ga K "is_row", "is_row", "is_row", b_is_row, [], []⟩
abbrev b_is_word : Stmt := top 35
def d_is_word : DefZ := ⟨fun K => He.ga K "is_word", "is_word", "is_word", b_is_word, [], []⟩
abbrev b_is_machine : Stmt := top 36
def d_is_machine : DefZ := ⟨fun K => He.ga K "is_machine", "is_machine", "is_machine", b_is_machine, [], []⟩
abbrev b_need_machine : Stmt := top 37
def d_need_machine : DefZ := ⟨fun K => He.ga K "need_machine", "need_machine", "need_machine", b_need_machine, [], []⟩
abbrev b_need_word : Stmt := top 38
def d_need_word : DefZ := ⟨fun K => He.ga K "need_word", "need_word", "need_word", b_need_word, [], []⟩
abbrev b_result_of : Stmt := top 39
def d_result_of : DefZ := ⟨fun K => He.ga K "result_of", "result_of", "result_of", b_result_of, [], []⟩
abbrev b_whole_of : Stmt := top 43
def d_whole_of : DefZ := ⟨fun K => He.ga K "whole_of", "whole_of", "whole_of", b_whole_of, [], []⟩
abbrev b__law_cell : Stmt := top 49
def d__law_cell : DefZ := ⟨fun K => He.ga K "_law_cell", "_law_cell", "_law_cell", b__law_cell, [], []⟩
abbrev b__law_draws : Stmt := top 50
def d__law_draws : DefZ := ⟨fun K => He.ga K "_law_draws", "_law_draws", "_law_draws", b__law_draws, [], []⟩
abbrev b__law_is_same : Stmt := top 51
def d__law_is_same : DefZ := ⟨fun K => He.ga K "_law_is_same", "_law_is_same", "_law_is_same", b__law_is_same, [], []⟩
abbrev b__law_read : Stmt := top 52
def d__law_read : DefZ := ⟨fun K => He.ga K "_law_read", "_law_read", "_law_read", b__law_read, [], []⟩
abbrev b__law_monoids : Stmt := top 53
def d__law_monoids : DefZ := ⟨fun K => He.ga K "_law_monoids", "_law_monoids", "_law_monoids", b__law_monoids, [], []⟩
abbrev b__law_any : Stmt := top 54
def d__law_any : DefZ := ⟨fun K => He.ga K "_law_any", "_law_any", "_law_any", b__law_any, [], []⟩
abbrev b__law_splitting : Stmt := top 55
def d__law_splitting : DefZ := ⟨fun K => He.ga K "_law_splitting", "_law_splitting", "_law_splitting", b__law_splitting, [], []⟩
abbrev b__law_machine : Stmt := top 56
def d__law_machine : DefZ := ⟨fun K => He.ga K "_law_machine", "_law_machine", "_law_machine", b__law_machine, [], []⟩
abbrev b__law_word : Stmt := top 57
def d__law_word : DefZ := ⟨fun K => He.ga K "_law_word", "_law_word", "_law_word", b__law_word, [], []⟩
abbrev b__law_said : Stmt := top 58
def d__law_said : DefZ := ⟨fun K => He.ga K "_law_said", "_law_said", "_law_said", b__law_said, [], []⟩
abbrev b__law_told : Stmt := top 59
def d__law_told : DefZ := ⟨fun K => He.ga K "_law_told", "_law_told", "_law_told", b__law_told, [], []⟩
abbrev b__law_due : Stmt := top 60
def d__law_due : DefZ := ⟨fun K => He.ga K "_law_due", "_law_due", "_law_due", b__law_due, [], []⟩
abbrev b__law_limit : Stmt := top 61
def d__law_limit : DefZ := ⟨fun K => He.ga K "_law_limit", "_law_limit", "_law_limit", b__law_limit, [], []⟩
abbrev b__law_made : Stmt := top 62
def d__law_made : DefZ := ⟨fun K => He.ga K "_law_made", "_law_made", "_law_made", b__law_made, [], []⟩
abbrev b__law_refused : Stmt := top 63
def d__law_refused : DefZ := ⟨fun K => He.ga K "_law_refused", "_law_refused", "_law_refused", b__law_refused, [], []⟩
abbrev b__law_next : Stmt := top 64
def d__law_next : DefZ := ⟨fun K => He.ga K "_law_next", "_law_next", "_law_next", b__law_next, [], []⟩
abbrev b__law_call : Stmt := top 65
def d__law_call : DefZ := ⟨fun K => He.ga K "_law_call", "_law_call", "_law_call", b__law_call, [], []⟩
abbrev b__law_is_right : Stmt := top 66
def d__law_is_right : DefZ := ⟨fun K => He.ga K "_law_is_right", "_law_is_right", "_law_is_right", b__law_is_right, [], []⟩
abbrev b_law : Stmt := top 67
def d_law : DefZ := ⟨fun K => He.ga K "law", "law", "law", b_law, [], []⟩
abbrev b_Rope_init : Stmt := inClass (top 44) 1
def d_Rope_init : DefZ := ⟨fun K => He.ma K (He.ga K "Rope") "__init__", "__init__", "Rope.__init__", b_Rope_init, [], []⟩
abbrev b_Rope_most_pieces : Stmt := inClass (top 44) 9
def d_Rope_most_pieces : DefZ := ⟨fun K => He.ma K (He.ga K "Rope") "most_pieces", "most_pieces", "Rope.most_pieces", b_Rope_most_pieces, [], []⟩
abbrev b_Rope_need_fit : Stmt := inClass (top 44) 10
def d_Rope_need_fit : DefZ := ⟨fun K => He.ma K (He.ga K "Rope") "need_fit", "need_fit", "Rope.need_fit", b_Rope_need_fit, [], []⟩
abbrev b_Rope_change : Stmt := inClass (top 44) 11
def d_Rope_change : DefZ := ⟨fun K => He.ma K (He.ga K "Rope") "change", "change", "Rope.change", b_Rope_change, [], []⟩
abbrev b_Rope_need_place : Stmt := inClass (top 44) 12
def d_Rope_need_place : DefZ := ⟨fun K => He.ma K (He.ga K "Rope") "need_place", "need_place", "Rope.need_place", b_Rope_need_place, [], []⟩
abbrev b_Rope_add_right : Stmt := inClass (top 44) 13
def d_Rope_add_right : DefZ := ⟨fun K => He.ma K (He.ga K "Rope") "add_right", "add_right", "Rope.add_right", b_Rope_add_right, [], []⟩
abbrev b_Rope_call : Stmt := inClass (top 44) 14
def d_Rope_call : DefZ := ⟨fun K => He.ma K (He.ga K "Rope") "__call__", "__call__", "Rope.__call__", b_Rope_call, [], []⟩
abbrev b_Rope_add_left : Stmt := inClass (top 44) 15
def d_Rope_add_left : DefZ := ⟨fun K => He.ma K (He.ga K "Rope") "add_left", "add_left", "Rope.add_left", b_Rope_add_left, [], []⟩
abbrev b_Rope_cut : Stmt := inClass (top 44) 16
def d_Rope_cut : DefZ := ⟨fun K => He.ma K (He.ga K "Rope") "cut", "cut", "Rope.cut", b_Rope_cut, [], []⟩
abbrev b_Rope_merge : Stmt := inClass (top 44) 17
def d_Rope_merge : DefZ := ⟨fun K => He.ma K (He.ga K "Rope") "merge", "merge", "Rope.merge", b_Rope_merge, [], []⟩
abbrev b_Rope_drop : Stmt := inClass (top 44) 18
def d_Rope_drop : DefZ := ⟨fun K => He.ma K (He.ga K "Rope") "drop", "drop", "Rope.drop", b_Rope_drop, [], []⟩
abbrev b_Rope_assign_pieces : Stmt := inClass (top 44) 19
def d_Rope_assign_pieces : DefZ := ⟨fun K => He.ma K (He.ga K "Rope") "assign_pieces", "assign_pieces", "Rope.assign_pieces", b_Rope_assign_pieces, [], []⟩
abbrev b_Rope_undo : Stmt := inClass (top 44) 20
def d_Rope_undo : DefZ := ⟨fun K => He.ma K (He.ga K "Rope") "undo", "undo", "Rope.undo", b_Rope_undo, [], []⟩
abbrev b_Rope_len : Stmt := inClass (top 44) 22
def d_Rope_len : DefZ := ⟨fun K => He.ma K (He.ga K "Rope") "__len__", "__len__", "Rope.__len__", b_Rope_len, [], []⟩
abbrev b_Rope_repr : Stmt := inClass (top 44) 25
def d_Rope_repr : DefZ := ⟨fun K => He.ma K (He.ga K "Rope") "__repr__", "__repr__", "Rope.__repr__", b_Rope_repr, [], []⟩
abbrev b_get_machine : Stmt := inClass (top 44) 2
def d_get_machine : DefZ := ⟨getAt "Rope" "machine", "machine", "Rope.machine", b_get_machine, [], []⟩
abbrev b_get_pieces : Stmt := inClass (top 44) 3
def d_get_pieces : DefZ := ⟨getAt "Rope" "pieces", "pieces", "Rope.pieces", b_get_pieces, [], []⟩
abbrev b_get_word : Stmt := inClass (top 44) 5
def d_get_word : DefZ := ⟨getAt "Rope" "word", "word", "Rope.word", b_get_word, [], []⟩
abbrev b_get_result : Stmt := inClass (top 44) 6
def d_get_result : DefZ := ⟨getAt "Rope" "result", "result", "Rope.result", b_get_result, [], []⟩
abbrev b_get_results : Stmt := inClass (top 44) 7
def d_get_results : DefZ := ⟨getAt "Rope" "results", "results", "Rope.results", b_get_results, [], []⟩
abbrev b_get_changes : Stmt := inClass (top 44) 8
def d_get_changes : DefZ := ⟨getAt "Rope" "changes", "changes", "Rope.changes", b_get_changes, [], []⟩
abbrev b_Short_most_pieces : Stmt := inClass (top 46) 3
def d_Short_most_pieces : DefZ := ⟨fun K => He.ma K (He.ga K "Short") "most_pieces", "most_pieces", "Short.most_pieces", b_Short_most_pieces, [], []⟩
abbrev b_Steady_need_fit : Stmt := inClass (top 45) 1
def d_Steady_need_fit : DefZ := ⟨fun K => He.ma K (He.ga K "Steady") "need_fit", "need_fit", "Steady.need_fit", b_Steady_need_fit, ["__class__"], []⟩
abbrev b_Short_init : Stmt := inClass (top 46) 1
def d_Short_init : DefZ := ⟨fun K => He.ma K (He.ga K "Short") "__init__", "__init__", "Short.__init__", b_Short_init, ["__class__"], [.int 3]⟩
abbrev b_LimitError_init : Stmt := inClass (top 16) 0
def d_LimitError_init : DefZ := ⟨fun K => He.ma K (He.ga K "LimitError") "__init__", "__init__", "LimitError.__init__", b_LimitError_init, ["__class__"], []⟩
def fa : List (He.Fa) := [.glo "no_map", .glo "letter_map", .glo "after", .glo "joined", .glo "appended", .glo "map_of", .glo "outcome", .glo "is_integer", .glo "is_between", .glo "is_row", .glo "is_word", .glo "is_machine", .glo "need_machine", .glo "need_word", .glo "result_of", .glo "whole_of", .glo "_law_cell", .glo "_law_draws", .glo "_law_is_same", .glo "_law_read", .glo "_law_monoids", .glo "_law_any", .glo "_law_splitting", .glo "_law_machine", .glo "_law_word", .glo "_law_said", .glo "_law_told", .glo "_law_due", .glo "_law_limit", .glo "_law_made", .glo "_law_refused", .glo "_law_next", .glo "_law_call", .glo "_law_is_right", .glo "law", .glo "FoldError", .glo "MachineError", .glo "WordError", .glo "ResultError", .glo "MatchError", .glo "SplitError", .glo "NumberError", .glo "TableError", .glo "ValuesError", .glo "TextError", .glo "PlaceError", .glo "PiecesError", .glo "Unsteady", .glo "NothingDone", .glo "LimitError", .glo "Rope", .glo "Steady", .glo "Short", .glo "ShortSteady", .free "tuple", .free "range", .free "len", .free "isinstance", .free "int", .free "bool", .free "str", .free "all", .free "sum", .free "repr", .free "super", .int "LEAST_LETTERS" 2, .int "MOST_LETTERS_machines" 3, .int "MOST_STATES" 4, .int "MOST_RESULT" 9, .int "MOST_LETTERS_ropes" 40, .int "MOST_PIECES" 20, .str "LEFT" "left", .str "RIGHT" "right", .cls "Rope", .cls "Steady", .cls "Short", .cls "ShortSteady", .noat "Rope" "own_machine", .noat "Steady" "own_machine", .noat "Short" "own_machine", .noat "ShortSteady" "own_machine", .noat "Rope" "kept", .noat "Steady" "kept", .noat "Short" "kept", .noat "ShortSteady" "kept", .noat "Rope" "past", .noat "Steady" "past", .noat "Short" "past", .noat "ShortSteady" "past", .noat "Rope" "own_most", .noat "Steady" "own_most", .noat "Short" "own_most", .noat "ShortSteady" "own_most", .mkr "Rope", .mkr "Steady", .mkr "Short", .mkr "ShortSteady", .meth "Rope" "most_pieces", .meth "Steady" "most_pieces", .meth "Short" "most_pieces", .meth "ShortSteady" "most_pieces", .meth "Rope" "need_fit", .meth "Steady" "need_fit", .meth "Short" "need_fit", .meth "ShortSteady" "need_fit", .meth "Rope" "change", .meth "Steady" "change", .meth "Short" "change", .meth "ShortSteady" "change", .meth "Rope" "need_place", .meth "Steady" "need_place", .meth "Short" "need_place", .meth "ShortSteady" "need_place", .meth "Rope" "add_right", .meth "Steady" "add_right", .meth "Short" "add_right", .meth "ShortSteady" "add_right", .meth "Rope" "add_left", .meth "Steady" "add_left", .meth "Short" "add_left", .meth "ShortSteady" "add_left", .meth "Rope" "cut", .meth "Steady" "cut", .meth "Short" "cut", .meth "ShortSteady" "cut", .meth "Rope" "merge", .meth "Steady" "merge", .meth "Short" "merge", .meth "ShortSteady" "merge", .meth "Rope" "drop", .meth "Steady" "drop", .meth "Short" "drop", .meth "ShortSteady" "drop", .meth "Rope" "assign_pieces", .meth "Steady" "assign_pieces", .meth "Short" "assign_pieces", .meth "ShortSteady" "assign_pieces", .meth "Rope" "undo", .meth "Steady" "undo", .meth "Short" "undo", .meth "ShortSteady" "undo", .meth "Rope" "__len__", .meth "Steady" "__len__", .meth "Short" "__len__", .meth "ShortSteady" "__len__", .meth "Rope" "__repr__", .meth "Steady" "__repr__", .meth "Short" "__repr__", .meth "ShortSteady" "__repr__", .noat "LimitError" "amount", .noat "LimitError" "limit", .exc "PlaceError", .exc "NumberError", .exc "Unsteady", .exc "NothingDone", .exm "LimitError" "LimitError" true, .exm "LimitError" "FoldError" true, .exm "PlaceError" "LimitError" false, .exm "PlaceError" "FoldError" true, .exm "NumberError" "LimitError" false, .exm "NumberError" "FoldError" true, .exm "Unsteady" "LimitError" false, .exm "Unsteady" "FoldError" true, .exm "NothingDone" "LimitError" false, .exm "NothingDone" "FoldError" true]
def fn : List (DefZ) := [d_no_map, d_letter_map, d_after, d_joined, d_appended, d_map_of, d_outcome, d_is_integer, d_is_between, d_is_row, d_is_word, d_is_machine, d_need_machine, d_need_word, d_result_of, d_whole_of, d__law_cell, d__law_draws, d__law_is_same, d__law_read, d__law_monoids, d__law_any, d__law_splitting, d__law_machine, d__law_word, d__law_said, d__law_told, d__law_due, d__law_limit, d__law_made, d__law_refused, d__law_next, d__law_call, d__law_is_right, d_law, d_Rope_init, d_Rope_most_pieces, d_Rope_need_fit, d_Rope_change, d_Rope_need_place, d_Rope_add_right, d_Rope_call, d_Rope_add_left, d_Rope_cut, d_Rope_merge, d_Rope_drop, d_Rope_assign_pieces, d_Rope_undo, d_Rope_len, d_Rope_repr, d_get_machine, d_get_pieces, d_get_word, d_get_result, d_get_results, d_get_changes, d_Short_most_pieces, d_Steady_need_fit, d_Short_init, d_LimitError_init]
def ex : List (PySem.W.Frag → Bool) := [fun K => decide (He.ma K (He.ga K "Steady") "__init__" = He.ma K (He.ga K "Rope") "__init__"), fun K => decide (He.ma K (He.ga K "ShortSteady") "__init__" = He.ma K (He.ga K "Short") "__init__"), fun K => decide (He.ma K (He.ga K "Steady") "most_pieces" = He.ma K (He.ga K "Rope") "most_pieces"), fun K => decide (He.ma K (He.ga K "ShortSteady") "most_pieces" = He.ma K (He.ga K "Short") "most_pieces"), fun K => decide (He.ma K (He.ga K "Short") "need_fit" = He.ma K (He.ga K "Rope") "need_fit"), fun K => decide (He.ma K (He.ga K "ShortSteady") "need_fit" = He.ma K (He.ga K "Steady") "need_fit"), fun K => decide (He.ma K (He.ga K "Steady") "change" = He.ma K (He.ga K "Rope") "change"), fun K => decide (He.ma K (He.ga K "Short") "change" = He.ma K (He.ga K "Rope") "change"), fun K => decide (He.ma K (He.ga K "ShortSteady") "change" = He.ma K (He.ga K "Rope") "change"), fun K => decide (He.ma K (He.ga K "Steady") "need_place" = He.ma K (He.ga K "Rope") "need_place"), fun K => decide (He.ma K (He.ga K "Short") "need_place" = He.ma K (He.ga K "Rope") "need_place"), fun K => decide (He.ma K (He.ga K "ShortSteady") "need_place" = He.ma K (He.ga K "Rope") "need_place"), fun K => decide (He.ma K (He.ga K "Steady") "add_right" = He.ma K (He.ga K "Rope") "add_right"), fun K => decide (He.ma K (He.ga K "Short") "add_right" = He.ma K (He.ga K "Rope") "add_right"), fun K => decide (He.ma K (He.ga K "ShortSteady") "add_right" = He.ma K (He.ga K "Rope") "add_right"), fun K => decide (He.ma K (He.ga K "Steady") "__call__" = He.ma K (He.ga K "Rope") "__call__"), fun K => decide (He.ma K (He.ga K "Short") "__call__" = He.ma K (He.ga K "Rope") "__call__"), fun K => decide (He.ma K (He.ga K "ShortSteady") "__call__" = He.ma K (He.ga K "Rope") "__call__"), fun K => decide (He.ma K (He.ga K "Steady") "add_left" = He.ma K (He.ga K "Rope") "add_left"), fun K => decide (He.ma K (He.ga K "Short") "add_left" = He.ma K (He.ga K "Rope") "add_left"), fun K => decide (He.ma K (He.ga K "ShortSteady") "add_left" = He.ma K (He.ga K "Rope") "add_left"), fun K => decide (He.ma K (He.ga K "Steady") "cut" = He.ma K (He.ga K "Rope") "cut"), fun K => decide (He.ma K (He.ga K "Short") "cut" = He.ma K (He.ga K "Rope") "cut"), fun K => decide (He.ma K (He.ga K "ShortSteady") "cut" = He.ma K (He.ga K "Rope") "cut"), fun K => decide (He.ma K (He.ga K "Steady") "merge" = He.ma K (He.ga K "Rope") "merge"), fun K => decide (He.ma K (He.ga K "Short") "merge" = He.ma K (He.ga K "Rope") "merge"), fun K => decide (He.ma K (He.ga K "ShortSteady") "merge" = He.ma K (He.ga K "Rope") "merge"), fun K => decide (He.ma K (He.ga K "Steady") "drop" = He.ma K (He.ga K "Rope") "drop"), fun K => decide (He.ma K (He.ga K "Short") "drop" = He.ma K (He.ga K "Rope") "drop"), fun K => decide (He.ma K (He.ga K "ShortSteady") "drop" = He.ma K (He.ga K "Rope") "drop"), fun K => decide (He.ma K (He.ga K "Steady") "assign_pieces" = He.ma K (He.ga K "Rope") "assign_pieces"), fun K => decide (He.ma K (He.ga K "Short") "assign_pieces" = He.ma K (He.ga K "Rope") "assign_pieces"), fun K => decide (He.ma K (He.ga K "ShortSteady") "assign_pieces" = He.ma K (He.ga K "Rope") "assign_pieces"), fun K => decide (He.ma K (He.ga K "Steady") "undo" = He.ma K (He.ga K "Rope") "undo"), fun K => decide (He.ma K (He.ga K "Short") "undo" = He.ma K (He.ga K "Rope") "undo"), fun K => decide (He.ma K (He.ga K "ShortSteady") "undo" = He.ma K (He.ga K "Rope") "undo"), fun K => decide (He.ma K (He.ga K "Steady") "__len__" = He.ma K (He.ga K "Rope") "__len__"), fun K => decide (He.ma K (He.ga K "Short") "__len__" = He.ma K (He.ga K "Rope") "__len__"), fun K => decide (He.ma K (He.ga K "ShortSteady") "__len__" = He.ma K (He.ga K "Rope") "__len__"), fun K => decide (He.ma K (He.ga K "Steady") "__repr__" = He.ma K (He.ga K "Rope") "__repr__"), fun K => decide (He.ma K (He.ga K "Short") "__repr__" = He.ma K (He.ga K "Rope") "__repr__"), fun K => decide (He.ma K (He.ga K "ShortSteady") "__repr__" = He.ma K (He.ga K "Rope") "__repr__"), fun K => callB K "Rope", fun K => callB K "Steady", fun K => callB K "Short", fun K => callB K "ShortSteady", fun K => propB K "Rope" "machine", fun K => propB K "Steady" "machine", fun K => propB K "Short" "machine", fun K => propB K "ShortSteady" "machine", fun K => decide (propAt "Steady" "machine" K = propAt "Rope" "machine" K), fun K => decide (propAt "Short" "machine" K = propAt "Rope" "machine" K), fun K => decide (propAt "ShortSteady" "machine" K = propAt "Rope" "machine" K), fun K => decide (getAt "Steady" "machine" K = getAt "Rope" "machine" K), fun K => decide (getAt "Short" "machine" K = getAt "Rope" "machine" K), fun K => decide (getAt "ShortSteady" "machine" K = getAt "Rope" "machine" K), fun K => propB K "Rope" "pieces", fun K => propB K "Steady" "pieces", fun K => propB K "Short" "pieces", fun K => propB K "ShortSteady" "pieces", fun K => decide (propAt "Steady" "pieces" K = propAt "Rope" "pieces" K), fun K => decide (propAt "Short" "pieces" K = propAt "Rope" "pieces" K), fun K => decide (propAt "ShortSteady" "pieces" K = propAt "Rope" "pieces" K), fun K => decide (getAt "Steady" "pieces" K = getAt "Rope" "pieces" K), fun K => decide (getAt "Short" "pieces" K = getAt "Rope" "pieces" K), fun K => decide (getAt "ShortSteady" "pieces" K = getAt "Rope" "pieces" K), fun K => propB K "Rope" "word", fun K => propB K "Steady" "word", fun K => propB K "Short" "word", fun K => propB K "ShortSteady" "word", fun K => decide (propAt "Steady" "word" K = propAt "Rope" "word" K), fun K => decide (propAt "Short" "word" K = propAt "Rope" "word" K), fun K => decide (propAt "ShortSteady" "word" K = propAt "Rope" "word" K), fun K => decide (getAt "Steady" "word" K = getAt "Rope" "word" K), fun K => decide (getAt "Short" "word" K = getAt "Rope" "word" K), fun K => decide (getAt "ShortSteady" "word" K = getAt "Rope" "word" K), fun K => propB K "Rope" "result", fun K => propB K "Steady" "result", fun K => propB K "Short" "result", fun K => propB K "ShortSteady" "result", fun K => decide (propAt "Steady" "result" K = propAt "Rope" "result" K), fun K => decide (propAt "Short" "result" K = propAt "Rope" "result" K), fun K => decide (propAt "ShortSteady" "result" K = propAt "Rope" "result" K), fun K => decide (getAt "Steady" "result" K = getAt "Rope" "result" K), fun K => decide (getAt "Short" "result" K = getAt "Rope" "result" K), fun K => decide (getAt "ShortSteady" "result" K = getAt "Rope" "result" K), fun K => propB K "Rope" "results", fun K => propB K "Steady" "results", fun K => propB K "Short" "results", fun K => propB K "ShortSteady" "results", fun K => decide (propAt "Steady" "results" K = propAt "Rope" "results" K), fun K => decide (propAt "Short" "results" K = propAt "Rope" "results" K), fun K => decide (propAt "ShortSteady" "results" K = propAt "Rope" "results" K), fun K => decide (getAt "Steady" "results" K = getAt "Rope" "results" K), fun K => decide (getAt "Short" "results" K = getAt "Rope" "results" K), fun K => decide (getAt "ShortSteady" "results" K = getAt "Rope" "results" K), fun K => propB K "Rope" "changes", fun K => propB K "Steady" "changes", fun K => propB K "Short" "changes", fun K => propB K "ShortSteady" "changes", fun K => decide (propAt "Steady" "changes" K = propAt "Rope" "changes" K), fun K => decide (propAt "Short" "changes" K = propAt "Rope" "changes" K), fun K => decide (propAt "ShortSteady" "changes" K = propAt "Rope" "changes" K), fun K => decide (getAt "Steady" "changes" K = getAt "Rope" "changes" K), fun K => decide (getAt "Short" "changes" K = getAt "Rope" "changes" K), fun K => decide (getAt "ShortSteady" "changes" K = getAt "Rope" "changes" K), fun K => He.conB K "Rope" "NAME" (.str "Rope"), fun K => He.conB K "Steady" "NAME" (.str "Steady"), fun K => He.conB K "Short" "NAME" (.str "Short"), fun K => He.conB K "ShortSteady" "NAME" (.str "ShortSteady"), fun K => upB K "Steady" "Steady" "need_fit" (He.ma K (He.ga K "Rope") "need_fit"), fun K => upB K "ShortSteady" "Steady" "need_fit" (He.ma K (He.ga K "Rope") "need_fit"), fun K => upB K "Short" "Short" "__init__" (He.ma K (He.ga K "Rope") "__init__"), fun K => upB K "ShortSteady" "Short" "__init__" (He.ma K (He.ga K "Rope") "__init__"), fun K => He.eqO (PySem.W.ks_superIn K (He.ga K "LimitError") (He.ga K "LimitError") "__init__") (some (some (.builtin "ValueError.__init__"))), fun K => decide (PySem.W.subIn K (.ref (He.ga K "LimitError")) (.type "ValueError") = some true), fun K => decide (PySem.W.mroIn K (He.ga K "LimitError") (.ref (He.ga K "LimitError")) = some true), fun K => oexB K "LimitError", fun K => xfB K (He.ga K "LimitError"), fun K => He.eqO (PySem.W.findIn K (.ref (He.ga K "LimitError")) "__init__") (some (some (.ref (He.ma K (He.ga K "LimitError") "__init__")))), fun K => decide (PySem.W.typeIn K (.ref (He.ma K (He.ga K "LimitError") "__init__")) = some (.type "function")), fun K => excCB K "PlaceError", fun K => decide (PySem.W.kitOne K (.ref (He.ga K "PlaceError")) (.ref (He.ga K "MachineError")) = some false), fun K => decide (PySem.W.kitOne K (.ref (He.ga K "PlaceError")) (.ref (He.ga K "WordError")) = some false), fun K => decide (PySem.W.kitOne K (.ref (He.ga K "PlaceError")) (.ref (He.ga K "ResultError")) = some false), fun K => decide (PySem.W.kitOne K (.ref (He.ga K "PlaceError")) (.ref (He.ga K "MatchError")) = some false), fun K => decide (PySem.W.kitOne K (.ref (He.ga K "PlaceError")) (.ref (He.ga K "SplitError")) = some false), fun K => decide (PySem.W.kitOne K (.ref (He.ga K "PlaceError")) (.ref (He.ga K "NumberError")) = some false), fun K => decide (PySem.W.kitOne K (.ref (He.ga K "PlaceError")) (.ref (He.ga K "TableError")) = some false), fun K => decide (PySem.W.kitOne K (.ref (He.ga K "PlaceError")) (.ref (He.ga K "ValuesError")) = some false), fun K => decide (PySem.W.kitOne K (.ref (He.ga K "PlaceError")) (.ref (He.ga K "TextError")) = some false), fun K => decide (PySem.W.kitOne K (.ref (He.ga K "PlaceError")) (.ref (He.ga K "PlaceError")) = some true), fun K => decide (PySem.W.kitOne K (.ref (He.ga K "PlaceError")) (.ref (He.ga K "PiecesError")) = some false), fun K => decide (PySem.W.kitOne K (.ref (He.ga K "PlaceError")) (.ref (He.ga K "Unsteady")) = some false), fun K => decide (PySem.W.kitOne K (.ref (He.ga K "PlaceError")) (.ref (He.ga K "NothingDone")) = some false), fun K => excCB K "NumberError", fun K => decide (PySem.W.kitOne K (.ref (He.ga K "NumberError")) (.ref (He.ga K "MachineError")) = some false), fun K => decide (PySem.W.kitOne K (.ref (He.ga K "NumberError")) (.ref (He.ga K "WordError")) = some false), fun K => decide (PySem.W.kitOne K (.ref (He.ga K "NumberError")) (.ref (He.ga K "ResultError")) = some false), fun K => decide (PySem.W.kitOne K (.ref (He.ga K "NumberError")) (.ref (He.ga K "MatchError")) = some false), fun K => decide (PySem.W.kitOne K (.ref (He.ga K "NumberError")) (.ref (He.ga K "SplitError")) = some false), fun K => decide (PySem.W.kitOne K (.ref (He.ga K "NumberError")) (.ref (He.ga K "NumberError")) = some true), fun K => decide (PySem.W.kitOne K (.ref (He.ga K "NumberError")) (.ref (He.ga K "TableError")) = some false), fun K => decide (PySem.W.kitOne K (.ref (He.ga K "NumberError")) (.ref (He.ga K "ValuesError")) = some false), fun K => decide (PySem.W.kitOne K (.ref (He.ga K "NumberError")) (.ref (He.ga K "TextError")) = some false), fun K => decide (PySem.W.kitOne K (.ref (He.ga K "NumberError")) (.ref (He.ga K "PlaceError")) = some false), fun K => decide (PySem.W.kitOne K (.ref (He.ga K "NumberError")) (.ref (He.ga K "PiecesError")) = some false), fun K => decide (PySem.W.kitOne K (.ref (He.ga K "NumberError")) (.ref (He.ga K "Unsteady")) = some false), fun K => decide (PySem.W.kitOne K (.ref (He.ga K "NumberError")) (.ref (He.ga K "NothingDone")) = some false), fun K => excCB K "Unsteady", fun K => decide (PySem.W.kitOne K (.ref (He.ga K "Unsteady")) (.ref (He.ga K "MachineError")) = some false), fun K => decide (PySem.W.kitOne K (.ref (He.ga K "Unsteady")) (.ref (He.ga K "WordError")) = some false), fun K => decide (PySem.W.kitOne K (.ref (He.ga K "Unsteady")) (.ref (He.ga K "ResultError")) = some false), fun K => decide (PySem.W.kitOne K (.ref (He.ga K "Unsteady")) (.ref (He.ga K "MatchError")) = some false), fun K => decide (PySem.W.kitOne K (.ref (He.ga K "Unsteady")) (.ref (He.ga K "SplitError")) = some false), fun K => decide (PySem.W.kitOne K (.ref (He.ga K "Unsteady")) (.ref (He.ga K "NumberError")) = some false), fun K => decide (PySem.W.kitOne K (.ref (He.ga K "Unsteady")) (.ref (He.ga K "TableError")) = some false), fun K => decide (PySem.W.kitOne K (.ref (He.ga K "Unsteady")) (.ref (He.ga K "ValuesError")) = some false), fun K => decide (PySem.W.kitOne K (.ref (He.ga K "Unsteady")) (.ref (He.ga K "TextError")) = some false), fun K => decide (PySem.W.kitOne K (.ref (He.ga K "Unsteady")) (.ref (He.ga K "PlaceError")) = some false), fun K => decide (PySem.W.kitOne K (.ref (He.ga K "Unsteady")) (.ref (He.ga K "PiecesError")) = some false), fun K => decide (PySem.W.kitOne K (.ref (He.ga K "Unsteady")) (.ref (He.ga K "Unsteady")) = some true), fun K => decide (PySem.W.kitOne K (.ref (He.ga K "Unsteady")) (.ref (He.ga K "NothingDone")) = some false), fun K => excCB K "NothingDone", fun K => decide (PySem.W.kitOne K (.ref (He.ga K "NothingDone")) (.ref (He.ga K "MachineError")) = some false), fun K => decide (PySem.W.kitOne K (.ref (He.ga K "NothingDone")) (.ref (He.ga K "WordError")) = some false), fun K => decide (PySem.W.kitOne K (.ref (He.ga K "NothingDone")) (.ref (He.ga K "ResultError")) = some false), fun K => decide (PySem.W.kitOne K (.ref (He.ga K "NothingDone")) (.ref (He.ga K "MatchError")) = some false), fun K => decide (PySem.W.kitOne K (.ref (He.ga K "NothingDone")) (.ref (He.ga K "SplitError")) = some false), fun K => decide (PySem.W.kitOne K (.ref (He.ga K "NothingDone")) (.ref (He.ga K "NumberError")) = some false), fun K => decide (PySem.W.kitOne K (.ref (He.ga K "NothingDone")) (.ref (He.ga K "TableError")) = some false), fun K => decide (PySem.W.kitOne K (.ref (He.ga K "NothingDone")) (.ref (He.ga K "ValuesError")) = some false), fun K => decide (PySem.W.kitOne K (.ref (He.ga K "NothingDone")) (.ref (He.ga K "TextError")) = some false), fun K => decide (PySem.W.kitOne K (.ref (He.ga K "NothingDone")) (.ref (He.ga K "PlaceError")) = some false), fun K => decide (PySem.W.kitOne K (.ref (He.ga K "NothingDone")) (.ref (He.ga K "PiecesError")) = some false), fun K => decide (PySem.W.kitOne K (.ref (He.ga K "NothingDone")) (.ref (He.ga K "Unsteady")) = some false), fun K => decide (PySem.W.kitOne K (.ref (He.ga K "NothingDone")) (.ref (He.ga K "NothingDone")) = some true), fun K => supB K PP.main.file (He.ma K (He.ga K "Steady") "need_fit") (He.ga K "Steady"), fun K => supB K PP.main.file (He.ma K (He.ga K "Short") "__init__") (He.ga K "Short"), fun K => supB K PP.main.file (He.ma K (He.ga K "LimitError") "__init__") (He.ga K "LimitError")]
def tf : List He.Defn := [("_law_is_right", none)]
end K68T
/-! The run of the top. -/
namespace K68T
open PySem PySem.W PySem.Spec PyProof.Rows L2 K68R K68K
abbrev RR : PySem.W.OpenRow := PySem.W.OpenLaw.row PySem.Challenge.rw_splitfolds_k68_whole_ropes_by_a_model
abbrev hk : PySem.W.Hook := hookZ 5 fa fn tf ex
def ob (s : PySem.W.SharedT) : AlZ := obsZ 5 fa fn tf ex (HandSHeadRun.getT s)
theorem ob_eq (s : PySem.W.SharedT) : ob s = hk.obs s.abs := obsZ_eq (HandSHeadRun.getT_eq s)
def loose1 : List Str := ["_wall", "FoldError", "MachineError", "WordError", "ResultError", "MatchError", "SplitError", "NumberError", "TableError", "ValuesError", "TextError", "PlaceError", "PiecesError", "Unsteady", "NothingDone", "LimitError", "LEFT", "RIGHT", "no_map", "letter_map", "after", "joined", "appended", "map_of", "outcome", "LEAST_LETTERS", "MOST_LETTERS_machines", "MOST_STATES", "MOST_RESULT", "is_integer"]
def loose2 : List Str := ["is_between", "is_row", "is_word", "is_machine", "need_machine", "need_word", "result_of", "MOST_LETTERS_ropes", "MOST_PIECES", "whole_of", "Rope", "Steady", "Short", "ShortSteady", "_law_cell", "_law_draws", "_law_is_same", "_law_read", "_law_monoids", "_law_any", "_law_splitting", "_law_machine", "_law_word", "_law_said", "_law_told", "_law_due", "_law_limit", "_law_made", "_law_refused", "_law_next", "_law_call", "_law_is_right"]
def loose : List Str := loose1 ++ loose2
theorem run1 (w : World) (os : OsState) : (HandSHeadRun.endF (HandSHeadRun.stepQ (HandSHeadRun.denQ HandSHeadRun.tabQ) RR.prog w) 8000 RR.prog w os).map (fun s => HandSHeadRun.looksF RR.prog (boot_heap w.params) s.abs) = some true := by
  kernel_rfl
theorem run2 (w : World) (os : OsState) : (HandSHeadRun.endF (HandSHeadRun.stepQ (HandSHeadRun.denQ HandSHeadRun.tabQ) RR.prog w) 8000 RR.prog w os).map (fun s => HandSHeadRun.seenQ (view RR.prog [67]) loose (importedModules RR.prog.main.body) (fun s => xlAt (view RR.prog [67]) [] s && recOk RR.toRowW.records s) s.abs) = some (openGood (view RR.prog [67]) loose) := by
  kernel_rfl
theorem run3 (w : World) (os : OsState) : (HandSHeadRun.endF (HandSHeadRun.stepQ (HandSHeadRun.denQ HandSHeadRun.tabQ) RR.prog w) 8000 RR.prog w os).map (fun s => fa.all fun f => f.ok (He.frT (HandSHeadRun.getT s) (asZ (HandSHeadRun.getT s) 5))) = some true := by
  kernel_rfl
theorem run4 (w : World) (os : OsState) : (HandSHeadRun.endF (HandSHeadRun.stepQ (HandSHeadRun.denQ HandSHeadRun.tabQ) RR.prog w) 8000 RR.prog w os).map (fun s => fn.all fun d => d.ok (He.frT (HandSHeadRun.getT s) (asZ (HandSHeadRun.getT s) 5))) = some true := by
  kernel_rfl
theorem run5 (w : World) (os : OsState) : (HandSHeadRun.endF (HandSHeadRun.stepQ (HandSHeadRun.denQ HandSHeadRun.tabQ) RR.prog w) 8000 RR.prog w os).map (fun s => (ex.all fun f => f (He.frT (HandSHeadRun.getT s) (asZ (HandSHeadRun.getT s) 5))) && He.tabsB (HandSHeadRun.getT s) tf (He.frT (HandSHeadRun.getT s) (asZ (HandSHeadRun.getT s) 5))) = some true := by
  kernel_rfl
theorem run6 (w : World) (os : OsState) : (HandSHeadRun.endF (HandSHeadRun.stepQ (HandSHeadRun.denQ HandSHeadRun.tabQ) RR.prog w) 8000 RR.prog w os).map (fun s => fn.map fun d => fnZ (He.frT (HandSHeadRun.getT s) (asZ (HandSHeadRun.getT s) 5)) (d.at_ (He.frT (HandSHeadRun.getT s) (asZ (HandSHeadRun.getT s) 5)))) = some (fn.map DefZ.val) := by
  kernel_rfl
theorem map6 {α β γ δ : Type} {X : Option α} {f1 : α → β} {f2 : α → γ} {a b c : α → Bool} {l : α → δ} {v1 : β} {v2 : γ} {l' : δ} (e1 : X.map f1 = some v1) (e2 : X.map f2 = some v2) (e3 : X.map a = some true) (e4 : X.map b = some true) (e5 : X.map c = some true) (e6 : X.map l = some l') :
    X.map (fun s => (f1 s, f2 s, ((a s && (b s && c s)), l s))) = some (v1, v2, (true, l')) := by
  cases X with
  | none => cases e1
  | some x =>
    have h1 : f1 x = v1 := Option.some.inj e1
    have h2 : f2 x = v2 := Option.some.inj e2
    have h3 : a x = true := Option.some.inj e3
    have h4 : b x = true := Option.some.inj e4
    have h5 : c x = true := Option.some.inj e5
    have h6 : l x = l' := Option.some.inj e6
    show some (f1 x, f2 x, ((a x && (b x && c x)), l x)) = _
    rw [h1, h2, h3, h4, h5, h6]
    rfl
theorem run (w : World) : HandSHeadRun.RunEq RR (view RR.prog [67]) hk ob 8000 loose w := fun os => map6 (run1 w os) (run2 w os) (run3 w os) (run4 w os) (run5 w os) (run6 w os)
end K68T
/-! Rules that the layer lacks: len and repr of an own instance, a reversed tuple, a list of bools counted, *earlier, last = t, two clauses that name the error. -/
namespace K68R
open PySem PySem.Spec PyProof.Rows L2

/-! ### len(o), repr(o) by own methods -/
section
variable {X : Cx} {CX : CXT} {k : Nat} {C g : Addr} {sp : Sp} {E : XK}
/-- the value of len(o), repr(o), o an instance of C -/
def rOwnLen (C : Addr) (sp : Sp) (E : XK) : List V → Hp → VK → Prop := fun xs H Q => ∃ a dx fs, xs = [.ref a] ∧ H a = some (.ins C dx fs) ∧ sp [.ref a] H (fun v H' => ∃ n : Nat, v = .int n ∧ n ≤ 16777216 ∧ Q (.int n) H') E
def rOwnRepr (C : Addr) (sp : Sp) (E : XK) : List V → Hp → VK → Prop := fun xs H Q => ∃ a dx fs, xs = [.ref a] ∧ H a = some (.ins C dx fs) ∧ sp [.ref a] H (fun v H' => ∃ z : Str, v = .str z ∧ Q (.str z) H') E
theorem run_in1 {pins : List (Addr × Obj)} {σ : L2.St} {H : Hp} {s : Shared} {Q : VK} {us : List Value} {vs : List V} (F : FnR X.prog X.w X.K X.mg X.base CX k g sp) (hr : Room (k + 1) X.A) (hx : Passes CX X E) (I : Inv X pins σ H s) (r : Vals vs us) (h : sp vs H Q E) :
    wpAny (model X.prog X.w) X.A.in1 (call (.ref g) us) (EP X pins σ Q) X.xe s := by
  refine wpAny_call (codeAny_mono (F X.A.in1 X.stack s H us vs Q E hr.in1 I.env0.in1 r h) fun r s' hq => ?_)
  cases r with
  | error e => exact hx pins σ H s e s' I hq
  | ok fl =>
    cases fl with
    | ret u => exact I.after hq
    | next => exact False.elim hq
    | brk => exact False.elim hq
    | cont => exact False.elim hq
theorem call_ownLen (hm : Meth X.K C "__len__" g) (F : FnR X.prog X.w X.K X.mg X.base CX k g sp) (hr : Room (k + 1) X.A) (hx : Passes CX X E) : CallR X (.builtin "len") (rOwnLen C sp E) := by
  intro pins s σ H xs us Q I r h
  obtain ⟨a, dx, fs, rfl, ha, q⟩ := h
  obtain ⟨u, rfl, ru⟩ := vals1 r
  obtain rfl : u = Value.ref a := ru
  obtain ⟨mA, O, _⟩ := ins_get I.hok ha
  obtain ⟨od, J, _⟩ := O.look
  obtain ⟨m, fr⟩ := I.fr
  refine PySem.W.len_K fr I.ok.mod.kin J hm.at_ hm.fn (thn (run_in1 (us := [.ref a]) (vs := [.ref a]) F hr hx I (.cons rfl .nil) q) fun v s' hv => ?_)
  obtain ⟨v0, H', I', rv, n, ev, hn, qn⟩ := hv
  subst ev
  obtain ⟨t, rfl⟩ := rv
  refine ⟨⟨by omega, by omega⟩, .int n, H', I'.tok _, ⟨_, rfl⟩, qn⟩
theorem call_ownRepr (hm : Meth X.K C "__repr__" g) (F : FnR X.prog X.w X.K X.mg X.base CX k g sp) (hr : Room (k + 1) X.A) (hx : Passes CX X E) : CallR X (.builtin "repr") (rOwnRepr C sp E) := by
  intro pins s σ H xs us Q I r h
  obtain ⟨a, dx, fs, rfl, ha, q⟩ := h
  obtain ⟨u, rfl, ru⟩ := vals1 r
  obtain rfl : u = Value.ref a := ru
  obtain ⟨mA, O, _⟩ := ins_get I.hok ha
  obtain ⟨od, J, _⟩ := O.look
  obtain ⟨m, fr⟩ := I.fr
  refine PySem.W.repr_K hr.in1.units0 fr I.ok.mod.kin J hm.at_ hm.fn (thn (run_in1 (us := [.ref a]) (vs := [.ref a]) F hr hx I (.cons rfl .nil) q) fun v s' hv => ?_)
  obtain ⟨v0, H', I', rv, z, ev, qn⟩ := hv
  subst ev
  obtain ⟨t, rfl⟩ := rv
  exact ⟨.str z, H', I', ⟨_, rfl⟩, qn⟩
end

/-! ### t[::-1] of a tuple -/
section
theorem adjust_back (n : Nat) : Builtin.Slice.sliceAdjust none none (-1) (n : Int) = ((n : Int) - 1, -1) := by
  unfold Builtin.Slice.sliceAdjust
  simp
theorem places_back (n : Nat) : Builtin.Slice.slicePlaces ((n : Int) - 1) (-1) (-1) = n := by
  unfold Builtin.Slice.slicePlaces
  simp
  omega
theorem pick_back (xs : Array Value) : ((List.range xs.size).filterMap fun (m : Nat) => xs[(((xs.size : Int) - 1) + (m : Int) * (-1)).toNat]?).toArray = xs.toList.reverse.toArray := by
  congr 1
  apply List.ext_getElem?
  intro i
  have key : ∀ k, k ≤ xs.size → (List.range k).filterMap (fun (m : Nat) => xs[(((xs.size : Int) - 1) + (m : Int) * (-1)).toNat]?) = xs.toList.reverse.take k := by
    intro k
    induction k with
    | zero => intro _; rfl
    | succ k ih =>
      intro hk
      rw [List.range_succ, List.filterMap_append, ih (by omega), List.take_add_one]
      congr 1
      have e1 : (((xs.size : Int) - 1) + (k : Int) * (-1)).toNat = xs.size - 1 - k := by omega
      rw [List.filterMap_cons, e1, List.getElem?_reverse (by rw [Array.length_toList]; omega), Array.length_toList, Array.getElem?_toList]
      rw [Array.getElem?_eq_getElem (by omega)]
      rfl
  rw [key xs.size (Nat.le_refl _), List.take_of_length_le (by rw [List.length_reverse, Array.length_toList]; exact Nat.le_refl _)]
variable {prog : Program} {w : World} {A : Around} {E : Value → Shared → Prop} {s : Shared}
theorem getItem_tuple_back {t sl : Addr} {items : Array Value} {vs : Value} {Q : Value → Shared → Prop} (ht : IsTup s.heap t items) (hs : s.heap.IsSliceOf sl .none .none vs) (ps : IsPart vs (some (-1)))
    (h : Q (.ref s.heap.objs.size) { s with heap := s.heap.push { cls := .type "tuple", data := .seq items.toList.reverse.toArray } }) (hsz : items.size ≤ sizeLine) : wpAny (model prog w) A (getItem (.ref t) (.ref sl)) Q E s := by
  obtain ⟨os, hos, hcs, hds⟩ := id hs
  have hTs : s.TypeIs (.ref sl) "slice" := ⟨os, hos, hcs⟩
  have hfit : sizeOk (.seq items.toList.reverse.toArray) := by
    show items.toList.reverse.toArray.size ≤ sizeLine
    rw [List.size_toArray, List.length_reverse, Array.length_toList]
    exact hsz
  unfold getItem
  try with_reducible refine wpAny_holding ?_
  first | refine wpAny_bind (wpAny_pure ?_) | skip
  refine wpAny_bind (wpAny_sequenceKey ht.typeIs (by decide) (wpAny_bind (wpAny_callSpecial?_slot (name := Str.ofString "__getitem__") ht.typeIs PyProof.Rows.slot_tuple_getitem
    (wpAny_call_entry PyProof.Rows.slot_tuple_getitem ht.typeIs entry_tuple_getitem ?_ (args_tuple_getitem _ _)))))
  show wpAny _ _ (Builtin.Tuple.tupleItemsOf (.ref t) >>= _) _ _ s
  refine wpAny_bind (tupleItemsOf_ ht (wpAny_bind (wpAny_typeOf hTs ?_)))
  rw [if_pos (by decide)]
  refine wpAny_bind ?_
  unfold Builtin.Slice.sliceApplied Builtin.Slice.sliceFields
  refine wpAny_bind (wpAny_bind (wpAny_field hos hds (x := .none) rfl (wpAny_bind (wpAny_field hos hds (x := .none) rfl (wpAny_bind (wpAny_field hos hds (x := vs) rfl (wpAny_pure ?_)))))))
  refine wpAny_bind (HT.slicePart_ ps ?_)
  show wpAny _ _ (if ((-1 : Int) == 0) = true then _ else _) _ _ s
  rw [if_neg (by decide)]
  refine wpAny_bind (slicePart_none (wpAny_bind (slicePart_none (wpAny_bind (wpAny_pure ?_)))))
  show wpAny _ _ (match Builtin.Slice.sliceAdjust none none (-1) (items.size : Int) with | (lo, hi) => pure (lo, (-1 : Int), Builtin.Slice.slicePlaces lo hi (-1))) _ _ s
  rw [adjust_back]
  show wpAny _ _ (pure ((items.size : Int) - 1, (-1 : Int), Builtin.Slice.slicePlaces ((items.size : Int) - 1) (-1) (-1))) _ _ s
  rw [places_back]
  refine wpAny_pure ?_
  have hno : ¬ ((((items.size : Int) - 1) == 0 && (-1 : Int) == 1 && items.size == items.size) = true) := by
    rw [show ((-1 : Int) == 1) = false from rfl, Bool.and_false, Bool.false_and]
    exact Bool.false_ne_true
  show wpAny _ _ (if (((items.size : Int) - 1) == 0 && (-1 : Int) == 1 && items.size == items.size) = true then _ else _) _ _ s
  rw [if_neg hno, pick_back]
  first
    | exact wpAny_bind (m := Builtin.Tuple.tupleExact _) (wpAny_newObj_type (wpAny_pure ⟨_, rfl, wpAny_pure h⟩) hfit)
    | exact wpAny_bind (m := Builtin.Tuple.tupleExact _) (wpAny_newObj_type (wpAny_bind (wpAny_pure (wpAny_pure ⟨_, rfl, wpAny_pure h⟩))) hfit)
    | exact wpAny_bind (wpAny_bind (m := Builtin.Tuple.tupleExact _) (wpAny_newObj_type (wpAny_pure (wpAny_pure ⟨_, rfl, wpAny_pure h⟩)) hfit))
    | exact wpAny_bind (wpAny_bind (m := Builtin.Tuple.tupleExact _) (wpAny_newObj_type (wpAny_pure ⟨_, rfl, wpAny_pure h⟩) hfit))
end
section
variable {X : Cx}
def tRevT (K : PySem.W.Frag) (te : TE) : TE := fun σ H Q => te σ H fun x H1 => ∃ a xs, x = .ref a ∧ SqT K H1 a xs ∧ ∀ p, H1 p = none → Q (.ref p) (upd H1 p (.tup xs.reverse))
theorem pe_revT {e : Expr} {te : TE} {k : Nat} {p1 p2 p3 pos : Pos} (he : PE X e te) : PE X (.Subscript e (.Slice none none (some (.UnaryOp .USub (.Constant (.int 1) k p1) p2)) p3) pos) (tRevT X.K te) := by
  refine ⟨fun pins s σ H Q I h => ?_⟩
  refine Subscript_ (thn (he.run pins s σ H _ I h) fun v s1 ⟨x, H1, I1, r1, a, xs, ex, hx, q⟩ => ?_)
  subst ex
  obtain rfl : v = Value.ref a := r1
  have step : PO X (some (.UnaryOp .USub (.Constant (.int 1) k p1) p2)) (tPart (tUn (rU fun i => .int (-i)) (tC (.int 1)))) := po_some (pe_un un_neg pe_int)
  refine wpAny_Slice (thn (po_none.run pins s1 σ H1 (fun o H2 => o = none ∧ H2 = H1) I1 ⟨rfl, rfl⟩) fun vl s2 ⟨l, H2, I2, pl, el, e2⟩ => ?_)
  subst el e2
  refine thn (po_none.run pins s2 σ H2 (fun o H3 => o = none ∧ H3 = H2) I2 ⟨rfl, rfl⟩) fun vu s3 ⟨u, H3, I3, pu, eu, e3⟩ => ?_
  subst eu e3
  refine thn (step.run pins s3 σ H3 (fun o H4 => o = some (-1) ∧ H4 = H3) I3 ⟨1, rfl, -1, rfl, rfl, rfl⟩) fun vs s4 ⟨o, H4, I4, ps, eo, e4⟩ => ?_
  subst eo e4
  have I5 : Inv X pins σ H4 { s4 with heap := s4.heap.push { cls := .type "slice", data := .fields #[vl, vu, vs] } } := I4.kept (t' := s4.toks) fun b ob q => Heap.get?_push_of_some _ q
  obtain ⟨its, r, ht, hz⟩ := I5.tuple hx
  have hlen := r.length
  cases pl
  cases pu
  refine tail_any (ops := [.ref a, .ref s4.heap.objs.size]) ht.typeIs PyProof.Rows.slot_tuple_getitem.lookup ?_ (by with_unfolding_all rfl)
  refine getItem_tuple_back ht (Heap.IsSliceOf.new _ .none .none vs) ps ?_ (by rw [List.size_toArray]; omega)
  refine ⟨.ref _, _, I5.laid (t' := s4.toks) (o := .tup xs.reverse) (fun b ob q => Heap.get?_push_of_some _ q) (Nat.le_refl _) ?_, rfl, q _ (I5.hok.fresh (Nat.le_refl _))⟩
  exact ⟨by rw [List.length_reverse]; exact hz, _, r.reverse, ⟨_, Heap.get?_push_size _ rfl, rfl, _, rfl⟩⟩
end

/-! ### marks.count(True) -/
section
variable {X : Cx}
def rCntB (K : PySem.W.Frag) : V → List V → Hp → VK → Prop := fun x xs H Q => ∃ (p : Addr) (bs : List Bool) (b : Bool), x = .ref p ∧ xs = [.bl b] ∧ SqL K H p (bs.map V.bl) ∧ Q (.int (bs.count b : Nat)) H
theorem eqU_count {bs : List Bool} {b : Bool} : ∀ {us : List Value}, Vals (bs.map V.bl) us → us.countP (eqU (.bl b)) = bs.count b := by
  induction bs with
  | nil =>
    intro us r
    cases r
    rfl
  | cons c bs ih =>
    intro us r
    cases r with
    | @cons _ u _ us ru rr =>
      obtain rfl : u = Value.bool c := ru
      rw [List.countP_cons, List.count_cons, ih rr]
      cases b <;> cases c <;> rfl
theorem mt_countB : MtR X "list.count" (rCntB X.K) := by
  intro pins s σ H x xs v us Q I rx rxs h
  obtain ⟨p, bs, b, rfl, rfl, hs, q⟩ := h
  obtain rfl : v = Value.ref p := rx
  obtain ⟨u, rfl, ru⟩ := rxs.one
  obtain ⟨its, rv, ⟨⟨cls, dd, data, sl⟩, n, ho, hc, hdn, hd⟩, hlen⟩ := I.list hs
  simp only at hc hd
  subst hc hd
  have fl : (bs.map V.bl).all flatV = true := by
    rw [List.all_map]
    exact List.all_eq_true.mpr fun _ _ => rfl
  refine call_meets PySem.F.slot_list_count ⟨_, ho, rfl⟩ PySem.F.entry_list_count (PySem.F.args_list_count_2 _ _)
    (SeqAt.list_countAt p its.toArray n dd sl u (eqU (.bl b))) ⟨ho, fun y hy => mem_eqAt ru rfl rv fl y (by simpa using hy), ?_⟩
  refine ⟨.int (bs.count b : Nat), H, I.tok _, ⟨s.toks, ?_⟩, q⟩
  show Value.int ((its.toArray.toList.countP (eqU (.bl b)) : Nat) : Int) s.toks = _
  rw [show its.toArray.toList = its by simp, eqU_count rv]
end

/-! ### *earlier, last = t -/
section
variable {X : Cx}
def gStarLast (K : PySem.W.Frag) (i j : Nat) : TG := fun v σ H Q => ∃ a xs y, v = .ref a ∧ SqT K H a (xs ++ [y]) ∧ xs.length ≤ 1000 ∧ ∀ D, H D = none → Q ((σ.set i (some (.ref D))).set j (some y)) (upd H D (.lst xs))
theorem pg_starLast {i j : Nat} {x y : Str} {k : Nat} {p1 p2 p3 pos : Pos} (hc : X.calm = true) (hN : X.N.Nodup) (hi : X.N[i]? = some x) (hj : X.N[j]? = some y) (hx : X.env.scope.names.lookup x = some .local) (hy : X.env.scope.names.lookup y = some .local)
    (he : (assignEach [.Starred (.Name x p1) p2, .Name y p3] X.env).map (·.2) = [assign (.Name x p1) X.env, assign (.Name y p3) X.env] := by rfl)
    (hn : (assignEach [.Starred (.Name x p1) p2, .Name y p3] X.env).length = 2 := by rfl) (hst : (assignEach [.Starred (.Name x p1) p2, .Name y p3] X.env).findIdx? (·.1) = some 0 := by rfl) :
    PG X (.Tuple [.Starred (.Name x p1) p2, .Name y p3] k pos) (gStarLast X.K i j) := by
  refine ⟨fun pins s σ H v u Q I r hw => ?_⟩
  obtain ⟨a, xs, z, ev, hq, hl, hw⟩ := hw
  subst ev
  obtain rfl : u = Value.ref a := r
  obtain ⟨its, rv, ht, hz⟩ := I.tuple hq
  have hlen : xs.length + 1 = its.length := by
    have e := rv.length
    rw [List.length_append, List.length_singleton] at e
    exact e
  obtain ⟨m, fr⟩ := I.fr
  have r1 : Vals xs (its.take xs.length) := by
    have e := rv.take xs.length
    rwa [List.take_left] at e
  have r2 : Vals [z] (its.drop xs.length) := by
    have e := rv.drop xs.length
    rwa [List.drop_left] at e
  obtain ⟨uz, euz, ruz⟩ := vals1 r2
  refine PySem.W.kun_assignT (news := allNews X.base s.heap X.env.locals) (first := []) (mids := its.take xs.length) (lasts := [uz]) fr news_all ht (I.ok.hd hc) hn hst (by decide) (by rw [List.size_toArray]; omega) (by rw [List.size_toArray]; omega) rfl ?_ ?_ fun D h' tk F' N' l1 => ?_
  · rw [List.drop_zero, List.size_toArray, ← hlen]
    rfl
  · rw [List.drop_zero, List.size_toArray, ← hlen]
    exact euz
  · have kp : ∀ b o, b ≠ X.env.locals → s.heap.get? b = some o → h'.get? b = some o := fun b o hb e => by
      cases q : X.base.get? b with
      | some u =>
        have e2 := I.bk b u q
        rw [e] at e2
        cases e2
        exact F'.keep b _ q
      | none => exact (N' (b, o) (List.mem_cons_of_mem _ (mem_allNews hb q e))).1
    obtain ⟨hD, nD, bD⟩ := N' _ List.mem_cons_self
    have gone : s.heap.get? D = none := by
      cases q : s.heap.get? D with
      | none => rfl
      | some o => exact absurd (l1 (D, o) (mem_allNews nD bD q)) (Nat.lt_irrefl _)
    have hn0 : H D = none := by
      cases q : H D with
      | none => rfl
      | some o =>
        have z := (I.hok D o q).stay (h' := s.heap) (fun _ _ _ e => e) (fun _ e => e) fun _ _ e => e
        cases o with
        | lst _ => obtain ⟨_, _, _, _, e⟩ := z; rw [gone] at e; cases e
        | tup _ => obtain ⟨_, _, _, _, e, _⟩ := z; rw [gone] at e; cases e
        | dK _ => obtain ⟨_, _, _, _, _, _, _, e, _⟩ := z; rw [gone] at e; cases e
        | dT _ => obtain ⟨_, _, _, _, _, _, _, e, _⟩ := z; rw [gone] at e; cases e
        | set _ _ => obtain ⟨_, _, _, _, e, _⟩ := z; rw [gone] at e; cases e
        | ins _ _ _ => obtain ⟨_, _, _, e, _⟩ := z; rw [gone] at e; cases e
        | own _ => obtain ⟨_, e⟩ := z; rw [gone] at e; cases e
        | xd _ => obtain ⟨_, ⟨_, _, _, e, _⟩, _⟩ := z; rw [gone] at e; cases e
        | rng _ _ => obtain ⟨_, _, _, e⟩ := z; rw [gone] at e; cases e
        | frz _ _ => obtain ⟨e, _⟩ := z; rw [gone] at e; cases e
        | tbl _ => have e : s.heap.get? D = some _ := z; rw [gone] at e; cases e
        | met _ _ => have e : s.heap.get? D = some _ := z; rw [gone] at e; cases e
        | ext _ => obtain ⟨_, ⟨_, e⟩, _⟩ := z; rw [gone] at e; cases e
    have nL : ∀ {b o}, H b = some o → b ≠ X.env.locals := fun {b o} e z => by
      rw [z, I.free] at e
      cases e
    have ok1 : HOk X.prog X.w (upd H D (.lst xs)) h' := fun b o e => by
      by_cases hb : b = D
      · subst hb
        rw [upd_same] at e
        cases e
        refine ⟨?_, its.take xs.length, 0, r1, hD⟩
        rw [List.length_append, List.length_singleton] at hz
        omega
      · rw [upd_ne hb] at e
        refine (I.hok b o e).stay (fun c v hc q => kp c v ?_ q) (fun c q => by rw [upd_ne (ne_of_none q hn0)]; exact q) fun c ys q => by rw [upd_ne (ne_of_none q hn0)]; exact q
        rcases hc with rfl | hc
        · exact nL e
        · exact nL hc
    have I1 : Inv X pins σ (upd H D (.lst xs)) { s with heap := h', toks := tk } := by
      refine I.step (g' := s.gens) (d' := s.drawn) (ch := []) (fun _ z => nomatch z) (fun b o hb _ _ e _ => kp b o hb e) (fun b o hb _ _ e _ => ⟨o.slots, kp b o hb e⟩) (fun b o _ e n => ?_) (fun b o _ e => ?_)
        (fun b ys e => by rw [upd_ne (ne_of_none e hn0)]; exact e) (fun b o u e => by rw [upd_ne (ne_of_none e hn0)]; exact e) (fun b ps e => ⟨#[], by rw [upd_ne (ne_of_none e hn0), e]; simp⟩) (fun m' hm => ?_) ok1 I.bare
      · rw [upd_ne fun z => by rw [z, gone] at e; cases e]
        exact n
      · by_cases hb : b = X.env.locals
        · obtain ⟨o', _, _, q, _⟩ := F'.ns
          exact ⟨o', by rw [hb]; exact q⟩
        · exact ⟨o, kp b o hb e⟩
      · rw [SlX.ns_only hm fr.ns]
        exact F'.ns
    rw [he]
    refine assignInOrder_cons (wpAny_assign_Name (store_ok I1 hN hi (.inl hx) (v := .ref D) rfl (fun s2 I2 => ?_) (.inr hx)))
    refine assignInOrder_cons (wpAny_assign_Name (store_ok I2 hN hj (.inl hy) ruz (fun s3 I3 => assignInOrder_nil ?_) (.inr hy)))
    exact ⟨_, _, I3, hw D hn0⟩
end
end K68R
/-! try with several clauses that name the error. -/
namespace K68R
open PySem PySem.Spec PyProof.Rows L2
/-- a clause «except x as n»: the class's value, n's slot, the suite's reading -/
structure Clause where
  x : Str
  n : Str
  c : Value
  i : Nat
  ts : Addr → Value → Option Addr → TS
/-- behind a suite the name is gone -/
def Ends.less (D : Ends) (i : Nat) : Ends := { nx := fun σ H => D.nx (σ.set i none) H, rt := D.rt, bk := fun σ H => D.bk (σ.set i none) H, ct := fun σ H => D.ct (σ.set i none) H }
def wNamed (K : PySem.W.Frag) (Wout : WX) (D : Ends) : List Clause → WX
  | [] => Wout
  | q :: r => fun cls d σ H => ∃ b, PySem.W.exmOne K cls q.c = some b ∧ (b = true → ∀ a, H a = none → q.ts a cls d (Ends.less D q.i) (σ.set q.i (some (.ref a))) H) ∧ (b = false → wNamed K Wout D r cls d σ H)
inductive Clauses (X : Cx) : List ExceptHandler → List Clause → Prop
  | nil : Clauses X [] []
  | cons {q : Clause} {b₀ : Stmt} {suite : List Stmt} {np pos' : Pos} {hds : List ExceptHandler} {l : List Clause} (hi : X.N[q.i]? = some q.n) (hl : X.env.kindOf q.n = some .local) (hc : Names X q.x q.c)
      (hs : ∀ (a : Addr) (oe : Obj) (cls : Value) (d : Option Addr) (pn : List (Addr × Obj)), Zc cls d oe → (∃ vs, oe.data = .fields vs) → PSs (X.suite a ((a, oe) :: pn)) (b₀ :: suite) (q.ts a cls d)) (r : Clauses X hds l) :
      Clauses X (.ExceptHandler (some (.Name q.x np)) (some q.n) (b₀ :: suite) pos' :: hds) (q :: l)
/-- an error of the body has been noted and lies on the way up: where it lies, and what was known when it was raised -/
structure Caught (X : Cx) (pins : List (Addr × Obj)) (σ : L2.St) (H : Hp) (a : Addr) (cls : Value) (d : Option Addr) (B : Heap) (sI s : Shared) (h : Heap) : Prop where
  inv : Inv X pins σ H sI
  nb : ∀ b o, sI.heap.get? b = some o → b ∉ frs X.stack → B.get? b = some o
  up : sI.heap.UpToSlots h
  os : s.os = sI.os
  ag : AllBare s.gens
  na : H a = none
  nL : a ≠ X.env.locals
  nF : a ∉ X.fs
section
variable {X : Cx} {pins : List (Addr × Obj)} {σ : L2.St} {H : Hp} {a : Addr} {cls : Value} {d : Option Addr} {B : Heap} {sI s : Shared} {h : Heap} {D : Ends} {Wout : WX}
theorem Caught.now (c : Caught X pins σ H a cls d B sI s h) (st : B.StaysIn h) : Inv X pins σ H { s with heap := h } := c.inv.landed c.nb st c.up c.os c.ag
theorem Caught.on {h' : Heap} (c : Caught X pins σ H a cls d B sI s h) (u : h.UpToSlots h') : Caught X pins σ H a cls d B sI s h' := ⟨c.inv, c.nb, c.up.trans u, c.os, c.ag, c.na, c.nL, c.nF⟩
/-- the clauses, one after another -/
theorem clauses_run (hs : X.stack = X.env :: X.outer) (hf : X.env.frame = some X.env.locals) (hN : X.N.Nodup) (tk : Takes X Wout) (ok : X.Ok) {hds : List ExceptHandler} {l : List Clause} (k : Clauses X hds l) :
    Caught X pins σ H a cls d B sI s h → HandSPX.FlyingZ B (X.env :: X.outer) a (Zc cls d) h → wNamed X.K Wout D l cls d σ H →
    wpAny (model X.prog X.w) X.A (handleBy (.ref a) X.env hds) (SP X pins D) X.xe { s with heap := h } := by
  induction k generalizing h with
  | nil =>
    intro C fl w
    refine wpAny_handleBy_nil ?_
    obtain ⟨k1, k2, k3, oe, vs, T, oT, ts', he, hz, hd, h1, hr⟩ := id fl
    have out : wpAny (model X.prog X.w) X.A (setFlight (.ref a) X.env.frame) (fun _ s4 => wpAny (model X.prog X.w) X.A (throw (.ref a) : Sem Flow) (SP X pins D) X.xe s4) X.xe { s with heap := h } := by
      rw [hf]
      refine HandSPX.setFlight_upZ fl fun h4 hh4 up4 => wpAny_throw (tk _ _ ?_)
      exact ⟨a, B, sI, pins, σ, H, cls, d, rfl, C.inv, C.nb, C.up.trans up4, .inr (.inr (by rw [hs]; exact hh4)), C.na, C.os, C.ag, w⟩
    unfold PySem.passOn
    refine wpAny_bind (wpAny_field he hd h1 ?_)
    rw [if_neg (show ¬ ((Value.ref T == Value.none) = true) from by simp)]
    first
      | exact wpAny_bind (wpAny_pure (wpAny_bind out))
      | exact wpAny_bind out
  | @cons q b₀ suite np pos' hds l hi hl hc hsu r ih =>
    intro C fl w
    obtain ⟨b, hb1, hyes, hno⟩ := w
    obtain ⟨oe, vs, he, hz, hd⟩ := fl.there
    have J := C.now fl.1
    have S := J.suite he hd C.na C.nL C.nF
    refine wpAny_handleBy_cons (codeAny_handlers_test ?_) (by intro z; cases z)
    have LT : PySem.W.Looks (model X.prog X.w) h (typeOf (.ref a)) cls := fun A Q E s k z => wpAny_typeOf_ref (k _ _ he) (by rw [hz.1]; exact z)
    have LM := PySem.W.exm_one (M := model X.prog X.w) J.kIn LT hb1
    have ask : ∀ {Q : Value → Shared → Prop} {E : Value → Shared → Prop}, Q q.c { s with heap := h } → wpAny (model X.prog X.w) (X.A.mark (some (.ref a))) (eval (.Name q.x np) X.env) Q E { s with heap := h } := fun {Q E} z => by
      obtain ⟨hg, hdbg, hm | ⟨hm, hv, hnn⟩⟩ := hc
      · exact ld_glob (X := X.suite a ((a, oe) :: (X.pn ++ pins))) S hg hm z hdbg
      · exact ld_blt (X := X.suite a ((a, oe) :: (X.pn ++ pins))) S hg hm hv z hnn hdbg
    refine ask (LM.here ?_)
    cases b with
    | false => exact ih C fl (hno rfl)
    | true =>
      refine codeAny_handlers_suite_as (HandSPX.lands_againZ fl fun h4 fl4 up4 => ?_)
      have C4 := C.on up4
      have J4 := C4.now fl4.1
      obtain ⟨oe4, vs4, he4, hz4, hd4⟩ := fl4.there
      have S4 := J4.suite he4 hd4 C.na C.nL C.nF
      refine store_ok (X := X.suite a ((a, oe4) :: (X.pn ++ pins))) (v := .ref a) S4 hN hi (.inl hl) rfl (fun s5 S5 => ?_) (.inr hl)
      refine wpAny_mono ((hsu a oe4 cls d (X.pn ++ pins) hz4 ⟨_, hd4⟩).run [] s5 _ H _ S5 (hyes rfl a C.na)) (fun f s6 e6 => ?_) (fun _ _ z => False.elim z)
      have fin : ∀ {σ6 : L2.St} {H6 : Hp} {P : Shared → Prop}, Inv (X.suite a ((a, oe4) :: (X.pn ++ pins))) [] σ6 H6 s6 → (∀ s7, Inv X pins (σ6.set q.i none) H6 s7 → P s7) →
          wpAny (model X.prog X.w) X.A (do bindName X.env q.n .none; unbindBehindTheSuite X.env q.n pos') (fun _ s7 => P s7) X.xe s6 := fun {σ6 H6 P} z g => gone_ok (z.unsuite ok) hN hi hl g
      cases f with
      | next => exact let ⟨_, _, z, g⟩ := e6; fin z fun s7 J7 => ⟨_, _, J7, g⟩
      | brk => exact let ⟨_, _, z, g⟩ := e6; fin z fun s7 J7 => ⟨_, _, J7, g⟩
      | cont => exact let ⟨_, _, z, g⟩ := e6; fin z fun s7 J7 => ⟨_, _, J7, g⟩
      | ret u => exact let ⟨_, _, _, z, rv, g⟩ := e6; fin z fun s7 J7 => ⟨_, _, _, J7, rv, g⟩
/-- try: body, except x1 as n1: .., except x2 as n2: .. -/
theorem ps_try_named {body : List Stmt} {h₀ : ExceptHandler} {hds : List ExceptHandler} {l : List Clause} {pos : Pos} {tb : WX → TS} (hs : X.stack = X.env :: X.outer) (hf : X.env.frame = some X.env.locals) (hN : X.N.Nodup) (tk : Takes X Wout)
    (hb : ∀ (W : WX) (pn : List (Addr × Obj)) (xe : Value → Shared → Prop), Takes (X.tr pn xe) W → PassesOwn (model X.prog X.w) X.A X.env xe → PSs (X.tr pn xe) body (tb W)) (hh : Clauses X (h₀ :: hds) l) :
    PS X (.Try body (h₀ :: hds) [] [] pos) (fun D σ H => tb (wNamed X.K Wout D l) D σ H) := by
  refine ⟨fun pins s σ H D I h => wpAny_Try_except ?_⟩
  have ok := I.ok
  have hfr : X.A.frames = some (X.env :: X.outer) := by rw [ok.frames, hs]
  refine wpAny_mono ((hb (wNamed X.K Wout D l) (X.pn ++ pins) (fun e s₁ => wpAny (model X.prog X.w) X.A (noteFrame e X.env) (fun _ s₂ => wpAny (model X.prog X.w) X.A (setFlight e none) (fun _ s₃ =>
    wpAny (model X.prog X.w) X.A (handleBy e X.env (h₀ :: hds)) (SP X pins D) X.xe s₃) X.xe s₂) X.xe s₁) (fun u s' xx => ?_) PassesOwn.looking).run [] s σ H D (I.toTry _) h) (fun f s1 hsp => ?_) (fun e s1 he => he)
  · obtain ⟨a, B, sI, pins', σ', H', cls, d, rfl, J', nb, up, sky, na, os, ag, w⟩ := xx
    have sky' : Sky B (X.env :: X.outer) a (Zc cls d) X.env.locals s'.heap := by rw [← hs]; exact sky
    show wpAny (model X.prog X.w) X.A (noteFrame (.ref a) X.env) _ _ _
    refine Sky.land Zc.steady hfr hf sky' fun h3 fl3 up3 => ?_
    obtain ⟨oe, vs, he, hz, hd⟩ := fl3.there
    have nfr : a ∉ frs (X.env :: X.outer) := fun hm => by
      obtain ⟨_, o', e', hnf⟩ := fl3.2.2.1.mem hm
      rw [he] at e'
      cases e'
      exact hnf _ hd
    have nL : a ≠ X.env.locals := fun z => nfr (List.mem_filterMap.mpr ⟨X.env, List.mem_cons_self, by rw [hf, z]⟩)
    have nF : a ∉ X.fs := fun hm => by
      obtain ⟨e, he, q⟩ := List.mem_filterMap.mp hm
      exact nfr (List.mem_filterMap.mpr ⟨e, List.mem_cons_of_mem _ he, q⟩)
    exact clauses_run hs hf hN tk ok hh ⟨J'.ofTry ok, nb, up.trans up3, os, ag, na, nL, nF⟩ fl3 w
  · cases f with
    | next => exact let ⟨_, _, z, g⟩ := hsp; wpAny_execs_nil ⟨_, _, z.ofTry ok, g⟩
    | brk => exact let ⟨_, _, z, g⟩ := hsp; ⟨_, _, z.ofTry ok, g⟩
    | cont => exact let ⟨_, _, z, g⟩ := hsp; ⟨_, _, z.ofTry ok, g⟩
    | ret u => exact let ⟨_, _, _, z, rv, g⟩ := hsp; ⟨_, _, _, z.ofTry ok, rv, g⟩
end
end K68R
namespace K68T
open PySem PySem.Spec PyProof.Rows L2 K68R K68K K68
def Txt (K : PySem.W.Frag) (mg : Str → Option Value) : Prop := ∃ h : Heap, K.In h ∧ h.Ns mainGlobals mg ∧ SaysZ fa fn tf ex h K
section
variable {K : PySem.W.Frag} {mg : Str → Option Value}
namespace Txt
theorem g_no_map (T : Txt K mg) : mg "no_map" = some (.ref (He.ga K "no_map")) := by
  obtain ⟨h, X, G, c⟩ := T
  exact He.glo_ok X G (c.fact 0 _ rfl)
theorem g_letter_map (T : Txt K mg) : mg "letter_map" = some (.ref (He.ga K "letter_map")) := by
  obtain ⟨h, X, G, c⟩ := T
  exact He.glo_ok X G (c.fact 1 _ rfl)
theorem g_after (T : Txt K mg) : mg "after" = some (.ref (He.ga K "after")) := by
  obtain ⟨h, X, G, c⟩ := T
  exact He.glo_ok X G (c.fact 2 _ rfl)
theorem g_joined (T : Txt K mg) : mg "joined" = some (.ref (He.ga K "joined")) := by
  obtain ⟨h, X, G, c⟩ := T
  exact He.glo_ok X G (c.fact 3 _ rfl)
theorem g_appended (T : Txt K mg) : mg "appended" = some (.ref (He.ga K "appended")) := by
  obtain ⟨h, X, G, c⟩ := T
  exact He.glo_ok X G (c.fact 4 _ rfl)
theorem g_map_of (T : Txt K mg) : mg "map_of" = some (.ref (He.ga K "map_of")) := by
  obtain ⟨h, X, G, c⟩ := T
  exact He.glo_ok X G (c.fact 5 _ rfl)
theorem g_outcome (T : Txt K mg) : mg "outcome" = some (.ref (He.ga K "outcome")) := by
  obtain ⟨h, X, G, c⟩ := T
  exact He.glo_ok X G (c.fact 6 _ rfl)
theorem g_is_integer (T : Txt K mg) : mg "is_integer" = some (.ref (He.ga K "is_integer")) := by
  obtain ⟨h, X, G, c⟩ := T
  exact He.glo_ok X G (c.fact 7 _ rfl)
theorem g_is_between (T : Txt K mg) : mg "is_between" = some (.ref (He.ga K "is_between")) := by
  obtain ⟨h, X, G, c⟩ := T
  exact He.glo_ok X G (c.fact 8 _ rfl)
theorem g_is_row (T : Txt K mg) : mg "is_row" = some (.ref (He.ga K "is_row")) := by
  obtain ⟨h, X, G, c⟩ := T
  exact He.glo_ok X G (c.fact 9 _ rfl)
theorem g_is_word (T : Txt K mg) : mg "is_word" = some (.ref (He.ga K "is_word")) := by
  obtain ⟨h, X, G, c⟩ := T
  exact He.glo_ok X G (c.fact 10 _ rfl)
theorem g_is_machine (T : Txt K mg) : mg "is_machine" = some (.ref (He.ga K "is_machine")) := by
  obtain ⟨h, X, G, c⟩ := T
  exact He.glo_ok X G (c.fact 11 _ rfl)
theorem g_need_machine (T : Txt K mg) : mg "need_machine" = some (.ref (He.ga K "need_machine")) := by
  obtain ⟨h, X, G, c⟩ := T
  exact He.glo_ok X G (c.fact 12 _ rfl)
theorem g_need_word (T : Txt K mg) : mg "need_word" = some (.ref (He.ga K "need_word")) := by
  obtain ⟨h, X, G, c⟩ := T
  exact He.glo_ok X G (c.fact 13 _ rfl)
theorem g_result_of (T : Txt K mg) : mg "result_of" = some (.ref (He.ga K "result_of")) := by
  obtain ⟨h, X, G, c⟩ := T
  exact He.glo_ok X G (c.fact 14 _ rfl)
theorem g_whole_of (T : Txt K mg) : mg "whole_of" = some (.ref (He.ga K "whole_of")) := by
  obtain ⟨h, X, G, c⟩ := T
  exact He.glo_ok X G (c.fact 15 _ rfl)
theorem g__law_cell (T : Txt K mg) : mg "_law_cell" = some (.ref (He.ga K "_law_cell")) := by
  obtain ⟨h, X, G, c⟩ := T
  exact He.glo_ok X G (c.fact 16 _ rfl)
theorem g__law_draws (T : Txt K mg) : mg "_law_draws" = some (.ref (He.ga K "_law_draws")) := by
  obtain ⟨h, X, G, c⟩ := T
  exact He.glo_ok X G (c.fact 17 _ rfl)
theorem g__law_is_same (T : Txt K mg) : mg "_law_is_same" = some (.ref (He.ga K "_law_is_same")) := by
  obtain ⟨h, X, G, c⟩ := T
  exact He.glo_ok X G (c.fact 18 _ rfl)
theorem g__law_read (T : Txt K mg) : mg "_law_read" = some (.ref (He.ga K "_law_read")) := by
  obtain ⟨h, X, G, c⟩ := T
  exact He.glo_ok X G (c.fact 19 _ rfl)
theorem g__law_monoids (T : Txt K mg) : mg "_law_monoids" = some (.ref (He.ga K "_law_monoids")) := by
  obtain ⟨h, X, G, c⟩ := T
  exact He.glo_ok X G (c.fact 20 _ rfl)
theorem g__law_any (T : Txt K mg) : mg "_law_any" = some (.ref (He.ga K "_law_any")) := by
  obtain ⟨h, X, G, c⟩ := T
  exact He.glo_ok X G (c.fact 21 _ rfl)
theorem g__law_splitting (T : Txt K mg) : mg "_law_splitting" = some (.ref (He.ga K "_law_splitting")) := by
  obtain ⟨h, X, G, c⟩ := T
  exact He.glo_ok X G (c.fact 22 _ rfl)
theorem g__law_machine (T : Txt K mg) : mg "_law_machine" = some (.ref (He.ga K "_law_machine")) := by
  obtain ⟨h, X, G, c⟩ := T
  exact He.glo_ok X G (c.fact 23 _ rfl)
theorem g__law_word (T : Txt K mg) : mg "_law_word" = some (.ref (He.ga K "_law_word")) := by
  obtain ⟨h, X, G, c⟩ := T
  exact He.glo_ok X G (c.fact 24 _ rfl)
theorem g__law_said (T : Txt K mg) : mg "_law_said" = some (.ref (He.ga K "_law_said")) := by
  obtain ⟨h, X, G, c⟩ := T
  exact He.glo_ok X G (c.fact 25 _ rfl)
theorem g__law_told (T : Txt K mg) : mg "_law_told" = some (.ref (He.ga K "_law_told")) := by
  obtain ⟨h, X, G, c⟩ := T
  exact He.glo_ok X G (c.fact 26 _ rfl)
theorem g__law_due (T : Txt K mg) : mg "_law_due" = some (.ref (He.ga K "_law_due")) := by
  obtain ⟨h, X, G, c⟩ := T
  exact He.glo_ok X G (c.fact 27 _ rfl)
theorem g__law_limit (T : Txt K mg) : mg "_law_limit" = some (.ref (He.ga K "_law_limit")) := by
  obtain ⟨h, X, G, c⟩ := T
  exact He.glo_ok X G (c.fact 28 _ rfl)
theorem g__law_made (T : Txt K mg) : mg "_law_made" = some (.ref (He.ga K "_law_made")) := by
  obtain ⟨h, X, G, c⟩ := T
  exact He.glo_ok X G (c.fact 29 _ rfl)
theorem g__law_refused (T : Txt K mg) : mg "_law_refused" = some (.ref (He.ga K "_law_refused")) := by
  obtain ⟨h, X, G, c⟩ := T
  exact He.glo_ok X G (c.fact 30 _ rfl)
theorem g__law_next (T : Txt K mg) : mg "_law_next" = some (.ref (He.ga K "_law_next")) := by
  obtain ⟨h, X, G, c⟩ := T
  exact He.glo_ok X G (c.fact 31 _ rfl)
theorem g__law_call (T : Txt K mg) : mg "_law_call" = some (.ref (He.ga K "_law_call")) := by
  obtain ⟨h, X, G, c⟩ := T
  exact He.glo_ok X G (c.fact 32 _ rfl)
theorem g__law_is_right (T : Txt K mg) : mg "_law_is_right" = some (.ref (He.ga K "_law_is_right")) := by
  obtain ⟨h, X, G, c⟩ := T
  exact He.glo_ok X G (c.fact 33 _ rfl)
theorem g_law (T : Txt K mg) : mg "law" = some (.ref (He.ga K "law")) := by
  obtain ⟨h, X, G, c⟩ := T
  exact He.glo_ok X G (c.fact 34 _ rfl)
theorem g_FoldError (T : Txt K mg) : mg "FoldError" = some (.ref (He.ga K "FoldError")) := by
  obtain ⟨h, X, G, c⟩ := T
  exact He.glo_ok X G (c.fact 35 _ rfl)
theorem g_MachineError (T : Txt K mg) : mg "MachineError" = some (.ref (He.ga K "MachineError")) := by
  obtain ⟨h, X, G, c⟩ := T
  exact He.glo_ok X G (c.fact 36 _ rfl)
theorem g_WordError (T : Txt K mg) : mg "WordError" = some (.ref (He.ga K "WordError")) := by
  obtain ⟨h, X, G, c⟩ := T
  exact He.glo_ok X G (c.fact 37 _ rfl)
theorem g_ResultError (T : Txt K mg) : mg "ResultError" = some (.ref (He.ga K "ResultError")) := by
  obtain ⟨h, X, G, c⟩ := T
  exact He.glo_ok X G (c.fact 38 _ rfl)
theorem g_MatchError (T : Txt K mg) : mg "MatchError" = some (.ref (He.ga K "MatchError")) := by
  obtain ⟨h, X, G, c⟩ := T
  exact He.glo_ok X G (c.fact 39 _ rfl)
theorem g_SplitError (T : Txt K mg) : mg "SplitError" = some (.ref (He.ga K "SplitError")) := by
  obtain ⟨h, X, G, c⟩ := T
  exact He.glo_ok X G (c.fact 40 _ rfl)
theorem g_NumberError (T : Txt K mg) : mg "NumberError" = some (.ref (He.ga K "NumberError")) := by
  obtain ⟨h, X, G, c⟩ := T
  exact He.glo_ok X G (c.fact 41 _ rfl)
theorem g_TableError (T : Txt K mg) : mg "TableError" = some (.ref (He.ga K "TableError")) := by
  obtain ⟨h, X, G, c⟩ := T
  exact He.glo_ok X G (c.fact 42 _ rfl)
theorem g_ValuesError (T : Txt K mg) : mg "ValuesError" = some (.ref (He.ga K "ValuesError")) := by
  obtain ⟨h, X, G, c⟩ := T
  exact He.glo_ok X G (c.fact 43 _ rfl)
theorem g_TextError (T : Txt K mg) : mg "TextError" = some (.ref (He.ga K "TextError")) := by
  obtain ⟨h, X, G, c⟩ := T
  exact He.glo_ok X G (c.fact 44 _ rfl)
theorem g_PlaceError (T : Txt K mg) : mg "PlaceError" = some (.ref (He.ga K "PlaceError")) := by
  obtain ⟨h, X, G, c⟩ := T
  exact He.glo_ok X G (c.fact 45 _ rfl)
theorem g_PiecesError (T : Txt K mg) : mg "PiecesError" = some (.ref (He.ga K "PiecesError")) := by
  obtain ⟨h, X, G, c⟩ := T
  exact He.glo_ok X G (c.fact 46 _ rfl)
theorem g_Unsteady (T : Txt K mg) : mg "Unsteady" = some (.ref (He.ga K "Unsteady")) := by
  obtain ⟨h, X, G, c⟩ := T
  exact He.glo_ok X G (c.fact 47 _ rfl)
theorem g_NothingDone (T : Txt K mg) : mg "NothingDone" = some (.ref (He.ga K "NothingDone")) := by
  obtain ⟨h, X, G, c⟩ := T
  exact He.glo_ok X G (c.fact 48 _ rfl)
theorem g_LimitError (T : Txt K mg) : mg "LimitError" = some (.ref (He.ga K "LimitError")) := by
  obtain ⟨h, X, G, c⟩ := T
  exact He.glo_ok X G (c.fact 49 _ rfl)
theorem g_Rope (T : Txt K mg) : mg "Rope" = some (.ref (He.ga K "Rope")) := by
  obtain ⟨h, X, G, c⟩ := T
  exact He.glo_ok X G (c.fact 50 _ rfl)
theorem g_Steady (T : Txt K mg) : mg "Steady" = some (.ref (He.ga K "Steady")) := by
  obtain ⟨h, X, G, c⟩ := T
  exact He.glo_ok X G (c.fact 51 _ rfl)
theorem g_Short (T : Txt K mg) : mg "Short" = some (.ref (He.ga K "Short")) := by
  obtain ⟨h, X, G, c⟩ := T
  exact He.glo_ok X G (c.fact 52 _ rfl)
theorem g_ShortSteady (T : Txt K mg) : mg "ShortSteady" = some (.ref (He.ga K "ShortSteady")) := by
  obtain ⟨h, X, G, c⟩ := T
  exact He.glo_ok X G (c.fact 53 _ rfl)
theorem f_tuple (T : Txt K mg) : mg "tuple" = none := by
  obtain ⟨h, X, G, c⟩ := T
  exact He.free_ok X G (c.fact 54 _ rfl)
theorem f_range (T : Txt K mg) : mg "range" = none := by
  obtain ⟨h, X, G, c⟩ := T
  exact He.free_ok X G (c.fact 55 _ rfl)
theorem f_len (T : Txt K mg) : mg "len" = none := by
  obtain ⟨h, X, G, c⟩ := T
  exact He.free_ok X G (c.fact 56 _ rfl)
theorem f_isinstance (T : Txt K mg) : mg "isinstance" = none := by
  obtain ⟨h, X, G, c⟩ := T
  exact He.free_ok X G (c.fact 57 _ rfl)
theorem f_int (T : Txt K mg) : mg "int" = none := by
  obtain ⟨h, X, G, c⟩ := T
  exact He.free_ok X G (c.fact 58 _ rfl)
theorem f_bool (T : Txt K mg) : mg "bool" = none := by
  obtain ⟨h, X, G, c⟩ := T
  exact He.free_ok X G (c.fact 59 _ rfl)
theorem f_str (T : Txt K mg) : mg "str" = none := by
  obtain ⟨h, X, G, c⟩ := T
  exact He.free_ok X G (c.fact 60 _ rfl)
theorem f_all (T : Txt K mg) : mg "all" = none := by
  obtain ⟨h, X, G, c⟩ := T
  exact He.free_ok X G (c.fact 61 _ rfl)
theorem f_sum (T : Txt K mg) : mg "sum" = none := by
  obtain ⟨h, X, G, c⟩ := T
  exact He.free_ok X G (c.fact 62 _ rfl)
theorem f_repr (T : Txt K mg) : mg "repr" = none := by
  obtain ⟨h, X, G, c⟩ := T
  exact He.free_ok X G (c.fact 63 _ rfl)
theorem f_super (T : Txt K mg) : mg "super" = none := by
  obtain ⟨h, X, G, c⟩ := T
  exact He.free_ok X G (c.fact 64 _ rfl)
theorem i_LEAST_LETTERS (T : Txt K mg) : ∃ t, mg "LEAST_LETTERS" = some (.int 2 t) := by
  obtain ⟨h, X, G, c⟩ := T
  exact He.int_ok X G (c.fact 65 _ rfl)
theorem i_MOST_LETTERS_machines (T : Txt K mg) : ∃ t, mg "MOST_LETTERS_machines" = some (.int 3 t) := by
  obtain ⟨h, X, G, c⟩ := T
  exact He.int_ok X G (c.fact 66 _ rfl)
theorem i_MOST_STATES (T : Txt K mg) : ∃ t, mg "MOST_STATES" = some (.int 4 t) := by
  obtain ⟨h, X, G, c⟩ := T
  exact He.int_ok X G (c.fact 67 _ rfl)
theorem i_MOST_RESULT (T : Txt K mg) : ∃ t, mg "MOST_RESULT" = some (.int 9 t) := by
  obtain ⟨h, X, G, c⟩ := T
  exact He.int_ok X G (c.fact 68 _ rfl)
theorem i_MOST_LETTERS_ropes (T : Txt K mg) : ∃ t, mg "MOST_LETTERS_ropes" = some (.int 40 t) := by
  obtain ⟨h, X, G, c⟩ := T
  exact He.int_ok X G (c.fact 69 _ rfl)
theorem i_MOST_PIECES (T : Txt K mg) : ∃ t, mg "MOST_PIECES" = some (.int 20 t) := by
  obtain ⟨h, X, G, c⟩ := T
  exact He.int_ok X G (c.fact 70 _ rfl)
theorem s_LEFT (T : Txt K mg) : ∃ t, mg "LEFT" = some (.str "left" t) := by
  obtain ⟨h, X, G, c⟩ := T
  exact He.str_ok X G (c.fact 71 _ rfl)
theorem s_RIGHT (T : Txt K mg) : ∃ t, mg "RIGHT" = some (.str "right" t) := by
  obtain ⟨h, X, G, c⟩ := T
  exact He.str_ok X G (c.fact 72 _ rfl)
theorem c_ (T : Txt K mg) (s : Srt) : Cls K (He.ga K (cname s)) := by
  obtain ⟨h, X, G, c⟩ := T
  cases s with
  | rope => exact He.cls_ok (c.fact 73 _ rfl)
  | std => exact He.cls_ok (c.fact 74 _ rfl)
  | sht => exact He.cls_ok (c.fact 75 _ rfl)
  | both => exact He.cls_ok (c.fact 76 _ rfl)

theorem n_own_machine (T : Txt K mg) (s : Srt) : NoAttr K (He.ga K (cname s)) "own_machine" := by
  obtain ⟨h, X, G, c⟩ := T
  cases s with
  | rope => exact He.noat_ok (c.fact 77 _ rfl)
  | std => exact He.noat_ok (c.fact 78 _ rfl)
  | sht => exact He.noat_ok (c.fact 79 _ rfl)
  | both => exact He.noat_ok (c.fact 80 _ rfl)

theorem n_kept (T : Txt K mg) (s : Srt) : NoAttr K (He.ga K (cname s)) "kept" := by
  obtain ⟨h, X, G, c⟩ := T
  cases s with
  | rope => exact He.noat_ok (c.fact 81 _ rfl)
  | std => exact He.noat_ok (c.fact 82 _ rfl)
  | sht => exact He.noat_ok (c.fact 83 _ rfl)
  | both => exact He.noat_ok (c.fact 84 _ rfl)

theorem n_past (T : Txt K mg) (s : Srt) : NoAttr K (He.ga K (cname s)) "past" := by
  obtain ⟨h, X, G, c⟩ := T
  cases s with
  | rope => exact He.noat_ok (c.fact 85 _ rfl)
  | std => exact He.noat_ok (c.fact 86 _ rfl)
  | sht => exact He.noat_ok (c.fact 87 _ rfl)
  | both => exact He.noat_ok (c.fact 88 _ rfl)

theorem n_own_most (T : Txt K mg) (s : Srt) : NoAttr K (He.ga K (cname s)) "own_most" := by
  obtain ⟨h, X, G, c⟩ := T
  cases s with
  | rope => exact He.noat_ok (c.fact 89 _ rfl)
  | std => exact He.noat_ok (c.fact 90 _ rfl)
  | sht => exact He.noat_ok (c.fact 91 _ rfl)
  | both => exact He.noat_ok (c.fact 92 _ rfl)

theorem m_init (T : Txt K mg) (s : Srt) : Mk K (He.ga K (cname s)) (He.ma K (He.ga K (owMost s)) "__init__") := by
  obtain ⟨h, X, G, c⟩ := T
  cases s with
  | rope => exact He.mkr_ok (c.fact 93 _ rfl)
  | std => exact (by have p := He.mkr_ok (c.fact 94 _ rfl); rw [(of_decide_eq_true (c.more 0 _ rfl) : He.ma K (He.ga K "Steady") "__init__" = He.ma K (He.ga K "Rope") "__init__")] at p; exact p)
  | sht => exact He.mkr_ok (c.fact 95 _ rfl)
  | both => exact (by have p := He.mkr_ok (c.fact 96 _ rfl); rw [(of_decide_eq_true (c.more 1 _ rfl) : He.ma K (He.ga K "ShortSteady") "__init__" = He.ma K (He.ga K "Short") "__init__")] at p; exact p)

theorem m_most_pieces (T : Txt K mg) (s : Srt) : Meth K (He.ga K (cname s)) "most_pieces" (He.ma K (He.ga K (owMost s)) "most_pieces") := by
  obtain ⟨h, X, G, c⟩ := T
  cases s with
  | rope => exact He.meth_ok (c.fact 97 _ rfl)
  | std => exact (by have p := He.meth_ok (c.fact 98 _ rfl); rw [(of_decide_eq_true (c.more 2 _ rfl) : He.ma K (He.ga K "Steady") "most_pieces" = He.ma K (He.ga K "Rope") "most_pieces")] at p; exact p)
  | sht => exact He.meth_ok (c.fact 99 _ rfl)
  | both => exact (by have p := He.meth_ok (c.fact 100 _ rfl); rw [(of_decide_eq_true (c.more 3 _ rfl) : He.ma K (He.ga K "ShortSteady") "most_pieces" = He.ma K (He.ga K "Short") "most_pieces")] at p; exact p)

theorem m_need_fit (T : Txt K mg) (s : Srt) : Meth K (He.ga K (cname s)) "need_fit" (He.ma K (He.ga K (owFit s)) "need_fit") := by
  obtain ⟨h, X, G, c⟩ := T
  cases s with
  | rope => exact He.meth_ok (c.fact 101 _ rfl)
  | std => exact He.meth_ok (c.fact 102 _ rfl)
  | sht => exact (by have p := He.meth_ok (c.fact 103 _ rfl); rw [(of_decide_eq_true (c.more 4 _ rfl) : He.ma K (He.ga K "Short") "need_fit" = He.ma K (He.ga K "Rope") "need_fit")] at p; exact p)
  | both => exact (by have p := He.meth_ok (c.fact 104 _ rfl); rw [(of_decide_eq_true (c.more 5 _ rfl) : He.ma K (He.ga K "ShortSteady") "need_fit" = He.ma K (He.ga K "Steady") "need_fit")] at p; exact p)

theorem m_change (T : Txt K mg) (s : Srt) : Meth K (He.ga K (cname s)) "change" (He.ma K (He.ga K "Rope") "change") := by
  obtain ⟨h, X, G, c⟩ := T
  cases s with
  | rope => exact He.meth_ok (c.fact 105 _ rfl)
  | std => exact (by have p := He.meth_ok (c.fact 106 _ rfl); rw [(of_decide_eq_true (c.more 6 _ rfl) : He.ma K (He.ga K "Steady") "change" = He.ma K (He.ga K "Rope") "change")] at p; exact p)
  | sht => exact (by have p := He.meth_ok (c.fact 107 _ rfl); rw [(of_decide_eq_true (c.more 7 _ rfl) : He.ma K (He.ga K "Short") "change" = He.ma K (He.ga K "Rope") "change")] at p; exact p)
  | both => exact (by have p := He.meth_ok (c.fact 108 _ rfl); rw [(of_decide_eq_true (c.more 8 _ rfl) : He.ma K (He.ga K "ShortSteady") "change" = He.ma K (He.ga K "Rope") "change")] at p; exact p)

theorem m_need_place (T : Txt K mg) (s : Srt) : Meth K (He.ga K (cname s)) "need_place" (He.ma K (He.ga K "Rope") "need_place") := by
  obtain ⟨h, X, G, c⟩ := T
  cases s with
  | rope => exact He.meth_ok (c.fact 109 _ rfl)
  | std => exact (by have p := He.meth_ok (c.fact 110 _ rfl); rw [(of_decide_eq_true (c.more 9 _ rfl) : He.ma K (He.ga K "Steady") "need_place" = He.ma K (He.ga K "Rope") "need_place")] at p; exact p)
  | sht => exact (by have p := He.meth_ok (c.fact 111 _ rfl); rw [(of_decide_eq_true (c.more 10 _ rfl) : He.ma K (He.ga K "Short") "need_place" = He.ma K (He.ga K "Rope") "need_place")] at p; exact p)
  | both => exact (by have p := He.meth_ok (c.fact 112 _ rfl); rw [(of_decide_eq_true (c.more 11 _ rfl) : He.ma K (He.ga K "ShortSteady") "need_place" = He.ma K (He.ga K "Rope") "need_place")] at p; exact p)

theorem m_add_right (T : Txt K mg) (s : Srt) : Meth K (He.ga K (cname s)) "add_right" (He.ma K (He.ga K "Rope") "add_right") := by
  obtain ⟨h, X, G, c⟩ := T
  cases s with
  | rope => exact He.meth_ok (c.fact 113 _ rfl)
  | std => exact (by have p := He.meth_ok (c.fact 114 _ rfl); rw [(of_decide_eq_true (c.more 12 _ rfl) : He.ma K (He.ga K "Steady") "add_right" = He.ma K (He.ga K "Rope") "add_right")] at p; exact p)
  | sht => exact (by have p := He.meth_ok (c.fact 115 _ rfl); rw [(of_decide_eq_true (c.more 13 _ rfl) : He.ma K (He.ga K "Short") "add_right" = He.ma K (He.ga K "Rope") "add_right")] at p; exact p)
  | both => exact (by have p := He.meth_ok (c.fact 116 _ rfl); rw [(of_decide_eq_true (c.more 14 _ rfl) : He.ma K (He.ga K "ShortSteady") "add_right" = He.ma K (He.ga K "Rope") "add_right")] at p; exact p)

theorem m_call (T : Txt K mg) (s : Srt) : StX.CallO K (He.ga K (cname s)) (He.ma K (He.ga K "Rope") "__call__") := by
  obtain ⟨h, X, G, c⟩ := T
  cases s with
  | rope => exact callB_ok (c.more 42 _ rfl)
  | std => exact (by have p := callB_ok (c.more 43 _ rfl); rw [(of_decide_eq_true (c.more 15 _ rfl) : He.ma K (He.ga K "Steady") "__call__" = He.ma K (He.ga K "Rope") "__call__")] at p; exact p)
  | sht => exact (by have p := callB_ok (c.more 44 _ rfl); rw [(of_decide_eq_true (c.more 16 _ rfl) : He.ma K (He.ga K "Short") "__call__" = He.ma K (He.ga K "Rope") "__call__")] at p; exact p)
  | both => exact (by have p := callB_ok (c.more 45 _ rfl); rw [(of_decide_eq_true (c.more 17 _ rfl) : He.ma K (He.ga K "ShortSteady") "__call__" = He.ma K (He.ga K "Rope") "__call__")] at p; exact p)

theorem m_add_left (T : Txt K mg) (s : Srt) : Meth K (He.ga K (cname s)) "add_left" (He.ma K (He.ga K "Rope") "add_left") := by
  obtain ⟨h, X, G, c⟩ := T
  cases s with
  | rope => exact He.meth_ok (c.fact 117 _ rfl)
  | std => exact (by have p := He.meth_ok (c.fact 118 _ rfl); rw [(of_decide_eq_true (c.more 18 _ rfl) : He.ma K (He.ga K "Steady") "add_left" = He.ma K (He.ga K "Rope") "add_left")] at p; exact p)
  | sht => exact (by have p := He.meth_ok (c.fact 119 _ rfl); rw [(of_decide_eq_true (c.more 19 _ rfl) : He.ma K (He.ga K "Short") "add_left" = He.ma K (He.ga K "Rope") "add_left")] at p; exact p)
  | both => exact (by have p := He.meth_ok (c.fact 120 _ rfl); rw [(of_decide_eq_true (c.more 20 _ rfl) : He.ma K (He.ga K "ShortSteady") "add_left" = He.ma K (He.ga K "Rope") "add_left")] at p; exact p)

theorem m_cut (T : Txt K mg) (s : Srt) : Meth K (He.ga K (cname s)) "cut" (He.ma K (He.ga K "Rope") "cut") := by
  obtain ⟨h, X, G, c⟩ := T
  cases s with
  | rope => exact He.meth_ok (c.fact 121 _ rfl)
  | std => exact (by have p := He.meth_ok (c.fact 122 _ rfl); rw [(of_decide_eq_true (c.more 21 _ rfl) : He.ma K (He.ga K "Steady") "cut" = He.ma K (He.ga K "Rope") "cut")] at p; exact p)
  | sht => exact (by have p := He.meth_ok (c.fact 123 _ rfl); rw [(of_decide_eq_true (c.more 22 _ rfl) : He.ma K (He.ga K "Short") "cut" = He.ma K (He.ga K "Rope") "cut")] at p; exact p)
  | both => exact (by have p := He.meth_ok (c.fact 124 _ rfl); rw [(of_decide_eq_true (c.more 23 _ rfl) : He.ma K (He.ga K "ShortSteady") "cut" = He.ma K (He.ga K "Rope") "cut")] at p; exact p)

theorem m_merge (T : Txt K mg) (s : Srt) : Meth K (He.ga K (cname s)) "merge" (He.ma K (He.ga K "Rope") "merge") := by
  obtain ⟨h, X, G, c⟩ := T
  cases s with
  | rope => exact He.meth_ok (c.fact 125 _ rfl)
  | std => exact (by have p := He.meth_ok (c.fact 126 _ rfl); rw [(of_decide_eq_true (c.more 24 _ rfl) : He.ma K (He.ga K "Steady") "merge" = He.ma K (He.ga K "Rope") "merge")] at p; exact p)
  | sht => exact (by have p := He.meth_ok (c.fact 127 _ rfl); rw [(of_decide_eq_true (c.more 25 _ rfl) : He.ma K (He.ga K "Short") "merge" = He.ma K (He.ga K "Rope") "merge")] at p; exact p)
  | both => exact (by have p := He.meth_ok (c.fact 128 _ rfl); rw [(of_decide_eq_true (c.more 26 _ rfl) : He.ma K (He.ga K "ShortSteady") "merge" = He.ma K (He.ga K "Rope") "merge")] at p; exact p)

theorem m_drop (T : Txt K mg) (s : Srt) : Meth K (He.ga K (cname s)) "drop" (He.ma K (He.ga K "Rope") "drop") := by
  obtain ⟨h, X, G, c⟩ := T
  cases s with
  | rope => exact He.meth_ok (c.fact 129 _ rfl)
  | std => exact (by have p := He.meth_ok (c.fact 130 _ rfl); rw [(of_decide_eq_true (c.more 27 _ rfl) : He.ma K (He.ga K "Steady") "drop" = He.ma K (He.ga K "Rope") "drop")] at p; exact p)
  | sht => exact (by have p := He.meth_ok (c.fact 131 _ rfl); rw [(of_decide_eq_true (c.more 28 _ rfl) : He.ma K (He.ga K "Short") "drop" = He.ma K (He.ga K "Rope") "drop")] at p; exact p)
  | both => exact (by have p := He.meth_ok (c.fact 132 _ rfl); rw [(of_decide_eq_true (c.more 29 _ rfl) : He.ma K (He.ga K "ShortSteady") "drop" = He.ma K (He.ga K "Rope") "drop")] at p; exact p)

theorem m_assign_pieces (T : Txt K mg) (s : Srt) : Meth K (He.ga K (cname s)) "assign_pieces" (He.ma K (He.ga K "Rope") "assign_pieces") := by
  obtain ⟨h, X, G, c⟩ := T
  cases s with
  | rope => exact He.meth_ok (c.fact 133 _ rfl)
  | std => exact (by have p := He.meth_ok (c.fact 134 _ rfl); rw [(of_decide_eq_true (c.more 30 _ rfl) : He.ma K (He.ga K "Steady") "assign_pieces" = He.ma K (He.ga K "Rope") "assign_pieces")] at p; exact p)
  | sht => exact (by have p := He.meth_ok (c.fact 135 _ rfl); rw [(of_decide_eq_true (c.more 31 _ rfl) : He.ma K (He.ga K "Short") "assign_pieces" = He.ma K (He.ga K "Rope") "assign_pieces")] at p; exact p)
  | both => exact (by have p := He.meth_ok (c.fact 136 _ rfl); rw [(of_decide_eq_true (c.more 32 _ rfl) : He.ma K (He.ga K "ShortSteady") "assign_pieces" = He.ma K (He.ga K "Rope") "assign_pieces")] at p; exact p)

theorem m_undo (T : Txt K mg) (s : Srt) : Meth K (He.ga K (cname s)) "undo" (He.ma K (He.ga K "Rope") "undo") := by
  obtain ⟨h, X, G, c⟩ := T
  cases s with
  | rope => exact He.meth_ok (c.fact 137 _ rfl)
  | std => exact (by have p := He.meth_ok (c.fact 138 _ rfl); rw [(of_decide_eq_true (c.more 33 _ rfl) : He.ma K (He.ga K "Steady") "undo" = He.ma K (He.ga K "Rope") "undo")] at p; exact p)
  | sht => exact (by have p := He.meth_ok (c.fact 139 _ rfl); rw [(of_decide_eq_true (c.more 34 _ rfl) : He.ma K (He.ga K "Short") "undo" = He.ma K (He.ga K "Rope") "undo")] at p; exact p)
  | both => exact (by have p := He.meth_ok (c.fact 140 _ rfl); rw [(of_decide_eq_true (c.more 35 _ rfl) : He.ma K (He.ga K "ShortSteady") "undo" = He.ma K (He.ga K "Rope") "undo")] at p; exact p)

theorem m_len (T : Txt K mg) (s : Srt) : Meth K (He.ga K (cname s)) "__len__" (He.ma K (He.ga K "Rope") "__len__") := by
  obtain ⟨h, X, G, c⟩ := T
  cases s with
  | rope => exact He.meth_ok (c.fact 141 _ rfl)
  | std => exact (by have p := He.meth_ok (c.fact 142 _ rfl); rw [(of_decide_eq_true (c.more 36 _ rfl) : He.ma K (He.ga K "Steady") "__len__" = He.ma K (He.ga K "Rope") "__len__")] at p; exact p)
  | sht => exact (by have p := He.meth_ok (c.fact 143 _ rfl); rw [(of_decide_eq_true (c.more 37 _ rfl) : He.ma K (He.ga K "Short") "__len__" = He.ma K (He.ga K "Rope") "__len__")] at p; exact p)
  | both => exact (by have p := He.meth_ok (c.fact 144 _ rfl); rw [(of_decide_eq_true (c.more 38 _ rfl) : He.ma K (He.ga K "ShortSteady") "__len__" = He.ma K (He.ga K "Rope") "__len__")] at p; exact p)

theorem m_repr (T : Txt K mg) (s : Srt) : Meth K (He.ga K (cname s)) "__repr__" (He.ma K (He.ga K "Rope") "__repr__") := by
  obtain ⟨h, X, G, c⟩ := T
  cases s with
  | rope => exact He.meth_ok (c.fact 145 _ rfl)
  | std => exact (by have p := He.meth_ok (c.fact 146 _ rfl); rw [(of_decide_eq_true (c.more 39 _ rfl) : He.ma K (He.ga K "Steady") "__repr__" = He.ma K (He.ga K "Rope") "__repr__")] at p; exact p)
  | sht => exact (by have p := He.meth_ok (c.fact 147 _ rfl); rw [(of_decide_eq_true (c.more 40 _ rfl) : He.ma K (He.ga K "Short") "__repr__" = He.ma K (He.ga K "Rope") "__repr__")] at p; exact p)
  | both => exact (by have p := He.meth_ok (c.fact 148 _ rfl); rw [(of_decide_eq_true (c.more 41 _ rfl) : He.ma K (He.ga K "ShortSteady") "__repr__" = He.ma K (He.ga K "Rope") "__repr__")] at p; exact p)

theorem p_machine (T : Txt K mg) (s : Srt) : PropOf K (He.ga K (cname s)) "machine" (propAt "Rope" "machine" K) (getAt "Rope" "machine" K) := by
  obtain ⟨h, X, G, c⟩ := T
  cases s with
  | rope => exact propB_ok (c.more 46 _ rfl)
  | std => exact (by have p := propB_ok (c.more 47 _ rfl); rw [(of_decide_eq_true (c.more 50 _ rfl) : propAt "Steady" "machine" K = propAt "Rope" "machine" K), (of_decide_eq_true (c.more 53 _ rfl) : getAt "Steady" "machine" K = getAt "Rope" "machine" K)] at p; exact p)
  | sht => exact (by have p := propB_ok (c.more 48 _ rfl); rw [(of_decide_eq_true (c.more 51 _ rfl) : propAt "Short" "machine" K = propAt "Rope" "machine" K), (of_decide_eq_true (c.more 54 _ rfl) : getAt "Short" "machine" K = getAt "Rope" "machine" K)] at p; exact p)
  | both => exact (by have p := propB_ok (c.more 49 _ rfl); rw [(of_decide_eq_true (c.more 52 _ rfl) : propAt "ShortSteady" "machine" K = propAt "Rope" "machine" K), (of_decide_eq_true (c.more 55 _ rfl) : getAt "ShortSteady" "machine" K = getAt "Rope" "machine" K)] at p; exact p)

theorem p_pieces (T : Txt K mg) (s : Srt) : PropOf K (He.ga K (cname s)) "pieces" (propAt "Rope" "pieces" K) (getAt "Rope" "pieces" K) := by
  obtain ⟨h, X, G, c⟩ := T
  cases s with
  | rope => exact propB_ok (c.more 56 _ rfl)
  | std => exact (by have p := propB_ok (c.more 57 _ rfl); rw [(of_decide_eq_true (c.more 60 _ rfl) : propAt "Steady" "pieces" K = propAt "Rope" "pieces" K), (of_decide_eq_true (c.more 63 _ rfl) : getAt "Steady" "pieces" K = getAt "Rope" "pieces" K)] at p; exact p)
  | sht => exact (by have p := propB_ok (c.more 58 _ rfl); rw [(of_decide_eq_true (c.more 61 _ rfl) : propAt "Short" "pieces" K = propAt "Rope" "pieces" K), (of_decide_eq_true (c.more 64 _ rfl) : getAt "Short" "pieces" K = getAt "Rope" "pieces" K)] at p; exact p)
  | both => exact (by have p := propB_ok (c.more 59 _ rfl); rw [(of_decide_eq_true (c.more 62 _ rfl) : propAt "ShortSteady" "pieces" K = propAt "Rope" "pieces" K), (of_decide_eq_true (c.more 65 _ rfl) : getAt "ShortSteady" "pieces" K = getAt "Rope" "pieces" K)] at p; exact p)

theorem p_word (T : Txt K mg) (s : Srt) : PropOf K (He.ga K (cname s)) "word" (propAt "Rope" "word" K) (getAt "Rope" "word" K) := by
  obtain ⟨h, X, G, c⟩ := T
  cases s with
  | rope => exact propB_ok (c.more 66 _ rfl)
  | std => exact (by have p := propB_ok (c.more 67 _ rfl); rw [(of_decide_eq_true (c.more 70 _ rfl) : propAt "Steady" "word" K = propAt "Rope" "word" K), (of_decide_eq_true (c.more 73 _ rfl) : getAt "Steady" "word" K = getAt "Rope" "word" K)] at p; exact p)
  | sht => exact (by have p := propB_ok (c.more 68 _ rfl); rw [(of_decide_eq_true (c.more 71 _ rfl) : propAt "Short" "word" K = propAt "Rope" "word" K), (of_decide_eq_true (c.more 74 _ rfl) : getAt "Short" "word" K = getAt "Rope" "word" K)] at p; exact p)
  | both => exact (by have p := propB_ok (c.more 69 _ rfl); rw [(of_decide_eq_true (c.more 72 _ rfl) : propAt "ShortSteady" "word" K = propAt "Rope" "word" K), (of_decide_eq_true (c.more 75 _ rfl) : getAt "ShortSteady" "word" K = getAt "Rope" "word" K)] at p; exact p)

theorem p_result (T : Txt K mg) (s : Srt) : PropOf K (He.ga K (cname s)) "result" (propAt "Rope" "result" K) (getAt "Rope" "result" K) := by
  obtain ⟨h, X, G, c⟩ := T
  cases s with
  | rope => exact propB_ok (c.more 76 _ rfl)
  | std => exact (by have p := propB_ok (c.more 77 _ rfl); rw [(of_decide_eq_true (c.more 80 _ rfl) : propAt "Steady" "result" K = propAt "Rope" "result" K), (of_decide_eq_true (c.more 83 _ rfl) : getAt "Steady" "result" K = getAt "Rope" "result" K)] at p; exact p)
  | sht => exact (by have p := propB_ok (c.more 78 _ rfl); rw [(of_decide_eq_true (c.more 81 _ rfl) : propAt "Short" "result" K = propAt "Rope" "result" K), (of_decide_eq_true (c.more 84 _ rfl) : getAt "Short" "result" K = getAt "Rope" "result" K)] at p; exact p)
  | both => exact (by have p := propB_ok (c.more 79 _ rfl); rw [(of_decide_eq_true (c.more 82 _ rfl) : propAt "ShortSteady" "result" K = propAt "Rope" "result" K), (of_decide_eq_true (c.more 85 _ rfl) : getAt "ShortSteady" "result" K = getAt "Rope" "result" K)] at p; exact p)

theorem p_results (T : Txt K mg) (s : Srt) : PropOf K (He.ga K (cname s)) "results" (propAt "Rope" "results" K) (getAt "Rope" "results" K) := by
  obtain ⟨h, X, G, c⟩ := T
  cases s with
  | rope => exact propB_ok (c.more 86 _ rfl)
  | std => exact (by have p := propB_ok (c.more 87 _ rfl); rw [(of_decide_eq_true (c.more 90 _ rfl) : propAt "Steady" "results" K = propAt "Rope" "results" K), (of_decide_eq_true (c.more 93 _ rfl) : getAt "Steady" "results" K = getAt "Rope" "results" K)] at p; exact p)
  | sht => exact (by have p := propB_ok (c.more 88 _ rfl); rw [(of_decide_eq_true (c.more 91 _ rfl) : propAt "Short" "results" K = propAt "Rope" "results" K), (of_decide_eq_true (c.more 94 _ rfl) : getAt "Short" "results" K = getAt "Rope" "results" K)] at p; exact p)
  | both => exact (by have p := propB_ok (c.more 89 _ rfl); rw [(of_decide_eq_true (c.more 92 _ rfl) : propAt "ShortSteady" "results" K = propAt "Rope" "results" K), (of_decide_eq_true (c.more 95 _ rfl) : getAt "ShortSteady" "results" K = getAt "Rope" "results" K)] at p; exact p)

theorem p_changes (T : Txt K mg) (s : Srt) : PropOf K (He.ga K (cname s)) "changes" (propAt "Rope" "changes" K) (getAt "Rope" "changes" K) := by
  obtain ⟨h, X, G, c⟩ := T
  cases s with
  | rope => exact propB_ok (c.more 96 _ rfl)
  | std => exact (by have p := propB_ok (c.more 97 _ rfl); rw [(of_decide_eq_true (c.more 100 _ rfl) : propAt "Steady" "changes" K = propAt "Rope" "changes" K), (of_decide_eq_true (c.more 103 _ rfl) : getAt "Steady" "changes" K = getAt "Rope" "changes" K)] at p; exact p)
  | sht => exact (by have p := propB_ok (c.more 98 _ rfl); rw [(of_decide_eq_true (c.more 101 _ rfl) : propAt "Short" "changes" K = propAt "Rope" "changes" K), (of_decide_eq_true (c.more 104 _ rfl) : getAt "Short" "changes" K = getAt "Rope" "changes" K)] at p; exact p)
  | both => exact (by have p := propB_ok (c.more 99 _ rfl); rw [(of_decide_eq_true (c.more 102 _ rfl) : propAt "ShortSteady" "changes" K = propAt "Rope" "changes" K), (of_decide_eq_true (c.more 105 _ rfl) : getAt "ShortSteady" "changes" K = getAt "Rope" "changes" K)] at p; exact p)

theorem name_ (T : Txt K mg) (s : Srt) : ∃ u, Con K (He.ga K (cname s)) "NAME" (.str (cname s)) u := by
  obtain ⟨h, X, G, c⟩ := T
  cases s with
  | rope => exact He.conB_ok (c.more 106 _ rfl)
  | std => exact He.conB_ok (c.more 107 _ rfl)
  | sht => exact He.conB_ok (c.more 108 _ rfl)
  | both => exact He.conB_ok (c.more 109 _ rfl)

theorem up_need_fit_Steady (T : Txt K mg) : PySem.W.ks_superIn K (He.ga K "Steady") (He.ga K "Steady") "need_fit" = some (some (.ref (He.ma K (He.ga K "Rope") "need_fit"))) ∧ PySem.W.mroIn K (He.ga K "Steady") (.ref (He.ga K "Steady")) = some true ∧ PySem.W.fnIn K (He.ma K (He.ga K "Rope") "need_fit") = true ∧ PySem.W.typeIn K (.ref (He.ma K (He.ga K "Rope") "need_fit")) = some (.type "function") := by
  obtain ⟨h, X, G, c⟩ := T
  exact upB_ok (c.more 110 _ rfl)
theorem up_need_fit_ShortSteady (T : Txt K mg) : PySem.W.ks_superIn K (He.ga K "ShortSteady") (He.ga K "Steady") "need_fit" = some (some (.ref (He.ma K (He.ga K "Rope") "need_fit"))) ∧ PySem.W.mroIn K (He.ga K "ShortSteady") (.ref (He.ga K "Steady")) = some true ∧ PySem.W.fnIn K (He.ma K (He.ga K "Rope") "need_fit") = true ∧ PySem.W.typeIn K (.ref (He.ma K (He.ga K "Rope") "need_fit")) = some (.type "function") := by
  obtain ⟨h, X, G, c⟩ := T
  exact upB_ok (c.more 111 _ rfl)
theorem up_init_Short (T : Txt K mg) : PySem.W.ks_superIn K (He.ga K "Short") (He.ga K "Short") "__init__" = some (some (.ref (He.ma K (He.ga K "Rope") "__init__"))) ∧ PySem.W.mroIn K (He.ga K "Short") (.ref (He.ga K "Short")) = some true ∧ PySem.W.fnIn K (He.ma K (He.ga K "Rope") "__init__") = true ∧ PySem.W.typeIn K (.ref (He.ma K (He.ga K "Rope") "__init__")) = some (.type "function") := by
  obtain ⟨h, X, G, c⟩ := T
  exact upB_ok (c.more 112 _ rfl)
theorem up_init_ShortSteady (T : Txt K mg) : PySem.W.ks_superIn K (He.ga K "ShortSteady") (He.ga K "Short") "__init__" = some (some (.ref (He.ma K (He.ga K "Rope") "__init__"))) ∧ PySem.W.mroIn K (He.ga K "ShortSteady") (.ref (He.ga K "Short")) = some true ∧ PySem.W.fnIn K (He.ma K (He.ga K "Rope") "__init__") = true ∧ PySem.W.typeIn K (.ref (He.ma K (He.ga K "Rope") "__init__")) = some (.type "function") := by
  obtain ⟨h, X, G, c⟩ := T
  exact upB_ok (c.more 113 _ rfl)
theorem lim_up (T : Txt K mg) : PySem.W.ks_superIn K (He.ga K "LimitError") (He.ga K "LimitError") "__init__" = some (some (.builtin "ValueError.__init__")) := by
  obtain ⟨h, X, G, c⟩ := T
  exact He.eqO_ok (c.more 114 _ rfl)
theorem lim_sub (T : Txt K mg) : PySem.W.subIn K (.ref (He.ga K "LimitError")) (.type "ValueError") = some true := by
  obtain ⟨h, X, G, c⟩ := T
  exact of_decide_eq_true (c.more 115 _ rfl)
theorem lim_mro (T : Txt K mg) : PySem.W.mroIn K (He.ga K "LimitError") (.ref (He.ga K "LimitError")) = some true := by
  obtain ⟨h, X, G, c⟩ := T
  exact of_decide_eq_true (c.more 116 _ rfl)
theorem lim_oex (T : Txt K mg) : OexC K (He.ga K "LimitError") := by
  obtain ⟨h, X, G, c⟩ := T
  exact oexB_ok (c.more 117 _ rfl)
theorem lim_xf (T : Txt K mg) : XfC K (He.ga K "LimitError") := by
  obtain ⟨h, X, G, c⟩ := T
  exact xfB_ok (c.more 118 _ rfl)
theorem lim_init (T : Txt K mg) : PySem.W.findIn K (.ref (He.ga K "LimitError")) "__init__" = some (some (.ref (He.ma K (He.ga K "LimitError") "__init__"))) := by
  obtain ⟨h, X, G, c⟩ := T
  exact He.eqO_ok (c.more 119 _ rfl)
theorem lim_ty (T : Txt K mg) : PySem.W.typeIn K (.ref (He.ma K (He.ga K "LimitError") "__init__")) = some (.type "function") := by
  obtain ⟨h, X, G, c⟩ := T
  exact of_decide_eq_true (c.more 120 _ rfl)
theorem lim_no_amount (T : Txt K mg) : PySem.W.findIn K (.ref (He.ga K "LimitError")) "amount" = some none := by
  obtain ⟨h, X, G, c⟩ := T
  exact He.noat_ok (c.fact 149 _ rfl)
theorem lim_no_limit (T : Txt K mg) : PySem.W.findIn K (.ref (He.ga K "LimitError")) "limit" = some none := by
  obtain ⟨h, X, G, c⟩ := T
  exact He.noat_ok (c.fact 150 _ rfl)
theorem e_PlaceError (T : Txt K mg) : PySem.W.excIn K (He.ga K "PlaceError") He.veBase "ValueError.__new__" = true ∧ PySem.W.keepIn K (.ref (He.ga K "PlaceError")) = true ∧ PySem.W.subIn K (.ref (He.ga K "PlaceError")) (.type "BaseException") = some true ∧ PySem.W.typeIn K (.ref (He.ga K "PlaceError")) = some (.type "type") := by
  obtain ⟨h, X, G, c⟩ := T
  exact He.exc_ok (c.fact 151 _ rfl)
theorem ec_PlaceError (T : Txt K mg) : ExcC K (He.ga K "PlaceError") := by
  obtain ⟨h, X, G, c⟩ := T
  exact excCB_ok (c.more 121 _ rfl)
theorem k_PlaceError_MachineError (T : Txt K mg) : PySem.W.kitOne K (.ref (He.ga K "PlaceError")) (.ref (He.ga K "MachineError")) = some false := by
  obtain ⟨h, X, G, c⟩ := T
  exact of_decide_eq_true (c.more 122 _ rfl)
theorem k_PlaceError_WordError (T : Txt K mg) : PySem.W.kitOne K (.ref (He.ga K "PlaceError")) (.ref (He.ga K "WordError")) = some false := by
  obtain ⟨h, X, G, c⟩ := T
  exact of_decide_eq_true (c.more 123 _ rfl)
theorem k_PlaceError_ResultError (T : Txt K mg) : PySem.W.kitOne K (.ref (He.ga K "PlaceError")) (.ref (He.ga K "ResultError")) = some false := by
  obtain ⟨h, X, G, c⟩ := T
  exact of_decide_eq_true (c.more 124 _ rfl)
theorem k_PlaceError_MatchError (T : Txt K mg) : PySem.W.kitOne K (.ref (He.ga K "PlaceError")) (.ref (He.ga K "MatchError")) = some false := by
  obtain ⟨h, X, G, c⟩ := T
  exact of_decide_eq_true (c.more 125 _ rfl)
theorem k_PlaceError_SplitError (T : Txt K mg) : PySem.W.kitOne K (.ref (He.ga K "PlaceError")) (.ref (He.ga K "SplitError")) = some false := by
  obtain ⟨h, X, G, c⟩ := T
  exact of_decide_eq_true (c.more 126 _ rfl)
theorem k_PlaceError_NumberError (T : Txt K mg) : PySem.W.kitOne K (.ref (He.ga K "PlaceError")) (.ref (He.ga K "NumberError")) = some false := by
  obtain ⟨h, X, G, c⟩ := T
  exact of_decide_eq_true (c.more 127 _ rfl)
theorem k_PlaceError_TableError (T : Txt K mg) : PySem.W.kitOne K (.ref (He.ga K "PlaceError")) (.ref (He.ga K "TableError")) = some false := by
  obtain ⟨h, X, G, c⟩ := T
  exact of_decide_eq_true (c.more 128 _ rfl)
theorem k_PlaceError_ValuesError (T : Txt K mg) : PySem.W.kitOne K (.ref (He.ga K "PlaceError")) (.ref (He.ga K "ValuesError")) = some false := by
  obtain ⟨h, X, G, c⟩ := T
  exact of_decide_eq_true (c.more 129 _ rfl)
theorem k_PlaceError_TextError (T : Txt K mg) : PySem.W.kitOne K (.ref (He.ga K "PlaceError")) (.ref (He.ga K "TextError")) = some false := by
  obtain ⟨h, X, G, c⟩ := T
  exact of_decide_eq_true (c.more 130 _ rfl)
theorem k_PlaceError_PlaceError (T : Txt K mg) : PySem.W.kitOne K (.ref (He.ga K "PlaceError")) (.ref (He.ga K "PlaceError")) = some true := by
  obtain ⟨h, X, G, c⟩ := T
  exact of_decide_eq_true (c.more 131 _ rfl)
theorem k_PlaceError_PiecesError (T : Txt K mg) : PySem.W.kitOne K (.ref (He.ga K "PlaceError")) (.ref (He.ga K "PiecesError")) = some false := by
  obtain ⟨h, X, G, c⟩ := T
  exact of_decide_eq_true (c.more 132 _ rfl)
theorem k_PlaceError_Unsteady (T : Txt K mg) : PySem.W.kitOne K (.ref (He.ga K "PlaceError")) (.ref (He.ga K "Unsteady")) = some false := by
  obtain ⟨h, X, G, c⟩ := T
  exact of_decide_eq_true (c.more 133 _ rfl)
theorem k_PlaceError_NothingDone (T : Txt K mg) : PySem.W.kitOne K (.ref (He.ga K "PlaceError")) (.ref (He.ga K "NothingDone")) = some false := by
  obtain ⟨h, X, G, c⟩ := T
  exact of_decide_eq_true (c.more 134 _ rfl)
theorem e_NumberError (T : Txt K mg) : PySem.W.excIn K (He.ga K "NumberError") He.veBase "ValueError.__new__" = true ∧ PySem.W.keepIn K (.ref (He.ga K "NumberError")) = true ∧ PySem.W.subIn K (.ref (He.ga K "NumberError")) (.type "BaseException") = some true ∧ PySem.W.typeIn K (.ref (He.ga K "NumberError")) = some (.type "type") := by
  obtain ⟨h, X, G, c⟩ := T
  exact He.exc_ok (c.fact 152 _ rfl)
theorem ec_NumberError (T : Txt K mg) : ExcC K (He.ga K "NumberError") := by
  obtain ⟨h, X, G, c⟩ := T
  exact excCB_ok (c.more 135 _ rfl)
theorem k_NumberError_MachineError (T : Txt K mg) : PySem.W.kitOne K (.ref (He.ga K "NumberError")) (.ref (He.ga K "MachineError")) = some false := by
  obtain ⟨h, X, G, c⟩ := T
  exact of_decide_eq_true (c.more 136 _ rfl)
theorem k_NumberError_WordError (T : Txt K mg) : PySem.W.kitOne K (.ref (He.ga K "NumberError")) (.ref (He.ga K "WordError")) = some false := by
  obtain ⟨h, X, G, c⟩ := T
  exact of_decide_eq_true (c.more 137 _ rfl)
theorem k_NumberError_ResultError (T : Txt K mg) : PySem.W.kitOne K (.ref (He.ga K "NumberError")) (.ref (He.ga K "ResultError")) = some false := by
  obtain ⟨h, X, G, c⟩ := T
  exact of_decide_eq_true (c.more 138 _ rfl)
theorem k_NumberError_MatchError (T : Txt K mg) : PySem.W.kitOne K (.ref (He.ga K "NumberError")) (.ref (He.ga K "MatchError")) = some false := by
  obtain ⟨h, X, G, c⟩ := T
  exact of_decide_eq_true (c.more 139 _ rfl)
theorem k_NumberError_SplitError (T : Txt K mg) : PySem.W.kitOne K (.ref (He.ga K "NumberError")) (.ref (He.ga K "SplitError")) = some false := by
  obtain ⟨h, X, G, c⟩ := T
  exact of_decide_eq_true (c.more 140 _ rfl)
theorem k_NumberError_NumberError (T : Txt K mg) : PySem.W.kitOne K (.ref (He.ga K "NumberError")) (.ref (He.ga K "NumberError")) = some true := by
  obtain ⟨h, X, G, c⟩ := T
  exact of_decide_eq_true (c.more 141 _ rfl)
theorem k_NumberError_TableError (T : Txt K mg) : PySem.W.kitOne K (.ref (He.ga K "NumberError")) (.ref (He.ga K "TableError")) = some false := by
  obtain ⟨h, X, G, c⟩ := T
  exact of_decide_eq_true (c.more 142 _ rfl)
theorem k_NumberError_ValuesError (T : Txt K mg) : PySem.W.kitOne K (.ref (He.ga K "NumberError")) (.ref (He.ga K "ValuesError")) = some false := by
  obtain ⟨h, X, G, c⟩ := T
  exact of_decide_eq_true (c.more 143 _ rfl)
theorem k_NumberError_TextError (T : Txt K mg) : PySem.W.kitOne K (.ref (He.ga K "NumberError")) (.ref (He.ga K "TextError")) = some false := by
  obtain ⟨h, X, G, c⟩ := T
  exact of_decide_eq_true (c.more 144 _ rfl)
theorem k_NumberError_PlaceError (T : Txt K mg) : PySem.W.kitOne K (.ref (He.ga K "NumberError")) (.ref (He.ga K "PlaceError")) = some false := by
  obtain ⟨h, X, G, c⟩ := T
  exact of_decide_eq_true (c.more 145 _ rfl)
theorem k_NumberError_PiecesError (T : Txt K mg) : PySem.W.kitOne K (.ref (He.ga K "NumberError")) (.ref (He.ga K "PiecesError")) = some false := by
  obtain ⟨h, X, G, c⟩ := T
  exact of_decide_eq_true (c.more 146 _ rfl)
theorem k_NumberError_Unsteady (T : Txt K mg) : PySem.W.kitOne K (.ref (He.ga K "NumberError")) (.ref (He.ga K "Unsteady")) = some false := by
  obtain ⟨h, X, G, c⟩ := T
  exact of_decide_eq_true (c.more 147 _ rfl)
theorem k_NumberError_NothingDone (T : Txt K mg) : PySem.W.kitOne K (.ref (He.ga K "NumberError")) (.ref (He.ga K "NothingDone")) = some false := by
  obtain ⟨h, X, G, c⟩ := T
  exact of_decide_eq_true (c.more 148 _ rfl)
theorem e_Unsteady (T : Txt K mg) : PySem.W.excIn K (He.ga K "Unsteady") He.veBase "ValueError.__new__" = true ∧ PySem.W.keepIn K (.ref (He.ga K "Unsteady")) = true ∧ PySem.W.subIn K (.ref (He.ga K "Unsteady")) (.type "BaseException") = some true ∧ PySem.W.typeIn K (.ref (He.ga K "Unsteady")) = some (.type "type") := by
  obtain ⟨h, X, G, c⟩ := T
  exact He.exc_ok (c.fact 153 _ rfl)
theorem ec_Unsteady (T : Txt K mg) : ExcC K (He.ga K "Unsteady") := by
  obtain ⟨h, X, G, c⟩ := T
  exact excCB_ok (c.more 149 _ rfl)
theorem k_Unsteady_MachineError (T : Txt K mg) : PySem.W.kitOne K (.ref (He.ga K "Unsteady")) (.ref (He.ga K "MachineError")) = some false := by
  obtain ⟨h, X, G, c⟩ := T
  exact of_decide_eq_true (c.more 150 _ rfl)
theorem k_Unsteady_WordError (T : Txt K mg) : PySem.W.kitOne K (.ref (He.ga K "Unsteady")) (.ref (He.ga K "WordError")) = some false := by
  obtain ⟨h, X, G, c⟩ := T
  exact of_decide_eq_true (c.more 151 _ rfl)
theorem k_Unsteady_ResultError (T : Txt K mg) : PySem.W.kitOne K (.ref (He.ga K "Unsteady")) (.ref (He.ga K "ResultError")) = some false := by
  obtain ⟨h, X, G, c⟩ := T
  exact of_decide_eq_true (c.more 152 _ rfl)
theorem k_Unsteady_MatchError (T : Txt K mg) : PySem.W.kitOne K (.ref (He.ga K "Unsteady")) (.ref (He.ga K "MatchError")) = some false := by
  obtain ⟨h, X, G, c⟩ := T
  exact of_decide_eq_true (c.more 153 _ rfl)
theorem k_Unsteady_SplitError (T : Txt K mg) : PySem.W.kitOne K (.ref (He.ga K "Unsteady")) (.ref (He.ga K "SplitError")) = some false := by
  obtain ⟨h, X, G, c⟩ := T
  exact of_decide_eq_true (c.more 154 _ rfl)
theorem k_Unsteady_NumberError (T : Txt K mg) : PySem.W.kitOne K (.ref (He.ga K "Unsteady")) (.ref (He.ga K "NumberError")) = some false := by
  obtain ⟨h, X, G, c⟩ := T
  exact of_decide_eq_true (c.more 155 _ rfl)
theorem k_Unsteady_TableError (T : Txt K mg) : PySem.W.kitOne K (.ref (He.ga K "Unsteady")) (.ref (He.ga K "TableError")) = some false := by
  obtain ⟨h, X, G, c⟩ := T
  exact of_decide_eq_true (c.more 156 _ rfl)
theorem k_Unsteady_ValuesError (T : Txt K mg) : PySem.W.kitOne K (.ref (He.ga K "Unsteady")) (.ref (He.ga K "ValuesError")) = some false := by
  obtain ⟨h, X, G, c⟩ := T
  exact of_decide_eq_true (c.more 157 _ rfl)
theorem k_Unsteady_TextError (T : Txt K mg) : PySem.W.kitOne K (.ref (He.ga K "Unsteady")) (.ref (He.ga K "TextError")) = some false := by
  obtain ⟨h, X, G, c⟩ := T
  exact of_decide_eq_true (c.more 158 _ rfl)
theorem k_Unsteady_PlaceError (T : Txt K mg) : PySem.W.kitOne K (.ref (He.ga K "Unsteady")) (.ref (He.ga K "PlaceError")) = some false := by
  obtain ⟨h, X, G, c⟩ := T
  exact of_decide_eq_true (c.more 159 _ rfl)
theorem k_Unsteady_PiecesError (T : Txt K mg) : PySem.W.kitOne K (.ref (He.ga K "Unsteady")) (.ref (He.ga K "PiecesError")) = some false := by
  obtain ⟨h, X, G, c⟩ := T
  exact of_decide_eq_true (c.more 160 _ rfl)
theorem k_Unsteady_Unsteady (T : Txt K mg) : PySem.W.kitOne K (.ref (He.ga K "Unsteady")) (.ref (He.ga K "Unsteady")) = some true := by
  obtain ⟨h, X, G, c⟩ := T
  exact of_decide_eq_true (c.more 161 _ rfl)
theorem k_Unsteady_NothingDone (T : Txt K mg) : PySem.W.kitOne K (.ref (He.ga K "Unsteady")) (.ref (He.ga K "NothingDone")) = some false := by
  obtain ⟨h, X, G, c⟩ := T
  exact of_decide_eq_true (c.more 162 _ rfl)
theorem e_NothingDone (T : Txt K mg) : PySem.W.excIn K (He.ga K "NothingDone") He.veBase "ValueError.__new__" = true ∧ PySem.W.keepIn K (.ref (He.ga K "NothingDone")) = true ∧ PySem.W.subIn K (.ref (He.ga K "NothingDone")) (.type "BaseException") = some true ∧ PySem.W.typeIn K (.ref (He.ga K "NothingDone")) = some (.type "type") := by
  obtain ⟨h, X, G, c⟩ := T
  exact He.exc_ok (c.fact 154 _ rfl)
theorem ec_NothingDone (T : Txt K mg) : ExcC K (He.ga K "NothingDone") := by
  obtain ⟨h, X, G, c⟩ := T
  exact excCB_ok (c.more 163 _ rfl)
theorem k_NothingDone_MachineError (T : Txt K mg) : PySem.W.kitOne K (.ref (He.ga K "NothingDone")) (.ref (He.ga K "MachineError")) = some false := by
  obtain ⟨h, X, G, c⟩ := T
  exact of_decide_eq_true (c.more 164 _ rfl)
theorem k_NothingDone_WordError (T : Txt K mg) : PySem.W.kitOne K (.ref (He.ga K "NothingDone")) (.ref (He.ga K "WordError")) = some false := by
  obtain ⟨h, X, G, c⟩ := T
  exact of_decide_eq_true (c.more 165 _ rfl)
theorem k_NothingDone_ResultError (T : Txt K mg) : PySem.W.kitOne K (.ref (He.ga K "NothingDone")) (.ref (He.ga K "ResultError")) = some false := by
  obtain ⟨h, X, G, c⟩ := T
  exact of_decide_eq_true (c.more 166 _ rfl)
theorem k_NothingDone_MatchError (T : Txt K mg) : PySem.W.kitOne K (.ref (He.ga K "NothingDone")) (.ref (He.ga K "MatchError")) = some false := by
  obtain ⟨h, X, G, c⟩ := T
  exact of_decide_eq_true (c.more 167 _ rfl)
theorem k_NothingDone_SplitError (T : Txt K mg) : PySem.W.kitOne K (.ref (He.ga K "NothingDone")) (.ref (He.ga K "SplitError")) = some false := by
  obtain ⟨h, X, G, c⟩ := T
  exact of_decide_eq_true (c.more 168 _ rfl)
theorem k_NothingDone_NumberError (T : Txt K mg) : PySem.W.kitOne K (.ref (He.ga K "NothingDone")) (.ref (He.ga K "NumberError")) = some false := by
  obtain ⟨h, X, G, c⟩ := T
  exact of_decide_eq_true (c.more 169 _ rfl)
theorem k_NothingDone_TableError (T : Txt K mg) : PySem.W.kitOne K (.ref (He.ga K "NothingDone")) (.ref (He.ga K "TableError")) = some false := by
  obtain ⟨h, X, G, c⟩ := T
  exact of_decide_eq_true (c.more 170 _ rfl)
theorem k_NothingDone_ValuesError (T : Txt K mg) : PySem.W.kitOne K (.ref (He.ga K "NothingDone")) (.ref (He.ga K "ValuesError")) = some false := by
  obtain ⟨h, X, G, c⟩ := T
  exact of_decide_eq_true (c.more 171 _ rfl)
theorem k_NothingDone_TextError (T : Txt K mg) : PySem.W.kitOne K (.ref (He.ga K "NothingDone")) (.ref (He.ga K "TextError")) = some false := by
  obtain ⟨h, X, G, c⟩ := T
  exact of_decide_eq_true (c.more 172 _ rfl)
theorem k_NothingDone_PlaceError (T : Txt K mg) : PySem.W.kitOne K (.ref (He.ga K "NothingDone")) (.ref (He.ga K "PlaceError")) = some false := by
  obtain ⟨h, X, G, c⟩ := T
  exact of_decide_eq_true (c.more 173 _ rfl)
theorem k_NothingDone_PiecesError (T : Txt K mg) : PySem.W.kitOne K (.ref (He.ga K "NothingDone")) (.ref (He.ga K "PiecesError")) = some false := by
  obtain ⟨h, X, G, c⟩ := T
  exact of_decide_eq_true (c.more 174 _ rfl)
theorem k_NothingDone_Unsteady (T : Txt K mg) : PySem.W.kitOne K (.ref (He.ga K "NothingDone")) (.ref (He.ga K "Unsteady")) = some false := by
  obtain ⟨h, X, G, c⟩ := T
  exact of_decide_eq_true (c.more 175 _ rfl)
theorem k_NothingDone_NothingDone (T : Txt K mg) : PySem.W.kitOne K (.ref (He.ga K "NothingDone")) (.ref (He.ga K "NothingDone")) = some true := by
  obtain ⟨h, X, G, c⟩ := T
  exact of_decide_eq_true (c.more 176 _ rfl)
theorem x_LimitError_LimitError (T : Txt K mg) : PySem.W.exmOne K (.ref (He.ga K "LimitError")) (.ref (He.ga K "LimitError")) = some true := by
  obtain ⟨h, X, G, c⟩ := T
  exact He.exm_ok (c.fact 155 _ rfl)
theorem x_LimitError_FoldError (T : Txt K mg) : PySem.W.exmOne K (.ref (He.ga K "LimitError")) (.ref (He.ga K "FoldError")) = some true := by
  obtain ⟨h, X, G, c⟩ := T
  exact He.exm_ok (c.fact 156 _ rfl)
theorem x_PlaceError_LimitError (T : Txt K mg) : PySem.W.exmOne K (.ref (He.ga K "PlaceError")) (.ref (He.ga K "LimitError")) = some false := by
  obtain ⟨h, X, G, c⟩ := T
  exact He.exm_ok (c.fact 157 _ rfl)
theorem x_PlaceError_FoldError (T : Txt K mg) : PySem.W.exmOne K (.ref (He.ga K "PlaceError")) (.ref (He.ga K "FoldError")) = some true := by
  obtain ⟨h, X, G, c⟩ := T
  exact He.exm_ok (c.fact 158 _ rfl)
theorem x_NumberError_LimitError (T : Txt K mg) : PySem.W.exmOne K (.ref (He.ga K "NumberError")) (.ref (He.ga K "LimitError")) = some false := by
  obtain ⟨h, X, G, c⟩ := T
  exact He.exm_ok (c.fact 159 _ rfl)
theorem x_NumberError_FoldError (T : Txt K mg) : PySem.W.exmOne K (.ref (He.ga K "NumberError")) (.ref (He.ga K "FoldError")) = some true := by
  obtain ⟨h, X, G, c⟩ := T
  exact He.exm_ok (c.fact 160 _ rfl)
theorem x_Unsteady_LimitError (T : Txt K mg) : PySem.W.exmOne K (.ref (He.ga K "Unsteady")) (.ref (He.ga K "LimitError")) = some false := by
  obtain ⟨h, X, G, c⟩ := T
  exact He.exm_ok (c.fact 161 _ rfl)
theorem x_Unsteady_FoldError (T : Txt K mg) : PySem.W.exmOne K (.ref (He.ga K "Unsteady")) (.ref (He.ga K "FoldError")) = some true := by
  obtain ⟨h, X, G, c⟩ := T
  exact He.exm_ok (c.fact 162 _ rfl)
theorem x_NothingDone_LimitError (T : Txt K mg) : PySem.W.exmOne K (.ref (He.ga K "NothingDone")) (.ref (He.ga K "LimitError")) = some false := by
  obtain ⟨h, X, G, c⟩ := T
  exact He.exm_ok (c.fact 163 _ rfl)
theorem x_NothingDone_FoldError (T : Txt K mg) : PySem.W.exmOne K (.ref (He.ga K "NothingDone")) (.ref (He.ga K "FoldError")) = some true := by
  obtain ⟨h, X, G, c⟩ := T
  exact He.exm_ok (c.fact 164 _ rfl)
theorem F_no_map (T : Txt K mg) : ∃ fd, FunD K "no_map" "no_map" (defArgs b_no_map) (defBody b_no_map) (defScope b_no_map) [] [] (He.ga K "no_map") fd := by
  obtain ⟨h, X, G, c⟩ := T
  exact DefZ.funD (d := d_no_map) (c.defs 0 _ rfl).2 (c.defs 0 _ rfl).1 rfl
theorem F_letter_map (T : Txt K mg) : ∃ fd, FunD K "letter_map" "letter_map" (defArgs b_letter_map) (defBody b_letter_map) (defScope b_letter_map) [] [] (He.ga K "letter_map") fd := by
  obtain ⟨h, X, G, c⟩ := T
  exact DefZ.funD (d := d_letter_map) (c.defs 1 _ rfl).2 (c.defs 1 _ rfl).1 rfl
theorem F_after (T : Txt K mg) : ∃ fd, FunD K "after" "after" (defArgs b_after) (defBody b_after) (defScope b_after) [] [] (He.ga K "after") fd := by
  obtain ⟨h, X, G, c⟩ := T
  exact DefZ.funD (d := d_after) (c.defs 2 _ rfl).2 (c.defs 2 _ rfl).1 rfl
theorem F_joined (T : Txt K mg) : ∃ fd, FunD K "joined" "joined" (defArgs b_joined) (defBody b_joined) (defScope b_joined) [] [] (He.ga K "joined") fd := by
  obtain ⟨h, X, G, c⟩ := T
  exact DefZ.funD (d := d_joined) (c.defs 3 _ rfl).2 (c.defs 3 _ rfl).1 rfl
theorem F_appended (T : Txt K mg) : ∃ fd, FunD K "appended" "appended" (defArgs b_appended) (defBody b_appended) (defScope b_appended) [] [] (He.ga K "appended") fd := by
  obtain ⟨h, X, G, c⟩ := T
  exact DefZ.funD (d := d_appended) (c.defs 4 _ rfl).2 (c.defs 4 _ rfl).1 rfl
theorem F_map_of (T : Txt K mg) : ∃ fd, FunD K "map_of" "map_of" (defArgs b_map_of) (defBody b_map_of) (defScope b_map_of) [] [] (He.ga K "map_of") fd := by
  obtain ⟨h, X, G, c⟩ := T
  exact DefZ.funD (d := d_map_of) (c.defs 5 _ rfl).2 (c.defs 5 _ rfl).1 rfl
theorem F_outcome (T : Txt K mg) : ∃ fd, FunD K "outcome" "outcome" (defArgs b_outcome) (defBody b_outcome) (defScope b_outcome) [] [] (He.ga K "outcome") fd := by
  obtain ⟨h, X, G, c⟩ := T
  exact DefZ.funD (d := d_outcome) (c.defs 6 _ rfl).2 (c.defs 6 _ rfl).1 rfl
theorem F_is_integer (T : Txt K mg) : ∃ fd, FunD K "is_integer" "is_integer" (defArgs b_is_integer) (defBody b_is_integer) (defScope b_is_integer) [] [] (He.ga K "is_integer") fd := by
  obtain ⟨h, X, G, c⟩ := T
  exact DefZ.funD (d := d_is_integer) (c.defs 7 _ rfl).2 (c.defs 7 _ rfl).1 rfl
theorem F_is_between (T : Txt K mg) : ∃ fd, FunD K "is_between" "is_between" (defArgs b_is_between) (defBody b_is_between) (defScope b_is_between) [] [] (He.ga K "is_between") fd := by
  obtain ⟨h, X, G, c⟩ := T
  exact DefZ.funD (d := d_is_between) (c.defs 8 _ rfl).2 (c.defs 8 _ rfl).1 rfl
theorem F_is_row (T : Txt K mg) : ∃ fd, FunD K "is_row" "is_row" (defArgs b_is_row) (defBody b_is_row) (defScope b_is_row) [] [] (He.ga K "is_row") fd := by
  obtain ⟨h, X, G, c⟩ := T
  exact DefZ.funD (d := d_is_row) (c.defs 9 _ rfl).2 (c.defs 9 _ rfl).1 rfl
theorem F_is_word (T : Txt K mg) : ∃ fd, FunD K "is_word" "is_word" (defArgs b_is_word) (defBody b_is_word) (defScope b_is_word) [] [] (He.ga K "is_word") fd := by
  obtain ⟨h, X, G, c⟩ := T
  exact DefZ.funD (d := d_is_word) (c.defs 10 _ rfl).2 (c.defs 10 _ rfl).1 rfl
theorem F_is_machine (T : Txt K mg) : ∃ fd, FunD K "is_machine" "is_machine" (defArgs b_is_machine) (defBody b_is_machine) (defScope b_is_machine) [] [] (He.ga K "is_machine") fd := by
  obtain ⟨h, X, G, c⟩ := T
  exact DefZ.funD (d := d_is_machine) (c.defs 11 _ rfl).2 (c.defs 11 _ rfl).1 rfl
theorem F_need_machine (T : Txt K mg) : ∃ fd, FunD K "need_machine" "need_machine" (defArgs b_need_machine) (defBody b_need_machine) (defScope b_need_machine) [] [] (He.ga K "need_machine") fd := by
  obtain ⟨h, X, G, c⟩ := T
  exact DefZ.funD (d := d_need_machine) (c.defs 12 _ rfl).2 (c.defs 12 _ rfl).1 rfl
theorem F_need_word (T : Txt K mg) : ∃ fd, FunD K "need_word" "need_word" (defArgs b_need_word) (defBody b_need_word) (defScope b_need_word) [] [] (He.ga K "need_word") fd := by
  obtain ⟨h, X, G, c⟩ := T
  exact DefZ.funD (d := d_need_word) (c.defs 13 _ rfl).2 (c.defs 13 _ rfl).1 rfl
theorem F_result_of (T : Txt K mg) : ∃ fd, FunD K "result_of" "result_of" (defArgs b_result_of) (defBody b_result_of) (defScope b_result_of) [] [] (He.ga K "result_of") fd := by
  obtain ⟨h, X, G, c⟩ := T
  exact DefZ.funD (d := d_result_of) (c.defs 14 _ rfl).2 (c.defs 14 _ rfl).1 rfl
theorem F_whole_of (T : Txt K mg) : ∃ fd, FunD K "whole_of" "whole_of" (defArgs b_whole_of) (defBody b_whole_of) (defScope b_whole_of) [] [] (He.ga K "whole_of") fd := by
  obtain ⟨h, X, G, c⟩ := T
  exact DefZ.funD (d := d_whole_of) (c.defs 15 _ rfl).2 (c.defs 15 _ rfl).1 rfl
theorem F__law_cell (T : Txt K mg) : ∃ fd, FunD K "_law_cell" "_law_cell" (defArgs b__law_cell) (defBody b__law_cell) (defScope b__law_cell) [] [] (He.ga K "_law_cell") fd := by
  obtain ⟨h, X, G, c⟩ := T
  exact DefZ.funD (d := d__law_cell) (c.defs 16 _ rfl).2 (c.defs 16 _ rfl).1 rfl
theorem F__law_draws (T : Txt K mg) : ∃ fd, FunD K "_law_draws" "_law_draws" (defArgs b__law_draws) (defBody b__law_draws) (defScope b__law_draws) [] [] (He.ga K "_law_draws") fd := by
  obtain ⟨h, X, G, c⟩ := T
  exact DefZ.funD (d := d__law_draws) (c.defs 17 _ rfl).2 (c.defs 17 _ rfl).1 rfl
theorem F__law_is_same (T : Txt K mg) : ∃ fd, FunD K "_law_is_same" "_law_is_same" (defArgs b__law_is_same) (defBody b__law_is_same) (defScope b__law_is_same) [] [] (He.ga K "_law_is_same") fd := by
  obtain ⟨h, X, G, c⟩ := T
  exact DefZ.funD (d := d__law_is_same) (c.defs 18 _ rfl).2 (c.defs 18 _ rfl).1 rfl
theorem F__law_read (T : Txt K mg) : ∃ fd, FunD K "_law_read" "_law_read" (defArgs b__law_read) (defBody b__law_read) (defScope b__law_read) [] [] (He.ga K "_law_read") fd := by
  obtain ⟨h, X, G, c⟩ := T
  exact DefZ.funD (d := d__law_read) (c.defs 19 _ rfl).2 (c.defs 19 _ rfl).1 rfl
theorem F__law_monoids (T : Txt K mg) : ∃ fd, FunD K "_law_monoids" "_law_monoids" (defArgs b__law_monoids) (defBody b__law_monoids) (defScope b__law_monoids) [] [] (He.ga K "_law_monoids") fd := by
  obtain ⟨h, X, G, c⟩ := T
  exact DefZ.funD (d := d__law_monoids) (c.defs 20 _ rfl).2 (c.defs 20 _ rfl).1 rfl
theorem F__law_any (T : Txt K mg) : ∃ fd, FunD K "_law_any" "_law_any" (defArgs b__law_any) (defBody b__law_any) (defScope b__law_any) [] [] (He.ga K "_law_any") fd := by
  obtain ⟨h, X, G, c⟩ := T
  exact DefZ.funD (d := d__law_any) (c.defs 21 _ rfl).2 (c.defs 21 _ rfl).1 rfl
theorem F__law_splitting (T : Txt K mg) : ∃ fd, FunD K "_law_splitting" "_law_splitting" (defArgs b__law_splitting) (defBody b__law_splitting) (defScope b__law_splitting) [] [] (He.ga K "_law_splitting") fd := by
  obtain ⟨h, X, G, c⟩ := T
  exact DefZ.funD (d := d__law_splitting) (c.defs 22 _ rfl).2 (c.defs 22 _ rfl).1 rfl
theorem F__law_machine (T : Txt K mg) : ∃ fd, FunD K "_law_machine" "_law_machine" (defArgs b__law_machine) (defBody b__law_machine) (defScope b__law_machine) [] [] (He.ga K "_law_machine") fd := by
  obtain ⟨h, X, G, c⟩ := T
  exact DefZ.funD (d := d__law_machine) (c.defs 23 _ rfl).2 (c.defs 23 _ rfl).1 rfl
theorem F__law_word (T : Txt K mg) : ∃ fd, FunD K "_law_word" "_law_word" (defArgs b__law_word) (defBody b__law_word) (defScope b__law_word) [] [] (He.ga K "_law_word") fd := by
  obtain ⟨h, X, G, c⟩ := T
  exact DefZ.funD (d := d__law_word) (c.defs 24 _ rfl).2 (c.defs 24 _ rfl).1 rfl
theorem F__law_said (T : Txt K mg) : ∃ fd, FunD K "_law_said" "_law_said" (defArgs b__law_said) (defBody b__law_said) (defScope b__law_said) [] [] (He.ga K "_law_said") fd := by
  obtain ⟨h, X, G, c⟩ := T
  exact DefZ.funD (d := d__law_said) (c.defs 25 _ rfl).2 (c.defs 25 _ rfl).1 rfl
theorem F__law_told (T : Txt K mg) : ∃ fd, FunD K "_law_told" "_law_told" (defArgs b__law_told) (defBody b__law_told) (defScope b__law_told) [] [] (He.ga K "_law_told") fd := by
  obtain ⟨h, X, G, c⟩ := T
  exact DefZ.funD (d := d__law_told) (c.defs 26 _ rfl).2 (c.defs 26 _ rfl).1 rfl
theorem F__law_due (T : Txt K mg) : ∃ fd, FunD K "_law_due" "_law_due" (defArgs b__law_due) (defBody b__law_due) (defScope b__law_due) [] [] (He.ga K "_law_due") fd := by
  obtain ⟨h, X, G, c⟩ := T
  exact DefZ.funD (d := d__law_due) (c.defs 27 _ rfl).2 (c.defs 27 _ rfl).1 rfl
theorem F__law_limit (T : Txt K mg) : ∃ fd, FunD K "_law_limit" "_law_limit" (defArgs b__law_limit) (defBody b__law_limit) (defScope b__law_limit) [] [] (He.ga K "_law_limit") fd := by
  obtain ⟨h, X, G, c⟩ := T
  exact DefZ.funD (d := d__law_limit) (c.defs 28 _ rfl).2 (c.defs 28 _ rfl).1 rfl
theorem F__law_made (T : Txt K mg) : ∃ fd, FunD K "_law_made" "_law_made" (defArgs b__law_made) (defBody b__law_made) (defScope b__law_made) [] [] (He.ga K "_law_made") fd := by
  obtain ⟨h, X, G, c⟩ := T
  exact DefZ.funD (d := d__law_made) (c.defs 29 _ rfl).2 (c.defs 29 _ rfl).1 rfl
theorem F__law_refused (T : Txt K mg) : ∃ fd, FunD K "_law_refused" "_law_refused" (defArgs b__law_refused) (defBody b__law_refused) (defScope b__law_refused) [] [] (He.ga K "_law_refused") fd := by
  obtain ⟨h, X, G, c⟩ := T
  exact DefZ.funD (d := d__law_refused) (c.defs 30 _ rfl).2 (c.defs 30 _ rfl).1 rfl
theorem F__law_next (T : Txt K mg) : ∃ fd, FunD K "_law_next" "_law_next" (defArgs b__law_next) (defBody b__law_next) (defScope b__law_next) [] [] (He.ga K "_law_next") fd := by
  obtain ⟨h, X, G, c⟩ := T
  exact DefZ.funD (d := d__law_next) (c.defs 31 _ rfl).2 (c.defs 31 _ rfl).1 rfl
theorem F__law_call (T : Txt K mg) : ∃ fd, FunD K "_law_call" "_law_call" (defArgs b__law_call) (defBody b__law_call) (defScope b__law_call) [] [] (He.ga K "_law_call") fd := by
  obtain ⟨h, X, G, c⟩ := T
  exact DefZ.funD (d := d__law_call) (c.defs 32 _ rfl).2 (c.defs 32 _ rfl).1 rfl
theorem F__law_is_right (T : Txt K mg) : ∃ fd, FunD K "_law_is_right" "_law_is_right" (defArgs b__law_is_right) (defBody b__law_is_right) (defScope b__law_is_right) [] [] (He.ga K "_law_is_right") fd := by
  obtain ⟨h, X, G, c⟩ := T
  exact DefZ.funD (d := d__law_is_right) (c.defs 33 _ rfl).2 (c.defs 33 _ rfl).1 rfl
theorem F_law (T : Txt K mg) : ∃ fd, FunD K "law" "law" (defArgs b_law) (defBody b_law) (defScope b_law) [] [] (He.ga K "law") fd := by
  obtain ⟨h, X, G, c⟩ := T
  exact DefZ.funD (d := d_law) (c.defs 34 _ rfl).2 (c.defs 34 _ rfl).1 rfl
theorem F_Rope_init (T : Txt K mg) : ∃ fd, FunD K "__init__" "Rope.__init__" (defArgs b_Rope_init) (defBody b_Rope_init) (defScope b_Rope_init) [] [] (He.ma K (He.ga K "Rope") "__init__") fd := by
  obtain ⟨h, X, G, c⟩ := T
  exact DefZ.funD (d := d_Rope_init) (c.defs 35 _ rfl).2 (c.defs 35 _ rfl).1 rfl
theorem F_Rope_most_pieces (T : Txt K mg) : ∃ fd, FunD K "most_pieces" "Rope.most_pieces" (defArgs b_Rope_most_pieces) (defBody b_Rope_most_pieces) (defScope b_Rope_most_pieces) [] [] (He.ma K (He.ga K "Rope") "most_pieces") fd := by
  obtain ⟨h, X, G, c⟩ := T
  exact DefZ.funD (d := d_Rope_most_pieces) (c.defs 36 _ rfl).2 (c.defs 36 _ rfl).1 rfl
theorem F_Rope_need_fit (T : Txt K mg) : ∃ fd, FunD K "need_fit" "Rope.need_fit" (defArgs b_Rope_need_fit) (defBody b_Rope_need_fit) (defScope b_Rope_need_fit) [] [] (He.ma K (He.ga K "Rope") "need_fit") fd := by
  obtain ⟨h, X, G, c⟩ := T
  exact DefZ.funD (d := d_Rope_need_fit) (c.defs 37 _ rfl).2 (c.defs 37 _ rfl).1 rfl
theorem F_Rope_change (T : Txt K mg) : ∃ fd, FunD K "change" "Rope.change" (defArgs b_Rope_change) (defBody b_Rope_change) (defScope b_Rope_change) [] [] (He.ma K (He.ga K "Rope") "change") fd := by
  obtain ⟨h, X, G, c⟩ := T
  exact DefZ.funD (d := d_Rope_change) (c.defs 38 _ rfl).2 (c.defs 38 _ rfl).1 rfl
theorem F_Rope_need_place (T : Txt K mg) : ∃ fd, FunD K "need_place" "Rope.need_place" (defArgs b_Rope_need_place) (defBody b_Rope_need_place) (defScope b_Rope_need_place) [] [] (He.ma K (He.ga K "Rope") "need_place") fd := by
  obtain ⟨h, X, G, c⟩ := T
  exact DefZ.funD (d := d_Rope_need_place) (c.defs 39 _ rfl).2 (c.defs 39 _ rfl).1 rfl
theorem F_Rope_add_right (T : Txt K mg) : ∃ fd, FunD K "add_right" "Rope.add_right" (defArgs b_Rope_add_right) (defBody b_Rope_add_right) (defScope b_Rope_add_right) [] [] (He.ma K (He.ga K "Rope") "add_right") fd := by
  obtain ⟨h, X, G, c⟩ := T
  exact DefZ.funD (d := d_Rope_add_right) (c.defs 40 _ rfl).2 (c.defs 40 _ rfl).1 rfl
theorem F_Rope_call (T : Txt K mg) : ∃ fd, FunD K "__call__" "Rope.__call__" (defArgs b_Rope_call) (defBody b_Rope_call) (defScope b_Rope_call) [] [] (He.ma K (He.ga K "Rope") "__call__") fd := by
  obtain ⟨h, X, G, c⟩ := T
  exact DefZ.funD (d := d_Rope_call) (c.defs 41 _ rfl).2 (c.defs 41 _ rfl).1 rfl
theorem F_Rope_add_left (T : Txt K mg) : ∃ fd, FunD K "add_left" "Rope.add_left" (defArgs b_Rope_add_left) (defBody b_Rope_add_left) (defScope b_Rope_add_left) [] [] (He.ma K (He.ga K "Rope") "add_left") fd := by
  obtain ⟨h, X, G, c⟩ := T
  exact DefZ.funD (d := d_Rope_add_left) (c.defs 42 _ rfl).2 (c.defs 42 _ rfl).1 rfl
theorem F_Rope_cut (T : Txt K mg) : ∃ fd, FunD K "cut" "Rope.cut" (defArgs b_Rope_cut) (defBody b_Rope_cut) (defScope b_Rope_cut) [] [] (He.ma K (He.ga K "Rope") "cut") fd := by
  obtain ⟨h, X, G, c⟩ := T
  exact DefZ.funD (d := d_Rope_cut) (c.defs 43 _ rfl).2 (c.defs 43 _ rfl).1 rfl
theorem F_Rope_merge (T : Txt K mg) : ∃ fd, FunD K "merge" "Rope.merge" (defArgs b_Rope_merge) (defBody b_Rope_merge) (defScope b_Rope_merge) [] [] (He.ma K (He.ga K "Rope") "merge") fd := by
  obtain ⟨h, X, G, c⟩ := T
  exact DefZ.funD (d := d_Rope_merge) (c.defs 44 _ rfl).2 (c.defs 44 _ rfl).1 rfl
theorem F_Rope_drop (T : Txt K mg) : ∃ fd, FunD K "drop" "Rope.drop" (defArgs b_Rope_drop) (defBody b_Rope_drop) (defScope b_Rope_drop) [] [] (He.ma K (He.ga K "Rope") "drop") fd := by
  obtain ⟨h, X, G, c⟩ := T
  exact DefZ.funD (d := d_Rope_drop) (c.defs 45 _ rfl).2 (c.defs 45 _ rfl).1 rfl
theorem F_Rope_assign_pieces (T : Txt K mg) : ∃ fd, FunD K "assign_pieces" "Rope.assign_pieces" (defArgs b_Rope_assign_pieces) (defBody b_Rope_assign_pieces) (defScope b_Rope_assign_pieces) [] [] (He.ma K (He.ga K "Rope") "assign_pieces") fd := by
  obtain ⟨h, X, G, c⟩ := T
  exact DefZ.funD (d := d_Rope_assign_pieces) (c.defs 46 _ rfl).2 (c.defs 46 _ rfl).1 rfl
theorem F_Rope_undo (T : Txt K mg) : ∃ fd, FunD K "undo" "Rope.undo" (defArgs b_Rope_undo) (defBody b_Rope_undo) (defScope b_Rope_undo) [] [] (He.ma K (He.ga K "Rope") "undo") fd := by
  obtain ⟨h, X, G, c⟩ := T
  exact DefZ.funD (d := d_Rope_undo) (c.defs 47 _ rfl).2 (c.defs 47 _ rfl).1 rfl
theorem F_Rope_len (T : Txt K mg) : ∃ fd, FunD K "__len__" "Rope.__len__" (defArgs b_Rope_len) (defBody b_Rope_len) (defScope b_Rope_len) [] [] (He.ma K (He.ga K "Rope") "__len__") fd := by
  obtain ⟨h, X, G, c⟩ := T
  exact DefZ.funD (d := d_Rope_len) (c.defs 48 _ rfl).2 (c.defs 48 _ rfl).1 rfl
theorem F_Rope_repr (T : Txt K mg) : ∃ fd, FunD K "__repr__" "Rope.__repr__" (defArgs b_Rope_repr) (defBody b_Rope_repr) (defScope b_Rope_repr) [] [] (He.ma K (He.ga K "Rope") "__repr__") fd := by
  obtain ⟨h, X, G, c⟩ := T
  exact DefZ.funD (d := d_Rope_repr) (c.defs 49 _ rfl).2 (c.defs 49 _ rfl).1 rfl
theorem F_get_machine (T : Txt K mg) : ∃ fd, FunD K "machine" "Rope.machine" (defArgs b_get_machine) (defBody b_get_machine) (defScope b_get_machine) [] [] (getAt "Rope" "machine" K) fd := by
  obtain ⟨h, X, G, c⟩ := T
  exact DefZ.funD (d := d_get_machine) (c.defs 50 _ rfl).2 (c.defs 50 _ rfl).1 rfl
theorem F_get_pieces (T : Txt K mg) : ∃ fd, FunD K "pieces" "Rope.pieces" (defArgs b_get_pieces) (defBody b_get_pieces) (defScope b_get_pieces) [] [] (getAt "Rope" "pieces" K) fd := by
  obtain ⟨h, X, G, c⟩ := T
  exact DefZ.funD (d := d_get_pieces) (c.defs 51 _ rfl).2 (c.defs 51 _ rfl).1 rfl
theorem F_get_word (T : Txt K mg) : ∃ fd, FunD K "word" "Rope.word" (defArgs b_get_word) (defBody b_get_word) (defScope b_get_word) [] [] (getAt "Rope" "word" K) fd := by
  obtain ⟨h, X, G, c⟩ := T
  exact DefZ.funD (d := d_get_word) (c.defs 52 _ rfl).2 (c.defs 52 _ rfl).1 rfl
theorem F_get_result (T : Txt K mg) : ∃ fd, FunD K "result" "Rope.result" (defArgs b_get_result) (defBody b_get_result) (defScope b_get_result) [] [] (getAt "Rope" "result" K) fd := by
  obtain ⟨h, X, G, c⟩ := T
  exact DefZ.funD (d := d_get_result) (c.defs 53 _ rfl).2 (c.defs 53 _ rfl).1 rfl
theorem F_get_results (T : Txt K mg) : ∃ fd, FunD K "results" "Rope.results" (defArgs b_get_results) (defBody b_get_results) (defScope b_get_results) [] [] (getAt "Rope" "results" K) fd := by
  obtain ⟨h, X, G, c⟩ := T
  exact DefZ.funD (d := d_get_results) (c.defs 54 _ rfl).2 (c.defs 54 _ rfl).1 rfl
theorem F_get_changes (T : Txt K mg) : ∃ fd, FunD K "changes" "Rope.changes" (defArgs b_get_changes) (defBody b_get_changes) (defScope b_get_changes) [] [] (getAt "Rope" "changes" K) fd := by
  obtain ⟨h, X, G, c⟩ := T
  exact DefZ.funD (d := d_get_changes) (c.defs 55 _ rfl).2 (c.defs 55 _ rfl).1 rfl
theorem F_Short_most_pieces (T : Txt K mg) : ∃ fd, FunD K "most_pieces" "Short.most_pieces" (defArgs b_Short_most_pieces) (defBody b_Short_most_pieces) (defScope b_Short_most_pieces) [] [] (He.ma K (He.ga K "Short") "most_pieces") fd := by
  obtain ⟨h, X, G, c⟩ := T
  exact DefZ.funD (d := d_Short_most_pieces) (c.defs 56 _ rfl).2 (c.defs 56 _ rfl).1 rfl
theorem F_Steady_need_fit (T : Txt K mg) : ∃ fd, FunC PP K "need_fit" "Steady.need_fit" b_Steady_need_fit [] (He.ma K (He.ga K "Steady") "need_fit") (He.ga K "Steady") fd := by
  obtain ⟨h, X, G, c⟩ := T
  exact DefZ.funC (P := PP) (d := d_Steady_need_fit) (z := "__class__") (c.defs 57 _ rfl).2 (c.defs 57 _ rfl).1 rfl rfl (c.more 177 _ rfl)
theorem F_Short_init (T : Txt K mg) : ∃ fd, FunC PP K "__init__" "Short.__init__" b_Short_init [.int 3] (He.ma K (He.ga K "Short") "__init__") (He.ga K "Short") fd := by
  obtain ⟨h, X, G, c⟩ := T
  exact DefZ.funC (P := PP) (d := d_Short_init) (z := "__class__") (c.defs 58 _ rfl).2 (c.defs 58 _ rfl).1 rfl rfl (c.more 178 _ rfl)
theorem F_LimitError_init (T : Txt K mg) : ∃ fd, FunC PP K "__init__" "LimitError.__init__" b_LimitError_init [] (He.ma K (He.ga K "LimitError") "__init__") (He.ga K "LimitError") fd := by
  obtain ⟨h, X, G, c⟩ := T
  exact DefZ.funC (P := PP) (d := d_LimitError_init) (z := "__class__") (c.defs 59 _ rfl).2 (c.defs 59 _ rfl).1 rfl rfl (c.more 179 _ rfl)
end Txt
end
end K68T
/-! What stands in the heap, said of plain data; promises by values; comprehensions that map. -/
namespace K68D
open PySem PySem.Spec PyProof.Rows L2 K68R K68K K68T K68

/-! ### what is kept -/
/-- the tuples are kept -/
def TK (H H' : Hp) : Prop := ∀ a xs, H a = some (.tup xs) → H' a = some (.tup xs)
/-- all is kept but what stands at x -/
def KeepX (x : Addr) (H H' : Hp) : Prop := ∀ b o, b ≠ x → H b = some o → H' b = some o
theorem TK.refl (H : Hp) : TK H H := fun _ _ h => h
theorem TK.trans {H H1 H2 : Hp} (a : TK H H1) (b : TK H1 H2) : TK H H2 := fun p xs h => b p xs (a p xs h)
theorem TK.of {H H' : Hp} (s : Same H H') : TK H H' := fun a xs h => s a _ h
theorem KeepX.of {x : Addr} {H H' : Hp} (s : Same H H') : KeepX x H H' := fun b o _ h => s b o h
theorem KeepX.trans {x : Addr} {H H1 H2 : Hp} (a : KeepX x H H1) (b : KeepX x H1 H2) : KeepX x H H2 := fun p o n h => b p o n (a p o n h)
theorem KeepX.tk {x : Addr} {H H' : Hp} (k : KeepX x H H') (n : ∀ xs, H x ≠ some (.tup xs)) : TK H H' := fun a xs h => k a _ (fun z => n xs (z ▸ h)) h
theorem same_upd {H : Hp} {p : Addr} {o : HO} (h : H p = none) : Same H (upd H p o) := fun b u e => by
  rw [upd_ne (ne_of_none e h)]
  exact e
theorem keepX_upd {H : Hp} {p : Addr} {o : HO} : KeepX p H (upd H p o) := fun b u n e => by
  rw [upd_ne n]
  exact e
theorem same_set {H H' : Hp} {D : Addr} {o : HO} (s : Same H H') (h : H D = none) : Same H (upd H' D o) := fun b u e => by
  rw [upd_ne (ne_of_none e h)]
  exact s b u e
theorem Same.seqT {K : PySem.W.Frag} {H H' : Hp} {a : Addr} {xs : List V} (e : Same H H') (h : SqT K H a xs) : SqT K H' a xs := by
  rcases h with (h | ⟨o, h⟩) | h
  · exact .inl (.inl (e _ _ h))
  · exact .inl (.inr ⟨o, e _ _ h⟩)
  · exact .inr h

/-! ### data -/
def nV (n : Nat) : V := .int n
def All2 {α : Type} (R : V → α → Prop) (xs : List V) (l : List α) : Prop := xs.length = l.length ∧ ∀ (i : Nat) (x : V) (y : α), xs[i]? = some x → l[i]? = some y → R x y
abbrev Rl (α : Type) := Hp → V → α → Prop
/-- a relation that leans on tuples alone -/
def Stab {α : Type} (R : Rl α) : Prop := ∀ H H' v y, TK H H' → R H v y → R H' v y
/-- a tuple of what R says -/
def Tw {α : Type} (R : Rl α) : Rl (List α) := fun H v l => ∃ a xs, v = .ref a ∧ H a = some (.tup xs) ∧ All2 (R H) xs l
def Wd : Rl Word := fun H v w => ∃ a, v = .ref a ∧ H a = some (.tup (w.map nV))
abbrev Ps : Rl Pieces := Tw Wd
abbrev Pa : Rl (List Pieces) := Tw Ps
section
variable {α : Type} {R : V → α → Prop} {xs ys : List V} {l m : List α}
theorem All2.nil : All2 R [] [] := ⟨rfl, fun _ _ _ h => by simp at h⟩
theorem All2.cons {x : V} {y : α} (h : R x y) (t : All2 R xs l) : All2 R (x :: xs) (y :: l) := ⟨by simp [t.1], fun i a b ha hb => by
  cases i with
  | zero =>
    have e1 : x = a := by simpa using ha
    have e2 : y = b := by simpa using hb
    subst e1 e2
    exact h
  | succ i => exact t.2 i a b (by simpa using ha) (by simpa using hb)⟩
theorem All2.append (s : All2 R xs l) (t : All2 R ys m) : All2 R (xs ++ ys) (l ++ m) := ⟨by rw [List.length_append, List.length_append, s.1, t.1], fun i a b ha hb => by
  by_cases h : i < xs.length
  · rw [List.getElem?_append_left h] at ha
    rw [List.getElem?_append_left (by rw [← s.1]; exact h)] at hb
    exact s.2 i a b ha hb
  · rw [List.getElem?_append_right (by omega)] at ha
    rw [List.getElem?_append_right (by rw [← s.1]; omega), ← s.1] at hb
    exact t.2 _ a b ha hb⟩
theorem All2.take (n : Nat) (s : All2 R xs l) : All2 R (xs.take n) (l.take n) := ⟨by rw [List.length_take, List.length_take, s.1], fun i a b ha hb => by
  rw [List.getElem?_take] at ha hb
  split at ha
  · rename_i hi
    rw [if_pos hi] at hb
    exact s.2 i a b ha hb
  · cases ha⟩
theorem All2.drop (n : Nat) (s : All2 R xs l) : All2 R (xs.drop n) (l.drop n) := ⟨by rw [List.length_drop, List.length_drop, s.1], fun i a b ha hb => by
  rw [List.getElem?_drop] at ha hb
  exact s.2 _ a b ha hb⟩
theorem All2.imp {R' : V → α → Prop} (s : All2 R xs l) (h : ∀ x y, R x y → R' x y) : All2 R' xs l := ⟨s.1, fun i a b ha hb => h a b (s.2 i a b ha hb)⟩
theorem All2.get (s : All2 R xs l) {i : Nat} {y : α} (h : l[i]? = some y) : ∃ x, xs[i]? = some x ∧ R x y := by
  have hi : i < xs.length := by
    rw [s.1]
    exact (List.getElem?_eq_some_iff.mp h).1
  exact ⟨xs[i], List.getElem?_eq_getElem hi, s.2 i _ y (List.getElem?_eq_getElem hi) h⟩
theorem All2.getV (s : All2 R xs l) {i : Nat} {x : V} (h : xs[i]? = some x) : ∃ y, l[i]? = some y ∧ R x y := by
  have hi : i < l.length := by
    rw [← s.1]
    exact (List.getElem?_eq_some_iff.mp h).1
  exact ⟨l[i], List.getElem?_eq_getElem hi, s.2 i x _ h (List.getElem?_eq_getElem hi)⟩
end
theorem all2_map {l : List Nat} : All2 (fun v n => v = nV n) (l.map nV) l := ⟨List.length_map .., fun i x y hx hy => by
  rw [List.getElem?_map, hy] at hx
  exact (Option.some.inj hx).symm⟩
theorem All2.map_eq {xs : List V} {l : List Nat} (s : All2 (fun v n => v = nV n) xs l) : xs = l.map nV := by
  apply List.ext_getElem?
  intro i
  rw [List.getElem?_map]
  cases h : l[i]? with
  | none =>
    rw [List.getElem?_eq_none_iff] at h
    rw [List.getElem?_eq_none_iff.mpr (by rw [s.1]; exact h)]
    rfl
  | some y =>
    obtain ⟨x, hx, e⟩ := s.get h
    rw [hx, e]
    rfl
theorem Stab.tw {α : Type} {R : Rl α} (s : Stab R) : Stab (Tw R) := fun H H' v l k ⟨a, xs, e, h, z⟩ => ⟨a, xs, e, k _ _ h, z.imp fun x y r => s _ _ _ _ k r⟩
theorem stab_wd : Stab Wd := fun H H' v w k ⟨a, e, h⟩ => ⟨a, e, k _ _ h⟩
theorem stab_ps : Stab Ps := stab_wd.tw
theorem stab_pa : Stab Pa := stab_ps.tw
theorem Tw.of {α : Type} {R : Rl α} {H : Hp} {a : Addr} {xs : List V} {l : List α} (h : H a = some (.tup xs)) (z : All2 (R H) xs l) : Tw R H (.ref a) l := ⟨a, xs, rfl, h, z⟩
theorem Wd.of {H : Hp} {a : Addr} {w : Word} (h : H a = some (.tup (w.map nV))) : Wd H (.ref a) w := ⟨a, rfl, h⟩
/-- machines -/
def sideS (left : Bool) : Str := if left then "left" else "right"
def Mc : Rl Mach := fun H v m => ∃ a am ao, v = .ref a ∧ H a = some (.tup [nV m.letters, .str (sideS m.left), nV m.start, .ref am, .ref ao]) ∧ Tw Wd H (.ref am) m.moves ∧ Wd H (.ref ao) m.outs
theorem stab_mc : Stab Mc := fun H H' v m k ⟨a, am, ao, e, h, h1, h2⟩ => ⟨a, am, ao, e, k _ _ h, stab_wd.tw _ _ _ _ k h1, stab_wd _ _ _ _ k h2⟩

/-! ### promises -/
/-- what a promise hands back: a value of which P holds, all kept -/
def Res (H : Hp) (Q : VK) (P : Hp → V → Prop) : Prop := ∀ v H', Same H H' → P H' v → Q v H'
theorem Res.imp {H : Hp} {Q : VK} {P P' : Hp → V → Prop} (r : Res H Q P) (h : ∀ H' v, Same H H' → P' H' v → P H' v) : Res H Q P' := fun v H' s p => r v H' s (h H' v s p)
theorem Res.now {H : Hp} {Q : VK} {P : Hp → V → Prop} (r : Res H Q P) {v : V} (p : P H v) : Q v H := r v H (Same.refl H) p
theorem Res.at {H H1 : Hp} {Q : VK} {P : Hp → V → Prop} (r : Res H Q P) (s : Same H H1) : Res H1 Q P := fun v H' s' p => r v H' (s.trans s') p
section
variable {P : Program} {w : World} {K : PySem.W.Frag} {mg : Str → Option Value} {base : Heap} {CX : CXT} {k : Nat} {f : Addr} {sp : Sp} {x qual : Str} {params : Arguments} {body : List Stmt} {scope : Scope} {fd : FuncData} {N ps : List Str}
/-- THE RULE: a def of the text -/
theorem mkR (F : FunD K x qual params body scope [] [] f fd) (S : FnScope N ps scope)
    (hb : ∀ (kV doc pm : Value) (an : Option Addr) (cdv ct : Value) (us : List Value), us.length = ps.length → bindArgs (PySem.W.fnOf x qual params body scope .none kV doc pm an cdv ct) ⟨us, []⟩ = pure (ps.zip us))
    (len : ∀ vs H Q E, sp vs H Q E → vs.length = ps.length)
    (hbody : ∀ (cdv : Value) (A : Around) (outer : List Env) (s : Shared) (H : Hp) (vs : List V) (Q : VK) (E : XK), Room k (A.deeper (envOfC qual scope s.heap.objs.size f cdv)) → sp vs H Q E →
      ∃ t, PSs (cxOf CX P w K mg base N qual scope f cdv A outer s H E) body t ∧ t { nx := fun _ H' => Q .non H', rt := Q } (start N vs) H) : FnR P w K mg base CX (k + 1) f sp := by
  have G : FnOk P w K mg base CX (k + 1) f fd ps sp := F.ok S len hbody
  have b : Binds K fd ps [] := by
    obtain ⟨oc, od, dV, kV, doc, pm, an, cdv, ct, osl, rfl, lk, hcd, hD, _⟩ := F.ex
    rcases hD with ⟨_, e⟩ | ⟨e, _⟩
    · subst e
      exact Binds.all fun us hl => hb kV doc pm an cdv ct us hl
    · exact absurd rfl e
  exact (G.raw b .nil).imp fun vs H Q E h => by rw [List.append_nil]; exact h
end
section
variable {P : Program} {w : World} {K : PySem.W.Frag} {mg : Str → Option Value} {base : Heap} {CX : CXT} {k : Nat} {f : Addr} {sp : Sp} {x qual : Str} {params : Arguments} {body : List Stmt} {scope : Scope} {fd : FuncData} {N ps : List Str}
/-- .. for what is called by a rule that wants how it binds -/
theorem mkO (F : FunD K x qual params body scope [] [] f fd) (S : FnScope N ps scope)
    (hb : ∀ (kV doc pm : Value) (an : Option Addr) (cdv ct : Value) (us : List Value), us.length = ps.length → bindArgs (PySem.W.fnOf x qual params body scope .none kV doc pm an cdv ct) ⟨us, []⟩ = pure (ps.zip us))
    (len : ∀ vs H Q E, sp vs H Q E → vs.length = ps.length)
    (hbody : ∀ (cdv : Value) (A : Around) (outer : List Env) (s : Shared) (H : Hp) (vs : List V) (Q : VK) (E : XK), Room k (A.deeper (envOfC qual scope s.heap.objs.size f cdv)) → sp vs H Q E →
      ∃ t, PSs (cxOf CX P w K mg base N qual scope f cdv A outer s H E) body t ∧ t { nx := fun _ H' => Q .non H', rt := Q } (start N vs) H) : FnOk P w K mg base CX (k + 1) f fd ps sp ∧ Binds K fd ps [] := by
  refine ⟨F.ok S len hbody, ?_⟩
  obtain ⟨oc, od, dV, kV, doc, pm, an, cdv, ct, osl, rfl, lk, hcd, hD, _⟩ := F.ex
  rcases hD with ⟨_, e⟩ | ⟨e, _⟩
  · subst e
    exact Binds.all fun us hl => hb kV doc pm an cdv ct us hl
  · exact absurd rfl e
end
section
variable {X : Cx} {CX : CXT} {k : Nat} {f : Addr} {sp : Sp} {E : XK} {x : Str} {p pos : Pos} {e : Expr} {es : List Expr} {t : TA}
def tCallR (sp : Sp) (E : XK) (t : TA) : TE := fun σ H Q => t σ H fun vs H1 => sp vs H1 Q E
/-- f(e, ..), f a def of the module -/
theorem pe_callR (F : FnR X.prog X.w X.K X.mg X.base CX k f sp) (hr : Room k X.A) (hg : Gl X x) (hm : X.mg x = some (.ref f)) (hk : PySem.W.keepIn X.K (.ref f) = true) (hx : Passes CX X E) (ha : PA X (e :: es) t) (hdb : (x == ("__debug__" : Str)) = false := by decide)
    (he : starEach (e :: es) X.env = (false, eval e X.env) :: starEach es X.env := by rfl) (hpl : (backTo pos (starEach es X.env)).any (·.1) = false := by rfl) : PE X (.Call (.Name x p) (e :: es) [] pos) (tCallR sp E t) := by
  refine ⟨fun pins s σ H Q I h => ?_⟩
  refine wpAny_Call_Name_kw (ld_glob I hg hm ?_ hdb)
  refine PySem.W.callWith_K (h₀ := X.base) I.ok.mod.kin hk (thn (ha.run pos pins s σ H _ I h) fun us s1 ⟨vs, H1, I1, r, q⟩ => ⟨I1.kIn, ?_⟩) he hpl
  exact wpAny_call (run_fnR F hr hx I1 r q)
theorem pe_callR0 (F : FnR X.prog X.w X.K X.mg X.base CX k f sp) (hr : Room k X.A) (hg : Gl X x) (hm : X.mg x = some (.ref f)) (hk : PySem.W.keepIn X.K (.ref f) = true) (hx : Passes CX X E) (hdb : (x == ("__debug__" : Str)) = false := by decide) :
    PE X (.Call (.Name x p) [] [] pos) (tCallR sp E tNil) := by
  refine ⟨fun pins s σ H Q I h => ?_⟩
  refine wpAny_Call_Name_kw (ld_glob I hg hm ?_ hdb)
  exact PySem.W.callWith_K0 (first := []) I.kIn hk (wpAny_call (run_fnR (us := []) (vs := []) F hr hx I .nil h))
end

/-! ### rules with the written part named (for the blocks of comprehensions) -/
section
variable {X : Cx}
theorem ixT (K : PySem.W.Frag) (h : X.K = K := by rfl) : IxR X (rIxT K) := h ▸ ix_tup
theorem ixL (K : PySem.W.Frag) (h : X.K = K := by rfl) : IxR X (rIxL K) := h ▸ ix_list
def rLenK (K : PySem.W.Frag) : List V → Hp → VK → Prop := fun xs H Q => ∃ x n, xs = [x] ∧ LenV K x H n ∧ Q (.int n) H
theorem lenK (K : PySem.W.Frag) (h : X.K = K := by rfl) : CallR X (.builtin "len") (rLenK K) := h ▸ call_len
theorem piT (K : PySem.W.Frag) {tg l : Expr} {tl : TE} (hl : PE X l tl) (h : X.K = K := by rfl) : PI X tg l (iTup K tl) := h ▸ pi_tup hl
theorem fldK (K : PySem.W.Frag) {e : Expr} {f : Str} {pos : Pos} {ta : TE} (he : PE X e ta) (hb : attributeBase e f X.env (eval e X.env) = eval e X.env := by rfl) (h : X.K = K := by rfl) : PE X (.Attribute e f pos) (tFld K ta f) := h ▸ pe_fld he hb
theorem piL (K : PySem.W.Frag) {tg l : Expr} {tl : TE} (hl : PE X l tl) (h : X.K = K := by rfl) : PI X tg l (iList K tl) := h ▸ pi_list hl
end

/-! ### comprehensions that map -/
section
variable {K : PySem.W.Frag} {a : Addr} {xs : List V} {k n : Nat} {te : TE} {vs : List Nat} {σ : L2.St} {H1 : Hp} {D : Addr} {Qd : Hp → Prop}
def MapsTo (R : Nat → Hp → V → Prop) (H1 : Hp) (D : Addr) (i : Nat) (H : Hp) : Prop := Same H1 H ∧ ∃ acc : List V, H D = some (.lst acc) ∧ acc.length = i ∧ ∀ (j : Nat) (v : V), acc[j]? = some v → R j H v
theorem maps_start {R : Nat → Hp → V → Prop} (hD : H1 D = none) : MapsTo R H1 D 0 (upd H1 D (.lst [])) := ⟨same_upd hD, [], upd_same, rfl, fun _ _ h => by simp at h⟩
theorem maps_turn {R : Nat → Hp → V → Prop} (mono : ∀ i H H' v, TK H H' → R i H v → R i H' v) (hD : H1 D = none) {i : Nat} {H H4 : Hp} {y : V} (hi : i < 1000) (p : MapsTo R H1 D i H) (s : Same H H4) (r : R i H4 y) :
    ∃ acc, H4 D = some (.lst acc) ∧ acc.length < sizeLine ∧ MapsTo R H1 D (i + 1) (upd H4 D (.lst (acc ++ [y]))) := by
  obtain ⟨s1, acc, hl, hn, ha⟩ := p
  have hD4 := s _ _ hl
  have tk : TK H4 (upd H4 D (.lst (acc ++ [y]))) := fun b zs e => by
    rw [upd_ne fun z => by rw [z, hD4] at e; cases e]
    exact e
  refine ⟨acc, hD4, by rw [hn]; exact small1000 (by omega), same_set (s1.trans s) hD, acc ++ [y], upd_same, by rw [List.length_append, hn]; rfl, fun j v e => ?_⟩
  by_cases hj : j < acc.length
  · rw [List.getElem?_append_left hj] at e
    exact mono _ _ _ _ tk (mono _ _ _ _ (TK.of s) (ha j v e))
  · rw [List.getElem?_append_right (by omega)] at e
    have hz : j - acc.length = 0 := by
      cases q : j - acc.length with
      | zero => rfl
      | succ m =>
        rw [q] at e
        simp at e
    rw [hz] at e
    have ev : y = v := by simpa using e
    subst ev
    have ej : j = i := by omega
    subst ej
    exact mono _ _ _ _ tk r
/-- over a tuple -/
theorem lcT (R : Nat → Hp → V → Prop) (mono : ∀ i H H' v, TK H H' → R i H v → R i H' v) (hD : H1 D = none) (hsrc : SqT K H1 a xs) (hlen : xs.length ≤ 1000) (hw : ∀ x, wipe ((wipe σ vs).set k (some x)) vs = wipe σ vs)
    (el : ∀ (i : Nat) (x : V) (H : Hp) (Q : VK), xs[i]? = some x → Same H1 H → Res H Q (R i) → te ((wipe σ vs).set k (some x)) H Q)
    (done : ∀ H ys, Same H1 H → H D = some (.lst ys) → ys.length = xs.length → (∀ (i : Nat) (y : V), ys[i]? = some y → R i H y) → Qd H) :
    ∃ W : Nat → Nat → Hp → Prop, (∃ m, W 0 m (upd H1 D (.lst []))) ∧ ∀ i m H, W i m H →
      ((Itt K a).stop i H ∧ Qd H) ∨ ((Itt K a).go i H ∧ ∃ Nx : Hp → Prop, (∀ H', Nx H' → ∃ m', m' < m ∧ W (i + 1) m' H') ∧ ∀ x H', (Itt K a).yld i H x H' → gName k x (wipe σ vs) H' fun σ2 H2 => wipe σ2 vs = wipe σ vs ∧ tYes σ2 H2 fun b H3 =>
        if b = true then te σ2 H3 fun y H4 => ∃ acc, H4 D = some (.lst acc) ∧ acc.length < sizeLine ∧ Nx (upd H4 D (.lst (acc ++ [y]))) else Nx H3) := by
  refine lc_tup (K := K) (a := a) (xs := xs) (MapsTo R H1 D) (maps_start hD) (fun i H _ p => Same.seqT p.1 hsrc) (fun i x H hx p => ?_) fun H p => ?_
  · have hi : i < 1000 := Nat.lt_of_lt_of_le (List.getElem?_eq_some_iff.mp hx).1 hlen
    refine ⟨hw x, ?_⟩
    show if true = true then te ((wipe σ vs).set k (some x)) H (fun y H4 => ∃ acc, H4 D = some (.lst acc) ∧ acc.length < sizeLine ∧ MapsTo R H1 D (i + 1) (upd H4 D (.lst (acc ++ [y])))) else MapsTo R H1 D (i + 1) H
    rw [if_pos rfl]
    exact el i x H _ hx p.1 fun y H4 s r => maps_turn mono hD hi p s r
  · obtain ⟨s, ys, h1, h2, h3⟩ := p
    exact done H ys s h1 h2 h3
/-- over a list -/
theorem lcL (R : Nat → Hp → V → Prop) (mono : ∀ i H H' v, TK H H' → R i H v → R i H' v) (hD : H1 D = none) (hsrc : SqL K H1 a xs) (hlen : xs.length ≤ 1000) (hw : ∀ x, wipe ((wipe σ vs).set k (some x)) vs = wipe σ vs)
    (el : ∀ (i : Nat) (x : V) (H : Hp) (Q : VK), xs[i]? = some x → Same H1 H → Res H Q (R i) → te ((wipe σ vs).set k (some x)) H Q)
    (done : ∀ H ys, Same H1 H → H D = some (.lst ys) → ys.length = xs.length → (∀ (i : Nat) (y : V), ys[i]? = some y → R i H y) → Qd H) :
    ∃ W : Nat → Nat → Hp → Prop, (∃ m, W 0 m (upd H1 D (.lst []))) ∧ ∀ i m H, W i m H →
      ((Itl K a).stop i H ∧ Qd H) ∨ ((Itl K a).go i H ∧ ∃ Nx : Hp → Prop, (∀ H', Nx H' → ∃ m', m' < m ∧ W (i + 1) m' H') ∧ ∀ x H', (Itl K a).yld i H x H' → gName k x (wipe σ vs) H' fun σ2 H2 => wipe σ2 vs = wipe σ vs ∧ tYes σ2 H2 fun b H3 =>
        if b = true then te σ2 H3 fun y H4 => ∃ acc, H4 D = some (.lst acc) ∧ acc.length < sizeLine ∧ Nx (upd H4 D (.lst (acc ++ [y]))) else Nx H3) := by
  refine lc_list (K := K) (a := a) (xs := xs) (MapsTo R H1 D) (maps_start hD) (fun i H _ p => p.1.seq hsrc) (fun i x H hx p => ?_) fun H p => ?_
  · have hi : i < 1000 := Nat.lt_of_lt_of_le (List.getElem?_eq_some_iff.mp hx).1 hlen
    refine ⟨hw x, ?_⟩
    show if true = true then te ((wipe σ vs).set k (some x)) H (fun y H4 => ∃ acc, H4 D = some (.lst acc) ∧ acc.length < sizeLine ∧ MapsTo R H1 D (i + 1) (upd H4 D (.lst (acc ++ [y])))) else MapsTo R H1 D (i + 1) H
    rw [if_pos rfl]
    exact el i x H _ hx p.1 fun y H4 s r => maps_turn mono hD hi p s r
  · obtain ⟨s, ys, h1, h2, h3⟩ := p
    exact done H ys s h1 h2 h3
/-- over range(n) -/
theorem lcN (R : Nat → Hp → V → Prop) (mono : ∀ i H H' v, TK H H' → R i H v → R i H' v) (hD : H1 D = none) (hlen : n ≤ 1000) (hw : ∀ x, wipe ((wipe σ vs).set k (some x)) vs = wipe σ vs)
    (el : ∀ (i : Nat) (H : Hp) (Q : VK), i < n → Same H1 H → Res H Q (R i) → te ((wipe σ vs).set k (some (nV i))) H Q)
    (done : ∀ H ys, Same H1 H → H D = some (.lst ys) → ys.length = n → (∀ (i : Nat) (y : V), ys[i]? = some y → R i H y) → Qd H) :
    ∃ W : Nat → Nat → Hp → Prop, (∃ m, W 0 m (upd H1 D (.lst []))) ∧ ∀ i m H, W i m H →
      ((Itr 0 n).stop i H ∧ Qd H) ∨ ((Itr 0 n).go i H ∧ ∃ Nx : Hp → Prop, (∀ H', Nx H' → ∃ m', m' < m ∧ W (i + 1) m' H') ∧ ∀ x H', (Itr 0 n).yld i H x H' → gName k x (wipe σ vs) H' fun σ2 H2 => wipe σ2 vs = wipe σ vs ∧ tYes σ2 H2 fun b H3 =>
        if b = true then te σ2 H3 fun y H4 => ∃ acc, H4 D = some (.lst acc) ∧ acc.length < sizeLine ∧ Nx (upd H4 D (.lst (acc ++ [y]))) else Nx H3) := by
  refine lc_range (lo := 0) (n := n) (MapsTo R H1 D) (maps_start hD) (fun i H hi p => ?_) fun H p => ?_
  · have e : V.int (0 + (i : Int)) = nV i := by
      rw [Int.zero_add]
      rfl
    rw [e]
    refine ⟨hw _, ?_⟩
    show if true = true then te ((wipe σ vs).set k (some (nV i))) H (fun y H4 => ∃ acc, H4 D = some (.lst acc) ∧ acc.length < sizeLine ∧ MapsTo R H1 D (i + 1) (upd H4 D (.lst (acc ++ [y])))) else MapsTo R H1 D (i + 1) H
    rw [if_pos rfl]
    exact el i H _ hi p.1 fun y H4 s r => maps_turn mono hD (by omega) p s r
  · obtain ⟨s, ys, h1, h2, h3⟩ := p
    exact done H ys s h1 h2 h3
end
end K68D
/-! maps.py: the defs and what they compute. -/
namespace K68D
open PySem PySem.Spec PyProof.Rows L2 K68R K68K K68T K68
section
variable {w : World} {K : PySem.W.Frag} {mg : Str → Option Value} {base : Heap}
/-! ### no_map -/
def spNoMap : Sp := fun vs H Q _ => ∃ vm m, vs = [vm] ∧ Mc H vm m ∧ m.moves.length ≤ 4 ∧ Res H Q fun H' v => Wd H' v (List.range m.moves.length)
theorem sc_no_map : FnScope ["machine"] ["machine"] (defScope b_no_map) := ⟨rfl, rfl, rfl, by decide +kernel, rfl, by decide +kernel, by decide +kernel⟩
theorem r_no_map (T : Txt K mg) : FnR PP w K mg base CX0 1 (He.ga K "no_map") spNoMap := by
  obtain ⟨fd, F⟩ := T.F_no_map
  refine mkR F sc_no_map (fun _ _ _ _ _ _ us hl => match us, hl with | [_], _ => rfl) (fun vs H Q E h => ?_) (fun cdv A outer s H vs Q E hr h => ?_)
  · obtain ⟨vm, m, rfl, _⟩ := h
    rfl
  · refine ⟨_, PSs.nox (pss_one (ps_ret (pe_tupRg rfl rfl T.f_tuple (prg_1 rfl T.f_range (pe_callB call_len rfl T.f_len boot_len (pa_cons (pe_ix ix_tup (pv 0) pe_int (fun _ _ => rfl)) pa_nil)))))), ?_⟩
    obtain ⟨vm, m, rfl, hm, h4, r⟩ := h
    obtain ⟨a, am, ao, rfl, ha, ⟨am', rows, e1, hrows, z⟩, _⟩ := hm
    obtain rfl : am = am' := V.ref.inj e1
    refine ⟨_, rfl, _, _, _, _, rfl, rfl, SqT.of ha, rfl, _, rows.length, rfl, .inr ⟨_, SqT.of hrows, rfl⟩, _, rfl, ?_⟩
    rw [z.1]
    refine ⟨RgOk.of_le (by omega) (by omega) (by omega) (by omega), fun q hq => ?_⟩
    refine r _ _ (same_upd hq) (Wd.of ?_)
    rw [upd_same]
    congr 2
    unfold rgV
    rw [show ((m.moves.length : Int) - 0).toNat = m.moves.length by omega]
    exact List.map_congr_left fun i _ => by show V.int (0 + (i : Int)) = V.int i; rw [Int.zero_add]
theorem pts_eq {ys : List V} {l : List Nat} (hl : ys.length = l.length) (h : ∀ (i : Nat) (y : V), ys[i]? = some y → y = nV (l.getD i 0)) : ys = l.map nV := by
  apply List.ext_getElem?
  intro i
  rw [List.getElem?_map]
  cases e : ys[i]? with
  | none =>
    rw [List.getElem?_eq_none_iff] at e
    rw [List.getElem?_eq_none_iff.mpr (by omega)]
    rfl
  | some y =>
    have hi : i < l.length := by
      rw [← hl]
      exact (List.getElem?_eq_some_iff.mp e).1
    rw [h i y e, List.getD_eq_getElem?_getD, List.getElem?_eq_getElem hi]
    rfl
theorem at_nV {l : List Nat} {i : Nat} (h : i < l.length) : atI (l.map nV) (i : Int) = some (nV (l.getD i 0)) := by
  refine atI_nat ?_
  rw [List.getElem?_map, List.getD_eq_getElem?_getD, List.getElem?_eq_getElem h]
  rfl
theorem getD_of {α : Type} {l : List α} {i : Nat} {y d : α} (h : l[i]? = some y) : l.getD i d = y := by
  rw [List.getD_eq_getElem?_getD, h]
  rfl
/-! ### letter_map -/
def spLetterMap : Sp := fun vs H Q _ => ∃ vm m a, vs = [vm, nV a] ∧ Mc H vm m ∧ m.Ok ∧ a < m.letters ∧ Res H Q fun H' v => Wd H' v (m.letterMap a)
theorem sc_letter_map : FnScope ["machine", "letter", "row"] ["machine", "letter"] (defScope b_letter_map) := ⟨rfl, rfl, rfl, by decide +kernel, rfl, by decide +kernel, by decide +kernel⟩
theorem r_letter_map (T : Txt K mg) : FnR PP w K mg base CX0 1 (He.ga K "letter_map") spLetterMap := by
  obtain ⟨fd, F⟩ := T.F_letter_map
  refine mkR F sc_letter_map (fun _ _ _ _ _ _ us hl => match us, hl with | [_, _], _ => rfl) (fun vs H Q E h => ?_) (fun cdv A outer s H vs Q E hr h => ?_)
  · obtain ⟨vm, m, a, rfl, _⟩ := h
    rfl
  · refine ⟨_, PSs.nox (pss_one (ps_ret (pe_callTy call_tuple_of rfl T.f_tuple (by decide +kernel) (pa_cons (pe_lc (own := [("row", 2)]) (g := gName 2) (tt := tYes) rfl sc_letter_map.nd (pi_tup (pe_ix ix_tup (pv 0) pe_int (fun _ _ => rfl))) (blkOk_by (N := ["machine", "letter", "row"]) (sc := defScope b_letter_map) (by decide +kernel))
      (fun _ _ _ _ _ => pg_name (i := 2) sc_letter_map.nd rfl (Or.inl rfl)) (fun _ _ _ _ _ => pts_nil) (fun _ _ _ _ _ => pe_ix (ixT K) (pv 2) (pv 1) (fun _ _ => rfl))) pa_nil)))), ?_⟩
    obtain ⟨vm, m, a, rfl, hm, ok, hla, r⟩ := h
    obtain ⟨p, am, ao, rfl, ha, ⟨am', rows, e1, hrows, z⟩, _⟩ := hm
    obtain rfl : am = am' := V.ref.inj e1
    have h4 := ok.four
    refine ⟨_, rfl, _, _, _, _, rfl, rfl, SqT.of ha, rfl, am, rfl, ⟨_, SqT.of hrows⟩, fun D hD => lcT (k := 2) (fun i H v => v = nV ((m.letterMap a).getD i 0)) (fun _ _ _ _ _ h => h) hD (SqT.of hrows) (by rw [z.1]; omega) (fun x => rfl) (fun i x H1 Q1 hx s1 r1 => ?_) fun H1 ys s1 hys hlen hv => ?_⟩
    · obtain ⟨row, hrow, b, rfl, hb⟩ := z.getV hx
      have hmem : row ∈ m.moves := List.mem_of_getElem? hrow
      have hb1 := s1 _ _ hb
      refine ⟨_, rfl, _, rfl, b, _, _, _, rfl, rfl, SqT.of hb1, at_nV (i := a) (by rw [(ok.row row hmem).1]; exact hla), r1.now ?_⟩
      unfold Mach.letterMap
      rw [getD_map' m.moves (fun r => r.getD a 0) [] i (List.getElem?_eq_some_iff.mp hrow).1, getD_of hrow]
    · refine ⟨D, ys, rfl, .inl ⟨SqL.of hys, fun l hl => r _ _ (s1.trans (same_upd hl)) (Wd.of ?_)⟩⟩
      rw [upd_same, pts_eq (by rw [hlen, z.1]; unfold Mach.letterMap; rw [List.length_map]) hv]
/-! ### after -/
def spAfter : Sp := fun vs H Q _ => ∃ v1 v2 f g, vs = [v1, v2] ∧ Wd H v1 f ∧ Wd H v2 g ∧ f.length ≤ 4 ∧ (∀ x ∈ f, x < g.length) ∧ Res H Q fun H' v => Wd H' v (after f g)
theorem sc_after : FnScope ["first", "second", "state"] ["first", "second"] (defScope b_after) := ⟨rfl, rfl, rfl, by decide +kernel, rfl, by decide +kernel, by decide +kernel⟩
theorem r_after (T : Txt K mg) : FnR PP w K mg base CX0 1 (He.ga K "after") spAfter := by
  obtain ⟨fd, F⟩ := T.F_after
  refine mkR F sc_after (fun _ _ _ _ _ _ us hl => match us, hl with | [_, _], _ => rfl) (fun vs H Q E h => ?_) (fun cdv A outer s H vs Q E hr h => ?_)
  · obtain ⟨v1, v2, f, g, rfl, _⟩ := h
    rfl
  · refine ⟨_, PSs.nox (pss_one (ps_ret (pe_callTy call_tuple_of rfl T.f_tuple (by decide +kernel) (pa_cons (pe_lc (own := [("state", 2)]) (g := gName 2) (tt := tYes) rfl sc_after.nd (pi_tup (pv 0)) (blkOk_by (N := ["first", "second", "state"]) (sc := defScope b_after) (by decide +kernel))
      (fun _ _ _ _ _ => pg_name (i := 2) sc_after.nd rfl (Or.inl rfl)) (fun _ _ _ _ _ => pts_nil) (fun _ _ _ _ _ => pe_ix (ixT K) (pv 1) (pv 2) (fun _ _ => rfl))) pa_nil)))), ?_⟩
    obtain ⟨v1, v2, f, g, rfl, ⟨p, rfl, hp⟩, ⟨q, rfl, hq⟩, h4, hlt, r⟩ := h
    refine ⟨_, rfl, p, rfl, ⟨_, SqT.of hp⟩, fun D hD => lcT (k := 2) (fun i H v => v = nV ((after f g).getD i 0)) (fun _ _ _ _ _ h => h) hD (SqT.of hp) (by rw [List.length_map]; omega) (fun x => rfl) (fun i x H1 Q1 hx s1 r1 => ?_) fun H1 ys s1 hys hlen hv => ?_⟩
    · rw [List.getElem?_map] at hx
      cases hf : f[i]? with
      | none =>
        rw [hf] at hx
        cases hx
      | some n =>
        rw [hf] at hx
        obtain rfl : nV n = x := Option.some.inj hx
        refine ⟨_, rfl, _, rfl, q, _, _, _, rfl, rfl, SqT.of (s1 _ _ hq), at_nV (i := n) (hlt n (List.mem_of_getElem? hf)), r1.now ?_⟩
        rw [after_at (List.getElem?_eq_some_iff.mp hf).1, getD_of hf]
    · refine ⟨D, ys, rfl, .inl ⟨SqL.of hys, fun l hl => r _ _ (s1.trans (same_upd hl)) (Wd.of ?_)⟩⟩
      rw [upd_same, pts_eq (by rw [hlen, List.length_map]; unfold after; rw [List.length_map]) hv]
/-! ### joined, appended -/
theorem sideS_eq (b : Bool) : decide (V.str (sideS b) = V.str "left") = b := by cases b <;> decide +kernel
def spJoined : Sp := fun vs H Q _ => ∃ vm v1 v2 m f g, vs = [vm, v1, v2] ∧ Mc H vm m ∧ m.Ok ∧ Wd H v1 f ∧ Wd H v2 g ∧ m.IsMap f ∧ m.IsMap g ∧ Res H Q fun H' v => Wd H' v (m.joined f g)
theorem sc_joined : FnScope ["machine", "one", "other"] ["machine", "one", "other"] (defScope b_joined) := ⟨rfl, rfl, rfl, by decide +kernel, rfl, by decide +kernel, by decide +kernel⟩
theorem r_joined (T : Txt K mg) : FnR PP w K mg base CX0 2 (He.ga K "joined") spJoined := by
  obtain ⟨fd, F⟩ := T.F_joined
  obtain ⟨tl, hL⟩ := T.s_LEFT
  obtain ⟨_, FA⟩ := T.F_after
  refine mkR F sc_joined (fun _ _ _ _ _ _ us hl => match us, hl with | [_, _, _], _ => rfl) (fun vs H Q E h => ?_) (fun cdv A outer s H vs Q E hr h => ?_)
  · obtain ⟨vm, v1, v2, m, f, g, rfl, _⟩ := h
    rfl
  · refine ⟨_, PSs.nox (pss_one (ps_ret (pe_ifExp (pt_cmpR op_eq (pe_ix ix_tup (pv 0) pe_int (fun _ _ => rfl)) (pe_glob (v := .str "left") rfl hL ⟨tl, rfl⟩) (nomark _))
      (pe_callR (r_after T) hr rfl T.g_after FA.kp pass0 (pa_cons (pv 1) (pa_cons (pv 2) pa_nil))) (pe_callR (r_after T) hr rfl T.g_after FA.kp pass0 (pa_cons (pv 2) (pa_cons (pv 1) pa_nil)))))), ?_⟩
    obtain ⟨vm, v1, v2, m, f, g, rfl, hm, ok, hf, hg, mf, mg', r⟩ := h
    obtain ⟨p, am, ao, rfl, ha, _⟩ := hm
    have h4 := ok.four
    refine ⟨_, rfl, _, _, _, _, rfl, rfl, SqT.of ha, rfl, rfl, _, rfl, ?_⟩
    unfold Mach.joined at r
    rw [sideS_eq]
    cases hl : m.left with
    | true =>
      rw [hl, if_pos rfl] at r
      exact iteT ⟨_, rfl, _, rfl, _, _, f, g, rfl, hf, hg, by rw [mf.1]; exact h4, fun x hx => by rw [mg'.1]; exact mf.2 x hx, r⟩
    | false =>
      rw [hl, if_neg Bool.false_ne_true] at r
      exact iteF ⟨_, rfl, _, rfl, _, _, g, f, rfl, hg, hf, by rw [mg'.1]; exact h4, fun x hx => by rw [mf.1]; exact mg'.2 x hx, r⟩
def spAppended : Sp := fun vs H Q _ => ∃ vm v1 m f a, vs = [vm, v1, nV a] ∧ Mc H vm m ∧ m.Ok ∧ Wd H v1 f ∧ m.IsMap f ∧ a < m.letters ∧ Res H Q fun H' v => Wd H' v (m.appended f a)
theorem sc_appended : FnScope ["machine", "one", "letter"] ["machine", "one", "letter"] (defScope b_appended) := ⟨rfl, rfl, rfl, by decide +kernel, rfl, by decide +kernel, by decide +kernel⟩
theorem r_appended (T : Txt K mg) : FnR PP w K mg base CX0 3 (He.ga K "appended") spAppended := by
  obtain ⟨fd, F⟩ := T.F_appended
  obtain ⟨_, FJ⟩ := T.F_joined
  obtain ⟨_, FL⟩ := T.F_letter_map
  refine mkR F sc_appended (fun _ _ _ _ _ _ us hl => match us, hl with | [_, _, _], _ => rfl) (fun vs H Q E h => ?_) (fun cdv A outer s H vs Q E hr h => ?_)
  · obtain ⟨vm, v1, m, f, a, rfl, _⟩ := h
    rfl
  · refine ⟨_, PSs.nox (pss_one (ps_ret (pe_callR (r_joined T) hr rfl T.g_joined FJ.kp pass0 (pa_cons (pv 0) (pa_cons (pv 1) (pa_cons (pe_callR (r_letter_map T) (hr.mono (by decide)) rfl T.g_letter_map FL.kp pass0 (pa_cons (pv 0) (pa_cons (pv 2) pa_nil))) pa_nil)))))), ?_⟩
    obtain ⟨vm, v1, m, f, a, rfl, hm, ok, hf, mf, hla, r⟩ := h
    refine ⟨_, rfl, _, rfl, _, rfl, _, rfl, vm, m, a, rfl, hm, ok, hla, fun v H1 s1 h1 => ?_⟩
    exact ⟨vm, v1, v, m, f, _, rfl, stab_mc _ _ _ _ (TK.of s1) hm, ok, stab_wd _ _ _ _ (TK.of s1) hf, h1, mf, isMap_letter ok hla, r.at s1⟩
/-! ### map_of -/
def spMapOf : Sp := fun vs H Q _ => ∃ vm vw m wd, vs = [vm, vw] ∧ Mc H vm m ∧ m.Ok ∧ Wd H vw wd ∧ m.Wok wd ∧ Res H Q fun H' v => Wd H' v (m.mapOf wd)
theorem sc_map_of : FnScope ["machine", "word", "found", "letter"] ["machine", "word"] (defScope b_map_of) := ⟨rfl, rfl, rfl, by decide +kernel, rfl, by decide +kernel, by decide +kernel⟩
theorem take_snoc {α : Type} {l : List α} {i : Nat} {x : α} (h : l[i]? = some x) : l.take (i + 1) = l.take i ++ [x] := by
  rw [List.take_add_one, h]
  rfl
theorem r_map_of (T : Txt K mg) : FnR PP w K mg base CX0 4 (He.ga K "map_of") spMapOf := by
  obtain ⟨fd, F⟩ := T.F_map_of
  obtain ⟨_, FN⟩ := T.F_no_map
  obtain ⟨_, FA⟩ := T.F_appended
  refine mkR F sc_map_of (fun _ _ _ _ _ _ us hl => match us, hl with | [_, _], _ => rfl) (fun vs H Q E h => ?_) (fun cdv A outer s H vs Q E hr h => ?_)
  · obtain ⟨vm, vw, m, wd, rfl, _⟩ := h
    rfl
  · refine ⟨_, PSs.nox (pss_cons (ps_set (i := 2) sc_map_of.nd rfl (Or.inl rfl) (pe_callR (r_no_map T) (hr.mono (by decide)) rfl T.g_no_map FN.kp pass0 (pa_cons (pv 0) pa_nil)))
      (pss_cons (ps_for PassesOwn.never rfl (pi_tup (pv 1)) (pg_name (i := 3) sc_map_of.nd rfl (Or.inl rfl)) (pss_one (ps_set (i := 2) sc_map_of.nd rfl (Or.inl rfl) (pe_callR (r_appended T) hr rfl T.g_appended FA.kp pass0 (pa_cons (pv 0) (pa_cons (pv 2) (pa_cons (pv 3) pa_nil)))))))
      (pss_one (ps_ret (pv 2))))), ?_⟩
    obtain ⟨vm, vw, m, wd, rfl, hm, ok, ⟨p, rfl, hp⟩, wok, r⟩ := h
    refine ⟨_, rfl, vm, m, rfl, hm, ok.four, fun v1 H1 s1 h1 => ?_⟩
    refine ⟨_, rfl, p, rfl, ⟨_, SqT.of (s1 _ _ hp)⟩, for_tup (K := K) (a := p) (xs := wd.map nV) (fun i σ H' => ∃ (v : V) (u : Option V), σ = [some vm, some (.ref p), some v, u] ∧ Same H H' ∧ Wd H' v ((wd.take i).foldl m.appended (List.range m.moves.length)))
      ⟨v1, none, rfl, s1, h1⟩ (fun i σ H' _ ⟨_, _, _, s2, _⟩ => SqT.of (s2 _ _ hp)) ?_ ?_⟩
    · rintro i x σ H' hx ⟨v, u, rfl, s2, hv⟩
      rw [List.getElem?_map] at hx
      cases hf : wd[i]? with
      | none =>
        rw [hf] at hx
        cases hx
      | some n =>
        rw [hf] at hx
        obtain rfl : nV n = x := Option.some.inj hx
        have hn : n < m.letters := wok n (List.mem_of_getElem? hf)
        have wok' : m.Wok (wd.take i) := fun y hy => wok y (List.mem_of_mem_take hy)
        refine ⟨_, rfl, _, rfl, _, rfl, vm, v, m, _, n, rfl, stab_mc _ _ _ _ (TK.of s2) hm, ok, hv, isMap_fold ok _ wok' isMap_id, hn, fun v2 H2 s3 h2 => ?_⟩
        refine ⟨v2, _, rfl, s2.trans s3, ?_⟩
        rw [take_snoc hf, List.foldl_append]
        exact h2
    · rintro σ H' ⟨v, u, rfl, s2, hv⟩
      refine ⟨_, rfl, r v H' s2 ?_⟩
      rw [List.length_map, List.take_length] at hv
      exact hv
/-! ### outcome -/
def spOutcome : Sp := fun vs H Q _ => ∃ vm v1 m f, vs = [vm, v1] ∧ Mc H vm m ∧ m.Ok ∧ Wd H v1 f ∧ m.IsMap f ∧ Q (nV (m.outcome f)) H
theorem sc_outcome : FnScope ["machine", "one"] ["machine", "one"] (defScope b_outcome) := ⟨rfl, rfl, rfl, by decide +kernel, rfl, by decide +kernel, by decide +kernel⟩
theorem r_outcome (T : Txt K mg) : FnR PP w K mg base CX0 1 (He.ga K "outcome") spOutcome := by
  obtain ⟨fd, F⟩ := T.F_outcome
  refine mkR F sc_outcome (fun _ _ _ _ _ _ us hl => match us, hl with | [_, _], _ => rfl) (fun vs H Q E h => ?_) (fun cdv A outer s H vs Q E hr h => ?_)
  · obtain ⟨vm, v1, m, f, rfl, _⟩ := h
    rfl
  · refine ⟨_, PSs.nox (pss_one (ps_ret (pe_ix ix_tup (pe_ix ix_tup (pv 0) pe_int (fun _ _ => rfl)) (pe_ix ix_tup (pv 1) (pe_ix ix_tup (pv 0) pe_int (fun _ _ => rfl)) (fun _ _ => rfl)) (fun _ _ => rfl)))), ?_⟩
    obtain ⟨vm, v1, m, f, rfl, hm, ok, ⟨q, rfl, hq⟩, mf, k⟩ := h
    obtain ⟨p, am, ao, rfl, ha, _, ⟨ao', e1, ho⟩⟩ := hm
    obtain rfl : ao = ao' := V.ref.inj e1
    have hst : m.start < f.length := by
      rw [mf.1]
      exact ok.st
    exact ⟨_, rfl, _, _, _, _, rfl, rfl, SqT.of ha, rfl, _, rfl, _, rfl, _, _, _, _, rfl, rfl, SqT.of ha, rfl, _, _, _, _, rfl, rfl, SqT.of hq, at_nV hst, _, _, _, _, rfl, rfl, SqT.of ho, at_nV (by rw [ok.ol]; exact mf.2 _ (getD_mem hst)), k⟩
end
end K68D
/-! machines.py: the looks at a machine, a word; the result of a word. -/
namespace K68D
open PySem PySem.Spec PyProof.Rows L2 K68R K68K K68T K68
section
variable {w : World} {K : PySem.W.Frag} {mg : Str → Option Value} {base : Heap}
/-! ### is_integer, is_between -/
def spIsInt : Sp := fun vs H Q _ => ∃ i : Int, vs = [.int i] ∧ Q (.bl true) H
theorem sc_is_integer : FnScope ["thing"] ["thing"] (defScope b_is_integer) := ⟨rfl, rfl, rfl, by decide +kernel, rfl, by decide +kernel, by decide +kernel⟩
theorem r_is_integer (T : Txt K mg) : FnR PP w K mg base CX0 1 (He.ga K "is_integer") spIsInt := by
  obtain ⟨fd, F⟩ := T.F_is_integer
  refine mkR F sc_is_integer (fun _ _ _ _ _ _ us hl => match us, hl with | [_], _ => rfl) (fun vs H Q E h => ?_) (fun cdv A outer s H vs Q E hr h => ?_)
  · obtain ⟨i, rfl, _⟩ := h
    rfl
  · refine ⟨_, PSs.nox (pss_one (ps_ret (pe_and (pe_callB call_isi rfl T.f_isinstance (by decide +kernel) (pa_cons (pv 0) (pa_cons (pe_bltn (v := .ty "int") rfl T.f_int (by decide +kernel) rfl) pa_nil)))
      (pe_one (pe_not (pe_callB call_isi rfl T.f_isinstance (by decide +kernel) (pa_cons (pv 0) (pa_cons (pe_bltn (v := .ty "bool") rfl T.f_bool (by decide +kernel) rfl) pa_nil)))))))), ?_⟩
    obtain ⟨i, rfl, k⟩ := h
    refine ⟨_, rfl, _, _, _, _, true, rfl, .ty "int", .base (.int i), kit_ty (by decide +kernel), _, rfl, iteT ?_⟩
    exact ⟨_, rfl, _, _, _, _, false, rfl, .ty "bool", .base (.int i), kit_ty (by decide +kernel), _, rfl, k⟩
def spBetween : Sp := fun vs H Q _ => ∃ i lo hi : Int, vs = [.int i, .int lo, .int hi] ∧ Q (.bl (decide (lo ≤ i) && decide (i ≤ hi))) H
theorem sc_is_between : FnScope ["thing", "low", "high"] ["thing", "low", "high"] (defScope b_is_between) := ⟨rfl, rfl, rfl, by decide +kernel, rfl, by decide +kernel, by decide +kernel⟩
theorem r_is_between (T : Txt K mg) : FnR PP w K mg base CX0 2 (He.ga K "is_between") spBetween := by
  obtain ⟨fd, F⟩ := T.F_is_between
  obtain ⟨_, FI⟩ := T.F_is_integer
  refine mkR F sc_is_between (fun _ _ _ _ _ _ us hl => match us, hl with | [_, _, _], _ => rfl) (fun vs H Q E h => ?_) (fun cdv A outer s H vs Q E hr h => ?_)
  · obtain ⟨i, lo, hi, rfl, _⟩ := h
    rfl
  · refine ⟨_, PSs.nox (pss_one (ps_ret (pe_and (pe_callR (r_is_integer T) hr rfl T.g_is_integer FI.kp pass0 (pa_cons (pv 0) pa_nil)) (pe_one (pe_chain op_le op_le (pv 1) (pv 0) (pv 2)))))), ?_⟩
    obtain ⟨i, lo, hi, rfl, k⟩ := h
    refine ⟨_, rfl, i, rfl, _, rfl, iteT ⟨_, rfl, _, rfl, lo, i, rfl, rfl, _, rfl, ?_⟩⟩
    cases e : decide (lo ≤ i) with
    | true =>
      rw [e, Bool.true_and] at k
      exact iteT ⟨_, rfl, i, hi, rfl, rfl, k⟩
    | false =>
      rw [e, Bool.false_and] at k
      exact iteF k
/-! ### is_row, is_word -/
def spIsRow : Sp := fun vs H Q _ => ∃ vt l n, vs = [vt, nV l.length, nV n] ∧ Wd H vt l ∧ l.length ≤ 1000 ∧ (∀ x ∈ l, x < n) ∧ Res H Q fun _ v => v = .bl true
theorem sc_is_row : FnScope ["thing", "long", "many", "one"] ["thing", "long", "many"] (defScope b_is_row) := ⟨rfl, rfl, rfl, by decide +kernel, rfl, by decide +kernel, by decide +kernel⟩
theorem all_true {ys : List V} (h : ∀ (i : Nat) (y : V), ys[i]? = some y → y = .bl true) : ys = (List.replicate ys.length true).map V.bl := by
  apply List.ext_getElem?
  intro i
  rw [List.getElem?_map, List.getElem?_replicate]
  cases e : ys[i]? with
  | none =>
    rw [if_neg (by rw [List.getElem?_eq_none_iff] at e; omega)]
    rfl
  | some y =>
    rw [if_pos (List.getElem?_eq_some_iff.mp e).1, h i y e]
    rfl
theorem all_rep (n : Nat) : (List.replicate n true).all id = true := List.all_eq_true.mpr fun x hx => by
  rw [List.eq_of_mem_replicate hx]
  rfl
theorem dec_refl (n : Nat) : decide (nV n = nV n) = true := decide_eq_true rfl
theorem r_is_row (T : Txt K mg) : FnR PP w K mg base CX0 3 (He.ga K "is_row") spIsRow := by
  obtain ⟨fd, F⟩ := T.F_is_row
  obtain ⟨_, FB⟩ := T.F_is_between
  refine mkR F sc_is_row (fun _ _ _ _ _ _ us hl => match us, hl with | [_, _, _], _ => rfl) (fun vs H Q E h => ?_) (fun cdv A outer s H vs Q E hr h => ?_)
  · obtain ⟨vt, l, n, rfl, _⟩ := h
    rfl
  · refine ⟨_, PSs.nox (pss_one (ps_ret (pe_and (pe_callB call_isi rfl T.f_isinstance (by decide +kernel) (pa_cons (pv 0) (pa_cons (pe_bltn (v := .ty "tuple") rfl T.f_tuple (by decide +kernel) rfl) pa_nil)))
      (pe_and (pe_cmpR op_eq (pe_callB call_len rfl T.f_len boot_len (pa_cons (pv 0) pa_nil)) (pv 1) (nomark _))
      (pe_one (pe_callB (cr_all rfl) rfl T.f_all (by decide +kernel) (pa_cons (pe_lc (own := [("one", 3)]) (g := gName 3) (tt := tYes) rfl sc_is_row.nd (pi_tup (pv 0)) (blkOk_by (N := ["thing", "long", "many", "one"]) (sc := defScope b_is_row) (by decide +kernel))
        (fun _ _ _ _ _ => pg_name (i := 3) sc_is_row.nd rfl (Or.inl rfl)) (fun _ _ _ _ _ => pts_nil) (fun _ _ _ _ _ => pe_callR (r_is_between T) hr rfl T.g_is_between FB.kp pass0 (pa_cons (pv 3) (pa_cons pe_int (pa_cons (pe_op op_sub (pv 2) pe_int) pa_nil))))) pa_nil))))))), ?_⟩
    obtain ⟨vt, l, n, rfl, ⟨p, rfl, hp⟩, h1000, hlt, r⟩ := h
    refine ⟨_, rfl, _, _, _, _, true, rfl, .ty "tuple", .base (.tup hp), kit_ty (by decide +kernel), _, rfl, iteT ?_⟩
    refine ⟨_, rfl, _, l.length, rfl, .inr ⟨_, SqT.of hp, by rw [List.length_map]⟩, _, rfl, rfl, ?_⟩
    refine ⟨_, rfl, ?_⟩
    show if decide (nV l.length = nV l.length) = true then _ else _
    rw [dec_refl]
    refine iteT ⟨_, rfl, p, rfl, ⟨_, SqT.of hp⟩, fun D hD => lcT (k := 3) (fun i H v => v = .bl true) (fun _ _ _ _ _ h => h) hD (SqT.of hp) (by rw [List.length_map]; exact h1000) (fun x => rfl) (fun i x H1 Q1 hx s1 r1 => ?_) fun H1 ys s1 hys hlen hv => ?_⟩
    · rw [List.getElem?_map] at hx
      cases hf : l[i]? with
      | none =>
        rw [hf] at hx
        cases hx
      | some m =>
        rw [hf] at hx
        obtain rfl : nV m = x := Option.some.inj hx
        have hm : m < n := hlt m (List.mem_of_getElem? hf)
        refine ⟨_, rfl, _, rfl, _, _, rfl, rfl, (m : Int), 0, (n : Int) - 1, rfl, r1.now ?_⟩
        rw [decide_eq_true (by omega : (0 : Int) ≤ (m : Int)), decide_eq_true (by omega : (m : Int) ≤ (n : Int) - 1)]
        rfl
    · refine ⟨D, List.replicate ys.length true, rfl, ?_, ?_⟩
      · rw [← all_true hv]
        exact SqL.of hys
      · rw [all_rep]
        exact r _ _ s1 rfl
def spIsWord : Sp := fun vs H Q _ => ∃ vt l n, vs = [nV n, vt] ∧ Wd H vt l ∧ l.length ≤ 1000 ∧ (∀ x ∈ l, x < n) ∧ Res H Q fun _ v => v = .bl true
theorem sc_is_word : FnScope ["letters", "thing"] ["letters", "thing"] (defScope b_is_word) := ⟨rfl, rfl, rfl, by decide +kernel, rfl, by decide +kernel, by decide +kernel⟩
theorem r_is_word (T : Txt K mg) : FnR PP w K mg base CX0 4 (He.ga K "is_word") spIsWord := by
  obtain ⟨fd, F⟩ := T.F_is_word
  obtain ⟨_, FR⟩ := T.F_is_row
  refine mkR F sc_is_word (fun _ _ _ _ _ _ us hl => match us, hl with | [_, _], _ => rfl) (fun vs H Q E h => ?_) (fun cdv A outer s H vs Q E hr h => ?_)
  · obtain ⟨vt, l, n, rfl, _⟩ := h
    rfl
  · refine ⟨_, PSs.nox (pss_one (ps_ret (pe_and (pe_callB call_isi rfl T.f_isinstance (by decide +kernel) (pa_cons (pv 1) (pa_cons (pe_bltn (v := .ty "tuple") rfl T.f_tuple (by decide +kernel) rfl) pa_nil)))
      (pe_one (pe_callR (r_is_row T) hr rfl T.g_is_row FR.kp pass0 (pa_cons (pv 1) (pa_cons (pe_callB call_len rfl T.f_len boot_len (pa_cons (pv 1) pa_nil)) (pa_cons (pv 0) pa_nil)))))))), ?_⟩
    obtain ⟨vt, l, n, rfl, ⟨p, rfl, hp⟩, h1000, hlt, r⟩ := h
    refine ⟨_, rfl, _, _, _, _, true, rfl, .ty "tuple", .base (.tup hp), kit_ty (by decide +kernel), _, rfl, iteT ?_⟩
    exact ⟨_, rfl, _, rfl, _, l.length, rfl, .inr ⟨_, SqT.of hp, by rw [List.length_map]⟩, _, rfl, _, l, n, rfl, ⟨p, rfl, hp⟩, h1000, hlt, r⟩
/-! ### is_machine -/
def spIsMachine : Sp := fun vs H Q _ => ∃ vm m, vs = [vm] ∧ Mc H vm m ∧ m.Ok ∧ Res H Q fun _ v => v = .bl true
theorem sc_is_machine : FnScope ["thing", "letters", "side", "start", "moves", "outs", "many", "row"] ["thing"] (defScope b_is_machine) := ⟨rfl, rfl, rfl, by decide +kernel, rfl, by decide +kernel, by decide +kernel⟩
theorem side_in (b : Bool) : inV (V.str (sideS b)) [.str "left", .str "right"] = true := by cases b <;> decide +kernel
theorem r_is_machine (T : Txt K mg) : FnR PP w K mg base CX0 4 (He.ga K "is_machine") spIsMachine := by
  obtain ⟨fd, F⟩ := T.F_is_machine
  obtain ⟨_, FB⟩ := T.F_is_between
  obtain ⟨_, FR⟩ := T.F_is_row
  obtain ⟨t1, hL⟩ := T.s_LEFT
  obtain ⟨t2, hR⟩ := T.s_RIGHT
  obtain ⟨t3, i1⟩ := T.i_LEAST_LETTERS
  obtain ⟨t4, i2⟩ := T.i_MOST_LETTERS_machines
  obtain ⟨t5, i3⟩ := T.i_MOST_STATES
  obtain ⟨t6, i4⟩ := T.i_MOST_RESULT
  refine mkR F sc_is_machine (fun _ _ _ _ _ _ us hl => match us, hl with | [_], _ => rfl) (fun vs H Q E h => ?_) (fun cdv A outer s H vs Q E hr h => ?_)
  · obtain ⟨vm, m, rfl, _⟩ := h
    rfl
  · have hr2 := hr.mono (show 2 ≤ 3 by decide)
    refine ⟨_, PSs.nox (pss_cons (ps_if (PW.pt (pw_or (pt_not (pt_val (pe_callB call_isi rfl T.f_isinstance (by decide +kernel) (pa_cons (pv 0) (pa_cons (pe_bltn (v := .ty "tuple") rfl T.f_tuple (by decide +kernel) rfl) pa_nil)))))
        (pw_or (pt_cmpR op_ne (pe_callB call_len rfl T.f_len boot_len (pa_cons (pv 0) pa_nil)) pe_int (nomark _))
        (pw_or1 (pt_not (pt_val (pe_callR (r_is_between T) hr2 rfl T.g_is_between FB.kp pass0 (pa_cons (pe_ix ix_tup (pv 0) pe_int (fun _ _ => rfl)) (pa_cons (pe_glob (v := .int 2) rfl i1 ⟨t3, rfl⟩) (pa_cons (pe_glob (v := .int 3) rfl i2 ⟨t4, rfl⟩) pa_nil)))))))))) pss_never pss_nil)
      (pss_cons (ps_asg (pv 0) (pg_tup (by rfl) (pgs_cons (pg_name (i := 1) sc_is_machine.nd rfl (Or.inr rfl)) (pgs_cons (pg_name (i := 2) sc_is_machine.nd rfl (Or.inl rfl)) (pgs_cons (pg_name (i := 3) sc_is_machine.nd rfl (Or.inl rfl)) (pgs_cons (pg_name (i := 4) sc_is_machine.nd rfl (Or.inl rfl)) (pgs_cons (pg_name (i := 5) sc_is_machine.nd rfl (Or.inl rfl)) pgs_nil)))))))
      (pss_cons (ps_if (PW.pt (pw_or (pt_not (pt_val (pe_callB call_isi rfl T.f_isinstance (by decide +kernel) (pa_cons (pv 2) (pa_cons (pe_bltn (v := .ty "str") rfl T.f_str (by decide +kernel) rfl) pa_nil)))))
        (pw_or (pt_cmpR op_notIn_seq (pv 2) (pe_tup (pa_cons (pe_glob (v := .str "left") rfl hL ⟨t1, rfl⟩) (pa_cons (pe_glob (v := .str "right") rfl hR ⟨t2, rfl⟩) pa_nil))) (by rfl))
        (pw_or1 (pt_not (pt_val (pe_callB call_isi rfl T.f_isinstance (by decide +kernel) (pa_cons (pv 4) (pa_cons (pe_bltn (v := .ty "tuple") rfl T.f_tuple (by decide +kernel) rfl) pa_nil))))))))) pss_never pss_nil)
      (pss_cons (ps_set (i := 6) sc_is_machine.nd rfl (Or.inr rfl) (pe_callB call_len rfl T.f_len boot_len (pa_cons (pv 4) pa_nil)))
      (pss_cons (ps_if (PW.pt (pw_or (pt_not (pt_chain op_le op_le pe_int (pv 6) (pe_glob (v := .int 4) rfl i3 ⟨t5, rfl⟩)))
        (pw_or1 (pt_not (pt_val (pe_callB (cr_all rfl) rfl T.f_all (by decide +kernel) (pa_cons (pe_lc (own := [("row", 7)]) (g := gName 7) (tt := tYes) rfl sc_is_machine.nd (pi_tup (pv 4)) (blkOk_by (N := ["thing", "letters", "side", "start", "moves", "outs", "many", "row"]) (sc := defScope b_is_machine) (by decide +kernel))
          (fun _ _ _ _ _ => pg_name (i := 7) sc_is_machine.nd rfl (Or.inl rfl)) (fun _ _ _ _ _ => pts_nil) (fun _ _ _ _ _ => pe_callR (r_is_row T) hr rfl T.g_is_row FR.kp pass0 (pa_cons (pv 7) (pa_cons (pv 1) (pa_cons (pv 6) pa_nil))))) pa_nil))))))) pss_never pss_nil)
      (pss_one (ps_ret (pe_and (pe_callR (r_is_between T) hr2 rfl T.g_is_between FB.kp pass0 (pa_cons (pv 3) (pa_cons pe_int (pa_cons (pe_op op_sub (pv 6) pe_int) pa_nil))))
        (pe_one (pe_callR (r_is_row T) hr rfl T.g_is_row FR.kp pass0 (pa_cons (pv 5) (pa_cons (pv 6) (pa_cons (pe_op op_add (pe_glob (v := .int 9) rfl i4 ⟨t6, rfl⟩) pe_int) pa_nil))))))))))))), ?_⟩
    obtain ⟨vm, m, rfl, hm, ok, r⟩ := h
    obtain ⟨p, am, ao, rfl, ha, ⟨am', rows, e1, hrows, z⟩, ⟨ao', e2, ho⟩⟩ := hm
    obtain rfl : am = am' := V.ref.inj e1
    obtain rfl : ao = ao' := V.ref.inj e2
    have h2 := ok.two
    have h3 := ok.three
    have h1 := ok.one
    have h4 := ok.four
    have hst := ok.st
    -- the first test
    refine ⟨_, rfl, _, _, _, _, true, rfl, .ty "tuple", .base (.tup ha), kit_ty (by decide +kernel), _, rfl, iteF ?_⟩
    refine ⟨_, rfl, _, 5, rfl, .inr ⟨_, SqT.of ha, rfl⟩, rfl, _, rfl, iteF ?_⟩
    refine ⟨_, rfl, _, _, _, _, rfl, rfl, SqT.of ha, rfl, (m.letters : Int), 2, 3, rfl, _, rfl, ?_⟩
    rw [decide_eq_true (by omega : (2 : Int) ≤ (m.letters : Int)), decide_eq_true (by omega : (m.letters : Int) ≤ 3)]
    refine iteF ?_
    -- letters, side, start, moves, outs = thing
    refine ⟨_, rfl, p, _, rfl, SqT.of ha, rfl, _, _, rfl, _, _, rfl, _, _, rfl, _, _, rfl, _, _, rfl, rfl, ?_⟩
    -- the second test
    refine ⟨_, rfl, _, _, _, _, true, rfl, .ty "str", .base (.str _), kit_ty (by decide +kernel), _, rfl, iteF ?_⟩
    refine ⟨_, rfl, (by show 2 ≤ sizeLine; decide), fun q hq => ?_⟩
    refine ⟨q, _, rfl, .inr (SqT.of upd_same), rfl, rfl, _, rfl, ?_⟩
    rw [side_in]
    have s1 : Same H (upd H q (.tup [.str "left", .str "right"])) := same_upd hq
    refine iteF ?_
    refine ⟨_, rfl, _, _, _, _, true, rfl, .ty "tuple", .base (.tup (s1 _ _ hrows)), kit_ty (by decide +kernel), _, rfl, iteF ?_⟩
    -- many = len(moves)
    refine ⟨_, rfl, _, m.moves.length, rfl, .inr ⟨_, SqT.of (s1 _ _ hrows), z.1.symm⟩, ?_⟩
    -- the third test
    refine ⟨_, rfl, _, _, rfl, rfl, _, rfl, ?_⟩
    rw [decide_eq_true (by omega : (1 : Int) ≤ (m.moves.length : Int))]
    refine iteT ⟨_, _, rfl, rfl, _, rfl, ?_⟩
    rw [decide_eq_true (by omega : (m.moves.length : Int) ≤ 4)]
    refine iteF ?_
    refine ⟨_, rfl, am, rfl, ⟨_, SqT.of (s1 _ _ hrows)⟩, fun D hD => lcT (k := 7) (fun i H v => v = .bl true) (fun _ _ _ _ _ h => h) hD (SqT.of (s1 _ _ hrows)) (by rw [z.1]; omega) (fun x => rfl) (fun i x H1 Q1 hx s2 r1 => ?_) fun H1 ys s2 hys hlen hv => ?_⟩
    · obtain ⟨row, hrow, b, rfl, hb⟩ := z.getV hx
      obtain ⟨k1, k2⟩ := ok.row row (List.mem_of_getElem? hrow)
      exact ⟨_, rfl, _, rfl, _, rfl, .ref b, row, m.moves.length, by rw [k1]; rfl, ⟨b, rfl, s2 _ _ (s1 _ _ hb)⟩, by omega, k2, r1⟩
    · refine ⟨D, List.replicate ys.length true, rfl, ?_, ?_⟩
      · rw [← all_true hv]
        exact SqL.of hys
      · rw [all_rep]
        refine ⟨_, rfl, iteF ?_⟩
        refine ⟨_, rfl, _, rfl, _, _, rfl, rfl, (m.start : Int), 0, (m.moves.length : Int) - 1, rfl, _, rfl, ?_⟩
        rw [decide_eq_true (by omega : (0 : Int) ≤ (m.start : Int)), decide_eq_true (by omega : (m.start : Int) ≤ (m.moves.length : Int) - 1)]
        refine iteT ⟨_, rfl, _, rfl, _, _, rfl, rfl, .ref ao, m.outs, 10, by rw [ok.ol]; rfl, ⟨ao, rfl, s2 _ _ (s1 _ _ ho)⟩, by rw [ok.ol]; omega, ok.ob, r.at (s1.trans s2)⟩
/-! ### need_machine, need_word, result_of -/
def spNeedMachine : Sp := fun vs H Q _ => ∃ vm m, vs = [vm] ∧ Mc H vm m ∧ m.Ok ∧ Res H Q fun _ v => v = .non
theorem sc_need_machine : FnScope ["thing"] ["thing"] (defScope b_need_machine) := ⟨rfl, rfl, rfl, by decide +kernel, rfl, by decide +kernel, by decide +kernel⟩
theorem r_need_machine (T : Txt K mg) : FnR PP w K mg base CX0 5 (He.ga K "need_machine") spNeedMachine := by
  obtain ⟨fd, F⟩ := T.F_need_machine
  obtain ⟨_, FM⟩ := T.F_is_machine
  refine mkR F sc_need_machine (fun _ _ _ _ _ _ us hl => match us, hl with | [_], _ => rfl) (fun vs H Q E h => ?_) (fun cdv A outer s H vs Q E hr h => ?_)
  · obtain ⟨vm, m, rfl, _⟩ := h
    rfl
  · refine ⟨_, PSs.nox (pss_one (ps_if (pt_not (pt_val (pe_callR (r_is_machine T) hr rfl T.g_is_machine FM.kp pass0 (pa_cons (pv 0) pa_nil)))) pss_never pss_nil)), ?_⟩
    obtain ⟨vm, m, rfl, hm, ok, r⟩ := h
    refine ⟨_, rfl, vm, m, rfl, hm, ok, fun v H1 s1 e => ?_⟩
    subst e
    exact ⟨_, rfl, iteF (r _ _ s1 rfl)⟩
def spNeedWord : Sp := fun vs H Q _ => ∃ vm vw m wd, vs = [vm, vw] ∧ Mc H vm m ∧ Wd H vw wd ∧ wd.length ≤ 1000 ∧ m.Wok wd ∧ Res H Q fun _ v => v = .non
theorem sc_need_word : FnScope ["machine", "thing"] ["machine", "thing"] (defScope b_need_word) := ⟨rfl, rfl, rfl, by decide +kernel, rfl, by decide +kernel, by decide +kernel⟩
theorem r_need_word (T : Txt K mg) : FnR PP w K mg base CX0 5 (He.ga K "need_word") spNeedWord := by
  obtain ⟨fd, F⟩ := T.F_need_word
  obtain ⟨_, FW⟩ := T.F_is_word
  refine mkR F sc_need_word (fun _ _ _ _ _ _ us hl => match us, hl with | [_, _], _ => rfl) (fun vs H Q E h => ?_) (fun cdv A outer s H vs Q E hr h => ?_)
  · obtain ⟨vm, vw, m, wd, rfl, _⟩ := h
    rfl
  · refine ⟨_, PSs.nox (pss_one (ps_if (pt_not (pt_val (pe_callR (r_is_word T) hr rfl T.g_is_word FW.kp pass0 (pa_cons (pe_ix ix_tup (pv 0) pe_int (fun _ _ => rfl)) (pa_cons (pv 1) pa_nil))))) pss_never pss_nil)), ?_⟩
    obtain ⟨vm, vw, m, wd, rfl, ⟨p, am, ao, rfl, ha, _⟩, hw, hl, wok, r⟩ := h
    refine ⟨_, rfl, _, _, _, _, rfl, rfl, SqT.of ha, rfl, _, rfl, vw, wd, m.letters, rfl, hw, hl, wok, fun v H1 s1 e => ?_⟩
    subst e
    exact ⟨_, rfl, iteF (r _ _ s1 rfl)⟩
def spResult : Sp := fun vs H Q _ => ∃ vm vw m wd, vs = [vm, vw] ∧ Mc H vm m ∧ m.Ok ∧ Wd H vw wd ∧ m.Wok wd ∧ Res H Q fun _ v => v = nV (m.read wd)
theorem sc_result_of : FnScope ["machine", "word"] ["machine", "word"] (defScope b_result_of) := ⟨rfl, rfl, rfl, by decide +kernel, rfl, by decide +kernel, by decide +kernel⟩
theorem r_result_of (T : Txt K mg) : FnR PP w K mg base CX0 5 (He.ga K "result_of") spResult := by
  obtain ⟨fd, F⟩ := T.F_result_of
  obtain ⟨_, FO⟩ := T.F_outcome
  obtain ⟨_, FM⟩ := T.F_map_of
  refine mkR F sc_result_of (fun _ _ _ _ _ _ us hl => match us, hl with | [_, _], _ => rfl) (fun vs H Q E h => ?_) (fun cdv A outer s H vs Q E hr h => ?_)
  · obtain ⟨vm, vw, m, wd, rfl, _⟩ := h
    rfl
  · refine ⟨_, PSs.nox (pss_one (ps_ret (pe_callR (r_outcome T) (hr.mono (by decide)) rfl T.g_outcome FO.kp pass0 (pa_cons (pv 0) (pa_cons (pe_callR (r_map_of T) hr rfl T.g_map_of FM.kp pass0 (pa_cons (pv 0) (pa_cons (pv 1) pa_nil))) pa_nil))))), ?_⟩
    obtain ⟨vm, vw, m, wd, rfl, hm, ok, hw, wok, r⟩ := h
    refine ⟨_, rfl, _, rfl, _, rfl, vm, vw, m, wd, rfl, hm, ok, hw, wok, fun v H1 s1 h1 => ?_⟩
    exact ⟨vm, v, m, _, rfl, stab_mc _ _ _ _ (TK.of s1) hm, ok, h1, isMap_mapOf ok wok, r _ _ s1 (by rw [outcome_is ok wok])⟩
end
end K68D
/-! ropes.py: whole_of. -/
namespace K68D
open PySem PySem.Spec PyProof.Rows L2 K68R K68K K68T K68
section
variable {w : World} {K : PySem.W.Frag} {mg : Str → Option Value} {base : Heap}
def spWhole : Sp := fun vs H Q _ => ∃ vp ps, vs = [vp] ∧ Ps H vp ps ∧ ps.length ≤ 1000 ∧ ps.flatten.length ≤ 1000 ∧ Res H Q fun H' v => Wd H' v ps.flatten
theorem sc_whole_of : FnScope ["pieces", "letter", "piece"] ["pieces"] (defScope b_whole_of) := ⟨rfl, rfl, rfl, by decide +kernel, rfl, by decide +kernel, by decide +kernel⟩
/-- the list as it stands behind some letters -/
def LisAt (H1 : Hp) (D : Addr) (l : Word) (H : Hp) : Prop := Same H1 H ∧ H D = some (.lst (l.map nV))
theorem lisAt_add {H1 H : Hp} {D : Addr} {l : Word} {n : Nat} (p : LisAt H1 D l H) (hD : H1 D = none) (hl : l.length < 1000) : ∃ acc, H D = some (.lst acc) ∧ acc.length < sizeLine ∧ LisAt H1 D (l ++ [n]) (upd H D (.lst (acc ++ [nV n]))) := by
  obtain ⟨s, h⟩ := p
  refine ⟨_, h, by rw [List.length_map]; exact small1000 (Nat.le_of_lt hl), same_set s hD, ?_⟩
  rw [upd_same, List.map_append]
  rfl
theorem flat_take {ps : Pieces} {i j : Nat} {p : Word} (h : ps[i]? = some p) : ((ps.take i).flatten ++ p.take j).length ≤ ps.flatten.length := by
  have e : ps.flatten = (ps.take i).flatten ++ (p ++ (ps.drop (i + 1)).flatten) := by
    conv => lhs; rw [← List.take_append_drop i ps, List.drop_eq_getElem_cons (List.getElem?_eq_some_iff.mp h).1, (List.getElem?_eq_some_iff.mp h).2]
    rw [List.flatten_append, List.flatten_cons]
  rw [e, List.length_append, List.length_append, List.length_append, List.length_take]
  omega
theorem flat_snoc {ps : Pieces} {i : Nat} {p : Word} (h : ps[i]? = some p) : (ps.take (i + 1)).flatten = (ps.take i).flatten ++ p := by
  rw [take_snoc h, List.flatten_append, List.flatten_cons, List.flatten_nil, List.append_nil]
theorem map_get {l : Word} {i : Nat} {x : V} (h : (l.map nV)[i]? = some x) : ∃ n, l[i]? = some n ∧ x = nV n := by
  rw [List.getElem?_map] at h
  cases hf : l[i]? with
  | none =>
    rw [hf] at h
    cases h
  | some n =>
    rw [hf] at h
    exact ⟨n, rfl, (Option.some.inj h).symm⟩
theorem yes_ {σ : L2.St} {H : Hp} {A B : Hp → Prop} (h : A H) : tYes σ H fun b H3 => if b = true then A H3 else B H3 := by
  show if true = true then A H else B H
  rw [if_pos rfl]
  exact h
theorem r_whole_of (T : Txt K mg) : FnR PP w K mg base CX0 1 (He.ga K "whole_of") spWhole := by
  obtain ⟨fd, F⟩ := T.F_whole_of
  refine mkR F sc_whole_of (fun _ _ _ _ _ _ us hl => match us, hl with | [_], _ => rfl) (fun vs H Q E h => ?_) (fun cdv A outer s H vs Q E hr h => ?_)
  · obtain ⟨vp, ps, rfl, _⟩ := h
    rfl
  · refine ⟨_, PSs.nox (pss_one (ps_ret (pe_callTy call_tuple_of rfl T.f_tuple (by decide +kernel) (pa_cons (pe_lc2 (own := [("letter", 1), ("piece", 2)]) (vs1 := [1]) (g := gName 2) (tt := tYes) (g1 := gName 1) (tt1 := tYes) rfl sc_whole_of.nd (pi_tup (pv 0)) (blkOk_by (N := ["pieces", "letter", "piece"]) (sc := defScope b_whole_of) (by decide +kernel)) (by decide)
      (fun _ _ _ _ _ => pg_name (i := 2) sc_whole_of.nd rfl (Or.inl rfl)) (fun _ _ _ _ _ => pts_nil) (fun _ _ _ _ _ => piT K (pv 2)) (fun _ _ _ _ _ => pg_name (i := 1) sc_whole_of.nd rfl (Or.inl rfl)) (fun _ _ _ _ _ => pts_nil) (fun _ _ _ _ _ => pv 1)) pa_nil)))), ?_⟩
    obtain ⟨vp, ps, rfl, ⟨a, xs, rfl, ha, z⟩, hl, hfl, r⟩ := h
    refine ⟨_, rfl, a, rfl, ⟨_, SqT.of ha⟩, fun D hD => ⟨fun i m H' => m = ps.length - i ∧ i ≤ ps.length ∧ LisAt H D (ps.take i).flatten H', ⟨ps.length, rfl, Nat.zero_le _, same_upd hD, upd_same⟩, ?_⟩⟩
    rintro i m H' ⟨rfl, hi, p⟩
    by_cases hlt : i < ps.length
    · have hx : xs[i]? = some (xs[i]'(by rw [z.1]; exact hlt)) := List.getElem?_eq_getElem _
      obtain ⟨pc, hpc, b, hb, hbw⟩ := z.getV hx
      refine .inr ⟨⟨xs, _, SqT.of (p.1 _ _ ha), hx⟩, LisAt H D (ps.take (i + 1)).flatten, fun H2 p2 => ⟨ps.length - (i + 1), by omega, rfl, hlt, p2⟩, fun x H2 y => ?_⟩
      obtain ⟨rfl, y⟩ := y
      have ex := y xs (SqT.of (p.1 _ _ ha))
      rw [hx, hb] at ex
      obtain rfl := Option.some.inj ex
      refine ⟨rfl, yes_ ?_⟩
      refine ⟨_, rfl, b, rfl, ⟨_, SqT.of (p.1 _ _ hbw)⟩, fun j k H3 => k = pc.length - j ∧ j ≤ pc.length ∧ LisAt H D ((ps.take i).flatten ++ pc.take j) H3, ⟨pc.length, rfl, Nat.zero_le _, ?_⟩, ?_⟩
      · rw [List.take_zero, List.append_nil]
        exact p
      · rintro j k H3 ⟨rfl, hj, p3⟩
        by_cases hjl : j < pc.length
        · have hn : pc[j]? = some (pc[j]) := List.getElem?_eq_getElem hjl
          have hn' : (pc.map nV)[j]? = some (nV pc[j]) := by rw [List.getElem?_map, hn]; rfl
          refine .inr ⟨⟨_, _, SqT.of (p3.1 _ _ hbw), hn'⟩, LisAt H D ((ps.take i).flatten ++ pc.take (j + 1)), fun H4 p4 => ⟨pc.length - (j + 1), by omega, rfl, hjl, p4⟩, fun x H4 y => ?_⟩
          obtain ⟨rfl, y⟩ := y
          have ex := y _ (SqT.of (p3.1 _ _ hbw))
          rw [hn'] at ex
          obtain rfl := Option.some.inj ex
          refine ⟨rfl, yes_ ?_⟩
          rw [take_snoc hn, ← List.append_assoc]
          refine ⟨_, rfl, lisAt_add p3 hD ?_⟩
          have q := flat_take (j := j + 1) hpc
          rw [take_snoc hn, ← List.append_assoc, List.length_append] at q
          have : [pc[j]].length = 1 := rfl
          omega
        · have e : j = pc.length := by omega
          subst e
          refine .inl ⟨⟨_, SqT.of (p3.1 _ _ hbw), by rw [List.length_map]; exact Nat.le_refl _⟩, ?_⟩
          rw [flat_snoc hpc]
          rw [List.take_length] at p3
          exact p3
    · have e : i = ps.length := by omega
      subst e
      rw [List.take_length] at p
      exact .inl ⟨⟨xs, SqT.of (p.1 _ _ ha), by rw [z.1]; exact Nat.le_refl _⟩, D, _, rfl, .inl ⟨SqL.of p.2, fun l hl => r _ _ (p.1.trans (same_upd hl)) (Wd.of upd_same)⟩⟩
end
end K68D
/-! ropes.py: what a rope is in the heap; the errors; how many pieces; what fits. -/
namespace K68D
open PySem PySem.Spec PyProof.Rows L2 K68R K68K K68T K68
/-! ### ropes in the heap -/
def flds (s : Srt) (cap : Nat) (vm vk vp : V) : List (Str × V) := ("own_machine", vm) :: ("kept", vk) :: ("past", vp) :: (if s.isShort then [("own_most", nV cap)] else [])
theorem lk_machine {s : Srt} {cap : Nat} {vm vk vp : V} : List.lookup ("own_machine" : Str) (flds s cap vm vk vp) = some vm := rfl
theorem lk_kept {s : Srt} {cap : Nat} {vm vk vp : V} : List.lookup ("kept" : Str) (flds s cap vm vk vp) = some vk := rfl
theorem lk_past {s : Srt} {cap : Nat} {vm vk vp : V} : List.lookup ("past" : Str) (flds s cap vm vk vp) = some vp := rfl
theorem lk_most {s : Srt} {cap : Nat} {vm vk vp : V} (h : s.isShort = true) : List.lookup ("own_most" : Str) (flds s cap vm vk vp) = some (nV cap) := by
  unfold flds
  rw [h]
  rfl
theorem lk_none {s : Srt} {cap : Nat} {vm vk vp : V} {f : Str} (h : (f == "own_machine") = false ∧ (f == "kept") = false ∧ (f == "past") = false ∧ (f == "own_most") = false) : (flds s cap vm vk vp).lookup f = none := by
  obtain ⟨h1, h2, h3, h4⟩ := h
  unfold flds
  cases s <;> simp [List.lookup, h1, h2, h3, h4, Srt.isShort]
theorem put_kept {s : Srt} {cap : Nat} {vm vk vp v : V} : putF "kept" v (flds s cap vm vk vp) = flds s cap vm v vp := rfl
theorem put_past {s : Srt} {cap : Nat} {vm vk vp v : V} : putF "past" v (flds s cap vm vk vp) = flds s cap vm vk v := rfl
theorem flds_len {s : Srt} {cap : Nat} {vm vk vp : V} : (flds s cap vm vk vp).length < 1000 := by cases s <;> simp [flds, Srt.isShort]
section
variable {w : World} {K : PySem.W.Frag} {mg : Str → Option Value} {base : Heap}
def RopeV (K : PySem.W.Frag) (s : Srt) (H : Hp) (x dx : Addr) (vm vk vp : V) (m : Mach) (cap : Nat) (ps : Pieces) (past : List Pieces) : Prop :=
  H x = some (.ins (He.ga K (cname s)) dx (flds s cap vm vk vp)) ∧ Mc H vm m ∧ Ps H vk ps ∧ Pa H vp past
def RopeAt (K : PySem.W.Frag) (s : Srt) (H : Hp) (x : Addr) (m : Mach) (cap : Nat) (ps : Pieces) (past : List Pieces) : Prop := ∃ dx vm vk vp, RopeV K s H x dx vm vk vp m cap ps past
theorem RopeV.same {s : Srt} {H H' : Hp} {x dx : Addr} {vm vk vp : V} {m : Mach} {cap : Nat} {ps : Pieces} {past : List Pieces} (r : RopeV K s H x dx vm vk vp m cap ps past) (e : Same H H') : RopeV K s H' x dx vm vk vp m cap ps past :=
  ⟨e _ _ r.1, stab_mc _ _ _ _ (TK.of e) r.2.1, stab_ps _ _ _ _ (TK.of e) r.2.2.1, stab_pa _ _ _ _ (TK.of e) r.2.2.2⟩
theorem RopeAt.same {s : Srt} {H H' : Hp} {x : Addr} {m : Mach} {cap : Nat} {ps : Pieces} {past : List Pieces} (r : RopeAt K s H x m cap ps past) (e : Same H H') : RopeAt K s H' x m cap ps past := by
  obtain ⟨dx, vm, vk, vp, r⟩ := r
  exact ⟨dx, vm, vk, vp, r.same e⟩
theorem RopeV.notup {s : Srt} {H : Hp} {x dx : Addr} {vm vk vp : V} {m : Mach} {cap : Nat} {ps : Pieces} {past : List Pieces} (r : RopeV K s H x dx vm vk vp m cap ps past) (xs : List V) : H x ≠ some (.tup xs) := fun z => by
  rw [r.1] at z
  cases z
/-- what may be given to change -/
def Cand (m : Mach) (q : Pieces) : Prop := (∀ p ∈ q, m.Wok p) ∧ q.length ≤ 30 ∧ q.flatten.length ≤ 60
theorem Cand.whole {m : Mach} {q : Pieces} (h : Cand m q) : m.Wok q.flatten := fun x hx => by
  obtain ⟨p, hp, hxp⟩ := List.mem_flatten.mp hx
  exact h.1 p hp x hxp
/-- how the errors stand when they fly -/
def ErrIs (K : PySem.W.Frag) : Err → Value → Option Addr → Hp → Prop
  | .limit a l, cls, d, H => cls = .ref (He.ga K "LimitError") ∧ ∃ dx, d = some dx ∧ H dx = some (.xd [("limit", nV l), ("amount", nV a)])
  | .number, cls, d, _ => cls = .ref (He.ga K "NumberError") ∧ d = none
  | .place, cls, d, _ => cls = .ref (He.ga K "PlaceError") ∧ d = none
  | .unsteady, cls, d, _ => cls = .ref (He.ga K "Unsteady") ∧ d = none
  | .nothing, cls, d, _ => cls = .ref (He.ga K "NothingDone") ∧ d = none
def Rai (K : PySem.W.Frag) (H : Hp) (E : XK) (e : Err) : Prop := ∀ cls d H', Same H H' → ErrIs K e cls d H' → E cls d H'
theorem Rai.at {H H1 : Hp} {E : XK} {e : Err} (r : Rai K H E e) (s : Same H H1) : Rai K H1 E e := fun cls d H' s' h => r cls d H' (s.trans s') h
/-! ### LimitError -/
def spLim (K : PySem.W.Frag) : Sp := fun vs H Q _ => ∃ a am li, vs = [.ref a, nV am, nV li] ∧ am ≤ 100 ∧ li ≤ 100 ∧ H a = some (exo a (He.ga K "LimitError") none) ∧
  ∀ d H', H d = none → d ≠ a → H' a = some (exo a (He.ga K "LimitError") (some d)) → H' d = some (exd d [("limit", nV li), ("amount", nV am)]) → (∀ b, b ≠ a → b ≠ d → H' b = H b) → Q .non H'
theorem small_txt {n : Nat} (h : n ≤ 100) : ((n : Int)).natAbs.log2 < 1920 := by
  rw [Int.natAbs_natCast]
  exact Nat.lt_of_le_of_lt (Nat.log2_le_self n) (by omega)
theorem txt_len {n : Nat} (h : n ≤ 100) : (toString (n : Int) : Str).length ≤ 3 := by
  have key : ∀ n ∈ List.range 101, (toString (n : Int) : Str).length ≤ 3 := by decide +kernel
  exact key n (List.mem_range.mpr (by omega))
theorem sz_line {n : Nat} (h : n ≤ 1000) : n ≤ sizeLine := Nat.le_trans h (by decide)
theorem r_limit_init (T : Txt K mg) : ∃ fd, FnOk PP w K mg base CX0 1 (He.ma K (He.ga K "LimitError") "__init__") fd ["self", "amount", "limit"] (spLim K) ∧ Binds K fd ["self", "amount", "limit"] [] := by
  obtain ⟨fd, F⟩ := T.F_LimitError_init
  obtain ⟨oc, od, dV, kV, doc, pm, an, ca, ct, cc, osl, rfl, lk, hcd, hD, S⟩ := F.ex
  refine ⟨_, fn_sup (ps := ["self", "amount", "limit"]) lk hcd ⟨rfl, rfl, rfl, by decide +kernel, by decide +kernel, by decide +kernel, by decide +kernel⟩ S.cell (fun vs H Q E h => ?_) (fun A outer s H vs Q E hr h => ?_), ?_⟩
  · obtain ⟨a, am, li, rfl, _⟩ := h
    rfl
  · obtain ⟨a, am, li, rfl, h1, h2, ha, k⟩ := h
    refine ⟨fun H' => H' = H, _, fun s1 I => sup_exc (ps := ["self", "amount", "limit"]) (x := a) (self := "self") S T.lim_oex lk I rfl rfl (by decide +kernel) rfl rfl ha T.lim_mro (by decide +kernel) (by decide +kernel) (by decide +kernel) T.lim_up T.lim_sub
      (pa_cons (pe_joined (.cons (pe_fmt (pv 1)) (.cons pe_str (.cons (pe_fmt (pv 2)) .nil)))) pa_nil) ?_, pss_cons (ps_ost (pv 0) (pv 1)) (pss_one (ps_ost (pv 0) (pv 2))), ?_⟩
    · have t1 := txt_len h1
      have t2 := txt_len h2
      have t3 : (" in place of at most " : Str).length = 21 := by decide +kernel
      have t4 : (Str.empty ++ toString (am : Int) : Str).length ≤ 3 := by
        rw [Str.length_append]
        exact Nat.le_trans (Nat.le_of_eq (Nat.zero_add _)) t1
      have t5 : (Str.empty ++ toString (am : Int) ++ " in place of at most " : Str).length ≤ 24 := by
        rw [Str.length_append, t3]
        omega
      have t6 : (Str.empty ++ toString (am : Int) ++ " in place of at most " ++ toString (li : Int) : Str).length ≤ 27 := by
        rw [Str.length_append]
        omega
      refine ⟨_, rfl, .inr ⟨(am : Int), rfl, small_txt h1, _, rfl, sz_line (by omega), _, rfl, sz_line (by omega), _, rfl, .inr ⟨(li : Int), rfl, small_txt h2, _, rfl, sz_line (by omega), ?_⟩⟩⟩
      exact ⟨show 1 ≤ 1000 by decide, ha, rfl⟩
    · rintro H' rfl
      refine ⟨_, rfl, _, rfl, a, _, rfl, T.lim_oex, T.lim_no_amount, .inl ⟨ha, fun d hd hda => ?_⟩⟩
      refine ⟨_, rfl, _, rfl, a, _, rfl, T.lim_oex, T.lim_no_limit, .inr ⟨d, [("amount", nV am)], upd_same, ?_, show 1 ≤ 900 by decide, ?_⟩⟩
      · rw [upd_ne hda, upd_same]
      · refine k d _ hd hda ?_ upd_same fun b h1 h2 => ?_
        · rw [upd_ne (Ne.symm hda), upd_same]
        · rw [upd_ne h2, upd_ne h1, upd_ne h2]
  · rcases hD with ⟨_, e⟩ | ⟨e, _⟩
    · subst e
      exact Binds.all fun us hl => match us, hl with | [_, _, _], _ => rfl
    · exact absurd rfl e
/-! ### how many pieces -/
def spMost (K : PySem.W.Frag) (s : Srt) : Sp := fun vs H Q _ => ∃ x m cap ps past, vs = [.ref x] ∧ RopeAt K s H x m cap ps past ∧ Q (nV (s.most cap)) H
theorem sc_most : FnScope ["self"] ["self"] (defScope b_Rope_most_pieces) := ⟨rfl, rfl, rfl, by decide +kernel, rfl, by decide +kernel, by decide +kernel⟩
theorem sc_most2 : FnScope ["self"] ["self"] (defScope b_Short_most_pieces) := ⟨rfl, rfl, rfl, by decide +kernel, rfl, by decide +kernel, by decide +kernel⟩
theorem r_most0 (T : Txt K mg) (s : Srt) (hs : s.isShort = false) : ∃ fd, FnOk PP w K mg base CX0 1 (He.ma K (He.ga K "Rope") "most_pieces") fd ["self"] (spMost K s) ∧ Binds K fd ["self"] [] := by
  obtain ⟨fd, F⟩ := T.F_Rope_most_pieces
  obtain ⟨t1, i1⟩ := T.i_MOST_PIECES
  refine ⟨fd, mkO F sc_most (fun _ _ _ _ _ _ us hl => match us, hl with | [_], _ => rfl) (fun vs H Q E h => ?_) (fun cdv A outer s' H vs Q E hr h => ?_)⟩
  · obtain ⟨x, m, cap, ps, past, rfl, _⟩ := h
    rfl
  · refine ⟨_, PSs.nox (pss_one (ps_ret (pe_glob (v := .int 20) rfl i1 ⟨t1, rfl⟩))), ?_⟩
    obtain ⟨x, m, cap, ps, past, rfl, r, k⟩ := h
    have e : s.most cap = 20 := by
      unfold Srt.most
      rw [hs]
      rfl
    rw [e] at k
    exact k
theorem r_most1 (T : Txt K mg) (s : Srt) (hs : s.isShort = true) : ∃ fd, FnOk PP w K mg base CX0 1 (He.ma K (He.ga K "Short") "most_pieces") fd ["self"] (spMost K s) ∧ Binds K fd ["self"] [] := by
  obtain ⟨fd, F⟩ := T.F_Short_most_pieces
  refine ⟨fd, mkO F sc_most2 (fun _ _ _ _ _ _ us hl => match us, hl with | [_], _ => rfl) (fun vs H Q E h => ?_) (fun cdv A outer s' H vs Q E hr h => ?_)⟩
  · obtain ⟨x, m, cap, ps, past, rfl, _⟩ := h
    rfl
  · refine ⟨_, PSs.nox (pss_one (ps_ret (pe_fld (pv 0) rfl))), ?_⟩
    obtain ⟨x, m, cap, ps, past, rfl, ⟨dx, vm, vk, vp, hx, _⟩, k⟩ := h
    have e : s.most cap = cap := by
      unfold Srt.most
      rw [hs]
      rfl
    rw [e] at k
    exact ⟨_, rfl, x, _, dx, _, _, rfl, hx, T.c_ s, T.n_own_most s, lk_most hs, k⟩
theorem r_most (T : Txt K mg) (s : Srt) : ∃ fd, FnOk PP w K mg base CX0 1 (He.ma K (He.ga K (owMost s)) "most_pieces") fd ["self"] (spMost K s) ∧ Binds K fd ["self"] [] := by
  cases s with
  | rope => exact r_most0 T .rope rfl
  | std => exact r_most0 T .std rfl
  | sht => exact r_most1 T .sht rfl
  | both => exact r_most1 T .both rfl
/-! ### what fits -/
def Outc (K : PySem.W.Frag) (H : Hp) (Q : VK) (E : XK) (o : Option Err) : Prop := (o = none → Res H Q fun _ v => v = .non) ∧ ∀ e, o = some e → Rai K H E e
def spFit0 (K : PySem.W.Frag) (s : Srt) : Sp := fun vs H Q E => ∃ x m cap ps past vq q, vs = [.ref x, vq] ∧ RopeAt K s H x m cap ps past ∧ cap ≤ 20 ∧ Ps H vq q ∧ Cand m q ∧ Outc K H Q E (fit0 (s.most cap) q)
theorem most_le {s : Srt} {cap : Nat} (h : cap ≤ 20) : s.most cap ≤ 20 := by
  unfold Srt.most
  split <;> omega
theorem sc_fit0 : FnScope ["self", "pieces", "letters"] ["self", "pieces"] (defScope b_Rope_need_fit) := ⟨rfl, rfl, rfl, by decide +kernel, rfl, by decide +kernel, by decide +kernel⟩
/-- how a LimitError that is made flies -/
theorem lim_fly {H H1 : Hp} {E : XK} {am li : Nat} (s1 : Same H H1) (r : Rai K H E (.limit am li)) (h1 : am ≤ 100) (h2 : li ≤ 100) : ([nV am, nV li] : List V).length ≤ 1000 ∧ ∀ a, H1 a = none → spLim K (.ref a :: ([nV am, nV li] ++ [])) (upd H1 a (exo a (He.ga K "LimitError") none))
    (fun v H2 => v = .non ∧ ∃ (d : Addr) (fs : List (Str × V)), H2 a = some (exo a (He.ga K "LimitError") (some d)) ∧ H2 d = some (exd d fs) ∧ H1 d = none ∧ E (.ref (He.ga K "LimitError")) (some d) (upd (del H2 a) d (.xd fs))) (fun _ _ _ => False) := by
  refine ⟨show 2 ≤ 1000 by decide, fun a ha => ⟨a, am, li, rfl, h1, h2, upd_same, fun d H' hd hda e1 e2 k => ?_⟩⟩
  have hd1 : H1 d = none := by
    rw [upd_ne hda] at hd
    exact hd
  refine ⟨rfl, d, _, e1, e2, hd1, r _ _ _ (fun b o e => ?_) ⟨rfl, d, rfl, upd_same⟩⟩
  have e' := s1 b o e
  have nb : b ≠ a := ne_of_none e' ha
  have nd : b ≠ d := ne_of_none e' hd1
  rw [upd_ne nd, del_ne nb, k b nb nd, upd_ne nb]
  exact e'
theorem r_fit0 (T : Txt K mg) (s : Srt) : FnR PP w K mg base (L2.CX PP w) 3 (He.ma K (He.ga K "Rope") "need_fit") (spFit0 K s) := by
  obtain ⟨fd, F⟩ := T.F_Rope_need_fit
  obtain ⟨fl, FL, BL⟩ := r_limit_init (w := w) (base := base) T
  obtain ⟨fm, FM, BM⟩ := r_most (w := w) (base := base) T s
  obtain ⟨_, FW⟩ := T.F_whole_of
  obtain ⟨t1, i1⟩ := T.i_MOST_LETTERS_ropes
  refine mkR F sc_fit0 (fun _ _ _ _ _ _ us hl => match us, hl with | [_, _], _ => rfl) (fun vs H Q E h => ?_) (fun cdv A outer s' H vs Q E hr h => ?_)
  · obtain ⟨x, m, cap, ps, past, vq, q, rfl, _⟩ := h
    rfl
  · have hr1 := hr.mono (show 1 ≤ 2 by decide)
    have tk := takes_of (X := cxOf (L2.CX PP w) PP w K mg base ["self", "pieces", "letters"] "Rope.need_fit" (defScope b_Rope_need_fit) (He.ma K (He.ga K "Rope") "need_fit") cdv A outer s' H E) (E := E) rfl rfl rfl rfl
    refine ⟨_, pss_cons (ps_set (i := 2) sc_fit0.nd rfl (Or.inl rfl) (pe_callB call_len rfl T.f_len boot_len (pa_cons (pe_callR (r_whole_of T) hr1 rfl T.g_whole_of FW.kp pass0 (pa_cons (pv 1) pa_nil)) pa_nil)))
      (pss_cons (ps_if (pt_cmpR op_gt (pv 2) (pe_glob (v := .int 40) rfl i1 ⟨t1, rfl⟩) (nomark _))
        (pss_one (ps_raise rfl tk (pmk_oex T.lim_oex T.lim_init T.lim_ty FL hr BL .nil pass0 rfl T.g_LimitError (pa_cons (pv 2) (pa_cons (pe_glob (v := .int 40) rfl i1 ⟨t1, rfl⟩) pa_nil))))) pss_nil)
      (pss_one (ps_if (pt_cmpR op_gt (pe_callB call_len rfl T.f_len boot_len (pa_cons (pv 1) pa_nil)) (pe_meth0 (pv 0) (T.c_ s) (T.m_most_pieces s) FM hr1 BM .nil pass0) (nomark _))
        (pss_one (ps_raise rfl tk (pmk_oex T.lim_oex T.lim_init T.lim_ty FL hr BL .nil pass0 rfl T.g_LimitError (pa_cons (pe_callB call_len rfl T.f_len boot_len (pa_cons (pv 1) pa_nil)) (pa_cons (pe_meth0 (pv 0) (T.c_ s) (T.m_most_pieces s) FM hr1 BM .nil pass0) pa_nil))))) pss_nil))), ?_⟩
    obtain ⟨x, m, cap, ps, past, vq, q, rfl, hx, hcap, hq, cd, o⟩ := h
    obtain ⟨_, c1, c2⟩ := id cd
    refine ⟨_, rfl, vq, q, rfl, hq, by omega, by omega, fun v H1 s1 h1 => ?_⟩
    obtain ⟨a, rfl, ha⟩ := h1
    refine ⟨_, q.flatten.length, rfl, .inr ⟨_, SqT.of ha, by rw [List.length_map]⟩, ?_⟩
    refine ⟨_, rfl, _, _, rfl, rfl, _, rfl, ?_⟩
    unfold fit0 at o
    by_cases hb : 40 < q.flatten.length
    · rw [decide_eq_true (by omega : (40 : Int) < (q.flatten.length : Int))]
      rw [if_pos hb] at o
      refine iteT ⟨_, rfl, lim_fly (li := 40) s1 (o.2 _ rfl) (by omega) (by omega)⟩
    · rw [decide_eq_false (by omega : ¬ (40 : Int) < (q.flatten.length : Int))]
      rw [if_neg hb] at o
      obtain ⟨aq, xs, rfl, hqa, z⟩ := hq
      have hqa1 := s1 _ _ hqa
      have hx1 := hx.same s1
      obtain ⟨dx, vm, vk, vp, hx2, hx3⟩ := id hx1
      refine iteF ⟨_, rfl, _, q.length, rfl, .inr ⟨_, SqT.of hqa1, z.1.symm⟩, _, rfl, x, dx, _, rfl, hx2, lk_none (by decide +kernel), x, m, cap, ps, past, rfl, hx1, _, _, rfl, rfl, _, rfl, ?_⟩
      have ml := most_le (s := s) hcap
      by_cases hc : s.most cap < q.length
      · rw [decide_eq_true (by omega : (s.most cap : Int) < (q.length : Int))]
        rw [if_pos hc] at o
        refine iteT ⟨_, rfl, _, q.length, rfl, .inr ⟨_, SqT.of hqa1, z.1.symm⟩, _, rfl, x, dx, _, rfl, hx2, lk_none (by decide +kernel), x, m, cap, ps, past, rfl, hx1, lim_fly s1 (o.2 _ rfl) (by omega) (by omega)⟩
      · rw [decide_eq_false (by omega : ¬ (s.most cap : Int) < (q.length : Int))]
        rw [if_neg hc] at o
        exact iteF (o.1 rfl _ _ s1 rfl)
end
end K68D
/-! ropes.py: the steady need_fit; how ropes are made. -/
namespace K68D
open PySem PySem.Spec PyProof.Rows L2 K68R K68K K68T K68
section
variable {w : World} {K : PySem.W.Frag} {mg : Str → Option Value} {base : Heap}
def spFit (K : PySem.W.Frag) (s : Srt) : Sp := fun vs H Q E => ∃ x m cap ps past vq q, vs = [.ref x, vq] ∧ RopeAt K s H x m cap ps past ∧ m.Ok ∧ cap ≤ 20 ∧ Ps H vq q ∧ Cand m q ∧ Outc K H Q E (fit s m cap q)
theorem fit_flat {s : Srt} {m : Mach} {cap : Nat} (h : s.isSteady = false) (q : Pieces) : fit s m cap q = fit0 (s.most cap) q := by
  unfold fit
  rw [h]
  cases fit0 (s.most cap) q <;> rfl
theorem wok_nil {m : Mach} : m.Wok [] := fun x hx => absurd hx (by simp)
theorem dec_ne {a b : Nat} (h : a ≠ b) : decide (nV a = nV b) = false := decide_eq_false fun z => h (Int.ofNat.inj (V.int.inj z))
theorem r_fitS (T : Txt K mg) (s : Srt) (hs : s.isSteady = true) (up : PySem.W.ks_superIn K (He.ga K (cname s)) (He.ga K "Steady") "need_fit" = some (some (.ref (He.ma K (He.ga K "Rope") "need_fit"))) ∧ PySem.W.mroIn K (He.ga K (cname s)) (.ref (He.ga K "Steady")) = some true ∧ PySem.W.fnIn K (He.ma K (He.ga K "Rope") "need_fit") = true ∧ PySem.W.typeIn K (.ref (He.ma K (He.ga K "Rope") "need_fit")) = some (.type "function")) :
    FnR PP w K mg base (L2.CX PP w) 6 (He.ma K (He.ga K "Steady") "need_fit") (spFit K s) := by
  obtain ⟨fd, F⟩ := T.F_Steady_need_fit
  obtain ⟨oc, od, dV, kV, doc, pm, an, ca, ct, cc, osl, rfl, lk, hcd, hD, S⟩ := F.ex
  obtain ⟨_, FW⟩ := T.F_whole_of
  obtain ⟨_, FO⟩ := T.F_result_of
  obtain ⟨u1, u2, u3, u4⟩ := up
  obtain ⟨fd, G, b⟩ : ∃ fd, FnOk PP w K mg base (L2.CX PP w) 6 (He.ma K (He.ga K "Steady") "need_fit") fd ["self", "pieces"] (spFit K s) ∧ Binds K fd ["self", "pieces"] [] := by
    refine ⟨_, fn_sup (ps := ["self", "pieces"]) lk hcd ⟨rfl, rfl, rfl, by decide +kernel, by decide +kernel, by decide +kernel, by decide +kernel⟩ S.cell (fun vs H Q E h => ?_) (fun A outer s' H vs Q E hr h => ?_), ?_⟩
    · obtain ⟨x, m, cap, ps, past, vq, q, rfl, _⟩ := h
      rfl
    · obtain ⟨x, m, cap, ps, past, vq, q, rfl, hx, ok, hcap, hq, cd, o⟩ := h
      have hr1 := hr.mono (show 1 ≤ 5 by decide)
      have tk := takes_of (X := cxS (L2.CX PP w) PP w K mg base ["self", "pieces"] "Steady.need_fit" (defScope b_Steady_need_fit) (He.ma K (He.ga K "Steady") "need_fit") (.ref ca) cc A outer s' H E) (E := E) rfl rfl rfl rfl
      obtain ⟨dx, vm, vk, vp, hx2, hx3⟩ := id hx
      refine ⟨fun H' => Same H H' ∧ fit0 (s.most cap) q = none, _, fun s1 I => sup_meth (ps := ["self", "pieces"]) (x := x) (self := "self") (dx := dx) (E := E) S lk I rfl rfl (by decide +kernel) rfl rfl hx2 u2 (by decide +kernel) (by decide +kernel) (by decide +kernel) (by decide +kernel) u1 u3 u4
        ((r_fit0 T s).mono (show 3 ≤ 5 by decide)) hr (passes_call tk fun _ _ _ _ h => h) (pa_cons (pv 1) pa_nil) ?_,
        pss_one (ps_if (pt_cmpR op_ne (pe_callR (r_result_of T) hr rfl T.g_result_of FO.kp pass0 (pa_cons (pe_fld (pv 0) rfl) (pa_cons (pe_callR (r_whole_of T) hr1 rfl T.g_whole_of FW.kp pass0 (pa_cons (pv 1) pa_nil)) pa_nil)))
          (pe_callR (r_result_of T) hr rfl T.g_result_of FO.kp pass0 (pa_cons (pe_fld (pv 0) rfl) (pa_cons (pe_tup pa_nil) pa_nil))) (nomark _))
          (pss_one (ps_raise rfl tk (pmk_own PySem.F.excBase_ValueError T.e_Unsteady.1 T.g_Unsteady T.e_Unsteady.2.1 (raises_own T.e_Unsteady.2.2.1 T.e_Unsteady.2.2.2) rfl))) pss_nil), ?_⟩
      · refine ⟨_, rfl, x, m, cap, ps, past, vq, q, rfl, hx, hcap, hq, cd, fun e v H' s1 _ => ⟨s1, e⟩, fun e he => o.2 e ?_⟩
        unfold fit
        rw [he]
        rfl
      · rintro H' ⟨s1, hf⟩
        have ef : fit s m cap q = fitS m q := by
          unfold fit
          rw [hf, hs]
          rfl
        rw [ef] at o
        obtain ⟨hx1, hm1, _, _⟩ := RopeV.same ⟨hx2, hx3⟩ s1
        have hq1 := stab_ps _ _ _ _ (TK.of s1) hq
        refine ⟨_, rfl, x, _, dx, _, _, rfl, hx1, T.c_ s, T.n_own_machine s, lk_machine, _, rfl, vq, q, rfl, hq1, ?_, ?_, fun v H2 s2 h2 => ?_⟩
        · have := cd.2.1
          omega
        · have := cd.2.2
          omega
        · refine ⟨vm, v, m, _, rfl, stab_mc _ _ _ _ (TK.of s2) hm1, ok, h2, cd.whole, fun v3 H3 s3 e3 => ?_⟩
          subst e3
          have hx3' := (s2.trans s3) _ _ hx1
          have hm3 := stab_mc _ _ _ _ (TK.of (s2.trans s3)) hm1
          refine ⟨_, rfl, x, _, dx, _, _, rfl, hx3', T.c_ s, T.n_own_machine s, lk_machine, by decide, fun p hp => ?_⟩
          refine ⟨vm, .ref p, m, [], rfl, stab_mc _ _ _ _ (TK.of (same_upd hp)) hm3, ok, Wd.of upd_same, wok_nil, fun v4 H4 s4 e4 => ?_⟩
          subst e4
          refine ⟨rfl, _, rfl, ?_⟩
          have sa : Same H H4 := ((s1.trans s2).trans s3).trans ((same_upd hp).trans s4)
          unfold fitS at o
          by_cases he : m.read q.flatten = m.read []
          · rw [if_pos he] at o
            rw [he, dec_refl]
            exact iteF (o.1 rfl _ _ sa rfl)
          · rw [if_neg he] at o
            rw [dec_ne he]
            exact iteT (o.2 _ rfl _ _ _ sa ⟨rfl, rfl⟩)
    · rcases hD with ⟨_, e⟩ | ⟨e, _⟩
      · subst e
        exact Binds.all fun us hl => match us, hl with | [_, _], _ => rfl
      · exact absurd rfl e
  exact (G.raw b .nil).imp fun vs H Q E h => by rw [List.append_nil]; exact h
/-- need_fit of each sort -/
theorem r_need_fit (T : Txt K mg) (s : Srt) : FnR PP w K mg base (L2.CX PP w) 6 (He.ma K (He.ga K (owFit s)) "need_fit") (spFit K s) := by
  have flat : ∀ s : Srt, s.isSteady = false → FnR PP w K mg base (L2.CX PP w) 6 (He.ma K (He.ga K "Rope") "need_fit") (spFit K s) := fun s hs =>
    ((r_fit0 T s).mono (show 3 ≤ 6 by decide)).imp fun vs H Q E ⟨x, m, cap, ps, past, vq, q, e, h1, h2, h3, h4, h5, o⟩ => by
      rw [fit_flat hs] at o
      exact ⟨x, m, cap, ps, past, vq, q, e, h1, h3, h4, h5, o⟩
  cases s with
  | rope => exact flat .rope rfl
  | std => exact r_fitS T .std rfl T.up_need_fit_Steady
  | sht => exact flat .sht rfl
  | both => exact r_fitS T .both rfl T.up_need_fit_ShortSteady
end
end K68D
/-! ropes.py: how ropes are made. -/
namespace K68D
open PySem PySem.Spec PyProof.Rows L2 K68R K68K K68T K68
section
variable {w : World} {K : PySem.W.Frag} {mg : Str → Option Value} {base : Heap}
/-- Rope.__init__ on an object of any of the sorts -/
def spInit0 (K : PySem.W.Frag) (s : Srt) : Sp := fun vs H Q _ => ∃ x vm m dx, vs = [.ref x, vm] ∧ H x = some (.ins (He.ga K (cname s)) dx []) ∧ Mc H vm m ∧ m.Ok ∧
  ∀ vk vp H', KeepX x H H' → H' x = some (.ins (He.ga K (cname s)) dx [("own_machine", vm), ("kept", vk), ("past", vp)]) → Ps H' vk [] → Pa H' vp [] → Q .non H'
theorem sc_init : FnScope ["self", "machine"] ["self", "machine"] (defScope b_Rope_init) := ⟨rfl, rfl, rfl, by decide +kernel, rfl, by decide +kernel, by decide +kernel⟩
theorem KeepX.upd' {x : Addr} {H H' : Hp} {o : HO} (k : KeepX x H H') : KeepX x H (upd H' x o) := fun b u n e => by
  rw [upd_ne n]
  exact k b u n e
theorem KeepX.same {x : Addr} {H H1 H2 : Hp} (k : KeepX x H H1) (s : Same H1 H2) : KeepX x H H2 := fun b u n e => s b u (k b u n e)
theorem nil_tw {α : Type} {R : Rl α} {H : Hp} {a : Addr} (h : H a = some (.tup [])) : Tw R H (.ref a) [] := ⟨a, [], rfl, h, All2.nil⟩
theorem r_init0 (T : Txt K mg) (s : Srt) : FnR PP w K mg base CX0 6 (He.ma K (He.ga K "Rope") "__init__") (spInit0 K s) := by
  obtain ⟨fd, F⟩ := T.F_Rope_init
  obtain ⟨_, FM⟩ := T.F_need_machine
  refine mkR F sc_init (fun _ _ _ _ _ _ us hl => match us, hl with | [_, _], _ => rfl) (fun vs H Q E h => ?_) (fun cdv A outer s' H vs Q E hr h => ?_)
  · obtain ⟨x, vm, m, dx, rfl, _⟩ := h
    rfl
  · refine ⟨_, PSs.nox (pss_cons (ps_expr (pe_callR (r_need_machine T) hr rfl T.g_need_machine FM.kp pass0 (pa_cons (pv 1) pa_nil))) (pss_cons (ps_fld (pv 0) (pv 1) rfl) (pss_cons (ps_fld (pv 0) (pe_tup pa_nil) rfl) (pss_one (ps_fld (pv 0) (pe_tup pa_nil) rfl))))), ?_⟩
    obtain ⟨x, vm, m, dx, rfl, hx, hm, ok, k⟩ := h
    refine ⟨_, rfl, vm, m, rfl, hm, ok, fun v H1 s1 _ => ?_⟩
    have hx1 := s1 _ _ hx
    refine ⟨_, rfl, _, rfl, x, _, dx, _, rfl, hx1, T.c_ s, T.n_own_machine s, show 0 < 1000 by decide, ?_⟩
    refine ⟨show 0 ≤ sizeLine by decide, fun p hp => ⟨_, rfl, x, _, dx, [("own_machine", vm)], rfl, ?_, T.c_ s, T.n_kept s, show 1 < 1000 by decide, ?_⟩⟩
    · have ne : x ≠ p := ne_of_none upd_same hp
      rw [upd_ne ne, upd_same] <;> rfl
    · have ne : x ≠ p := ne_of_none upd_same hp
      refine ⟨show 0 ≤ sizeLine by decide, fun q hq => ⟨_, rfl, x, _, dx, [("own_machine", vm), ("kept", .ref p)], rfl, ?_, T.c_ s, T.n_past s, show 2 < 1000 by decide, ?_⟩⟩
      · have ne2 : x ≠ q := ne_of_none upd_same hq
        rw [upd_ne ne2, upd_same] <;> rfl
      · have ne2 : x ≠ q := ne_of_none upd_same hq
        have np : p ≠ q := fun z => by
          rw [← z, upd_ne (Ne.symm ne), upd_same] at hq
          cases hq
        refine k (.ref p) (.ref q) _ ?_ upd_same (nil_tw ?_) (nil_tw ?_)
        · exact ((((KeepX.of s1).upd').same (same_upd hp)).upd'.same (same_upd hq)).upd'
        · rw [upd_ne (Ne.symm ne), upd_ne np, upd_ne (Ne.symm ne), upd_same]
        · rw [upd_ne (Ne.symm ne2), upd_same]
/-- the end of an __init__: a rope without pieces -/
def Made (K : PySem.W.Frag) (s : Srt) (x : Addr) (m : Mach) (cap : Nat) (H : Hp) (Q : VK) : Prop := ∀ H', KeepX x H H' → RopeAt K s H' x m cap [] [] → Q .non H'
def spInit (K : PySem.W.Frag) (s : Srt) : Sp := fun vs H Q _ => ∃ x vm m dx, vs = [.ref x, vm] ∧ H x = some (.ins (He.ga K (cname s)) dx []) ∧ Mc H vm m ∧ m.Ok ∧ ∀ cap, Made K s x m cap H Q
theorem new_notup {x dx C : Addr} {H : Hp} {fs : List (Str × V)} (h : H x = some (.ins C dx fs)) (xs : List V) : H x ≠ some (.tup xs) := fun z => by
  rw [h] at z
  cases z
theorem r_init (T : Txt K mg) (s : Srt) (hs : s.isShort = false) : FnR PP w K mg base CX0 6 (He.ma K (He.ga K "Rope") "__init__") (spInit K s) := (r_init0 T s).imp fun vs H Q E ⟨x, vm, m, dx, e, hx, hm, ok, k⟩ =>
  ⟨x, vm, m, dx, e, hx, hm, ok, fun vk vp H' kp hx' h1 h2 => k 0 H' kp ⟨dx, vm, vk, vp, by rw [hx']; unfold flds; rw [hs]; rfl, stab_mc _ _ _ _ (kp.tk (new_notup hx)) hm, h1, h2⟩⟩
/-- Short.__init__ -/
def spInitS (K : PySem.W.Frag) (s : Srt) : Sp := fun vs H Q _ => ∃ x vm m dx cap, vs = [.ref x, vm, nV cap] ∧ H x = some (.ins (He.ga K (cname s)) dx []) ∧ Mc H vm m ∧ m.Ok ∧ cap ≤ 20 ∧ Made K s x m cap H Q
theorem r_initS (T : Txt K mg) (s : Srt) (hs : s.isShort = true) (up : PySem.W.ks_superIn K (He.ga K (cname s)) (He.ga K "Short") "__init__" = some (some (.ref (He.ma K (He.ga K "Rope") "__init__"))) ∧ PySem.W.mroIn K (He.ga K (cname s)) (.ref (He.ga K "Short")) = some true ∧ PySem.W.fnIn K (He.ma K (He.ga K "Rope") "__init__") = true ∧ PySem.W.typeIn K (.ref (He.ma K (He.ga K "Rope") "__init__")) = some (.type "function")) :
    ∃ fd, FnOk PP w K mg base CX0 7 (He.ma K (He.ga K "Short") "__init__") fd ["self", "machine", "most"] (spInitS K s) ∧ KBn K fd ["self", "machine", "most"] 3 [] (fun us ws => us ++ ws) (fun vs zs => vs ++ zs) ∧ KBn K fd ["self", "machine", "most"] 2 ["most"] (fun us ws => us ++ ws) (fun vs zs => vs ++ zs) := by
  obtain ⟨fd, F⟩ := T.F_Short_init
  obtain ⟨oc, od, dV, kV, doc, pm, an, ca, ct, cc, osl, rfl, lk, hcd, hD, S⟩ := F.ex
  obtain ⟨_, FB⟩ := T.F_is_between
  obtain ⟨t1, i1⟩ := T.i_MOST_PIECES
  obtain ⟨u1, u2, u3, u4⟩ := up
  refine ⟨_, fn_sup (ps := ["self", "machine", "most"]) lk hcd ⟨rfl, rfl, rfl, by decide +kernel, by decide +kernel, by decide +kernel, by decide +kernel⟩ S.cell (fun vs H Q E h => ?_) (fun A outer s' H vs Q E hr h => ?_), ?_⟩
  · obtain ⟨x, vm, m, dx, cap, rfl, _⟩ := h
    rfl
  · obtain ⟨x, vm, m, dx, cap, rfl, hx, hm, ok, hcap, k⟩ := h
    refine ⟨fun H' => KeepX x H H' ∧ ∃ vk vp, H' x = some (.ins (He.ga K (cname s)) dx [("own_machine", vm), ("kept", vk), ("past", vp)]) ∧ Ps H' vk [] ∧ Pa H' vp [], _,
      fun s1 I => sup_meth (ps := ["self", "machine", "most"]) (x := x) (self := "self") (dx := dx) (E := E0) S lk I rfl rfl (by decide +kernel) rfl rfl hx u2 (by decide +kernel) (by decide +kernel) (by decide +kernel) (by decide +kernel) u1 u3 u4
        (r_init0 T s) hr pass0 (pa_cons (pv 1) pa_nil) ?_,
      pss_cons (ps_if (pt_not (pt_val (pe_callR (r_is_between T) (hr.mono (by decide)) rfl T.g_is_between FB.kp pass0 (pa_cons (pv 2) (pa_cons pe_int (pa_cons (pe_glob (v := .int 20) rfl i1 ⟨t1, rfl⟩) pa_nil)))))) pss_never pss_nil)
        (pss_one (ps_fld (pv 0) (pv 2) rfl)), ?_⟩
    · exact ⟨_, rfl, x, vm, m, dx, rfl, hx, hm, ok, fun vk vp H' kp hx' h1 h2 => ⟨kp, vk, vp, hx', h1, h2⟩⟩
    · rintro H' ⟨kp, vk, vp, hx', h1, h2⟩
      refine ⟨_, rfl, (cap : Int), 0, 20, rfl, ?_⟩
      rw [decide_eq_true (by omega : (0 : Int) ≤ (cap : Int)), decide_eq_true (by omega : (cap : Int) ≤ 20)]
      refine ⟨_, rfl, iteF ?_⟩
      refine ⟨_, rfl, _, rfl, x, _, dx, _, rfl, hx', T.c_ s, T.n_own_most s, show 3 < 1000 by decide, ?_⟩
      have tk : TK H' (upd H' x (.ins (He.ga K (cname s)) dx [("own_machine", vm), ("kept", vk), ("past", vp), ("own_most", nV cap)])) := (keepX_upd).tk (new_notup hx')
      refine k _ kp.upd' ⟨dx, vm, vk, vp, ?_, stab_mc _ _ _ _ tk (stab_mc _ _ _ _ (kp.tk (new_notup hx)) hm), stab_ps _ _ _ _ tk h1, stab_pa _ _ _ _ tk h2⟩
      rw [upd_same]
      unfold flds
      rw [hs]
      rfl
  · rcases hD with ⟨e, _⟩ | ⟨_, D, o, its, n, rfl, lT, oT, rT⟩
    · cases e
    · have hit : its.length = 1 := rT.length.symm
      obtain ⟨d, rfl⟩ : ∃ d, its = [d] := match its, hit with
        | [d], _ => ⟨d, rfl⟩
      refine ⟨⟨fun s' us ws X l1 l2 => ?_, fun r1 r2 => r1.append r2⟩, ⟨fun s' us ws X l1 l2 => ?_, fun r1 r2 => r1.append r2⟩⟩
      · refine BindsTo.of_looks fun M => ?_
        match us, l1, ws, l2 with
        | [a, b, c], _, [], _ => exact looks_items X lT oT (.of_pure rfl)
      · refine BindsTo.of_looks fun M => ?_
        match us, l1, ws, l2 with
        | [a, b], _, [c], _ => exact looks_items X lT oT (.of_pure rfl)
theorem r_initSht (T : Txt K mg) : ∃ fd, FnOk PP w K mg base CX0 7 (He.ma K (He.ga K "Short") "__init__") fd ["self", "machine", "most"] (spInitS K .sht) ∧ KBn K fd ["self", "machine", "most"] 3 [] (fun us ws => us ++ ws) (fun vs zs => vs ++ zs) ∧ KBn K fd ["self", "machine", "most"] 2 ["most"] (fun us ws => us ++ ws) (fun vs zs => vs ++ zs) := r_initS T .sht rfl T.up_init_Short
theorem r_initBoth (T : Txt K mg) : ∃ fd, FnOk PP w K mg base CX0 7 (He.ma K (He.ga K "Short") "__init__") fd ["self", "machine", "most"] (spInitS K .both) ∧ KBn K fd ["self", "machine", "most"] 3 [] (fun us ws => us ++ ws) (fun vs zs => vs ++ zs) ∧ KBn K fd ["self", "machine", "most"] 2 ["most"] (fun us ws => us ++ ws) (fun vs zs => vs ++ zs) := r_initS T .both rfl T.up_init_ShortSteady
end
end K68D
/-! What the calls may be given: the sizes of the pieces. -/
namespace K68D
open K68
def Good (m : Mach) (q : Pieces) : Prop := (∀ p ∈ q, m.Wok p) ∧ q.length ≤ 20 ∧ q.flatten.length ≤ 40
def WayOk (m : Mach) : Way → Prop
  | .right w => m.Wok w ∧ w.length ≤ 5
  | .left w => m.Wok w ∧ w.length ≤ 5
  | .three w => m.Wok w ∧ w.length ≤ 5
  | _ => True
theorem split_at {ps : Pieces} {k : Nat} (h : k < ps.length) : ps = ps.take k ++ ps.getD k [] :: ps.drop (k + 1) := by
  rw [List.getD_eq_getElem?_getD, List.getElem?_eq_getElem h, Option.getD_some]
  rw [← List.drop_eq_getElem_cons h, List.take_append_drop]
theorem split_two {ps : Pieces} {k : Nat} (h : k + 1 < ps.length) : ps = ps.take k ++ ps.getD k [] :: ps.getD (k + 1) [] :: ps.drop (k + 2) := by
  have e1 := split_at (ps := ps) (k := k) (by omega)
  have e2 : ps.drop (k + 1) = ps.getD (k + 1) [] :: ps.drop (k + 2) := by
    rw [List.getD_eq_getElem?_getD, List.getElem?_eq_getElem h, Option.getD_some]
    exact List.drop_eq_getElem_cons h
  rw [← e2]
  exact e1
theorem cand_next {m : Mach} {ps q : Pieces} {past : List Pieces} {y : Way} (g : Good m ps) (hy : WayOk m y) (hu : y ≠ .undo) (h : next ps past y = .ok q) : Cand m q := by
  obtain ⟨g1, g2, g3⟩ := g
  cases y with
  | undo => exact absurd rfl hu
  | right w =>
    obtain ⟨h1, h2⟩ := hy
    obtain rfl : ps ++ [w] = q := Except.ok.inj h
    refine ⟨fun p hp => ?_, ?_, ?_⟩
    · rcases List.mem_append.mp hp with hp | hp
      · exact g1 p hp
      · rw [List.mem_singleton.mp hp]
        exact h1
    · simp only [List.length_append, List.length_cons, List.length_nil]
      omega
    · simp only [List.flatten_append, List.flatten_cons, List.flatten_nil, List.append_nil, List.length_append]
      omega
  | left w =>
    obtain ⟨h1, h2⟩ := hy
    obtain rfl : w :: ps = q := Except.ok.inj h
    refine ⟨fun p hp => ?_, ?_, ?_⟩
    · rcases List.mem_cons.mp hp with hp | hp
      · rw [hp]
        exact h1
      · exact g1 p hp
    · simp only [List.length_cons]
      omega
    · simp only [List.flatten_cons, List.length_append]
      omega
  | three w =>
    obtain ⟨h1, h2⟩ := hy
    obtain rfl : [w, [], w] = q := Except.ok.inj h
    refine ⟨fun p hp => ?_, by show 3 ≤ 30; decide, ?_⟩
    · simp only [List.mem_cons, List.not_mem_nil, or_false] at hp
      rcases hp with hp | hp | hp
      · rw [hp]
        exact h1
      · rw [hp]
        exact fun x hx => absurd hx (by simp)
      · rw [hp]
        exact h1
    · simp only [List.flatten_cons, List.flatten_nil, List.append_nil, List.nil_append, List.length_append]
      omega
  | merge k =>
    simp only [next] at h
    split at h
    · rename_i hk
      obtain rfl := Except.ok.inj h
      have e := split_two hk
      refine ⟨fun p hp => ?_, ?_, ?_⟩
      · rcases List.mem_append.mp hp with hp | hp
        · exact g1 p (List.mem_of_mem_take hp)
        · rcases List.mem_cons.mp hp with hp | hp
          · rw [hp]
            intro x hx
            rcases List.mem_append.mp hx with hx | hx
            · exact g1 (ps.getD k []) (row_mem (by omega)) x (by simpa using hx)
            · exact g1 (ps.getD (k + 1) []) (row_mem hk) x (by simpa using hx)
          · exact g1 p (List.mem_of_mem_drop hp)
      · simp only [List.length_append, List.length_take, List.length_cons, List.length_drop]
        omega
      · have e2 : ps.flatten.length = _ := congrArg (fun l => l.flatten.length) e
        simp only [List.flatten_append, List.flatten_cons, List.length_append] at e2 ⊢
        omega
    · cases h
  | drop k =>
    simp only [next] at h
    split at h
    · rename_i hk
      obtain rfl := Except.ok.inj h
      have e := split_at hk
      refine ⟨fun p hp => ?_, ?_, ?_⟩
      · rcases List.mem_append.mp hp with hp | hp
        · exact g1 p (List.mem_of_mem_take hp)
        · exact g1 p (List.mem_of_mem_drop hp)
      · simp only [List.length_append, List.length_take, List.length_drop]
        omega
      · have e2 : ps.flatten.length = _ := congrArg (fun l => l.flatten.length) e
        simp only [List.flatten_append, List.flatten_cons, List.length_append] at e2 ⊢
        omega
    · cases h
  | cut k n =>
    simp only [next] at h
    split at h
    · rename_i hk
      split at h
      · rename_i hn
        obtain rfl := Except.ok.inj h
        have e := split_at hk
        have hm : ps.getD k [] ∈ ps := row_mem hk
        refine ⟨fun p hp => ?_, ?_, ?_⟩
        · rcases List.mem_append.mp hp with hp | hp
          · exact g1 p (List.mem_of_mem_take hp)
          · rcases List.mem_cons.mp hp with hp | hp
            · rw [hp]
              exact fun x hx => g1 _ hm x (List.mem_of_mem_take hx)
            · rcases List.mem_cons.mp hp with hp | hp
              · rw [hp]
                exact fun x hx => g1 _ hm x (List.mem_of_mem_drop hx)
              · exact g1 p (List.mem_of_mem_drop hp)
        · simp only [List.length_append, List.length_take, List.length_cons, List.length_drop]
          omega
        · have e2 : ps.flatten.length = _ := congrArg (fun l => l.flatten.length) e
          simp only [List.flatten_append, List.flatten_cons, List.length_append, List.length_take, List.length_drop] at e2 ⊢
          omega
      · cases h
    · cases h
theorem fit0_none {most : Nat} {q : Pieces} (h : fit0 most q = none) : q.flatten.length ≤ 40 ∧ q.length ≤ most := by
  unfold fit0 at h
  split at h
  · cases h
  · split at h
    · cases h
    · omega
theorem fit_none {s : Srt} {m : Mach} {cap : Nat} {q : Pieces} (h : fit s m cap q = none) (hcap : cap ≤ 20) : q.flatten.length ≤ 40 ∧ q.length ≤ 20 := by
  unfold fit at h
  cases h0 : fit0 (s.most cap) q with
  | some e =>
    rw [h0] at h
    cases h
  | none =>
    obtain ⟨h1, h2⟩ := fit0_none h0
    have := most_le (s := s) hcap
    omega
theorem op_good {s : Srt} {m : Mach} {cap : Nat} {ps ps' : Pieces} {past past' : List Pieces} {y : Way} (g : Good m ps) (gp : ∀ q ∈ past, Good m q) (hcap : cap ≤ 20) (hy : WayOk m y) (h : op s m cap ps past y = .ok (ps', past')) :
    Good m ps' ∧ (∀ q ∈ past', Good m q) ∧ past'.length ≤ past.length + 1 := by
  unfold op at h
  cases hn : next ps past y with
  | error e =>
    rw [hn] at h
    cases h
  | ok q =>
    rw [hn] at h
    dsimp only at h
    have key : y ≠ .undo → (match fit s m cap q with | some e => Except.error e | none => Except.ok (q, past ++ [ps])) = Except.ok (ps', past') → Good m ps' ∧ (∀ q ∈ past', Good m q) ∧ past'.length ≤ past.length + 1 := fun hu h => by
      have c := cand_next g hy hu hn
      cases hf : fit s m cap q with
      | some e =>
        rw [hf] at h
        cases h
      | none =>
        rw [hf] at h
        obtain ⟨rfl, rfl⟩ := Prod.mk.inj (Except.ok.inj h)
        obtain ⟨h1, h2⟩ := fit_none hf hcap
        refine ⟨⟨c.1, h2, h1⟩, fun r hr => ?_, by simp⟩
        rcases List.mem_append.mp hr with hr | hr
        · exact gp r hr
        · rw [List.mem_singleton.mp hr]
          exact g
    cases y with
    | undo =>
      obtain ⟨rfl, rfl⟩ := Prod.mk.inj (Except.ok.inj h)
      have hl : past.getLast? = some q := by
        have hn' : (match past.getLast? with | some q => Except.ok q | none => Except.error Err.nothing) = Except.ok q := hn
        cases hg : past.getLast? with
        | none =>
          rw [hg] at hn'
          cases hn'
        | some r =>
          rw [hg] at hn'
          rw [Except.ok.inj hn']
      refine ⟨gp _ (List.mem_of_getLast? hl), fun r hr => gp r ((List.dropLast_sublist _).subset hr), ?_⟩
      rw [List.length_dropLast]
      omega
    | right w => exact key (by simp) h
    | left w => exact key (by simp) h
    | three w => exact key (by simp) h
    | merge k => exact key (by simp) h
    | drop k => exact key (by simp) h
    | cut k n => exact key (by simp) h
end K68D
/-! ropes.py: what changes a rope. -/
namespace K68D
open PySem PySem.Spec PyProof.Rows L2 K68R K68K K68T K68
section
variable {w : World} {K : PySem.W.Frag} {mg : Str → Option Value} {base : Heap}
/-! ### slices and sums of tuples, whatever they are -/
theorem cut_take {xs : List V} {k : Nat} : cutV xs none (some (k : Int)) = xs.take k := by
  unfold cutV
  rw [HT.sIx_nat, HT.sIx_none, List.drop_zero, Nat.sub_zero]
  by_cases h : k ≤ xs.length
  · rw [Nat.min_eq_left h]
  · rw [Nat.min_eq_right (by omega), List.take_length, List.take_of_length_le (by omega)]
theorem cut_drop {xs : List V} {k : Nat} : cutV xs (some (k : Int)) none = xs.drop k := by
  unfold cutV
  rw [HT.sIx_nat, HT.sIx_none]
  by_cases h : k ≤ xs.length
  · rw [Nat.min_eq_left h, List.take_of_length_le (by rw [List.length_drop]; exact Nat.le_refl _)]
  · rw [Nat.min_eq_right (by omega), List.drop_length, List.drop_of_length_le (by omega), List.take_nil]
theorem slA {H : Hp} {a : Addr} {xs : List V} {lo hi : Option Int} {Q : VK} (ha : H a = some (.tup xs)) (k : ∀ b H', Same H H' → H' b = some (.tup (cutV xs lo hi)) → Q (.ref b) H') : rSlA K (.ref a) lo hi H Q := by
  refine ⟨a, xs, rfl, SqT.of ha, fun hw => k a H (Same.refl H) ?_, fun _ p hp => k p _ (same_upd hp) upd_same⟩
  unfold cutV
  rw [hw.1, hw.2, List.drop_zero, Nat.sub_zero, List.take_length]
  exact ha
theorem catA {H : Hp} {a b : Addr} {xs ys : List V} {Q : VK} (ha : H a = some (.tup xs)) (hb : H b = some (.tup ys)) (hl : xs.length + ys.length ≤ 1000) (k : ∀ c H', Same H H' → H' c = some (.tup (xs ++ ys)) → Q (.ref c) H') : rCatA K (.ref a) (.ref b) H Q := by
  refine ⟨a, b, xs, ys, rfl, rfl, SqT.of ha, SqT.of hb, sz_line hl, fun e => k b H (Same.refl H) ?_, fun _ e => k a H (Same.refl H) ?_, fun _ _ p hp => k p _ (same_upd hp) upd_same⟩
  · rw [e, List.nil_append]
    exact hb
  · rw [e, List.append_nil]
    exact ha
/-! ### change -/
def Chg (K : PySem.W.Frag) (s : Srt) (x : Addr) (m : Mach) (cap : Nat) (ps : Pieces) (past : List Pieces) (H : Hp) (Q : VK) (E : XK) (q : Pieces) : Prop :=
  (fit s m cap q = none → ∀ H', KeepX x H H' → RopeAt K s H' x m cap q (past ++ [ps]) → Q .non H') ∧ ∀ e, fit s m cap q = some e → Rai K H E e
theorem Chg.at {s : Srt} {x : Addr} {m : Mach} {cap : Nat} {ps q : Pieces} {past : List Pieces} {H H1 : Hp} {Q : VK} {E : XK} (c : Chg K s x m cap ps past H Q E q) (s1 : Same H H1) : Chg K s x m cap ps past H1 Q E q :=
  ⟨fun e H' k r => c.1 e H' ((KeepX.of s1).trans k) r, fun e he => (c.2 e he).at s1⟩
def spChange (K : PySem.W.Frag) (s : Srt) : Sp := fun vs H Q E => ∃ x m cap ps past vq q, vs = [.ref x, vq] ∧ RopeAt K s H x m cap ps past ∧ m.Ok ∧ cap ≤ 20 ∧ past.length ≤ 900 ∧ Ps H vq q ∧ Cand m q ∧ Chg K s x m cap ps past H Q E q
theorem sc_change : FnScope ["self", "pieces"] ["self", "pieces"] (defScope b_Rope_change) := ⟨rfl, rfl, rfl, by decide +kernel, rfl, by decide +kernel, by decide +kernel⟩
theorem r_change (T : Txt K mg) (s : Srt) : FnR PP w K mg base (L2.CX PP w) 7 (He.ma K (He.ga K "Rope") "change") (spChange K s) := by
  obtain ⟨fd, F⟩ := T.F_Rope_change
  refine mkR F sc_change (fun _ _ _ _ _ _ us hl => match us, hl with | [_, _], _ => rfl) (fun vs H Q E h => ?_) (fun cdv A outer s' H vs Q E hr h => ?_)
  · obtain ⟨x, m, cap, ps, past, vq, q, rfl, _⟩ := h
    rfl
  · have tk := takes_of (X := cxOf (L2.CX PP w) PP w K mg base ["self", "pieces"] "Rope.change" (defScope b_Rope_change) (He.ma K (He.ga K "Rope") "change") cdv A outer s' H E) (E := E) rfl rfl rfl rfl
    refine ⟨_, pss_cons (ps_expr (pe_methR (pv 0) (T.c_ s) (T.m_need_fit s) (r_need_fit T s) hr (passes_call tk fun _ _ _ _ h => h) (pa_cons (pv 1) pa_nil))) (pss_cons (ps_fld (pv 0) (pe_tup (StX.pa_star (pe_fld (pv 0) rfl) (pa_cons (pe_fld (pv 0) rfl) pa_nil))) rfl) (pss_one (ps_fld (pv 0) (pv 1) rfl))), ?_⟩
    obtain ⟨x, m, cap, ps, past, vq, q, rfl, hx, ok, hcap, hlen, hq, cd, c⟩ := h
    obtain ⟨dx, vm, vk, vp, hr0⟩ := id hx
    refine ⟨_, rfl, x, dx, _, rfl, hr0.1, lk_none (by decide +kernel), _, rfl, x, m, cap, ps, past, vq, q, rfl, hx, ok, hcap, hq, cd, fun hf v H1 s1 _ => ?_, fun e he => c.2 e he⟩
    have hr1 := hr0.same s1
    obtain ⟨hx1, hm1, hk1, ap, xs, rfl, hap, z⟩ := hr1
    refine ⟨_, rfl, x, _, dx, _, _, rfl, hx1, T.c_ s, T.n_past s, lk_past, ap, xs, rfl, .inl (SqT.of hap), _, rfl, x, _, dx, _, _, rfl, hx1, T.c_ s, T.n_kept s, lk_kept, sz_line ?_, fun p hp => ?_⟩
    · rw [List.length_append, z.1]
      show past.length + 1 ≤ 1000
      omega
    · have nx : x ≠ p := ne_of_none hx1 hp
      refine ⟨_, rfl, x, _, dx, _, rfl, (by rw [upd_ne nx]; exact hx1), T.c_ s, T.n_past s, flds_len, ?_⟩
      refine ⟨_, rfl, _, rfl, x, _, dx, _, rfl, upd_same, T.c_ s, T.n_kept s, (by rw [put_past]; exact flds_len), ?_⟩
      rw [put_past, put_kept]
      have kx : KeepX x H1 (upd (upd (upd H1 p (.tup (xs ++ [vk]))) x (.ins (He.ga K (cname s)) dx (flds s cap vm vk (.ref p)))) x (.ins (He.ga K (cname s)) dx (flds s cap vm vq (.ref p)))) := (KeepX.of (same_upd hp)).upd'.upd'
      have t := kx.tk (new_notup hx1)
      refine c.1 hf _ ((KeepX.of s1).trans kx) ⟨dx, vm, vq, .ref p, upd_same, stab_mc _ _ _ _ t hm1, stab_ps _ _ _ _ t (stab_ps _ _ _ _ (TK.of s1) hq), Tw.of (xs := xs ++ [vk]) ?_ ((z.imp fun a b r => stab_ps _ _ _ _ t r).append (.cons (stab_ps _ _ _ _ t hk1) .nil))⟩
      rw [upd_ne (Ne.symm nx), upd_ne (Ne.symm nx), upd_same]
/-! ### need_place -/
def spPlace (K : PySem.W.Frag) : Sp := fun vs H Q E => ∃ (vx : V) (k : Nat) (n : Int), vs = [vx, nV k, .int n] ∧ ((k : Int) < n → Q .non H) ∧ (¬ (k : Int) < n → Rai K H E .place)
theorem sc_place : FnScope ["self", "place", "many"] ["self", "place", "many"] (defScope b_Rope_need_place) := ⟨rfl, rfl, rfl, by decide +kernel, rfl, by decide +kernel, by decide +kernel⟩
theorem r_place (T : Txt K mg) : FnR PP w K mg base (L2.CX PP w) 3 (He.ma K (He.ga K "Rope") "need_place") (spPlace K) := by
  obtain ⟨fd, F⟩ := T.F_Rope_need_place
  obtain ⟨_, FB⟩ := T.F_is_between
  refine mkR F sc_place (fun _ _ _ _ _ _ us hl => match us, hl with | [_, _, _], _ => rfl) (fun vs H Q E h => ?_) (fun cdv A outer s' H vs Q E hr h => ?_)
  · obtain ⟨vx, k, n, rfl, _⟩ := h
    rfl
  · have tk := takes_of (X := cxOf (L2.CX PP w) PP w K mg base ["self", "place", "many"] "Rope.need_place" (defScope b_Rope_need_place) (He.ma K (He.ga K "Rope") "need_place") cdv A outer s' H E) (E := E) rfl rfl rfl rfl
    refine ⟨_, pss_one (ps_if (pt_not (pt_val (pe_callR (r_is_between T) hr rfl T.g_is_between FB.kp pass0 (pa_cons (pv 1) (pa_cons pe_int (pa_cons (pe_op op_sub (pv 2) pe_int) pa_nil))))))
      (pss_one (ps_raise rfl tk (pmk_own PySem.F.excBase_ValueError T.e_PlaceError.1 T.g_PlaceError T.e_PlaceError.2.1 (raises_own T.e_PlaceError.2.2.1 T.e_PlaceError.2.2.2) rfl))) pss_nil), ?_⟩
    obtain ⟨vx, k, n, rfl, h1, h2⟩ := h
    refine ⟨_, rfl, _, rfl, _, _, rfl, rfl, (k : Int), 0, n - 1, rfl, ?_⟩
    rw [decide_eq_true (by omega : (0 : Int) ≤ (k : Int))]
    by_cases hk : (k : Int) < n
    · rw [decide_eq_true (by omega : (k : Int) ≤ n - 1)]
      exact ⟨_, rfl, iteF (h1 hk)⟩
    · rw [decide_eq_false (by omega : ¬ (k : Int) ≤ n - 1)]
      exact ⟨_, rfl, iteT (h2 hk _ _ _ (Same.refl H) ⟨rfl, rfl⟩)⟩
/-! ### the calls -/
def Rdy (K : PySem.W.Frag) (s : Srt) (x : Addr) (m : Mach) (cap : Nat) (ps : Pieces) (past : List Pieces) (H : Hp) : Prop := RopeAt K s H x m cap ps past ∧ m.Ok ∧ cap ≤ 20 ∧ past.length ≤ 900 ∧ Good m ps
/-- what a call that changes promises -/
def Mut (K : PySem.W.Frag) (s : Srt) (x : Addr) (m : Mach) (cap : Nat) (ps : Pieces) (past : List Pieces) (H : Hp) (Q : VK) (E : XK) : Except Err Pieces → Prop
  | .error e => Rai K H E e
  | .ok q => Chg K s x m cap ps past H Q E q
def spWord (K : PySem.W.Frag) (s : Srt) (way : Word → Way) : Sp := fun vs H Q E => ∃ x m cap ps past vw wd, vs = [.ref x, vw] ∧ Rdy K s x m cap ps past H ∧ Wd H vw wd ∧ m.Wok wd ∧ wd.length ≤ 5 ∧ Mut K s x m cap ps past H Q E (next ps past (way wd))
theorem sc_right : FnScope ["self", "word"] ["self", "word"] (defScope b_Rope_add_right) := ⟨rfl, rfl, rfl, by decide +kernel, rfl, by decide +kernel, by decide +kernel⟩
theorem sc_left : FnScope ["self", "word"] ["self", "word"] (defScope b_Rope_add_left) := ⟨rfl, rfl, rfl, by decide +kernel, rfl, by decide +kernel, by decide +kernel⟩
theorem sc_call : FnScope ["self", "word"] ["self", "word"] (defScope b_Rope_call) := ⟨rfl, rfl, rfl, by decide +kernel, rfl, by decide +kernel, by decide +kernel⟩
theorem r_right (T : Txt K mg) (s : Srt) : FnR PP w K mg base (L2.CX PP w) 8 (He.ma K (He.ga K "Rope") "add_right") (spWord K s .right) := by
  obtain ⟨fd, F⟩ := T.F_Rope_add_right
  obtain ⟨_, FN⟩ := T.F_need_word
  refine mkR F sc_right (fun _ _ _ _ _ _ us hl => match us, hl with | [_, _], _ => rfl) (fun vs H Q E h => ?_) (fun cdv A outer s' H vs Q E hr h => ?_)
  · obtain ⟨x, m, cap, ps, past, vw, wd, rfl, _⟩ := h
    rfl
  · have tk := takes_of (X := cxOf (L2.CX PP w) PP w K mg base ["self", "word"] "Rope.add_right" (defScope b_Rope_add_right) (He.ma K (He.ga K "Rope") "add_right") cdv A outer s' H E) (E := E) rfl rfl rfl rfl
    refine ⟨_, pss_cons (ps_expr (pe_callR (r_need_word T) (hr.mono (by decide)) rfl T.g_need_word FN.kp pass0 (pa_cons (pe_fld (pv 0) rfl) (pa_cons (pv 1) pa_nil))))
      (pss_one (ps_expr (pe_methR (pv 0) (T.c_ s) (T.m_change s) (r_change T s) hr (passes_call tk fun _ _ _ _ h => h) (pa_cons (pe_tup (StX.pa_star (pe_fld (pv 0) rfl) (pa_cons (pv 1) pa_nil))) pa_nil)))), ?_⟩
    obtain ⟨x, m, cap, ps, past, vw, wd, rfl, ⟨hx, ok, hcap, hlen, g⟩, hw, wok, w5, c⟩ := h
    obtain ⟨dx, vm, vk, vp, hr0⟩ := id hx
    have cd := cand_next (past := past) (y := .right wd) g ⟨wok, w5⟩ (by simp) rfl
    refine ⟨_, rfl, x, _, dx, _, _, rfl, hr0.1, T.c_ s, T.n_own_machine s, lk_machine, _, rfl, vm, vw, m, wd, rfl, hr0.2.1, hw, by omega, wok, fun v H1 s1 _ => ?_⟩
    obtain ⟨hx1, hm1, ⟨ak, xs, rfl, hak, z⟩, hp1⟩ := hr0.same s1
    have hw1 := stab_wd _ _ _ _ (TK.of s1) hw
    refine ⟨_, rfl, x, dx, _, rfl, hx1, lk_none (by decide +kernel), _, rfl, x, _, dx, _, _, rfl, hx1, T.c_ s, T.n_kept s, lk_kept, ak, xs, rfl, .inl (SqT.of hak), _, rfl, sz_line ?_, fun p hp => ?_⟩
    · rw [List.length_append, z.1]
      have := g.2.1
      show ps.length + 1 ≤ 1000
      omega
    · have s2 := same_upd (o := .tup (xs ++ [vw])) hp
      refine ⟨x, m, cap, ps, past, .ref p, ps ++ [wd], rfl, hx.same (s1.trans s2), ok, hcap, hlen, Tw.of upd_same ((z.imp fun a b r => stab_wd _ _ _ _ (TK.of s2) r).append (.cons (stab_wd _ _ _ _ (TK.of s2) hw1) .nil)), cd, Chg.at c (s1.trans s2)⟩
theorem r_call (T : Txt K mg) (s : Srt) : FnR PP w K mg base (L2.CX PP w) 9 (He.ma K (He.ga K "Rope") "__call__") (spWord K s .right) := by
  obtain ⟨fd, F⟩ := T.F_Rope_call
  refine mkR F sc_call (fun _ _ _ _ _ _ us hl => match us, hl with | [_, _], _ => rfl) (fun vs H Q E h => ?_) (fun cdv A outer s' H vs Q E hr h => ?_)
  · obtain ⟨x, m, cap, ps, past, vw, wd, rfl, _⟩ := h
    rfl
  · have tk := takes_of (X := cxOf (L2.CX PP w) PP w K mg base ["self", "word"] "Rope.__call__" (defScope b_Rope_call) (He.ma K (He.ga K "Rope") "__call__") cdv A outer s' H E) (E := E) rfl rfl rfl rfl
    refine ⟨_, pss_one (ps_expr (pe_methR (pv 0) (T.c_ s) (T.m_add_right s) (r_right T s) hr (passes_call tk fun _ _ _ _ h => h) (pa_cons (pv 1) pa_nil))), ?_⟩
    obtain ⟨x, m, cap, ps, past, vw, wd, rfl, rd, hw, wok, w5, c⟩ := h
    obtain ⟨dx, vm, vk, vp, hr0⟩ := id rd.1
    exact ⟨_, rfl, x, dx, _, rfl, hr0.1, lk_none (by decide +kernel), _, rfl, x, m, cap, ps, past, vw, wd, rfl, rd, hw, wok, w5, fun hf H' k r => c.1 hf H' k r, c.2⟩
theorem r_left (T : Txt K mg) (s : Srt) : FnR PP w K mg base (L2.CX PP w) 8 (He.ma K (He.ga K "Rope") "add_left") (spWord K s .left) := by
  obtain ⟨fd, F⟩ := T.F_Rope_add_left
  obtain ⟨_, FN⟩ := T.F_need_word
  refine mkR F sc_left (fun _ _ _ _ _ _ us hl => match us, hl with | [_, _], _ => rfl) (fun vs H Q E h => ?_) (fun cdv A outer s' H vs Q E hr h => ?_)
  · obtain ⟨x, m, cap, ps, past, vw, wd, rfl, _⟩ := h
    rfl
  · have tk := takes_of (X := cxOf (L2.CX PP w) PP w K mg base ["self", "word"] "Rope.add_left" (defScope b_Rope_add_left) (He.ma K (He.ga K "Rope") "add_left") cdv A outer s' H E) (E := E) rfl rfl rfl rfl
    refine ⟨_, pss_cons (ps_expr (pe_callR (r_need_word T) (hr.mono (by decide)) rfl T.g_need_word FN.kp pass0 (pa_cons (pe_fld (pv 0) rfl) (pa_cons (pv 1) pa_nil))))
      (pss_one (ps_expr (pe_methR (pv 0) (T.c_ s) (T.m_change s) (r_change T s) hr (passes_call tk fun _ _ _ _ h => h) (pa_cons (pe_tup (pa_cons (pv 1) (StX.pa_star (pe_fld (pv 0) rfl) pa_nil))) pa_nil)))), ?_⟩
    obtain ⟨x, m, cap, ps, past, vw, wd, rfl, ⟨hx, ok, hcap, hlen, g⟩, hw, wok, w5, c⟩ := h
    obtain ⟨dx, vm, vk, vp, hr0⟩ := id hx
    have cd := cand_next (past := past) (y := .left wd) g ⟨wok, w5⟩ (by simp) rfl
    refine ⟨_, rfl, x, _, dx, _, _, rfl, hr0.1, T.c_ s, T.n_own_machine s, lk_machine, _, rfl, vm, vw, m, wd, rfl, hr0.2.1, hw, by omega, wok, fun v H1 s1 _ => ?_⟩
    obtain ⟨hx1, hm1, ⟨ak, xs, rfl, hak, z⟩, hp1⟩ := hr0.same s1
    have hw1 := stab_wd _ _ _ _ (TK.of s1) hw
    refine ⟨_, rfl, x, dx, _, rfl, hx1, lk_none (by decide +kernel), _, rfl, _, rfl, x, _, dx, _, _, rfl, hx1, T.c_ s, T.n_kept s, lk_kept, ak, xs, rfl, .inl (SqT.of hak), sz_line ?_, fun p hp => ?_⟩
    · rw [List.append_nil, List.length_cons, z.1]
      have := g.2.1
      omega
    · rw [List.append_nil] at *
      have s2 := same_upd (o := .tup (vw :: xs)) hp
      refine ⟨x, m, cap, ps, past, .ref p, wd :: ps, rfl, hx.same (s1.trans s2), ok, hcap, hlen, Tw.of upd_same (.cons (stab_wd _ _ _ _ (TK.of s2) hw1) (z.imp fun a b r => stab_wd _ _ _ _ (TK.of s2) r)), cd, Chg.at c (s1.trans s2)⟩
end
end K68D
/-! ropes.py: drop, merge, cut, assign_pieces, undo. -/
namespace K68D
open PySem PySem.Spec PyProof.Rows L2 K68R K68K K68T K68
section
variable {w : World} {K : PySem.W.Frag} {mg : Str → Option Value} {base : Heap}
theorem slN {K' : PySem.W.Frag} {σ : L2.St} {H : Hp} {x : V} {lo : Option Int} {Q : VK} (h : rSlA K' x lo none H Q) : tNoPart σ H fun u H3 => rSlA K' x lo u H3 Q := h
theorem All2.nil_r {α : Type} {R : V → α → Prop} {xs : List V} {l : List α} (h : All2 R xs l) : All2 R (xs ++ []) l := by
  rw [List.append_nil]
  exact h
theorem lt_of_int {k n : Nat} : (k : Int) < (n : Int) ↔ k < n := by omega
def spDrop (K : PySem.W.Frag) (s : Srt) : Sp := fun vs H Q E => ∃ x m cap ps past k, vs = [.ref x, nV k] ∧ Rdy K s x m cap ps past H ∧ Mut K s x m cap ps past H Q E (next ps past (.drop k))
theorem sc_drop : FnScope ["self", "place"] ["self", "place"] (defScope b_Rope_drop) := ⟨rfl, rfl, rfl, by decide +kernel, rfl, by decide +kernel, by decide +kernel⟩
theorem r_drop (T : Txt K mg) (s : Srt) : FnR PP w K mg base (L2.CX PP w) 8 (He.ma K (He.ga K "Rope") "drop") (spDrop K s) := by
  obtain ⟨fd, F⟩ := T.F_Rope_drop
  refine mkR F sc_drop (fun _ _ _ _ _ _ us hl => match us, hl with | [_, _], _ => rfl) (fun vs H Q E h => ?_) (fun cdv A outer s' H vs Q E hr h => ?_)
  · obtain ⟨x, m, cap, ps, past, k, rfl, _⟩ := h
    rfl
  · have tk := takes_of (X := cxOf (L2.CX PP w) PP w K mg base ["self", "place"] "Rope.drop" (defScope b_Rope_drop) (He.ma K (He.ga K "Rope") "drop") cdv A outer s' H E) (E := E) rfl rfl rfl rfl
    refine ⟨_, pss_cons (ps_expr (pe_methR (pv 0) (T.c_ s) (T.m_need_place s) (r_place T) (hr.mono (by decide)) (passes_call tk fun _ _ _ _ h => h) (pa_cons (pv 1) (pa_cons (pe_callB call_len rfl T.f_len boot_len (pa_cons (pe_fld (pv 0) rfl) pa_nil)) pa_nil))))
      (pss_one (ps_expr (pe_methR (pv 0) (T.c_ s) (T.m_change s) (r_change T s) hr (passes_call tk fun _ _ _ _ h => h) (pa_cons (pe_tup (StX.pa_star (pe_slice sl_tupA (pe_fld (pv 0) rfl) po_none (po_some (pv 1)))
        (StX.pa_star (pe_slice sl_tupA (pe_fld (pv 0) rfl) (po_some (pe_op op_add (pv 1) pe_int)) po_none) pa_nil))) pa_nil)))), ?_⟩
    obtain ⟨x, m, cap, ps, past, k, rfl, ⟨hx, ok, hcap, hlen, g⟩, c⟩ := h
    obtain ⟨dx, vm, vk, vp, hr0⟩ := id hx
    obtain ⟨hx0, hm0, ⟨ak, xs, rfl, hak, z⟩, hp0⟩ := id hr0
    refine ⟨_, rfl, x, dx, _, rfl, hx0, lk_none (by decide +kernel), _, rfl, _, rfl, x, _, dx, _, _, rfl, hx0, T.c_ s, T.n_kept s, lk_kept, _, ps.length, rfl, .inr ⟨_, SqT.of hak, z.1.symm⟩, .ref x, k, ps.length, rfl, fun hk => ?_, fun hk => ?_⟩
    · have hk' : k < ps.length := by omega
      have e : next ps past (.drop k) = .ok (ps.take k ++ ps.drop (k + 1)) := by simp only [next]; rw [if_pos hk']
      rw [e] at c
      have cd := cand_next (past := past) (y := .drop k) g trivial (by simp) e
      refine ⟨_, rfl, x, dx, _, rfl, hx0, lk_none (by decide +kernel), ?_⟩
      refine ⟨_, rfl, x, _, dx, _, _, rfl, hx0, T.c_ s, T.n_kept s, lk_kept, _, rfl, k, rfl, slA hak fun b1 H1 s1 e1 => ?_⟩
      rw [cut_take] at e1
      refine ⟨b1, _, rfl, .inl (SqT.of e1), ?_⟩
      refine ⟨_, rfl, x, _, dx, _, _, rfl, s1 _ _ hx0, T.c_ s, T.n_kept s, lk_kept, _, rfl, _, _, rfl, rfl, _, rfl, slN (slA (s1 _ _ hak) fun b2 H2 s2 e2 => ?_)⟩
      have e2' : H2 b2 = some (.tup (cutV xs (some ((k + 1 : Nat) : Int)) none)) := e2
      rw [cut_drop] at e2'
      have s12 := s1.trans s2
      refine ⟨b2, _, rfl, .inl (SqT.of e2'), sz_line ?_, fun p hp => ?_⟩
      · have := g.2.1
        rw [List.append_nil, List.length_append, List.length_take, List.length_drop, z.1]
        omega
      · have s3 := same_upd (o := .tup (xs.take k ++ (xs.drop (k + 1) ++ []))) hp
        have sa := s12.trans s3
        refine ⟨x, m, cap, ps, past, .ref p, _, rfl, hx.same sa, ok, hcap, hlen, Tw.of upd_same ?_, cd, Chg.at c sa⟩
        exact ((z.take k).append (z.drop (k + 1)).nil_r).imp fun a b r => stab_wd _ _ _ _ (TK.of sa) r
    · have hk' : ¬ k < ps.length := by omega
      have e : next ps past (.drop k) = .error .place := by simp only [next]; rw [if_neg hk']
      rw [e] at c
      exact c
def spMerge (K : PySem.W.Frag) (s : Srt) : Sp := fun vs H Q E => ∃ x m cap ps past k, vs = [.ref x, nV k] ∧ Rdy K s x m cap ps past H ∧ Mut K s x m cap ps past H Q E (next ps past (.merge k))
theorem sc_merge : FnScope ["self", "place", "piece"] ["self", "place"] (defScope b_Rope_merge) := ⟨rfl, rfl, rfl, by decide +kernel, rfl, by decide +kernel, by decide +kernel⟩
theorem get_at {α : Type} {R : V → α → Prop} {xs : List V} {l : List α} {i : Nat} {d : α} (z : All2 R xs l) (h : i < l.length) : ∃ v, xs[i]? = some v ∧ R v (l.getD i d) := by
  have e : l[i]? = some (l.getD i d) := by rw [List.getD_eq_getElem?_getD, List.getElem?_eq_getElem h]; rfl
  exact z.get e
theorem piece_le {m : Mach} {ps : Pieces} {k : Nat} (g : Good m ps) (h : k < ps.length) : (ps.getD k []).length ≤ 40 := by
  have e : ps.flatten.length = _ := congrArg (fun l => l.flatten.length) (split_at h)
  simp only [List.flatten_append, List.flatten_cons, List.length_append] at e
  have := g.2.2
  omega
theorem r_merge (T : Txt K mg) (s : Srt) : FnR PP w K mg base (L2.CX PP w) 8 (He.ma K (He.ga K "Rope") "merge") (spMerge K s) := by
  obtain ⟨fd, F⟩ := T.F_Rope_merge
  refine mkR F sc_merge (fun _ _ _ _ _ _ us hl => match us, hl with | [_, _], _ => rfl) (fun vs H Q E h => ?_) (fun cdv A outer s' H vs Q E hr h => ?_)
  · obtain ⟨x, m, cap, ps, past, k, rfl, _⟩ := h
    rfl
  · have tk := takes_of (X := cxOf (L2.CX PP w) PP w K mg base ["self", "place", "piece"] "Rope.merge" (defScope b_Rope_merge) (He.ma K (He.ga K "Rope") "merge") cdv A outer s' H E) (E := E) rfl rfl rfl rfl
    refine ⟨_, pss_cons (ps_expr (pe_methR (pv 0) (T.c_ s) (T.m_need_place s) (r_place T) (hr.mono (by decide)) (passes_call tk fun _ _ _ _ h => h) (pa_cons (pv 1) (pa_cons (pe_op op_sub (pe_callB call_len rfl T.f_len boot_len (pa_cons (pe_fld (pv 0) rfl) pa_nil)) pe_int) pa_nil))))
      (pss_cons (ps_set (i := 2) sc_merge.nd rfl (Or.inl rfl) (pe_op op_catA (pe_ix ix_tup (pe_fld (pv 0) rfl) (pv 1) (fun _ _ => rfl)) (pe_ix ix_tup (pe_fld (pv 0) rfl) (pe_op op_add (pv 1) pe_int) (fun _ _ => rfl))))
      (pss_one (ps_expr (pe_methR (pv 0) (T.c_ s) (T.m_change s) (r_change T s) hr (passes_call tk fun _ _ _ _ h => h) (pa_cons (pe_tup (StX.pa_star (pe_slice sl_tupA (pe_fld (pv 0) rfl) po_none (po_some (pv 1)))
        (pa_cons (pv 2) (StX.pa_star (pe_slice sl_tupA (pe_fld (pv 0) rfl) (po_some (pe_op op_add (pv 1) pe_int)) po_none) pa_nil)))) pa_nil))))), ?_⟩
    obtain ⟨x, m, cap, ps, past, k, rfl, ⟨hx, ok, hcap, hlen, g⟩, c⟩ := h
    obtain ⟨dx, vm, vk, vp, hr0⟩ := id hx
    obtain ⟨hx0, hm0, ⟨ak, xs, rfl, hak, z⟩, hp0⟩ := id hr0
    refine ⟨_, rfl, x, dx, _, rfl, hx0, lk_none (by decide +kernel), _, rfl, _, rfl, x, _, dx, _, _, rfl, hx0, T.c_ s, T.n_kept s, lk_kept, _, ps.length, rfl, .inr ⟨_, SqT.of hak, z.1.symm⟩, _, _, rfl, rfl, .ref x, k, (ps.length : Int) - 1, rfl, fun hk => ?_, fun hk => ?_⟩
    · have hk' : k + 1 < ps.length := by omega
      have e : next ps past (.merge k) = .ok (ps.take k ++ (ps.getD k [] ++ ps.getD (k + 1) []) :: ps.drop (k + 2)) := by simp only [next]; rw [if_pos hk']
      rw [e] at c
      have cd := cand_next (past := past) (y := .merge k) g trivial (by simp) e
      obtain ⟨v1, hv1, b1, rfl, hb1⟩ := get_at (d := []) z (show k < ps.length by omega)
      obtain ⟨v2, hv2, b2, rfl, hb2⟩ := get_at (d := []) z hk'
      refine ⟨_, rfl, x, _, dx, _, _, rfl, hx0, T.c_ s, T.n_kept s, lk_kept, _, rfl, ak, _, (k : Int), _, rfl, rfl, SqT.of hak, atI_nat hv1, ?_⟩
      refine ⟨_, rfl, x, _, dx, _, _, rfl, hx0, T.c_ s, T.n_kept s, lk_kept, _, rfl, _, _, rfl, rfl, ak, _, ((k + 1 : Nat) : Int), _, rfl, rfl, SqT.of hak, atI_nat hv2, catA hb1 hb2 ?_ fun b3 H1 s1 e1 => ?_⟩
      · rw [List.length_map, List.length_map]
        have l1 := piece_le g (show k < ps.length by omega)
        have l2 := piece_le g hk'
        omega
      · rw [← List.map_append] at e1
        have hx1 := s1 _ _ hx0
        have hak1 := s1 _ _ hak
        refine ⟨_, rfl, x, dx, _, rfl, hx1, lk_none (by decide +kernel), ?_⟩
        refine ⟨_, rfl, x, _, dx, _, _, rfl, hx1, T.c_ s, T.n_kept s, lk_kept, _, rfl, k, rfl, slA hak1 fun b4 H2 s2 e2 => ?_⟩
        rw [cut_take] at e2
        refine ⟨b4, _, rfl, .inl (SqT.of e2), _, rfl, ?_⟩
        refine ⟨_, rfl, x, _, dx, _, _, rfl, s2 _ _ hx1, T.c_ s, T.n_kept s, lk_kept, _, rfl, _, _, rfl, rfl, _, rfl, slN (slA (s2 _ _ hak1) fun b5 H3 s3 e3 => ?_)⟩
        have e3' : H3 b5 = some (.tup (cutV xs (some ((k + 2 : Nat) : Int)) none)) := e3
        rw [cut_drop] at e3'
        refine ⟨b5, _, rfl, .inl (SqT.of e3'), sz_line ?_, fun p hp => ?_⟩
        · have := g.2.1
          rw [List.append_nil, List.length_append, List.length_cons, List.length_take, List.length_drop, z.1]
          omega
        · have s4 := same_upd (o := .tup (xs.take k ++ .ref b3 :: (xs.drop (k + 2) ++ []))) hp
          have sb := (s2.trans s3).trans s4
          have sa := s1.trans sb
          refine ⟨x, m, cap, ps, past, .ref p, _, rfl, hx.same sa, ok, hcap, hlen, Tw.of upd_same ?_, cd, Chg.at c sa⟩
          exact ((z.take k).imp fun a b r => stab_wd _ _ _ _ (TK.of sa) r).append (.cons (Wd.of (sb _ _ e1)) ((z.drop (k + 2)).imp fun a b r => stab_wd _ _ _ _ (TK.of sa) r).nil_r)
    · have hk' : ¬ k + 1 < ps.length := by omega
      have e : next ps past (.merge k) = .error .place := by simp only [next]; rw [if_neg hk']
      rw [e] at c
      exact c
def spCut (K : PySem.W.Frag) (s : Srt) : Sp := fun vs H Q E => ∃ x m cap ps past k n, vs = [.ref x, nV k, nV n] ∧ Rdy K s x m cap ps past H ∧ Mut K s x m cap ps past H Q E (next ps past (.cut k n))
theorem sc_cut : FnScope ["self", "place", "letters", "piece"] ["self", "place", "letters"] (defScope b_Rope_cut) := ⟨rfl, rfl, rfl, by decide +kernel, rfl, by decide +kernel, by decide +kernel⟩
theorem r_cut (T : Txt K mg) (s : Srt) : FnR PP w K mg base (L2.CX PP w) 8 (He.ma K (He.ga K "Rope") "cut") (spCut K s) := by
  obtain ⟨fd, F⟩ := T.F_Rope_cut
  obtain ⟨_, FB⟩ := T.F_is_between
  refine mkR F sc_cut (fun _ _ _ _ _ _ us hl => match us, hl with | [_, _, _], _ => rfl) (fun vs H Q E h => ?_) (fun cdv A outer s' H vs Q E hr h => ?_)
  · obtain ⟨x, m, cap, ps, past, k, n, rfl, _⟩ := h
    rfl
  · have tk := takes_of (X := cxOf (L2.CX PP w) PP w K mg base ["self", "place", "letters", "piece"] "Rope.cut" (defScope b_Rope_cut) (He.ma K (He.ga K "Rope") "cut") cdv A outer s' H E) (E := E) rfl rfl rfl rfl
    refine ⟨_, pss_cons (ps_expr (pe_methR (pv 0) (T.c_ s) (T.m_need_place s) (r_place T) (hr.mono (by decide)) (passes_call tk fun _ _ _ _ h => h) (pa_cons (pv 1) (pa_cons (pe_callB call_len rfl T.f_len boot_len (pa_cons (pe_fld (pv 0) rfl) pa_nil)) pa_nil))))
      (pss_cons (ps_set (i := 3) sc_cut.nd rfl (Or.inl rfl) (pe_ix ix_tup (pe_fld (pv 0) rfl) (pv 1) (fun _ _ => rfl)))
      (pss_cons (ps_if (pt_not (pt_val (pe_callR (r_is_between T) (hr.mono (by decide)) rfl T.g_is_between FB.kp pass0 (pa_cons (pv 2) (pa_cons pe_int (pa_cons (pe_callB call_len rfl T.f_len boot_len (pa_cons (pv 3) pa_nil)) pa_nil))))))
        (pss_one (ps_raise rfl tk (pmk_own PySem.F.excBase_ValueError T.e_NumberError.1 T.g_NumberError T.e_NumberError.2.1 (raises_own T.e_NumberError.2.2.1 T.e_NumberError.2.2.2) rfl))) pss_nil)
      (pss_one (ps_expr (pe_methR (pv 0) (T.c_ s) (T.m_change s) (r_change T s) hr (passes_call tk fun _ _ _ _ h => h) (pa_cons (pe_tup (StX.pa_star (pe_slice sl_tupA (pe_fld (pv 0) rfl) po_none (po_some (pv 1)))
        (pa_cons (pe_slice sl_tupA (pv 3) po_none (po_some (pv 2))) (pa_cons (pe_slice sl_tupA (pv 3) (po_some (pv 2)) po_none) (StX.pa_star (pe_slice sl_tupA (pe_fld (pv 0) rfl) (po_some (pe_op op_add (pv 1) pe_int)) po_none) pa_nil))))) pa_nil)))))), ?_⟩
    obtain ⟨x, m, cap, ps, past, k, n, rfl, ⟨hx, ok, hcap, hlen, g⟩, c⟩ := h
    obtain ⟨dx, vm, vk, vp, hr0⟩ := id hx
    obtain ⟨hx0, hm0, ⟨ak, xs, rfl, hak, z⟩, hp0⟩ := id hr0
    refine ⟨_, rfl, x, dx, _, rfl, hx0, lk_none (by decide +kernel), _, rfl, _, rfl, x, _, dx, _, _, rfl, hx0, T.c_ s, T.n_kept s, lk_kept, _, ps.length, rfl, .inr ⟨_, SqT.of hak, z.1.symm⟩, .ref x, k, ps.length, rfl, fun hk => ?_, fun hk => ?_⟩
    · have hk' : k < ps.length := by omega
      obtain ⟨v1, hv1, b1, rfl, hb1⟩ := get_at (d := []) z hk'
      refine ⟨_, rfl, x, _, dx, _, _, rfl, hx0, T.c_ s, T.n_kept s, lk_kept, _, rfl, ak, _, (k : Int), _, rfl, rfl, SqT.of hak, atI_nat hv1, ?_⟩
      refine ⟨_, rfl, _, rfl, _, (ps.getD k []).length, rfl, .inr ⟨_, SqT.of hb1, by rw [List.length_map]⟩, (n : Int), 0, ((ps.getD k []).length : Int), rfl, ?_⟩
      rw [decide_eq_true (by omega : (0 : Int) ≤ (n : Int))]
      by_cases hn : n ≤ (ps.getD k []).length
      · rw [decide_eq_true (by omega : (n : Int) ≤ ((ps.getD k []).length : Int))]
        have e : next ps past (.cut k n) = .ok (ps.take k ++ (ps.getD k []).take n :: (ps.getD k []).drop n :: ps.drop (k + 1)) := by simp only [next]; rw [if_pos hk', if_pos hn]
        rw [e] at c
        have cd := cand_next (past := past) (y := .cut k n) g trivial (by simp) e
        refine ⟨_, rfl, iteF ?_⟩
        refine ⟨_, rfl, x, dx, _, rfl, hx0, lk_none (by decide +kernel), ?_⟩
        refine ⟨_, rfl, x, _, dx, _, _, rfl, hx0, T.c_ s, T.n_kept s, lk_kept, _, rfl, k, rfl, slA hak fun b4 H2 s2 e2 => ?_⟩
        rw [cut_take] at e2
        refine ⟨b4, _, rfl, .inl (SqT.of e2), _, rfl, _, rfl, n, rfl, slA (s2 _ _ hb1) fun b5 H3 s3 e3 => ?_⟩
        rw [cut_take] at e3
        refine ⟨_, rfl, _, rfl, n, rfl, slN (slA (s3 _ _ (s2 _ _ hb1)) fun b6 H4 s4 e4 => ?_)⟩
        rw [cut_drop] at e4
        have s34 := (s2.trans s3).trans s4
        refine ⟨_, rfl, x, _, dx, _, _, rfl, s34 _ _ hx0, T.c_ s, T.n_kept s, lk_kept, _, rfl, _, _, rfl, rfl, _, rfl, slN (slA (s34 _ _ hak) fun b7 H5 s5 e5 => ?_)⟩
        have e5' : H5 b7 = some (.tup (cutV xs (some ((k + 1 : Nat) : Int)) none)) := e5
        rw [cut_drop] at e5'
        refine ⟨b7, _, rfl, .inl (SqT.of e5'), sz_line ?_, fun p hp => ?_⟩
        · have := g.2.1
          rw [List.append_nil, List.length_append, List.length_cons, List.length_cons, List.length_take, List.length_drop, z.1]
          omega
        · have s6 := same_upd (o := .tup (xs.take k ++ .ref b5 :: .ref b6 :: (xs.drop (k + 1) ++ []))) hp
          have sa := (s34.trans s5).trans s6
          refine ⟨x, m, cap, ps, past, .ref p, _, rfl, hx.same sa, ok, hcap, hlen, Tw.of upd_same ?_, cd, Chg.at c sa⟩
          refine ((z.take k).imp fun a b r => stab_wd _ _ _ _ (TK.of sa) r).append (.cons (Wd.of ?_) (.cons (Wd.of ?_) ((z.drop (k + 1)).imp fun a b r => stab_wd _ _ _ _ (TK.of sa) r).nil_r))
          · rw [List.map_take]
            exact ((s4.trans s5).trans s6) _ _ e3
          · rw [List.map_drop]
            exact (s5.trans s6) _ _ e4
      · rw [decide_eq_false (by omega : ¬ (n : Int) ≤ ((ps.getD k []).length : Int))]
        have e : next ps past (.cut k n) = .error .number := by simp only [next]; rw [if_pos hk', if_neg hn]
        rw [e] at c
        exact ⟨_, rfl, iteT (c _ _ _ (Same.refl H) ⟨rfl, rfl⟩)⟩
    · have hk' : ¬ k < ps.length := by omega
      have e : next ps past (.cut k n) = .error .place := by simp only [next]; rw [if_neg hk']
      rw [e] at c
      exact c
end
end K68D
/-! ropes.py: assign_pieces, undo, len, repr, the properties. -/
namespace K68D
open PySem PySem.Spec PyProof.Rows L2 K68R K68K K68T K68
section
variable {w : World} {K : PySem.W.Frag} {mg : Str → Option Value} {base : Heap}
/-! ### the data as they are compared -/
def dN (n : Nat) : PyData := .int (n : Int)
def dW (l : Word) : PyData := .tuple (l.map dN)
def dP (l : Pieces) : PyData := .tuple (l.map dW)
def dA (l : List Pieces) : PyData := .tuple (l.map dP)
theorem canAll {α : Type} {f : α → PyData} (h : ∀ x, (f x).canLay0 = true) : ∀ l : List α, PyData.canLayAll0 (l.map f) = true
  | [] => rfl
  | x :: l => by
    rw [List.map_cons]
    show ((f x).canLay0 && PyData.canLayAll0 (l.map f)) = true
    rw [h x, canAll h l]
    rfl
theorem depAll {α : Type} {f : α → PyData} {n : Nat} (h : ∀ x, (f x).depth ≤ n) : ∀ l : List α, PyData.depthAll (l.map f) ≤ n
  | [] => Nat.zero_le _
  | x :: l => by
    rw [List.map_cons]
    show max (f x).depth (PyData.depthAll (l.map f)) ≤ n
    exact Nat.max_le.mpr ⟨h x, depAll h l⟩
theorem can_int (n : Nat) : (dN n).canLay0 = true := rfl
theorem dep_int (n : Nat) : (dN n).depth ≤ 0 := Nat.le_refl 0
theorem can_dW (l : Word) : (dW l).canLay0 = true := canAll can_int l
theorem can_dP (l : Pieces) : (dP l).canLay0 = true := canAll can_dW l
theorem can_dA (l : List Pieces) : (dA l).canLay0 = true := canAll can_dP l
theorem dep_dW (l : Word) : (dW l).depth ≤ 1 := Nat.succ_le_succ (depAll dep_int l)
theorem dep_dP (l : Pieces) : (dP l).depth ≤ 2 := Nat.succ_le_succ (depAll dep_dW l)
theorem dep_dA (l : List Pieces) : (dA l).depth ≤ 3 := Nat.succ_le_succ (depAll dep_dP l)
theorem shaped_dA (l : List Pieces) : SeqAt.shaped (dA l) = true := by
  unfold SeqAt.shaped
  rw [can_dA l, decide_eq_true (Nat.le_trans (dep_dA l) (by decide))]
  rfl
theorem dp_all {α : Type} {R : V → α → Prop} {H : Hp} {f : α → PyData} (h : ∀ v y, R v y → Dp K H v (f y)) : ∀ {xs : List V} {l : List α}, All2 R xs l → DpAll K H xs (l.map f)
  | [], [], _ => .nil
  | [], _ :: _, z => absurd z.1 (by simp)
  | _ :: _, [], z => absurd z.1 (by simp)
  | x :: xs, y :: l, z => .cons (h x y (z.2 0 x y rfl rfl)) (dp_all h (All2.drop 1 z))
theorem dp_wd {H : Hp} {v : V} {l : Word} (h : Wd H v l) : Dp K H v (dW l) := by
  obtain ⟨a, rfl, ha⟩ := h
  exact .tup (SqT.of ha) (dp_all (R := fun v n => v = nV n) (fun v n e => by rw [e]; exact .int _) all2_map)
theorem dp_tw {α : Type} {R : Rl α} {H : Hp} {f : α → PyData} (h : ∀ v y, R H v y → Dp K H v (f y)) {v : V} {l : List α} (t : Tw R H v l) : Dp K H v (.tuple (l.map f)) := by
  obtain ⟨a, xs, rfl, ha, z⟩ := t
  exact .tup (SqT.of ha) (dp_all h z)
theorem dp_ps {H : Hp} {v : V} {l : Pieces} (h : Ps H v l) : Dp K H v (dP l) := dp_tw (fun _ _ => dp_wd) h
theorem dp_pa {H : Hp} {v : V} {l : List Pieces} (h : Pa H v l) : Dp K H v (dA l) := dp_tw (fun _ _ => dp_ps) h
/-! ### undo -/
def spUndo (K : PySem.W.Frag) (s : Srt) : Sp := fun vs H Q E => ∃ x m cap ps past, vs = [.ref x] ∧ RopeAt K s H x m cap ps past ∧ past.length ≤ 900 ∧ (past.getLast? = none → Rai K H E .nothing) ∧
  ∀ q, past.getLast? = some q → ∀ H', KeepX x H H' → RopeAt K s H' x m cap q past.dropLast → Q .non H'
theorem sc_undo : FnScope ["self", "earlier", "last"] ["self"] (defScope b_Rope_undo) := ⟨rfl, rfl, rfl, by decide +kernel, rfl, by decide +kernel, by decide +kernel⟩
theorem r_undo (T : Txt K mg) (s : Srt) : ∃ fd, FnOk PP w K mg base (L2.CX PP w) 1 (He.ma K (He.ga K "Rope") "undo") fd ["self"] (spUndo K s) ∧ Binds K fd ["self"] [] := by
  obtain ⟨fd, F⟩ := T.F_Rope_undo
  refine ⟨fd, mkO F sc_undo (fun _ _ _ _ _ _ us hl => match us, hl with | [_], _ => rfl) (fun vs H Q E h => ?_) (fun cdv A outer s' H vs Q E hr h => ?_)⟩
  · obtain ⟨x, m, cap, ps, past, rfl, _⟩ := h
    rfl
  · have tk := takes_of (X := cxOf (L2.CX PP w) PP w K mg base ["self", "earlier", "last"] "Rope.undo" (defScope b_Rope_undo) (He.ma K (He.ga K "Rope") "undo") cdv A outer s' H E) (E := E) rfl rfl rfl rfl
    refine ⟨_, pss_cons (ps_if (pt_cmpR (op_eqD hr.units) (pe_fld (pv 0) rfl) (pe_tup pa_nil) (nomark _))
        (pss_one (ps_raise rfl tk (pmk_own PySem.F.excBase_ValueError T.e_NothingDone.1 T.g_NothingDone T.e_NothingDone.2.1 (raises_own T.e_NothingDone.2.2.1 T.e_NothingDone.2.2.2) rfl))) pss_nil)
      (pss_cons (ps_asg (pe_fld (pv 0) rfl) (pg_starLast (i := 1) (j := 2) rfl sc_undo.nd rfl rfl rfl rfl))
      (pss_cons (ps_fld (pv 0) (pe_callTy call_tuple_of rfl T.f_tuple (by decide +kernel) (pa_cons (pv 1) pa_nil)) rfl)
      (pss_one (ps_fld (pv 0) (pv 2) rfl)))), ?_⟩
    obtain ⟨x, m, cap, ps, past, rfl, ⟨dx, vm, vk, vp, hr0⟩, hlen, h1, h2⟩ := h
    obtain ⟨hx0, hm0, hk0, hp0⟩ := id hr0
    refine ⟨_, rfl, x, _, dx, _, _, rfl, hx0, T.c_ s, T.n_past s, lk_past, show 0 ≤ sizeLine by decide, fun p hp => ?_⟩
    have s1 := same_upd (o := .tup []) hp
    have hx1 := s1 _ _ hx0
    have hp1 := stab_pa _ _ _ _ (TK.of s1) hp0
    refine ⟨dA past, .tuple [], dp_pa hp1, .tup (SqT.of upd_same) .nil, shaped_dA past, by decide, _, rfl, ?_⟩
    cases e : past.getLast? with
    | none =>
      have en : past = [] := List.getLast?_eq_none_iff.mp e
      subst en
      exact iteT (h1 rfl _ _ _ s1 ⟨rfl, rfl⟩)
    | some q =>
      have ed : past = past.dropLast ++ [q] := by
        have hn : past ≠ [] := fun z => by rw [z] at e; cases e
        have := List.dropLast_concat_getLast hn
        rw [List.getLast?_eq_some_getLast hn] at e
        rw [← Option.some.inj e, this]
      have hne : PyData.eqv (dA past) (.tuple []) = false := by
        rw [ed]
        unfold dA
        rw [List.map_append]
        cases past.dropLast with
        | nil => rfl
        | cons a l => rfl
      rw [hne]
      refine iteF ?_
      obtain ⟨ap, xs, rfl, hap, z⟩ := hp1
      have hxs : xs = xs.dropLast ++ [xs.getLast (fun z0 => by rw [z0, ed] at z; exact absurd z.1 (by simp))] := (List.dropLast_concat_getLast _).symm
      generalize xs.getLast (fun z0 => by rw [z0, ed] at z; exact absurd z.1 (by simp)) = vq at hxs
      have hl : xs.dropLast.length = past.dropLast.length := by rw [List.length_dropLast, List.length_dropLast, z.1]
      have zq : Ps (upd H p (.tup [])) vq q := by
        refine z.2 xs.dropLast.length vq q ?_ ?_
        · rw [hxs, List.getElem?_append_right (by simp)]
          simp
        · rw [hl, ed, List.getElem?_append_right (by simp)]
          simp
      have zd : All2 (Ps (upd H p (.tup []))) xs.dropLast past.dropLast := by
        have := z.take past.dropLast.length
        rwa [List.length_dropLast, ← List.dropLast_eq_take, ← z.1, ← List.dropLast_eq_take] at this
      refine ⟨_, rfl, x, _, dx, _, _, rfl, hx1, T.c_ s, T.n_past s, lk_past, ap, xs.dropLast, vq, rfl, (by rw [← hxs]; exact SqT.of hap), (by rw [hl, List.length_dropLast]; omega), fun D hD => ?_⟩
      have s2 := same_upd (o := .lst xs.dropLast) hD
      refine ⟨_, rfl, D, xs.dropLast, rfl, .inl ⟨SqL.of upd_same, fun b hb => ?_⟩⟩
      have s3 := same_upd (o := .tup xs.dropLast) hb
      have s23 := s2.trans s3
      have hx3 := s23 _ _ hx1
      refine ⟨_, rfl, x, _, dx, _, rfl, hx3, T.c_ s, T.n_past s, flds_len, ?_⟩
      refine ⟨_, rfl, _, rfl, x, _, dx, _, rfl, upd_same, T.c_ s, T.n_kept s, (by rw [put_past]; exact flds_len), ?_⟩
      rw [put_past, put_kept]
      have nx : x ≠ b := ne_of_none (s2 _ _ hx1) hb
      have kx : KeepX x (upd (upd (upd H p (.tup [])) D (.lst xs.dropLast)) b (.tup xs.dropLast)) (upd (upd (upd (upd (upd H p (.tup [])) D (.lst xs.dropLast)) b (.tup xs.dropLast)) x (.ins (He.ga K (cname s)) dx (flds s cap vm vk (.ref b)))) x (.ins (He.ga K (cname s)) dx (flds s cap vm vq (.ref b)))) := keepX_upd.upd'
      have t := kx.tk (new_notup hx3)
      have sa := s1.trans s23
      have ts : TK (upd H p (.tup [])) _ := (TK.of s23).trans t
      refine h2 q e _ ((KeepX.of sa).trans kx) ⟨dx, vm, vq, .ref b, upd_same, stab_mc _ _ _ _ t (stab_mc _ _ _ _ (TK.of sa) hm0), stab_ps _ _ _ _ ts zq, Tw.of (xs := xs.dropLast) ?_ (zd.imp fun a b r => stab_ps _ _ _ _ ts r)⟩
      rw [upd_ne (Ne.symm nx), upd_ne (Ne.symm nx), upd_same]
end
end K68D
/-! ropes.py: assign_pieces, len, repr, the properties. -/
namespace K68D
open PySem PySem.Spec PyProof.Rows L2 K68R K68K K68T K68
section
variable {w : World} {K : PySem.W.Frag} {mg : Str → Option Value} {base : Heap}
def spAssign (K : PySem.W.Frag) (s : Srt) : Sp := fun vs H Q E => ∃ x m cap ps past vq q, vs = [.ref x, vq] ∧ Rdy K s x m cap ps past H ∧ Ps H vq q ∧ Cand m q ∧ Chg K s x m cap ps past H Q E q
theorem sc_assign : FnScope ["self", "pieces", "piece"] ["self", "pieces"] (defScope b_Rope_assign_pieces) := ⟨rfl, rfl, rfl, by decide +kernel, rfl, by decide +kernel, by decide +kernel⟩
theorem r_assign (T : Txt K mg) (s : Srt) : FnR PP w K mg base (L2.CX PP w) 8 (He.ma K (He.ga K "Rope") "assign_pieces") (spAssign K s) := by
  obtain ⟨fd, F⟩ := T.F_Rope_assign_pieces
  obtain ⟨_, FW⟩ := T.F_is_word
  refine mkR F sc_assign (fun _ _ _ _ _ _ us hl => match us, hl with | [_, _], _ => rfl) (fun vs H Q E h => ?_) (fun cdv A outer s' H vs Q E hr h => ?_)
  · obtain ⟨x, m, cap, ps, past, vq, q, rfl, _⟩ := h
    rfl
  · have tk := takes_of (X := cxOf (L2.CX PP w) PP w K mg base ["self", "pieces", "piece"] "Rope.assign_pieces" (defScope b_Rope_assign_pieces) (He.ma K (He.ga K "Rope") "assign_pieces") cdv A outer s' H E) (E := E) rfl rfl rfl rfl
    refine ⟨_, pss_cons (ps_if (PW.pt (pw_or (pt_not (pt_val (pe_callB call_isi rfl T.f_isinstance (by decide +kernel) (pa_cons (pv 1) (pa_cons (pe_bltn (v := .ty "tuple") rfl T.f_tuple (by decide +kernel) rfl) pa_nil)))))
        (pw_or1 (pt_not (pt_val (pe_callB (cr_all rfl) rfl T.f_all (by decide +kernel) (pa_cons (pe_lc (own := [("piece", 2)]) (g := gName 2) (tt := tYes) rfl sc_assign.nd (pi_tup (pv 1)) (blkOk_by (N := ["self", "pieces", "piece"]) (sc := defScope b_Rope_assign_pieces) (by decide +kernel))
          (fun _ _ _ _ _ => pg_name (i := 2) sc_assign.nd rfl (Or.inl rfl)) (fun _ _ _ _ _ => pts_nil) (fun _ _ _ _ _ => pe_callR (r_is_word T) (hr.mono (by decide)) rfl T.g_is_word FW.kp pass0 (pa_cons (pe_ix (ixT K) (fldK K (pv 0)) pe_int (fun _ _ => rfl)) (pa_cons (pv 2) pa_nil)))) pa_nil))))))) pss_never pss_nil)
      (pss_one (ps_expr (pe_methR (pv 0) (T.c_ s) (T.m_change s) (r_change T s) hr (passes_call tk fun _ _ _ _ h => h) (pa_cons (pv 1) pa_nil)))), ?_⟩
    obtain ⟨x, m, cap, ps, past, vq, q, rfl, ⟨hx, ok, hcap, hlen, g⟩, hq, cd, c⟩ := h
    obtain ⟨dx, vm, vk, vp, hr0⟩ := id hx
    obtain ⟨aq, xs, rfl, hqa, z⟩ := id hq
    have h30 := cd.2.1
    refine ⟨_, rfl, _, _, _, _, true, rfl, .ty "tuple", .base (.tup hqa), kit_ty (by decide +kernel), _, rfl, iteF ?_⟩
    refine ⟨_, rfl, aq, rfl, ⟨_, SqT.of hqa⟩, fun D hD => lcT (k := 2) (fun i H v => v = .bl true) (fun _ _ _ _ _ h => h) hD (SqT.of hqa) (by rw [z.1]; omega) (fun x => rfl) (fun i y H1 Q1 hy s1 r1 => ?_) fun H1 ys s1 hys hl2 hv => ?_⟩
    · obtain ⟨pc, hpc, hw⟩ := z.getV hy
      obtain ⟨hx1, ⟨am, a2, a3, rfl, ham, _⟩, _⟩ := hr0.same s1
      have hmem : pc ∈ q := List.mem_of_getElem? hpc
      have hle : pc.length ≤ 60 := by
        have hk := (List.getElem?_eq_some_iff.mp hpc).1
        have e : q.flatten.length = _ := congrArg (fun l => l.flatten.length) (split_at hk)
        rw [getD_of hpc] at e
        simp only [List.flatten_append, List.flatten_cons, List.length_append] at e
        have := cd.2.2
        omega
      exact ⟨_, rfl, x, _, dx, _, _, rfl, hx1, T.c_ s, T.n_own_machine s, lk_machine, am, _, _, _, rfl, rfl, SqT.of ham, rfl, _, rfl, y, pc, m.letters, rfl, stab_wd _ _ _ _ (TK.of s1) hw, by omega, cd.1 _ hmem, r1⟩
    · refine ⟨D, List.replicate ys.length true, rfl, ?_, ?_⟩
      · rw [← all_true hv]
        exact SqL.of hys
      · rw [all_rep]
        refine ⟨_, rfl, iteF ?_⟩
        exact ⟨_, rfl, x, dx, _, rfl, s1 _ _ hr0.1, lk_none (by decide +kernel), _, rfl, x, m, cap, ps, past, _, q, rfl, hx.same s1, ok, hcap, hlen, stab_ps _ _ _ _ (TK.of s1) hq, cd, c.at s1⟩
/-! ### len, repr -/
def spLen (K : PySem.W.Frag) (s : Srt) : Sp := fun vs H Q _ => ∃ x m cap ps past, vs = [.ref x] ∧ RopeAt K s H x m cap ps past ∧ Q (nV ps.length) H
theorem sc_len : FnScope ["self"] ["self"] (defScope b_Rope_len) := ⟨rfl, rfl, rfl, by decide +kernel, rfl, by decide +kernel, by decide +kernel⟩
theorem r_len (T : Txt K mg) (s : Srt) : FnR PP w K mg base CX0 1 (He.ma K (He.ga K "Rope") "__len__") (spLen K s) := by
  obtain ⟨fd, F⟩ := T.F_Rope_len
  refine mkR F sc_len (fun _ _ _ _ _ _ us hl => match us, hl with | [_], _ => rfl) (fun vs H Q E h => ?_) (fun cdv A outer s' H vs Q E hr h => ?_)
  · obtain ⟨x, m, cap, ps, past, rfl, _⟩ := h
    rfl
  · refine ⟨_, PSs.nox (pss_one (ps_ret (pe_callB call_len rfl T.f_len boot_len (pa_cons (pe_fld (pv 0) rfl) pa_nil)))), ?_⟩
    obtain ⟨x, m, cap, ps, past, rfl, ⟨dx, vm, vk, vp, hx0, hm0, ⟨ak, xs, rfl, hak, z⟩, hp0⟩, k⟩ := h
    exact ⟨_, rfl, x, _, dx, _, _, rfl, hx0, T.c_ s, T.n_kept s, lk_kept, _, ps.length, rfl, .inr ⟨_, SqT.of hak, z.1.symm⟩, k⟩
/-- the text of a rope -/
def ropeTxt (s : Srt) (ps : Pieces) : Str := cname s ++ "(" ++ toString (ps.length : Int) ++ " pieces, " ++ toString (ps.flatten.length : Int) ++ " letters)"
def spRepr (K : PySem.W.Frag) (s : Srt) : Sp := fun vs H Q _ => ∃ x m cap ps past, vs = [.ref x] ∧ RopeAt K s H x m cap ps past ∧ Good m ps ∧ Res H Q fun _ v => v = .str (ropeTxt s ps)
theorem sc_repr : FnScope ["self"] ["self"] (defScope b_Rope_repr) := ⟨rfl, rfl, rfl, by decide +kernel, rfl, by decide +kernel, by decide +kernel⟩
theorem empty_app (x : Str) : Str.empty ++ x = x := Str.empty_append x
theorem cname_len (s : Srt) : (cname s).length ≤ 11 := by cases s <;> decide +kernel
theorem r_repr (T : Txt K mg) (s : Srt) : FnR PP w K mg base CX0 2 (He.ma K (He.ga K "Rope") "__repr__") (spRepr K s) := by
  obtain ⟨fd, F⟩ := T.F_Rope_repr
  obtain ⟨_, FW⟩ := T.F_whole_of
  obtain ⟨un, cn⟩ := T.name_ s
  refine mkR F sc_repr (fun _ _ _ _ _ _ us hl => match us, hl with | [_], _ => rfl) (fun vs H Q E h => ?_) (fun cdv A outer s' H vs Q E hr h => ?_)
  · obtain ⟨x, m, cap, ps, past, rfl, _⟩ := h
    rfl
  · refine ⟨_, PSs.nox (pss_one (ps_ret (pe_joined (.cons (pe_fmt (pe_con (pv 0) rfl)) (.cons pe_str (.cons (pe_fmt (pe_callB call_len rfl T.f_len boot_len (pa_cons (pe_fld (pv 0) rfl) pa_nil))) (.cons pe_str
      (.cons (pe_fmt (pe_callB call_len rfl T.f_len boot_len (pa_cons (pe_callR (r_whole_of T) hr rfl T.g_whole_of FW.kp pass0 (pa_cons (pe_fld (pv 0) rfl) pa_nil)) pa_nil))) (.cons pe_str .nil))))))))), ?_⟩
    obtain ⟨x, m, cap, ps, past, rfl, hx, g, r⟩ := h
    obtain ⟨dx, vm, vk, vp, hr0⟩ := id hx
    obtain ⟨hx0, hm0, hk0, hp0⟩ := id hr0
    obtain ⟨ak, xs, rfl, hak, z⟩ := id hk0
    have g1 := g.2.1
    have g2 := g.2.2
    have l1 := cname_len s
    have l2 := txt_len (show ps.length ≤ 100 by omega)
    have l3 := txt_len (show ps.flatten.length ≤ 100 by omega)
    have t1 : ("(" : Str).length = 1 := by decide +kernel
    have t2 : (" pieces, " : Str).length = 9 := by decide +kernel
    have t3 : (" letters)" : Str).length = 9 := by decide +kernel
    refine ⟨_, rfl, x, _, dx, _, _, _, rfl, hx0, T.c_ s, cn, lk_none (by decide +kernel), .inl ⟨cname s, rfl, sz_line (by omega), _, rfl, ?_, ?_⟩⟩
    · rw [empty_app]
      exact sz_line (by omega)
    rw [empty_app]
    refine ⟨_, rfl, sz_line (by rw [Str.length_append]; omega), ?_⟩
    refine ⟨_, rfl, x, _, dx, _, _, rfl, hx0, T.c_ s, T.n_kept s, lk_kept, _, ps.length, rfl, .inr ⟨_, SqT.of hak, z.1.symm⟩, .inr ⟨(ps.length : Int), rfl, small_txt (by omega), _, rfl, sz_line (by rw [Str.length_append, Str.length_append]; omega), ?_⟩⟩
    refine ⟨_, rfl, sz_line (by rw [Str.length_append, Str.length_append, Str.length_append]; omega), ?_⟩
    refine ⟨_, rfl, x, _, dx, _, _, rfl, hx0, T.c_ s, T.n_kept s, lk_kept, _, ps, rfl, hk0, by omega, by omega, fun v H1 s1 h1 => ?_⟩
    obtain ⟨b, rfl, hb⟩ := h1
    refine ⟨_, ps.flatten.length, rfl, .inr ⟨_, SqT.of hb, by rw [List.length_map]⟩, .inr ⟨(ps.flatten.length : Int), rfl, small_txt (by omega), _, rfl, sz_line (by rw [Str.length_append, Str.length_append, Str.length_append, Str.length_append]; omega), ?_⟩⟩
    exact ⟨_, rfl, sz_line (by rw [Str.length_append, Str.length_append, Str.length_append, Str.length_append, Str.length_append]; omega), r _ _ s1 rfl⟩
/-! ### the properties -/
theorem sc_gm : FnScope ["self"] ["self"] (defScope b_get_machine) := ⟨rfl, rfl, rfl, by decide +kernel, rfl, by decide +kernel, by decide +kernel⟩
theorem sc_gp : FnScope ["self"] ["self"] (defScope b_get_pieces) := ⟨rfl, rfl, rfl, by decide +kernel, rfl, by decide +kernel, by decide +kernel⟩
theorem sc_gw : FnScope ["self"] ["self"] (defScope b_get_word) := ⟨rfl, rfl, rfl, by decide +kernel, rfl, by decide +kernel, by decide +kernel⟩
theorem sc_gr : FnScope ["self"] ["self"] (defScope b_get_result) := ⟨rfl, rfl, rfl, by decide +kernel, rfl, by decide +kernel, by decide +kernel⟩
theorem sc_gs : FnScope ["self", "piece"] ["self"] (defScope b_get_results) := ⟨rfl, rfl, rfl, by decide +kernel, rfl, by decide +kernel, by decide +kernel⟩
theorem sc_gc : FnScope ["self"] ["self"] (defScope b_get_changes) := ⟨rfl, rfl, rfl, by decide +kernel, rfl, by decide +kernel, by decide +kernel⟩
/-- a property: what it says of the rope -/
def spGet (K : PySem.W.Frag) (s : Srt) (P : Hp → V → Mach → Pieces → List Pieces → Prop) : Sp := fun vs H Q _ => ∃ x m cap ps past, vs = [.ref x] ∧ RopeAt K s H x m cap ps past ∧ m.Ok ∧ Good m ps ∧ Res H Q fun H' v => P H' v m ps past
theorem r_gm (T : Txt K mg) (s : Srt) : ∃ fd, FnOk PP w K mg base CX0 6 (getAt "Rope" "machine" K) fd ["self"] (spGet K s fun H v m _ _ => Mc H v m) ∧ Binds K fd ["self"] [] := by
  obtain ⟨fd, F⟩ := T.F_get_machine
  refine ⟨fd, mkO F sc_gm (fun _ _ _ _ _ _ us hl => match us, hl with | [_], _ => rfl) (fun vs H Q E h => ?_) (fun cdv A outer s' H vs Q E hr h => ?_)⟩
  · obtain ⟨x, m, cap, ps, past, rfl, _⟩ := h
    rfl
  · refine ⟨_, PSs.nox (pss_one (ps_ret (pe_fld (pv 0) rfl))), ?_⟩
    obtain ⟨x, m, cap, ps, past, rfl, ⟨dx, vm, vk, vp, hx0, hm0, hk0, hp0⟩, ok, g, r⟩ := h
    exact ⟨_, rfl, x, _, dx, _, _, rfl, hx0, T.c_ s, T.n_own_machine s, lk_machine, r.now hm0⟩
theorem r_gp (T : Txt K mg) (s : Srt) : ∃ fd, FnOk PP w K mg base CX0 6 (getAt "Rope" "pieces" K) fd ["self"] (spGet K s fun H v _ ps _ => Ps H v ps) ∧ Binds K fd ["self"] [] := by
  obtain ⟨fd, F⟩ := T.F_get_pieces
  refine ⟨fd, mkO F sc_gp (fun _ _ _ _ _ _ us hl => match us, hl with | [_], _ => rfl) (fun vs H Q E h => ?_) (fun cdv A outer s' H vs Q E hr h => ?_)⟩
  · obtain ⟨x, m, cap, ps, past, rfl, _⟩ := h
    rfl
  · refine ⟨_, PSs.nox (pss_one (ps_ret (pe_fld (pv 0) rfl))), ?_⟩
    obtain ⟨x, m, cap, ps, past, rfl, ⟨dx, vm, vk, vp, hx0, hm0, hk0, hp0⟩, ok, g, r⟩ := h
    exact ⟨_, rfl, x, _, dx, _, _, rfl, hx0, T.c_ s, T.n_kept s, lk_kept, r.now hk0⟩
theorem r_gc (T : Txt K mg) (s : Srt) : ∃ fd, FnOk PP w K mg base CX0 6 (getAt "Rope" "changes" K) fd ["self"] (spGet K s fun _ v _ _ past => v = nV past.length) ∧ Binds K fd ["self"] [] := by
  obtain ⟨fd, F⟩ := T.F_get_changes
  refine ⟨fd, mkO F sc_gc (fun _ _ _ _ _ _ us hl => match us, hl with | [_], _ => rfl) (fun vs H Q E h => ?_) (fun cdv A outer s' H vs Q E hr h => ?_)⟩
  · obtain ⟨x, m, cap, ps, past, rfl, _⟩ := h
    rfl
  · refine ⟨_, PSs.nox (pss_one (ps_ret (pe_callB call_len rfl T.f_len boot_len (pa_cons (pe_fld (pv 0) rfl) pa_nil)))), ?_⟩
    obtain ⟨x, m, cap, ps, past, rfl, ⟨dx, vm, vk, vp, hx0, hm0, hk0, ⟨ak, xs, rfl, hak, z⟩⟩, ok, g, r⟩ := h
    exact ⟨_, rfl, x, _, dx, _, _, rfl, hx0, T.c_ s, T.n_past s, lk_past, _, past.length, rfl, .inr ⟨_, SqT.of hak, z.1.symm⟩, r.now rfl⟩
theorem r_gw (T : Txt K mg) (s : Srt) : ∃ fd, FnOk PP w K mg base CX0 6 (getAt "Rope" "word" K) fd ["self"] (spGet K s fun H v _ ps _ => Wd H v ps.flatten) ∧ Binds K fd ["self"] [] := by
  obtain ⟨fd, F⟩ := T.F_get_word
  obtain ⟨_, FW⟩ := T.F_whole_of
  refine ⟨fd, mkO F sc_gw (fun _ _ _ _ _ _ us hl => match us, hl with | [_], _ => rfl) (fun vs H Q E h => ?_) (fun cdv A outer s' H vs Q E hr h => ?_)⟩
  · obtain ⟨x, m, cap, ps, past, rfl, _⟩ := h
    rfl
  · refine ⟨_, PSs.nox (pss_one (ps_ret (pe_callR (r_whole_of T) (hr.mono (by decide)) rfl T.g_whole_of FW.kp pass0 (pa_cons (pe_fld (pv 0) rfl) pa_nil)))), ?_⟩
    obtain ⟨x, m, cap, ps, past, rfl, ⟨dx, vm, vk, vp, hx0, hm0, hk0, hp0⟩, ok, g, r⟩ := h
    have g1 := g.2.1
    have g2 := g.2.2
    exact ⟨_, rfl, x, _, dx, _, _, rfl, hx0, T.c_ s, T.n_kept s, lk_kept, _, ps, rfl, hk0, by omega, by omega, r⟩
theorem good_whole {m : Mach} {ps : Pieces} (g : Good m ps) : m.Wok ps.flatten := fun x hx => by
  obtain ⟨p, hp, hxp⟩ := List.mem_flatten.mp hx
  exact g.1 p hp x hxp
theorem r_gr (T : Txt K mg) (s : Srt) : ∃ fd, FnOk PP w K mg base CX0 6 (getAt "Rope" "result" K) fd ["self"] (spGet K s fun _ v m ps _ => v = nV (m.read ps.flatten)) ∧ Binds K fd ["self"] [] := by
  obtain ⟨fd, F⟩ := T.F_get_result
  obtain ⟨_, FW⟩ := T.F_whole_of
  obtain ⟨_, FO⟩ := T.F_result_of
  refine ⟨fd, mkO F sc_gr (fun _ _ _ _ _ _ us hl => match us, hl with | [_], _ => rfl) (fun vs H Q E h => ?_) (fun cdv A outer s' H vs Q E hr h => ?_)⟩
  · obtain ⟨x, m, cap, ps, past, rfl, _⟩ := h
    rfl
  · refine ⟨_, PSs.nox (pss_one (ps_ret (pe_callR (r_result_of T) hr rfl T.g_result_of FO.kp pass0 (pa_cons (pe_fld (pv 0) rfl) (pa_cons (pe_callR (r_whole_of T) (hr.mono (by decide)) rfl T.g_whole_of FW.kp pass0 (pa_cons (pe_fld (pv 0) rfl) pa_nil)) pa_nil))))), ?_⟩
    obtain ⟨x, m, cap, ps, past, rfl, ⟨dx, vm, vk, vp, hx0, hm0, hk0, hp0⟩, ok, g, r⟩ := h
    have g1 := g.2.1
    have g2 := g.2.2
    refine ⟨_, rfl, x, _, dx, _, _, rfl, hx0, T.c_ s, T.n_own_machine s, lk_machine, _, rfl, x, _, dx, _, _, rfl, hx0, T.c_ s, T.n_kept s, lk_kept, _, ps, rfl, hk0, by omega, by omega, fun v H1 s1 h1 => ?_⟩
    exact ⟨vm, v, m, _, rfl, stab_mc _ _ _ _ (TK.of s1) hm0, ok, h1, good_whole g, r.at s1⟩
theorem r_gs (T : Txt K mg) (s : Srt) : ∃ fd, FnOk PP w K mg base CX0 6 (getAt "Rope" "results" K) fd ["self"] (spGet K s fun H v m ps _ => Wd H v (ps.map m.read)) ∧ Binds K fd ["self"] [] := by
  obtain ⟨fd, F⟩ := T.F_get_results
  obtain ⟨_, FO⟩ := T.F_result_of
  refine ⟨fd, mkO F sc_gs (fun _ _ _ _ _ _ us hl => match us, hl with | [_], _ => rfl) (fun vs H Q E h => ?_) (fun cdv A outer s' H vs Q E hr h => ?_)⟩
  · obtain ⟨x, m, cap, ps, past, rfl, _⟩ := h
    rfl
  · refine ⟨_, PSs.nox (pss_one (ps_ret (pe_callTy call_tuple_of rfl T.f_tuple (by decide +kernel) (pa_cons (pe_lc (own := [("piece", 1)]) (g := gName 1) (tt := tYes) rfl sc_gs.nd (pi_tup (pe_fld (pv 0) rfl)) (blkOk_by (N := ["self", "piece"]) (sc := defScope b_get_results) (by decide +kernel))
      (fun _ _ _ _ _ => pg_name (i := 1) sc_gs.nd rfl (Or.inl rfl)) (fun _ _ _ _ _ => pts_nil) (fun _ _ _ _ _ => pe_callR (r_result_of T) hr rfl T.g_result_of FO.kp pass0 (pa_cons (fldK K (pv 0)) (pa_cons (pv 1) pa_nil)))) pa_nil)))), ?_⟩
    obtain ⟨x, m, cap, ps, past, rfl, ⟨dx, vm, vk, vp, hr0⟩, ok, g, r⟩ := h
    obtain ⟨hx0, hm0, ⟨ak, xs, rfl, hak, z⟩, hp0⟩ := id hr0
    have g1 := g.2.1
    refine ⟨_, rfl, x, _, dx, _, _, rfl, hx0, T.c_ s, T.n_kept s, lk_kept, ak, rfl, ⟨_, SqT.of hak⟩, fun D hD => lcT (k := 1) (fun i H v => v = nV ((ps.map m.read).getD i 0)) (fun _ _ _ _ _ h => h) hD (SqT.of hak) (by rw [z.1]; omega) (fun x => rfl) (fun i y H1 Q1 hy s1 r1 => ?_) fun H1 ys s1 hys hl2 hv => ?_⟩
    · obtain ⟨pc, hpc, hw⟩ := z.getV hy
      obtain ⟨hx1, hm1, _⟩ := hr0.same s1
      refine ⟨_, rfl, x, _, dx, _, _, rfl, hx1, T.c_ s, T.n_own_machine s, lk_machine, _, rfl, vm, y, m, pc, rfl, hm1, ok, stab_wd _ _ _ _ (TK.of s1) hw, g.1 _ (List.mem_of_getElem? hpc), r1.imp fun H' v s' e => ?_⟩
      rw [e, getD_map' ps m.read [] i (List.getElem?_eq_some_iff.mp hpc).1, getD_of hpc]
    · refine ⟨D, ys, rfl, .inl ⟨SqL.of hys, fun l hl => r _ _ (s1.trans (same_upd hl)) (Wd.of ?_)⟩⟩
      rw [upd_same, pts_eq (by rw [hl2, z.1, List.length_map]) hv]
end
end K68D
/-! The law's helpers: cells, draws, the look at equal data, the reader. -/
namespace K68D
open PySem PySem.Spec PyProof.Rows L2 K68R K68K K68T K68
section
variable {w : World} {K : PySem.W.Frag} {mg : Str → Option Value} {base : Heap}
/-! ### _law_cell -/
def spCellZ (K : PySem.W.Frag) : Sp := fun vs H Q _ => ∃ (a : Addr) (ns : List Int) (k : Nat), vs = [.ref a, nV k] ∧ SqL K H a (ns.map V.int) ∧ ∀ z : Int, Q (.int z) H
theorem sc_cell : FnScope ["_law_script", "_law_k"] ["_law_script", "_law_k"] (defScope b__law_cell) := ⟨rfl, rfl, rfl, by decide +kernel, rfl, by decide +kernel, by decide +kernel⟩
theorem r_cell (T : Txt K mg) : FnR PP w K mg base CX0 1 (He.ga K "_law_cell") (spCellZ K) := by
  obtain ⟨fd, F⟩ := T.F__law_cell
  refine mkR F sc_cell (fun _ _ _ _ _ _ us hl => match us, hl with | [_, _], _ => rfl) (fun vs H Q E h => ?_) (fun cdv A outer s H vs Q E hr h => ?_)
  · obtain ⟨a, ns, k, rfl, _⟩ := h
    rfl
  · refine ⟨_, PSs.nox (pss_cons (ps_if (pt_cmpR op_lt (pv 1) (pe_callB call_len rfl T.f_len boot_len (pa_cons (pv 0) pa_nil)) (nomark _)) (pss_one (ps_ret (pe_ix ix_list (pv 0) (pv 1) (fun _ _ => rfl)))) pss_nil) (pss_one (ps_ret pe_int))), ?_⟩
    obtain ⟨a, ns, k, rfl, hs, h⟩ := h
    refine ⟨_, rfl, _, rfl, _, (ns.map V.int).length, rfl, .inl ⟨_, hs, rfl⟩, _, _, rfl, rfl, _, rfl, ?_⟩
    rw [List.length_map]
    by_cases hk : k < ns.length
    · rw [decide_eq_true (by omega : (k : Int) < (ns.length : Int))]
      refine iteT ⟨_, rfl, _, rfl, a, _, _, _, rfl, rfl, hs, atI_nat (v := .int ns[k]) ?_, h _⟩
      rw [List.getElem?_map, List.getElem?_eq_getElem hk]
      rfl
    · rw [decide_eq_false (by omega : ¬ (k : Int) < (ns.length : Int))]
      exact iteF (h _)
/-! ### _law_draws -/
def Ln (H : Hp) (v : V) (l : List Nat) : Prop := ∃ a, v = .ref a ∧ H a = some (.lst (l.map nV))
def Drawn (ds ss : List Nat) : Prop := ∀ (j d s : Nat), ds[j]? = some d → ss[j]? = some s → d < s
theorem mod_nat (z : Int) {s : Nat} (h : 0 < s) : ∃ d : Nat, V.int (z % (s : Int)) = nV d ∧ d < s := by
  have h1 : (0 : Int) < (s : Int) := by omega
  have h2 := Int.emod_nonneg z (by omega : (s : Int) ≠ 0)
  have h3 := Int.emod_lt_of_pos z h1
  refine ⟨(z % (s : Int)).toNat, ?_, by omega⟩
  unfold nV
  rw [Int.toNat_of_nonneg h2]
theorem drawn_snoc {ds ss : List Nat} {d s : Nat} (h : Drawn ds ss) (hs : ss[ds.length]? = some s) (hd : d < s) : Drawn (ds ++ [d]) ss := fun j e t h1 h2 => by
  by_cases hj : j < ds.length
  · rw [List.getElem?_append_left hj] at h1
    exact h j e t h1 h2
  · rw [List.getElem?_append_right (by omega)] at h1
    have hz : j - ds.length = 0 := by
      cases q : j - ds.length with
      | zero => rfl
      | succ m =>
        rw [q] at h1
        simp at h1
    rw [hz] at h1
    have e1 : d = e := by simpa using h1
    have e2 : j = ds.length := by omega
    subst e2
    rw [hs] at h2
    rw [← e1, ← Option.some.inj h2]
    exact hd
def spDraws : Sp := fun vs H Q _ => ∃ (z : Int) (a : Addr) (ss : List Nat), vs = [.int z, .ref a] ∧ H a = some (.lst (ss.map nV)) ∧ ss.length ≤ 100 ∧ (∀ s ∈ ss, 0 < s ∧ s < 1000) ∧
  Res H Q fun H' v => ∃ ds, Ln H' v ds ∧ ds.length = ss.length ∧ Drawn ds ss
theorem sc_draws : FnScope ["_law_cell_here", "_law_sizes", "_law_found", "_law_left", "_law_size", "_law_k", "_law_mixed"] ["_law_cell_here", "_law_sizes"] (defScope b__law_draws) := ⟨rfl, rfl, rfl, by decide +kernel, rfl, by decide +kernel, by decide +kernel⟩
theorem ln_add {H H' : Hp} {f : Addr} {ds : List Nat} {v : V} {d : Nat} (e : v = nV d) (s1 : Same H H') (hf : H f = none) : Same H (upd H' f (.lst (ds.map nV ++ [v]))) ∧ upd H' f (.lst (ds.map nV ++ [v])) f = some (.lst ((ds ++ [d]).map nV)) := by
  refine ⟨same_set s1 hf, ?_⟩
  rw [upd_same, List.map_append, e]
  rfl
theorem r_draws (T : Txt K mg) : FnR PP w K mg base CX0 1 (He.ga K "_law_draws") spDraws := by
  obtain ⟨fd, F⟩ := T.F__law_draws
  refine mkR F sc_draws (fun _ _ _ _ _ _ us hl => match us, hl with | [_, _], _ => rfl) (fun vs H Q E h => ?_) (fun cdv A outer s H vs Q E hr h => ?_)
  · obtain ⟨a, ns, k, rfl, _⟩ := h
    rfl
  · refine ⟨_, PSs.nox (pss_cons (ps_set (i := 2) sc_draws.nd rfl (Or.inl rfl) (pe_lst pa_nil))
      (pss_cons (ps_if (pt_cmpR op_ge (pv 0) (pe_op op_pow pe_int pe_int) (nomark _))
        (pss_cons (ps_set (i := 3) sc_draws.nd rfl (Or.inl rfl) (pe_op op_sub (pv 0) (pe_op op_pow pe_int pe_int)))
        (pss_cons (ps_for PassesOwn.never rfl (pi_list (pv 1)) (pg_name (i := 4) sc_draws.nd rfl (Or.inl rfl))
          (pss_cons (ps_expr (pe_bm PySem.F.plainAttrs_list PySem.F.slot_list_append PySem.F.type_list_append mt_append (pv 2) (pa_cons (pe_op op_mod (pv 3) (pv 4)) pa_nil)))
          (pss_one (ps_set (i := 3) sc_draws.nd rfl (Or.inl rfl) (pe_op op_fdiv (pv 3) (pv 4))))))
        (pss_one (ps_ret (pv 2))))) pss_nil)
      (pss_cons (ps_for PassesOwn.never rfl (pi_range1 rfl T.f_range (pa_cons (pe_callB call_len rfl T.f_len boot_len (pa_cons (pv 1) pa_nil)) pa_nil)) (pg_name (i := 5) sc_draws.nd rfl (Or.inl rfl))
        (pss_cons (ps_set (i := 6) sc_draws.nd rfl (Or.inl rfl) (pe_op op_mod (pe_op op_add (pe_op op_add (pe_op op_mul (pv 0) pe_int) (pe_op op_mul (pv 5) pe_int)) pe_int) pe_int))
        (pss_cons (ps_set (i := 6) sc_draws.nd rfl (Or.inl rfl) (pe_op op_mod (pe_op op_add (pe_op op_mul (pv 6) pe_int) (pv 5)) pe_int))
        (pss_one (ps_expr (pe_bm PySem.F.plainAttrs_list PySem.F.slot_list_append PySem.F.type_list_append mt_append (pv 2) (pa_cons (pe_op op_mod (pv 6) (pe_ix ix_list (pv 1) (pv 5) (fun _ _ => rfl))) pa_nil))))))) (pss_one (ps_ret (pv 2)))))), ?_⟩
    obtain ⟨z, a, ss, rfl, ha, hl, hs, r⟩ := h
    refine ⟨show 0 ≤ sizeLine by decide, fun f hf => ?_⟩
    have s0 := same_upd (o := .lst []) hf
    refine ⟨_, rfl, _, _, rfl, rfl, ⟨by decide, by decide, by decide⟩, _, _, rfl, rfl, _, rfl, ?_⟩
    cases e : decide ((10 : Int) ^ (18 : Int).toNat ≤ z) with
    | true =>
      refine iteT ⟨_, rfl, _, _, rfl, rfl, ⟨by decide, by decide, by decide⟩, _, _, rfl, rfl, ?_⟩
      refine ⟨_, rfl, a, rfl, ⟨_, SqL.of (s0 _ _ ha)⟩, for_list (K := K) (a := a) (xs := ss.map nV) (fun i σ H' => ∃ (lf : Int) (ds : List Nat) (u : Option V), σ = [some (.int z), some (.ref a), some (.ref f), some (.int lf), u, none, none] ∧ Same H H' ∧ H' f = some (.lst (ds.map nV)) ∧ ds.length = i ∧ Drawn ds ss)
        ⟨_, [], none, rfl, s0, upd_same, rfl, fun j d s h => by simp at h⟩ (fun i σ H' _ ⟨_, _, _, _, s2, _⟩ => SqL.of (s2 _ _ ha)) ?_ ?_⟩
      · rintro i x σ H' hx ⟨lf, ds, u, rfl, s2, hfl, hlen, hd⟩
        obtain ⟨n, hn, rfl⟩ := map_get hx
        obtain ⟨p1, p2⟩ := hs n (List.mem_of_getElem? hn)
        obtain ⟨d, ed, hdl⟩ := mod_nat lf p1
        have hil := (List.getElem?_eq_some_iff.mp hn).1
        refine ⟨_, rfl, .inl ⟨rfl, _, SqL.of hfl⟩, _, rfl, _, rfl, _, _, rfl, rfl, (by show (0 : Int) < (n : Int); omega), f, _, _, rfl, rfl, hfl, small1000 (by rw [List.length_map]; omega), ?_⟩
        obtain ⟨s3, hf3⟩ := ln_add (ds := ds) ed s2 hf
        exact ⟨_, rfl, _, rfl, _, _, rfl, rfl, ⟨by omega, by omega⟩, _, ds ++ [d], _, rfl, s3, hf3, by rw [List.length_append, hlen]; rfl, drawn_snoc hd (by rw [hlen]; exact hn) hdl⟩
      · rintro σ H' ⟨lf, ds, u, rfl, s2, hfl, hlen, hd⟩
        exact ⟨_, rfl, r _ _ s2 ⟨ds, ⟨f, rfl, hfl⟩, by rw [hlen, List.length_map], hd⟩⟩
    | false =>
      refine iteF ⟨_, rfl, _, ss.length, rfl, .inl ⟨_, SqL.of (s0 _ _ ha), by rw [List.length_map]⟩, _, rfl, by omega, by omega, for_range (n := ss.length) (fun i σ H' => ∃ (ds : List Nat) (u v : Option V), σ = [some (.int z), some (.ref a), some (.ref f), none, none, u, v] ∧ Same H H' ∧ H' f = some (.lst (ds.map nV)) ∧ ds.length = i ∧ Drawn ds ss)
        ⟨[], none, none, rfl, s0, upd_same, rfl, fun j d s h => by simp at h⟩ ?_ ?_⟩
      · rintro i σ H' hi ⟨ds, u, v, rfl, s2, hfl, hlen, hd⟩
        rw [show (0 : Int) + (i : Int) = (i : Int) by omega]
        have hn : ss[i]? = some ss[i] := List.getElem?_eq_getElem hi
        obtain ⟨p1, p2⟩ := hs ss[i] (List.getElem_mem hi)
        refine ⟨_, rfl, _, _, rfl, rfl, .inr ⟨by decide, by decide⟩, _, rfl, _, _, rfl, rfl, .inr ⟨by decide, by decide⟩, _, _, rfl, rfl, _, _, rfl, rfl, _, _, rfl, rfl, (by show (0 : Int) < 2147483647; decide), ?_⟩
        refine ⟨_, rfl, _, _, rfl, rfl, .inr ⟨by decide, by decide⟩, _, rfl, _, _, rfl, rfl, _, _, rfl, rfl, (by show (0 : Int) < 998244353; decide), ?_⟩
        refine ⟨_, rfl, .inl ⟨rfl, _, SqL.of hfl⟩, _, rfl, _, rfl, _, rfl, a, _, _, _, rfl, rfl, SqL.of (s2 _ _ ha), atI_nat (v := nV ss[i]) (by rw [List.getElem?_map, hn]; rfl), _, _, rfl, rfl, (by show (0 : Int) < (ss[i] : Int); omega), f, _, _, rfl, rfl, hfl, small1000 (by rw [List.length_map]; omega), ?_⟩
        obtain ⟨d, ed, hdl⟩ := mod_nat (((z * 48271 + (i : Int) * 69621 + 11) % 2147483647 * 16807 + (i : Int)) % 998244353) p1
        obtain ⟨s3, hf3⟩ := ln_add (ds := ds) ed s2 hf
        exact ⟨ds ++ [d], _, _, rfl, s3, hf3, by rw [List.length_append, hlen]; rfl, drawn_snoc hd (by rw [hlen]; exact hn) hdl⟩
      · rintro σ H' ⟨ds, u, v, rfl, s2, hfl, hlen, hd⟩
        exact ⟨_, rfl, r _ _ s2 ⟨ds, ⟨f, rfl, hfl⟩, hlen, hd⟩⟩
end
end K68D
/-! The law's helpers: the look at equal data, the reader. -/
namespace K68D
open PySem PySem.Spec PyProof.Rows L2 K68R K68K K68T K68
section
variable {w : World} {K : PySem.W.Frag} {mg : Str → Option Value} {base : Heap}
/-! ### _law_is_same -/
/-- two values of equal data, tuples n deep -/
def Sam : Nat → Hp → V → V → Prop
  | 0, _, a, b => a = b ∧ ((∃ i, a = .int i) ∨ ∃ z, a = .str z)
  | n + 1, H, a, b => (a = b ∧ ((∃ i, a = .int i) ∨ ∃ z, a = .str z)) ∨ ∃ p q xs ys, a = .ref p ∧ b = .ref q ∧ H p = some (.tup xs) ∧ H q = some (.tup ys) ∧ xs.length = ys.length ∧ ys.length ≤ 1000 ∧ ∀ (i : Nat) (x y : V), xs[i]? = some x → ys[i]? = some y → Sam n H x y
theorem Sam.tk : ∀ {n : Nat} {H H' : Hp} {a b : V}, Sam n H a b → TK H H' → Sam n H' a b
  | 0, _, _, _, _, h, _ => h
  | n + 1, _, _, _, _, .inl h, _ => .inl h
  | n + 1, _, _, _, _, .inr ⟨p, q, xs, ys, e1, e2, h1, h2, l1, l2, z⟩, k => .inr ⟨p, q, xs, ys, e1, e2, k _ _ h1, k _ _ h2, l1, l2, fun i x y hx hy => (z i x y hx hy).tk k⟩
theorem Sam.flat : ∀ {n : Nat} {H : Hp} {a : V}, (∃ i, a = .int i) ∨ (∃ z, a = .str z) → Sam n H a a
  | 0, _, _, h => ⟨rfl, h⟩
  | n + 1, _, _, h => .inl ⟨rfl, h⟩
def spSame (n : Nat) : Sp := fun vs H Q _ => ∃ a b, vs = [a, b] ∧ Sam n H a b ∧ Res H Q fun _ v => v = .bl true
theorem sc_same : FnScope ["_law_actual", "_law_expected", "_law_k"] ["_law_actual", "_law_expected"] (defScope b__law_is_same) := ⟨rfl, rfl, rfl, by decide +kernel, rfl, by decide +kernel, by decide +kernel⟩
theorem r_same0 (T : Txt K mg) : FnR PP w K mg base CX0 1 (He.ga K "_law_is_same") (spSame 0) := by
  obtain ⟨fd, F⟩ := T.F__law_is_same
  refine mkR F sc_same (fun _ _ _ _ _ _ us hl => match us, hl with | [_, _], _ => rfl) (fun vs H Q E h => ?_) (fun cdv A outer s H vs Q E hr h => ?_)
  · obtain ⟨a, b, rfl, _⟩ := h
    rfl
  · refine ⟨_, PSs.nox (pss_cons (ps_if (pt_val (pe_callB call_isi rfl T.f_isinstance (by decide +kernel) (pa_cons (pv 1) (pa_cons (pe_bltn (v := .ty "tuple") rfl T.f_tuple (by decide +kernel) rfl) pa_nil)))) pss_never pss_nil)
      (pss_cons (ps_if (pt_cmpR op_isN (pv 1) pe_non (nomark _)) pss_never pss_nil)
      (pss_cons (ps_if (pt_val (pe_callB call_isi rfl T.f_isinstance (by decide +kernel) (pa_cons (pv 1) (pa_cons (pe_bltn (v := .ty "str") rfl T.f_str (by decide +kernel) rfl) pa_nil))))
        (pss_one (ps_ret (pe_and (pe_callB call_isi rfl T.f_isinstance (by decide +kernel) (pa_cons (pv 0) (pa_cons (pe_bltn (v := .ty "str") rfl T.f_str (by decide +kernel) rfl) pa_nil))) (pe_one (pe_cmpR op_eq (pv 0) (pv 1) (nomark _)))))) pss_nil)
      (pss_cons (ps_if (PW.pt (pw_or (pt_not (pt_val (pe_callB call_isi rfl T.f_isinstance (by decide +kernel) (pa_cons (pv 0) (pa_cons (pe_bltn (v := .ty "int") rfl T.f_int (by decide +kernel) rfl) pa_nil)))))
        (pw_or1 (pt_cmpR op_ne (pe_callB call_isi rfl T.f_isinstance (by decide +kernel) (pa_cons (pv 0) (pa_cons (pe_bltn (v := .ty "bool") rfl T.f_bool (by decide +kernel) rfl) pa_nil)))
          (pe_callB call_isi rfl T.f_isinstance (by decide +kernel) (pa_cons (pv 1) (pa_cons (pe_bltn (v := .ty "bool") rfl T.f_bool (by decide +kernel) rfl) pa_nil))) (nomark _))))) pss_never pss_nil)
      (pss_one (ps_ret (pe_cmpR op_eq (pv 0) (pv 1) (nomark _)))))))), ?_⟩
    obtain ⟨a, b, rfl, ⟨rfl, h⟩, r⟩ := h
    rcases h with ⟨i, rfl⟩ | ⟨z, rfl⟩
    · refine ⟨_, rfl, _, _, _, _, false, rfl, .ty "tuple", .base (.int i), kit_ty (by decide +kernel), _, rfl, iteF ?_⟩
      refine ⟨_, rfl, rfl, _, rfl, ?_⟩
      rw [decide_eq_false (fun z => V.noConfusion z : ¬ (V.int i = V.non))]
      refine iteF ⟨_, rfl, _, _, _, _, false, rfl, .ty "str", .base (.int i), kit_ty (by decide +kernel), _, rfl, iteF ?_⟩
      refine ⟨_, rfl, _, _, _, _, true, rfl, .ty "int", .base (.int i), kit_ty (by decide +kernel), _, rfl, iteF ?_⟩
      refine ⟨_, rfl, _, _, _, _, false, rfl, .ty "bool", .base (.int i), kit_ty (by decide +kernel), _, rfl, _, _, _, _, false, rfl, .ty "bool", .base (.int i), kit_ty (by decide +kernel), rfl, _, rfl, ?_⟩
      refine iteF ⟨_, rfl, _, rfl, rfl, r _ _ (Same.refl H) ?_⟩
      rw [decide_eq_true rfl]
    · refine ⟨_, rfl, _, _, _, _, false, rfl, .ty "tuple", .base (.str z), kit_ty (by decide +kernel), _, rfl, iteF ?_⟩
      refine ⟨_, rfl, rfl, _, rfl, ?_⟩
      rw [decide_eq_false (fun q => V.noConfusion q : ¬ (V.str z = V.non))]
      refine iteF ⟨_, rfl, _, _, _, _, true, rfl, .ty "str", .base (.str z), kit_ty (by decide +kernel), _, rfl, iteT ?_⟩
      refine ⟨_, rfl, _, _, _, _, true, rfl, .ty "str", .base (.str z), kit_ty (by decide +kernel), _, rfl, iteT ?_⟩
      refine ⟨_, rfl, _, rfl, rfl, r _ _ (Same.refl H) ?_⟩
      rw [decide_eq_true rfl]
theorem r_sameS (T : Txt K mg) (n : Nat) (ih : FnR PP w K mg base CX0 (n + 1) (He.ga K "_law_is_same") (spSame n)) : FnR PP w K mg base CX0 (n + 2) (He.ga K "_law_is_same") (spSame (n + 1)) := by
  obtain ⟨fd, F⟩ := T.F__law_is_same
  have flat := (r_same0 (w := w) (base := base) T).mono (show 1 ≤ n + 2 by omega)
  have deep : FnR PP w K mg base CX0 (n + 2) (He.ga K "_law_is_same") (fun vs H Q _ => ∃ p q xs ys, vs = [.ref p, .ref q] ∧ H p = some (.tup xs) ∧ H q = some (.tup ys) ∧ xs.length = ys.length ∧ ys.length ≤ 1000 ∧ (∀ (i : Nat) (x y : V), xs[i]? = some x → ys[i]? = some y → Sam n H x y) ∧ Res H Q fun _ v => v = .bl true) := by
    refine mkR F sc_same (fun _ _ _ _ _ _ us hl => match us, hl with | [_, _], _ => rfl) (fun vs H Q E h => ?_) (fun cdv A outer s H vs Q E hr h => ?_)
    · obtain ⟨a, b, _, _, rfl, _⟩ := h
      rfl
    · refine ⟨_, PSs.nox (pss_cons (ps_if (pt_val (pe_callB call_isi rfl T.f_isinstance (by decide +kernel) (pa_cons (pv 1) (pa_cons (pe_bltn (v := .ty "tuple") rfl T.f_tuple (by decide +kernel) rfl) pa_nil))))
        (pss_cons (ps_if (PW.pt (pw_or (pt_not (pt_val (pe_callB call_isi rfl T.f_isinstance (by decide +kernel) (pa_cons (pv 0) (pa_cons (pe_bltn (v := .ty "tuple") rfl T.f_tuple (by decide +kernel) rfl) pa_nil)))))
          (pw_or1 (pt_cmpR op_ne (pe_callB call_len rfl T.f_len boot_len (pa_cons (pv 0) pa_nil)) (pe_callB call_len rfl T.f_len boot_len (pa_cons (pv 1) pa_nil)) (nomark _))))) pss_never pss_nil)
        (pss_one (ps_ret (pe_callB (cr_all rfl) rfl T.f_all (by decide +kernel) (pa_cons (pe_lc (own := [("_law_k", 2)]) (g := gName 2) (tt := tYes) rfl sc_same.nd (pi_range1 rfl T.f_range (pa_cons (pe_callB call_len rfl T.f_len boot_len (pa_cons (pv 1) pa_nil)) pa_nil)) (blkOk_by (N := ["_law_actual", "_law_expected", "_law_k"]) (sc := defScope b__law_is_same) (by decide +kernel))
          (fun _ _ _ _ _ => pg_name (i := 2) sc_same.nd rfl (Or.inl rfl)) (fun _ _ _ _ _ => pts_nil) (fun _ _ _ _ _ => pe_callR ih hr rfl T.g__law_is_same F.kp pass0 (pa_cons (pe_ix (ixT K) (pv 0) (pv 2) (fun _ _ => rfl)) (pa_cons (pe_ix (ixT K) (pv 1) (pv 2) (fun _ _ => rfl)) pa_nil)))) pa_nil))))) pss_nil)
        pss_never), ?_⟩
      obtain ⟨p, q, xs, ys, rfl, hp, hq, hl, h1000, z, r⟩ := h
      refine ⟨_, rfl, _, _, _, _, true, rfl, .ty "tuple", .base (.tup hq), kit_ty (by decide +kernel), _, rfl, iteT ?_⟩
      refine ⟨_, rfl, _, _, _, _, true, rfl, .ty "tuple", .base (.tup hp), kit_ty (by decide +kernel), _, rfl, iteF ?_⟩
      refine ⟨_, rfl, _, ys.length, rfl, .inr ⟨_, SqT.of hp, hl.symm⟩, _, rfl, _, ys.length, rfl, .inr ⟨_, SqT.of hq, rfl⟩, rfl, _, rfl, ?_⟩
      show if (!decide (nV ys.length = nV ys.length)) = true then _ else _
      rw [dec_refl]
      refine iteF ⟨_, rfl, _, ys.length, rfl, .inr ⟨_, SqT.of hq, rfl⟩, _, rfl, by omega, by omega, fun D hD => lcN (k := 2) (fun i H v => v = .bl true) (fun _ _ _ _ _ h => h) hD h1000 (fun x => rfl) (fun i H1 Q1 hi s1 r1 => ?_) fun H1 zs s1 hzs hlen hv => ?_⟩
      · have hy : ys[i]? = some ys[i] := List.getElem?_eq_getElem hi
        have hx : xs[i]? = some (xs[i]'(by omega)) := List.getElem?_eq_getElem _
        exact ⟨_, rfl, _, rfl, p, _, _, _, rfl, rfl, SqT.of (s1 _ _ hp), atI_nat hx, _, rfl, _, rfl, q, _, _, _, rfl, rfl, SqT.of (s1 _ _ hq), atI_nat hy, _, _, rfl, (z i _ _ hx hy).tk (TK.of s1), r1⟩
      · refine ⟨D, List.replicate zs.length true, rfl, ?_, ?_⟩
        · rw [← all_true hv]
          exact SqL.of hzs
        · rw [all_rep]
          exact r _ _ s1 rfl
  intro A outer s H us vs Q E hr e0 rv hsp
  obtain ⟨a, b, rfl, h, r⟩ := hsp
  rcases h with h | ⟨p, q, xs, ys, rfl, rfl, h1, h2, l1, l2, z⟩
  · exact flat A outer s H us _ Q E hr e0 rv ⟨a, b, rfl, h, r⟩
  · exact deep A outer s H us _ Q E hr e0 rv ⟨p, q, xs, ys, rfl, h1, h2, l1, l2, z, r⟩
theorem r_same (T : Txt K mg) : ∀ n : Nat, FnR PP w K mg base CX0 (n + 1) (He.ga K "_law_is_same") (spSame n)
  | 0 => r_same0 T
  | n + 1 => r_sameS T n (r_same T n)
/-! ### _law_read -/
def spRead : Sp := fun vs H Q _ => ∃ vm vw m wd, vs = [vm, vw] ∧ Mc H vm m ∧ m.Ok ∧ Wd H vw wd ∧ m.Wok wd ∧ Res H Q fun _ v => v = nV (m.read wd)
theorem sc_read : FnScope ["_law_machine_here", "_law_word_here", "_law_state", "_law_letter"] ["_law_machine_here", "_law_word_here"] (defScope b__law_read) := ⟨rfl, rfl, rfl, by decide +kernel, rfl, by decide +kernel, by decide +kernel⟩
theorem rep_rev {l : Word} : (l.map nV).reverse = l.reverse.map nV := List.map_reverse.symm
theorem r_read (T : Txt K mg) : FnR PP w K mg base CX0 1 (He.ga K "_law_read") spRead := by
  obtain ⟨fd, F⟩ := T.F__law_read
  refine mkR F sc_read (fun _ _ _ _ _ _ us hl => match us, hl with | [_, _], _ => rfl) (fun vs H Q E h => ?_) (fun cdv A outer s H vs Q E hr h => ?_)
  · obtain ⟨vm, vw, m, wd, rfl, _⟩ := h
    rfl
  · refine ⟨_, PSs.nox (pss_cons (ps_set (i := 2) sc_read.nd rfl (Or.inl rfl) (pe_ix ix_tup (pv 0) pe_int (fun _ _ => rfl)))
      (pss_cons (ps_for PassesOwn.never rfl (pi_tup (pe_ifExp (pt_cmpR op_eq (pe_ix ix_tup (pv 0) pe_int (fun _ _ => rfl)) pe_str (nomark _)) (pv 1) (pe_revT (pv 1)))) (pg_name (i := 3) sc_read.nd rfl (Or.inl rfl))
        (pss_one (ps_set (i := 2) sc_read.nd rfl (Or.inl rfl) (pe_ix ix_tup (pe_ix ix_tup (pe_ix ix_tup (pv 0) pe_int (fun _ _ => rfl)) (pv 2) (fun _ _ => rfl)) (pv 3) (fun _ _ => rfl)))))
      (pss_one (ps_ret (pe_ix ix_tup (pe_ix ix_tup (pv 0) pe_int (fun _ _ => rfl)) (pv 2) (fun _ _ => rfl)))))), ?_⟩
    obtain ⟨vm, vw, m, wd, rfl, ⟨p, am, ao, rfl, ha, ⟨am', rows, e1, hrows, z⟩, ⟨ao', e2, ho⟩⟩, ok, ⟨b, rfl, hb⟩, wok, r⟩ := h
    obtain rfl : am = am' := V.ref.inj e1
    obtain rfl : ao = ao' := V.ref.inj e2
    refine ⟨_, rfl, _, _, _, _, rfl, rfl, SqT.of ha, rfl, ?_⟩
    refine ⟨_, rfl, _, _, _, _, rfl, rfl, SqT.of ha, rfl, rfl, _, rfl, ?_⟩
    rw [sideS_eq]
    have turn : ∀ (H' : Hp) (a st : Nat), Same H H' → a < m.letters → st < m.moves.length → ∃ row : Addr, atI rows (st : Int) = some (.ref row) ∧ ∃ l : Word, H' row = some (.tup (l.map nV)) ∧ atI (l.map nV) (a : Int) = some (nV (m.step st a)) := fun H' a st s1 ha hst => by
      obtain ⟨v, hv, row, rfl, hrow⟩ := get_at (d := []) z hst
      have hmem := row_mem hst
      exact ⟨row, atI_nat hv, _, s1 _ _ hrow, at_nV (by rw [(ok.row _ hmem).1]; exact ha)⟩
    cases hl : m.left with
    | true =>
      refine iteT ⟨_, rfl, b, rfl, ⟨_, SqT.of hb⟩, for_tup (K := K) (a := b) (xs := wd.map nV) (fun i σ H' => ∃ (u : Option V), σ = [some (.ref p), some (.ref b), some (nV ((wd.take i).foldl m.step m.start)), u] ∧ Same H H') ⟨none, rfl, Same.refl H⟩ (fun i σ H' _ ⟨_, _, s2⟩ => SqT.of (s2 _ _ hb)) ?_ ?_⟩
      · rintro i x σ H' hx ⟨u, rfl, s2⟩
        obtain ⟨n, hn, rfl⟩ := map_get hx
        have hnl : n < m.letters := wok n (List.mem_of_getElem? hn)
        have wok' : m.Wok (wd.take i) := fun y hy => wok y (List.mem_of_mem_take hy)
        obtain ⟨row, h1, l, h2, h3⟩ := turn H' n _ s2 hnl (fold_lt ok _ wok' ok.st)
        refine ⟨_, rfl, _, _, _, _, rfl, rfl, SqT.of (s2 _ _ ha), rfl, _, rfl, am, _, _, _, rfl, rfl, SqT.of (s2 _ _ hrows), h1, _, rfl, row, _, _, _, rfl, rfl, SqT.of h2, h3, some (nV n), ?_, s2⟩
        rw [take_snoc hn, List.foldl_append]
        rfl
      · rintro σ H' ⟨u, rfl, s2⟩
        rw [List.length_map, List.take_length]
        refine ⟨_, rfl, _, _, _, _, rfl, rfl, SqT.of (s2 _ _ ha), rfl, _, rfl, ao, _, _, _, rfl, rfl, SqT.of (s2 _ _ ho), at_nV (by rw [ok.ol]; exact fold_lt ok wd wok ok.st), r _ _ s2 ?_⟩
        unfold Mach.read Mach.run
        rw [hl, if_pos rfl]
    | false =>
      refine iteF ⟨_, rfl, b, _, rfl, SqT.of hb, fun c hc => ⟨c, rfl, ⟨_, SqT.of upd_same⟩, ?_⟩⟩
      rw [rep_rev]
      have s0 := same_upd (o := .tup (wd.reverse.map nV)) hc
      have hcc : upd H c (.tup (wd.reverse.map nV)) c = some (.tup (wd.reverse.map nV)) := upd_same
      have wok2 := wok_rev wok
      refine for_tup (K := K) (a := c) (xs := wd.reverse.map nV) (fun i σ H' => ∃ (u : Option V), σ = [some (.ref p), some (.ref b), some (nV ((wd.reverse.take i).foldl m.step m.start)), u] ∧ Same (upd H c (.tup (wd.reverse.map nV))) H') ⟨none, rfl, Same.refl _⟩ (fun i σ H' _ ⟨_, _, s2⟩ => SqT.of (s2 _ _ hcc)) ?_ ?_
      · rintro i x σ H' hx ⟨u, rfl, s2⟩
        obtain ⟨n, hn, rfl⟩ := map_get hx
        have hnl : n < m.letters := wok2 n (List.mem_of_getElem? hn)
        have wok' : m.Wok (wd.reverse.take i) := fun y hy => wok2 y (List.mem_of_mem_take hy)
        have sa := s0.trans s2
        obtain ⟨row, h1, l, h2, h3⟩ := turn H' n _ sa hnl (fold_lt ok _ wok' ok.st)
        refine ⟨_, rfl, _, _, _, _, rfl, rfl, SqT.of (sa _ _ ha), rfl, _, rfl, am, _, _, _, rfl, rfl, SqT.of (sa _ _ hrows), h1, _, rfl, row, _, _, _, rfl, rfl, SqT.of h2, h3, some (nV n), ?_, s2⟩
        rw [take_snoc hn, List.foldl_append]
        rfl
      · rintro σ H' ⟨u, rfl, s2⟩
        have sa := s0.trans s2
        rw [List.length_map, List.take_length]
        refine ⟨_, rfl, _, _, _, _, rfl, rfl, SqT.of (sa _ _ ha), rfl, _, rfl, ao, _, _, _, rfl, rfl, SqT.of (sa _ _ ho), at_nV (by rw [ok.ol]; exact fold_lt ok _ wok2 ok.st), r _ _ sa ?_⟩
        unfold Mach.read Mach.run
        rw [hl, if_neg Bool.false_ne_true]
end
end K68D
/-! Written data, by what stands behind them; the law's tables. (Printed by gen_lit.py.) -/
namespace K68D
open PySem PySem.Spec PyProof.Rows L2 K68R K68K K68T K68
/-- a reading that keeps all and gives what R says -/
def tR {α : Type} (R : Rl α) (y : α) : TE := fun _ H Q => Res H Q fun H' v => R H' v y
def tAs {α : Type} (R : Rl α) (l : List α) : TA := fun _ H Q => ∀ vs H', Same H H' → All2 (R H') vs l → Q vs H'
def R0 : Rl Nat := fun _ v n => v = nV n
theorem stab_n : Stab R0 := fun _ _ _ _ _ h => h
def Lw {α : Type} (R : Rl α) : Rl (List α) := fun H v l => ∃ a xs, v = .ref a ∧ H a = some (.lst xs) ∧ All2 (R H) xs l
section
variable {X : Cx} {α : Type} {R : Rl α} {y : α} {l l1 l2 : List α} {e : Expr} {es : List Expr} {p : Pos} {k : Nat}
theorem pe_imp {t t' : TE} (h : PE X e t) (f : ∀ σ H Q, t' σ H Q → t σ H Q) : PE X e t' := ⟨fun pins s σ H Q I q => h.run pins s σ H Q I (f σ H Q q)⟩
theorem pa_imp {t t' : TA} (h : PA X es t) (f : ∀ σ H Q, t' σ H Q → t σ H Q) : PA X es t' := ⟨fun pos pins s σ H Q I q => h.run pos pins s σ H Q I (f σ H Q q)⟩
theorem pe_intR (n : Nat) : PE X (.Constant (.int (n : Int)) k p) (tR R0 n) := pe_imp (t := tC (.int (n : Int))) pe_int fun σ H Q r => r _ _ (Same.refl H) rfl
theorem pa_nilR : PA X [] (tAs R []) := pa_imp pa_nil fun σ H Q r => r _ _ (Same.refl H) All2.nil
theorem pa_consR (st : Stab R) (h : PE X e (tR R y)) (ht : PA X es (tAs R l)) (hs : starEach (e :: es) X.env = (false, eval e X.env) :: starEach es X.env := by rfl) : PA X (e :: es) (tAs R (y :: l)) :=
  pa_imp (pa_cons h ht hs) fun σ H Q r => fun v H1 s1 h1 vs H2 s2 h2 => r _ _ (s1.trans s2) (.cons (st _ _ _ _ (TK.of s2) h1) h2)
theorem pe_tupR (st : Stab R) (h : PA X es (tAs R l)) (hl : l.length ≤ 1000) : PE X (.Tuple es k p) (tR (Tw R) l) :=
  pe_imp (pe_tup h) fun σ H Q r => fun vs H1 s1 h1 => ⟨sz_line (by rw [h1.1]; exact hl), fun q hq => r _ _ (s1.trans (same_upd hq)) (Tw.of upd_same (h1.imp fun a b z => st _ _ _ _ (TK.of (same_upd hq)) z))⟩
theorem pe_lstR (st : Stab R) (h : PA X es (tAs R l)) (hl : l.length ≤ 1000) : PE X (.List es p) (tR (Lw R) l) :=
  pe_imp (pe_lst h) fun σ H Q r => fun vs H1 s1 h1 => ⟨sz_line (by rw [h1.1]; exact hl), fun q hq => r _ _ (s1.trans (same_upd hq)) ⟨q, vs, rfl, upd_same, h1.imp fun a b z => st _ _ _ _ (TK.of (same_upd hq)) z⟩⟩
theorem tw_wd {H : Hp} {v : V} {w : Word} (h : Tw R0 H v w) : Wd H v w := by
  obtain ⟨a, xs, rfl, ha, z⟩ := h
  exact ⟨a, rfl, by rw [ha, All2.map_eq z]⟩
theorem pe_tupW {l : Word} (h : PA X es (tAs R0 l)) (hl : l.length ≤ 1000) : PE X (.Tuple es k p) (tR Wd l) := pe_imp (pe_tupR stab_n h hl) fun σ H Q r => fun v H1 s1 h1 => r _ _ s1 (tw_wd h1)
theorem Lw.same {H H' : Hp} {v : V} (st : Stab R) (h : Lw R H v l) (s : Same H H') : Lw R H' v l := by
  obtain ⟨a, xs, rfl, ha, z⟩ := h
  exact ⟨a, xs, rfl, s _ _ ha, z.imp fun a b r => st _ _ _ _ (TK.of s) r⟩
theorem cat_step {H : Hp} {u v : V} {Q : VK} (st : Stab R) (h1 : Lw R H u l1) (h2 : Lw R H v l2) (hl : l1.length + l2.length ≤ 1000) (k : ∀ p H', Same H H' → Lw R H' (.ref p) (l1 ++ l2) → Q (.ref p) H') : rCat u v H Q := by
  obtain ⟨a, xs, rfl, ha, z1⟩ := h1
  obtain ⟨b, ys, rfl, hb, z2⟩ := h2
  exact ⟨a, b, xs, ys, rfl, rfl, ha, hb, sz_line (by rw [z1.1, z2.1]; exact hl), fun p hp => k p _ (same_upd hp) ⟨p, _, rfl, upd_same, (z1.append z2).imp fun a b r => st _ _ _ _ (TK.of (same_upd hp)) r⟩⟩
end
section
variable {w : World} {K : PySem.W.Frag} {mg : Str → Option Value} {base : Heap}
def mon0 : List Pieces := [[[0]], [[0, 1], [1, 0]], [[0, 1], [1, 1]]]
def mon1 : List Pieces := [[[0, 1, 2], [1, 2, 0], [2, 0, 1]]]
def mon2 : List Pieces := [[[0, 1, 2], [1, 1, 1], [2, 2, 2]], [[0, 1, 2], [1, 1, 2], [2, 1, 2]]]
def mon3 : List Pieces := [[[0, 1, 2], [1, 1, 2], [2, 2, 2]], [[0, 1, 2], [1, 2, 2], [2, 2, 2]]]
def mon4 : List Pieces := [[[0, 1, 2], [1, 0, 2], [2, 2, 2]]]
def mon5 : List Pieces := [[[0, 1, 2, 3], [1, 2, 3, 0], [2, 3, 0, 1], [3, 0, 1, 2]]]
def mon6 : List Pieces := [[[0, 1, 2, 3], [1, 0, 3, 2], [2, 3, 0, 1], [3, 2, 1, 0]]]
def mon7 : List Pieces := [[[0, 1, 2, 3], [1, 1, 1, 1], [2, 2, 2, 2], [3, 3, 3, 3]]]
def mon8 : List Pieces := [[[0, 1, 2, 3], [1, 1, 2, 3], [2, 1, 2, 3], [3, 1, 2, 3]]]
def mon9 : List Pieces := [[[0, 1, 2, 3], [1, 2, 3, 3], [2, 3, 3, 3], [3, 3, 3, 3]]]
def mons : List Pieces := ((((((((mon0 ++ mon1) ++ mon2) ++ mon3) ++ mon4) ++ mon5) ++ mon6) ++ mon7) ++ mon8) ++ mon9
theorem mons_ok : mons.length = 14 ∧ ∀ t ∈ mons, (1 ≤ t.length ∧ t.length ≤ 4) ∧ ∀ r ∈ t, r.length = t.length ∧ ∀ x ∈ r, x < t.length := by decide
def spMons : Sp := fun vs H Q _ => vs = [] ∧ Res H Q fun H' v => Lw Ps H' v mons
theorem sc_monoids : FnScope ["_law_found"] [] (defScope b__law_monoids) := ⟨rfl, rfl, rfl, by decide +kernel, rfl, by decide +kernel, by decide +kernel⟩
theorem r_monoids (T : Txt K mg) : FnR PP w K mg base CX0 1 (He.ga K "_law_monoids") spMons := by
  obtain ⟨fd, F⟩ := T.F__law_monoids
  refine mkR F sc_monoids (fun _ _ _ _ _ _ us hl => match us, hl with | [], _ => rfl) (fun vs H Q E h => by rw [h.1]; rfl) (fun cdv A outer s H vs Q E hr h => ?_)
  · refine ⟨_, PSs.nox (pss_cons (ps_set (i := 0) sc_monoids.nd rfl (Or.inl rfl) (pe_lstR stab_ps (pa_consR stab_ps (pe_tupR stab_wd (pa_consR stab_wd (pe_tupW (pa_consR stab_n (pe_intR 0) pa_nilR) (by decide)) pa_nilR) (by decide)) (pa_consR stab_ps (pe_tupR stab_wd (pa_consR stab_wd (pe_tupW (pa_consR stab_n (pe_intR 0) (pa_consR stab_n (pe_intR 1) pa_nilR)) (by decide)) (pa_consR stab_wd (pe_tupW (pa_consR stab_n (pe_intR 1) (pa_consR stab_n (pe_intR 0) pa_nilR)) (by decide)) pa_nilR)) (by decide)) (pa_consR stab_ps (pe_tupR stab_wd (pa_consR stab_wd (pe_tupW (pa_consR stab_n (pe_intR 0) (pa_consR stab_n (pe_intR 1) pa_nilR)) (by decide)) (pa_consR stab_wd (pe_tupW (pa_consR stab_n (pe_intR 1) (pa_consR stab_n (pe_intR 1) pa_nilR)) (by decide)) pa_nilR)) (by decide)) pa_nilR))) (by decide))) (pss_cons (ps_set (i := 0) sc_monoids.nd rfl (Or.inl rfl) (pe_op op_cat (pv 0) (pe_lstR stab_ps (pa_consR stab_ps (pe_tupR stab_wd (pa_consR stab_wd (pe_tupW (pa_consR stab_n (pe_intR 0) (pa_consR stab_n (pe_intR 1) (pa_consR stab_n (pe_intR 2) pa_nilR))) (by decide)) (pa_consR stab_wd (pe_tupW (pa_consR stab_n (pe_intR 1) (pa_consR stab_n (pe_intR 2) (pa_consR stab_n (pe_intR 0) pa_nilR))) (by decide)) (pa_consR stab_wd (pe_tupW (pa_consR stab_n (pe_intR 2) (pa_consR stab_n (pe_intR 0) (pa_consR stab_n (pe_intR 1) pa_nilR))) (by decide)) pa_nilR))) (by decide)) pa_nilR) (by decide)))) (pss_cons (ps_set (i := 0) sc_monoids.nd rfl (Or.inl rfl) (pe_op op_cat (pv 0) (pe_lstR stab_ps (pa_consR stab_ps (pe_tupR stab_wd (pa_consR stab_wd (pe_tupW (pa_consR stab_n (pe_intR 0) (pa_consR stab_n (pe_intR 1) (pa_consR stab_n (pe_intR 2) pa_nilR))) (by decide)) (pa_consR stab_wd (pe_tupW (pa_consR stab_n (pe_intR 1) (pa_consR stab_n (pe_intR 1) (pa_consR stab_n (pe_intR 1) pa_nilR))) (by decide)) (pa_consR stab_wd (pe_tupW (pa_consR stab_n (pe_intR 2) (pa_consR stab_n (pe_intR 2) (pa_consR stab_n (pe_intR 2) pa_nilR))) (by decide)) pa_nilR))) (by decide)) (pa_consR stab_ps (pe_tupR stab_wd (pa_consR stab_wd (pe_tupW (pa_consR stab_n (pe_intR 0) (pa_consR stab_n (pe_intR 1) (pa_consR stab_n (pe_intR 2) pa_nilR))) (by decide)) (pa_consR stab_wd (pe_tupW (pa_consR stab_n (pe_intR 1) (pa_consR stab_n (pe_intR 1) (pa_consR stab_n (pe_intR 2) pa_nilR))) (by decide)) (pa_consR stab_wd (pe_tupW (pa_consR stab_n (pe_intR 2) (pa_consR stab_n (pe_intR 1) (pa_consR stab_n (pe_intR 2) pa_nilR))) (by decide)) pa_nilR))) (by decide)) pa_nilR)) (by decide)))) (pss_cons (ps_set (i := 0) sc_monoids.nd rfl (Or.inl rfl) (pe_op op_cat (pv 0) (pe_lstR stab_ps (pa_consR stab_ps (pe_tupR stab_wd (pa_consR stab_wd (pe_tupW (pa_consR stab_n (pe_intR 0) (pa_consR stab_n (pe_intR 1) (pa_consR stab_n (pe_intR 2) pa_nilR))) (by decide)) (pa_consR stab_wd (pe_tupW (pa_consR stab_n (pe_intR 1) (pa_consR stab_n (pe_intR 1) (pa_consR stab_n (pe_intR 2) pa_nilR))) (by decide)) (pa_consR stab_wd (pe_tupW (pa_consR stab_n (pe_intR 2) (pa_consR stab_n (pe_intR 2) (pa_consR stab_n (pe_intR 2) pa_nilR))) (by decide)) pa_nilR))) (by decide)) (pa_consR stab_ps (pe_tupR stab_wd (pa_consR stab_wd (pe_tupW (pa_consR stab_n (pe_intR 0) (pa_consR stab_n (pe_intR 1) (pa_consR stab_n (pe_intR 2) pa_nilR))) (by decide)) (pa_consR stab_wd (pe_tupW (pa_consR stab_n (pe_intR 1) (pa_consR stab_n (pe_intR 2) (pa_consR stab_n (pe_intR 2) pa_nilR))) (by decide)) (pa_consR stab_wd (pe_tupW (pa_consR stab_n (pe_intR 2) (pa_consR stab_n (pe_intR 2) (pa_consR stab_n (pe_intR 2) pa_nilR))) (by decide)) pa_nilR))) (by decide)) pa_nilR)) (by decide)))) (pss_cons (ps_set (i := 0) sc_monoids.nd rfl (Or.inl rfl) (pe_op op_cat (pv 0) (pe_lstR stab_ps (pa_consR stab_ps (pe_tupR stab_wd (pa_consR stab_wd (pe_tupW (pa_consR stab_n (pe_intR 0) (pa_consR stab_n (pe_intR 1) (pa_consR stab_n (pe_intR 2) pa_nilR))) (by decide)) (pa_consR stab_wd (pe_tupW (pa_consR stab_n (pe_intR 1) (pa_consR stab_n (pe_intR 0) (pa_consR stab_n (pe_intR 2) pa_nilR))) (by decide)) (pa_consR stab_wd (pe_tupW (pa_consR stab_n (pe_intR 2) (pa_consR stab_n (pe_intR 2) (pa_consR stab_n (pe_intR 2) pa_nilR))) (by decide)) pa_nilR))) (by decide)) pa_nilR) (by decide)))) (pss_cons (ps_set (i := 0) sc_monoids.nd rfl (Or.inl rfl) (pe_op op_cat (pv 0) (pe_lstR stab_ps (pa_consR stab_ps (pe_tupR stab_wd (pa_consR stab_wd (pe_tupW (pa_consR stab_n (pe_intR 0) (pa_consR stab_n (pe_intR 1) (pa_consR stab_n (pe_intR 2) (pa_consR stab_n (pe_intR 3) pa_nilR)))) (by decide)) (pa_consR stab_wd (pe_tupW (pa_consR stab_n (pe_intR 1) (pa_consR stab_n (pe_intR 2) (pa_consR stab_n (pe_intR 3) (pa_consR stab_n (pe_intR 0) pa_nilR)))) (by decide)) (pa_consR stab_wd (pe_tupW (pa_consR stab_n (pe_intR 2) (pa_consR stab_n (pe_intR 3) (pa_consR stab_n (pe_intR 0) (pa_consR stab_n (pe_intR 1) pa_nilR)))) (by decide)) (pa_consR stab_wd (pe_tupW (pa_consR stab_n (pe_intR 3) (pa_consR stab_n (pe_intR 0) (pa_consR stab_n (pe_intR 1) (pa_consR stab_n (pe_intR 2) pa_nilR)))) (by decide)) pa_nilR)))) (by decide)) pa_nilR) (by decide)))) (pss_cons (ps_set (i := 0) sc_monoids.nd rfl (Or.inl rfl) (pe_op op_cat (pv 0) (pe_lstR stab_ps (pa_consR stab_ps (pe_tupR stab_wd (pa_consR stab_wd (pe_tupW (pa_consR stab_n (pe_intR 0) (pa_consR stab_n (pe_intR 1) (pa_consR stab_n (pe_intR 2) (pa_consR stab_n (pe_intR 3) pa_nilR)))) (by decide)) (pa_consR stab_wd (pe_tupW (pa_consR stab_n (pe_intR 1) (pa_consR stab_n (pe_intR 0) (pa_consR stab_n (pe_intR 3) (pa_consR stab_n (pe_intR 2) pa_nilR)))) (by decide)) (pa_consR stab_wd (pe_tupW (pa_consR stab_n (pe_intR 2) (pa_consR stab_n (pe_intR 3) (pa_consR stab_n (pe_intR 0) (pa_consR stab_n (pe_intR 1) pa_nilR)))) (by decide)) (pa_consR stab_wd (pe_tupW (pa_consR stab_n (pe_intR 3) (pa_consR stab_n (pe_intR 2) (pa_consR stab_n (pe_intR 1) (pa_consR stab_n (pe_intR 0) pa_nilR)))) (by decide)) pa_nilR)))) (by decide)) pa_nilR) (by decide)))) (pss_cons (ps_set (i := 0) sc_monoids.nd rfl (Or.inl rfl) (pe_op op_cat (pv 0) (pe_lstR stab_ps (pa_consR stab_ps (pe_tupR stab_wd (pa_consR stab_wd (pe_tupW (pa_consR stab_n (pe_intR 0) (pa_consR stab_n (pe_intR 1) (pa_consR stab_n (pe_intR 2) (pa_consR stab_n (pe_intR 3) pa_nilR)))) (by decide)) (pa_consR stab_wd (pe_tupW (pa_consR stab_n (pe_intR 1) (pa_consR stab_n (pe_intR 1) (pa_consR stab_n (pe_intR 1) (pa_consR stab_n (pe_intR 1) pa_nilR)))) (by decide)) (pa_consR stab_wd (pe_tupW (pa_consR stab_n (pe_intR 2) (pa_consR stab_n (pe_intR 2) (pa_consR stab_n (pe_intR 2) (pa_consR stab_n (pe_intR 2) pa_nilR)))) (by decide)) (pa_consR stab_wd (pe_tupW (pa_consR stab_n (pe_intR 3) (pa_consR stab_n (pe_intR 3) (pa_consR stab_n (pe_intR 3) (pa_consR stab_n (pe_intR 3) pa_nilR)))) (by decide)) pa_nilR)))) (by decide)) pa_nilR) (by decide)))) (pss_cons (ps_set (i := 0) sc_monoids.nd rfl (Or.inl rfl) (pe_op op_cat (pv 0) (pe_lstR stab_ps (pa_consR stab_ps (pe_tupR stab_wd (pa_consR stab_wd (pe_tupW (pa_consR stab_n (pe_intR 0) (pa_consR stab_n (pe_intR 1) (pa_consR stab_n (pe_intR 2) (pa_consR stab_n (pe_intR 3) pa_nilR)))) (by decide)) (pa_consR stab_wd (pe_tupW (pa_consR stab_n (pe_intR 1) (pa_consR stab_n (pe_intR 1) (pa_consR stab_n (pe_intR 2) (pa_consR stab_n (pe_intR 3) pa_nilR)))) (by decide)) (pa_consR stab_wd (pe_tupW (pa_consR stab_n (pe_intR 2) (pa_consR stab_n (pe_intR 1) (pa_consR stab_n (pe_intR 2) (pa_consR stab_n (pe_intR 3) pa_nilR)))) (by decide)) (pa_consR stab_wd (pe_tupW (pa_consR stab_n (pe_intR 3) (pa_consR stab_n (pe_intR 1) (pa_consR stab_n (pe_intR 2) (pa_consR stab_n (pe_intR 3) pa_nilR)))) (by decide)) pa_nilR)))) (by decide)) pa_nilR) (by decide)))) (pss_one (ps_ret (pe_op op_cat (pv 0) (pe_lstR stab_ps (pa_consR stab_ps (pe_tupR stab_wd (pa_consR stab_wd (pe_tupW (pa_consR stab_n (pe_intR 0) (pa_consR stab_n (pe_intR 1) (pa_consR stab_n (pe_intR 2) (pa_consR stab_n (pe_intR 3) pa_nilR)))) (by decide)) (pa_consR stab_wd (pe_tupW (pa_consR stab_n (pe_intR 1) (pa_consR stab_n (pe_intR 2) (pa_consR stab_n (pe_intR 3) (pa_consR stab_n (pe_intR 3) pa_nilR)))) (by decide)) (pa_consR stab_wd (pe_tupW (pa_consR stab_n (pe_intR 2) (pa_consR stab_n (pe_intR 3) (pa_consR stab_n (pe_intR 3) (pa_consR stab_n (pe_intR 3) pa_nilR)))) (by decide)) (pa_consR stab_wd (pe_tupW (pa_consR stab_n (pe_intR 3) (pa_consR stab_n (pe_intR 3) (pa_consR stab_n (pe_intR 3) (pa_consR stab_n (pe_intR 3) pa_nilR)))) (by decide)) pa_nilR)))) (by decide)) pa_nilR) (by decide)))))))))))))), ?_⟩
    obtain ⟨rfl, k⟩ := h
    refine fun v0 H0 s0 h0 => ?_
    refine ⟨_, rfl, fun u1 G1 t1 g1 => cat_step stab_ps (h0.same stab_ps t1) g1 (by decide) fun p1 H1 s1 h1 => ?_⟩
    refine ⟨_, rfl, fun u2 G2 t2 g2 => cat_step stab_ps (h1.same stab_ps t2) g2 (by decide) fun p2 H2 s2 h2 => ?_⟩
    refine ⟨_, rfl, fun u3 G3 t3 g3 => cat_step stab_ps (h2.same stab_ps t3) g3 (by decide) fun p3 H3 s3 h3 => ?_⟩
    refine ⟨_, rfl, fun u4 G4 t4 g4 => cat_step stab_ps (h3.same stab_ps t4) g4 (by decide) fun p4 H4 s4 h4 => ?_⟩
    refine ⟨_, rfl, fun u5 G5 t5 g5 => cat_step stab_ps (h4.same stab_ps t5) g5 (by decide) fun p5 H5 s5 h5 => ?_⟩
    refine ⟨_, rfl, fun u6 G6 t6 g6 => cat_step stab_ps (h5.same stab_ps t6) g6 (by decide) fun p6 H6 s6 h6 => ?_⟩
    refine ⟨_, rfl, fun u7 G7 t7 g7 => cat_step stab_ps (h6.same stab_ps t7) g7 (by decide) fun p7 H7 s7 h7 => ?_⟩
    refine ⟨_, rfl, fun u8 G8 t8 g8 => cat_step stab_ps (h7.same stab_ps t8) g8 (by decide) fun p8 H8 s8 h8 => ?_⟩
    refine ⟨_, rfl, fun u9 G9 t9 g9 => cat_step stab_ps (h8.same stab_ps t9) g9 (by decide) fun p9 H9 s9 h9 => ?_⟩
    exact k _ _ (((((((((s0.trans (t1.trans s1)).trans (t2.trans s2)).trans (t3.trans s3)).trans (t4.trans s4)).trans (t5.trans s5)).trans (t6.trans s6)).trans (t7.trans s7)).trans (t8.trans s8)).trans (t9.trans s9)) h9
end
end K68D
/-! The law's machines and words. -/
namespace K68D
open PySem PySem.Spec PyProof.Rows L2 K68R K68K K68T K68
section
variable {w : World} {K : PySem.W.Frag} {mg : Str → Option Value} {base : Heap}
theorem nats_of {ys : List V} {P : Nat → Prop} (h : ∀ (i : Nat) (y : V), ys[i]? = some y → ∃ x, y = nV x ∧ P x) : ∃ r : List Nat, ys = r.map nV ∧ ∀ x ∈ r, P x := by
  induction ys with
  | nil => exact ⟨[], rfl, fun x hx => absurd hx (by simp)⟩
  | cons a l ih =>
    obtain ⟨x, e, hp⟩ := h 0 a rfl
    obtain ⟨r, er, hr⟩ := ih fun i y hy => h (i + 1) y (by simpa using hy)
    refine ⟨x :: r, by rw [er, e]; rfl, fun z hz => ?_⟩
    rcases List.mem_cons.mp hz with hz | hz
    · rw [hz]
      exact hp
    · exact hr z hz
theorem draw_at {ds ss : List Nat} {j s : Nat} (hd : Drawn ds ss) (hl : ds.length = ss.length) (hs : ss[j]? = some s) : ∃ d, ds[j]? = some d ∧ d < s ∧ atI (ds.map nV) (j : Int) = some (nV d) := by
  have hj : j < ds.length := by
    rw [hl]
    exact (List.getElem?_eq_some_iff.mp hs).1
  have e : ds[j]? = some ds[j] := List.getElem?_eq_getElem hj
  exact ⟨_, e, hd j _ _ e hs, atI_nat (by rw [List.getElem?_map, e]; rfl)⟩
theorem cut_lh {xs : List V} {lo hi : Nat} (h1 : lo ≤ hi) (h2 : hi ≤ xs.length) : cutV xs (some (lo : Int)) (some (hi : Int)) = (xs.drop lo).take (hi - lo) := by
  unfold cutV
  rw [HT.sIx_nat, HT.sIx_nat, Nat.min_eq_left h2, Nat.min_eq_left (by omega)]
theorem cut_nat {l : List Nat} {lo hi : Nat} (h1 : lo ≤ hi) (h2 : hi ≤ l.length) : cutV (l.map nV) (some (lo : Int)) (some (hi : Int)) = ((l.drop lo).take (hi - lo)).map nV := by
  rw [cut_lh h1 (by rw [List.length_map]; exact h2), List.map_take, List.map_drop]
theorem drawn_from {ds ss : List Nat} {lo k n : Nat} (hd : Drawn ds ss) (hl : ds.length = ss.length) (hn : ∀ j s, lo ≤ j → ss[j]? = some s → s ≤ n) : ∀ x ∈ (ds.drop lo).take k, x < n := fun x hx => by
  have hx' := List.mem_of_mem_take hx
  obtain ⟨i, hi⟩ := List.mem_iff_getElem?.mp hx'
  rw [List.getElem?_drop] at hi
  have h1 := (List.getElem?_eq_some_iff.mp hi).1
  have hs : ss[lo + i]? = some (ss[lo + i]'(by omega)) := List.getElem?_eq_getElem _
  have a := hd _ _ _ hi hs
  have b := hn _ _ (by omega) hs
  omega
/-! ### _law_word -/
def spLWord : Sp := fun vs H Q _ => ∃ (z : Int) (n : Nat), vs = [.int z, nV n, nV 5] ∧ 0 < n ∧ n < 1000 ∧ Res H Q fun H' v => ∃ wd, Wd H' v wd ∧ wd.length ≤ 5 ∧ ∀ x ∈ wd, x < n
theorem sc_lword : FnScope ["_law_cell_here", "_law_letters", "_law_cap", "_law_numbers"] ["_law_cell_here", "_law_letters", "_law_cap"] (defScope b__law_word) := ⟨rfl, rfl, rfl, by decide +kernel, rfl, by decide +kernel, by decide +kernel⟩
theorem r_lword (T : Txt K mg) : FnR PP w K mg base CX0 2 (He.ga K "_law_word") spLWord := by
  obtain ⟨fd, F⟩ := T.F__law_word
  obtain ⟨_, FD⟩ := T.F__law_draws
  refine mkR F sc_lword (fun _ _ _ _ _ _ us hl => match us, hl with | [_, _, _], _ => rfl) (fun vs H Q E h => ?_) (fun cdv A outer s H vs Q E hr h => ?_)
  · obtain ⟨z, n, rfl, _⟩ := h
    rfl
  · refine ⟨_, PSs.nox (pss_cons (ps_set (i := 3) sc_lword.nd rfl (Or.inl rfl) (pe_callR (r_draws T) hr rfl T.g__law_draws FD.kp pass0 (pa_cons (pv 0) (pa_cons (pe_op op_cat (pe_lst (pa_cons (pe_op op_add (pv 2) pe_int) pa_nil)) (pe_op op_rep (pe_lst (pa_cons (pv 1) pa_nil)) (pv 2))) pa_nil))))
      (pss_one (ps_ret (pe_callTy call_tuple_of rfl T.f_tuple (by decide +kernel) (pa_cons (pe_slice sl_list (pv 3) (po_some pe_int) (po_some (pe_op op_add pe_int (pe_ix ix_list (pv 3) pe_int (fun _ _ => rfl))))) pa_nil))))), ?_⟩
    obtain ⟨z, n, rfl, h0, h1, r⟩ := h
    refine ⟨_, rfl, _, rfl, _, _, rfl, rfl, show 1 ≤ sizeLine by decide, fun a ha => ?_⟩
    refine ⟨_, rfl, show 1 ≤ sizeLine by decide, fun b hb => ⟨_, rfl, b, 5, _, rfl, rfl, upd_same, by decide, by decide, show 1 * 5 ≤ sizeLine by decide, fun c hc => ?_⟩⟩
    have s1 := (same_upd (o := .lst [nV 6]) ha)
    have s2 := (same_upd (o := .lst [nV n]) hb)
    have s3 := (same_upd (o := .lst [nV n, nV n, nV n, nV n, nV n]) hc)
    have ea := s3 _ _ (s2 _ _ (upd_same (H := H)))
    refine ⟨a, c, _, _, rfl, rfl, ea, upd_same, show 6 ≤ sizeLine by decide, fun p hp => ?_⟩
    have s4 := same_upd (o := .lst [nV 6, nV n, nV n, nV n, nV n, nV n]) hp
    have s14 := ((s1.trans s2).trans s3).trans s4
    refine ⟨z, p, [6, n, n, n, n, n], rfl, upd_same, show 6 ≤ 100 by decide, fun s hs => ?_, fun v H1 s5 h5 => ?_⟩
    · simp only [List.mem_cons, List.not_mem_nil, or_false] at hs
      omega
    · obtain ⟨ds, ⟨q, rfl, hq⟩, hl, hd⟩ := h5
      obtain ⟨d0, e0, l0, a0⟩ := draw_at (j := 0) hd hl rfl
      have hl6 : ds.length = 6 := hl
      refine ⟨_, rfl, _, rfl, _, rfl, q, _, _, _, rfl, rfl, SqL.of hq, a0, _, _, rfl, rfl, _, rfl, q, _, rfl, SqL.of hq, fun D hD => ?_⟩
      have s6 := same_upd (o := .lst (cutV (ds.map nV) (some 1) (some (1 + (d0 : Int))))) hD
      refine ⟨D, _, rfl, .inl ⟨SqL.of upd_same, fun t ht => ?_⟩⟩
      have ec : cutV (ds.map nV) (some 1) (some (1 + (d0 : Int))) = ((ds.drop 1).take (1 + d0 - 1)).map nV := cut_nat (lo := 1) (hi := 1 + d0) (by omega) (by omega)
      refine r _ _ (((s14.trans s5).trans s6).trans (same_upd ht)) ⟨(ds.drop 1).take (1 + d0 - 1), Wd.of (by rw [upd_same, ec]), ?_, ?_⟩
      · rw [List.length_take, List.length_drop]
        omega
      · refine drawn_from hd hl fun j s hj hs => ?_
        match j, hj, hs with
        | 1, _, hs => exact Nat.le_of_eq (Option.some.inj hs).symm
        | 2, _, hs => exact Nat.le_of_eq (Option.some.inj hs).symm
        | 3, _, hs => exact Nat.le_of_eq (Option.some.inj hs).symm
        | 4, _, hs => exact Nat.le_of_eq (Option.some.inj hs).symm
        | 5, _, hs => exact Nat.le_of_eq (Option.some.inj hs).symm
        | _ + 6, _, hs => exact absurd hs (by simp)
end
end K68D
/-! The law's machines: any one. -/
namespace K68D
open PySem PySem.Spec PyProof.Rows L2 K68R K68K K68T K68
section
variable {w : World} {K : PySem.W.Frag} {mg : Str → Option Value} {base : Heap}
theorem lw_nat {H : Hp} {v : V} {l : List Nat} (h : Lw R0 H v l) : ∃ a, v = .ref a ∧ H a = some (.lst (l.map nV)) := by
  obtain ⟨a, xs, rfl, ha, z⟩ := h
  exact ⟨a, rfl, by rw [ha, All2.map_eq z]⟩
theorem rep_step {σ : L2.St} {H : Hp} {u : V} {l : List Nat} {Q : VK} (n : Nat) (h : Lw R0 H u l) (hl : l.length * n ≤ 1000) (hn : n ≤ 1000) (k : ∀ p H', Same H H' → Lw R0 H' (.ref p) (List.replicate n l).flatten → Q (.ref p) H') : tC (.int (n : Int)) σ H fun y H2 => rRep u y H2 Q := by
  obtain ⟨a, rfl, ha⟩ := lw_nat h
  refine ⟨a, n, _, rfl, rfl, ha, by omega, by omega, sz_line (by rw [List.length_map]; exact hl), fun p hp => k p _ (same_upd hp) ⟨p, _, rfl, upd_same, ?_⟩⟩
  have e : (List.replicate (n : Int).toNat (l.map nV)).flatten = ((List.replicate n l).flatten).map nV := by
    rw [List.map_flatten, List.map_replicate]
    rfl
  rw [e]
  exact all2_map
def spMach : Sp := fun vs H Q _ => ∃ z : Int, vs = [.int z] ∧ Res H Q fun H' v => ∃ m, m.Ok ∧ Mc H' v m
theorem sc_any : FnScope ["_law_cell_here", "_law_numbers", "_law_letters", "_law_many", "_law_moves", "_law_at", "_law_state", "_law_letter", "_law_cap", "_law_outs"] ["_law_cell_here"] (defScope b__law_any) := ⟨rfl, rfl, rfl, by decide +kernel, rfl, by decide +kernel, by decide +kernel⟩
theorem cap_ok : ∀ d, d < 4 → 2 ≤ [2, 2, 3, 10].getD d 0 ∧ [2, 2, 3, 10].getD d 0 ≤ 10 := by decide
theorem side_at : ∀ d : Nat, d < 2 → atI [V.str "left", V.str "right"] (d : Int) = some (.str (sideS (decide (d = 0)))) := fun d h => by
  match d, h with
  | 0, _ => rfl
  | 1, _ => rfl
theorem r_any (T : Txt K mg) : FnR PP w K mg base CX0 2 (He.ga K "_law_any") spMach := by
  obtain ⟨fd, F⟩ := T.F__law_any
  obtain ⟨_, FD⟩ := T.F__law_draws
  refine mkR F sc_any (fun _ _ _ _ _ _ us hl => match us, hl with | [_], _ => rfl) (fun vs H Q E h => ?_) (fun cdv A outer s H vs Q E hr h => ?_)
  · obtain ⟨z, rfl, _⟩ := h
    rfl
  · refine ⟨_, PSs.nox (pss_cons (ps_set (i := 1) sc_any.nd rfl (Or.inr rfl) (pe_callR (r_draws T) hr rfl T.g__law_draws FD.kp pass0 (pa_cons (pv 0) (pa_cons (pe_op op_cat
        (pe_lstR stab_n (pa_consR stab_n (pe_intR 2) (pa_consR stab_n (pe_intR 2) (pa_consR stab_n (pe_intR 4) (pa_consR stab_n (pe_intR 12) (pa_consR stab_n (pe_intR 4) pa_nilR))))) (by decide))
        (pe_op op_rep (pe_lstR stab_n (pa_consR stab_n (pe_intR 12) pa_nilR) (by decide)) pe_int)) pa_nil))))
      (pss_cons (ps_asg (pe_tup (pa_cons (pe_op op_add pe_int (pe_ix ix_list (pv 1) pe_int (fun _ _ => rfl))) (pa_cons (pe_op op_add pe_int (pe_ix ix_list (pv 1) pe_int (fun _ _ => rfl))) pa_nil)))
        (pg_tup (by rfl) (pgs_cons (pg_name (i := 2) sc_any.nd rfl (Or.inl rfl)) (pgs_cons (pg_name (i := 3) sc_any.nd rfl (Or.inr rfl)) pgs_nil))))
      (pss_cons (ps_asg (pe_tup (pa_cons (pe_lst pa_nil) (pa_cons pe_int pa_nil))) (pg_tup (by rfl) (pgs_cons (pg_name (i := 4) sc_any.nd rfl (Or.inl rfl)) (pgs_cons (pg_name (i := 5) sc_any.nd rfl (Or.inr rfl)) pgs_nil))))
      (pss_cons (ps_for PassesOwn.never rfl (pi_range1 rfl T.f_range (pa_cons (pv 3) pa_nil)) (pg_name (i := 6) sc_any.nd rfl (Or.inl rfl))
        (pss_cons (ps_expr (pe_bm PySem.F.plainAttrs_list PySem.F.slot_list_append PySem.F.type_list_append mt_append (pv 4) (pa_cons (pe_callTy call_tuple_of rfl T.f_tuple (by decide +kernel) (pa_cons
          (pe_lc (own := [("_law_letter", 7)]) (g := gName 7) (tt := tYes) rfl sc_any.nd (pi_range1 rfl T.f_range (pa_cons (pv 2) pa_nil)) (blkOk_by (N := ["_law_cell_here", "_law_numbers", "_law_letters", "_law_many", "_law_moves", "_law_at", "_law_state", "_law_letter", "_law_cap", "_law_outs"]) (sc := defScope b__law_any) (by decide +kernel))
            (fun _ _ _ _ _ => pg_name (i := 7) sc_any.nd rfl (Or.inl rfl)) (fun _ _ _ _ _ => pts_nil) (fun _ _ _ _ _ => pe_op op_mod (pe_ix (ixL K) (pv 1) (pe_op op_add (pv 5) (pv 7)) (fun _ _ => rfl)) (pv 3))) pa_nil)) pa_nil)))
        (pss_one (ps_set (i := 5) sc_any.nd rfl (Or.inr rfl) (pe_op op_add (pv 5) pe_int)))))
      (pss_cons (ps_set (i := 8) sc_any.nd rfl (Or.inr rfl) (pe_ix ix_list (pe_lstR stab_n (pa_consR stab_n (pe_intR 2) (pa_consR stab_n (pe_intR 2) (pa_consR stab_n (pe_intR 3) (pa_consR stab_n (pe_intR 10) pa_nilR)))) (by decide)) (pe_ix ix_list (pv 1) pe_int (fun _ _ => rfl)) (fun _ _ => rfl)))
      (pss_cons (ps_set (i := 9) sc_any.nd rfl (Or.inl rfl) (pe_callTy call_tuple_of rfl T.f_tuple (by decide +kernel) (pa_cons
          (pe_lc (own := [("_law_state", 6)]) (g := gName 6) (tt := tYes) rfl sc_any.nd (pi_range1 rfl T.f_range (pa_cons (pv 3) pa_nil)) (blkOk_by (N := ["_law_cell_here", "_law_numbers", "_law_letters", "_law_many", "_law_moves", "_law_at", "_law_state", "_law_letter", "_law_cap", "_law_outs"]) (sc := defScope b__law_any) (by decide +kernel))
            (fun _ _ _ _ _ => pg_name (i := 6) sc_any.nd rfl (Or.inl rfl)) (fun _ _ _ _ _ => pts_nil) (fun _ _ _ _ _ => pe_op op_mod (pe_op op_add (pe_ix (ixL K) (pv 1) (pe_op op_add pe_int (pv 6)) (fun _ _ => rfl)) (pe_op op_mul (pv 6) (pe_op op_fdiv (pv 8) pe_int))) (pv 8))) pa_nil)))
      (pss_one (ps_ret (pe_tup (pa_cons (pv 2) (pa_cons (pe_ix ix_list (pe_lst (pa_cons pe_str (pa_cons pe_str pa_nil))) (pe_ix ix_list (pv 1) pe_int (fun _ _ => rfl)) (fun _ _ => rfl)) (pa_cons (pe_op op_mod (pe_ix ix_list (pv 1) pe_int (fun _ _ => rfl)) (pv 3))
        (pa_cons (pe_callTy call_tuple_of rfl T.f_tuple (by decide +kernel) (pa_cons (pv 4) pa_nil)) (pa_cons (pv 9) pa_nil)))))))))))))), ?_⟩
    obtain ⟨z, rfl, r⟩ := h
    refine ⟨_, rfl, fun v1 H1 s1 h1 v2 H2 s2 h2 => rep_step 16 h2 (by decide) (by decide) fun p3 H3 s3 h3 => cat_step stab_n (h1.same stab_n (s2.trans s3)) h3 (by decide) fun p4 H4 s4 h4 => ?_⟩
    obtain ⟨p4', e4, hp4⟩ := lw_nat h4
    obtain rfl : p4 = p4' := V.ref.inj e4
    refine ⟨z, p4, _, rfl, hp4, by decide, by decide, fun v5 H5 s5 h5 => ?_⟩
    obtain ⟨ds, ⟨q, rfl, hq⟩, hl, hd⟩ := h5
    have hl21 : ds.length = 21 := hl
    obtain ⟨d0, e0, l0, a0⟩ := draw_at (j := 0) hd hl rfl
    obtain ⟨d1, e1, l1, a1⟩ := draw_at (j := 1) hd hl rfl
    obtain ⟨d2, e2, l2, a2⟩ := draw_at (j := 2) hd hl rfl
    obtain ⟨d3, e3, l3, a3⟩ := draw_at (j := 3) hd hl rfl
    obtain ⟨d4, e5, l4, a4⟩ := draw_at (j := 4) hd hl rfl
    have sA : Same H H5 := (((s1.trans s2).trans s3).trans s4).trans s5
    -- letters, many
    refine ⟨_, rfl, q, _, _, _, rfl, rfl, SqL.of hq, a0, _, _, rfl, rfl, _, rfl, q, _, _, _, rfl, rfl, SqL.of hq, a2, _, _, rfl, rfl, show 2 ≤ sizeLine by decide, fun t6 ht6 => ⟨t6, _, rfl, SqT.of upd_same, rfl, _, _, rfl, _, _, rfl, rfl, ?_⟩⟩
    have s6 := same_upd (o := .tup [V.int (2 + (d0 : Int)), V.int (1 + (d2 : Int))]) ht6
    -- moves, at
    refine ⟨show 0 ≤ sizeLine by decide, fun f hf => ⟨show 2 ≤ sizeLine by decide, fun t7 ht7 => ⟨t7, _, rfl, SqT.of upd_same, rfl, _, _, rfl, _, _, rfl, rfl, ?_⟩⟩⟩
    have sB : Same H (upd H5 t6 (.tup [V.int (2 + (d0 : Int)), V.int (1 + (d2 : Int))])) := sA.trans s6
    have hqB := s6 _ _ hq
    have sC := same_upd (o := .lst []) hf
    have sD := same_upd (o := .tup [V.ref f, V.int 5]) ht7
    have hfD := sD _ _ (upd_same (H := upd H5 t6 (.tup [V.int (2 + (d0 : Int)), V.int (1 + (d2 : Int))])) (a := f) (o := .lst []))
    generalize hG : upd H5 t6 (.tup [V.int (2 + (d0 : Int)), V.int (1 + (d2 : Int))]) = G at *
    refine ⟨_, rfl, ((1 + d2 : Nat) : Int), rfl, by omega, by omega, for_range (n := 1 + d2) (fun i σ H' => ∃ (xs : List V) (rows : List Word) (u : Option V), σ = [some (.int z), some (.ref q), some (nV (2 + d0)), some (nV (1 + d2)), some (.ref f), some (nV (5 + 3 * i)), u, none, none, none] ∧
      Same G H' ∧ H' f = some (.lst xs) ∧ All2 (Wd H') xs rows ∧ rows.length = i ∧ ∀ r ∈ rows, r.length = 2 + d0 ∧ ∀ x ∈ r, x < 1 + d2) ⟨[], [], none, rfl, sC.trans sD, hfD, All2.nil, rfl, fun r hr => absurd hr (by simp)⟩ ?_ ?_⟩
    · rintro i σ H' hi ⟨xs, rows, u, rfl, s8, hfl, zr, hrl, hrow⟩
      rw [show (0 : Int) + (i : Int) = (i : Int) by omega]
      have hqi := s8 _ _ hqB
      refine ⟨_, rfl, .inl ⟨rfl, _, SqL.of hfl⟩, _, rfl, ((2 + d0 : Nat) : Int), rfl, by omega, by omega, fun D hD => lcN (k := 7) (n := 2 + d0) (fun j H v => ∃ x : Nat, v = nV x ∧ x < 1 + d2) (fun _ _ _ _ _ h => h) hD (by omega) (fun x => rfl) (fun j H9 Q9 hj s9 r9 => ?_) fun H9 ys s9 hys hlen hv => ?_⟩
      · have hix : 5 + 3 * i + j < ds.length := by omega
        refine ⟨_, rfl, _, rfl, _, rfl, _, _, rfl, rfl, q, _, ((5 + 3 * i + j : Nat) : Int), _, rfl, rfl, SqL.of (s9 _ _ hqi), at_nV hix, _, rfl, _, _, rfl, rfl, (by show (0 : Int) < ((1 + d2 : Nat) : Int); omega), r9.now ?_⟩
        exact mod_nat (ds.getD (5 + 3 * i + j) 0 : Int) (show 0 < 1 + d2 by omega)
      · obtain ⟨row, rfl, hx⟩ := nats_of (P := fun x => x < 1 + d2) hv
        have hfl9 := s9 _ _ hfl
        refine ⟨D, _, rfl, .inl ⟨SqL.of hys, fun t ht => ?_⟩⟩
        have s10 := same_upd (o := .tup (row.map nV)) ht
        have hfl10 := s10 _ _ hfl9
        refine ⟨f, xs, _, rfl, rfl, hfl10, small1000 (by rw [zr.1]; omega), ?_⟩
        have tk : TK (upd H9 t (.tup (row.map nV))) (upd (upd H9 t (.tup (row.map nV))) f (.lst (xs ++ [.ref t]))) := fun b zs e => by
          rw [upd_ne fun y => by rw [y, hfl10] at e; cases e]
          exact e
        have nf : G f = none := hf
        refine ⟨_, rfl, _, _, rfl, rfl, xs ++ [.ref t], rows ++ [row], some (nV i), rfl, same_set ((s8.trans s9).trans s10) nf, upd_same, ?_, by rw [List.length_append, hrl]; rfl, fun r hr => ?_⟩
        · exact ((zr.imp fun a b h => stab_wd _ _ _ _ tk (stab_wd _ _ _ _ (TK.of (s9.trans s10)) h))).append (.cons (stab_wd _ _ _ _ tk (Wd.of upd_same)) .nil)
        · rcases List.mem_append.mp hr with hr | hr
          · exact hrow r hr
          · rw [List.mem_singleton.mp hr]
            refine ⟨?_, hx⟩
            rw [← hlen, List.length_map]
    · rintro σ H' ⟨xs, rows, u, rfl, s8, hfl, zr, hrl, hrow⟩
      have hqi := s8 _ _ hqB
      -- cap
      refine fun v9 H9 s9 h9 => ?_
      obtain ⟨ac, rfl, hac⟩ := lw_nat h9
      obtain ⟨c1, c2⟩ := cap_ok d4 l4
      refine ⟨_, rfl, q, _, _, _, rfl, rfl, SqL.of (s9 _ _ hqi), a4, ac, _, _, _, rfl, rfl, SqL.of hac, at_nV (by exact l4), ?_⟩
      -- outs
      refine ⟨_, rfl, ((1 + d2 : Nat) : Int), rfl, by omega, by omega, fun D hD => lcN (k := 6) (n := 1 + d2) (fun j H v => ∃ x : Nat, v = nV x ∧ x < 10) (fun _ _ _ _ _ h => h) hD (by omega) (fun x => rfl) (fun j H10 Q10 hj s10 r10 => ?_) fun H10 ys s10 hys hlen hv => ?_⟩
      · have hix : 17 + j < ds.length := by omega
        refine ⟨_, rfl, _, rfl, _, _, rfl, rfl, q, _, ((17 + j : Nat) : Int), _, rfl, rfl, SqL.of (s10 _ _ (s9 _ _ hqi)), at_nV hix, _, rfl, _, rfl, _, _, rfl, rfl, ⟨by decide, by decide⟩, _, _, rfl, rfl, .inl ⟨by omega, by omega⟩, _, _, rfl, rfl, _, rfl, _, _, rfl, rfl, (by show (0 : Int) < (([2, 2, 3, 10].getD d4 0 : Nat) : Int); omega), r10.now ?_⟩
        obtain ⟨x, ex, hx⟩ := mod_nat ((ds.getD (17 + j) 0 : Int) + (j : Int) * ((([2, 2, 3, 10].getD d4 0 : Nat) : Int) / 10)) (show 0 < [2, 2, 3, 10].getD d4 0 by omega)
        exact ⟨x, ex, by omega⟩
      · obtain ⟨outs, rfl, hx⟩ := nats_of (P := fun x => x < 10) hv
        refine ⟨D, _, rfl, .inl ⟨SqL.of hys, fun ao hao => ?_⟩⟩
        have s11 := same_upd (o := .tup (outs.map nV)) hao
        have hqe := s11 _ _ (s10 _ _ (s9 _ _ hqi))
        refine ⟨_, rfl, show 2 ≤ sizeLine by decide, fun b hb => ?_⟩
        have s12 := same_upd (o := .lst [V.str "left", V.str "right"]) hb
        refine ⟨_, rfl, q, _, _, _, rfl, rfl, SqL.of (s12 _ _ hqe), a1, b, _, _, _, rfl, rfl, SqL.of upd_same, side_at d1 l1, ?_⟩
        refine ⟨_, rfl, q, _, _, _, rfl, rfl, SqL.of (s12 _ _ hqe), a3, _, rfl, _, _, rfl, rfl, (by show (0 : Int) < ((1 + d2 : Nat) : Int); omega), ?_⟩
        have hfe := s12 _ _ (s11 _ _ (s10 _ _ (s9 _ _ hfl)))
        refine ⟨_, rfl, f, xs, rfl, .inl ⟨SqL.of hfe, fun am ham => ?_⟩⟩
        have s13 := same_upd (o := .tup xs) ham
        refine ⟨_, rfl, show 5 ≤ sizeLine by decide, fun p hp => ?_⟩
        have s14 := same_upd (o := .tup [V.int (2 + (d0 : Int)), V.str (sideS (decide (d1 = 0))), V.int ((d3 : Int) % ((1 + d2 : Nat) : Int)), V.ref am, V.ref ao]) hp
        have sE := ((((s9.trans s10).trans s11).trans s12).trans s13).trans s14
        refine r _ _ (sB.trans (s8.trans sE)) ⟨⟨2 + d0, decide (d1 = 0), d3 % (1 + d2), rows, outs⟩, ⟨by show 2 ≤ 2 + d0; omega, by show 2 + d0 ≤ 3; omega, by show 1 ≤ rows.length; omega, by show rows.length ≤ 4; omega, ?_, fun r' hr' => ?_, ?_, hx⟩, p, am, ao, rfl, upd_same, Tw.of (s14 _ _ upd_same) (zr.imp fun a b h => stab_wd _ _ _ _ (TK.of sE) h), Wd.of (s14 _ _ (s13 _ _ (s12 _ _ upd_same)))⟩
        · show d3 % (1 + d2) < rows.length
          rw [hrl]
          exact Nat.mod_lt _ (by omega)
        · obtain ⟨x1, x2⟩ := hrow r' hr'
          exact ⟨x1, fun x hx' => by show x < rows.length; rw [hrl]; exact x2 x hx'⟩
        · show outs.length = rows.length
          rw [hrl, ← hlen, List.length_map]
end
end K68D
/-! The law's machines: the split ones. -/
namespace K68D
open PySem PySem.Spec PyProof.Rows L2 K68R K68K K68T K68
section
variable {w : World} {K : PySem.W.Frag} {mg : Str → Option Value} {base : Heap}
def rTupK (K : PySem.W.Frag) : List V → Hp → VK → Prop := fun xs H Q => ∃ p ys, xs = [.ref p] ∧ ((SqL K H p ys ∧ ∀ l, H l = none → Q (.ref l) (upd H l (.tup ys))) ∨ (SqT K H p ys ∧ Q (.ref p) H))
theorem tupK {X : Cx} (K : PySem.W.Frag) (h : X.K = K := by rfl) : CallR X (.type "tuple") (rTupK K) := h ▸ call_tuple_of
theorem wds_of {H : Hp} {ys : List V} {P : Word → Prop} (h : ∀ (i : Nat) (y : V), ys[i]? = some y → ∃ x, Wd H y x ∧ P x) : ∃ r : List Word, All2 (Wd H) ys r ∧ ∀ x ∈ r, P x := by
  induction ys with
  | nil => exact ⟨[], All2.nil, fun x hx => absurd hx (by simp)⟩
  | cons a l ih =>
    obtain ⟨x, e, hp⟩ := h 0 a rfl
    obtain ⟨r, er, hr⟩ := ih fun i y hy => h (i + 1) y (by simpa using hy)
    refine ⟨x :: r, .cons e er, fun z hz => ?_⟩
    rcases List.mem_cons.mp hz with hz | hz
    · rw [hz]
      exact hp
    · exact hr z hz
abbrev Nsp : List Str := ["_law_cell_here", "_law_numbers", "_law_table", "_law_letters", "_law_many", "_law_step", "_law_values", "_law_outs", "_law_moves", "_law_number", "_law_state", "_law_row", "_law_one"]
def scRow : Scope := { kind := .function, names := [(".0", .local), ("_law_row", .cell), ("tuple", .globalImplicit), ("_law_values", .cell)], isGenerator := false, isCoroutine := false }
def scSta : Scope := { kind := .function, names := [(".0", .local), ("_law_state", .cell), ("tuple", .globalImplicit), ("_law_table", .cell), ("_law_values", .cell)], isGenerator := false, isCoroutine := false }
theorem sc_split : FnScope Nsp ["_law_cell_here"] (defScope b__law_splitting) := ⟨rfl, rfl, rfl, by decide +kernel, rfl, by decide +kernel, by decide +kernel⟩
theorem get_mem {α : Type} {l : List α} {i : Nat} {d : α} (h : i < l.length) : l.getD i d ∈ l := by
  rw [List.getD_eq_getElem?_getD, List.getElem?_eq_getElem h]
  exact List.getElem_mem h
theorem step_ok : ∀ d, d < 4 → [1, 3, 7, 9].getD d 0 ≤ 9 := by decide
theorem r_split (T : Txt K mg) : FnR PP w K mg base CX0 2 (He.ga K "_law_splitting") spMach := by
  obtain ⟨fd, F⟩ := T.F__law_splitting
  obtain ⟨_, FD⟩ := T.F__law_draws
  obtain ⟨_, FM⟩ := T.F__law_monoids
  refine mkR F sc_split (fun _ _ _ _ _ _ us hl => match us, hl with | [_], _ => rfl) (fun vs H Q E h => ?_) (fun cdv A outer s H vs Q E hr h => ?_)
  · obtain ⟨z, rfl, _⟩ := h
    rfl
  · refine ⟨_, PSs.nox (pss_cons (ps_set (i := 1) sc_split.nd rfl (Or.inr rfl) (pe_callR (r_draws T) hr rfl T.g__law_draws FD.kp pass0 (pa_cons (pv 0) (pa_cons
        (pe_lstR stab_n (pa_consR stab_n (pe_intR 14) (pa_consR stab_n (pe_intR 2) (pa_consR stab_n (pe_intR 2) (pa_consR stab_n (pe_intR 10) (pa_consR stab_n (pe_intR 4) (pa_consR stab_n (pe_intR 12) (pa_consR stab_n (pe_intR 12) (pa_consR stab_n (pe_intR 12) pa_nilR)))))))) (by decide)) pa_nil))))
      (pss_cons (ps_asg (pe_tup (pa_cons (pe_ix ix_list (pe_callR0 (r_monoids T) hr rfl T.g__law_monoids FM.kp pass0) (pe_ix ix_list (pv 1) pe_int (fun _ _ => rfl)) (fun _ _ => rfl)) (pa_cons (pe_op op_add pe_int (pe_ix ix_list (pv 1) pe_int (fun _ _ => rfl))) pa_nil)))
        (pg_tup (by rfl) (pgs_cons (pg_name (i := 2) sc_split.nd rfl (Or.inr rfl)) (pgs_cons (pg_name (i := 3) sc_split.nd rfl (Or.inl rfl)) pgs_nil))))
      (pss_cons (ps_asg (pe_tup (pa_cons (pe_callB call_len rfl T.f_len boot_len (pa_cons (pv 2) pa_nil)) (pa_cons (pe_ix ix_tup (pe_tupW (pa_consR stab_n (pe_intR 1) (pa_consR stab_n (pe_intR 3) (pa_consR stab_n (pe_intR 7) (pa_consR stab_n (pe_intR 9) pa_nilR)))) (by decide)) (pe_ix ix_list (pv 1) pe_int (fun _ _ => rfl)) (fun _ _ => rfl)) pa_nil)))
        (pg_tup (by rfl) (pgs_cons (pg_name (i := 4) sc_split.nd rfl (Or.inr rfl)) (pgs_cons (pg_name (i := 5) sc_split.nd rfl (Or.inr rfl)) pgs_nil))))
      (pss_cons (ps_set (i := 6) sc_split.nd rfl (Or.inr rfl) (pe_lc (own := [("_law_number", 9)]) (g := gName 9) (tt := tYes) rfl sc_split.nd (pi_list (pe_slice sl_list (pv 1) (po_some pe_int) (po_some (pe_op op_add pe_int (pv 3))))) (blkOk_by (N := Nsp) (sc := defScope b__law_splitting) (by decide +kernel))
        (fun _ _ _ _ _ => pg_name (i := 9) sc_split.nd rfl (Or.inl rfl)) (fun _ _ _ _ _ => pts_nil) (fun _ _ _ _ _ => pe_op op_mod (pv 9) (pv 4))))
      (pss_cons (ps_set (i := 7) sc_split.nd rfl (Or.inl rfl) (pe_callTy call_tuple_of rfl T.f_tuple (by decide +kernel) (pa_cons (pe_lc (own := [("_law_state", 10)]) (g := gName 10) (tt := tYes) rfl sc_split.nd (pi_range1 rfl T.f_range (pa_cons (pv 4) pa_nil)) (blkOk_by (N := Nsp) (sc := defScope b__law_splitting) (by decide +kernel))
        (fun _ _ _ _ _ => pg_name (i := 10) sc_split.nd rfl (Or.inl rfl)) (fun _ _ _ _ _ => pts_nil) (fun _ _ _ _ _ => pe_op op_mod (pe_op op_add (pe_ix (ixL K) (pv 1) pe_int (fun _ _ => rfl)) (pe_op op_mul (pv 5) (pv 10))) pe_int)) pa_nil)))
      (pss_cons (ps_if (pt_cmpR op_eq (pe_ix ix_list (pv 1) pe_int (fun _ _ => rfl)) pe_int (nomark _))
        (pss_one (ps_ret (pe_tup (pa_cons (pv 3) (pa_cons pe_str (pa_cons pe_int (pa_cons (pe_callTy call_tuple_of rfl T.f_tuple (by decide +kernel) (pa_cons (pe_lc (own := [("_law_row", 11)]) (g := gName 11) (tt := tYes) rfl sc_split.nd (pi_tup (pv 2)) (blkOk_by (N := Nsp) (sc := defScope b__law_splitting) (by decide +kernel))
          (fun _ _ _ _ _ => pg_name (i := 11) sc_split.nd rfl (Or.inr rfl)) (fun _ _ _ _ _ => pts_nil) (fun _ _ _ _ _ => pe_callTy (tupK K) rfl T.f_tuple (by decide +kernel) (pa_cons (pe_lc (own := [("_law_one", 12)]) (g := gName 12) (tt := tYes) rfl sc_split.nd (piL K (pv 6)) (blkOk_by (N := Nsp) (sc := scRow) (by decide +kernel))
            (fun _ _ _ _ _ => pg_name (i := 12) sc_split.nd rfl (Or.inl rfl)) (fun _ _ _ _ _ => pts_nil) (fun _ _ _ _ _ => pe_ix (ixT K) (pv 11) (pv 12) (fun _ _ => rfl))) pa_nil))) pa_nil)) (pa_cons (pv 7) pa_nil)))))))) pss_nil)
      (pss_cons (ps_set (i := 8) sc_split.nd rfl (Or.inl rfl) (pe_callTy call_tuple_of rfl T.f_tuple (by decide +kernel) (pa_cons (pe_lc (own := [("_law_state", 10)]) (g := gName 10) (tt := tYes) rfl sc_split.nd (pi_range1 rfl T.f_range (pa_cons (pv 4) pa_nil)) (blkOk_by (N := Nsp) (sc := defScope b__law_splitting) (by decide +kernel))
        (fun _ _ _ _ _ => pg_name (i := 10) sc_split.nd rfl (Or.inr rfl)) (fun _ _ _ _ _ => pts_nil) (fun _ _ _ _ _ => pe_callTy (tupK K) rfl T.f_tuple (by decide +kernel) (pa_cons (pe_lc (own := [("_law_one", 12)]) (g := gName 12) (tt := tYes) rfl sc_split.nd (piL K (pv 6)) (blkOk_by (N := Nsp) (sc := scSta) (by decide +kernel))
          (fun _ _ _ _ _ => pg_name (i := 12) sc_split.nd rfl (Or.inl rfl)) (fun _ _ _ _ _ => pts_nil) (fun _ _ _ _ _ => pe_ix (ixT K) (pe_ix (ixT K) (pv 2) (pv 12) (fun _ _ => rfl)) (pv 10) (fun _ _ => rfl))) pa_nil))) pa_nil)))
      (pss_one (ps_ret (pe_tup (pa_cons (pv 3) (pa_cons pe_str (pa_cons pe_int (pa_cons (pv 8) (pa_cons (pv 7) pa_nil))))))))))))))), ?_⟩
    obtain ⟨z, rfl, r⟩ := h
    refine ⟨_, rfl, fun v1 H1 s1 h1 => ?_⟩
    obtain ⟨p4, rfl, hp4⟩ := lw_nat h1
    refine ⟨z, p4, _, rfl, hp4, by decide, by decide, fun v5 H5 s5 h5 => ?_⟩
    obtain ⟨ds, ⟨q, rfl, hq⟩, hl, hd⟩ := h5
    have hl8 : ds.length = 8 := hl
    obtain ⟨d0, e0, l0, a0⟩ := draw_at (j := 0) hd hl rfl
    obtain ⟨d1, e1, l1, a1⟩ := draw_at (j := 1) hd hl rfl
    obtain ⟨d2, e2, l2, a2⟩ := draw_at (j := 2) hd hl rfl
    obtain ⟨d3, e3, l3, a3⟩ := draw_at (j := 3) hd hl rfl
    obtain ⟨d4, e5, l4, a4⟩ := draw_at (j := 4) hd hl rfl
    have sA : Same H H5 := s1.trans s5
    -- table, letters
    refine ⟨rfl, fun v6 H6 s6 h6 => ?_⟩
    obtain ⟨ml, xs, rfl, hml, zm⟩ := h6
    obtain ⟨mlen, mok⟩ := mons_ok
    have hd0 : d0 < mons.length := by rw [mlen]; exact l0
    obtain ⟨vt, hvt, at_, rows, rfl, hat, zt⟩ := get_at (d := []) zm hd0
    obtain ⟨⟨t1, t2⟩, t3⟩ := mok _ (get_mem hd0)
    generalize htb : mons.getD d0 [] = tbl at *
    refine ⟨_, rfl, q, _, _, _, rfl, rfl, SqL.of (s6 _ _ hq), a0, ml, _, _, _, rfl, rfl, SqL.of hml, atI_nat hvt, ?_⟩
    refine ⟨_, rfl, q, _, _, _, rfl, rfl, SqL.of (s6 _ _ hq), a1, _, _, rfl, rfl, show 2 ≤ sizeLine by decide, fun t7 ht7 => ⟨t7, _, rfl, SqT.of upd_same, rfl, _, _, rfl, _, _, rfl, rfl, ?_⟩⟩
    have s7 := same_upd (o := .tup [V.ref at_, V.int (2 + (d1 : Int))]) ht7
    -- many, step
    refine ⟨_, rfl, _, tbl.length, rfl, .inr ⟨_, SqT.of (s7 _ _ hat), zt.1.symm⟩, fun v8 H8 s8 h8 => ?_⟩
    obtain ⟨b8, rfl, hb8⟩ := h8
    have hq8 := s8 _ _ (s7 _ _ (s6 _ _ hq))
    have l3' := step_ok d4 l4
    refine ⟨_, rfl, q, _, _, _, rfl, rfl, SqL.of hq8, a4, b8, _, _, _, rfl, rfl, SqT.of hb8, at_nV (by exact l4), show 2 ≤ sizeLine by decide, fun t9 ht9 => ⟨t9, _, rfl, SqT.of upd_same, rfl, _, _, rfl, _, _, rfl, rfl, ?_⟩⟩
    have s9 := same_upd (o := .tup [V.int (tbl.length : Int), nV ([1, 3, 7, 9].getD d4 0)]) ht9
    have hq9 := s9 _ _ hq8
    -- values
    refine ⟨_, rfl, 5, rfl, _, rfl, _, _, rfl, rfl, _, rfl, q, _, rfl, SqL.of hq9, fun Dc hDc => ⟨Dc, rfl, ⟨_, SqL.of upd_same⟩, ?_⟩⟩
    have ec : cutV (ds.map nV) (some 5) (some (5 + (2 + (d1 : Int)))) = ((ds.drop 5).take (5 + (2 + d1) - 5)).map nV := cut_nat (lo := 5) (hi := 5 + (2 + d1)) (by omega) (by omega)
    have lc : ((ds.drop 5).take (5 + (2 + d1) - 5)).length = 2 + d1 := by
      rw [List.length_take, List.length_drop]
      omega
    have s10 := same_upd (o := .lst (cutV (ds.map nV) (some 5) (some (5 + (2 + (d1 : Int)))))) hDc
    have hDc2 : upd (upd H8 t9 (.tup [V.int (tbl.length : Int), nV ([1, 3, 7, 9].getD d4 0)])) Dc (.lst (cutV (ds.map nV) (some 5) (some (5 + (2 + (d1 : Int)))))) Dc = some (.lst (((ds.drop 5).take (5 + (2 + d1) - 5)).map nV)) := by rw [← ec]; exact upd_same (H := upd H8 t9 (.tup [V.int (tbl.length : Int), nV ([1, 3, 7, 9].getD d4 0)]))
    refine fun D hD => lcL (k := 9) (xs := ((ds.drop 5).take (5 + (2 + d1) - 5)).map nV) (fun i H v => ∃ x : Nat, v = nV x ∧ x < tbl.length) (fun _ _ _ _ _ h => h) hD (SqL.of hDc2) (by rw [List.length_map]; omega) (fun x => rfl) (fun i x H11 Q11 hx s11 r11 => ?_) fun H11 ys s11 hys hlen hv => ?_
    · obtain ⟨n, hn, rfl⟩ := map_get hx
      exact ⟨_, rfl, _, rfl, _, _, rfl, rfl, (by show (0 : Int) < (tbl.length : Int); omega), r11.now (mod_nat (n : Int) (show 0 < tbl.length by omega))⟩
    · obtain ⟨vals, rfl, hvals⟩ := nats_of (P := fun x => x < tbl.length) hv
      have lv : vals.length = 2 + d1 := by
        rw [← lc, ← List.length_map (f := nV), hlen, List.length_map]
      have sB : Same H6 H11 := ((s7.trans s8).trans s9).trans (s10.trans s11)
      have hqB := sB _ _ (s6 _ _ hq)
      have hatB := sB _ _ hat
      have sH : Same H H11 := (sA.trans s6).trans sB
      have zB := zt.imp fun a b h => stab_wd _ _ _ _ (TK.of sB) h
      -- outs
      refine ⟨_, rfl, (tbl.length : Int), rfl, by omega, by omega, fun D2 hD2 => lcN (k := 10) (n := tbl.length) (fun j H v => ∃ x : Nat, v = nV x ∧ x < 10) (fun _ _ _ _ _ h => h) hD2 (by omega) (fun x => rfl) (fun j H12 Q12 hj s12 r12 => ?_) fun H12 ys s12 hys12 hlen12 hv12 => ?_⟩
      · refine ⟨_, rfl, q, _, _, _, rfl, rfl, SqL.of (s12 _ _ hqB), a3, _, rfl, _, rfl, _, _, rfl, rfl, .inl ⟨by omega, by omega⟩, _, _, rfl, rfl, _, _, rfl, rfl, (by show (0 : Int) < 10; decide), r12.now ?_⟩
        exact mod_nat ((d3 : Int) + (([1, 3, 7, 9].getD d4 0 : Nat) : Int) * (j : Int)) (show 0 < 10 by decide)
      · obtain ⟨outs, rfl, houts⟩ := nats_of (P := fun x => x < 10) hv12
        refine ⟨D2, _, rfl, .inl ⟨SqL.of hys12, fun ao hao => ?_⟩⟩
        have s13 := same_upd (o := .tup (outs.map nV)) hao
        have sC := s12.trans s13
        have hqC := sC _ _ hqB
        have hatC := sC _ _ hatB
        have hvC := sC _ _ hys
        have zC := zB.imp fun a b h => stab_wd _ _ _ _ (TK.of sC) h
        have lo : outs.length = tbl.length := by rw [← hlen12, List.length_map]
        refine ⟨_, rfl, q, _, _, _, rfl, rfl, SqL.of hqC, a2, rfl, _, rfl, ?_⟩
        have fin : ∀ (lf : Bool) (mv : List Word), mv.length = tbl.length → (∀ r ∈ mv, r.length = 2 + d1 ∧ ∀ x ∈ r, x < tbl.length) → (⟨2 + d1, lf, 0, mv, outs⟩ : Mach).Ok := fun lf mv h1 h2 =>
          ⟨by show 2 ≤ 2 + d1; omega, by show 2 + d1 ≤ 3; omega, by show 1 ≤ mv.length; omega, by show mv.length ≤ 4; omega, by show 0 < mv.length; omega, fun r' hr' => ⟨(h2 r' hr').1, fun x hx => by show x < mv.length; rw [h1]; exact (h2 r' hr').2 x hx⟩, by show outs.length = mv.length; rw [h1]; exact lo, houts⟩
        cases hz : decide (nV d2 = V.int 0) with
        | true =>
          refine iteT ⟨_, rfl, _, rfl, at_, rfl, ⟨_, SqT.of hatC⟩, fun D3 hD3 => lcT (k := 11) (fun i H v => ∃ x : Word, Wd H v x ∧ (x.length = 2 + d1 ∧ ∀ y ∈ x, y < tbl.length)) (fun _ _ _ _ k ⟨x, h1, h2⟩ => ⟨x, stab_wd _ _ _ _ k h1, h2⟩) hD3 (SqT.of hatC) (by rw [zt.1]; omega) (fun x => rfl) (fun i x H14 Q14 hx s14 r14 => ?_) fun H14 ys s14 hys14 hlen14 hv14 => ?_⟩
          · obtain ⟨row, hrow, b, rfl, hb⟩ := zC.getV hx
            obtain ⟨k1, k2⟩ := t3 row (List.mem_of_getElem? hrow)
            refine ⟨_, rfl, D, rfl, ⟨_, SqL.of (s14 _ _ hvC)⟩, fun D4 hD4 => lcL (k := 12) (fun i H v => ∃ x : Nat, v = nV x ∧ x < tbl.length) (fun _ _ _ _ _ h => h) hD4 (SqL.of (s14 _ _ hvC)) (by rw [List.length_map]; omega) (fun x => rfl) (fun j y H15 Q15 hy s15 r15 => ?_) fun H15 zs s15 hzs hlen15 hv15 => ?_⟩
            · obtain ⟨n, hn, rfl⟩ := map_get hy
              have hnt : n < tbl.length := hvals n (List.mem_of_getElem? hn)
              exact ⟨_, rfl, _, rfl, b, _, _, _, rfl, rfl, SqT.of (s15 _ _ (s14 _ _ hb)), at_nV (by rw [k1]; exact hnt), r15.now ⟨_, rfl, k2 _ (getD_mem (by rw [k1]; exact hnt))⟩⟩
            · obtain ⟨nr, rfl, hnr⟩ := nats_of (P := fun x => x < tbl.length) hv15
              exact ⟨D4, _, rfl, .inl ⟨SqL.of hzs, fun t ht => r14 _ _ (s15.trans (same_upd ht)) ⟨nr, Wd.of upd_same, by rw [← lv, ← List.length_map (f := nV) (as := vals), ← hlen15, List.length_map], hnr⟩⟩⟩
          · obtain ⟨mv, zmv, hmv⟩ := wds_of (P := fun x => x.length = 2 + d1 ∧ ∀ y ∈ x, y < tbl.length) hv14
            refine ⟨D3, _, rfl, .inl ⟨SqL.of hys14, fun am ham => ?_⟩⟩
            have s15 := same_upd (o := .tup ys) ham
            refine ⟨_, rfl, show 5 ≤ sizeLine by decide, fun p hp => ?_⟩
            have s16 := same_upd (o := .tup [V.int (2 + (d1 : Int)), V.str "left", V.int 0, V.ref am, V.ref ao]) hp
            have lm : mv.length = tbl.length := by rw [← zmv.1, hlen14, zt.1]
            exact r _ _ (sH.trans (sC.trans ((s14.trans s15).trans s16))) ⟨_, fin true mv lm hmv, p, am, ao, rfl, upd_same, Tw.of (s16 _ _ upd_same) (zmv.imp fun a b h => stab_wd _ _ _ _ (TK.of (s15.trans s16)) h), Wd.of (s16 _ _ (s15 _ _ (s14 _ _ upd_same)))⟩
        | false =>
          refine iteF ⟨_, rfl, (tbl.length : Int), rfl, by omega, by omega, fun D3 hD3 => lcN (k := 10) (n := tbl.length) (fun i H v => ∃ x : Word, Wd H v x ∧ (x.length = 2 + d1 ∧ ∀ y ∈ x, y < tbl.length)) (fun _ _ _ _ k ⟨x, h1, h2⟩ => ⟨x, stab_wd _ _ _ _ k h1, h2⟩) hD3 (by omega) (fun x => rfl) (fun i H14 Q14 hi s14 r14 => ?_) fun H14 ys s14 hys14 hlen14 hv14 => ?_⟩
          · refine ⟨_, rfl, D, rfl, ⟨_, SqL.of (s14 _ _ hvC)⟩, fun D4 hD4 => lcL (k := 12) (fun i H v => ∃ x : Nat, v = nV x ∧ x < tbl.length) (fun _ _ _ _ _ h => h) hD4 (SqL.of (s14 _ _ hvC)) (by rw [List.length_map]; omega) (fun x => rfl) (fun j y H15 Q15 hy s15 r15 => ?_) fun H15 zs s15 hzs hlen15 hv15 => ?_⟩
            · obtain ⟨n, hn, rfl⟩ := map_get hy
              have hnt : n < tbl.length := hvals n (List.mem_of_getElem? hn)
              obtain ⟨vr, hvr, b, rfl, hb⟩ := get_at (d := []) zC hnt
              obtain ⟨k1, k2⟩ := t3 _ (row_mem hnt)
              exact ⟨_, rfl, _, rfl, at_, _, (n : Int), _, rfl, rfl, SqT.of (s15 _ _ (s14 _ _ hatC)), atI_nat hvr, _, rfl, b, _, _, _, rfl, rfl, SqT.of (s15 _ _ (s14 _ _ hb)), at_nV (by rw [k1]; exact hi), r15.now ⟨_, rfl, k2 _ (getD_mem (by rw [k1]; exact hi))⟩⟩
            · obtain ⟨nr, rfl, hnr⟩ := nats_of (P := fun x => x < tbl.length) hv15
              exact ⟨D4, _, rfl, .inl ⟨SqL.of hzs, fun t ht => r14 _ _ (s15.trans (same_upd ht)) ⟨nr, Wd.of upd_same, by rw [← lv, ← List.length_map (f := nV) (as := vals), ← hlen15, List.length_map], hnr⟩⟩⟩
          · obtain ⟨mv, zmv, hmv⟩ := wds_of (P := fun x => x.length = 2 + d1 ∧ ∀ y ∈ x, y < tbl.length) hv14
            refine ⟨D3, _, rfl, .inl ⟨SqL.of hys14, fun am ham => ?_⟩⟩
            have s15 := same_upd (o := .tup ys) ham
            refine ⟨_, rfl, _, rfl, _, rfl, show 5 ≤ sizeLine by decide, fun p hp => ?_⟩
            have s16 := same_upd (o := .tup [V.int (2 + (d1 : Int)), V.str "right", V.int 0, V.ref am, V.ref ao]) hp
            have lm : mv.length = tbl.length := by rw [← zmv.1, hlen14]
            exact r _ _ (sH.trans (sC.trans ((s14.trans s15).trans s16))) ⟨_, fin false mv lm hmv, p, am, ao, rfl, upd_same, Tw.of (s16 _ _ upd_same) (zmv.imp fun a b h => stab_wd _ _ _ _ (TK.of (s15.trans s16)) h), Wd.of (s16 _ _ (s15 _ _ (s14 _ _ upd_same)))⟩
end
end K68D
/-! The law's model: limits, what is refused, what is due, what is told. -/
namespace K68D
open PySem PySem.Spec PyProof.Rows L2 K68R K68K K68T K68
section
variable {w : World} {K : PySem.W.Frag} {mg : Str → Option Value} {base : Heap}
/-! ### _law_machine -/
theorem sc_machine : FnScope ["_law_cell_here"] ["_law_cell_here"] (defScope b__law_machine) := ⟨rfl, rfl, rfl, by decide +kernel, rfl, by decide +kernel, by decide +kernel⟩
theorem r_machine (T : Txt K mg) : FnR PP w K mg base CX0 3 (He.ga K "_law_machine") spMach := by
  obtain ⟨fd, F⟩ := T.F__law_machine
  obtain ⟨_, FA⟩ := T.F__law_any
  obtain ⟨_, FS⟩ := T.F__law_splitting
  refine mkR F sc_machine (fun _ _ _ _ _ _ us hl => match us, hl with | [_], _ => rfl) (fun vs H Q E h => ?_) (fun cdv A outer s H vs Q E hr h => ?_)
  · obtain ⟨z, rfl, _⟩ := h
    rfl
  · refine ⟨_, PSs.nox (pss_one (ps_ret (pe_ifExp (pt_cmpR op_eq (pe_op op_mod (pv 0) pe_int) pe_int (nomark _)) (pe_callR (r_any T) hr rfl T.g__law_any FA.kp pass0 (pa_cons (pe_op op_fdiv (pv 0) pe_int) pa_nil))
      (pe_callR (r_split T) hr rfl T.g__law_splitting FS.kp pass0 (pa_cons (pe_op op_fdiv (pv 0) pe_int) pa_nil))))), ?_⟩
    obtain ⟨z, rfl, r⟩ := h
    refine ⟨_, rfl, _, _, rfl, rfl, (by show (0 : Int) < 3; decide), rfl, _, rfl, ?_⟩
    cases decide (V.int (z % 3) = V.int 0) with
    | true => exact iteT ⟨_, rfl, _, _, rfl, rfl, ⟨by decide, by decide⟩, _, rfl, r⟩
    | false => exact iteF ⟨_, rfl, _, _, rfl, rfl, ⟨by decide, by decide⟩, _, rfl, r⟩
/-! ### texts -/
def limTxt (a l : Nat) : Str := "limit " ++ toString (a : Int) ++ " " ++ toString (l : Int)
def errTxt : Err → Str
  | .limit a l => limTxt a l
  | .number => "number"
  | .place => "place"
  | .unsteady => "unsteady"
  | .nothing => "nothing"
def dueTxt : Option Err → Str
  | none => ""
  | some e => errTxt e
theorem lim40 (a : Nat) : limTxt a 40 = "limit " ++ toString (a : Int) ++ " 40" := by
  unfold limTxt
  rw [Str.append_assoc ("limit " ++ toString (a : Int))]
  congr 1
/-! ### _law_limit -/
def spLimit : Sp := fun vs H Q _ => ∃ vp q cap, vs = [vp, nV cap] ∧ Ps H vp q ∧ q.length ≤ 100 ∧ q.flatten.length ≤ 100 ∧ cap ≤ 100 ∧ Res H Q fun _ v => v = .str (dueTxt (fit0 cap q))
theorem sc_limit : FnScope ["_law_pieces", "_law_cap", "_law_letters", "_law_piece"] ["_law_pieces", "_law_cap"] (defScope b__law_limit) := ⟨rfl, rfl, rfl, by decide +kernel, rfl, by decide +kernel, by decide +kernel⟩
theorem sum_len (q : Pieces) : (q.map fun p => (p.length : Int)).sum = (q.flatten.length : Int) := by
  induction q with
  | nil => rfl
  | cons a l ih => rw [List.map_cons, List.sum_cons, ih, List.flatten_cons, List.length_append, Int.natCast_add]
theorem lens_eq {ys : List V} {q : Pieces} (hl : ys.length = q.length) (h : ∀ (i : Nat) (y : V), ys[i]? = some y → y = nV (q.getD i []).length) : ys = (q.map fun p => (p.length : Int)).map V.int := by
  apply List.ext_getElem?
  intro i
  rw [List.getElem?_map, List.getElem?_map]
  cases e : ys[i]? with
  | none =>
    rw [List.getElem?_eq_none_iff] at e
    rw [List.getElem?_eq_none_iff.mpr (by omega)]
    rfl
  | some y =>
    have hi : i < q.length := by
      rw [← hl]
      exact (List.getElem?_eq_some_iff.mp e).1
    rw [h i y e, List.getD_eq_getElem?_getD, List.getElem?_eq_getElem hi]
    rfl
theorem r_limit (T : Txt K mg) : FnR PP w K mg base CX0 1 (He.ga K "_law_limit") spLimit := by
  obtain ⟨fd, F⟩ := T.F__law_limit
  refine mkR F sc_limit (fun _ _ _ _ _ _ us hl => match us, hl with | [_, _], _ => rfl) (fun vs H Q E h => ?_) (fun cdv A outer s H vs Q E hr h => ?_)
  · obtain ⟨vp, q, cap, rfl, _⟩ := h
    rfl
  · refine ⟨_, PSs.nox (pss_cons (ps_set (i := 2) sc_limit.nd rfl (Or.inl rfl) (pe_callB (cr_sum rfl) rfl T.f_sum (by decide +kernel) (pa_cons (pe_lc (own := [("_law_piece", 3)]) (g := gName 3) (tt := tYes) rfl sc_limit.nd (pi_tup (pv 0)) (blkOk_by (N := ["_law_pieces", "_law_cap", "_law_letters", "_law_piece"]) (sc := defScope b__law_limit) (by decide +kernel))
        (fun _ _ _ _ _ => pg_name (i := 3) sc_limit.nd rfl (Or.inl rfl)) (fun _ _ _ _ _ => pts_nil) (fun _ _ _ _ _ => pe_callB (lenK K) rfl T.f_len boot_len (pa_cons (pv 3) pa_nil))) pa_nil)))
      (pss_cons (ps_if (pt_cmpR op_gt (pv 2) pe_int (nomark _)) (pss_one (ps_ret (pe_op op_add_str (pe_op op_add_str pe_str (pe_callTy call_str_int rfl T.f_str (by decide +kernel) (pa_cons (pv 2) pa_nil))) pe_str))) pss_nil)
      (pss_cons (ps_if (pt_cmpR op_gt (pe_callB call_len rfl T.f_len boot_len (pa_cons (pv 0) pa_nil)) (pv 1) (nomark _))
        (pss_one (ps_ret (pe_op op_add_str (pe_op op_add_str (pe_op op_add_str pe_str (pe_callTy call_str_int rfl T.f_str (by decide +kernel) (pa_cons (pe_callB call_len rfl T.f_len boot_len (pa_cons (pv 0) pa_nil)) pa_nil))) pe_str) (pe_callTy call_str_int rfl T.f_str (by decide +kernel) (pa_cons (pv 1) pa_nil))))) pss_nil)
      (pss_one (ps_ret pe_str))))), ?_⟩
    obtain ⟨vp, q, cap, rfl, ⟨a, xs, rfl, ha, z⟩, l1, l2, l3, r⟩ := h
    refine ⟨_, rfl, a, rfl, ⟨_, SqT.of ha⟩, fun D hD => lcT (k := 3) (fun i H v => v = nV (q.getD i []).length) (fun _ _ _ _ _ h => h) hD (SqT.of ha) (by rw [z.1]; omega) (fun x => rfl) (fun i x H1 Q1 hx s1 r1 => ?_) fun H1 ys s1 hys hlen hv => ?_⟩
    · obtain ⟨pc, hpc, b, rfl, hb⟩ := z.getV hx
      exact ⟨_, rfl, _, pc.length, rfl, .inr ⟨_, SqT.of (s1 _ _ hb), by rw [List.length_map]⟩, r1.now (by rw [getD_of hpc]; rfl)⟩
    · rw [lens_eq (hlen.trans z.1) hv] at hys
      have ha1 := s1 _ _ ha
      have tl := txt_len l2
      have tc := txt_len l3
      have tp := txt_len l1
      have e1 : ("limit " : Str).length = 6 := by decide +kernel
      have e2 : (" 40" : Str).length = 3 := by decide +kernel
      have e3 : (" " : Str).length = 1 := by decide +kernel
      refine ⟨D, _, rfl, SqL.of hys, ?_⟩
      rw [sum_len]
      refine ⟨_, rfl, _, _, rfl, rfl, _, rfl, ?_⟩
      unfold fit0 at r
      by_cases hb : 40 < q.flatten.length
      · rw [decide_eq_true (by omega : (40 : Int) < (q.flatten.length : Int))]
        rw [if_pos hb] at r
        refine iteT ⟨_, rfl, _, rfl, small_txt l2, _, _, rfl, rfl, sz_line (by omega), _, _, rfl, rfl, sz_line (by rw [Str.length_append]; omega), r _ _ s1 ?_⟩
        show V.str _ = V.str (limTxt q.flatten.length 40)
        rw [lim40]
      · rw [decide_eq_false (by omega : ¬ (40 : Int) < (q.flatten.length : Int))]
        rw [if_neg hb] at r
        refine iteF ⟨_, rfl, _, q.length, rfl, .inr ⟨_, SqT.of ha1, z.1.symm⟩, _, rfl, _, _, rfl, rfl, _, rfl, ?_⟩
        by_cases hc : cap < q.length
        · rw [decide_eq_true (by omega : (cap : Int) < (q.length : Int))]
          rw [if_pos hc] at r
          exact iteT ⟨_, rfl, _, q.length, rfl, .inr ⟨_, SqT.of ha1, z.1.symm⟩, _, rfl, small_txt l1, _, _, rfl, rfl, sz_line (by omega), _, _, rfl, rfl, sz_line (by rw [Str.length_append]; omega), _, rfl, _, rfl, small_txt l3, _, _, rfl, rfl, sz_line (by rw [Str.length_append, Str.length_append]; omega), r _ _ s1 rfl⟩
        · rw [decide_eq_false (by omega : ¬ (cap : Int) < (q.length : Int))]
          rw [if_neg hc] at r
          exact iteF (r _ _ s1 rfl)
end
end K68D
/-! The law's model: what is refused, what is due, what is told. -/
namespace K68D
open PySem PySem.Spec PyProof.Rows L2 K68R K68K K68T K68
section
variable {w : World} {K : PySem.W.Frag} {mg : Str → Option Value} {base : Heap}
def sIdx : Srt → Nat
  | .rope => 0
  | .std => 1
  | .sht => 2
  | .both => 3
/-! ### a sum of words, letter by letter: whole = whole + piece -/
/-- the loop's state: the words so far -/
theorem whole_turn {H : Hp} {vw x : V} {l p : Word} {Q : VK} (h1 : Wd H vw l) (h2 : Wd H x p) (hl : l.length + p.length ≤ 1000) (k : ∀ c H', Same H H' → Wd H' (.ref c) (l ++ p) → Q (.ref c) H') : rCatA K vw x H Q := by
  obtain ⟨a, rfl, ha⟩ := h1
  obtain ⟨b, rfl, hb⟩ := h2
  refine catA ha hb (by rw [List.length_map, List.length_map]; exact hl) fun c H' s e => k c H' s (Wd.of ?_)
  rw [List.map_append]
  exact e
theorem flat_le {ps : Pieces} {i : Nat} {p : Word} (h : ps[i]? = some p) : (ps.take i).flatten.length + p.length ≤ ps.flatten.length := by
  have e := flat_take (j := p.length) h
  rw [List.take_length, List.length_append] at e
  exact e
/-! ### _law_refused -/
def spRefused (s : Srt) : Sp := fun vs H Q _ => ∃ vm vp m cap q, vs = [nV (sIdx s), vm, nV cap, vp] ∧ Mc H vm m ∧ m.Ok ∧ Ps H vp q ∧ Cand m q ∧ cap ≤ 20 ∧ Res H Q fun _ v => v = .str (dueTxt (fit s m cap q))
theorem sc_refused : FnScope ["_law_sort", "_law_machine_here", "_law_cap", "_law_pieces", "_law_limit_here", "_law_whole", "_law_piece"] ["_law_sort", "_law_machine_here", "_law_cap", "_law_pieces"] (defScope b__law_refused) := ⟨rfl, rfl, rfl, by decide +kernel, rfl, by decide +kernel, by decide +kernel⟩
theorem lim_ne (a l : Nat) : limTxt a l ≠ "" := fun z => by
  have h : (limTxt a l).length = 0 := by rw [z] <;> rfl
  have e1 : ("limit " : Str).length = 6 := by decide +kernel
  unfold limTxt at h
  rw [Str.length_append, Str.length_append, Str.length_append, e1] at h
  omega
theorem due_fit0 {most : Nat} {q : Pieces} {e : Err} (h : fit0 most q = some e) : dueTxt (some e) ≠ "" := by
  unfold fit0 at h
  split at h
  · obtain rfl := Option.some.inj h
    exact lim_ne _ _
  · split at h
    · obtain rfl := Option.some.inj h
      exact lim_ne _ _
    · cases h
theorem r_refused (T : Txt K mg) (s : Srt) : FnR PP w K mg base CX0 2 (He.ga K "_law_refused") (spRefused s) := by
  obtain ⟨fd, F⟩ := T.F__law_refused
  obtain ⟨_, FL⟩ := T.F__law_limit
  obtain ⟨_, FR⟩ := T.F__law_read
  refine mkR F sc_refused (fun _ _ _ _ _ _ us hl => match us, hl with | [_, _, _, _], _ => rfl) (fun vs H Q E h => ?_) (fun cdv A outer s' H vs Q E hr h => ?_)
  · obtain ⟨vm, vp, m, cap, q, rfl, _⟩ := h
    rfl
  · refine ⟨_, PSs.nox (pss_cons (ps_set (i := 4) sc_refused.nd rfl (Or.inl rfl) (pe_callR (r_limit T) hr rfl T.g__law_limit FL.kp pass0 (pa_cons (pv 3) (pa_cons (pe_ifExp (pt_cmpR op_lt (pv 0) pe_int (nomark _)) pe_int (pv 2)) pa_nil))))
      (pss_cons (ps_if (PW.pt (pw_or (pt_cmpR op_ne (pv 4) pe_str (nomark _)) (pw_or1 (pt_cmpR op_eq (pe_op op_mod (pv 0) pe_int) pe_int (nomark _))))) (pss_one (ps_ret (pv 4))) pss_nil)
      (pss_cons (ps_set (i := 5) sc_refused.nd rfl (Or.inl rfl) (pe_tup pa_nil))
      (pss_cons (ps_for PassesOwn.never rfl (pi_tup (pv 3)) (pg_name (i := 6) sc_refused.nd rfl (Or.inl rfl)) (pss_one (ps_set (i := 5) sc_refused.nd rfl (Or.inl rfl) (pe_op op_catA (pv 5) (pv 6)))))
      (pss_one (ps_ret (pe_ifExp (pt_cmpR op_eq (pe_callR (r_read T) hr rfl T.g__law_read FR.kp pass0 (pa_cons (pv 1) (pa_cons (pv 5) pa_nil))) (pe_callR (r_read T) hr rfl T.g__law_read FR.kp pass0 (pa_cons (pv 1) (pa_cons (pe_tup pa_nil) pa_nil))) (nomark _)) pe_str pe_str))))))), ?_⟩
    obtain ⟨vm, vp, m, cap, q, rfl, hm, ok, hp, cd, hcap, r⟩ := h
    obtain ⟨_, c1, c2⟩ := id cd
    have ml := most_le (s := s) hcap
    have hcapS : (if (decide ((sIdx s : Int) < 2)) = true then (20 : Int) else (cap : Int)) = ((s.most cap : Nat) : Int) := by cases s <;> rfl
    refine ⟨_, rfl, _, rfl, _, _, rfl, rfl, _, rfl, ?_⟩
    have arg : ∀ {Q' : VK}, Q' (nV (s.most cap)) H → (if decide ((sIdx s : Int) < 2) = true then tC (V.int 20) (L2.start ["_law_sort", "_law_machine_here", "_law_cap", "_law_pieces", "_law_limit_here", "_law_whole", "_law_piece"] [nV (sIdx s), vm, nV cap, vp]) H Q' else tVar 2 (L2.start ["_law_sort", "_law_machine_here", "_law_cap", "_law_pieces", "_law_limit_here", "_law_whole", "_law_piece"] [nV (sIdx s), vm, nV cap, vp]) H Q') := fun {Q'} h => by
      cases s
      · exact iteT h
      · exact iteT h
      · exact iteF ⟨_, rfl, h⟩
      · exact iteF ⟨_, rfl, h⟩
    refine arg ⟨vp, q, s.most cap, rfl, hp, by omega, by omega, by omega, fun v H1 s1 e1 => ?_⟩
    subst e1
    cases hf : fit0 (s.most cap) q with
    | some e =>
      have ne := due_fit0 hf
      refine ⟨_, rfl, rfl, _, rfl, ?_⟩
      rw [decide_eq_false (fun z => ne (V.str.inj z))]
      refine iteT (iteT ⟨_, rfl, r _ _ s1 ?_⟩)
      unfold fit
      rw [hf]
      rfl
    | none =>
      refine ⟨_, rfl, rfl, _, rfl, iteF ?_⟩
      refine ⟨_, rfl, _, _, rfl, rfl, (by show (0 : Int) < 2; decide), rfl, _, rfl, ?_⟩
      cases hs : s.isSteady with
      | false =>
        have e0 : decide (V.int ((sIdx s : Int) % 2) = V.int 0) = true := by cases s <;> first | rfl | cases hs
        have ef : fit s m cap q = none := by rw [fit_flat hs, hf]
        rw [e0]
        exact iteT ⟨_, rfl, r _ _ s1 (by rw [ef] <;> rfl)⟩
      | true =>
        have e0 : decide (V.int ((sIdx s : Int) % 2) = V.int 0) = false := by cases s <;> first | rfl | cases hs
        have ef : fit s m cap q = fitS m q := by
          unfold fit
          rw [hf, hs]
          rfl
        rw [e0]
        obtain ⟨a, xs, rfl, ha, z⟩ := hp
        refine iteF ⟨show 0 ≤ sizeLine by decide, fun t ht => ?_⟩
        have s2 := same_upd (o := .tup []) ht
        have s12 := s1.trans s2
        have ha2 := s12 _ _ ha
        refine ⟨_, rfl, a, rfl, ⟨_, SqT.of ha2⟩, for_tup (K := K) (a := a) (xs := xs) (fun i σ H' => ∃ (vw : V) (u : Option V), σ = [some (nV (sIdx s)), some vm, some (nV cap), some (.ref a), some (.str (dueTxt none)), some vw, u] ∧ Same (upd H1 t (.tup [])) H' ∧ Wd H' vw (q.take i).flatten)
          ⟨.ref t, none, rfl, Same.refl _, Wd.of upd_same⟩ (fun i σ H' _ ⟨_, _, _, s3, _⟩ => SqT.of (s3 _ _ ha2)) ?_ ?_⟩
        · rintro i x σ H' hx ⟨vw, u, rfl, s3, hw⟩
          obtain ⟨pc, hpc, hpw⟩ := z.getV hx
          have fl := flat_le hpc
          refine ⟨_, rfl, _, rfl, whole_turn hw (stab_wd _ _ _ _ (TK.of (s12.trans s3)) hpw) (by omega) fun c H4 s4 h4 => ⟨.ref c, some x, rfl, s3.trans s4, ?_⟩⟩
          rw [flat_snoc hpc]
          exact h4
        · rintro σ H' ⟨vw, u, rfl, s3, hw⟩
          rw [z.1, List.take_length] at hw
          have sa := s12.trans s3
          have hm3 := stab_mc _ _ _ _ (TK.of sa) hm
          refine ⟨_, rfl, _, rfl, vm, vw, m, _, rfl, hm3, ok, hw, cd.whole, fun v5 H5 s5 e5 => ?_⟩
          subst e5
          refine ⟨_, rfl, show 0 ≤ sizeLine by decide, fun t6 ht6 => ?_⟩
          have s6 := same_upd (o := .tup []) ht6
          refine ⟨vm, .ref t6, m, [], rfl, stab_mc _ _ _ _ (TK.of (s5.trans s6)) hm3, ok, Wd.of upd_same, wok_nil, fun v7 H7 s7 e7 => ?_⟩
          subst e7
          refine ⟨rfl, _, rfl, ?_⟩
          have sf := sa.trans ((s5.trans s6).trans s7)
          rw [ef] at r
          unfold fitS at r
          by_cases he : m.read q.flatten = m.read []
          · rw [if_pos he] at r
            rw [he, dec_refl]
            exact iteT (r _ _ sf rfl)
          · rw [if_neg he] at r
            rw [dec_ne he]
            exact iteF (r _ _ sf rfl)
/-! ### what is told of a rope -/
structure ToldAt (s : Srt) (m : Mach) (ps : Pieces) (c : Nat) (H : Hp) (v : V) : Prop where
  ex : ∃ t v1 v2 v3 v5, v = .ref t ∧ H t = some (.tup [v1, v2, v3, nV (m.read ps.flatten), v5, nV ps.length, .str (ropeTxt s ps), nV c]) ∧ Mc H v1 m ∧ Ps H v2 ps ∧ Wd H v3 ps.flatten ∧ Wd H v5 (ps.map m.read)
/-! ### _law_due -/
def spDue (s : Srt) : Sp := fun vs H Q _ => ∃ vm vp m ps c, vs = [.str (cname s), vm, vp, nV c] ∧ Mc H vm m ∧ m.Ok ∧ Ps H vp ps ∧ Good m ps ∧ Res H Q fun H' v => ToldAt s m ps c H' v
theorem sc_due : FnScope ["_law_name", "_law_machine_here", "_law_pieces", "_law_changes", "_law_whole", "_law_piece", "_law_text", "_law_outs"] ["_law_name", "_law_machine_here", "_law_pieces", "_law_changes"] (defScope b__law_due) := ⟨rfl, rfl, rfl, by decide +kernel, rfl, by decide +kernel, by decide +kernel⟩
theorem r_due (T : Txt K mg) (s : Srt) : FnR PP w K mg base CX0 2 (He.ga K "_law_due") (spDue s) := by
  obtain ⟨fd, F⟩ := T.F__law_due
  obtain ⟨_, FR⟩ := T.F__law_read
  refine mkR F sc_due (fun _ _ _ _ _ _ us hl => match us, hl with | [_, _, _, _], _ => rfl) (fun vs H Q E h => ?_) (fun cdv A outer s' H vs Q E hr h => ?_)
  · obtain ⟨vm, vp, m, ps, c, rfl, _⟩ := h
    rfl
  · refine ⟨_, PSs.nox (pss_cons (ps_set (i := 4) sc_due.nd rfl (Or.inl rfl) (pe_tup pa_nil))
      (pss_cons (ps_for PassesOwn.never rfl (pi_tup (pv 2)) (pg_name (i := 5) sc_due.nd rfl (Or.inl rfl)) (pss_one (ps_set (i := 4) sc_due.nd rfl (Or.inl rfl) (pe_op op_catA (pv 4) (pv 5)))))
      (pss_cons (ps_set (i := 6) sc_due.nd rfl (Or.inl rfl) (pe_op op_add_str (pe_op op_add_str (pe_op op_add_str (pe_op op_add_str (pe_op op_add_str (pv 0) pe_str)
          (pe_callTy call_str_int rfl T.f_str (by decide +kernel) (pa_cons (pe_callB call_len rfl T.f_len boot_len (pa_cons (pv 2) pa_nil)) pa_nil))) pe_str)
          (pe_callTy call_str_int rfl T.f_str (by decide +kernel) (pa_cons (pe_callB call_len rfl T.f_len boot_len (pa_cons (pv 4) pa_nil)) pa_nil))) pe_str))
      (pss_cons (ps_set (i := 7) sc_due.nd rfl (Or.inl rfl) (pe_callTy call_tuple_of rfl T.f_tuple (by decide +kernel) (pa_cons (pe_lc (own := [("_law_piece", 5)]) (g := gName 5) (tt := tYes) rfl sc_due.nd (pi_tup (pv 2)) (blkOk_by (N := ["_law_name", "_law_machine_here", "_law_pieces", "_law_changes", "_law_whole", "_law_piece", "_law_text", "_law_outs"]) (sc := defScope b__law_due) (by decide +kernel))
          (fun _ _ _ _ _ => pg_name (i := 5) sc_due.nd rfl (Or.inl rfl)) (fun _ _ _ _ _ => pts_nil) (fun _ _ _ _ _ => pe_callR (r_read T) hr rfl T.g__law_read FR.kp pass0 (pa_cons (pv 1) (pa_cons (pv 5) pa_nil)))) pa_nil)))
      (pss_one (ps_ret (pe_tup (pa_cons (pv 1) (pa_cons (pv 2) (pa_cons (pv 4) (pa_cons (pe_callR (r_read T) hr rfl T.g__law_read FR.kp pass0 (pa_cons (pv 1) (pa_cons (pv 4) pa_nil))) (pa_cons (pv 7) (pa_cons (pe_callB call_len rfl T.f_len boot_len (pa_cons (pv 2) pa_nil)) (pa_cons (pv 6) (pa_cons (pv 3) pa_nil))))))))))))))), ?_⟩
    obtain ⟨vm, vp, m, ps, c, rfl, hm, ok, ⟨a, xs, rfl, ha, z⟩, g, r⟩ := h
    have g1 := g.2.1
    have g2 := g.2.2
    refine ⟨show 0 ≤ sizeLine by decide, fun t ht => ?_⟩
    have s2 := same_upd (o := .tup []) ht
    have ha2 := s2 _ _ ha
    refine ⟨_, rfl, a, rfl, ⟨_, SqT.of ha2⟩, for_tup (K := K) (a := a) (xs := xs) (fun i σ H' => ∃ (vw : V) (u : Option V), σ = [some (.str (cname s)), some vm, some (.ref a), some (nV c), some vw, u, none, none] ∧ Same (upd H t (.tup [])) H' ∧ Wd H' vw (ps.take i).flatten)
      ⟨.ref t, none, rfl, Same.refl _, Wd.of upd_same⟩ (fun i σ H' _ ⟨_, _, _, s3, _⟩ => SqT.of (s3 _ _ ha2)) ?_ ?_⟩
    · rintro i x σ H' hx ⟨vw, u, rfl, s3, hw⟩
      obtain ⟨pc, hpc, hpw⟩ := z.getV hx
      have fl := flat_le hpc
      refine ⟨_, rfl, _, rfl, whole_turn hw (stab_wd _ _ _ _ (TK.of (s2.trans s3)) hpw) (by omega) fun c H4 s4 h4 => ⟨.ref c, some x, rfl, s3.trans s4, ?_⟩⟩
      rw [flat_snoc hpc]
      exact h4
    · rintro σ H' ⟨vw, u, rfl, s3, hw⟩
      rw [z.1, List.take_length] at hw
      have sa := s2.trans s3
      obtain ⟨aw, rfl, haw⟩ := hw
      have ha3 := sa _ _ ha
      have l1 := cname_len s
      have l2 := txt_len (show ps.length ≤ 100 by omega)
      have l3 := txt_len (show ps.flatten.length ≤ 100 by omega)
      have t1 : ("(" : Str).length = 1 := by decide +kernel
      have t2 : (" pieces, " : Str).length = 9 := by decide +kernel
      have t3 : (" letters)" : Str).length = 9 := by decide +kernel
      refine ⟨_, rfl, _, _, rfl, rfl, sz_line (by omega), _, rfl, _, ps.length, rfl, .inr ⟨_, SqT.of ha3, z.1.symm⟩, _, rfl, small_txt (by omega), _, _, rfl, rfl, sz_line (by rw [Str.length_append]; omega), _, _, rfl, rfl, sz_line (by rw [Str.length_append, Str.length_append]; omega), ?_⟩
      refine ⟨_, rfl, _, ps.flatten.length, rfl, .inr ⟨_, SqT.of haw, by rw [List.length_map]⟩, _, rfl, small_txt (by omega), _, _, rfl, rfl, sz_line (by rw [Str.length_append, Str.length_append, Str.length_append]; omega), _, _, rfl, rfl, sz_line (by rw [Str.length_append, Str.length_append, Str.length_append, Str.length_append]; omega), ?_⟩
      have hm3 := stab_mc _ _ _ _ (TK.of sa) hm
      have z3 := z.imp fun a b h => stab_wd _ _ _ _ (TK.of sa) h
      refine ⟨_, rfl, a, rfl, ⟨_, SqT.of ha3⟩, fun D hD => lcT (k := 5) (fun i H v => v = nV ((ps.map m.read).getD i 0)) (fun _ _ _ _ _ h => h) hD (SqT.of ha3) (by rw [z.1]; omega) (fun x => rfl) (fun i x H4 Q4 hx s4 r4 => ?_) fun H4 ys s4 hys hlen hv => ?_⟩
      · obtain ⟨pc, hpc, hpw⟩ := z3.getV hx
        refine ⟨_, rfl, _, rfl, vm, x, m, pc, rfl, stab_mc _ _ _ _ (TK.of s4) hm3, ok, stab_wd _ _ _ _ (TK.of s4) hpw, g.1 _ (List.mem_of_getElem? hpc), r4.imp fun H' v s' e => ?_⟩
        rw [e, getD_map' ps m.read [] i (List.getElem?_eq_some_iff.mp hpc).1, getD_of hpc]
      · refine ⟨D, ys, rfl, .inl ⟨SqL.of hys, fun ao hao => ?_⟩⟩
        have s5 := same_upd (o := .tup ys) hao
        have s45 := s4.trans s5
        refine ⟨_, rfl, _, rfl, _, rfl, _, rfl, _, rfl, vm, .ref aw, m, _, rfl, stab_mc _ _ _ _ (TK.of s45) hm3, ok, ⟨aw, rfl, s45 _ _ haw⟩, good_whole g, fun v6 H6 s6 e6 => ?_⟩
        subst e6
        have s46 := s45.trans s6
        refine ⟨_, rfl, _, rfl, _, ps.length, rfl, .inr ⟨_, SqT.of (s46 _ _ ha3), z.1.symm⟩, _, rfl, _, rfl, show 8 ≤ sizeLine by decide, fun p hp => ?_⟩
        have s7 := same_upd (o := .tup [vm, .ref a, .ref aw, nV (m.read ps.flatten), .ref ao, nV ps.length, .str (ropeTxt s ps), nV c]) hp
        have sf := s46.trans s7
        refine r _ _ (sa.trans sf) ⟨p, vm, .ref a, .ref aw, .ref ao, rfl, upd_same, stab_mc _ _ _ _ (TK.of sf) hm3, Tw.of (sf _ _ ha3) (z3.imp fun a b h => stab_wd _ _ _ _ (TK.of sf) h), Wd.of (sf _ _ haw), Wd.of ?_⟩
        have hz := (s6.trans s7) ao _ (upd_same (H := H4))
        rw [pts_eq (by rw [hlen, z.1, List.length_map]) hv] at hz
        exact hz
end
end K68D
/-! The law: what is told, how ropes are made and called. -/
namespace K68D
open PySem PySem.Spec PyProof.Rows L2 K68R K68K K68T K68
section
variable {w : World} {K : PySem.W.Frag} {mg : Str → Option Value} {base : Heap}
/-! ### _law_told -/
def spTold (K : PySem.W.Frag) (s : Srt) : Sp := fun vs H Q _ => ∃ x m cap ps past, vs = [.ref x] ∧ RopeAt K s H x m cap ps past ∧ m.Ok ∧ Good m ps ∧ Res H Q fun H' v => ToldAt s m ps past.length H' v
theorem sc_told : FnScope ["_law_rope", "_law_more"] ["_law_rope"] (defScope b__law_told) := ⟨rfl, rfl, rfl, by decide +kernel, rfl, by decide +kernel, by decide +kernel⟩
theorem r_told (T : Txt K mg) (s : Srt) : FnR PP w K mg base CX0 8 (He.ga K "_law_told") (spTold K s) := by
  obtain ⟨fd, F⟩ := T.F__law_told
  obtain ⟨f1, F1, B1⟩ := r_gm (w := w) (base := base) T s
  obtain ⟨f2, F2, B2⟩ := r_gp (w := w) (base := base) T s
  obtain ⟨f3, F3, B3⟩ := r_gw (w := w) (base := base) T s
  obtain ⟨f4, F4, B4⟩ := r_gr (w := w) (base := base) T s
  obtain ⟨f5, F5, B5⟩ := r_gs (w := w) (base := base) T s
  obtain ⟨f6, F6, B6⟩ := r_gc (w := w) (base := base) T s
  refine mkR F sc_told (fun _ _ _ _ _ _ us hl => match us, hl with | [_], _ => rfl) (fun vs H Q E h => ?_) (fun cdv A outer s' H vs Q E hr h => ?_)
  · obtain ⟨x, m, cap, ps, past, rfl, _⟩ := h
    rfl
  · refine ⟨_, PSs.nox (pss_cons (ps_set (i := 1) sc_told.nd rfl (Or.inl rfl) (pe_tup (pa_cons (pe_callB (call_ownLen (E := E0) (T.m_len s) (r_len T s) (hr.mono (by decide)) pass0) rfl T.f_len boot_len (pa_cons (pv 0) pa_nil))
        (pa_cons (pe_callB (call_ownRepr (E := E0) (T.m_repr s) (r_repr T s) (hr.mono (by decide)) pass0) rfl T.f_repr (by decide +kernel) (pa_cons (pv 0) pa_nil)) (pa_cons (pe_prop (E := E0) (pv 0) (T.c_ s) (T.p_changes s) F6 hr B6 .nil pass0 rfl) pa_nil)))))
      (pss_one (ps_ret (pe_op op_catA (pe_tup (pa_cons (pe_prop (E := E0) (pv 0) (T.c_ s) (T.p_machine s) F1 hr B1 .nil pass0 rfl) (pa_cons (pe_prop (E := E0) (pv 0) (T.c_ s) (T.p_pieces s) F2 hr B2 .nil pass0 rfl) (pa_cons (pe_prop (E := E0) (pv 0) (T.c_ s) (T.p_word s) F3 hr B3 .nil pass0 rfl)
        (pa_cons (pe_prop (E := E0) (pv 0) (T.c_ s) (T.p_result s) F4 hr B4 .nil pass0 rfl) (pa_cons (pe_prop (E := E0) (pv 0) (T.c_ s) (T.p_results s) F5 hr B5 .nil pass0 rfl) pa_nil)))))) (pv 1))))), ?_⟩
    obtain ⟨x, m, cap, ps, past, rfl, hx, ok, g, r⟩ := h
    have g1 := g.2.1
    obtain ⟨dx, vm, vk, vp, h0, _⟩ := id hx
    refine ⟨_, rfl, x, dx, _, rfl, h0, x, m, cap, ps, past, rfl, hx, ps.length, rfl, by omega, ?_⟩
    refine ⟨_, rfl, x, dx, _, rfl, h0, x, m, cap, ps, past, rfl, hx, g, fun v1 H1 s1 e1 => ⟨ropeTxt s ps, e1, ?_⟩⟩
    refine ⟨_, rfl, x, dx, _, rfl, s1 _ _ h0, x, m, cap, ps, past, rfl, hx.same s1, ok, g, fun v2 H2 s2 e2 => ⟨show 3 ≤ sizeLine by decide, fun p hp => ?_⟩⟩
    subst e2
    have s3 := same_upd (o := .tup [V.int (ps.length : Int), V.str (ropeTxt s ps), nV past.length]) hp
    have sA := (s1.trans s2).trans s3
    refine ⟨_, rfl, x, dx, _, rfl, sA _ _ h0, x, m, cap, ps, past, rfl, hx.same sA, ok, g, fun v4 H4 s4 h4 => ?_⟩
    have sB := sA.trans s4
    refine ⟨_, rfl, x, dx, _, rfl, sB _ _ h0, x, m, cap, ps, past, rfl, hx.same sB, ok, g, fun v5 H5 s5 h5 => ?_⟩
    have sC := sB.trans s5
    refine ⟨_, rfl, x, dx, _, rfl, sC _ _ h0, x, m, cap, ps, past, rfl, hx.same sC, ok, g, fun v6 H6 s6 h6 => ?_⟩
    have sD := sC.trans s6
    refine ⟨_, rfl, x, dx, _, rfl, sD _ _ h0, x, m, cap, ps, past, rfl, hx.same sD, ok, g, fun v7 H7 s7 h7 => ?_⟩
    subst h7
    have sE := sD.trans s7
    refine ⟨_, rfl, x, dx, _, rfl, sE _ _ h0, x, m, cap, ps, past, rfl, hx.same sE, ok, g, fun v8 H8 s8 h8 => ⟨show 5 ≤ sizeLine by decide, fun q hq => ?_⟩⟩
    have s9 := same_upd (o := .tup [v4, v5, v6, nV (m.read ps.flatten), v8]) hq
    have sF := (sE.trans s8).trans s9
    have hpF := ((((((s4.trans s5).trans s6).trans s7).trans s8).trans s9)) p _ upd_same
    refine ⟨_, rfl, catA upd_same hpF (show 8 ≤ 1000 by decide) fun c Hc sc ec => r _ _ (sF.trans sc) ⟨c, v4, v5, v6, v8, rfl, ec, ?_, ?_, ?_, ?_⟩⟩
    · exact stab_mc _ _ _ _ (TK.of (((((s5.trans s6).trans s7).trans s8).trans s9).trans sc)) h4
    · exact stab_ps _ _ _ _ (TK.of ((((s6.trans s7).trans s8).trans s9).trans sc)) h5
    · exact stab_wd _ _ _ _ (TK.of (((s7.trans s8).trans s9).trans sc)) h6
    · exact stab_wd _ _ _ _ (TK.of (s9.trans sc)) h8
/-! ### they are the same -/
theorem sam_wd {n : Nat} {H : Hp} {a b : V} {l : Word} (h1 : Wd H a l) (h2 : Wd H b l) (hl : l.length ≤ 1000) : Sam (n + 1) H a b := by
  obtain ⟨p, rfl, hp⟩ := h1
  obtain ⟨q, rfl, hq⟩ := h2
  refine .inr ⟨p, q, _, _, rfl, rfl, hp, hq, rfl, by rw [List.length_map]; exact hl, fun i x y hx hy => ?_⟩
  obtain ⟨n1, _, rfl⟩ := map_get hx
  rw [hx] at hy
  obtain rfl := Option.some.inj hy
  exact Sam.flat (.inl ⟨_, rfl⟩)
theorem sam_tw {α : Type} {R : Rl α} {n : Nat} {H : Hp} {a b : V} {l : List α} (f : ∀ v v' y, y ∈ l → R H v y → R H v' y → Sam n H v v') (h1 : Tw R H a l) (h2 : Tw R H b l) (hl : l.length ≤ 1000) : Sam (n + 1) H a b := by
  obtain ⟨p, xs, rfl, hp, z1⟩ := h1
  obtain ⟨q, ys, rfl, hq, z2⟩ := h2
  refine .inr ⟨p, q, xs, ys, rfl, rfl, hp, hq, z1.1.trans z2.1.symm, by rw [z2.1]; exact hl, fun i x y hx hy => ?_⟩
  obtain ⟨d, hd, r1⟩ := z1.getV hx
  obtain ⟨d', hd', r2⟩ := z2.getV hy
  rw [hd] at hd'
  obtain rfl := Option.some.inj hd'
  exact f x y d (List.mem_of_getElem? hd) r1 r2
theorem sam_mc {H : Hp} {a b : V} {m : Mach} (ok : m.Ok) (h1 : Mc H a m) (h2 : Mc H b m) : Sam 3 H a b := by
  obtain ⟨p, am, ao, rfl, hp, hm, ho⟩ := h1
  obtain ⟨q, bm, bo, rfl, hq, km, ko⟩ := h2
  have o3 := ok.three
  have o4 := ok.four
  have ol := ok.ol
  have k1 : Sam 2 H (.ref am) (.ref bm) := sam_tw (fun v v' y hy r1 r2 => sam_wd r1 r2 (by rw [(ok.row y hy).1]; omega)) hm km (by omega)
  have k2 : Sam 2 H (.ref ao) (.ref bo) := sam_wd ho ko (by omega)
  refine .inr ⟨p, q, _, _, rfl, rfl, hp, hq, rfl, show 5 ≤ 1000 by decide, fun i x y hx hy => ?_⟩
  match i, hx, hy with
  | 0, hx, hy => cases hx; cases hy; exact Sam.flat (.inl ⟨_, rfl⟩)
  | 1, hx, hy => cases hx; cases hy; exact Sam.flat (.inr ⟨_, rfl⟩)
  | 2, hx, hy => cases hx; cases hy; exact Sam.flat (.inl ⟨_, rfl⟩)
  | 3, hx, hy => cases hx; cases hy; exact k1
  | 4, hx, hy => cases hx; cases hy; exact k2
  | i + 5, hx, _ => exact absurd hx (by simp)
theorem Sam.up : ∀ {n : Nat} {H : Hp} {a b : V}, Sam n H a b → Sam (n + 1) H a b
  | 0, _, _, _, h => .inl h
  | n + 1, _, _, _, .inl h => .inl h
  | n + 1, _, _, _, .inr ⟨p, q, xs, ys, e1, e2, h1, h2, l1, l2, z⟩ => .inr ⟨p, q, xs, ys, e1, e2, h1, h2, l1, l2, fun i x y hx hy => (z i x y hx hy).up⟩
theorem len_mem {ps : Pieces} {p : Word} (h : p ∈ ps) : p.length ≤ ps.flatten.length := by
  obtain ⟨i, hi⟩ := List.mem_iff_getElem?.mp h
  have := flat_le hi
  omega
theorem sam_told {s : Srt} {m : Mach} {ps : Pieces} {c : Nat} {H : Hp} {a b : V} (ok : m.Ok) (g : Good m ps) (h1 : ToldAt s m ps c H a) (h2 : ToldAt s m ps c H b) : Sam 4 H a b := by
  obtain ⟨p, v1, v2, v3, v5, rfl, hp, m1, p1, w1, r1⟩ := h1
  obtain ⟨q, u1, u2, u3, u5, rfl, hq, m2, p2, w2, r2⟩ := h2
  have g1 := g.2.1
  have g2 := g.2.2
  have k1 : Sam 3 H v1 u1 := sam_mc ok m1 m2
  have k2 : Sam 2 H v2 u2 := sam_tw (fun v v' y hy r1 r2 => sam_wd r1 r2 (by have := len_mem hy; omega)) p1 p2 (by omega)
  have k3 : Sam 3 H v3 u3 := sam_wd w1 w2 (by omega)
  have k5 : Sam 3 H v5 u5 := sam_wd r1 r2 (by rw [List.length_map]; omega)
  refine .inr ⟨p, q, _, _, rfl, rfl, hp, hq, rfl, show 8 ≤ 1000 by decide, fun i x y hx hy => ?_⟩
  match i, hx, hy with
  | 0, hx, hy => cases hx; cases hy; exact k1
  | 1, hx, hy => cases hx; cases hy; exact k2.up
  | 2, hx, hy => cases hx; cases hy; exact k3
  | 3, hx, hy => cases hx; cases hy; exact Sam.flat (.inl ⟨_, rfl⟩)
  | 4, hx, hy => cases hx; cases hy; exact k5
  | 5, hx, hy => cases hx; cases hy; exact Sam.flat (.inl ⟨_, rfl⟩)
  | 6, hx, hy => cases hx; cases hy; exact Sam.flat (.inr ⟨_, rfl⟩)
  | 7, hx, hy => cases hx; cases hy; exact Sam.flat (.inl ⟨_, rfl⟩)
  | i + 8, hx, _ => exact absurd hx (by simp)
/-! ### _law_made -/
def spMade (K : PySem.W.Frag) (s : Srt) : Sp := fun vs H Q _ => ∃ vm m cap, vs = [nV (sIdx s), vm, nV cap] ∧ Mc H vm m ∧ m.Ok ∧ cap ≤ 20 ∧ ∀ x H', H x = none → Same H H' → RopeAt K s H' x m cap [] [] → Q (.ref x) H'
theorem sc_made : FnScope ["_law_sort", "_law_machine_here", "_law_cap"] ["_law_sort", "_law_machine_here", "_law_cap"] (defScope b__law_made) := ⟨rfl, rfl, rfl, by decide +kernel, rfl, by decide +kernel, by decide +kernel⟩
theorem made_keep {H H' : Hp} {x dx C : Addr} (hx : H x = none) (hd : H dx = none) (k : KeepX x (upd (upd H dx (.own x)) x (.ins C dx [])) H') : Same H H' := fun b o e => by
  have n1 : b ≠ x := ne_of_none e hx
  have n2 : b ≠ dx := ne_of_none e hd
  exact k b o n1 (by rw [upd_ne n1, upd_ne n2]; exact e)
theorem made_tk {H : Hp} {x dx C : Addr} (hx : H x = none) (hd : H dx = none) : Same H (upd (upd H dx (.own x)) x (.ins C dx [])) := fun b o e => by
  have n1 : b ≠ x := ne_of_none e hx
  have n2 : b ≠ dx := ne_of_none e hd
  rw [upd_ne n1, upd_ne n2]
  exact e
theorem r_made (T : Txt K mg) (s : Srt) : FnR PP w K mg base CX0 9 (He.ga K "_law_made") (spMade K s) := by
  obtain ⟨fd, F⟩ := T.F__law_made
  obtain ⟨f1, I1, b1, b2⟩ := r_initSht (w := w) (base := base) T
  obtain ⟨f2, I2, b3, b4⟩ := r_initBoth (w := w) (base := base) T
  refine mkR F sc_made (fun _ _ _ _ _ _ us hl => match us, hl with | [_, _, _], _ => rfl) (fun vs H Q E h => ?_) (fun cdv A outer s' H vs Q E hr h => ?_)
  · obtain ⟨vm, m, cap, rfl, _⟩ := h
    rfl
  · refine ⟨_, PSs.nox (pss_cons (ps_if (pt_cmpR op_eq (pv 0) pe_int (nomark _)) (pss_one (ps_ret (StX.pe_makeR (E := E0) (T.m_init .rope) (r_init T .rope rfl) (hr.mono (by decide)) rfl T.g_Rope pass0 (pa_cons (pv 1) pa_nil)))) pss_nil)
      (pss_cons (ps_if (pt_cmpR op_eq (pv 0) pe_int (nomark _)) (pss_one (ps_ret (StX.pe_makeR (E := E0) (T.m_init .std) (r_init T .std rfl) (hr.mono (by decide)) rfl T.g_Steady pass0 (pa_cons (pv 1) pa_nil)))) pss_nil)
      (pss_one (ps_ret (pe_ifExp (pt_cmpR op_eq (pv 0) pe_int (nomark _)) (pe_makeN (E := E0) (n := 1) (ks := ["most"]) (T.m_init .sht) I1 hr rfl T.g_Short b2 pass0 (pa_cons (pv 1) pa_nil) (pk_cons (pv 2) pk_nil))
        (pe_makeN (E := E0) (n := 2) (ks := []) (T.m_init .both) I2 hr rfl T.g_ShortSteady b3 pass0 (pa_cons (pv 1) (pa_cons (pv 2) pa_nil)) pk_nil)))))), ?_⟩
    obtain ⟨vm, m, cap, rfl, hm, ok, hcap, k⟩ := h
    cases s with
    | rope =>
      refine ⟨_, rfl, rfl, _, rfl, iteT ⟨_, rfl, fun x dx hx hd nd => ⟨x, vm, m, dx, rfl, upd_same, stab_mc _ _ _ _ (TK.of (made_tk hx hd)) hm, ok, fun c H' kp ra => ⟨rfl, k x H' hx (made_keep hx hd kp) ?_⟩⟩⟩⟩
      obtain ⟨dx, a, b, c, h⟩ := ra
      exact ⟨dx, a, b, c, h⟩
    | std =>
      refine ⟨_, rfl, rfl, _, rfl, iteF ⟨_, rfl, rfl, _, rfl, iteT ⟨_, rfl, fun x dx hx hd nd => ⟨x, vm, m, dx, rfl, upd_same, stab_mc _ _ _ _ (TK.of (made_tk hx hd)) hm, ok, fun c H' kp ra => ⟨rfl, k x H' hx (made_keep hx hd kp) ?_⟩⟩⟩⟩⟩
      obtain ⟨dx, a, b, c, h⟩ := ra
      exact ⟨dx, a, b, c, h⟩
    | sht =>
      refine ⟨_, rfl, rfl, _, rfl, iteF ⟨_, rfl, rfl, _, rfl, iteF ⟨_, rfl, rfl, _, rfl, iteT ⟨_, rfl, _, rfl, rfl, rfl, fun x dx hx hd nd => ⟨x, vm, m, dx, cap, rfl, upd_same, stab_mc _ _ _ _ (TK.of (made_tk hx hd)) hm, ok, hcap, fun H' kp ra => ⟨rfl, k x H' hx (made_keep hx hd kp) ra⟩⟩⟩⟩⟩⟩
    | both =>
      refine ⟨_, rfl, rfl, _, rfl, iteF ⟨_, rfl, rfl, _, rfl, iteF ⟨_, rfl, rfl, _, rfl, iteF ⟨_, rfl, _, rfl, rfl, rfl, fun x dx hx hd nd => ⟨x, vm, m, dx, cap, rfl, upd_same, stab_mc _ _ _ _ (TK.of (made_tk hx hd)) hm, ok, hcap, fun H' kp ra => ⟨rfl, k x H' hx (made_keep hx hd kp) ra⟩⟩⟩⟩⟩⟩
end
end K68D
/-! The law: what comes next, the call. -/
namespace K68D
open PySem PySem.Spec PyProof.Rows L2 K68R K68K K68T K68
section
variable {w : World} {K : PySem.W.Frag} {mg : Str → Option Value} {base : Heap}
/-- the seven ways -/
def wayOf (y : Nat) (wd : Word) (k : Nat) : Way := match y with
  | 0 => .right wd
  | 1 => .left wd
  | 2 => .three wd
  | 3 => .undo
  | 4 => .merge k
  | 5 => .drop k
  | _ => .cut k wd.length
def Nxt (H : Hp) (Q : VK) : Except Err Pieces → Prop
  | .ok q => Res H Q fun H' v => Ps H' v q
  | .error e => Res H Q fun _ v => v = .str (errTxt e)
def spNext : Sp := fun vs H Q _ => ∃ vp va vw y k ps past wd, vs = [vp, va, nV y, vw, nV k] ∧ y < 7 ∧ Ps H vp ps ∧ Lw Ps H va past ∧ Wd H vw wd ∧ wd.length ≤ 5 ∧ ps.length ≤ 20 ∧ ps.flatten.length ≤ 40 ∧ Nxt H Q (next ps past (wayOf y wd k))
abbrev Nnx : List Str := ["_law_pieces", "_law_past", "_law_way", "_law_word_here", "_law_place", "_law_piece", "_law_long"]
theorem sc_next : FnScope Nnx ["_law_pieces", "_law_past", "_law_way", "_law_word_here", "_law_place"] (defScope b__law_next) := ⟨rfl, rfl, rfl, by decide +kernel, rfl, by decide +kernel, by decide +kernel⟩
theorem shaped_list (l : List Pieces) : SeqAt.shaped (.list (l.map dP)) = true := by
  unfold SeqAt.shaped
  have h1 : (PyData.list (l.map dP)).canLay0 = true := canAll can_dP l
  have h2 : (PyData.list (l.map dP)).depth ≤ 3 := Nat.succ_le_succ (depAll dep_dP l)
  rw [h1, decide_eq_true (Nat.le_trans h2 (by decide))]
  rfl
theorem dp_lw {H : Hp} {v : V} {l : List Pieces} (h : Lw Ps H v l) : Dp K H v (.list (l.map dP)) := by
  obtain ⟨a, xs, rfl, ha, z⟩ := h
  exact .lst (SqL.of ha) (dp_all (f := dP) (fun _ _ h => dp_ps h) z)
theorem piece_len {ps : Pieces} {k : Nat} (h : k < ps.length) : (ps.getD k []).length ≤ ps.flatten.length := len_mem (row_mem h)
theorem r_next (T : Txt K mg) : FnR PP w K mg base CX0 1 (He.ga K "_law_next") spNext := by
  obtain ⟨fd, F⟩ := T.F__law_next
  refine mkR F sc_next (fun _ _ _ _ _ _ us hl => match us, hl with | [_, _, _, _, _], _ => rfl) (fun vs H Q E h => ?_) (fun cdv A outer s' H vs Q E hr h => ?_)
  · obtain ⟨vp, va, vw, y, k, ps, past, wd, rfl, _⟩ := h
    rfl
  · refine ⟨_, PSs.nox (pss_cons (ps_if (pt_cmpR op_eq (pv 2) pe_int (nomark _)) (pss_one (ps_ret (pe_op op_catA (pv 0) (pe_tup (pa_cons (pv 3) pa_nil))))) pss_nil)
      (pss_cons (ps_if (pt_cmpR op_eq (pv 2) pe_int (nomark _)) (pss_one (ps_ret (pe_op op_catA (pe_tup (pa_cons (pv 3) pa_nil)) (pv 0)))) pss_nil)
      (pss_cons (ps_if (pt_cmpR op_eq (pv 2) pe_int (nomark _)) (pss_one (ps_ret (pe_tup (pa_cons (pv 3) (pa_cons (pe_tup pa_nil) (pa_cons (pv 3) pa_nil)))))) pss_nil)
      (pss_cons (ps_if (pt_cmpR op_eq (pv 2) pe_int (nomark _)) (pss_one (ps_ret (pe_ifExp (pt_cmpR (op_neD hr.units) (pv 1) (pe_lst pa_nil) (nomark _)) (pe_ix ix_list (pv 1) (pe_un un_neg pe_int) (fun _ _ => rfl)) pe_str))) pss_nil)
      (pss_cons (ps_if (pt_cmpR op_ge (pv 4) (pe_op op_sub (pe_callB call_len rfl T.f_len boot_len (pa_cons (pv 0) pa_nil)) (pe_callTy call_int1 rfl T.f_int (by decide +kernel) (pa_cons (pe_cmpR op_eq (pv 2) pe_int (nomark _)) pa_nil))) (nomark _)) (pss_one (ps_ret pe_str)) pss_nil)
      (pss_cons (ps_if (pt_cmpR op_eq (pv 2) pe_int (nomark _)) (pss_one (ps_ret (pe_op op_catA (pe_op op_catA (pe_slice sl_tupA (pv 0) po_none (po_some (pv 4))) (pe_tup (pa_cons (pe_op op_catA (pe_ix ix_tup (pv 0) (pv 4) (fun _ _ => rfl)) (pe_ix ix_tup (pv 0) (pe_op op_add (pv 4) pe_int) (fun _ _ => rfl))) pa_nil)))
          (pe_slice sl_tupA (pv 0) (po_some (pe_op op_add (pv 4) pe_int)) po_none)))) pss_nil)
      (pss_cons (ps_if (pt_cmpR op_eq (pv 2) pe_int (nomark _)) (pss_one (ps_ret (pe_op op_catA (pe_slice sl_tupA (pv 0) po_none (po_some (pv 4))) (pe_slice sl_tupA (pv 0) (po_some (pe_op op_add (pv 4) pe_int)) po_none)))) pss_nil)
      (pss_cons (ps_if (pt_cmpR op_gt (pe_callB call_len rfl T.f_len boot_len (pa_cons (pv 3) pa_nil)) (pe_callB call_len rfl T.f_len boot_len (pa_cons (pe_ix ix_tup (pv 0) (pv 4) (fun _ _ => rfl)) pa_nil)) (nomark _)) (pss_one (ps_ret pe_str)) pss_nil)
      (pss_cons (ps_par (i := 5) (j := 6) rfl sc_next.nd rfl rfl (by decide) rfl rfl (pa_cons (pe_ix ix_tup (pv 0) (pv 4) (fun _ _ => rfl)) (pa_cons (pe_callB call_len rfl T.f_len boot_len (pa_cons (pv 3) pa_nil)) pa_nil)) (by rfl))
      (pss_one (ps_ret (pe_op op_catA (pe_op op_catA (pe_slice sl_tupA (pv 0) po_none (po_some (pv 4))) (pe_tup (pa_cons (pe_slice sl_tupA (pv 5) po_none (po_some (pv 6))) (pa_cons (pe_slice sl_tupA (pv 5) (po_some (pv 6)) po_none) pa_nil))))
          (pe_slice sl_tupA (pv 0) (po_some (pe_op op_add (pv 4) pe_int)) po_none))))))))))))), ?_⟩
    obtain ⟨vp, va, vw, y, k, ps, past, wd, rfl, hy, hp, ha, hw, w5, l1, l2, n⟩ := h
    obtain ⟨ap, xs, rfl, hap, z⟩ := id hp
    -- the last four ways: what stands behind the look at the place
    match y, hy with
    | 0, _ =>
      refine ⟨_, rfl, rfl, _, rfl, iteT ⟨_, rfl, _, rfl, show 1 ≤ sizeLine by decide, fun t ht => ?_⟩⟩
      have s1 := same_upd (o := .tup [vw]) ht
      refine catA (s1 _ _ hap) upd_same (by rw [z.1]; show ps.length + 1 ≤ 1000; omega) fun c H2 s2 e2 => n _ _ (s1.trans s2) (Tw.of e2 ?_)
      exact ((z.append (.cons hw .nil)).imp fun a b h => stab_wd _ _ _ _ (TK.of (s1.trans s2)) h)
    | 1, _ =>
      refine ⟨_, rfl, rfl, _, rfl, iteF ⟨_, rfl, rfl, _, rfl, iteT ⟨_, rfl, show 1 ≤ sizeLine by decide, fun t ht => ⟨_, rfl, ?_⟩⟩⟩⟩
      have s1 := same_upd (o := .tup [vw]) ht
      refine catA upd_same (s1 _ _ hap) (by rw [z.1]; show 1 + ps.length ≤ 1000; omega) fun c H2 s2 e2 => n _ _ (s1.trans s2) (Tw.of e2 ?_)
      exact ((All2.cons hw z).imp fun a b h => stab_wd _ _ _ _ (TK.of (s1.trans s2)) h)
    | 2, _ =>
      refine ⟨_, rfl, rfl, _, rfl, iteF ⟨_, rfl, rfl, _, rfl, iteF ⟨_, rfl, rfl, _, rfl, iteT ⟨_, rfl, show 0 ≤ sizeLine by decide, fun t ht => ⟨_, rfl, show 3 ≤ sizeLine by decide, fun u hu => ?_⟩⟩⟩⟩⟩
      have s1 := same_upd (o := .tup []) ht
      have s2 := same_upd (o := .tup [vw, .ref t, vw]) hu
      have s12 := s1.trans s2
      have hw2 := stab_wd _ _ _ _ (TK.of s12) hw
      exact n _ _ s12 (Tw.of upd_same (.cons hw2 (.cons (Wd.of (s2 _ _ upd_same)) (.cons hw2 .nil))))
    | 3, _ =>
      refine ⟨_, rfl, rfl, _, rfl, iteF ⟨_, rfl, rfl, _, rfl, iteF ⟨_, rfl, rfl, _, rfl, iteF ⟨_, rfl, rfl, _, rfl, iteT ?_⟩⟩⟩⟩
      refine ⟨_, rfl, show 0 ≤ sizeLine by decide, fun t ht => ?_⟩
      have s1 := same_upd (o := .lst []) ht
      have ha1 := ha.same stab_ps s1
      refine ⟨_, .list [], dp_lw ha1, .lst (SqL.of upd_same) .nil, shaped_list past, by decide, _, rfl, ?_⟩
      cases e : past.getLast? with
      | none =>
        have en : past = [] := List.getLast?_eq_none_iff.mp e
        subst en
        exact iteF (n _ _ s1 rfl)
      | some q =>
        have n' : Nxt H Q (match past.getLast? with | some q => .ok q | none => .error .nothing) := n
        rw [e] at n'
        have hn : past ≠ [] := fun z => by rw [z] at e; cases e
        have hne : (!PyData.eqv (.list (past.map dP)) (.list [])) = true := by
          cases past with
          | nil => exact absurd rfl hn
          | cons a l => rfl
        rw [hne]
        obtain ⟨aa, ys, rfl, haa, zz⟩ := ha1
        have hyn : ys ≠ [] := fun z0 => by
          rw [z0] at zz
          exact hn (List.length_eq_zero_iff.mp zz.1.symm)
        have ee : ys = ys.dropLast ++ [ys.getLast hyn] := (List.dropLast_concat_getLast hyn).symm
        have hlast : ys[past.length - 1]? = some (ys.getLast hyn) := by
          rw [← zz.1, ← List.getLast?_eq_getElem?, List.getLast?_eq_some_getLast hyn]
        have hq : past[past.length - 1]? = some q := by rw [← List.getLast?_eq_getElem?]; exact e
        refine iteT ⟨_, rfl, _, rfl, aa, ys, -1, ys.getLast hyn, rfl, rfl, SqL.of haa, ?_, n' _ _ s1 (zz.2 _ _ _ hlast hq)⟩
        have hz := atI_last ys.dropLast (ys.getLast hyn)
        rw [← ee] at hz
        exact hz
    | 4, _ =>
      refine ⟨_, rfl, rfl, _, rfl, iteF ⟨_, rfl, rfl, _, rfl, iteF ⟨_, rfl, rfl, _, rfl, iteF ⟨_, rfl, rfl, _, rfl, iteF ?_⟩⟩⟩⟩
      refine ⟨_, rfl, _, rfl, _, ps.length, rfl, .inr ⟨_, SqT.of hap, z.1.symm⟩, _, rfl, rfl, .inr ⟨true, rfl, _, _, rfl, rfl, _, _, rfl, rfl, _, rfl, ?_⟩⟩
      show if decide ((ps.length : Int) - 1 ≤ (k : Int)) = true then _ else _
      have n' : Nxt H Q (if k + 1 < ps.length then .ok (ps.take k ++ (ps.getD k [] ++ ps.getD (k + 1) []) :: ps.drop (k + 2)) else .error .place) := n
      by_cases hk : k + 1 < ps.length
      · rw [if_pos hk] at n'
        rw [decide_eq_false (by omega : ¬ ((ps.length : Int) - 1 ≤ (k : Int)))]
        obtain ⟨v1, hv1, b1, rfl, hb1⟩ := get_at (d := []) z (show k < ps.length by omega)
        obtain ⟨v2, hv2, b2, rfl, hb2⟩ := get_at (d := []) z hk
        have p1 := piece_len (show k < ps.length by omega)
        have p2 := piece_len hk
        refine iteF ⟨_, rfl, rfl, _, rfl, iteT ?_⟩
        refine ⟨_, rfl, _, rfl, k, rfl, slA hap fun b3 H1 s1 e1 => ?_⟩
        rw [cut_take] at e1
        refine ⟨_, rfl, _, rfl, ap, _, (k : Int), _, rfl, rfl, SqT.of (s1 _ _ hap), atI_nat hv1, _, rfl, _, rfl, _, _, rfl, rfl, ap, _, ((k + 1 : Nat) : Int), _, rfl, rfl, SqT.of (s1 _ _ hap), atI_nat hv2, catA (s1 _ _ hb1) (s1 _ _ hb2) (by rw [List.length_map, List.length_map]; omega) fun b4 H2 s2 e2 => ⟨show 1 ≤ sizeLine by decide, fun t ht => ?_⟩⟩
        rw [← List.map_append] at e2
        have s3 := same_upd (o := .tup [.ref b4]) ht
        refine catA ((s2.trans s3) _ _ e1) upd_same (by rw [List.length_take, z.1]; show min k ps.length + 1 ≤ 1000; omega) fun b5 H4 s4 e4 => ?_
        have s14 := ((s1.trans s2).trans s3).trans s4
        refine ⟨_, rfl, _, rfl, _, _, rfl, rfl, _, rfl, slN (slA (s14 _ _ hap) fun b6 H5 s5 e5 => ?_)⟩
        have e5' : H5 b6 = some (.tup (cutV xs (some ((k + 2 : Nat) : Int)) none)) := e5
        rw [cut_drop] at e5'
        refine catA (s5 _ _ e4) e5' (by rw [List.length_append, List.length_take, List.length_drop, z.1]; show min k ps.length + 1 + _ ≤ 1000; omega) fun b7 H6 s6 e6 => ?_
        have sa := (s14.trans s5).trans s6
        refine n' _ _ sa (Tw.of e6 ?_)
        rw [List.append_assoc]
        exact ((z.take k).imp fun a b r => stab_wd _ _ _ _ (TK.of sa) r).append (.cons (Wd.of (((s3.trans s4).trans (s5.trans s6)) _ _ e2)) ((z.drop (k + 2)).imp fun a b r => stab_wd _ _ _ _ (TK.of sa) r))
      · rw [if_neg hk] at n'
        rw [decide_eq_true (by omega : (ps.length : Int) - 1 ≤ (k : Int))]
        exact iteT (n' _ _ (Same.refl H) rfl)
    | 5, _ =>
      refine ⟨_, rfl, rfl, _, rfl, iteF ⟨_, rfl, rfl, _, rfl, iteF ⟨_, rfl, rfl, _, rfl, iteF ⟨_, rfl, rfl, _, rfl, iteF ?_⟩⟩⟩⟩
      refine ⟨_, rfl, _, rfl, _, ps.length, rfl, .inr ⟨_, SqT.of hap, z.1.symm⟩, _, rfl, rfl, .inr ⟨false, rfl, _, _, rfl, rfl, _, _, rfl, rfl, _, rfl, ?_⟩⟩
      show if decide ((ps.length : Int) - 0 ≤ (k : Int)) = true then _ else _
      have n' : Nxt H Q (if k < ps.length then .ok (ps.take k ++ ps.drop (k + 1)) else .error .place) := n
      by_cases hk : k < ps.length
      · rw [if_pos hk] at n'
        rw [decide_eq_false (by omega : ¬ ((ps.length : Int) - 0 ≤ (k : Int)))]
        refine iteF ⟨_, rfl, rfl, _, rfl, iteF ⟨_, rfl, rfl, _, rfl, iteT ?_⟩⟩
        refine ⟨_, rfl, _, rfl, k, rfl, slA hap fun b3 H1 s1 e1 => ?_⟩
        rw [cut_take] at e1
        refine ⟨_, rfl, _, rfl, _, _, rfl, rfl, _, rfl, slN (slA (s1 _ _ hap) fun b6 H5 s5 e5 => ?_)⟩
        have e5' : H5 b6 = some (.tup (cutV xs (some ((k + 1 : Nat) : Int)) none)) := e5
        rw [cut_drop] at e5'
        refine catA (s5 _ _ e1) e5' (by rw [List.length_take, List.length_drop, z.1]; omega) fun b7 H6 s6 e6 => ?_
        have sa := (s1.trans s5).trans s6
        exact n' _ _ sa (Tw.of e6 (((z.take k).append (z.drop (k + 1))).imp fun a b r => stab_wd _ _ _ _ (TK.of sa) r))
      · rw [if_neg hk] at n'
        rw [decide_eq_true (by omega : (ps.length : Int) - 0 ≤ (k : Int))]
        exact iteT (n' _ _ (Same.refl H) rfl)
    | 6, _ =>
      refine ⟨_, rfl, rfl, _, rfl, iteF ⟨_, rfl, rfl, _, rfl, iteF ⟨_, rfl, rfl, _, rfl, iteF ⟨_, rfl, rfl, _, rfl, iteF ?_⟩⟩⟩⟩
      refine ⟨_, rfl, _, rfl, _, ps.length, rfl, .inr ⟨_, SqT.of hap, z.1.symm⟩, _, rfl, rfl, .inr ⟨false, rfl, _, _, rfl, rfl, _, _, rfl, rfl, _, rfl, ?_⟩⟩
      show if decide ((ps.length : Int) - 0 ≤ (k : Int)) = true then _ else _
      have n' : Nxt H Q (if k < ps.length then (if wd.length ≤ (ps.getD k []).length then .ok (ps.take k ++ (ps.getD k []).take wd.length :: (ps.getD k []).drop wd.length :: ps.drop (k + 1)) else .error .number) else .error .place) := n
      by_cases hk : k < ps.length
      · rw [if_pos hk] at n'
        rw [decide_eq_false (by omega : ¬ ((ps.length : Int) - 0 ≤ (k : Int)))]
        obtain ⟨v1, hv1, b1, rfl, hb1⟩ := get_at (d := []) z hk
        obtain ⟨aw, rfl, haw⟩ := hw
        refine iteF ⟨_, rfl, rfl, _, rfl, iteF ⟨_, rfl, rfl, _, rfl, iteF ?_⟩⟩
        refine ⟨_, rfl, _, wd.length, rfl, .inr ⟨_, SqT.of haw, by rw [List.length_map]⟩, _, rfl, _, rfl, ap, _, (k : Int), _, rfl, rfl, SqT.of hap, atI_nat hv1, _, (ps.getD k []).length, rfl, .inr ⟨_, SqT.of hb1, by rw [List.length_map]⟩, _, _, rfl, rfl, _, rfl, ?_⟩
        by_cases hl : wd.length ≤ (ps.getD k []).length
        · rw [if_pos hl] at n'
          rw [decide_eq_false (by omega : ¬ (((ps.getD k []).length : Int) < (wd.length : Int)))]
          refine iteF ⟨_, rfl, _, rfl, ap, _, (k : Int), _, rfl, rfl, SqT.of hap, atI_nat hv1, _, rfl, _, wd.length, rfl, .inr ⟨_, SqT.of haw, by rw [List.length_map]⟩, _, _, rfl, ?_⟩
          refine ⟨_, rfl, _, rfl, k, rfl, slA hap fun b3 H1 s1 e1 => ?_⟩
          rw [cut_take] at e1
          refine ⟨_, rfl, _, rfl, wd.length, rfl, slA (s1 _ _ hb1) fun b5 H3 s3 e3 => ?_⟩
          rw [cut_take] at e3
          refine ⟨_, rfl, _, rfl, wd.length, rfl, slN (slA ((s1.trans s3) _ _ hb1) fun b6 H4 s4 e4 => ⟨show 2 ≤ sizeLine by decide, fun t ht => ?_⟩)⟩
          rw [cut_drop] at e4
          have s5 := same_upd (o := .tup [.ref b5, .ref b6]) ht
          refine catA ((s3.trans (s4.trans s5)) _ _ e1) upd_same (by rw [List.length_take, z.1]; show min k ps.length + 2 ≤ 1000; omega) fun b7 H6 s6 e6 => ?_
          have s16 := ((s1.trans s3).trans (s4.trans s5)).trans s6
          refine ⟨_, rfl, _, rfl, _, _, rfl, rfl, _, rfl, slN (slA (s16 _ _ hap) fun b8 H7 s7 e7 => ?_)⟩
          have e7' : H7 b8 = some (.tup (cutV xs (some ((k + 1 : Nat) : Int)) none)) := e7
          rw [cut_drop] at e7'
          refine catA (s7 _ _ e6) e7' (by rw [List.length_append, List.length_take, List.length_drop, z.1]; show min k ps.length + 2 + _ ≤ 1000; omega) fun b9 H8 s8 e8 => ?_
          have sa := (s16.trans s7).trans s8
          refine n' _ _ sa (Tw.of e8 ?_)
          rw [List.append_assoc]
          refine ((z.take k).imp fun a b r => stab_wd _ _ _ _ (TK.of sa) r).append (.cons (Wd.of ?_) (.cons (Wd.of ?_) ((z.drop (k + 1)).imp fun a b r => stab_wd _ _ _ _ (TK.of sa) r)))
          · rw [List.map_take]
            exact ((s4.trans s5).trans ((s6.trans s7).trans s8)) _ _ e3
          · rw [List.map_drop]
            exact (s5.trans ((s6.trans s7).trans s8)) _ _ e4
        · rw [if_neg hl] at n'
          rw [decide_eq_true (by omega : ((ps.getD k []).length : Int) < (wd.length : Int))]
          exact iteT (n' _ _ (Same.refl H) rfl)
      · rw [if_neg hk] at n'
        rw [decide_eq_true (by omega : (ps.length : Int) - 0 ≤ (k : Int))]
        exact iteT (n' _ _ (Same.refl H) rfl)
end
end K68D
/-! The law: the call. -/
namespace K68D
open PySem PySem.Spec PyProof.Rows L2 K68R K68K K68T K68
section
variable {w : World} {K : PySem.W.Frag} {mg : Str → Option Value} {base : Heap}
/-- what a call promises: None and the rope behind it, or what is raised -/
def Ops (K : PySem.W.Frag) (s : Srt) (x : Addr) (m : Mach) (cap : Nat) (H : Hp) (Q : VK) (E : XK) : Except Err (Pieces × List Pieces) → Prop
  | .ok (ps', past') => ∀ H', KeepX x H H' → RopeAt K s H' x m cap ps' past' → Q .non H'
  | .error e => Rai K H E e
theorem Ops.at {s : Srt} {x : Addr} {m : Mach} {cap : Nat} {H H1 : Hp} {Q : VK} {E : XK} {r : Except Err (Pieces × List Pieces)} (o : Ops K s x m cap H Q E r) (s1 : Same H H1) : Ops K s x m cap H1 Q E r := by
  cases r with
  | error e => exact Rai.at o s1
  | ok p => exact fun H' k ra => o H' ((KeepX.of s1).trans k) ra
theorem ops_mut {s : Srt} {x : Addr} {m : Mach} {cap : Nat} {H : Hp} {Q : VK} {E : XK} {ps : Pieces} {past : List Pieces} {y : Way} (hu : y ≠ .undo) (o : Ops K s x m cap H Q E (op s m cap ps past y)) : Mut K s x m cap ps past H Q E (next ps past y) := by
  unfold op at o
  cases hn : next ps past y with
  | error e =>
    rw [hn] at o
    exact o
  | ok q =>
    rw [hn] at o
    have o' : Ops K s x m cap H Q E (match fit s m cap q with | some e => Except.error e | none => Except.ok (q, past ++ [ps])) := by
      cases y with
      | undo => exact absurd rfl hu
      | _ => exact o
    refine ⟨fun hf => ?_, fun e he => ?_⟩
    · rw [hf] at o'
      exact o'
    · rw [he] at o'
      exact o'
def spCall (K : PySem.W.Frag) (s : Srt) : Sp := fun vs H Q E => ∃ x y k m cap ps past vw wd, vs = [.ref x, nV y, vw, nV k] ∧ y < 7 ∧ Rdy K s x m cap ps past H ∧ Wd H vw wd ∧ m.Wok wd ∧ wd.length ≤ 5 ∧ Ops K s x m cap H Q E (op s m cap ps past (wayOf y wd k))
theorem sc_lcall : FnScope ["_law_rope", "_law_way", "_law_word_here", "_law_place"] ["_law_rope", "_law_way", "_law_word_here", "_law_place"] (defScope b__law_call) := ⟨rfl, rfl, rfl, by decide +kernel, rfl, by decide +kernel, by decide +kernel⟩
theorem mut_chg {s : Srt} {x : Addr} {m : Mach} {cap : Nat} {H : Hp} {Q : VK} {E : XK} {ps q : Pieces} {past : List Pieces} (o : Mut K s x m cap ps past H Q E (.ok q)) : Chg K s x m cap ps past H Q E q := o
theorem r_lcall (T : Txt K mg) (s : Srt) : FnR PP w K mg base (L2.CX PP w) 10 (He.ga K "_law_call") (spCall K s) := by
  obtain ⟨fd, F⟩ := T.F__law_call
  obtain ⟨fu, FU, BU⟩ := r_undo (w := w) (base := base) T s
  refine mkR F sc_lcall (fun _ _ _ _ _ _ us hl => match us, hl with | [_, _, _, _], _ => rfl) (fun vs H Q E h => ?_) (fun cdv A outer s' H vs Q E hr h => ?_)
  · obtain ⟨x, y, k, m, cap, ps, past, vw, wd, rfl, _⟩ := h
    rfl
  · have tk := takes_of (X := cxOf (L2.CX PP w) PP w K mg base ["_law_rope", "_law_way", "_law_word_here", "_law_place"] "_law_call" (defScope b__law_call) (He.ga K "_law_call") cdv A outer s' H E) (E := E) rfl rfl rfl rfl
    have hr8 := hr.mono (show 8 ≤ 9 by decide)
    have pp := fun (pins : List (Addr × Obj)) (σ : L2.St) (H' : Hp) (s2 : Shared) (e : Value) (s3 : Shared) => passes_call (X := cxOf (L2.CX PP w) PP w K mg base ["_law_rope", "_law_way", "_law_word_here", "_law_place"] "_law_call" (defScope b__law_call) (He.ga K "_law_call") cdv A outer s' H E) tk (fun _ _ _ _ h => h) pins σ H' s2 e s3
    refine ⟨_, pss_cons (ps_if (pt_cmpR op_eq (pv 1) pe_int (nomark _)) (pss_one (ps_ret (StX.pe_callO (E := E) (pv 0) (T.m_call s) (r_call T s) hr pp (pa_cons (pv 2) pa_nil)))) pss_nil)
      (pss_cons (ps_if (pt_cmpR op_eq (pv 1) pe_int (nomark _)) (pss_one (ps_ret (pe_methR (E := E) (pv 0) (T.c_ s) (T.m_add_left s) (r_left T s) hr8 pp (pa_cons (pv 2) pa_nil)))) pss_nil)
      (pss_cons (ps_if (pt_cmpR op_eq (pv 1) pe_int (nomark _)) (pss_one (ps_ret (pe_methR (E := E) (pv 0) (T.c_ s) (T.m_assign_pieces s) (r_assign T s) hr8 pp (pa_cons (pe_tup (pa_cons (pv 2) (pa_cons (pe_tup pa_nil) (pa_cons (pv 2) pa_nil)))) pa_nil)))) pss_nil)
      (pss_cons (ps_if (pt_cmpR op_eq (pv 1) pe_int (nomark _)) (pss_one (ps_ret (pe_meth0 (E := E) (pv 0) (T.c_ s) (T.m_undo s) FU (hr.mono (by decide)) BU .nil pp))) pss_nil)
      (pss_cons (ps_if (pt_cmpR op_eq (pv 1) pe_int (nomark _)) (pss_one (ps_ret (pe_methR (E := E) (pv 0) (T.c_ s) (T.m_merge s) (r_merge T s) hr8 pp (pa_cons (pv 3) pa_nil)))) pss_nil)
      (pss_one (ps_ret (pe_ifExp (pt_cmpR op_eq (pv 1) pe_int (nomark _)) (pe_methR (E := E) (pv 0) (T.c_ s) (T.m_drop s) (r_drop T s) hr8 pp (pa_cons (pv 3) pa_nil))
        (pe_methR (E := E) (pv 0) (T.c_ s) (T.m_cut s) (r_cut T s) hr8 pp (pa_cons (pv 3) (pa_cons (pe_callB call_len rfl T.f_len boot_len (pa_cons (pv 2) pa_nil)) pa_nil)))))))))), ?_⟩
    obtain ⟨x, y, k, m, cap, ps, past, vw, wd, rfl, hy, rd, hw, wok, w5, o⟩ := h
    obtain ⟨hx, ok, hcap, hlen, g⟩ := id rd
    obtain ⟨dx, vm, vk, vp, h0, _⟩ := id hx
    match y, hy with
    | 0, _ =>
      have o' := ops_mut (y := .right wd) (by simp) o
      exact ⟨_, rfl, rfl, _, rfl, iteT ⟨_, rfl, x, rfl, _, rfl, .inr ⟨dx, _, h0⟩, x, m, cap, ps, past, vw, wd, rfl, rd, hw, wok, w5, o'⟩⟩
    | 1, _ =>
      have o' := ops_mut (y := .left wd) (by simp) o
      exact ⟨_, rfl, rfl, _, rfl, iteF ⟨_, rfl, rfl, _, rfl, iteT ⟨_, rfl, x, dx, _, rfl, h0, lk_none (by decide +kernel), _, rfl, x, m, cap, ps, past, vw, wd, rfl, rd, hw, wok, w5, o'⟩⟩⟩
    | 2, _ =>
      have o' := ops_mut (y := .three wd) (by simp) o
      have cd := cand_next (past := past) (y := .three wd) g ⟨wok, w5⟩ (by simp) rfl
      refine ⟨_, rfl, rfl, _, rfl, iteF ⟨_, rfl, rfl, _, rfl, iteF ⟨_, rfl, rfl, _, rfl, iteT ⟨_, rfl, x, dx, _, rfl, h0, lk_none (by decide +kernel), _, rfl, show 0 ≤ sizeLine by decide, fun t ht => ⟨_, rfl, show 3 ≤ sizeLine by decide, fun u hu => ?_⟩⟩⟩⟩⟩
      have s1 := same_upd (o := .tup []) ht
      have s2 := same_upd (o := .tup [vw, .ref t, vw]) hu
      have s12 := s1.trans s2
      have hw2 := stab_wd _ _ _ _ (TK.of s12) hw
      exact ⟨x, m, cap, ps, past, .ref u, _, rfl, ⟨hx.same s12, ok, hcap, hlen, g⟩, Tw.of upd_same (.cons hw2 (.cons (Wd.of (s2 _ _ upd_same)) (.cons hw2 .nil))), cd, Chg.at (mut_chg o') s12⟩
    | 3, _ =>
      refine ⟨_, rfl, rfl, _, rfl, iteF ⟨_, rfl, rfl, _, rfl, iteF ⟨_, rfl, rfl, _, rfl, iteF ⟨_, rfl, rfl, _, rfl, iteT ⟨_, rfl, x, dx, _, rfl, h0, lk_none (by decide +kernel), x, m, cap, ps, past, rfl, hx, hlen, fun e => ?_, fun q e => ?_⟩⟩⟩⟩⟩
      · have e1 : op s m cap ps past (wayOf 3 wd k) = .error .nothing := by
          show op s m cap ps past .undo = _
          unfold op
          simp only [next, e]
        rw [e1] at o
        exact o
      · have e1 : op s m cap ps past (wayOf 3 wd k) = .ok (q, past.dropLast) := by
          show op s m cap ps past .undo = _
          unfold op
          simp only [next, e]
        rw [e1] at o
        exact o
    | 4, _ =>
      have o' := ops_mut (y := .merge k) (by simp) o
      exact ⟨_, rfl, rfl, _, rfl, iteF ⟨_, rfl, rfl, _, rfl, iteF ⟨_, rfl, rfl, _, rfl, iteF ⟨_, rfl, rfl, _, rfl, iteF ⟨_, rfl, rfl, _, rfl, iteT ⟨_, rfl, x, dx, _, rfl, h0, lk_none (by decide +kernel), _, rfl, x, m, cap, ps, past, k, rfl, rd, o'⟩⟩⟩⟩⟩⟩
    | 5, _ =>
      have o' := ops_mut (y := .drop k) (by simp) o
      exact ⟨_, rfl, rfl, _, rfl, iteF ⟨_, rfl, rfl, _, rfl, iteF ⟨_, rfl, rfl, _, rfl, iteF ⟨_, rfl, rfl, _, rfl, iteF ⟨_, rfl, rfl, _, rfl, iteF ⟨_, rfl, rfl, _, rfl, iteT ⟨_, rfl, x, dx, _, rfl, h0, lk_none (by decide +kernel), _, rfl, x, m, cap, ps, past, k, rfl, rd, o'⟩⟩⟩⟩⟩⟩⟩
    | 6, _ =>
      have o' := ops_mut (y := .cut k wd.length) (by simp) o
      obtain ⟨aw, rfl, haw⟩ := hw
      exact ⟨_, rfl, rfl, _, rfl, iteF ⟨_, rfl, rfl, _, rfl, iteF ⟨_, rfl, rfl, _, rfl, iteF ⟨_, rfl, rfl, _, rfl, iteF ⟨_, rfl, rfl, _, rfl, iteF ⟨_, rfl, rfl, _, rfl, iteF ⟨_, rfl, x, dx, _, rfl, h0, lk_none (by decide +kernel), _, rfl, _, rfl, _, wd.length, rfl, .inr ⟨_, SqT.of haw, by rw [List.length_map]⟩, x, m, cap, ps, past, k, wd.length, rfl, rd, o'⟩⟩⟩⟩⟩⟩⟩
end
end K68D
/-! The law: what is said of a call. (Printed by gen_said.py.) -/
namespace K68D
open PySem PySem.Spec PyProof.Rows L2 LamX K68R K68K K68T K68
abbrev Nsd : List Str := ["_law_call_here", "e", "_law_marks", "_law_names"]
theorem sc_said : FnScope Nsd ["_law_call_here"] (defScope b__law_said) := ⟨rfl, rfl, rfl, by decide +kernel, rfl, by decide +kernel, by decide +kernel⟩
/-- a suite's readings, whatever they are -/
def tsAll (X : Cx) (body : List Stmt) (a : Addr) (cls : Value) (d : Option Addr) : TS := fun D σ H => ∃ t : TS, (∀ (oe : Obj) (pn : List (Addr × Obj)), Zc cls d oe → (∃ vs, oe.data = .fields vs) → PSs (X.suite a ((a, oe) :: pn)) body t) ∧ t D σ H
theorem tsAll_ok {X : Cx} {body : List Stmt} {a : Addr} {cls : Value} {d : Option Addr} {oe : Obj} {pn : List (Addr × Obj)} (hz : Zc cls d oe) (hf : ∃ vs, oe.data = .fields vs) : PSs (X.suite a ((a, oe) :: pn)) body (tsAll X body a cls d) :=
  ⟨fun pins s σ H D I ⟨_, h, q⟩ => (h oe pn hz hf).run pins s σ H D I q⟩
theorem lst1 {zs : List V} {H : Hp} {Q : VK} (k : ∀ l H', Same H H' → H' l = some (.lst zs) → Q (.ref l) H') (hl : zs.length ≤ 1000 := by decide) : zs.length ≤ sizeLine ∧ ∀ p, H p = none → Q (.ref p) (upd H p (.lst zs)) := ⟨sz_line hl, fun p hp => k p _ (same_upd hp) upd_same⟩
theorem cat2 {a b : Addr} {xs zs : List V} {H : Hp} {Q : VK} (ha : H a = some (.lst xs)) (hb : H b = some (.lst zs)) (hl : xs.length + zs.length ≤ 1000) (k : ∀ p H', Same H H' → H' p = some (.lst (xs ++ zs)) → Q (.ref p) H') : rCat (.ref a) (.ref b) H Q :=
  ⟨a, b, xs, zs, rfl, rfl, ha, hb, sz_line hl, fun p hp => k p _ (same_upd hp) upd_same⟩
theorem idx_ok (bs : List Bool) (j : Nat) (h : (bs.take j).all (fun b => !b) = true) : ∀ (m : Nat) (z' : V), m < j → (bs.map V.bl)[m]? = some z' → eqV z' (.bl true) = false := fun m z' hm hz => by
  rw [List.getElem?_map] at hz
  cases e : bs[m]? with
  | none =>
    rw [e] at hz
    cases hz
  | some b =>
    rw [e] at hz
    obtain rfl := Option.some.inj hz
    have hb : b ∈ bs.take j := List.mem_of_getElem? (i := m) (by rw [List.getElem?_take, if_pos hm]; exact e)
    have := List.all_eq_true.mp h b hb
    cases b with
    | true => cases this
    | false => rfl
theorem countK {X : Cx} (K : PySem.W.Frag) (h : X.K = K := by rfl) : MtR X "list.count" (rCntB K) := h ▸ mt_countB
theorem indexK {X : Cx} (K : PySem.W.Frag) (h : X.K = K := by rfl) : MtR X "list.index" (rIndex K) := h ▸ mt_index
theorem pe_bmK {X : Cx} (K : PySem.W.Frag) {o e : Expr} {es : List Expr} {to : TE} {t : TA} {name : Str} {apos cpos : Pos} {Ty id : String} {r : V → List V → Hp → VK → Prop} (pa : PlainAttrs Ty) (slot : Slot Ty name id) (hty : typeOf (.builtin id) = pure (.type "method_descriptor")) (hm : MtR X id r) (ho : PE X o to) (ha : PA X (e :: es) t)
    (h : X.K = K := by rfl) (hbase : attributeBase o name X.env (eval o X.env) = eval o X.env := by rfl)
    (hfew : ((backTo cpos (starEach (e :: es) X.env)).all (fun x => !x.1) && (backToKw cpos (keywordEach [] X.env)).all (fun x => x.1.isSome) && decide ((e :: es).length + ([] : List Keyword).length + (if ([] : List Keyword).isEmpty then 0 else 1) < 30)) = true := by rfl)
    (hline : (apos.endLine == cpos.line) = true := by rfl) (hs : starEach (e :: es) X.env = (false, eval e X.env) :: starEach es X.env := by rfl) (hplain : (backTo cpos (starEach es X.env)).any (·.1) = false := by rfl) :
    PE X (.Call (.Attribute o name apos) (e :: es) [] cpos) (tBM K Ty r to t) := h ▸ pe_bm pa slot hty hm ho ha hbase hfew hline hs hplain
def tryOf : List Stmt → List ExceptHandler
  | .Try _ hs _ _ _ :: _ => hs
  | _ => []
def suiteOf : ExceptHandler → List Stmt
  | .ExceptHandler _ _ b _ => b
abbrev saidSuite : List Stmt := suiteOf ((tryOf (defBody b__law_said)).getD 1 (.ExceptHandler none none [] ⟨0, 0, 0, 0⟩))
abbrev limSuite : List Stmt := suiteOf ((tryOf (defBody b__law_said)).getD 0 (.ExceptHandler none none [] ⟨0, 0, 0, 0⟩))
theorem said_number {X : Cx} (T : Txt X.K X.mg) {cdg : Value} {s : Shared} {H0 : Hp} (a : Addr) (u0 u2 u3 : Option V) (H : Hp) (Q : VK) (hQ : Res H Q fun _ v => v = .str (errTxt .number)) (D : Ends) (hD : D.rt = Q) :
    tsAll (cxOf C8.CX0 X.prog X.w X.K X.mg X.base Nsd "_law_said" (defScope b__law_said) (He.ga X.K "_law_said") cdg X.A X.stack s H0 C8.E0).nox saidSuite a (.ref (He.ga X.K "NumberError")) none D [u0, some (.ref a), u2, u3] H := by
  have ec := T.ec_NumberError
  refine ⟨_, fun oe pn hz hf => (pss_cons (ps_set (i := 2) sc_said.nd rfl (Or.inl rfl) (pe_lst (pa_cons (pe_callB (call_isE ec hz hf) rfl T.f_isinstance (by decide +kernel) (pa_cons (pv 1) (pa_cons (pe_glob (v := .ref (He.ga X.K "MachineError")) rfl T.g_MachineError rfl) pa_nil))) (pa_cons (pe_callB (call_isE ec hz hf) rfl T.f_isinstance (by decide +kernel) (pa_cons (pv 1) (pa_cons (pe_glob (v := .ref (He.ga X.K "WordError")) rfl T.g_WordError rfl) pa_nil))) pa_nil))))
        (pss_cons (ps_set (i := 2) sc_said.nd rfl (Or.inl rfl) (pe_op op_cat (pv 2) (pe_lst (pa_cons (pe_callB (call_isE ec hz hf) rfl T.f_isinstance (by decide +kernel) (pa_cons (pv 1) (pa_cons (pe_glob (v := .ref (He.ga X.K "ResultError")) rfl T.g_ResultError rfl) pa_nil))) pa_nil))))
        (pss_cons (ps_set (i := 2) sc_said.nd rfl (Or.inl rfl) (pe_op op_cat (pv 2) (pe_lst (pa_cons (pe_callB (call_isE ec hz hf) rfl T.f_isinstance (by decide +kernel) (pa_cons (pv 1) (pa_cons (pe_glob (v := .ref (He.ga X.K "MatchError")) rfl T.g_MatchError rfl) pa_nil))) (pa_cons (pe_callB (call_isE ec hz hf) rfl T.f_isinstance (by decide +kernel) (pa_cons (pv 1) (pa_cons (pe_glob (v := .ref (He.ga X.K "SplitError")) rfl T.g_SplitError rfl) pa_nil))) pa_nil)))))
        (pss_cons (ps_set (i := 2) sc_said.nd rfl (Or.inl rfl) (pe_op op_cat (pv 2) (pe_lst (pa_cons (pe_callB (call_isE ec hz hf) rfl T.f_isinstance (by decide +kernel) (pa_cons (pv 1) (pa_cons (pe_glob (v := .ref (He.ga X.K "NumberError")) rfl T.g_NumberError rfl) pa_nil))) pa_nil))))
        (pss_cons (ps_set (i := 2) sc_said.nd rfl (Or.inl rfl) (pe_op op_cat (pv 2) (pe_lst (pa_cons (pe_callB (call_isE ec hz hf) rfl T.f_isinstance (by decide +kernel) (pa_cons (pv 1) (pa_cons (pe_glob (v := .ref (He.ga X.K "TableError")) rfl T.g_TableError rfl) pa_nil))) (pa_cons (pe_callB (call_isE ec hz hf) rfl T.f_isinstance (by decide +kernel) (pa_cons (pv 1) (pa_cons (pe_glob (v := .ref (He.ga X.K "ValuesError")) rfl T.g_ValuesError rfl) pa_nil))) pa_nil)))))
        (pss_cons (ps_set (i := 2) sc_said.nd rfl (Or.inl rfl) (pe_op op_cat (pv 2) (pe_lst (pa_cons (pe_callB (call_isE ec hz hf) rfl T.f_isinstance (by decide +kernel) (pa_cons (pv 1) (pa_cons (pe_glob (v := .ref (He.ga X.K "TextError")) rfl T.g_TextError rfl) pa_nil))) pa_nil))))
        (pss_cons (ps_set (i := 2) sc_said.nd rfl (Or.inl rfl) (pe_op op_cat (pv 2) (pe_lst (pa_cons (pe_callB (call_isE ec hz hf) rfl T.f_isinstance (by decide +kernel) (pa_cons (pv 1) (pa_cons (pe_glob (v := .ref (He.ga X.K "PlaceError")) rfl T.g_PlaceError rfl) pa_nil))) (pa_cons (pe_callB (call_isE ec hz hf) rfl T.f_isinstance (by decide +kernel) (pa_cons (pv 1) (pa_cons (pe_glob (v := .ref (He.ga X.K "PiecesError")) rfl T.g_PiecesError rfl) pa_nil))) pa_nil)))))
        (pss_cons (ps_set (i := 2) sc_said.nd rfl (Or.inl rfl) (pe_op op_cat (pv 2) (pe_lst (pa_cons (pe_callB (call_isE ec hz hf) rfl T.f_isinstance (by decide +kernel) (pa_cons (pv 1) (pa_cons (pe_glob (v := .ref (He.ga X.K "Unsteady")) rfl T.g_Unsteady rfl) pa_nil))) pa_nil))))
        (pss_cons (ps_set (i := 2) sc_said.nd rfl (Or.inl rfl) (pe_op op_cat (pv 2) (pe_lst (pa_cons (pe_callB (call_isE ec hz hf) rfl T.f_isinstance (by decide +kernel) (pa_cons (pv 1) (pa_cons (pe_glob (v := .ref (He.ga X.K "NothingDone")) rfl T.g_NothingDone rfl) pa_nil))) pa_nil))))
        (pss_cons (ps_set (i := 3) sc_said.nd rfl (Or.inl rfl) (pe_lst (pa_cons pe_str (pa_cons pe_str (pa_cons pe_str (pa_cons pe_str (pa_cons pe_str (pa_cons pe_str (pa_cons pe_str pa_nil)))))))))
        (pss_cons (ps_set (i := 3) sc_said.nd rfl (Or.inl rfl) (pe_op op_cat (pv 3) (pe_lst (pa_cons pe_str (pa_cons pe_str (pa_cons pe_str (pa_cons pe_str pa_nil)))))))
        (pss_cons (ps_set (i := 3) sc_said.nd rfl (Or.inl rfl) (pe_op op_cat (pv 3) (pe_lst (pa_cons pe_str (pa_cons pe_str pa_nil)))))
        (pss_one (ps_ret (pe_ifExp (pt_cmpR op_eq (pe_bmK X.K PySem.F.plainAttrs_list PySem.F.slot_list_count PySem.F.type_list_count (countK X.K) (pv 2) (pa_cons pe_bl pa_nil)) pe_int (nomark _)) (pe_ix (ixL X.K) (pv 3) (pe_bmK X.K PySem.F.plainAttrs_list PySem.F.slot_list_index PySem.F.type_list_index (indexK X.K) (pv 2) (pa_cons pe_bl pa_nil)) (fun _ _ => rfl)) pe_str))))))))))))))), ?_⟩
  subst hD
  refine ⟨_, rfl, V.ref (He.ga X.K "MachineError"), Value.ref (He.ga X.K "MachineError"), false, rfl, fun _ h => h, T.k_NumberError_MachineError, _, rfl, V.ref (He.ga X.K "WordError"), Value.ref (He.ga X.K "WordError"), false, rfl, fun _ h => h, T.k_NumberError_WordError, show 2 ≤ sizeLine by decide, fun l0 hl0 => ?_⟩
  have t0 := same_upd (o := .lst [V.bl false, V.bl false]) hl0
  have g0 := (upd_same : upd H l0 (.lst [V.bl false, V.bl false]) l0 = some (.lst [V.bl false, V.bl false]))
  generalize upd H l0 (.lst [V.bl false, V.bl false]) = G0 at t0 g0 ⊢
  refine ⟨_, rfl, _, rfl, V.ref (He.ga X.K "ResultError"), Value.ref (He.ga X.K "ResultError"), false, rfl, fun _ h => h, T.k_NumberError_ResultError, show 1 ≤ sizeLine by decide, fun l1 hl1 => ?_⟩
  have t1 := same_upd (o := .lst [V.bl false]) hl1
  have g1 := (upd_same : upd G0 l1 (.lst [V.bl false]) l1 = some (.lst [V.bl false]))
  generalize upd G0 l1 (.lst [V.bl false]) = G1 at t1 g1 ⊢
  refine ⟨l0, l1, [V.bl false, V.bl false], [V.bl false], rfl, rfl, t1 _ _ g0, g1, sz_line (by decide), fun p1 hp1 => ?_⟩
  have s1 := same_upd (o := .lst ([V.bl false, V.bl false] ++ [V.bl false])) hp1
  have e1 := (upd_same : upd G1 p1 (.lst ([V.bl false, V.bl false] ++ [V.bl false])) p1 = some (.lst ([V.bl false, V.bl false] ++ [V.bl false])))
  generalize upd G1 p1 (.lst ([V.bl false, V.bl false] ++ [V.bl false])) = H1 at s1 e1 ⊢
  refine ⟨_, rfl, _, rfl, V.ref (He.ga X.K "MatchError"), Value.ref (He.ga X.K "MatchError"), false, rfl, fun _ h => h, T.k_NumberError_MatchError, _, rfl, V.ref (He.ga X.K "SplitError"), Value.ref (He.ga X.K "SplitError"), false, rfl, fun _ h => h, T.k_NumberError_SplitError, show 2 ≤ sizeLine by decide, fun l2 hl2 => ?_⟩
  have t2 := same_upd (o := .lst [V.bl false, V.bl false]) hl2
  have g2 := (upd_same : upd H1 l2 (.lst [V.bl false, V.bl false]) l2 = some (.lst [V.bl false, V.bl false]))
  generalize upd H1 l2 (.lst [V.bl false, V.bl false]) = G2 at t2 g2 ⊢
  refine ⟨p1, l2, ([V.bl false, V.bl false] ++ [V.bl false]), [V.bl false, V.bl false], rfl, rfl, t2 _ _ e1, g2, sz_line (by decide), fun p2 hp2 => ?_⟩
  have s2 := same_upd (o := .lst (([V.bl false, V.bl false] ++ [V.bl false]) ++ [V.bl false, V.bl false])) hp2
  have e2 := (upd_same : upd G2 p2 (.lst (([V.bl false, V.bl false] ++ [V.bl false]) ++ [V.bl false, V.bl false])) p2 = some (.lst (([V.bl false, V.bl false] ++ [V.bl false]) ++ [V.bl false, V.bl false])))
  generalize upd G2 p2 (.lst (([V.bl false, V.bl false] ++ [V.bl false]) ++ [V.bl false, V.bl false])) = H2 at s2 e2 ⊢
  refine ⟨_, rfl, _, rfl, V.ref (He.ga X.K "NumberError"), Value.ref (He.ga X.K "NumberError"), true, rfl, fun _ h => h, T.k_NumberError_NumberError, show 1 ≤ sizeLine by decide, fun l3 hl3 => ?_⟩
  have t3 := same_upd (o := .lst [V.bl true]) hl3
  have g3 := (upd_same : upd H2 l3 (.lst [V.bl true]) l3 = some (.lst [V.bl true]))
  generalize upd H2 l3 (.lst [V.bl true]) = G3 at t3 g3 ⊢
  refine ⟨p2, l3, (([V.bl false, V.bl false] ++ [V.bl false]) ++ [V.bl false, V.bl false]), [V.bl true], rfl, rfl, t3 _ _ e2, g3, sz_line (by decide), fun p3 hp3 => ?_⟩
  have s3 := same_upd (o := .lst ((([V.bl false, V.bl false] ++ [V.bl false]) ++ [V.bl false, V.bl false]) ++ [V.bl true])) hp3
  have e3 := (upd_same : upd G3 p3 (.lst ((([V.bl false, V.bl false] ++ [V.bl false]) ++ [V.bl false, V.bl false]) ++ [V.bl true])) p3 = some (.lst ((([V.bl false, V.bl false] ++ [V.bl false]) ++ [V.bl false, V.bl false]) ++ [V.bl true])))
  generalize upd G3 p3 (.lst ((([V.bl false, V.bl false] ++ [V.bl false]) ++ [V.bl false, V.bl false]) ++ [V.bl true])) = H3 at s3 e3 ⊢
  refine ⟨_, rfl, _, rfl, V.ref (He.ga X.K "TableError"), Value.ref (He.ga X.K "TableError"), false, rfl, fun _ h => h, T.k_NumberError_TableError, _, rfl, V.ref (He.ga X.K "ValuesError"), Value.ref (He.ga X.K "ValuesError"), false, rfl, fun _ h => h, T.k_NumberError_ValuesError, show 2 ≤ sizeLine by decide, fun l4 hl4 => ?_⟩
  have t4 := same_upd (o := .lst [V.bl false, V.bl false]) hl4
  have g4 := (upd_same : upd H3 l4 (.lst [V.bl false, V.bl false]) l4 = some (.lst [V.bl false, V.bl false]))
  generalize upd H3 l4 (.lst [V.bl false, V.bl false]) = G4 at t4 g4 ⊢
  refine ⟨p3, l4, ((([V.bl false, V.bl false] ++ [V.bl false]) ++ [V.bl false, V.bl false]) ++ [V.bl true]), [V.bl false, V.bl false], rfl, rfl, t4 _ _ e3, g4, sz_line (by decide), fun p4 hp4 => ?_⟩
  have s4 := same_upd (o := .lst (((([V.bl false, V.bl false] ++ [V.bl false]) ++ [V.bl false, V.bl false]) ++ [V.bl true]) ++ [V.bl false, V.bl false])) hp4
  have e4 := (upd_same : upd G4 p4 (.lst (((([V.bl false, V.bl false] ++ [V.bl false]) ++ [V.bl false, V.bl false]) ++ [V.bl true]) ++ [V.bl false, V.bl false])) p4 = some (.lst (((([V.bl false, V.bl false] ++ [V.bl false]) ++ [V.bl false, V.bl false]) ++ [V.bl true]) ++ [V.bl false, V.bl false])))
  generalize upd G4 p4 (.lst (((([V.bl false, V.bl false] ++ [V.bl false]) ++ [V.bl false, V.bl false]) ++ [V.bl true]) ++ [V.bl false, V.bl false])) = H4 at s4 e4 ⊢
  refine ⟨_, rfl, _, rfl, V.ref (He.ga X.K "TextError"), Value.ref (He.ga X.K "TextError"), false, rfl, fun _ h => h, T.k_NumberError_TextError, show 1 ≤ sizeLine by decide, fun l5 hl5 => ?_⟩
  have t5 := same_upd (o := .lst [V.bl false]) hl5
  have g5 := (upd_same : upd H4 l5 (.lst [V.bl false]) l5 = some (.lst [V.bl false]))
  generalize upd H4 l5 (.lst [V.bl false]) = G5 at t5 g5 ⊢
  refine ⟨p4, l5, (((([V.bl false, V.bl false] ++ [V.bl false]) ++ [V.bl false, V.bl false]) ++ [V.bl true]) ++ [V.bl false, V.bl false]), [V.bl false], rfl, rfl, t5 _ _ e4, g5, sz_line (by decide), fun p5 hp5 => ?_⟩
  have s5 := same_upd (o := .lst ((((([V.bl false, V.bl false] ++ [V.bl false]) ++ [V.bl false, V.bl false]) ++ [V.bl true]) ++ [V.bl false, V.bl false]) ++ [V.bl false])) hp5
  have e5 := (upd_same : upd G5 p5 (.lst ((((([V.bl false, V.bl false] ++ [V.bl false]) ++ [V.bl false, V.bl false]) ++ [V.bl true]) ++ [V.bl false, V.bl false]) ++ [V.bl false])) p5 = some (.lst ((((([V.bl false, V.bl false] ++ [V.bl false]) ++ [V.bl false, V.bl false]) ++ [V.bl true]) ++ [V.bl false, V.bl false]) ++ [V.bl false])))
  generalize upd G5 p5 (.lst ((((([V.bl false, V.bl false] ++ [V.bl false]) ++ [V.bl false, V.bl false]) ++ [V.bl true]) ++ [V.bl false, V.bl false]) ++ [V.bl false])) = H5 at s5 e5 ⊢
  refine ⟨_, rfl, _, rfl, V.ref (He.ga X.K "PlaceError"), Value.ref (He.ga X.K "PlaceError"), false, rfl, fun _ h => h, T.k_NumberError_PlaceError, _, rfl, V.ref (He.ga X.K "PiecesError"), Value.ref (He.ga X.K "PiecesError"), false, rfl, fun _ h => h, T.k_NumberError_PiecesError, show 2 ≤ sizeLine by decide, fun l6 hl6 => ?_⟩
  have t6 := same_upd (o := .lst [V.bl false, V.bl false]) hl6
  have g6 := (upd_same : upd H5 l6 (.lst [V.bl false, V.bl false]) l6 = some (.lst [V.bl false, V.bl false]))
  generalize upd H5 l6 (.lst [V.bl false, V.bl false]) = G6 at t6 g6 ⊢
  refine ⟨p5, l6, ((((([V.bl false, V.bl false] ++ [V.bl false]) ++ [V.bl false, V.bl false]) ++ [V.bl true]) ++ [V.bl false, V.bl false]) ++ [V.bl false]), [V.bl false, V.bl false], rfl, rfl, t6 _ _ e5, g6, sz_line (by decide), fun p6 hp6 => ?_⟩
  have s6 := same_upd (o := .lst (((((([V.bl false, V.bl false] ++ [V.bl false]) ++ [V.bl false, V.bl false]) ++ [V.bl true]) ++ [V.bl false, V.bl false]) ++ [V.bl false]) ++ [V.bl false, V.bl false])) hp6
  have e6 := (upd_same : upd G6 p6 (.lst (((((([V.bl false, V.bl false] ++ [V.bl false]) ++ [V.bl false, V.bl false]) ++ [V.bl true]) ++ [V.bl false, V.bl false]) ++ [V.bl false]) ++ [V.bl false, V.bl false])) p6 = some (.lst (((((([V.bl false, V.bl false] ++ [V.bl false]) ++ [V.bl false, V.bl false]) ++ [V.bl true]) ++ [V.bl false, V.bl false]) ++ [V.bl false]) ++ [V.bl false, V.bl false])))
  generalize upd G6 p6 (.lst (((((([V.bl false, V.bl false] ++ [V.bl false]) ++ [V.bl false, V.bl false]) ++ [V.bl true]) ++ [V.bl false, V.bl false]) ++ [V.bl false]) ++ [V.bl false, V.bl false])) = H6 at s6 e6 ⊢
  refine ⟨_, rfl, _, rfl, V.ref (He.ga X.K "Unsteady"), Value.ref (He.ga X.K "Unsteady"), false, rfl, fun _ h => h, T.k_NumberError_Unsteady, show 1 ≤ sizeLine by decide, fun l7 hl7 => ?_⟩
  have t7 := same_upd (o := .lst [V.bl false]) hl7
  have g7 := (upd_same : upd H6 l7 (.lst [V.bl false]) l7 = some (.lst [V.bl false]))
  generalize upd H6 l7 (.lst [V.bl false]) = G7 at t7 g7 ⊢
  refine ⟨p6, l7, (((((([V.bl false, V.bl false] ++ [V.bl false]) ++ [V.bl false, V.bl false]) ++ [V.bl true]) ++ [V.bl false, V.bl false]) ++ [V.bl false]) ++ [V.bl false, V.bl false]), [V.bl false], rfl, rfl, t7 _ _ e6, g7, sz_line (by decide), fun p7 hp7 => ?_⟩
  have s7 := same_upd (o := .lst ((((((([V.bl false, V.bl false] ++ [V.bl false]) ++ [V.bl false, V.bl false]) ++ [V.bl true]) ++ [V.bl false, V.bl false]) ++ [V.bl false]) ++ [V.bl false, V.bl false]) ++ [V.bl false])) hp7
  have e7 := (upd_same : upd G7 p7 (.lst ((((((([V.bl false, V.bl false] ++ [V.bl false]) ++ [V.bl false, V.bl false]) ++ [V.bl true]) ++ [V.bl false, V.bl false]) ++ [V.bl false]) ++ [V.bl false, V.bl false]) ++ [V.bl false])) p7 = some (.lst ((((((([V.bl false, V.bl false] ++ [V.bl false]) ++ [V.bl false, V.bl false]) ++ [V.bl true]) ++ [V.bl false, V.bl false]) ++ [V.bl false]) ++ [V.bl false, V.bl false]) ++ [V.bl false])))
  generalize upd G7 p7 (.lst ((((((([V.bl false, V.bl false] ++ [V.bl false]) ++ [V.bl false, V.bl false]) ++ [V.bl true]) ++ [V.bl false, V.bl false]) ++ [V.bl false]) ++ [V.bl false, V.bl false]) ++ [V.bl false])) = H7 at s7 e7 ⊢
  refine ⟨_, rfl, _, rfl, V.ref (He.ga X.K "NothingDone"), Value.ref (He.ga X.K "NothingDone"), false, rfl, fun _ h => h, T.k_NumberError_NothingDone, show 1 ≤ sizeLine by decide, fun l8 hl8 => ?_⟩
  have t8 := same_upd (o := .lst [V.bl false]) hl8
  have g8 := (upd_same : upd H7 l8 (.lst [V.bl false]) l8 = some (.lst [V.bl false]))
  generalize upd H7 l8 (.lst [V.bl false]) = G8 at t8 g8 ⊢
  refine ⟨p7, l8, ((((((([V.bl false, V.bl false] ++ [V.bl false]) ++ [V.bl false, V.bl false]) ++ [V.bl true]) ++ [V.bl false, V.bl false]) ++ [V.bl false]) ++ [V.bl false, V.bl false]) ++ [V.bl false]), [V.bl false], rfl, rfl, t8 _ _ e7, g8, sz_line (by decide), fun p8 hp8 => ?_⟩
  have s8 := same_upd (o := .lst (((((((([V.bl false, V.bl false] ++ [V.bl false]) ++ [V.bl false, V.bl false]) ++ [V.bl true]) ++ [V.bl false, V.bl false]) ++ [V.bl false]) ++ [V.bl false, V.bl false]) ++ [V.bl false]) ++ [V.bl false])) hp8
  have e8 := (upd_same : upd G8 p8 (.lst (((((((([V.bl false, V.bl false] ++ [V.bl false]) ++ [V.bl false, V.bl false]) ++ [V.bl true]) ++ [V.bl false, V.bl false]) ++ [V.bl false]) ++ [V.bl false, V.bl false]) ++ [V.bl false]) ++ [V.bl false])) p8 = some (.lst (((((((([V.bl false, V.bl false] ++ [V.bl false]) ++ [V.bl false, V.bl false]) ++ [V.bl true]) ++ [V.bl false, V.bl false]) ++ [V.bl false]) ++ [V.bl false, V.bl false]) ++ [V.bl false]) ++ [V.bl false])))
  generalize upd G8 p8 (.lst (((((((([V.bl false, V.bl false] ++ [V.bl false]) ++ [V.bl false, V.bl false]) ++ [V.bl true]) ++ [V.bl false, V.bl false]) ++ [V.bl false]) ++ [V.bl false, V.bl false]) ++ [V.bl false]) ++ [V.bl false])) = H8 at s8 e8 ⊢
  have hm := (e8 : _ = some (HO.lst (([false, false, false, false, false, true, false, false, false, false, false, false, false] : List Bool).map V.bl)))
  refine ⟨show 7 ≤ sizeLine by decide, fun n0 hn0 => ?_⟩
  have u0 := same_upd (o := .lst [V.str "machine", V.str "word", V.str "result", V.str "match", V.str "split", V.str "number", V.str "table"]) hn0
  have f0 := (upd_same : upd H8 n0 (.lst [V.str "machine", V.str "word", V.str "result", V.str "match", V.str "split", V.str "number", V.str "table"]) n0 = some (.lst [V.str "machine", V.str "word", V.str "result", V.str "match", V.str "split", V.str "number", V.str "table"]))
  generalize upd H8 n0 (.lst [V.str "machine", V.str "word", V.str "result", V.str "match", V.str "split", V.str "number", V.str "table"]) = J0 at u0 f0 ⊢
  refine ⟨_, rfl, show 4 ≤ sizeLine by decide, fun n1 hn1 => ?_⟩
  have u1 := same_upd (o := .lst [V.str "values", V.str "text", V.str "place", V.str "pieces"]) hn1
  have f1 := (upd_same : upd J0 n1 (.lst [V.str "values", V.str "text", V.str "place", V.str "pieces"]) n1 = some (.lst [V.str "values", V.str "text", V.str "place", V.str "pieces"]))
  generalize upd J0 n1 (.lst [V.str "values", V.str "text", V.str "place", V.str "pieces"]) = J1 at u1 f1 ⊢
  refine ⟨n0, n1, [V.str "machine", V.str "word", V.str "result", V.str "match", V.str "split", V.str "number", V.str "table"], [V.str "values", V.str "text", V.str "place", V.str "pieces"], rfl, rfl, u1 _ _ f0, f1, sz_line (by decide), fun q1 hq1 => ?_⟩
  have v1 := same_upd (o := .lst ([V.str "machine", V.str "word", V.str "result", V.str "match", V.str "split", V.str "number", V.str "table"] ++ [V.str "values", V.str "text", V.str "place", V.str "pieces"])) hq1
  have h1 := (upd_same : upd J1 q1 (.lst ([V.str "machine", V.str "word", V.str "result", V.str "match", V.str "split", V.str "number", V.str "table"] ++ [V.str "values", V.str "text", V.str "place", V.str "pieces"])) q1 = some (.lst ([V.str "machine", V.str "word", V.str "result", V.str "match", V.str "split", V.str "number", V.str "table"] ++ [V.str "values", V.str "text", V.str "place", V.str "pieces"])))
  generalize upd J1 q1 (.lst ([V.str "machine", V.str "word", V.str "result", V.str "match", V.str "split", V.str "number", V.str "table"] ++ [V.str "values", V.str "text", V.str "place", V.str "pieces"])) = K1 at v1 h1 ⊢
  refine ⟨_, rfl, show 2 ≤ sizeLine by decide, fun n2 hn2 => ?_⟩
  have u2 := same_upd (o := .lst [V.str "unsteady", V.str "nothing"]) hn2
  have f2 := (upd_same : upd K1 n2 (.lst [V.str "unsteady", V.str "nothing"]) n2 = some (.lst [V.str "unsteady", V.str "nothing"]))
  generalize upd K1 n2 (.lst [V.str "unsteady", V.str "nothing"]) = J2 at u2 f2 ⊢
  refine ⟨q1, n2, ([V.str "machine", V.str "word", V.str "result", V.str "match", V.str "split", V.str "number", V.str "table"] ++ [V.str "values", V.str "text", V.str "place", V.str "pieces"]), [V.str "unsteady", V.str "nothing"], rfl, rfl, u2 _ _ h1, f2, sz_line (by decide), fun q2 hq2 => ?_⟩
  have v2 := same_upd (o := .lst (([V.str "machine", V.str "word", V.str "result", V.str "match", V.str "split", V.str "number", V.str "table"] ++ [V.str "values", V.str "text", V.str "place", V.str "pieces"]) ++ [V.str "unsteady", V.str "nothing"])) hq2
  have h2 := (upd_same : upd J2 q2 (.lst (([V.str "machine", V.str "word", V.str "result", V.str "match", V.str "split", V.str "number", V.str "table"] ++ [V.str "values", V.str "text", V.str "place", V.str "pieces"]) ++ [V.str "unsteady", V.str "nothing"])) q2 = some (.lst (([V.str "machine", V.str "word", V.str "result", V.str "match", V.str "split", V.str "number", V.str "table"] ++ [V.str "values", V.str "text", V.str "place", V.str "pieces"]) ++ [V.str "unsteady", V.str "nothing"])))
  generalize upd J2 q2 (.lst (([V.str "machine", V.str "word", V.str "result", V.str "match", V.str "split", V.str "number", V.str "table"] ++ [V.str "values", V.str "text", V.str "place", V.str "pieces"]) ++ [V.str "unsteady", V.str "nothing"])) = K2 at v2 h2 ⊢
  have sn := u0.trans ((u1.trans v1).trans (u2.trans v2))
  have hm2 := sn _ _ hm
  refine ⟨_, rfl, .inl ⟨rfl, _, SqL.of hm2⟩, p8, [false, false, false, false, false, true, false, false, false, false, false, false, false], true, rfl, rfl, SqL.of hm2, rfl, _, rfl, iteT ?_⟩
  refine ⟨_, rfl, _, rfl, .inl ⟨rfl, _, SqL.of hm2⟩, p8, _, .bl true, 5, .bl true, rfl, rfl, SqL.of hm2, rfl, rfl, rfl, rfl, idx_ok [false, false, false, false, false, true, false, false, false, false, false, false, false] 5 rfl, q2, _, ((5 : Nat) : Int), .str "number", rfl, rfl, SqL.of h2, rfl, hQ _ _ ?_ rfl⟩
  exact ((((((((((((((((t0.trans t1).trans s1).trans t2).trans s2).trans t3).trans s3).trans t4).trans s4).trans t5).trans s5).trans t6).trans s6).trans t7).trans s7).trans t8).trans s8).trans sn
theorem said_place {X : Cx} (T : Txt X.K X.mg) {cdg : Value} {s : Shared} {H0 : Hp} (a : Addr) (u0 u2 u3 : Option V) (H : Hp) (Q : VK) (hQ : Res H Q fun _ v => v = .str (errTxt .place)) (D : Ends) (hD : D.rt = Q) :
    tsAll (cxOf C8.CX0 X.prog X.w X.K X.mg X.base Nsd "_law_said" (defScope b__law_said) (He.ga X.K "_law_said") cdg X.A X.stack s H0 C8.E0).nox saidSuite a (.ref (He.ga X.K "PlaceError")) none D [u0, some (.ref a), u2, u3] H := by
  have ec := T.ec_PlaceError
  refine ⟨_, fun oe pn hz hf => (pss_cons (ps_set (i := 2) sc_said.nd rfl (Or.inl rfl) (pe_lst (pa_cons (pe_callB (call_isE ec hz hf) rfl T.f_isinstance (by decide +kernel) (pa_cons (pv 1) (pa_cons (pe_glob (v := .ref (He.ga X.K "MachineError")) rfl T.g_MachineError rfl) pa_nil))) (pa_cons (pe_callB (call_isE ec hz hf) rfl T.f_isinstance (by decide +kernel) (pa_cons (pv 1) (pa_cons (pe_glob (v := .ref (He.ga X.K "WordError")) rfl T.g_WordError rfl) pa_nil))) pa_nil))))
        (pss_cons (ps_set (i := 2) sc_said.nd rfl (Or.inl rfl) (pe_op op_cat (pv 2) (pe_lst (pa_cons (pe_callB (call_isE ec hz hf) rfl T.f_isinstance (by decide +kernel) (pa_cons (pv 1) (pa_cons (pe_glob (v := .ref (He.ga X.K "ResultError")) rfl T.g_ResultError rfl) pa_nil))) pa_nil))))
        (pss_cons (ps_set (i := 2) sc_said.nd rfl (Or.inl rfl) (pe_op op_cat (pv 2) (pe_lst (pa_cons (pe_callB (call_isE ec hz hf) rfl T.f_isinstance (by decide +kernel) (pa_cons (pv 1) (pa_cons (pe_glob (v := .ref (He.ga X.K "MatchError")) rfl T.g_MatchError rfl) pa_nil))) (pa_cons (pe_callB (call_isE ec hz hf) rfl T.f_isinstance (by decide +kernel) (pa_cons (pv 1) (pa_cons (pe_glob (v := .ref (He.ga X.K "SplitError")) rfl T.g_SplitError rfl) pa_nil))) pa_nil)))))
        (pss_cons (ps_set (i := 2) sc_said.nd rfl (Or.inl rfl) (pe_op op_cat (pv 2) (pe_lst (pa_cons (pe_callB (call_isE ec hz hf) rfl T.f_isinstance (by decide +kernel) (pa_cons (pv 1) (pa_cons (pe_glob (v := .ref (He.ga X.K "NumberError")) rfl T.g_NumberError rfl) pa_nil))) pa_nil))))
        (pss_cons (ps_set (i := 2) sc_said.nd rfl (Or.inl rfl) (pe_op op_cat (pv 2) (pe_lst (pa_cons (pe_callB (call_isE ec hz hf) rfl T.f_isinstance (by decide +kernel) (pa_cons (pv 1) (pa_cons (pe_glob (v := .ref (He.ga X.K "TableError")) rfl T.g_TableError rfl) pa_nil))) (pa_cons (pe_callB (call_isE ec hz hf) rfl T.f_isinstance (by decide +kernel) (pa_cons (pv 1) (pa_cons (pe_glob (v := .ref (He.ga X.K "ValuesError")) rfl T.g_ValuesError rfl) pa_nil))) pa_nil)))))
        (pss_cons (ps_set (i := 2) sc_said.nd rfl (Or.inl rfl) (pe_op op_cat (pv 2) (pe_lst (pa_cons (pe_callB (call_isE ec hz hf) rfl T.f_isinstance (by decide +kernel) (pa_cons (pv 1) (pa_cons (pe_glob (v := .ref (He.ga X.K "TextError")) rfl T.g_TextError rfl) pa_nil))) pa_nil))))
        (pss_cons (ps_set (i := 2) sc_said.nd rfl (Or.inl rfl) (pe_op op_cat (pv 2) (pe_lst (pa_cons (pe_callB (call_isE ec hz hf) rfl T.f_isinstance (by decide +kernel) (pa_cons (pv 1) (pa_cons (pe_glob (v := .ref (He.ga X.K "PlaceError")) rfl T.g_PlaceError rfl) pa_nil))) (pa_cons (pe_callB (call_isE ec hz hf) rfl T.f_isinstance (by decide +kernel) (pa_cons (pv 1) (pa_cons (pe_glob (v := .ref (He.ga X.K "PiecesError")) rfl T.g_PiecesError rfl) pa_nil))) pa_nil)))))
        (pss_cons (ps_set (i := 2) sc_said.nd rfl (Or.inl rfl) (pe_op op_cat (pv 2) (pe_lst (pa_cons (pe_callB (call_isE ec hz hf) rfl T.f_isinstance (by decide +kernel) (pa_cons (pv 1) (pa_cons (pe_glob (v := .ref (He.ga X.K "Unsteady")) rfl T.g_Unsteady rfl) pa_nil))) pa_nil))))
        (pss_cons (ps_set (i := 2) sc_said.nd rfl (Or.inl rfl) (pe_op op_cat (pv 2) (pe_lst (pa_cons (pe_callB (call_isE ec hz hf) rfl T.f_isinstance (by decide +kernel) (pa_cons (pv 1) (pa_cons (pe_glob (v := .ref (He.ga X.K "NothingDone")) rfl T.g_NothingDone rfl) pa_nil))) pa_nil))))
        (pss_cons (ps_set (i := 3) sc_said.nd rfl (Or.inl rfl) (pe_lst (pa_cons pe_str (pa_cons pe_str (pa_cons pe_str (pa_cons pe_str (pa_cons pe_str (pa_cons pe_str (pa_cons pe_str pa_nil)))))))))
        (pss_cons (ps_set (i := 3) sc_said.nd rfl (Or.inl rfl) (pe_op op_cat (pv 3) (pe_lst (pa_cons pe_str (pa_cons pe_str (pa_cons pe_str (pa_cons pe_str pa_nil)))))))
        (pss_cons (ps_set (i := 3) sc_said.nd rfl (Or.inl rfl) (pe_op op_cat (pv 3) (pe_lst (pa_cons pe_str (pa_cons pe_str pa_nil)))))
        (pss_one (ps_ret (pe_ifExp (pt_cmpR op_eq (pe_bmK X.K PySem.F.plainAttrs_list PySem.F.slot_list_count PySem.F.type_list_count (countK X.K) (pv 2) (pa_cons pe_bl pa_nil)) pe_int (nomark _)) (pe_ix (ixL X.K) (pv 3) (pe_bmK X.K PySem.F.plainAttrs_list PySem.F.slot_list_index PySem.F.type_list_index (indexK X.K) (pv 2) (pa_cons pe_bl pa_nil)) (fun _ _ => rfl)) pe_str))))))))))))))), ?_⟩
  subst hD
  refine ⟨_, rfl, V.ref (He.ga X.K "MachineError"), Value.ref (He.ga X.K "MachineError"), false, rfl, fun _ h => h, T.k_PlaceError_MachineError, _, rfl, V.ref (He.ga X.K "WordError"), Value.ref (He.ga X.K "WordError"), false, rfl, fun _ h => h, T.k_PlaceError_WordError, show 2 ≤ sizeLine by decide, fun l0 hl0 => ?_⟩
  have t0 := same_upd (o := .lst [V.bl false, V.bl false]) hl0
  have g0 := (upd_same : upd H l0 (.lst [V.bl false, V.bl false]) l0 = some (.lst [V.bl false, V.bl false]))
  generalize upd H l0 (.lst [V.bl false, V.bl false]) = G0 at t0 g0 ⊢
  refine ⟨_, rfl, _, rfl, V.ref (He.ga X.K "ResultError"), Value.ref (He.ga X.K "ResultError"), false, rfl, fun _ h => h, T.k_PlaceError_ResultError, show 1 ≤ sizeLine by decide, fun l1 hl1 => ?_⟩
  have t1 := same_upd (o := .lst [V.bl false]) hl1
  have g1 := (upd_same : upd G0 l1 (.lst [V.bl false]) l1 = some (.lst [V.bl false]))
  generalize upd G0 l1 (.lst [V.bl false]) = G1 at t1 g1 ⊢
  refine ⟨l0, l1, [V.bl false, V.bl false], [V.bl false], rfl, rfl, t1 _ _ g0, g1, sz_line (by decide), fun p1 hp1 => ?_⟩
  have s1 := same_upd (o := .lst ([V.bl false, V.bl false] ++ [V.bl false])) hp1
  have e1 := (upd_same : upd G1 p1 (.lst ([V.bl false, V.bl false] ++ [V.bl false])) p1 = some (.lst ([V.bl false, V.bl false] ++ [V.bl false])))
  generalize upd G1 p1 (.lst ([V.bl false, V.bl false] ++ [V.bl false])) = H1 at s1 e1 ⊢
  refine ⟨_, rfl, _, rfl, V.ref (He.ga X.K "MatchError"), Value.ref (He.ga X.K "MatchError"), false, rfl, fun _ h => h, T.k_PlaceError_MatchError, _, rfl, V.ref (He.ga X.K "SplitError"), Value.ref (He.ga X.K "SplitError"), false, rfl, fun _ h => h, T.k_PlaceError_SplitError, show 2 ≤ sizeLine by decide, fun l2 hl2 => ?_⟩
  have t2 := same_upd (o := .lst [V.bl false, V.bl false]) hl2
  have g2 := (upd_same : upd H1 l2 (.lst [V.bl false, V.bl false]) l2 = some (.lst [V.bl false, V.bl false]))
  generalize upd H1 l2 (.lst [V.bl false, V.bl false]) = G2 at t2 g2 ⊢
  refine ⟨p1, l2, ([V.bl false, V.bl false] ++ [V.bl false]), [V.bl false, V.bl false], rfl, rfl, t2 _ _ e1, g2, sz_line (by decide), fun p2 hp2 => ?_⟩
  have s2 := same_upd (o := .lst (([V.bl false, V.bl false] ++ [V.bl false]) ++ [V.bl false, V.bl false])) hp2
  have e2 := (upd_same : upd G2 p2 (.lst (([V.bl false, V.bl false] ++ [V.bl false]) ++ [V.bl false, V.bl false])) p2 = some (.lst (([V.bl false, V.bl false] ++ [V.bl false]) ++ [V.bl false, V.bl false])))
  generalize upd G2 p2 (.lst (([V.bl false, V.bl false] ++ [V.bl false]) ++ [V.bl false, V.bl false])) = H2 at s2 e2 ⊢
  refine ⟨_, rfl, _, rfl, V.ref (He.ga X.K "NumberError"), Value.ref (He.ga X.K "NumberError"), false, rfl, fun _ h => h, T.k_PlaceError_NumberError, show 1 ≤ sizeLine by decide, fun l3 hl3 => ?_⟩
  have t3 := same_upd (o := .lst [V.bl false]) hl3
  have g3 := (upd_same : upd H2 l3 (.lst [V.bl false]) l3 = some (.lst [V.bl false]))
  generalize upd H2 l3 (.lst [V.bl false]) = G3 at t3 g3 ⊢
  refine ⟨p2, l3, (([V.bl false, V.bl false] ++ [V.bl false]) ++ [V.bl false, V.bl false]), [V.bl false], rfl, rfl, t3 _ _ e2, g3, sz_line (by decide), fun p3 hp3 => ?_⟩
  have s3 := same_upd (o := .lst ((([V.bl false, V.bl false] ++ [V.bl false]) ++ [V.bl false, V.bl false]) ++ [V.bl false])) hp3
  have e3 := (upd_same : upd G3 p3 (.lst ((([V.bl false, V.bl false] ++ [V.bl false]) ++ [V.bl false, V.bl false]) ++ [V.bl false])) p3 = some (.lst ((([V.bl false, V.bl false] ++ [V.bl false]) ++ [V.bl false, V.bl false]) ++ [V.bl false])))
  generalize upd G3 p3 (.lst ((([V.bl false, V.bl false] ++ [V.bl false]) ++ [V.bl false, V.bl false]) ++ [V.bl false])) = H3 at s3 e3 ⊢
  refine ⟨_, rfl, _, rfl, V.ref (He.ga X.K "TableError"), Value.ref (He.ga X.K "TableError"), false, rfl, fun _ h => h, T.k_PlaceError_TableError, _, rfl, V.ref (He.ga X.K "ValuesError"), Value.ref (He.ga X.K "ValuesError"), false, rfl, fun _ h => h, T.k_PlaceError_ValuesError, show 2 ≤ sizeLine by decide, fun l4 hl4 => ?_⟩
  have t4 := same_upd (o := .lst [V.bl false, V.bl false]) hl4
  have g4 := (upd_same : upd H3 l4 (.lst [V.bl false, V.bl false]) l4 = some (.lst [V.bl false, V.bl false]))
  generalize upd H3 l4 (.lst [V.bl false, V.bl false]) = G4 at t4 g4 ⊢
  refine ⟨p3, l4, ((([V.bl false, V.bl false] ++ [V.bl false]) ++ [V.bl false, V.bl false]) ++ [V.bl false]), [V.bl false, V.bl false], rfl, rfl, t4 _ _ e3, g4, sz_line (by decide), fun p4 hp4 => ?_⟩
  have s4 := same_upd (o := .lst (((([V.bl false, V.bl false] ++ [V.bl false]) ++ [V.bl false, V.bl false]) ++ [V.bl false]) ++ [V.bl false, V.bl false])) hp4
  have e4 := (upd_same : upd G4 p4 (.lst (((([V.bl false, V.bl false] ++ [V.bl false]) ++ [V.bl false, V.bl false]) ++ [V.bl false]) ++ [V.bl false, V.bl false])) p4 = some (.lst (((([V.bl false, V.bl false] ++ [V.bl false]) ++ [V.bl false, V.bl false]) ++ [V.bl false]) ++ [V.bl false, V.bl false])))
  generalize upd G4 p4 (.lst (((([V.bl false, V.bl false] ++ [V.bl false]) ++ [V.bl false, V.bl false]) ++ [V.bl false]) ++ [V.bl false, V.bl false])) = H4 at s4 e4 ⊢
  refine ⟨_, rfl, _, rfl, V.ref (He.ga X.K "TextError"), Value.ref (He.ga X.K "TextError"), false, rfl, fun _ h => h, T.k_PlaceError_TextError, show 1 ≤ sizeLine by decide, fun l5 hl5 => ?_⟩
  have t5 := same_upd (o := .lst [V.bl false]) hl5
  have g5 := (upd_same : upd H4 l5 (.lst [V.bl false]) l5 = some (.lst [V.bl false]))
  generalize upd H4 l5 (.lst [V.bl false]) = G5 at t5 g5 ⊢
  refine ⟨p4, l5, (((([V.bl false, V.bl false] ++ [V.bl false]) ++ [V.bl false, V.bl false]) ++ [V.bl false]) ++ [V.bl false, V.bl false]), [V.bl false], rfl, rfl, t5 _ _ e4, g5, sz_line (by decide), fun p5 hp5 => ?_⟩
  have s5 := same_upd (o := .lst ((((([V.bl false, V.bl false] ++ [V.bl false]) ++ [V.bl false, V.bl false]) ++ [V.bl false]) ++ [V.bl false, V.bl false]) ++ [V.bl false])) hp5
  have e5 := (upd_same : upd G5 p5 (.lst ((((([V.bl false, V.bl false] ++ [V.bl false]) ++ [V.bl false, V.bl false]) ++ [V.bl false]) ++ [V.bl false, V.bl false]) ++ [V.bl false])) p5 = some (.lst ((((([V.bl false, V.bl false] ++ [V.bl false]) ++ [V.bl false, V.bl false]) ++ [V.bl false]) ++ [V.bl false, V.bl false]) ++ [V.bl false])))
  generalize upd G5 p5 (.lst ((((([V.bl false, V.bl false] ++ [V.bl false]) ++ [V.bl false, V.bl false]) ++ [V.bl false]) ++ [V.bl false, V.bl false]) ++ [V.bl false])) = H5 at s5 e5 ⊢
  refine ⟨_, rfl, _, rfl, V.ref (He.ga X.K "PlaceError"), Value.ref (He.ga X.K "PlaceError"), true, rfl, fun _ h => h, T.k_PlaceError_PlaceError, _, rfl, V.ref (He.ga X.K "PiecesError"), Value.ref (He.ga X.K "PiecesError"), false, rfl, fun _ h => h, T.k_PlaceError_PiecesError, show 2 ≤ sizeLine by decide, fun l6 hl6 => ?_⟩
  have t6 := same_upd (o := .lst [V.bl true, V.bl false]) hl6
  have g6 := (upd_same : upd H5 l6 (.lst [V.bl true, V.bl false]) l6 = some (.lst [V.bl true, V.bl false]))
  generalize upd H5 l6 (.lst [V.bl true, V.bl false]) = G6 at t6 g6 ⊢
  refine ⟨p5, l6, ((((([V.bl false, V.bl false] ++ [V.bl false]) ++ [V.bl false, V.bl false]) ++ [V.bl false]) ++ [V.bl false, V.bl false]) ++ [V.bl false]), [V.bl true, V.bl false], rfl, rfl, t6 _ _ e5, g6, sz_line (by decide), fun p6 hp6 => ?_⟩
  have s6 := same_upd (o := .lst (((((([V.bl false, V.bl false] ++ [V.bl false]) ++ [V.bl false, V.bl false]) ++ [V.bl false]) ++ [V.bl false, V.bl false]) ++ [V.bl false]) ++ [V.bl true, V.bl false])) hp6
  have e6 := (upd_same : upd G6 p6 (.lst (((((([V.bl false, V.bl false] ++ [V.bl false]) ++ [V.bl false, V.bl false]) ++ [V.bl false]) ++ [V.bl false, V.bl false]) ++ [V.bl false]) ++ [V.bl true, V.bl false])) p6 = some (.lst (((((([V.bl false, V.bl false] ++ [V.bl false]) ++ [V.bl false, V.bl false]) ++ [V.bl false]) ++ [V.bl false, V.bl false]) ++ [V.bl false]) ++ [V.bl true, V.bl false])))
  generalize upd G6 p6 (.lst (((((([V.bl false, V.bl false] ++ [V.bl false]) ++ [V.bl false, V.bl false]) ++ [V.bl false]) ++ [V.bl false, V.bl false]) ++ [V.bl false]) ++ [V.bl true, V.bl false])) = H6 at s6 e6 ⊢
  refine ⟨_, rfl, _, rfl, V.ref (He.ga X.K "Unsteady"), Value.ref (He.ga X.K "Unsteady"), false, rfl, fun _ h => h, T.k_PlaceError_Unsteady, show 1 ≤ sizeLine by decide, fun l7 hl7 => ?_⟩
  have t7 := same_upd (o := .lst [V.bl false]) hl7
  have g7 := (upd_same : upd H6 l7 (.lst [V.bl false]) l7 = some (.lst [V.bl false]))
  generalize upd H6 l7 (.lst [V.bl false]) = G7 at t7 g7 ⊢
  refine ⟨p6, l7, (((((([V.bl false, V.bl false] ++ [V.bl false]) ++ [V.bl false, V.bl false]) ++ [V.bl false]) ++ [V.bl false, V.bl false]) ++ [V.bl false]) ++ [V.bl true, V.bl false]), [V.bl false], rfl, rfl, t7 _ _ e6, g7, sz_line (by decide), fun p7 hp7 => ?_⟩
  have s7 := same_upd (o := .lst ((((((([V.bl false, V.bl false] ++ [V.bl false]) ++ [V.bl false, V.bl false]) ++ [V.bl false]) ++ [V.bl false, V.bl false]) ++ [V.bl false]) ++ [V.bl true, V.bl false]) ++ [V.bl false])) hp7
  have e7 := (upd_same : upd G7 p7 (.lst ((((((([V.bl false, V.bl false] ++ [V.bl false]) ++ [V.bl false, V.bl false]) ++ [V.bl false]) ++ [V.bl false, V.bl false]) ++ [V.bl false]) ++ [V.bl true, V.bl false]) ++ [V.bl false])) p7 = some (.lst ((((((([V.bl false, V.bl false] ++ [V.bl false]) ++ [V.bl false, V.bl false]) ++ [V.bl false]) ++ [V.bl false, V.bl false]) ++ [V.bl false]) ++ [V.bl true, V.bl false]) ++ [V.bl false])))
  generalize upd G7 p7 (.lst ((((((([V.bl false, V.bl false] ++ [V.bl false]) ++ [V.bl false, V.bl false]) ++ [V.bl false]) ++ [V.bl false, V.bl false]) ++ [V.bl false]) ++ [V.bl true, V.bl false]) ++ [V.bl false])) = H7 at s7 e7 ⊢
  refine ⟨_, rfl, _, rfl, V.ref (He.ga X.K "NothingDone"), Value.ref (He.ga X.K "NothingDone"), false, rfl, fun _ h => h, T.k_PlaceError_NothingDone, show 1 ≤ sizeLine by decide, fun l8 hl8 => ?_⟩
  have t8 := same_upd (o := .lst [V.bl false]) hl8
  have g8 := (upd_same : upd H7 l8 (.lst [V.bl false]) l8 = some (.lst [V.bl false]))
  generalize upd H7 l8 (.lst [V.bl false]) = G8 at t8 g8 ⊢
  refine ⟨p7, l8, ((((((([V.bl false, V.bl false] ++ [V.bl false]) ++ [V.bl false, V.bl false]) ++ [V.bl false]) ++ [V.bl false, V.bl false]) ++ [V.bl false]) ++ [V.bl true, V.bl false]) ++ [V.bl false]), [V.bl false], rfl, rfl, t8 _ _ e7, g8, sz_line (by decide), fun p8 hp8 => ?_⟩
  have s8 := same_upd (o := .lst (((((((([V.bl false, V.bl false] ++ [V.bl false]) ++ [V.bl false, V.bl false]) ++ [V.bl false]) ++ [V.bl false, V.bl false]) ++ [V.bl false]) ++ [V.bl true, V.bl false]) ++ [V.bl false]) ++ [V.bl false])) hp8
  have e8 := (upd_same : upd G8 p8 (.lst (((((((([V.bl false, V.bl false] ++ [V.bl false]) ++ [V.bl false, V.bl false]) ++ [V.bl false]) ++ [V.bl false, V.bl false]) ++ [V.bl false]) ++ [V.bl true, V.bl false]) ++ [V.bl false]) ++ [V.bl false])) p8 = some (.lst (((((((([V.bl false, V.bl false] ++ [V.bl false]) ++ [V.bl false, V.bl false]) ++ [V.bl false]) ++ [V.bl false, V.bl false]) ++ [V.bl false]) ++ [V.bl true, V.bl false]) ++ [V.bl false]) ++ [V.bl false])))
  generalize upd G8 p8 (.lst (((((((([V.bl false, V.bl false] ++ [V.bl false]) ++ [V.bl false, V.bl false]) ++ [V.bl false]) ++ [V.bl false, V.bl false]) ++ [V.bl false]) ++ [V.bl true, V.bl false]) ++ [V.bl false]) ++ [V.bl false])) = H8 at s8 e8 ⊢
  have hm := (e8 : _ = some (HO.lst (([false, false, false, false, false, false, false, false, false, true, false, false, false] : List Bool).map V.bl)))
  refine ⟨show 7 ≤ sizeLine by decide, fun n0 hn0 => ?_⟩
  have u0 := same_upd (o := .lst [V.str "machine", V.str "word", V.str "result", V.str "match", V.str "split", V.str "number", V.str "table"]) hn0
  have f0 := (upd_same : upd H8 n0 (.lst [V.str "machine", V.str "word", V.str "result", V.str "match", V.str "split", V.str "number", V.str "table"]) n0 = some (.lst [V.str "machine", V.str "word", V.str "result", V.str "match", V.str "split", V.str "number", V.str "table"]))
  generalize upd H8 n0 (.lst [V.str "machine", V.str "word", V.str "result", V.str "match", V.str "split", V.str "number", V.str "table"]) = J0 at u0 f0 ⊢
  refine ⟨_, rfl, show 4 ≤ sizeLine by decide, fun n1 hn1 => ?_⟩
  have u1 := same_upd (o := .lst [V.str "values", V.str "text", V.str "place", V.str "pieces"]) hn1
  have f1 := (upd_same : upd J0 n1 (.lst [V.str "values", V.str "text", V.str "place", V.str "pieces"]) n1 = some (.lst [V.str "values", V.str "text", V.str "place", V.str "pieces"]))
  generalize upd J0 n1 (.lst [V.str "values", V.str "text", V.str "place", V.str "pieces"]) = J1 at u1 f1 ⊢
  refine ⟨n0, n1, [V.str "machine", V.str "word", V.str "result", V.str "match", V.str "split", V.str "number", V.str "table"], [V.str "values", V.str "text", V.str "place", V.str "pieces"], rfl, rfl, u1 _ _ f0, f1, sz_line (by decide), fun q1 hq1 => ?_⟩
  have v1 := same_upd (o := .lst ([V.str "machine", V.str "word", V.str "result", V.str "match", V.str "split", V.str "number", V.str "table"] ++ [V.str "values", V.str "text", V.str "place", V.str "pieces"])) hq1
  have h1 := (upd_same : upd J1 q1 (.lst ([V.str "machine", V.str "word", V.str "result", V.str "match", V.str "split", V.str "number", V.str "table"] ++ [V.str "values", V.str "text", V.str "place", V.str "pieces"])) q1 = some (.lst ([V.str "machine", V.str "word", V.str "result", V.str "match", V.str "split", V.str "number", V.str "table"] ++ [V.str "values", V.str "text", V.str "place", V.str "pieces"])))
  generalize upd J1 q1 (.lst ([V.str "machine", V.str "word", V.str "result", V.str "match", V.str "split", V.str "number", V.str "table"] ++ [V.str "values", V.str "text", V.str "place", V.str "pieces"])) = K1 at v1 h1 ⊢
  refine ⟨_, rfl, show 2 ≤ sizeLine by decide, fun n2 hn2 => ?_⟩
  have u2 := same_upd (o := .lst [V.str "unsteady", V.str "nothing"]) hn2
  have f2 := (upd_same : upd K1 n2 (.lst [V.str "unsteady", V.str "nothing"]) n2 = some (.lst [V.str "unsteady", V.str "nothing"]))
  generalize upd K1 n2 (.lst [V.str "unsteady", V.str "nothing"]) = J2 at u2 f2 ⊢
  refine ⟨q1, n2, ([V.str "machine", V.str "word", V.str "result", V.str "match", V.str "split", V.str "number", V.str "table"] ++ [V.str "values", V.str "text", V.str "place", V.str "pieces"]), [V.str "unsteady", V.str "nothing"], rfl, rfl, u2 _ _ h1, f2, sz_line (by decide), fun q2 hq2 => ?_⟩
  have v2 := same_upd (o := .lst (([V.str "machine", V.str "word", V.str "result", V.str "match", V.str "split", V.str "number", V.str "table"] ++ [V.str "values", V.str "text", V.str "place", V.str "pieces"]) ++ [V.str "unsteady", V.str "nothing"])) hq2
  have h2 := (upd_same : upd J2 q2 (.lst (([V.str "machine", V.str "word", V.str "result", V.str "match", V.str "split", V.str "number", V.str "table"] ++ [V.str "values", V.str "text", V.str "place", V.str "pieces"]) ++ [V.str "unsteady", V.str "nothing"])) q2 = some (.lst (([V.str "machine", V.str "word", V.str "result", V.str "match", V.str "split", V.str "number", V.str "table"] ++ [V.str "values", V.str "text", V.str "place", V.str "pieces"]) ++ [V.str "unsteady", V.str "nothing"])))
  generalize upd J2 q2 (.lst (([V.str "machine", V.str "word", V.str "result", V.str "match", V.str "split", V.str "number", V.str "table"] ++ [V.str "values", V.str "text", V.str "place", V.str "pieces"]) ++ [V.str "unsteady", V.str "nothing"])) = K2 at v2 h2 ⊢
  have sn := u0.trans ((u1.trans v1).trans (u2.trans v2))
  have hm2 := sn _ _ hm
  refine ⟨_, rfl, .inl ⟨rfl, _, SqL.of hm2⟩, p8, [false, false, false, false, false, false, false, false, false, true, false, false, false], true, rfl, rfl, SqL.of hm2, rfl, _, rfl, iteT ?_⟩
  refine ⟨_, rfl, _, rfl, .inl ⟨rfl, _, SqL.of hm2⟩, p8, _, .bl true, 9, .bl true, rfl, rfl, SqL.of hm2, rfl, rfl, rfl, rfl, idx_ok [false, false, false, false, false, false, false, false, false, true, false, false, false] 9 rfl, q2, _, ((9 : Nat) : Int), .str "place", rfl, rfl, SqL.of h2, rfl, hQ _ _ ?_ rfl⟩
  exact ((((((((((((((((t0.trans t1).trans s1).trans t2).trans s2).trans t3).trans s3).trans t4).trans s4).trans t5).trans s5).trans t6).trans s6).trans t7).trans s7).trans t8).trans s8).trans sn
theorem said_unsteady {X : Cx} (T : Txt X.K X.mg) {cdg : Value} {s : Shared} {H0 : Hp} (a : Addr) (u0 u2 u3 : Option V) (H : Hp) (Q : VK) (hQ : Res H Q fun _ v => v = .str (errTxt .unsteady)) (D : Ends) (hD : D.rt = Q) :
    tsAll (cxOf C8.CX0 X.prog X.w X.K X.mg X.base Nsd "_law_said" (defScope b__law_said) (He.ga X.K "_law_said") cdg X.A X.stack s H0 C8.E0).nox saidSuite a (.ref (He.ga X.K "Unsteady")) none D [u0, some (.ref a), u2, u3] H := by
  have ec := T.ec_Unsteady
  refine ⟨_, fun oe pn hz hf => (pss_cons (ps_set (i := 2) sc_said.nd rfl (Or.inl rfl) (pe_lst (pa_cons (pe_callB (call_isE ec hz hf) rfl T.f_isinstance (by decide +kernel) (pa_cons (pv 1) (pa_cons (pe_glob (v := .ref (He.ga X.K "MachineError")) rfl T.g_MachineError rfl) pa_nil))) (pa_cons (pe_callB (call_isE ec hz hf) rfl T.f_isinstance (by decide +kernel) (pa_cons (pv 1) (pa_cons (pe_glob (v := .ref (He.ga X.K "WordError")) rfl T.g_WordError rfl) pa_nil))) pa_nil))))
        (pss_cons (ps_set (i := 2) sc_said.nd rfl (Or.inl rfl) (pe_op op_cat (pv 2) (pe_lst (pa_cons (pe_callB (call_isE ec hz hf) rfl T.f_isinstance (by decide +kernel) (pa_cons (pv 1) (pa_cons (pe_glob (v := .ref (He.ga X.K "ResultError")) rfl T.g_ResultError rfl) pa_nil))) pa_nil))))
        (pss_cons (ps_set (i := 2) sc_said.nd rfl (Or.inl rfl) (pe_op op_cat (pv 2) (pe_lst (pa_cons (pe_callB (call_isE ec hz hf) rfl T.f_isinstance (by decide +kernel) (pa_cons (pv 1) (pa_cons (pe_glob (v := .ref (He.ga X.K "MatchError")) rfl T.g_MatchError rfl) pa_nil))) (pa_cons (pe_callB (call_isE ec hz hf) rfl T.f_isinstance (by decide +kernel) (pa_cons (pv 1) (pa_cons (pe_glob (v := .ref (He.ga X.K "SplitError")) rfl T.g_SplitError rfl) pa_nil))) pa_nil)))))
        (pss_cons (ps_set (i := 2) sc_said.nd rfl (Or.inl rfl) (pe_op op_cat (pv 2) (pe_lst (pa_cons (pe_callB (call_isE ec hz hf) rfl T.f_isinstance (by decide +kernel) (pa_cons (pv 1) (pa_cons (pe_glob (v := .ref (He.ga X.K "NumberError")) rfl T.g_NumberError rfl) pa_nil))) pa_nil))))
        (pss_cons (ps_set (i := 2) sc_said.nd rfl (Or.inl rfl) (pe_op op_cat (pv 2) (pe_lst (pa_cons (pe_callB (call_isE ec hz hf) rfl T.f_isinstance (by decide +kernel) (pa_cons (pv 1) (pa_cons (pe_glob (v := .ref (He.ga X.K "TableError")) rfl T.g_TableError rfl) pa_nil))) (pa_cons (pe_callB (call_isE ec hz hf) rfl T.f_isinstance (by decide +kernel) (pa_cons (pv 1) (pa_cons (pe_glob (v := .ref (He.ga X.K "ValuesError")) rfl T.g_ValuesError rfl) pa_nil))) pa_nil)))))
        (pss_cons (ps_set (i := 2) sc_said.nd rfl (Or.inl rfl) (pe_op op_cat (pv 2) (pe_lst (pa_cons (pe_callB (call_isE ec hz hf) rfl T.f_isinstance (by decide +kernel) (pa_cons (pv 1) (pa_cons (pe_glob (v := .ref (He.ga X.K "TextError")) rfl T.g_TextError rfl) pa_nil))) pa_nil))))
        (pss_cons (ps_set (i := 2) sc_said.nd rfl (Or.inl rfl) (pe_op op_cat (pv 2) (pe_lst (pa_cons (pe_callB (call_isE ec hz hf) rfl T.f_isinstance (by decide +kernel) (pa_cons (pv 1) (pa_cons (pe_glob (v := .ref (He.ga X.K "PlaceError")) rfl T.g_PlaceError rfl) pa_nil))) (pa_cons (pe_callB (call_isE ec hz hf) rfl T.f_isinstance (by decide +kernel) (pa_cons (pv 1) (pa_cons (pe_glob (v := .ref (He.ga X.K "PiecesError")) rfl T.g_PiecesError rfl) pa_nil))) pa_nil)))))
        (pss_cons (ps_set (i := 2) sc_said.nd rfl (Or.inl rfl) (pe_op op_cat (pv 2) (pe_lst (pa_cons (pe_callB (call_isE ec hz hf) rfl T.f_isinstance (by decide +kernel) (pa_cons (pv 1) (pa_cons (pe_glob (v := .ref (He.ga X.K "Unsteady")) rfl T.g_Unsteady rfl) pa_nil))) pa_nil))))
        (pss_cons (ps_set (i := 2) sc_said.nd rfl (Or.inl rfl) (pe_op op_cat (pv 2) (pe_lst (pa_cons (pe_callB (call_isE ec hz hf) rfl T.f_isinstance (by decide +kernel) (pa_cons (pv 1) (pa_cons (pe_glob (v := .ref (He.ga X.K "NothingDone")) rfl T.g_NothingDone rfl) pa_nil))) pa_nil))))
        (pss_cons (ps_set (i := 3) sc_said.nd rfl (Or.inl rfl) (pe_lst (pa_cons pe_str (pa_cons pe_str (pa_cons pe_str (pa_cons pe_str (pa_cons pe_str (pa_cons pe_str (pa_cons pe_str pa_nil)))))))))
        (pss_cons (ps_set (i := 3) sc_said.nd rfl (Or.inl rfl) (pe_op op_cat (pv 3) (pe_lst (pa_cons pe_str (pa_cons pe_str (pa_cons pe_str (pa_cons pe_str pa_nil)))))))
        (pss_cons (ps_set (i := 3) sc_said.nd rfl (Or.inl rfl) (pe_op op_cat (pv 3) (pe_lst (pa_cons pe_str (pa_cons pe_str pa_nil)))))
        (pss_one (ps_ret (pe_ifExp (pt_cmpR op_eq (pe_bmK X.K PySem.F.plainAttrs_list PySem.F.slot_list_count PySem.F.type_list_count (countK X.K) (pv 2) (pa_cons pe_bl pa_nil)) pe_int (nomark _)) (pe_ix (ixL X.K) (pv 3) (pe_bmK X.K PySem.F.plainAttrs_list PySem.F.slot_list_index PySem.F.type_list_index (indexK X.K) (pv 2) (pa_cons pe_bl pa_nil)) (fun _ _ => rfl)) pe_str))))))))))))))), ?_⟩
  subst hD
  refine ⟨_, rfl, V.ref (He.ga X.K "MachineError"), Value.ref (He.ga X.K "MachineError"), false, rfl, fun _ h => h, T.k_Unsteady_MachineError, _, rfl, V.ref (He.ga X.K "WordError"), Value.ref (He.ga X.K "WordError"), false, rfl, fun _ h => h, T.k_Unsteady_WordError, show 2 ≤ sizeLine by decide, fun l0 hl0 => ?_⟩
  have t0 := same_upd (o := .lst [V.bl false, V.bl false]) hl0
  have g0 := (upd_same : upd H l0 (.lst [V.bl false, V.bl false]) l0 = some (.lst [V.bl false, V.bl false]))
  generalize upd H l0 (.lst [V.bl false, V.bl false]) = G0 at t0 g0 ⊢
  refine ⟨_, rfl, _, rfl, V.ref (He.ga X.K "ResultError"), Value.ref (He.ga X.K "ResultError"), false, rfl, fun _ h => h, T.k_Unsteady_ResultError, show 1 ≤ sizeLine by decide, fun l1 hl1 => ?_⟩
  have t1 := same_upd (o := .lst [V.bl false]) hl1
  have g1 := (upd_same : upd G0 l1 (.lst [V.bl false]) l1 = some (.lst [V.bl false]))
  generalize upd G0 l1 (.lst [V.bl false]) = G1 at t1 g1 ⊢
  refine ⟨l0, l1, [V.bl false, V.bl false], [V.bl false], rfl, rfl, t1 _ _ g0, g1, sz_line (by decide), fun p1 hp1 => ?_⟩
  have s1 := same_upd (o := .lst ([V.bl false, V.bl false] ++ [V.bl false])) hp1
  have e1 := (upd_same : upd G1 p1 (.lst ([V.bl false, V.bl false] ++ [V.bl false])) p1 = some (.lst ([V.bl false, V.bl false] ++ [V.bl false])))
  generalize upd G1 p1 (.lst ([V.bl false, V.bl false] ++ [V.bl false])) = H1 at s1 e1 ⊢
  refine ⟨_, rfl, _, rfl, V.ref (He.ga X.K "MatchError"), Value.ref (He.ga X.K "MatchError"), false, rfl, fun _ h => h, T.k_Unsteady_MatchError, _, rfl, V.ref (He.ga X.K "SplitError"), Value.ref (He.ga X.K "SplitError"), false, rfl, fun _ h => h, T.k_Unsteady_SplitError, show 2 ≤ sizeLine by decide, fun l2 hl2 => ?_⟩
  have t2 := same_upd (o := .lst [V.bl false, V.bl false]) hl2
  have g2 := (upd_same : upd H1 l2 (.lst [V.bl false, V.bl false]) l2 = some (.lst [V.bl false, V.bl false]))
  generalize upd H1 l2 (.lst [V.bl false, V.bl false]) = G2 at t2 g2 ⊢
  refine ⟨p1, l2, ([V.bl false, V.bl false] ++ [V.bl false]), [V.bl false, V.bl false], rfl, rfl, t2 _ _ e1, g2, sz_line (by decide), fun p2 hp2 => ?_⟩
  have s2 := same_upd (o := .lst (([V.bl false, V.bl false] ++ [V.bl false]) ++ [V.bl false, V.bl false])) hp2
  have e2 := (upd_same : upd G2 p2 (.lst (([V.bl false, V.bl false] ++ [V.bl false]) ++ [V.bl false, V.bl false])) p2 = some (.lst (([V.bl false, V.bl false] ++ [V.bl false]) ++ [V.bl false, V.bl false])))
  generalize upd G2 p2 (.lst (([V.bl false, V.bl false] ++ [V.bl false]) ++ [V.bl false, V.bl false])) = H2 at s2 e2 ⊢
  refine ⟨_, rfl, _, rfl, V.ref (He.ga X.K "NumberError"), Value.ref (He.ga X.K "NumberError"), false, rfl, fun _ h => h, T.k_Unsteady_NumberError, show 1 ≤ sizeLine by decide, fun l3 hl3 => ?_⟩
  have t3 := same_upd (o := .lst [V.bl false]) hl3
  have g3 := (upd_same : upd H2 l3 (.lst [V.bl false]) l3 = some (.lst [V.bl false]))
  generalize upd H2 l3 (.lst [V.bl false]) = G3 at t3 g3 ⊢
  refine ⟨p2, l3, (([V.bl false, V.bl false] ++ [V.bl false]) ++ [V.bl false, V.bl false]), [V.bl false], rfl, rfl, t3 _ _ e2, g3, sz_line (by decide), fun p3 hp3 => ?_⟩
  have s3 := same_upd (o := .lst ((([V.bl false, V.bl false] ++ [V.bl false]) ++ [V.bl false, V.bl false]) ++ [V.bl false])) hp3
  have e3 := (upd_same : upd G3 p3 (.lst ((([V.bl false, V.bl false] ++ [V.bl false]) ++ [V.bl false, V.bl false]) ++ [V.bl false])) p3 = some (.lst ((([V.bl false, V.bl false] ++ [V.bl false]) ++ [V.bl false, V.bl false]) ++ [V.bl false])))
  generalize upd G3 p3 (.lst ((([V.bl false, V.bl false] ++ [V.bl false]) ++ [V.bl false, V.bl false]) ++ [V.bl false])) = H3 at s3 e3 ⊢
  refine ⟨_, rfl, _, rfl, V.ref (He.ga X.K "TableError"), Value.ref (He.ga X.K "TableError"), false, rfl, fun _ h => h, T.k_Unsteady_TableError, _, rfl, V.ref (He.ga X.K "ValuesError"), Value.ref (He.ga X.K "ValuesError"), false, rfl, fun _ h => h, T.k_Unsteady_ValuesError, show 2 ≤ sizeLine by decide, fun l4 hl4 => ?_⟩
  have t4 := same_upd (o := .lst [V.bl false, V.bl false]) hl4
  have g4 := (upd_same : upd H3 l4 (.lst [V.bl false, V.bl false]) l4 = some (.lst [V.bl false, V.bl false]))
  generalize upd H3 l4 (.lst [V.bl false, V.bl false]) = G4 at t4 g4 ⊢
  refine ⟨p3, l4, ((([V.bl false, V.bl false] ++ [V.bl false]) ++ [V.bl false, V.bl false]) ++ [V.bl false]), [V.bl false, V.bl false], rfl, rfl, t4 _ _ e3, g4, sz_line (by decide), fun p4 hp4 => ?_⟩
  have s4 := same_upd (o := .lst (((([V.bl false, V.bl false] ++ [V.bl false]) ++ [V.bl false, V.bl false]) ++ [V.bl false]) ++ [V.bl false, V.bl false])) hp4
  have e4 := (upd_same : upd G4 p4 (.lst (((([V.bl false, V.bl false] ++ [V.bl false]) ++ [V.bl false, V.bl false]) ++ [V.bl false]) ++ [V.bl false, V.bl false])) p4 = some (.lst (((([V.bl false, V.bl false] ++ [V.bl false]) ++ [V.bl false, V.bl false]) ++ [V.bl false]) ++ [V.bl false, V.bl false])))
  generalize upd G4 p4 (.lst (((([V.bl false, V.bl false] ++ [V.bl false]) ++ [V.bl false, V.bl false]) ++ [V.bl false]) ++ [V.bl false, V.bl false])) = H4 at s4 e4 ⊢
  refine ⟨_, rfl, _, rfl, V.ref (He.ga X.K "TextError"), Value.ref (He.ga X.K "TextError"), false, rfl, fun _ h => h, T.k_Unsteady_TextError, show 1 ≤ sizeLine by decide, fun l5 hl5 => ?_⟩
  have t5 := same_upd (o := .lst [V.bl false]) hl5
  have g5 := (upd_same : upd H4 l5 (.lst [V.bl false]) l5 = some (.lst [V.bl false]))
  generalize upd H4 l5 (.lst [V.bl false]) = G5 at t5 g5 ⊢
  refine ⟨p4, l5, (((([V.bl false, V.bl false] ++ [V.bl false]) ++ [V.bl false, V.bl false]) ++ [V.bl false]) ++ [V.bl false, V.bl false]), [V.bl false], rfl, rfl, t5 _ _ e4, g5, sz_line (by decide), fun p5 hp5 => ?_⟩
  have s5 := same_upd (o := .lst ((((([V.bl false, V.bl false] ++ [V.bl false]) ++ [V.bl false, V.bl false]) ++ [V.bl false]) ++ [V.bl false, V.bl false]) ++ [V.bl false])) hp5
  have e5 := (upd_same : upd G5 p5 (.lst ((((([V.bl false, V.bl false] ++ [V.bl false]) ++ [V.bl false, V.bl false]) ++ [V.bl false]) ++ [V.bl false, V.bl false]) ++ [V.bl false])) p5 = some (.lst ((((([V.bl false, V.bl false] ++ [V.bl false]) ++ [V.bl false, V.bl false]) ++ [V.bl false]) ++ [V.bl false, V.bl false]) ++ [V.bl false])))
  generalize upd G5 p5 (.lst ((((([V.bl false, V.bl false] ++ [V.bl false]) ++ [V.bl false, V.bl false]) ++ [V.bl false]) ++ [V.bl false, V.bl false]) ++ [V.bl false])) = H5 at s5 e5 ⊢
  refine ⟨_, rfl, _, rfl, V.ref (He.ga X.K "PlaceError"), Value.ref (He.ga X.K "PlaceError"), false, rfl, fun _ h => h, T.k_Unsteady_PlaceError, _, rfl, V.ref (He.ga X.K "PiecesError"), Value.ref (He.ga X.K "PiecesError"), false, rfl, fun _ h => h, T.k_Unsteady_PiecesError, show 2 ≤ sizeLine by decide, fun l6 hl6 => ?_⟩
  have t6 := same_upd (o := .lst [V.bl false, V.bl false]) hl6
  have g6 := (upd_same : upd H5 l6 (.lst [V.bl false, V.bl false]) l6 = some (.lst [V.bl false, V.bl false]))
  generalize upd H5 l6 (.lst [V.bl false, V.bl false]) = G6 at t6 g6 ⊢
  refine ⟨p5, l6, ((((([V.bl false, V.bl false] ++ [V.bl false]) ++ [V.bl false, V.bl false]) ++ [V.bl false]) ++ [V.bl false, V.bl false]) ++ [V.bl false]), [V.bl false, V.bl false], rfl, rfl, t6 _ _ e5, g6, sz_line (by decide), fun p6 hp6 => ?_⟩
  have s6 := same_upd (o := .lst (((((([V.bl false, V.bl false] ++ [V.bl false]) ++ [V.bl false, V.bl false]) ++ [V.bl false]) ++ [V.bl false, V.bl false]) ++ [V.bl false]) ++ [V.bl false, V.bl false])) hp6
  have e6 := (upd_same : upd G6 p6 (.lst (((((([V.bl false, V.bl false] ++ [V.bl false]) ++ [V.bl false, V.bl false]) ++ [V.bl false]) ++ [V.bl false, V.bl false]) ++ [V.bl false]) ++ [V.bl false, V.bl false])) p6 = some (.lst (((((([V.bl false, V.bl false] ++ [V.bl false]) ++ [V.bl false, V.bl false]) ++ [V.bl false]) ++ [V.bl false, V.bl false]) ++ [V.bl false]) ++ [V.bl false, V.bl false])))
  generalize upd G6 p6 (.lst (((((([V.bl false, V.bl false] ++ [V.bl false]) ++ [V.bl false, V.bl false]) ++ [V.bl false]) ++ [V.bl false, V.bl false]) ++ [V.bl false]) ++ [V.bl false, V.bl false])) = H6 at s6 e6 ⊢
  refine ⟨_, rfl, _, rfl, V.ref (He.ga X.K "Unsteady"), Value.ref (He.ga X.K "Unsteady"), true, rfl, fun _ h => h, T.k_Unsteady_Unsteady, show 1 ≤ sizeLine by decide, fun l7 hl7 => ?_⟩
  have t7 := same_upd (o := .lst [V.bl true]) hl7
  have g7 := (upd_same : upd H6 l7 (.lst [V.bl true]) l7 = some (.lst [V.bl true]))
  generalize upd H6 l7 (.lst [V.bl true]) = G7 at t7 g7 ⊢
  refine ⟨p6, l7, (((((([V.bl false, V.bl false] ++ [V.bl false]) ++ [V.bl false, V.bl false]) ++ [V.bl false]) ++ [V.bl false, V.bl false]) ++ [V.bl false]) ++ [V.bl false, V.bl false]), [V.bl true], rfl, rfl, t7 _ _ e6, g7, sz_line (by decide), fun p7 hp7 => ?_⟩
  have s7 := same_upd (o := .lst ((((((([V.bl false, V.bl false] ++ [V.bl false]) ++ [V.bl false, V.bl false]) ++ [V.bl false]) ++ [V.bl false, V.bl false]) ++ [V.bl false]) ++ [V.bl false, V.bl false]) ++ [V.bl true])) hp7
  have e7 := (upd_same : upd G7 p7 (.lst ((((((([V.bl false, V.bl false] ++ [V.bl false]) ++ [V.bl false, V.bl false]) ++ [V.bl false]) ++ [V.bl false, V.bl false]) ++ [V.bl false]) ++ [V.bl false, V.bl false]) ++ [V.bl true])) p7 = some (.lst ((((((([V.bl false, V.bl false] ++ [V.bl false]) ++ [V.bl false, V.bl false]) ++ [V.bl false]) ++ [V.bl false, V.bl false]) ++ [V.bl false]) ++ [V.bl false, V.bl false]) ++ [V.bl true])))
  generalize upd G7 p7 (.lst ((((((([V.bl false, V.bl false] ++ [V.bl false]) ++ [V.bl false, V.bl false]) ++ [V.bl false]) ++ [V.bl false, V.bl false]) ++ [V.bl false]) ++ [V.bl false, V.bl false]) ++ [V.bl true])) = H7 at s7 e7 ⊢
  refine ⟨_, rfl, _, rfl, V.ref (He.ga X.K "NothingDone"), Value.ref (He.ga X.K "NothingDone"), false, rfl, fun _ h => h, T.k_Unsteady_NothingDone, show 1 ≤ sizeLine by decide, fun l8 hl8 => ?_⟩
  have t8 := same_upd (o := .lst [V.bl false]) hl8
  have g8 := (upd_same : upd H7 l8 (.lst [V.bl false]) l8 = some (.lst [V.bl false]))
  generalize upd H7 l8 (.lst [V.bl false]) = G8 at t8 g8 ⊢
  refine ⟨p7, l8, ((((((([V.bl false, V.bl false] ++ [V.bl false]) ++ [V.bl false, V.bl false]) ++ [V.bl false]) ++ [V.bl false, V.bl false]) ++ [V.bl false]) ++ [V.bl false, V.bl false]) ++ [V.bl true]), [V.bl false], rfl, rfl, t8 _ _ e7, g8, sz_line (by decide), fun p8 hp8 => ?_⟩
  have s8 := same_upd (o := .lst (((((((([V.bl false, V.bl false] ++ [V.bl false]) ++ [V.bl false, V.bl false]) ++ [V.bl false]) ++ [V.bl false, V.bl false]) ++ [V.bl false]) ++ [V.bl false, V.bl false]) ++ [V.bl true]) ++ [V.bl false])) hp8
  have e8 := (upd_same : upd G8 p8 (.lst (((((((([V.bl false, V.bl false] ++ [V.bl false]) ++ [V.bl false, V.bl false]) ++ [V.bl false]) ++ [V.bl false, V.bl false]) ++ [V.bl false]) ++ [V.bl false, V.bl false]) ++ [V.bl true]) ++ [V.bl false])) p8 = some (.lst (((((((([V.bl false, V.bl false] ++ [V.bl false]) ++ [V.bl false, V.bl false]) ++ [V.bl false]) ++ [V.bl false, V.bl false]) ++ [V.bl false]) ++ [V.bl false, V.bl false]) ++ [V.bl true]) ++ [V.bl false])))
  generalize upd G8 p8 (.lst (((((((([V.bl false, V.bl false] ++ [V.bl false]) ++ [V.bl false, V.bl false]) ++ [V.bl false]) ++ [V.bl false, V.bl false]) ++ [V.bl false]) ++ [V.bl false, V.bl false]) ++ [V.bl true]) ++ [V.bl false])) = H8 at s8 e8 ⊢
  have hm := (e8 : _ = some (HO.lst (([false, false, false, false, false, false, false, false, false, false, false, true, false] : List Bool).map V.bl)))
  refine ⟨show 7 ≤ sizeLine by decide, fun n0 hn0 => ?_⟩
  have u0 := same_upd (o := .lst [V.str "machine", V.str "word", V.str "result", V.str "match", V.str "split", V.str "number", V.str "table"]) hn0
  have f0 := (upd_same : upd H8 n0 (.lst [V.str "machine", V.str "word", V.str "result", V.str "match", V.str "split", V.str "number", V.str "table"]) n0 = some (.lst [V.str "machine", V.str "word", V.str "result", V.str "match", V.str "split", V.str "number", V.str "table"]))
  generalize upd H8 n0 (.lst [V.str "machine", V.str "word", V.str "result", V.str "match", V.str "split", V.str "number", V.str "table"]) = J0 at u0 f0 ⊢
  refine ⟨_, rfl, show 4 ≤ sizeLine by decide, fun n1 hn1 => ?_⟩
  have u1 := same_upd (o := .lst [V.str "values", V.str "text", V.str "place", V.str "pieces"]) hn1
  have f1 := (upd_same : upd J0 n1 (.lst [V.str "values", V.str "text", V.str "place", V.str "pieces"]) n1 = some (.lst [V.str "values", V.str "text", V.str "place", V.str "pieces"]))
  generalize upd J0 n1 (.lst [V.str "values", V.str "text", V.str "place", V.str "pieces"]) = J1 at u1 f1 ⊢
  refine ⟨n0, n1, [V.str "machine", V.str "word", V.str "result", V.str "match", V.str "split", V.str "number", V.str "table"], [V.str "values", V.str "text", V.str "place", V.str "pieces"], rfl, rfl, u1 _ _ f0, f1, sz_line (by decide), fun q1 hq1 => ?_⟩
  have v1 := same_upd (o := .lst ([V.str "machine", V.str "word", V.str "result", V.str "match", V.str "split", V.str "number", V.str "table"] ++ [V.str "values", V.str "text", V.str "place", V.str "pieces"])) hq1
  have h1 := (upd_same : upd J1 q1 (.lst ([V.str "machine", V.str "word", V.str "result", V.str "match", V.str "split", V.str "number", V.str "table"] ++ [V.str "values", V.str "text", V.str "place", V.str "pieces"])) q1 = some (.lst ([V.str "machine", V.str "word", V.str "result", V.str "match", V.str "split", V.str "number", V.str "table"] ++ [V.str "values", V.str "text", V.str "place", V.str "pieces"])))
  generalize upd J1 q1 (.lst ([V.str "machine", V.str "word", V.str "result", V.str "match", V.str "split", V.str "number", V.str "table"] ++ [V.str "values", V.str "text", V.str "place", V.str "pieces"])) = K1 at v1 h1 ⊢
  refine ⟨_, rfl, show 2 ≤ sizeLine by decide, fun n2 hn2 => ?_⟩
  have u2 := same_upd (o := .lst [V.str "unsteady", V.str "nothing"]) hn2
  have f2 := (upd_same : upd K1 n2 (.lst [V.str "unsteady", V.str "nothing"]) n2 = some (.lst [V.str "unsteady", V.str "nothing"]))
  generalize upd K1 n2 (.lst [V.str "unsteady", V.str "nothing"]) = J2 at u2 f2 ⊢
  refine ⟨q1, n2, ([V.str "machine", V.str "word", V.str "result", V.str "match", V.str "split", V.str "number", V.str "table"] ++ [V.str "values", V.str "text", V.str "place", V.str "pieces"]), [V.str "unsteady", V.str "nothing"], rfl, rfl, u2 _ _ h1, f2, sz_line (by decide), fun q2 hq2 => ?_⟩
  have v2 := same_upd (o := .lst (([V.str "machine", V.str "word", V.str "result", V.str "match", V.str "split", V.str "number", V.str "table"] ++ [V.str "values", V.str "text", V.str "place", V.str "pieces"]) ++ [V.str "unsteady", V.str "nothing"])) hq2
  have h2 := (upd_same : upd J2 q2 (.lst (([V.str "machine", V.str "word", V.str "result", V.str "match", V.str "split", V.str "number", V.str "table"] ++ [V.str "values", V.str "text", V.str "place", V.str "pieces"]) ++ [V.str "unsteady", V.str "nothing"])) q2 = some (.lst (([V.str "machine", V.str "word", V.str "result", V.str "match", V.str "split", V.str "number", V.str "table"] ++ [V.str "values", V.str "text", V.str "place", V.str "pieces"]) ++ [V.str "unsteady", V.str "nothing"])))
  generalize upd J2 q2 (.lst (([V.str "machine", V.str "word", V.str "result", V.str "match", V.str "split", V.str "number", V.str "table"] ++ [V.str "values", V.str "text", V.str "place", V.str "pieces"]) ++ [V.str "unsteady", V.str "nothing"])) = K2 at v2 h2 ⊢
  have sn := u0.trans ((u1.trans v1).trans (u2.trans v2))
  have hm2 := sn _ _ hm
  refine ⟨_, rfl, .inl ⟨rfl, _, SqL.of hm2⟩, p8, [false, false, false, false, false, false, false, false, false, false, false, true, false], true, rfl, rfl, SqL.of hm2, rfl, _, rfl, iteT ?_⟩
  refine ⟨_, rfl, _, rfl, .inl ⟨rfl, _, SqL.of hm2⟩, p8, _, .bl true, 11, .bl true, rfl, rfl, SqL.of hm2, rfl, rfl, rfl, rfl, idx_ok [false, false, false, false, false, false, false, false, false, false, false, true, false] 11 rfl, q2, _, ((11 : Nat) : Int), .str "unsteady", rfl, rfl, SqL.of h2, rfl, hQ _ _ ?_ rfl⟩
  exact ((((((((((((((((t0.trans t1).trans s1).trans t2).trans s2).trans t3).trans s3).trans t4).trans s4).trans t5).trans s5).trans t6).trans s6).trans t7).trans s7).trans t8).trans s8).trans sn
theorem said_nothing {X : Cx} (T : Txt X.K X.mg) {cdg : Value} {s : Shared} {H0 : Hp} (a : Addr) (u0 u2 u3 : Option V) (H : Hp) (Q : VK) (hQ : Res H Q fun _ v => v = .str (errTxt .nothing)) (D : Ends) (hD : D.rt = Q) :
    tsAll (cxOf C8.CX0 X.prog X.w X.K X.mg X.base Nsd "_law_said" (defScope b__law_said) (He.ga X.K "_law_said") cdg X.A X.stack s H0 C8.E0).nox saidSuite a (.ref (He.ga X.K "NothingDone")) none D [u0, some (.ref a), u2, u3] H := by
  have ec := T.ec_NothingDone
  refine ⟨_, fun oe pn hz hf => (pss_cons (ps_set (i := 2) sc_said.nd rfl (Or.inl rfl) (pe_lst (pa_cons (pe_callB (call_isE ec hz hf) rfl T.f_isinstance (by decide +kernel) (pa_cons (pv 1) (pa_cons (pe_glob (v := .ref (He.ga X.K "MachineError")) rfl T.g_MachineError rfl) pa_nil))) (pa_cons (pe_callB (call_isE ec hz hf) rfl T.f_isinstance (by decide +kernel) (pa_cons (pv 1) (pa_cons (pe_glob (v := .ref (He.ga X.K "WordError")) rfl T.g_WordError rfl) pa_nil))) pa_nil))))
        (pss_cons (ps_set (i := 2) sc_said.nd rfl (Or.inl rfl) (pe_op op_cat (pv 2) (pe_lst (pa_cons (pe_callB (call_isE ec hz hf) rfl T.f_isinstance (by decide +kernel) (pa_cons (pv 1) (pa_cons (pe_glob (v := .ref (He.ga X.K "ResultError")) rfl T.g_ResultError rfl) pa_nil))) pa_nil))))
        (pss_cons (ps_set (i := 2) sc_said.nd rfl (Or.inl rfl) (pe_op op_cat (pv 2) (pe_lst (pa_cons (pe_callB (call_isE ec hz hf) rfl T.f_isinstance (by decide +kernel) (pa_cons (pv 1) (pa_cons (pe_glob (v := .ref (He.ga X.K "MatchError")) rfl T.g_MatchError rfl) pa_nil))) (pa_cons (pe_callB (call_isE ec hz hf) rfl T.f_isinstance (by decide +kernel) (pa_cons (pv 1) (pa_cons (pe_glob (v := .ref (He.ga X.K "SplitError")) rfl T.g_SplitError rfl) pa_nil))) pa_nil)))))
        (pss_cons (ps_set (i := 2) sc_said.nd rfl (Or.inl rfl) (pe_op op_cat (pv 2) (pe_lst (pa_cons (pe_callB (call_isE ec hz hf) rfl T.f_isinstance (by decide +kernel) (pa_cons (pv 1) (pa_cons (pe_glob (v := .ref (He.ga X.K "NumberError")) rfl T.g_NumberError rfl) pa_nil))) pa_nil))))
        (pss_cons (ps_set (i := 2) sc_said.nd rfl (Or.inl rfl) (pe_op op_cat (pv 2) (pe_lst (pa_cons (pe_callB (call_isE ec hz hf) rfl T.f_isinstance (by decide +kernel) (pa_cons (pv 1) (pa_cons (pe_glob (v := .ref (He.ga X.K "TableError")) rfl T.g_TableError rfl) pa_nil))) (pa_cons (pe_callB (call_isE ec hz hf) rfl T.f_isinstance (by decide +kernel) (pa_cons (pv 1) (pa_cons (pe_glob (v := .ref (He.ga X.K "ValuesError")) rfl T.g_ValuesError rfl) pa_nil))) pa_nil)))))
        (pss_cons (ps_set (i := 2) sc_said.nd rfl (Or.inl rfl) (pe_op op_cat (pv 2) (pe_lst (pa_cons (pe_callB (call_isE ec hz hf) rfl T.f_isinstance (by decide +kernel) (pa_cons (pv 1) (pa_cons (pe_glob (v := .ref (He.ga X.K "TextError")) rfl T.g_TextError rfl) pa_nil))) pa_nil))))
        (pss_cons (ps_set (i := 2) sc_said.nd rfl (Or.inl rfl) (pe_op op_cat (pv 2) (pe_lst (pa_cons (pe_callB (call_isE ec hz hf) rfl T.f_isinstance (by decide +kernel) (pa_cons (pv 1) (pa_cons (pe_glob (v := .ref (He.ga X.K "PlaceError")) rfl T.g_PlaceError rfl) pa_nil))) (pa_cons (pe_callB (call_isE ec hz hf) rfl T.f_isinstance (by decide +kernel) (pa_cons (pv 1) (pa_cons (pe_glob (v := .ref (He.ga X.K "PiecesError")) rfl T.g_PiecesError rfl) pa_nil))) pa_nil)))))
        (pss_cons (ps_set (i := 2) sc_said.nd rfl (Or.inl rfl) (pe_op op_cat (pv 2) (pe_lst (pa_cons (pe_callB (call_isE ec hz hf) rfl T.f_isinstance (by decide +kernel) (pa_cons (pv 1) (pa_cons (pe_glob (v := .ref (He.ga X.K "Unsteady")) rfl T.g_Unsteady rfl) pa_nil))) pa_nil))))
        (pss_cons (ps_set (i := 2) sc_said.nd rfl (Or.inl rfl) (pe_op op_cat (pv 2) (pe_lst (pa_cons (pe_callB (call_isE ec hz hf) rfl T.f_isinstance (by decide +kernel) (pa_cons (pv 1) (pa_cons (pe_glob (v := .ref (He.ga X.K "NothingDone")) rfl T.g_NothingDone rfl) pa_nil))) pa_nil))))
        (pss_cons (ps_set (i := 3) sc_said.nd rfl (Or.inl rfl) (pe_lst (pa_cons pe_str (pa_cons pe_str (pa_cons pe_str (pa_cons pe_str (pa_cons pe_str (pa_cons pe_str (pa_cons pe_str pa_nil)))))))))
        (pss_cons (ps_set (i := 3) sc_said.nd rfl (Or.inl rfl) (pe_op op_cat (pv 3) (pe_lst (pa_cons pe_str (pa_cons pe_str (pa_cons pe_str (pa_cons pe_str pa_nil)))))))
        (pss_cons (ps_set (i := 3) sc_said.nd rfl (Or.inl rfl) (pe_op op_cat (pv 3) (pe_lst (pa_cons pe_str (pa_cons pe_str pa_nil)))))
        (pss_one (ps_ret (pe_ifExp (pt_cmpR op_eq (pe_bmK X.K PySem.F.plainAttrs_list PySem.F.slot_list_count PySem.F.type_list_count (countK X.K) (pv 2) (pa_cons pe_bl pa_nil)) pe_int (nomark _)) (pe_ix (ixL X.K) (pv 3) (pe_bmK X.K PySem.F.plainAttrs_list PySem.F.slot_list_index PySem.F.type_list_index (indexK X.K) (pv 2) (pa_cons pe_bl pa_nil)) (fun _ _ => rfl)) pe_str))))))))))))))), ?_⟩
  subst hD
  refine ⟨_, rfl, V.ref (He.ga X.K "MachineError"), Value.ref (He.ga X.K "MachineError"), false, rfl, fun _ h => h, T.k_NothingDone_MachineError, _, rfl, V.ref (He.ga X.K "WordError"), Value.ref (He.ga X.K "WordError"), false, rfl, fun _ h => h, T.k_NothingDone_WordError, show 2 ≤ sizeLine by decide, fun l0 hl0 => ?_⟩
  have t0 := same_upd (o := .lst [V.bl false, V.bl false]) hl0
  have g0 := (upd_same : upd H l0 (.lst [V.bl false, V.bl false]) l0 = some (.lst [V.bl false, V.bl false]))
  generalize upd H l0 (.lst [V.bl false, V.bl false]) = G0 at t0 g0 ⊢
  refine ⟨_, rfl, _, rfl, V.ref (He.ga X.K "ResultError"), Value.ref (He.ga X.K "ResultError"), false, rfl, fun _ h => h, T.k_NothingDone_ResultError, show 1 ≤ sizeLine by decide, fun l1 hl1 => ?_⟩
  have t1 := same_upd (o := .lst [V.bl false]) hl1
  have g1 := (upd_same : upd G0 l1 (.lst [V.bl false]) l1 = some (.lst [V.bl false]))
  generalize upd G0 l1 (.lst [V.bl false]) = G1 at t1 g1 ⊢
  refine ⟨l0, l1, [V.bl false, V.bl false], [V.bl false], rfl, rfl, t1 _ _ g0, g1, sz_line (by decide), fun p1 hp1 => ?_⟩
  have s1 := same_upd (o := .lst ([V.bl false, V.bl false] ++ [V.bl false])) hp1
  have e1 := (upd_same : upd G1 p1 (.lst ([V.bl false, V.bl false] ++ [V.bl false])) p1 = some (.lst ([V.bl false, V.bl false] ++ [V.bl false])))
  generalize upd G1 p1 (.lst ([V.bl false, V.bl false] ++ [V.bl false])) = H1 at s1 e1 ⊢
  refine ⟨_, rfl, _, rfl, V.ref (He.ga X.K "MatchError"), Value.ref (He.ga X.K "MatchError"), false, rfl, fun _ h => h, T.k_NothingDone_MatchError, _, rfl, V.ref (He.ga X.K "SplitError"), Value.ref (He.ga X.K "SplitError"), false, rfl, fun _ h => h, T.k_NothingDone_SplitError, show 2 ≤ sizeLine by decide, fun l2 hl2 => ?_⟩
  have t2 := same_upd (o := .lst [V.bl false, V.bl false]) hl2
  have g2 := (upd_same : upd H1 l2 (.lst [V.bl false, V.bl false]) l2 = some (.lst [V.bl false, V.bl false]))
  generalize upd H1 l2 (.lst [V.bl false, V.bl false]) = G2 at t2 g2 ⊢
  refine ⟨p1, l2, ([V.bl false, V.bl false] ++ [V.bl false]), [V.bl false, V.bl false], rfl, rfl, t2 _ _ e1, g2, sz_line (by decide), fun p2 hp2 => ?_⟩
  have s2 := same_upd (o := .lst (([V.bl false, V.bl false] ++ [V.bl false]) ++ [V.bl false, V.bl false])) hp2
  have e2 := (upd_same : upd G2 p2 (.lst (([V.bl false, V.bl false] ++ [V.bl false]) ++ [V.bl false, V.bl false])) p2 = some (.lst (([V.bl false, V.bl false] ++ [V.bl false]) ++ [V.bl false, V.bl false])))
  generalize upd G2 p2 (.lst (([V.bl false, V.bl false] ++ [V.bl false]) ++ [V.bl false, V.bl false])) = H2 at s2 e2 ⊢
  refine ⟨_, rfl, _, rfl, V.ref (He.ga X.K "NumberError"), Value.ref (He.ga X.K "NumberError"), false, rfl, fun _ h => h, T.k_NothingDone_NumberError, show 1 ≤ sizeLine by decide, fun l3 hl3 => ?_⟩
  have t3 := same_upd (o := .lst [V.bl false]) hl3
  have g3 := (upd_same : upd H2 l3 (.lst [V.bl false]) l3 = some (.lst [V.bl false]))
  generalize upd H2 l3 (.lst [V.bl false]) = G3 at t3 g3 ⊢
  refine ⟨p2, l3, (([V.bl false, V.bl false] ++ [V.bl false]) ++ [V.bl false, V.bl false]), [V.bl false], rfl, rfl, t3 _ _ e2, g3, sz_line (by decide), fun p3 hp3 => ?_⟩
  have s3 := same_upd (o := .lst ((([V.bl false, V.bl false] ++ [V.bl false]) ++ [V.bl false, V.bl false]) ++ [V.bl false])) hp3
  have e3 := (upd_same : upd G3 p3 (.lst ((([V.bl false, V.bl false] ++ [V.bl false]) ++ [V.bl false, V.bl false]) ++ [V.bl false])) p3 = some (.lst ((([V.bl false, V.bl false] ++ [V.bl false]) ++ [V.bl false, V.bl false]) ++ [V.bl false])))
  generalize upd G3 p3 (.lst ((([V.bl false, V.bl false] ++ [V.bl false]) ++ [V.bl false, V.bl false]) ++ [V.bl false])) = H3 at s3 e3 ⊢
  refine ⟨_, rfl, _, rfl, V.ref (He.ga X.K "TableError"), Value.ref (He.ga X.K "TableError"), false, rfl, fun _ h => h, T.k_NothingDone_TableError, _, rfl, V.ref (He.ga X.K "ValuesError"), Value.ref (He.ga X.K "ValuesError"), false, rfl, fun _ h => h, T.k_NothingDone_ValuesError, show 2 ≤ sizeLine by decide, fun l4 hl4 => ?_⟩
  have t4 := same_upd (o := .lst [V.bl false, V.bl false]) hl4
  have g4 := (upd_same : upd H3 l4 (.lst [V.bl false, V.bl false]) l4 = some (.lst [V.bl false, V.bl false]))
  generalize upd H3 l4 (.lst [V.bl false, V.bl false]) = G4 at t4 g4 ⊢
  refine ⟨p3, l4, ((([V.bl false, V.bl false] ++ [V.bl false]) ++ [V.bl false, V.bl false]) ++ [V.bl false]), [V.bl false, V.bl false], rfl, rfl, t4 _ _ e3, g4, sz_line (by decide), fun p4 hp4 => ?_⟩
  have s4 := same_upd (o := .lst (((([V.bl false, V.bl false] ++ [V.bl false]) ++ [V.bl false, V.bl false]) ++ [V.bl false]) ++ [V.bl false, V.bl false])) hp4
  have e4 := (upd_same : upd G4 p4 (.lst (((([V.bl false, V.bl false] ++ [V.bl false]) ++ [V.bl false, V.bl false]) ++ [V.bl false]) ++ [V.bl false, V.bl false])) p4 = some (.lst (((([V.bl false, V.bl false] ++ [V.bl false]) ++ [V.bl false, V.bl false]) ++ [V.bl false]) ++ [V.bl false, V.bl false])))
  generalize upd G4 p4 (.lst (((([V.bl false, V.bl false] ++ [V.bl false]) ++ [V.bl false, V.bl false]) ++ [V.bl false]) ++ [V.bl false, V.bl false])) = H4 at s4 e4 ⊢
  refine ⟨_, rfl, _, rfl, V.ref (He.ga X.K "TextError"), Value.ref (He.ga X.K "TextError"), false, rfl, fun _ h => h, T.k_NothingDone_TextError, show 1 ≤ sizeLine by decide, fun l5 hl5 => ?_⟩
  have t5 := same_upd (o := .lst [V.bl false]) hl5
  have g5 := (upd_same : upd H4 l5 (.lst [V.bl false]) l5 = some (.lst [V.bl false]))
  generalize upd H4 l5 (.lst [V.bl false]) = G5 at t5 g5 ⊢
  refine ⟨p4, l5, (((([V.bl false, V.bl false] ++ [V.bl false]) ++ [V.bl false, V.bl false]) ++ [V.bl false]) ++ [V.bl false, V.bl false]), [V.bl false], rfl, rfl, t5 _ _ e4, g5, sz_line (by decide), fun p5 hp5 => ?_⟩
  have s5 := same_upd (o := .lst ((((([V.bl false, V.bl false] ++ [V.bl false]) ++ [V.bl false, V.bl false]) ++ [V.bl false]) ++ [V.bl false, V.bl false]) ++ [V.bl false])) hp5
  have e5 := (upd_same : upd G5 p5 (.lst ((((([V.bl false, V.bl false] ++ [V.bl false]) ++ [V.bl false, V.bl false]) ++ [V.bl false]) ++ [V.bl false, V.bl false]) ++ [V.bl false])) p5 = some (.lst ((((([V.bl false, V.bl false] ++ [V.bl false]) ++ [V.bl false, V.bl false]) ++ [V.bl false]) ++ [V.bl false, V.bl false]) ++ [V.bl false])))
  generalize upd G5 p5 (.lst ((((([V.bl false, V.bl false] ++ [V.bl false]) ++ [V.bl false, V.bl false]) ++ [V.bl false]) ++ [V.bl false, V.bl false]) ++ [V.bl false])) = H5 at s5 e5 ⊢
  refine ⟨_, rfl, _, rfl, V.ref (He.ga X.K "PlaceError"), Value.ref (He.ga X.K "PlaceError"), false, rfl, fun _ h => h, T.k_NothingDone_PlaceError, _, rfl, V.ref (He.ga X.K "PiecesError"), Value.ref (He.ga X.K "PiecesError"), false, rfl, fun _ h => h, T.k_NothingDone_PiecesError, show 2 ≤ sizeLine by decide, fun l6 hl6 => ?_⟩
  have t6 := same_upd (o := .lst [V.bl false, V.bl false]) hl6
  have g6 := (upd_same : upd H5 l6 (.lst [V.bl false, V.bl false]) l6 = some (.lst [V.bl false, V.bl false]))
  generalize upd H5 l6 (.lst [V.bl false, V.bl false]) = G6 at t6 g6 ⊢
  refine ⟨p5, l6, ((((([V.bl false, V.bl false] ++ [V.bl false]) ++ [V.bl false, V.bl false]) ++ [V.bl false]) ++ [V.bl false, V.bl false]) ++ [V.bl false]), [V.bl false, V.bl false], rfl, rfl, t6 _ _ e5, g6, sz_line (by decide), fun p6 hp6 => ?_⟩
  have s6 := same_upd (o := .lst (((((([V.bl false, V.bl false] ++ [V.bl false]) ++ [V.bl false, V.bl false]) ++ [V.bl false]) ++ [V.bl false, V.bl false]) ++ [V.bl false]) ++ [V.bl false, V.bl false])) hp6
  have e6 := (upd_same : upd G6 p6 (.lst (((((([V.bl false, V.bl false] ++ [V.bl false]) ++ [V.bl false, V.bl false]) ++ [V.bl false]) ++ [V.bl false, V.bl false]) ++ [V.bl false]) ++ [V.bl false, V.bl false])) p6 = some (.lst (((((([V.bl false, V.bl false] ++ [V.bl false]) ++ [V.bl false, V.bl false]) ++ [V.bl false]) ++ [V.bl false, V.bl false]) ++ [V.bl false]) ++ [V.bl false, V.bl false])))
  generalize upd G6 p6 (.lst (((((([V.bl false, V.bl false] ++ [V.bl false]) ++ [V.bl false, V.bl false]) ++ [V.bl false]) ++ [V.bl false, V.bl false]) ++ [V.bl false]) ++ [V.bl false, V.bl false])) = H6 at s6 e6 ⊢
  refine ⟨_, rfl, _, rfl, V.ref (He.ga X.K "Unsteady"), Value.ref (He.ga X.K "Unsteady"), false, rfl, fun _ h => h, T.k_NothingDone_Unsteady, show 1 ≤ sizeLine by decide, fun l7 hl7 => ?_⟩
  have t7 := same_upd (o := .lst [V.bl false]) hl7
  have g7 := (upd_same : upd H6 l7 (.lst [V.bl false]) l7 = some (.lst [V.bl false]))
  generalize upd H6 l7 (.lst [V.bl false]) = G7 at t7 g7 ⊢
  refine ⟨p6, l7, (((((([V.bl false, V.bl false] ++ [V.bl false]) ++ [V.bl false, V.bl false]) ++ [V.bl false]) ++ [V.bl false, V.bl false]) ++ [V.bl false]) ++ [V.bl false, V.bl false]), [V.bl false], rfl, rfl, t7 _ _ e6, g7, sz_line (by decide), fun p7 hp7 => ?_⟩
  have s7 := same_upd (o := .lst ((((((([V.bl false, V.bl false] ++ [V.bl false]) ++ [V.bl false, V.bl false]) ++ [V.bl false]) ++ [V.bl false, V.bl false]) ++ [V.bl false]) ++ [V.bl false, V.bl false]) ++ [V.bl false])) hp7
  have e7 := (upd_same : upd G7 p7 (.lst ((((((([V.bl false, V.bl false] ++ [V.bl false]) ++ [V.bl false, V.bl false]) ++ [V.bl false]) ++ [V.bl false, V.bl false]) ++ [V.bl false]) ++ [V.bl false, V.bl false]) ++ [V.bl false])) p7 = some (.lst ((((((([V.bl false, V.bl false] ++ [V.bl false]) ++ [V.bl false, V.bl false]) ++ [V.bl false]) ++ [V.bl false, V.bl false]) ++ [V.bl false]) ++ [V.bl false, V.bl false]) ++ [V.bl false])))
  generalize upd G7 p7 (.lst ((((((([V.bl false, V.bl false] ++ [V.bl false]) ++ [V.bl false, V.bl false]) ++ [V.bl false]) ++ [V.bl false, V.bl false]) ++ [V.bl false]) ++ [V.bl false, V.bl false]) ++ [V.bl false])) = H7 at s7 e7 ⊢
  refine ⟨_, rfl, _, rfl, V.ref (He.ga X.K "NothingDone"), Value.ref (He.ga X.K "NothingDone"), true, rfl, fun _ h => h, T.k_NothingDone_NothingDone, show 1 ≤ sizeLine by decide, fun l8 hl8 => ?_⟩
  have t8 := same_upd (o := .lst [V.bl true]) hl8
  have g8 := (upd_same : upd H7 l8 (.lst [V.bl true]) l8 = some (.lst [V.bl true]))
  generalize upd H7 l8 (.lst [V.bl true]) = G8 at t8 g8 ⊢
  refine ⟨p7, l8, ((((((([V.bl false, V.bl false] ++ [V.bl false]) ++ [V.bl false, V.bl false]) ++ [V.bl false]) ++ [V.bl false, V.bl false]) ++ [V.bl false]) ++ [V.bl false, V.bl false]) ++ [V.bl false]), [V.bl true], rfl, rfl, t8 _ _ e7, g8, sz_line (by decide), fun p8 hp8 => ?_⟩
  have s8 := same_upd (o := .lst (((((((([V.bl false, V.bl false] ++ [V.bl false]) ++ [V.bl false, V.bl false]) ++ [V.bl false]) ++ [V.bl false, V.bl false]) ++ [V.bl false]) ++ [V.bl false, V.bl false]) ++ [V.bl false]) ++ [V.bl true])) hp8
  have e8 := (upd_same : upd G8 p8 (.lst (((((((([V.bl false, V.bl false] ++ [V.bl false]) ++ [V.bl false, V.bl false]) ++ [V.bl false]) ++ [V.bl false, V.bl false]) ++ [V.bl false]) ++ [V.bl false, V.bl false]) ++ [V.bl false]) ++ [V.bl true])) p8 = some (.lst (((((((([V.bl false, V.bl false] ++ [V.bl false]) ++ [V.bl false, V.bl false]) ++ [V.bl false]) ++ [V.bl false, V.bl false]) ++ [V.bl false]) ++ [V.bl false, V.bl false]) ++ [V.bl false]) ++ [V.bl true])))
  generalize upd G8 p8 (.lst (((((((([V.bl false, V.bl false] ++ [V.bl false]) ++ [V.bl false, V.bl false]) ++ [V.bl false]) ++ [V.bl false, V.bl false]) ++ [V.bl false]) ++ [V.bl false, V.bl false]) ++ [V.bl false]) ++ [V.bl true])) = H8 at s8 e8 ⊢
  have hm := (e8 : _ = some (HO.lst (([false, false, false, false, false, false, false, false, false, false, false, false, true] : List Bool).map V.bl)))
  refine ⟨show 7 ≤ sizeLine by decide, fun n0 hn0 => ?_⟩
  have u0 := same_upd (o := .lst [V.str "machine", V.str "word", V.str "result", V.str "match", V.str "split", V.str "number", V.str "table"]) hn0
  have f0 := (upd_same : upd H8 n0 (.lst [V.str "machine", V.str "word", V.str "result", V.str "match", V.str "split", V.str "number", V.str "table"]) n0 = some (.lst [V.str "machine", V.str "word", V.str "result", V.str "match", V.str "split", V.str "number", V.str "table"]))
  generalize upd H8 n0 (.lst [V.str "machine", V.str "word", V.str "result", V.str "match", V.str "split", V.str "number", V.str "table"]) = J0 at u0 f0 ⊢
  refine ⟨_, rfl, show 4 ≤ sizeLine by decide, fun n1 hn1 => ?_⟩
  have u1 := same_upd (o := .lst [V.str "values", V.str "text", V.str "place", V.str "pieces"]) hn1
  have f1 := (upd_same : upd J0 n1 (.lst [V.str "values", V.str "text", V.str "place", V.str "pieces"]) n1 = some (.lst [V.str "values", V.str "text", V.str "place", V.str "pieces"]))
  generalize upd J0 n1 (.lst [V.str "values", V.str "text", V.str "place", V.str "pieces"]) = J1 at u1 f1 ⊢
  refine ⟨n0, n1, [V.str "machine", V.str "word", V.str "result", V.str "match", V.str "split", V.str "number", V.str "table"], [V.str "values", V.str "text", V.str "place", V.str "pieces"], rfl, rfl, u1 _ _ f0, f1, sz_line (by decide), fun q1 hq1 => ?_⟩
  have v1 := same_upd (o := .lst ([V.str "machine", V.str "word", V.str "result", V.str "match", V.str "split", V.str "number", V.str "table"] ++ [V.str "values", V.str "text", V.str "place", V.str "pieces"])) hq1
  have h1 := (upd_same : upd J1 q1 (.lst ([V.str "machine", V.str "word", V.str "result", V.str "match", V.str "split", V.str "number", V.str "table"] ++ [V.str "values", V.str "text", V.str "place", V.str "pieces"])) q1 = some (.lst ([V.str "machine", V.str "word", V.str "result", V.str "match", V.str "split", V.str "number", V.str "table"] ++ [V.str "values", V.str "text", V.str "place", V.str "pieces"])))
  generalize upd J1 q1 (.lst ([V.str "machine", V.str "word", V.str "result", V.str "match", V.str "split", V.str "number", V.str "table"] ++ [V.str "values", V.str "text", V.str "place", V.str "pieces"])) = K1 at v1 h1 ⊢
  refine ⟨_, rfl, show 2 ≤ sizeLine by decide, fun n2 hn2 => ?_⟩
  have u2 := same_upd (o := .lst [V.str "unsteady", V.str "nothing"]) hn2
  have f2 := (upd_same : upd K1 n2 (.lst [V.str "unsteady", V.str "nothing"]) n2 = some (.lst [V.str "unsteady", V.str "nothing"]))
  generalize upd K1 n2 (.lst [V.str "unsteady", V.str "nothing"]) = J2 at u2 f2 ⊢
  refine ⟨q1, n2, ([V.str "machine", V.str "word", V.str "result", V.str "match", V.str "split", V.str "number", V.str "table"] ++ [V.str "values", V.str "text", V.str "place", V.str "pieces"]), [V.str "unsteady", V.str "nothing"], rfl, rfl, u2 _ _ h1, f2, sz_line (by decide), fun q2 hq2 => ?_⟩
  have v2 := same_upd (o := .lst (([V.str "machine", V.str "word", V.str "result", V.str "match", V.str "split", V.str "number", V.str "table"] ++ [V.str "values", V.str "text", V.str "place", V.str "pieces"]) ++ [V.str "unsteady", V.str "nothing"])) hq2
  have h2 := (upd_same : upd J2 q2 (.lst (([V.str "machine", V.str "word", V.str "result", V.str "match", V.str "split", V.str "number", V.str "table"] ++ [V.str "values", V.str "text", V.str "place", V.str "pieces"]) ++ [V.str "unsteady", V.str "nothing"])) q2 = some (.lst (([V.str "machine", V.str "word", V.str "result", V.str "match", V.str "split", V.str "number", V.str "table"] ++ [V.str "values", V.str "text", V.str "place", V.str "pieces"]) ++ [V.str "unsteady", V.str "nothing"])))
  generalize upd J2 q2 (.lst (([V.str "machine", V.str "word", V.str "result", V.str "match", V.str "split", V.str "number", V.str "table"] ++ [V.str "values", V.str "text", V.str "place", V.str "pieces"]) ++ [V.str "unsteady", V.str "nothing"])) = K2 at v2 h2 ⊢
  have sn := u0.trans ((u1.trans v1).trans (u2.trans v2))
  have hm2 := sn _ _ hm
  refine ⟨_, rfl, .inl ⟨rfl, _, SqL.of hm2⟩, p8, [false, false, false, false, false, false, false, false, false, false, false, false, true], true, rfl, rfl, SqL.of hm2, rfl, _, rfl, iteT ?_⟩
  refine ⟨_, rfl, _, rfl, .inl ⟨rfl, _, SqL.of hm2⟩, p8, _, .bl true, 12, .bl true, rfl, rfl, SqL.of hm2, rfl, rfl, rfl, rfl, idx_ok [false, false, false, false, false, false, false, false, false, false, false, false, true] 12 rfl, q2, _, ((12 : Nat) : Int), .str "nothing", rfl, rfl, SqL.of h2, rfl, hQ _ _ ?_ rfl⟩
  exact ((((((((((((((((t0.trans t1).trans s1).trans t2).trans s2).trans t3).trans s3).trans t4).trans s4).trans t5).trans s5).trans t6).trans s6).trans t7).trans s7).trans t8).trans s8).trans sn
end K68D
/-! The law: what is said of a call. -/
namespace K68D
open PySem PySem.Spec PyProof.Rows L2 LamX K68R K68K K68T K68
theorem said_limit {X : Cx} (T : Txt X.K X.mg) {cdg : Value} {s : Shared} {H0 : Hp} (a dx : Addr) (am li : Nat) (u0 u2 u3 : Option V) (H : Hp) (Q : VK) (h1 : am ≤ 100) (h2 : li ≤ 100) (hdx : H dx = some (.xd [("limit", nV li), ("amount", nV am)])) (hQ : Q (.str (limTxt am li)) H) (D : Ends) (hD : D.rt = Q) :
    tsAll (cxOf C8.CX0 X.prog X.w X.K X.mg X.base Nsd "_law_said" (defScope b__law_said) (He.ga X.K "_law_said") cdg X.A X.stack s H0 C8.E0).nox limSuite a (.ref (He.ga X.K "LimitError")) (some dx) D [u0, some (.ref a), u2, u3] H := by
  refine ⟨_, fun oe pn hz hf => pss_one (ps_ret (pe_op op_add_str (pe_op op_add_str (pe_op op_add_str pe_str (pe_callTy call_str_int rfl T.f_str (by decide +kernel) (pa_cons (pe_xf T.lim_xf T.lim_no_amount hz hf (pv 1)) pa_nil))) pe_str)
    (pe_callTy call_str_int rfl T.f_str (by decide +kernel) (pa_cons (pe_xf T.lim_xf T.lim_no_limit hz hf (pv 1)) pa_nil)))), ?_⟩
  subst hD
  have t1 := txt_len h1
  have t2 := txt_len h2
  have e1 : ("limit " : Str).length = 6 := by decide +kernel
  have e2 : (" " : Str).length = 1 := by decide +kernel
  exact ⟨_, rfl, rfl, rfl, dx, _, nV am, rfl, hdx, rfl, _, rfl, small_txt h1, _, _, rfl, rfl, sz_line (by omega), _, _, rfl, rfl, sz_line (by rw [Str.length_append]; omega), _, rfl, rfl, rfl, dx, _, nV li, rfl, hdx, rfl, _, rfl, small_txt h2, _, _, rfl, rfl, sz_line (by rw [Str.length_append, Str.length_append]; omega), hQ⟩
/-- small limits -/
def ErrOk : Err → Prop
  | .limit a l => a ≤ 100 ∧ l ≤ 100
  | _ => True
/-- what _law_said makes of a call -/
def TTsaid (K : PySem.W.Frag) : (XK → Hp → VK → Prop) → Hp → VK → Prop := fun tl H Q => tl (fun cls d H' => ∃ e, ErrIs K e cls d H' ∧ ErrOk e ∧ Res H' Q fun _ v => v = .str (errTxt e)) H fun _ H' => Q (.str "") H'
theorem takes_len {X : Cx} {W : WX} (t : Takes X W) : Takes X (fun c d σ H => σ.length = X.N.length → W c d σ H) := fun u s' ⟨a, B, sI, pins, σ, H, cls, d, e, I, nb, up, sky, na, os, ag, w⟩ =>
  t u s' ⟨a, B, sI, pins, σ, H, cls, d, e, I, nb, up, sky, na, os, ag, w I.len⟩
theorem len4 {σ : L2.St} (h : σ.length = 4) : ∃ a b c d, σ = [a, b, c, d] := match σ, h with
  | [a, b, c, d], _ => ⟨a, b, c, d, rfl⟩
theorem said_gives {X : Cx} (T : Txt X.K X.mg) {cdg : Value} {q : Str} : GivesTo X Nsd "_law_said" (defScope b__law_said) (He.ga X.K "_law_said") cdg (defBody b__law_said) "_law_call_here" q (TTsaid X.K) := by
  intro f c' s H Q tl act hc h
  refine ⟨_, pss_cons (ps_try_named (X := (cxOf C8.CX0 X.prog X.w X.K X.mg X.base Nsd "_law_said" (defScope b__law_said) (He.ga X.K "_law_said") cdg X.A X.stack s H C8.E0).nox)
      (tb := fun W D σ H => ∃ Ech : XK, (∀ cls d σ' H', σ'.length = 4 → Ech cls d H' → W cls d σ' H') ∧ σ[0]? = some (some (.ref f)) ∧ H c' = some (CodeO c' q) ∧ tl Ech H fun _ H' => D.nx σ H')
      rfl rfl sc_said.nd LamX.takes0 (fun W pn xe tk _ => ?_)
      (.cons (q := ⟨"LimitError", "e", .ref (He.ga X.K "LimitError"), 1, tsAll (cxOf C8.CX0 X.prog X.w X.K X.mg X.base Nsd "_law_said" (defScope b__law_said) (He.ga X.K "_law_said") cdg X.A X.stack s H C8.E0).nox limSuite⟩) rfl rfl ⟨rfl, rfl, .inl T.g_LimitError⟩ (fun a oe cls d pn hz hf => tsAll_ok hz hf)
      (.cons (q := ⟨"FoldError", "e", .ref (He.ga X.K "FoldError"), 1, tsAll (cxOf C8.CX0 X.prog X.w X.K X.mg X.base Nsd "_law_said" (defScope b__law_said) (He.ga X.K "_law_said") cdg X.A X.stack s H C8.E0).nox saidSuite⟩) rfl rfl ⟨rfl, rfl, .inl T.g_FoldError⟩ (fun a oe cls d pn hz hf => tsAll_ok hz hf) .nil)))
      (pss_one (ps_ret pe_str)), ?_⟩
  · refine ⟨fun pins s' σ H' D I h' => ?_⟩
    obtain ⟨Ech, hW, h1, h2, h3⟩ := h'
    have hp := fun p1 p2 => act (fun c d σ H => σ.length = 4 → W c d σ H) pn xe Ech p1 p2 (takes_len tk) fun cls d σ' H' h hl => hW cls d σ' H' hl h
    exact PSs.run (pss_one (ps_expr (hp _ _))) pins s' σ H' D I ⟨h1, h2, h3⟩
  · refine ⟨fun cls d H' => ∃ e, ErrIs X.K e cls d H' ∧ ErrOk e ∧ Res H' Q fun _ v => v = .str (errTxt e), fun cls d σ' H' hl ⟨e, he, hok, hr⟩ => ?_, rfl, hc, h⟩
    obtain ⟨a0, a1, a2, a3, rfl⟩ := len4 hl
    cases e with
    | limit am li =>
      obtain ⟨rfl, dx, rfl, hdx⟩ := he
      exact ⟨true, T.x_LimitError_LimitError, fun _ a ha => said_limit T a dx am li a0 a2 a3 H' Q hok.1 hok.2 hdx (hr.now rfl) _ rfl, fun z => absurd z (by decide)⟩
    | number =>
      obtain ⟨rfl, rfl⟩ := he
      exact ⟨false, T.x_NumberError_LimitError, fun z => absurd z (by decide), fun _ => ⟨true, T.x_NumberError_FoldError, fun _ a ha => said_number T a a0 a2 a3 H' Q hr _ rfl, fun z => absurd z (by decide)⟩⟩
    | place =>
      obtain ⟨rfl, rfl⟩ := he
      exact ⟨false, T.x_PlaceError_LimitError, fun z => absurd z (by decide), fun _ => ⟨true, T.x_PlaceError_FoldError, fun _ a ha => said_place T a a0 a2 a3 H' Q hr _ rfl, fun z => absurd z (by decide)⟩⟩
    | unsteady =>
      obtain ⟨rfl, rfl⟩ := he
      exact ⟨false, T.x_Unsteady_LimitError, fun z => absurd z (by decide), fun _ => ⟨true, T.x_Unsteady_FoldError, fun _ a ha => said_unsteady T a a0 a2 a3 H' Q hr _ rfl, fun z => absurd z (by decide)⟩⟩
    | nothing =>
      obtain ⟨rfl, rfl⟩ := he
      exact ⟨false, T.x_NothingDone_LimitError, fun z => absurd z (by decide), fun _ => ⟨true, T.x_NothingDone_FoldError, fun _ a ha => said_nothing T a a0 a2 a3 H' Q hr _ rfl, fun z => absurd z (by decide)⟩⟩
end K68D
/-! The law: a turn of its loop, from the call on. -/
namespace K68D
open PySem PySem.Spec PyProof.Rows L2 K68R K68K K68T K68
abbrev Nir : List Str := ["_law_sort", "_law_machine_here", "_law_cap", "_law_cell_here", "_law_rope", "_law_pieces", "_law_past", "_law_name", "_law_lap", "_law_numbers", "_law_told_here", "_law_way", "_law_place", "_law_word_here", "_law_more", "_law_due_here"]
theorem sc_right_ : FnScope Nir ["_law_sort", "_law_machine_here", "_law_cap", "_law_cell_here"] (defScope b__law_is_right) := ⟨rfl, rfl, rfl, by decide +kernel, rfl, by decide +kernel, by decide +kernel⟩
def lamQ : Str := (envOfC "_law_is_right" (defScope b__law_is_right) 0 0 .none).qual ++ "<lambda>"
abbrev irX (w : World) (K : PySem.W.Frag) (mg : Str → Option Value) (base : Heap) (c : Addr) (A : Around) (outer : List Env) (s0 : Shared) (H0 : Hp) (E : XK) : Cx := (cxOf CX0 PP w K mg base Nir "_law_is_right" (defScope b__law_is_right) (He.ga K "_law_is_right") (.ref c) A outer s0 H0 E).nox
def loopOf : List Stmt → List Stmt
  | [] => []
  | .For _ _ b _ _ :: _ => b
  | _ :: r => loopOf r
abbrev loopB : List Stmt := loopOf (defBody b__law_is_right)
theorem pss_imp {X : Cx} {sts : List Stmt} {t t' : TS} (h : PSs X sts t) (f : ∀ D σ H, t' D σ H → t D σ H) : PSs X sts t' := ⟨fun pins s σ H D I q => h.run pins s σ H D I (f D σ H q)⟩
def dueR : Except Err (Pieces × List Pieces) → Str
  | .ok _ => ""
  | .error e => errTxt e
/-! ### what is kept over a lambda's making -/
theorem tk_ext {H H' : Hp} (e : LamX.ExtN H H') : TK H H' := fun a xs h => e a _ h fun _ z => by cases z
theorem RopeAt.ext {K : PySem.W.Frag} {s : Srt} {H H' : Hp} {x : Addr} {m : Mach} {cap : Nat} {ps : Pieces} {past : List Pieces} (r : RopeAt K s H x m cap ps past) (e : LamX.ExtN H H') : RopeAt K s H' x m cap ps past := by
  obtain ⟨dx, vm, vk, vp, h, h1, h2, h3⟩ := r
  exact ⟨dx, vm, vk, vp, e _ _ h fun _ z => (by cases z), stab_mc _ _ _ _ (tk_ext e) h1, stab_ps _ _ _ _ (tk_ext e) h2, stab_pa _ _ _ _ (tk_ext e) h3⟩
theorem tabs_keep {T : List (Addr × Str)} {H H' : Hp} {x : Addr} {o : HO} (t : LamX.Tabs T H) (k : KeepX x H H') (hx : H x = some o) (n1 : ∀ ps, o ≠ .tbl ps) (n2 : ∀ f, o ≠ .ext f) : LamX.Tabs T H' := fun p hp => by
  obtain ⟨ps, h1, h2, h3⟩ := t p hp
  refine ⟨ps, k _ _ (fun z => ?_) h1, h2, fun pos cv hc => ?_⟩
  · rw [z, hx] at h1
    exact n1 _ (Option.some.inj h1)
  · obtain ⟨c, e, hc'⟩ := h3 pos cv hc
    refine ⟨c, e, k _ _ (fun z => ?_) hc'⟩
    rw [z, hx] at hc'
    exact n2 _ (Option.some.inj hc')
/-- all is kept but a rope, a list, the tables -/
def Kp2 (x tl : Addr) (H H' : Hp) : Prop := ∀ b o, b ≠ x → b ≠ tl → (∀ p, o ≠ .tbl p) → H b = some o → H' b = some o
theorem Lw.ext {α : Type} {R : Rl α} (st : Stab R) {H H' : Hp} {v : V} {l : List α} {x : Addr} (h : Lw R H v l) (k : TK H H') (kl : ∀ a xs, H a = some (.lst xs) → v = .ref a → H' a = some (.lst xs)) : Lw R H' v l := by
  obtain ⟨a, xs, rfl, ha, z⟩ := h
  exact ⟨a, xs, rfl, kl a xs ha rfl, z.imp fun a b r => st _ _ _ _ k r⟩
/-! ### what the model's errors are -/
theorem op_err {s : Srt} {m : Mach} {cap : Nat} {ps : Pieces} {past : List Pieces} {y : Way} {e : Err} (g : Good m ps) (hcap : cap ≤ 20) (hy : WayOk m y) (h : op s m cap ps past y = .error e) : ErrOk e := by
  unfold op at h
  cases hn : next ps past y with
  | error e' =>
    rw [hn] at h
    obtain rfl := Except.error.inj h
    cases y with
    | right w => cases hn
    | left w => cases hn
    | three w => cases hn
    | undo =>
      simp only [next] at hn
      split at hn
      · cases hn
      · obtain rfl := Except.error.inj hn
        trivial
    | merge k =>
      simp only [next] at hn
      split at hn
      · cases hn
      · obtain rfl := Except.error.inj hn
        trivial
    | drop k =>
      simp only [next] at hn
      split at hn
      · cases hn
      · obtain rfl := Except.error.inj hn
        trivial
    | cut k n =>
      simp only [next] at hn
      split at hn
      · split at hn
        · cases hn
        · obtain rfl := Except.error.inj hn
          trivial
      · obtain rfl := Except.error.inj hn
        trivial
  | ok q =>
    rw [hn] at h
    dsimp only at h
    have key : y ≠ .undo → (match fit s m cap q with | some e => Except.error e | none => Except.ok (q, past ++ [ps])) = Except.error e → ErrOk e := fun hu h => by
      have c := cand_next g hy hu hn
      have ml := most_le (s := s) hcap
      cases hf : fit s m cap q with
      | none =>
        rw [hf] at h
        cases h
      | some e' =>
        rw [hf] at h
        obtain rfl := Except.error.inj h
        unfold fit at hf
        cases h0 : fit0 (s.most cap) q with
        | some e2 =>
          rw [h0] at hf
          obtain rfl := Option.some.inj hf
          unfold fit0 at h0
          have c1 := c.2.1
          have c2 := c.2.2
          split at h0
          · obtain rfl := Option.some.inj h0
            exact ⟨by omega, by omega⟩
          · split at h0
            · obtain rfl := Option.some.inj h0
              exact ⟨by omega, by omega⟩
            · cases h0
        | none =>
          rw [h0] at hf
          have hf' : (if s.isSteady then fitS m q else none) = some e' := hf
          split at hf'
          · unfold fitS at hf'
            split at hf'
            · cases hf'
            · obtain rfl := Option.some.inj hf'
              trivial
          · cases hf'
    cases y with
    | undo => cases h
    | right w => exact key (by simp) h
    | left w => exact key (by simp) h
    | three w => exact key (by simp) h
    | merge k => exact key (by simp) h
    | drop k => exact key (by simp) h
    | cut k n => exact key (by simp) h
theorem op_past {s : Srt} {m : Mach} {cap : Nat} {ps ps' : Pieces} {past past' : List Pieces} {y : Way} (h : op s m cap ps past y = .ok (ps', past')) : (y = .undo → past' = past.dropLast) ∧ (y ≠ .undo → past' = past ++ [ps]) := by
  unfold op at h
  cases hn : next ps past y with
  | error e' =>
    rw [hn] at h
    cases h
  | ok q =>
    rw [hn] at h
    dsimp only at h
    have key : (match fit s m cap q with | some e => Except.error e | none => Except.ok (q, past ++ [ps])) = Except.ok (ps', past') → past' = past ++ [ps] := fun h => by
      cases hf : fit s m cap q with
      | some e =>
        rw [hf] at h
        cases h
      | none =>
        rw [hf] at h
        exact (Prod.mk.inj (Except.ok.inj h)).2.symm
    cases y with
    | undo => exact ⟨fun _ => (Prod.mk.inj (Except.ok.inj h)).2.symm, fun z => absurd rfl z⟩
    | right w => exact ⟨fun z => by simp at z, fun _ => key h⟩
    | left w => exact ⟨fun z => by simp at z, fun _ => key h⟩
    | three w => exact ⟨fun z => by simp at z, fun _ => key h⟩
    | merge k => exact ⟨fun z => by simp at z, fun _ => key h⟩
    | drop k => exact ⟨fun z => by simp at z, fun _ => key h⟩
    | cut k n => exact ⟨fun z => by simp at z, fun _ => key h⟩
theorem way_undo {y k : Nat} {wd : Word} (h : y < 7) : wayOf y wd k = .undo ↔ y = 3 := by
  match y, h with
  | 0, _ => simp [wayOf]
  | 1, _ => simp [wayOf]
  | 2, _ => simp [wayOf]
  | 3, _ => simp [wayOf]
  | 4, _ => simp [wayOf]
  | 5, _ => simp [wayOf]
  | 6, _ => simp [wayOf]
theorem way_ok {m : Mach} {y k : Nat} {wd : Word} (hw : m.Wok wd) (h5 : wd.length ≤ 5) (h : y < 7) : WayOk m (wayOf y wd k) := by
  match y, h with
  | 0, _ => exact ⟨hw, h5⟩
  | 1, _ => exact ⟨hw, h5⟩
  | 2, _ => exact ⟨hw, h5⟩
  | 3, _ => trivial
  | 4, _ => trivial
  | 5, _ => trivial
  | 6, _ => trivial
theorem errTxt_ne {e : Err} : errTxt e ≠ "" := by
  cases e with
  | limit a l => exact lim_ne a l
  | number => decide +kernel
  | place => decide +kernel
  | unsteady => decide +kernel
  | nothing => decide +kernel
section
variable {w : World} {K : PySem.W.Frag} {mg : Str → Option Value} {base : Heap}
/-! ### the last look -/
def chkT (K : PySem.W.Frag) (s : Srt) : TS := fun D σ H => ∃ (z : Int) (x : Addr) (vm vp va : V) (m : Mach) (cap : Nat) (ps : Pieces) (past : List Pieces) (rest : L2.St), rest.length = 8 ∧ σ = [some (nV (sIdx s)), some vm, some (nV cap), some (.int z), some (.ref x), some vp, some va, some (.str (cname s))] ++ rest ∧
  RopeAt K s H x m cap ps past ∧ Mc H vm m ∧ m.Ok ∧ Ps H vp ps ∧ Lw Ps H va past ∧ Good m ps ∧ ∀ H', Same H H' → D.nx σ H'
theorem chk (T : Txt K mg) (s : Srt) {c : Addr} {A : Around} {outer : List Env} {s0 : Shared} {H0 : Hp} {E : XK} (hr : Room 12 (irX w K mg base c A outer s0 H0 E).A) : PSs (irX w K mg base c A outer s0 H0 E) (loopB.drop 9) (chkT K s) := by
  obtain ⟨_, FS⟩ := T.F__law_is_same
  obtain ⟨_, FT⟩ := T.F__law_told
  obtain ⟨_, FD⟩ := T.F__law_due
  refine pss_imp (pss_one (ps_if (pt_not (pt_val (pe_callR (r_same T 4) (hr.mono (by decide)) rfl T.g__law_is_same FS.kp pass0 (pa_cons (pe_callR (r_told T s) (hr.mono (by decide)) rfl T.g__law_told FT.kp pass0 (pa_cons (pv 4) pa_nil))
    (pa_cons (pe_callR (r_due T s) (hr.mono (by decide)) rfl T.g__law_due FD.kp pass0 (pa_cons (pv 7) (pa_cons (pv 1) (pa_cons (pv 5) (pa_cons (pe_callB call_len rfl T.f_len boot_len (pa_cons (pv 6) pa_nil)) pa_nil))))) pa_nil))))) (pss_one (ps_ret pe_bl)) pss_nil)) fun D σ H h => ?_
  obtain ⟨z, x, vm, vp, va, m, cap, ps, past, rest, hl, rfl, hx, hm, ok, hp, ⟨aa, ys, rfl, haa, zz⟩, g, k⟩ := h
  refine ⟨_, rfl, x, m, cap, ps, past, rfl, hx, ok, g, fun v1 H1 s1 h1 => ?_⟩
  refine ⟨_, rfl, _, rfl, _, rfl, _, rfl, _, past.length, rfl, .inl ⟨_, SqL.of (s1 _ _ haa), zz.1.symm⟩, vm, vp, m, ps, past.length, rfl, stab_mc _ _ _ _ (TK.of s1) hm, ok, stab_ps _ _ _ _ (TK.of s1) hp, g, fun v2 H2 s2 h2 => ?_⟩
  have h1' : ToldAt s m ps past.length H2 v1 := by
    obtain ⟨t, a1, a2, a3, a5, e, ht, b1, b2, b3, b5⟩ := h1
    exact ⟨t, a1, a2, a3, a5, e, s2 _ _ ht, stab_mc _ _ _ _ (TK.of s2) b1, stab_ps _ _ _ _ (TK.of s2) b2, stab_wd _ _ _ _ (TK.of s2) b3, stab_wd _ _ _ _ (TK.of s2) b5⟩
  refine ⟨v1, v2, rfl, sam_told ok g h1' h2, fun v3 H3 s3 e3 => ?_⟩
  subst e3
  exact ⟨_, rfl, iteF (k _ ((s1.trans s2).trans s3))⟩
end
end K68D
/-! The law: a turn of its loop, from the call on. -/
namespace K68D
open PySem PySem.Spec PyProof.Rows L2 K68R K68K K68T K68
section
variable {w : World} {K : PySem.W.Frag} {mg : Str → Option Value} {base : Heap}
abbrev TbP (P : Addr) : List (Addr × Str) := [(P, lamQ)]
def tailT (K : PySem.W.Frag) (s : Srt) (P : Addr) : TS := fun D σ H => ∃ (z : Int) (x tl : Addr) (vm vp va vw vmore : V) (m : Mach) (cap y k : Nat) (ps : Pieces) (past : List Pieces) (wd : Word) (u8 u9 : Option V),
  σ = [some (nV (sIdx s)), some vm, some (nV cap), some (.int z), some (.ref x), some vp, some va, some (.str (cname s)), u8, u9, some (.ref tl), some (nV y), some (nV k), some vw, some vmore, some (.str (dueR (op s m cap ps past (wayOf y wd k))))] ∧
  LamX.Tabs (TbP P) H ∧ RopeAt K s H x m cap ps past ∧ Mc H vm m ∧ m.Ok ∧ cap ≤ 20 ∧ Ps H vp ps ∧ Lw Ps H va past ∧ Good m ps ∧ (∀ q ∈ past, Good m q) ∧ past.length ≤ 50 ∧ y < 7 ∧ Wd H vw wd ∧ m.Wok wd ∧ wd.length ≤ 5 ∧ H tl = some (.lst []) ∧ va ≠ .ref tl ∧
  (∀ ps' past', op s m cap ps past (wayOf y wd k) = .ok (ps', past') → Ps H vmore ps') ∧
  ∀ (vp' va' : V) (H' : Hp) (ps' : Pieces) (past' : List Pieces) (rest : L2.St), rest.length = 8 → Kp2 x tl H H' → LamX.Tabs (TbP P) H' → RopeAt K s H' x m cap ps' past' → Ps H' vp' ps' → Lw Ps H' va' past' → Good m ps' → (∀ q ∈ past', Good m q) → past'.length ≤ past.length + 1 →
    D.nx ([some (nV (sIdx s)), some vm, some (nV cap), some (.int z), some (.ref x), some vp', some va', some (.str (cname s))] ++ rest) H'
theorem cut_m1 {xs : List V} : cutV xs none (some (-1)) = xs.dropLast := by
  unfold cutV
  show (xs.drop 0).take ((-1 + (xs.length : Int)).toNat - 0) = xs.dropLast
  rw [List.drop_zero, Nat.sub_zero, List.dropLast_eq_take]
  congr 1
  omega
theorem All2.dropLast {α : Type} {R : V → α → Prop} {xs : List V} {l : List α} (z : All2 R xs l) : All2 R xs.dropLast l.dropLast := by
  have h := z.take (l.length - 1)
  rw [List.dropLast_eq_take, List.dropLast_eq_take, z.1]
  exact h
theorem tail (T : Txt K mg) (s : Srt) {c P : Addr} (TB : LamX.TabB base mg c P) {A : Around} {outer : List Env} {s0 : Shared} {H0 : Hp} {E : XK} (hr : Room 12 (irX w K mg base c A outer s0 H0 E).A) : PSs (irX w K mg base c A outer s0 H0 E) (loopB.drop 6) (tailT K s P) := by
  obtain ⟨_, FS⟩ := T.F__law_said
  obtain ⟨_, FC⟩ := T.F__law_call
  obtain ⟨oc, od, dV, kV, doc, pm, an, cdv, ct, osl, rfl, lk, hcd, hD, _⟩ := FS.ex
  have hdV : dV = .none := by
    rcases hD with ⟨_, e⟩ | ⟨e, _⟩
    · exact e
    · exact absurd rfl e
  subst hdV
  refine pss_imp (pss_cons (ps_if (pt_cmpR op_ne (LamX.pe_lamcall (X := irX w K mg base c A outer s0 H0 E) (T := TbP P) (TT := TTsaid K) (a := "_law_call_here") (Ng := Nsd) (k := 10) (t := fun E => tBM K "list" rAppend (tVar 10) (tCons (tCallR (spCall K s) E (tCons (tVar 4) (tCons (tVar 11) (tCons (tVar 13) (tCons (tVar 12) tNil))))) tNil))
        rfl T.g__law_said FS.kp lk hcd (Binds.all fun us hl => match us, hl with | [_], _ => rfl) sc_said rfl (Or.inl rfl) (said_gives T) TB rfl (List.mem_singleton.mpr rfl) (fun p hp _ => by rw [List.mem_singleton.mp hp]; rfl) hr (LamX.lamS_by (sc := defScope b__law_is_right) (by decide +kernel)) rfl (fun _ _ _ _ _ => rfl)
        (fun A' outer' s' H' E' f' c' hr' => pe_bmK K PySem.F.plainAttrs_list PySem.F.slot_list_append PySem.F.type_list_append mt_append (pv 10) (pa_cons (pe_callR (r_lcall T s) hr' rfl T.g__law_call FC.kp (passes_call (takes_of (E := E') rfl rfl rfl rfl) fun _ _ _ _ h => h)
          (pa_cons (pv 4) (pa_cons (pv 11) (pa_cons (pv 13) (pa_cons (pv 12) pa_nil))))) pa_nil)))
      (pv 15) (nomark _)) (pss_one (ps_ret pe_bl)) pss_nil)
    (pss_cons (ps_if (pt_cmpR (op_neD hr.units) (pv 10) (pe_op op_rep (pe_lst (pa_cons pe_non pa_nil)) (pe_callTy call_int1 rfl T.f_int (by decide +kernel) (pa_cons (pe_cmpR op_eq (pv 15) pe_str (nomark _)) pa_nil))) (nomark _)) (pss_one (ps_ret pe_bl)) pss_nil)
    (pss_cons (ps_if (pt_cmpR op_eq (pv 15) pe_str (nomark _)) (pss_cons (ps_set (i := 6) sc_right_.nd rfl (Or.inl rfl) (pe_ifExp (pt_cmpR op_eq (pv 11) pe_int (nomark _)) (pe_slice sl_list (pv 6) po_none (po_some (pe_un un_neg pe_int))) (pe_op op_cat (pv 6) (pe_lst (pa_cons (pv 5) pa_nil)))))
        (pss_one (ps_set (i := 5) sc_right_.nd rfl (Or.inl rfl) (pv 14)))) pss_nil)
    (chk T s hr)))) fun D σ H h => ?_
  obtain ⟨z, x, tl, vm, vp, va, vw, vmore, m, cap, y, k, ps, past, wd, u8, u9, rfl, hT, hx, hm, ok, hcap, hp, ha, g, gp, hlen, hy, hw, wok, w5, htl, hvt, hmore, nx⟩ := h
  have hway := way_ok (k := k) wok w5 hy
  refine ⟨hT, fun H1 e1 hT1 => ?_⟩
  have htl1 : H1 tl = some (.lst []) := e1 _ _ htl fun _ q => by cases q
  have hx1 := hx.ext e1
  have k1 := tk_ext e1
  refine ⟨_, rfl, .inl ⟨rfl, _, SqL.of htl1⟩, _, rfl, _, rfl, _, rfl, _, rfl, x, y, k, m, cap, ps, past, vw, wd, rfl, hy, ⟨hx1, ok, hcap, by omega, g⟩, stab_wd _ _ _ _ k1 hw, wok, w5, ?_⟩
  obtain ⟨dx, vm', vk, vp', hrx, _⟩ := id hx1
  obtain ⟨aa, ys, rfl, haa, zz⟩ := id ha
  have natl : aa ≠ tl := fun q => hvt (by rw [q])
  have haa1 : H1 aa = some (.lst ys) := e1 _ _ haa fun _ q => by cases q
  have nax : aa ≠ x := fun q => by
    rw [q, hrx] at haa1
    cases haa1
  have ntx : tl ≠ x := fun q => by
    rw [q, hrx] at htl1
    cases htl1
  cases hop : op s m cap ps past (wayOf y wd k) with
  | error e =>
    intro cls d H2 s2 he
    refine ⟨e, he, op_err g hcap hway hop, fun v H3 s3 ev => ?_⟩
    subst ev
    have s13 := s2.trans s3
    refine ⟨_, rfl, rfl, _, rfl, ?_⟩
    show if (!decide (V.str (errTxt e) = V.str (errTxt e))) = true then _ else _
    rw [decide_eq_true rfl]
    refine iteF ⟨_, rfl, show 1 ≤ sizeLine by decide, fun l hl => ⟨_, rfl, rfl, .inr ⟨false, ?_, l, 0, [.non], rfl, rfl, upd_same, by decide, by decide, show 1 * 0 ≤ sizeLine by decide, fun p hp' => ?_⟩⟩⟩
    · show [V.bl (decide (V.str (errTxt e) = V.str ""))] = [V.bl false]
      rw [decide_eq_false (fun q => errTxt_ne (V.str.inj q))]
    have s4 := same_upd (o := .lst [.non]) hl
    have s5 := same_upd (o := .lst ([] : List V)) hp'
    have s15 := (s13.trans s4).trans s5
    refine ⟨.list [], .list [], .lst (SqL.of (s15 _ _ htl1)) .nil, .lst (SqL.of upd_same) .nil, by decide, by decide, _, rfl, iteF ?_⟩
    refine ⟨_, rfl, rfl, _, rfl, ?_⟩
    show if decide (V.str (errTxt e) = V.str "") = true then _ else _
    rw [decide_eq_false (fun q => errTxt_ne (V.str.inj q))]
    refine iteF ?_
    have kt := k1.trans (TK.of s15)
    have ha5 : Lw Ps (upd (upd H3 l (.lst [.non])) p (.lst [])) (.ref aa) past := ⟨aa, ys, rfl, s15 _ _ haa1, zz.imp fun a b r => stab_ps _ _ _ _ kt r⟩
    refine ⟨z, x, vm, vp, .ref aa, m, cap, ps, past, _, rfl, rfl, hx1.same s15, stab_mc _ _ _ _ kt hm, ok, stab_ps _ _ _ _ kt hp, ha5, g, fun H6 s6 => ?_⟩
    have s16 := s15.trans s6
    have kt6 := k1.trans (TK.of s16)
    exact nx vp (.ref aa) H6 ps past _ rfl (fun b o n1 n2 n3 hb => s16 _ _ (e1 b o hb n3)) (hT1.ext s16) (hx1.same s16) (stab_ps _ _ _ _ kt6 hp) (Lw.same stab_ps ha5 s6) g gp (Nat.le_succ _)
  | ok r =>
    obtain ⟨ps', past'⟩ := r
    obtain ⟨g', gp', lp'⟩ := op_good g gp hcap hway hop
    obtain ⟨pu, pn⟩ := op_past hop
    intro H2 k2 ra
    have htl2 : H2 tl = some (.lst []) := k2 _ _ ntx htl1
    have haa2 : H2 aa = some (.lst ys) := k2 _ _ nax haa1
    have k12 := k2.tk (new_notup hrx)
    have hT2 := tabs_keep hT1 k2 hrx (fun _ q => by cases q) (fun _ q => by cases q)
    refine ⟨tl, [], .non, rfl, rfl, htl2, show 0 < sizeLine by decide, ?_⟩
    have kl : KeepX tl H2 (upd H2 tl (.lst ([] ++ [.non]))) := keepX_upd
    have k3 := kl.tk (fun xs q => by rw [htl2] at q; cases q)
    have hT3 := tabs_keep hT2 kl htl2 (fun _ q => by cases q) (fun _ q => by cases q)
    have ra3 : RopeAt K s (upd H2 tl (.lst ([] ++ [.non]))) x m cap ps' past' := by
      obtain ⟨dx', a1, a2, a3, b0, b1, b2, b3⟩ := ra
      exact ⟨dx', a1, a2, a3, kl _ _ (Ne.symm ntx) b0, stab_mc _ _ _ _ k3 b1, stab_ps _ _ _ _ k3 b2, stab_pa _ _ _ _ k3 b3⟩
    have haa3 : upd H2 tl (.lst ([] ++ [.non])) aa = some (.lst ys) := kl _ _ natl haa2
    have htl3 : upd H2 tl (.lst ([] ++ [.non])) tl = some (.lst [.non]) := upd_same
    have kp3 : ∀ b o, b ≠ x → b ≠ tl → (∀ p, o ≠ .tbl p) → H b = some o → upd H2 tl (.lst ([] ++ [.non])) b = some o := fun b o n1 n2 n3 hb => kl _ _ n2 (k2 _ _ n1 (e1 b o hb n3))
    generalize upd H2 tl (.lst ([] ++ [.non])) = H3 at *
    have kt3 : TK H H3 := (k1.trans k12).trans k3
    refine ⟨_, rfl, rfl, _, rfl, ?_⟩
    show if (!decide (V.str "" = V.str "")) = true then _ else _
    rw [decide_eq_true rfl]
    refine iteF ⟨_, rfl, show 1 ≤ sizeLine by decide, fun l hl => ⟨_, rfl, rfl, .inr ⟨true, ?_, l, 1, [.non], rfl, rfl, upd_same, by decide, by decide, show 1 * 1 ≤ sizeLine by decide, fun p hp' => ?_⟩⟩⟩
    · show [V.bl (decide (V.str "" = V.str ""))] = [V.bl true]
      rw [decide_eq_true rfl]
    have s4 := same_upd (o := .lst [.non]) hl
    have s5 := same_upd (o := .lst ([.non] : List V)) hp'
    have s35 := s4.trans s5
    refine ⟨.list [.none], .list [.none], .lst (SqL.of (s35 _ _ htl3)) (.cons .non .nil), .lst (SqL.of upd_same) (.cons .non .nil), by decide, by decide, _, rfl, iteF ?_⟩
    refine ⟨_, rfl, rfl, _, rfl, ?_⟩
    show if decide (V.str "" = V.str "") = true then _ else _
    rw [decide_eq_true rfl]
    refine iteT ?_
    obtain ⟨H5, hH5⟩ : ∃ H5, H5 = upd (upd H3 l (.lst [.non])) p (.lst ([.non] : List V)) := ⟨_, rfl⟩
    rw [← hH5] at s5 s35
    have kt5 := kt3.trans (TK.of s35)
    have zz5 : All2 (Ps H5) ys past := zz.imp fun a b r => stab_ps _ _ _ _ kt5 r
    have hp5 := stab_ps _ _ _ _ kt5 hp
    have hm5 := stab_ps _ _ _ _ kt5 (hmore ps' past' hop)
    -- the end, common to both
    have fin : ∀ (vn : V) (H6 : Hp), Same H5 H6 → Lw Ps H6 vn past' → chkT K s D ([some (nV (sIdx s)), some vm, some (nV cap), some (.int z), some (.ref x), some vmore, some vn, some (.str (cname s)), u8, u9, some (.ref tl), some (nV y), some (nV k), some vw, some vmore, some (.str "")]) H6 := fun vn H6 s6 hn => by
      have s36 := s35.trans s6
      have kt6 := kt3.trans (TK.of s36)
      refine ⟨z, x, vm, vmore, vn, m, cap, ps', past', _, rfl, rfl, ra3.same s36, stab_mc _ _ _ _ kt6 hm, ok, stab_ps _ _ _ _ (TK.of s6) hm5, hn, g', fun H7 s7 => ?_⟩
      have s37 := s36.trans s7
      exact nx vmore vn H7 ps' past' _ rfl (fun b o n1 n2 n3 hb => s37 _ _ (kp3 b o n1 n2 n3 hb)) (hT3.ext s37) (ra3.same s37) (stab_ps _ _ _ _ (TK.of (s6.trans s7)) hm5) (Lw.same stab_ps hn s7) g' gp' lp'
    subst hH5
    by_cases h3 : y = 3
    · subst h3
      have ep := pu ((way_undo (k := k) (wd := wd) hy).mpr rfl)
      refine ⟨_, rfl, rfl, _, rfl, iteT ⟨_, rfl, _, rfl, _, rfl, aa, ys, rfl, SqL.of (s35 _ _ haa3), fun q hq => ⟨_, rfl, ?_⟩⟩⟩
      refine fin (.ref q) _ (same_upd hq) ⟨q, _, rfl, upd_same, ?_⟩
      have ec : cutV ys none (some (-1)) = ys.dropLast := cut_m1
      show All2 _ (cutV ys none (some (-1))) past'
      rw [ec, ep]
      exact (zz5.dropLast).imp fun a b r => stab_ps _ _ _ _ (TK.of (same_upd hq)) r
    · have ep := pn fun q => h3 ((way_undo (k := k) (wd := wd) hy).mp q)
      have hy3 : decide (nV y = V.int 3) = false := decide_eq_false fun q => h3 (Int.ofNat.inj (V.int.inj q))
      refine ⟨_, rfl, rfl, _, rfl, ?_⟩
      show if decide (nV y = V.int 3) = true then _ else _
      rw [hy3]
      refine iteF ⟨_, rfl, _, rfl, show 1 ≤ sizeLine by decide, fun q hq => ?_⟩
      have s6 := same_upd (o := .lst [vp]) hq
      refine ⟨aa, q, ys, [vp], rfl, rfl, s6 _ _ (s35 _ _ haa3), upd_same, sz_line (by rw [zz.1]; show past.length + 1 ≤ 1000; omega), fun r hr' => ⟨_, rfl, ?_⟩⟩
      have s7 := same_upd (o := .lst (ys ++ [vp])) hr'
      refine fin (.ref r) _ (s6.trans s7) ⟨r, _, rfl, upd_same, ?_⟩
      rw [ep]
      exact ((zz5.append (.cons hp5 .nil)).imp fun a b h => stab_ps _ _ _ _ (TK.of (s6.trans s7)) h)
end
end K68D
/-! The law: _law_is_right, law. -/
namespace K68D
open PySem PySem.Spec PyProof.Rows L2 K68R K68K K68T K68
section
variable {w : World} {K : PySem.W.Frag} {mg : Str → Option Value} {base : Heap}
def spRight (K : PySem.W.Frag) (s : Srt) (P : Addr) : Sp := fun vs H Q _ => ∃ (vm : V) (m : Mach) (cap : Nat) (z : Int), vs = [nV (sIdx s), vm, nV cap, .int z] ∧ Mc H vm m ∧ m.Ok ∧ cap ≤ 20 ∧ LamX.Tabs (TbP P) H ∧ ∀ H', LamX.ExtN H H' → LamX.Tabs (TbP P) H' → Q (.bl true) H'
theorem len8 {l : L2.St} (h : l.length = 8) : ∃ a b c d e f g i, l = [a, b, c, d, e, f, g, i] := match l, h with
  | [a, b, c, d, e, f, g, i], _ => ⟨a, b, c, d, e, f, g, i, rfl⟩
theorem way_lt : ∀ d, d < 9 → [0, 1, 2, 3, 4, 5, 6, 0, 3].getD d 0 < 7 := by decide
theorem op_errS {s : Srt} {m : Mach} {cap : Nat} {ps : Pieces} {past : List Pieces} {y : Way} {e : Err} (h : next ps past y = .error e) : op s m cap ps past y = .error e := by
  unfold op
  rw [h]
theorem op_undoS {s : Srt} {m : Mach} {cap : Nat} {ps q : Pieces} {past : List Pieces} (h : next ps past .undo = .ok q) : op s m cap ps past .undo = .ok (q, past.dropLast) := by
  unfold op
  rw [h]
theorem op_fitS {s : Srt} {m : Mach} {cap : Nat} {ps q : Pieces} {past : List Pieces} {y : Way} (hu : y ≠ .undo) (h : next ps past y = .ok q) : op s m cap ps past y = (match fit s m cap q with | some e => Except.error e | none => Except.ok (q, past ++ [ps])) := by
  unfold op
  rw [h]
  cases y with
  | undo => exact absurd rfl hu
  | _ => rfl
theorem good_nil {m : Mach} : Good m [] := ⟨fun p hp => absurd hp (by simp), Nat.zero_le _, Nat.zero_le _⟩
theorem r_right_ (T : Txt K mg) (s : Srt) (h : (He.cT K ("_law_is_right", none)).2 = (He.cT K ("_law_is_right", none)).2) (TB : LamX.TabB base mg (He.cT K ("_law_is_right", none)).1 (He.cT K ("_law_is_right", none)).2) :
    FnR PP w K mg base CX0 13 (He.ga K "_law_is_right") (spRight K s (He.cT K ("_law_is_right", none)).2) := by
  obtain ⟨fd, F⟩ := T.F__law_is_right
  obtain ⟨oc, od, dV, kV, doc, pm, an, cdv, ct, osl, rfl, lk, hcd, hD, _⟩ := F.ex
  have hdV : dV = .none := by
    rcases hD with ⟨_, e⟩ | ⟨e, _⟩
    · exact e
    · exact absurd rfl e
  subst hdV
  obtain ⟨c, rfl⟩ := He.codeIn_ref hcd
  have ec : (He.cT K ("_law_is_right", none)).1 = c := He.codeOf_eq (p := ("_law_is_right", none)) lk rfl
  rw [ec] at TB
  clear h
  generalize (He.cT K ("_law_is_right", none)).2 = P at TB ⊢
  obtain ⟨_, FM⟩ := T.F__law_made
  obtain ⟨_, FD⟩ := T.F__law_draws
  obtain ⟨_, FW⟩ := T.F__law_word
  obtain ⟨_, FN⟩ := T.F__law_next
  obtain ⟨_, FR⟩ := T.F__law_refused
  obtain ⟨fd, G, b⟩ : ∃ fd, FnOk PP w K mg base CX0 13 (He.ga K "_law_is_right") fd ["_law_sort", "_law_machine_here", "_law_cap", "_law_cell_here"] (spRight K s P) ∧ Binds K fd ["_law_sort", "_law_machine_here", "_law_cap", "_law_cell_here"] [] := by
    refine ⟨_, fn_of lk hcd sc_right_ (fun vs H Q E h => ?_) (fun A outer s' H vs Q E hr h => ?_), Binds.all fun us hl => match us, hl with | [_, _, _, _], _ => rfl⟩
    · obtain ⟨vm, m, cap, z, rfl, _⟩ := h
      rfl
    · refine ⟨_, PSs.nox (pss_cons (ps_asg (pe_tup (pa_cons (pe_callR (r_made T s) (hr.mono (by decide)) rfl T.g__law_made FM.kp pass0 (pa_cons (pv 0) (pa_cons (pv 1) (pa_cons (pv 2) pa_nil)))) (pa_cons (pe_tup pa_nil) (pa_cons (pe_lst pa_nil) pa_nil))))
          (pg_tup (by rfl) (pgs_cons (pg_name (i := 4) sc_right_.nd rfl (Or.inr rfl)) (pgs_cons (pg_name (i := 5) sc_right_.nd rfl (Or.inl rfl)) (pgs_cons (pg_name (i := 6) sc_right_.nd rfl (Or.inl rfl)) pgs_nil)))))
        (pss_cons (ps_set (i := 7) sc_right_.nd rfl (Or.inl rfl) (pe_ix ix_list (pe_lst (pa_cons pe_str (pa_cons pe_str (pa_cons pe_str (pa_cons pe_str pa_nil))))) (pv 0) (fun _ _ => rfl)))
        (pss_cons (ps_for PassesOwn.never rfl (pi_range1 rfl T.f_range (pa_cons pe_int pa_nil)) (pg_name (i := 8) sc_right_.nd rfl (Or.inl rfl))
          (pss_cons (ps_asg (pe_tup (pa_cons (pe_callR (r_draws T) (hr.mono (by decide)) rfl T.g__law_draws FD.kp pass0 (pa_cons (pe_op op_add (pv 3) (pe_op op_mul pe_int (pv 8))) (pa_cons (pe_lstR stab_n (pa_consR stab_n (pe_intR 9) (pa_consR stab_n (pe_intR 4) pa_nilR)) (by decide)) pa_nil))) (pa_cons (pe_lst pa_nil) pa_nil)))
            (pg_tup (by rfl) (pgs_cons (pg_name (i := 9) sc_right_.nd rfl (Or.inl rfl)) (pgs_cons (pg_name (i := 10) sc_right_.nd rfl (Or.inr rfl)) pgs_nil))))
          (pss_cons (ps_asg (pe_tup (pa_cons (pe_ix ix_tup (pe_tupW (pa_consR stab_n (pe_intR 0) (pa_consR stab_n (pe_intR 1) (pa_consR stab_n (pe_intR 2) (pa_consR stab_n (pe_intR 3) (pa_consR stab_n (pe_intR 4) (pa_consR stab_n (pe_intR 5) (pa_consR stab_n (pe_intR 6) (pa_consR stab_n (pe_intR 0) (pa_consR stab_n (pe_intR 3) pa_nilR))))))))) (by decide)) (pe_ix ix_list (pv 9) pe_int (fun _ _ => rfl)) (fun _ _ => rfl))
              (pa_cons (pe_ix ix_list (pv 9) pe_int (fun _ _ => rfl)) pa_nil)))
            (pg_tup (by rfl) (pgs_cons (pg_name (i := 11) sc_right_.nd rfl (Or.inr rfl)) (pgs_cons (pg_name (i := 12) sc_right_.nd rfl (Or.inr rfl)) pgs_nil))))
          (pss_cons (ps_set (i := 13) sc_right_.nd rfl (Or.inr rfl) (pe_callR (r_lword T) (hr.mono (by decide)) rfl T.g__law_word FW.kp pass0 (pa_cons (pe_op op_add (pe_op op_fdiv (pv 3) pe_int) (pe_op op_mul pe_int (pv 8))) (pa_cons (pe_ix ix_tup (pv 1) pe_int (fun _ _ => rfl)) (pa_cons pe_int pa_nil)))))
          (pss_cons (ps_set (i := 14) sc_right_.nd rfl (Or.inl rfl) (pe_callR (r_next T) (hr.mono (by decide)) rfl T.g__law_next FN.kp pass0 (pa_cons (pv 5) (pa_cons (pv 6) (pa_cons (pv 11) (pa_cons (pv 13) (pa_cons (pv 12) pa_nil)))))))
          (pss_cons (ps_set (i := 15) sc_right_.nd rfl (Or.inl rfl) (pe_ifExp (pt_val (pe_callB call_isi rfl T.f_isinstance (by decide +kernel) (pa_cons (pv 14) (pa_cons (pe_bltn (v := .ty "str") rfl T.f_str (by decide +kernel) rfl) pa_nil)))) (pv 14) pe_str))
          (pss_cons (ps_if (PW.pt (pw_and (pt_cmpR op_eq (pv 15) pe_str (nomark _)) (pw_and1 (pt_cmpR op_ne (pv 11) pe_int (nomark _)))))
              (pss_one (ps_set (i := 15) sc_right_.nd rfl (Or.inl rfl) (pe_callR (r_refused T s) (hr.mono (by decide)) rfl T.g__law_refused FR.kp pass0 (pa_cons (pv 0) (pa_cons (pv 1) (pa_cons (pv 2) (pa_cons (pv 14) pa_nil))))))) pss_nil)
          (tail T s TB hr))))))))
        (pss_one (ps_ret pe_bl))))), ?_⟩
      obtain ⟨vm, m, cap, z, rfl, hm, ok, hcap, hT, r⟩ := h
      refine ⟨_, rfl, _, rfl, _, rfl, vm, m, cap, rfl, hm, ok, hcap, fun x H1 hxn s1 hx1 => ?_⟩
      refine ⟨show 0 ≤ sizeLine by decide, fun p hp => ⟨show 0 ≤ sizeLine by decide, fun l hl => ⟨show 3 ≤ sizeLine by decide, fun t ht => ⟨t, _, rfl, SqT.of upd_same, rfl, _, _, rfl, _, _, rfl, _, _, rfl, rfl, ?_⟩⟩⟩⟩
      have s2 := same_upd (o := .tup []) hp
      have s3 := same_upd (o := .lst []) hl
      have s4 := same_upd (o := .tup [.ref x, .ref p, .ref l]) ht
      have hp4 := (s3.trans s4) _ _ (upd_same (H := H1) (a := p) (o := .tup []))
      have hl4 := s4 _ _ (upd_same (H := upd H1 p (.tup [])) (a := l) (o := .lst []))
      refine ⟨show 4 ≤ sizeLine by decide, fun b hb => ?_⟩
      have s5 := same_upd (o := .lst [.str "Rope", .str "Steady", .str "Short", .str "ShortSteady"]) hb
      have name : atI [V.str "Rope", V.str "Steady", V.str "Short", V.str "ShortSteady"] (sIdx s : Int) = some (.str (cname s)) := by cases s <;> rfl
      refine ⟨_, rfl, b, _, _, _, rfl, rfl, SqL.of upd_same, name, ?_⟩
      have s15 := ((s1.trans s2).trans s3).trans (s4.trans s5)
      refine ⟨20, rfl, by decide, by decide, for_range (n := 20) (fun i σ H' => ∃ (vp va : V) (ps : Pieces) (past : List Pieces) (rest : L2.St), rest.length = 8 ∧ σ = [some (nV (sIdx s)), some vm, some (nV cap), some (.int z), some (.ref x), some vp, some va, some (.str (cname s))] ++ rest ∧
        LamX.ExtN H H' ∧ LamX.Tabs (TbP P) H' ∧ RopeAt K s H' x m cap ps past ∧ Ps H' vp ps ∧ Lw Ps H' va past ∧ Good m ps ∧ (∀ q ∈ past, Good m q) ∧ past.length ≤ i)
        ⟨.ref p, .ref l, [], [], _, rfl, rfl, LamX.ExtN.of s15, hT.ext s15, hx1.same (((s2.trans s3).trans s4).trans s5), nil_tw (s5 _ _ hp4), ⟨l, [], rfl, s5 _ _ hl4, All2.nil⟩, good_nil, fun q hq => absurd hq (by simp), Nat.le_refl _⟩ ?_ ?_⟩
      · rintro i σ Hi hi ⟨vp, va, ps, past, rest, hrl, rfl, eI, hTI, hxI, hpI, haI, g, gp, hlen⟩
        obtain ⟨r0, r1, r2, r3, r4, r5, r6, r7, rfl⟩ := len8 hrl
        rw [show (0 : Int) + (i : Int) = (i : Int) by omega]
        have hmI := stab_mc _ _ _ _ (tk_ext eI) hm
        -- numbers, told_here
        refine ⟨_, rfl, _, rfl, _, _, rfl, rfl, .inl ⟨by decide, by decide⟩, _, _, rfl, rfl, fun v1 G1 t1 h1 => ?_⟩
        obtain ⟨a1, rfl, ha1⟩ := lw_nat h1
        refine ⟨_, a1, [9, 4], rfl, ha1, by decide, by decide, fun v2 G2 t2 h2 => ?_⟩
        obtain ⟨ds, ⟨q, rfl, hq⟩, hdl, hd⟩ := h2
        obtain ⟨d0, e0, l0, b0⟩ := draw_at (j := 0) hd hdl rfl
        obtain ⟨d1, e1, l1, b1⟩ := draw_at (j := 1) hd hdl rfl
        refine ⟨show 0 ≤ sizeLine by decide, fun tl htl => ⟨show 2 ≤ sizeLine by decide, fun t3 ht3 => ⟨t3, _, rfl, SqT.of upd_same, rfl, _, _, rfl, _, _, rfl, rfl, ?_⟩⟩⟩
        have t4 := same_upd (o := .lst []) htl
        have t5 := same_upd (o := .tup [.ref q, .ref tl]) ht3
        have htl5 := t5 _ _ (upd_same (H := G2) (a := tl) (o := .lst []))
        have tA := (t1.trans t2).trans (t4.trans t5)
        have hqA := (t4.trans t5) _ _ hq
        generalize upd (upd G2 tl (.lst [])) t3 (.tup [.ref q, .ref tl]) = G5 at *
        -- way, place
        refine fun v6 G6 t6 h6 => ?_
        obtain ⟨b6, rfl, hb6⟩ := h6
        refine ⟨_, rfl, q, _, _, _, rfl, rfl, SqL.of (t6 _ _ hqA), b0, b6, _, _, _, rfl, rfl, SqT.of hb6, at_nV (by exact l0), _, rfl, q, _, _, _, rfl, rfl, SqL.of (t6 _ _ hqA), b1, show 2 ≤ sizeLine by decide, fun t7 ht7 => ⟨t7, _, rfl, SqT.of upd_same, rfl, _, _, rfl, _, _, rfl, rfl, ?_⟩⟩
        have hy := way_lt d0 l0
        generalize [0, 1, 2, 3, 4, 5, 6, 0, 3].getD d0 0 = y at *
        have t8 := same_upd (o := .tup [nV y, nV d1]) ht7
        have tB := tA.trans (t6.trans t8)
        -- the word
        obtain ⟨am, a2, a3, rfl, ham, hmr⟩ := id hmI
        refine ⟨_, rfl, _, _, rfl, rfl, ⟨by decide, by decide⟩, _, rfl, _, _, rfl, rfl, .inl ⟨by decide, by decide⟩, _, _, rfl, rfl, _, rfl, am, _, _, _, rfl, rfl, SqT.of (tB _ _ ham), rfl, _, m.letters, rfl, (by have := ok.two; omega), (by have := ok.three; omega), fun vw G9 t9 hw9 => ?_⟩
        obtain ⟨wd, hw, w5, wok⟩ := hw9
        have tC := tB.trans t9
        have kC := TK.of tC
        -- more
        have g1 := g.2.1
        have g2 := g.2.2
        refine ⟨_, rfl, _, rfl, _, rfl, _, rfl, _, rfl, vp, va, vw, y, d1, ps, past, wd, rfl, hy, stab_ps _ _ _ _ kC hpI, haI.same stab_ps tC, hw, w5, g1, g2, ?_⟩
        -- the turn from the call on
        have go : ∀ (vmore : V) (G : Hp) (u8 u9 : Option V) (D : Ends), Same G9 G → (∀ ps' past', op s m cap ps past (wayOf y wd d1) = .ok (ps', past') → Ps G vmore ps') →
            (∀ σ' H', (∃ (vp va : V) (ps : Pieces) (past : List Pieces) (rest : L2.St), rest.length = 8 ∧ σ' = [some (nV (sIdx s)), some (V.ref am), some (nV cap), some (.int z), some (.ref x), some vp, some va, some (.str (cname s))] ++ rest ∧
              LamX.ExtN H H' ∧ LamX.Tabs (TbP P) H' ∧ RopeAt K s H' x m cap ps past ∧ Ps H' vp ps ∧ Lw Ps H' va past ∧ Good m ps ∧ (∀ q ∈ past, Good m q) ∧ past.length ≤ i + 1) → D.nx σ' H') →
            tailT K s P D [some (nV (sIdx s)), some (V.ref am), some (nV cap), some (.int z), some (.ref x), some vp, some va, some (.str (cname s)), u8, u9, some (.ref tl), some (nV y), some (nV d1), some vw, some vmore, some (.str (dueR (op s m cap ps past (wayOf y wd d1))))] G := fun vmore G u8 u9 D tG hmore hnx => by
          have tD := tC.trans tG
          have kD := TK.of tD
          have htlG : G tl = some (.lst []) := (((t6.trans t8).trans t9).trans tG) _ _ htl5
          refine ⟨z, x, tl, .ref am, vp, va, vw, vmore, m, cap, y, d1, ps, past, wd, u8, u9, rfl, hTI.ext tD, hxI.same tD, stab_mc _ _ _ _ kD hmI, ok, hcap, stab_ps _ _ _ _ kD hpI, haI.same stab_ps tD, g, gp, by omega, hy, stab_wd _ _ _ _ (TK.of tG) hw, wok, w5, htlG, fun e => ?_, hmore, fun vp' va' H' ps' past' rest' hrl' kp hT' hx' hp' ha' g' gp' hl' => hnx _ H' ⟨vp', va', ps', past', rest', hrl', rfl, fun b o hb no => ?_, hT', hx', hp', ha', g', gp', by omega⟩⟩
          · obtain ⟨aa, ys, e2, haa, _⟩ := haI
            have e3 : aa = tl := V.ref.inj (e2.symm.trans e)
            rw [e3] at haa
            have := (t1.trans t2) _ _ haa
            rw [htl] at this
            cases this
          · have hbI := eI b o hb no
            refine kp b o (fun e => ?_) (fun e => ?_) no (tD _ _ hbI)
            · rw [e, hxn] at hb
              cases hb
            · have := (t1.trans t2) _ _ hbI
              rw [e, htl] at this
              cases this
        cases hn : next ps past (wayOf y wd d1) with
        | error e =>
          refine fun v10 G10 t10 ev => ?_
          subst ev
          have hop : op s m cap ps past (wayOf y wd d1) = .error e := op_errS hn
          refine ⟨_, rfl, _, _, _, _, true, rfl, .ty "str", .base (.str _), kit_ty (by decide +kernel), _, rfl, iteT ⟨_, rfl, ?_⟩⟩
          refine ⟨_, rfl, rfl, _, rfl, ?_⟩
          show if decide (V.str (errTxt e) = V.str "") = true then _ else _
          rw [decide_eq_false (fun q => errTxt_ne (V.str.inj q))]
          refine iteF (iteF ?_)
          have gg := fun (D : Ends) => go (.str (errTxt e)) G10 (some (.int (i : Int))) (some (.ref q)) D t10 (fun ps' past' q => by rw [hop] at q; cases q)
          rw [hop] at gg
          exact gg _ (fun σ' H' q => q)
        | ok qn =>
          refine fun v10 G10 t10 hq10 => ?_
          obtain ⟨b10, ys10, rfl, hb10, zz10⟩ := id hq10
          refine ⟨_, rfl, _, _, _, _, false, rfl, .ty "str", .base (.tup hb10), kit_ty (by decide +kernel), _, rfl, iteF ?_⟩
          refine ⟨_, rfl, rfl, _, rfl, ?_⟩
          show if decide (V.str "" = V.str "") = true then _ else _
          rw [decide_eq_true rfl]
          refine iteT ⟨_, rfl, rfl, _, rfl, ?_⟩
          by_cases h3 : y = 3
          · subst h3
            have hop : op s m cap ps past (wayOf 3 wd d1) = .ok (qn, past.dropLast) := op_undoS hn
            refine iteF ?_
            have gg := fun (D : Ends) => go (.ref b10) G10 (some (.int (i : Int))) (some (.ref q)) D t10 (fun ps' past' e => by rw [hop] at e; rw [← (Prod.mk.inj (Except.ok.inj e)).1]; exact hq10)
            rw [hop] at gg
            exact gg _ (fun σ' H' q => q)
          · have hu : wayOf y wd d1 ≠ .undo := fun e => h3 ((way_undo hy).mp e)
            have hop := op_fitS (s := s) (m := m) (cap := cap) hu hn
            have cd := cand_next g (way_ok wok w5 hy) hu hn
            have hy3 : decide (nV y = V.int 3) = false := decide_eq_false fun q => h3 (Int.ofNat.inj (V.int.inj q))
            show if (!decide (nV y = V.int 3)) = true then _ else _
            rw [hy3]
            refine iteT ⟨_, rfl, _, rfl, _, rfl, _, rfl, .ref am, .ref b10, m, cap, qn, rfl, stab_mc _ _ _ _ (TK.of (tC.trans t10)) hmI, ok, hq10, cd, hcap, fun v11 G11 t11 e11 => ?_⟩
            subst e11
            have gg := fun (D : Ends) => go (.ref b10) G11 (some (.int (i : Int))) (some (.ref q)) D (t10.trans t11) (fun ps' past' e => by
              rw [hop] at e
              cases hf : fit s m cap qn with
              | some e' =>
                rw [hf] at e
                cases e
              | none =>
                rw [hf] at e
                rw [← (Prod.mk.inj (Except.ok.inj e)).1]
                exact stab_ps _ _ _ _ (TK.of t11) hq10)
            have ed : dueR (op s m cap ps past (wayOf y wd d1)) = dueTxt (fit s m cap qn) := by
              rw [hop]
              cases fit s m cap qn <;> rfl
            rw [ed] at gg
            exact gg _ (fun σ' H' q => q)
      · rintro σ Hi ⟨vp, va, ps, past, rest, hrl, rfl, eI, hTI, _⟩
        exact r Hi eI hTI
  exact (G.raw b .nil).imp fun vs H Q E h => by rw [List.append_nil]; exact h
end
end K68D
/-! The law. -/
namespace K68D
open PySem PySem.Spec PyProof.Rows L2 K68R K68K K68T K68
section
variable {w : World} {K : PySem.W.Frag} {mg : Str → Option Value} {base : Heap}
theorem seq_ext {H H' : Hp} {a : Addr} {xs : List V} (e : LamX.ExtN H H') (h : SqL K H a xs) : SqL K H' a xs := by
  rcases h with (h | ⟨o, h⟩) | h
  · exact .inl (.inl (e _ _ h fun _ z => by cases z))
  · exact .inl (.inr ⟨o, e _ _ h fun _ z => by cases z⟩)
  · exact .inr h
def srt : Nat → Srt
  | 0 => .rope
  | 1 => .std
  | 2 => .sht
  | _ => .both
theorem srt_idx : ∀ i, i < 4 → sIdx (srt i) = i := fun i h => match i, h with
  | 0, _ => rfl
  | 1, _ => rfl
  | 2, _ => rfl
  | 3, _ => rfl
theorem r_rights (T : Txt K mg) (TB : LamX.TabB base mg (He.cT K ("_law_is_right", none)).1 (He.cT K ("_law_is_right", none)).2) :
    FnR PP w K mg base CX0 13 (He.ga K "_law_is_right") (fun vs H Q E => ∃ s, spRight K s (He.cT K ("_law_is_right", none)).2 vs H Q E) := fun A outer s H us vs Q E hr e0 rv ⟨st, h⟩ => r_right_ T st rfl TB A outer s H us vs Q E hr e0 rv h
def spLaw (K : PySem.W.Frag) (P : Addr) : Sp := fun vs H Q _ => ∃ (a : Addr) (ns : List Int), vs = [.ref a] ∧ SqL K H a (ns.map V.int) ∧ LamX.Tabs (TbP P) H ∧ ∀ H', Q (.bl true) H'
theorem sc_law : FnScope ["_law_script", "_law_k", "_law_cell_here", "_law_sort"] ["_law_script"] (defScope b_law) := ⟨rfl, rfl, rfl, by decide +kernel, rfl, by decide +kernel, by decide +kernel⟩
theorem r_law (T : Txt K mg) (TB : LamX.TabB base mg (He.cT K ("_law_is_right", none)).1 (He.cT K ("_law_is_right", none)).2) {fd : FuncData} (F : FunD K "law" "law" (defArgs b_law) (defBody b_law) (defScope b_law) [] [] (He.ga K "law") fd) :
    FnOk PP w K mg base CX0 14 (He.ga K "law") fd ["_law_script"] (spLaw K (He.cT K ("_law_is_right", none)).2) ∧ Binds K fd ["_law_script"] [] := by
  obtain ⟨_, FC⟩ := T.F__law_cell
  obtain ⟨_, FR⟩ := T.F__law_is_right
  obtain ⟨_, FM⟩ := T.F__law_machine
  refine mkO F sc_law (fun _ _ _ _ _ _ us hl => match us, hl with | [_], _ => rfl) (fun vs H Q E h => ?_) (fun cdv A outer s' H vs Q E hr h => ?_)
  · obtain ⟨a, ns, rfl, _⟩ := h
    rfl
  · refine ⟨_, PSs.nox (pss_cons (ps_for PassesOwn.never rfl (pi_range1 rfl T.f_range (pa_cons pe_int pa_nil)) (pg_name (i := 1) sc_law.nd rfl (Or.inl rfl))
        (pss_cons (ps_set (i := 2) sc_law.nd rfl (Or.inl rfl) (pe_callR (r_cell T) (hr.mono (by decide)) rfl T.g__law_cell FC.kp pass0 (pa_cons (pv 0) (pa_cons (pv 1) pa_nil))))
        (pss_one (ps_for PassesOwn.never rfl (pi_range1 rfl T.f_range (pa_cons pe_int pa_nil)) (pg_name (i := 3) sc_law.nd rfl (Or.inl rfl))
          (pss_one (ps_if (pt_not (pt_val (pe_callR (r_rights T TB) hr rfl T.g__law_is_right FR.kp pass0 (pa_cons (pv 3) (pa_cons (pe_callR (r_machine T) (hr.mono (by decide)) rfl T.g__law_machine FM.kp pass0 (pa_cons (pe_op op_add (pv 2) (pe_op op_mul pe_int (pv 3))) pa_nil))
            (pa_cons (pe_op op_mod (pe_op op_fdiv (pv 2) pe_int) pe_int) (pa_cons (pe_op op_add (pe_op op_fdiv (pv 2) pe_int) (pv 3)) pa_nil))))))) (pss_one (ps_ret pe_bl)) pss_nil))))))
      (pss_one (ps_ret pe_bl))), ?_⟩
    obtain ⟨a, ns, rfl, hs, hT, k⟩ := h
    refine ⟨2, rfl, by decide, by decide, for_range (n := 2) (fun i σ H' => ∃ u1 u2 u3 : Option V, σ = [some (.ref a), u1, u2, u3] ∧ LamX.ExtN H H' ∧ LamX.Tabs (TbP (He.cT K ("_law_is_right", none)).2) H') ⟨none, none, none, rfl, LamX.ExtN.refl H, hT⟩ ?_ ?_⟩
    · rintro i σ H1 hi ⟨u1, u2, u3, rfl, e1, hT1⟩
      rw [show (0 : Int) + (i : Int) = (i : Int) by omega]
      refine ⟨_, rfl, _, rfl, a, ns, i, rfl, seq_ext e1 hs, fun z => ?_⟩
      refine ⟨4, rfl, by decide, by decide, for_range (n := 4) (fun j σ H' => ∃ u3 : Option V, σ = [some (.ref a), some (.int (i : Int)), some (.int z), u3] ∧ LamX.ExtN H H' ∧ LamX.Tabs (TbP (He.cT K ("_law_is_right", none)).2) H') ⟨u3, rfl, e1, hT1⟩ ?_ ?_⟩
      · rintro j σ H2 hj ⟨u4, rfl, e2, hT2⟩
        rw [show (0 : Int) + (j : Int) = (j : Int) by omega]
        refine ⟨_, rfl, _, rfl, _, rfl, _, _, rfl, rfl, .inl ⟨by decide, by decide⟩, _, _, rfl, rfl, _, rfl, fun v H3 s3 h3 => ?_⟩
        obtain ⟨m, ok, hm⟩ := h3
        obtain ⟨cap, ecap, hcap⟩ := mod_nat (z / 11) (show 0 < 6 by decide)
        have hidx := srt_idx j hj
        refine ⟨_, rfl, _, _, rfl, rfl, ⟨by decide, by decide⟩, _, _, rfl, rfl, (by show (0 : Int) < 6; decide), _, rfl, _, _, rfl, rfl, ⟨by decide, by decide⟩, _, rfl, _, _, rfl, rfl, srt j, v, m, cap, z / 7 + (j : Int), ?_, hm, ok, by omega, hT2.ext s3, fun H4 e4 hT4 => ?_⟩
        · rw [hidx, ← ecap]
          rfl
        · exact ⟨_, rfl, iteF ⟨_, rfl, (e2.trans (LamX.ExtN.of s3)).trans e4, hT4⟩⟩
      · rintro σ H2 ⟨u4, rfl, e2, hT2⟩
        exact ⟨_, _, _, rfl, e2, hT2⟩
    · rintro σ H1 ⟨u1, u2, u3, rfl, e1, hT1⟩
      exact k H1
end
end K68D
/-! The end: the head's facts meet the walk. -/
namespace K68D
open PySem PySem.Spec PyProof.Rows L2 K68R K68K K68T K68
theorem law_at {w : World} {mg : Str → Option Value} {f : Addr} {h : Heap} {K : PySem.W.Frag} (KX : K.In h) (c : SaysZ fa fn tf ex h K) (G : h.Ns mainGlobals mg) (hmg : mg ("law" : Str) = some (.ref f)) :
    LamX.LawAtS PySem.Challenge.rw_splitfolds_k68_whole_ropes_by_a_model w K L2.CX0 14 63 "_law_script" mg f h := by
  have T : Txt K mg := ⟨h, KX, G, c⟩
  have e := hmg.symm.trans T.g_law
  obtain rfl : f = He.ga K "law" := Value.ref.inj (Option.some.inj e)
  obtain ⟨fd, F⟩ := T.F_law
  have hp : ((("_law_is_right" : Str), (none : Option Str)) : He.Defn) ∈ tf := List.mem_singleton.mpr rfl
  have b := FunD.bindsA (ps := ["_law_script"]) F fun _ _ _ _ _ _ us hl => match us, hl with | [_], _ => rfl
  refine ⟨fd, [He.cT K ("_law_is_right", none)], spLaw K (He.cT K ("_law_is_right", none)).2, fun p q => ?_, fun p q => ?_, fun p q => ?_, fun s v => b s [v] rfl, fun H a ns hl _ ht hs => ?_, fun base KB NB TB => ?_⟩
  · rw [List.mem_singleton.mp q]
    exact c.empty _ hp
  · rw [List.mem_singleton.mp q]
    exact c.out _ hp
  · rw [List.mem_singleton.mp q]
    exact PySem.W.codeHd_of_K KX (c.hd _ hp)
  · refine ⟨a, ns, rfl, hs, fun p q => ?_, fun _ => rfl⟩
    rw [List.mem_singleton.mp q]
    exact LamX.TabS.nil (ht _ (List.mem_singleton.mpr rfl))
  · exact (r_law T (TB _ (List.mem_singleton.mpr rfl)) F).1
end K68D
open PySem PySem.W PySem.Calls PyProof.Rows
theorem PySem.Challenge.cw_splitfolds_k68_whole_ropes_by_a_model_holds : PySem.Challenge.rw_splitfolds_k68_whole_ropes_by_a_model.Holds := by
  w_on; o_law
  refine HandSHeadRun.head_any (r := OpenLaw.row PySem.Challenge.rw_splitfolds_k68_whole_ropes_by_a_model) (q := view (OpenLaw.row PySem.Challenge.rw_splitfolds_k68_whole_ropes_by_a_model).prog [67]) (H := K68T.hk) (ob := K68T.ob) (M := 8000) (loose := K68T.loose) (d := HandSHeadRun.topDef (OpenLaw.row PySem.Challenge.rw_splitfolds_k68_whole_ropes_by_a_model).prog 67) (kwd := []) K68T.ob_eq
    (by kernel_rfl) (fun s => by kernel_rfl) K68T.run (by kernel_rfl) (by kernel_rfl) (by kernel_rfl) (by rfl) (by first | assumption | decide +kernel) (by decide +kernel) ⟨rfl, rfl, rfl, rfl, rfl, by decide +kernel⟩ ?hw ?hc
  case hw => w_witness2
  case hc =>
    refine LamX.walk_ofTsE (l := PySem.Challenge.rw_splitfolds_k68_whole_ropes_by_a_model) (n := 63) (k := 14) (x := "_law_script") (CX := fun _ => L2.CX0) rfl (by decide) (by kernel_rfl) ⟨rfl, by decide, by decide⟩ ?F (fun _ _ _ _ _ z => z)
    intro w mg fa h Y G hmg0
    obtain ⟨K, KX, c⟩ := Y
    have hmg : mg ("law" : PySem.Str) = some (.ref fa) := by
      have e : (HandSHeadRun.topDef (OpenLaw.row PySem.Challenge.rw_splitfolds_k68_whole_ropes_by_a_model).prog 67).name = ("law" : PySem.Str) := by kernel_rfl
      rw [← e]
      exact hmg0
    exact ⟨K, KX, K68D.law_at KX c G hmg⟩
