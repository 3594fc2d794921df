import PyProof.Rows.All
import Wide.All
import OpenK.AllK
import Wide.FinOn
import HandS.ForMost
import HandS.Walk
import HandS.Wide
import HandS.Exc
import HandS.Lambda
import HandS.HeadHook1
import HandS.IsInst
import HandS.Defaults
import PyProof.ReprRoads
import HandS.HeadHook2
import HandS.WordsExc
import KE.KExcSuper
import HandS.ExcInit
import HandS.ExcSuper
import KE.KExcIs
import HandS.ExcIs
import HandS.ExcField
import KE.KEqNest
import HandS.WideBits
import HandS.HeadHook4
import HandS.HeadWalk
import HandS.Head0
import HandS.Head1
import HandS.Head2
import HandS.HeadEnd
import HandS.NestedK
import KE.KStateDown
import PySem.Challenge.RW_deedchances_k90_whole_where_draws_lead
section
set_option Elab.async false
set_option linter.all false
set_option maxRecDepth 100000
/-! PV1: data trees D, how they lie in the abstract heap (Rp), states (Sd), soundness of readings (SndE ..). -/
namespace PV
open PySem PySem.Spec PyProof.Rows L2

/-- an own exception of the class c; a lambda that calls x; the very address a -/
inductive Bx where
  | exc (c : String) | clo (x : String) | adr (a : Addr)
deriving DecidableEq
/-- a value as a tree; a list's flag: nobody else holds it -/
inductive D where
  | non | bl (b : Bool) | int (i : Int) | str (x : Str)
  | lst (o : Bool) (ds : List D)
  | tup (ds : List D)
  | dic (ks : List Key) (ds : List D)
  | box (k : Bx) (ds : List D)
inductive R (α : Type) where
  | ok (a : α) | ex (c : String) (d : D) | fail
def R.bind {α β : Type} (x : R α) (f : α → R β) : R β := match x with
  | .ok a => f a
  | .ex c d => .ex c d
  | .fail => .fail
theorem R.bind_ok {α β : Type} {a : α} {f : α → R β} : (R.ok a).bind f = f a := rfl
theorem R.bind_ex {α β : Type} {c : String} {d : D} {f : α → R β} : (R.ex c d).bind f = .ex c d := rfl
theorem R.bind_fail {α β : Type} {f : α → R β} : (R.fail : R α).bind f = .fail := rfl
instance : Monad R where
  pure := .ok
  bind := R.bind
abbrev Env := List (Option D)

/-- what may change: a list, a table of code objects -/
def isLst : HO → Bool
  | .lst _ => true
  | .tbl _ => true
  | _ => false

/-- the object at a is o -/
def objO (a : Addr) (o : Obj) : HO := .ext fun h => h.get? a = some o
/-- an exception that has been caught and is held -/
def exK (a C dx : Addr) : HO := .ext fun h => ∃ o vs, h.get? a = some o ∧ o.cls = .ref C ∧ o.dict = some dx ∧ o.data = .fields vs
/-- an argument of the call that a lambda makes: a captured name, None, a number -/
def ArgAt (H : Hp) (scope : Scope) (cells : List (Str × Addr)) (e : Expr) (v : V) : Prop :=
  (∃ y p c o u, e = .Name y p ∧ scope.names.lookup y = some .free ∧ cells.lookup y = some c ∧ H c = some (objO c o) ∧ o.data = .cell (some u) ∧ RelV v u ∧ (y == ("__debug__" : Str)) = false ∧ (y == ("__classdict__" : Str)) = false) ∨
  (∃ j p, e = .Constant .none j p ∧ v = .non) ∨ ∃ i j p, e = .Constant (.int i) j p ∧ v = .int i
def ArgsAt (H : Hp) (scope : Scope) (cells : List (Str × Addr)) : List Expr → List V → Prop
  | [], vs => vs = []
  | e :: es, vs => ∃ v r, vs = v :: r ∧ ArgAt H scope cells e v ∧ ArgsAt H scope cells es r
/-- at f: a lambda that calls the global x with vs -/
def LamAt (H : Hp) (f : Addr) (x : Str) (vs : List V) : Prop :=
  ∃ (q : Str) (params : Arguments) (scope : Scope) (cells : List (Str × Addr)) (pm ctv : Value) (c' : Addr) (es : List Expr) (px p : Pos),
    H f = some (objO f (PySem.W.kla_obj "<lambda>" q params (.Call (.Name x px) es [] p) scope cells pm c' ctv)) ∧ H c' = some (LamX.CodeO c' q) ∧
    scope.kind = .function ∧ scope.isCoroutine = false ∧ scope.isGenerator = false ∧ (∀ y ∈ scope.names, y.2 ≠ .local ∧ y.2 ≠ .cell) ∧ scope.names.lookup x = some .globalImplicit ∧ (x == ("__debug__" : Str)) = false ∧ es ≠ [] ∧
    (∀ y ∈ cells, ∃ o u, H y.2 = some (objO y.2 o) ∧ o.data = .cell u) ∧ (∀ y z c, cells.lookup y = some c → cells.lookup z = some c → y = z) ∧ (∀ y, scope.names.lookup y = some .free → ∃ c, cells.lookup y = some c) ∧
    bindArgs (PySem.W.kla_fn "<lambda>" q params (.Call (.Name x px) es [] p) scope cells pm (.ref c') ctv) ⟨[], []⟩ = pure [] ∧ ArgsAt H scope cells es vs
def BoxAt (K : PySem.W.Frag) (H : Hp) : Bx → Addr → List V → Prop
  | .exc c, a, vs => ∃ dx x, vs = [x] ∧ H a = some (exK a (He.ga K (Str.ofString c)) dx) ∧ H dx = some (.xd [(("value" : Str), x)])
  | .clo x, f, vs => LamAt H f (Str.ofString x) vs
  | .adr g, a, vs => a = g ∧ vs = []
mutual
def Rp (K : PySem.W.Frag) (F : Addr → Prop) (H : Hp) : D → V → List Addr → Prop
  | .non, v, as => v = .non ∧ as = []
  | .bl b, v, as => v = .bl b ∧ as = []
  | .int i, v, as => v = .int i ∧ as = []
  | .str x, v, as => v = .str x ∧ as = []
  | .lst true ds, v, as => ∃ a vs bs, v = .ref a ∧ H a = some (.lst vs) ∧ vs.length ≤ sizeLine ∧ as = a :: bs ∧ RpL K F H ds vs bs
  | .lst false ds, v, as => ∃ a vs, v = .ref a ∧ H a = some (.lst vs) ∧ vs.length ≤ sizeLine ∧ F a ∧ as = [] ∧ RpL K F H ds vs []
  | .tup ds, v, as => ∃ a vs, v = .ref a ∧ SqT K H a vs ∧ RpL K F H ds vs as
  | .dic ks ds, v, as => ∃ a kvs, v = .ref a ∧ H a = some (.dK kvs) ∧ kvs.map (·.1) = ks ∧ as = [] ∧ RpL K F H ds (kvs.map (·.2)) []
  | .box k ds, v, as => ∃ a vs, v = .ref a ∧ BoxAt K H k a vs ∧ as = [] ∧ RpL K F H ds vs []
def RpL (K : PySem.W.Frag) (F : Addr → Prop) (H : Hp) : List D → List V → List Addr → Prop
  | [], vs, as => vs = [] ∧ as = []
  | d :: ds, vs, as => ∃ v r a1 a2, vs = v :: r ∧ as = a1 ++ a2 ∧ Rp K F H d v a1 ∧ RpL K F H ds r a2
end
mutual
def fz : D → D
  | .lst _ ds => .lst false (fzL ds)
  | .tup ds => .tup (fzL ds)
  | .dic ks ds => .dic ks (fzL ds)
  | .box k ds => .box k (fzL ds)
  | d => d
def fzL : List D → List D
  | [] => []
  | d :: ds => fz d :: fzL ds
end
mutual
/-- no frozen list within -/
def noFz : D → Bool
  | .lst o ds => o && noFzL ds
  | .tup ds => noFzL ds
  | .dic _ ds => noFzL ds
  | .box _ ds => noFzL ds
  | _ => true
def noFzL : List D → Bool
  | [] => true
  | d :: ds => noFz d && noFzL ds
end
/-- scalars -/
def sc : D → Bool
  | .non | .bl _ | .int _ | .str _ => true
  | _ => false

section
variable {K : PySem.W.Frag} {F F' : Addr → Prop} {H H' : Hp}
theorem sqT_mono (h2 : ∀ a o, H a = some o → isLst o = false → H' a = some o) {a : Addr} {xs : List V} (h : SqT K H a xs) : SqT K H' a xs := by
  rcases h with (h | ⟨o, h⟩) | h
  · exact .inl (.inl (h2 _ _ h rfl))
  · exact .inl (.inr ⟨o, h2 _ _ h rfl⟩)
  · exact .inr h
theorem ArgsAt.mono {scope : Scope} {cells : List (Str × Addr)} (h2 : ∀ a o, H a = some o → isLst o = false → H' a = some o) : ∀ {es : List Expr} {vs : List V}, ArgsAt H scope cells es vs → ArgsAt H' scope cells es vs
  | [], _, h => h
  | e :: es, vs, h => by
    obtain ⟨v, r, e1, e2, e3⟩ := h
    refine ⟨v, r, e1, ?_, ArgsAt.mono h2 e3⟩
    rcases e2 with ⟨y, p, c, o, u, q1, q2, q3, q4, q5⟩ | q
    · exact .inl ⟨y, p, c, o, u, q1, q2, q3, h2 _ _ q4 rfl, q5⟩
    · exact .inr q
theorem BoxAt.mono (h2 : ∀ a o, H a = some o → isLst o = false → H' a = some o) {k : Bx} {a : Addr} {vs : List V} (h : BoxAt K H k a vs) : BoxAt K H' k a vs := by
  cases k with
  | exc c =>
    obtain ⟨dx, x, e1, e2, e3⟩ := h
    exact ⟨dx, x, e1, h2 _ _ e2 rfl, h2 _ _ e3 rfl⟩
  | clo x =>
    obtain ⟨q, params, scope, cells, pm, ctv, c', es, px, p, e1, e2, e3, e4, e5, e6, e7, e8, e9, e10, e11, e12, e13, e14⟩ := h
    refine ⟨q, params, scope, cells, pm, ctv, c', es, px, p, h2 _ _ e1 rfl, h2 _ _ e2 rfl, e3, e4, e5, e6, e7, e8, e9, fun y z => ?_, e11, e12, e13, ArgsAt.mono h2 e14⟩
    obtain ⟨o, u, q1, q2⟩ := e10 y z
    exact ⟨o, u, h2 _ _ q1 rfl, q2⟩
  | adr g => exact h
mutual
theorem Rp.mono (hF : ∀ a, F a → F' a) (h2 : ∀ a o, H a = some o → isLst o = false → H' a = some o) : ∀ (d : D) (v : V) (as : List Addr), (∀ a xs, F a ∨ a ∈ as → H a = some (.lst xs) → H' a = some (.lst xs)) → Rp K F H d v as → Rp K F' H' d v as
  | .non, v, as, _, h => h
  | .bl b, v, as, _, h => h
  | .int i, v, as, _, h => h
  | .str x, v, as, _, h => h
  | .lst true ds, v, as, h1, h => by
    obtain ⟨a, vs, bs, e1, e2, e3, e4, r⟩ := h
    refine ⟨a, vs, bs, e1, h1 a vs (.inr (by rw [e4]; exact List.mem_cons_self)) e2, e3, e4, RpL.mono hF h2 ds vs bs (fun b xs hb => h1 b xs (hb.imp id fun hb => by rw [e4]; exact List.mem_cons_of_mem _ hb)) r⟩
  | .lst false ds, v, as, h1, h => by
    obtain ⟨a, vs, e1, e2, e3, e4, e5, r⟩ := h
    exact ⟨a, vs, e1, h1 a vs (.inl e4) e2, e3, hF a e4, e5, RpL.mono hF h2 ds vs [] (fun b xs hb => h1 b xs (hb.imp id fun hb => nomatch hb)) r⟩
  | .tup ds, v, as, h1, h => by
    obtain ⟨a, vs, e1, e2, r⟩ := h
    exact ⟨a, vs, e1, sqT_mono h2 e2, RpL.mono hF h2 ds vs as h1 r⟩
  | .dic ks ds, v, as, h1, h => by
    obtain ⟨a, kvs, e1, e2, e3, e4, r⟩ := h
    exact ⟨a, kvs, e1, h2 _ _ e2 rfl, e3, e4, RpL.mono hF h2 ds _ [] (fun b xs hb => h1 b xs (hb.imp id fun hb => nomatch hb)) r⟩
  | .box k ds, v, as, h1, h => by
    obtain ⟨a, vs, e1, e2, e4, r⟩ := h
    exact ⟨a, vs, e1, e2.mono h2, e4, RpL.mono hF h2 ds _ [] (fun b xs hb => h1 b xs (hb.imp id fun hb => nomatch hb)) r⟩
theorem RpL.mono (hF : ∀ a, F a → F' a) (h2 : ∀ a o, H a = some o → isLst o = false → H' a = some o) : ∀ (ds : List D) (vs : List V) (as : List Addr), (∀ a xs, F a ∨ a ∈ as → H a = some (.lst xs) → H' a = some (.lst xs)) → RpL K F H ds vs as → RpL K F' H' ds vs as
  | [], _, _, _, h => h
  | d :: ds, vs, as, h1, h => by
    obtain ⟨v, r, a1, a2, e1, e2, r1, r2⟩ := h
    exact ⟨v, r, a1, a2, e1, e2, Rp.mono hF h2 d v a1 (fun b xs hb => h1 b xs (hb.imp id fun hb => by rw [e2]; exact List.mem_append_left _ hb)) r1, RpL.mono hF h2 ds r a2 (fun b xs hb => h1 b xs (hb.imp id fun hb => by rw [e2]; exact List.mem_append_right _ hb)) r2⟩
end
mutual
theorem Rp.fz (hF : ∀ a, F a → F' a) : ∀ (d : D) (v : V) (as : List Addr), (∀ a ∈ as, F' a) → Rp K F H d v as → Rp K F' H (fz d) v []
  | .non, v, as, _, h => ⟨h.1, rfl⟩
  | .bl b, v, as, _, h => ⟨h.1, rfl⟩
  | .int i, v, as, _, h => ⟨h.1, rfl⟩
  | .str x, v, as, _, h => ⟨h.1, rfl⟩
  | .lst true ds, v, as, h1, h => by
    obtain ⟨a, vs, bs, e1, e2, e3, e4, r⟩ := h
    exact ⟨a, vs, e1, e2, e3, h1 a (by rw [e4]; exact List.mem_cons_self), rfl, RpL.fz hF ds vs bs (fun b hb => h1 b (by rw [e4]; exact List.mem_cons_of_mem _ hb)) r⟩
  | .lst false ds, v, as, h1, h => by
    obtain ⟨a, vs, e1, e2, e3, e4, e5, r⟩ := h
    exact ⟨a, vs, e1, e2, e3, hF a e4, rfl, RpL.fz hF ds vs [] (fun b hb => nomatch hb) r⟩
  | .tup ds, v, as, h1, h => by
    obtain ⟨a, vs, e1, e2, r⟩ := h
    exact ⟨a, vs, e1, e2, RpL.fz hF ds vs as h1 r⟩
  | .dic ks ds, v, as, h1, h => by
    obtain ⟨a, kvs, e1, e2, e3, e4, r⟩ := h
    exact ⟨a, kvs, e1, e2, e3, rfl, RpL.fz hF ds _ [] (fun b hb => nomatch hb) r⟩
  | .box k ds, v, as, h1, h => by
    obtain ⟨a, vs, e1, e2, e4, r⟩ := h
    exact ⟨a, vs, e1, e2, rfl, RpL.fz hF ds _ [] (fun b hb => nomatch hb) r⟩
theorem RpL.fz (hF : ∀ a, F a → F' a) : ∀ (ds : List D) (vs : List V) (as : List Addr), (∀ a ∈ as, F' a) → RpL K F H ds vs as → RpL K F' H (fzL ds) vs []
  | [], _, _, _, h => ⟨h.1, rfl⟩
  | d :: ds, vs, as, h1, h => by
    obtain ⟨v, r, a1, a2, e1, e2, r1, r2⟩ := h
    exact ⟨v, r, [], [], e1, rfl, Rp.fz hF d v a1 (fun b hb => h1 b (by rw [e2]; exact List.mem_append_left _ hb)) r1, RpL.fz hF ds r a2 (fun b hb => h1 b (by rw [e2]; exact List.mem_append_right _ hb)) r2⟩
end
mutual
theorem Rp.noFz : ∀ (d : D) (v : V) (as : List Addr), noFz d = true → Rp K F H d v as → Rp K F' H d v as
  | .non, v, as, _, h => h
  | .bl b, v, as, _, h => h
  | .int i, v, as, _, h => h
  | .str x, v, as, _, h => h
  | .lst true ds, v, as, h1, h => by
    obtain ⟨a, vs, bs, e1, e2, e3, e4, r⟩ := h
    exact ⟨a, vs, bs, e1, e2, e3, e4, RpL.noFz ds vs bs (by simpa [PV.noFz] using h1) r⟩
  | .lst false ds, v, as, h1, h => by simp [PV.noFz] at h1
  | .tup ds, v, as, h1, h => by
    obtain ⟨a, vs, e1, e2, r⟩ := h
    exact ⟨a, vs, e1, e2, RpL.noFz ds vs as (by simpa [PV.noFz] using h1) r⟩
  | .dic ks ds, v, as, h1, h => by
    obtain ⟨a, kvs, e1, e2, e3, e4, r⟩ := h
    exact ⟨a, kvs, e1, e2, e3, e4, RpL.noFz ds _ [] (by simpa [PV.noFz] using h1) r⟩
  | .box k ds, v, as, h1, h => by
    obtain ⟨a, vs, e1, e2, e4, r⟩ := h
    exact ⟨a, vs, e1, e2, e4, RpL.noFz ds _ [] (by simpa [PV.noFz] using h1) r⟩
theorem RpL.noFz : ∀ (ds : List D) (vs : List V) (as : List Addr), noFzL ds = true → RpL K F H ds vs as → RpL K F' H ds vs as
  | [], _, _, _, h => h
  | d :: ds, vs, as, h1, h => by
    obtain ⟨v, r, a1, a2, e1, e2, r1, r2⟩ := h
    obtain ⟨q1, q2⟩ : PV.noFz d = true ∧ PV.noFzL ds = true := by simpa [PV.noFzL] using h1
    exact ⟨v, r, a1, a2, e1, e2, Rp.noFz d v a1 q1 r1, RpL.noFz ds r a2 q2 r2⟩
end
mutual
theorem Rp.own : ∀ (d : D) (v : V) (as : List Addr), Rp K F H d v as → ∀ a ∈ as, ∃ xs, H a = some (.lst xs)
  | .non, v, as, h => fun a ha => by rw [h.2] at ha; cases ha
  | .bl b, v, as, h => fun a ha => by rw [h.2] at ha; cases ha
  | .int i, v, as, h => fun a ha => by rw [h.2] at ha; cases ha
  | .str x, v, as, h => fun a ha => by rw [h.2] at ha; cases ha
  | .lst true ds, v, as, h => by
    obtain ⟨a, vs, bs, e1, e2, e3, e4, r⟩ := h
    intro b hb
    rw [e4] at hb
    rcases List.mem_cons.mp hb with z | z
    · rw [z]; exact ⟨_, e2⟩
    · exact RpL.own ds vs bs r b z
  | .lst false ds, v, as, h => by
    obtain ⟨a, vs, e1, e2, e3, e4, e5, r⟩ := h
    intro b hb
    rw [e5] at hb
    cases hb
  | .tup ds, v, as, h => by
    obtain ⟨a, vs, e1, e2, r⟩ := h
    exact RpL.own ds vs as r
  | .dic ks ds, v, as, h => by
    obtain ⟨a, kvs, e1, e2, e3, e4, r⟩ := h
    intro b hb
    rw [e4] at hb
    cases hb
  | .box k ds, v, as, h => by
    obtain ⟨a, vs, e1, e2, e4, r⟩ := h
    intro b hb
    rw [e4] at hb
    cases hb
theorem RpL.own : ∀ (ds : List D) (vs : List V) (as : List Addr), RpL K F H ds vs as → ∀ a ∈ as, ∃ xs, H a = some (.lst xs)
  | [], _, _, h => fun a ha => by rw [h.2] at ha; cases ha
  | d :: ds, vs, as, h => by
    obtain ⟨v, r, a1, a2, e1, e2, r1, r2⟩ := h
    intro b hb
    rw [e2] at hb
    rcases List.mem_append.mp hb with z | z
    · exact Rp.own d v a1 r1 b z
    · exact RpL.own ds r a2 r2 b z
end
mutual
theorem Rp.of_fz : ∀ (d : D) (v : V) (as : List Addr), Rp K F H (PV.fz d) v as → as = []
  | .non, v, as, h => h.2
  | .bl b, v, as, h => h.2
  | .int i, v, as, h => h.2
  | .str x, v, as, h => h.2
  | .lst o ds, v, as, h => by
    obtain ⟨a, vs, e1, e2, e3, e4, e5, r⟩ := h
    exact e5
  | .tup ds, v, as, h => by
    obtain ⟨a, vs, e1, e2, r⟩ := h
    exact RpL.of_fz ds vs as r
  | .dic ks ds, v, as, h => by
    obtain ⟨a, kvs, e1, e2, e3, e4, r⟩ := h
    exact e4
  | .box k ds, v, as, h => by
    obtain ⟨a, vs, e1, e2, e4, r⟩ := h
    exact e4
theorem RpL.of_fz : ∀ (ds : List D) (vs : List V) (as : List Addr), RpL K F H (PV.fzL ds) vs as → as = []
  | [], _, _, h => h.2
  | d :: ds, vs, as, h => by
    obtain ⟨v, r, a1, a2, e1, e2, r1, r2⟩ := h
    rw [e2, Rp.of_fz d v a1 r1, RpL.of_fz ds r a2 r2] <;> rfl
end
theorem RpL.length : ∀ {ds : List D} {vs : List V} {as : List Addr}, RpL K F H ds vs as → vs.length = ds.length
  | [], _, _, h => by rw [h.1] <;> rfl
  | d :: ds, vs, as, h => by
    obtain ⟨v, r, a1, a2, e1, e2, r1, r2⟩ := h
    rw [e1, List.length_cons, List.length_cons, RpL.length r2]
theorem RpL.get : ∀ {ds : List D} {vs : List V} {as : List Addr} {i : Nat} {d : D}, RpL K F H ds vs as → ds[i]? = some d → ∃ v bs, vs[i]? = some v ∧ bs.Sublist as ∧ Rp K F H d v bs
  | [], _, _, _, _, _, e => by simp at e
  | d :: ds, vs, as, 0, d', h, e => by
    obtain ⟨v, r, a1, a2, e1, e2, r1, r2⟩ := h
    have e0 : d = d' := by simpa using e
    subst e0 e1 e2
    exact ⟨v, a1, rfl, List.sublist_append_left _ _, r1⟩
  | d :: ds, vs, as, i + 1, d', h, e => by
    obtain ⟨v, r, a1, a2, e1, e2, r1, r2⟩ := h
    obtain ⟨u, bs, q1, q2, q3⟩ := RpL.get (i := i) (d := d') r2 (by simpa using e)
    subst e1 e2
    exact ⟨u, bs, by simpa using q1, q2.trans (List.sublist_append_right _ _), q3⟩
theorem RpL.append : ∀ {ds es : List D} {vs us : List V} {as bs : List Addr}, RpL K F H ds vs as → RpL K F H es us bs → RpL K F H (ds ++ es) (vs ++ us) (as ++ bs)
  | [], es, vs, us, as, bs, h, q => by
    obtain ⟨rfl, rfl⟩ := h
    exact q
  | d :: ds, es, vs, us, as, bs, h, q => by
    obtain ⟨v, r, a1, a2, e1, e2, r1, r2⟩ := h
    subst e1 e2
    exact ⟨v, r ++ us, a1, a2 ++ bs, rfl, by rw [List.append_assoc], r1, RpL.append r2 q⟩
theorem RpL.one {d : D} {v : V} {as : List Addr} (h : Rp K F H d v as) : RpL K F H [d] [v] as := ⟨v, [], as, [], rfl, by simp, h, rfl, rfl⟩
theorem RpL.of_one {d : D} {vs : List V} {as : List Addr} (h : RpL K F H [d] vs as) : ∃ v, vs = [v] ∧ Rp K F H d v as := by
  obtain ⟨v, r, a1, a2, e1, e2, r1, r2, r3⟩ := h
  subst e1 e2 r2 r3
  exact ⟨v, rfl, by simpa using r1⟩
theorem RpL.drop : ∀ {ds : List D} {vs : List V} {as : List Addr} (n : Nat), RpL K F H ds vs as → ∃ bs, bs.Sublist as ∧ RpL K F H (ds.drop n) (vs.drop n) bs
  | ds, vs, as, 0, h => ⟨as, List.Sublist.refl _, h⟩
  | [], vs, as, n + 1, h => by
    obtain ⟨rfl, rfl⟩ := h
    exact ⟨[], List.Sublist.refl _, rfl, rfl⟩
  | d :: ds, vs, as, n + 1, h => by
    obtain ⟨v, r, a1, a2, e1, e2, r1, r2⟩ := h
    subst e1 e2
    obtain ⟨bs, q1, q2⟩ := RpL.drop n r2
    exact ⟨bs, q1.trans (List.sublist_append_right _ _), q2⟩
theorem RpL.take : ∀ {ds : List D} {vs : List V} {as : List Addr} (n : Nat), RpL K F H ds vs as → ∃ bs, bs.Sublist as ∧ RpL K F H (ds.take n) (vs.take n) bs
  | ds, vs, as, 0, h => ⟨[], List.nil_sublist _, rfl, rfl⟩
  | [], vs, as, n + 1, h => by
    obtain ⟨rfl, rfl⟩ := h
    exact ⟨[], List.Sublist.refl _, rfl, rfl⟩
  | d :: ds, vs, as, n + 1, h => by
    obtain ⟨v, r, a1, a2, e1, e2, r1, r2⟩ := h
    subst e1 e2
    obtain ⟨bs, q1, q2⟩ := RpL.take n r2
    exact ⟨a1 ++ bs, List.Sublist.append (List.Sublist.refl _) q1, v, r.take n, a1, bs, rfl, rfl, r1, q2⟩
theorem Rp.sc {d : D} {v : V} {as : List Addr} (h : sc d = true) (r : Rp K F H d v as) : as = [] ∧ ∀ F' H', Rp K F' H' d v [] := by
  cases d with
  | non => exact ⟨r.2, fun _ _ => ⟨r.1, rfl⟩⟩
  | bl b => exact ⟨r.2, fun _ _ => ⟨r.1, rfl⟩⟩
  | int i => exact ⟨r.2, fun _ _ => ⟨r.1, rfl⟩⟩
  | str x => exact ⟨r.2, fun _ _ => ⟨r.1, rfl⟩⟩
  | _ => cases h
end

/-! ### results -/
/-- d lies at v in H', reached from H: its frozen lists are among G or new, its own ones are new or among M -/
def RpX (K : PySem.W.Frag) (G M : Addr → Prop) (H H' : Hp) (d : D) (v : V) : Prop :=
  ∃ (F' : Addr → Prop) (as : List Addr), (∀ a, F' a → (G a ∨ H a = none) ∧ H' a ≠ none) ∧ as.Nodup ∧ (∀ a ∈ as, (H a = none ∨ M a) ∧ ¬ F' a) ∧ Rp K F' H' d v as
def RpXL (K : PySem.W.Frag) (G M : Addr → Prop) (H H' : Hp) (ds : List D) (vs : List V) : Prop :=
  ∃ (F' : Addr → Prop) (as : List Addr), (∀ a, F' a → (G a ∨ H a = none) ∧ H' a ≠ none) ∧ as.Nodup ∧ (∀ a ∈ as, (H a = none ∨ M a) ∧ ¬ F' a) ∧ RpL K F' H' ds vs as
def NoA : Addr → Prop := fun _ => False
theorem same_nlst {H H' : Hp} (s : Same H H') : ∀ a o, H a = some o → isLst o = false → H' a = some o := fun a o h _ => s a o h
theorem same_dom {H H' : Hp} (s : Same H H') {a : Addr} (h : H a ≠ none) : H' a ≠ none := by
  cases e : H a with
  | none => exact absurd e h
  | some o => rw [s a o e]; exact fun z => by cases z
section
variable {K : PySem.W.Frag} {G G' M M' : Addr → Prop} {H H1 H2 : Hp}
theorem RpX.scal {d : D} {v : V} (h : sc d = true) (r : ∀ F H, Rp K F H d v []) : RpX K G M H H1 d v := ⟨NoA, [], fun _ z => z.elim, List.nodup_nil, (fun _ z => nomatch z), r _ _⟩
theorem RpX.int (i : Int) : RpX K G M H H1 (.int i) (.int i) := .scal rfl fun _ _ => ⟨rfl, rfl⟩
theorem RpX.bl (i : Bool) : RpX K G M H H1 (.bl i) (.bl i) := .scal rfl fun _ _ => ⟨rfl, rfl⟩
theorem RpX.str (i : Str) : RpX K G M H H1 (.str i) (.str i) := .scal rfl fun _ _ => ⟨rfl, rfl⟩
theorem RpX.non : RpX K G M H H1 .non .non := .scal rfl fun _ _ => ⟨rfl, rfl⟩
theorem RpX.mono {d : D} {v : V} (r : RpX K G M H H1 d v) (hG : ∀ a, G a → G' a) (hM : ∀ a, M a → M' a) : RpX K G' M' H H1 d v := by
  obtain ⟨F', as, h1, h2, h3, h4⟩ := r
  exact ⟨F', as, fun a z => ⟨(h1 a z).1.imp (hG a) id, (h1 a z).2⟩, h2, fun a z => ⟨(h3 a z).1.imp id (hM a), (h3 a z).2⟩, h4⟩
theorem RpXL.mono {d : List D} {v : List V} (r : RpXL K G M H H1 d v) (hG : ∀ a, G a → G' a) (hM : ∀ a, M a → M' a) : RpXL K G' M' H H1 d v := by
  obtain ⟨F', as, h1, h2, h3, h4⟩ := r
  exact ⟨F', as, fun a z => ⟨(h1 a z).1.imp (hG a) id, (h1 a z).2⟩, h2, fun a z => ⟨(h3 a z).1.imp id (hM a), (h3 a z).2⟩, h4⟩
theorem RpX.fwd {d : D} {v : V} (r : RpX K G M H H1 d v) (s : Same H1 H2) : RpX K G M H H2 d v := by
  obtain ⟨F', as, h1, h2, h3, h4⟩ := r
  exact ⟨F', as, fun a z => ⟨(h1 a z).1, same_dom s (h1 a z).2⟩, h2, h3, Rp.mono (fun _ z => z) (same_nlst s) d v as (fun a xs _ e => s a _ e) h4⟩
theorem RpXL.fwd {d : List D} {v : List V} (r : RpXL K G M H H1 d v) (s : Same H1 H2) : RpXL K G M H H2 d v := by
  obtain ⟨F', as, h1, h2, h3, h4⟩ := r
  exact ⟨F', as, fun a z => ⟨(h1 a z).1, same_dom s (h1 a z).2⟩, h2, h3, RpL.mono (fun _ z => z) (same_nlst s) d v as (fun a xs _ e => s a _ e) h4⟩
theorem same_free {a : Addr} (s : Same H H1) (h : H1 a = none) : H a = none := s.free h
/-- from a later start -/
theorem RpX.back {d : D} {v : V} (r : RpX K G M H1 H2 d v) (s : Same H H1) : RpX K G M H H2 d v := by
  obtain ⟨F', as, h1, h2, h3, h4⟩ := r
  exact ⟨F', as, fun a z => ⟨(h1 a z).1.imp id fun e => s.free e, (h1 a z).2⟩, h2, fun a z => ⟨(h3 a z).1.imp (fun e => s.free e) id, (h3 a z).2⟩, h4⟩
theorem RpXL.back {d : List D} {v : List V} (r : RpXL K G M H1 H2 d v) (s : Same H H1) : RpXL K G M H H2 d v := by
  obtain ⟨F', as, h1, h2, h3, h4⟩ := r
  exact ⟨F', as, fun a z => ⟨(h1 a z).1.imp id fun e => s.free e, (h1 a z).2⟩, h2, fun a z => ⟨(h3 a z).1.imp (fun e => s.free e) id, (h3 a z).2⟩, h4⟩
theorem RpXL.nil : RpXL K G M H H1 [] [] := ⟨NoA, [], fun _ z => z.elim, List.nodup_nil, (fun _ z => nomatch z), rfl, rfl⟩
/-- one value, then more -/
theorem RpXL.cons {G1 G2 M1 M2 : Addr → Prop} {d : D} {v : V} {ds : List D} {vs : List V} (r1 : RpX K G1 M1 H H1 d v) (s : Same H H1) (s2 : Same H1 H2) (r2 : RpXL K G2 M2 H1 H2 ds vs)
    (x1 : ∀ a, M1 a → ¬ G2 a ∧ ¬ M2 a) (x2 : ∀ a, M2 a → ¬ G1 a ∧ H a ≠ none) (x3 : ∀ a, G2 a → H a ≠ none) : RpXL K (fun a => G1 a ∨ G2 a) (fun a => M1 a ∨ M2 a) H H2 (d :: ds) (v :: vs) := by
  obtain ⟨F1, as1, h1, h2, h3, h4⟩ := r1
  obtain ⟨F2, as2, k1, k2, k3, k4⟩ := r2
  have o1 : ∀ a ∈ as1, H1 a ≠ none := fun a ha z => by
    obtain ⟨xs, e⟩ := Rp.own d v as1 h4 a ha
    rw [z] at e; cases e
  have c1 : ∀ a ∈ as1, ¬ F2 a := fun a ha z => by
    rcases (k1 a z).1 with g | g
    · rcases (h3 a ha).1 with q | q
      · exact x3 a g q
      · exact (x1 a q).1 g
    · exact o1 a ha g
  have c2 : ∀ a ∈ as2, ¬ F1 a := fun a ha z => by
    rcases (k3 a ha).1 with q | q
    · exact (h1 a z).2 q
    · rcases (h1 a z).1 with g | g
      · exact (x2 a q).1 g
      · exact (x2 a q).2 g
  have c3 : ∀ a ∈ as1, ∀ b ∈ as2, a ≠ b := fun a ha b hb z => by
    subst z
    rcases (k3 a hb).1 with q | q
    · exact o1 a ha q
    · rcases (h3 a ha).1 with g | g
      · exact (x2 a q).2 g
      · exact (x1 a g).2 q
  refine ⟨fun a => F1 a ∨ F2 a, as1 ++ as2, fun a z => ?_, List.nodup_append.mpr ⟨h2, k2, c3⟩, fun a ha => ?_, v, vs, as1, as2, rfl, rfl, ?_, ?_⟩
  · rcases z with z | z
    · exact ⟨(h1 a z).1.imp .inl id, same_dom s2 (h1 a z).2⟩
    · exact ⟨(k1 a z).1.imp .inr fun e => s.free e, (k1 a z).2⟩
  · rcases List.mem_append.mp ha with z | z
    · exact ⟨(h3 a z).1.imp id .inl, fun q => q.elim (h3 a z).2 (c1 a z)⟩
    · exact ⟨(k3 a z).1.imp (fun e => s.free e) .inr, fun q => q.elim (c2 a z) (k3 a z).2⟩
  · exact Rp.mono (fun _ z => .inl z) (same_nlst s2) d v as1 (fun a xs _ e => s2 a _ e) h4
  · exact RpL.mono (fun _ z => .inr z) (fun _ _ e _ => e) ds vs as2 (fun a xs _ e => e) k4
end
end PV
end
section
set_option Elab.async false
set_option linter.all false
set_option maxRecDepth 100000
/-! PV2: states, soundness of expressions' readings. -/
namespace PV
open PySem PySem.Spec PyProof.Rows L2

/-- no heap is such -/
def badH : Hp := fun _ => some (.ext fun _ => False)
theorem badH_no {P : Program} {w : World} {h : Heap} (x : HOk P w badH h) : False := by
  have y : ObjOk P w badH h 0 (.ext fun _ => False) := x 0 _ rfl
  exact y.1
/-- a wish tells at badH which addresses an exception's value may lean on -/
def Alw (E : XK) (a : Addr) : Prop := (∀ c d H, ¬ E c d H) ∨ E .none (some a) badH
def ECond (K : PySem.W.Frag) (E : XK) (H : Hp) (c : String) (d : D) : Prop :=
  ∀ dx v H' F, (∀ a, F a → Alw E a ∧ H' a ≠ none) → Same H H' → H dx = none → H' dx = some (.xd [(("value" : Str), v)]) → Rp K F H' d v [] → E (.ref (He.ga K (Str.ofString c))) (some dx) H'
theorem ECond.mono {K : PySem.W.Frag} {E : XK} {H H1 : Hp} {c : String} {d : D} (h : ECond K E H c d) (s : Same H H1) : ECond K E H1 c d :=
  fun dx v H' F hF s' hn hx r => h dx v H' F hF (s.trans s') (s.free hn) hx r

structure Bs (E : XK) where
  G0 : Addr → Prop
  H0 : Hp
  B : Addr → Prop
  HB : Hp
  al : ∀ a, G0 a ∨ H0 a = none → Alw E a
structure Sd {E : XK} (K : PySem.W.Frag) (b : Bs E) (F : Addr → Prop) (O : Nat → List Addr) (H : Hp) (σ : L2.St) (ρ : Env) : Prop where
  len : σ.length = ρ.length
  at_ : ∀ i d, ρ[i]? = some (some d) → ∃ v, σ[i]? = some (some v) ∧ Rp K F H d v (O i)
  fdom : ∀ a, F a → H a ≠ none
  fr : ∀ a, F a → b.G0 a ∨ b.H0 a = none
  nd : ∀ i, (O i).Nodup
  dj : ∀ i j, i ≠ j → ∀ a, a ∈ O i → a ∉ O j
  own : ∀ i a, a ∈ O i → ¬ F a ∧ b.H0 a = none ∧ H a ≠ none
  same : Same b.H0 H
  sub : ∀ a, b.B a → F a
  keep : ∀ a o, b.HB a = some o → (isLst o = false ∨ b.B a) → H a = some o
def Al (F : Addr → Prop) (O : Nat → List Addr) (us : List Nat) : Addr → Prop := fun a => F a ∨ ∃ i ∈ us, a ∈ O i
def Mv (O : Nat → List Addr) (mv : List Nat) : Addr → Prop := fun a => ∃ i ∈ mv, a ∈ O i
section
variable {K : PySem.W.Frag} {E : XK} {b : Bs E} {F : Addr → Prop} {O : Nat → List Addr} {H H1 : Hp} {σ : L2.St} {ρ : Env}
theorem Sd.fwd (S : Sd K b F O H σ ρ) (s : Same H H1) : Sd K b F O H1 σ ρ where
  len := S.len
  at_ := fun i d e => by
    obtain ⟨v, h1, h2⟩ := S.at_ i d e
    exact ⟨v, h1, Rp.mono (fun _ z => z) (same_nlst s) d v _ (fun a xs _ e => s a _ e) h2⟩
  fdom := fun a h => same_dom s (S.fdom a h)
  fr := S.fr
  nd := S.nd
  dj := S.dj
  own := fun i a h => ⟨(S.own i a h).1, (S.own i a h).2.1, same_dom s (S.own i a h).2.2⟩
  same := S.same.trans s
  sub := S.sub
  keep := fun a o h z => s a o (S.keep a o h z)
theorem Sd.alw (S : Sd K b F O H σ ρ) {a : Addr} (h : F a ∨ (∃ i, a ∈ O i) ∨ H a = none) : Alw E a := by
  rcases h with h | ⟨i, h⟩ | h
  · exact b.al a (S.fr a h)
  · exact b.al a (.inr (S.own i a h).2.1)
  · exact b.al a (.inr (S.same.free h))
theorem Al.app {us us' : List Nat} : ∀ a, Al F O us a → Al F O (us ++ us') a := fun a h => h.imp id fun ⟨i, h1, h2⟩ => ⟨i, List.mem_append_left _ h1, h2⟩
theorem Al.app' {us us' : List Nat} : ∀ a, Al F O us' a → Al F O (us ++ us') a := fun a h => h.imp id fun ⟨i, h1, h2⟩ => ⟨i, List.mem_append_right _ h1, h2⟩
theorem Mv.app {us us' : List Nat} : ∀ a, Mv O us a → Mv O (us ++ us') a := fun a ⟨i, h1, h2⟩ => ⟨i, List.mem_append_left _ h1, h2⟩
theorem Mv.app' {us us' : List Nat} : ∀ a, Mv O us' a → Mv O (us ++ us') a := fun a ⟨i, h1, h2⟩ => ⟨i, List.mem_append_right _ h1, h2⟩
theorem Al.or {us us' : List Nat} : ∀ a, (Al F O us a ∨ Al F O us' a) → Al F O (us ++ us') a := fun a h => h.elim (Al.app a) (Al.app' a)
theorem Mv.or {us us' : List Nat} : ∀ a, (Mv O us a ∨ Mv O us' a) → Mv O (us ++ us') a := fun a h => h.elim (Mv.app a) (Mv.app' a)
theorem Sd.al_dom (S : Sd K b F O H σ ρ) {us : List Nat} {a : Addr} (h : Al F O us a) : H a ≠ none := by
  rcases h with h | ⟨i, _, h⟩
  · exact S.fdom a h
  · exact (S.own i a h).2.2
theorem Sd.mv_dom (S : Sd K b F O H σ ρ) {us : List Nat} {a : Addr} (h : Mv O us a) : H a ≠ none := by
  obtain ⟨i, _, h⟩ := h
  exact (S.own i a h).2.2
/-- the lists of two expressions' names, apart -/
def apart (us mv us' mv' : List Nat) : Bool := (mv.all fun i => !us'.contains i && !mv'.contains i) && mv'.all fun i => !us.contains i
theorem Sd.mv_al (S : Sd K b F O H σ ρ) {mv us : List Nat} (h : ∀ i ∈ mv, i ∉ us) : ∀ a, Mv O mv a → ¬ Al F O us a := fun a ⟨i, h1, h2⟩ z => by
  rcases z with z | ⟨j, h3, h4⟩
  · exact (S.own i a h2).1 z
  · exact S.dj i j (fun e => h i h1 (e ▸ h3)) a h2 h4
theorem Sd.mv_mv (S : Sd K b F O H σ ρ) {mv us : List Nat} (h : ∀ i ∈ mv, i ∉ us) : ∀ a, Mv O mv a → ¬ Mv O us a := fun a ⟨i, h1, h2⟩ ⟨j, h3, h4⟩ => S.dj i j (fun e => h i h1 (e ▸ h3)) a h2 h4
theorem apart_1 {us mv us' mv' : List Nat} (h : apart us mv us' mv' = true) : (∀ i ∈ mv, i ∉ us') ∧ (∀ i ∈ mv, i ∉ mv') ∧ ∀ i ∈ mv', i ∉ us := by
  unfold apart at h
  simp only [Bool.and_eq_true, List.all_eq_true, Bool.not_eq_true', List.contains_eq_mem, decide_eq_false_iff_not] at h
  exact ⟨fun i hi => (h.1 i hi).1, fun i hi => (h.1 i hi).2, h.2⟩
end

/-! ### what a result asks -/
def WE (K : PySem.W.Frag) (E : XK) (G M : Addr → Prop) (H : Hp) (r : R D) (Q : VK) : Prop := match r with
  | .ok d => ∀ v H', Same H H' → RpX K G M H H' d v → Q v H'
  | .ex c d => ECond K E H c d
  | .fail => False
def WA (K : PySem.W.Frag) (E : XK) (G M : Addr → Prop) (H : Hp) (r : R (List D)) (Q : List V → Hp → Prop) : Prop := match r with
  | .ok ds => ∀ vs H', Same H H' → RpXL K G M H H' ds vs → Q vs H'
  | .ex c d => ECond K E H c d
  | .fail => False
def WT (K : PySem.W.Frag) (E : XK) (H : Hp) (r : R Bool) (Q : Bool → Hp → Prop) : Prop := match r with
  | .ok k => ∀ H', Same H H' → Q k H'
  | .ex c d => ECond K E H c d
  | .fail => False
/-- the reading t comes to m; us: the names whose own lists the result may lean on; mv: the names whose own lists it takes -/
def SndE (K : PySem.W.Frag) (E : XK) (t : TE) (m : Env → R D) (us mv : List Nat) : Prop := ∀ (b : Bs E) F O H σ ρ, Sd K b F O H σ ρ → ∀ Q, WE K E (Al F O us) (Mv O mv) H (m ρ) Q → t σ H Q
def SndA (K : PySem.W.Frag) (E : XK) (t : TA) (m : Env → R (List D)) (us mv : List Nat) : Prop := ∀ (b : Bs E) F O H σ ρ, Sd K b F O H σ ρ → ∀ Q, WA K E (Al F O us) (Mv O mv) H (m ρ) Q → t σ H Q
def SndT (K : PySem.W.Frag) (E : XK) (t : TT) (m : Env → R Bool) : Prop := ∀ (b : Bs E) F O H σ ρ, Sd K b F O H σ ρ → ∀ Q, WT K E H (m ρ) Q → t σ H Q

section
variable {K : PySem.W.Frag} {E : XK} {ta tb te : TE} {ma mb me : Env → R D} {us us' mv mv' : List Nat} {tr : TA} {mr : Env → R (List D)}
theorem al_f {F : Addr → Prop} {O : Nat → List Addr} : ∀ a, F a → Al F O us a := fun _ h => .inl h
/-- the value that stands at a name; its own lists are shared from now on -/
def rdV (i : Nat) : Env → R D := fun ρ => match ρ[i]? with
  | some (some d) => .ok (fz d)
  | _ => .fail
def mvV (i : Nat) : Env → R D := fun ρ => match ρ[i]? with
  | some (some d) => .ok d
  | _ => .fail
theorem snd_var (i : Nat) : SndE K E (tVar i) (rdV i) [i] [] := by
  intro b F O H σ ρ S Q h
  unfold rdV at h
  cases e : ρ[i]? with
  | none => rw [e] at h; exact h.elim
  | some o =>
    cases o with
    | none => rw [e] at h; exact h.elim
    | some d =>
      rw [e] at h
      obtain ⟨v, h1, h2⟩ := S.at_ i d e
      refine ⟨v, h1, h v H (Same.refl H) ⟨Al F O [i], [], fun a z => ⟨.inl z, S.al_dom z⟩, List.nodup_nil, (fun _ z => nomatch z), ?_⟩⟩
      exact Rp.fz (fun a z => .inl z) d v _ (fun a z => .inr ⟨i, List.mem_cons_self, z⟩) h2
theorem snd_mv (i : Nat) : SndE K E (tVar i) (mvV i) [] [i] := by
  intro b F O H σ ρ S Q h
  unfold mvV at h
  cases e : ρ[i]? with
  | none => rw [e] at h; exact h.elim
  | some o =>
    cases o with
    | none => rw [e] at h; exact h.elim
    | some d =>
      rw [e] at h
      obtain ⟨v, h1, h2⟩ := S.at_ i d e
      exact ⟨v, h1, h v H (Same.refl H) ⟨F, O i, fun a z => ⟨.inl (.inl z), S.fdom a z⟩, S.nd i, fun a z => ⟨.inr ⟨i, List.mem_cons_self, z⟩, (S.own i a z).1⟩, h2⟩⟩
theorem snd_int (i : Int) : SndE K E (tC (.int i)) (fun _ => .ok (.int i)) [] [] := fun _ _ _ H _ _ _ _ h => h _ H (Same.refl H) (.int i)
theorem snd_bl (i : Bool) : SndE K E (tC (.bl i)) (fun _ => .ok (.bl i)) [] [] := fun _ _ _ H _ _ _ _ h => h _ H (Same.refl H) (.bl i)
theorem snd_str (i : Str) : SndE K E (tC (.str i)) (fun _ => .ok (.str i)) [] [] := fun _ _ _ H _ _ _ _ h => h _ H (Same.refl H) (.str i)
theorem snd_non : SndE K E (tC .non) (fun _ => .ok .non) [] [] := fun _ _ _ H _ _ _ _ h => h _ H (Same.refl H) .non

/-! ### lists of arguments -/
theorem sna_nil : SndA K E tNil (fun _ => .ok []) [] [] := fun _ _ _ H _ _ _ _ h => h _ H (Same.refl H) .nil
theorem sna_cons (ha : SndE K E ta ma us mv) (hr : SndA K E tr mr us' mv') (ap : apart us mv us' mv' = true := by rfl) :
    SndA K E (tCons ta tr) (fun ρ => (ma ρ).bind fun d => (mr ρ).bind fun ds => .ok (d :: ds)) (us ++ us') (mv ++ mv') := by
  intro b F O H σ ρ S Q h
  obtain ⟨a1, a2, a3⟩ := apart_1 ap
  show ta σ H fun x H1 => tr σ H1 fun xs H2 => Q (x :: xs) H2
  refine ha b F O H σ ρ S _ ?_
  cases e : ma ρ with
  | fail => simp only [e, R.bind_ok, R.bind_ex, R.bind_fail] at h; exact h
  | ex c d => simp only [e, R.bind_ok, R.bind_ex, R.bind_fail] at h; exact h
  | ok d =>
    simp only [e, R.bind_ok, R.bind_ex, R.bind_fail] at h
    intro v H1 s1 r1
    refine hr b F O H1 σ ρ (S.fwd s1) _ ?_
    cases e2 : mr ρ with
    | fail => simp only [e2, R.bind_ok, R.bind_ex, R.bind_fail] at h; exact h
    | ex c d2 => simp only [e2, R.bind_ok, R.bind_ex, R.bind_fail] at h; exact h.mono s1
    | ok ds =>
      simp only [e2, R.bind_ok, R.bind_ex, R.bind_fail] at h
      intro vs H2 s2 r2
      refine h (v :: vs) H2 (s1.trans s2) ?_
      exact (RpXL.cons r1 s1 s2 r2 (fun a z => ⟨S.mv_al a1 a z, S.mv_mv a2 a z⟩) (fun a z => ⟨S.mv_al a3 a z, S.mv_dom z⟩) fun a z => S.al_dom z).mono Al.or Mv.or
/-! ### operations on values -/
def ofO {α : Type} : Option α → R α
  | some a => .ok a
  | none => .fail
/-- r on values that are ds comes to f ds, which may lean on them -/
def OpN (K : PySem.W.Frag) (r : List V → Hp → VK → Prop) (f : List D → Option D) : Prop := ∀ G M H H' ds vs z Q, Same H H' → RpXL K G M H H' ds vs → (∀ a, G a → H a ≠ none) → (∀ a, M a → H a ≠ none) → f ds = some z →
  (∀ w H'', Same H' H'' → RpX K G M H H'' z w → Q w H'') → r vs H' Q
/-- .. comes to a scalar -/
def OpS (K : PySem.W.Frag) (r : List V → Hp → VK → Prop) (f : List D → Option D) : Prop := ∀ F as H ds vs z Q, RpL K F H ds vs as → f ds = some z →
  (∀ w, (∀ F H, Rp K F H z w []) → sc z = true → Q w H) → r vs H Q
theorem ofO_some {α : Type} {a : α} : ofO (some a) = .ok a := rfl
theorem ofO_none {α : Type} : (ofO none : R α) = .fail := rfl
theorem snd_cb {r : List V → Hp → VK → Prop} {f : List D → Option D} (hr : OpN K r f) (ha : SndA K E tr mr us mv) : SndE K E (tCB r tr) (fun ρ => (mr ρ).bind fun ds => ofO (f ds)) us mv := by
  intro b F O H σ ρ S Q h
  refine ha b F O H σ ρ S _ ?_
  cases e : mr ρ with
  | fail => simp only [e, R.bind_ok, R.bind_ex, R.bind_fail] at h; exact h
  | ex c d => simp only [e, R.bind_ok, R.bind_ex, R.bind_fail] at h; exact h
  | ok ds =>
    simp only [e, R.bind_ok, R.bind_ex, R.bind_fail] at h
    intro vs H1 s1 r1
    cases e2 : f ds with
    | none => simp only [e2, ofO_some, ofO_none, R.bind_ok, R.bind_ex, R.bind_fail] at h; exact h.elim
    | some z =>
      simp only [e2, ofO_some, ofO_none, R.bind_ok, R.bind_ex, R.bind_fail] at h
      exact hr _ _ H H1 ds vs z Q s1 r1 (fun a z => S.al_dom z) (fun a z => S.mv_dom z) e2 fun w H2 s2 r2 => h w H2 (s1.trans s2) r2
theorem snd_cs {r : List V → Hp → VK → Prop} {f : List D → Option D} (hr : OpS K r f) (ha : SndA K E tr mr us mv) : SndE K E (tCB r tr) (fun ρ => (mr ρ).bind fun ds => ofO (f ds)) [] [] := by
  intro b F O H σ ρ S Q h
  refine ha b F O H σ ρ S _ ?_
  cases e : mr ρ with
  | fail => simp only [e, R.bind_ok, R.bind_ex, R.bind_fail] at h; exact h
  | ex c d => simp only [e, R.bind_ok, R.bind_ex, R.bind_fail] at h; exact h
  | ok ds =>
    simp only [e, R.bind_ok, R.bind_ex, R.bind_fail] at h
    intro vs H1 s1 r1
    cases e2 : f ds with
    | none => simp only [e2, ofO_some, ofO_none, R.bind_ok, R.bind_ex, R.bind_fail] at h; exact h.elim
    | some z =>
      simp only [e2, ofO_some, ofO_none, R.bind_ok, R.bind_ex, R.bind_fail] at h
      obtain ⟨F', as, _, _, _, r⟩ := r1
      exact hr F' as H1 ds vs z Q r e2 fun w rz hz => h w H1 s1 (.scal hz rz)
/-- two operands -/
def r2 (r : R2) : List V → Hp → VK → Prop := fun vs H Q => ∃ x y, vs = [x, y] ∧ r x y H Q
def o2 (f : D → D → Option D) : List D → Option D
  | [x, y] => f x y
  | _ => none
theorem snd_two (ha : SndE K E ta ma us mv) (hb : SndE K E tb mb us' mv') (ap : apart us mv us' mv' = true) {b : Bs E} {F O H σ ρ} (S : Sd K b F O H σ ρ) {RR : V → V → Hp → Prop}
    (h : WA K E (Al F O (us ++ us')) (Mv O (mv ++ mv')) H ((ma ρ).bind fun x => (mb ρ).bind fun y => .ok [x, y]) (fun vs H2 => ∃ x y, vs = [x, y] ∧ RR x y H2)) : ta σ H fun x H1 => tb σ H1 fun y H2 => RR x y H2 := by
  obtain ⟨a1, a2, a3⟩ := apart_1 ap
  refine ha b F O H σ ρ S _ ?_
  cases e : ma ρ with
  | fail => simp only [e, R.bind_ok, R.bind_ex, R.bind_fail] at h; exact h
  | ex c d => simp only [e, R.bind_ok, R.bind_ex, R.bind_fail] at h; exact h
  | ok d =>
    simp only [e, R.bind_ok, R.bind_ex, R.bind_fail] at h
    intro v H1 s1 r1
    refine hb b F O H1 σ ρ (S.fwd s1) _ ?_
    cases e2 : mb ρ with
    | fail => simp only [e2, R.bind_ok, R.bind_ex, R.bind_fail] at h; exact h
    | ex c d2 => simp only [e2, R.bind_ok, R.bind_ex, R.bind_fail] at h; exact h.mono s1
    | ok d2 =>
      simp only [e2, R.bind_ok, R.bind_ex, R.bind_fail] at h
      intro u H2 s2 r2
      have r2' : RpXL K (Al F O us') (Mv O mv') H1 H2 [d2] [u] := by
        obtain ⟨F', as, h1, h2, h3, h4⟩ := r2
        exact ⟨F', as, h1, h2, h3, .one h4⟩
      obtain ⟨x, y, ev, q⟩ := h [v, u] H2 (s1.trans s2) ((RpXL.cons r1 s1 s2 r2' (fun a z => ⟨S.mv_al a1 a z, S.mv_mv a2 a z⟩) (fun a z => ⟨S.mv_al a3 a z, S.mv_dom z⟩) fun a z => S.al_dom z).mono Al.or Mv.or)
      cases ev
      exact q
def bin (ma mb : Env → R D) (f : D → D → Option D) : Env → R D := fun ρ => (ma ρ).bind fun x => (mb ρ).bind fun y => ofO (f x y)
theorem snd_opN {r : R2} {f : D → D → Option D} (hr : OpN K (r2 r) (o2 f)) (ha : SndE K E ta ma us mv) (hb : SndE K E tb mb us' mv') (ap : apart us mv us' mv' = true := by rfl) : SndE K E (tOp r ta tb) (bin ma mb f) (us ++ us') (mv ++ mv') := by
  intro b F O H σ ρ S Q h
  refine snd_two ha hb ap S ?_
  unfold bin at h
  cases e : ma ρ with
  | fail => simp only [e, R.bind_ok, R.bind_ex, R.bind_fail] at h; exact h
  | ex c d => simp only [e, R.bind_ok, R.bind_ex, R.bind_fail] at h; exact h
  | ok d =>
    simp only [e, R.bind_ok, R.bind_ex, R.bind_fail] at h ⊢
    cases e2 : mb ρ with
    | fail => simp only [e2, R.bind_ok, R.bind_ex, R.bind_fail] at h; exact h
    | ex c d => simp only [e2, R.bind_ok, R.bind_ex, R.bind_fail] at h; exact h
    | ok d2 =>
      simp only [e2, R.bind_ok, R.bind_ex, R.bind_fail] at h ⊢
      intro vs H2 s2 r2
      cases e3 : f d d2 with
      | none => simp only [e3, ofO_some, ofO_none, R.bind_ok, R.bind_ex, R.bind_fail] at h; exact h.elim
      | some z =>
        simp only [e3, ofO_some, ofO_none, R.bind_ok, R.bind_ex, R.bind_fail] at h
        exact hr _ _ H H2 [d, d2] vs z Q s2 r2 (fun a z => S.al_dom z) (fun a z => S.mv_dom z) e3 fun w H3 s3 r3 => h w H3 (s2.trans s3) r3
theorem snd_opS {r : R2} {f : D → D → Option D} (hr : OpS K (r2 r) (o2 f)) (ha : SndE K E ta ma us mv) (hb : SndE K E tb mb us' mv') (ap : apart us mv us' mv' = true := by rfl) : SndE K E (tOp r ta tb) (bin ma mb f) [] [] := by
  intro b F O H σ ρ S Q h
  refine snd_two ha hb ap S ?_
  unfold bin at h
  cases e : ma ρ with
  | fail => simp only [e, R.bind_ok, R.bind_ex, R.bind_fail] at h; exact h
  | ex c d => simp only [e, R.bind_ok, R.bind_ex, R.bind_fail] at h; exact h
  | ok d =>
    simp only [e, R.bind_ok, R.bind_ex, R.bind_fail] at h ⊢
    cases e2 : mb ρ with
    | fail => simp only [e2, R.bind_ok, R.bind_ex, R.bind_fail] at h; exact h
    | ex c d => simp only [e2, R.bind_ok, R.bind_ex, R.bind_fail] at h; exact h
    | ok d2 =>
      simp only [e2, R.bind_ok, R.bind_ex, R.bind_fail] at h ⊢
      intro vs H2 s2 r2
      cases e3 : f d d2 with
      | none => simp only [e3, ofO_some, ofO_none, R.bind_ok, R.bind_ex, R.bind_fail] at h; exact h.elim
      | some z =>
        simp only [e3, ofO_some, ofO_none, R.bind_ok, R.bind_ex, R.bind_fail] at h
        obtain ⟨F', as, _, _, _, r⟩ := r2
        exact hr F' as H2 [d, d2] vs z Q r e3 fun w rz hz => h w H2 s2 (.scal hz rz)
/-- one operand -/
theorem snd_un {r : V → Hp → VK → Prop} {f : D → Option D} (hr : ∀ F as H d v z Q, Rp K F H d v as → f d = some z → (∀ w, (∀ F H, Rp K F H z w []) → sc z = true → Q w H) → r v H Q) (ha : SndE K E ta ma us mv) : SndE K E (tUn r ta) (fun ρ => (ma ρ).bind fun x => ofO (f x)) [] [] := by
  intro b F O H σ ρ S Q h
  refine ha b F O H σ ρ S _ ?_
  cases e : ma ρ with
  | fail => simp only [e, R.bind_ok, R.bind_ex, R.bind_fail] at h; exact h
  | ex c d => simp only [e, R.bind_ok, R.bind_ex, R.bind_fail] at h; exact h
  | ok d =>
    simp only [e, R.bind_ok, R.bind_ex, R.bind_fail] at h
    intro v H1 s1 r1
    cases e2 : f d with
    | none => simp only [e2, ofO_some, ofO_none, R.bind_ok, R.bind_ex, R.bind_fail] at h; exact h.elim
    | some z =>
      simp only [e2, ofO_some, ofO_none, R.bind_ok, R.bind_ex, R.bind_fail] at h
      obtain ⟨F', as, _, _, _, r⟩ := r1
      exact hr F' as H1 d v z Q r e2 fun w rz hz => h w H1 s1 (.scal hz rz)

/-! ### tests -/
def asB : D → Option Bool
  | .bl b => some b
  | _ => none
def tst (m : Env → R D) : Env → R Bool := fun ρ => (m ρ).bind fun d => ofO (asB d)
theorem asB_ok {d : D} {k : Bool} (h : asB d = some k) : d = .bl k := by
  cases d <;> first | (simp [asB] at h; rw [h]) | (simp [asB] at h)
theorem snt_of (ha : SndE K E ta ma us mv) {Q : Bool → Hp → Prop} {b : Bs E} {F O H σ ρ} (S : Sd K b F O H σ ρ) (h : WT K E H (tst ma ρ) Q) : ta σ H fun x H' => ∃ k, x = .bl k ∧ Q k H' := by
  refine ha b F O H σ ρ S _ ?_
  unfold tst at h
  cases e : ma ρ with
  | fail => simp only [e, R.bind_ok, R.bind_ex, R.bind_fail] at h; exact h
  | ex c d => simp only [e, R.bind_ok, R.bind_ex, R.bind_fail] at h; exact h
  | ok d =>
    simp only [e, R.bind_ok, R.bind_ex, R.bind_fail] at h
    intro v H1 s1 r1
    cases e2 : asB d with
    | none => simp only [e2, ofO_some, ofO_none, R.bind_ok, R.bind_ex, R.bind_fail] at h; exact h.elim
    | some k =>
      simp only [e2, ofO_some, ofO_none, R.bind_ok, R.bind_ex, R.bind_fail] at h
      obtain ⟨F', as, _, _, _, r⟩ := r1
      rw [asB_ok e2] at r
      exact ⟨k, r.1, h H1 s1⟩
theorem snt_b (ha : SndE K E ta ma us mv) : SndT K E (tB ta) (tst ma) := fun _ _ _ _ _ _ S _ h => snt_of ha S h
theorem snt_test (ha : SndE K E ta ma us mv) : SndT K E (tTest ta) (tst ma) := fun _ _ _ _ _ _ S _ h => snt_of ha S h
variable {t1 t2 : TT} {m1 m2 : Env → R Bool}
def mAnd (m1 m2 : Env → R Bool) : Env → R Bool := fun ρ => (m1 ρ).bind fun k => if k then m2 ρ else .ok false
def mOr (m1 m2 : Env → R Bool) : Env → R Bool := fun ρ => (m1 ρ).bind fun k => if k then .ok true else m2 ρ
def mNot (m1 : Env → R Bool) : Env → R Bool := fun ρ => (m1 ρ).bind fun k => .ok !k
theorem WT.mono {H H1 : Hp} {r : R Bool} {Q : Bool → Hp → Prop} (h : WT K E H r Q) (s : Same H H1) : WT K E H1 r Q := by
  cases r with
  | ok k => exact fun H' s' => h H' (s.trans s')
  | ex c d => exact ECond.mono h s
  | fail => exact h
theorem snt_and (h1 : SndT K E t1 m1) (h2 : SndT K E t2 m2) : SndT K E (tAnd t1 t2) (mAnd m1 m2) := by
  intro b F O H σ ρ S Q h
  refine h1 b F O H σ ρ S _ ?_
  unfold mAnd at h
  cases e : m1 ρ with
  | fail => simp only [e, R.bind_ok, R.bind_ex, R.bind_fail] at h; exact h
  | ex c d => simp only [e, R.bind_ok, R.bind_ex, R.bind_fail] at h; exact h
  | ok k =>
    simp only [e, R.bind_ok, R.bind_ex, R.bind_fail] at h
    intro H1 s1
    cases k with
    | true => exact iteT (h2 b F O H1 σ ρ (S.fwd s1) Q (WT.mono h s1))
    | false => exact iteF (h H1 s1)
theorem snt_or (h1 : SndT K E t1 m1) (h2 : SndT K E t2 m2) : SndT K E (tOr t1 t2) (mOr m1 m2) := by
  intro b F O H σ ρ S Q h
  refine h1 b F O H σ ρ S _ ?_
  unfold mOr at h
  cases e : m1 ρ with
  | fail => simp only [e, R.bind_ok, R.bind_ex, R.bind_fail] at h; exact h
  | ex c d => simp only [e, R.bind_ok, R.bind_ex, R.bind_fail] at h; exact h
  | ok k =>
    simp only [e, R.bind_ok, R.bind_ex, R.bind_fail] at h
    intro H1 s1
    cases k with
    | true => exact iteT (h H1 s1)
    | false => exact iteF (h2 b F O H1 σ ρ (S.fwd s1) Q (WT.mono h s1))
theorem snt_not (h1 : SndT K E t1 m1) : SndT K E (tNot t1) (mNot m1) := by
  intro b F O H σ ρ S Q h
  refine h1 b F O H σ ρ S _ ?_
  unfold mNot at h
  cases e : m1 ρ with
  | fail => simp only [e, R.bind_ok, R.bind_ex, R.bind_fail] at h; exact h
  | ex c d => simp only [e, R.bind_ok, R.bind_ex, R.bind_fail] at h; exact h
  | ok k =>
    simp only [e, R.bind_ok, R.bind_ex, R.bind_fail] at h
    exact fun H1 s1 => h H1 s1
/-! ### and, or, not as values; a if t else b -/
theorem WE.mono {G M : Addr → Prop} {H H1 : Hp} {r : R D} {Q : VK} (h : WE K E G M H r Q) (s : Same H H1) : WE K E G M H1 r Q := by
  cases r with
  | ok k => exact fun v H' s' r => h v H' (s.trans s') (r.back s)
  | ex c d => exact ECond.mono h s
  | fail => exact h
theorem WE.wider {G M G' M' : Addr → Prop} {H : Hp} {r : R D} {Q : VK} (h : WE K E G M H r Q) (hG : ∀ a, G' a → G a) (hM : ∀ a, M' a → M a) : WE K E G' M' H r Q := by
  cases r with
  | ok k => exact fun v H' s' r => h v H' s' (r.mono hG hM)
  | ex c d => exact h
  | fail => exact h
def vAnd (m1 m2 : Env → R D) : Env → R D := fun ρ => (tst m1 ρ).bind fun k => if k then m2 ρ else .ok (.bl false)
def vOr (m1 m2 : Env → R D) : Env → R D := fun ρ => (tst m1 ρ).bind fun k => if k then .ok (.bl true) else m2 ρ
def vNot (m1 : Env → R D) : Env → R D := fun ρ => (tst m1 ρ).bind fun k => .ok (.bl !k)
theorem snd_and (ha : SndE K E ta ma us mv) (hb : SndE K E tb mb us' mv') : SndE K E (tAndV ta tb) (vAnd ma mb) us' mv' := by
  intro b F O H σ ρ S Q h
  refine snt_of ha S ?_
  unfold vAnd at h
  cases e : tst ma ρ with
  | fail => simp only [e, R.bind_ok, R.bind_ex, R.bind_fail] at h; exact h
  | ex c d => simp only [e, R.bind_ok, R.bind_ex, R.bind_fail] at h; exact h
  | ok k =>
    simp only [e, R.bind_ok, R.bind_ex, R.bind_fail] at h
    intro H1 s1
    cases k with
    | true => exact iteT (hb b F O H1 σ ρ (S.fwd s1) Q (WE.mono h s1))
    | false => exact iteF (h _ H1 s1 (.bl false))
theorem snd_or (ha : SndE K E ta ma us mv) (hb : SndE K E tb mb us' mv') : SndE K E (tOrV ta tb) (vOr ma mb) us' mv' := by
  intro b F O H σ ρ S Q h
  refine snt_of ha S ?_
  unfold vOr at h
  cases e : tst ma ρ with
  | fail => simp only [e, R.bind_ok, R.bind_ex, R.bind_fail] at h; exact h
  | ex c d => simp only [e, R.bind_ok, R.bind_ex, R.bind_fail] at h; exact h
  | ok k =>
    simp only [e, R.bind_ok, R.bind_ex, R.bind_fail] at h
    intro H1 s1
    cases k with
    | true => exact iteT (h _ H1 s1 (.bl true))
    | false => exact iteF (hb b F O H1 σ ρ (S.fwd s1) Q (WE.mono h s1))
theorem snd_not (ha : SndE K E ta ma us mv) : SndE K E (tNotV ta) (vNot ma) [] [] := by
  intro b F O H σ ρ S Q h
  refine snt_of ha S ?_
  unfold vNot at h
  cases e : tst ma ρ with
  | fail => simp only [e, R.bind_ok, R.bind_ex, R.bind_fail] at h; exact h
  | ex c d => simp only [e, R.bind_ok, R.bind_ex, R.bind_fail] at h; exact h
  | ok k =>
    simp only [e, R.bind_ok, R.bind_ex, R.bind_fail] at h
    exact fun H1 s1 => h _ H1 s1 (.bl _)
def vIf (t : Env → R Bool) (m1 m2 : Env → R D) : Env → R D := fun ρ => (t ρ).bind fun k => if k then m1 ρ else m2 ρ
theorem snd_if (ht : SndT K E t1 m1) (ha : SndE K E ta ma us mv) (hb : SndE K E tb mb us' mv') : SndE K E (tIf t1 ta tb) (vIf m1 ma mb) (us ++ us') (mv ++ mv') := by
  intro b F O H σ ρ S Q h
  refine ht b F O H σ ρ S _ ?_
  unfold vIf at h
  cases e : m1 ρ with
  | fail => simp only [e, R.bind_ok, R.bind_ex, R.bind_fail] at h; exact h
  | ex c d => simp only [e, R.bind_ok, R.bind_ex, R.bind_fail] at h; exact h
  | ok k =>
    simp only [e, R.bind_ok, R.bind_ex, R.bind_fail] at h
    intro H1 s1
    cases k with
    | true => exact iteT (ha b F O H1 σ ρ (S.fwd s1) Q ((WE.mono h s1).wider Al.app Mv.app))
    | false => exact iteF (hb b F O H1 σ ρ (S.fwd s1) Q ((WE.mono h s1).wider Al.app' Mv.app'))
end
end PV
end
section
set_option Elab.async false
set_option linter.all false
set_option maxRecDepth 100000
/-! PV3: operations on values, one by one. -/
namespace PV
open PySem PySem.Spec PyProof.Rows L2
section
variable {K : PySem.W.Frag} {F F' G M : Addr → Prop} {H H' H1 H2 : Hp}
theorem upd_same_ext {p : Addr} {o : HO} (h : H p = none) : Same H (upd H p o) := fun b x e => by
  rw [upd_ne (ne_of_none e h)]
  exact e
/-- a new tuple, a new list -/
theorem RpXL.tup {ds : List D} {vs : List V} {p : Addr} (r : RpXL K G M H H1 ds vs) (hp : H1 p = none) : RpX K G M H (upd H1 p (.tup vs)) (.tup ds) (.ref p) := by
  have r2 := r.fwd (upd_same_ext (o := .tup vs) hp)
  obtain ⟨F', as, h1, h2, h3, h4⟩ := r2
  exact ⟨F', as, h1, h2, h3, p, vs, rfl, .of upd_same, h4⟩
theorem RpXL.lst {ds : List D} {vs : List V} {p : Addr} (r : RpXL K G M H H1 ds vs) (hs : Same H H1) (hp : H1 p = none) (hz : vs.length ≤ sizeLine) : RpX K G M H (upd H1 p (.lst vs)) (.lst true ds) (.ref p) := by
  have s := upd_same_ext (o := .lst vs) hp
  obtain ⟨F', as, h1, h2, h3, h4⟩ := r
  refine ⟨F', p :: as, fun a z => ⟨(h1 a z).1, same_dom s (h1 a z).2⟩, List.nodup_cons.mpr ⟨fun z => ?_, h2⟩, fun a z => ?_, p, vs, as, rfl, upd_same, hz, rfl, RpL.mono (fun _ z => z) (same_nlst s) ds vs as (fun a xs _ e => s a _ e) h4⟩
  · obtain ⟨xs, e⟩ := RpL.own ds vs as h4 p z
    rw [hp] at e; cases e
  · rcases List.mem_cons.mp z with z | z
    · rw [z]
      exact ⟨.inl (hs.free hp), fun q => (h1 p q).2 hp⟩
    · exact h3 a z
/-- parts of it -/
theorem RpXL.sub {ds es : List D} {vs us : List V} (r : RpXL K G M H H1 ds vs) (f : ∀ F as, RpL K F H1 ds vs as → ∃ bs, bs.Sublist as ∧ RpL K F H1 es us bs) : RpXL K G M H H1 es us := by
  obtain ⟨F', as, h1, h2, h3, h4⟩ := r
  obtain ⟨bs, q1, q2⟩ := f F' as h4
  exact ⟨F', bs, h1, h2.sublist q1, fun a z => h3 a (q1.subset z), q2⟩
theorem RpXL.sub1 {ds : List D} {e : D} {vs : List V} {u : V} (r : RpXL K G M H H1 ds vs) (f : ∀ F as, RpL K F H1 ds vs as → ∃ bs, bs.Sublist as ∧ Rp K F H1 e u bs) : RpX K G M H H1 e u := by
  obtain ⟨F', as, h1, h2, h3, h4⟩ := r
  obtain ⟨bs, q1, q2⟩ := f F' as h4
  exact ⟨F', bs, h1, h2.sublist q1, fun a z => h3 a (q1.subset z), q2⟩
theorem RpX.toL {d : D} {v : V} (r : RpX K G M H H1 d v) : RpXL K G M H H1 [d] [v] := by
  obtain ⟨F', as, h1, h2, h3, h4⟩ := r
  exact ⟨F', as, h1, h2, h3, .one h4⟩
theorem Rp.lst_inv {o : Bool} {ds : List D} {v : V} {as : List Addr} (h : Rp K F H (.lst o ds) v as) : ∃ a xs bs, v = .ref a ∧ H a = some (.lst xs) ∧ xs.length ≤ sizeLine ∧ bs.Sublist as ∧ RpL K F H ds xs bs := by
  cases o with
  | true =>
    obtain ⟨a, vs, bs, e1, e2, e3, e4, r⟩ := h
    exact ⟨a, vs, bs, e1, e2, e3, by rw [e4]; exact List.sublist_cons_self _ _, r⟩
  | false =>
    obtain ⟨a, vs, e1, e2, e3, e4, e5, r⟩ := h
    exact ⟨a, vs, [], e1, e2, e3, List.nil_sublist _, r⟩
theorem RpL.two {d e : D} {vs : List V} {as : List Addr} (h : RpL K F H [d, e] vs as) : ∃ v u a1 a2, vs = [v, u] ∧ as = a1 ++ a2 ∧ Rp K F H d v a1 ∧ Rp K F H e u a2 := by
  obtain ⟨v, r, a1, a2, e1, e2, r1, r2⟩ := h
  obtain ⟨u, e3, r3⟩ := RpL.of_one r2
  subst e1 e2 e3
  exact ⟨v, u, a1, a2, rfl, rfl, r1, r3⟩

/-! ### displays -/
def lenOk (n : Nat) : Bool := Nat.ble n 1000000
theorem lenOk_le {n : Nat} (h : lenOk n = true) : n ≤ sizeLine := by
  have h1 : n ≤ 1000000 := Nat.le_of_ble_eq_true h
  rw [sizeLine_eq]
  omega
def mkT (ds : List D) : Option D := if lenOk ds.length then some (.tup ds) else none
def mkL (ds : List D) : Option D := if lenOk ds.length then some (.lst true ds) else none
variable {E : XK} {tr : TA} {mr : Env → R (List D)} {us mv : List Nat}
theorem snd_tup (ha : SndA K E tr mr us mv) : SndE K E (tTup tr) (fun ρ => (mr ρ).bind fun ds => ofO (mkT ds)) us mv := by
  intro b F O H σ ρ S Q h
  refine ha b F O H σ ρ S _ ?_
  cases e : mr ρ with
  | fail => simp only [e, R.bind_ok, R.bind_ex, R.bind_fail] at h; exact h
  | ex c d => simp only [e, R.bind_ok, R.bind_ex, R.bind_fail] at h; exact h
  | ok ds =>
    simp only [e, R.bind_ok, R.bind_ex, R.bind_fail] at h
    intro vs H1 s1 r1
    unfold mkT at h
    by_cases hl : lenOk ds.length = true
    · rw [if_pos hl] at h
      have hz : vs.length ≤ sizeLine := by
        obtain ⟨F', as, _, _, _, r⟩ := r1
        rw [r.length]
        exact lenOk_le hl
      exact ⟨hz, fun p hp => h _ _ (s1.trans (upd_same_ext hp)) (r1.tup hp)⟩
    · rw [if_neg hl] at h
      exact h.elim
theorem snd_lst (ha : SndA K E tr mr us mv) : SndE K E (tLst tr) (fun ρ => (mr ρ).bind fun ds => ofO (mkL ds)) us mv := by
  intro b F O H σ ρ S Q h
  refine ha b F O H σ ρ S _ ?_
  cases e : mr ρ with
  | fail => simp only [e, R.bind_ok, R.bind_ex, R.bind_fail] at h; exact h
  | ex c d => simp only [e, R.bind_ok, R.bind_ex, R.bind_fail] at h; exact h
  | ok ds =>
    simp only [e, R.bind_ok, R.bind_ex, R.bind_fail] at h
    intro vs H1 s1 r1
    unfold mkL at h
    by_cases hl : lenOk ds.length = true
    · rw [if_pos hl] at h
      have hz : vs.length ≤ sizeLine := by
        obtain ⟨F', as, _, _, _, r⟩ := r1
        rw [r.length]
        exact lenOk_le hl
      exact ⟨hz, fun p hp => h _ _ (s1.trans (upd_same_ext hp)) (r1.lst s1 hp hz)⟩
    · rw [if_neg hl] at h
      exact h.elim

/-! ### ints -/
/-- an operation of two ints that comes to a scalar -/
def onI (f : Int → Int → Option D) : D → D → Option D
  | .int i, .int j => f i j
  | _, _ => none
theorem onI_ok {f : Int → Int → Option D} {d e z : D} (h : onI f d e = some z) : ∃ i j, d = .int i ∧ e = .int j ∧ f i j = some z := by
  cases d with
  | int i =>
    cases e with
    | int j => exact ⟨i, j, rfl, rfl, h⟩
    | _ => cases h
  | _ => cases h
theorem ops_I {C : Int → Int → Prop} {g : Int → Int → Int} {f : Int → Int → Option D} (hf : ∀ i j z, f i j = some z → C i j ∧ z = .int (g i j)) : OpS K (r2 (rI C fun i j => .int (g i j))) (o2 (onI f)) := by
  intro F as H ds vs z Q r h q
  match ds, h with
  | [d, e], h =>
    obtain ⟨i, j, rfl, rfl, h2⟩ := onI_ok h
    obtain ⟨v, u, a1, a2, rfl, e2, r1, r2⟩ := r.two
    obtain ⟨hc, rfl⟩ := hf i j z h2
    exact ⟨v, u, rfl, i, j, r1.1, r2.1, hc, q _ (fun _ _ => ⟨rfl, rfl⟩) rfl⟩
theorem ops_I0 {g : Int → Int → Int} : OpS K (r2 (rI0 fun i j => .int (g i j))) (o2 (onI fun i j => some (.int (g i j)))) := by
  intro F as H ds vs z Q r h q
  match ds, h with
  | [d, e], h =>
    obtain ⟨i, j, rfl, rfl, h2⟩ := onI_ok h
    cases h2
    obtain ⟨v, u, a1, a2, rfl, e2, r1, r2⟩ := r.two
    exact ⟨v, u, rfl, i, j, r1.1, r2.1, q _ (fun _ _ => ⟨rfl, rfl⟩) rfl⟩
theorem ops_B0 {g : Int → Int → Bool} : OpS K (r2 (rI0 fun i j => .bl (g i j))) (o2 (onI fun i j => some (.bl (g i j)))) := by
  intro F as H ds vs z Q r h q
  match ds, h with
  | [d, e], h =>
    obtain ⟨i, j, rfl, rfl, h2⟩ := onI_ok h
    cases h2
    obtain ⟨v, u, a1, a2, rfl, e2, r1, r2⟩ := r.two
    exact ⟨v, u, rfl, i, j, r1.1, r2.1, q _ (fun _ _ => ⟨rfl, rfl⟩) rfl⟩
def mulOk (i j : Int) : Bool := decide (i.natAbs < 2 ^ 64) || decide (j.natAbs < 2 ^ 64) || decide (i.natAbs.log2 + j.natAbs.log2 < 1000000)
def CMulD (i j : Int) : Prop := CMul i j ∨ CMulW i j
theorem mulOk_ok {i j : Int} (h : mulOk i j = true) : CMulD i j := by
  unfold mulOk at h
  rw [Bool.or_eq_true, Bool.or_eq_true] at h
  rcases h with (h | h) | h
  · have h1 := of_decide_eq_true h
    exact .inl (.inl (by omega))
  · have h1 := of_decide_eq_true h
    exact .inl (.inr (by omega))
  · exact .inr (show i.natAbs.log2 + j.natAbs.log2 < 1000000 from of_decide_eq_true h)
theorem op_mulD {X : Cx} : OpR X (binaryOp .Mult) (rI CMulD fun i j => .int (i * j)) := opI fun _ _ _ _ _ _ _ hc q => mul_int q (hc.elim CMul.ok CMulW.ok)
def fMul : D → D → Option D := onI fun i j => if mulOk i j then some (.int (i * j)) else none
def fAdd : D → D → Option D := onI fun i j => some (.int (i + j))
def fSub : D → D → Option D := onI fun i j => some (.int (i - j))
def fDiv : D → D → Option D := onI fun i j => if decide (0 < j) && decide (j.natAbs.log2 < 9000) then some (.int (i / j)) else none
def fMod : D → D → Option D := onI fun i j => if decide (0 < j) then some (.int (i % j)) else none
def fPow : D → D → Option D := onI fun i j => if decide (0 ≤ j) && decide (j ≤ 1000000) && decide (i.natAbs < 2 ^ 64) then some (.int (i ^ j.toNat)) else none
def fLt : D → D → Option D := onI fun i j => some (.bl (decide (i < j)))
def fLe : D → D → Option D := onI fun i j => some (.bl (decide (i ≤ j)))
def fGt : D → D → Option D := onI fun i j => some (.bl (decide (j < i)))
def fGe : D → D → Option D := onI fun i j => some (.bl (decide (j ≤ i)))
theorem ok_mul : OpS K (r2 (rI CMulD fun i j => .int (i * j))) (o2 fMul) := ops_I fun i j z h => by
  by_cases c : mulOk i j = true
  · rw [if_pos c] at h
    exact ⟨mulOk_ok c, (Option.some.inj h).symm⟩
  · rw [if_neg c] at h; cases h
theorem ok_add : OpS K (r2 (rI0 fun i j => .int (i + j))) (o2 fAdd) := ops_I0
theorem ok_sub : OpS K (r2 (rI0 fun i j => .int (i - j))) (o2 fSub) := ops_I0
theorem ok_div : OpS K (r2 (rI CDivW fun i j => .int (i / j))) (o2 fDiv) := ops_I fun i j z h => by
  by_cases c : (decide (0 < j) && decide (j.natAbs.log2 < 9000)) = true
  · rw [if_pos c] at h
    rw [Bool.and_eq_true] at c
    exact ⟨⟨of_decide_eq_true c.1, of_decide_eq_true c.2⟩, (Option.some.inj h).symm⟩
  · rw [if_neg c] at h; cases h
theorem ok_mod : OpS K (r2 (rI (fun _ j => 0 < j) fun i j => .int (i % j))) (o2 fMod) := ops_I fun i j z h => by
  by_cases c : decide (0 < j) = true
  · rw [if_pos c] at h
    exact ⟨of_decide_eq_true c, (Option.some.inj h).symm⟩
  · rw [if_neg c] at h; cases h
theorem ok_pow : OpS K (r2 (rI CPow fun i j => .int (i ^ j.toNat))) (o2 fPow) := ops_I fun i j z h => by
  by_cases c : (decide (0 ≤ j) && decide (j ≤ 1000000) && decide (i.natAbs < 2 ^ 64)) = true
  · rw [if_pos c] at h
    rw [Bool.and_eq_true, Bool.and_eq_true] at c
    exact ⟨⟨of_decide_eq_true c.1.1, of_decide_eq_true c.1.2, of_decide_eq_true c.2⟩, (Option.some.inj h).symm⟩
  · rw [if_neg c] at h; cases h
theorem ok_lt : OpS K (r2 (rI0 fun i j => .bl (decide (i < j)))) (o2 fLt) := ops_B0
theorem ok_le : OpS K (r2 (rI0 fun i j => .bl (decide (i ≤ j)))) (o2 fLe) := ops_B0
theorem ok_gt : OpS K (r2 (rI0 fun i j => .bl (decide (j < i)))) (o2 fGt) := ops_B0
theorem ok_ge : OpS K (r2 (rI0 fun i j => .bl (decide (j ≤ i)))) (o2 fGe) := ops_B0
def fNeg : D → Option D
  | .int i => some (.int (-i))
  | _ => none
variable {ta : TE} {ma : Env → R D}
theorem snd_neg (ha : SndE K E ta ma us mv) : SndE K E (tUn (rU fun i => .int (-i)) ta) (fun ρ => (ma ρ).bind fun x => ofO (fNeg x)) [] [] := snd_un (fun F as H d v z Q r h q => by
  cases d with
  | int i =>
    cases h
    exact ⟨i, r.1, q _ (fun _ _ => ⟨rfl, rfl⟩) rfl⟩
  | _ => cases h) ha

/-! ### == and != of data -/
mutual
def er : D → PyData
  | .non => .none
  | .bl b => .bool b
  | .int i => .int i
  | .str x => .str x
  | .lst _ ds => .list (erL ds)
  | .tup ds => .tuple (erL ds)
  | .dic _ _ => .dict []
  | .box _ _ => .dict []
def erL : List D → List PyData
  | [] => []
  | d :: ds => er d :: erL ds
end
mutual
theorem Rp.dp : ∀ (d : D) (v : V) (as : List Addr), (er d).canLay0 = true → Rp K F H d v as → Dp K H v (er d)
  | .non, v, as, _, h => by rw [h.1]; exact .non
  | .bl b, v, as, _, h => by rw [h.1]; exact .bl b
  | .int i, v, as, _, h => by rw [h.1]; exact .int i
  | .str x, v, as, _, h => by rw [h.1]; exact .str x
  | .lst o ds, v, as, hc, h => by
    obtain ⟨a, xs, bs, rfl, e2, e3, e4, r⟩ := h.lst_inv
    exact .lst (.of e2) (RpL.dp ds xs bs (by simpa [er, PyData.canLay0] using hc) r)
  | .tup ds, v, as, hc, h => by
    obtain ⟨a, vs, rfl, e2, r⟩ := h
    exact .tup e2 (RpL.dp ds vs as (by simpa [er, PyData.canLay0] using hc) r)
  | .dic ks ds, v, as, hc, h => by simp [er, PyData.canLay0] at hc
  | .box ks ds, v, as, hc, h => by simp [er, PyData.canLay0] at hc
theorem RpL.dp : ∀ (ds : List D) (vs : List V) (as : List Addr), PyData.canLayAll0 (erL ds) = true → RpL K F H ds vs as → DpAll K H vs (erL ds)
  | [], vs, as, _, h => by rw [h.1]; exact .nil
  | d :: ds, vs, as, hc, h => by
    obtain ⟨v, r, a1, a2, e1, e2, r1, r2⟩ := h
    obtain ⟨c1, c2⟩ : (er d).canLay0 = true ∧ PyData.canLayAll0 (erL ds) = true := by simpa [erL, PyData.canLayAll0] using hc
    rw [e1]
    exact .cons (Rp.dp d v a1 c1 r1) (RpL.dp ds r a2 c2 r2)
end
theorem shaped_lay {d : PyData} (h : SeqAt.shaped d = true) : d.canLay0 = true := by
  unfold SeqAt.shaped at h
  rw [Bool.and_eq_true] at h
  exact h.1
def fEq : D → D → Option D := fun d e => if SeqAt.shaped (er d) && SeqAt.shaped (er e) then some (.bl (PyData.eqv (er d) (er e))) else none
def fNe : D → D → Option D := fun d e => if SeqAt.shaped (er d) && SeqAt.shaped (er e) then some (.bl (!PyData.eqv (er d) (er e))) else none
theorem ok_eq : OpS K (r2 (rEqD K)) (o2 fEq) := by
  intro F as H ds vs z Q r h q
  match ds, h with
  | [d, e], h =>
    obtain ⟨v, u, a1, a2, rfl, e2, r1, r2⟩ := r.two
    have h2 : fEq d e = some z := h
    unfold fEq at h2
    by_cases c : (SeqAt.shaped (er d) && SeqAt.shaped (er e)) = true
    · rw [if_pos c] at h2
      cases h2
      rw [Bool.and_eq_true] at c
      exact ⟨v, u, rfl, er d, er e, r1.dp _ _ _ (shaped_lay c.1), r2.dp _ _ _ (shaped_lay c.2), c.1, c.2, q _ (fun _ _ => ⟨rfl, rfl⟩) rfl⟩
    · rw [if_neg c] at h2; cases h2
theorem ok_ne : OpS K (r2 (rNeD K)) (o2 fNe) := by
  intro F as H ds vs z Q r h q
  match ds, h with
  | [d, e], h =>
    obtain ⟨v, u, a1, a2, rfl, e2, r1, r2⟩ := r.two
    have h2 : fNe d e = some z := h
    unfold fNe at h2
    by_cases c : (SeqAt.shaped (er d) && SeqAt.shaped (er e)) = true
    · rw [if_pos c] at h2
      cases h2
      rw [Bool.and_eq_true] at c
      exact ⟨v, u, rfl, er d, er e, r1.dp _ _ _ (shaped_lay c.1), r2.dp _ _ _ (shaped_lay c.2), c.1, c.2, q _ (fun _ _ => ⟨rfl, rfl⟩) rfl⟩
    · rw [if_neg c] at h2; cases h2
/-! ### is None -/
def isN : D → Bool
  | .non => true
  | _ => false
def fIs (d e : D) : Option D := if isN e then some (.bl (isN d)) else none
def fIsNot (d e : D) : Option D := if isN e then some (.bl (!isN d)) else none
theorem isN_v {d : D} {v : V} {as : List Addr} (r : Rp K F H d v as) : decide (v = .non) = isN d := by
  cases d with
  | non => rw [r.1]; rfl
  | bl b => rw [r.1]; rfl
  | int i => rw [r.1]; rfl
  | str x => rw [r.1]; rfl
  | lst o ds =>
    obtain ⟨a, xs, bs, rfl, _⟩ := r.lst_inv
    rfl
  | tup ds =>
    obtain ⟨a, vs, rfl, _⟩ := r
    rfl
  | dic ks ds =>
    obtain ⟨a, vs, rfl, _⟩ := r
    rfl
  | box ks ds =>
    obtain ⟨a, vs, rfl, _⟩ := r
    rfl
theorem isN_eq {d : D} {v : V} {as : List Addr} (r : Rp K F H d v as) (h : isN d = true) : v = .non := by
  cases d <;> first | exact r.1 | cases h
theorem ok_is : OpS K (r2 (fun x y H Q => y = V.non ∧ Q (.bl (decide (x = .non))) H)) (o2 fIs) := by
  intro F as H ds vs z Q r h q
  match ds, h with
  | [d, e], h =>
    obtain ⟨v, u, a1, a2, rfl, e2, r1, r2⟩ := r.two
    have h2 : fIs d e = some z := h
    unfold fIs at h2
    by_cases c : isN e = true
    · rw [if_pos c] at h2
      cases h2
      exact ⟨v, u, rfl, isN_eq r2 c, by rw [isN_v r1]; exact q _ (fun _ _ => ⟨rfl, rfl⟩) rfl⟩
    · rw [if_neg c] at h2; cases h2
theorem ok_isnot : OpS K (r2 (fun x y H Q => y = V.non ∧ Q (.bl (!decide (x = .non))) H)) (o2 fIsNot) := by
  intro F as H ds vs z Q r h q
  match ds, h with
  | [d, e], h =>
    obtain ⟨v, u, a1, a2, rfl, e2, r1, r2⟩ := r.two
    have h2 : fIsNot d e = some z := h
    unfold fIsNot at h2
    by_cases c : isN e = true
    · rw [if_pos c] at h2
      cases h2
      exact ⟨v, u, rfl, isN_eq r2 c, by rw [isN_v r1]; exact q _ (fun _ _ => ⟨rfl, rfl⟩) rfl⟩
    · rw [if_neg c] at h2; cases h2
/-! ### built-in functions -/
def fLen : List D → Option D
  | [.lst _ ds] => some (.int ds.length)
  | [.tup ds] => some (.int ds.length)
  | [.str x] => if lenOk x.length then some (.int x.length) else none
  | _ => none
theorem ok_len : OpS K (fun xs H Q => ∃ x n, xs = [x] ∧ LenV K x H n ∧ Q (.int n) H) fLen := by
  intro F as H ds vs z Q r h q
  match ds, h with
  | [.lst o ds], h =>
    cases h
    obtain ⟨v, rfl, r1⟩ := r.of_one
    obtain ⟨a, xs, bs, rfl, e2, e3, e4, r2⟩ := r1.lst_inv
    exact ⟨_, ds.length, rfl, .inl ⟨xs, .of e2, r2.length.symm⟩, q _ (fun _ _ => ⟨rfl, rfl⟩) rfl⟩
  | [.tup ds], h =>
    cases h
    obtain ⟨v, rfl, r1⟩ := r.of_one
    obtain ⟨a, vs, rfl, e2, r2⟩ := r1
    exact ⟨_, ds.length, rfl, .inr ⟨vs, e2, r2.length.symm⟩, q _ (fun _ _ => ⟨rfl, rfl⟩) rfl⟩
  | [.str x], h =>
    obtain ⟨v, rfl, r1⟩ := r.of_one
    have h2 : (if lenOk x.length then some (D.int x.length) else none) = some z := h
    by_cases c : lenOk x.length = true
    · rw [if_pos c] at h2
      cases h2
      rw [r1.1]
      exact ⟨_, x.length, rfl, ⟨lenOk_le c, rfl⟩, q _ (fun _ _ => ⟨rfl, rfl⟩) rfl⟩
    · rw [if_neg c] at h2; cases h2
def fAbs : List D → Option D
  | [.int i] => some (.int (if i < 0 then -i else i))
  | _ => none
theorem ok_abs : OpS K (fun xs H Q => ∃ i, xs = [.int i] ∧ Q (.int (if i < 0 then -i else i)) H) fAbs := by
  intro F as H ds vs z Q r h q
  match ds, h with
  | [.int i], h =>
    cases h
    obtain ⟨v, rfl, r1⟩ := r.of_one
    rw [r1.1]
    exact ⟨i, rfl, q _ (fun _ _ => ⟨rfl, rfl⟩) rfl⟩
def fMax2 : List D → Option D
  | [.int i, .int j] => some (.int (if j > i then j else i))
  | _ => none
theorem ok_max2 : OpS K (fun xs H Q => ∃ i j, xs = [.int i, .int j] ∧ Q (.int (if j > i then j else i)) H) fMax2 := by
  intro F as H ds vs z Q r h q
  match ds, h with
  | [.int i, .int j], h =>
    cases h
    obtain ⟨v, u, a1, a2, rfl, e2, r1, r2⟩ := r.two
    rw [r1.1, r2.1]
    exact ⟨i, j, rfl, q _ (fun _ _ => ⟨rfl, rfl⟩) rfl⟩
def fInt : List D → Option D
  | [.int i] => some (.int i)
  | [.bl k] => some (.int (if k then 1 else 0))
  | _ => none
theorem ok_int : OpS K (fun xs H Q => (∃ i, xs = [V.int i] ∧ Q (.int i) H) ∨ ∃ k, xs = [V.bl k] ∧ Q (.int (if k then 1 else 0)) H) fInt := by
  intro F as H ds vs z Q r h q
  match ds, h with
  | [.int i], h =>
    cases h
    obtain ⟨v, rfl, r1⟩ := r.of_one
    rw [r1.1]
    exact .inl ⟨i, rfl, q _ (fun _ _ => ⟨rfl, rfl⟩) rfl⟩
  | [.bl k], h =>
    cases h
    obtain ⟨v, rfl, r1⟩ := r.of_one
    rw [r1.1]
    exact .inr ⟨k, rfl, q _ (fun _ _ => ⟨rfl, rfl⟩) rfl⟩
/-- a list of ints, of bools -/
def asInts : List D → Option (List Int)
  | [] => some []
  | .int i :: r => (asInts r).map (i :: ·)
  | _ :: _ => none
def asBools : List D → Option (List Bool)
  | [] => some []
  | .bl i :: r => (asBools r).map (i :: ·)
  | _ :: _ => none
theorem asInts_ok : ∀ {ds : List D} {ns : List Int} {vs : List V} {as : List Addr}, asInts ds = some ns → RpL K F H ds vs as → vs = ns.map V.int
  | [], ns, vs, as, h, r => by
    cases h
    exact r.1
  | d :: ds, ns, vs, as, h, r => by
    obtain ⟨v, q, a1, a2, e1, e2, r1, r2⟩ := r
    cases d with
    | int i =>
      cases e : asInts ds with
      | none => simp [asInts, e] at h
      | some ms =>
        have en : ns = i :: ms := by simpa [asInts, e] using h.symm
        rw [en, e1, r1.1, asInts_ok e r2] <;> rfl
    | _ => simp [asInts] at h
theorem asBools_ok : ∀ {ds : List D} {ns : List Bool} {vs : List V} {as : List Addr}, asBools ds = some ns → RpL K F H ds vs as → vs = ns.map V.bl
  | [], ns, vs, as, h, r => by
    cases h
    exact r.1
  | d :: ds, ns, vs, as, h, r => by
    obtain ⟨v, q, a1, a2, e1, e2, r1, r2⟩ := r
    cases d with
    | bl i =>
      cases e : asBools ds with
      | none => simp [asBools, e] at h
      | some ms =>
        have en : ns = i :: ms := by simpa [asBools, e] using h.symm
        rw [en, e1, r1.1, asBools_ok e r2] <;> rfl
    | _ => simp [asBools] at h
def fSum : List D → Option D
  | [.lst _ ds] => (asInts ds).map fun ns => .int ns.sum
  | _ => none
def fAll : List D → Option D
  | [.lst _ ds] => (asBools ds).map fun bs => .bl (bs.all id)
  | _ => none
def fAny : List D → Option D
  | [.lst _ ds] => (asBools ds).map fun bs => .bl (bs.any id)
  | _ => none
theorem ok_sum : OpS K (rSum K) fSum := by
  intro F as H ds vs z Q r h q
  match ds, h with
  | [.lst o ds], h =>
    obtain ⟨v, rfl, r1⟩ := r.of_one
    obtain ⟨a, xs, bs, rfl, e2, e3, e4, r2⟩ := r1.lst_inv
    cases e : asInts ds with
    | none => simp [fSum, e] at h
    | some ns =>
      have ez : z = .int ns.sum := by simpa [fSum, e] using h.symm
      subst ez
      exact ⟨a, ns, rfl, .of (by rw [e2, asInts_ok e r2]), q _ (fun _ _ => ⟨rfl, rfl⟩) rfl⟩
theorem ok_all : OpS K (rAll K) fAll := by
  intro F as H ds vs z Q r h q
  match ds, h with
  | [.lst o ds], h =>
    obtain ⟨v, rfl, r1⟩ := r.of_one
    obtain ⟨a, xs, bs, rfl, e2, e3, e4, r2⟩ := r1.lst_inv
    cases e : asBools ds with
    | none => simp [fAll, e] at h
    | some ns =>
      have ez : z = .bl (ns.all id) := by simpa [fAll, e] using h.symm
      subst ez
      exact ⟨a, ns, rfl, .of (by rw [e2, asBools_ok e r2]), q _ (fun _ _ => ⟨rfl, rfl⟩) rfl⟩
theorem ok_any : OpS K (rAny K) fAny := by
  intro F as H ds vs z Q r h q
  match ds, h with
  | [.lst o ds], h =>
    obtain ⟨v, rfl, r1⟩ := r.of_one
    obtain ⟨a, xs, bs, rfl, e2, e3, e4, r2⟩ := r1.lst_inv
    cases e : asBools ds with
    | none => simp [fAny, e] at h
    | some ns =>
      have ez : z = .bl (ns.any id) := by simpa [fAny, e] using h.symm
      subst ez
      exact ⟨a, ns, rfl, .of (by rw [e2, asBools_ok e r2]), q _ (fun _ _ => ⟨rfl, rfl⟩) rfl⟩
/-! ### subscripts -/
def fIx : D → D → Option D
  | .lst _ ds, .int i => atI ds i
  | .tup ds, .int i => atI ds i
  | .str z, .int i => if lenOk z.length then (atI z.cps.toList i).map fun c => .str ⟨#[c]⟩ else none
  | _, _ => none
theorem atI_get' {ds : List D} {vs : List V} {as : List Addr} {i : Int} {z : D} (r : RpL K F H ds vs as) (h : atI ds i = some z) : ∃ v bs, atI vs i = some v ∧ bs.Sublist as ∧ Rp K F H z v bs := by
  unfold atI at h ⊢
  rw [r.length]
  cases e : ixN ds.length i with
  | none => rw [e] at h; cases h
  | some j =>
    rw [e] at h
    exact r.get (i := j) h
theorem ok_ix : OpN K (r2 (rIx K)) (o2 fIx) := by
  intro G M H H' ds vs z Q s r hG hM h q
  match ds, h with
  | [d, e], h =>
    have h2 : fIx d e = some z := h
    obtain ⟨F', as, g1, g2, g3, r0⟩ := r
    obtain ⟨v, u, a1, a2, rfl, e2, r1, r2⟩ := r0.two
    have fin : ∀ w bs, bs.Sublist a1 → Rp K F' H' z w bs → Q w H' := fun w bs hb rz => q w H' (Same.refl _) ⟨F', bs, g1, g2.sublist (hb.trans (by rw [e2]; exact List.sublist_append_left _ _)),
      fun a ha => g3 a (by rw [e2]; exact List.mem_append_left _ (hb.subset ha)), rz⟩
    refine ⟨v, u, rfl, ?_⟩
    cases e with
    | int i =>
      cases d with
      | lst o ds =>
        obtain ⟨a, xs, bs, rfl, e4, e5, e6, r3⟩ := r1.lst_inv
        obtain ⟨w, cs, h3, h4, h5⟩ := atI_get' r3 h2
        exact .inl ⟨a, xs, i, w, rfl, r2.1, .of e4, h3, fin w cs (h4.trans e6) h5⟩
      | tup ds =>
        obtain ⟨a, xs, rfl, e4, r3⟩ := r1
        obtain ⟨w, cs, h3, h4, h5⟩ := atI_get' r3 h2
        exact .inr (.inl ⟨a, xs, i, w, rfl, r2.1, e4, h3, fin w cs h4 h5⟩)
      | str x =>
        have h3 : (if lenOk x.length then (atI x.cps.toList i).map fun c => D.str ⟨#[c]⟩ else none) = some z := h2
        by_cases c : lenOk x.length = true
        · rw [if_pos c] at h3
          cases e3 : atI x.cps.toList i with
          | none => rw [e3] at h3; cases h3
          | some cc =>
            rw [e3] at h3
            cases h3
            exact .inr (.inr ⟨x, i, cc, r1.1, r2.1, lenOk_le c, e3, q _ H' (Same.refl _) (.str _)⟩)
        · rw [if_neg c] at h3; cases h3
      | _ => cases h2
    | _ => cases d <;> cases h2
/-! ### isinstance -/
def tyD : D → String
  | .non => "NoneType"
  | .bl _ => "bool"
  | .int _ => "int"
  | .str _ => "str"
  | .lst _ _ => "list"
  | .tup _ => "tuple"
  | .dic _ _ => "dict"
  | .box _ _ => "dict"
def isBx : D → Bool
  | .box _ _ => true
  | _ => false
def isi (T : String) (d : D) : Bool := (tyD d == T) || (T == "int" && tyD d == "bool")
theorem Rp.ty {d : D} {v : V} {as : List Addr} (hb : isBx d = false) (r : Rp K F H d v as) : TyX K H v (.type (tyD d)) := by
  cases d with
  | non => rw [r.1]; exact .base .non
  | bl b => rw [r.1]; exact .base (.bl b)
  | int i => rw [r.1]; exact .base (.int i)
  | str x => rw [r.1]; exact .base (.str x)
  | lst o ds =>
    obtain ⟨a, xs, bs, rfl, e2, _⟩ := r.lst_inv
    exact .base (.lst e2)
  | tup ds =>
    obtain ⟨a, xs, rfl, e2, _⟩ := r
    rcases e2 with (e2 | ⟨o, e2⟩) | ⟨o, its, n, e2, e3, _⟩
    · exact .base (.tup e2)
    · exact .fTuple e2
    · exact .kTuple e2 e3
  | dic ks ds =>
    obtain ⟨a, kvs, rfl, e2, _⟩ := r
    exact .base (.dK e2)
  | box k ds => cases hb
theorem kit_tab : ∀ s ∈ ["NoneType", "bool", "int", "str", "list", "tuple", "dict"], ∀ T ∈ ["int", "bool", "str", "list", "tuple"], kitB s T = some ((s == T) || (T == "int" && s == "bool")) := by decide +kernel
theorem tyD_mem (d : D) : tyD d ∈ ["NoneType", "bool", "int", "str", "list", "tuple", "dict"] := by cases d <;> simp [tyD]
theorem kit_isi {T : String} (hT : T = "int" ∨ T = "bool" ∨ T = "str" ∨ T = "list" ∨ T = "tuple") (d : D) : PySem.W.kitOne K (.type (tyD d)) (.type T) = some (isi T d) :=
  kit_ty (kit_tab _ (tyD_mem d) T (by simp; exact hT))
def okTy (T : String) : Bool := T == "int" || T == "bool" || T == "str" || T == "list" || T == "tuple"
theorem okTy_ok {T : String} (h : okTy T = true) : T = "int" ∨ T = "bool" ∨ T = "str" ∨ T = "list" ∨ T = "tuple" := by
  unfold okTy at h
  simp only [Bool.or_eq_true, beq_iff_eq] at h
  rcases h with (((h | h) | h) | h) | h <;> simp [h]
def mIsi (T : String) (m : Env → R D) : Env → R D := fun ρ => (m ρ).bind fun d => if isBx d then .fail else .ok (.bl (isi T d))
theorem snd_isi {T : String} (hT : okTy T = true) (ha : SndE K E ta ma us mv) : SndE K E (tCB (rIsi K) (tCons ta (tCons (tC (.ty T)) tNil))) (mIsi T ma) [] [] := by
  intro b F O H σ ρ S Q h
  show ta σ H fun x H1 => rIsi K [x, .ty T] H1 Q
  refine ha b F O H σ ρ S _ ?_
  unfold mIsi at h
  cases e : ma ρ with
  | fail => simp only [e, R.bind_ok, R.bind_ex, R.bind_fail] at h; exact h
  | ex c d => simp only [e, R.bind_ok, R.bind_ex, R.bind_fail] at h; exact h
  | ok d =>
    simp only [e, R.bind_ok, R.bind_ex, R.bind_fail] at h
    by_cases hb : isBx d = true
    · rw [if_pos hb] at h; exact h.elim
    rw [if_neg hb] at h
    have hb : isBx d = false := by simpa using hb
    intro v H1 s1 r1
    obtain ⟨F', as, _, _, _, r⟩ := r1
    exact ⟨v, .ty T, _, .type T, _, rfl, .ty T, r.ty hb, kit_isi (okTy_ok hT) d, h _ H1 s1 (.bl _)⟩
/-- isinstance(x, (T1, T2)) -/
def mIsi2 (T U : String) (m : Env → R D) : Env → R D := fun ρ => (m ρ).bind fun d => if isBx d then .fail else .ok (.bl (isi T d || isi U d))
theorem snd_isi2 {T U : String} (hT : okTy T = true) (hU : okTy U = true) (ha : SndE K E ta ma us mv) : SndE K E (tCB (rIsiT K) (tCons ta (tCons (tTup (tCons (tC (.ty T)) (tCons (tC (.ty U)) tNil))) tNil))) (mIsi2 T U ma) [] [] := by
  intro b F O H σ ρ S Q h
  show ta σ H fun x H1 => [V.ty T, .ty U].length ≤ sizeLine ∧ ∀ p, H1 p = none → rIsiT K [x, .ref p] (upd H1 p (.tup [.ty T, .ty U])) Q
  refine ha b F O H σ ρ S _ ?_
  unfold mIsi2 at h
  cases e : ma ρ with
  | fail => simp only [e, R.bind_ok, R.bind_ex, R.bind_fail] at h; exact h
  | ex c d => simp only [e, R.bind_ok, R.bind_ex, R.bind_fail] at h; exact h
  | ok d =>
    simp only [e, R.bind_ok, R.bind_ex, R.bind_fail] at h
    by_cases hb : isBx d = true
    · rw [if_pos hb] at h; exact h.elim
    rw [if_neg hb] at h
    have hb : isBx d = false := by simpa using hb
    intro v H1 s1 r1
    refine ⟨by rw [sizeLine_eq]; exact (by decide : 2 ≤ 16777216), fun p hp => ?_⟩
    obtain ⟨F', as, _, _, _, r⟩ := r1.fwd (upd_same_ext (o := .tup [.ty T, .ty U]) hp)
    refine ⟨v, p, [.ty T, .ty U], _, [.type T, .type U], _, rfl, upd_same, .cons (.ty T) (.cons (.ty U) .nil), r.ty hb, ?_, h _ _ (s1.trans (upd_same_ext hp)) (.bl _)⟩
    refine kitAny_cons (kit_isi (okTy_ok hT) d) (fun e1 => ?_) fun e1 => by rw [e1]; rfl
    rw [e1, Bool.false_or]
    exact kitAny_cons (kit_isi (okTy_ok hU) d) (fun e2 => by rw [e2]; exact kitAny_nil) fun e2 => e2
end
end PV
end
section
set_option Elab.async false
set_option linter.all false
set_option maxRecDepth 100000
/-! PV4: statements, calls, a def's promise. -/
namespace PV
open PySem PySem.Spec PyProof.Rows L2

/-! ### names shared, taken -/
def frzA (us : List Nat) : Env → Nat → Env
  | [], _ => []
  | x :: r, i => (if us.contains i then x.map fz else x) :: frzA us r (i + 1)
def unsA (mv : List Nat) : Env → Nat → Env
  | [], _ => []
  | x :: r, i => (if mv.contains i then none else x) :: unsA mv r (i + 1)
theorem frzA_get (us : List Nat) : ∀ (ρ : Env) (k i : Nat), (frzA us ρ k)[i]? = ρ[i]?.map fun x => if us.contains (k + i) then x.map fz else x
  | [], k, i => by simp [frzA]
  | x :: r, k, 0 => by simp [frzA]
  | x :: r, k, i + 1 => by
    have e := frzA_get us r (k + 1) i
    rw [show k + 1 + i = k + (i + 1) by omega] at e
    simpa [frzA] using e
theorem unsA_get (us : List Nat) : ∀ (ρ : Env) (k i : Nat), (unsA us ρ k)[i]? = ρ[i]?.map fun x => if us.contains (k + i) then none else x
  | [], k, i => by simp [unsA]
  | x :: r, k, 0 => by simp [unsA]
  | x :: r, k, i + 1 => by
    have e := unsA_get us r (k + 1) i
    rw [show k + 1 + i = k + (i + 1) by omega] at e
    simpa [unsA] using e
theorem frzA_len (us : List Nat) : ∀ (ρ : Env) (k : Nat), (frzA us ρ k).length = ρ.length
  | [], _ => rfl
  | x :: r, k => by simp [frzA, frzA_len us r]
theorem unsA_len (us : List Nat) : ∀ (ρ : Env) (k : Nat), (unsA us ρ k).length = ρ.length
  | [], _ => rfl
  | x :: r, k => by simp [unsA, unsA_len us r]
/-- the names behind an expression that leans on us (if its value does: nf false), and takes mv -/
def pre (us mv : List Nat) (nf : Bool) (ρ : Env) : Env := match mv with
  | [] => if nf then ρ else frzA us ρ 0
  | _ => unsA mv (if nf then ρ else frzA us ρ 0) 0

/-- what is pending: values that no name holds yet -/
structure Pd {E : XK} (K : PySem.W.Frag) (b : Bs E) (F : Addr → Prop) (O : Nat → List Addr) (H : Hp) (σ : L2.St) (ρ : Env) (ds : List D) (vs : List V) (as : List Addr) : Prop where
  sd : Sd K b F O H σ ρ
  rp : RpL K F H ds vs as
  nd : as.Nodup
  own : ∀ a ∈ as, ¬ F a ∧ b.H0 a = none ∧ ∀ i, a ∉ O i
section
variable {K : PySem.W.Frag} {E : XK} {b : Bs E} {F : Addr → Prop} {O : Nat → List Addr} {H H1 : Hp} {σ : L2.St} {ρ : Env} {us mv : List Nat} {ds : List D} {vs : List V}
theorem Sd.pend0 (S : Sd K b F O H σ ρ) (s : Same H H1) (hu : ∀ i ∈ mv, i ∉ us) {F' : Addr → Prop} {as : List Addr} (h1 : ∀ a, F' a → (Al F O us a ∨ H a = none) ∧ H1 a ≠ none) (h2 : as.Nodup) (h3 : ∀ a ∈ as, (H a = none ∨ Mv O mv a) ∧ ¬ F' a)
    (h4 : RpL K F' H1 ds vs as) (h5 : ∀ a ∈ as, ∀ i ∈ us, a ∉ O i) : ∃ F2 O2, (∀ a, F a → F2 a) ∧ (∀ a, F' a → F2 a) ∧ (∀ a, F2 a → F a ∨ F' a ∨ ∃ i ∈ us, a ∈ O i) ∧ (∀ i a, a ∈ O2 i → a ∈ O i) ∧ Pd K b F2 O2 H1 σ (unsA mv (frzA us ρ 0) 0) ds vs as := by
  have S1 := S.fwd s
  refine ⟨fun a => F a ∨ F' a ∨ ∃ i ∈ us, a ∈ O i, fun i => if i ∈ us ∨ i ∈ mv then [] else O i, fun a z => .inl z, fun a z => .inr (.inl z), fun a z => z, fun i a z => ?q9, ⟨⟨?_, ?_, ?_, ?_, ?_, ?_, ?_, S1.same, ?_, S1.keep⟩, ?_, h2, ?_⟩⟩
  case q9 =>
    simp only at z
    split at z
    · cases z
    · exact z
  · rw [unsA_len, frzA_len]; exact S1.len
  · intro i d e
    rw [unsA_get, frzA_get] at e
    cases e0 : ρ[i]? with
    | none => rw [e0] at e; simp at e
    | some x =>
      rw [e0] at e
      by_cases hm : i ∈ mv
      · simp [hm] at e
      · by_cases hus : i ∈ us
        · simp [hm, hus] at e
          cases x with
          | none => simp at e
          | some d0 =>
            simp at e
            subst e
            obtain ⟨v, q1, q2⟩ := S1.at_ i d0 e0
            refine ⟨v, q1, ?_⟩
            rw [if_pos (.inl hus)]
            exact Rp.fz (fun a z => .inl z) d0 v _ (fun a z => .inr (.inr ⟨i, hus, z⟩)) q2
        · simp [hm, hus] at e
          subst e
          obtain ⟨v, q1, q2⟩ := S1.at_ i d e0
          refine ⟨v, q1, ?_⟩
          rw [if_neg (fun z => z.elim hus hm)]
          exact Rp.mono (fun a z => .inl z) (fun _ _ e _ => e) d v _ (fun _ _ _ e => e) q2
  · intro a z
    rcases z with z | z | ⟨i, _, z⟩
    · exact S1.fdom a z
    · exact (h1 a z).2
    · exact (S1.own i a z).2.2
  · intro a z
    rcases z with z | z | ⟨i, _, z⟩
    · exact S.fr a z
    · rcases (h1 a z).1 with (q | ⟨i, _, q⟩) | q
      · exact S.fr a q
      · exact .inr (S.own i a q).2.1
      · exact .inr (S.same.free q)
    · exact .inr (S.own i a z).2.1
  · intro i
    split
    · exact List.nodup_nil
    · exact S.nd i
  · intro i j hij a ha
    split at ha
    · cases ha
    · split
      · exact fun z => nomatch z
      · exact S.dj i j hij a ha
  · intro i a ha
    split at ha
    · cases ha
    · rename_i hn
      have o := S1.own i a ha
      refine ⟨fun z => ?_, o.2⟩
      rcases z with z | z | ⟨j, hj, z⟩
      · exact o.1 z
      · rcases (h1 a z).1 with (q | ⟨j, hj, q⟩) | q
        · exact o.1 q
        · exact S.dj i j (fun e => hn (.inl (e ▸ hj))) a ha q
        · exact (S.own i a ha).2.2 q
      · exact S.dj i j (fun e => hn (.inl (e ▸ hj))) a ha z
  · intro a z
    exact .inl (S.sub a z)
  · exact RpL.mono (fun a z => .inr (.inl z)) (fun _ _ e _ => e) ds vs as (fun _ _ _ e => e) h4
  · intro a ha
    refine ⟨fun z => ?_, ?_, fun i z => ?_⟩
    · rcases z with z | z | ⟨j, hj, z⟩
      · rcases (h3 a ha).1 with q | ⟨i, _, q⟩
        · exact S.fdom a z q
        · exact (S.own i a q).1 z
      · exact (h3 a ha).2 z
      · exact h5 a ha j hj z
    · rcases (h3 a ha).1 with q | ⟨i, _, q⟩
      · exact S.same.free q
      · exact (S.own i a q).2.1
    · split at z
      · cases z
      · rename_i hn
        rcases (h3 a ha).1 with q | ⟨j, hj, q⟩
        · exact (S.own i a z).2.2 q
        · exact S.dj i j (fun e => hn (.inr (e ▸ hj))) a z q
theorem frzA_nil : ∀ (ρ : Env) (k : Nat), frzA [] ρ k = ρ
  | [], _ => rfl
  | x :: r, k => by simp [frzA, frzA_nil r]
theorem unsA_nil : ∀ (ρ : Env) (k : Nat), unsA [] ρ k = ρ
  | [], _ => rfl
  | x :: r, k => by simp [unsA, unsA_nil r]
theorem pre_eq (us mv : List Nat) (nf : Bool) (ρ : Env) : pre us mv nf ρ = unsA mv (if nf then ρ else frzA us ρ 0) 0 := by
  cases mv with
  | nil => show (if nf then ρ else frzA us ρ 0) = unsA [] _ 0; rw [unsA_nil]
  | cons => rfl
def disj (us mv : List Nat) : Bool := mv.all fun i => !us.contains i
theorem disj_1 {us mv : List Nat} (h : disj us mv = true) : ∀ i ∈ mv, i ∉ us := by
  unfold disj at h
  simpa [List.all_eq_true] using h
theorem Sd.pend (S : Sd K b F O H σ ρ) (s : Same H H1) (hu : disj us mv = true) (r : RpXL K (Al F O us) (Mv O mv) H H1 ds vs) : ∃ F2 O2 as, (∀ a, F a → F2 a) ∧ Pd K b F2 O2 H1 σ (pre us mv (noFzL ds) ρ) ds vs as := by
  obtain ⟨F', as, h1, h2, h3, h4⟩ := r
  rw [pre_eq]
  cases e : noFzL ds with
  | true =>
    obtain ⟨F2, O2, q0, _, _, _, q⟩ := S.pend0 (us := []) (mv := mv) (F' := NoA) (ds := ds) (vs := vs) s (fun _ _ z => nomatch z) (fun _ z => z.elim) h2 (fun a ha => ⟨(h3 a ha).1, id⟩) (RpL.noFz ds vs as e h4) (fun _ _ _ z => nomatch z)
    rw [frzA_nil] at q
    exact ⟨F2, O2, as, q0, q⟩
  | false =>
    obtain ⟨F2, O2, q0, _, _, _, q⟩ := S.pend0 (us := us) (mv := mv) (ds := ds) (vs := vs) s (disj_1 hu) h1 h2 h3 h4 (fun a ha i hi z => by
      rcases (h3 a ha).1 with q | ⟨j, hj, q⟩
      · exact (S.own i a z).2.2 q
      · exact S.dj j i (fun e => disj_1 hu j hj (e ▸ hi)) a q z)
    exact ⟨F2, O2, as, q0, q⟩
/-- whose lists are whose -/
def Bd (O : Nat → List Addr) (as : List Addr) (O2 : Nat → List Addr) (as2 : List Addr) : Prop := (∀ i a, a ∈ O2 i → a ∈ O i ∨ a ∈ as) ∧ ∀ a ∈ as2, a ∈ as
/-- the first pending value goes to the slot i -/
theorem Pd.store {i : Nat} {d : D} {v : V} {as : List Addr} (P : Pd K b F O H σ ρ (d :: ds) (v :: vs) as) : ∃ O2 as2, Bd O as O2 as2 ∧ Pd K b F O2 H (σ.set i (some v)) (ρ.set i (some d)) ds vs as2 := by
  obtain ⟨S, ⟨v', r, a1, a2, e1, e2, r1, r2⟩, nd, own⟩ := P
  cases e1
  subst e2
  obtain ⟨n1, n2, n3⟩ := List.nodup_append.mp nd
  refine ⟨fun j => if j = i then a1 else O j, a2, ⟨fun j a ha => ?q9, fun a ha => List.mem_append_right _ ha⟩, ⟨⟨by simpa using S.len, fun j e he => ?_, S.fdom, S.fr, fun j => ?_, fun j k hjk a ha => ?_, fun j a ha => ?_, S.same, S.sub, S.keep⟩, r2, n2, fun a ha => ?_⟩⟩
  case q9 =>
    simp only at ha
    split at ha
    · exact .inr (List.mem_append_left _ ha)
    · exact .inl ha
  · by_cases hj : j = i
    · subst hj
      have hl : j < ρ.length := by
        cases Nat.lt_or_ge j ρ.length with
        | inl h => exact h
        | inr h => rw [List.getElem?_eq_none (by simpa using h)] at he; cases he
      rw [List.getElem?_set_self hl] at he
      cases he
      refine ⟨v, List.getElem?_set_self (by rw [S.len]; exact hl), ?_⟩
      rw [if_pos rfl]
      exact r1
    · rw [List.getElem?_set_ne (Ne.symm hj)] at he
      obtain ⟨u, q1, q2⟩ := S.at_ j e he
      refine ⟨u, by rw [List.getElem?_set_ne (Ne.symm hj)]; exact q1, ?_⟩
      rw [if_neg hj]
      exact q2
  · split
    · exact n1
    · exact S.nd j
  · split at ha
    · split
      · rename_i e1 e2; exact absurd (e1.trans e2.symm) hjk
      · exact (own a (List.mem_append_left _ ha)).2.2 k
    · split
      · exact fun z => (own a (List.mem_append_left _ z)).2.2 j ha
      · exact S.dj j k hjk a ha
  · split at ha
    · obtain ⟨xs, e⟩ := Rp.own d v a1 r1 a ha
      exact ⟨(own a (List.mem_append_left _ ha)).1, (own a (List.mem_append_left _ ha)).2.1, fun z => by rw [e] at z; cases z⟩
    · exact S.own j a ha
  · refine ⟨(own a (List.mem_append_right _ ha)).1, (own a (List.mem_append_right _ ha)).2.1, fun j => ?_⟩
    split
    · exact fun z => n3 a z a ha rfl
    · exact (own a (List.mem_append_right _ ha)).2.2 j
theorem Pd.done {as : List Addr} (P : Pd K b F O H σ ρ [] vs as) : Sd K b F O H σ ρ := P.sd
end

/-! ### targets -/
theorem wipe_get (σ : L2.St) : ∀ (vs : List Nat) (j : Nat), (wipe σ vs)[j]? = if j ∈ vs then σ[j]?.map (fun _ => none) else σ[j]?
  | [], j => by simp [wipe]
  | v :: vs, j => by
    unfold wipe
    by_cases h : v = j
    · subst h
      by_cases hl : v < (wipe σ vs).length
      · rw [List.getElem?_set_self hl]
        rw [wipe_length] at hl
        simp [List.getElem?_eq_getElem hl]
      · rw [List.getElem?_eq_none (by simpa using hl)]
        rw [wipe_length] at hl
        simp [List.getElem?_eq_none (Nat.le_of_not_lt hl)]
    · rw [List.getElem?_set_ne h, wipe_get σ vs j]
      simp [List.mem_cons, show ¬ j = v from fun e => h e.symm]
theorem wipe_set {σ : L2.St} {vs : List Nat} {i : Nat} {x : Option V} (h : i ∈ vs) : wipe (σ.set i x) vs = wipe σ vs := by
  apply List.ext_getElem?
  intro j
  rw [wipe_get, wipe_get]
  by_cases hj : j ∈ vs
  · rw [if_pos hj, if_pos hj]
    by_cases e : i = j
    · subst e
      by_cases hl : i < σ.length
      · rw [List.getElem?_set_self hl, List.getElem?_eq_getElem hl]; rfl
      · rw [List.getElem?_eq_none (by simpa using hl), List.getElem?_eq_none (by simpa using hl)]
    · rw [List.getElem?_set_ne e]
  · rw [if_neg hj, if_neg hj, List.getElem?_set_ne (show i ≠ j from fun e => hj (e ▸ h))]
/-- the target g binds as f says, the names ns alone -/
def SndG (K : PySem.W.Frag) (g : TG) (f : D → Env → Option Env) (ns : List Nat) : Prop := ∀ {E : XK} (b : Bs E) F O H σ ρ d v ds vs as, Pd K b F O H σ ρ (d :: ds) (v :: vs) as → ∀ ρ', f d ρ = some ρ' → ∀ Q : L2.St → Hp → Prop, (∀ O2 σ2 as2, Pd K b F O2 H σ2 ρ' ds vs as2 → Bd O as O2 as2 → (∀ ws, (∀ i ∈ ns, i ∈ ws) → wipe σ2 ws = wipe σ ws) → Q σ2 H) → g v σ H Q
def SndGs (K : PySem.W.Frag) (g : TGs) (f : List D → Env → Option Env) (ns : List Nat) : Prop := ∀ {E : XK} (b : Bs E) F O H σ ρ es us ds vs as, es.length = us.length → Pd K b F O H σ ρ (es ++ ds) (us ++ vs) as → ∀ ρ', f es ρ = some ρ' → ∀ Q : L2.St → Hp → Prop, (∀ O2 σ2 as2, Pd K b F O2 H σ2 ρ' ds vs as2 → Bd O as O2 as2 → (∀ ws, (∀ i ∈ ns, i ∈ ws) → wipe σ2 ws = wipe σ ws) → Q σ2 H) → g us σ H Q
def bName (i : Nat) : D → Env → Option Env := fun d ρ => some (ρ.set i (some d))
def bTup (f : List D → Env → Option Env) (n : Nat) : D → Env → Option Env := fun d ρ => match d with
  | .tup ds => if ds.length = n then f ds ρ else none
  | _ => none
def bNil : List D → Env → Option Env := fun ds ρ => match ds with
  | [] => some ρ
  | _ => none
def bCons (f : D → Env → Option Env) (g : List D → Env → Option Env) : List D → Env → Option Env := fun ds ρ => match ds with
  | d :: ds => (f d ρ).bind (g ds)
  | [] => none
section
variable {K : PySem.W.Frag} {ns ns' : List Nat}
theorem sng_name (i : Nat) : SndG K (gName i) (bName i) [i] := by
  intro _ b F O H σ ρ d v ds vs as P ρ' h Q q
  cases h
  obtain ⟨O2, as2, B2, P2⟩ := P.store (i := i)
  exact q O2 _ as2 P2 B2 fun ws h => wipe_set (h i List.mem_cons_self)
theorem sng_nil : SndGs K gNil bNil [] := by
  intro _ b F O H σ ρ es us ds vs as hl P ρ' h Q q
  cases es with
  | nil =>
    cases us with
    | nil =>
      cases h
      exact ⟨rfl, q O σ as P ⟨fun _ _ z => .inl z, fun _ z => z⟩ fun _ _ => rfl⟩
    | cons _ _ => cases hl
  | cons _ _ => cases h
theorem sng_cons {g : TG} {gs : TGs} {f : D → Env → Option Env} {fs : List D → Env → Option Env} (h1 : SndG K g f ns) (h2 : SndGs K gs fs ns') : SndGs K (gCons g gs) (bCons f fs) (ns ++ ns') := by
  intro _ b F O H σ ρ es us ds vs as hl P ρ' h Q q
  cases es with
  | nil => cases h
  | cons e es =>
    cases us with
    | nil => cases hl
    | cons u us =>
      have h' : (f e ρ).bind (fs es) = some ρ' := h
      cases e1 : f e ρ with
      | none => rw [e1] at h'; cases h'
      | some ρ1 =>
        rw [e1] at h'
        exact ⟨u, us, rfl, h1 b F O H σ ρ e u (es ++ ds) (us ++ vs) as P ρ1 e1 _ fun O2 σ2 as2 P2 B2 w1 => h2 b F O2 H σ2 ρ1 es us ds vs as2 (by simpa using hl) P2 ρ' h' Q fun O3 σ3 as3 P3 B3 w2 =>
          q O3 σ3 as3 P3 ⟨fun i a z => (B3.1 i a z).elim (B2.1 i a) fun z => .inr (B2.2 a z), fun a z => B2.2 a (B3.2 a z)⟩ fun ws hw => (w2 ws fun i hi => hw i (List.mem_append_right _ hi)).trans (w1 ws fun i hi => hw i (List.mem_append_left _ hi))⟩
theorem sng_tup {gs : TGs} {fs : List D → Env → Option Env} {n : Nat} (h : SndGs K gs fs ns) : SndG K (gTup K n gs) (bTup fs n) ns := by
  intro _ b F O H σ ρ d v ds vs as P ρ' e Q q
  cases d with
  | tup es =>
    have e' : (if es.length = n then fs es ρ else none) = some ρ' := e
    by_cases hn : es.length = n
    · rw [if_pos hn] at e'
      obtain ⟨S, ⟨v', r, a1, a2, e1, e2, r1, r2⟩, nd, own⟩ := P
      cases e1
      obtain ⟨a, xs, rfl, hs, rx⟩ := r1
      refine ⟨a, xs, rfl, hs, by rw [rx.length]; exact hn, ?_⟩
      exact h b F O H σ ρ es xs ds vs as rx.length.symm ⟨S, by rw [e2]; exact rx.append r2, nd, own⟩ ρ' e' Q q
    · rw [if_neg hn] at e'; cases e'
  | _ => cases e
end

/-! ### statements -/
inductive Fl where
  | nx (ρ : Env) | br (ρ : Env) | ct (ρ : Env) | rt (d : D) | ex (c : String) (d : D) | fail
def WS (K : PySem.W.Frag) (E : XK) (b : Bs E) (f : Fl) (T : Ends) : Prop := match f with
  | .nx ρ => ∀ F O H σ, Sd K b F O H σ ρ → T.nx σ H
  | .br ρ => ∀ F O H σ, Sd K b F O H σ ρ → T.bk σ H
  | .ct ρ => ∀ F O H σ, Sd K b F O H σ ρ → T.ct σ H
  | .rt d => ∀ v H, Same b.H0 H → RpX K b.G0 NoA b.H0 H d v → T.rt v H
  | .ex c d => ECond K E b.H0 c d
  | .fail => False
def SndS (K : PySem.W.Frag) (E : XK) (t : TS) (m : Env → Fl) : Prop := ∀ (b : Bs E) F O H σ ρ, Sd K b F O H σ ρ → ∀ T, WS K E b (m ρ) T → t T σ H
def sSeq (m1 m2 : Env → Fl) : Env → Fl := fun ρ => match m1 ρ with
  | .nx ρ' => m2 ρ'
  | f => f
def sNil : Env → Fl := .nx
/-- behind an expression -/
def thnE (r : R D) (f : D → Fl) : Fl := match r with
  | .ok d => f d
  | .ex c d => .ex c d
  | .fail => .fail
def toF : Option Env → Fl
  | some ρ => .nx ρ
  | none => .fail
def sAsg (us mv : List Nat) (me : Env → R D) (f : D → Env → Option Env) : Env → Fl := fun ρ => thnE (me ρ) fun d => toF (f d (pre us mv (noFz d) ρ))
def sRet (me : Env → R D) : Env → Fl := fun ρ => thnE (me ρ) .rt
def sDrop (us mv : List Nat) (me : Env → R D) : Env → Fl := fun ρ => thnE (me ρ) fun d => .nx (pre us mv (noFz d) ρ)
def sIf (t : Env → R Bool) (m1 m2 : Env → Fl) : Env → Fl := fun ρ => match t ρ with
  | .ok true => m1 ρ
  | .ok false => m2 ρ
  | .ex c d => .ex c d
  | .fail => .fail
section
variable {K : PySem.W.Frag} {E : XK} {t u : TS} {m1 m2 : Env → Fl} {te : TE} {me : Env → R D} {us mv : List Nat} {g : TG} {f : D → Env → Option Env}
theorem sns_seq (h1 : SndS K E t m1) (h2 : SndS K E u m2) : SndS K E (tSeq t u) (sSeq m1 m2) := by
  intro b F O H σ ρ S T h
  refine h1 b F O H σ ρ S _ ?_
  unfold sSeq at h
  cases e : m1 ρ with
  | nx ρ' =>
    rw [e] at h
    exact fun F' O' H' σ' S' => h2 b F' O' H' σ' ρ' S' T h
  | br ρ' => rw [e] at h; exact h
  | ct ρ' => rw [e] at h; exact h
  | rt d => rw [e] at h; exact h
  | ex c d => rw [e] at h; exact h
  | fail => rw [e] at h; exact h
theorem sns_nil : SndS K E tNext sNil := fun b F O H σ ρ S T h => h F O H σ S
theorem sns_never : SndS K E tNever fun _ => .fail := fun b F O H σ ρ S T h => h.elim
theorem sns_break : SndS K E tBreak .br := fun b F O H σ ρ S T h => h F O H σ S
theorem sns_cont : SndS K E tCont .ct := fun b F O H σ ρ S T h => h F O H σ S
theorem sns_asg {ns : List Nat} (he : SndE K E te me us mv) (hg : SndG K g f ns) (hu : disj us mv = true := by rfl) : SndS K E (tAsg te g) (sAsg us mv me f) := by
  intro b F O H σ ρ S T h
  refine he b F O H σ ρ S _ ?_
  unfold sAsg at h
  cases e : me ρ with
  | fail => rw [e] at h; exact h
  | ex c d => rw [e] at h; exact ECond.mono h S.same
  | ok d =>
    rw [e] at h
    have h' : WS K E b (toF (f d (pre us mv (noFz d) ρ))) T := h
    intro v H1 s1 r1
    obtain ⟨F2, O2, as, _, P⟩ := S.pend s1 hu r1.toL
    have en : noFzL [d] = noFz d := by simp [noFzL]
    rw [en] at P
    cases e2 : f d (pre us mv (noFz d) ρ) with
    | none => rw [e2] at h'; exact h'.elim
    | some ρ' =>
      rw [e2] at h'
      exact hg b F2 O2 H1 σ _ d v [] [] as P ρ' e2 _ fun O3 σ3 as3 P3 _ _ => h' F2 O3 H1 σ3 P3.sd
theorem RpX.out {E : XK} {b : Bs E} {F : Addr → Prop} {O : Nat → List Addr} {H H1 : Hp} {σ : L2.St} {ρ : Env} {d : D} {v : V} (S : Sd K b F O H σ ρ) (s : Same H H1) (r : RpX K (Al F O us) (Mv O mv) H H1 d v) : RpX K b.G0 NoA b.H0 H1 d v := by
  obtain ⟨F', as, h1, h2, h3, h4⟩ := r
  refine ⟨F', as, fun a z => ⟨?_, (h1 a z).2⟩, h2, fun a z => ⟨.inl ?_, (h3 a z).2⟩, h4⟩
  · rcases (h1 a z).1 with (q | ⟨i, _, q⟩) | q
    · exact S.fr a q
    · exact .inr (S.own i a q).2.1
    · exact .inr (S.same.free q)
  · rcases (h3 a z).1 with q | ⟨i, _, q⟩
    · exact S.same.free q
    · exact (S.own i a q).2.1
theorem sns_ret (he : SndE K E te me us mv) : SndS K E (tRet te) (sRet me) := by
  intro b F O H σ ρ S T h
  refine he b F O H σ ρ S _ ?_
  unfold sRet at h
  cases e : me ρ with
  | fail => rw [e] at h; exact h
  | ex c d => rw [e] at h; exact ECond.mono h S.same
  | ok d =>
    rw [e] at h
    exact fun v H1 s1 r1 => h v H1 (S.same.trans s1) (r1.out S s1)
theorem sns_expr (he : SndE K E te me us mv) (hu : disj us mv = true := by rfl) : SndS K E (tDrop te) (sDrop us mv me) := by
  intro b F O H σ ρ S T h
  refine he b F O H σ ρ S _ ?_
  unfold sDrop at h
  cases e : me ρ with
  | fail => rw [e] at h; exact h
  | ex c d => rw [e] at h; exact ECond.mono h S.same
  | ok d =>
    rw [e] at h
    intro v H1 s1 r1
    obtain ⟨F2, O2, as, _, P⟩ := S.pend s1 hu r1.toL
    have en : noFzL [d] = noFz d := by simp [noFzL]
    rw [en] at P
    exact h F2 O2 H1 σ P.sd
theorem sns_if {tc : TT} {mc : Env → R Bool} (hc : SndT K E tc mc) (h1 : SndS K E t m1) (h2 : SndS K E u m2) : SndS K E (tIfS tc t u) (sIf mc m1 m2) := by
  intro b F O H σ ρ S T h
  refine hc b F O H σ ρ S _ ?_
  unfold sIf at h
  cases e : mc ρ with
  | fail => rw [e] at h; exact h
  | ex c d => rw [e] at h; exact ECond.mono h S.same
  | ok k =>
    rw [e] at h
    intro H1 s1
    cases k with
    | true => exact iteT (h1 b F O H1 σ ρ (S.fwd s1) T h)
    | false => exact iteF (h2 b F O H1 σ ρ (S.fwd s1) T h)
/-- a, b = x, y -/
def sPar (us mv : List Nat) (ma : Env → R (List D)) (i j : Nat) : Env → Fl := fun ρ => match ma ρ with
  | .ok [d, e] => .nx (((pre us mv (noFzL [d, e]) ρ).set i (some d)).set j (some e))
  | .ok _ => .fail
  | .ex c d => .ex c d
  | .fail => .fail
theorem sns_par {ta : TA} {ma : Env → R (List D)} {i j : Nat} (ha : SndA K E ta ma us mv) (hu : disj us mv = true := by rfl) : SndS K E (tPar i j ta) (sPar us mv ma i j) := by
  intro b F O H σ ρ S T h
  refine ha b F O H σ ρ S _ ?_
  unfold sPar at h
  cases e : ma ρ with
  | fail => rw [e] at h; exact h
  | ex c d => rw [e] at h; exact ECond.mono h S.same
  | ok ds =>
    rw [e] at h
    match ds, h with
    | [d, e'], h =>
      intro vs H1 s1 r1
      obtain ⟨F2, O2, as, _, P⟩ := S.pend s1 hu r1
      obtain ⟨v, u, a1, a2, rfl, _, _, _⟩ := P.rp.two
      obtain ⟨O3, as3, _, P3⟩ := P.store (i := i)
      obtain ⟨O4, as4, _, P4⟩ := P3.store (i := j)
      exact ⟨v, u, rfl, h F2 O4 H1 _ P4.sd⟩
    | [], h => exact h.elim
    | [_], h => exact h.elim
    | _ :: _ :: _ :: _, h => exact h.elim

/-! ### a def -/
/-- a def's promise by its mirror -/
def spF (K : PySem.W.Frag) (n : Nat) (f : List D → R D) : Sp := fun vs H Q E => ∃ F ds, ds.length = n ∧ (∀ a, F a → H a ≠ none) ∧ (∀ a, F a ∨ H a = none → Alw E a) ∧ RpL K F H ds vs [] ∧ WE K E F NoA H (f ds) Q
theorem snd_call {tr : TA} {mr : Env → R (List D)} {n : Nat} {fm : List D → R D} (ha : SndA K E tr mr us []) (hn : ∀ ρ ds, mr ρ = .ok ds → ds.length = n) : SndE K E (tCall (spF K n fm) [] E tr) (fun ρ => (mr ρ).bind fun ds => fm (fzL ds)) us [] := by
  intro b F O H σ ρ S Q h
  refine ha b F O H σ ρ S _ ?_
  cases e : mr ρ with
  | fail => simp only [e, R.bind_ok, R.bind_ex, R.bind_fail] at h; exact h
  | ex c d => simp only [e, R.bind_ok, R.bind_ex, R.bind_fail] at h; exact h
  | ok ds =>
    simp only [e, R.bind_ok, R.bind_ex, R.bind_fail] at h
    intro vs H1 s1 r1
    obtain ⟨F', as, h1, h2, h3, h4⟩ := r1
    show spF K n fm (vs ++ []) H1 Q E
    rw [List.append_nil]
    have hl : ∀ ds : List D, (fzL ds).length = ds.length := by
      intro ds
      induction ds with
      | nil => rfl
      | cons _ _ ih => simp [fzL, ih]
    refine ⟨fun a => F' a ∨ a ∈ as, fzL ds, by rw [hl]; exact hn ρ ds e, fun a z => ?_, fun a z => ?_, RpL.fz (fun a z => .inl z) ds vs as (fun a z => .inr z) h4, ?_⟩
    · rcases z with z | z
      · exact (h1 a z).2
      · obtain ⟨xs, q⟩ := RpL.own ds vs as h4 a z
        exact fun y => by rw [q] at y; cases y
    · rcases z with (z | z) | z
      · rcases (h1 a z).1 with (q | ⟨i, _, q⟩) | q
        · exact S.alw (.inl q)
        · exact S.alw (.inr (.inl ⟨i, q⟩))
        · exact S.alw (.inr (.inr q))
      · rcases (h3 a z).1 with q | ⟨i, _, q⟩
        · exact S.alw (.inr (.inr q))
        · exact S.alw (.inr (.inl ⟨i, q⟩))
      · exact S.alw (.inr (.inr (s1.free z)))
    · cases e2 : fm (fzL ds) with
      | fail => rw [e2] at h; exact h
      | ex c d => rw [e2] at h; exact ECond.mono h s1
      | ok d =>
        rw [e2] at h
        intro v H2 s2 r2
        refine h v H2 (s1.trans s2) ?_
        obtain ⟨F2, as2, k1, k2, k3, k4⟩ := r2
        refine ⟨F2, as2, fun a z => ⟨?_, (k1 a z).2⟩, k2, fun a z => ⟨.inl ?_, (k3 a z).2⟩, k4⟩
        · rcases (k1 a z).1 with (q | q) | q
          · exact (h1 a q).1
          · rcases (h3 a q).1 with y | ⟨i, hi, _⟩
            · exact .inr y
            · cases hi
          · exact .inr (s1.free q)
        · rcases (k3 a z).1 with q | q
          · exact s1.free q
          · exact q.elim
/-- the names at the entry -/
def ent (n : Nat) (ds : List D) : Env := ds.map some ++ List.replicate (n - ds.length) none
def outF : Fl → R D
  | .rt d => .ok d
  | .nx _ => .ok .non
  | .ex c d => .ex c d
  | _ => .fail
/-- a body's mirror as a function -/
def runF (n : Nat) (m : Env → Fl) : List D → R D := fun ds => outF (m (ent n ds))
theorem ent_get {n : Nat} {ds : List D} {i : Nat} {d : D} (h : (ent n ds)[i]? = some (some d)) : ds[i]? = some d := by
  unfold ent at h
  by_cases hi : i < ds.length
  · rw [List.getElem?_append_left (by simpa using hi), List.getElem?_map] at h
    cases e : ds[i]? with
    | none => rw [e] at h; cases h
    | some x => rw [e] at h; cases h; rfl
  · rw [List.getElem?_append_right (by simpa using hi), List.getElem?_replicate] at h
    split at h <;> cases h
/-- the body keeps the promise -/
theorem body_ok {N : List Str} {t : TS} {m : Env → Fl} {n : Nat} {H : Hp} {vs : List V} {Q : VK} (h : SndS K E t m) (hsp : spF K n (runF N.length m) vs H Q E) (hn : n ≤ N.length) : t { nx := fun _ H' => Q .non H', rt := Q } (L2.start N vs) H := by
  obtain ⟨F, ds, hl, hF, hal, hr, hw⟩ := hsp
  have hv : vs.length = ds.length := hr.length
  have S : Sd (E := E) K ⟨F, H, F, H, hal⟩ F (fun _ => []) H (L2.start N vs) (ent N.length ds) := by
    refine ⟨?_, fun i d e => ?_, hF, fun a z => .inl z, fun _ => List.nodup_nil, (fun _ _ _ _ z => nomatch z), (fun _ _ z => nomatch z), Same.refl H, fun _ z => z, fun a o e _ => e⟩
    · unfold L2.start ent
      simp [hv]
    · obtain ⟨v, bs, q1, q2, q3⟩ := hr.get (ent_get e)
      refine ⟨v, ?_, ?_⟩
      · unfold L2.start
        have hi : i < vs.length := by
          rcases Nat.lt_or_ge i vs.length with z | z
          · exact z
          · rw [List.getElem?_eq_none z] at q1; cases q1
        rw [List.getElem?_append_left (by simpa using hi), List.getElem?_map, q1]
        rfl
      · have e0 : bs = [] := List.sublist_nil.mp q2
        rw [e0] at q3
        exact q3
  refine h _ F _ H _ _ S _ ?_
  unfold runF at hw
  cases e : m (ent N.length ds) with
  | nx ρ => rw [e] at hw; exact fun F' O' H' σ' S' => hw .non H' S'.same .non
  | br ρ => rw [e] at hw; exact hw.elim
  | ct ρ => rw [e] at hw; exact hw.elim
  | rt d => rw [e] at hw; exact fun v H' s r => hw v H' s r
  | ex c d => rw [e] at hw; exact hw
  | fail => rw [e] at hw; exact hw
end
end PV
end
section
set_option Elab.async false
set_option linter.all false
set_option maxRecDepth 100000
/-! PV5: what is walked, for, while, comprehensions. -/
namespace PV
open PySem PySem.Spec PyProof.Rows L2

def KeepF (F : Addr → Prop) (H1 H2 : Hp) : Prop := ∀ a o, H1 a = some o → (isLst o = false ∨ F a) → H2 a = some o
theorem KeepF.refl {F : Addr → Prop} {H : Hp} : KeepF F H H := fun _ _ e _ => e
theorem KeepF.same {F : Addr → Prop} {H1 H2 H3 : Hp} (k : KeepF F H1 H2) (s : Same H2 H3) : KeepF F H1 H3 := fun a o e z => s a o (k a o e z)
/-- the iterator J gives the items ds, as long as what is frozen stays -/
structure Items (K : PySem.W.Frag) (F : Addr → Prop) (H1 : Hp) (ds : List D) (J : It) : Prop where
  mk :: (ex : ∃ (n : Nat) (G : Hp → Prop) (Y : Nat → Hp → V → Hp → Prop), Walk J n G Y ∧ n = ds.length ∧ (∀ H2, KeepF F H1 H2 → G H2) ∧
    ∀ i H2 x H' d, KeepF F H1 H2 → ds[i]? = some d → Y i H2 x H' → Same H2 H' ∧ Rp K F H' d x [])
def WI (K : PySem.W.Frag) (E : XK) (G : Addr → Prop) (H : Hp) (r : R (List D)) (Q : It → Hp → Prop) : Prop := match r with
  | .ok ds => ∀ J H1 F1, Same H H1 → (∀ a, F1 a → (G a ∨ H a = none) ∧ H1 a ≠ none) → Items K F1 H1 ds J → Q J H1
  | .ex c d => ECond K E H c d
  | .fail => False
def SndI (K : PySem.W.Frag) (E : XK) (t : TI) (m : Env → R (List D)) (us : List Nat) : Prop := ∀ (b : Bs E) F O H σ ρ, Sd K b F O H σ ρ → ∀ Q, WI K E (Al F O us) H (m ρ) Q → t σ H Q
section
variable {K : PySem.W.Frag} {E : XK} {te ta tb : TE} {me ma mb : Env → R D} {us us' mv : List Nat} {tr : TA} {mr : Env → R (List D)} {F : Addr → Prop} {H H1 H2 : Hp}
theorem rp_keep {d : D} {v : V} (k : KeepF F H1 H2) (r : Rp K F H1 d v []) : Rp K F H2 d v [] :=
  Rp.mono (fun _ z => z) (fun a o e n => k a o e (.inl n)) d v [] (fun a xs z e => k a _ e (.inr (z.resolve_right (fun y => nomatch y)))) r
theorem rpl_keep {d : List D} {v : List V} (k : KeepF F H1 H2) (r : RpL K F H1 d v []) : RpL K F H2 d v [] :=
  RpL.mono (fun _ z => z) (fun a o e n => k a o e (.inl n)) d v [] (fun a xs z e => k a _ e (.inr (z.resolve_right (fun y => nomatch y)))) r
theorem fzL_len : ∀ ds : List D, (fzL ds).length = ds.length
  | [] => rfl
  | d :: ds => by simp [fzL, fzL_len ds]
theorem rp_get0 {ds : List D} {vs : List V} {i : Nat} {d : D} {x : V} (r : RpL K F H ds vs []) (h1 : ds[i]? = some d) (h2 : vs[i]? = some x) : Rp K F H d x [] := by
  obtain ⟨v, bs, q1, q2, q3⟩ := r.get h1
  rw [h2] at q1
  cases q1
  rwa [List.sublist_nil.mp q2] at q3
theorem mv_nil {O : Nat → List Addr} {a : Addr} (h : Mv O [] a) : False := by
  obtain ⟨_, hi, _⟩ := h
  cases hi
/-- a list -/
def iLst (me : Env → R D) : Env → R (List D) := fun ρ => (me ρ).bind fun d => match d with
  | .lst _ ds => .ok (fzL ds)
  | _ => .fail
theorem sni_list (he : SndE K E te me us []) : SndI K E (iList K te) (iLst me) us := by
  intro b F O H σ ρ S Q h
  refine he b F O H σ ρ S _ ?_
  unfold iLst at h
  cases e : me ρ with
  | fail => simp only [e, R.bind_ok, R.bind_ex, R.bind_fail] at h; exact h
  | ex c d => simp only [e, R.bind_ok, R.bind_ex, R.bind_fail] at h; exact h
  | ok d =>
    simp only [e, R.bind_ok, R.bind_ex, R.bind_fail] at h
    intro v H1 s1 r1
    cases d with
    | lst o ds =>
      obtain ⟨F', as, h1, h2, h3, h4⟩ := r1
      obtain ⟨a, vs, e1, e2, e3, e4, e5, r⟩ := Rp.fz (F' := fun a => F' a ∨ a ∈ as) (fun a z => .inl z) (.lst o ds) v as (fun a z => .inr z) h4
      refine ⟨a, e1, ⟨vs, .of e2⟩, h _ H1 (fun a => F' a ∨ a ∈ as) s1 (fun x z => ?_) ⟨vs.length, _, _, walk_list, r.length, fun H2 k => .of (k a _ e2 (.inr e4)), fun i H2 x H' d k hd y => ?_⟩⟩
      · rcases z with z | z
        · exact h1 x z
        · refine ⟨(h3 x z).1.elim .inr fun q => (mv_nil q).elim, ?_⟩
          · obtain ⟨xs, q⟩ := Rp.own _ v as h4 x z
            exact fun y => by rw [q] at y; cases y
      · obtain ⟨y1, y2⟩ := y
        subst y1
        exact ⟨Same.refl _, rp_get0 (rpl_keep k r) hd y2⟩
    | _ => exact h.elim
/-- a tuple -/
def iTpl (me : Env → R D) : Env → R (List D) := fun ρ => (me ρ).bind fun d => match d with
  | .tup ds => .ok (fzL ds)
  | _ => .fail
/-- a number of less than 63 binary digits -/
def inR (j : Int) : Bool := Nat.ble j.natAbs 4000000000000000000
theorem inR_ok {j : Int} (h : inR j = true) : -(2 ^ 62) ≤ j ∧ j < 2 ^ 62 := by
  have : j.natAbs ≤ 4000000000000000000 := Nat.le_of_ble_eq_true h
  omega
theorem inR_of {j : Int} (h : j.natAbs ≤ 4000000000000000000) : inR j = true := Nat.ble_eq.mpr h
/-- range(n) -/
def rngL (lo : Int) (n : Nat) : List D := (List.range n).map fun (k : Nat) => .int (lo + k)
def iRg1 (me : Env → R D) : Env → R (List D) := fun ρ => (me ρ).bind fun d => match d with
  | .int j => if inR j then .ok (rngL 0 j.toNat) else .fail
  | _ => .fail
theorem items_range {lo : Int} {n : Nat} : Items K F H1 (rngL lo n) (Itr lo n) := ⟨n, _, _, walk_range, by simp [rngL], fun _ _ => trivial, fun i H2 x H' d k hd y => by
  obtain ⟨y1, y2⟩ := y
  subst y1
  refine ⟨Same.refl _, ?_⟩
  have hi : i < n := by
    rcases Nat.lt_or_ge i n with z | z
    · exact z
    · rw [rngL, List.getElem?_eq_none (by simpa using z)] at hd; cases hd
  rw [rngL, List.getElem?_map, List.getElem?_range hi] at hd
  cases hd
  exact ⟨y2, rfl⟩⟩
theorem sni_rng1 (he : SndE K E te me us mv) : SndI K E (iRng1 (tCons te tNil)) (iRg1 me) [] := by
  intro b F O H σ ρ S Q h
  show te σ H fun x H1 => ∃ j : Int, [x] = [.int j] ∧ -(2 ^ 62) ≤ j ∧ j < 2 ^ 62 ∧ Q (Itr 0 j.toNat) H1
  refine he b F O H σ ρ S _ ?_
  unfold iRg1 at h
  cases e : me ρ with
  | fail => simp only [e, R.bind_ok, R.bind_ex, R.bind_fail] at h; exact h
  | ex c d => simp only [e, R.bind_ok, R.bind_ex, R.bind_fail] at h; exact h
  | ok d =>
    simp only [e, R.bind_ok, R.bind_ex, R.bind_fail] at h
    intro v H1 s1 r1
    cases d with
    | int j =>
      obtain ⟨F', as, h1, h2, h3, h4⟩ := r1
      by_cases c : inR j = true
      · have h' : WI K E (Al F O []) H (if inR j = true then .ok (rngL 0 j.toNat) else .fail) Q := h
        rw [if_pos c] at h'
        exact ⟨j, by rw [h4.1], (inR_ok c).1, (inR_ok c).2, h' _ H1 NoA s1 (fun _ z => z.elim) items_range⟩
      · have h' : WI K E (Al F O []) H (if inR j = true then .ok (rngL 0 j.toNat) else .fail) Q := h
        rw [if_neg c] at h'
        exact h'.elim
    | _ => exact h.elim
def rg2 : D → D → R (List D)
  | .int i, .int j => if inR i && inR j then .ok (rngL i (j - i).toNat) else .fail
  | _, _ => .fail
def rg2L : List D → R (List D)
  | [x, y] => rg2 x y
  | _ => .fail
def iRg2 (me : Env → R (List D)) : Env → R (List D) := fun ρ => (me ρ).bind rg2L
theorem sni_rng2 (he : SndA K E tr mr us mv) : SndI K E (iRng2 tr) (iRg2 mr) [] := by
  intro b F O H σ ρ S Q h
  refine he b F O H σ ρ S _ ?_
  unfold iRg2 at h
  cases e : mr ρ with
  | fail => simp only [e, R.bind_ok, R.bind_ex, R.bind_fail] at h; exact h
  | ex c d => simp only [e, R.bind_ok, R.bind_ex, R.bind_fail] at h; exact h
  | ok ds =>
    simp only [e, R.bind_ok, R.bind_ex, R.bind_fail] at h
    intro vs H1 s1 r1
    match ds, h with
    | [], h => exact h.elim
    | [_], h => exact h.elim
    | _ :: _ :: _ :: _, h => exact h.elim
    | [x, y], h =>
      obtain ⟨F', as, h1, h2, h3, h4⟩ := r1
      obtain ⟨v, u, a1, a2, rfl, _, r1, r2⟩ := h4.two
      cases x with
      | int i =>
        cases y with
        | int j =>
          have h' : WI K E (Al F O []) H (if (inR i && inR j) = true then .ok (rngL i (j - i).toNat) else .fail) Q := h
          by_cases c : (inR i && inR j) = true
          · rw [if_pos c] at h'
            simp only [Bool.and_eq_true, decide_eq_true_eq] at c
            exact ⟨i, j, by rw [r1.1, r2.1], ⟨(inR_ok c.1).1, (inR_ok c.1).2, (inR_ok c.2).1, (inR_ok c.2).2⟩, h' _ H1 NoA s1 (fun _ z => z.elim) items_range⟩
          · rw [if_neg c] at h'
            exact h'.elim
        | _ => exact h.elim
      | _ => exact h.elim
/-- enumerate(list) -/
def enumL (ds : List D) (k : Nat) : List D := match ds with
  | [] => []
  | d :: r => .tup [.int k, d] :: enumL r (k + 1)
theorem enumL_len : ∀ (ds : List D) (k : Nat), (enumL ds k).length = ds.length
  | [], _ => rfl
  | d :: r, k => by simp [enumL, enumL_len r]
theorem enumL_get : ∀ (ds : List D) (k i : Nat), (enumL ds k)[i]? = ds[i]?.map fun d => .tup [.int ((k + i : Nat) : Int), d]
  | [], _, _ => by simp [enumL]
  | d :: r, k, 0 => by simp [enumL]
  | d :: r, k, i + 1 => by
    have e := enumL_get r (k + 1) i
    rw [show k + 1 + i = k + (i + 1) by omega] at e
    simpa [enumL] using e
def iEn (me : Env → R D) : Env → R (List D) := fun ρ => (me ρ).bind fun d => match d with
  | .lst _ ds => .ok (enumL (fzL ds) 0)
  | _ => .fail
theorem pair_rp {i : Int} {d : D} {x : V} {T : Addr} (hT : H T = none) (r : Rp K F H d x []) : Rp K F (upd H T (.tup [.int i, x])) (.tup [.int i, d]) (.ref T) [] := by
  refine ⟨T, _, rfl, .of upd_same, .int i, [x], [], [], rfl, rfl, ⟨rfl, rfl⟩, x, [], [], [], rfl, rfl, ?_, rfl, rfl⟩
  exact Rp.mono (fun _ z => z) (same_nlst (upd_same_ext hT)) d x [] (fun a xs _ e => upd_same_ext hT a _ e) r
theorem sni_enum (he : SndE K E te me us []) : SndI K E (iEnum K (tCons te tNil)) (iEn me) us := by
  intro b F O H σ ρ S Q h
  show te σ H fun x H1 => ∃ a xs, [x] = [.ref a] ∧ SqL K H1 a xs ∧ Q (Ite K a) H1
  refine he b F O H σ ρ S _ ?_
  unfold iEn at h
  cases e : me ρ with
  | fail => simp only [e, R.bind_ok, R.bind_ex, R.bind_fail] at h; exact h
  | ex c d => simp only [e, R.bind_ok, R.bind_ex, R.bind_fail] at h; exact h
  | ok d =>
    simp only [e, R.bind_ok, R.bind_ex, R.bind_fail] at h
    intro v H1 s1 r1
    cases d with
    | lst o ds =>
      obtain ⟨F', as, h1, h2, h3, h4⟩ := r1
      obtain ⟨a, vs, e1, e2, e3, e4, e5, r⟩ := Rp.fz (F' := fun a => F' a ∨ a ∈ as) (fun a z => .inl z) (.lst o ds) v as (fun a z => .inr z) h4
      refine ⟨a, vs, by rw [e1], .of e2, h _ H1 (fun a => F' a ∨ a ∈ as) s1 (fun x z => ?_) ⟨vs.length, _, _, walk_enum, by rw [enumL_len]; exact r.length, fun H2 k => .of (k a _ e2 (.inr e4)), fun i H2 x H' d k hd y => ?_⟩⟩
      · rcases z with z | z
        · exact h1 x z
        · refine ⟨(h3 x z).1.elim .inr fun q => (mv_nil q).elim, ?_⟩
          · obtain ⟨xs, q⟩ := Rp.own _ v as h4 x z
            exact fun y => by rw [q] at y; cases y
      · obtain ⟨T, x', y', y1, y2, y3, y4, y5⟩ := y
        cases y4
        rw [enumL_get] at hd
        cases e6 : (fzL ds)[i]? with
        | none => rw [e6] at hd; cases hd
        | some d0 =>
          rw [e6] at hd
          have ed : d = .tup [.int ((i : Nat) : Int), d0] := by simpa using hd.symm
          subst ed y1 y3
          exact ⟨upd_same_ext y2, pair_rp y2 (rp_get0 (rpl_keep k r) e6 y5)⟩
    | _ => exact h.elim
/-- zip(list, list) -/
def zipL : List D → List D → List D
  | d :: ds, e :: es => .tup [d, e] :: zipL ds es
  | _, _ => []
theorem zipL_len : ∀ (ds es : List D), (zipL ds es).length = min ds.length es.length
  | [], _ => by simp [zipL]
  | _ :: _, [] => by simp [zipL]
  | d :: ds, e :: es => by simp [zipL, zipL_len ds es]
theorem zipL_get : ∀ (ds es : List D) (i : Nat) (z : D), (zipL ds es)[i]? = some z → ∃ d e, ds[i]? = some d ∧ es[i]? = some e ∧ z = .tup [d, e]
  | [], _, _, _, h => by simp [zipL] at h
  | _ :: _, [], _, _, h => by simp [zipL] at h
  | d :: ds, e :: es, 0, z, h => ⟨d, e, rfl, rfl, by simpa [zipL] using h.symm⟩
  | d :: ds, e :: es, i + 1, z, h => by
    obtain ⟨d', e', h1, h2, h3⟩ := zipL_get ds es i z (by simpa [zipL] using h)
    exact ⟨d', e', by simpa using h1, by simpa using h2, h3⟩
def iZp (me : Env → R (List D)) : Env → R (List D) := fun ρ => (me ρ).bind fun ds => match ds with
  | [.lst _ xs, .lst _ ys] => .ok (zipL (fzL xs) (fzL ys))
  | _ => .fail
theorem pair_rp2 {d e : D} {x y : V} {T : Addr} (hT : H T = none) (r : Rp K F H d x []) (r' : Rp K F H e y []) : Rp K F (upd H T (.tup [x, y])) (.tup [d, e]) (.ref T) [] := by
  refine ⟨T, _, rfl, .of upd_same, x, [y], [], [], rfl, rfl, ?_, y, [], [], [], rfl, rfl, ?_, rfl, rfl⟩
  · exact Rp.mono (fun _ z => z) (same_nlst (upd_same_ext hT)) d x [] (fun a xs _ e => upd_same_ext hT a _ e) r
  · exact Rp.mono (fun _ z => z) (same_nlst (upd_same_ext hT)) e y [] (fun a xs _ e => upd_same_ext hT a _ e) r'
theorem sni_zip (he : SndA K E tr mr us []) : SndI K E (iZip K tr) (iZp mr) us := by
  intro b F O H σ ρ S Q h
  refine he b F O H σ ρ S _ ?_
  unfold iZp at h
  cases e : mr ρ with
  | fail => simp only [e, R.bind_ok, R.bind_ex, R.bind_fail] at h; exact h
  | ex c d => simp only [e, R.bind_ok, R.bind_ex, R.bind_fail] at h; exact h
  | ok ds =>
    simp only [e, R.bind_ok, R.bind_ex, R.bind_fail] at h
    intro vs H1 s1 r1
    match ds, h with
    | [.lst o xs, .lst o' ys], h =>
      obtain ⟨F', as, h1, h2, h3, h4⟩ := r1
      have h5 := RpL.fz (F' := fun a => F' a ∨ a ∈ as) (fun a z => .inl z) _ vs as (fun a z => .inr z) h4
      have h6 : RpL K (fun a => F' a ∨ a ∈ as) H1 [.lst false (fzL xs), .lst false (fzL ys)] vs [] := h5
      obtain ⟨v, u, a1, a2, rfl, ea, q1, q2⟩ := h6.two
      have z1 : a1 = [] := (List.append_eq_nil_iff.mp ea.symm).1
      have z2 : a2 = [] := (List.append_eq_nil_iff.mp ea.symm).2
      subst z1 z2
      obtain ⟨a, us1, e1, e2, e3, e4, e5, r⟩ := q1
      obtain ⟨c, us2, e1', e2', e3', e4', e5', r'⟩ := q2
      refine ⟨a, c, us1, us2, by rw [e1, e1'], .of e2, .of e2', h _ H1 (fun a => F' a ∨ a ∈ as) s1 (fun x z => ?_) ⟨min us1.length us2.length, _, _, walk_zip rfl, by rw [zipL_len, r.length, r'.length], fun H2 k => ⟨.of (k a _ e2 (.inr e4)), .of (k c _ e2' (.inr e4'))⟩, fun i H2 x H' d k hd y => ?_⟩⟩
      · rcases z with z | z
        · exact h1 x z
        · refine ⟨(h3 x z).1.elim .inr fun q => (mv_nil q).elim, ?_⟩
          · obtain ⟨xs, q⟩ := RpL.own _ _ as h4 x z
            exact fun y => by rw [q] at y; cases y
      · obtain ⟨T, x', y', y1, y2, y3, y4, y5⟩ := y
        obtain ⟨d0, e0, k1, k2, k3⟩ := zipL_get _ _ i d hd
        subst y1 y3 k3
        exact ⟨upd_same_ext y2, pair_rp2 y2 (rp_get0 (rpl_keep k r) k1 y4) (rp_get0 (rpl_keep k r') k2 y5)⟩

/-! ### for -/
def forM (f : D → Env → Option Env) (m : Env → Fl) : List D → Env → Fl
  | [], ρ => .nx ρ
  | d :: ds, ρ => match f d ρ with
    | none => .fail
    | some ρ1 => match m ρ1 with
      | .nx ρ2 => forM f m ds ρ2
      | .ct ρ2 => forM f m ds ρ2
      | .br ρ2 => .nx ρ2
      | r => r
def sFor (us : List Nat) (mi : Env → R (List D)) (f : D → Env → Option Env) (m : Env → Fl) : Env → Fl := fun ρ => match mi ρ with
  | .ok ds => forM f m ds (frzA us ρ 0)
  | .ex c d => .ex c d
  | .fail => .fail
theorem Sd.rebase {E : XK} {b : Bs E} {O : Nat → List Addr} {σ : L2.St} {ρ : Env} (S : Sd K b F O H σ ρ) : Sd K ⟨b.G0, b.H0, F, H, b.al⟩ F O H σ ρ := ⟨S.len, S.at_, S.fdom, S.fr, S.nd, S.dj, S.own, S.same, fun _ z => z, fun a o e _ => e⟩
theorem Sd.unbase {E : XK} {b : Bs E} {F0 : Addr → Prop} {HB : Hp} {O : Nat → List Addr} {σ σ0 : L2.St} {ρ ρ0 : Env} {O0 : Nat → List Addr} (S : Sd K ⟨b.G0, b.H0, F0, HB, b.al⟩ F O H σ ρ) (S0 : Sd K b F0 O0 HB σ0 ρ0) : Sd K b F O H σ ρ :=
  ⟨S.len, S.at_, S.fdom, S.fr, S.nd, S.dj, S.own, S.same, fun a z => S.sub a (S0.sub a z), fun a o e z => S.keep a o (S0.keep a o e z) (z.imp id (S0.sub a))⟩
theorem sns_for {wi : TI} {mi : Env → R (List D)} {g : TG} {f : D → Env → Option Env} {t : TS} {m : Env → Fl} {ns : List Nat} (hi : SndI K E wi mi us) (hg : SndG K g f ns) (hb : SndS K E t m) : SndS K E (tFor wi g t) (sFor us mi f m) := by
  intro b F O H σ ρ S T h
  refine hi b F O H σ ρ S _ ?_
  unfold sFor at h
  cases e : mi ρ with
  | fail => rw [e] at h; exact h
  | ex c d => rw [e] at h; exact ECond.mono h S.same
  | ok ds =>
    rw [e] at h
    intro J H1 F1 s1 hF1 hJ
    obtain ⟨n, G, Y, w, hn, hG, hY⟩ := hJ.ex
    obtain ⟨F2, O2, q0, hF12, _, _, P⟩ := S.pend0 (us := us) (mv := []) (ds := []) (vs := []) (as := []) (F' := F1) s1 (fun _ z => nomatch z) hF1 List.nodup_nil (fun _ z => nomatch z) ⟨rfl, rfl⟩ (fun _ z => nomatch z)
    rw [unsA_nil] at P
    have S2 := P.sd
    have kF : ∀ {H2}, KeepF F2 H1 H2 → KeepF F1 H1 H2 := fun k a o e z => k a o e (z.imp id (hF12 a))
    refine for_it w (fun i σ' H' => ∃ F' O' ρ', Sd K ⟨b.G0, b.H0, F2, H1, b.al⟩ F' O' H' σ' ρ' ∧ WS K E b (forM f m (ds.drop i) ρ') T) ⟨F2, O2, _, S2.rebase, h⟩ (fun i σ' H' _ p => ?_) (fun i x σ' H' H'' hi p y => ?_) fun σ' H' p => ?_
    · obtain ⟨F', O', ρ', S', _⟩ := p
      exact hG H' (kF fun a o e z => S'.keep a o e z)
    · obtain ⟨F', O', ρ', S', hw⟩ := p
      have hl : i < ds.length := by rw [← hn]; exact hi
      have hd : ds[i]? = some ds[i] := List.getElem?_eq_getElem hl
      obtain ⟨sx, rx⟩ := hY i H' x H'' ds[i] (kF fun a o e z => S'.keep a o e z) hd y
      have S'' := S'.fwd sx
      have hdr : ds.drop i = ds[i] :: ds.drop (i + 1) := List.drop_eq_getElem_cons hl
      rw [hdr] at hw
      have hw' : WS K E b (match f ds[i] ρ' with
        | none => .fail
        | some ρ1 => match m ρ1 with
          | .nx ρ2 => forM f m (ds.drop (i + 1)) ρ2
          | .ct ρ2 => forM f m (ds.drop (i + 1)) ρ2
          | .br ρ2 => .nx ρ2
          | r => r) T := hw
      cases e1 : f ds[i] ρ' with
      | none => rw [e1] at hw'; exact hw'.elim
      | some ρ1 =>
        rw [e1] at hw'
        have rx' : Rp K F' H'' ds[i] x [] := Rp.mono (fun a z => S'.sub a (hF12 a z)) (fun _ _ e _ => e) _ x [] (fun _ _ _ e => e) rx
        refine hg _ F' O' H'' σ' ρ' ds[i] x [] [] [] ⟨S'', .one rx', List.nodup_nil, fun _ z => nomatch z⟩ ρ1 e1 _ fun O3 σ3 as3 P3 _ _ => ?_
        refine hb _ F' O3 H'' σ3 ρ1 P3.sd _ ?_
        cases e2 : m ρ1 with
        | nx ρ2 =>
          simp only [e2] at hw'
          exact fun F4 O4 H4 σ4 S4 => ⟨F4, O4, ρ2, S4, hw'⟩
        | ct ρ2 =>
          simp only [e2] at hw'
          exact fun F4 O4 H4 σ4 S4 => ⟨F4, O4, ρ2, S4, hw'⟩
        | br ρ2 =>
          simp only [e2] at hw'
          exact fun F4 O4 H4 σ4 S4 => hw' F4 O4 H4 σ4 (S4.unbase S2)
        | rt d => simp only [e2] at hw'; exact hw'
        | ex c d => simp only [e2] at hw'; exact hw'
        | fail => simp only [e2] at hw'; exact hw'
    · obtain ⟨F', O', ρ', S', hw⟩ := p
      rw [hn, List.drop_length] at hw
      exact hw F' O' H' σ' (S'.unbase S2)
/-! ### while -/
def whileF (c : Env → R Bool) (m : Env → Fl) : Nat → Env → Fl
  | 0, _ => .fail
  | n + 1, ρ => match c ρ with
    | .ok true => (match m ρ with
      | .nx ρ2 => whileF c m n ρ2
      | .ct ρ2 => whileF c m n ρ2
      | .br ρ2 => .nx ρ2
      | r => r)
    | .ok false => .nx ρ
    | .ex x d => .ex x d
    | .fail => .fail
def fuelW : Nat := 2 ^ 200
def sWhile (c : Env → R Bool) (m : Env → Fl) : Env → Fl := whileF c m fuelW
theorem sns_while {tc : TT} {mc : Env → R Bool} {t : TS} {m : Env → Fl} (hc : SndT K E tc mc) (hb : SndS K E t m) : SndS K E (tWhile tc t) (sWhile mc m) := by
  intro b F O H σ ρ S T h
  refine ⟨fun n σ' H' => ∃ F' O' ρ', Sd K b F' O' H' σ' ρ' ∧ WS K E b (whileF mc m n ρ') T, ⟨fuelW, F, O, ρ, S, h⟩, fun n σ' H' p => ?_⟩
  obtain ⟨F', O', ρ', S', hw⟩ := p
  refine hc b F' O' H' σ' ρ' S' _ ?_
  cases n with
  | zero => exact hw.elim
  | succ n =>
    have hw' : WS K E b (match mc ρ' with
      | .ok true => (match m ρ' with
        | .nx ρ2 => whileF mc m n ρ2
        | .ct ρ2 => whileF mc m n ρ2
        | .br ρ2 => .nx ρ2
        | r => r)
      | .ok false => .nx ρ'
      | .ex x d => .ex x d
      | .fail => .fail) T := hw
    cases e : mc ρ' with
    | fail => rw [e] at hw'; exact hw'
    | ex c d => rw [e] at hw'; exact ECond.mono hw' S'.same
    | ok k =>
      rw [e] at hw'
      intro H1 s1
      cases k with
      | false => exact iteF (hw' F' O' H1 σ' (S'.fwd s1))
      | true =>
        refine iteT ⟨fun σ4 H4 => ∃ F4 O4 ρ4, Sd K b F4 O4 H4 σ4 ρ4 ∧ WS K E b (whileF mc m n ρ4) T, fun σ4 H4 q => ⟨n, Nat.lt_succ_self n, q⟩, ?_⟩
        refine hb b F' O' H1 σ' ρ' (S'.fwd s1) _ ?_
        cases e2 : m ρ' with
        | nx ρ2 =>
          simp only [e2] at hw'
          exact fun F4 O4 H4 σ4 S4 => ⟨F4, O4, ρ2, S4, hw'⟩
        | ct ρ2 =>
          simp only [e2] at hw'
          exact fun F4 O4 H4 σ4 S4 => ⟨F4, O4, ρ2, S4, hw'⟩
        | br ρ2 =>
          simp only [e2] at hw'
          exact hw'
        | rt d => simp only [e2] at hw'; exact hw'
        | ex c d => simp only [e2] at hw'; exact hw'
        | fail => simp only [e2] at hw'; exact hw'
end
end PV
end
section
set_option Elab.async false
set_option linter.all false
set_option maxRecDepth 100000
/-! PV6: comprehensions, lists that are changed. -/
namespace PV
open PySem PySem.Spec PyProof.Rows L2

def lcM (f : D → Env → Option Env) (mt : Env → R Bool) (me : Env → R D) (ρ : Env) : List D → R (List D)
  | [] => .ok []
  | d :: ds => match f d ρ with
    | none => .fail
    | some ρ1 => match mt ρ1 with
      | .ok true => (match me ρ1 with
        | .ok z => (lcM f mt me ρ ds).bind fun r => .ok (z :: r)
        | _ => .fail)
      | .ok false => lcM f mt me ρ ds
      | _ => .fail
def mLc (us ws : List Nat) (mi : Env → R (List D)) (f : D → Env → Option Env) (mt : Env → R Bool) (me : Env → R D) : Env → R D := fun ρ => (mi ρ).bind fun ds =>
  if lenOk ds.length then (lcM f mt me (unsA ws (frzA us ρ 0) 0) ds).bind fun r => .ok (.lst true r) else .fail
def subs (ns ws : List Nat) : Bool := ns.all fun i => ws.contains i
section
variable {K : PySem.W.Frag} {E : XK} {us us' ns ws : List Nat} {F : Addr → Prop} {O : Nat → List Addr} {H H1 : Hp} {σ : L2.St} {ρ : Env} {b : Bs E}
theorem Sd.wiped (S : Sd K b F O H σ ρ) : Sd K b F O H (wipe σ ws) (unsA ws ρ 0) :=
  ⟨by rw [wipe_length, unsA_len]; exact S.len, fun i d e => by
    rw [unsA_get] at e
    cases e0 : ρ[i]? with
    | none => rw [e0] at e; simp at e
    | some x =>
      rw [e0] at e
      by_cases h : i ∈ ws
      · simp [h] at e
      · simp [h] at e
        subst e
        obtain ⟨v, q1, q2⟩ := S.at_ i d e0
        exact ⟨v, by rw [wipe_get, if_neg h]; exact q1, q2⟩, S.fdom, S.fr, S.nd, S.dj, S.own, S.same, S.sub, S.keep⟩
def Bs.to0 (b : Bs E) : Bs E0 := ⟨b.G0, b.H0, b.B, b.HB, fun _ _ => .inl fun _ _ _ h => h⟩
theorem Sd.to0 (S : Sd K b F O H σ ρ) : Sd K b.to0 F O H σ ρ := ⟨S.len, S.at_, S.fdom, S.fr, S.nd, S.dj, S.own, S.same, S.sub, S.keep⟩
theorem WE.bindR {G M : Addr → Prop} {r : R (List D)} {f : List D → R D} {Q : VK} (h : WE K E G M H (r.bind f) Q) : (∃ l, r = .ok l ∧ WE K E G M H (f l) Q) ∨ (∃ c d, r = .ex c d ∧ ECond K E H c d) := by
  cases r with
  | ok l => exact .inl ⟨l, rfl, h⟩
  | ex c d => exact .inr ⟨c, d, rfl, h⟩
  | fail => exact h.elim
theorem lcM_noex (f : D → Env → Option Env) (mt : Env → R Bool) (me : Env → R D) (ρ : Env) : ∀ (ds : List D) (c : String) (d : D), lcM f mt me ρ ds ≠ .ex c d
  | [], c, d => by simp [lcM]
  | x :: ds, c, d => by
    unfold lcM
    cases f x ρ with
    | none => simp
    | some ρ1 =>
      simp only
      cases mt ρ1 with
      | ok k =>
        cases k with
        | true =>
          simp only
          cases me ρ1 with
          | ok z =>
            simp only
            cases e : lcM f mt me ρ ds with
            | ok l => simp [R.bind_ok]
            | ex c' d' => exact absurd e (lcM_noex f mt me ρ ds c' d')
            | fail => simp [R.bind_fail]
          | ex _ _ => simp
          | fail => simp
        | false => exact lcM_noex f mt me ρ ds c d
      | ex _ _ => simp
      | fail => simp
theorem snd_lc {wi : TI} {mi : Env → R (List D)} {g : TG} {f : D → Env → Option Env} {tt : TT} {mt : Env → R Bool} {te : TE} {me : Env → R D} (hi : SndI K E wi mi us) (hg : SndG K g f ns) (ht : SndT K E0 tt mt) (he : SndE K E0 te me us' []) (hn : subs ns ws = true := by rfl) :
    SndE K E (tLc wi g tt te ws) (mLc us ws mi f mt me) (us ++ us') [] := by
  have hns : ∀ i ∈ ns, i ∈ ws := by
    unfold subs at hn
    simpa [List.all_eq_true] using hn
  intro b F O H σ ρ S Q h
  refine hi b F O H σ ρ S _ ?_
  unfold mLc at h
  cases e : mi ρ with
  | fail => simp only [e, R.bind_ok, R.bind_ex, R.bind_fail] at h; exact h
  | ex c d => simp only [e, R.bind_ok, R.bind_ex, R.bind_fail] at h; exact h
  | ok ds =>
    simp only [e, R.bind_ok, R.bind_ex, R.bind_fail] at h
    by_cases hz : lenOk ds.length = true
    · rw [if_pos hz] at h
      intro J H1 F1 s1 hF1 hJ D hD
      obtain ⟨n, G, Y, w, hn', hG, hY⟩ := hJ.ex
      obtain ⟨F2, O2, q0, hF12, hF2, hO2, P⟩ := S.pend0 (us := us) (mv := []) (ds := []) (vs := []) (as := []) (F' := F1) s1 (fun _ z => nomatch z) hF1 List.nodup_nil (fun _ z => nomatch z) ⟨rfl, rfl⟩ (fun _ z => nomatch z)
      rw [unsA_nil] at P
      have S2 := P.sd.wiped (ws := ws)
      generalize hρ : unsA ws (frzA us ρ 0) 0 = ρw at h S2
      have hbig : ds.length ≤ 1000000 := Nat.le_of_ble_eq_true hz
      have al2 : ∀ a, F2 a → Al F O (us ++ us') a ∨ H a = none := fun a z => by
        rcases hF2 a z with q | q | ⟨i, hi, q⟩
        · exact .inl (.inl q)
        · exact (hF1 a q).1.imp (Al.app a) id
        · exact .inl (.inr ⟨i, List.mem_append_left _ hi, q⟩)
      have nD2 : ¬ F2 D := fun z => S2.fdom D z hD
      refine lc_it w (fun k Hk => ∃ vs zs F' as, Same H1 Hk ∧ Hk D = some (.lst vs) ∧ vs.length ≤ k ∧ (∀ a, F' a → (Al F O (us ++ us') a ∨ H a = none) ∧ Hk a ≠ none ∧ a ≠ D) ∧ as.Nodup ∧ (∀ a ∈ as, H1 a = none ∧ ¬ F' a ∧ a ≠ D) ∧ RpL K F' Hk zs vs as ∧
          WE K E (Al F O (us ++ us')) (Mv O []) H ((lcM f mt me ρw (ds.drop k)).bind fun r => .ok (.lst true (zs ++ r))) Q) ?_ ?_ ?_ ?_
      · exact ⟨[], [], NoA, [], upd_same_ext hD, upd_same, Nat.le_refl _, (fun _ z => z.elim), List.nodup_nil, (fun _ z => nomatch z), ⟨rfl, rfl⟩, by simpa using h⟩
      · rintro i Hk hik ⟨vs, zs, F', as, sk, _⟩
        exact hG Hk fun a o e _ => sk a o e
      · rintro i x Hk H' hin ⟨vs, zs, F', as, sk, hDk, hlen, k1, k2, k3, k4, hw⟩ hy
        have hl : i < ds.length := by rw [← hn']; exact hin
        have hd : ds[i]? = some ds[i] := List.getElem?_eq_getElem hl
        obtain ⟨sx, rx⟩ := hY i Hk x H' ds[i] (fun a o e _ => sk a o e) hd hy
        have S3 := S2.fwd (sk.trans sx)
        have rx' : Rp K F2 H' ds[i] x [] := Rp.mono (fun a z => hF12 a z) (fun _ _ e _ => e) _ x [] (fun _ _ _ e => e) rx
        have hdr : ds.drop i = ds[i] :: ds.drop (i + 1) := List.drop_eq_getElem_cons hl
        rw [hdr] at hw
        unfold lcM at hw
        cases e1 : f ds[i] ρw with
        | none => simp only [e1, R.bind_fail] at hw; exact hw.elim
        | some ρ1 =>
          simp only [e1] at hw
          refine hg _ F2 O2 H' (wipe σ ws) ρw ds[i] x [] [] [] ⟨S3, .one rx', List.nodup_nil, fun _ z => nomatch z⟩ ρ1 e1 _ fun O3 σ3 as3 P3 B3 wp => ⟨?_, ?_⟩
          · have e2 := wp ws hns
            rw [e2]
            apply List.ext_getElem?
            intro j
            rw [wipe_get, wipe_get]
            by_cases hj : j ∈ ws
            · simp [hj]
              cases σ[j]? <;> rfl
            · simp [hj]
          · have S4 := P3.sd
            refine ht _ F2 O3 H' σ3 ρ1 S4.to0 _ ?_
            cases e2 : mt ρ1 with
            | fail => simp only [e2, R.bind_fail] at hw; exact hw.elim
            | ex c d => simp only [e2, R.bind_fail] at hw; exact hw.elim
            | ok kb =>
              simp only [e2] at hw
              intro H3 s3
              have sk3 : Same H1 H3 := (sk.trans sx).trans s3
              have sD3 : H3 D = some (.lst vs) := s3 D _ (sx D _ hDk)
              have s03 : Same Hk H3 := sx.trans s3
              cases kb with
              | false =>
                simp only at hw
                refine iteF ⟨vs, zs, F', as, sk3, sD3, Nat.le_succ_of_le hlen, fun a z => ⟨(k1 a z).1, same_dom s03 (k1 a z).2.1, (k1 a z).2.2⟩, k2, k3, RpL.mono (fun _ z => z) (same_nlst s03) zs vs as (fun a xs _ e => s03 a _ e) k4, hw⟩
              | true =>
                simp only at hw
                refine iteT (he _ F2 O3 H3 σ3 ρ1 (S4.fwd s3).to0 _ ?_)
                cases e3 : me ρ1 with
                | fail => simp only [e3, R.bind_fail] at hw; exact hw.elim
                | ex c d => simp only [e3, R.bind_fail] at hw; exact hw.elim
                | ok z =>
                  simp only [e3] at hw
                  intro y H4 s4 r4
                  obtain ⟨Fz, az, z1, z2, z3, z4⟩ := r4
                  have sD4 : H4 D = some (.lst vs) := s4 D _ sD3
                  have s04 : Same Hk H4 := s03.trans s4
                  have zal : ∀ a, Fz a → (Al F O (us ++ us') a ∨ H a = none) ∧ a ≠ D := fun a q => by
                    rcases (z1 a q).1 with (g | ⟨j, hj, g⟩) | g
                    · exact ⟨al2 a g, fun e => nD2 (e ▸ g)⟩
                    · have g2 : a ∈ O2 j := (B3.1 j a g).elim id fun z => nomatch z
                      exact ⟨.inl (.inr ⟨j, List.mem_append_right _ hj, hO2 j a g2⟩), fun e => (S2.own j a g2).2.2 (e ▸ hD)⟩
                    · exact ⟨.inr (s1.free (sk3.free g)), fun e => by rw [e, sD3] at g; cases g⟩
                  have znew : ∀ a ∈ az, H3 a = none := fun a q => (z3 a q).1.resolve_right fun y => mv_nil y
                  have oldne : ∀ a ∈ as, a ∉ az := fun a q q' => by
                    obtain ⟨xs, e⟩ := RpL.own zs vs as k4 a q
                    have e' := s03 a _ e
                    rw [znew a q'] at e'; cases e'
                  refine ⟨vs, sD4, Nat.lt_of_le_of_lt (Nat.le_trans hlen (Nat.le_trans (Nat.le_of_lt hl) hbig)) (by rw [sizeLine_eq]; decide), vs ++ [y], zs ++ [z], fun a => F' a ∨ Fz a, as ++ az, fun a o e => ?_, upd_same, by simpa using hlen, fun a q => ?_, ?_, fun a q => ?_, ?_, ?_⟩
                  · rw [upd_ne (ne_of_none e hD)]
                    exact s4 a o (sk3 a o e)
                  · rcases q with q | q
                    · refine ⟨(k1 a q).1, ?_, (k1 a q).2.2⟩
                      rw [upd_ne (k1 a q).2.2]
                      exact same_dom s04 (k1 a q).2.1
                    · refine ⟨(zal a q).1, ?_, (zal a q).2⟩
                      rw [upd_ne (zal a q).2]
                      exact (z1 a q).2
                  · refine List.nodup_append.mpr ⟨k2, z2, fun a q b q' e => oldne a q (e ▸ q')⟩
                  · rcases List.mem_append.mp q with q | q
                    · refine ⟨(k3 a q).1, fun y => y.elim (k3 a q).2.1 fun y => ?_, (k3 a q).2.2⟩
                      obtain ⟨xs, e⟩ := RpL.own zs vs as k4 a q
                      rcases (z1 a y).1 with (g | ⟨j, hj, g⟩) | g
                      · exact S2.fdom a g (k3 a q).1
                      · have g2 : a ∈ O2 j := (B3.1 j a g).elim id fun z => nomatch z
                        exact (S2.own j a g2).2.2 (k3 a q).1
                      · rw [s03 a _ e] at g; cases g
                    · have hn3 := znew a q
                      refine ⟨sk3.free hn3, fun y => y.elim (fun y => ?_) (z3 a q).2, fun e => by rw [e, sD3] at hn3; cases hn3⟩
                      exact same_dom s03 (k1 a y).2.1 hn3
                  · have m1 : RpL K (fun a => F' a ∨ Fz a) (upd H4 D (.lst (vs ++ [y]))) zs vs as := RpL.mono (fun _ z => .inl z) (fun a o e hl => by
                      have e' := s04 a o e
                      rw [upd_ne (fun z => by rw [z, sD4] at e'; cases e'; cases hl)]
                      exact e') zs vs as (fun a xs q e => by
                      have e' := s04 a _ e
                      rw [upd_ne (fun z => by
                        rcases q with q | q
                        · exact (k1 a q).2.2 z
                        · exact (k3 a q).2.2 z)]
                      exact e') k4
                    have m2 : Rp K (fun a => F' a ∨ Fz a) (upd H4 D (.lst (vs ++ [y]))) z y az := Rp.mono (fun _ z => .inr z) (fun a o e hl => by
                      rw [upd_ne (fun z => by rw [z, sD4] at e; cases e; cases hl)]
                      exact e) z y az (fun a xs q e => by
                      rw [upd_ne (fun z => by
                        rcases q with q | q
                        · exact (zal a q).2 z
                        · have hn3 := znew a q
                          rw [z, sD3] at hn3; cases hn3)]
                      exact e) z4
                    exact m1.append (.one m2)
                  · cases e5 : lcM f mt me ρw (ds.drop (i + 1)) with
                    | ok l =>
                      simp only [e5, R.bind_ok] at hw ⊢
                      rw [List.append_assoc]
                      exact hw
                    | ex c d => exact absurd e5 (lcM_noex _ _ _ _ _ c d)
                    | fail => simp only [e5, R.bind_fail] at hw; exact hw.elim
      · rintro Hk ⟨vs, zs, F', as, sk, hDk, hlen, k1, k2, k3, k4, hw⟩
        rw [hn', List.drop_length] at hw
        have hw' : WE K E (Al F O (us ++ us')) (Mv O []) H (.ok (.lst true (zs ++ []))) Q := hw
        rw [List.append_nil] at hw'
        refine hw' _ Hk (s1.trans sk) ⟨F', D :: as, fun a q => ⟨(k1 a q).1, (k1 a q).2.1⟩, List.nodup_cons.mpr ⟨fun z => (k3 D z).2.2 rfl, k2⟩, fun a q => ?_, D, vs, as, rfl, hDk, ?_, rfl, k4⟩
        · rcases List.mem_cons.mp q with q | q
          · rw [q]
            exact ⟨.inl (s1.free hD), fun z => (k1 D z).2.2 rfl⟩
          · exact ⟨.inl (s1.free (k3 a q).1), (k3 a q).2.1⟩
        · have : vs.length ≤ 1000000 := Nat.le_trans hlen (by rw [hn']; exact hbig)
          rw [sizeLine_eq]
          omega
    · rw [if_neg hz] at h
      exact h.elim
end
end PV
end
section
set_option Elab.async false
set_option linter.all false
set_option maxRecDepth 100000
/-! PV7: list operators, list.append of a name, slices, chains, calls by keywords, repr. -/
namespace PV
open PySem PySem.Spec PyProof.Rows L2
section
variable {K : PySem.W.Frag} {E : XK} {us us' us'' mv mv' mv'' : List Nat} {F : Addr → Prop} {O : Nat → List Addr} {H H1 : Hp} {σ : L2.St} {ρ : Env} {b : Bs E} {ta tb tc te : TE} {ma mb mc me : Env → R D} {tr : TA} {mr : Env → R (List D)}
/-! ### xs + ys, xs * k -/
def fCat : D → D → Option D
  | .lst _ xs, .lst _ ys => if lenOk (xs.length + ys.length) then some (.lst true (xs ++ ys)) else none
  | _, _ => none
theorem ok_cat : OpN K (r2 rCat) (o2 fCat) := by
  intro G M H H' ds vs z Q s r hG hM h q
  match ds, h with
  | [d, e], h =>
    have h2 : fCat d e = some z := h
    cases d with
    | lst o xs =>
      cases e with
      | lst o' ys =>
        have h3 : (if lenOk (xs.length + ys.length) then some (D.lst true (xs ++ ys)) else none) = some z := h2
        by_cases c : lenOk (xs.length + ys.length) = true
        · rw [if_pos c] at h3
          cases h3
          obtain ⟨F', as, g1, g2, g3, r0⟩ := r
          obtain ⟨v, u, a1, a2, rfl, ea, r1, r2⟩ := r0.two
          obtain ⟨a, us, bs, rfl, e1, e2, e3, q1⟩ := r1.lst_inv
          obtain ⟨a', us', bs', rfl, e1', e2', e3', q2⟩ := r2.lst_inv
          have hl : (us ++ us').length ≤ sizeLine := by
            rw [List.length_append, q1.length, q2.length]
            exact lenOk_le c
          refine ⟨_, _, rfl, a, a', us, us', rfl, rfl, e1, e1', by rw [← List.length_append]; exact hl, fun p hp => q _ _ (upd_same_ext hp) ?_⟩
          refine RpXL.lst ⟨F', bs ++ bs', g1, ?_, fun x hx => ?_, q1.append q2⟩ s hp hl
          · rw [ea] at g2
            exact g2.sublist (List.Sublist.append e3 e3')
          · refine g3 x ?_
            rw [ea]
            exact (List.Sublist.append e3 e3').subset hx
        · rw [if_neg c] at h3; cases h3
      | _ => cases h2
    | _ => cases h2
mutual
/-- no own list within -/
def noOw : D → Bool
  | .lst o ds => !o
  | .tup ds => noOwL ds
  | _ => true
def noOwL : List D → Bool
  | [] => true
  | d :: ds => noOw d && noOwL ds
end
mutual
theorem Rp.noOw : ∀ (d : D) (v : V) (as : List Addr), noOw d = true → Rp K F H d v as → as = []
  | .non, _, _, _, h => h.2
  | .bl _, _, _, _, h => h.2
  | .int _, _, _, _, h => h.2
  | .str _, _, _, _, h => h.2
  | .lst true ds, v, as, h1, h => by simp [PV.noOw] at h1
  | .lst false ds, v, as, h1, h => by
    obtain ⟨a, vs, e1, e2, e3, e4, e5, r⟩ := h
    exact e5
  | .tup ds, v, as, h1, h => by
    obtain ⟨a, vs, e1, e2, r⟩ := h
    exact RpL.noOw ds vs as (by simpa [PV.noOw] using h1) r
  | .dic ks ds, v, as, h1, h => by
    obtain ⟨a, kvs, e1, e2, e3, e4, r⟩ := h
    exact e4
  | .box ks ds, v, as, h1, h => by
    obtain ⟨a, kvs, e1, e2, e4, r⟩ := h
    exact e4
theorem RpL.noOw : ∀ (ds : List D) (vs : List V) (as : List Addr), noOwL ds = true → RpL K F H ds vs as → as = []
  | [], _, _, _, h => h.2
  | d :: ds, vs, as, h1, h => by
    obtain ⟨v, r, a1, a2, e1, e2, r1, r2⟩ := h
    obtain ⟨q1, q2⟩ : PV.noOw d = true ∧ PV.noOwL ds = true := by simpa [PV.noOwL] using h1
    rw [e2, Rp.noOw d v a1 q1 r1, RpL.noOw ds r a2 q2 r2] <;> rfl
end
theorem RpL.rep {ds : List D} {vs : List V} (r : RpL K F H ds vs []) : ∀ n : Nat, RpL K F H (List.replicate n ds).flatten (List.replicate n vs).flatten []
  | 0 => ⟨rfl, rfl⟩
  | n + 1 => by
    rw [List.replicate_succ, List.replicate_succ, List.flatten_cons, List.flatten_cons]
    exact (r.append (RpL.rep r n) : RpL K F H _ _ ([] ++ []))
def fRep : D → D → Option D
  | .lst _ xs, .int k => if inR k && (lenOk (xs.length * k.toNat) && noOwL xs) then some (.lst true (List.replicate k.toNat xs).flatten) else none
  | _, _ => none
theorem flat_len {α : Type} (xs : List α) : ∀ n : Nat, (List.replicate n xs).flatten.length = xs.length * n
  | 0 => by simp
  | n + 1 => by rw [List.replicate_succ, List.flatten_cons, List.length_append, flat_len xs n, Nat.mul_succ, Nat.add_comm]
theorem ok_rep : OpN K (r2 rRep) (o2 fRep) := by
  intro G M H H' ds vs z Q s r hG hM h q
  match ds, h with
  | [d, e], h =>
    have h2 : fRep d e = some z := h
    cases d with
    | lst o xs =>
      cases e with
      | int k =>
        have h3 : (if (inR k && (lenOk (xs.length * k.toNat) && noOwL xs)) = true then some (D.lst true (List.replicate k.toNat xs).flatten) else none) = some z := h2
        by_cases c : (inR k && (lenOk (xs.length * k.toNat) && noOwL xs)) = true
        · rw [if_pos c] at h3
          cases h3
          simp only [Bool.and_eq_true, decide_eq_true_eq] at c
          obtain ⟨F', as, g1, g2, g3, r0⟩ := r
          obtain ⟨v, u, a1, a2, rfl, ea, r1, r2⟩ := r0.two
          obtain ⟨a, us, bs, rfl, e1, e2, e3, q1⟩ := r1.lst_inv
          have hb : bs = [] := q1.noOw _ _ _ c.2.2
          subst hb
          have hl : us.length * k.toNat ≤ sizeLine := by
            rw [q1.length]
            exact lenOk_le c.2.1
          refine ⟨_, _, rfl, a, k, us, rfl, r2.1, e1, by have := inR_ok c.1; omega, by have := inR_ok c.1; omega, hl, fun p hp => q _ _ (upd_same_ext hp) ?_⟩
          exact RpXL.lst ⟨F', [], g1, List.nodup_nil, (fun _ z => nomatch z), q1.rep _⟩ s hp (by rw [flat_len]; exact hl)
        · rw [if_neg c] at h3; cases h3
      | _ => cases h2
    | _ => cases h2
/-- +, * of ints, texts, lists -/
def rOr (r r' : R2) : R2 := fun x y H Q => r x y H Q ∨ r' x y H Q
theorem okN_of {r : R2} {f : D → D → Option D} (h : OpS K (r2 r) (o2 f)) : OpN K (r2 r) (o2 f) := by
  intro G M H H' ds vs z Q s r hG hM h2 q
  obtain ⟨F', as, g1, g2, g3, r0⟩ := r
  exact h F' as H' ds vs z Q r0 h2 fun w rw' hs => q w H' (Same.refl _) (.scal hs rw')
def fOr (f g : D → D → Option D) : D → D → Option D := fun d e => match f d e with
  | some z => some z
  | none => g d e
theorem okN_or {r r' : R2} {f g : D → D → Option D} (h : OpN K (r2 r) (o2 f)) (h' : OpN K (r2 r') (o2 g)) : OpN K (r2 (rOr r r')) (o2 (fOr f g)) := by
  intro G M H H' ds vs z Q s r hG hM h2 q
  match ds, h2 with
  | [d, e], h2 =>
    have h3 : fOr f g d e = some z := h2
    unfold fOr at h3
    cases e1 : f d e with
    | some z' =>
      rw [e1] at h3
      cases h3
      obtain ⟨x, y, e2, k⟩ := h G M H H' [d, e] vs _ Q s r hG hM e1 q
      exact ⟨x, y, e2, .inl k⟩
    | none =>
      rw [e1] at h3
      obtain ⟨x, y, e2, k⟩ := h' G M H H' [d, e] vs z Q s r hG hM h3 q
      exact ⟨x, y, e2, .inr k⟩
def fCatS : D → D → Option D
  | .str x, .str y => if lenOk (x.length + y.length) then some (.str (x ++ y)) else none
  | _, _ => none
theorem ok_catS : OpS K (r2 (fun x y H Q => ∃ i j, x = V.str i ∧ y = V.str j ∧ i.length + j.length ≤ sizeLine ∧ Q (.str (i ++ j)) H)) (o2 fCatS) := by
  intro F as H ds vs z Q r h q
  match ds, h with
  | [d, e], h =>
    have h2 : fCatS d e = some z := h
    obtain ⟨v, u, a1, a2, rfl, e2, r1, r2⟩ := r.two
    cases d with
    | str x =>
      cases e with
      | str y =>
        have h3 : (if lenOk (x.length + y.length) then some (D.str (x ++ y)) else none) = some z := h2
        by_cases c : lenOk (x.length + y.length) = true
        · rw [if_pos c] at h3
          cases h3
          exact ⟨_, _, rfl, x, y, r1.1, r2.1, lenOk_le c, q _ (fun _ _ => ⟨rfl, rfl⟩) rfl⟩
        · rw [if_neg c] at h3; cases h3
      | _ => cases h2
    | _ => cases h2
theorem op_addD {X : Cx} : OpR X (binaryOp .Add) (rOr (rI0 fun i j => .int (i + j)) (rOr (fun x y H Q => ∃ i j, x = V.str i ∧ y = V.str j ∧ i.length + j.length ≤ sizeLine ∧ Q (.str (i ++ j)) H) rCat)) := op_add.or (op_add_str.or op_cat)
def fAddD : D → D → Option D := fOr fAdd (fOr fCatS fCat)
theorem ok_addD : OpN K (r2 (rOr (rI0 fun i j => .int (i + j)) (rOr (fun x y H Q => ∃ i j, x = V.str i ∧ y = V.str j ∧ i.length + j.length ≤ sizeLine ∧ Q (.str (i ++ j)) H) rCat))) (o2 fAddD) := okN_or (okN_of ok_add) (okN_or (okN_of ok_catS) ok_cat)

/-! ### a op1 b op2 c -/
def chn (ma mb mc : Env → R D) (f g : D → D → Option D) : Env → R D := fun ρ => (ma ρ).bind fun x => (mb ρ).bind fun y => (ofO ((f x y).bind asB)).bind fun k => if k then (mc ρ).bind fun z => ofO (g y z) else .ok (.bl false)
theorem snd_chain {r r' : R2} {f g : D → D → Option D} (hr : OpS K (r2 r) (o2 f)) (hr' : OpS K (r2 r') (o2 g)) (ha : SndE K E ta ma us mv) (hb : SndE K E tb mb us' mv') (hc : SndE K E tc mc us'' mv'') (ap : apart us mv us' mv' = true := by rfl) :
    SndE K E (tChain r r' ta tb tc) (chn ma mb mc f g) [] [] := by
  intro b F O H σ ρ S Q h
  refine snd_two (RR := fun x y H2 => r x y H2 fun z H3 => ∃ k, z = .bl k ∧ (if k = true then tc σ H3 fun w' H4 => r' y w' H4 Q else Q (.bl false) H3)) ha hb ap S ?_
  unfold chn at h
  cases e : ma ρ with
  | fail => simp only [e, R.bind_ok, R.bind_ex, R.bind_fail] at h; exact h
  | ex c d => simp only [e, R.bind_ok, R.bind_ex, R.bind_fail] at h; exact h
  | ok d =>
    simp only [e, R.bind_ok, R.bind_ex, R.bind_fail] at h ⊢
    cases e2 : mb ρ with
    | fail => simp only [e2, R.bind_ok, R.bind_ex, R.bind_fail] at h; exact h
    | ex c d => simp only [e2, R.bind_ok, R.bind_ex, R.bind_fail] at h; exact h
    | ok d2 =>
      simp only [e2, R.bind_ok, R.bind_ex, R.bind_fail] at h ⊢
      intro vs H2 s2 r2
      cases e3 : f d d2 with
      | none => simp only [e3, Option.bind_none, ofO_none, R.bind_fail] at h; exact h.elim
      | some z =>
        cases e4 : asB z with
        | none => simp only [e3, Option.bind_some, e4, ofO_none, R.bind_fail] at h; exact h.elim
        | some k =>
          simp only [e3, Option.bind_some, e4, ofO_some, R.bind_ok] at h
          obtain ⟨F', as, _, _, _, r0⟩ := r2
          obtain ⟨v, u, a1, a2, rfl, ea, q1, q2⟩ := r0.two
          have key := hr F' as H2 [d, d2] [v, u] z (fun w H3 => w = .bl k ∧ H3 = H2) r0 e3 fun w rz hz => by
            have ez : z = .bl k := asB_ok e4
            subst ez
            exact ⟨(rz F' H2).1, rfl⟩
          have fin : ∀ (Q2 : VK), (∀ w rz, Q2 w rz → True) → True := fun _ _ => trivial
          refine ⟨v, u, rfl, ?_⟩
          have go := hr F' as H2 [d, d2] [v, u] z (fun z H3 => ∃ k, z = .bl k ∧ (if k = true then tc σ H3 fun w' H4 => r' u w' H4 Q else Q (.bl false) H3)) r0 e3 fun w rz hz => by
            have ez : z = .bl k := asB_ok e4
            subst ez
            refine ⟨k, (rz F' H2).1, ?_⟩
            cases k with
            | false => exact iteF (h _ H2 s2 (.bl false))
            | true =>
              refine iteT (hc b F O H2 σ ρ (S.fwd s2) _ ?_)
              simp only [if_true] at h
              cases e5 : mc ρ with
              | fail => simp only [e5, R.bind_fail] at h; exact h
              | ex c d => simp only [e5, R.bind_ex] at h; exact ECond.mono h s2
              | ok d3 =>
                simp only [e5, R.bind_ok] at h
                intro w3 H3 s3 r3
                cases e6 : g d2 d3 with
                | none => simp only [e6, ofO_none] at h; exact h.elim
                | some z2 =>
                  simp only [e6, ofO_some] at h
                  obtain ⟨F3, as3, _, _, _, r4⟩ := r3
                  have r5 : RpL K (fun a => F' a ∨ F3 a) H3 [d2, d3] [u, w3] (a2 ++ as3) := by
                    refine ⟨u, [w3], a2, as3, rfl, rfl, ?_, .one (Rp.mono (fun _ z => .inr z) (fun _ _ e _ => e) _ _ _ (fun _ _ _ e => e) r4)⟩
                    exact Rp.mono (fun _ z => .inl z) (same_nlst s3) _ _ _ (fun a xs _ e => s3 a _ e) q2
                  obtain ⟨x', y', e7, k7⟩ := hr' _ _ H3 [d2, d3] [u, w3] z2 Q r5 e6 fun w rz hz => h w H3 (s2.trans s3) (.scal hz rz)
                  cases e7
                  exact k7
          obtain ⟨x', y', e7, k7⟩ := go
          cases e7
          exact k7

/-! ### slices -/
def SndO (K : PySem.W.Frag) (E : XK) (t : TO) (m : Env → R (Option Int)) : Prop := ∀ (b : Bs E) F O H σ ρ, Sd K b F O H σ ρ → ∀ Q : Option Int → Hp → Prop, (match m ρ with
  | .ok o => ∀ H', Same H H' → Q o H'
  | .ex c d => ECond K E H c d
  | .fail => False) → t σ H Q
theorem sno_none : SndO K E tNoPart fun _ => .ok none := fun b F O H σ ρ S Q h => h H (Same.refl H)
def asI : D → Option Int
  | .int i => some i
  | _ => none
def oPart (m : Env → R D) : Env → R (Option Int) := fun ρ => (m ρ).bind fun d => (ofO (asI d)).bind fun i => .ok (some i)
theorem sno_some (ha : SndE K E ta ma us mv) : SndO K E (tPart ta) (oPart ma) := by
  intro b F O H σ ρ S Q h
  refine ha b F O H σ ρ S _ ?_
  unfold oPart at h
  cases e : ma ρ with
  | fail => simp [e, R.bind_fail] at h
  | ex c d => simp only [e, R.bind_ok, R.bind_ex, R.bind_fail] at h; exact h
  | ok d =>
    simp only [e, R.bind_ok, R.bind_ex, R.bind_fail] at h
    intro v H1 s1 r1
    cases d with
    | int i =>
      obtain ⟨F', as, _, _, _, r⟩ := r1
      exact ⟨i, r.1, h H1 s1⟩
    | _ => exact h.elim
def cutD (xs : List D) (lo hi : Option Int) : List D := (xs.drop (HT.sIx xs.length 0 lo)).take (HT.sIx xs.length xs.length hi - HT.sIx xs.length 0 lo)
def mSl (me : Env → R D) (ml mh : Env → R (Option Int)) : Env → R D := fun ρ => (me ρ).bind fun d => (ml ρ).bind fun lo => (mh ρ).bind fun hi => match d with
  | .lst _ xs => .ok (.lst true (cutD xs lo hi))
  | _ => .fail
theorem snd_slice {tl th : TO} {ml mh : Env → R (Option Int)} (he : SndE K E te me us mv) (hl : SndO K E tl ml) (hh : SndO K E th mh) : SndE K E (tSl (rSlL K) te tl th) (mSl me ml mh) us mv := by
  intro b F O H σ ρ S Q h
  refine he b F O H σ ρ S _ ?_
  unfold mSl at h
  cases e : me ρ with
  | fail => simp only [e, R.bind_ok, R.bind_ex, R.bind_fail] at h; exact h
  | ex c d => simp only [e, R.bind_ok, R.bind_ex, R.bind_fail] at h; exact h
  | ok d =>
    simp only [e, R.bind_ok, R.bind_ex, R.bind_fail] at h
    intro v H1 s1 r1
    refine hl b F O H1 σ ρ (S.fwd s1) _ ?_
    cases e2 : ml ρ with
    | fail => simp only [e2, R.bind_fail] at h; exact h
    | ex c d => simp only [e2, R.bind_ex] at h; exact ECond.mono h s1
    | ok lo =>
      simp only [e2, R.bind_ok] at h
      intro H2 s2
      refine hh b F O H2 σ ρ ((S.fwd s1).fwd s2) _ ?_
      cases e3 : mh ρ with
      | fail => simp only [e3, R.bind_fail] at h; exact h
      | ex c d => simp only [e3, R.bind_ex] at h; exact ECond.mono h (s1.trans s2)
      | ok hi =>
        simp only [e3, R.bind_ok] at h
        intro H3 s3
        cases d with
        | lst o xs =>
          obtain ⟨F', as, g1, g2, g3, r0⟩ := r1.fwd (s2.trans s3)
          obtain ⟨a, us, bs, rfl, e4, e5, e6, q⟩ := r0.lst_inv
          have s03 := (s1.trans s2).trans s3
          refine ⟨a, us, rfl, .of e4, fun p hp => h _ _ (s03.trans (upd_same_ext hp)) ?_⟩
          obtain ⟨b1, k1, k2⟩ := q.drop (HT.sIx xs.length 0 lo)
          obtain ⟨b2, k3, k4⟩ := k2.take (HT.sIx xs.length xs.length hi - HT.sIx xs.length 0 lo)
          have sub := (k3.trans k1).trans e6
          refine RpXL.lst ⟨F', b2, g1, g2.sublist sub, fun x hx => g3 x (sub.subset hx), ?_⟩ s03 hp (Nat.le_trans (cutV_length us lo hi) e5)
          unfold cutV
          rw [q.length]
          exact k4
        | _ => exact h.elim

/-! ### xs.append(e), xs a name of the def's own -/
def sApp (us mv : List Nat) (i : Nat) (me : Env → R D) : Env → Fl := fun ρ => match ρ[i]? with
  | some (some (.lst true ds)) => thnE (me ρ) fun d => if lenOk (ds.length + 1) then .nx ((pre us mv (noFz d) ρ).set i (some (.lst true (ds ++ [d])))) else .fail
  | _ => .fail
theorem frzA_out {us : List Nat} {ρ : Env} {i : Nat} {k : Nat} (h : k + i ∉ us) : (frzA us ρ k)[i]? = ρ[i]? := by
  rw [frzA_get]
  cases ρ[i]? <;> simp [h]
theorem unsA_out {us : List Nat} {ρ : Env} {i : Nat} {k : Nat} (h : k + i ∉ us) : (unsA us ρ k)[i]? = ρ[i]? := by
  rw [unsA_get]
  cases ρ[i]? <;> simp [h]
theorem pre_out {us mv : List Nat} {nf : Bool} {ρ : Env} {i : Nat} (h1 : i ∉ us) (h2 : i ∉ mv) : (pre us mv nf ρ)[i]? = ρ[i]? := by
  rw [pre_eq, unsA_out (by simpa using h2)]
  cases nf with
  | true => rfl
  | false => exact frzA_out (by simpa using h1)
theorem sns_app (i : Nat) (he : SndE K E te me us mv) (hu : disj us mv = true := by rfl) (h1 : us.contains i = false := by rfl) (h2 : mv.contains i = false := by rfl) : SndS K E (tDrop (tBM K "list" rAppend (tVar i) (tCons te tNil))) (sApp us mv i me) := by
  have n1 : i ∉ us := by simpa using h1
  have n2 : i ∉ mv := by simpa using h2
  intro b F O H σ ρ S T h
  unfold sApp at h
  match e0 : ρ[i]?, h with
  | some (some (.lst true ds)), h =>
    obtain ⟨v0, q1, q2⟩ := S.at_ i _ e0
    obtain ⟨p, xs, bs, rfl, e2, e3, e4, r⟩ := q2
    refine ⟨.ref p, q1, .inl ⟨rfl, xs, .of e2⟩, ?_⟩
    show te σ H fun x H2 => rAppend (.ref p) [x] H2 fun _ H3 => T.nx σ H3
    refine he b F O H σ ρ S _ ?_
    cases e : me ρ with
    | fail => rw [e] at h; exact h
    | ex c d => rw [e] at h; exact ECond.mono h S.same
    | ok d =>
      rw [e] at h
      have h' : WS K E b (if lenOk (ds.length + 1) then .nx ((pre us mv (noFz d) ρ).set i (some (.lst true (ds ++ [d])))) else .fail) T := h
      by_cases c : lenOk (ds.length + 1) = true
      · rw [if_pos c] at h'
        intro v H1 s1 r1
        have hp1 : H1 p = some (.lst xs) := s1 p _ e2
        have hlen : xs.length + 1 ≤ sizeLine := by rw [r.length]; exact lenOk_le c
        refine ⟨p, xs, v, rfl, rfl, hp1, hlen, ?_⟩
        obtain ⟨F2, O2, as, _, P⟩ := S.pend s1 hu r1.toL
        have en : noFzL [d] = noFz d := by simp [noFzL]
        rw [en] at P
        have eP : (pre us mv (noFz d) ρ)[i]? = some (some (.lst true ds)) := by rw [pre_out n1 n2]; exact e0
        obtain ⟨v1, k1, k2⟩ := P.sd.at_ i _ eP
        obtain ⟨p', xs', bs', rfl, e2', e3', e4', r'⟩ := k2
        rw [q1] at k1
        cases k1
        rw [hp1] at e2'
        cases e2'
        have Sp := P.sd
        obtain ⟨v9, ev, rv⟩ := P.rp.of_one
        cases ev
        have pO : p ∈ O2 i := by rw [e4']; exact List.mem_cons_self
        have pF : ¬ F2 p := (Sp.own i p pO).1
        have pas : p ∉ as := fun z => (P.own p z).2.2 i pO
        have ndO : (p :: bs').Nodup := by rw [← e4']; exact Sp.nd i
        have pbs : p ∉ bs' := (List.nodup_cons.mp ndO).1
        have lstp : ∀ a o, H1 a = some o → isLst o = false → (upd H1 p (.lst (xs ++ [v]))) a = some o := fun a o e1 hn => by
          rw [upd_ne (fun z => by rw [z, hp1] at e1; cases e1; cases hn)]
          exact e1
        have len2 : i < (pre us mv (noFz d) ρ).length := by
          rcases Nat.lt_or_ge i (pre us mv (noFz d) ρ).length with z | z
          · exact z
          · rw [List.getElem?_eq_none z] at eP; cases eP
        refine h' F2 (fun j => if j = i then p :: (bs' ++ as) else O2 j) _ σ ⟨?_, fun j e1 he1 => ?_, fun a z => ?_, Sp.fr, fun j => ?_, fun j k hjk a ha => ?_, fun j a ha => ?_, fun a o e1 => ?_, Sp.sub, fun a o e1 z => ?_⟩
        · rw [List.length_set]; exact Sp.len
        · by_cases hj : j = i
          · subst hj
            rw [List.getElem?_set_self len2] at he1
            cases he1
            refine ⟨.ref p, q1, ?_⟩
            rw [if_pos rfl]
            refine ⟨p, xs ++ [v], bs' ++ as, rfl, upd_same, by rw [List.length_append]; exact hlen, rfl, ?_⟩
            refine RpL.append (RpL.mono (fun _ z => z) lstp ds xs bs' (fun a ys z e1 => ?_) r') (.one (Rp.mono (fun _ z => z) lstp d v as (fun a ys z e1 => ?_) rv))
            · rw [upd_ne (fun y => by
                rcases z with z | z
                · exact pF (y ▸ z)
                · exact pbs (y ▸ z))]
              exact e1
            · rw [upd_ne (fun y => by
                rcases z with z | z
                · exact pF (y ▸ z)
                · exact pas (y ▸ z))]
              exact e1
          · rw [List.getElem?_set_ne (Ne.symm hj)] at he1
            obtain ⟨u, k3, k4⟩ := Sp.at_ j e1 he1
            refine ⟨u, k3, ?_⟩
            rw [if_neg hj]
            refine Rp.mono (fun _ z => z) lstp e1 u _ (fun a ys z e5 => ?_) k4
            rw [upd_ne (fun y => by
              rcases z with z | z
              · exact pF (y ▸ z)
              · exact Sp.dj j i hj p (y ▸ z) pO)]
            exact e5
        · by_cases y : a = p
          · rw [y, upd_same]; exact fun z => by cases z
          · rw [upd_ne y]; exact Sp.fdom a z
        · split
          · refine List.nodup_cons.mpr ⟨fun z => (List.mem_append.mp z).elim pbs pas, List.nodup_append.mpr ⟨(List.nodup_cons.mp ndO).2, P.nd, fun a ha c hc e => ?_⟩⟩
            subst e
            exact (P.own a hc).2.2 i (by rw [e4']; exact List.mem_cons_of_mem _ ha)
          · exact Sp.nd j
        · have memi : ∀ a, a ∈ p :: (bs' ++ as) → a ∈ O2 i ∨ a ∈ as := fun a z => by
            rw [e4']
            rcases List.mem_cons.mp z with z | z
            · exact .inl (by rw [z]; exact List.mem_cons_self)
            · exact (List.mem_append.mp z).imp (List.mem_cons_of_mem _) id
          split at ha
          · split
            · rename_i x1 x2; exact absurd (x1.trans x2.symm) hjk
            · rename_i x1 x2
              rcases memi a ha with z | z
              · exact Sp.dj i k (fun e => x2 e.symm) a z
              · exact (P.own a z).2.2 k
          · split
            · rename_i x1 x2
              intro z
              rcases memi a z with z | z
              · exact Sp.dj j i x1 a ha z
              · exact (P.own a z).2.2 j ha
            · exact Sp.dj j k hjk a ha
        · have dom : ∀ a, H1 a ≠ none → (upd H1 p (.lst (xs ++ [v]))) a ≠ none := fun a z => by
            by_cases y : a = p
            · rw [y, upd_same]; exact fun z => by cases z
            · rw [upd_ne y]; exact z
          split at ha
          · rcases List.mem_cons.mp ha with z | z
            · rw [z]
              exact ⟨pF, (Sp.own i p pO).2.1, dom p (Sp.own i p pO).2.2⟩
            · rcases List.mem_append.mp z with z | z
              · have := Sp.own i a (by rw [e4']; exact List.mem_cons_of_mem _ z)
                exact ⟨this.1, this.2.1, dom a this.2.2⟩
              · obtain ⟨ys, e5⟩ := Rp.own d v as rv a z
                exact ⟨(P.own a z).1, (P.own a z).2.1, dom a (fun y => by rw [e5] at y; cases y)⟩
          · have := Sp.own j a ha
            exact ⟨this.1, this.2.1, dom a this.2.2⟩
        · have hn := (Sp.own i p pO).2.1
          rw [upd_ne (fun z => by rw [z, hn] at e1; cases e1)]
          exact Sp.same a o e1
        · have e5 := Sp.keep a o e1 z
          rw [upd_ne (fun y => by
            rcases z with z | z
            · rw [y, hp1] at e5; cases e5; cases z
            · exact pF (y ▸ Sp.sub a z))]
          exact e5
      · rw [if_neg c] at h'
        exact h'.elim
  | none, h => exact h.elim
  | some none, h => exact h.elim
  | some (some .non), h => exact h.elim
  | some (some (.bl _)), h => exact h.elim
  | some (some (.int _)), h => exact h.elim
  | some (some (.str _)), h => exact h.elim
  | some (some (.lst false _)), h => exact h.elim
  | some (some (.tup _)), h => exact h.elim
  | some (some (.dic _ _)), h => exact h.elim
  | some (some (.box _ _)), h => exact h.elim

/-! ### calls by keywords alone -/
theorem pe_callKW0 {X : Cx} {CX : CXT} {k : Nat} {f : Addr} {fd : FuncData} {ps ks : List Str} {sp : Sp} {x : Str} {p pos : Pos} {kws : List Keyword} {tk : TA} {g : List Value → List Value → List Value} {gV : List V → List V → List V}
    (F : FnOk X.prog X.w X.K X.mg X.base CX k f fd ps sp) (hr : Room k X.A) (hg : Gl X x) (hm : X.mg x = some (.ref f)) (hk : PySem.W.keepIn X.K (.ref f) = true) (hb : KBn X.K fd ps 0 ks g gV) (hx : Passes CX X E)
    (hkw : PK X kws tk) (hall : (backToKw pos (keywordEach kws X.env)).all (·.1.isSome) = true := by rfl) (hks : (backToKw pos (keywordEach kws X.env)).filterMap (·.1) = ks := by rfl)
    (hdb : (x == ("__debug__" : Str)) = false := by decide) (hpl : ((backTo pos (starEach [] X.env)).any (·.1) || (backToKw pos (keywordEach kws X.env)).any (·.1.isNone)) = false := by rfl) :
    PE X (.Call (.Name x p) [] kws pos) (tCallN 0 ks.length sp gV E tNil tk) := by
  refine ⟨fun pins s σ H Q I h => ?_⟩
  refine wpAny_Call_Name_kw (ld_glob I hg hm ?_ hdb)
  refine PySem.W.callWith_KW0 (h₀ := X.base) I.ok.mod.kin hk hall (thn (hkw.run pos pins s σ H _ I h) fun ws s2 ⟨zs, H2, I2, rz, l1, l2, q2⟩ => ⟨I2.kIn, ?_⟩) hpl
  rw [hks]
  exact run_fnN (us := []) (vs := []) F hr hb hx I2 .nil rz rfl l2 q2
end
end PV
end
section
set_option Elab.async false
set_option linter.all false
set_option maxRecDepth 100000
/-! PV8: a rule and its soundness together, one lemma a construct. -/
namespace PV
open PySem PySem.Spec PyProof.Rows L2

/-! ### room, and no repr under way -/
structure RoomG (k : Nat) (A : Around) : Prop where
  rm : Room k A
  gd : A.guards = some []
theorem RoomG.mono {j k : Nat} {A : Around} (r : RoomG k A) (h : j ≤ k) : RoomG j A := ⟨r.rm.mono h, r.gd⟩
theorem RoomG.deeper {k : Nat} {A : Around} (r : RoomG (k + 1) A) (env : PySem.Env) : RoomG k (A.deeper env) := ⟨r.rm.deeper env, r.gd⟩
/-- FnOk, where no repr is under way -/
structure FnG (P : Program) (w : World) (K : PySem.W.Frag) (mg : Str → Option Value) (base : Heap) (CX : CXT) (k : Nat) (f : Addr) (fd : FuncData) (ps : List Str) (sp : Sp) : Prop where
  len : ∀ vs H Q E, sp vs H Q E → vs.length = ps.length
  run : ∀ (A : Around) (outer : List PySem.Env) (s : Shared) (H : Hp) (args : Args) (us : List Value) (vs : List V) (Q : VK) (E : XK), RoomG k A → Env0 P w K mg base A outer s H → BindsTo s fd args (ps.zip us) → Vals vs us → sp vs H Q E →
    codeAny (model P w) A (.call (.ref f) args) (CR CX outer P w H s Q E) s
section
variable {X : Cx} {CX : CXT} {k : Nat} {f : Addr} {fd : FuncData} {ps : List Str} {sp : Sp} {dvs : List V} {ds : List Value} {E : XK} {x : Str} {p pos : Pos} {e : Expr} {es : List Expr} {t : TA}
theorem run_fnG {pins : List (Addr × Obj)} {σ : L2.St} {H : Hp} {s : Shared} {Q : VK} {us : List Value} {vs : List V} (F : FnG X.prog X.w X.K X.mg X.base CX k f fd ps sp) (hr : RoomG k X.A) (hb : Binds X.K fd ps ds) (hd : Vals dvs ds) (hx : Passes CX X E)
    (I : Inv X pins σ H s) (r : Vals vs us) (h : sp (vs ++ dvs) H Q E) : wpAny (model X.prog X.w) X.A (call (.ref f) us) (EP X pins σ Q) X.xe s := by
  have r2 : Vals (vs ++ dvs) (us ++ ds) := r.append hd
  have hl : (us ++ ds).length = ps.length := by rw [← r2.length]; exact F.len _ _ _ _ h
  refine wpAny_call (codeAny_mono (F.run X.A X.stack s H ⟨us, []⟩ (us ++ ds) (vs ++ dvs) Q E hr I.env0 (hb s us I.kIn hl) r2 h) fun r s' hq => ?_)
  cases r with
  | error e => exact hx pins σ H s e s' I hq
  | ok fl =>
    cases fl with
    | ret u => exact I.after hq
    | next => exact False.elim hq
    | brk => exact False.elim hq
    | cont => exact False.elim hq
theorem pe_callG (F : FnG X.prog X.w X.K X.mg X.base CX k f fd ps sp) (hr : RoomG k X.A) (hg : Gl X x) (hm : X.mg x = some (.ref f)) (hk : PySem.W.keepIn X.K (.ref f) = true) (hb : Binds X.K fd ps ds) (hd : Vals dvs ds) (hx : Passes CX X E)
    (ha : PA X (e :: es) t) (hdb : (x == ("__debug__" : Str)) = false := by decide) (he : starEach (e :: es) X.env = (false, eval e X.env) :: starEach es X.env := by rfl) (hpl : (backTo pos (starEach es X.env)).any (·.1) = false := by rfl) :
    PE X (.Call (.Name x p) (e :: es) [] pos) (tCall sp dvs E t) := by
  refine ⟨fun pins s σ H Q I h => ?_⟩
  refine wpAny_Call_Name_kw (ld_glob I hg hm ?_ hdb)
  refine PySem.W.callWith_K (h₀ := X.base) I.ok.mod.kin hk (thn (ha.run pos pins s σ H _ I h) fun us s1 ⟨vs, H1, I1, r, q⟩ => ⟨I1.kIn, ?_⟩) he hpl
  exact run_fnG F hr hb hd hx I1 r q
end
structure PX (X : Cx) (E : XK) (e : Expr) (t : TE) (m : Env → R D) (us mv : List Nat) : Prop where
  pe : PE X e t
  sn : SndE X.K E t m us mv
structure AX (X : Cx) (E : XK) (es : List Expr) (t : TA) (m : Env → R (List D)) (n : Nat) (us mv : List Nat) : Prop where
  pa : PA X es t
  sn : SndA X.K E t m us mv
  ln : ∀ ρ ds, m ρ = .ok ds → ds.length = n
structure TX (X : Cx) (E : XK) (e : Expr) (t : TT) (m : Env → R Bool) : Prop where
  pt : PT X e t
  sn : SndT X.K E t m
structure BX (X : Cx) (E : XK) (e : Expr) (t : TT) (m : Env → R Bool) : Prop where
  pw : PW X e t
  sn : SndT X.K E t m
structure SX (X : Cx) (E : XK) (st : Stmt) (t : TS) (m : Env → Fl) : Prop where
  ps : PS X st t
  sn : SndS X.K E t m
structure LX (X : Cx) (E : XK) (st : List Stmt) (t : TS) (m : Env → Fl) : Prop where
  ps : PSs X st t
  sn : SndS X.K E t m
structure GX (X : Cx) (e : Expr) (g : TG) (f : D → Env → Option Env) (ns : List Nat) : Prop where
  pg : PG X e g
  sn : SndG X.K g f ns
structure HX (X : Cx) (es : List Expr) (g : TGs) (f : List D → Env → Option Env) (ns : List Nat) : Prop where
  pg : PGs X es g
  sn : SndGs X.K g f ns
structure IX (X : Cx) (E : XK) (tg e : Expr) (t : TI) (m : Env → R (List D)) (us : List Nat) : Prop where
  pi : PI X tg e t
  sn : SndI X.K E t m us
structure OX (X : Cx) (E : XK) (e : Option Expr) (t : TO) (m : Env → R (Option Int)) : Prop where
  po : PO X e t
  sn : SndO X.K E t m

abbrev rPl : R2 := rI0 fun i j => .int (i + j)
abbrev rMi : R2 := rI0 fun i j => .int (i - j)
abbrev rMu : R2 := rI CMulD fun i j => .int (i * j)
abbrev rDi : R2 := rI CDivW fun i j => .int (i / j)
abbrev rMo : R2 := rI (fun _ j => 0 < j) fun i j => .int (i % j)
abbrev rPo : R2 := rI CPow fun i j => .int (i ^ j.toNat)
abbrev rLt : R2 := rI0 fun i j => .bl (decide (i < j))
abbrev rLe : R2 := rI0 fun i j => .bl (decide (i ≤ j))
abbrev rGt : R2 := rI0 fun i j => .bl (decide (j < i))
abbrev rGe : R2 := rI0 fun i j => .bl (decide (j ≤ i))
abbrev rAddD : R2 := rOr rPl (rOr (fun x y H Q => ∃ i j, x = V.str i ∧ y = V.str j ∧ i.length + j.length ≤ sizeLine ∧ Q (.str (i ++ j)) H) rCat)
abbrev rIsN : R2 := fun x y H Q => y = V.non ∧ Q (.bl (decide (x = .non))) H
abbrev rIsnN : R2 := fun x y H Q => y = V.non ∧ Q (.bl (!decide (x = .non))) H
abbrev rLenD (K : PySem.W.Frag) : List V → Hp → VK → Prop := fun xs H Q => ∃ x n, xs = [x] ∧ LenV K x H n ∧ Q (.int n) H
abbrev rAbsD : List V → Hp → VK → Prop := fun xs H Q => ∃ i, xs = [.int i] ∧ Q (.int (if i < 0 then -i else i)) H
abbrev rMaxD : List V → Hp → VK → Prop := fun xs H Q => ∃ i j, xs = [.int i, .int j] ∧ Q (.int (if j > i then j else i)) H
abbrev rIntD : List V → Hp → VK → Prop := fun xs H Q => (∃ i, xs = [V.int i] ∧ Q (.int i) H) ∨ ∃ k, xs = [V.bl k] ∧ Q (.int (if k then 1 else 0)) H
def cI (i : Int) : Env → R D := fun _ => .ok (.int i)
def cB (i : Bool) : Env → R D := fun _ => .ok (.bl i)
def cS (i : Str) : Env → R D := fun _ => .ok (.str i)
def cN : Env → R D := fun _ => .ok .non
def aNil : Env → R (List D) := fun _ => .ok []
def aCons (ma : Env → R D) (mr : Env → R (List D)) : Env → R (List D) := fun ρ => (ma ρ).bind fun d => (mr ρ).bind fun ds => .ok (d :: ds)
def mCb (f : List D → Option D) (mr : Env → R (List D)) : Env → R D := fun ρ => (mr ρ).bind fun ds => ofO (f ds)
def mTup (mr : Env → R (List D)) : Env → R D := fun ρ => (mr ρ).bind fun ds => ofO (mkT ds)
def mLst (mr : Env → R (List D)) : Env → R D := fun ρ => (mr ρ).bind fun ds => ofO (mkL ds)
def mNeg (ma : Env → R D) : Env → R D := fun ρ => (ma ρ).bind fun x => ofO (fNeg x)
def mCall (f : List D → R D) (mr : Env → R (List D)) : Env → R D := fun ρ => (mr ρ).bind fun ds => f (fzL ds)
def tYes' : Env → R Bool := fun _ => .ok true

section
variable {X : Cx} {E : XK} {e a c o : Expr} {bb : Expr} {es : List Expr} {t ta tb tc te : TE} {m ma mb mc me : Env → R D} {us us' us'' mv mv' mv'' : List Nat} {tr : TA} {mr : Env → R (List D)} {n : Nat} {pos p apos : Pos}
/-! ### names, constants, arguments -/
theorem xv (i : Nat) {x : Str} {pos : Pos} (hN : X.N[i]? = some x := by rfl) (hv : Vis X.env.scope x := by first | exact Or.inl rfl | exact Or.inr (Or.inl rfl) | exact Or.inr (Or.inr rfl)) (hd : (x == ("__debug__" : Str)) = false := by decide)
    (hcd : (x == ("__classdict__" : Str)) = false := by decide) : PX X E (.Name x pos) (tVar i) (rdV i) [i] [] := ⟨pe_var hN hv hd hcd, snd_var i⟩
theorem xm (i : Nat) {x : Str} {pos : Pos} (hN : X.N[i]? = some x := by rfl) (hv : Vis X.env.scope x := by first | exact Or.inl rfl | exact Or.inr (Or.inl rfl) | exact Or.inr (Or.inr rfl)) (hd : (x == ("__debug__" : Str)) = false := by decide)
    (hcd : (x == ("__classdict__" : Str)) = false := by decide) : PX X E (.Name x pos) (tVar i) (mvV i) [] [i] := ⟨pe_var hN hv hd hcd, snd_mv i⟩
theorem xi {i j pos} : PX X E (.Constant (.int i) j pos) (tC (.int i)) (cI i) [] [] := ⟨pe_int, snd_int i⟩
theorem xb {i j pos} : PX X E (.Constant (.bool i) j pos) (tC (.bl i)) (cB i) [] [] := ⟨pe_bl, snd_bl i⟩
theorem xs {i j pos} : PX X E (.Constant (.str i) j pos) (tC (.str i)) (cS i) [] [] := ⟨pe_str, snd_str i⟩
theorem xn {j pos} : PX X E (.Constant .none j pos) (tC .non) cN [] [] := ⟨pe_non, snd_non⟩
/-- a module's int, text -/
theorem xgi {x : Str} {i : Int} {pos : Pos} (hm : ∃ t, X.mg x = some (.int i t)) (hg : Gl X x := by rfl) (hd : (x == ("__debug__" : Str)) = false := by decide) : PX X E (.Name x pos) (tC (.int i)) (cI i) [] [] := by
  obtain ⟨t, hm⟩ := hm
  exact ⟨pe_glob hg hm ⟨t, rfl⟩ hd, snd_int i⟩
theorem xgs {x : Str} {i : Str} {pos : Pos} (hm : ∃ t, X.mg x = some (.str i t)) (hg : Gl X x := by rfl) (hd : (x == ("__debug__" : Str)) = false := by decide) : PX X E (.Name x pos) (tC (.str i)) (cS i) [] [] := by
  obtain ⟨t, hm⟩ := hm
  exact ⟨pe_glob hg hm ⟨t, rfl⟩ hd, snd_str i⟩
theorem a0 : AX X E [] tNil aNil 0 [] [] := ⟨pa_nil, sna_nil, fun ρ ds h => by cases h; rfl⟩
theorem a1 (ha : PX X E e te me us mv) (hr : AX X E es tr mr n us' mv') (ap : apart us mv us' mv' = true := by rfl) (hs : starEach (e :: es) X.env = (false, eval e X.env) :: starEach es X.env := by rfl) :
    AX X E (e :: es) (tCons te tr) (aCons me mr) (n + 1) (us ++ us') (mv ++ mv') := ⟨pa_cons ha.pe hr.pa hs, sna_cons ha.sn hr.sn ap, fun ρ ds h => by
  unfold aCons at h
  cases e1 : me ρ with
  | fail => rw [e1] at h; cases h
  | ex c d => rw [e1] at h; cases h
  | ok d =>
    rw [e1] at h
    have h' : ((mr ρ).bind fun ds => .ok (d :: ds)) = R.ok ds := h
    cases e2 : mr ρ with
    | fail => rw [e2] at h'; cases h'
    | ex c d => rw [e2] at h'; cases h'
    | ok r =>
      rw [e2] at h'
      cases h'
      rw [List.length_cons, hr.ln ρ r e2]⟩
theorem xtup {x1} (h : AX X E es tr mr n us mv) : PX X E (.Tuple es x1 pos) (tTup tr) (mTup mr) us mv := ⟨pe_tup h.pa, snd_tup h.sn⟩
theorem xlst (h : AX X E es tr mr n us mv) : PX X E (.List es pos) (tLst tr) (mLst mr) us mv := ⟨pe_lst h.pa, snd_lst h.sn⟩
/-! ### operators -/
theorem xadd (ha : PX X E a ta ma us mv) (hb : PX X E bb tb mb us' mv') (ap : apart us mv us' mv' = true := by rfl) : PX X E (.BinOp a .Add bb pos) (tOp rAddD ta tb) (bin ma mb fAddD) (us ++ us') (mv ++ mv') := ⟨pe_op op_addD ha.pe hb.pe, snd_opN ok_addD ha.sn hb.sn ap⟩
theorem xaddI (ha : PX X E a ta ma us mv) (hb : PX X E bb tb mb us' mv') (ap : apart us mv us' mv' = true := by rfl) : PX X E (.BinOp a .Add bb pos) (tOp rPl ta tb) (bin ma mb fAdd) [] [] := ⟨pe_op op_add ha.pe hb.pe, snd_opS ok_add ha.sn hb.sn ap⟩
theorem xsub (ha : PX X E a ta ma us mv) (hb : PX X E bb tb mb us' mv') (ap : apart us mv us' mv' = true := by rfl) : PX X E (.BinOp a .Sub bb pos) (tOp rMi ta tb) (bin ma mb fSub) [] [] := ⟨pe_op op_sub ha.pe hb.pe, snd_opS ok_sub ha.sn hb.sn ap⟩
theorem xmul (ha : PX X E a ta ma us mv) (hb : PX X E bb tb mb us' mv') (ap : apart us mv us' mv' = true := by rfl) : PX X E (.BinOp a .Mult bb pos) (tOp rMu ta tb) (bin ma mb fMul) [] [] := ⟨pe_op op_mulD ha.pe hb.pe, snd_opS ok_mul ha.sn hb.sn ap⟩
theorem xrep (ha : PX X E a ta ma us mv) (hb : PX X E bb tb mb us' mv') (ap : apart us mv us' mv' = true := by rfl) : PX X E (.BinOp a .Mult bb pos) (tOp rRep ta tb) (bin ma mb fRep) (us ++ us') (mv ++ mv') := ⟨pe_op op_rep ha.pe hb.pe, snd_opN ok_rep ha.sn hb.sn ap⟩
theorem xdiv (ha : PX X E a ta ma us mv) (hb : PX X E bb tb mb us' mv') (ap : apart us mv us' mv' = true := by rfl) : PX X E (.BinOp a .FloorDiv bb pos) (tOp rDi ta tb) (bin ma mb fDiv) [] [] := ⟨pe_op op_fdivW ha.pe hb.pe, snd_opS ok_div ha.sn hb.sn ap⟩
theorem xmod (ha : PX X E a ta ma us mv) (hb : PX X E bb tb mb us' mv') (ap : apart us mv us' mv' = true := by rfl) : PX X E (.BinOp a .Mod bb pos) (tOp rMo ta tb) (bin ma mb fMod) [] [] := ⟨pe_op op_mod ha.pe hb.pe, snd_opS ok_mod ha.sn hb.sn ap⟩
theorem xpow (ha : PX X E a ta ma us mv) (hb : PX X E bb tb mb us' mv') (ap : apart us mv us' mv' = true := by rfl) : PX X E (.BinOp a .Pow bb pos) (tOp rPo ta tb) (bin ma mb fPow) [] [] := ⟨pe_op op_pow ha.pe hb.pe, snd_opS ok_pow ha.sn hb.sn ap⟩
theorem xneg (ha : PX X E a ta ma us mv) : PX X E (.UnaryOp .USub a pos) (tUn (rU fun i => .int (-i)) ta) (mNeg ma) [] [] := ⟨pe_un un_neg ha.pe, snd_neg ha.sn⟩
/-! ### comparisons -/
theorem xlt (ha : PX X E a ta ma us mv) (hb : PX X E bb tb mb us' mv') (ap : apart us mv us' mv' = true := by rfl) : PX X E (.Compare a [.Lt] [bb] pos) (tOp rLt ta tb) (bin ma mb fLt) [] [] := ⟨pe_cmpR op_lt ha.pe hb.pe (nomark _), snd_opS ok_lt ha.sn hb.sn ap⟩
theorem xle (ha : PX X E a ta ma us mv) (hb : PX X E bb tb mb us' mv') (ap : apart us mv us' mv' = true := by rfl) : PX X E (.Compare a [.LtE] [bb] pos) (tOp rLe ta tb) (bin ma mb fLe) [] [] := ⟨pe_cmpR op_le ha.pe hb.pe (nomark _), snd_opS ok_le ha.sn hb.sn ap⟩
theorem xgt (ha : PX X E a ta ma us mv) (hb : PX X E bb tb mb us' mv') (ap : apart us mv us' mv' = true := by rfl) : PX X E (.Compare a [.Gt] [bb] pos) (tOp rGt ta tb) (bin ma mb fGt) [] [] := ⟨pe_cmpR op_gt ha.pe hb.pe (nomark _), snd_opS ok_gt ha.sn hb.sn ap⟩
theorem xge (ha : PX X E a ta ma us mv) (hb : PX X E bb tb mb us' mv') (ap : apart us mv us' mv' = true := by rfl) : PX X E (.Compare a [.GtE] [bb] pos) (tOp rGe ta tb) (bin ma mb fGe) [] [] := ⟨pe_cmpR op_ge ha.pe hb.pe (nomark _), snd_opS ok_ge ha.sn hb.sn ap⟩
theorem xeq {k : Nat} (hr : RoomG k X.A) (ha : PX X E a ta ma us mv) (hb : PX X E bb tb mb us' mv') (ap : apart us mv us' mv' = true := by rfl) : PX X E (.Compare a [.Eq] [bb] pos) (tOp (rEqD X.K) ta tb) (bin ma mb fEq) [] [] := ⟨pe_cmpR (op_eqD hr.rm.units) ha.pe hb.pe (nomark _), snd_opS ok_eq ha.sn hb.sn ap⟩
theorem xne {k : Nat} (hr : RoomG k X.A) (ha : PX X E a ta ma us mv) (hb : PX X E bb tb mb us' mv') (ap : apart us mv us' mv' = true := by rfl) : PX X E (.Compare a [.NotEq] [bb] pos) (tOp (rNeD X.K) ta tb) (bin ma mb fNe) [] [] := ⟨pe_cmpR (op_neD hr.rm.units) ha.pe hb.pe (nomark _), snd_opS ok_ne ha.sn hb.sn ap⟩
theorem xis (ha : PX X E a ta ma us mv) (hb : PX X E bb tb mb us' mv') (ap : apart us mv us' mv' = true := by rfl) : PX X E (.Compare a [.Is] [bb] pos) (tOp rIsN ta tb) (bin ma mb fIs) [] [] := ⟨pe_cmpR op_isN ha.pe hb.pe (nomark _), snd_opS ok_is ha.sn hb.sn ap⟩
theorem xisn (ha : PX X E a ta ma us mv) (hb : PX X E bb tb mb us' mv') (ap : apart us mv us' mv' = true := by rfl) : PX X E (.Compare a [.IsNot] [bb] pos) (tOp rIsnN ta tb) (bin ma mb fIsNot) [] [] := ⟨pe_cmpR op_notN ha.pe hb.pe (nomark _), snd_opS ok_isnot ha.sn hb.sn ap⟩
/-- x < y < z and its like -/
theorem xltlt (ha : PX X E a ta ma us mv) (hb : PX X E bb tb mb us' mv') (hc : PX X E c tc mc us'' mv'') (ap : apart us mv us' mv' = true := by rfl) (hm : lastMarks [.Lt, .Lt] [bb, c] = false := by with_unfolding_all rfl) : PX X E (.Compare a [.Lt, .Lt] [bb, c] pos) (tChain rLt rLt ta tb tc) (chn ma mb mc fLt fLt) [] [] := ⟨pe_chain op_lt op_lt ha.pe hb.pe hc.pe hm, snd_chain ok_lt ok_lt ha.sn hb.sn hc.sn ap⟩
theorem xlelt (ha : PX X E a ta ma us mv) (hb : PX X E bb tb mb us' mv') (hc : PX X E c tc mc us'' mv'') (ap : apart us mv us' mv' = true := by rfl) (hm : lastMarks [.LtE, .Lt] [bb, c] = false := by with_unfolding_all rfl) : PX X E (.Compare a [.LtE, .Lt] [bb, c] pos) (tChain rLe rLt ta tb tc) (chn ma mb mc fLe fLt) [] [] := ⟨pe_chain op_le op_lt ha.pe hb.pe hc.pe hm, snd_chain ok_le ok_lt ha.sn hb.sn hc.sn ap⟩
theorem xlele (ha : PX X E a ta ma us mv) (hb : PX X E bb tb mb us' mv') (hc : PX X E c tc mc us'' mv'') (ap : apart us mv us' mv' = true := by rfl) (hm : lastMarks [.LtE, .LtE] [bb, c] = false := by with_unfolding_all rfl) : PX X E (.Compare a [.LtE, .LtE] [bb, c] pos) (tChain rLe rLe ta tb tc) (chn ma mb mc fLe fLe) [] [] := ⟨pe_chain op_le op_le ha.pe hb.pe hc.pe hm, snd_chain ok_le ok_le ha.sn hb.sn hc.sn ap⟩
/-! ### and, or, not, if -/
theorem xone {op} (h : PX X E a ta ma us mv) : PX X E (.BoolOp op [a] pos) ta ma us mv := ⟨pe_one h.pe, h.sn⟩
theorem xand {rest : List Expr} (ha : PX X E a ta ma us mv) (hb : PX X E (.BoolOp .And (bb :: rest) pos) tb mb us' mv') : PX X E (.BoolOp .And (a :: bb :: rest) pos) (tAndV ta tb) (vAnd ma mb) us' mv' := ⟨pe_and ha.pe hb.pe, snd_and ha.sn hb.sn⟩
theorem xor {rest : List Expr} (ha : PX X E a ta ma us mv) (hb : PX X E (.BoolOp .Or (bb :: rest) pos) tb mb us' mv') : PX X E (.BoolOp .Or (a :: bb :: rest) pos) (tOrV ta tb) (vOr ma mb) us' mv' := ⟨pe_or ha.pe hb.pe, snd_or ha.sn hb.sn⟩
theorem xnot (ha : PX X E a ta ma us mv) : PX X E (.UnaryOp .Not a pos) (tNotV ta) (vNot ma) [] [] := ⟨pe_not ha.pe, snd_not ha.sn⟩
variable {t1 t2 : TT} {m1 m2 : Env → R Bool}
theorem xif (hc : TX X E c t1 m1) (ha : PX X E a ta ma us mv) (hb : PX X E bb tb mb us' mv') : PX X E (.IfExp c a bb pos) (tIf t1 ta tb) (vIf m1 ma mb) (us ++ us') (mv ++ mv') := ⟨pe_ifExp hc.pt ha.pe hb.pe, snd_if hc.sn ha.sn hb.sn⟩
theorem tx (h : PX X E a ta ma us mv) (he : ∀ whole, isTrue a X.env whole = (do let v ← whole; standAt a.pos; holding [v] (truthy v)) := by intro _; rfl) : TX X E a (tB ta) (tst ma) := ⟨pt_val h.pe he, snt_b h.sn⟩
theorem tnot (h : TX X E a t1 m1) : TX X E (.UnaryOp .Not a pos) (tNot t1) (mNot m1) := ⟨pt_not h.pt, snt_not h.sn⟩
theorem tand {rest : List Expr} (ha : TX X E a t1 m1) (hb : BX X E (.BoolOp .And (bb :: rest) pos) t2 m2) : BX X E (.BoolOp .And (a :: bb :: rest) pos) (tAnd t1 t2) (mAnd m1 m2) := ⟨pw_and ha.pt hb.pw, snt_and ha.sn hb.sn⟩
theorem tor {rest : List Expr} (ha : TX X E a t1 m1) (hb : BX X E (.BoolOp .Or (bb :: rest) pos) t2 m2) : BX X E (.BoolOp .Or (a :: bb :: rest) pos) (tOr t1 t2) (mOr m1 m2) := ⟨pw_or ha.pt hb.pw, snt_or ha.sn hb.sn⟩
theorem tand1 (ha : TX X E a t1 m1) : BX X E (.BoolOp .And [a] pos) t1 m1 := ⟨pw_and1 ha.pt, ha.sn⟩
theorem tor1 (ha : TX X E a t1 m1) : BX X E (.BoolOp .Or [a] pos) t1 m1 := ⟨pw_or1 ha.pt, ha.sn⟩
theorem tbx (h : BX X E a t1 m1) : TX X E a t1 m1 := ⟨h.pw.pt, h.sn⟩
theorem tlt (ha : PX X E a ta ma us mv) (hb : PX X E bb tb mb us' mv') (ap : apart us mv us' mv' = true := by rfl) : TX X E (.Compare a [.Lt] [bb] pos) (tTest (tOp rLt ta tb)) (tst (bin ma mb fLt)) := ⟨pt_cmpR op_lt ha.pe hb.pe (nomark _), snt_test (snd_opS ok_lt ha.sn hb.sn ap)⟩
theorem tle (ha : PX X E a ta ma us mv) (hb : PX X E bb tb mb us' mv') (ap : apart us mv us' mv' = true := by rfl) : TX X E (.Compare a [.LtE] [bb] pos) (tTest (tOp rLe ta tb)) (tst (bin ma mb fLe)) := ⟨pt_cmpR op_le ha.pe hb.pe (nomark _), snt_test (snd_opS ok_le ha.sn hb.sn ap)⟩
theorem tgt (ha : PX X E a ta ma us mv) (hb : PX X E bb tb mb us' mv') (ap : apart us mv us' mv' = true := by rfl) : TX X E (.Compare a [.Gt] [bb] pos) (tTest (tOp rGt ta tb)) (tst (bin ma mb fGt)) := ⟨pt_cmpR op_gt ha.pe hb.pe (nomark _), snt_test (snd_opS ok_gt ha.sn hb.sn ap)⟩
theorem tge (ha : PX X E a ta ma us mv) (hb : PX X E bb tb mb us' mv') (ap : apart us mv us' mv' = true := by rfl) : TX X E (.Compare a [.GtE] [bb] pos) (tTest (tOp rGe ta tb)) (tst (bin ma mb fGe)) := ⟨pt_cmpR op_ge ha.pe hb.pe (nomark _), snt_test (snd_opS ok_ge ha.sn hb.sn ap)⟩
theorem teq {k : Nat} (hr : RoomG k X.A) (ha : PX X E a ta ma us mv) (hb : PX X E bb tb mb us' mv') (ap : apart us mv us' mv' = true := by rfl) : TX X E (.Compare a [.Eq] [bb] pos) (tTest (tOp (rEqD X.K) ta tb)) (tst (bin ma mb fEq)) := ⟨pt_cmpR (op_eqD hr.rm.units) ha.pe hb.pe (nomark _), snt_test (snd_opS ok_eq ha.sn hb.sn ap)⟩
theorem tne {k : Nat} (hr : RoomG k X.A) (ha : PX X E a ta ma us mv) (hb : PX X E bb tb mb us' mv') (ap : apart us mv us' mv' = true := by rfl) : TX X E (.Compare a [.NotEq] [bb] pos) (tTest (tOp (rNeD X.K) ta tb)) (tst (bin ma mb fNe)) := ⟨pt_cmpR (op_neD hr.rm.units) ha.pe hb.pe (nomark _), snt_test (snd_opS ok_ne ha.sn hb.sn ap)⟩
theorem tis (ha : PX X E a ta ma us mv) (hb : PX X E bb tb mb us' mv') (ap : apart us mv us' mv' = true := by rfl) : TX X E (.Compare a [.Is] [bb] pos) (tTest (tOp rIsN ta tb)) (tst (bin ma mb fIs)) := ⟨pt_cmpR op_isN ha.pe hb.pe (nomark _), snt_test (snd_opS ok_is ha.sn hb.sn ap)⟩
theorem tisn (ha : PX X E a ta ma us mv) (hb : PX X E bb tb mb us' mv') (ap : apart us mv us' mv' = true := by rfl) : TX X E (.Compare a [.IsNot] [bb] pos) (tTest (tOp rIsnN ta tb)) (tst (bin ma mb fIsNot)) := ⟨pt_cmpR op_notN ha.pe hb.pe (nomark _), snt_test (snd_opS ok_isnot ha.sn hb.sn ap)⟩
theorem tltlt (ha : PX X E a ta ma us mv) (hb : PX X E bb tb mb us' mv') (hc : PX X E c tc mc us'' mv'') (ap : apart us mv us' mv' = true := by rfl) (hm : lastMarks [.Lt, .Lt] [bb, c] = false := by with_unfolding_all rfl) : TX X E (.Compare a [.Lt, .Lt] [bb, c] pos) (tTest (tChain rLt rLt ta tb tc)) (tst (chn ma mb mc fLt fLt)) := ⟨pt_chain op_lt op_lt ha.pe hb.pe hc.pe hm, snt_test (snd_chain ok_lt ok_lt ha.sn hb.sn hc.sn ap)⟩
theorem tlelt (ha : PX X E a ta ma us mv) (hb : PX X E bb tb mb us' mv') (hc : PX X E c tc mc us'' mv'') (ap : apart us mv us' mv' = true := by rfl) (hm : lastMarks [.LtE, .Lt] [bb, c] = false := by with_unfolding_all rfl) : TX X E (.Compare a [.LtE, .Lt] [bb, c] pos) (tTest (tChain rLe rLt ta tb tc)) (tst (chn ma mb mc fLe fLt)) := ⟨pt_chain op_le op_lt ha.pe hb.pe hc.pe hm, snt_test (snd_chain ok_le ok_lt ha.sn hb.sn hc.sn ap)⟩
theorem tlele (ha : PX X E a ta ma us mv) (hb : PX X E bb tb mb us' mv') (hc : PX X E c tc mc us'' mv'') (ap : apart us mv us' mv' = true := by rfl) (hm : lastMarks [.LtE, .LtE] [bb, c] = false := by with_unfolding_all rfl) : TX X E (.Compare a [.LtE, .LtE] [bb, c] pos) (tTest (tChain rLe rLe ta tb tc)) (tst (chn ma mb mc fLe fLe)) := ⟨pt_chain op_le op_le ha.pe hb.pe hc.pe hm, snt_test (snd_chain ok_le ok_le ha.sn hb.sn hc.sn ap)⟩
/-! ### subscripts, slices -/
theorem xix (ha : PX X E a ta ma us mv) (hb : PX X E bb tb mb us' mv') (hs : PlainIx bb := by exact fun _ _ => rfl) (ap : apart us mv us' mv' = true := by rfl) : PX X E (.Subscript a bb pos) (tOp (rIx X.K) ta tb) (bin ma mb fIx) (us ++ us') (mv ++ mv') := ⟨pe_ix ix_seq ha.pe hb.pe hs, snd_opN ok_ix ha.sn hb.sn ap⟩
theorem o0 : OX X E none tNoPart (fun _ => .ok none) := ⟨po_none, sno_none⟩
theorem o1 (h : PX X E a ta ma us mv) : OX X E (some a) (tPart ta) (oPart ma) := ⟨po_some h.pe, sno_some h.sn⟩
theorem xsl {lo hi : Option Expr} {p2 : Pos} {tl th : TO} {ml mh : Env → R (Option Int)} (he : PX X E a ta ma us mv) (hl : OX X E lo tl ml) (hh : OX X E hi th mh) : PX X E (.Subscript a (.Slice lo hi none p2) pos) (tSl (rSlL X.K) ta tl th) (mSl ma ml mh) us mv := ⟨pe_slice sl_list he.pe hl.po hh.po, snd_slice he.sn hl.sn hh.sn⟩
/-! ### built-in functions -/
variable {x : Str}
theorem xlen (hm : X.mg "len" = none) (ha : AX X E (e :: es) tr mr n us mv) (hg : Gl X "len" := by rfl) (he : starEach (e :: es) X.env = (false, eval e X.env) :: starEach es X.env := by rfl) (hpl : (backTo pos (starEach es X.env)).any (·.1) = false := by rfl) :
    PX X E (.Call (.Name "len" p) (e :: es) [] pos) (tCB (rLenD X.K) tr) (mCb fLen mr) [] [] := ⟨pe_callB call_len hg hm boot_len ha.pa (he := he) (hpl := hpl), snd_cs ok_len ha.sn⟩
theorem xabs (hm : X.mg "abs" = none) (ha : AX X E (e :: es) tr mr n us mv) (hg : Gl X "abs" := by rfl) (he : starEach (e :: es) X.env = (false, eval e X.env) :: starEach es X.env := by rfl) (hpl : (backTo pos (starEach es X.env)).any (·.1) = false := by rfl) :
    PX X E (.Call (.Name "abs" p) (e :: es) [] pos) (tCB rAbsD tr) (mCb fAbs mr) [] [] := ⟨pe_callB call_abs hg hm (by decide +kernel) ha.pa (he := he) (hpl := hpl), snd_cs ok_abs ha.sn⟩
theorem xmax (hm : X.mg "max" = none) (hc : X.calm = true) (ha : AX X E (e :: es) tr mr n us mv) (hg : Gl X "max" := by rfl) (he : starEach (e :: es) X.env = (false, eval e X.env) :: starEach es X.env := by rfl) (hpl : (backTo pos (starEach es X.env)).any (·.1) = false := by rfl) :
    PX X E (.Call (.Name "max" p) (e :: es) [] pos) (tCB rMaxD tr) (mCb fMax2 mr) [] [] := ⟨pe_callB (call_max2 hc) hg hm (by decide +kernel) ha.pa (he := he) (hpl := hpl), snd_cs ok_max2 ha.sn⟩
theorem xint (hm : X.mg "int" = none) (ha : AX X E (e :: es) tr mr n us mv) (hg : Gl X "int" := by rfl) (he : starEach (e :: es) X.env = (false, eval e X.env) :: starEach es X.env := by rfl) (hpl : (backTo pos (starEach es X.env)).any (·.1) = false := by rfl) :
    PX X E (.Call (.Name "int" p) (e :: es) [] pos) (tCB rIntD tr) (mCb fInt mr) [] [] := ⟨pe_callTy call_int1 hg hm (by decide +kernel) ha.pa (he := he) (hpl := hpl), snd_cs ok_int ha.sn⟩
theorem xsum (hm : X.mg "sum" = none) (hc : X.calm = true) (ha : AX X E (e :: es) tr mr n us mv) (hg : Gl X "sum" := by rfl) (he : starEach (e :: es) X.env = (false, eval e X.env) :: starEach es X.env := by rfl) (hpl : (backTo pos (starEach es X.env)).any (·.1) = false := by rfl) :
    PX X E (.Call (.Name "sum" p) (e :: es) [] pos) (tCB (rSum X.K) tr) (mCb fSum mr) [] [] := ⟨pe_callB (cr_sum hc) hg hm (by decide +kernel) ha.pa (he := he) (hpl := hpl), snd_cs ok_sum ha.sn⟩
theorem xall (hm : X.mg "all" = none) (hc : X.calm = true) (ha : AX X E (e :: es) tr mr n us mv) (hg : Gl X "all" := by rfl) (he : starEach (e :: es) X.env = (false, eval e X.env) :: starEach es X.env := by rfl) (hpl : (backTo pos (starEach es X.env)).any (·.1) = false := by rfl) :
    PX X E (.Call (.Name "all" p) (e :: es) [] pos) (tCB (rAll X.K) tr) (mCb fAll mr) [] [] := ⟨pe_callB (cr_all hc) hg hm (by decide +kernel) ha.pa (he := he) (hpl := hpl), snd_cs ok_all ha.sn⟩
theorem xany (hm : X.mg "any" = none) (hc : X.calm = true) (ha : AX X E (e :: es) tr mr n us mv) (hg : Gl X "any" := by rfl) (he : starEach (e :: es) X.env = (false, eval e X.env) :: starEach es X.env := by rfl) (hpl : (backTo pos (starEach es X.env)).any (·.1) = false := by rfl) :
    PX X E (.Call (.Name "any" p) (e :: es) [] pos) (tCB (rAny X.K) tr) (mCb fAny mr) [] [] := ⟨pe_callB (cr_any hc) hg hm (by decide +kernel) ha.pa (he := he) (hpl := hpl), snd_cs ok_any ha.sn⟩
theorem xisi {T : String} {y : Str} {p2 : Pos} (hm : X.mg "isinstance" = none) (hy : X.mg y = none) (hT : bootBuiltins y = some (.type T)) (ok : okTy T = true) (ha : PX X E e te me us mv) (hyn : y ≠ "__name__" := by decide) (hyd : (y == ("__debug__" : Str)) = false := by decide) (hgy : Gl X y := by rfl) (hg : Gl X "isinstance" := by rfl)
    (he : starEach [e, .Name y p2] X.env = (false, eval e X.env) :: starEach [.Name y p2] X.env := by rfl) (he2 : starEach [.Name y p2] X.env = (false, eval (.Name y p2) X.env) :: starEach [] X.env := by rfl) (hpl : (backTo pos (starEach [.Name y p2] X.env)).any (·.1) = false := by rfl) :
    PX X E (.Call (.Name "isinstance" p) [e, .Name y p2] [] pos) (tCB (rIsi X.K) (tCons te (tCons (tC (.ty T)) tNil))) (mIsi T me) [] [] :=
  ⟨pe_callB call_isi hg hm (by decide +kernel) (pa_cons ha.pe (pa_cons (pe_bltn hgy hy hT (v := .ty T) rfl hyn hyd) pa_nil he2) he) (he := he) (hpl := hpl), snd_isi ok ha.sn⟩
/-! ### calls of the text's own defs -/
/-- the def x keeps the promise of its mirror f -/
structure Def (P : Program) (w : World) (K : PySem.W.Frag) (mg : Str → Option Value) (base : Heap) (k : Nat) (x : Str) (ps : List Str) (f : List D → R D) : Prop where
  ok : ∃ fd, FnG P w K mg base (L2.CX P w) k (He.ga K x) fd ps (spF K ps.length f) ∧ Binds K fd ps [] ∧ ∃ params body scope, FunD K x x params body scope [] [] (He.ga K x) fd
  mg : mg x = some (.ref (He.ga K x))
theorem xcall {k j : Nat} {ps : List Str} {f : List D → R D} (h : Def X.prog X.w X.K X.mg X.base k x ps f) (hr : RoomG j X.A) (hk : k ≤ j) (hx : Passes (L2.CX X.prog X.w) X E) (ha : AX X E (e :: es) tr mr n us []) (hn : n = ps.length := by rfl) (hg : Gl X x := by rfl)
    (hdb : (x == ("__debug__" : Str)) = false := by decide) (he : starEach (e :: es) X.env = (false, eval e X.env) :: starEach es X.env := by rfl) (hpl : (backTo pos (starEach es X.env)).any (·.1) = false := by rfl) :
    PX X E (.Call (.Name x p) (e :: es) [] pos) (tCall (spF X.K ps.length f) [] E tr) (mCall f mr) us [] := by
  obtain ⟨fd, F, hb, _, _, _, fun_⟩ := h.ok
  exact ⟨pe_callG F (hr.mono hk) hg h.mg fun_.kp hb .nil hx ha.pa hdb he hpl, snd_call ha.sn (by rw [← hn]; exact ha.ln)⟩
/-! ### targets, statements -/
variable {tg : Expr} {g : TG} {f : D → Env → Option Env} {ns ns' : List Nat} {gs : TGs} {fs : List D → Env → Option Env} {ts us2 : List Nat} {sa sb : TS} {s1 s2 : Env → Fl} {st : Stmt} {rest body orelse : List Stmt}
theorem gn (i : Nat) {x : Str} {pos : Pos} (hN : X.N.Nodup) (hi : X.N[i]? = some x := by rfl) (hx : Loc X.env.scope x := by first | exact Or.inl rfl | exact Or.inr rfl) (hf : X.fn x = true ∨ X.env.scope.names.lookup x = some .local := by first | exact .inl rfl | exact .inr rfl) : GX X (.Name x pos) (gName i) (bName i) [i] := ⟨pg_name hN hi hx hf, sng_name i⟩
theorem h0 : HX X [] gNil bNil [] := ⟨pgs_nil, sng_nil⟩
theorem h1 (ha : GX X tg g f ns) (hb : HX X es gs fs ns') (hs : (assignEach (tg :: es) X.env).map (·.2) = assign tg X.env :: (assignEach es X.env).map (·.2) := by rfl) : HX X (tg :: es) (gCons g gs) (bCons f fs) (ns ++ ns') := ⟨pgs_cons ha.pg hb.pg hs, sng_cons ha.sn hb.sn⟩
theorem gt {k k2 : Nat} (hc : X.calm = true) (h : HX X es gs fs ns) (hn : (assignEach es X.env).length = k := by rfl) (hst : (assignEach es X.env).findIdx? (·.1) = none := by rfl) : GX X (.Tuple es k2 pos) (gTup X.K k gs) (bTup fs k) ns := ⟨pg_tup hc h.pg hn hst, sng_tup h.sn⟩
theorem l0 : LX X E [] tNext sNil := ⟨pss_nil, sns_nil⟩
theorem l1 (ha : SX X E st sa s1) (hb : LX X E rest sb s2) : LX X E (st :: rest) (tSeq sa sb) (sSeq s1 s2) := ⟨pss_cons ha.ps hb.ps, sns_seq ha.sn hb.sn⟩
theorem lz (ha : SX X E st sa s1) : LX X E [st] sa s1 := ⟨pss_one ha.ps, ha.sn⟩
theorem sset (i : Nat) {x : Str} {pos' : Pos} (hN : X.N.Nodup) (he : PX X E e te me us mv) (hs : swapsWith e (some (.Name x pos')) pos.line X.env = pure false := by rfl) (hu : disj us mv = true := by rfl) (hi : X.N[i]? = some x := by rfl) (hx : Loc X.env.scope x := by first | exact Or.inl rfl | exact Or.inr rfl)
    (hf : X.fn x = true ∨ X.env.scope.names.lookup x = some .local := by first | exact .inl rfl | exact .inr rfl) : SX X E (.Assign [.Name x pos'] e pos) (tAsg te (gName i)) (sAsg us mv me (bName i)) := ⟨ps_set hN hi hx he.pe hs hf, sns_asg he.sn (sng_name i) hu⟩
theorem sasg (he : PX X E e te me us mv) (hg : GX X tg g f ns) (hs : swapsWithSole [tg] e pos.line X.env = pure false := by rfl) (hw : swappedStores [tg] e X.env = pure none := by rfl)
    (h1 : (assignEach [tg] X.env).map (·.2) = [assign tg X.env] := by rfl) (hu : disj us mv = true := by rfl) : SX X E (.Assign [tg] e pos) (tAsg te g) (sAsg us mv me f) := ⟨ps_asg he.pe hg.pg hs hw h1, sns_asg he.sn hg.sn hu⟩
theorem spar {i j : Nat} {x y : Str} {px py pt : Pos} {kt k2 pt2} (hc : X.calm = true) (hN : X.N.Nodup) (ha : AX X E [a, bb] tr mr n us mv) (hi : X.N[i]? = some x := by rfl) (hj : X.N[j]? = some y := by rfl) (hij : i ≠ j := by decide) (hx : X.env.scope.names.lookup x = some .local := by rfl) (hy : X.env.scope.names.lookup y = some .local := by rfl)
    (hw : swappedStores [.Tuple [.Name x px, .Name y py] kt pt] (.Tuple [a, bb] k2 pt2) X.env = pure (some [x, y]) := by rfl) (hs : swapsWithSole [.Tuple [.Name x px, .Name y py] kt pt] (.Tuple [a, bb] k2 pt2) pos.line X.env = pure false := by rfl) (hu : disj us mv = true := by rfl) :
    SX X E (.Assign [.Tuple [.Name x px, .Name y py] kt pt] (.Tuple [a, bb] k2 pt2) pos) (tPar i j tr) (sPar us mv mr i j) := ⟨ps_par hc hN hi hj hij hx hy ha.pa hw hs, sns_par ha.sn hu⟩
theorem sif (hc : TX X E c t1 m1) (ha : LX X E body sa s1) (hb : LX X E orelse sb s2) : SX X E (.If c body orelse pos) (tIfS t1 sa sb) (sIf m1 s1 s2) := ⟨ps_if hc.pt ha.ps hb.ps, sns_if hc.sn ha.sn hb.sn⟩
theorem sret (he : PX X E e te me us mv) : SX X E (.Return (some e) pos) (tRet te) (sRet me) := ⟨ps_ret he.pe, sns_ret he.sn⟩
theorem sexp (he : PX X E e te me us mv) (hs : swapsWith e none pos.line X.env = pure false := by rfl) (hu : disj us mv = true := by rfl) : SX X E (.Expr e pos) (tDrop te) (sDrop us mv me) := ⟨ps_expr he.pe hs, sns_expr he.sn hu⟩
theorem sbrk : SX X E (.Break pos) tBreak .br := ⟨ps_break, sns_break⟩
theorem snev : SX X E st tNever (fun _ => .fail) := ⟨ps_never, sns_never⟩
theorem sapp (i : Nat) {x : Str} {p1 p2 p3 p4 : Pos} (he : PX X E e te me us mv) (hu : disj us mv = true := by rfl) (h1 : us.contains i = false := by rfl) (h2 : mv.contains i = false := by rfl) (hN : X.N[i]? = some x := by rfl) (hv : Vis X.env.scope x := by first | exact Or.inl rfl | exact Or.inr (Or.inl rfl) | exact Or.inr (Or.inr rfl)) (hd : (x == ("__debug__" : Str)) = false := by decide)
    (hcd : (x == ("__classdict__" : Str)) = false := by decide) (hbase : attributeBase (.Name x p1) "append" X.env (eval (.Name x p1) X.env) = eval (.Name x p1) X.env := by rfl)
    (hfew : ((backTo p3 (starEach [e] X.env)).all (fun x => !x.1) && (backToKw p3 (keywordEach [] X.env)).all (fun x => x.1.isSome) && decide ([e].length + ([] : List Keyword).length + (if ([] : List Keyword).isEmpty then 0 else 1) < 30)) = true := by rfl)
    (hline : (p2.endLine == p3.line) = true := by rfl) (hs : starEach [e] X.env = (false, eval e X.env) :: starEach [] X.env := by rfl) (hplain : (backTo p3 (starEach [] X.env)).any (·.1) = false := by rfl)
    (hsw : swapsWith (.Call (.Attribute (.Name x p1) "append" p2) [e] [] p3) none p4.line X.env = pure false := by rfl) :
    SX X E (.Expr (.Call (.Attribute (.Name x p1) "append" p2) [e] [] p3) p4) (tDrop (tBM X.K "list" rAppend (tVar i) (tCons te tNil))) (sApp us mv i me) :=
  ⟨ps_expr (pe_bm PySem.F.plainAttrs_list PySem.F.slot_list_append PySem.F.type_list_append mt_append (pe_var hN hv hd hcd) (pa_cons he.pe pa_nil hs) hbase hfew hline hs hplain) hsw, sns_app i he.sn hu h1 h2⟩
/-! ### what is walked -/
theorem ilst (he : PX X E e te me us []) : IX X E tg e (iList X.K te) (iLst me) us := ⟨pi_list he.pe, sni_list he.sn⟩
theorem irng1 (hm : X.mg "range" = none) (he : PX X E e te me us mv) (hg : Gl X "range" := by rfl) (hs : starEach [e] X.env = [(false, eval e X.env)] := by rfl) : IX X E tg (.Call (.Name "range" p) [e] [] pos) (iRng1 (tCons te tNil)) (iRg1 me) [] := ⟨pi_range1 hg hm (pa_cons he.pe pa_nil (by rw [hs]; rfl)) hs, sni_rng1 he.sn⟩
theorem irng2 (hm : X.mg "range" = none) (ha : AX X E [a, bb] tr mr n us mv) (hg : Gl X "range" := by rfl) (hs : starEach [a, bb] X.env = [(false, eval a X.env), (false, eval bb X.env)] := by rfl) (hs2 : starEach [bb] X.env = [(false, eval bb X.env)] := by rfl) :
    IX X E tg (.Call (.Name "range" p) [a, bb] [] pos) (iRng2 tr) (iRg2 mr) [] := ⟨pi_range2 hg hm ha.pa hs hs2, sni_rng2 ha.sn⟩
theorem ienum {elts : List Expr} {kk : Nat} {tpos : Pos} (hm : X.mg "enumerate" = none) (he : PX X E e te me us []) (hg : Gl X "enumerate" := by rfl) (hs : starEach [e] X.env = [(false, eval e X.env)] := by rfl) : IX X E (.Tuple elts kk tpos) (.Call (.Name "enumerate" p) [e] [] pos) (iEnum X.K (tCons te tNil)) (iEn me) us := ⟨pi_enum hg hm (pa_cons he.pe pa_nil (by rw [hs]; rfl)) hs, sni_enum he.sn⟩
theorem izip {e2 : Expr} {elts : List Expr} {kk : Nat} {tpos : Pos} (hm : X.mg "zip" = none) (ha : AX X E [e, e2] tr mr n us []) (hg : Gl X "zip" := by rfl) (hs : starEach [e, e2] X.env = (false, eval e X.env) :: starEach [e2] X.env := by rfl) (hpl : ((backTo pos (starEach [e2] X.env)).any fun x => x.fst) = false := by rfl) : IX X E (.Tuple elts kk tpos) (.Call (.Name "zip" p) [e, e2] [] pos) (iZip X.K tr) (iZp mr) us := ⟨pi_zip hg hm ha.pa hs hpl, sni_zip ha.sn⟩
theorem sfor {iter : Expr} {wi : TI} {mi : Env → R (List D)} (hp : PassesOwn (model X.prog X.w) X.A X.env X.xe) (hc : X.calm = true) (hi : IX X E tg iter wi mi us) (hg : GX X tg g f ns) (hb : LX X E body sa s1) (hs : ∀ x, foldedSetIterable iter X.env x = pure x := by intro _; rfl) :
    SX X E (.For tg iter body [] pos) (tFor wi g sa) (sFor us mi f s1) := ⟨ps_for hp hc hi.pi hg.pg hb.ps hs, sns_for hi.sn hg.sn hb.sn⟩
theorem swhile (hp : PassesOwn (model X.prog X.w) X.A X.env X.xe) (hc : TX X E c t1 m1) (hb : LX X E body sa s1) : SX X E (.While c body [] pos) (tWhile t1 sa) (sWhile m1 s1) := ⟨ps_while hp hc.pt hb.ps, sns_while hc.sn hb.sn⟩
/-! ### comprehensions -/
abbrev Cx.bk (X : Cx) (s : Shared) (H : Hp) (scope : Scope) (C : Addr) (cl : List (Str × Addr)) (fp : List Addr) : Cx := X.blk s H scope (compEnvC scope cl C X.env) fp
theorem snt_yes {K : PySem.W.Frag} : SndT K E tYes tYes' := fun b F O H σ ρ S Q h => h H (Same.refl H)
structure FX (X : Cx) (E : XK) (ifs : List Expr) (t : TT) (m : Env → R Bool) : Prop where
  pt : PTs X ifs t
  sn : SndT X.K E t m
theorem f0 : FX X E [] tYes tYes' := ⟨pts_nil, snt_yes⟩
theorem f1 (h : TX X E c t1 m1) : FX X E [c] t1 m1 := ⟨pts_one h.pt, h.sn⟩
theorem xlc {g : Shared → Hp → Addr → List (Str × Addr) → List Addr → TG} {t1 : Shared → Hp → Addr → List (Str × Addr) → List Addr → TT} {te : Shared → Hp → Addr → List (Str × Addr) → List Addr → TE} {elt iter : Expr} {ifs : List Expr} {scope : Scope} (own : List (Str × Nat)) {wi : TI} {mi : Env → R (List D)} (hc : X.calm = true) (hN : X.N.Nodup) (hi : IX X E tg iter wi mi us) (ok : blkC X.N X.env.scope scope own = true)
    (hg : ∀ (s : Shared) (H : Hp) (C : Addr) (cl : List (Str × Addr)) (fp : List Addr), GX (Cx.bk X s H scope C cl fp) tg (g s H C cl fp) f ns) (ht : ∀ (s : Shared) (H : Hp) (C : Addr) (cl : List (Str × Addr)) (fp : List Addr), FX (Cx.bk X s H scope C cl fp) E0 ifs (t1 s H C cl fp) m1)
    (he : ∀ (s : Shared) (H : Hp) (C : Addr) (cl : List (Str × Addr)) (fp : List Addr), PX (Cx.bk X s H scope C cl fp) E0 elt (te s H C cl fp) me us' []) (hs : ∀ x, foldedSetIterable iter X.env x = pure x := by intro _; rfl) (hn : subs ns (own.map (·.2)) = true := by rfl) (eg : ∀ s H C cl fp, g s H C cl fp = g ({} : PySem.Shared) (fun _ => none) 0 [] [] := by intros; rfl) (et1 : ∀ s H C cl fp, t1 s H C cl fp = t1 ({} : PySem.Shared) (fun _ => none) 0 [] [] := by intros; rfl) (ete : ∀ s H C cl fp, te s H C cl fp = te ({} : PySem.Shared) (fun _ => none) 0 [] [] := by intros; rfl) :
    PX X E (.ListComp elt [⟨tg, iter, ifs, 0⟩] scope pos) (tLc wi (g ({} : PySem.Shared) (fun _ => none) 0 [] []) (t1 ({} : PySem.Shared) (fun _ => none) 0 [] []) (te ({} : PySem.Shared) (fun _ => none) 0 [] []) (own.map (·.2))) (mLc us (own.map (·.2)) mi f m1 me) (us ++ us') [] :=
  ⟨pe_lc hc hN hi.pi (blkOk_by ok) (fun s H C cl fp => eg s H C cl fp ▸ (hg s H C cl fp).pg) (fun s H C cl fp => et1 s H C cl fp ▸ (ht s H C cl fp).pt) (fun s H C cl fp => ete s H C cl fp ▸ (he s H C cl fp).pe) hs,
    snd_lc hi.sn (hg ({} : PySem.Shared) (fun _ => none) 0 [] []).sn (ht ({} : PySem.Shared) (fun _ => none) 0 [] []).sn (he ({} : PySem.Shared) (fun _ => none) 0 [] []).sn hn⟩
theorem ssetlc (i : Nat) {y : Str} {py spos : Pos} {g : Shared → Hp → Addr → List (Str × Addr) → List Addr → TG} {t1 : Shared → Hp → Addr → List (Str × Addr) → List Addr → TT} {te : Shared → Hp → Addr → List (Str × Addr) → List Addr → TE} {elt iter : Expr} {ifs : List Expr} {scope : Scope} (own : List (Str × Nat)) {wi : TI} {mi : Env → R (List D)} (hc : X.calm = true) (hN : X.N.Nodup) (hi : IX X E tg iter wi mi us) (ok : blkC X.N X.env.scope scope own = true)
    (hg : ∀ (s : Shared) (H : Hp) (C : Addr) (cl : List (Str × Addr)) (fp : List Addr), GX (Cx.bk X s H scope C cl fp) tg (g s H C cl fp) f ns) (ht : ∀ (s : Shared) (H : Hp) (C : Addr) (cl : List (Str × Addr)) (fp : List Addr), FX (Cx.bk X s H scope C cl fp) E0 ifs (t1 s H C cl fp) m1)
    (he : ∀ (s : Shared) (H : Hp) (C : Addr) (cl : List (Str × Addr)) (fp : List Addr), PX (Cx.bk X s H scope C cl fp) E0 elt (te s H C cl fp) me us' [])
    (hsw : swapsWith (.ListComp elt [⟨tg, iter, ifs, 0⟩] scope pos) (some (.Name y py)) spos.line X.env = pure true) (hy : X.N[i]? = some y := by rfl) (hyl : X.env.scope.names.lookup y = some .local := by rfl) (hs : ∀ x, foldedSetIterable iter X.env x = pure x := by intro _; rfl) (hn : subs ns (own.map (·.2)) = true := by rfl) (eg : ∀ s H C cl fp, g s H C cl fp = g ({} : PySem.Shared) (fun _ => none) 0 [] [] := by intros; rfl) (et1 : ∀ s H C cl fp, t1 s H C cl fp = t1 ({} : PySem.Shared) (fun _ => none) 0 [] [] := by intros; rfl) (ete : ∀ s H C cl fp, te s H C cl fp = te ({} : PySem.Shared) (fun _ => none) 0 [] [] := by intros; rfl) :
    SX X E (.Assign [.Name y py] (.ListComp elt [⟨tg, iter, ifs, 0⟩] scope pos) spos) (tAsg (tLc wi (g ({} : PySem.Shared) (fun _ => none) 0 [] []) (t1 ({} : PySem.Shared) (fun _ => none) 0 [] []) (te ({} : PySem.Shared) (fun _ => none) 0 [] []) (own.map (·.2))) (gName i)) (sAsg (us ++ us') [] (mLc us (own.map (·.2)) mi f m1 me) (bName i)) :=
  ⟨ps_setLc hc hN hy hyl hsw hi.pi (blkOk_by ok) (fun s H C cl fp => eg s H C cl fp ▸ (hg s H C cl fp).pg) (fun s H C cl fp => et1 s H C cl fp ▸ (ht s H C cl fp).pt) (fun s H C cl fp => ete s H C cl fp ▸ (he s H C cl fp).pe) hs,
    sns_asg (snd_lc hi.sn (hg ({} : PySem.Shared) (fun _ => none) 0 [] []).sn (ht ({} : PySem.Shared) (fun _ => none) 0 [] []).sn (he ({} : PySem.Shared) (fun _ => none) 0 [] []).sn hn) (sng_name i) rfl⟩
end
/-! ### a def -/
theorem fin {X : Cx} {E : XK} {body : List Stmt} {t : TS} {m : Env → Fl} {n : Nat} {N : List Str} {vs : List V} {H : Hp} {Q : VK} (L : LX X E body t m) (hsp : spF X.K n (runF N.length m) vs H Q E) (hn : n ≤ N.length) :
    ∃ t, PSs X body t ∧ t { nx := fun _ H' => Q .non H', rt := Q } (L2.start N vs) H := ⟨t, L.ps, body_ok L.sn hsp hn⟩
section
variable {P : Program} {w : World} {K : PySem.W.Frag} {mg : Str → Option Value} {base : Heap} {k : Nat} {x : Str} {ps N : List Str} {params : Arguments} {body : List Stmt} {scope : Scope} {m : Env → Fl}
abbrev XD (P : Program) (w : World) (K : PySem.W.Frag) (mg : Str → Option Value) (base : Heap) (N : List Str) (x : Str) (scope : Scope) (cdv : Value) (A : Around) (outer : List PySem.Env) (s : Shared) (H : Hp) (E : XK) : Cx := cxOf (L2.CX P w) P w K mg base N x scope (He.ga K x) cdv A outer s H E
theorem passE {cdv : Value} {A : Around} {outer : List PySem.Env} {s : Shared} {H : Hp} {E : XK} : Passes (L2.CX P w) (XD P w K mg base N x scope cdv A outer s H E) E := passes_call (takes_of rfl rfl rfl rfl) fun _ _ _ _ h => h
theorem passB {X : Cx} : Passes (L2.CX X.prog X.w) X E0 := by
  intro pins σ H s e s1 I h
  obtain ⟨_, _, _, _, _, _, _, _, _, _, _, _, h⟩ := h
  exact h.elim
theorem ownE {cdv : Value} {A : Around} {outer : List PySem.Env} {s : Shared} {H : Hp} {E : XK} : PassesOwn (model P w) (XD P w K mg base N x scope cdv A outer s H E).A (XD P w K mg base N x scope cdv A outer s H E).env (XD P w K mg base N x scope cdv A outer s H E).xe := passes_of (X := XD P w K mg base N x scope cdv A outer s H E) rfl
theorem mkDef (hmg : mg x = some (.ref (He.ga K x))) (hF : ∃ fd, FunD K x x params body scope [] [] (He.ga K x) fd) (S : FnScope N ps scope)
    (hb : ∀ (kV doc pm : Value) (an : Option Addr) (cdv ct : Value) (us : List Value), us.length = ps.length → bindArgs (PySem.W.fnOf x x params body scope .none kV doc pm an cdv ct) ⟨us, []⟩ = pure (ps.zip us))
    (h : ∀ (cdv : Value) (A : Around) (outer : List PySem.Env) (s : Shared) (H : Hp) (vs : List V) (Q : VK) (E : XK), RoomG k (A.deeper (envOfC x scope s.heap.objs.size (He.ga K x) cdv)) → spF K ps.length (runF N.length m) vs H Q E →
      ∃ t, PSs (XD P w K mg base N x scope cdv A outer s H E) body t ∧ t { nx := fun _ H' => Q .non H', rt := Q } (L2.start N vs) H) : Def P w K mg base (k + 1) x ps (runF N.length m) := by
  obtain ⟨fd, F⟩ := hF
  have hlen : ∀ (vs : List V) (H : Hp) (Q : VK) (E : XK), spF K ps.length (runF N.length m) vs H Q E → vs.length = ps.length := fun vs H Q E h => by
    obtain ⟨G, ds, h1, _, _, h3, _⟩ := h
    rw [h3.length, h1]
  have F' := F
  obtain ⟨oc, od, dV, kV, doc, pm, an, cdv, ct, osl, e1, lk, hcd, hD, hK⟩ := F'.ex
  refine ⟨⟨fd, ⟨hlen, fun A outer s H args us vs Q E hr e0 hbb r hsp => ?_⟩, F.bindsN hb, params, body, scope, F⟩, hmg⟩
  rw [e1] at lk hbb
  exact LamX.run_ofS lk hcd S hr.rm e0 hbb r (hlen vs H Q E hsp) fun hr' => h cdv A outer s H vs Q E ⟨hr', hr.gd⟩ hsp
end
end PV
end
section
set_option Elab.async false
set_option linter.all false
set_option maxRecDepth 100000
set_option maxHeartbeats 2000000
/-! PV9: an own exception over ValueError whose __init__ says super().__init__(value); self.value = value. -/
namespace PV
open PySem PySem.Spec PyProof.Rows L2 PySem.Calls PySem.W
section
variable {prog : Program} {w : World} {A : Around} {E : Value → Shared → Prop} {h : Heap} {g : Array GenState} {d : Drawn} {t : Nat} {os : OsState}
/-- the bound ValueError.__init__, called -/
theorem call_ve {nm q : Str} {C N u e t0 : Addr} {bs bm : List Value} {hdct : Bool} {sn : List Str} {sub : List Value} {ab : Bool} {col : Option Bool} {dd : Option Addr} {k0 k1 k2 k3 k5 : Option Value} {rest : List Value} {Q : Value → Shared → Prop}
    (hC : h.get? C = some (excClassObj nm q C N bs bm hdct sn sub ab col dd k0 k1 k2 k3 k5 "ValueError.__new__")) (he : h.get? e = some (PySem.HandSPX.excO C t0)) (hu : h.get? u = some (kxs_mw "ValueError.__init__" e)) (hrest : rest.length ≤ sizeLine)
    (hq : ∀ h' t1, (∀ b o, b ≠ e → h.get? b = some o → h'.get? b = some o) → h'.get? e = some (PySem.HandSPX.excO C t1) → Q .none ⟨h', g, d, t, os⟩) :
    wpAny (model prog w) A (call (.ref u) rest) Q E ⟨h, g, d, t, os⟩ := by
  refine wpAny_call (codeAny_of_tree ?_)
  show wpAny _ A.in1 (callAny (.ref u) ⟨rest, []⟩) _ _ _
  simp only [callAny]
  refine wpAny_bind (wpAny_load hu ?_)
  simp only [kxs_mw, show (Value.type "method-wrapper" == Value.type "method" || Value.type "method-wrapper" == Value.type "builtin_function_or_method" || Value.type "method-wrapper" == Value.type "method-wrapper") = true by decide, if_true]
  refine KFB.if_so (by decide) ?_
  refine wpAny_bind (PySem.ESX.check_bound F.excBase_ValueError hC he rfl ?_)
  refine wpAny_bind (wpAny_pure (wpAny_pure ?_))
  refine ⟨Code.quiet_builtin _ (by decide +kernel), codeAny_builtin F.excBase_ValueError.initEntry ?_⟩
  rw [Around.under_plainId F.excBase_ValueError.init.plain _]
  wp_walk
  refine hq _ h.objs.size (fun b o hb ho => ?_) ?_
  · rw [Heap.get?_update_other _ _ (Ne.symm hb)]
    exact Heap.get?_push_of_some _ ho
  · rw [Heap.get?_update_self _ (Heap.get?_push_of_some _ he) rfl]
    rfl
theorem ldL {M : Model} {s : Shared} {env : PySem.Env} {m : Str → Option Value} {x : Str} {pos : Pos} {v : Value} {Q : Value → Shared → Prop} (hn : s.heap.Ns env.locals m) (hv : m x = some v) (h : Q v s)
    (hk : env.scope.kind = .function) (hl : env.kindOf x = some .local) (hd : (x == ("__debug__" : Str)) = false := by decide) : wpAny M A (eval (.Name x pos) env) Q E s := wpAny_Name (wpAny_loadName_local hk hl hn hv h) hd
end

/-- the body of such an __init__ -/
abbrev supBody (p0 p1 p2 p3 p4 p5 p6 p7 p8 p9 : Pos) : List Stmt :=
  [.Expr (.Call (.Attribute (.Call (.Name "super" p0) [] [] p1) "__init__" p2) [.Name "value" p3] [] p4) p5, .Assign [.Attribute (.Name "self" p6) "value" p7] (.Name "value" p8) p9]
/-- what the class C asks, D: the class whose __init__ runs -/
structure SupC (K : PySem.W.Frag) (C D : Addr) : Prop where
  ox : OexC K C
  no : PySem.W.findIn K (.ref C) "value" = some none
  sub : mroIn K C (.ref D) = some true
  sup : ks_superIn K C D "__init__" = some (some (.builtin "ValueError.__init__"))
  ve : subIn K (.ref C) (.type "ValueError") = some true
/-- the promise of the __init__ -/
def spI (K : PySem.W.Frag) (D : Addr) : Sp := fun vs H Q E => ∃ (e C : Addr) (x : V), vs = [.ref e, x] ∧ SupC K C D ∧ H e = some (exo e C none) ∧
  ∀ dx, H dx = none → dx ≠ e → Q .non (upd (upd H dx (exd dx [(("value" : Str), x)])) e (exo e C (some dx)))
theorem init_run {CX : CXT} {P : Program} {w : World} {K : PySem.W.Frag} {mg : Str → Option Value} {base : Heap} {D fI cc cda : Addr} {qual : Str} {params : Arguments} {scope : Scope} {dV kV doc pm ct oc : Value} {an od : Option Addr} {osl : Array (Option Value)}
    {p0 p1 p2 p3 p4 p5 p6 p7 p8 p9 : Pos} {ar : Arg} {vs0 : Array Value} {file : Str} {tf : Tok} {ccl cl : Value} {cdd cld : Option Addr} {ccs csl : Array (Option Value)} {cdD : ClassData}
    (lk : K.lookup fI = some ⟨oc, od, .func (ksFn "__init__" qual params (supBody p0 p1 p2 p3 p4 p5 p6 p7 p8 p9) scope dV kV doc pm an (.ref cda) ct cc), osl⟩) (hcd : codeIn K (.ref cda) qual = true)
    (hp : (params.posonlyargs ++ params.args).head? = some ar) (har : ar.arg = "self") (hcode : K.lookup cda = some ⟨ccl, cdd, .fields vs0, ccs⟩) (hvs : vs0[2]? = some (.str file tf)) (hfile : ((P.main.file : Str) == file) = true)
    (hcell : K.lookup cc = some ⟨cl, cld, .cell (some (.ref D)), csl⟩) (hD : clsIn K D = some cdD) (hopq : nsIn K cStatics "thirdparty.any" = some none) (hms : mg "super" = none)
    (hks : scope.names.lookup ("super" : Str) = some .globalImplicit) (hkc : scope.names.lookup ("__class__" : Str) = some .free) (hka : scope.names.lookup ("self" : Str) = some .local) (hkv : scope.names.lookup ("value" : Str) = some .local)
    (hk : scope.kind = .function) (hco : scope.isCoroutine = false) (hgen : scope.isGenerator = false) (hnc : ∀ x ∈ scope.names, x.2 ≠ .cell) (htop : (P.main.scope.names.lookup ("super" : Str)).isSome = false)
    (pl : PySem.Env → Sem Bool) (hmc : ∀ env : PySem.Env, eval (.Call (.Attribute (.Call (.Name "super" p0) [] [] p1) "__init__" p2) [.Name "value" p3] [] p4) env = (do
      let ov ← attributeBase (.Call (.Name "super" p0) [] [] p1) "__init__" env (eval (.Call (.Name "super" p0) [] [] p1) env)
      standAt p2.atName
      let (f, first) ← holding [ov] (getMethod ov "__init__" (pl env))
      callWith p4 f first (backTo p4 (starEach [.Name "value" p3] env)) []))
    (hsw0 : ∀ env : PySem.Env, swapsWith (.Call (.Attribute (.Call (.Name "super" p0) [] [] p1) "__init__" p2) [.Name "value" p3] [] p4) none p5.line env = pure false)
    (hsw : ∀ env : PySem.Env, swapsWith (.Name "value" p8) (some (.Attribute (.Name "self" p6) "value" p7)) p9.line env = pure false) :
    FnOk P w K mg base CX 1 fI (ksFn "__init__" qual params (supBody p0 p1 p2 p3 p4 p5 p6 p7 p8 p9) scope dV kV doc pm an (.ref cda) ct cc) ["self", "value"] (spI K D) := by
  refine ⟨fun vs H Q E h => ?_, fun A outer s H args us vs Q E hr e0 hb hv hsp => ?_⟩
  · obtain ⟨e, C, x, rfl, _⟩ := h
    rfl
  obtain ⟨e, C, x, rfl, T, he, hq⟩ := hsp
  obtain ⟨nm, qq, N, bs, bm, sn, sub, ab, col, dd, k0, k1, k2, k3, k5, hC, hbm⟩ := T.ox.cls
  have hcl : PySem.W.clsIn K C = some { name := nm, bases := bs, mro := .ref C :: bm, ns := N, qualname := qq, hasDict := true, slotNames := sn, subclasses := sub, abstract := ab, collection := col, hasDel := false } := by unfold PySem.W.clsIn; rw [hC] <;> rfl
  cases hv with
  | @cons _ u0 _ ur ra rw' =>
  cases rw' with
  | @cons _ u1 _ ur2 rb rw2 =>
  cases rw2
  obtain rfl : u0 = Value.ref e := ra
  have KX : K.In s.heap := e0.mod.kin.keeps fun b o e => (e0.bs b o e).1
  have lim : s.heap.NoLimit := e0.mod.nolimit.keeps fun b o e => (e0.bs b o e).1
  obtain ⟨t1, ho⟩ := exo_at e0.hok he
  obtain ⟨hp0, g, d, tk, os⟩ := s
  obtain ⟨mb, hb1, hb2⟩ := e0.mod.blt
  have hbs : ∀ b o, base.get? b = some o → hp0.get? b = some o := fun b o e => (e0.bs b o e).1
  have glob0 : hp0.Ns mainGlobals mg := e0.mod.glob.keeps hbs
  have blt0 : hp0.Ns builtinsNs mb := hb1.keeps hbs
  obtain ⟨oD, hD1, hD2⟩ : ∃ oD, hp0.get? D = some oD ∧ oD.data = .cls cdD := by
    unfold clsIn at hD
    split at hD
    · rename_i c d cd' sl ho
      cases hD
      exact ⟨_, KX _ _ ho, rfl⟩
    · cases hD
  refine ks_codeAny_call_defAt (fd := ksFn "__init__" qual params (supBody p0 p1 p2 p3 p4 p5 p6 p7 p8 p9) scope dV kV doc pm an (.ref cda) ct cc) (body := supBody p0 p1 p2 p3 p4 p5 p6 p7 p8 p9) (binds := [("self", .ref e), ("value", u1)]) hr.depth (KX _ _ lk) rfl lim (codeRec_of KX hcd) rfl hb hnc (fun y hy => ?_) (fun h1 hns kp => ?_) hco hgen hk
  · simp only [List.mem_cons, List.not_mem_nil, or_false] at hy
    rcases hy with rfl | rfl
    · exact hka
    · exact hkv
  have K1 : K.In h1 := KX.keeps kp
  have he1 := kp _ _ ho
  show _root_.PySem.wpAt _ _ (.func _ (ksEnv qual scope hp0.objs.size fI (.ref cda) cc)) (execs _ (ksEnv qual scope hp0.objs.size fI (.ref cda) cc)) _ _ _
  have hL : hp0.objs.size ≠ e := Nat.ne_of_gt (Heap.lt_size ho)
  refine ks_wpAt_execs_cons (ks_wpAt_Expr_any (ks_wpAt_MethodCall (pl := pl (ksEnv qual scope hp0.objs.size fI (.ref cda) cc)) ?_ (hmc _)) (by simp [interactive, hk]) (hsw0 _))
  refine ks_wpAt_super_base (env := ksEnv qual scope hp0.objs.size fI (.ref cda) cc) hks hkc (by decide) rfl (K1 _ _ lk) rfl hp rfl (K1 _ _ hcode) rfl hvs hfile htop ?_
  refine ks_loadName_global hk hks (loadGlobal_builtin (env := ksEnv qual scope hp0.objs.size fI (.ref cda) cc) (glob0.keeps kp) hms (blt0.keeps kp) ((hb2 _ (by decide)).trans PyProof.Rows.Boot.«super») ⟨rfl, ?_⟩)
  refine wpAny_loadName_free hk hkc rfl ⟨_, K1 _ _ hcell, rfl⟩ ?_
  rw [har]
  refine wpAny_loadName_local (v := .ref e) hk hka hns rfl ?_
  refine ks_wpAny_isType_cls (kp _ _ hD1) hD2 ⟨rfl, ?_⟩
  refine ks_wpAny_call_super (kp _ _ hD1) hD2 he1 rfl (fun c z => nomatch z) (looks_mroIn K1 T.sub) (fun h2 hso k2 => ?_)
  have K2 : K.In h2 := K1.keeps k2
  have he2 := k2 _ _ he1
  have hne : e ≠ C := fun z => by
    have y := KX _ _ hC
    rw [← z, ho] at y
    have y2 := congrArg (fun o => o.map Obj.data) y
    simp [excClassObj] at y2
  refine kxs_getMethod kxs_ValueError (K := K) hso (looks_opaque K2 hopq) (l₀ := .ref C :: bm) ?_ rfl K2 ?_ ?_ hne (by decide) ?_
  · exact fun A Q E s k q => wpAny_bind ((looks_clsIn K2 hcl) A _ E s k (wpAny_pure q))
  · have z := T.sup
    unfold ks_superIn at z
    rw [hcl] at z
    exact z
  · exact (InstAt.type (ox := PySem.HandSPX.excO C t1) (od := none) ⟨he2, rfl, rfl, trivial⟩).andThen (looks_subIn K2 T.ve)
  generalize hso' : h2.objs.size = so2
  have hm : (h2.push (kxs_mw "ValueError.__init__" e)).get? so2 = some (kxs_mw "ValueError.__init__" e) := by rw [← hso']; exact Heap.get?_push_at rfl rfl
  have k3 : ∀ b o, h2.get? b = some o → (h2.push (kxs_mw "ValueError.__init__" e)).get? b = some o := fun b o z => Heap.get?_push_of_some _ z
  refine kxs_callWith (i := "ValueError.__init__") (x := e) (by rfl) (evalArgs_plain ?_)
  refine spliced_cons (ldL (env := ksEnv qual scope hp0.objs.size fI (.ref cda) cc) (v := u1) ((hns.keeps k2).keeps k3) rfl ?_ hk hkv)
  refine spliced_nil ⟨hm, ?_⟩
  refine call_ve (t0 := t1) (k3 _ _ (K2 _ _ hC)) (k3 _ _ he2) hm (by rw [sizeLine_eq]; show 1 ≤ 16777216; decide) fun h4 t4 k4 he4 => ?_
  refine wpAt_of_wpAny (wpAny_execs_cons ?_)
  have hns4 : h4.Ns hp0.objs.size fun y => List.lookup y [(("self" : Str), Value.ref e), ("value", u1)].reverse := by
    obtain ⟨oL, es, ep, q1, q2⟩ := (hns.keeps k2).keeps k3
    exact ⟨oL, es, ep, k4 _ _ hL q1, q2⟩
  have K4 : K.In h4 := fun b o z => k4 b o (fun y => by
      subst y
      have y := (e0.bs _ _ (e0.mod.kin _ _ z)).2
      rw [he] at y
      cases y) (k3 _ _ (K2 _ _ z))
  refine plainObj_wpAny_Assign_Attribute (ldL (env := ksEnv qual scope hp0.objs.size fI (.ref cda) cc) (v := u1) hns4 rfl ?_ hk hkv) (hsw _)
  refine ldL (env := ksEnv qual scope hp0.objs.size fI (.ref cda) cc) (v := .ref e) hns4 rfl ?_ hk hka
  refine PySem.W.set_plain K4 (ox := PySem.HandSPX.excO C t4) (od := none) ⟨he4, rfl, rfl, trivial⟩ T.ox.sa ?_
  refine PySem.HandSPX.exc_osa K4 he4 hcl (show PySem.HandSPX.refsVE (.ref C :: bm) = true from hbm) rfl T.no (fun h' tk' dx k dn dne hx hn => ?_)
  refine wpAny_execs_nil ?_
  have szle : hp0.objs.size ≤ h4.objs.size := Nat.le_of_lt hns4.lt
  have hnd : H dx = none := by
    cases z : H dx with
    | none => rfl
    | some o =>
      exfalso
      have y : hp0.objs.size ≤ dx := by
        rcases Nat.lt_or_ge dx hp0.objs.size with q | q
        · have w1 : h4.objs.size ≤ dx := dn
          have w2 : hp0.objs.size ≤ h4.objs.size := szle
          omega
        · exact q
      rw [e0.hok.fresh y] at z
      cases z
  have kall : ∀ b o, b ≠ e → hp0.get? b = some o → h'.get? b = some o := fun b o hb z => k b o hb (k4 b o hb (k3 _ _ (k2 _ _ (kp _ _ z))))
  have nd : ∀ {b : Addr} {o : Obj}, hp0.get? b = some o → b ≠ dx := fun {b o} q y => by
    by_cases hb : b = e
    · exact dne (y ▸ hb)
    · have z := k4 b o hb (k3 _ _ (k2 _ _ (kp _ _ q)))
      exact Nat.lt_irrefl _ (Nat.lt_of_lt_of_le (Heap.lt_size z) (y ▸ dn))
  have na : ∀ {b : Addr}, H b = none → b ≠ e := fun {b} n z => by
    rw [z, he] at n
    cases n
  refine ⟨.non, upd (upd H dx (exd dx [(("value" : Str), x)])) e (exo e C (some dx)), rfl, e0.bare, ?_, ?_, rfl, hq dx hnd dne⟩
  · exact {
      keep := fun b o q n _ _ => kall b o (na n) q
      slot := fun b o q n _ _ => ⟨o.slots, kall b o (na n) q⟩
      free := fun b o q n _ => by rw [upd_ne (na n), upd_ne (nd q)]; exact n
      there := fun b o q _ => by
        by_cases hb : b = e
        · exact ⟨_, by rw [hb]; exact hx⟩
        · exact ⟨o, kall b o hb q⟩
      tups := fun b xs q => by rw [upd_ne (at_ne he q exo_tup), upd_ne (ne_of_none q hnd)]; exact q
      frzs := fun b o v q => by rw [upd_ne (at_ne he q exo_frz), upd_ne (ne_of_none q hnd)]; exact q
      tbls := fun b ps q => ⟨#[], by rw [upd_ne (at_ne he q exo_tbl), upd_ne (ne_of_none q hnd), q]; simp⟩ }
  · intro b o q
    by_cases hb : b = e
    · subst hb
      rw [upd_same] at q
      cases q
      exact exo_ok hx
    · rw [upd_ne hb] at q
      by_cases hd : b = dx
      · subst hd
        rw [upd_same] at q
        cases q
        exact exd_ok hn (relO_put (fs := []) rb fun g => True.intro)
      · rw [upd_ne hd] at q
        exact (e0.hok b o q).stay (fun c v hc z => kall c v (by
            rcases hc with hc | hc
            · rw [hc]
              exact hb
            · exact at_ne he hc exo_own) z)
          (fun c hc => by rw [upd_ne (at_ne he hc exo_own), upd_ne (ne_of_none hc hnd)]; exact hc) (fun c xs hc => by rw [upd_ne (at_ne he hc exo_tup), upd_ne (ne_of_none hc hnd)]; exact hc)
end PV
end
section
set_option Elab.async false
set_option linter.all false
set_option maxRecDepth 100000
set_option maxHeartbeats 1000000
/-! PV10: raise, try, held exceptions. -/
namespace PV
open PySem PySem.Spec PyProof.Rows L2
/-- the class c over DeedError -/
structure Exn (P : Program) (w : World) (K : PySem.W.Frag) (mg : Str → Option Value) (base : Heap) (c : String) : Prop where
  ex : ∃ (fI : Addr) (fd : FuncData), FnOk P w K mg base (L2.CX P w) 1 fI fd ["self", "value"] (spI K (He.ga K "DeedError")) ∧ SupC K (He.ga K (Str.ofString c)) (He.ga K "DeedError") ∧ Binds K fd ["self", "value"] [] ∧
    PySem.W.findIn K (.ref (He.ga K (Str.ofString c))) "__init__" = some (some (.ref fI)) ∧ PySem.W.typeIn K (.ref fI) = some (.type "function")
  mg : mg (Str.ofString c) = some (.ref (He.ga K (Str.ofString c)))
def sRaise (c : String) (ma : Env → R (List D)) : Env → Fl := fun ρ => match ma ρ with
  | .ok [d] => .ex c (fz d)
  | .ok _ => .fail
  | .ex x d => .ex x d
  | .fail => .fail
section
variable {X : Cx} {E : XK} {e : Expr} {es : List Expr} {te : TE} {ta : TA} {me : Env → R D} {ma : Env → R (List D)} {us mv : List Nat} {p pos pos' : Pos} {n : Nat}
theorem sns_raise {K : PySem.W.Frag} {c : String} {D : Addr} (hc : SupC K (He.ga K (Str.ofString c)) D) (ha : SndA K E ta ma us mv) :
    SndS K E (fun _ σ H => tMkO (He.ga K (Str.ofString c)) (spI K D) [] ta σ H fun cls d H' => E cls d H') (sRaise c ma) := by
  intro b F O H σ ρ S T h
  show ta σ H fun vs H1 => _
  refine ha b F O H σ ρ S _ ?_
  unfold sRaise at h
  cases h1 : ma ρ with
  | fail => rw [h1] at h; exact h.elim
  | ex x d => rw [h1] at h; exact ECond.mono h S.same
  | ok ds =>
    rw [h1] at h
    match ds, h with
    | [], h => exact h.elim
    | _ :: _ :: _, h => exact h.elim
    | [d], h =>
      intro vs H1 s1 r1
      have h' : ECond K E b.H0 c (fz d) := h
      obtain ⟨F', as, k1, k2, k3, k4⟩ := r1
      obtain ⟨v, rfl, r⟩ := k4.of_one
      refine ⟨by show 1 ≤ 1000; decide, fun a ha => ?_⟩
      refine ⟨a, _, v, rfl, hc, upd_same, fun dx hdx hne => ?_⟩
      have hd1 : H1 dx = none := by rw [upd_ne hne] at hdx; exact hdx
      refine ⟨rfl, dx, [(("value" : Str), v)], upd_same, by rw [upd_ne hne, upd_same], hd1, ?_⟩
      have sm : Same H1 (upd (del (upd (upd (upd H1 a (exo a (He.ga K (Str.ofString c)) none)) dx (exd dx [(("value" : Str), v)])) a (exo a (He.ga K (Str.ofString c)) (some dx))) a) dx (.xd [(("value" : Str), v)])) := fun b' o q => by
        have n1 : b' ≠ dx := ne_of_none q hd1
        have n2 : b' ≠ a := ne_of_none q ha
        rw [upd_ne n1, del_ne n2, upd_ne n2, upd_ne n1, upd_ne n2]
        exact q
      have ss := S.same.trans (s1.trans sm)
      refine h' dx v _ (fun a => F' a ∨ a ∈ as) (fun y hy => ⟨?_, ?_⟩) ss ((S.same.trans s1).free hd1) upd_same (Rp.fz (fun _ z => .inl z) d v as (fun _ z => .inr z) (Rp.mono (fun _ z => z) (same_nlst sm) d v as (fun a xs _ e => sm a _ e) r))
      · rcases hy with hy | hy
        · rcases (k1 y hy).1 with (q | ⟨i, _, q⟩) | q
          · exact S.alw (.inl q)
          · exact S.alw (.inr (.inl ⟨i, q⟩))
          · exact S.alw (.inr (.inr q))
        · rcases (k3 y hy).1 with q | ⟨i, _, q⟩
          · exact S.alw (.inr (.inr q))
          · exact S.alw (.inr (.inl ⟨i, q⟩))
      · rcases hy with hy | hy
        · exact same_dom sm (k1 y hy).2
        · obtain ⟨xs, q⟩ := Rp.own d v as r y hy
          exact same_dom sm (by rw [q]; exact fun z => nomatch z)
/-- raise C(e) -/
theorem sraise {c : String} {j : Nat} (hx : Exn X.prog X.w X.K X.mg X.base c) (hr : RoomG j X.A) (hj : 2 ≤ j) (hc : X.calm = true) (tk : Takes X (fun cls d _ H' => E cls d H')) (hp : Passes (L2.CX X.prog X.w) X (fun _ _ _ => False)) (ha : AX X E (e :: es) ta ma n us mv) (hg : Gl X (Str.ofString c) := by rfl)
    (hdb : (Str.ofString c == ("__debug__" : Str)) = false := by decide) (he : starEach (e :: es) X.env = (false, eval e X.env) :: starEach es X.env := by rfl) (hpl : (backTo pos (starEach es X.env)).any (·.1) = false := by rfl) :
    SX X E (.Raise (some (.Call (.Name (Str.ofString c) p) (e :: es) [] pos)) none pos') (fun _ σ H => tMkO (He.ga X.K (Str.ofString c)) (spI X.K (He.ga X.K "DeedError")) [] ta σ H fun cls d H' => E cls d H') (sRaise c ma) := by
  obtain ⟨fI, fd, F, hC, hb, hi, hT⟩ := hx.ex
  exact ⟨ps_raise hc tk (pmk_oex hC.ox hi hT F (hr.rm.mono hj) hb .nil hp hg hx.mg ha.pa hdb he hpl), sns_raise hC ha.sn⟩
end
end PV
end
section
set_option Elab.async false
set_option linter.all false
set_option maxRecDepth 100000
set_option maxHeartbeats 1000000
/-! PV11: a lambda that is held in a list is called. -/
namespace PV
open PySem PySem.Spec PyProof.Rows L2
/-- H without what it tells of the addresses cs -/
def minus (H : Hp) (cs : List Addr) : Hp := fun b => if b ∈ cs then none else H b
/-- H', and of the addresses cs what H tells -/
def plus (H : Hp) (cs : List Addr) (H' : Hp) : Hp := fun b => if b ∈ cs then H b else H' b
theorem minus_in {H : Hp} {cs : List Addr} {b : Addr} (h : b ∈ cs) : minus H cs b = none := if_pos h
theorem minus_out {H : Hp} {cs : List Addr} {b : Addr} (h : b ∉ cs) : minus H cs b = H b := if_neg h
theorem plus_in {H H' : Hp} {cs : List Addr} {b : Addr} (h : b ∈ cs) : plus H cs H' b = H b := if_pos h
theorem plus_out {H H' : Hp} {cs : List Addr} {b : Addr} (h : b ∉ cs) : plus H cs H' b = H' b := if_neg h
/-- what H tells of cs: cells -/
def Cel (H : Hp) (cs : List Addr) : Prop := ∀ c ∈ cs, ∃ o, H c = some (objO c o)
def Qm (Q : VK) (H : Hp) (cs : List Addr) : VK := fun v H' => (∀ c ∈ cs, H' c = none) → Q v (plus H cs H')
def Em (E : XK) (H : Hp) (cs : List Addr) : XK := fun cls d H' => (H' = badH ∧ ((∃ a ∈ cs, d = some a) ∨ E cls d badH ∨ ∀ c d H, ¬ E c d H)) ∨ (H' ≠ badH ∧ ((∀ c ∈ cs, H' c = none) → E cls d (plus H cs H')))
theorem objO_ok {P : Program} {w : World} {H : Hp} {h : Heap} {a : Addr} {o : Obj} (e : h.get? a = some o) : ObjOk P w H h a (objO a o) := ⟨e, ⟨o, e⟩, fun h1 h2 p k => k _ p⟩
theorem objO_at {P : Program} {w : World} {H : Hp} {h : Heap} {a : Addr} {o : Obj} (hok : HOk P w H h) (e : H a = some (objO a o)) : h.get? a = some o := by
  have x : ObjOk P w H h a (.ext fun h => h.get? a = some o) := hok a _ e
  exact x.1
theorem objO_ne {a : Addr} {o : Obj} {u : HO} (h : ∀ φ, u ≠ .ext φ) : objO a o ≠ u := fun z => h _ z.symm
section
variable {P : Program} {w : World} {H H' : Hp} {h h' : Heap} {cs : List Addr}
theorem hok_minus (hok : HOk P w H h) (C : Cel H cs) : HOk P w (minus H cs) h := fun b o e => by
  by_cases hb : b ∈ cs
  · rw [minus_in hb] at e; cases e
  · rw [minus_out hb] at e
    refine (hok b o e).stay (fun _ _ _ q => q) (fun c hc => ?_) (fun c xs hc => ?_)
    · rw [minus_out (fun z => ?_)]; exact hc
      obtain ⟨o', q⟩ := C c z
      rw [q] at hc
      exact objO_ne (fun φ z => by cases z) (Option.some.inj hc)
    · rw [minus_out (fun z => ?_)]; exact hc
      obtain ⟨o', q⟩ := C c z
      rw [q] at hc
      exact objO_ne (fun φ z => by cases z) (Option.some.inj hc)
theorem hok_plus (hok : HOk P w H' h') (C : ∀ c ∈ cs, ∃ o, H c = some (objO c o) ∧ h'.get? c = some o) (n : ∀ c ∈ cs, H' c = none) : HOk P w (plus H cs H') h' := fun b o e => by
  by_cases hb : b ∈ cs
  · rw [plus_in hb] at e
    obtain ⟨o', q1, q2⟩ := C b hb
    rw [q1] at e
    cases e
    exact objO_ok q2
  · rw [plus_out hb] at e
    refine (hok b o e).stay (fun _ _ _ q => q) (fun c hc => ?_) (fun c xs hc => ?_)
    · rw [plus_out (fun z => by rw [n c z] at hc; cases hc)]; exact hc
    · rw [plus_out (fun z => by rw [n c z] at hc; cases hc)]; exact hc
theorem cel_ne {c : Addr} {u : HO} (C : Cel H cs) (h : ∀ φ, u ≠ .ext φ) (e : H c = some u) : c ∉ cs := fun z => by
  obtain ⟨o', q⟩ := C c z
  rw [q] at e
  exact objO_ne h (Option.some.inj e)
/-- a call's end, told without the cells, with them -/
theorem ce_plus {outer : List PySem.Env} {s s' : Shared} {Q : VK} {u : Value} (C : Cel H cs) (hok : HOk P w H s.heap) (frf : ∀ b ∈ frs outer, H b = none) (h : CE outer P w (minus H cs) s (Qm Q H cs) u s') : CE outer P w H s Q u s' := by
  obtain ⟨v, H', os, bare, un, hk, r, q⟩ := h
  have hc : ∀ c ∈ cs, ∃ o, H c = some (objO c o) ∧ s.heap.get? c = some o := fun c z => by
    obtain ⟨o, e⟩ := C c z
    exact ⟨o, e, objO_at hok e⟩
  have nf : ∀ c ∈ cs, c ∉ frs outer := fun c z y => by
    obtain ⟨o, e⟩ := C c z
    rw [frf c y] at e
    cases e
  have hn : ∀ c ∈ cs, H' c = none := fun c z => by
    obtain ⟨o, _, e⟩ := hc c z
    exact un.free c o e (minus_in z) (by simp)
  have hc2 : ∀ c ∈ cs, ∃ o, H c = some (objO c o) ∧ s'.heap.get? c = some o := fun c z => by
    obtain ⟨o, e1, e⟩ := hc c z
    exact ⟨o, e1, un.keep c o e (minus_in z) (nf c z) (by simp)⟩
  have mn : ∀ b, H b = none → minus H cs b = none := fun b e => by
    by_cases hb : b ∈ cs
    · exact minus_in hb
    · rw [minus_out hb]; exact e
  refine ⟨v, plus H cs H', os, bare, ?_, hok_plus hk hc2 hn, r, q hn⟩
  exact {
    keep := fun b o e n hf hx => un.keep b o e (mn b n) hf hx
    slot := fun b o e n hf hx => un.slot b o e (mn b n) hf hx
    free := fun b o e n hx => by
      have hb : b ∉ cs := fun z => by
        obtain ⟨o, q⟩ := C b z
        rw [q] at n; cases n
      rw [plus_out hb]
      exact un.free b o e (mn b n) hx
    there := un.there
    tups := fun b xs e => by
      have hb := cel_ne C (fun φ z => by cases z) e
      rw [plus_out hb]
      exact un.tups b xs (by rw [minus_out hb]; exact e)
    frzs := fun b o u e => by
      have hb := cel_ne C (fun φ z => by cases z) e
      rw [plus_out hb]
      exact un.frzs b o u (by rw [minus_out hb]; exact e)
    tbls := fun b ps e => by
      have hb := cel_ne C (fun φ z => by cases z) e
      rw [plus_out hb]
      exact un.tbls b ps (by rw [minus_out hb]; exact e) }
theorem cx_plus {outer : List PySem.Env} {s s' : Shared} {E : XK} {u : Value} (C : Cel H cs) (hok : HOk P w H s.heap) (frf : ∀ b ∈ frs outer, H b = none) (h : L2.CX P w outer (minus H cs) s (Em E H cs) u s') : L2.CX P w outer H s E u s' := by
  obtain ⟨a, B, H', cls, d, e1, fl, hk, ub, na, os, ag, q⟩ := h
  have hc : ∀ c ∈ cs, ∃ o, H c = some (objO c o) ∧ s.heap.get? c = some o := fun c z => by
    obtain ⟨o, e⟩ := C c z
    exact ⟨o, e, objO_at hok e⟩
  have nf : ∀ c ∈ cs, c ∉ frs outer := fun c z y => by
    obtain ⟨o, e⟩ := C c z
    rw [frf c y] at e
    cases e
  have hn : ∀ c ∈ cs, H' c = none := fun c z => by
    obtain ⟨o, _, e⟩ := hc c z
    exact ub.free c o e (minus_in z)
  have hc2 : ∀ c ∈ cs, ∃ o, H c = some (objO c o) ∧ B.get? c = some o := fun c z => by
    obtain ⟨o, e1, e⟩ := hc c z
    exact ⟨o, e1, ub.keep c o e (minus_in z) (nf c z)⟩
  have mn : ∀ b, H b = none → minus H cs b = none := fun b e => by
    by_cases hb : b ∈ cs
    · exact minus_in hb
    · rw [minus_out hb]; exact e
  have hq : E cls d (plus H cs H') := by
    rcases q with ⟨q, _⟩ | ⟨_, q⟩
    · rw [q] at hk
      exact (badH_no hk).elim
    · exact q hn
  refine ⟨a, B, plus H cs H', cls, d, e1, fl, hok_plus hk hc2 hn, ?_, ?_, os, ag, hq⟩
  · exact {
      keep := fun b o e n hf => ub.keep b o e (mn b n) hf
      slot := ub.slot
      free := fun b o e n => by
        have hb : b ∉ cs := fun z => by
          obtain ⟨o, q⟩ := C b z
          rw [q] at n; cases n
        rw [plus_out hb]
        exact ub.free b o e (mn b n)
      there := ub.there
      tups := fun b xs e => by
        have hb := cel_ne C (fun φ z => by cases z) e
        rw [plus_out hb]
        exact ub.tups b xs (by rw [minus_out hb]; exact e)
      frzs := fun b o u e => by
        have hb := cel_ne C (fun φ z => by cases z) e
        rw [plus_out hb]
        exact ub.frzs b o u (by rw [minus_out hb]; exact e)
      tbls := fun b ps e => by
        have hb := cel_ne C (fun φ z => by cases z) e
        rw [plus_out hb]
        exact ub.tbls b ps (by rw [minus_out hb]; exact e) }
  · have hb : a ∉ cs := fun z => by
      obtain ⟨o, q1, q2⟩ := hc2 a z
      have y := fl.2.1
      rw [q2] at y
      cases y
    rw [plus_out hb]
    exact na
end
end PV
end
section
set_option Elab.async false
set_option linter.all false
set_option maxRecDepth 100000
set_option maxHeartbeats 1000000
/-! PV12: the run of a lambda that calls a global def with captured names and constants. -/
namespace PV
open PySem PySem.Spec PyProof.Rows L2
def nmE : Expr → Str
  | .Name y _ => y
  | _ => ""
def sgE : List Expr → List V → List (Option V)
  | .Name _ _ :: es, v :: vs => some v :: sgE es vs
  | _ :: es, _ :: vs => none :: sgE es vs
  | _, _ => []
def lamC (P : Program) (w : World) (K : PySem.W.Frag) (mg : Str → Option Value) (base : Heap) (N : List Str) (A : Around) (outer : List PySem.Env) (s : Shared) (H : Hp) (E : XK) (q : Str) (scope : Scope) (cells : List (Str × Addr)) (f c' : Addr) : Cx where
  prog := P
  w := w
  K := K
  mg := mg
  base := base
  A := A.deeper (PySem.W.envX q scope s.heap.objs.size f (.ref c') cells)
  N := N
  s_0 := s
  H_0 := H
  env := PySem.W.envX q scope s.heap.objs.size f (.ref c') cells
  outer := outer
  stack := PySem.W.envX q scope s.heap.objs.size f (.ref c') cells :: outer
  ex := []
  fn := fun _ => false
  calm := true
  pn := []
  xe := fun e s' => wpAny (model P w) (A.deeper (PySem.W.envX q scope s.heap.objs.size f (.ref c') cells)) (leaving (PySem.W.envX q scope s.heap.objs.size f (.ref c') cells) e) (fun _ s'' => L2.CX P w outer H s E e s'') (fun e' s'' => L2.CX P w outer H s E e' s'') s'
theorem args_pa {Z : Cx} {H0 : Hp} {cells : List (Str × Addr)} : ∀ (es : List Expr) (vs : List V), ArgsAt H0 Z.env.scope cells es vs → ∀ (pre : List Str) (preσ : List (Option V)), pre.length = preσ.length → Z.N = pre ++ es.map nmE →
    ∃ t, PA Z es t ∧ ∀ (H : Hp) (Q : List V → Hp → Prop), Q vs H → t (preσ ++ sgE es vs) H Q
  | [], vs, h, pre, preσ, hl, hN => by
    have h' : vs = [] := h
    subst h'
    exact ⟨tNil, pa_nil, fun H Q q => q⟩
  | e :: es, vs, h, pre, preσ, hl, hN => by
    obtain ⟨v, r, rfl, ha, hr⟩ := h
    have hN2 : Z.N = (pre ++ [nmE e]) ++ es.map nmE := by rw [hN]; simp
    rcases ha with ⟨y, p, c, o, u, rfl, h2, h3, h4, h5, h6, h7, h8⟩ | ⟨j, p, rfl, rfl⟩ | ⟨i, j, p, rfl, rfl⟩
    · obtain ⟨t, h9, h10⟩ := args_pa es r hr (pre ++ [y]) (preσ ++ [some v]) (by simp [hl]) hN2
      refine ⟨_, pa_cons (pe_var (i := pre.length) (x := y) (by rw [hN]; simp [nmE]) (.inr (.inr h2)) h7 h8) h9 rfl, fun H Q q => ⟨v, ?_, ?_⟩⟩
      · rw [hl]; simp [sgE]
      · have := h10 H (fun xs H2 => Q (v :: xs) H2) q
        simpa [sgE] using this
    · obtain ⟨t, h9, h10⟩ := args_pa es r hr (pre ++ [("" : Str)]) (preσ ++ [none]) (by simp [hl]) hN2
      refine ⟨_, pa_cons pe_non h9 rfl, fun H Q q => ?_⟩
      have := h10 H (fun xs H2 => Q (V.non :: xs) H2) q
      simpa [sgE, tC, tCons] using this
    · obtain ⟨t, h9, h10⟩ := args_pa es r hr (pre ++ [("" : Str)]) (preσ ++ [none]) (by simp [hl]) hN2
      refine ⟨_, pa_cons pe_int h9 rfl, fun H Q q => ?_⟩
      have := h10 H (fun xs H2 => Q (V.int i :: xs) H2) q
      simpa [sgE, tC, tCons] using this
/-- what stands at the names -/
theorem args_at {H0 : Hp} {scope : Scope} {cells : List (Str × Addr)} : ∀ (es : List Expr) (vs : List V), ArgsAt H0 scope cells es vs → (es.map nmE).length = (sgE es vs).length ∧ ∀ (i : Nat) (y : Str) (v : V), (es.map nmE)[i]? = some y → (sgE es vs)[i]? = some (some v) →
    scope.names.lookup y = some .free ∧ ∃ c o u, cells.lookup y = some c ∧ H0 c = some (objO c o) ∧ o.data = .cell (some u) ∧ RelV v u
  | [], vs, h => by
    have h' : vs = [] := h
    subst h'
    exact ⟨rfl, fun i y v e _ => by simp at e⟩
  | e :: es, vs, h => by
    obtain ⟨v, r, rfl, ha, hr⟩ := h
    obtain ⟨k1, k2⟩ := args_at es r hr
    rcases ha with ⟨y, p, c, o, u, rfl, h2, h3, h4, h5, h6, _⟩ | ⟨j, p, rfl, rfl⟩ | ⟨i, j, p, rfl, rfl⟩
    · refine ⟨by simp [sgE, ← k1], fun i z x e1 e2 => ?_⟩
      cases i with
      | zero =>
        simp [nmE, sgE] at e1 e2
        subst e1 e2
        exact ⟨h2, c, o, u, h3, h4, h5, h6⟩
      | succ i => exact k2 i z x (by simpa using e1) (by simpa [sgE] using e2)
    · refine ⟨by simp [sgE, ← k1], fun i z x e1 e2 => ?_⟩
      cases i with
      | zero => simp [sgE] at e2
      | succ i => exact k2 i z x (by simpa using e1) (by simpa [sgE] using e2)
    · refine ⟨by simp [sgE, ← k1], fun i z x e1 e2 => ?_⟩
      cases i with
      | zero => simp [sgE] at e2
      | succ i => exact k2 i z x (by simpa using e1) (by simpa [sgE] using e2)
theorem lookup_val {α : Type} : ∀ {l : List (Str × α)} {y : Str} {c : α}, l.lookup y = some c → c ∈ l.map (·.2)
  | [], y, c, h => by simp at h
  | (z, d) :: l, y, c, h => by
    simp only [List.lookup] at h
    split at h
    · cases h; simp
    · exact List.mem_cons_of_mem _ (lookup_val h)
section
variable {P : Program} {w : World} {K : PySem.W.Frag} {mg : Str → Option Value} {base : Heap} {A : Around} {outer : List PySem.Env} {s : Shared} {H HZ : Hp} {E : XK} {q : Str} {scope : Scope} {cells : List (Str × Addr)} {f c' : Addr} {es : List Expr} {vs : List V}
/-- the addresses of the cells that are told -/
theorem lam_inv {cs : List Addr} {h₁ : Heap} {tk : Nat} (e0 : Env0 P w K mg base A outer s H) (hd : A.handled = none) (C : Cel H cs) (hcs : ∀ y c, cells.lookup y = some c → c ∈ cs) (hk : scope.kind = .function) (hinj : ∀ y z c, cells.lookup y = some c → cells.lookup z = some c → y = z)
    (hown : ∀ y ∈ scope.names, y.2 ≠ .local ∧ y.2 ≠ .cell) (hfree : ∀ y, scope.names.lookup y = some .free → ∃ c, cells.lookup y = some c) (hcell : ∀ y c, cells.lookup y = some c → ∃ o u, H c = some (objO c o) ∧ o.data = .cell u) (ha : ArgsAt H scope cells es vs)
    (hns : h₁.Ns s.heap.objs.size fun y => ([] : List (Str × Value)).reverse.lookup y) (kp : ∀ b o, s.heap.get? b = some o → h₁.get? b = some o) :
    Inv (lamC P w K mg base (es.map nmE) A outer s (minus H cs) E q scope cells f c') [] (sgE es vs) (minus H cs) { s with heap := h₁, toks := tk } := by
  have noA : ∀ b : Addr, b ∉ (lamC P w K mg base (es.map nmE) A outer s (minus H cs) E q scope cells f c').ex := fun b z => absurd (show b ∈ ([] : List Addr) from z) (by simp)
  have hm : HOk P w (minus H cs) s.heap := hok_minus e0.hok C
  have mn : ∀ b, H b = none → minus H cs b = none := fun b e => by
    by_cases hb : b ∈ cs
    · exact minus_in hb
    · rw [minus_out hb]; exact e
  have cellK : ∀ {c : Addr} {o : Obj}, H c = some (objO c o) → h₁.get? c = some o := fun e => kp _ _ (objO_at e0.hok e)
  refine ⟨⟨e0.mod, hk, rfl, rfl, Nat.le_refl _, hinj, fun y hy => ?_, fun y c z _ => ?_, fun _ => hd, Around.frames_deeper e0.frames, .inr ⟨rfl, rfl⟩, fun b z => absurd z (noA b), fun b o e => ⟨(e0.bs b o e).1, mn b (e0.bs b o e).2⟩, e0.bsz, fun b _ _ => noA b,
      fun b z => absurd z (noA b), e0.funs, fun b z => mn b (e0.frf b z)⟩,
    rfl, e0.bare, Un.kept kp, ⟨_, hns, fun i y v e1 e2 e3 => ?_⟩, fun y c e => ?_, hm.fresh (Nat.le_refl _), fun y c e => minus_in (hcs y c e), fun q hq => absurd (show q ∈ ([] : List (Addr × Obj)) ++ [] from hq) (by simp), hm.kept kp, (args_at es vs ha).1.symm⟩
  · have hy : scope.names.lookup y = some .cell ∨ scope.names.lookup y = some .free := hy
    rcases hy with hy | hy
    · exact absurd rfl (hown _ (PySem.mem_of_lookup hy)).2
    · exact hfree y hy
  · have z : false = true := z
    cases z
  · obtain ⟨k1, c, o, u, k2, k3, k4, k5⟩ := (args_at es vs ha).2 i y v e1 e2
    exact ⟨u, k5, .inr ⟨.inr k1, c, k2, o, cellK k3, k4⟩⟩
  · obtain ⟨o, u, k1, k2⟩ := hcell y c e
    exact ⟨u, o, cellK k1, k2⟩
/-- the lambda at f is called -/
theorem lam_run {k : Nat} {x : Str} {fd : FuncData} {ps : List Str} {sp : Sp} {Q : VK} (F : FnG P w K mg base (L2.CX P w) k (He.ga K x) fd ps sp) (hb : Binds K fd ps []) (hm : mg x = some (.ref (He.ga K x))) (hkp : PySem.W.keepIn K (.ref (He.ga K x)) = true)
    (hr : RoomG (k + 1) A) (e0 : Env0 P w K mg base A outer s H) (L : LamAt H f x vs) (hsp : ∀ cs, Cel H cs → sp vs (minus H cs) (Qm Q H cs) (Em E H cs)) :
    codeAny (model P w) A (.call (.ref f) ⟨[], []⟩) (CR (L2.CX P w) outer P w H s Q E) s := by
  obtain ⟨q, params, scope, cells, pm, ctv, c', es, px, p, l1, l2, l3, l4, l5, l6, l7, l8, l9, l10, l11, l12, l13, l14⟩ := L
  have C : Cel H (cells.map (·.2)) := fun c hc => by
    obtain ⟨y, hy, rfl⟩ := List.mem_map.mp hc
    obtain ⟨o, u, e, _⟩ := l10 y hy
    exact ⟨o, e⟩
  have hcs : ∀ y c, cells.lookup y = some c → c ∈ cells.map (·.2) := fun y c e => lookup_val e
  have of1 := objO_at e0.hok l1
  have code : ∃ (oc : Obj) (vs : Array Value) (t : Tok), s.heap.get? c' = some oc ∧ oc.data = .fields vs ∧ vs[1]? = some (.str q t) := by
    have y : ObjOk P w H s.heap c' (.ext fun h => ∃ (oc : Obj) (vs : Array Value) (t : Tok), h.get? c' = some oc ∧ oc.data = .fields vs ∧ vs[1]? = some (.str q t)) := e0.hok c' _ l2
    exact y.1
  obtain ⟨oc, cvs, t, hoc, hdc, hvc⟩ := code
  have lim : s.heap.NoLimit := e0.mod.nolimit.keeps fun b o e => (e0.bs b o e).1
  have conv : ∀ r s', CR (L2.CX P w) outer P w (minus H (cells.map (·.2))) s (Qm Q H (cells.map (·.2))) (Em E H (cells.map (·.2))) r s' → CR (L2.CX P w) outer P w H s Q E r s' := fun r s' h => by
    cases r with
    | error e => exact cx_plus C e0.hok e0.frf h
    | ok fl =>
      cases fl with
      | ret u => exact ce_plus C e0.hok e0.frf h
      | next => exact h
      | brk => exact h
      | cont => exact h
  refine codeAny_mono ?_ conv
  refine PySem.W.kla_callFunE hr.rm.depth of1 rfl l4 l5 rfl ⟨c', oc, cvs, t, rfl, hoc, hdc, hvc⟩ ?_
  rw [l13]
  refine wpAny_pure (wpAny_newFunctionEnv (fun y hy => (l6 y hy).2) (fun y hy => absurd hy (by simp)) (fun h₁ hns hsb => ⟨lim.fresh _ hsb, ?_⟩) l3)
  have kp : ∀ b o, s.heap.get? b = some o → h₁.get? b = some o := fun b o e => hsb.extBut b o (Nat.ne_of_lt (Heap.lt_size e)) (Heap.get?_push_of_some _ e)
  have J := lam_inv (E := Em E H (cells.map (·.2))) (q := q) (f := f) (c' := c') (tk := s.toks + ([] : List (Str × Value)).length) e0 hr.rm.hd C hcs l3 l11 l6 l12 (fun y c e => l10 _ (PySem.mem_of_lookup e)) l14 hns kp
  show codeAny _ _ (.expr (.Call (.Name x px) es [] p) (PySem.W.envX q scope s.heap.objs.size f (.ref c') cells)) _ _
  obtain ⟨t, ht, hq⟩ := args_pa (Z := lamC P w K mg base (es.map nmE) A outer s (minus H (cells.map (·.2))) (Em E H (cells.map (·.2))) q scope cells f c') es vs l14 [] [] rfl rfl
  cases es with
  | nil => exact absurd rfl l9
  | cons e es =>
    have he : ∀ env, starEach (e :: es) env = (false, eval e env) :: starEach es env := fun env => by
      obtain ⟨v, r, _, h2, _⟩ := l14
      rcases h2 with ⟨y, p, c, o, u, rfl, _⟩ | ⟨j, p, rfl, _⟩ | ⟨i, j, p, rfl, _⟩ <;> rfl
    have hpl : ∀ (es : List Expr) (vs : List V) (env : PySem.Env), ArgsAt H scope cells es vs → (backTo p (starEach es env)).any (·.1) = false := by
      intro es
      induction es with
      | nil => intro vs env _; rfl
      | cons e es ih =>
        intro vs env h
        obtain ⟨v, r, rfl, h2, h3⟩ := h
        have := ih r env h3
        rcases h2 with ⟨y, p, c, o, u, rfl, _⟩ | ⟨j, p, rfl, _⟩ | ⟨i, j, p, rfl, _⟩ <;> exact this
    have hp2 : (backTo p (starEach es (lamC P w K mg base ((e :: es).map nmE) A outer s (minus H (cells.map (·.2))) (Em E H (cells.map (·.2))) q scope cells f c').env)).any (·.1) = false := by
      obtain ⟨v, r, _, _, h3⟩ := l14
      exact hpl es r _ h3
    have pe := pe_callG (X := lamC P w K mg base ((e :: es).map nmE) A outer s (minus H (cells.map (·.2))) (Em E H (cells.map (·.2))) q scope cells f c') (p := px) (pos := p) F (hr.deeper _) (show _ from l7) hm hkp hb .nil (passes_call (takes_of rfl rfl rfl rfl) fun _ _ _ _ h => h) ht l8 (he _) hp2
    refine PySem.W.kla_codeExpr (wpAny_mono (pe.run [] _ _ _ (Qm Q H (cells.map (·.2))) J (hq _ _ ?_)) (fun v s' hq => ?_) fun e s' hq => hq)
    · show sp (vs ++ []) _ _ _
      rw [List.append_nil]
      exact hsp _ C
    · obtain ⟨w', H', J', rv, q⟩ := hq
      exact ⟨w', H', J'.os, J'.bare, J'.base, J'.hok, rv, q⟩
end
end PV
end
section
set_option Elab.async false
set_option linter.all false
set_option maxRecDepth 100000
set_option maxHeartbeats 2000000
/-! PV13: try: x() except C as n: y = n, the exception held behind the try. -/
namespace PV
open PySem PySem.Spec PyProof.Rows L2
theorem exK_ok {P : Program} {w : World} {H : Hp} {h : Heap} {a C dx : Addr} {o : Obj} {vs : Array Value} (e : h.get? a = some o) (z : Zc (.ref C) (some dx) o) (d : o.data = .fields vs) : ObjOk P w H h a (exK a C dx) :=
  ⟨⟨o, vs, e, z.1, z.2, d⟩, ⟨o, e⟩, fun h1 h2 ⟨o, vs, e, r⟩ k => ⟨o, vs, k _ e, r⟩⟩
section
variable {X : Cx} {pins : List (Addr × Obj)} {σ σ' : L2.St} {H H' : Hp} {s sI : Shared}
/-- the exception at a, pinned in the suite, is told from now on -/
theorem Inv.held {a C dx : Addr} {oe : Obj} {vs : Array Value} {pn' : List (Addr × Obj)} (I : Inv (X.suite a ((a, oe) :: (X.pn ++ pins))) pn' σ H s) (ok : X.Ok) (hz : Zc (.ref C) (some dx) oe) (hd : oe.data = .fields vs) (J : Inv X pins σ' H' sI) (hf : sI.heap.get? a = none) :
    Inv X pins σ (upd H a (exK a C dx)) s := by
  obtain ⟨ha, na, nL, nF, nc⟩ := I.pin (a, oe) (List.mem_append_left _ List.mem_cons_self)
  have I2 : Inv X pins σ H s := I.unsuite ok
  have n0 : ∀ b o, X.s_0.heap.get? b = some o → b ∉ X.ex → b ≠ a := fun b o e hx z => by
    obtain ⟨o', q⟩ := J.base.there b o e hx
    rw [z, hf] at q
    cases q
  refine ⟨I2.ok, I2.os, I2.bare, ⟨I2.base.keep, I2.base.slot, fun b o e n hx => ?_, I2.base.there, fun b xs e => ?_, fun b o u e => ?_, fun b ps e => ?_⟩, I2.loc, I2.cell, ?_, fun y c e => ?_, fun p hp => ?_, fun b o e => ?_, I2.len⟩
  · rw [upd_ne (n0 b o e hx)]; exact I2.base.free b o e n hx
  · have y := I2.base.tups b xs e
    rw [upd_ne (ne_of_none y na)]; exact y
  · have y := I2.base.frzs b o u e
    rw [upd_ne (ne_of_none y na)]; exact y
  · obtain ⟨more, y⟩ := I2.base.tbls b ps e
    exact ⟨more, by rw [upd_ne (ne_of_none y na)]; exact y⟩
  · rw [upd_ne (Ne.symm nL)]; exact I2.free
  · have y := I2.freeC y c e
    obtain ⟨v, o, q1, q2⟩ := I2.cell _ c e
    rw [upd_ne (fun z => nc v (by
      have q1' : s.heap.get? a = some o := z ▸ q1
      rw [ha] at q1'
      cases q1'
      exact q2))]
    exact y
  · obtain ⟨k1, k2, k3, k4, k5⟩ := I2.pin p hp
    refine ⟨k1, ?_, k3, k4, k5⟩
    rw [upd_ne (fun z => by
      have y := (J.pin p hp).1
      rw [z, hf] at y
      cases y)]
    exact k2
  · by_cases hb : b = a
    · subst hb
      rw [upd_same] at e
      cases e
      exact exK_ok ha hz hd
    · rw [upd_ne hb] at e
      refine (I2.hok b o e).stay (fun _ _ _ q => q) (fun c hc => ?_) fun c xs hc => ?_
      · rw [upd_ne (ne_of_none hc na)]; exact hc
      · rw [upd_ne (ne_of_none hc na)]; exact hc
end
/-- try: x() except C as n: y = n; ia, iy, ie: the places of x, y, n -/
def tTC (X : Cx) (DE : Addr) (ia iy ie : Nat) : TS := fun D σ H => ∃ (f : Addr) (x : Str) (vs : List V) (k : Nat) (fd : FuncData) (ps : List Str) (sp : Sp), σ[ia]? = some (some (.ref f)) ∧ LamAt H f x vs ∧
  FnG X.prog X.w X.K X.mg X.base (L2.CX X.prog X.w) k (He.ga X.K x) fd ps sp ∧ Binds X.K fd ps [] ∧ X.mg x = some (.ref (He.ga X.K x)) ∧ PySem.W.keepIn X.K (.ref (He.ga X.K x)) = true ∧ RoomG (k + 1) X.A ∧
  ∃ E : XK, (∀ cls d H1, E cls d H1 → H1 ≠ badH → ∃ C dx, cls = .ref C ∧ d = some dx ∧ PySem.W.exmOne X.K (.ref C) (.ref DE) = some true ∧ ∀ a, H1 a = none → D.nx ((σ.set iy (some (.ref a))).set ie none) (upd H1 a (exK a C dx))) ∧
    ∀ cs, Cel H cs → sp vs (minus H cs) (Qm (fun _ H1 => D.nx σ H1) H cs) (Em E H cs)
section
variable {X : Cx} {a n y c : Str} {DE : Addr} {ia iy ie : Nat} {p1 p2 p3 p5 p6 p7 np pos pos' : Pos}
theorem ps_tryc (hs : X.stack = X.env :: X.outer) (hf : X.env.frame = some X.env.locals) (hN : X.N.Nodup) (hi : X.N[ie]? = some n) (hln : X.env.kindOf n = some .local) (hiy : X.N[iy]? = some y) (hly : X.env.kindOf y = some .local) (hia : X.N[ia]? = some a) (hla : X.env.kindOf a = some .local)
    (hc : Names X c (.ref DE)) (hna : (a == ("__debug__" : Str)) = false) (hna2 : (a == ("__classdict__" : Str)) = false) (hnn : (n == ("__debug__" : Str)) = false) (hnn2 : (n == ("__classdict__" : Str)) = false) (hne : ie ≠ iy)
    (hsw : swapsWith (.Call (.Name a p1) [] [] p2) none p3.line X.env = pure false) (hsw2 : swapsWith (.Name n p6) (some (.Name y p5)) p7.line X.env = pure false) :
    PS X (.Try [.Expr (.Call (.Name a p1) [] [] p2) p3] [.ExceptHandler (some (.Name c np)) (some n) [.Assign [.Name y p5] (.Name n p6) p7] pos'] [] [] pos) (tTC X DE ia iy ie) := by
  refine ⟨fun pins s σ H D I h => ?_⟩
  obtain ⟨f, x, vs, k, fd, ps, sp, ha, L, F, hb, hm, hkp, hr, E, hE, hsp⟩ := h
  have ok := I.ok
  have hfr : X.A.frames = some (X.env :: X.outer) := by rw [ok.frames, hs]
  have L' := L
  obtain ⟨q0, params, lsc, cells, pm, ctv, c', es, px, lp, l1, _⟩ := L'
  refine wpAny_Try_except ?_
  generalize hXE : (fun (e : Value) (s₁ : Shared) => wpAny (model X.prog X.w) X.A (noteFrame e X.env) (fun _ s₂ => wpAny (model X.prog X.w) X.A (setFlight e none) (fun _ s₃ =>
    wpAny (model X.prog X.w) X.A (handleBy e X.env [.ExceptHandler (some (.Name c np)) (some n) [.Assign [.Name y p5] (.Name n p6) p7] pos']) (SP X pins D) X.xe s₃) X.xe s₂) X.xe s₁) = XE'
  have J0 := I.toTry XE'
  refine wpAny_execs_cons (wpAny_Expr_any ?_ I.quiet hsw)
  refine wpAny_Call_Name_kw (thn ((pe_var (X := X.tr (X.pn ++ pins) XE') (pos := p1) (i := ia) hia (.inl hla) hna hna2).run [] s σ H (fun v H1 => v = .ref f ∧ H1 = H) J0 ⟨.ref f, ha, rfl, rfl⟩) fun u s1 ⟨v, H1, I1, r1, q1⟩ => ?_)
  obtain ⟨ev, eH⟩ := q1
  subst ev
  rw [eH] at I1
  obtain rfl : u = Value.ref f := r1
  refine PySem.W.callWith_F0 ⟨_, _, _, _, objO_at I1.hok l1⟩ ?_
  refine wpAny_call (codeAny_mono (lam_run (E := E) (Q := fun _ H1 => D.nx σ H1) F hb hm hkp hr I1.env0 L hsp) fun r s2 hq => ?_)
  cases r with
  | ok fl =>
    cases fl with
    | ret u =>
      obtain ⟨v, H2, J2, _, q2⟩ := I1.after hq
      exact wpAny_execs_nil (wpAny_execs_nil ⟨σ, H2, J2.ofTry ok, q2⟩)
    | next => exact False.elim hq
    | brk => exact False.elim hq
    | cont => exact False.elim hq
  | error e =>
    have xx := XE.of_call (W := fun cls d σ' H' => σ' = σ ∧ E cls d H') I1 (fun cls d H' h => ⟨rfl, h⟩) hq
    obtain ⟨b, B, sI, pins', σ', H', cls, d, rfl, J', nb, up, sky, na, os, ag, eσ, hEc⟩ := xx
    subst eσ
    have J : Inv X pins σ' H' sI := J'.ofTry ok
    have nbad : H' ≠ badH := fun z => badH_no (z ▸ J.hok)
    obtain ⟨C, dx, rfl, rfl, hex, hnx⟩ := hE cls d H' hEc nbad
    have sky' : Sky B (X.env :: X.outer) b (Zc (.ref C) (some dx)) X.env.locals s2.heap := by rw [← hs]; exact sky
    rw [← hXE]
    show wpAny (model X.prog X.w) X.A (noteFrame (.ref b) X.env) _ _ _
    refine Sky.land Zc.steady hfr hf sky' fun h3 fl3 up3 => ?_
    have J3 : Inv X pins σ' H' { s2 with heap := h3 } := J.landed nb fl3.1 (up.trans up3) os ag
    obtain ⟨oe3, vs3, he3, hz3, hd3⟩ := fl3.there
    have notFr : ∀ {h : Heap} {o : Obj} {vs : Array Value}, h.FunFrames B (X.env :: X.outer) → h.get? b = some o → o.data = .fields vs → b ∉ frs (X.env :: X.outer) := fun {h o vs} ff e dd hm => by
      obtain ⟨_, o', e', hnf⟩ := ff.mem hm
      rw [e] at e'; cases e'
      exact hnf _ dd
    have nfr := notFr fl3.2.2.1 he3 hd3
    have hfresh : sI.heap.get? b = none := by
      cases z : sI.heap.get? b with
      | none => rfl
      | some o =>
        have y := nb b o z (by show b ∉ frs X.stack; rw [hs]; exact nfr)
        rw [fl3.2.1] at y
        cases y
    have nL : b ≠ X.env.locals := fun z => nfr (List.mem_filterMap.mpr ⟨X.env, List.mem_cons_self, by rw [hf, z]⟩)
    have nF : b ∉ X.fs := fun hm => by
      obtain ⟨e, he, q⟩ := List.mem_filterMap.mp hm
      exact nfr (List.mem_filterMap.mpr ⟨e, List.mem_cons_of_mem _ he, q⟩)
    have S3 := J3.suite he3 hd3 na nL nF
    refine wpAny_handleBy_cons (codeAny_handlers_test ?_) (by intro q; cases q)
    have LT : PySem.W.Looks (model X.prog X.w) h3 (typeOf (.ref b)) (.ref C) := fun A Q E s k q => wpAny_typeOf_ref (k _ _ he3) (by rw [hz3.1]; exact q)
    have LM := PySem.W.exm_one (M := model X.prog X.w) (J3.kIn) LT hex
    have test : ∀ {Q : Value → Shared → Prop} {E : Value → Shared → Prop}, Q (.ref DE) { s2 with heap := h3 } → wpAny (model X.prog X.w) (X.A.mark (some (.ref b))) (eval (.Name c np) X.env) Q E { s2 with heap := h3 } := fun {Q E} q => by
      obtain ⟨hg, hdbg, hm | ⟨hm, hv, hnn⟩⟩ := hc
      · exact ld_glob (X := X.suite b ((b, oe3) :: (X.pn ++ pins))) S3 hg hm q hdbg
      · exact ld_blt (X := X.suite b ((b, oe3) :: (X.pn ++ pins))) S3 hg hm hv q hnn hdbg
    refine test (LM.here ?_)
    refine codeAny_handlers_suite_as ?_
    refine HandSPX.lands_againZ fl3 fun h4 fl4 up4 => ?_
    have J4 : Inv X pins σ' H' { s2 with heap := h4 } := J.landed nb fl4.1 ((up.trans up3).trans up4) os ag
    obtain ⟨oe4, vs4, he4, hz4, hd4⟩ := fl4.there
    have S4 := J4.suite he4 hd4 na nL nF
    refine store_ok (X := X.suite b ((b, oe4) :: (X.pn ++ pins))) (v := .ref b) S4 hN hi (.inl hln) rfl (fun s5 S5 => ?_) (.inr hln)
    have hlt : ie < σ'.length := by
      rw [J.len]
      rcases Nat.lt_or_ge ie X.N.length with z | z
      · exact z
      · rw [List.getElem?_eq_none z] at hi; cases hi
    have suite := ps_set (X := X.suite b ((b, oe4) :: (X.pn ++ pins))) (i := iy) (pos' := p5) (pos := p7) hN hiy (.inl hly) (pe_var (X := X.suite b ((b, oe4) :: (X.pn ++ pins))) (pos := p6) (i := ie) hi (.inl hln) hnn hnn2) hsw2 (.inr hly)
    refine wpAny_execs_cons (wpAny_mono (suite.run [] s5 _ H' { nx := fun σ6 H6 => σ6 = (σ'.set ie (some (.ref b))).set iy (some (.ref b)) ∧ H6 = H', rt := fun _ _ => False, bk := fun _ _ => False, ct := fun _ _ => False } S5 ⟨.ref b, by rw [List.getElem?_set_self hlt], rfl, rfl⟩) (fun fl s6 hsp => ?_) (fun _ _ z => False.elim z))
    cases fl with
    | next =>
      obtain ⟨σ6, H6, S6, e6, e7⟩ := hsp
      subst e6 e7
      refine wpAny_execs_nil ?_
      have J7 := PV.Inv.held S6 ok hz4 hd4 J hfresh
      refine gone_ok J7 hN hi hln fun s7 J8 => ⟨_, _, J8, ?_⟩
      have e8 : ((σ'.set ie (some (V.ref b))).set iy (some (V.ref b))).set ie none = (σ'.set iy (some (V.ref b))).set ie none := by
        rw [List.set_comm _ _ hne, List.set_set]
      rw [e8]
      exact hnx b na
    | brk =>
      obtain ⟨_, _, _, z⟩ := hsp
      exact z.elim
    | cont =>
      obtain ⟨_, _, _, z⟩ := hsp
      exact z.elim
    | ret u =>
      obtain ⟨_, _, _, _, _, z⟩ := hsp
      exact z.elim
end
end PV
end
section
set_option Elab.async false
set_option linter.all false
set_option maxRecDepth 100000
set_option maxHeartbeats 1000000
/-! PV14: try over a held lambda, on trees. -/
namespace PV
open PySem PySem.Spec PyProof.Rows L2
mutual
/-- no lambda, no exception within -/
def noBx : D → Bool
  | .lst _ ds => noBxL ds
  | .tup ds => noBxL ds
  | .dic _ ds => noBxL ds
  | .box _ _ => false
  | _ => true
def noBxL : List D → Bool
  | [] => true
  | d :: ds => noBx d && noBxL ds
end
section
variable {K : PySem.W.Frag} {F F' : Addr → Prop} {H H' : Hp} {cs : List Addr}
mutual
theorem Rp.minus (h1 : ∀ a xs, F a → H a = some (.lst xs) → F' a) (h2 : ∀ a o, H a = some o → (∀ φ, o ≠ .ext φ) → H' a = some o) : ∀ (d : D) (v : V) (as : List Addr), noBx d = true → Rp K F H d v as → Rp K F' H' d v as
  | .non, v, as, _, h => h
  | .bl b, v, as, _, h => h
  | .int i, v, as, _, h => h
  | .str x, v, as, _, h => h
  | .lst true ds, v, as, hb, h => by
    obtain ⟨a, vs, bs, e1, e2, e3, e4, r⟩ := h
    exact ⟨a, vs, bs, e1, h2 _ _ e2 (fun φ z => by cases z), e3, e4, RpL.minus h1 h2 ds vs bs (by simpa [noBx] using hb) r⟩
  | .lst false ds, v, as, hb, h => by
    obtain ⟨a, vs, e1, e2, e3, e4, e5, r⟩ := h
    exact ⟨a, vs, e1, h2 _ _ e2 (fun φ z => by cases z), e3, h1 _ _ e4 e2, e5, RpL.minus h1 h2 ds vs [] (by simpa [noBx] using hb) r⟩
  | .tup ds, v, as, hb, h => by
    obtain ⟨a, vs, e1, e2, r⟩ := h
    refine ⟨a, vs, e1, ?_, RpL.minus h1 h2 ds vs as (by simpa [noBx] using hb) r⟩
    rcases e2 with (h | ⟨o, h⟩) | h
    · exact .inl (.inl (h2 _ _ h (fun φ z => by cases z)))
    · exact .inl (.inr ⟨o, h2 _ _ h (fun φ z => by cases z)⟩)
    · exact .inr h
  | .dic ks ds, v, as, hb, h => by
    obtain ⟨a, kvs, e1, e2, e3, e4, r⟩ := h
    exact ⟨a, kvs, e1, h2 _ _ e2 (fun φ z => by cases z), e3, e4, RpL.minus h1 h2 ds _ [] (by simpa [noBx] using hb) r⟩
  | .box k ds, v, as, hb, h => by simp [noBx] at hb
theorem RpL.minus (h1 : ∀ a xs, F a → H a = some (.lst xs) → F' a) (h2 : ∀ a o, H a = some o → (∀ φ, o ≠ .ext φ) → H' a = some o) : ∀ (ds : List D) (vs : List V) (as : List Addr), noBxL ds = true → RpL K F H ds vs as → RpL K F' H' ds vs as
  | [], _, _, _, h => h
  | d :: ds, vs, as, hb, h => by
    obtain ⟨v, r, a1, a2, e1, e2, r1, r2⟩ := h
    obtain ⟨b1, b2⟩ : noBx d = true ∧ noBxL ds = true := by simpa [noBxL] using hb
    exact ⟨v, r, a1, a2, e1, e2, Rp.minus h1 h2 d v a1 b1 r1, RpL.minus h1 h2 ds r a2 b2 r2⟩
end
/-- the promise, told without the cells -/
theorem sp_minus {n : Nat} {f : List D → R D} {vs : List V} {Q : VK} {E : XK} (h : ∃ F ds, ds.length = n ∧ (∀ a, F a → H a ≠ none) ∧ (∀ a, F a ∨ H a = none → Alw E a) ∧ RpL K F H ds vs [] ∧ noBxL ds = true ∧ WE K E F NoA H (f ds) Q) (C : Cel H cs) :
    spF K n f vs (minus H cs) (Qm Q H cs) (Em E H cs) := by
  obtain ⟨F, ds, h1, h2, h3, h4, hb, h5⟩ := h
  have mo : ∀ {b}, b ∉ cs → minus H cs b = H b := fun hb => minus_out hb
  have sm : ∀ {H' : Hp}, Same (minus H cs) H' → Same H (plus H cs H') := fun s b o e => by
    by_cases hb : b ∈ cs
    · rw [plus_in hb]; exact e
    · rw [plus_out hb]; exact s b o (by rw [mo hb]; exact e)
  have ps : ∀ {H' : Hp}, (∀ c ∈ cs, H' c = none) → Same H' (plus H cs H') := fun hn b o e => by
    have hb : b ∉ cs := fun z => by rw [hn b z] at e; cases e
    rw [plus_out hb]; exact e
  have pn : ∀ {H' : Hp} {a : Addr}, H' a ≠ none → (∀ c ∈ cs, H' c = none) → plus H cs H' a ≠ none := fun {H' a} e hn => by
    have hb : a ∉ cs := fun z => e (hn a z)
    rw [plus_out hb]; exact e
  refine ⟨fun a => F a ∧ a ∉ cs, ds, h1, fun a z => by rw [mo z.2]; exact h2 a z.1, fun a z => ?_, RpL.minus (fun a xs z e => ⟨z, cel_ne C (fun φ z => by cases z) e⟩) (fun a o e ne => by rw [mo (cel_ne C ne e)]; exact e) ds vs [] hb h4, ?_⟩
  · by_cases hc : a ∈ cs
    · exact .inr (.inl ⟨rfl, .inl ⟨a, hc, rfl⟩⟩)
    · have y : F a ∨ H a = none := z.imp (fun z => z.1) fun z => by rw [mo hc] at z; exact z
      rcases h3 a y with q | q
      · exact .inr (.inl ⟨rfl, .inr (.inr q)⟩)
      · exact .inr (.inl ⟨rfl, .inr (.inl q)⟩)
  · cases e : f ds with
    | fail => rw [e] at h5; exact h5
    | ok d =>
      rw [e] at h5
      intro v H' s r hn
      refine h5 v _ (sm s) ?_
      obtain ⟨F', as, k1, k2, k3, k4⟩ := r
      have nc : ∀ {a}, H' a ≠ none → a ∉ cs := fun e z => e (hn _ z)
      refine ⟨F', as, fun a z => ⟨?_, pn (k1 a z).2 hn⟩, k2, fun a z => ⟨?_, (k3 a z).2⟩, Rp.mono (fun _ z => z) (same_nlst (ps hn)) d v as (fun a xs _ e => ps hn a _ e) k4⟩
      · rcases (k1 a z).1 with q | q
        · exact .inl q.1
        · rw [mo (nc (k1 a z).2)] at q
          exact .inr q
      · obtain ⟨xs, q⟩ := Rp.own d v as k4 a z
        rcases (k3 a z).1 with y | y
        · rw [mo (nc (by rw [q]; exact fun z => nomatch z))] at y
          exact .inl y
        · exact .inr y
    | ex c d =>
      rw [e] at h5
      have h5 : ECond K E H c d := h5
      intro dx v H' F' hF s hd hx r
      by_cases hbad : H' = badH
      · rw [hbad] at hx
        cases hx
      refine .inr ⟨hbad, fun hn => ?_⟩
      have nc : ∀ {a}, H' a ≠ none → a ∉ cs := fun e z => e (hn _ z)
      have ndx : dx ∉ cs := nc (by rw [hx]; exact fun z => nomatch z)
      refine h5 dx v _ F' (fun a z => ⟨?_, pn (hF a z).2 hn⟩) (sm s) (by rw [mo ndx] at hd; exact hd) (by rw [plus_out ndx]; exact hx) (Rp.mono (fun _ z => z) (same_nlst (ps hn)) d v [] (fun a xs _ e => ps hn a _ e) r)
      have na := nc (hF a z).2
      rcases (hF a z).1 with q | q
      · exact .inl fun c d H2 y => by
          cases cs with
          | cons c0 cs => exact q .none (some c0) badH (.inl ⟨rfl, .inl ⟨c0, List.mem_cons_self, rfl⟩⟩)
          | nil =>
            by_cases hb : H2 = badH
            · subst hb
              exact q c d badH (.inl ⟨rfl, .inr (.inl y)⟩)
            · refine q c d H2 (.inr ⟨hb, fun _ => ?_⟩)
              have e0 : plus H [] H2 = H2 := by
                funext b
                exact plus_out (by simp)
              rw [e0]
              exact y
      · rcases q with ⟨_, q⟩ | ⟨q, _⟩
        · rcases q with ⟨b, hb, e⟩ | q | q
          · cases e; exact absurd hb na
          · exact .inr q
          · exact .inl q
        · exact absurd rfl q
/-- what a held lambda's call comes to -/
def cloR (tb : String → Option (Nat × (List D → R D))) : D → R D
  | .box (.clo x) ds => match tb x with
    | some (n, f) => if (ds.length == n && noBxL ds) = true then f ds else .fail
    | none => .fail
  | _ => .fail
/-- what the table tells is true -/
def Tb (X : Cx) (tb : String → Option (Nat × (List D → R D))) : Prop := ∀ x n f, tb x = some (n, f) → ∃ k ps, n = ps.length ∧ RoomG (k + 1) X.A ∧ Def X.prog X.w X.K X.mg X.base k (Str.ofString x) ps f
def sTC (tb : String → Option (Nat × (List D → R D))) (okc : List String) (ia iy ie : Nat) : Env → Fl := fun ρ => match ρ[ia]? with
  | some (some d) => match cloR tb d with
    | .ok _ => .nx ρ
    | .ex c v => if okc.contains c then .nx ((ρ.set iy (some (.box (.exc c) [v]))).set ie none) else .fail
    | .fail => .fail
  | _ => .fail
theorem Def.kp {P : Program} {w : World} {K : PySem.W.Frag} {mg : Str → Option Value} {base : Heap} {k : Nat} {x : Str} {ps : List Str} {f : List D → R D} (h : Def P w K mg base k x ps f) : PySem.W.keepIn K (.ref (He.ga K x)) = true := by
  obtain ⟨fd, F, hb, _, _, _, fun_⟩ := h.ok
  exact fun_.kp
theorem sns_tryc {X : Cx} {E0 : XK} {DE : Addr} {tb : String → Option (Nat × (List D → R D))} {okc : List String} {ia iy ie : Nat} (T : Tb X tb) (hok : ∀ c ∈ okc, PySem.W.exmOne X.K (.ref (He.ga X.K (Str.ofString c))) (.ref DE) = some true) :
    SndS X.K E0 (tTC X DE ia iy ie) (sTC tb okc ia iy ie) := by
  intro b F O H σ ρ S T' h
  unfold sTC at h
  match e1 : ρ[ia]?, h with
  | none, h => exact h.elim
  | some none, h => exact h.elim
  | some (some d), h =>
    obtain ⟨v, hv, rv⟩ := S.at_ ia d e1
    match d, rv, h with
    | .box (.clo x) ds, rv, h =>
      obtain ⟨f, vs, rfl, L, _, r⟩ := rv
      have h' : WS X.K E0 b (match cloR tb (.box (.clo x) ds) with
        | .ok _ => .nx ρ
        | .ex c v => if okc.contains c then .nx ((ρ.set iy (some (.box (.exc c) [v]))).set ie none) else .fail
        | .fail => .fail) T' := h
      unfold cloR at h'
      cases e2 : tb x with
      | none => simp only [e2] at h'; exact h'.elim
      | some p =>
        obtain ⟨n, fm⟩ := p
        simp only [e2] at h'
        obtain ⟨k, ps, hn, hr, dd⟩ := T x n fm e2
        obtain ⟨fd, FF, hb, _⟩ := dd.ok
        by_cases hc : (ds.length == n && noBxL ds) = true
        · rw [if_pos hc] at h'
          simp only [Bool.and_eq_true, beq_iff_eq] at hc
          refine ⟨f, Str.ofString x, vs, k, fd, ps, spF X.K ps.length fm, hv, L, FF, hb, dd.mg, dd.kp, hr, ?_⟩
          refine ⟨fun cls d H1 => (H1 = badH ∧ ∀ a, d = some a → (F a ∨ H a = none)) ∨ (H1 ≠ badH ∧ ∃ c v dx x F', fm ds = .ex c v ∧ cls = .ref (He.ga X.K (Str.ofString c)) ∧ d = some dx ∧ Same H H1 ∧ H dx = none ∧ H1 dx = some (.xd [(("value" : Str), x)]) ∧ (∀ a, F' a → (F a ∨ H a = none) ∧ H1 a ≠ none) ∧ Rp X.K F' H1 v x []), fun cls d H1 hE hb => ?_, fun cs C => sp_minus ⟨F, ds, hn ▸ hc.1, S.fdom, fun a z => .inr (.inl ⟨rfl, fun a' e => by cases e; exact z⟩), r, hc.2, ?_⟩ C⟩
          · rcases hE with ⟨z, _⟩ | ⟨_, c, v, dx, x', F', e3, e4, e5, s1, hd, hx, hF, rx⟩
            · exact absurd z hb
            · subst e4 e5
              rw [e3] at h'
              by_cases ho : okc.contains c = true
              · simp only [ho, if_true] at h'
                refine ⟨_, dx, rfl, rfl, hok c (by simpa using ho), fun a ha => ?_⟩
                have s2 : Same H (upd H1 a (exK a (He.ga X.K (Str.ofString c)) dx)) := s1.trans (upd_same_ext ha)
                have hda : dx ≠ a := ne_of_none hx ha
                have h'' : ∀ F O H σ, Sd X.K b F O H σ ((ρ.set iy (some (.box (.exc c) [v]))).set ie none) → T'.nx σ H := h'
                refine h'' (fun a => F a ∨ F' a) (fun i => if i = iy ∨ i = ie then [] else O i) _ _ ⟨?_, fun i d e => ?_, fun a z => ?_, fun a z => ?_, fun i => ?_, fun i j hij a z => ?_, fun i a z => ?_, S.same.trans s2, fun a z => .inl (S.sub a z), fun a o z1 z2 => s2 a o (S.keep a o z1 z2)⟩
                · simp [S.len]
                · by_cases hi : i = ie
                  · subst hi
                    by_cases hl : i < (ρ.set iy (some (.box (.exc c) [v]))).length
                    · rw [List.getElem?_set_self hl] at e; cases e
                    · rw [List.getElem?_eq_none (by simpa using hl)] at e; cases e
                  · rw [List.getElem?_set_ne (Ne.symm hi)] at e
                    rw [List.getElem?_set_ne (Ne.symm hi)]
                    by_cases hi2 : i = iy
                    · subst hi2
                      have hl : i < ρ.length := by
                        rcases Nat.lt_or_ge i ρ.length with z | z
                        · exact z
                        · rw [List.getElem?_eq_none (by simpa using z)] at e; cases e
                      rw [List.getElem?_set_self hl] at e
                      cases e
                      rw [if_pos (.inl rfl), List.getElem?_set_self (by rw [S.len]; exact hl)]
                      refine ⟨_, rfl, a, [x'], rfl, ⟨dx, x', rfl, upd_same, by rw [upd_ne hda]; exact hx⟩, rfl, RpL.one ?_⟩
                      exact Rp.mono (fun _ z => .inr z) (same_nlst (upd_same_ext ha)) v x' [] (fun b xs _ e => upd_same_ext ha b _ e) rx
                    · rw [List.getElem?_set_ne (Ne.symm hi2)] at e
                      rw [List.getElem?_set_ne (Ne.symm hi2), if_neg (fun z => z.elim hi2 hi)]
                      obtain ⟨w, q1, q2⟩ := S.at_ i d e
                      exact ⟨w, q1, Rp.mono (fun _ z => .inl z) (same_nlst s2) d w _ (fun b xs _ e => s2 b _ e) q2⟩
                · rcases z with z | z
                  · exact same_dom s2 (S.fdom a z)
                  · exact same_dom (upd_same_ext ha) (hF a z).2
                · rcases z with z | z
                  · exact S.fr a z
                  · rcases (hF a z).1 with q | q
                    · exact S.fr a q
                    · exact .inr (S.same.free q)
                · split
                  · exact List.nodup_nil
                  · exact S.nd i
                · split at z
                  · cases z
                  · split
                    · exact fun y => nomatch y
                    · exact S.dj i j hij a z
                · split at z
                  · cases z
                  · obtain ⟨k1, k2, k3⟩ := S.own i a z
                    refine ⟨fun y => y.elim k1 fun y => ?_, k2, same_dom s2 k3⟩
                    exact (hF a y).1.elim k1 k3
              · simp only [ho] at h'
                exact h'.elim
          · cases e3 : fm ds with
            | fail => rw [e3] at h'; exact h'.elim
            | ok d =>
              rw [e3] at h'
              intro v H' s1 _
              exact h' F O H' σ (S.fwd s1)
            | ex c v =>
              intro dx x' H1 F' hF s1 hd hx rx
              by_cases hbad : H1 = badH
              · rw [hbad] at hx
                cases hx
              refine .inr ⟨hbad, c, v, dx, x', F', rfl, rfl, rfl, s1, hd, hx, fun a z => ⟨?_, (hF a z).2⟩, rx⟩
              rcases (hF a z).1 with q | q
              · exact absurd (Or.inl ⟨rfl, fun _ z => nomatch z⟩) (q .none none badH)
              · rcases q with ⟨_, q⟩ | ⟨q, _⟩
                · exact q a rfl
                · exact absurd rfl q
        · rw [if_neg hc] at h'
          exact h'.elim
    | .non, _, h => exact h.elim
    | .bl _, _, h => exact h.elim
    | .int _, _, h => exact h.elim
    | .str _, _, h => exact h.elim
    | .lst _ _, _, h => exact h.elim
    | .tup _, _, h => exact h.elim
    | .dic _ _, _, h => exact h.elim
    | .box (.exc _) _, _, h => exact h.elim
end
end PV
end
section
set_option Elab.async false
set_option linter.all false
set_option maxRecDepth 100000
set_option maxHeartbeats 1000000
/-! PV15: isinstance(x, C) and x.value for an exception that is held. -/
namespace PV
open PySem PySem.Spec PyProof.Rows L2
/-- what the classes okc say -/
structure ExF (K : PySem.W.Frag) (okc : List String) : Prop where
  ec : ∀ c ∈ okc, ExcC K (He.ga K (Str.ofString c))
  xf : ∀ c ∈ okc, XfC K (He.ga K (Str.ofString c))
  no : ∀ c ∈ okc, PySem.W.findIn K (.ref (He.ga K (Str.ofString c))) "value" = some none
  ki : ∀ c ∈ okc, ∀ c' ∈ okc, PySem.W.kitOne K (.ref (He.ga K (Str.ofString c))) (.ref (He.ga K (Str.ofString c'))) = some (c == c')
  kn : ∀ c ∈ okc, PySem.W.kitOne K (.type "NoneType") (.ref (He.ga K (Str.ofString c))) = some false
def rIsx (K : PySem.W.Frag) : List V → Hp → VK → Prop := fun xs H Q => ∃ (x : V) (C' : Addr) (T : Value) (b : Bool), xs = [x, .ref C'] ∧ PySem.W.kitOne K T (.ref C') = some b ∧
  ((x = .non ∧ T = .type "NoneType") ∨ ∃ a C dx fs, x = .ref a ∧ T = .ref C ∧ H a = some (exK a C dx) ∧ H dx = some (.xd fs) ∧ ExcC K C) ∧ Q (.bl b) H
section
variable {P : Program} {w : World} {H : Hp} {h : Heap}
theorem exK_at {a C dx : Addr} (hok : HOk P w H h) (e : H a = some (exK a C dx)) : ∃ o vs, h.get? a = some o ∧ o.cls = .ref C ∧ o.dict = some dx ∧ o.data = .fields vs := by
  have x : ObjOk P w H h a (.ext fun h => ∃ o vs, h.get? a = some o ∧ o.cls = .ref C ∧ o.dict = some dx ∧ o.data = .fields vs) := hok a _ e
  exact x.1
theorem exK_inst {a C dx : Addr} {fs : List (Str × V)} (hok : HOk P w H h) (e : H a = some (exK a C dx)) (ed : H dx = some (.xd fs)) : ∃ o od mA, PySem.W.InstAt h a o C (some od) ∧ h.Ns1 dx mA ∧ (∀ f, RelO (fs.lookup f) (mA f)) ∧ h.get? dx = some od ∧ ∀ n, PySem.W.lookIn n od = some (mA n) := by
  obtain ⟨o, vs, h1, h2, h3, h4⟩ := exK_at hok e
  have hx : ObjOk P w H h dx (.xd fs) := hok dx _ ed
  obtain ⟨mA, hns, hr⟩ := hx
  obtain ⟨od, ho, hl⟩ := lookIn_ns hns
  exact ⟨o, od, mA, ⟨h1, h2, by unfold PySem.W.notCls; rw [h4] <;> rfl, by rw [h3]; exact ho⟩, hns, hr, ho, hl⟩
end
theorem call_isx {X : Cx} : CallR X (.builtin "isinstance") (rIsx X.K) := by
  intro pins s σ H xs us Q I r h
  obtain ⟨x, C', T, b, rfl, e, hx, q⟩ := h
  obtain ⟨u1, u2, rfl, r1, r2⟩ := vals2 r
  obtain rfl : u2 = Value.ref C' := r2
  rcases hx with ⟨rfl, rfl⟩ | ⟨a, C, dx, fs, rfl, rfl, ea, ed, ec⟩
  · obtain rfl : u1 = Value.none := r1
    exact PySem.W.kia_one PySem.W.kitx_none I.kIn True.intro e (fun z => nomatch z) fun tk => ⟨.bl b, H, I.tok tk, rfl, q⟩
  · obtain rfl : u1 = Value.ref a := r1
    obtain ⟨o, od, mA, J, _⟩ := exK_inst I.hok ea ed
    obtain ⟨cd, hcd, _⟩ := PySem.W.any_some ec.hd
    exact PySem.W.kia_one (PySem.W.kitx_exc (by rw [hcd]; rfl) ec.hg ec.hk ec.hs ec.ha ec.hn ec.ht ec.hm) I.kIn J e (fun z => nomatch z) fun tk => ⟨.bl b, H, I.tok tk, rfl, q⟩
def mIsE (okc : List String) (c' : String) (m : Env → R D) : Env → R D := fun ρ => (m ρ).bind fun d => match d with
  | .non => .ok (.bl false)
  | .box (.exc c) [_] => if okc.contains c then .ok (.bl (c == c')) else .fail
  | _ => .fail
def mVal (okc : List String) (m : Env → R D) : Env → R D := fun ρ => (m ρ).bind fun d => match d with
  | .box (.exc c) [v] => if okc.contains c then .ok v else .fail
  | _ => .fail
def tXv (K : PySem.W.Frag) (te : TE) : TE := fun σ H Q => te σ H fun x H1 => ∃ a C dx v, x = .ref a ∧ H1 a = some (exK a C dx) ∧ H1 dx = some (.xd [(("value" : Str), v)]) ∧ XfC K C ∧ PySem.W.findIn K (.ref C) "value" = some none ∧ Q v H1
section
variable {K : PySem.W.Frag} {E : XK} {te : TE} {me : Env → R D} {us mv : List Nat} {okc : List String} {c' : String}
theorem snd_ise (fx : ExF K okc) (hc : c' ∈ okc) (ha : SndE K E te me us mv) : SndE K E (tCB (rIsx K) (tCons te (tCons (tC (.ref (He.ga K (Str.ofString c')))) tNil))) (mIsE okc c' me) [] [] := by
  intro b F O H σ ρ S Q h
  show te σ H fun x H1 => rIsx K [x, .ref (He.ga K (Str.ofString c'))] H1 Q
  refine ha b F O H σ ρ S _ ?_
  unfold mIsE at h
  cases e : me ρ with
  | fail => simp only [e, R.bind_ok, R.bind_ex, R.bind_fail] at h; exact h
  | ex c d => simp only [e, R.bind_ok, R.bind_ex, R.bind_fail] at h; exact h
  | ok d =>
    simp only [e, R.bind_ok, R.bind_ex, R.bind_fail] at h
    intro v H1 s1 r1
    obtain ⟨F', as, _, _, _, r⟩ := r1
    match d, r, h with
    | .non, r, h =>
      obtain ⟨rfl, _⟩ := r
      exact ⟨_, _, _, false, rfl, fx.kn c' hc, .inl ⟨rfl, rfl⟩, h _ H1 s1 (.bl _)⟩
    | .box (.exc c) [x], r, h =>
      obtain ⟨a, vs, rfl, ⟨dx, y, rfl, e1, e2⟩, _⟩ := r
      have h' : WE K E (Al F O []) (Mv O []) H (if okc.contains c then .ok (.bl (c == c')) else .fail) Q := h
      by_cases ho : okc.contains c = true
      · rw [if_pos ho] at h'
        have hm : c ∈ okc := by simpa using ho
        exact ⟨_, _, _, _, rfl, fx.ki c hm c' hc, .inr ⟨a, _, dx, _, rfl, rfl, e1, e2, fx.ec c hm⟩, h' _ H1 s1 (.bl _)⟩
      · rw [if_neg ho] at h'
        exact h'.elim
    | .bl _, _, h => exact h.elim
    | .int _, _, h => exact h.elim
    | .str _, _, h => exact h.elim
    | .lst _ _, _, h => exact h.elim
    | .tup _, _, h => exact h.elim
    | .dic _ _, _, h => exact h.elim
    | .box (.clo _) _, _, h => exact h.elim
    | .box (.exc _) [], _, h => exact h.elim
    | .box (.exc _) (_ :: _ :: _), _, h => exact h.elim
theorem snd_val (fx : ExF K okc) (ha : SndE K E te me us mv) : SndE K E (tXv K te) (mVal okc me) us mv := by
  intro b F O H σ ρ S Q h
  refine ha b F O H σ ρ S _ ?_
  unfold mVal at h
  cases e : me ρ with
  | fail => simp only [e, R.bind_ok, R.bind_ex, R.bind_fail] at h; exact h
  | ex c d => simp only [e, R.bind_ok, R.bind_ex, R.bind_fail] at h; exact h
  | ok d =>
    simp only [e, R.bind_ok, R.bind_ex, R.bind_fail] at h
    intro v H1 s1 r1
    obtain ⟨F', as, k1, k2, k3, r⟩ := r1
    match d, r, h with
    | .box (.exc c) [x], rr, h =>
      obtain ⟨a, vs, rfl, ⟨dx, y, rfl, e1, e2⟩, e4, r2⟩ := rr
      obtain ⟨y', e3, r3⟩ := RpL.of_one r2
      cases e3
      have h' : WE K E (Al F O us) (Mv O mv) H (if okc.contains c then .ok x else .fail) Q := h
      by_cases ho : okc.contains c = true
      · rw [if_pos ho] at h'
        have hm : c ∈ okc := by simpa using ho
        exact ⟨a, _, dx, y, rfl, e1, e2, fx.xf c hm, fx.no c hm, h' _ H1 s1 ⟨F', [], k1, List.nodup_nil, (fun _ z => nomatch z), r3⟩⟩
      · rw [if_neg ho] at h'
        exact h'.elim
    | .non, _, h => exact h.elim
    | .bl _, _, h => exact h.elim
    | .int _, _, h => exact h.elim
    | .str _, _, h => exact h.elim
    | .lst _ _, _, h => exact h.elim
    | .tup _, _, h => exact h.elim
    | .dic _ _, _, h => exact h.elim
    | .box (.clo _) _, _, h => exact h.elim
    | .box (.exc _) [], _, h => exact h.elim
    | .box (.exc _) (_ :: _ :: _), _, h => exact h.elim
end
section
variable {X : Cx} {E : XK} {e : Expr} {te : TE} {me : Env → R D} {us mv : List Nat} {okc : List String} {c' : String} {p p2 pos : Pos}
theorem xise (c' : String) (fx : ExF X.K okc) (hc : c' ∈ okc) (hm : X.mg "isinstance" = none) (hmc : X.mg (Str.ofString c') = some (.ref (He.ga X.K (Str.ofString c')))) (ha : PX X E e te me us mv) (hg : Gl X "isinstance" := by rfl) (hg2 : Gl X (Str.ofString c') := by rfl) (hdb : (Str.ofString c' == ("__debug__" : Str)) = false := by decide)
    (h1 : starEach (e :: [.Name (Str.ofString c') p2]) X.env = (false, eval e X.env) :: starEach [.Name (Str.ofString c') p2] X.env := by rfl) :
    PX X E (.Call (.Name "isinstance" p) [e, .Name (Str.ofString c') p2] [] pos) (tCB (rIsx X.K) (tCons te (tCons (tC (.ref (He.ga X.K (Str.ofString c')))) tNil))) (mIsE okc c' me) [] [] :=
  ⟨pe_callB call_isx hg hm (by decide +kernel) (pa_cons ha.pe (pa_cons (pe_glob hg2 hmc rfl hdb) pa_nil) h1) (he := h1) (hpl := by rfl), snd_ise fx hc ha.sn⟩
theorem xval (fx : ExF X.K okc) (ha : PX X E e te me us mv) (hb : attributeBase e "value" X.env (eval e X.env) = eval e X.env := by rfl) : PX X E (.Attribute e "value" pos) (tXv X.K te) (mVal okc me) us mv := by
  refine ⟨⟨fun pins s σ H Q I h => ?_⟩, snd_val fx ha.sn⟩
  refine attr_of hb (thn (ha.pe.run pins s σ H _ I h) fun u s1 hh => ?_)
  obtain ⟨x, H1, I1, rx, a, C, dx, v, rfl, ea, ed, T, hno, q⟩ := hh
  obtain rfl : u = Value.ref a := rx
  obtain ⟨o, od, mA, J, hns, hr, ho, hl⟩ := exK_inst I1.hok ea ed
  obtain ⟨u, hu, ru⟩ := RelO.some_of (v := v) (o := mA "value") (by have := hr "value"; simpa [List.lookup] using this)
  exact HandSPX.exc_get I1.kIn J T.ga T.gg T.exC (PySem.W.findObj_own T.hdC hno rfl (by rw [hl, hu])) (handed_of ru) ⟨v, H1, I1.tok _, ru, q⟩
end
end PV
end
section
set_option Elab.async false
set_option linter.all false
set_option maxRecDepth 100000
set_option maxHeartbeats 1000000
/-! PV16: calls by keywords alone. -/
namespace PV
open PySem PySem.Spec PyProof.Rows L2
def perV (perm : List Nat) (vs : List V) : List V := perm.map fun i => vs.getD i .non
def perU (perm : List Nat) (us : List Value) : List Value := perm.map fun i => us.getD i .none
def perD (perm : List Nat) (ds : List D) : List D := perm.map fun i => ds.getD i .non
theorem vals_get : ∀ {vs : List V} {us : List Value} (i : Nat), Vals vs us → RelV (vs.getD i .non) (us.getD i .none)
  | [], [], i, .nil => rfl
  | v :: vs, u :: us, 0, .cons r _ => r
  | v :: vs, u :: us, i + 1, .cons _ r => by simpa using vals_get i r
theorem per_rel {vs : List V} {us : List Value} (r : Vals vs us) : ∀ perm : List Nat, Vals (perV perm vs) (perU perm us)
  | [] => .nil
  | i :: perm => .cons (vals_get i r) (per_rel r perm)
section
variable {K : PySem.W.Frag} {F : Addr → Prop} {H : Hp} {E : XK} {us : List Nat}
theorem RpL.getD {ds : List D} {vs : List V} (r : RpL K F H ds vs []) (i : Nat) : Rp K F H (ds.getD i .non) (vs.getD i .non) [] := by
  by_cases hi : i < ds.length
  · obtain ⟨v, bs, h1, h2, h3⟩ := r.get (List.getElem?_eq_getElem hi)
    have e : bs = [] := List.sublist_nil.mp h2
    rw [e] at h3
    rw [List.getD_eq_getElem?_getD, List.getD_eq_getElem?_getD, h1, List.getElem?_eq_getElem hi]
    exact h3
  · have hl := r.length
    rw [List.getD_eq_getElem?_getD, List.getD_eq_getElem?_getD, List.getElem?_eq_none (by omega), List.getElem?_eq_none (by omega)]
    exact ⟨rfl, rfl⟩
theorem RpL.per {ds : List D} {vs : List V} (r : RpL K F H ds vs []) : ∀ perm : List Nat, RpL K F H (perD perm ds) (perV perm vs) []
  | [] => ⟨rfl, rfl⟩
  | i :: perm => ⟨_, _, [], [], rfl, rfl, r.getD i, RpL.per r perm⟩
/-- f(k = v, ..): perm: of each parameter, the keyword's place -/
def mCallK (perm : List Nat) (f : List D → R D) (mr : Env → R (List D)) : Env → R D := fun ρ => (mr ρ).bind fun ds => f (perD perm (fzL ds))
theorem snd_callK {tr : TA} {mr : Env → R (List D)} {n m : Nat} {perm : List Nat} {fm : List D → R D} (ha : SndA K E tr mr us []) (hn : perm.length = n) (hm : ∀ ρ ds, mr ρ = .ok ds → ds.length = m) : SndE K E (tCallN 0 m (spF K n fm) (fun _ zs => perV perm zs) E tNil tr) (mCallK perm fm mr) us [] := by
  intro b F O H σ ρ S Q h
  show tr σ H fun zs H2 => _
  refine ha b F O H σ ρ S _ ?_
  unfold mCallK at h
  cases e : mr ρ with
  | fail => simp only [e, R.bind_ok, R.bind_ex, R.bind_fail] at h; exact h
  | ex c d => simp only [e, R.bind_ok, R.bind_ex, R.bind_fail] at h; exact h
  | ok ds =>
    simp only [e, R.bind_ok, R.bind_ex, R.bind_fail] at h
    intro vs H1 s1 r1
    obtain ⟨F', as, h1, h2, h3, h4⟩ := r1
    refine ⟨rfl, h4.length.trans (hm ρ ds e), ?_⟩
    refine ⟨fun a => F' a ∨ a ∈ as, perD perm (fzL ds), by simp [perD, hn], fun a z => ?_, fun a z => ?_, RpL.per (RpL.fz (fun a z => .inl z) ds vs as (fun a z => .inr z) h4) perm, ?_⟩
    · rcases z with z | z
      · exact (h1 a z).2
      · obtain ⟨xs, q⟩ := RpL.own ds vs as h4 a z
        exact fun y => by rw [q] at y; cases y
    · rcases z with (z | z) | z
      · rcases (h1 a z).1 with (q | ⟨i, _, q⟩) | q
        · exact S.alw (.inl q)
        · exact S.alw (.inr (.inl ⟨i, q⟩))
        · exact S.alw (.inr (.inr q))
      · rcases (h3 a z).1 with q | ⟨i, _, q⟩
        · exact S.alw (.inr (.inr q))
        · exact S.alw (.inr (.inl ⟨i, q⟩))
      · exact S.alw (.inr (.inr (s1.free z)))
    · cases e2 : fm (perD perm (fzL ds)) with
      | fail => rw [e2] at h; exact h
      | ex c d => rw [e2] at h; exact ECond.mono h s1
      | ok d =>
        rw [e2] at h
        intro v H2 s2 r2
        refine h v H2 (s1.trans s2) ?_
        obtain ⟨F2, as2, k1, k2, k3, k4⟩ := r2
        refine ⟨F2, as2, fun a z => ⟨?_, (k1 a z).2⟩, k2, fun a z => ⟨.inl ?_, (k3 a z).2⟩, k4⟩
        · rcases (k1 a z).1 with (q | q) | q
          · exact (h1 a q).1
          · rcases (h3 a q).1 with y | ⟨i, hi, _⟩
            · exact .inr y
            · cases hi
          · exact .inr (s1.free q)
        · rcases (k3 a z).1 with q | q
          · exact s1.free q
          · exact q.elim
end
theorem pe_callKWG {X : Cx} {CX : CXT} {k : Nat} {f : Addr} {fd : FuncData} {ps ks : List Str} {sp : Sp} {E : XK} {x : Str} {p pos : Pos} {kws : List Keyword} {tk : TA} {g : List Value → List Value → List Value} {gV : List V → List V → List V}
    (F : FnG X.prog X.w X.K X.mg X.base CX k f fd ps sp) (hr : RoomG k X.A) (hg : Gl X x) (hm : X.mg x = some (.ref f)) (hk : PySem.W.keepIn X.K (.ref f) = true) (hb : KBn X.K fd ps 0 ks g gV) (hx : Passes CX X E)
    (hkw : PK X kws tk) (hall : (backToKw pos (keywordEach kws X.env)).all (·.1.isSome) = true := by rfl) (hks : (backToKw pos (keywordEach kws X.env)).filterMap (·.1) = ks := by rfl)
    (hdb : (x == ("__debug__" : Str)) = false := by decide) (hpl : ((backTo pos (starEach [] X.env)).any (·.1) || (backToKw pos (keywordEach kws X.env)).any (·.1.isNone)) = false := by rfl) :
    PE X (.Call (.Name x p) [] kws pos) (tCallN 0 ks.length sp gV E tNil tk) := by
  refine ⟨fun pins s σ H Q I h => ?_⟩
  refine wpAny_Call_Name_kw (ld_glob I hg hm ?_ hdb)
  refine PySem.W.callWith_KW0 (h₀ := X.base) I.ok.mod.kin hk hall (thn (hkw.run pos pins s σ H _ I h) fun ws s2 ⟨zs, H2, I2, rz, l1, l2, q2⟩ => ⟨I2.kIn, ?_⟩) hpl
  rw [hks]
  have r2 := hb.rel (.nil : Vals [] []) rz
  refine wpAny_call (codeAny_mono (F.run X.A X.stack s2 H2 ⟨[], ks.zip ws⟩ (g [] ws) (gV [] zs) Q E hr I2.env0 (hb.to s2 [] ws I2.kIn rfl (rz.length.symm.trans l2)) r2 q2) fun r s' hq => ?_)
  cases r with
  | error e => exact hx pins σ H2 s2 e s' I2 hq
  | ok fl =>
    cases fl with
    | ret u => exact I2.after hq
    | next => exact False.elim hq
    | brk => exact False.elim hq
    | cont => exact False.elim hq
structure KX (X : Cx) (E : XK) (kws : List Keyword) (t : TA) (m : Env → R (List D)) (n : Nat) (us mv : List Nat) : Prop where
  pk : PK X kws t
  sn : SndA X.K E t m us mv
  ln : ∀ ρ ds, m ρ = .ok ds → ds.length = n
section
variable {X : Cx} {E : XK} {e : Expr} {kws : List Keyword} {te : TE} {tr : TA} {me : Env → R D} {mr : Env → R (List D)} {us mv us' mv' : List Nat} {n : Nat} {p pos kpos : Pos} {x : Str} {nm : Option Str}
theorem k0 : KX X E [] tNil aNil 0 [] [] := ⟨pk_nil, sna_nil, fun ρ ds h => by cases h; rfl⟩
theorem k1 (ha : PX X E e te me us mv) (hr : KX X E kws tr mr n us' mv') (ap : apart us mv us' mv' = true := by rfl) : KX X E (⟨nm, e, kpos⟩ :: kws) (tCons te tr) (aCons me mr) (n + 1) (us ++ us') (mv ++ mv') :=
  ⟨pk_cons ha.pe hr.pk, sna_cons ha.sn hr.sn ap, fun ρ ds h => by
  unfold aCons at h
  cases e1 : me ρ with
  | fail => rw [e1] at h; cases h
  | ex c d => rw [e1] at h; cases h
  | ok d =>
    rw [e1] at h
    cases e2 : mr ρ with
    | fail => simp only [e2, R.bind_ok, R.bind_fail] at h; cases h
    | ex c d => simp only [e2, R.bind_ok, R.bind_ex] at h; cases h
    | ok ds' =>
      simp only [e2, R.bind_ok] at h
      cases h
      simp [hr.ln ρ ds' e2]⟩
theorem xcallK {k j : Nat} {ps : List Str} {f : List D → R D} {params : Arguments} {body : List Stmt} {scope : Scope} (h : Def X.prog X.w X.K X.mg X.base k x ps f) (hT : ∃ fd, FunD X.K x x params body scope [] [] (He.ga X.K x) fd) (perm : List Nat) (ks : List Str)
    (hb : ∀ (kV doc pm : Value) (an : Option Addr) (cdv ct : Value) (ws : List Value), ws.length = ks.length → bindArgs (PySem.W.fnOf x x params body scope .none kV doc pm an cdv ct) ⟨[], ks.zip ws⟩ = pure (ps.zip (perU perm ws)))
    (hr : RoomG j X.A) (hk : k ≤ j) (hx : Passes (L2.CX X.prog X.w) X E) (ha : KX X E kws tr mr n us []) (hn : n = ks.length := by rfl) (hp : perm.length = ps.length := by rfl) (hg : Gl X x := by rfl)
    (hall : (backToKw pos (keywordEach kws X.env)).all (·.1.isSome) = true := by rfl) (hks : (backToKw pos (keywordEach kws X.env)).filterMap (·.1) = ks := by rfl)
    (hdb : (x == ("__debug__" : Str)) = false := by decide) (hpl : ((backTo pos (starEach [] X.env)).any (·.1) || (backToKw pos (keywordEach kws X.env)).any (·.1.isNone)) = false := by rfl) :
    PX X E (.Call (.Name x p) [] kws pos) (tCallN 0 ks.length (spF X.K ps.length f) (fun _ zs => perV perm zs) E tNil tr) (mCallK perm f mr) us [] := by
  obtain ⟨fd, F, _, pr, bo, sc, fun_⟩ := h.ok
  obtain ⟨fd2, fun2⟩ := hT
  obtain ⟨oc, od, dV, kV, doc, pm, an, cdv, ct, osl, e1, lk, hcd, hD, hK⟩ := fun2.ex
  obtain ⟨oc', od', dV', kV', doc', pm', an', cdv', ct', osl', e1', lk', _⟩ := fun_.ex
  rw [lk] at lk'
  have ef : fd2 = fd := by
    have := Option.some.inj lk'
    cases this
    rfl
  subst ef
  rcases hD with ⟨_, hD⟩ | ⟨hD, _⟩
  · subst hD
    refine ⟨pe_callKWG (g := fun _ ws => perU perm ws) (ks := ks) F (hr.mono hk) hg h.mg fun2.kp ⟨fun s us ws _ h1 h2 => ?_, fun _ r => per_rel r perm⟩ hx ha.pk hall hks hdb hpl, snd_callK ha.sn hp (by rw [← hn]; exact ha.ln)⟩
    have e0 : us = [] := List.length_eq_zero_iff.mp h1
    subst e0
    rw [e1]
    exact BindsTo.of_eq (hb kV doc pm an cdv ct ws h2)
  · exact absurd rfl hD
end
end PV
end
section
set_option Elab.async false
set_option linter.all false
set_option maxRecDepth 100000
set_option maxHeartbeats 1000000
/-! PV17: repr(x); x == y for two like trees (empty dicts among them). -/
namespace PV
open PySem PySem.Spec PyProof.Rows L2
mutual
/-- dicts within are empty; no box -/
def plD : D → Bool
  | .lst _ ds => plL ds
  | .tup ds => plL ds
  | .dic ks ds => ks.isEmpty && ds.isEmpty
  | .box _ _ => false
  | _ => true
def plL : List D → Bool
  | [] => true
  | d :: ds => plD d && plL ds
end
mutual
/-- the same tree -/
def smD : D → D → Bool
  | .non, .non => true
  | .bl b, .bl c => b == c
  | .int i, .int j => decide (i = j)
  | .str x, .str y => decide (x = y)
  | .lst _ ds, .lst _ es => smL ds es
  | .tup ds, .tup es => smL ds es
  | .dic ks ds, .dic ls es => ks.isEmpty && ds.isEmpty && ls.isEmpty && es.isEmpty
  | _, _ => false
def smL : List D → List D → Bool
  | [], [] => true
  | d :: ds, e :: es => smD d e && smL ds es
  | _, _ => false
end
section
variable {X : Cx} {pins : List (Addr × Obj)} {σ : L2.St} {H : Hp} {s : Shared} {F : Addr → Prop}
theorem emp_dic {ks : List Key} {ds : List D} {v : V} {as : List Addr} (I : Inv X pins σ H s) (hk : ks.isEmpty = true) (hd : ds.isEmpty = true) (r : Rp X.K F H (.dic ks ds) v as) : ∃ a, v = .ref a ∧ (a == sysModules) = false ∧ H a ≠ none ∧ s.heap.DictOf (mixKind X.prog X.w) a [] := by
  obtain ⟨a, kvs, rfl, e2, e3, e4, _⟩ := r
  obtain rfl : ks = [] := List.isEmpty_iff.mp hk
  obtain rfl : kvs = [] := List.map_eq_nil_iff.mp e3
  obtain ⟨_, h2, vs, kv, h3⟩ := (show ObjOk X.prog X.w H s.heap a (.dK []) from I.hok a _ e2)
  cases kv
  exact ⟨a, rfl, h2, by rw [e2]; exact Option.some_ne_none _, h3⟩
mutual
theorem Rp.reads (I : Inv X pins σ H s) : ∀ (d : D) (v : V) (as : List Addr) (u : Value), plD d = true → Rp X.K F H d v as → RelV v u → ∃ bs, Reads s.heap u (er d) bs ∧ ∀ b ∈ bs, H b ≠ none
  | .non, _, _, _, _, h, r => by
    obtain ⟨rfl, _⟩ := h
    cases r
    exact ⟨_, Reads.none, fun _ z => nomatch z⟩
  | .bl b, _, _, _, _, h, r => by
    obtain ⟨rfl, _⟩ := h
    cases r
    exact ⟨_, Reads.bool b, fun _ z => nomatch z⟩
  | .int i, _, _, _, _, h, r => by
    obtain ⟨rfl, _⟩ := h
    obtain ⟨t, rfl⟩ := r
    exact ⟨_, Reads.int i t, fun _ z => nomatch z⟩
  | .str x, _, _, _, _, h, r => by
    obtain ⟨rfl, _⟩ := h
    obtain ⟨t, rfl⟩ := r
    exact ⟨_, Reads.str x t, fun _ z => nomatch z⟩
  | .lst o ds, v, as, u, hp, h, r => by
    have hb : ∃ a xs bs, v = .ref a ∧ H a = some (.lst xs) ∧ RpL X.K F H ds xs bs := by
      cases o with
      | true =>
        obtain ⟨a, vs, bs, e1, e2, _, _, r⟩ := h
        exact ⟨a, vs, bs, e1, e2, r⟩
      | false =>
        obtain ⟨a, vs, e1, e2, _, _, _, r⟩ := h
        exact ⟨a, vs, [], e1, e2, r⟩
    obtain ⟨a, xs, bs, rfl, e2, rr⟩ := hb
    cases r
    obtain ⟨its, rv, ⟨o, n, ho, hc, _, hd⟩, _⟩ := I.list (.of e2)
    obtain ⟨cs, h1, h2⟩ := RpL.reads I ds xs bs its (by simpa [plD] using hp) rr rv
    refine ⟨_, Reads.list ho hc hd h1, fun b hb => ?_⟩
    rcases List.mem_cons.mp hb with rfl | hb
    · rw [e2]; exact Option.some_ne_none _
    · exact h2 b hb
  | .tup ds, v, as, u, hp, h, r => by
    obtain ⟨a, vs, rfl, e2, rr⟩ := h
    cases r
    obtain ⟨its, rv, ⟨o, ho, hc, n, hd⟩, _⟩ := I.tuple e2
    obtain ⟨cs, h1, h2⟩ := RpL.reads I ds vs as its (by simpa [plD] using hp) rr rv
    exact ⟨_, Reads.tuple ho hc hd h1, h2⟩
  | .dic ks ds, v, as, u, hp, h, r => by
    obtain ⟨h1, h2⟩ : ks.isEmpty = true ∧ ds.isEmpty = true := by simpa [plD] using hp
    obtain ⟨a, rfl, hs, hn, o, es, ep, q1, q2, q3, q4, q5, q6⟩ := emp_dic I h1 h2 h
    cases r
    have e0 : es.toList = [] := by
      cases q : es.toList with
      | nil => rfl
      | cons x l => rw [q] at q5; cases q5
    refine ⟨_, Reads.dict (kvs := []) q1 q2.1 q3 (by rw [e0]; exact .nil) (by rw [e0]; exact .nil), fun b hb => ?_⟩
    have : b = a := by simpa using hb
    rw [this]
    exact hn
  | .box _ _, _, _, _, hp, _, _ => by simp [plD] at hp
theorem RpL.reads (I : Inv X pins σ H s) : ∀ (ds : List D) (vs : List V) (as : List Addr) (us : List Value), plL ds = true → RpL X.K F H ds vs as → Vals vs us → ∃ bs, ReadsAll s.heap us (erL ds) bs ∧ ∀ b ∈ bs, H b ≠ none
  | [], _, _, _, _, h, r => by
    obtain ⟨rfl, _⟩ := h
    cases r
    exact ⟨_, ReadsAll.nil, fun _ z => nomatch z⟩
  | d :: ds, _, _, _, hp, h, r => by
    obtain ⟨v, rr, a1, a2, rfl, rfl, r1, r2⟩ := h
    obtain ⟨p1, p2⟩ : plD d = true ∧ plL ds = true := by simpa [plL] using hp
    cases r with
    | cons q1 q2 =>
      obtain ⟨bs, h1, h2⟩ := Rp.reads I d v a1 _ p1 r1 q1
      obtain ⟨cs, h3, h4⟩ := RpL.reads I ds rr a2 _ p2 r2 q2
      exact ⟨_, ReadsAll.cons h1 h3, fun b hb => (List.mem_append.mp hb).elim (h2 b) (h4 b)⟩
end
end
/-- repr -/
def okRep (d : D) : Bool := plD d && (er d).showable && Nat.ble (er d).depth 64 && Nat.ble (er d).shown.length 1000000
def fRepr : List D → Option D
  | [.lst o ds] => if okRep (.lst o ds) then some (.str (er (.lst o ds)).shown) else none
  | [.tup ds] => if okRep (.tup ds) then some (.str (er (.tup ds)).shown) else none
  | _ => none
def rRepr (K : PySem.W.Frag) : List V → Hp → VK → Prop := fun xs H Q => ∃ (a : Addr) (d : D) (F : Addr → Prop) (as : List Addr), xs = [.ref a] ∧ Rp K F H d (.ref a) as ∧ okRep d = true ∧ Q (.str (er d).shown) H
theorem call_rep {X : Cx} {k : Nat} (hr : RoomG k X.A) (hsm : ∃ o, X.base.get? sysModules = some o) : CallR X (.builtin "repr") (rRepr X.K) := by
  intro pins s σ H xs us Q I r h
  obtain ⟨osm, hsm⟩ := hsm
  obtain ⟨a, d, F, as, rfl, rp, ok, q⟩ := h
  cases r with
  | cons rx rr =>
    cases rr
    cases rx
    unfold okRep at ok
    simp only [Bool.and_eq_true] at ok
    obtain ⟨⟨⟨k1, k2⟩, k3⟩, k4⟩ := ok
    obtain ⟨bs, h1, h2⟩ := Rp.reads I d _ as _ k1 rp rfl
    have hd : (er d).depth ≤ 64 := Nat.le_of_ble_eq_true k3
    have hl : (er d).shown.length ≤ 1000000 := Nat.le_of_ble_eq_true k4
    have hu : X.A.units + ((er d).depth + 1) < cLine := by have := hr.rm.un; omega
    refine PySem.repr_of_reads' h1 k2 (fun _ hm => ?_) hr.gd hu (fun _ _ e => e) (fun h' u tk hk => ⟨.str (er d).shown, H, ?_, ⟨u, rfl⟩, q⟩) (by rw [sizeLine_eq]; omega)
    · have y := h2 _ hm
      exact y ((I.env0.bs _ _ hsm).2)
    · have J := I.kept (t' := tk) hk
      exact J
theorem ok_repr {K : PySem.W.Frag} : OpS K (rRepr K) fRepr := by
  intro F as H ds vs z Q r h q
  match ds, h with
  | [.lst o xs], h =>
    obtain ⟨v, rfl, r1⟩ := r.of_one
    have h2 : (if okRep (.lst o xs) then some (D.str (er (.lst o xs)).shown) else none) = some z := h
    by_cases c : okRep (.lst o xs) = true
    · rw [if_pos c] at h2
      cases h2
      obtain ⟨a, _, _, rfl, _⟩ := r1.lst_inv
      exact ⟨a, _, F, as, rfl, r1, c, q _ (fun _ _ => ⟨rfl, rfl⟩) rfl⟩
    · rw [if_neg c] at h2; cases h2
  | [.tup xs], h =>
    obtain ⟨v, rfl, r1⟩ := r.of_one
    have h2 : (if okRep (.tup xs) then some (D.str (er (.tup xs)).shown) else none) = some z := h
    by_cases c : okRep (.tup xs) = true
    · rw [if_pos c] at h2
      cases h2
      have r1' := r1
      obtain ⟨a, _, rfl, _⟩ := r1'
      exact ⟨a, _, F, as, rfl, r1, c, q _ (fun _ _ => ⟨rfl, rfl⟩) rfl⟩
    · rw [if_neg c] at h2; cases h2
  | [], h => cases h
  | .non :: _, h => cases h
  | .bl _ :: _, h => cases h
  | .int _ :: _, h => cases h
  | .str _ :: _, h => cases h
  | .dic _ _ :: _, h => cases h
  | .box _ _ :: _, h => cases h
  | .lst _ _ :: _ :: _, h => cases h
  | .tup _ :: _ :: _, h => cases h
section
variable {X : Cx} {E : XK} {e : Expr} {es : List Expr} {tr : TA} {mr : Env → R (List D)} {us mv : List Nat} {n : Nat} {p pos : Pos}
theorem xrepr {k : Nat} (hr : RoomG k X.A) (hsm : ∃ o, X.base.get? sysModules = some o) (hm : X.mg "repr" = none) (ha : AX X E (e :: es) tr mr n us mv) (hg : Gl X "repr" := by rfl) (he : starEach (e :: es) X.env = (false, eval e X.env) :: starEach es X.env := by rfl) (hpl : (backTo pos (starEach es X.env)).any (·.1) = false := by rfl) :
    PX X E (.Call (.Name "repr" p) (e :: es) [] pos) (tCB (rRepr X.K) tr) (mCb fRepr mr) [] [] := ⟨pe_callB (call_rep hr hsm) hg hm (by decide +kernel) ha.pa (he := he) (hpl := hpl), snd_cs ok_repr ha.sn⟩
end
end PV
end
section
set_option Elab.async false
set_option linter.all false
set_option maxRecDepth 100000
set_option maxHeartbeats 1000000
/-! PV18: x == y for two like trees (empty dicts among them). -/
namespace PV
open PySem PySem.Spec PyProof.Rows L2 PySem.SeqAt PySem.W
mutual
/-- a bound of the depth -/
def dpD : D → Nat
  | .lst _ ds => dpL ds + 1
  | .tup ds => dpL ds + 1
  | .dic _ _ => 1
  | _ => 0
def dpL : List D → Nat
  | [] => 0
  | d :: ds => max (dpD d) (dpL ds)
end
section
variable {X : Cx} {pins : List (Addr × Obj)} {σ : L2.St} {H : Hp} {s : Shared} {F F' : Addr → Prop}
theorem all_true (n : Nat) : ((List.range n).all fun _ => true) = true := by simp
mutual
theorem eqt (I : Inv X pins σ H s) : ∀ (d e : D) (v u : V) (as bs : List Addr) (x y : Value) (n : Nat), smD d e = true → dpD d ≤ n → Rp X.K F H d v as → Rp X.K F' H e u bs → RelV v x → RelV u y → EqTree X.prog X.w s n x y true
  | .non, e, _, _, _, _, _, _, n, hs, _, h, k, r, q => by
    cases e with
    | non =>
        obtain ⟨rfl, _⟩ := h
        obtain ⟨rfl, _⟩ := k
        cases r
        cases q
        exact .same
    | _ => exact absurd hs (by simp [smD])
  | .bl b, e, _, _, _, _, _, _, n, hs, _, h, k, r, q => by
    cases e with
    | bl c =>
        obtain ⟨rfl, _⟩ := h
        obtain ⟨rfl, _⟩ := k
        cases r
        cases q
        have e : b = c := by simpa [smD] using hs
        rw [e]
        exact .same
    | _ => exact absurd hs (by simp [smD])
  | .int i, e, _, _, _, _, _, _, n, hs, _, h, k, r, q => by
    cases e with
    | int j =>
        obtain ⟨rfl, _⟩ := h
        obtain ⟨rfl, _⟩ := k
        obtain ⟨t, rfl⟩ := r
        obtain ⟨t', rfl⟩ := q
        have e : i = j := by simpa [smD] using hs
        rw [e]
        exact .leaf fun A _ => by simpa using EqAt.int_int (A := A) (s := s) j t j t'
    | _ => exact absurd hs (by simp [smD])
  | .str i, e, _, _, _, _, _, _, n, hs, _, h, k, r, q => by
    cases e with
    | str j =>
        obtain ⟨rfl, _⟩ := h
        obtain ⟨rfl, _⟩ := k
        obtain ⟨t, rfl⟩ := r
        obtain ⟨t', rfl⟩ := q
        have e : i = j := by simpa [smD] using hs
        rw [e]
        exact .leaf fun A _ => by simpa using EqAt.str_str (A := A) (s := s) j t j t'
    | _ => exact absurd hs (by simp [smD])
  | .lst o ds, e, v, u, as, bs, x, y, n, hs, hd, h, k, r, q => by
    cases e with
    | lst o' es =>
        obtain ⟨a, xs, as1, rfl, e2, _, _, r1⟩ := Rp.lst_inv h
        obtain ⟨b, ys, bs1, rfl, k2, _, _, r2⟩ := Rp.lst_inv k
        cases r
        cases q
        by_cases hab : a = b
        · rw [hab]; exact .same
        · obtain ⟨its, rv, ⟨o1, n1, g1, g2, _, g3⟩, _⟩ := I.list (.of e2)
          obtain ⟨jts, rw_, ⟨o2, n2, g4, g5, _, g6⟩, _⟩ := I.list (.of k2)
          have hs' : smL ds es = true := by simpa [smD] using hs
          obtain ⟨m, rfl⟩ : ∃ m, n = m + 1 := ⟨n - 1, by simp [dpD] at hd; omega⟩
          obtain ⟨hl, ht⟩ := eqtL I ds es xs ys _ _ its jts m hs' (by simp [dpD] at hd; exact hd) r1 r2 rv rw_
          have q := EqTree.lists (prog := X.prog) (w := X.w) (s := s) (n := m) (l := a) (l' := b) (vs := its.toArray) (vs' := jts.toArray) (e := fun _ => true) hab ⟨o1, g1, g2, n1, g3⟩ ⟨o2, g4, g5, n2, g6⟩ (by simpa using hl) (fun j h1 h2 => ht j (by simpa using h1) (by simpa using h2))
          rw [all_true] at q
          exact q
    | _ => exact absurd hs (by simp [smD])
  | .tup ds, e, v, u, as, bs, x, y, n, hs, hd, h, k, r, q => by
    cases e with
    | tup es =>
        obtain ⟨a, xs, rfl, e2, r1⟩ := h
        obtain ⟨b, ys, rfl, k2, r2⟩ := k
        cases r
        cases q
        by_cases hab : a = b
        · rw [hab]; exact .same
        · obtain ⟨its, rv, ⟨o1, g1, g2, n1, g3⟩, _⟩ := I.tuple e2
          obtain ⟨jts, rw_, ⟨o2, g4, g5, n2, g6⟩, _⟩ := I.tuple k2
          have hs' : smL ds es = true := by simpa [smD] using hs
          obtain ⟨m, rfl⟩ : ∃ m, n = m + 1 := ⟨n - 1, by simp [dpD] at hd; omega⟩
          obtain ⟨hl, ht⟩ := eqtL I ds es xs ys _ _ its jts m hs' (by simp [dpD] at hd; exact hd) r1 r2 rv rw_
          have q := EqTree.tuples (prog := X.prog) (w := X.w) (s := s) (n := m) (l := a) (l' := b) (vs := its.toArray) (vs' := jts.toArray) (e := fun _ => true) hab ⟨o1, g1, g2, n1, g3⟩ ⟨o2, g4, g5, n2, g6⟩ (fun j h1 h2 => ht j (by simpa using h1) (by simpa using h2))
          rw [all_true] at q
          have e : (its.toArray.size == jts.toArray.size) = true := by simp [hl]
          rw [e] at q
          exact q
    | _ => exact absurd hs (by simp [smD])
  | .dic ks ds, e, v, u, as, bs, x, y, n, hs, hd, h, k, r, q => by
    cases e with
    | dic ls es =>
        obtain ⟨⟨⟨h1, h2⟩, h3⟩, h4⟩ : ((ks.isEmpty = true ∧ ds.isEmpty = true) ∧ ls.isEmpty = true) ∧ es.isEmpty = true := by simpa [smD] using hs
        obtain ⟨a, rfl, g1, _, g2⟩ := emp_dic I h1 h2 h
        obtain ⟨b, rfl, g3, _, g4⟩ := emp_dic I h3 h4 k
        cases r
        cases q
        by_cases hab : a = b
        · rw [hab]; exact .same
        · obtain ⟨m, rfl⟩ : ∃ m, n = m + 1 := ⟨n - 1, by simp [dpD] at hd; omega⟩
          exact EqTree.dicts (ka := []) (kb := []) (e := fun _ => true) hab g1 g3 g2 g4 (fun k v y hm _ => nomatch hm)
    | _ => exact absurd hs (by simp [smD])
  | .box _ _, e, _, _, _, _, _, _, _, hs, _, _, _, _, _ => by cases e <;> exact absurd hs (by simp [smD])
theorem eqtL (I : Inv X pins σ H s) : ∀ (ds es : List D) (vs us : List V) (as bs : List Addr) (xs ys : List Value) (n : Nat), smL ds es = true → dpL ds ≤ n → RpL X.K F H ds vs as → RpL X.K F' H es us bs → Vals vs xs → Vals us ys →
    xs.length = ys.length ∧ ∀ j (h1 : j < xs.length) (h2 : j < ys.length), EqTree X.prog X.w s n xs[j] ys[j] true
  | [], [], _, _, _, _, _, _, n, _, _, h, k, r, q => by
    obtain ⟨rfl, _⟩ := h
    obtain ⟨rfl, _⟩ := k
    cases r
    cases q
    exact ⟨rfl, fun j h1 => absurd h1 (by simp)⟩
  | d :: ds, e :: es, _, _, _, _, _, _, n, hs, hd, h, k, r, q => by
    obtain ⟨v, vr, a1, a2, rfl, rfl, r1, r2⟩ := h
    obtain ⟨u, ur, b1, b2, rfl, rfl, k1, k2⟩ := k
    obtain ⟨s1, s2⟩ : smD d e = true ∧ smL ds es = true := by simpa [smL] using hs
    cases r with
    | cons p1 p2 =>
      cases q with
      | cons q1 q2 =>
        have hd' : dpD d ≤ n ∧ dpL ds ≤ n := by simp [dpL] at hd; omega
        have t1 := eqt I d e v u a1 b1 _ _ n s1 hd'.1 r1 k1 p1 q1
        obtain ⟨hl, t2⟩ := eqtL I ds es vr ur a2 b2 _ _ n s2 hd'.2 r2 k2 p2 q2
        refine ⟨by simp [hl], fun j h1 h2 => ?_⟩
        cases j with
        | zero => exact t1
        | succ j => exact t2 j (by simpa using h1) (by simpa using h2)
  | [], _ :: _, _, _, _, _, _, _, _, hs, _, _, _, _, _ => by simp [smL] at hs
  | _ :: _, [], _, _, _, _, _, _, _, hs, _, _, _, _, _ => by simp [smL] at hs
end
end
def fEqX : D → D → Option D := fun d e => if SeqAt.shaped (er d) && SeqAt.shaped (er e) then some (.bl (PyData.eqv (er d) (er e))) else match d, e with
  | .lst _ ds, .lst _ es => if smL ds es && Nat.ble (dpL ds) 32 then some (.bl true) else none
  | _, _ => none
def rEqX (K : PySem.W.Frag) : R2 := fun x y H Q => rEqD K x y H Q ∨ ∃ o o' ds es F F' as bs, Rp K F H (.lst o ds) x as ∧ Rp K F' H (.lst o' es) y bs ∧ smL ds es = true ∧ dpL ds ≤ 32 ∧ Q (.bl true) H
theorem op_eqX {X : Cx} (hu : X.A.units + 64 < cLine) : OpR X (compareOp .Eq) (rEqX X.K) := by
  intro pins s σ H x y v u Q I rx ry h
  rcases h with h | ⟨o, o', ds, es, F, F', as, bs, h, k, hs, hd, q⟩
  · exact op_eqD hu pins s σ H x y v u Q I rx ry h
  · obtain ⟨a, xs, as1, rfl, e2, _, _, r1⟩ := Rp.lst_inv h
    obtain ⟨b, ys, bs1, rfl, k2, _, _, r2⟩ := Rp.lst_inv k
    cases rx
    cases ry
    obtain ⟨its, rv, ⟨o1, n1, g1, g2, _, g3⟩, _⟩ := I.list (.of e2)
    obtain ⟨jts, rw_, ⟨o2, n2, g4, g5, _, g6⟩, _⟩ := I.list (.of k2)
    obtain ⟨hl, ht⟩ := eqtL I ds es xs ys _ _ its jts 32 hs hd r1 r2 rv rw_
    refine eq_listsT (n := 32) (l := a) (l' := b) (vs := its.toArray) (vs' := jts.toArray) (e := fun _ => true) ⟨o1, g1, g2, n1, g3⟩ ⟨o2, g4, g5, n2, g6⟩ (by simpa using hl) (fun j h1 h2 => ht j (by simpa using h1) (by simpa using h2)) (by omega) ?_
    rw [all_true]
    exact ⟨.bl true, H, I, rfl, q⟩
theorem ok_eqX {K : PySem.W.Frag} : OpS K (r2 (rEqX K)) (o2 fEqX) := by
  intro F as H ds vs z Q r h q
  match ds, h with
  | [d, e], h =>
    obtain ⟨v, u, a1, a2, rfl, e2, r1, r2⟩ := r.two
    have h2 : fEqX d e = some z := h
    unfold fEqX at h2
    by_cases c : (SeqAt.shaped (er d) && SeqAt.shaped (er e)) = true
    · rw [if_pos c] at h2
      cases h2
      rw [Bool.and_eq_true] at c
      exact ⟨v, u, rfl, .inl ⟨er d, er e, r1.dp _ _ _ (shaped_lay c.1), r2.dp _ _ _ (shaped_lay c.2), c.1, c.2, q _ (fun _ _ => ⟨rfl, rfl⟩) rfl⟩⟩
    · rw [if_neg c] at h2
      cases d with
      | lst o xs =>
        cases e with
        | lst o' ys =>
          have h3 : (if smL xs ys && Nat.ble (dpL xs) 32 then some (D.bl true) else none) = some z := h2
          by_cases c2 : (smL xs ys && Nat.ble (dpL xs) 32) = true
          · rw [if_pos c2] at h3
            cases h3
            rw [Bool.and_eq_true] at c2
            exact ⟨v, u, rfl, .inr ⟨o, o', xs, ys, F, F, a1, a2, r1, r2, c2.1, Nat.le_of_ble_eq_true c2.2, q _ (fun _ _ => ⟨rfl, rfl⟩) rfl⟩⟩
          · rw [if_neg c2] at h3; cases h3
        | _ => cases h2
      | _ => cases h2
theorem xeqX {X : Cx} {E : XK} {a bb : Expr} {ta tb : TE} {ma mb : Env → R D} {us mv us' mv' : List Nat} {pos : Pos} {k : Nat} (hr : RoomG k X.A) (ha : PX X E a ta ma us mv) (hb : PX X E bb tb mb us' mv') (ap : apart us mv us' mv' = true := by rfl) :
    PX X E (.Compare a [.Eq] [bb] pos) (tOp (rEqX X.K) ta tb) (bin ma mb fEqX) [] [] := ⟨pe_cmpR (op_eqX hr.rm.units) ha.pe hb.pe (nomark _), snd_opS ok_eqX ha.sn hb.sn ap⟩
end PV
end
section
set_option Elab.async false
set_option linter.all false
set_option maxRecDepth 100000
set_option maxHeartbeats 1000000
/-! PV19: the rules for raise and try, bundled. -/
namespace PV
open PySem PySem.Spec PyProof.Rows L2
section
variable {P : Program} {w : World} {K : PySem.W.Frag} {mg : Str → Option Value} {base : Heap} {N : List Str} {x : Str} {scope : Scope} {cdv : Value} {A : Around} {outer : List PySem.Env} {s : Shared} {H : Hp} {E : XK}
theorem tkE : Takes (XD P w K mg base N x scope cdv A outer s H E) (fun cls d _ H' => E cls d H') := takes_of rfl rfl rfl rfl
theorem passF {X : Cx} : Passes (L2.CX X.prog X.w) X (fun _ _ _ => False) := by
  intro pins σ H s e s1 I h
  obtain ⟨_, _, _, _, _, _, _, _, _, _, _, _, h⟩ := h
  exact h.elim
end
section
variable {X : Cx} {E : XK} {a n y c : Str} {DE : Addr} {ia iy ie : Nat} {p1 p2 p3 p5 p6 p7 np pos pos' : Pos}
/-- try: a() except DeedError as n: y = n -/
theorem stryc {tb : String → Option (Nat × (List D → R D))} {okc : List String} (ia iy ie : Nat) (hN : X.N.Nodup) (T : Tb X tb) (hok : ∀ c ∈ okc, PySem.W.exmOne X.K (.ref (He.ga X.K (Str.ofString c))) (.ref DE) = some true) (hm : X.mg c = some (.ref DE)) (hs : X.stack = X.env :: X.outer := by rfl) (hf : X.env.frame = some X.env.locals := by rfl)
    (hi : X.N[ie]? = some n := by rfl) (hln : X.env.kindOf n = some .local := by rfl) (hiy : X.N[iy]? = some y := by rfl) (hly : X.env.kindOf y = some .local := by rfl) (hia : X.N[ia]? = some a := by rfl) (hla : X.env.kindOf a = some .local := by rfl)
    (hg : Gl X c := by rfl) (hdb : (c == ("__debug__" : Str)) = false := by decide) (hna : (a == ("__debug__" : Str)) = false := by decide) (hna2 : (a == ("__classdict__" : Str)) = false := by decide) (hnn : (n == ("__debug__" : Str)) = false := by decide) (hnn2 : (n == ("__classdict__" : Str)) = false := by decide) (hne : ie ≠ iy := by decide)
    (hsw : swapsWith (.Call (.Name a p1) [] [] p2) none p3.line X.env = pure false := by rfl) (hsw2 : swapsWith (.Name n p6) (some (.Name y p5)) p7.line X.env = pure false := by rfl) :
    SX X E (.Try [.Expr (.Call (.Name a p1) [] [] p2) p3] [.ExceptHandler (some (.Name c np)) (some n) [.Assign [.Name y p5] (.Name n p6) p7] pos'] [] [] pos) (tTC X DE ia iy ie) (sTC tb okc ia iy ie) :=
  ⟨ps_tryc hs hf hN hi hln hiy hly hia hla ⟨hg, hdb, .inl hm⟩ hna hna2 hnn hnn2 hne hsw hsw2, sns_tryc T hok⟩
/-- a table of two defs -/
def tbTwo (x1 : String) (n1 : Nat) (f1 : List D → R D) (x2 : String) (n2 : Nat) (f2 : List D → R D) : String → Option (Nat × (List D → R D)) := fun x => if x = x1 then some (n1, f1) else if x = x2 then some (n2, f2) else none
theorem tb_two {x1 x2 : String} {k1 k2 j : Nat} {ps1 ps2 : List Str} {f1 f2 : List D → R D} (h1 : Def X.prog X.w X.K X.mg X.base k1 (Str.ofString x1) ps1 f1) (h2 : Def X.prog X.w X.K X.mg X.base k2 (Str.ofString x2) ps2 f2) (hr : RoomG j X.A) (j1 : k1 + 1 ≤ j) (j2 : k2 + 1 ≤ j) :
    Tb X (tbTwo x1 ps1.length f1 x2 ps2.length f2) := fun x n f e => by
  unfold tbTwo at e
  split at e
  · rename_i hx
    cases e
    exact ⟨k1, ps1, rfl, hr.mono j1, hx ▸ h1⟩
  · split at e
    · rename_i hx
      cases e
      exact ⟨k2, ps2, rfl, hr.mono j2, hx ▸ h2⟩
    · cases e
end
/-- {} -/
def cD0 : Env → R D := fun _ => .ok (.dic [] [])
theorem snd_d0 {K : PySem.W.Frag} {E : XK} : SndE K E tDNewK cD0 [] [] := by
  intro b F O H σ ρ S Q h a ha
  exact h (.ref a) _ (upd_same_ext ha) ⟨NoA, [], fun _ z => z.elim, List.nodup_nil, (fun _ z => nomatch z), a, [], rfl, upd_same, rfl, rfl, rfl, rfl⟩
theorem xd0 {X : Cx} {E : XK} {pos : Pos} : PX X E (.Dict [] [] pos) tDNewK cD0 [] [] := ⟨pe_dnewK, snd_d0⟩
end PV
end
section
set_option Elab.async false
set_option linter.all false
set_option maxRecDepth 100000
set_option maxHeartbeats 2000000
/-! PV20: a lambda is made, its object is told from then on. -/
namespace PV
open PySem PySem.Spec PyProof.Rows L2 LamX
section
variable {X : Cx} {pins : List (Addr × Obj)} {σ : L2.St} {H : Hp} {s : Shared}
/-- the lambda's object -/
abbrev lamObj (X : Cx) (params : Arguments) (body : Expr) (scope : Scope) (pm : Value) (c' : Addr) (ctv : Value) : Obj := PySem.W.kla_obj "<lambda>" (X.env.qual ++ "<lambda>") params body scope (cloFrom X.env.cells scope.names []) pm c' ctv
/-- what the making leaves -/
def Made (X : Cx) (T : List (Addr × Str)) (params : Arguments) (body : Expr) (scope : Scope) (H : Hp) (f : Addr) (H1 : Hp) : Prop :=
  ExtN H H1 ∧ (∀ b o, (∀ p ∈ T, p.1 ≠ b) → H b = some o → H1 b = some o) ∧ Tabs T H1 ∧ H f = none ∧ ∃ (c' : Addr) (pm ctv : Value), H1 f = some (objO f (lamObj X params body scope pm c' ctv)) ∧ H1 c' = some (CodeO c' (X.env.qual ++ "<lambda>"))
theorem lam_new {T : List (Addr × Str)} {c P : Addr} {params : Arguments} {body : Expr} {scope : Scope} {pos : Pos} {E : Value → Shared → Prop} {Q : Value → Shared → Prop} (I : Inv X pins σ H s) (TB : TabB X.base X.mg c P) (hcode : X.env.code = .ref c)
    (hm : (P, X.env.qual ++ "<lambda>") ∈ T) (hu : ∀ p ∈ T, p.1 = P → p.2 = X.env.qual ++ "<lambda>") (hT : Tabs T H) (hdef : defaultsOf params X.env = ([], [])) (hfree : ∀ y ∈ scope.names, y.2 = .free → ∃ c, X.env.cells.lookup y.1 = some c)
    (h : ∀ (f : Addr) (H1 : Hp) (s' : Shared), Inv X pins σ H1 s' → Made X T params body scope H f H1 → Q (.ref f) s') :
    wpAny (model X.prog X.w) X.A (eval (.Lambda params body scope pos) X.env) Q E s := by
  obtain ⟨ps, hP, ht, ha⟩ := hT _ hm
  refine PySem.W.kla_eval hdef ?_
  have bP : s.heap.BuiltinsAt X.mg P := TB.bm.keeps I.bk
  have hP' : s.heap.get? P = some { cls := .none, data := .fields ps } := I.hok P _ hP
  have tell : ∀ (H1 : Hp) (h1 : Heap) (tk : Nat) (pm ctv : Value) (c' : Addr), Inv X pins σ H1 { s with heap := h1, toks := tk } → s.heap.objs.size ≤ h1.objs.size → ExtN H H1 → (∀ b o, (∀ p ∈ T, p.1 ≠ b) → H b = some o → H1 b = some o) → Tabs T H1 → H1 c' = some (CodeO c' (X.env.qual ++ "<lambda>")) →
      Q (.ref h1.objs.size) { s with heap := h1.push (lamObj X params body scope pm c' ctv), toks := tk } := fun H1 h1 tk pm ctv c' J hsz hE hE2 T1 hc => by
    have hn : H1 h1.objs.size = none := J.hok.fresh (Nat.le_refl _)
    have J2 := J.laid (a := h1.objs.size) (o := objO h1.objs.size (lamObj X params body scope pm c' ctv)) (t' := tk) (h' := h1.push (lamObj X params body scope pm c' ctv)) (fun b u q => Heap.get?_push_of_some _ q) (Nat.le_refl _) (objO_ok (Heap.get?_push_size _ rfl))
    have nh : H h1.objs.size = none := I.hok.fresh hsz
    refine h _ _ _ J2 ⟨fun b o e n => ?_, fun b o n e => ?_, T1.ext fun b o e => ?_, nh, c', pm, ctv, upd_same, ?_⟩
    · rw [upd_ne (ne_of_none e nh)]; exact hE b o e n
    · rw [upd_ne (ne_of_none e nh)]; exact hE2 b o n e
    · rw [upd_ne (ne_of_none e hn)]; exact e
    · rw [upd_ne (ne_of_none hc hn)]; exact hc
  cases hc : codeAmong pos ps.toList with
  | none =>
    refine PySem.W.kla_makeFunction (mg := X.mg) (c := c) (P := P) (ps := ps) (closure_ok hfree) I.ok.glob (I.mod.glob.keeps I.bk) hcode (TB.code.keeps I.bk) hP' ht hc TB.gP bP fun c' ctv h' tk hx hge hlt hrec htb => ?_
    obtain ⟨c2, oc, vs, t, e2, hoc, hd, hv⟩ := hrec
    cases e2
    have hsz : s.heap.objs.size ≤ h'.objs.size := Nat.le_trans hge (Nat.le_of_lt hlt)
    have nC : H c' = none := I.hok.fresh hge
    have I1 := inv_table (t' := tk) (more := #[rawInt pos.line, rawInt pos.col, .ref c']) (h' := h') I hP (fun b o hb e => hx b o hb e) htb hge ⟨oc, vs, t, hoc, hd, hv⟩
    have hE : ExtN H (upd (upd H P (.tbl (ps ++ #[rawInt pos.line, rawInt pos.col, .ref c']))) c' (CodeO c' (X.env.qual ++ "<lambda>"))) := fun b o e n => by
      rw [upd_ne (ne_of_none e nC), upd_ne (fun z => n ps (Option.some.inj (e.symm.trans (by rw [z]; exact hP))))]
      exact e
    have eL : (ps ++ #[rawInt pos.line, rawInt pos.col, .ref c']).toList = ps.toList ++ [rawInt pos.line, rawInt pos.col, .ref c'] := by simp
    refine tell _ h' tk _ ctv c' I1 hsz hE (fun b o n e => by rw [upd_ne (ne_of_none e nC), upd_ne (fun z => n _ hm z.symm)]; exact e) (fun p hp => ?_) upd_same
    by_cases hb : p.1 = P
    · rw [hu p hp hb, hb]
      refine ⟨_, by rw [upd_ne (ne_of_none hP nC), upd_same], by rw [eL]; exact PySem.TriplesOk_snoc _ _ _ _ ht, fun p' cv hcv => ?_⟩
      rw [eL] at hcv
      rcases among_app _ ht hcv with z | z
      · obtain ⟨c0, e1, e2⟩ := ha p' cv z
        exact ⟨c0, e1, hE _ _ e2 codeO_ne⟩
      · exact ⟨c', z, upd_same⟩
    · obtain ⟨ps', a1, a2, a3⟩ := hT p hp
      refine ⟨ps', by rw [upd_ne (ne_of_none a1 nC), upd_ne hb]; exact a1, a2, fun p' cv hcv => ?_⟩
      obtain ⟨c0, e1, e2⟩ := a3 p' cv hcv
      exact ⟨c0, e1, hE _ _ e2 codeO_ne⟩
  | some cv =>
    obtain ⟨c', e, hco⟩ := ha pos cv hc
    subst e
    refine PySem.W.kla_makeFunctionHit (mg := X.mg) (c := c) (P := P) (ps := ps) (closure_ok hfree) I.ok.glob (I.mod.glob.keeps I.bk) hcode (TB.code.keeps I.bk) hP' ht hc bP fun ctv h' tk hx hsz => ?_
    have I1 : Inv X pins σ H { s with heap := h', toks := tk } := I.kept fun b o e => hx b o e
    exact tell H h' tk _ ctv c' I1 hsz (ExtN.refl H) (fun _ _ _ e => e) hT hco
/-- a lambda as an expression -/
def tLamO (X : Cx) (T : List (Addr × Str)) (params : Arguments) (body : Expr) (scope : Scope) : TE := fun σ H Q => Tabs T H ∧ ∀ f H1, Made X T params body scope H f H1 → Q (.ref f) H1
theorem pe_lam {T : List (Addr × Str)} {c P : Addr} {params : Arguments} {body : Expr} {scope : Scope} {pos : Pos} (TB : TabB X.base X.mg c P) (hcode : X.env.code = .ref c) (hm : (P, X.env.qual ++ "<lambda>") ∈ T) (hu : ∀ p ∈ T, p.1 = P → p.2 = X.env.qual ++ "<lambda>")
    (hdef : defaultsOf params X.env = ([], [])) (hL : LamS X.env.scope scope) : PE X (.Lambda params body scope pos) (tLamO X T params body scope) :=
  ⟨fun pins s σ H Q I h => lam_new I TB hcode hm hu h.1 hdef (hL.has I.ok) fun f H1 s' J m => ⟨.ref f, H1, J, rfl, h.2 f H1 m⟩⟩
end
end PV
end
section
set_option Elab.async false
set_option linter.all false
set_option maxRecDepth 100000
set_option maxHeartbeats 2000000
/-! PV21: a def is called while the caller's cells are told. -/
namespace PV
open PySem PySem.Spec PyProof.Rows L2 LamX
/-- the addresses of the cells -/
def celL (cells : List (Str × Addr)) : List Addr := (cells.map (·.1)).filterMap fun y => cells.lookup y
theorem celL_in {cells : List (Str × Addr)} {y : Str} {c : Addr} (h : cells.lookup y = some c) : c ∈ celL cells :=
  List.mem_filterMap.mpr ⟨y, List.mem_map.mpr ⟨(y, c), PySem.mem_of_lookup h, rfl⟩, h⟩
theorem celL_of {cells : List (Str × Addr)} {c : Addr} (h : c ∈ celL cells) : ∃ y, cells.lookup y = some c := by
  obtain ⟨y, _, e⟩ := List.mem_filterMap.mp h
  exact ⟨y, e⟩
/-- Hc tells of the cells what H does not -/
structure Told (X : Cx) (σ : L2.St) (H Hc : Hp) : Prop where
  has : ∀ y, (X.env.scope.names.lookup y = some .cell ∨ X.env.scope.names.lookup y = some .free) → ∃ c, X.env.cells.lookup y = some c
  inj : ∀ y z c, X.env.cells.lookup y = some c → X.env.cells.lookup z = some c → y = z
  out : ∀ b, b ∉ celL X.env.cells → Hc b = H b
  non : ∀ b, b ∈ celL X.env.cells → H b = none
  cel : ∀ y c, X.env.cells.lookup y = some c → ∃ o u, Hc c = some (objO c o) ∧ o.data = .cell u
  val : ∀ (i : Nat) (y : Str) (v : V) (c : Addr), X.N[i]? = some y → σ[i]? = some (some v) → (X.env.scope.names.lookup y = some .cell ∨ X.env.scope.names.lookup y = some .free) → X.env.cells.lookup y = some c → ∃ o u, Hc c = some (objO c o) ∧ o.data = .cell (some u) ∧ RelV v u
def tCallC (X : Cx) (sp : Sp) (t : TA) : TE := fun σ H Q => t σ H fun vs H1 => ∀ Hc, Told X σ H1 Hc → sp vs Hc (fun v H' => (∀ c ∈ celL X.env.cells, H' c = Hc c) ∧ Q v (minus H' (celL X.env.cells))) (fun _ _ _ => False)
section
variable {X : Cx} {pins : List (Addr × Obj)} {σ : L2.St} {H : Hp} {s : Shared}
/-- what the state tells of the cells -/
def tellC (X : Cx) (s : Shared) (H : Hp) : Hp := fun b => if b ∈ celL X.env.cells then (s.heap.get? b).map (objO b) else H b
theorem told_of (I : Inv X pins σ H s) : Told X σ H (tellC X s H) where
  has := fun y h => I.ok.has y h
  inj := I.ok.inj
  out := fun b hb => if_neg hb
  non := fun b hb => by
    obtain ⟨y, e⟩ := celL_of hb
    exact I.freeC y b e
  cel := fun y c e => by
    obtain ⟨v, o, h1, h2⟩ := I.cell y c e
    exact ⟨o, v, by unfold tellC; rw [if_pos (celL_in e), h1]; rfl, h2⟩
  val := fun i y v c hN hσ hk e => by
    obtain ⟨m, hn, hl⟩ := I.loc
    obtain ⟨u, r, l⟩ := hl i y v hN hσ (hk.elim (fun z => .inr (.inl z)) fun z => .inr (.inr z))
    rcases l with ⟨k', _⟩ | ⟨_, c', e', o, h1, h2⟩
    · have k' : X.env.scope.names.lookup y = some .local := k'
      rcases hk with z | z <;> rw [z] at k' <;> cases k'
    · rw [e] at e'
      cases e'
      exact ⟨o, u, by unfold tellC; rw [if_pos (celL_in e), h1]; rfl, h2, r⟩
theorem told_at {c : Addr} (I : Inv X pins σ H s) (h : c ∈ celL X.env.cells) : ∃ o, tellC X s H c = some (objO c o) ∧ s.heap.get? c = some o := by
  obtain ⟨y, e⟩ := celL_of h
  obtain ⟨v, o, h1, h2⟩ := I.cell y c e
  exact ⟨o, by unfold tellC; rw [if_pos h, h1]; rfl, h1⟩
theorem told_ok (I : Inv X pins σ H s) : HOk X.prog X.w (tellC X s H) s.heap := fun b o e => by
  by_cases hb : b ∈ celL X.env.cells
  · obtain ⟨o', h1, h2⟩ := told_at I hb
    rw [h1] at e
    cases e
    exact objO_ok h2
  · have e' : H b = some o := by rw [← (told_of I).out b hb]; exact e
    refine (I.hok b o e').stay (fun _ _ _ q => q) (fun c hc => ?_) fun c xs hc => ?_
    · rw [(told_of I).out c (fun z => by rw [(told_of I).non c z] at hc; cases hc)]; exact hc
    · rw [(told_of I).out c (fun z => by rw [(told_of I).non c z] at hc; cases hc)]; exact hc
/-- the cells are younger than the base, and no frames -/
def NewC (X : Cx) : Prop := ∀ y c, X.env.cells.lookup y = some c → X.base.objs.size ≤ c ∧ c ∉ frs X.stack
theorem told_new (I : Inv X pins σ H s) (hfn : NewC X) {c : Addr} (h : c ∈ celL X.env.cells) : X.base.objs.size ≤ c ∧ c ∉ frs X.stack := by
  obtain ⟨y, e⟩ := celL_of h
  exact hfn y c e
theorem newC_of (I : Inv X pins σ H s) (hfn : ∀ y, X.fn y = true) : NewC X := fun y c e => by
  have h1 := I.ok.cab y c (hfn y) e
  refine ⟨Nat.le_trans I.ok.bsz h1, fun z => ?_⟩
  rcases List.mem_cons.mp (I.stkSub c z) with q | q
  · exact I.cne y c e q
  · obtain ⟨_, o', e', _⟩ := I.ok.funs.mem q
    exact Nat.lt_irrefl _ (Nat.lt_of_lt_of_le (Heap.lt_size e') h1)
theorem told_env0 (I : Inv X pins σ H s) (hfn : NewC X) : Env0 X.prog X.w X.K X.mg X.base X.A X.stack s (tellC X s H) := by
  have e0 := I.env0
  refine ⟨e0.frames, e0.mod, fun b o e => ⟨(e0.bs b o e).1, ?_⟩, e0.bsz, e0.funs, fun b hb => ?_, told_ok I, e0.bare⟩
  · rw [(told_of I).out b (fun z => ?_)]
    · exact (e0.bs b o e).2
    · exact Nat.lt_irrefl _ (Nat.lt_of_lt_of_le (Heap.lt_size e) (told_new I hfn z).1)
  · rw [(told_of I).out b (fun z => (told_new I hfn z).2 hb)]
    exact e0.frf b hb
theorem told_back {Q : VK} {u : Value} {s' : Shared} (I : Inv X pins σ H s) (hfn : NewC X)
    (h : CE X.stack X.prog X.w (tellC X s H) s (fun v H' => (∀ c ∈ celL X.env.cells, H' c = tellC X s H c) ∧ Q v (minus H' (celL X.env.cells))) u s') : CE X.stack X.prog X.w H s Q u s' := by
  obtain ⟨v, H', os, bare, un, hok, r, hc, q⟩ := h
  have T := told_of I
  have hH' : ∀ c ∈ celL X.env.cells, ∃ o, H' c = some (objO c o) ∧ s.heap.get? c = some o := fun c z => by
    obtain ⟨o, h1, h2⟩ := told_at I z
    exact ⟨o, (hc c z).trans h1, h2⟩
  have C : Cel H' (celL X.env.cells) := fun c z => by
    obtain ⟨o, h1, _⟩ := hH' c z
    exact ⟨o, h1⟩
  have outN : ∀ {b : Addr} {o : HO}, H b = some o → b ∉ celL X.env.cells := fun {b o} e z => by rw [T.non b z] at e; cases e
  refine ⟨v, minus H' (celL X.env.cells), os, bare, ?_, hok_minus hok C, r, q⟩
  exact {
    keep := fun b o e n hf hx => by
      by_cases hb : b ∈ celL X.env.cells
      · obtain ⟨o', h1, h2⟩ := hH' b hb
        rw [h2] at e
        cases e
        exact objO_at hok h1
      · exact un.keep b o e (by rw [T.out b hb]; exact n) hf hx
    slot := fun b o e n hf hx => by
      by_cases hb : b ∈ celL X.env.cells
      · exact absurd hf (told_new I hfn hb).2
      · exact un.slot b o e (by rw [T.out b hb]; exact n) hf hx
    free := fun b o e n hx => by
      by_cases hb : b ∈ celL X.env.cells
      · exact minus_in hb
      · rw [minus_out hb]
        exact un.free b o e (by rw [T.out b hb]; exact n) hx
    there := un.there
    tups := fun b xs e => by
      rw [minus_out (outN e)]
      exact un.tups b xs (by rw [T.out b (outN e)]; exact e)
    frzs := fun b o u e => by
      rw [minus_out (outN e)]
      exact un.frzs b o u (by rw [T.out b (outN e)]; exact e)
    tbls := fun b ps e => by
      rw [minus_out (outN e)]
      exact un.tbls b ps (by rw [T.out b (outN e)]; exact e) }
end
section
variable {X : Cx} {k : Nat} {f : Addr} {fd : FuncData} {ps : List Str} {sp : Sp} {x : Str} {p pos : Pos} {e : Expr} {es : List Expr} {t : TA}
theorem pe_callC (F : FnG X.prog X.w X.K X.mg X.base (L2.CX X.prog X.w) k f fd ps sp) (hr : RoomG k X.A) (hfn0 : (∀ y, X.fn y = true) ∨ NewC X) (hg : Gl X x) (hm : X.mg x = some (.ref f)) (hk : PySem.W.keepIn X.K (.ref f) = true) (hb : Binds X.K fd ps [])
    (ha : PA X (e :: es) t) (hdb : (x == ("__debug__" : Str)) = false := by decide) (he : starEach (e :: es) X.env = (false, eval e X.env) :: starEach es X.env := by rfl) (hpl : (backTo pos (starEach es X.env)).any (·.1) = false := by rfl) :
    PE X (.Call (.Name x p) (e :: es) [] pos) (tCallC X sp t) := by
  refine ⟨fun pins s σ H Q I h => ?_⟩
  refine wpAny_Call_Name_kw (ld_glob I hg hm ?_ hdb)
  refine PySem.W.callWith_K (h₀ := X.base) I.ok.mod.kin hk (thn (ha.run pos pins s σ H _ I h) fun us s1 ⟨vs, H1, I1, r, q⟩ => ⟨I1.kIn, ?_⟩) he hpl
  have hfn := hfn0.elim (newC_of I1) id
  have hq := q _ (told_of I1)
  have hl : (us ++ []).length = ps.length := by
    have e1 := F.len _ _ _ _ hq
    rw [List.append_nil, ← r.length]
    exact e1
  have hb1 := hb s1 us I1.kIn hl
  rw [List.append_nil] at hb1
  refine wpAny_call (codeAny_mono (F.run X.A X.stack s1 _ ⟨us, []⟩ us vs _ _ hr (told_env0 I1 hfn) hb1 r hq) fun r s' hq => ?_)
  cases r with
  | error e =>
    obtain ⟨_, _, _, _, _, _, _, _, _, _, _, _, z⟩ := hq
    exact z.elim
  | ok fl =>
    cases fl with
    | ret u => exact I1.after (told_back I1 hfn hq)
    | next => exact False.elim hq
    | brk => exact False.elim hq
    | cont => exact False.elim hq
end
end PV
end
section
set_option Elab.async false
set_option linter.all false
set_option maxRecDepth 100000
set_option maxHeartbeats 1000000
/-! PV22: states beside which a generator stands (a list of three ints at g, slot 0) and tables of code objects; one step of them. -/
namespace PV
open PySem PySem.Spec PyProof.Rows L2 LamX Classical
/-- the generator's list, with room for n draws -/
structure GOk (n : Nat) (g : Addr) (H : Hp) : Prop where
  ex : ∃ a b c : Int, H g = some (.lst [.int a, .int b, .int c]) ∧ (0 ≤ a ∧ a < 2 ^ 2100) ∧ (0 ≤ b ∧ b < 2 ^ 31) ∧ 0 ≤ c ∧ c + n ≤ 2 ^ 40
theorem GOk.less {m n : Nat} {g : Addr} {H : Hp} (h : GOk n g H) (l : m ≤ n) : GOk m g H := by
  obtain ⟨a, b, c, h1, h2, h3, h4, h5⟩ := h.ex
  exact ⟨a, b, c, h1, h2, h3, h4, by omega⟩
/-- the changing places: the generator's list, the tables -/
def Zs (g : Addr) (T : List (Addr × Str)) (a : Addr) : Prop := a = g ∨ ∃ p ∈ T, p.1 = a
/-- all else is kept -/
def Imp (g : Addr) (T : List (Addr × Str)) (H H' : Hp) : Prop := ∀ b o, ¬ Zs g T b → H b = some o → H' b = some o
section
variable {g : Addr} {T : List (Addr × Str)} {H H1 H2 H' : Hp}
theorem Imp.refl : Imp g T H H := fun _ _ _ h => h
theorem Imp.trans (a : Imp g T H H1) (b : Imp g T H1 H2) : Imp g T H H2 := fun c o h e => b c o h (a c o h e)
theorem Imp.of (s : Same H H') : Imp g T H H' := fun b o _ e => s b o e
theorem Imp.upd {o : HO} : Imp g T H (upd H g o) := fun b u h e => by rw [upd_ne (fun z => h (.inl z))]; exact e
theorem Imp.tab (s : ∀ b o, (∀ p ∈ T, p.1 ≠ b) → H b = some o → H1 b = some o) : Imp g T H H1 := fun b o h e => s b o (fun p hp z => h (.inr ⟨p, hp, z⟩)) e
end
/-- the base, renewed at the changing places -/
noncomputable def Bs.renew {E : XK} (b : Bs E) (g : Addr) (T : List (Addr × Str)) (H' : Hp) (hE : ∀ c d H, ¬ E c d H) : Bs E where
  G0 := b.G0
  H0 := fun a => if Zs g T a then H' a else b.H0 a
  B := b.B
  HB := fun a => if Zs g T a then H' a else b.HB a
  al := fun _ _ => .inl hE
/-- the changing places stand apart from what is held -/
structure Apt (g : Addr) (T : List (Addr × Str)) (F : Addr → Prop) (O : Nat → List Addr) (H : Hp) : Prop where
  zl : ∀ a, Zs g T a → ∃ o, H a = some o ∧ isLst o = true
  zF : ∀ a, Zs g T a → ¬ F a
  zO : ∀ a, Zs g T a → ∀ i, a ∉ O i
section
variable {K : PySem.W.Frag} {E : XK} {b : Bs E} {F : Addr → Prop} {O : Nat → List Addr} {H H' : Hp} {σ : L2.St} {ρ : Env} {g : Addr} {T : List (Addr × Str)}
theorem Sd.renew (S : Sd K b F O H σ ρ) (s : Imp g T H H') (A : Apt g T F O H) (hE : ∀ c d H, ¬ E c d H) : Sd K (b.renew g T H' hE) F O H' σ ρ where
  len := S.len
  at_ := fun i d e => by
    obtain ⟨v, h1, h2⟩ := S.at_ i d e
    refine ⟨v, h1, Rp.mono (fun _ z => z) (fun a o ha ho => s a o (fun z => ?_) ha) d v _ (fun a xs z ha => s a _ (fun y => ?_) ha) h2⟩
    · obtain ⟨o', q1, q2⟩ := A.zl a z
      rw [ha] at q1
      cases q1
      rw [ho] at q2
      cases q2
    · exact z.elim (A.zF a y) (A.zO a y i)
  fdom := fun a h => by
    cases e : H a with
    | none => exact absurd e (S.fdom a h)
    | some o => rw [s a o (fun z => A.zF a z h) e]; exact Option.some_ne_none _
  fr := fun a h => by
    have hz : ¬ Zs g T a := fun z => A.zF a z h
    rcases S.fr a h with q | q
    · exact .inl q
    · exact .inr ((if_neg hz).trans q)
  nd := S.nd
  dj := S.dj
  own := fun i a h => by
    have hz : ¬ Zs g T a := fun z => A.zO a z i h
    obtain ⟨q1, q2, q3⟩ := S.own i a h
    refine ⟨q1, (if_neg hz).trans q2, ?_⟩
    cases e : H a with
    | none => exact absurd e q3
    | some o => rw [s a o hz e]; exact Option.some_ne_none _
  same := fun a o h => by
    by_cases hz : Zs g T a
    · have h' : (if Zs g T a then H' a else b.H0 a) = some o := h
      rw [if_pos hz] at h'
      exact h'
    · have h' : (if Zs g T a then H' a else b.H0 a) = some o := h
      rw [if_neg hz] at h'
      exact s a o hz (S.same a o h')
  sub := S.sub
  keep := fun a o h z => by
    have h' : (if Zs g T a then H' a else b.HB a) = some o := h
    by_cases hz : Zs g T a
    · rw [if_pos hz] at h'
      exact h'
    · rw [if_neg hz] at h'
      exact s a o hz (S.keep a o h' z)
/-- after pure code: what is new stands apart too -/
theorem Apt.fwd {H1 : Hp} {F1 : Addr → Prop} {O1 : Nat → List Addr} (A : Apt g T F O H) (s : Same H H1) (hF : ∀ a, F1 a → F a ∨ (∃ i, a ∈ O i) ∨ H a = none) (hO : ∀ i a, a ∈ O1 i → F a ∨ (∃ i, a ∈ O i) ∨ H a = none) : Apt g T F1 O1 H1 := by
  have no : ∀ a, Zs g T a → ¬ (F a ∨ (∃ i, a ∈ O i) ∨ H a = none) := fun a z q => by
    rcases q with q | ⟨i, q⟩ | q
    · exact A.zF a z q
    · exact A.zO a z i q
    · obtain ⟨o, e, _⟩ := A.zl a z
      rw [q] at e
      cases e
  exact ⟨fun a z => by
    obtain ⟨o, e, l⟩ := A.zl a z
    exact ⟨o, s a o e, l⟩, fun a z h => no a z (hF a h), fun a z i h => no a z (hO i a h)⟩
end
end PV
end
section
set_option Elab.async false
set_option linter.all false
set_option maxRecDepth 100000
set_option maxHeartbeats 1000000
/-! PV23: the judgements for code that holds the generator (W): what is asked before, what is told behind. -/
namespace PV
open PySem PySem.Spec PyProof.Rows L2 LamX Classical
/-- H, at the changing places as H' tells -/
noncomputable def zh (g : Addr) (T : List (Addr × Str)) (H H' : Hp) : Hp := fun a => if Zs g T a then H' a else H a
structure AptB {E : XK} (g : Addr) (T : List (Addr × Str)) (b : Bs E) : Prop where
  g0 : ∀ a, Zs g T a → ¬ b.G0 a
  h0 : ∀ a, Zs g T a → ∃ o, b.H0 a = some o ∧ isLst o = true
/-- later bases of the same entry -/
structure BRel {E : XK} (g : Addr) (T : List (Addr × Str)) (b b' : Bs E) : Prop where
  g0 : b'.G0 = b.G0
  h0 : ∀ a, ¬ Zs g T a → b'.H0 a = b.H0 a
  bb : b'.B = b.B
  hb : ∀ a, ¬ Zs g T a → b'.HB a = b.HB a
section
variable {hd : Bool} {K : PySem.W.Frag} {E : XK} {b b' b2 : Bs E} {F : Addr → Prop} {O : Nat → List Addr} {H H' H1 H2 : Hp} {σ : L2.St} {ρ : Env} {g : Addr} {T : List (Addr × Str)} {n m : Nat}
theorem BRel.refl : BRel g T b b := ⟨rfl, fun _ _ => rfl, rfl, fun _ _ => rfl⟩
theorem BRel.trans (x : BRel g T b b') (y : BRel g T b' b2) : BRel g T b b2 := ⟨y.g0.trans x.g0, fun a h => (y.h0 a h).trans (x.h0 a h), y.bb.trans x.bb, fun a h => (y.hb a h).trans (x.hb a h)⟩
theorem AptB.apt (A : AptB g T b) (S : Sd K b F O H σ ρ) : Apt g T F O H where
  zl := fun a z => by
    obtain ⟨o, e, l⟩ := A.h0 a z
    exact ⟨o, S.same a o e, l⟩
  zF := fun a z h => by
    rcases S.fr a h with q | q
    · exact A.g0 a z q
    · obtain ⟨o, e, _⟩ := A.h0 a z
      rw [q] at e
      cases e
  zO := fun a z i h => by
    obtain ⟨o, e, _⟩ := A.h0 a z
    rw [(S.own i a h).2.1] at e
    cases e
/-- a state beside the generator (room for n draws) and the tables -/
structure WSt (K : PySem.W.Frag) (hd : Bool) (g : Addr) (T : List (Addr × Str)) (n : Nat) {E : XK} (b : Bs E) (F : Addr → Prop) (O : Nat → List Addr) (H : Hp) (σ : L2.St) (ρ : Env) : Prop where
  sd : Sd K b F O H σ ρ
  ap : AptB g T b
  s0 : hd = true → σ[0]? = some (some (.ref g))
  r0 : hd = true → ρ[0]? = some none
  go : GOk n g H
  tb : Tabs T H
  no : ∀ c d H, ¬ E c d H
theorem GOk.same {H H1 : Hp} (h : GOk n g H) (s : Same H H1) : GOk n g H1 := by
  obtain ⟨a, b, c, h1, r⟩ := h.ex
  exact ⟨a, b, c, s _ _ h1, r⟩
theorem WSt.fwd (W : WSt K hd g T n b F O H σ ρ) (s : Same H H1) : WSt K hd g T n b F O H1 σ ρ := ⟨W.sd.fwd s, W.ap, W.s0, W.r0, W.go.same s, W.tb.ext fun b o e => s b o e, W.no⟩
theorem WSt.less (W : WSt K hd g T n b F O H σ ρ) (l : m ≤ n) : WSt K hd g T m b F O H σ ρ := ⟨W.sd, W.ap, W.s0, W.r0, W.go.less l, W.tb, W.no⟩
/-- a step of the changing places -/
theorem WSt.imp (W : WSt K hd g T n b F O H σ ρ) (s : Imp g T H H') (go : GOk m g H') (tb : Tabs T H') : ∃ b', BRel g T b b' ∧ WSt K hd g T m b' F O H' σ ρ := by
  have A := W.ap.apt W.sd
  refine ⟨b.renew g T H' W.no, ⟨rfl, fun a h => if_neg h, rfl, fun a h => if_neg h⟩, W.sd.renew s A W.no, ⟨W.ap.g0, fun a z => ?_⟩, W.s0, W.r0, go, tb, W.no⟩
  have e0 : (b.renew g T H' W.no).H0 a = H' a := if_pos z
  rw [e0]
  rcases z with rfl | ⟨p, hp, rfl⟩
  · obtain ⟨x, y, c, h1, _⟩ := go.ex
    exact ⟨_, h1, rfl⟩
  · obtain ⟨ps, h1, _⟩ := tb p hp
    exact ⟨_, h1, rfl⟩
theorem zh_same (s : Same H H1) (hz : ∀ a, Zs g T a → H a ≠ none) : zh g T H H1 = H := by
  funext a
  by_cases z : Zs g T a
  · cases e : H a with
    | none => exact absurd e (hz a z)
    | some o =>
      show (if Zs g T a then H1 a else H a) = some o
      rw [if_pos z]
      exact s a o e
  · exact if_neg z
theorem zh_imp (s : Imp g T H H1) : Same (zh g T H H1) H1 := fun a o e => by
  have e' : (if Zs g T a then H1 a else H a) = some o := e
  by_cases z : Zs g T a
  · rw [if_pos z] at e'; exact e'
  · rw [if_neg z] at e'; exact s a o z e'
/-- an expression: k draws at most; pre asked of the names, post told of them and the value -/
def HE (K : PySem.W.Frag) (hd : Bool) (g : Addr) (T : List (Addr × Str)) (k : Nat) (t : TE) (pre : Env → Prop) (post : Env → D → Prop) (us mv : List Nat) : Prop :=
  ∀ ⦃E : XK⦄ (n : Nat) (b : Bs E) F O H σ ρ, WSt K hd g T (n + k) b F O H σ ρ → pre ρ → ∀ Q : VK, (∀ d v b' H', BRel g T b b' → WSt K hd g T n b' F O H' σ ρ → Imp g T H H' → RpX K (Al F O us) (Mv O mv) (zh g T H H') H' d v → post ρ d → Q v H') → t σ H Q
theorem he_pure {t : TE} {me : Env → R D} {us mv : List Nat} {pre : Env → Prop} {post : Env → D → Prop} (h : ∀ E : XK, SndE K E t me us mv) (hp : ∀ ρ, pre ρ → ∃ d, me ρ = .ok d ∧ post ρ d) : HE K hd g T 0 t pre post us mv := by
  intro E n b F O H σ ρ W p Q q
  obtain ⟨d, e, hd⟩ := hp ρ p
  refine h E b F O H σ ρ W.sd Q ?_
  rw [e]
  intro v H' s r
  have A := W.ap.apt W.sd
  refine q d v b H' .refl (W.fwd s) (.of s) ?_ hd
  rw [zh_same s fun a z => by
    obtain ⟨o, e, _⟩ := A.zl a z
    rw [e]; exact Option.some_ne_none _]
  exact r
/-- a def that holds the generator: its other arguments ds, k draws at most -/
def spW (K : PySem.W.Frag) (T : List (Addr × Str)) (k len : Nat) (pre : List D → Prop) (post : List D → D → Prop) : Sp := fun vs H Q E => ∃ (g : Addr) (vs' : List V) (n : Nat) (F : Addr → Prop) (ds : List D), vs = .ref g :: vs' ∧ ds.length = len ∧ (∀ a, F a → H a ≠ none) ∧ RpL K F H ds vs' [] ∧ pre ds ∧
  GOk (n + k) g H ∧ Tabs T H ∧ (∀ a, Zs g T a → ¬ F a) ∧ (∀ c d H, ¬ E c d H) ∧ ∀ d v H', Imp g T H H' → GOk n g H' → Tabs T H' → RpX K F NoA (zh g T H H') H' d v → post ds d → Q v H'
end
end PV
end
section
set_option Elab.async false
set_option linter.all false
set_option maxRecDepth 100000
set_option maxHeartbeats 1000000
/-! PV24: expressions that hold the generator: arguments, operations, calls. -/
namespace PV
open PySem PySem.Spec PyProof.Rows L2 LamX Classical
section
variable {hd : Bool} {K : PySem.W.Frag} {E : XK} {b b' b2 : Bs E} {F : Addr → Prop} {O : Nat → List Addr} {H H' H1 H2 : Hp} {σ : L2.St} {ρ : Env} {g : Addr} {T : List (Addr × Str)} {n m k k1 k2 : Nat} {us us' mv mv' : List Nat}
def HEA (K : PySem.W.Frag) (hd : Bool) (g : Addr) (T : List (Addr × Str)) (k : Nat) (t : TA) (pre : Env → Prop) (post : Env → List D → Prop) (us mv : List Nat) : Prop :=
  ∀ ⦃E : XK⦄ (n : Nat) (b : Bs E) F O H σ ρ, WSt K hd g T (n + k) b F O H σ ρ → pre ρ → ∀ Q : List V → Hp → Prop, (∀ ds vs b' H', BRel g T b b' → WSt K hd g T n b' F O H' σ ρ → Imp g T H H' → RpXL K (Al F O us) (Mv O mv) (zh g T H H') H' ds vs → post ρ ds → Q vs H') → t σ H Q
theorem Apt.al (A : Apt g T F O H) {a : Addr} (z : Zs g T a) : ¬ Al F O us a := fun h => h.elim (A.zF a z) fun ⟨i, _, q⟩ => A.zO a z i q
theorem Apt.mvz (A : Apt g T F O H) {a : Addr} (z : Zs g T a) : ¬ Mv O mv a := fun ⟨i, _, q⟩ => A.zO a z i q
theorem Apt.dom (A : Apt g T F O H) {a : Addr} (z : Zs g T a) : H a ≠ none := by
  obtain ⟨o, e, _⟩ := A.zl a z
  rw [e]; exact Option.some_ne_none _
theorem zh_in {a : Addr} (z : Zs g T a) : zh g T H H1 a = H1 a := if_pos z
theorem zh_out {a : Addr} (z : ¬ Zs g T a) : zh g T H H1 a = H a := if_neg z
/-- a result stands while the changing places change -/
theorem RpX.step {G M : Addr → Prop} {d : D} {v : V} (r : RpX K G M (zh g T H H1) H1 d v) (s : Imp g T H1 H2) (hG : ∀ a, Zs g T a → ¬ G a ∧ ¬ M a ∧ H1 a ≠ none ∧ ∀ o, H1 a = some o → isLst o = true) : RpX K G M (zh g T H H2) (zh g T H1 H2) d v := by
  obtain ⟨F', as, h1, h2, h3, h4⟩ := r
  have nF : ∀ a, F' a → ¬ Zs g T a := fun a h z => by
    rcases (h1 a h).1 with q | q
    · exact (hG a z).1 q
    · rw [zh_in z] at q
      exact (hG a z).2.2.1 q
  have nA : ∀ a ∈ as, ¬ Zs g T a := fun a h z => by
    rcases (h3 a h).1 with q | q
    · rw [zh_in z] at q
      exact (hG a z).2.2.1 q
    · exact (hG a z).2.1 q
  refine ⟨F', as, fun a h => ⟨?_, ?_⟩, h2, fun a h => ⟨?_, (h3 a h).2⟩, Rp.mono (fun _ z => z) (fun a o e l => ?_) d v as (fun a xs z e => ?_) h4⟩
  · rcases (h1 a h).1 with q | q
    · exact .inl q
    · rw [zh_out (nF a h)] at q ⊢
      exact .inr q
  · rw [zh_out (nF a h)]
    exact (h1 a h).2
  · rcases (h3 a h).1 with q | q
    · rw [zh_out (nA a h)] at q ⊢
      exact .inl q
    · exact .inr q
  · rw [zh_out (fun z => by
      have y := (hG a z).2.2.2 o e
      rw [l] at y
      cases y)]
    exact e
  · rw [zh_out (z.elim (nF a) (nA a))]
    exact e
theorem pair_step {d : D} {v : V} {ds : List D} {vs : List V} (S : Sd K b F O H σ ρ) (A : Apt g T F O H) (A1 : Apt g T F O H1) (ap : (∀ i ∈ mv, i ∉ us') ∧ (∀ i ∈ mv, i ∉ mv') ∧ ∀ i ∈ mv', i ∉ us) (s1 : Imp g T H H1) (s2 : Imp g T H1 H2)
    (r1 : RpX K (Al F O us) (Mv O mv) (zh g T H H1) H1 d v) (r2 : RpXL K (Al F O us') (Mv O mv') (zh g T H1 H2) H2 ds vs) : RpXL K (Al F O (us ++ us')) (Mv O (mv ++ mv')) (zh g T H H2) H2 (d :: ds) (v :: vs) := by
  have r1' := r1.step s2 fun a z => ⟨A.al z, A.mvz z, A1.dom z, fun o e => by
    obtain ⟨o', e', l⟩ := A1.zl a z
    rw [e] at e'
    cases e'
    exact l⟩
  have dz : ∀ {a : Addr}, H a ≠ none → ¬ Zs g T a → zh g T H H2 a ≠ none := fun h z => by rw [zh_out z]; exact h
  have S1 : Same (zh g T H H2) (zh g T H1 H2) := fun a o e => by
    by_cases z : Zs g T a
    · rw [zh_in z] at e ⊢; exact e
    · rw [zh_out z] at e ⊢; exact s1 a o z e
  exact (RpXL.cons r1' S1 (zh_imp s2) r2 (fun a z => ⟨S.mv_al ap.1 a z, S.mv_mv ap.2.1 a z⟩) (fun a z => ⟨S.mv_al ap.2.2 a z, dz (S.mv_dom z) fun y => A.mvz y z⟩) fun a z => dz (S.al_dom z) fun y => A.al y z).mono Al.or Mv.or
theorem hea_nil : HEA K hd g T 0 tNil (fun _ => True) (fun _ ds => ds = []) [] [] := by
  intro E n b F O H σ ρ W _ Q q
  refine q [] [] b H .refl W .refl ?_ rfl
  rw [zh_same (Same.refl H) fun a z => (W.ap.apt W.sd).dom z]
  exact RpXL.nil
theorem hea_cons {ta : TE} {tr : TA} {pa pr : Env → Prop} {qa : Env → D → Prop} {qr : Env → List D → Prop} (ha : HE K hd g T k1 ta pa qa us mv) (hr : HEA K hd g T k2 tr pr qr us' mv') (ap : apart us mv us' mv' = true := by rfl) :
    HEA K hd g T (k1 + k2) (tCons ta tr) (fun ρ => pa ρ ∧ pr ρ) (fun ρ ds => ∃ d r, ds = d :: r ∧ qa ρ d ∧ qr ρ r) (us ++ us') (mv ++ mv') := by
  intro E n b F O H σ ρ W p Q q
  obtain ⟨a1, a2, a3⟩ := apart_1 ap
  have A := W.ap.apt W.sd
  refine ha (n + k2) b F O H σ ρ (by rw [Nat.add_assoc, Nat.add_comm k2 k1]; exact W) p.1 _ fun d v b1 H1 B1 W1 s1 r1 q1 => ?_
  refine hr n b1 F O H1 σ ρ W1 p.2 _ fun ds vs b2 H2 B2 W2 s2 r2 q2 => ?_
  have A1 := W1.ap.apt W1.sd
  refine q (d :: ds) (v :: vs) b2 H2 (B1.trans B2) W2 (s1.trans s2) ?_ ⟨d, ds, rfl, q1, q2⟩
  exact pair_step W.sd A A1 (apart_1 ap) s1 s2 r1 r2
/-- an operation -/
theorem he_cs {r : List V → Hp → VK → Prop} {f : List D → Option D} {tr : TA} {pr : Env → Prop} {qr : Env → List D → Prop} {post : Env → D → Prop} (hf : OpS K r f) (ha : HEA K hd g T k tr pr qr us mv) (hp : ∀ ρ ds, qr ρ ds → ∃ z, f ds = some z ∧ post ρ z) : HE K hd g T k (tCB r tr) pr post [] [] := by
  intro E n b F O H σ ρ W p Q q
  refine ha n b F O H σ ρ W p _ fun ds vs b1 H1 B1 W1 s1 r1 q1 => ?_
  obtain ⟨z, e, hz⟩ := hp ρ ds q1
  obtain ⟨F', as, _, _, _, h4⟩ := r1
  refine hf F' as H1 ds vs z Q h4 e fun w hw hs => q z w b1 H1 B1 W1 s1 ⟨NoA, [], fun _ z => z.elim, List.nodup_nil, (fun _ z => nomatch z), hw _ _⟩ hz
theorem he_opS {r : R2} {f : D → D → Option D} {ta tb : TE} {pa pb : Env → Prop} {qa qb : Env → D → Prop} {post : Env → D → Prop} (hf : OpS K (r2 r) (o2 f)) (ha : HE K hd g T k1 ta pa qa us mv) (hb : HE K hd g T k2 tb pb qb us' mv') (hp : ∀ ρ d e, qa ρ d → qb ρ e → ∃ z, f d e = some z ∧ post ρ z)
    (ap : apart us mv us' mv' = true := by rfl) : HE K hd g T (k1 + k2) (tOp r ta tb) (fun ρ => pa ρ ∧ pb ρ) post [] [] := by
  intro E n b F O H σ ρ W p Q q
  have A := W.ap.apt W.sd
  refine ha (n + k2) b F O H σ ρ (by rw [Nat.add_assoc, Nat.add_comm k2 k1]; exact W) p.1 _ fun d v b1 H1 B1 W1 s1 r1 q1 => ?_
  refine hb n b1 F O H1 σ ρ W1 p.2 _ fun e u b2 H2 B2 W2 s2 r2' q2 => ?_
  have A1 := W1.ap.apt W1.sd
  obtain ⟨z, hz, hq⟩ := hp ρ d e q1 q2
  have r2l : RpXL K (Al F O us') (Mv O mv') (zh g T H1 H2) H2 [e] [u] := by
    obtain ⟨F', as, h1, h2, h3, h4⟩ := r2'
    exact ⟨F', as, h1, h2, h3, .one h4⟩
  obtain ⟨F', as, _, _, _, h4⟩ := pair_step W.sd A A1 (apart_1 ap) s1 s2 r1 r2l
  have y := hf F' as H2 [d, e] [v, u] z Q h4 hz fun w hw hs => q z w b2 H2 (B1.trans B2) W2 (s1.trans s2) ⟨NoA, [], fun _ z => z.elim, List.nodup_nil, (fun _ z => nomatch z), hw _ _⟩ hq
  obtain ⟨x1, x2, ex, y⟩ := y
  cases ex
  exact y
/-- a pure def, called with such arguments -/
theorem he_call {len : Nat} {fm : List D → R D} {tr : TA} {pr : Env → Prop} {qr : Env → List D → Prop} {post : Env → D → Prop} {E0' : XK} (hE : ∀ c d H, ¬ E0' c d H) (ha : HEA K hd g T k tr pr qr us []) (hl : ∀ ρ ds, qr ρ ds → ds.length = len) (hp : ∀ ρ ds, qr ρ ds → ∃ z, fm (fzL ds) = .ok z ∧ post ρ z) :
    HE K hd g T k (tCall (spF K len fm) [] E0' tr) pr post us [] := by
  intro E n b F O H σ ρ W p Q q
  refine ha n b F O H σ ρ W p _ fun ds vs b1 H1 B1 W1 s1 r1 q1 => ?_
  obtain ⟨z, e, hz⟩ := hp ρ ds q1
  obtain ⟨F', as, h1, h2, h3, h4⟩ := r1
  show spF K len fm (vs ++ []) H1 Q E0'
  rw [List.append_nil]
  have hlen : ∀ ds : List D, (fzL ds).length = ds.length := by
    intro ds
    induction ds with
    | nil => rfl
    | cons _ _ ih => simp [fzL, ih]
  refine ⟨fun a => F' a ∨ a ∈ as, fzL ds, by rw [hlen]; exact hl ρ ds q1, fun a z => ?_, fun a z => .inl hE, RpL.fz (fun a z => .inl z) ds vs as (fun a z => .inr z) h4, ?_⟩
  · rcases z with z | z
    · exact (h1 a z).2
    · obtain ⟨xs, q⟩ := RpL.own ds vs as h4 a z
      exact fun y => by rw [q] at y; cases y
  · rw [e]
    intro v H2 s2 r2
    have A := W.ap.apt W.sd
    have A1 := W1.ap.apt W1.sd
    have eq : zh g T H H2 = zh g T H H1 := by
      funext a
      by_cases y : Zs g T a
      · rw [zh_in y, zh_in y]
        cases e : H1 a with
        | none => exact absurd e (A1.dom y)
        | some o => exact s2 a o e
      · rw [zh_out y, zh_out y]
    refine q z v b1 H2 B1 (W1.fwd s2) (s1.trans (.of s2)) ?_ hz
    rw [eq]
    obtain ⟨F2, as2, k1, k2, k3, k4⟩ := r2
    have nz : ∀ {a : Addr}, H1 a = none → zh g T H H1 a = none := fun {a} e => by
      by_cases y : Zs g T a
      · exact absurd e (A1.dom y)
      · rw [zh_out y]
        cases e2 : H a with
        | none => rfl
        | some o => rw [s1 a o y e2] at e; cases e
    refine ⟨F2, as2, fun a z => ⟨?_, (k1 a z).2⟩, k2, fun a z => ⟨.inl ?_, (k3 a z).2⟩, k4⟩
    · rcases (k1 a z).1 with (q | q) | q
      · exact (h1 a q).1
      · rcases (h3 a q).1 with y | ⟨i, hi, _⟩
        · exact .inr y
        · cases hi
      · exact .inr (nz q)
    · rcases (k3 a z).1 with q | q
      · exact nz q
      · exact q.elim
end
end PV
end
section
set_option Elab.async false
set_option linter.all false
set_option maxRecDepth 100000
set_option maxHeartbeats 1000000
/-! PV25: a def that holds the generator is called. -/
namespace PV
open PySem PySem.Spec PyProof.Rows L2 LamX Classical
section
variable {hd : Bool} {K : PySem.W.Frag} {E : XK} {b b' b2 : Bs E} {F : Addr → Prop} {O : Nat → List Addr} {H H' H1 H2 : Hp} {σ : L2.St} {ρ : Env} {g : Addr} {T : List (Addr × Str)} {n m k k1 k2 : Nat} {us us' mv mv' : List Nat}
theorem he_callW {len : Nat} {preF : List D → Prop} {postF : List D → D → Prop} {tr : TA} {pr : Env → Prop} {qr : Env → List D → Prop} {post : Env → D → Prop} {E0' : XK} (hE : ∀ c d H, ¬ E0' c d H) (ha : HEA K true g T k1 tr pr qr us []) (hl : ∀ ρ ds, qr ρ ds → ds.length = len) (hp : ∀ ρ ds, qr ρ ds → preF (fzL ds))
    (hq : ∀ ρ ds d, qr ρ ds → postF (fzL ds) d → post ρ d) : HE K true g T (k1 + k2) (tCall (spW K T k2 len preF postF) [] E0' (tCons (tVar 0) tr)) pr post us [] := by
  intro E n b F O H σ ρ W p Q q
  have A := W.ap.apt W.sd
  refine ⟨.ref g, W.s0 rfl, ?_⟩
  refine ha (n + k2) b F O H σ ρ (by rw [Nat.add_assoc, Nat.add_comm k2 k1]; exact W) p _ fun ds vs b1 H1 B1 W1 s1 r1 q1 => ?_
  have A1 := W1.ap.apt W1.sd
  obtain ⟨F', as, h1, h2, h3, h4⟩ := r1
  show spW K T k2 len preF postF ((.ref g :: vs) ++ []) H1 Q E0'
  rw [List.append_nil]
  have nF : ∀ a, F' a → ¬ Zs g T a := fun a h z => by
    rcases (h1 a h).1 with q | q
    · exact A.al z q
    · rw [zh_in z] at q
      exact A1.dom z q
  have nA : ∀ a ∈ as, ¬ Zs g T a := fun a h z => by
    rcases (h3 a h).1 with q | ⟨_, hi, _⟩
    · rw [zh_in z] at q
      exact A1.dom z q
    · cases hi
  refine ⟨g, vs, n, fun a => F' a ∨ a ∈ as, fzL ds, rfl, by rw [fzL_len]; exact hl ρ ds q1, fun a z => ?_, RpL.fz (fun a z => .inl z) ds vs as (fun a z => .inr z) h4, hp ρ ds q1, W1.go, W1.tb, fun a z h => h.elim (fun h => nF a h z) fun h => nA a h z, hE, fun d v H2 s2 go tb r2 hd => ?_⟩
  · rcases z with z | z
    · exact (h1 a z).2
    · obtain ⟨xs, q⟩ := RpL.own ds vs as h4 a z
      exact fun y => by rw [q] at y; cases y
  · obtain ⟨b2, B2, W2⟩ := (W1.less (m := n) (Nat.le_add_right _ _)).imp s2 go tb
    refine q d v b2 H2 (B1.trans B2) W2 (s1.trans s2) ?_ (hq ρ ds d q1 hd)
    have A2 := W2.ap.apt W2.sd
    have back : ∀ {a : Addr}, ¬ Zs g T a → H1 a = none → zh g T H H2 a = none := fun {a} y e => by
      rw [zh_out y]
      cases e2 : H a with
      | none => rfl
      | some o => rw [s1 a o y e2] at e; cases e
    have fr1 : ∀ {a : Addr}, ¬ Zs g T a → zh g T H H1 a = none → zh g T H H2 a = none := fun {a} y e => by
      rw [zh_out y] at e ⊢; exact e
    have new2 : ∀ {a : Addr}, zh g T H1 H2 a = none → zh g T H H2 a = none := fun {a} e => by
      by_cases y : Zs g T a
      · rw [zh_in y] at e
        exact absurd e (A2.dom y)
      · rw [zh_out y] at e
        exact back y e
    obtain ⟨F2, as2, k1', k2', k3, k4⟩ := r2
    refine ⟨F2, as2, fun a z => ⟨?_, (k1' a z).2⟩, k2', fun a z => ⟨.inl ?_, (k3 a z).2⟩, k4⟩
    · rcases (k1' a z).1 with (q | q) | q
      · exact (h1 a q).1.imp id (fr1 (nF a q))
      · rcases (h3 a q).1 with y | ⟨_, hi, _⟩
        · exact .inr (fr1 (nA a q) y)
        · cases hi
      · exact .inr (new2 q)
    · rcases (k3 a z).1 with q | q
      · exact new2 q
      · exact q.elim
end
end PV
end
section
set_option Elab.async false
set_option linter.all false
set_option maxRecDepth 100000
set_option maxHeartbeats 1000000
/-! PV26: statements of a def that holds the generator. -/
namespace PV
open PySem PySem.Spec PyProof.Rows L2 LamX Classical
/-- a statement: k draws at most; pre asked of the names, nx told of them behind, rt of what is returned -/
def HS (K : PySem.W.Frag) (hd : Bool) (g : Addr) (T : List (Addr × Str)) (k : Nat) (t : TS) (pre nx : Env → Prop) (rt : D → Prop) : Prop :=
  ∀ ⦃E : XK⦄ (n : Nat) (b : Bs E) F O H σ ρ, WSt K hd g T (n + k) b F O H σ ρ → pre ρ → ∀ D : Ends, (∀ b' F' O' H' σ' ρ', BRel g T b b' → WSt K hd g T n b' F' O' H' σ' ρ' → nx ρ' → D.nx σ' H') →
    (∀ d v (b' : Bs E) H', BRel g T b b' → Same b'.H0 H' → RpX K b'.G0 NoA b'.H0 H' d v → AptB g T b' → GOk n g H' → Tabs T H' → rt d → D.rt v H') → t D σ H
section
variable {hd : Bool} {K : PySem.W.Frag} {E : XK} {b b' b2 : Bs E} {F : Addr → Prop} {O : Nat → List Addr} {H H' H1 H2 : Hp} {σ : L2.St} {ρ : Env} {g : Addr} {T : List (Addr × Str)} {n m k k1 k2 : Nat} {us us' mv mv' : List Nat}
theorem GOk.zh {n : Nat} (go : GOk n g H') : ∃ xs, zh g T H H' g = some (.lst xs) := by
  obtain ⟨x, y, c, h1, _⟩ := go.ex
  exact ⟨_, (zh_in (.inl rfl)).trans h1⟩
/-- the state, its base renewed to what the changing places tell -/
theorem WSt.base (W : WSt K hd g T n b F O H σ ρ) (s : Imp g T H H') (go : GOk m g H') (tb : Tabs T H') : ∃ b' : Bs E, BRel g T b b' ∧ AptB g T b' ∧ Sd K b' F O (zh g T H H') σ ρ := by
  have A := W.ap.apt W.sd
  have s' : Imp g T H (zh g T H H') := fun a o z e => by rw [zh_out z]; exact e
  refine ⟨b.renew g T (zh g T H H') W.no, ⟨rfl, fun a h => if_neg h, rfl, fun a h => if_neg h⟩, ⟨W.ap.g0, fun a z => ?_⟩, W.sd.renew s' A W.no⟩
  have e0 : (b.renew g T (zh g T H H') W.no).H0 a = zh g T H H' a := if_pos z
  rw [e0, zh_in z]
  rcases z with rfl | ⟨p, hp, rfl⟩
  · obtain ⟨x, y, c, h1, _⟩ := go.ex
    exact ⟨_, h1, rfl⟩
  · obtain ⟨ps, h1, _⟩ := tb p hp
    exact ⟨_, h1, rfl⟩
theorem pre_none (us mv : List Nat) (nf : Bool) {ρ : Env} {i : Nat} (h : ρ[i]? = some none) : (pre us mv nf ρ)[i]? = some none := by
  rw [pre_eq, unsA_get]
  cases nf with
  | true => simp [h]
  | false => simp [frzA_get, h]
theorem hs_seq {t u : TS} {p q r : Env → Prop} {rt : D → Prop} (h1 : HS K hd g T k1 t p q rt) (h2 : HS K hd g T k2 u q r rt) : HS K hd g T (k1 + k2) (tSeq t u) p r rt := by
  intro E n b F O H σ ρ W hp D hn hr
  refine h1 (n + k2) b F O H σ ρ (by rw [Nat.add_assoc, Nat.add_comm k2 k1]; exact W) hp { D with nx := fun σ' H' => u D σ' H' } (fun b' F' O' H' σ' ρ' B W' hq => ?_) fun d v b' H' B s r A go tb hd => hr d v b' H' B s r A (go.less (Nat.le_add_right _ _)) tb hd
  exact h2 n b' F' O' H' σ' ρ' W' hq D (fun b2 F2 O2 H2 σ2 ρ2 B2 W2 h => hn b2 F2 O2 H2 σ2 ρ2 (B.trans B2) W2 h) fun d v b2 H2 B2 s r A go tb hd => hr d v b2 H2 (B.trans B2) s r A go tb hd
theorem hs_pre {t : TS} {p p' q : Env → Prop} {rt : D → Prop} (h : HS K hd g T k t p q rt) (hp : ∀ ρ, p' ρ → p ρ) : HS K hd g T k t p' q rt := fun E n b F O H σ ρ W q => h n b F O H σ ρ W (hp ρ q)
/-- what a target binds stays behind the slot 0 -/
def Kp0 (hd : Bool) (f : D → Env → Option Env) : Prop := hd = true → ∀ d ρ ρ', f d ρ = some ρ' → ρ[0]? = some none → ρ'[0]? = some none
def Kp0s (hd : Bool) (f : List D → Env → Option Env) : Prop := hd = true → ∀ d ρ ρ', f d ρ = some ρ' → ρ[0]? = some none → ρ'[0]? = some none
theorem kp_name {i : Nat} (h : i ≠ 0 ∨ hd = false := by first | exact Or.inl (by decide) | exact Or.inr rfl) : Kp0 hd (bName i) := fun e d ρ ρ' q r => by
  cases q
  rcases h with h | h
  · rw [List.getElem?_set_ne h]; exact r
  · rw [h] at e; cases e
theorem kp_nil : Kp0s hd bNil := fun e d ρ ρ' q r => by
  unfold bNil at q
  split at q <;> cases q
  exact r
theorem kp_cons {f : D → Env → Option Env} {fs : List D → Env → Option Env} (h1 : Kp0 hd f) (h2 : Kp0s hd fs) : Kp0s hd (bCons f fs) := fun e d ρ ρ' q r => by
  unfold bCons at q
  split at q
  · rename_i d ds
    cases e1 : f d ρ with
    | none => rw [e1] at q; cases q
    | some ρ1 =>
      rw [e1] at q
      exact h2 e ds ρ1 ρ' q (h1 e d ρ ρ1 e1 r)
  · cases q
theorem kp_tup {fs : List D → Env → Option Env} {m : Nat} (h : Kp0s hd fs) : Kp0 hd (bTup fs m) := fun e d ρ ρ' q r => by
  unfold bTup at q
  split at q
  · split at q
    · exact h e _ ρ ρ' q r
    · cases q
  · cases q
theorem wipe_0 {σ σ2 : L2.St} {ns : List Nat} (wp : ∀ ws, (∀ i ∈ ns, i ∈ ws) → wipe σ2 ws = wipe σ ws) (h0 : 0 ∉ ns) : σ2[0]? = σ[0]? := by
  have e := congrArg (fun l => l[0]?) (wp ns fun _ z => z)
  simp only [wipe_get, if_neg h0] at e
  exact e
/-- target = e -/
theorem hs_asgG {te : TE} {p : Env → Prop} {q : Env → D → Prop} {rt : D → Prop} {tg : TG} {f : D → Env → Option Env} {ns : List Nat} (he : HE K hd g T k te p q us mv) (hg : SndG K tg f ns) (hk : Kp0 hd f) (h0 : ns.contains 0 = false ∨ hd = false := by first | exact Or.inl rfl | exact Or.inr rfl) (hu : disj us mv = true := by rfl)
    (hf : ∀ ρ d, p ρ → q ρ d → ∃ ρ', f d (pre us mv (noFz d) ρ) = some ρ') :
    HS K hd g T k (tAsg te tg) p (fun ρ' => ∃ ρ d, p ρ ∧ q ρ d ∧ f d (pre us mv (noFz d) ρ) = some ρ') rt := by
  intro E n b F O H σ ρ W hp D hn hr
  refine he n b F O H σ ρ W hp _ fun d v b1 H1 B1 W1 s1 r1 q1 => ?_
  obtain ⟨b2, B2, A2, S2⟩ := W.base s1 W1.go W1.tb
  obtain ⟨F2, O2, as, _, P⟩ := S2.pend (zh_imp s1) hu r1.toL
  have en : noFzL [d] = noFz d := by simp [noFzL]
  rw [en] at P
  obtain ⟨ρ', e⟩ := hf ρ d hp q1
  refine hg b2 F2 O2 H1 σ _ d v [] [] as P ρ' e _ fun O3 σ3 as3 P3 _ wp => ?_
  refine hn b2 F2 O3 H1 σ3 ρ' B2 ⟨P3.sd, A2, fun hh => ?_, fun hh => hk hh _ _ _ e (pre_none us mv _ (W.r0 hh)), W1.go, W1.tb, W.no⟩ ⟨ρ, d, hp, q1, e⟩
  rcases h0 with h0 | h0
  · rw [wipe_0 wp (by simpa using h0)]; exact W.s0 hh
  · rw [h0] at hh; cases hh
/-- name = e, the name none of slot 0 -/
theorem hs_asg {te : TE} {p : Env → Prop} {q : Env → D → Prop} {rt : D → Prop} (i : Nat) (hi : i ≠ 0 ∨ hd = false := by first | exact Or.inl (by decide) | exact Or.inr rfl) (he : HE K hd g T k te p q us mv) (hu : disj us mv = true := by rfl) :
    HS K hd g T k (tAsg te (gName i)) p (fun ρ' => ∃ ρ d, p ρ ∧ q ρ d ∧ ρ' = (pre us mv (noFz d) ρ).set i (some d)) rt := by
  intro E n b F O H σ ρ W hp D hn hr
  refine hs_asgG (rt := rt) he (sng_name i) (kp_name hi) (by rcases hi with hi | hi; exact .inl (by simpa using fun z => hi z.symm); exact .inr hi) hu (fun ρ d _ _ => ⟨_, rfl⟩) n b F O H σ ρ W hp D (fun b' F' O' H' σ' ρ' B W' h => hn b' F' O' H' σ' ρ' B W' ?_) hr
  obtain ⟨ρ0, d, h1, h2, h3⟩ := h
  cases h3
  exact ⟨ρ0, d, h1, h2, rfl⟩
/-- return e -/
theorem hs_ret {te : TE} {p nx : Env → Prop} {q : Env → D → Prop} (he : HE K hd g T k te p q us mv) : HS K hd g T k (tRet te) p nx (fun d => ∃ ρ, p ρ ∧ q ρ d) := by
  intro E n b F O H σ ρ W hp D hn hr
  refine he n b F O H σ ρ W hp _ fun d v b1 H1 B1 W1 s1 r1 q1 => ?_
  obtain ⟨b2, B2, A2, S2⟩ := W.base s1 W1.go W1.tb
  exact hr d v b2 H1 B2 (S2.same.trans (zh_imp s1)) (r1.out S2 (zh_imp s1)) A2 W1.go W1.tb ⟨ρ, hp, q1⟩
theorem hs_nil {p : Env → Prop} {rt : D → Prop} : HS K hd g T 0 tNext p p rt := fun E n b F O H σ ρ W hp D hn _ => hn b F O H σ ρ .refl W hp
/-- a test without draws -/
theorem hs_if {tc : TT} {mc : Env → R Bool} {t u : TS} {p nx : Env → Prop} {rt : D → Prop} (hc : ∀ E : XK, SndT K E tc mc) (hm : ∀ ρ, p ρ → ∃ c, mc ρ = .ok c) (h1 : HS K hd g T k t (fun ρ => p ρ ∧ mc ρ = .ok true) nx rt) (h2 : HS K hd g T k u (fun ρ => p ρ ∧ mc ρ = .ok false) nx rt) : HS K hd g T k (tIfS tc t u) p nx rt := by
  intro E n b F O H σ ρ W hp D hn hr
  obtain ⟨c, e⟩ := hm ρ hp
  refine hc E b F O H σ ρ W.sd _ ?_
  rw [e]
  intro H1 s1
  cases c with
  | true => exact iteT (h1 n b F O H1 σ ρ (W.fwd s1) ⟨hp, e⟩ D hn hr)
  | false => exact iteF (h2 n b F O H1 σ ρ (W.fwd s1) ⟨hp, e⟩ D hn hr)
end
end PV
end
section
set_option Elab.async false
set_option linter.all false
set_option maxRecDepth 100000
set_option maxHeartbeats 1000000
/-! PV27: loops of a def that holds the generator. -/
namespace PV
open PySem PySem.Spec PyProof.Rows L2 LamX Classical
def HI (K : PySem.W.Frag) (hd : Bool) (g : Addr) (T : List (Addr × Str)) (k : Nat) (t : TI) (pre : Env → Prop) (post : Env → List D → Prop) (us : List Nat) : Prop :=
  ∀ ⦃E : XK⦄ (n : Nat) (b : Bs E) F O H σ ρ, WSt K hd g T (n + k) b F O H σ ρ → pre ρ → ∀ Q : It → Hp → Prop, (∀ ds J b' H1 (F1 : Addr → Prop), BRel g T b b' → WSt K hd g T n b' F O H1 σ ρ → Imp g T H H1 → (∀ a, F1 a → (Al F O us a ∨ zh g T H H1 a = none) ∧ H1 a ≠ none) → Items K F1 H1 ds J → post ρ ds → Q J H1) → t σ H Q
section
variable {hd : Bool} {K : PySem.W.Frag} {E : XK} {b b' b2 : Bs E} {F : Addr → Prop} {O : Nat → List Addr} {H H' H1 H2 : Hp} {σ : L2.St} {ρ : Env} {g : Addr} {T : List (Addr × Str)} {n m k k1 k2 : Nat} {us us' mv mv' : List Nat}
theorem hi_pure {t : TI} {mi : Env → R (List D)} {pre : Env → Prop} {post : Env → List D → Prop} (h : ∀ E : XK, SndI K E t mi us) (hp : ∀ ρ, pre ρ → ∃ ds, mi ρ = .ok ds ∧ post ρ ds) : HI K hd g T 0 t pre post us := by
  intro E n b F O H σ ρ W p Q q
  obtain ⟨ds, e, hd⟩ := hp ρ p
  refine h E b F O H σ ρ W.sd Q ?_
  rw [e]
  intro J H1 F1 s hF hJ
  have A := W.ap.apt W.sd
  refine q ds J b H1 F1 .refl (W.fwd s) (.of s) (fun a z => ?_) hJ hd
  rw [zh_same s fun a z => A.dom z]
  exact hF a z
/-- for x in it: body; P i: before the turn i; c: the draws of a turn -/
theorem hs_for {wi : TI} {t : TS} {pre : Env → Prop} {post : Env → List D → Prop} {rt : D → Prop} {tg : TG} {f : D → Env → Option Env} {ns : List Nat} {c N : Nat} (hg : SndG K tg f ns) (hk : Kp0 hd f) (h00 : ns.contains 0 = false ∨ hd = false) (hi : HI K hd g T k wi pre post us) (ds0 : List D) (P : List D → Nat → Env → Prop)
    (hN : ∀ ρ ds, post ρ ds → ds.length ≤ N) (h0 : ∀ ρ ds, pre ρ → post ρ ds → P ds 0 (frzA us ρ 0))
    (hfs : ∀ (ds : List D) (j : Nat) (d : D) ρ, (∃ ρ, post ρ ds) → ds[j]? = some d → P ds j ρ → ∃ ρ1, f d ρ = some ρ1)
    (hb : ∀ (ds : List D) (j : Nat) (d : D), (∃ ρ, post ρ ds) → ds[j]? = some d → HS K hd g T c t (fun ρ1 => ∃ ρ, P ds j ρ ∧ f d ρ = some ρ1) (P ds (j + 1)) rt) :
    HS K hd g T (k + N * c) (tFor wi tg t) pre (fun ρ' => ∃ ds, (∃ ρ, pre ρ ∧ post ρ ds) ∧ P ds ds.length ρ') rt := by
  intro E n b F O H σ ρ W hp D hn hr
  refine hi (n + N * c) b F O H σ ρ (by rw [Nat.add_assoc, Nat.add_comm (N * c) k]; exact W) hp _ fun ds J b1 H1 F1 B1 W1 s1 hF1 hJ hpost => ?_
  obtain ⟨b2, B2, A2, S2⟩ := W.base s1 W1.go W1.tb
  obtain ⟨n0, G, Y, w, hn0, hG, hY⟩ := hJ.ex
  obtain ⟨F2, O2, q0, hF12, _, _, PD⟩ := S2.pend0 (us := us) (mv := []) (ds := []) (vs := []) (as := []) (F' := F1) (zh_imp s1) (fun _ z => nomatch z) hF1 List.nodup_nil (fun _ z => nomatch z) ⟨rfl, rfl⟩ (fun _ z => nomatch z)
  rw [unsA_nil] at PD
  have S3 := PD.sd
  have AF := A2.apt S3
  -- the loop's base: what is frozen stays
  let b3 : Bs E := ⟨b2.G0, b2.H0, F2, H1, b2.al⟩
  have A3 : AptB g T b3 := ⟨A2.g0, A2.h0⟩
  have S3' : Sd K b3 F2 O2 H1 σ (frzA us ρ 0) := S3.rebase
  have kF : ∀ {b' : Bs E} {F' O' H' σ' ρ'}, BRel g T b3 b' → Sd K b' F' O' H' σ' ρ' → KeepF F1 H1 H' := fun {b' F' O' H' σ' ρ'} B S a o e z => by
    have nz : ¬ Zs g T a := fun y => by
      rcases z with z | z
      · obtain ⟨o', e', l⟩ := AF.zl a y
        rw [e] at e'
        cases e'
        rw [z] at l
        cases l
      · exact AF.zF a y (hF12 a z)
    refine S.keep a o ((B.hb a nz).trans e) (z.imp id fun z => ?_)
    rw [B.bb]
    exact hF12 a z
  have lenN : ds.length ≤ N := hN ρ ds hpost
  have toB : ∀ {b' : Bs E}, BRel g T b3 b' → ∀ HB' : Hp, (∀ a, ¬ Zs g T a → HB' a = b2.HB a) → BRel g T b ⟨b'.G0, b'.H0, b2.B, HB', b'.al⟩ := fun {b'} B HB' e =>
    ⟨B.g0.trans B2.g0, fun a z => (B.h0 a z).trans (B2.h0 a z), B2.bb, fun a z => (e a z).trans (B2.hb a z)⟩
  have r0 : hd = true → (frzA us ρ 0)[0]? = some none := fun hh => by rw [frzA_get]; simp [W.r0 hh]
  refine for_it w (fun j σ' H' => ∃ b' F' O' ρ', BRel g T b3 b' ∧ WSt K hd g T (n + (N - j) * c) b' F' O' H' σ' ρ' ∧ P ds j ρ') ⟨b3, F2, O2, _, .refl, ⟨S3', A3, W.s0, r0, W1.go, W1.tb, W.no⟩, h0 ρ ds hp hpost⟩ (fun j σ' H' _ p => ?_) (fun j x σ' H' H'' hj p y => ?_) fun σ' H' p => ?_
  · obtain ⟨b', F', O', ρ', B, W', _⟩ := p
    exact hG H' (kF B W'.sd)
  · obtain ⟨b', F', O', ρ', B, W', hP⟩ := p
    have hl : j < ds.length := by rw [← hn0]; exact hj
    have hd' : ds[j]? = some ds[j] := List.getElem?_eq_getElem hl
    obtain ⟨sx, rx⟩ := hY j H' x H'' ds[j] (kF B W'.sd) hd' y
    have W2 := W'.fwd sx
    have fF : ∀ a, F1 a → F' a := fun a z => W'.sd.sub a (by rw [B.bb]; exact hF12 a z)
    have rx' : Rp K F' H'' ds[j] x [] := Rp.mono fF (fun _ _ e _ => e) _ x [] (fun _ _ _ e => e) rx
    have P0 : Pd K b' F' O' H'' σ' ρ' [ds[j]] [x] [] := ⟨W2.sd, .one rx', List.nodup_nil, fun _ z => nomatch z⟩
    have cost : n + (N - j) * c = n + (N - (j + 1)) * c + c := by
      have e : N - j = (N - (j + 1)) + 1 := by omega
      rw [e, Nat.add_mul, Nat.one_mul, Nat.add_assoc]
    obtain ⟨ρ1, e1⟩ := hfs ds j ds[j] ρ' ⟨ρ, hpost⟩ hd' hP
    refine hg b' F' O' H'' σ' ρ' ds[j] x [] [] [] P0 ρ1 e1 _ fun O3 σ3 as3 P3 _ wp => ?_
    refine hb ds j ds[j] ⟨ρ, hpost⟩ hd' (n + (N - (j + 1)) * c) b' F' O3 H'' _ _ ⟨P3.sd, W'.ap, fun hh => ?_, fun hh => hk hh _ _ _ e1 (W'.r0 hh), by rw [← cost]; exact W2.go, W2.tb, W.no⟩ ⟨ρ', hP, e1⟩ _ (fun b4 F4 O4 H4 σ4 ρ4 B4 W4 hP4 => ⟨b4, F4, O4, ρ4, B.trans B4, W4, hP4⟩) fun d v b4 H4 B4 s r A go tb hd => ?_
    · rcases h00 with h00 | h00
      · rw [wipe_0 wp (by simpa using h00)]; exact W'.s0 hh
      · rw [h00] at hh; cases hh
    · exact hr d v ⟨b4.G0, b4.H0, b2.B, b2.HB, b4.al⟩ H4 (toB (B.trans B4) b2.HB fun _ _ => rfl) s r ⟨A.g0, A.h0⟩ (go.less (Nat.le_add_right _ _)) tb hd
  · obtain ⟨b', F', O', ρ', B, W', hP⟩ := p
    rw [hn0] at hP
    have S := W'.sd
    refine hn ⟨b'.G0, b'.H0, b2.B, fun a => if Zs g T a then H' a else b2.HB a, b'.al⟩ F' O' H' σ' ρ' (toB B _ fun a z => if_neg z) ⟨⟨S.len, S.at_, S.fdom, S.fr, S.nd, S.dj, S.own, S.same, fun a z => S.sub a (by rw [B.bb]; exact S3.sub a z), fun a o h z => ?_⟩, ⟨W'.ap.g0, W'.ap.h0⟩, W'.s0, W'.r0, W'.go.less (Nat.le_add_right _ _), W'.tb, W.no⟩ ⟨ds, ⟨ρ, hp, hpost⟩, hP⟩
    have h' : (if Zs g T a then H' a else b2.HB a) = some o := h
    by_cases nz : Zs g T a
    · rw [if_pos nz] at h'; exact h'
    · rw [if_neg nz] at h'
      have e1 : H1 a = some o := S3.keep a o h' z
      exact S.keep a o ((B.hb a nz).trans e1) (z.imp id fun z => by rw [B.bb]; exact S3.sub a z)
end
end PV
end
section
set_option Elab.async false
set_option linter.all false
set_option maxRecDepth 100000
set_option maxHeartbeats 1000000
/-! PV28: a pure block behind the last draw. -/
namespace PV
open PySem PySem.Spec PyProof.Rows L2 LamX Classical
section
variable {hd : Bool} {K : PySem.W.Frag} {E : XK} {b b' b2 : Bs E} {F : Addr → Prop} {O : Nat → List Addr} {H H' H1 H2 : Hp} {σ : L2.St} {ρ : Env} {g : Addr} {T : List (Addr × Str)} {n m k k1 k2 : Nat} {us us' mv mv' : List Nat}
/-- all that is told of what does not change by itself -/
noncomputable def solH (g : Addr) (T : List (Addr × Str)) (H H0 : Hp) : Hp := fun a => if ∃ o, H a = some o ∧ (isLst o = false ∨ Zs g T a) then H a else H0 a
theorem sol_yes {H0 : Hp} {a : Addr} {o : HO} (e : H a = some o) (h : isLst o = false ∨ Zs g T a) : solH g T H H0 a = some o := by
  unfold solH
  rw [if_pos ⟨o, e, h⟩]
  exact e
theorem sol_of {H0 : Hp} {a : Addr} (s : Same H0 H) {o : HO} (e : H0 a = some o) : solH g T H H0 a = some o := by
  unfold solH
  split
  · exact s a o e
  · exact e
theorem sol_same {H0 : Hp} (s : Same H0 H) : Same (solH g T H H0) H := fun a o e => by
  unfold solH at e
  split at e
  · exact e
  · exact s a o e
theorem sol_none {H0 : Hp} {a : Addr} (e : solH g T H H0 a = none) : H0 a = none := by
  unfold solH at e
  split at e
  · rename_i h
    obtain ⟨o, q, _⟩ := h
    rw [q] at e; cases e
  · exact e
theorem hs_end {t : TS} {mm : Env → Fl} {p nx : Env → Prop} {rt : D → Prop} (h : ∀ E : XK, SndS K E t mm) (hm : ∀ ρ, p ρ → ∃ d, mm ρ = .rt d ∧ rt d) : HS K hd g T 0 t p nx rt := by
  intro E n b F O H σ ρ W hp D hn hr
  obtain ⟨d, e, hd⟩ := hm ρ hp
  have S := W.sd
  have A := W.ap.apt S
  let O' : Nat → List Addr := fun i => match ρ[i]? with
    | some (some _) => O i
    | _ => []
  have hO : ∀ i a, a ∈ O' i → a ∈ O i ∧ ∃ xs, H a = some (.lst xs) := fun i a ha => by
    have ha' : a ∈ (match ρ[i]? with
      | some (some _) => O i
      | _ => []) := ha
    cases e1 : ρ[i]? with
    | none => rw [e1] at ha'; cases ha'
    | some x =>
      cases x with
      | none => rw [e1] at ha'; cases ha'
      | some d1 =>
        rw [e1] at ha'
        obtain ⟨v, _, r⟩ := S.at_ i d1 e1
        exact ⟨ha', Rp.own d1 v (O i) r a ha'⟩
  let bs : Bs E := ⟨F, solH g T H b.H0, fun _ => False, fun _ => none, fun _ _ => .inl W.no⟩
  have Ss : Sd K bs F O' H σ ρ := {
    len := S.len
    at_ := fun i d1 e1 => by
      obtain ⟨v, h1, h2⟩ := S.at_ i d1 e1
      refine ⟨v, h1, ?_⟩
      have e2 : O' i = O i := by
        show (match ρ[i]? with
          | some (some _) => O i
          | _ => []) = O i
        rw [e1]
      rw [e2]
      exact h2
    fdom := S.fdom
    fr := fun a h => .inl h
    nd := fun i => by
      show (match ρ[i]? with
        | some (some _) => O i
        | _ => []).Nodup
      split
      · exact S.nd i
      · exact List.nodup_nil
    dj := fun i j hij a h1 h2 => S.dj i j hij a (hO i a h1).1 (hO j a h2).1
    own := fun i a ha => by
      obtain ⟨h1, xs, h2⟩ := hO i a ha
      obtain ⟨q1, q2, q3⟩ := S.own i a h1
      refine ⟨q1, ?_, q3⟩
      show solH g T H b.H0 a = none
      unfold solH
      rw [if_neg]
      · exact q2
      · rintro ⟨o, e1, e2 | e2⟩
        · rw [h2] at e1
          cases e1
          cases e2
        · exact A.zO a e2 i h1
    same := sol_same S.same
    sub := fun _ z => z.elim
    keep := fun a o z _ => by cases z }
  refine h E bs F O' H σ ρ Ss D ?_
  rw [e]
  intro v H' s r
  have s' : ∀ a o, solH g T H b.H0 a = some o → H' a = some o := s
  have sb : Same b.H0 H' := fun a o e1 => s' a o (sol_of S.same e1)
  refine hr d v b H' .refl sb ?_ W.ap ?_ ?_ hd
  · obtain ⟨F', as, h1, h2, h3, h4⟩ := r
    refine ⟨F', as, fun a z => ⟨?_, (h1 a z).2⟩, h2, fun a z => ⟨.inl ?_, (h3 a z).2⟩, h4⟩
    · rcases (h1 a z).1 with q | q
      · exact S.fr a q
      · exact .inr (sol_none q)
    · rcases (h3 a z).1 with q | q
      · exact sol_none q
      · exact q.elim
  · obtain ⟨x, y, c, e1, r1⟩ := W.go.ex
    exact ⟨x, y, c, s' _ _ (sol_yes e1 (.inr (.inl rfl))), r1⟩
  · intro q hq
    obtain ⟨ps, e1, e2, e3⟩ := W.tb q hq
    refine ⟨ps, s' _ _ (sol_yes e1 (.inr (.inr ⟨q, hq, rfl⟩))), e2, fun pos cv hc => ?_⟩
    obtain ⟨c, e4, e5⟩ := e3 pos cv hc
    exact ⟨c, e4, s' _ _ (sol_yes e5 (.inl (by unfold CodeO; rfl)))⟩
end
end PV
end
section
set_option Elab.async false
set_option linter.all false
set_option maxRecDepth 100000
set_option maxHeartbeats 1000000
/-! PV29: a def that holds the generator keeps its promise. -/
namespace PV
open PySem PySem.Spec PyProof.Rows L2 LamX Classical
/-- the names at the entry: the generator is not told -/
def entW (n : Nat) (ds : List D) : Env := none :: ent (n - 1) ds
section
variable {hd : Bool} {K : PySem.W.Frag} {E : XK} {H : Hp} {T : List (Addr × Str)} {N : List Str} {kc len : Nat} {preF : List D → Prop} {postF : List D → D → Prop} {t : TS} {vs : List V} {Q : VK}
theorem bodyW (h : ∀ g ds, preF ds → HS K true g T kc t (fun ρ => ρ = entW N.length ds) (fun _ => False) (postF ds)) (hsp : spW K T kc len preF postF vs H Q E) (hn : len + 1 ≤ N.length) : t { nx := fun _ H' => Q .non H', rt := Q } (L2.start N vs) H := by
  obtain ⟨g, vs', n, F, ds, rfl, hl, hF, hr, hpre, go, tb, hz, hE, hq⟩ := hsp
  have hv : vs'.length = ds.length := hr.length
  let b0 : Bs E := ⟨F, H, F, H, fun _ _ => .inl hE⟩
  have S : Sd K b0 F (fun _ => []) H (L2.start N (.ref g :: vs')) (entW N.length ds) := by
    refine ⟨?_, fun i d e => ?_, hF, fun a z => .inl z, fun _ => List.nodup_nil, (fun _ _ _ _ z => nomatch z), (fun _ _ z => nomatch z), Same.refl H, fun _ z => z, fun a o e _ => e⟩
    · unfold L2.start entW ent
      simp [hv]
      omega
    · cases i with
      | zero => cases e
      | succ j =>
        have e' : (ent (N.length - 1) ds)[j]? = some (some d) := by simpa [entW] using e
        obtain ⟨v, bs, q1, q2, q3⟩ := hr.get (ent_get e')
        refine ⟨v, ?_, ?_⟩
        · unfold L2.start
          have hi : j < vs'.length := by
            rcases Nat.lt_or_ge j vs'.length with z | z
            · exact z
            · rw [List.getElem?_eq_none z] at q1; cases q1
          rw [List.getElem?_append_left (by simpa using hi), List.getElem?_map, List.getElem?_cons_succ, q1]
          rfl
        · have e0 : bs = [] := List.sublist_nil.mp q2
          rw [e0] at q3
          exact q3
  have AB : AptB g T b0 := ⟨hz, fun a z => by
    rcases z with rfl | ⟨p, hp, rfl⟩
    · obtain ⟨x, y, c, h1, _⟩ := go.ex
      exact ⟨_, h1, rfl⟩
    · obtain ⟨ps, h1, _⟩ := tb p hp
      exact ⟨_, h1, rfl⟩⟩
  have s0 : (L2.start N (V.ref g :: vs'))[0]? = some (some (.ref g)) := by
    unfold L2.start
    rfl
  refine h g ds hpre n b0 F (fun _ => []) H _ _ ⟨S, AB, fun _ => s0, fun _ => rfl, go, tb, hE⟩ rfl _ (fun _ _ _ _ _ _ _ _ z => z.elim) fun d v b' H' B s r A go' tb' hd => ?_
  have im : Imp g T H H' := fun a o z e => s a o ((B.h0 a z).trans e)
  refine hq d v H' im go' tb' ?_ hd
  have e1 : b'.H0 = zh g T H H' := by
    funext a
    by_cases z : Zs g T a
    · obtain ⟨o, e, _⟩ := A.h0 a z
      rw [zh_in z, e, s a o e]
    · rw [zh_out z]; exact B.h0 a z
  have e2 : b'.G0 = F := B.g0
  rw [e1, e2] at r
  exact r
end
section
variable {P : Program} {w : World} {K : PySem.W.Frag} {mg : Str → Option Value} {base : Heap} {k : Nat} {x : Str} {ps N : List Str} {params : Arguments} {body : List Stmt} {scope : Scope} {T : List (Addr × Str)} {kc len : Nat} {preF : List D → Prop} {postF : List D → D → Prop}
/-- the def x holds the generator -/
structure DefW (P : Program) (w : World) (K : PySem.W.Frag) (mg : Str → Option Value) (base : Heap) (k : Nat) (x : Str) (ps : List Str) (T : List (Addr × Str)) (kc len : Nat) (preF : List D → Prop) (postF : List D → D → Prop) : Prop where
  ok : ∃ fd, FnG P w K mg base (L2.CX P w) k (He.ga K x) fd ps (spW K T kc len preF postF) ∧ Binds K fd ps [] ∧ ∃ params body scope, FunD K x x params body scope [] [] (He.ga K x) fd
  mg : mg x = some (.ref (He.ga K x))
theorem mkW (hmg : mg x = some (.ref (He.ga K x))) (hF : ∃ fd, FunD K x x params body scope [] [] (He.ga K x) fd) (S : FnScope N ps scope) (hl : ps.length = len + 1) (hn : len + 1 ≤ N.length)
    (hb : ∀ (kV doc pm : Value) (an : Option Addr) (cdv ct : Value) (us : List Value), us.length = ps.length → bindArgs (PySem.W.fnOf x x params body scope .none kV doc pm an cdv ct) ⟨us, []⟩ = pure (ps.zip us))
    (h : ∀ (cdv : Value) (A : Around) (outer : List PySem.Env) (s : Shared) (H : Hp) (E : XK), RoomG k (A.deeper (envOfC x scope s.heap.objs.size (He.ga K x) cdv)) →
      ∃ t, PSs (XD P w K mg base N x scope cdv A outer s H E) body t ∧ ∀ g ds, preF ds → HS K true g T kc t (fun ρ => ρ = entW N.length ds) (fun _ => False) (postF ds)) : DefW P w K mg base (k + 1) x ps T kc len preF postF := by
  obtain ⟨fd, F⟩ := hF
  have hlen : ∀ (vs : List V) (H : Hp) (Q : VK) (E : XK), spW K T kc len preF postF vs H Q E → vs.length = ps.length := fun vs H Q E h => by
    obtain ⟨g, vs', n, F, ds, rfl, h1, _, h2, _⟩ := h
    rw [List.length_cons, h2.length, h1, hl]
  have F' := F
  obtain ⟨oc, od, dV, kV, doc, pm, an, cdv, ct, osl, e1, lk, hcd, hD, hK⟩ := F'.ex
  refine ⟨⟨fd, ⟨hlen, fun A outer s H args us vs Q E hr e0 hbb r hsp => ?_⟩, F.bindsN hb, params, body, scope, F⟩, hmg⟩
  rw [e1] at lk hbb
  refine LamX.run_ofS lk hcd S hr.rm e0 hbb r (hlen vs H Q E hsp) fun hr' => ?_
  obtain ⟨t, ht, hs⟩ := h cdv A outer s H E ⟨hr', hr.gd⟩
  exact ⟨t, ht, bodyW hs hsp hn⟩
end
end PV
end
section
set_option Elab.async false
set_option linter.all false
set_option maxRecDepth 100000
set_option maxHeartbeats 1000000
/-! PV30: tuples and lists of values with draws; the call of a def that holds the generator. -/
namespace PV
open PySem PySem.Spec PyProof.Rows L2 LamX Classical
section
variable {hd : Bool} {K : PySem.W.Frag} {E : XK} {b b' b2 : Bs E} {F : Addr → Prop} {O : Nat → List Addr} {H H' H1 H2 : Hp} {σ : L2.St} {ρ : Env} {g : Addr} {T : List (Addr × Str)} {n m k k1 k2 : Nat} {us us' mv mv' : List Nat}
/-- a new object beside: the changing places tell the same -/
theorem zh_new {p : Addr} {o : HO} (hz : ∀ a, Zs g T a → H1 a ≠ none) (hp : H1 p = none) : zh g T H (upd H1 p o) = zh g T H H1 := by
  funext a
  by_cases z : Zs g T a
  · rw [zh_in z, zh_in z, upd_ne (fun y => hz a z (by rw [y]; exact hp))]
  · rw [zh_out z, zh_out z]
theorem he_tup {tr : TA} {pr : Env → Prop} {qr : Env → List D → Prop} (ha : HEA K hd g T k tr pr qr us mv) (hl : ∀ ρ ds, qr ρ ds → lenOk ds.length = true) : HE K hd g T k (tTup tr) pr (fun ρ d => ∃ ds, d = .tup ds ∧ qr ρ ds) us mv := by
  intro E n b F O H σ ρ W p Q q
  refine ha n b F O H σ ρ W p _ fun ds vs b1 H1 B1 W1 s1 r1 q1 => ?_
  have A1 := W1.ap.apt W1.sd
  have hz : vs.length ≤ sizeLine := by
    obtain ⟨F', as, _, _, _, r⟩ := r1
    rw [r.length]
    exact lenOk_le (hl ρ ds q1)
  refine ⟨hz, fun a hp => q _ _ b1 _ B1 (W1.fwd (upd_same_ext hp)) (s1.trans (.of (upd_same_ext hp))) ?_ ⟨ds, rfl, q1⟩⟩
  rw [zh_new (fun a z => A1.dom z) hp]
  exact r1.tup hp
theorem he_lst {tr : TA} {pr : Env → Prop} {qr : Env → List D → Prop} (ha : HEA K hd g T k tr pr qr us mv) (hl : ∀ ρ ds, qr ρ ds → lenOk ds.length = true) : HE K hd g T k (tLst tr) pr (fun ρ d => ∃ ds, d = .lst true ds ∧ qr ρ ds) us mv := by
  intro E n b F O H σ ρ W p Q q
  refine ha n b F O H σ ρ W p _ fun ds vs b1 H1 B1 W1 s1 r1 q1 => ?_
  have A1 := W1.ap.apt W1.sd
  have hz : vs.length ≤ sizeLine := by
    obtain ⟨F', as, _, _, _, r⟩ := r1
    rw [r.length]
    exact lenOk_le (hl ρ ds q1)
  refine ⟨hz, fun a hp => q _ _ b1 _ B1 (W1.fwd (upd_same_ext hp)) (s1.trans (.of (upd_same_ext hp))) ?_ ⟨ds, rfl, q1⟩⟩
  rw [zh_new (fun a z => A1.dom z) hp]
  exact r1.lst (zh_imp s1) hp hz
end
section
variable {X : Cx} {E : XK} {x : Str} {p pos : Pos} {e : Expr} {es : List Expr} {t : TA} {k j kc len : Nat} {ps : List Str} {T : List (Addr × Str)} {preF : List D → Prop} {postF : List D → D → Prop}
theorem pe_callW (h : DefW X.prog X.w X.K X.mg X.base k x ps T kc len preF postF) (hr : RoomG j X.A) (hk : k ≤ j) (hx : Passes (L2.CX X.prog X.w) X E) (ha : PA X (e :: es) t) (hg : Gl X x := by rfl)
    (hdb : (x == ("__debug__" : Str)) = false := by decide) (he : starEach (e :: es) X.env = (false, eval e X.env) :: starEach es X.env := by rfl) (hpl : (backTo pos (starEach es X.env)).any (·.1) = false := by rfl) :
    PE X (.Call (.Name x p) (e :: es) [] pos) (tCall (spW X.K T kc len preF postF) [] E t) := by
  obtain ⟨fd, F, hb, _, _, _, fun_⟩ := h.ok
  exact pe_callG F (hr.mono hk) hg h.mg fun_.kp hb .nil hx ha hdb he hpl
end
end PV
end
section
set_option Elab.async false
set_option linter.all false
set_option maxRecDepth 100000
set_option maxHeartbeats 1000000
/-! PV31: range(n), n with draws. -/
namespace PV
open PySem PySem.Spec PyProof.Rows L2 LamX Classical
section
variable {hd : Bool} {K : PySem.W.Frag} {g : Addr} {T : List (Addr × Str)} {k : Nat} {us mv : List Nat}
theorem hi_rng1 {te : TE} {p : Env → Prop} {q : Env → D → Prop} (he : HE K hd g T k te p q us mv) (hj : ∀ ρ d, q ρ d → ∃ j : Nat, d = .int j ∧ j < 2 ^ 62) : HI K hd g T k (iRng1 (tCons te tNil)) p (fun ρ ds => ∃ j : Nat, q ρ (.int j) ∧ ds = rngL 0 j) [] := by
  intro E n b F O H σ ρ W hp Q h
  refine he n b F O H σ ρ W hp _ fun d v b1 H1 B1 W1 s1 r1 q1 => ?_
  obtain ⟨j, rfl, hlt⟩ := hj ρ d q1
  obtain ⟨F', as, _, _, _, r⟩ := r1
  obtain ⟨rfl, _⟩ := r
  refine ⟨(j : Int), rfl, by omega, by omega, ?_⟩
  show Q (Itr 0 j) H1
  refine h (rngL 0 j) _ b1 H1 (fun _ => False) B1 W1 s1 (fun _ z => z.elim) ?_ ⟨j, q1, rfl⟩
  exact items_range
end
end PV
end
section
set_option Elab.async false
set_option linter.all false
set_option maxRecDepth 100000
set_option maxHeartbeats 1000000
/-! PV32: a value that is at hand, as one more name. -/
namespace PV
open PySem PySem.Spec PyProof.Rows L2 LamX Classical
section
variable {hd : Bool} {K : PySem.W.Frag} {E : XK} {b : Bs E} {F : Addr → Prop} {O : Nat → List Addr} {H : Hp} {σ : L2.St} {ρ : Env} {d : D} {v : V} {as : List Addr}
/-- the pending value stands at a name more -/
theorem Pd.more (P : Pd K b F O H σ ρ [d] [v] as) : Sd K b F (fun i => if i = ρ.length then as else if i < ρ.length then O i else []) H (σ ++ [some v]) (ρ ++ [some d]) := by
  have S := P.sd
  obtain ⟨v', ev, r⟩ := P.rp.of_one
  cases ev
  refine ⟨by simp [S.len], fun i e h => ?_, S.fdom, S.fr, fun i => ?_, fun i j hij a h1 h2 => ?_, fun i a h => ?_, S.same, S.sub, S.keep⟩
  · by_cases hi : i < ρ.length
    · rw [List.getElem?_append_left hi] at h
      obtain ⟨u, q1, q2⟩ := S.at_ i e h
      refine ⟨u, by rw [List.getElem?_append_left (by rw [S.len]; exact hi)]; exact q1, ?_⟩
      rw [if_neg (Nat.ne_of_lt hi), if_pos hi]
      exact q2
    · have hl : i < (ρ ++ [some d]).length := by
        rcases Nat.lt_or_ge i (ρ ++ [some d]).length with z | z
        · exact z
        · rw [List.getElem?_eq_none z] at h; cases h
      have e1 : i = ρ.length := by simp at hl; omega
      subst e1
      simp at h
      subst h
      refine ⟨v, by rw [← S.len]; simp, ?_⟩
      rw [if_pos rfl]
      exact r
  · split
    · exact P.nd
    · split
      · exact S.nd i
      · exact List.nodup_nil
  · by_cases hi : i = ρ.length
    · rw [if_pos hi] at h1
      have hj : j ≠ ρ.length := fun z => hij (hi.trans z.symm)
      rw [if_neg hj] at h2
      split at h2
      · exact (P.own a h1).2.2 j h2
      · cases h2
    · rw [if_neg hi] at h1
      split at h1
      · by_cases hj : j = ρ.length
        · rw [if_pos hj] at h2
          exact (P.own a h2).2.2 i h1
        · rw [if_neg hj] at h2
          split at h2
          · exact S.dj i j hij a h1 h2
          · cases h2
      · cases h1
  · split at h
    · obtain ⟨q1, q2, _⟩ := P.own a h
      refine ⟨q1, q2, ?_⟩
      obtain ⟨xs, q⟩ := Rp.own d v as r a h
      rw [q]; exact Option.some_ne_none _
    · split at h
      · exact S.own i a h
      · cases h
/-- the last name goes -/
theorem Sd.init {x : Option V} {y : Option D} (S : Sd K b F O H (σ ++ [x]) (ρ ++ [y])) : Sd K b F (fun i => if i < ρ.length then O i else []) H σ ρ := by
  have hl : σ.length = ρ.length := by have := S.len; simpa using this
  refine ⟨hl, fun i e h => ?_, S.fdom, S.fr, fun i => ?_, fun i j hij a h1 h2 => ?_, fun i a h => ?_, S.same, S.sub, S.keep⟩
  · have hi : i < ρ.length := by
      rcases Nat.lt_or_ge i ρ.length with z | z
      · exact z
      · rw [List.getElem?_eq_none z] at h; cases h
    obtain ⟨u, q1, q2⟩ := S.at_ i e (by rw [List.getElem?_append_left hi]; exact h)
    rw [List.getElem?_append_left (by rw [hl]; exact hi)] at q1
    refine ⟨u, q1, ?_⟩
    rw [if_pos hi]
    exact q2
  · split
    · exact S.nd i
    · exact List.nodup_nil
  · split at h1
    · split at h2
      · exact S.dj i j hij a h1 h2
      · cases h2
    · cases h1
  · split at h
    · exact S.own i a h
    · cases h
end
end PV
end
section
set_option Elab.async false
set_option linter.all false
set_option maxRecDepth 100000
set_option maxHeartbeats 1000000
/-! PV33: pure blocks, tests, stores in code that holds the generator. -/
namespace PV
open PySem PySem.Spec PyProof.Rows L2 LamX Classical
/-- the generator's place told at the slot 0 -/
def put0 (hd : Bool) (g : Addr) (ρ : Env) : Env := if hd then ρ.set 0 (some (.box (.adr g) [])) else ρ
def cut0 (hd : Bool) (ρ : Env) : Env := if hd then ρ.set 0 none else ρ
def has0 (hd : Bool) (g : Addr) (ρ : Env) : Prop := hd = true → ρ[0]? = some (some (.box (.adr g) []))
section
variable {hd : Bool} {K : PySem.W.Frag} {E : XK} {b b' b2 : Bs E} {F : Addr → Prop} {O : Nat → List Addr} {H H' H1 H2 : Hp} {σ : L2.St} {ρ : Env} {g : Addr} {T : List (Addr × Str)} {n m k k1 k2 : Nat} {us us' mv mv' : List Nat}
theorem put0_len : (put0 hd g ρ).length = ρ.length := by
  unfold put0
  split <;> simp
theorem put0_ne {i : Nat} (h : i ≠ 0 ∨ hd = false) : (put0 hd g ρ)[i]? = ρ[i]? := by
  unfold put0
  split
  · rename_i e
    rcases h with h | h
    · rw [List.getElem?_set_ne (Ne.symm h)]
    · rw [h] at e; cases e
  · rfl
theorem cut0_ne {i : Nat} (h : i ≠ 0 ∨ hd = false) : (cut0 hd ρ)[i]? = ρ[i]? := by
  unfold cut0
  split
  · rename_i e
    rcases h with h | h
    · rw [List.getElem?_set_ne (Ne.symm h)]
    · rw [h] at e; cases e
  · rfl
theorem cut0_put0 (h : hd = true → ρ[0]? = some none) : cut0 hd (put0 hd g ρ) = ρ := by
  unfold cut0 put0
  cases hd with
  | false => rfl
  | true =>
    simp only [if_true]
    rw [List.set_set]
    cases ρ with
    | nil => rfl
    | cons x r =>
      have := h rfl
      simp at this
      simp [this]
/-- a pure block -/
theorem pure_core {t : TS} {mm : Env → Fl} (W : WSt K hd g T n b F O H σ ρ) (h : SndS K E t mm) {ρ' : Env} (e : mm (put0 hd g ρ) = .nx ρ') (h0 : has0 hd g ρ') (D : Ends)
    (hq : ∀ F' O' H' σ', WSt K hd g T n b F' O' H' σ' (cut0 hd ρ') → D.nx σ' H') : t D σ H := by
  have S := W.sd
  have A := W.ap.apt S
  let O' : Nat → List Addr := fun i => match ρ[i]? with
    | some (some _) => O i
    | _ => []
  have hO : ∀ i a, a ∈ O' i → a ∈ O i ∧ ∃ xs, H a = some (.lst xs) := fun i a ha => by
    have ha' : a ∈ (match ρ[i]? with
      | some (some _) => O i
      | _ => []) := ha
    cases e1 : ρ[i]? with
    | none => rw [e1] at ha'; cases ha'
    | some x =>
      cases x with
      | none => rw [e1] at ha'; cases ha'
      | some d1 =>
        rw [e1] at ha'
        obtain ⟨v, _, r⟩ := S.at_ i d1 e1
        exact ⟨ha', Rp.own d1 v (O i) r a ha'⟩
  let bs : Bs E := ⟨F, solH g T H b.H0, b.B, b.HB, fun _ _ => .inl W.no⟩
  have Ss : Sd K bs F O' H σ (put0 hd g ρ) := {
    len := by rw [put0_len]; exact S.len
    at_ := fun i d1 e1 => by
      by_cases z : i = 0 ∧ hd = true
      · obtain ⟨rfl, hh⟩ := z
        unfold put0 at e1
        rw [if_pos hh] at e1
        have hl : 0 < ρ.length := by
          cases ρ with
          | nil => cases W.r0 hh
          | cons _ _ => simp
        rw [List.getElem?_set_self hl] at e1
        cases e1
        refine ⟨.ref g, W.s0 hh, g, [], rfl, ⟨rfl, rfl⟩, ?_, rfl, rfl⟩
        show (match ρ[0]? with
          | some (some _) => O 0
          | _ => []) = []
        rw [W.r0 hh]
      · rw [put0_ne (by
          by_cases y : i = 0
          · refine .inr ?_
            cases hd with
            | false => rfl
            | true => exact absurd ⟨y, rfl⟩ z
          · exact .inl y)] at e1
        obtain ⟨v, h1, h2⟩ := S.at_ i d1 e1
        refine ⟨v, h1, ?_⟩
        have e2 : O' i = O i := by
          show (match ρ[i]? with
            | some (some _) => O i
            | _ => []) = O i
          rw [e1]
        rw [e2]
        exact h2
    fdom := S.fdom
    fr := fun a h => .inl h
    nd := fun i => by
      show (match ρ[i]? with
        | some (some _) => O i
        | _ => []).Nodup
      split
      · exact S.nd i
      · exact List.nodup_nil
    dj := fun i j hij a h1 h2 => S.dj i j hij a (hO i a h1).1 (hO j a h2).1
    own := fun i a ha => by
      obtain ⟨h1, xs, h2⟩ := hO i a ha
      obtain ⟨q1, q2, q3⟩ := S.own i a h1
      refine ⟨q1, ?_, q3⟩
      show solH g T H b.H0 a = none
      unfold solH
      rw [if_neg]
      · exact q2
      · rintro ⟨o, e1, e2 | e2⟩
        · rw [h2] at e1
          cases e1
          cases e2
        · exact A.zO a e2 i h1
    same := sol_same S.same
    sub := S.sub
    keep := S.keep }
  refine h bs F O' H σ _ Ss D ?_
  rw [e]
  intro F' O2 H' σ' S2
  have s' : ∀ a o, solH g T H b.H0 a = some o → H' a = some o := S2.same
  refine hq F' O2 H' σ' ⟨⟨?_, fun i d1 e1 => ?_, S2.fdom, fun a z => ?_, S2.nd, S2.dj, fun i a z => ?_, fun a o e1 => s' a o (sol_of S.same e1), S2.sub, S2.keep⟩, W.ap, fun hh => ?_, fun hh => ?_, ?_, ?_, W.no⟩
  · rw [S2.len]
    unfold cut0
    split <;> simp
  · by_cases z : i = 0 ∧ hd = true
    · obtain ⟨rfl, hh⟩ := z
      have hl : 0 < ρ'.length := by
        have := h0 hh
        cases ρ' with
        | nil => cases this
        | cons _ _ => simp
      unfold cut0 at e1
      rw [if_pos hh, List.getElem?_set_self hl] at e1
      cases e1
    · rw [cut0_ne (by
        by_cases y : i = 0
        · refine .inr ?_
          cases hd with
          | false => rfl
          | true => exact absurd ⟨y, rfl⟩ z
        · exact .inl y)] at e1
      exact S2.at_ i d1 e1
  · rcases S2.fr a z with q | q
    · exact S.fr a q
    · exact .inr (sol_none q)
  · obtain ⟨q1, q2, q3⟩ := S2.own i a z
    exact ⟨q1, sol_none q2, q3⟩
  · obtain ⟨v, h1, a, vs, rfl, hb, _⟩ := S2.at_ 0 _ (h0 hh)
    rw [h1, show a = g from hb.1]
  · have hl : 0 < ρ'.length := by
      have := h0 hh
      cases ρ' with
      | nil => cases this
      | cons _ _ => simp
    unfold cut0
    rw [if_pos hh, List.getElem?_set_self hl]
  · obtain ⟨x, y, c, e1, r1⟩ := W.go.ex
    exact ⟨x, y, c, s' _ _ (sol_yes e1 (.inr (.inl rfl))), r1⟩
  · intro q hq
    obtain ⟨ps, e1, e2, e3⟩ := W.tb q hq
    refine ⟨ps, s' _ _ (sol_yes e1 (.inr (.inr ⟨q, hq, rfl⟩))), e2, fun pos cv hc => ?_⟩
    obtain ⟨c, e4, e5⟩ := e3 pos cv hc
    exact ⟨c, e4, s' _ _ (sol_yes e5 (.inl (by unfold CodeO; rfl)))⟩
theorem hs_pure {t : TS} {mm : Env → Fl} {p nx : Env → Prop} {rt : D → Prop} (h : ∀ E : XK, SndS K E t mm) (hm : ∀ ρ, p ρ → ∃ ρ', mm (put0 hd g ρ) = .nx ρ' ∧ has0 hd g ρ' ∧ nx (cut0 hd ρ')) : HS K hd g T 0 t p nx rt := by
  intro E n b F O H σ ρ W hp D hn hr
  obtain ⟨ρ', e, h0, hx⟩ := hm ρ hp
  exact pure_core W (h E) e h0 D fun F' O' H' σ' W' => hn b F' O' H' σ' _ .refl W' hx
theorem hs_nx {t : TS} {p q q' : Env → Prop} {rt rt' : D → Prop} (h : HS K hd g T k t p q rt) (hq : ∀ ρ, q ρ → q' ρ) (hr : ∀ d, rt d → rt' d) : HS K hd g T k t p q' rt' := fun E n b F O H σ ρ W hp D hn hr' => h n b F O H σ ρ W hp D (fun b' F' O' H' σ' ρ' B W' z => hn b' F' O' H' σ' ρ' B W' (hq _ z)) fun d v b' H' B s r A go tb z => hr' d v b' H' B s r A go tb (hr _ z)
theorem hs_k {t : TS} {p q : Env → Prop} {rt : D → Prop} (h : HS K hd g T k1 t p q rt) (hk : k1 ≤ k2) : HS K hd g T k2 t p q rt := fun E n b F O H σ ρ W hp D hn hr => by
  obtain ⟨m, rfl⟩ := Nat.le.dest hk
  refine h (n + m) b F O H σ ρ (by rw [Nat.add_assoc, Nat.add_comm m k1]; exact W) hp D (fun b' F' O' H' σ' ρ' B W' z => hn b' F' O' H' σ' ρ' B (W'.less (Nat.le_add_right _ _)) z) fun d v b' H' B s r A go tb z => hr d v b' H' B s r A (go.less (Nat.le_add_right _ _)) tb z
/-! ### expressions: weaker, more draws -/
theorem he_k {t : TE} {p : Env → Prop} {q : Env → D → Prop} (h : HE K hd g T k1 t p q us mv) (hk : k1 ≤ k2) : HE K hd g T k2 t p q us mv := fun E n b F O H σ ρ W hp Q hq => by
  obtain ⟨m, rfl⟩ := Nat.le.dest hk
  exact h (n + m) b F O H σ ρ (by rw [Nat.add_assoc, Nat.add_comm m k1]; exact W) hp Q fun d v b' H' B W' s r z => hq d v b' H' B (W'.less (Nat.le_add_right _ _)) s r z
theorem he_cons {t : TE} {p p' : Env → Prop} {q q' : Env → D → Prop} (h : HE K hd g T k t p q us mv) (hp : ∀ ρ, p' ρ → p ρ) (hq : ∀ ρ d, p' ρ → q ρ d → q' ρ d) : HE K hd g T k t p' q' us mv := fun E n b F O H σ ρ W z Q hQ => h n b F O H σ ρ W (hp _ z) Q fun d v b' H' B W' s r y => hQ d v b' H' B W' s r (hq _ _ z y)
/-! ### tests -/
def HT (K : PySem.W.Frag) (hd : Bool) (g : Addr) (T : List (Addr × Str)) (k : Nat) (t : TT) (pre : Env → Prop) (post : Env → Bool → Prop) : Prop :=
  ∀ ⦃E : XK⦄ (n : Nat) (b : Bs E) F O H σ ρ, WSt K hd g T (n + k) b F O H σ ρ → pre ρ → ∀ Q : Bool → Hp → Prop, (∀ c b' H', BRel g T b b' → WSt K hd g T n b' F O H' σ ρ → Imp g T H H' → post ρ c → Q c H') → t σ H Q
theorem ht_he {te : TE} {p : Env → Prop} {q : Env → D → Prop} {q' : Env → Bool → Prop} (h : HE K hd g T k te p q us mv) (hb : ∀ ρ d, q ρ d → ∃ c, d = .bl c ∧ q' ρ c) : HT K hd g T k (tTest te) p q' := fun E n b F O H σ ρ W hp Q hq => by
  refine h n b F O H σ ρ W hp _ fun d v b' H' B W' s r z => ?_
  obtain ⟨c, rfl, hc⟩ := hb ρ d z
  obtain ⟨F', as, _, _, _, r⟩ := r
  obtain ⟨rfl, _⟩ := r
  exact ⟨c, rfl, hq c b' H' B W' s hc⟩
theorem ht_heB {te : TE} {p : Env → Prop} {q : Env → D → Prop} {q' : Env → Bool → Prop} (h : HE K hd g T k te p q us mv) (hb : ∀ ρ d, q ρ d → ∃ c, d = .bl c ∧ q' ρ c) : HT K hd g T k (tB te) p q' := ht_he h hb
theorem ht_not {t : TT} {p : Env → Prop} {q : Env → Bool → Prop} (h : HT K hd g T k t p q) : HT K hd g T k (tNot t) p (fun ρ c => q ρ (!c)) := fun E n b F O H σ ρ W hp Q hq => h n b F O H σ ρ W hp _ fun c b' H' B W' s z => hq (!c) b' H' B W' s (by show q ρ (!!c); rw [Bool.not_not]; exact z)
theorem ht_pure {t : TT} {m : Env → R Bool} {p : Env → Prop} {q : Env → Bool → Prop} (h : ∀ E : XK, SndT K E t m) (hm : ∀ ρ, p ρ → ∃ c, m ρ = .ok c ∧ q ρ c) : HT K hd g T 0 t p q := fun E n b F O H σ ρ W hp Q hq => by
  obtain ⟨c, e, hc⟩ := hm ρ hp
  refine h _ b F O H σ ρ W.sd Q ?_
  rw [e]
  exact fun H' s => hq c b H' .refl (W.fwd s) (.of s) hc
theorem hs_ifT {tc : TT} {t u : TS} {p nx : Env → Prop} {q : Env → Bool → Prop} {rt : D → Prop} (hc : HT K hd g T k1 tc p q) (h1 : HS K hd g T k2 t (fun ρ => p ρ ∧ q ρ true) nx rt) (h2 : HS K hd g T k2 u (fun ρ => p ρ ∧ q ρ false) nx rt) : HS K hd g T (k1 + k2) (tIfS tc t u) p nx rt := by
  intro E n b F O H σ ρ W hp D hn hr
  refine hc (n + k2) b F O H σ ρ (by rw [Nat.add_assoc, Nat.add_comm k2 k1]; exact W) hp _ fun c b' H' B W' s z => ?_
  cases c with
  | true => exact iteT (h1 n b' F O H' σ ρ W' ⟨hp, z⟩ D (fun b2 F2 O2 H2 σ2 ρ2 B2 W2 y => hn b2 F2 O2 H2 σ2 ρ2 (B.trans B2) W2 y) fun d v b2 H2 B2 s r A go tb y => hr d v b2 H2 (B.trans B2) s r A go tb y)
  | false => exact iteF (h2 n b' F O H' σ ρ W' ⟨hp, z⟩ D (fun b2 F2 O2 H2 σ2 ρ2 B2 W2 y => hn b2 F2 O2 H2 σ2 ρ2 (B.trans B2) W2 y) fun d v b2 H2 B2 s r A go tb y => hr d v b2 H2 (B.trans B2) s r A go tb y)
/-- a and b -/
theorem he_and {ta tb : TE} {pa pb : Env → Prop} {qa : Env → D → Prop} {q : Env → D → Prop} (ha : HE K hd g T k1 ta pa qa us mv) (hb : HE K hd g T k2 tb pb q us' mv') (h : ∀ ρ d, pa ρ → qa ρ d → ∃ c, d = .bl c ∧ (if c = true then pb ρ else q ρ (.bl false))) :
    HE K hd g T (k1 + k2) (tAndV ta tb) pa q us' mv' := fun E n b F O H σ ρ W hp Q hq => by
  refine ha (n + k2) b F O H σ ρ (by rw [Nat.add_assoc, Nat.add_comm k2 k1]; exact W) hp _ fun d v b' H' B W' s r z => ?_
  obtain ⟨c, rfl, hc⟩ := h ρ d hp z
  obtain ⟨F', as, _, _, _, r⟩ := r
  obtain ⟨rfl, _⟩ := r
  refine ⟨c, rfl, ?_⟩
  cases c with
  | true =>
    refine iteT (hb n b' F O H' σ ρ W' (by simpa using hc) Q fun d v b2 H2 B2 W2 s2 r2 y => hq d v b2 H2 (B.trans B2) W2 (s.trans s2) ?_ y)
    obtain ⟨F2, as2, h1, h2, h3, h4⟩ := r2
    have back : ∀ {a : Addr}, zh g T H' H2 a = none → zh g T H H2 a = none := fun {a} e => by
      by_cases y : Zs g T a
      · rw [zh_in y] at e ⊢; exact e
      · rw [zh_out y] at e ⊢
        cases e2 : H a with
        | none => rfl
        | some o => rw [s a o y e2] at e; cases e
    exact ⟨F2, as2, fun a z => ⟨(h1 a z).1.imp id back, (h1 a z).2⟩, h2, fun a z => ⟨(h3 a z).1.imp back id, (h3 a z).2⟩, h4⟩
  | false => exact iteF (hq _ _ b' H' B (W'.less (Nat.le_add_right _ _)) s (.bl false) (by simpa using hc))
end
end PV
end
section
set_option Elab.async false
set_option linter.all false
set_option maxRecDepth 100000
set_option maxHeartbeats 1000000
/-! PV34: append, subscript store, with draws. -/
namespace PV
open PySem PySem.Spec PyProof.Rows L2 LamX Classical
section
variable {hd : Bool} {K : PySem.W.Frag} {E : XK} {b b' b2 : Bs E} {F : Addr → Prop} {O : Nat → List Addr} {H H' H1 H2 : Hp} {σ : L2.St} {ρ : Env} {g : Addr} {T : List (Addr × Str)} {n m k k1 k2 : Nat} {us us' mv mv' : List Nat}
theorem app_0 {α : Type} {l r : List α} {x : α} (h : l[0]? = some x) : (l ++ r)[0]? = some x := by
  cases l with
  | nil => cases h
  | cons a l => simpa using h
/-- the value of an expression as one more name -/
theorem he_hand {te : TE} {p : Env → Prop} {q : Env → D → Prop} (he : HE K hd g T k te p q us mv) (hu : disj us mv = true) (W : WSt K hd g T (n + k) b F O H σ ρ) (hp : p ρ) (Q : VK)
    (hq : ∀ d v (b2 : Bs E) F2 O2 H1, BRel g T b b2 → WSt K hd g T n b2 F2 O2 H1 (σ ++ [some v]) (pre us mv (noFz d) ρ ++ [some d]) → q ρ d → Q v H1) : te σ H Q := by
  refine he n b F O H σ ρ W hp _ fun d v b1 H1 B1 W1 s1 r1 hqd => ?_
  obtain ⟨b2, B2, A2, S2⟩ := W.base s1 W1.go W1.tb
  obtain ⟨F2, O2, as, _, P⟩ := S2.pend (zh_imp s1) hu r1.toL
  have en : noFzL [d] = noFz d := by simp [noFzL]
  rw [en] at P
  exact hq d v b2 F2 _ H1 B2 ⟨P.more, A2, fun hh => app_0 (W.s0 hh), fun hh => app_0 (pre_none us mv _ (W.r0 hh)), W1.go, W1.tb, W.no⟩ hqd
theorem pre_len {nf : Bool} : (pre us mv nf ρ).length = ρ.length := by
  rw [pre_eq, unsA_len]
  split
  · rfl
  · rw [frzA_len]
theorem WSt.init {x : Option V} {y : Option D} (W : WSt K hd g T n b F O H (σ ++ [x]) (ρ ++ [y])) (s0 : hd = true → σ[0]? = some (some (.ref g))) (r0 : hd = true → ρ[0]? = some none) : WSt K hd g T n b F (fun i => if i < ρ.length then O i else []) H σ ρ :=
  ⟨W.sd.init, W.ap, s0, r0, W.go, W.tb, W.no⟩
theorem hs_app {te : TE} {p : Env → Prop} {q : Env → D → Prop} {rt : D → Prop} (i : Nat) (he : HE K hd g T k te p q us mv) (hi : i ≠ 0 ∨ hd = false := by first | exact Or.inl (by decide) | exact Or.inr rfl) (hu : disj us mv = true := by rfl) (h1 : us.contains i = false := by rfl) (h2 : mv.contains i = false := by rfl)
    (hl : ∀ ρ d, p ρ → q ρ d → ∃ ds, ρ[i]? = some (some (.lst true ds)) ∧ lenOk (ds.length + 1) = true) :
    HS K hd g T k (tDrop (tBM K "list" rAppend (tVar i) (tCons te tNil))) (fun ρ => p ρ ∧ ∃ ds, ρ[i]? = some (some (.lst true ds))) (fun ρ' => ∃ ρ d ds, p ρ ∧ q ρ d ∧ ρ[i]? = some (some (.lst true ds)) ∧ ρ' = (pre us mv (noFz d) ρ).set i (some (.lst true (ds ++ [d])))) rt := by
  have n1 : i ∉ us := by simpa using h1
  have n2 : i ∉ mv := by simpa using h2
  intro E n b F O H σ ρ W hp D hn hr
  obtain ⟨hp, ds0, e00⟩ := hp
  obtain ⟨v0, q1, q2⟩ := W.sd.at_ i _ e00
  obtain ⟨a, xs, bs, rfl, e2, e3, e4, r⟩ := q2
  refine ⟨.ref a, q1, .inl ⟨rfl, xs, .of e2⟩, ?_⟩
  show te σ H fun x H2 => rAppend (.ref a) [x] H2 fun _ H3 => D.nx σ H3
  refine he_hand he hu W hp _ fun d v b2 F2 O2 H1 B2 W2 hq => ?_
  obtain ⟨ds, e0, hlen⟩ := hl ρ d hp hq
  obtain rfl : ds = ds0 := by
    rw [e00] at e0
    cases e0
    rfl
  generalize hρ : pre us mv (noFz d) ρ = ρ2 at W2
  have eP : ρ2[i]? = some (some (.lst true ds)) := by rw [← hρ, pre_out n1 n2]; exact e00
  have r0 : hd = true → ρ2[0]? = some none := fun hh => by rw [← hρ]; exact pre_none us mv _ (W.r0 hh)
  have il : i < ρ2.length := by
    rcases Nat.lt_or_ge i ρ2.length with z | z
    · exact z
    · rw [List.getElem?_eq_none z] at eP; cases eP
  have ll : ρ2.length ≠ i := by omega
  have l0 : 0 < ρ2.length := by omega
  have sl : σ.length = ρ2.length := by rw [← hρ, pre_len]; exact W.sd.len
  have lne : ρ2.length ≠ 0 ∨ hd = false := .inl (by omega)
  have key : ∀ E : XK, SndS K E _ _ := fun E => sns_app (K := K) (E := E) (us := []) (mv := [ρ2.length]) i (snd_mv ρ2.length) (by simp [disj]) (by rfl) (by simpa using Ne.symm ll)
  have em : sApp [] [ρ2.length] i (mvV ρ2.length) (put0 hd g (ρ2 ++ [some d])) = .nx ((pre [] [ρ2.length] (noFz d) (put0 hd g (ρ2 ++ [some d]))).set i (some (.lst true (ds ++ [d])))) := by
    unfold sApp
    rw [put0_ne hi, List.getElem?_append_left il, eP]
    simp only
    unfold mvV
    rw [put0_ne lne]
    simp [thnE, hlen]
  have ec : cut0 hd ((pre [] [ρ2.length] (noFz d) (put0 hd g (ρ2 ++ [some d]))).set i (some (.lst true (ds ++ [d])))) = (ρ2.set i (some (.lst true (ds ++ [d])))) ++ [none] := by
    apply List.ext_getElem?
    intro j
    by_cases hj0 : j = 0 ∧ hd = true
    · obtain ⟨rfl, hh⟩ := hj0
      have hi' : i ≠ 0 := hi.resolve_right (by rw [hh]; decide)
      have : (ρ2.set i (some (.lst true (ds ++ [d]))))[0]? = some none := by rw [List.getElem?_set_ne hi']; exact r0 hh
      rw [app_0 this]
      unfold cut0
      rw [if_pos hh, List.getElem?_set_self]
      rw [List.length_set, pre_len, put0_len]
      simp
    · have hj : j ≠ 0 ∨ hd = false := by
        by_cases y : j = 0
        · refine .inr ?_
          cases hd with
          | false => rfl
          | true => exact absurd ⟨y, rfl⟩ hj0
        · exact .inl y
      rw [cut0_ne hj]
      by_cases hji : j = i
      · subst hji
        rw [List.getElem?_set_self (by rw [pre_len, put0_len]; simp; omega), List.getElem?_append_left (by rw [List.length_set]; exact il), List.getElem?_set_self il]
      · rw [List.getElem?_set_ne (Ne.symm hji), pre_eq, unsA_get]
        have e1 : (if noFz d = true then put0 hd g (ρ2 ++ [some d]) else frzA [] (put0 hd g (ρ2 ++ [some d])) 0) = put0 hd g (ρ2 ++ [some d]) := by rw [frzA_nil]; split <;> rfl
        rw [e1, put0_ne hj]
        by_cases hjl : j < ρ2.length
        · rw [List.getElem?_append_left hjl, List.getElem?_append_left (by rw [List.length_set]; exact hjl), List.getElem?_set_ne (Ne.symm hji)]
          have : ([ρ2.length].contains (0 + j)) = false := by simp; omega
          rw [this]
          cases ρ2[j]? <;> rfl
        · by_cases hje : j = ρ2.length
          · subst hje
            simp
          · rw [List.getElem?_eq_none (by simp; omega), List.getElem?_eq_none (by simp; omega)]
            rfl
  have y := pure_core W2 (key E) em (fun hh => by
    have hi' : i ≠ 0 := hi.resolve_right (by rw [hh]; decide)
    rw [List.getElem?_set_ne hi', pre_eq, unsA_get, frzA_nil]
    have e1 : (if noFz d = true then put0 hd g (ρ2 ++ [some d]) else put0 hd g (ρ2 ++ [some d])) = put0 hd g (ρ2 ++ [some d]) := by split <;> rfl
    rw [e1]
    unfold put0
    rw [if_pos hh, List.getElem?_set_self (by simp)]
    have : ([ρ2.length].contains (0 + 0)) = false := by simp; omega
    rw [this]
    rfl) { nx := fun σ' H3 => σ' = σ ++ [some v] → D.nx σ H3, rt := fun _ _ => True, bk := fun _ _ => True, ct := fun _ _ => True } (fun F' O' H' σ' W' e => by
      subst e
      rw [ec] at W'
      exact hn b2 F' _ H' σ _ B2 (W'.init (fun hh => W.s0 hh) fun hh => by
        have hi' : i ≠ 0 := hi.resolve_right (by rw [hh]; decide)
        rw [List.getElem?_set_ne hi']; exact r0 hh) ⟨ρ, d, ds, hp, hq, e00, by rw [hρ]⟩)
  obtain ⟨x, z1, z2, z3⟩ := y
  rw [List.getElem?_append_left (by rw [sl]; exact il), q1] at z1
  cases z1
  obtain ⟨u, z4, z5⟩ := z3
  rw [← sl] at z4
  simp at z4
  subst z4
  obtain ⟨l, xs', y', f1, f2, f3, f4, f5⟩ := z5
  exact ⟨l, xs', y', f1, f2, f3, f4, f5 rfl⟩
/-! ### xs[i] = a scalar -/
theorem RpL.set : ∀ {ds : List D} {vs : List V} {as : List Addr} (j : Nat) {d : D} {v : V}, (∀ F H, Rp K F H d v []) → RpL K F H ds vs as → ∃ bs, bs.Sublist as ∧ RpL K F H (ds.set j d) (vs.set j v) bs
  | [], vs, as, j, d, v, _, h => by
    obtain ⟨rfl, rfl⟩ := h
    exact ⟨[], List.Sublist.refl _, rfl, rfl⟩
  | e :: ds, vs, as, 0, d, v, hv, h => by
    obtain ⟨u, r, a1, a2, e1, e2, r1, r2⟩ := h
    subst e1 e2
    exact ⟨a2, List.sublist_append_right _ _, v, r, [], a2, rfl, rfl, hv _ _, r2⟩
  | e :: ds, vs, as, j + 1, d, v, hv, h => by
    obtain ⟨u, r, a1, a2, e1, e2, r1, r2⟩ := h
    subst e1 e2
    obtain ⟨bs, q1, q2⟩ := RpL.set j hv r2
    exact ⟨a1 ++ bs, List.Sublist.append (List.Sublist.refl _) q1, u, r.set j v, a1, bs, rfl, rfl, r1, q2⟩
theorem Sd.setL {i j : Nat} {a : Addr} {xs : List V} {ds : List D} {d : D} {v : V} (S : Sd K b F O H σ ρ) (e0 : ρ[i]? = some (some (.lst true ds))) (q1 : σ[i]? = some (some (.ref a))) (e2 : H a = some (.lst xs)) (hv : ∀ F H, Rp K F H d v []) :
    ∃ O', Sd K b F O' (upd H a (.lst (xs.set j v))) σ (ρ.set i (some (.lst true (ds.set j d)))) := by
  obtain ⟨v0, k1, k2⟩ := S.at_ i _ e0
  obtain ⟨a', xs', bs, rfl, k3, k4, k5, r⟩ := k2
  rw [q1] at k1
  cases k1
  rw [e2] at k3
  cases k3
  obtain ⟨cs, c1, c2⟩ := RpL.set j hv r
  have aO : a ∈ O i := by rw [k5]; exact List.mem_cons_self
  have aF : ¬ F a := (S.own i a aO).1
  have nd := S.nd i
  rw [k5] at nd
  have acs : a ∉ cs := fun z => (List.nodup_cons.mp nd).1 (c1.subset z)
  have sub : ∀ y ∈ a :: cs, y ∈ O i := fun y z => by
    rw [k5]
    rcases List.mem_cons.mp z with z | z
    · rw [z]; exact List.mem_cons_self
    · exact List.mem_cons_of_mem _ (c1.subset z)
  have lstp : ∀ c o, H c = some o → isLst o = false → (upd H a (.lst (xs.set j v))) c = some o := fun c o e1 hn => by
    rw [upd_ne (fun z => by rw [z, e2] at e1; cases e1; cases hn)]
    exact e1
  have dom : ∀ c, H c ≠ none → (upd H a (.lst (xs.set j v))) c ≠ none := fun c z => by
    by_cases y : c = a
    · rw [y, upd_same]; exact fun z => by cases z
    · rw [upd_ne y]; exact z
  have il : i < ρ.length := by
    rcases Nat.lt_or_ge i ρ.length with z | z
    · exact z
    · rw [List.getElem?_eq_none z] at e0; cases e0
  refine ⟨fun l => if l = i then a :: cs else O l, by rw [List.length_set]; exact S.len, fun l e1 he1 => ?_, fun c z => dom c (S.fdom c z), S.fr, fun l => ?_, fun l k hlk c hc => ?_, fun l c hc => ?_, fun c o e1 => ?_, S.sub, fun c o e1 z => ?_⟩
  · by_cases hl : l = i
    · subst hl
      rw [List.getElem?_set_self il] at he1
      cases he1
      refine ⟨.ref a, q1, ?_⟩
      rw [if_pos rfl]
      refine ⟨a, xs.set j v, cs, rfl, upd_same, by rw [List.length_set]; exact k4, rfl, ?_⟩
      refine RpL.mono (fun _ z => z) lstp _ _ cs (fun c ys z e1 => ?_) c2
      rw [upd_ne (fun y => by
        rcases z with z | z
        · exact aF (y ▸ z)
        · exact acs (y ▸ z))]
      exact e1
    · rw [List.getElem?_set_ne (Ne.symm hl)] at he1
      obtain ⟨u, k6, k7⟩ := S.at_ l e1 he1
      refine ⟨u, k6, ?_⟩
      rw [if_neg hl]
      refine Rp.mono (fun _ z => z) lstp e1 u _ (fun c ys z e5 => ?_) k7
      rw [upd_ne (fun y => by
        rcases z with z | z
        · exact aF (y ▸ z)
        · exact S.dj l i hl a (y ▸ z) aO)]
      exact e5
  · by_cases hl : l = i
    · rw [if_pos hl]
      exact List.nodup_cons.mpr ⟨acs, (List.nodup_cons.mp nd).2.sublist c1⟩
    · rw [if_neg hl]
      exact S.nd l
  · have mem : ∀ l c, c ∈ (if l = i then a :: cs else O l) → c ∈ O l := fun l c z => by
      by_cases hl : l = i
      · subst hl
        rw [if_pos rfl] at z
        exact sub c z
      · rw [if_neg hl] at z
        exact z
    exact fun z => S.dj l k hlk c (mem l c hc) (mem k c z)
  · have hc' : c ∈ O l := by
      by_cases hl : l = i
      · subst hl
        rw [if_pos rfl] at hc
        exact sub c hc
      · rw [if_neg hl] at hc
        exact hc
    obtain ⟨z1, z2, z3⟩ := S.own l c hc'
    exact ⟨z1, z2, dom c z3⟩
  · have hn := (S.own i a aO).2.1
    rw [upd_ne (fun z => by rw [z, hn] at e1; cases e1)]
    exact S.same c o e1
  · have e5 := S.keep c o e1 z
    rw [upd_ne (fun y => by
      rcases z with z | z
      · rw [y, e2] at e5; cases e5; cases z
      · exact aF (y ▸ S.sub c z))]
    exact e5
theorem WSt.setL {i j : Nat} {a : Addr} {xs : List V} {ds : List D} {d : D} {v : V} (W : WSt K hd g T n b F O H σ ρ) (hi : i ≠ 0 ∨ hd = false) (e0 : ρ[i]? = some (some (.lst true ds))) (q1 : σ[i]? = some (some (.ref a))) (e2 : H a = some (.lst xs)) (hv : ∀ F H, Rp K F H d v []) :
    ∃ O', WSt K hd g T n b F O' (upd H a (.lst (xs.set j v))) σ (ρ.set i (some (.lst true (ds.set j d)))) := by
  obtain ⟨O', S'⟩ := W.sd.setL (j := j) e0 q1 e2 hv
  have A := W.ap.apt W.sd
  have az : ¬ Zs g T a := fun z => by
    obtain ⟨v0, k1, a', xs', bs, k2, k3, k4, k5, k6⟩ := W.sd.at_ i _ e0
    rw [q1] at k1
    cases k1
    cases k2
    exact A.zO a z i (by rw [k5]; exact List.mem_cons_self)
  refine ⟨O', S', W.ap, W.s0, fun hh => ?_, ?_, ?_, W.no⟩
  · rcases hi with hi | hi
    · rw [List.getElem?_set_ne hi]; exact W.r0 hh
    · rw [hi] at hh; cases hh
  · obtain ⟨x, y, c, e1, r1⟩ := W.go.ex
    exact ⟨x, y, c, by rw [upd_ne (fun z => az (.inl z.symm))]; exact e1, r1⟩
  · intro q hq
    obtain ⟨ps, e1, e3, e4⟩ := W.tb q hq
    refine ⟨ps, by rw [upd_ne (fun z => az (.inr ⟨q, hq, z⟩))]; exact e1, e3, fun pos cv hc => ?_⟩
    obtain ⟨c, e5, e6⟩ := e4 pos cv hc
    exact ⟨c, e5, by rw [upd_ne (fun z => by rw [z, e2] at e6; cases e6)]; exact e6⟩
theorem hs_store {te ti : TE} {p : Env → Prop} {q qi : Env → D → Prop} {rt : D → Prop} (i : Nat) (he : HE K hd g T k1 te p q us mv) (hti : HE K hd g T k2 ti p qi us' mv') (hi : i ≠ 0 ∨ hd = false := by first | exact Or.inl (by decide) | exact Or.inr rfl)
    (hs : ∀ ρ d, q ρ d → sc d = true) (hj : ∀ ρ d, p ρ → qi ρ d → ∃ ds, ρ[i]? = some (some (.lst true ds)) ∧ ∃ j : Nat, d = .int j ∧ j < ds.length) :
    HS K hd g T (k1 + k2) (tAsg te (gSub (tVar i) ti rSetL)) (fun ρ => p ρ ∧ ∃ ds, ρ[i]? = some (some (.lst true ds))) (fun ρ' => ∃ ρ d ds, ∃ j : Nat, p ρ ∧ q ρ d ∧ qi ρ (.int j) ∧ ρ[i]? = some (some (.lst true ds)) ∧ j < ds.length ∧ ρ' = ρ.set i (some (.lst true (ds.set j d)))) rt := by
  intro E n b F O H σ ρ W hp D hn hr
  obtain ⟨hp, ds, e0⟩ := hp
  refine he (n + k2) b F O H σ ρ (by rw [Nat.add_assoc, Nat.add_comm k2 k1]; exact W) hp _ fun d v b1 H1 B1 W1 s1 r1 hq => ?_
  obtain ⟨F', as, _, _, _, r⟩ := r1
  obtain ⟨_, hv⟩ := r.sc (hs ρ d hq)
  obtain ⟨v0, q1, a, xs, bs, rfl, e2, e3, e4, r⟩ := W1.sd.at_ i _ e0
  refine ⟨.ref a, q1, ?_⟩
  refine hti n b1 F O H1 σ ρ W1 hp _ fun dj vj b2 H2 B2 W2 s2 r2 hqi => ?_
  obtain ⟨ds', e0', j, rfl, hlt⟩ := hj ρ dj hp hqi
  rw [e0] at e0'
  cases e0'
  obtain ⟨Fj, aj, _, _, _, rj⟩ := r2
  obtain ⟨rfl, _⟩ := rj
  obtain ⟨v0, q1', a', xs', bs', e5, e6, e7, e8, r'⟩ := W2.sd.at_ i _ e0
  cases e5
  rw [q1] at q1'
  cases q1'
  refine ⟨a, xs', j, j, rfl, rfl, e6, ?_, ?_⟩
  · unfold ixN
    simp
    rw [r'.length]
    exact hlt
  · obtain ⟨O', W3⟩ := W2.setL (j := j) hi e0 q1 e6 hv
    exact hn b2 F O' _ σ _ (B1.trans B2) W3 ⟨ρ, d, ds, j, hp, hq, hqi, e0, hlt, rfl⟩
end
end PV
end
section
set_option Elab.async false
set_option linter.all false
set_option maxRecDepth 100000
set_option maxHeartbeats 1000000
/-! PV35: comprehensions with draws. -/
namespace PV
open PySem PySem.Spec PyProof.Rows L2 LamX Classical
/-- what is built -/
inductive LcR (f : D → Env → Option Env) (qt : Env → Bool → Prop) (qe : Env → D → Prop) (ρ : Env) : List D → List D → Prop
  | nil : LcR f qt qe ρ [] []
  | skip {d : D} {ds rs : List D} {ρ1 : Env} : f d ρ = some ρ1 → qt ρ1 false → LcR f qt qe ρ ds rs → LcR f qt qe ρ (d :: ds) rs
  | take {d z : D} {ds rs : List D} {ρ1 : Env} : f d ρ = some ρ1 → qt ρ1 true → qe ρ1 z → LcR f qt qe ρ ds rs → LcR f qt qe ρ (d :: ds) (z :: rs)
section
variable {hd : Bool} {K : PySem.W.Frag} {E : XK} {b b' b2 : Bs E} {F : Addr → Prop} {O : Nat → List Addr} {H H' H1 H2 : Hp} {σ : L2.St} {ρ : Env} {g : Addr} {T : List (Addr × Str)} {n m k k1 k2 c1 c2 N : Nat} {us us' mv mv' ns ws : List Nat}
/-- a list of nobody's changes -/
theorem WSt.other {A : Addr} {xs ys : List V} (W : WSt K hd g T n b F O H σ ρ) (hF : ¬ F A) (hO : ∀ i, A ∉ O i) (h0 : b.H0 A = none) (hz : ¬ Zs g T A) (hA : H A = some (.lst xs)) : WSt K hd g T n b F O (upd H A (.lst ys)) σ ρ := by
  have S := W.sd
  have dom : ∀ c, H c ≠ none → (upd H A (.lst ys)) c ≠ none := fun c z => by
    by_cases y : c = A
    · rw [y, upd_same]; exact fun z => by cases z
    · rw [upd_ne y]; exact z
  refine ⟨⟨S.len, fun i d e => ?_, fun a z => dom a (S.fdom a z), S.fr, S.nd, S.dj, fun i a z => ⟨(S.own i a z).1, (S.own i a z).2.1, dom a (S.own i a z).2.2⟩, fun a o e => ?_, S.sub, fun a o e z => ?_⟩, W.ap, W.s0, W.r0, ?_, ?_, W.no⟩
  · obtain ⟨v, h1, h2⟩ := S.at_ i d e
    refine ⟨v, h1, Rp.mono (fun _ z => z) (fun a o e1 l => ?_) d v _ (fun a zs z e1 => ?_) h2⟩
    · rw [upd_ne (fun z => by rw [z, hA] at e1; cases e1; cases l)]; exact e1
    · rw [upd_ne (fun y => by
        rcases z with z | z
        · exact hF (y ▸ z)
        · exact hO i (y ▸ z))]
      exact e1
  · rw [upd_ne (fun z => by rw [z, h0] at e; cases e)]
    exact S.same a o e
  · have e1 := S.keep a o e z
    rw [upd_ne (fun y => by
      rcases z with z | z
      · rw [y, hA] at e1; cases e1; cases z
      · exact hF (y ▸ S.sub a z))]
    exact e1
  · obtain ⟨x, y, c, e1, r1⟩ := W.go.ex
    exact ⟨x, y, c, by rw [upd_ne (fun z => hz (.inl z.symm))]; exact e1, r1⟩
  · intro q hq
    obtain ⟨ps, e1, e3, e4⟩ := W.tb q hq
    refine ⟨ps, by rw [upd_ne (fun z => hz (.inr ⟨q, hq, z⟩))]; exact e1, e3, fun pos cv hc => ?_⟩
    obtain ⟨c, e5, e6⟩ := e4 pos cv hc
    exact ⟨c, e5, by rw [upd_ne (fun z => by rw [z, hA] at e6; cases e6)]; exact e6⟩
theorem wipe_keep {i : Nat} {ws : List Nat} {σ : L2.St} (h : i ∉ ws) : (wipe σ ws)[i]? = σ[i]? := by rw [wipe_get, if_neg h]
theorem imp_none {a : Addr} (s : Imp g T H H1) (z : ¬ Zs g T a) (e : H1 a = none) : H a = none := by
  cases e2 : H a with
  | none => rfl
  | some o => rw [s a o z e2] at e; cases e
theorem he_lc {wi : TI} {tg : TG} {f : D → Env → Option Env} {tt : TT} {te : TE} {pr : Env → Prop} {post : Env → List D → Prop} {pt pe : Env → Prop} {qt : Env → Bool → Prop} {qe : Env → D → Prop}
    (hi : HI K hd g T k wi pr post us) (hg : SndG K tg f ns) (hk : Kp0 hd f) (ht : HT K hd g T c1 tt pt qt) (he : HE K hd g T c2 te pe qe us' [])
    (hN : ∀ ρ ds, pr ρ → post ρ ds → ds.length ≤ N) (hz : N ≤ 1000000)
    (hf : ∀ ρ ds d, pr ρ → post ρ ds → d ∈ ds → ∃ ρ1, f d (unsA ws (frzA us ρ 0) 0) = some ρ1 ∧ pt ρ1 ∧ (qt ρ1 true → pe ρ1))
    (h00 : ws.contains 0 = false ∨ hd = false := by first | exact Or.inl rfl | exact Or.inr rfl) (hn : subs ns ws = true := by rfl) :
    HE K hd g T (k + N * (c1 + c2)) (tLc wi tg tt te ws) pr (fun ρ d => ∃ ds rs, post ρ ds ∧ LcR f qt qe (unsA ws (frzA us ρ 0) 0) ds rs ∧ d = .lst true rs) (us ++ us') [] := by
  have hns : ∀ i ∈ ns, i ∈ ws := by
    unfold subs at hn
    simpa [List.all_eq_true] using hn
  intro E n b F O H σ ρ W hp Q hQ
  refine hi (n + N * (c1 + c2)) b F O H σ ρ (by rw [Nat.add_assoc, Nat.add_comm (N * (c1 + c2)) k]; exact W) hp _ fun ds J b1 H1 F1 B1 W1 s1 hF1 hJ hpost => ?_
  intro A hA
  have lenN : ds.length ≤ N := hN ρ ds hp hpost
  obtain ⟨b2, B2, A2, S2⟩ := W.base s1 W1.go W1.tb
  obtain ⟨n0, G, Y, w, hn0, hG, hY⟩ := hJ.ex
  obtain ⟨F2, O2, q0, hF12, hF2, hO2, PD⟩ := S2.pend0 (us := us) (mv := []) (ds := []) (vs := []) (as := []) (F' := F1) (zh_imp s1) (fun _ z => nomatch z) hF1 List.nodup_nil (fun _ z => nomatch z) ⟨rfl, rfl⟩ (fun _ z => nomatch z)
  rw [unsA_nil] at PD
  have AF := A2.apt PD.sd
  have S3 := PD.sd.wiped (ws := ws)
  have A0 := W.ap.apt W.sd
  generalize hρ : unsA ws (frzA us ρ 0) 0 = ρw at S3
  have W3 : WSt K hd g T (n + N * (c1 + c2)) b2 F2 O2 H1 (wipe σ ws) ρw := by
    refine ⟨S3, A2, fun hh => ?_, fun hh => ?_, W1.go, W1.tb, W.no⟩
    · rcases h00 with h00 | h00
      · rw [wipe_keep (by simpa using h00)]; exact W.s0 hh
      · rw [h00] at hh; cases hh
    · rcases h00 with h00 | h00
      · rw [← hρ, unsA_get, frzA_get]
        rw [W.r0 hh]
        have h00' : (ws.contains (0 + 0)) = false := h00
        simp only [Option.map_some, h00', Bool.false_eq_true, if_false]
        split <;> rfl
      · rw [h00] at hh; cases hh
  have nFA : ¬ F2 A := fun z => S3.fdom A z hA
  have nOA : ∀ i, A ∉ O2 i := fun i z => (S3.own i A z).2.2 hA
  have nZA : ¬ Zs g T A := fun z => AF.dom z hA
  have h0A : b2.H0 A = none := by
    cases e : b2.H0 A with
    | none => rfl
    | some o => rw [S3.same A o e] at hA; cases hA
  have al2 : ∀ a, F2 a → Al F O (us ++ us') a ∨ H a = none := fun a z => by
    rcases hF2 a z with q | q | ⟨i, hi, q⟩
    · exact .inl (.inl q)
    · rcases (hF1 a q).1 with q' | q'
      · exact .inl (Al.app a q')
      · rw [zh_out (AF.zF a · z)] at q'
        exact .inr q'
    · exact .inl (.inr ⟨i, List.mem_append_left _ hi, q⟩)
  have kF : ∀ {Hk : Hp}, Imp g T H1 Hk → KeepF F1 H1 Hk := fun {Hk} s a o e z => s a o (fun y => by
    rcases z with z | z
    · obtain ⟨o', e', l⟩ := AF.zl a y
      rw [e] at e'
      cases e'
      rw [z] at l
      cases l
    · exact AF.zF a y (hF12 a z)) e
  refine lc_it w (fun j Hk => ∃ b' vs zs F' as, BRel g T b2 b' ∧ WSt K hd g T (n + (N - j) * (c1 + c2)) b' F2 O2 Hk (wipe σ ws) ρw ∧ Imp g T H1 Hk ∧ Hk A = some (.lst vs) ∧ vs.length ≤ j ∧
      (∀ a, F' a → (Al F O (us ++ us') a ∨ H a = none) ∧ ¬ Zs g T a ∧ Hk a ≠ none ∧ a ≠ A) ∧ as.Nodup ∧ (∀ a ∈ as, H1 a = none ∧ ¬ F' a ∧ a ≠ A) ∧ RpL K F' Hk zs vs as ∧
      ∀ rs, LcR f qt qe ρw (ds.drop j) rs → LcR f qt qe ρw ds (zs ++ rs)) ?_ ?_ ?_ ?_
  · refine ⟨b2, [], [], NoA, [], .refl, ?_, .of (upd_same_ext hA), upd_same, Nat.le_refl _, (fun _ z => z.elim), List.nodup_nil, (fun _ z => nomatch z), ⟨rfl, rfl⟩, fun rs h => by simpa using h⟩
    exact W3.fwd (upd_same_ext hA)
  · rintro i Hk hik ⟨b', vs, zs, F', as, B', W', sk, _⟩
    exact hG Hk (kF sk)
  · rintro i x Hk H' hin ⟨b', vs, zs, F', as, B', W', sk, hDk, hlen, t1, t2, t3, t4, hw⟩ hy
    have hl : i < ds.length := by rw [← hn0]; exact hin
    have hd' : ds[i]? = some ds[i] := List.getElem?_eq_getElem hl
    obtain ⟨sx, rx⟩ := hY i Hk x H' ds[i] (kF sk) hd' hy
    have W2 := W'.fwd sx
    have rx' : Rp K F2 H' ds[i] x [] := Rp.mono (fun a z => hF12 a z) (fun _ _ e _ => e) _ x [] (fun _ _ _ e => e) rx
    have hdr : ds.drop i = ds[i] :: ds.drop (i + 1) := List.drop_eq_getElem_cons hl
    obtain ⟨ρ1, e1, hpt, hpe⟩ := hf ρ ds ds[i] hp hpost (List.getElem_mem hl)
    rw [hρ] at e1
    have cost : n + (N - i) * (c1 + c2) = (n + (N - (i + 1)) * (c1 + c2) + c2) + c1 := by
      have e : N - i = (N - (i + 1)) + 1 := by omega
      rw [e, Nat.add_mul, Nat.one_mul]
      omega
    refine hg b' F2 O2 H' (wipe σ ws) ρw ds[i] x [] [] [] ⟨W2.sd, .one rx', List.nodup_nil, fun _ z => nomatch z⟩ ρ1 e1 _ fun O3 σ3 as3 P3 B3 wp => ⟨?_, ?_⟩
    · have e2 := wp ws hns
      rw [e2]
      apply List.ext_getElem?
      intro j
      rw [wipe_get, wipe_get]
      by_cases hj : j ∈ ws
      · simp [hj]
        cases σ[j]? <;> rfl
      · simp [hj]
    · have W4 : WSt K hd g T (n + (N - (i + 1)) * (c1 + c2) + c2 + c1) b' F2 O3 H' σ3 ρ1 := by
        refine ⟨P3.sd, W'.ap, fun hh => ?_, fun hh => hk hh _ _ _ e1 (W'.r0 hh), by rw [← cost]; exact W2.go, W2.tb, W.no⟩
        rcases h00 with h00 | h00
        · have h0n : 0 ∉ ns := fun z => by
            have := hns 0 z
            simp at h00
            exact h00 this
          rw [wipe_0 wp h0n]; exact W'.s0 hh
        · rw [h00] at hh; cases hh
      have nA : ∀ {a : Addr}, (∃ i, a ∈ O3 i) → a ≠ A := fun {a} ⟨j, z⟩ y => by
        have g2 : a ∈ O2 j := (B3.1 j a z).elim id fun z => nomatch z
        exact nOA j (y ▸ g2)
      refine ht (n + (N - (i + 1)) * (c1 + c2) + c2) b' F2 O3 H' σ3 ρ1 W4 hpt _ fun kb b4 H4 B4 W5 s4 hq4 => ?_
      have sD4 : H4 A = some (.lst vs) := s4 A _ nZA (sx A _ hDk)
      have s04 : Imp g T Hk H4 := (Imp.of sx).trans s4
      have A4 := W5.ap.apt W5.sd
      have Ak := W'.ap.apt W'.sd
      cases kb with
      | false =>
        refine iteF ?_
        obtain ⟨b5, B5, W6⟩ := (W2.less (m := n + (N - (i + 1)) * (c1 + c2)) (by rw [cost]; omega)).imp s4 (W5.go.less (Nat.le_add_right _ _)) W5.tb
        refine ⟨b5, vs, zs, F', as, B'.trans B5, W6, sk.trans s04, sD4, Nat.le_succ_of_le hlen, fun a z => ⟨(t1 a z).1, (t1 a z).2.1, ?_, (t1 a z).2.2.2⟩, t2, t3, ?_, fun rs h => hw rs ?_⟩
        · exact fun e => (t1 a z).2.2.1 (imp_none s04 (t1 a z).2.1 e)
        · refine RpL.mono (fun _ z => z) (fun a o e l => s04 a o (fun y => ?_) e) zs vs as (fun a xs z e => s04 a _ (fun y => ?_) e) t4
          · obtain ⟨o', e', l'⟩ := Ak.zl a y
            rw [e] at e'; cases e'; rw [l] at l'; cases l'
          · rcases z with z | z
            · exact (t1 a z).2.1 y
            · exact AF.dom y (t3 a z).1
        · rw [hdr]
          exact .skip e1 hq4 h
      | true =>
        refine iteT (he (n + (N - (i + 1)) * (c1 + c2)) b4 F2 O3 H4 σ3 ρ1 W5 (hpe hq4) _ fun z y b5 H5 B5 W6 s5 r5 q5 => ?_)
        obtain ⟨Fz, az, z1, z2, z3, z4⟩ := r5
        have sD5 : H5 A = some (.lst vs) := s5 A _ nZA sD4
        have s05 : Imp g T Hk H5 := s04.trans s5
        have A5 := W6.ap.apt W6.sd
        have zal : ∀ a, Fz a → (Al F O (us ++ us') a ∨ H a = none) ∧ ¬ Zs g T a ∧ a ≠ A := fun a q => by
          rcases (z1 a q).1 with (y1 | ⟨j, hj, y1⟩) | y1
          · exact ⟨al2 a y1, fun y => AF.zF a y y1, fun e => nFA (e ▸ y1)⟩
          · have g2 : a ∈ O2 j := (B3.1 j a y1).elim id fun z => nomatch z
            exact ⟨.inl (.inr ⟨j, List.mem_append_right _ hj, hO2 j a g2⟩), fun y => AF.zO a y j g2, nA ⟨j, y1⟩⟩
          · by_cases y : Zs g T a
            · rw [zh_in y] at y1
              exact absurd y1 (A5.dom y)
            · rw [zh_out y] at y1
              exact ⟨.inr (imp_none (s1.trans (sk.trans s04)) y y1), y, fun e => by rw [e, sD4] at y1; cases y1⟩
        have znew : ∀ a ∈ az, H4 a = none ∧ ¬ Zs g T a := fun a q => by
          have y1 := (z3 a q).1.resolve_right fun y => mv_nil y
          by_cases y : Zs g T a
          · rw [zh_in y] at y1
            exact absurd y1 (A5.dom y)
          · rw [zh_out y] at y1
            exact ⟨y1, y⟩
        have asz : ∀ a ∈ as, ¬ Zs g T a := fun a q y => AF.dom y (t3 a q).1
        have aslst : ∀ a ∈ as, ∃ xs, H4 a = some (.lst xs) := fun a q => by
          obtain ⟨xs, e⟩ := RpL.own zs vs as t4 a q
          exact ⟨xs, s04 a _ (asz a q) e⟩
        have oldne : ∀ a ∈ as, a ∉ az := fun a q q' => by
          obtain ⟨xs, e⟩ := aslst a q
          rw [(znew a q').1] at e; cases e
        refine ⟨vs, sD5, Nat.lt_of_le_of_lt (Nat.le_trans hlen (Nat.le_trans (Nat.le_of_lt hl) (Nat.le_trans lenN hz))) (by rw [sizeLine_eq]; decide), ?_⟩
        obtain ⟨b6, B6, W7⟩ := (W2.less (m := n + (N - (i + 1)) * (c1 + c2)) (by rw [cost]; omega)).imp (s4.trans s5) W6.go W6.tb
        have W8 := W7.other (ys := vs ++ [y]) nFA nOA (((B'.trans B6).h0 A nZA).trans h0A) nZA sD5
        refine ⟨b6, vs ++ [y], zs ++ [z], fun a => F' a ∨ Fz a, as ++ az, B'.trans B6, W8, ?_, upd_same, by simpa using hlen, fun a q => ?_, ?_, fun a q => ?_, ?_, fun rs h => ?_⟩
        · intro a o nz e
          rw [upd_ne (ne_of_none e hA)]
          exact s05 a o nz (sk a o nz e)
        · rcases q with q | q
          · refine ⟨(t1 a q).1, (t1 a q).2.1, ?_, (t1 a q).2.2.2⟩
            rw [upd_ne (t1 a q).2.2.2]
            exact fun e => (t1 a q).2.2.1 (imp_none s05 (t1 a q).2.1 e)
          · refine ⟨(zal a q).1, (zal a q).2.1, ?_, (zal a q).2.2⟩
            rw [upd_ne (zal a q).2.2]
            exact (z1 a q).2
        · exact List.nodup_append.mpr ⟨t2, z2, fun a q b q' e => oldne a q (e ▸ q')⟩
        · rcases List.mem_append.mp q with q | q
          · refine ⟨(t3 a q).1, fun y => y.elim (t3 a q).2.1 fun y => ?_, (t3 a q).2.2⟩
            obtain ⟨xs, e⟩ := aslst a q
            rcases (z1 a y).1 with (y1 | ⟨j, hj, y1⟩) | y1
            · exact S3.fdom a y1 (t3 a q).1
            · have g2 : a ∈ O2 j := (B3.1 j a y1).elim id fun z => nomatch z
              exact (S3.own j a g2).2.2 (t3 a q).1
            · rw [zh_out (asz a q), e] at y1; cases y1
          · obtain ⟨hn3, nz⟩ := znew a q
            refine ⟨imp_none (sk.trans s04) nz hn3, fun y => y.elim (fun y => ?_) (z3 a q).2, fun e => by rw [e, sD4] at hn3; cases hn3⟩
            exact (t1 a y).2.2.1 (imp_none s04 nz hn3)
        · have m1 : RpL K (fun a => F' a ∨ Fz a) (upd H5 A (.lst (vs ++ [y]))) zs vs as := RpL.mono (fun _ z => .inl z) (fun a o e hl => by
            have e' := s05 a o (fun y => by
              obtain ⟨o', e', l'⟩ := Ak.zl a y
              rw [e] at e'; cases e'; rw [hl] at l'; cases l') e
            rw [upd_ne (fun z => by rw [z, sD5] at e'; cases e'; cases hl)]
            exact e') zs vs as (fun a xs q e => by
            have e' := s05 a _ (q.elim (fun q => (t1 a q).2.1) (asz a)) e
            rw [upd_ne (fun z => by
              rcases q with q | q
              · exact (t1 a q).2.2.2 z
              · exact (t3 a q).2.2 z)]
            exact e') t4
          have m2 : Rp K (fun a => F' a ∨ Fz a) (upd H5 A (.lst (vs ++ [y]))) z y az := Rp.mono (fun _ z => .inr z) (fun a o e hl => by
            rw [upd_ne (fun z => by rw [z, sD5] at e; cases e; cases hl)]
            exact e) z y az (fun a xs q e => by
            rw [upd_ne (fun z => by
              rcases q with q | q
              · exact (zal a q).2.2 z
              · have hn3 := (znew a q).1
                rw [z, sD4] at hn3; cases hn3)]
            exact e) z4
          exact m1.append (.one m2)
        · rw [List.append_assoc]
          refine hw _ ?_
          rw [hdr]
          exact .take e1 hq4 q5 h
  · rintro Hk ⟨b', vs, zs, F', as, B', W', sk, hDk, hlen, t1, t2, t3, t4, hw⟩
    obtain ⟨b6, B6, W7⟩ := (W1.less (m := n) (Nat.le_add_right _ _)).imp sk (W'.go.less (Nat.le_add_right _ _)) W'.tb
    have hfin := hw [] (by rw [hn0, List.drop_length]; exact .nil)
    rw [List.append_nil] at hfin
    refine hQ (.lst true zs) _ b6 Hk (B1.trans B6) W7 (s1.trans sk) ⟨F', A :: as, fun a q => ⟨(t1 a q).1.imp id fun e => by rw [zh_out (t1 a q).2.1]; exact e, (t1 a q).2.2.1⟩, List.nodup_cons.mpr ⟨fun z => (t3 A z).2.2 rfl, t2⟩, fun a q => ?_, A, vs, as, rfl, hDk, ?_, rfl, t4⟩ ⟨ds, zs, hpost, by rw [hρ]; exact hfin, rfl⟩
    · rcases List.mem_cons.mp q with q | q
      · rw [q]
        refine ⟨.inl ?_, fun z => (t1 A z).2.2.2 rfl⟩
        rw [zh_out nZA]
        exact imp_none s1 nZA hA
      · have nz : ¬ Zs g T a := fun y => AF.dom y (t3 a q).1
        refine ⟨.inl ?_, (t3 a q).2.1⟩
        rw [zh_out nz]
        exact imp_none s1 nz (t3 a q).1
    · have : vs.length ≤ 1000000 := Nat.le_trans hlen (by rw [hn0]; exact Nat.le_trans lenN hz)
      rw [sizeLine_eq]
      omega
end
end PV
end
section
set_option Elab.async false
set_option linter.all false
set_option maxRecDepth 100000
set_option maxHeartbeats 1000000
/-! PV36: powers of any base; bit_length. -/
namespace PV
open PySem PySem.Spec PyProof.Rows L2
def CPowW (i j : Int) : Prop := 0 ≤ j ∧ (Builtin.Int.intBits i : Int) * j ≤ 2 ^ 27
theorem op_powW {X : Cx} : OpR X (binaryOp .Pow) (rI CPowW fun i j => .int (i ^ j.toNat)) := opI fun _ _ _ _ _ _ _ hc q => pow_int hc.1 hc.2 q
def fPowW : D → D → Option D := onI fun i j => if decide (0 ≤ j) && decide ((Builtin.Int.intBits i : Int) * j ≤ 2 ^ 27) then some (.int (i ^ j.toNat)) else none
theorem ok_powW {K : PySem.W.Frag} : OpS K (r2 (rI CPowW fun i j => .int (i ^ j.toNat))) (o2 fPowW) := ops_I fun i j z h => by
  split at h
  · rename_i c
    cases h
    simp only [Bool.and_eq_true, decide_eq_true_eq] at c
    exact ⟨c, rfl⟩
  · cases h
section
variable {X : Cx} {E : XK} {a bb e : Expr} {ta tb te : TE} {ma mb me : Env → R D} {us us' mv mv' : List Nat} {pos apos : Pos}
theorem xpowW (ha : PX X E a ta ma us mv) (hb : PX X E bb tb mb us' mv') (ap : apart us mv us' mv' = true := by rfl) : PX X E (.BinOp a .Pow bb pos) (tOp (rI CPowW fun i j => .int (i ^ j.toNat)) ta tb) (bin ma mb fPowW) [] [] := ⟨pe_op op_powW ha.pe hb.pe, snd_opS ok_powW ha.sn hb.sn ap⟩
def fBits : D → Option D
  | .int i => some (.int (Builtin.Int.intBits i : Nat))
  | _ => none
def rBits : V → Hp → VK → Prop := fun x H Q => ∃ i, x = .int i ∧ Q (.int (Builtin.Int.intBits i : Nat)) H
theorem xbits (ha : PX X E a ta ma us mv) (hbase : attributeBase a "bit_length" X.env (eval a X.env) = eval a X.env := by rfl) (hline : (apos.endLine == pos.line) = true := by rfl) : PX X E (.Call (.Attribute a "bit_length" apos) [] [] pos) (tUn rBits ta) (fun ρ => (ma ρ).bind fun x => ofO (fBits x)) [] [] :=
  ⟨pe_bits ha.pe hbase hline, snd_un (fun F as H d v z Q r h q => by
    cases d with
    | int i =>
      cases h
      exact ⟨i, r.1, q _ (fun _ _ => ⟨rfl, rfl⟩) rfl⟩
    | _ => cases h) ha.sn⟩
end
end PV
end
section
set_option Elab.async false
set_option linter.all false
set_option maxRecDepth 100000
set_option maxHeartbeats 1000000
/-! PV37: a def that holds the generator, its promise kept by a reading of its own; a def that makes lambdas. -/
namespace PV
open PySem PySem.Spec PyProof.Rows L2 LamX Classical
section
variable {P : Program} {w : World} {K : PySem.W.Frag} {mg : Str → Option Value} {base : Heap} {k : Nat} {x : Str} {ps N : List Str} {params : Arguments} {body : List Stmt} {scope : Scope} {T : List (Addr × Str)} {kc len : Nat} {preF : List D → Prop} {postF : List D → D → Prop} {g : Addr} {H : Hp} {n m : Nat}
theorem mkW0 (hmg : mg x = some (.ref (He.ga K x))) (hF : ∃ fd, FunD K x x params body scope [] [] (He.ga K x) fd) (S : FnScope N ps scope) (hl : ps.length = len + 1)
    (hb : ∀ (kV doc pm : Value) (an : Option Addr) (cdv ct : Value) (us : List Value), us.length = ps.length → bindArgs (PySem.W.fnOf x x params body scope .none kV doc pm an cdv ct) ⟨us, []⟩ = pure (ps.zip us))
    (h : ∀ (cdv : Value) (A : Around) (outer : List PySem.Env) (s : Shared) (H : Hp) (vs : List V) (Q : VK) (E : XK), RoomG k (A.deeper (envOfC x scope s.heap.objs.size (He.ga K x) cdv)) → spW K T kc len preF postF vs H Q E →
      ∃ t, PSs (XD P w K mg base N x scope cdv A outer s H E) body t ∧ t { nx := fun _ H' => Q .non H', rt := Q } (L2.start N vs) H) : DefW P w K mg base (k + 1) x ps T kc len preF postF := by
  obtain ⟨fd, F⟩ := hF
  have hlen : ∀ (vs : List V) (H : Hp) (Q : VK) (E : XK), spW K T kc len preF postF vs H Q E → vs.length = ps.length := fun vs H Q E h => by
    obtain ⟨g, vs', n, F, ds, rfl, h1, _, h2, _⟩ := h
    rw [List.length_cons, h2.length, h1, hl]
  have F' := F
  obtain ⟨oc, od, dV, kV, doc, pm, an, cdv, ct, osl, e1, lk, hcd, hD, hK⟩ := F'.ex
  refine ⟨⟨fd, ⟨hlen, fun A outer s H args us vs Q E hr e0 hbb r hsp => ?_⟩, F.bindsN hb, params, body, scope, F⟩, hmg⟩
  rw [e1] at lk hbb
  exact LamX.run_ofS lk hcd S hr.rm e0 hbb r (hlen vs H Q E hsp) fun hr' => h cdv A outer s H vs Q E ⟨hr', hr.gd⟩ hsp
theorem Tabs.updL {ys : List V} {xs : List V} (tb : Tabs T H) (hg : H g = some (.lst xs)) : Tabs T (upd H g (.lst ys)) := fun q hq => by
  obtain ⟨ps, e1, e3, e4⟩ := tb q hq
  refine ⟨ps, by rw [upd_ne (fun z => by rw [z, hg] at e1; cases e1)]; exact e1, e3, fun pos cv hc => ?_⟩
  obtain ⟨c, e5, e6⟩ := e4 pos cv hc
  exact ⟨c, e5, by rw [upd_ne (fun z => by rw [z, hg] at e6; cases e6)]; exact e6⟩
theorem rIx_lst {xs : List V} {i : Int} {v : V} {Q : VK} (h : H g = some (.lst xs)) (hv : atI xs i = some v) (q : Q v H) : rIx K (.ref g) (.int i) H Q := .inl ⟨g, xs, i, v, rfl, rfl, .inl (.inl h), hv, q⟩
end
end PV
end
section
set_option Elab.async false
set_option linter.all false
set_option maxRecDepth 100000
set_option maxHeartbeats 1000000
/-! PV38: pure parts whose calls raise nothing, in code that holds the generator. -/
namespace PV
open PySem PySem.Spec PyProof.Rows L2 LamX Classical
section
variable {hd : Bool} {K : PySem.W.Frag} {E : XK} {b b' b2 : Bs E} {F : Addr → Prop} {O : Nat → List Addr} {H H' H1 H2 : Hp} {σ : L2.St} {ρ : Env} {g : Addr} {T : List (Addr × Str)} {n m k k1 k2 : Nat} {us us' mv mv' : List Nat}
theorem Sd.of0 (S : Sd K b.to0 F O H σ ρ) : Sd K b F O H σ ρ := ⟨S.len, S.at_, S.fdom, S.fr, S.nd, S.dj, S.own, S.same, S.sub, S.keep⟩
theorem e0_no : ∀ c d H, ¬ E0 c d H := fun _ _ _ z => z
theorem WSt.to0 (W : WSt K hd g T n b F O H σ ρ) : WSt K hd g T n b.to0 F O H σ ρ := ⟨W.sd.to0, ⟨W.ap.g0, W.ap.h0⟩, W.s0, W.r0, W.go, W.tb, e0_no⟩
theorem WSt.of0 (W : WSt K hd g T n b.to0 F O H σ ρ) (no : ∀ c d H, ¬ E c d H) : WSt K hd g T n b F O H σ ρ := ⟨W.sd.of0, ⟨W.ap.g0, W.ap.h0⟩, W.s0, W.r0, W.go, W.tb, no⟩
theorem he_pure0 {t : TE} {me : Env → R D} {pre : Env → Prop} {post : Env → D → Prop} (h : SndE K E0 t me us mv) (hp : ∀ ρ, pre ρ → ∃ d, me ρ = .ok d ∧ post ρ d) : HE K hd g T 0 t pre post us mv := by
  intro E n b F O H σ ρ W p Q q
  obtain ⟨d, e, hd⟩ := hp ρ p
  refine h b.to0 F O H σ ρ W.to0.sd Q ?_
  rw [e]
  intro v H' s r
  have A := W.ap.apt W.sd
  refine q d v b H' .refl (W.fwd s) (.of s) ?_ hd
  rw [zh_same s fun a z => A.dom z]
  exact r
theorem hi_pure0 {t : TI} {mi : Env → R (List D)} {pre : Env → Prop} {post : Env → List D → Prop} (h : SndI K E0 t mi us) (hp : ∀ ρ, pre ρ → ∃ ds, mi ρ = .ok ds ∧ post ρ ds) : HI K hd g T 0 t pre post us := by
  intro E n b F O H σ ρ W p Q q
  obtain ⟨ds, e, hd⟩ := hp ρ p
  refine h b.to0 F O H σ ρ W.to0.sd Q ?_
  rw [e]
  intro J H1 F1 s hF hJ
  have A := W.ap.apt W.sd
  refine q ds J b H1 F1 .refl (W.fwd s) (.of s) (fun a z => ?_) hJ hd
  rw [zh_same s fun a z => A.dom z]
  exact hF a z
theorem ht_pure0 {t : TT} {m : Env → R Bool} {p : Env → Prop} {q : Env → Bool → Prop} (h : SndT K E0 t m) (hm : ∀ ρ, p ρ → ∃ c, m ρ = .ok c ∧ q ρ c) : HT K hd g T 0 t p q := fun E n b F O H σ ρ W hp Q hq => by
  obtain ⟨c, e, hc⟩ := hm ρ hp
  refine h b.to0 F O H σ ρ W.to0.sd Q ?_
  rw [e]
  exact fun H' s => hq c b H' .refl (W.fwd s) (.of s) hc
theorem hs_pure0 {t : TS} {mm : Env → Fl} {p nx : Env → Prop} {rt : D → Prop} (h : SndS K E0 t mm) (hm : ∀ ρ, p ρ → ∃ ρ', mm (put0 hd g ρ) = .nx ρ' ∧ has0 hd g ρ' ∧ nx (cut0 hd ρ')) : HS K hd g T 0 t p nx rt := by
  intro E n b F O H σ ρ W hp D hn hr
  obtain ⟨ρ', e, h0, hx⟩ := hm ρ hp
  exact pure_core W.to0 h e h0 D fun F' O' H' σ' W' => hn b F' O' H' σ' _ .refl (W'.of0 W.no) hx
theorem hs_end0 {t : TS} {mm : Env → Fl} {p nx : Env → Prop} {rt : D → Prop} (h : SndS K E0 t mm) (hm : ∀ ρ, p ρ → ∃ d, mm ρ = .rt d ∧ rt d) : HS K hd g T 0 t p nx rt := by
  intro E n b F O H σ ρ W hp D hn hr
  obtain ⟨d, e, hd⟩ := hm ρ hp
  have S := W.sd
  have A := W.ap.apt S
  let O' : Nat → List Addr := fun i => match ρ[i]? with
    | some (some _) => O i
    | _ => []
  have hO : ∀ i a, a ∈ O' i → a ∈ O i ∧ ∃ xs, H a = some (.lst xs) := fun i a ha => by
    have ha' : a ∈ (match ρ[i]? with
      | some (some _) => O i
      | _ => []) := ha
    cases e1 : ρ[i]? with
    | none => rw [e1] at ha'; cases ha'
    | some x =>
      cases x with
      | none => rw [e1] at ha'; cases ha'
      | some d1 =>
        rw [e1] at ha'
        obtain ⟨v, _, r⟩ := S.at_ i d1 e1
        exact ⟨ha', Rp.own d1 v (O i) r a ha'⟩
  let bs : Bs E0 := ⟨F, solH g T H b.H0, fun _ => False, fun _ => none, fun _ _ => .inl e0_no⟩
  have Ss : Sd K bs F O' H σ ρ := {
    len := S.len
    at_ := fun i d1 e1 => by
      obtain ⟨v, h1, h2⟩ := S.at_ i d1 e1
      refine ⟨v, h1, ?_⟩
      have e2 : O' i = O i := by
        show (match ρ[i]? with
          | some (some _) => O i
          | _ => []) = O i
        rw [e1]
      rw [e2]
      exact h2
    fdom := S.fdom
    fr := fun a h => .inl h
    nd := fun i => by
      show (match ρ[i]? with
        | some (some _) => O i
        | _ => []).Nodup
      split
      · exact S.nd i
      · exact List.nodup_nil
    dj := fun i j hij a h1 h2 => S.dj i j hij a (hO i a h1).1 (hO j a h2).1
    own := fun i a ha => by
      obtain ⟨h1, xs, h2⟩ := hO i a ha
      obtain ⟨q1, q2, q3⟩ := S.own i a h1
      refine ⟨q1, ?_, q3⟩
      show solH g T H b.H0 a = none
      unfold solH
      rw [if_neg]
      · exact q2
      · rintro ⟨o, e1, e2 | e2⟩
        · rw [h2] at e1
          cases e1
          cases e2
        · exact A.zO a e2 i h1
    same := sol_same S.same
    sub := fun _ z => z.elim
    keep := fun a o z _ => by cases z }
  refine h bs F O' H σ ρ Ss D ?_
  rw [e]
  intro v H' s r
  have s' : ∀ a o, solH g T H b.H0 a = some o → H' a = some o := s
  have sb : Same b.H0 H' := fun a o e1 => s' a o (sol_of S.same e1)
  refine hr d v b H' .refl sb ?_ W.ap ?_ ?_ hd
  · obtain ⟨F', as, h1, h2, h3, h4⟩ := r
    refine ⟨F', as, fun a z => ⟨?_, (h1 a z).2⟩, h2, fun a z => ⟨.inl ?_, (h3 a z).2⟩, h4⟩
    · rcases (h1 a z).1 with q | q
      · exact S.fr a q
      · exact .inr (sol_none q)
    · rcases (h3 a z).1 with q | q
      · exact sol_none q
      · exact q.elim
  · obtain ⟨x, y, c, e1, r1⟩ := W.go.ex
    exact ⟨x, y, c, s' _ _ (sol_yes e1 (.inr (.inl rfl))), r1⟩
  · intro q hq
    obtain ⟨ps, e1, e2, e3⟩ := W.tb q hq
    refine ⟨ps, s' _ _ (sol_yes e1 (.inr (.inr ⟨q, hq, rfl⟩))), e2, fun pos cv hc => ?_⟩
    obtain ⟨c, e4, e5⟩ := e3 pos cv hc
    exact ⟨c, e4, s' _ _ (sol_yes e5 (.inl (by unfold CodeO; rfl)))⟩
end
section
variable {X : Cx} {E : XK} {e : Expr} {es : List Expr} {tr : TA} {p pos : Pos} {x : Str}
theorem pe_callD {k j : Nat} {ps : List Str} {f : List D → R D} (h : Def X.prog X.w X.K X.mg X.base k x ps f) (hr : RoomG j X.A) (hk : k ≤ j) (hx : Passes (L2.CX X.prog X.w) X E) (ha : PA X (e :: es) tr) (hg : Gl X x := by rfl)
    (hdb : (x == ("__debug__" : Str)) = false := by decide) (he : starEach (e :: es) X.env = (false, eval e X.env) :: starEach es X.env := by rfl) (hpl : (backTo pos (starEach es X.env)).any (·.1) = false := by rfl) :
    PE X (.Call (.Name x p) (e :: es) [] pos) (tCall (spF X.K ps.length f) [] E tr) := by
  obtain ⟨fd, F, hb, _, _, _, fun_⟩ := h.ok
  exact pe_callG F (hr.mono hk) hg h.mg fun_.kp hb .nil hx ha hdb he hpl
end
end PV
namespace PV
open PySem
/-- a body's statement -/
def stm (b : List Stmt) (i : Nat) : Stmt := b.getD i (.Pass ⟨0, 0, 0, 0⟩)
end PV
end
section
set_option Elab.async false
set_option linter.all false
set_option maxRecDepth 100000
set_option maxHeartbeats 1000000
/-! PV39: rules for code that holds the generator, one a construct. -/
namespace PV
open PySem PySem.Spec PyProof.Rows L2 LamX Classical
section
variable {X : Cx} {e a c : Expr} {te : TE} {tg elt iter : Expr} {pos : Pos} {st : Stmt}
theorem wset (i : Nat) {x : Str} {pos' : Pos} (hN : X.N.Nodup) (he : PE X e te) (hs : swapsWith e (some (.Name x pos')) pos.line X.env = pure false := by rfl) (hi : X.N[i]? = some x := by rfl) (hx : Loc X.env.scope x := by first | exact Or.inl rfl | exact Or.inr rfl)
    (hf : X.fn x = true ∨ X.env.scope.names.lookup x = some .local := by first | exact .inl rfl | exact .inr rfl) : PS X (.Assign [.Name x pos'] e pos) (tAsg te (gName i)) := ps_set hN hi hx he hs hf
theorem wapp (i : Nat) {x : Str} {p1 p2 p3 p4 : Pos} (he : PE X e te) (hN : X.N[i]? = some x := by rfl) (hv : Vis X.env.scope x := by first | exact Or.inl rfl | exact Or.inr (Or.inl rfl) | exact Or.inr (Or.inr rfl)) (hd : (x == ("__debug__" : Str)) = false := by decide)
    (hcd : (x == ("__classdict__" : Str)) = false := by decide) (hbase : attributeBase (.Name x p1) "append" X.env (eval (.Name x p1) X.env) = eval (.Name x p1) X.env := by rfl)
    (hfew : ((backTo p3 (starEach [e] X.env)).all (fun x => !x.1) && (backToKw p3 (keywordEach [] X.env)).all (fun x => x.1.isSome) && decide ([e].length + ([] : List Keyword).length + (if ([] : List Keyword).isEmpty then 0 else 1) < 30)) = true := by rfl)
    (hline : (p2.endLine == p3.line) = true := by rfl) (hs : starEach [e] X.env = (false, eval e X.env) :: starEach [] X.env := by rfl) (hplain : (backTo p3 (starEach [] X.env)).any (·.1) = false := by rfl)
    (hsw : swapsWith (.Call (.Attribute (.Name x p1) "append" p2) [e] [] p3) none p4.line X.env = pure false := by rfl) :
    PS X (.Expr (.Call (.Attribute (.Name x p1) "append" p2) [e] [] p3) p4) (tDrop (tBM X.K "list" rAppend (tVar i) (tCons te tNil))) :=
  ps_expr (pe_bm PySem.F.plainAttrs_list PySem.F.slot_list_append PySem.F.type_list_append mt_append (pe_var hN hv hd hcd) (pa_cons he pa_nil hs) hbase hfew hline hs hplain) hsw
theorem wlc {g : Shared → Hp → Addr → List (Str × Addr) → List Addr → TG} {t1 : Shared → Hp → Addr → List (Str × Addr) → List Addr → TT} {te : Shared → Hp → Addr → List (Str × Addr) → List Addr → TE} {ifs : List Expr} {scope : Scope} (own : List (Str × Nat)) {wi : TI} (hc : X.calm = true) (hN : X.N.Nodup) (hi : PI X tg iter wi) (ok : blkC X.N X.env.scope scope own = true)
    (hg : ∀ (s : Shared) (H : Hp) (C : Addr) (cl : List (Str × Addr)) (fp : List Addr), PG (Cx.bk X s H scope C cl fp) tg (g s H C cl fp)) (ht : ∀ (s : Shared) (H : Hp) (C : Addr) (cl : List (Str × Addr)) (fp : List Addr), PTs (Cx.bk X s H scope C cl fp) ifs (t1 s H C cl fp))
    (he : ∀ (s : Shared) (H : Hp) (C : Addr) (cl : List (Str × Addr)) (fp : List Addr), PE (Cx.bk X s H scope C cl fp) elt (te s H C cl fp)) (hs : ∀ x, foldedSetIterable iter X.env x = pure x := by intro _; rfl) (eg : ∀ s H C cl fp, g s H C cl fp = g ({} : PySem.Shared) (fun _ => none) 0 [] [] := by intros; rfl) (et1 : ∀ s H C cl fp, t1 s H C cl fp = t1 ({} : PySem.Shared) (fun _ => none) 0 [] [] := by intros; rfl) (ete : ∀ s H C cl fp, te s H C cl fp = te ({} : PySem.Shared) (fun _ => none) 0 [] [] := by intros; rfl) :
    PE X (.ListComp elt [⟨tg, iter, ifs, 0⟩] scope pos) (tLc wi (g ({} : PySem.Shared) (fun _ => none) 0 [] []) (t1 ({} : PySem.Shared) (fun _ => none) 0 [] []) (te ({} : PySem.Shared) (fun _ => none) 0 [] []) (own.map (·.2))) :=
  pe_lc hc hN hi (blkOk_by ok) (fun s H C cl fp => eg s H C cl fp ▸ hg s H C cl fp) (fun s H C cl fp => et1 s H C cl fp ▸ ht s H C cl fp) (fun s H C cl fp => ete s H C cl fp ▸ he s H C cl fp) hs
end
section
variable {hd : Bool} {K : PySem.W.Frag} {g : Addr} {T : List (Addr × Str)} {k : Nat} {us mv : List Nat}
theorem ht_yes {p : Env → Prop} : HT K hd g T 0 tYes p (fun _ c => c = true) := ht_pure0 snt_yes fun _ _ => ⟨true, rfl, rfl⟩
theorem hea_nil' {p : Env → Prop} : HEA K hd g T 0 tNil p (fun _ ds => ds = []) [] [] := fun E n b F O H σ ρ W _ Q q => hea_nil n b F O H σ ρ W trivial Q q
theorem hea_one {te : TE} {p : Env → Prop} {q : Env → D → Prop} (he : HE K hd g T k te p q us mv) : HEA K hd g T k (tCons te tNil) p (fun ρ ds => ∃ d, ds = [d] ∧ q ρ d) us mv := fun E n b F O H σ ρ W hp Q hQ => by
  refine hea_cons (k2 := 0) he hea_nil' (by unfold apart; simp) n b F O H σ ρ W ⟨hp, hp⟩ Q fun ds vs b' H' B W' s r q => ?_
  obtain ⟨d, r', rfl, q1, rfl⟩ := q
  exact hQ [d] vs b' H' B W' s (by simpa using r) ⟨d, rfl, q1⟩
end
section
variable {hd : Bool} {K : PySem.W.Frag} {g : Addr} {T : List (Addr × Str)} {k1 k2 : Nat} {us us' mv mv' : List Nat}
theorem hea_two {ta tb : TE} {p : Env → Prop} {qa qb : Env → D → Prop} (ha : HE K hd g T k1 ta p qa us mv) (hb : HE K hd g T k2 tb p qb us' mv') (ap : apart us mv us' mv' = true := by rfl) :
    HEA K hd g T (k1 + k2) (tCons ta (tCons tb tNil)) p (fun ρ ds => ∃ d e, ds = [d, e] ∧ qa ρ d ∧ qb ρ e) (us ++ us') (mv ++ mv') := fun E n b F O H σ ρ W hp Q hQ => by
  refine hea_cons ha (hea_one hb) ap n b F O H σ ρ W ⟨hp, hp⟩ Q fun ds vs b' H' B W' s r q => ?_
  obtain ⟨d, r', rfl, q1, e, rfl, q2⟩ := q
  exact hQ [d, e] vs b' H' B W' s r ⟨d, e, rfl, q1, q2⟩
end
end PV
namespace PV
open PySem PySem.Spec PyProof.Rows L2 LamX Classical
section
variable {hd : Bool} {K : PySem.W.Frag} {g : Addr} {T : List (Addr × Str)} {k : Nat} {us mv : List Nat}
theorem hs_ex {α : Type} {t : TS} {p : α → Env → Prop} {nx : Env → Prop} {rt : D → Prop} (h : ∀ x, HS K hd g T k t (p x) nx rt) : HS K hd g T k t (fun ρ => ∃ x, p x ρ) nx rt := fun E n b F O H σ ρ W ⟨x, hp⟩ D hn hr => h x n b F O H σ ρ W hp D hn hr
theorem hs_and {t : TS} {p nx : Env → Prop} {rt : D → Prop} {q : Prop} (h : q → HS K hd g T k t p nx rt) : HS K hd g T k t (fun ρ => q ∧ p ρ) nx rt := fun E n b F O H σ ρ W ⟨x, hp⟩ D hn hr => h x n b F O H σ ρ W hp D hn hr
theorem lcR_all {f : D → Env → Option Env} {qe : Env → D → Prop} {ρ : Env} {ds rs : List D} (h : LcR f (fun _ c => c = true) qe ρ ds rs) : rs.length = ds.length ∧ ∀ r ∈ rs, ∃ ρ1, qe ρ1 r := by
  induction h with
  | nil => exact ⟨rfl, fun _ z => nomatch z⟩
  | skip _ h => cases h
  | take _ _ hq _ ih =>
    refine ⟨by simp [ih.1], fun r hr => ?_⟩
    rcases List.mem_cons.mp hr with z | z
    · exact ⟨_, z ▸ hq⟩
    · exact ih.2 r z
theorem list_choose {α β : Type} {F : α → β} {p : α → Prop} : ∀ {rs : List β}, (∀ r ∈ rs, ∃ a, p a ∧ r = F a) → ∃ l : List α, rs = l.map F ∧ ∀ a ∈ l, p a
  | [], _ => ⟨[], rfl, fun _ z => nomatch z⟩
  | r :: rs, h => by
    obtain ⟨l, e, hl⟩ := list_choose (rs := rs) fun x hx => h x (List.mem_cons_of_mem _ hx)
    obtain ⟨a, ha, rfl⟩ := h r List.mem_cons_self
    exact ⟨a :: l, by rw [e]; rfl, fun x hx => by
      rcases List.mem_cons.mp hx with z | z
      · exact z ▸ ha
      · exact hl x z⟩
end
end PV
end
section
set_option Elab.async false
set_option linter.all false
set_option maxRecDepth 100000
set_option maxHeartbeats 1000000
/-! PV40: a def that makes lambdas (the tables of code objects change), and holds no generator. -/
namespace PV
open PySem PySem.Spec PyProof.Rows L2 LamX Classical
/-- its promise; the generator at g stays as it is -/
def spT (K : PySem.W.Frag) (T : List (Addr × Str)) (len : Nat) (pre : List D → Prop) (post : List D → D → Prop) : Sp := fun vs H Q E => ∃ (g : Addr) (n : Nat) (F : Addr → Prop) (ds : List D), ds.length = len ∧ (∀ a, F a → H a ≠ none) ∧ RpL K F H ds vs [] ∧ pre ds ∧
  GOk n g H ∧ Tabs T H ∧ (∀ a, Zs g T a → ¬ F a) ∧ (∀ c d H, ¬ E c d H) ∧ ∀ d v H', Imp g T H H' → GOk n g H' → Tabs T H' → RpX K F NoA (zh g T H H') H' d v → post ds d → Q v H'
section
variable {hd : Bool} {K : PySem.W.Frag} {E : XK} {b b' b2 : Bs E} {F : Addr → Prop} {O : Nat → List Addr} {H H' H1 H2 : Hp} {σ : L2.St} {ρ : Env} {g : Addr} {T : List (Addr × Str)} {n m k k1 k2 : Nat} {us us' mv mv' : List Nat}
theorem he_callT {len : Nat} {preF : List D → Prop} {postF : List D → D → Prop} {tr : TA} {pr : Env → Prop} {qr : Env → List D → Prop} {post : Env → D → Prop} {E0' : XK} (hE : ∀ c d H, ¬ E0' c d H) (ha : HEA K hd g T k1 tr pr qr us []) (hl : ∀ ρ ds, qr ρ ds → ds.length = len) (hp : ∀ ρ ds, qr ρ ds → preF (fzL ds))
    (hq : ∀ ρ ds d, qr ρ ds → postF (fzL ds) d → post ρ d) : HE K hd g T k1 (tCall (spT K T len preF postF) [] E0' tr) pr post us [] := by
  intro E n b F O H σ ρ W p Q q
  have A := W.ap.apt W.sd
  refine ha n b F O H σ ρ W p _ fun ds vs b1 H1 B1 W1 s1 r1 q1 => ?_
  have A1 := W1.ap.apt W1.sd
  obtain ⟨F', as, h1, h2, h3, h4⟩ := r1
  show spT K T len preF postF (vs ++ []) H1 Q E0'
  rw [List.append_nil]
  have nF : ∀ a, F' a → ¬ Zs g T a := fun a h z => by
    rcases (h1 a h).1 with q | q
    · exact A.al z q
    · rw [zh_in z] at q
      exact A1.dom z q
  have nA : ∀ a ∈ as, ¬ Zs g T a := fun a h z => by
    rcases (h3 a h).1 with q | ⟨_, hi, _⟩
    · rw [zh_in z] at q
      exact A1.dom z q
    · cases hi
  refine ⟨g, n, fun a => F' a ∨ a ∈ as, fzL ds, by rw [fzL_len]; exact hl ρ ds q1, fun a z => ?_, RpL.fz (fun a z => .inl z) ds vs as (fun a z => .inr z) h4, hp ρ ds q1, W1.go, W1.tb, fun a z h => h.elim (fun h => nF a h z) fun h => nA a h z, hE, fun d v H2 s2 go tb r2 hd => ?_⟩
  · rcases z with z | z
    · exact (h1 a z).2
    · obtain ⟨xs, q⟩ := RpL.own ds vs as h4 a z
      exact fun y => by rw [q] at y; cases y
  · obtain ⟨b2, B2, W2⟩ := W1.imp s2 go tb
    refine q d v b2 H2 (B1.trans B2) W2 (s1.trans s2) ?_ (hq ρ ds d q1 hd)
    have A2 := W2.ap.apt W2.sd
    have back : ∀ {a : Addr}, ¬ Zs g T a → H1 a = none → zh g T H H2 a = none := fun {a} y e => by
      rw [zh_out y]
      cases e2 : H a with
      | none => rfl
      | some o => rw [s1 a o y e2] at e; cases e
    have fr1 : ∀ {a : Addr}, ¬ Zs g T a → zh g T H H1 a = none → zh g T H H2 a = none := fun {a} y e => by
      rw [zh_out y] at e ⊢; exact e
    have new2 : ∀ {a : Addr}, zh g T H1 H2 a = none → zh g T H H2 a = none := fun {a} e => by
      by_cases y : Zs g T a
      · rw [zh_in y] at e
        exact absurd e (A2.dom y)
      · rw [zh_out y] at e
        exact back y e
    obtain ⟨F2, as2, k1', k2', k3, k4⟩ := r2
    refine ⟨F2, as2, fun a z => ⟨?_, (k1' a z).2⟩, k2', fun a z => ⟨.inl ?_, (k3 a z).2⟩, k4⟩
    · rcases (k1' a z).1 with (q | q) | q
      · exact (h1 a q).1.imp id (fr1 (nF a q))
      · rcases (h3 a q).1 with y | ⟨_, hi, _⟩
        · exact .inr (fr1 (nA a q) y)
        · cases hi
      · exact .inr (new2 q)
    · rcases (k3 a z).1 with q | q
      · exact new2 q
      · exact q.elim
theorem hs_no {t : TS} {p nx : Env → Prop} {rt : D → Prop} (h : ∀ ρ, ¬ p ρ) : HS K hd g T k t p nx rt := fun E n b F O H σ ρ W hp => absurd hp (h ρ)
theorem lcR_none {f : D → Env → Option Env} {qe : Env → D → Prop} {ρ : Env} {ds rs : List D} (h : LcR f (fun _ c => c = false) qe ρ ds rs) : rs = [] := by
  induction h with
  | nil => rfl
  | skip _ _ _ ih => exact ih
  | take _ h => cases h
end
section
variable {K : PySem.W.Frag} {E : XK} {H : Hp} {T : List (Addr × Str)} {N : List Str} {len : Nat} {preF : List D → Prop} {postF : List D → D → Prop} {t : TS} {vs : List V} {Q : VK}
theorem bodyT (h : ∀ g ds, preF ds → HS K false g T 0 t (fun ρ => ρ = ent N.length ds) (fun _ => False) (postF ds)) (hsp : spT K T len preF postF vs H Q E) (hn : len ≤ N.length) : t { nx := fun _ H' => Q .non H', rt := Q } (L2.start N vs) H := by
  obtain ⟨g, n, F, ds, hl, hF, hr, hpre, go, tb, hz, hE, hq⟩ := hsp
  have hv : vs.length = ds.length := hr.length
  let b0 : Bs E := ⟨F, H, F, H, fun _ _ => .inl hE⟩
  have S : Sd K b0 F (fun _ => []) H (L2.start N vs) (ent N.length ds) := by
    refine ⟨?_, fun i d e => ?_, hF, fun a z => .inl z, fun _ => List.nodup_nil, (fun _ _ _ _ z => nomatch z), (fun _ _ z => nomatch z), Same.refl H, fun _ z => z, fun a o e _ => e⟩
    · unfold L2.start ent
      simp [hv]
    · obtain ⟨v, bs, q1, q2, q3⟩ := hr.get (ent_get e)
      refine ⟨v, ?_, ?_⟩
      · unfold L2.start
        have hi : i < vs.length := by
          rcases Nat.lt_or_ge i vs.length with z | z
          · exact z
          · rw [List.getElem?_eq_none z] at q1; cases q1
        rw [List.getElem?_append_left (by simpa using hi), List.getElem?_map, q1]
        rfl
      · have e0 : bs = [] := List.sublist_nil.mp q2
        rw [e0] at q3
        exact q3
  have AB : AptB g T b0 := ⟨hz, fun a z => by
    rcases z with rfl | ⟨p, hp, rfl⟩
    · obtain ⟨x, y, c, h1, _⟩ := go.ex
      exact ⟨_, h1, rfl⟩
    · obtain ⟨ps, h1, _⟩ := tb p hp
      exact ⟨_, h1, rfl⟩⟩
  refine h g ds hpre n b0 F (fun _ => []) H _ _ ⟨S, AB, fun z => (nomatch z), fun z => (nomatch z), go, tb, hE⟩ rfl _ (fun _ _ _ _ _ _ _ _ z => z.elim) fun d v b' H' B s r A go' tb' hd => ?_
  have im : Imp g T H H' := fun a o z e => s a o ((B.h0 a z).trans e)
  refine hq d v H' im go' tb' ?_ hd
  have e1 : b'.H0 = zh g T H H' := by
    funext a
    by_cases z : Zs g T a
    · obtain ⟨o, e, _⟩ := A.h0 a z
      rw [zh_in z, e, s a o e]
    · rw [zh_out z]; exact B.h0 a z
  have e2 : b'.G0 = F := B.g0
  rw [e1, e2] at r
  exact r
end
section
variable {P : Program} {w : World} {K : PySem.W.Frag} {mg : Str → Option Value} {base : Heap} {k : Nat} {x : Str} {ps N : List Str} {params : Arguments} {body : List Stmt} {scope : Scope} {T : List (Addr × Str)} {len : Nat} {preF : List D → Prop} {postF : List D → D → Prop}
structure DefT (P : Program) (w : World) (K : PySem.W.Frag) (mg : Str → Option Value) (base : Heap) (k : Nat) (x : Str) (ps : List Str) (T : List (Addr × Str)) (len : Nat) (preF : List D → Prop) (postF : List D → D → Prop) : Prop where
  ok : ∃ fd, FnG P w K mg base (L2.CX P w) k (He.ga K x) fd ps (spT K T len preF postF) ∧ Binds K fd ps [] ∧ ∃ params body scope, FunD K x x params body scope [] [] (He.ga K x) fd
  mg : mg x = some (.ref (He.ga K x))
theorem mkTb (hmg : mg x = some (.ref (He.ga K x))) (hF : ∃ fd, FunD K x x params body scope [] [] (He.ga K x) fd) (S : FnScope N ps scope) (hl : ps.length = len) (hn : len ≤ N.length)
    (hb : ∀ (kV doc pm : Value) (an : Option Addr) (cdv ct : Value) (us : List Value), us.length = ps.length → bindArgs (PySem.W.fnOf x x params body scope .none kV doc pm an cdv ct) ⟨us, []⟩ = pure (ps.zip us))
    (h : ∀ (cdv : Value) (A : Around) (outer : List PySem.Env) (s : Shared) (H : Hp) (E : XK), (∃ oc od dV kV doc pm an ct osl params body scope, K.lookup (He.ga K x) = some ⟨oc, od, .func (PySem.W.fnOf x x params body scope dV kV doc pm an cdv ct), osl⟩) → PySem.W.codeIn K cdv x = true → RoomG k (A.deeper (envOfC x scope s.heap.objs.size (He.ga K x) cdv)) →
      ∃ t, PSs (XD P w K mg base N x scope cdv A outer s H E) body t ∧ ∀ g ds, preF ds → HS K false g T 0 t (fun ρ => ρ = ent N.length ds) (fun _ => False) (postF ds)) : DefT P w K mg base (k + 1) x ps T len preF postF := by
  obtain ⟨fd, F⟩ := hF
  have hlen : ∀ (vs : List V) (H : Hp) (Q : VK) (E : XK), spT K T len preF postF vs H Q E → vs.length = ps.length := fun vs H Q E h => by
    obtain ⟨g, n, F, ds, h1, _, h2, _⟩ := h
    rw [h2.length, h1, hl]
  have F' := F
  obtain ⟨oc, od, dV, kV, doc, pm, an, cdv, ct, osl, e1, lk, hcd, hD, hK⟩ := F'.ex
  refine ⟨⟨fd, ⟨hlen, fun A outer s H args us vs Q E hr e0 hbb r hsp => ?_⟩, F.bindsN hb, params, body, scope, F⟩, hmg⟩
  rw [e1] at lk hbb
  refine LamX.run_ofS lk hcd S hr.rm e0 hbb r (hlen vs H Q E hsp) fun hr' => ?_
  obtain ⟨t, ht, hs⟩ := h cdv A outer s H E ⟨_, _, _, _, _, _, _, _, _, _, _, _, lk⟩ hcd ⟨hr', hr.gd⟩
  exact ⟨t, ht, bodyT hs hsp hn⟩
end
section
variable {X : Cx} {E : XK} {x : Str} {p pos : Pos} {e : Expr} {es : List Expr} {t : TA} {k j len : Nat} {ps : List Str} {T : List (Addr × Str)} {preF : List D → Prop} {postF : List D → D → Prop}
theorem pe_callT (h : DefT X.prog X.w X.K X.mg X.base k x ps T len preF postF) (hr : RoomG j X.A) (hk : k ≤ j) (hx : Passes (L2.CX X.prog X.w) X E) (ha : PA X (e :: es) t) (hg : Gl X x := by rfl)
    (hdb : (x == ("__debug__" : Str)) = false := by decide) (he : starEach (e :: es) X.env = (false, eval e X.env) :: starEach es X.env := by rfl) (hpl : (backTo pos (starEach es X.env)).any (·.1) = false := by rfl) :
    PE X (.Call (.Name x p) (e :: es) [] pos) (tCall (spT X.K T len preF postF) [] E t) := by
  obtain ⟨fd, F, hb, _, _, _, fun_⟩ := h.ok
  exact pe_callG F (hr.mono hk) hg h.mg fun_.kp hb .nil hx ha hdb he hpl
end
end PV
end
section
set_option Elab.async false
set_option linter.all false
set_option maxRecDepth 100000
set_option maxHeartbeats 1000000
/-! PV41: a comprehension whose block knows that all its cells are young. -/
namespace PV
open PySem PySem.Spec PyProof.Rows L2 LamX
/-- the block's cells -/
abbrev bcl (X : Cx) (scope : Scope) (n : Nat) : List (Str × Addr) := cellsFrom (n + 1) scope.names (cloFrom X.env.cells scope.names [])
section
variable {X : Cx} {σ : L2.St} {H : Hp} {s : Shared} {elt tg iter : Expr} {ifs : List Expr} {scope : Scope} {own : List (Str × Nat)} {wi : TI} {g : TG} {tt : TT} {te : TE}
/-- they are the def's own, or made now -/
theorem young {ps : List (Addr × Obj)} {H0 : Hp} {fp : List Addr} (J : Inv X ps σ H s) (nw : NewC X) (ok : BlkOk X.N X.env.scope scope own) : NewC (X.blk s H0 scope (compEnvC scope (bcl X scope s.heap.objs.size) s.heap.objs.size X.env) fp) := by
  intro y c e
  have e' : (bcl X scope s.heap.objs.size).lookup y = some c := e
  have e2 := PySem.mem_of_lookup e'
  have e3 : (y, c) ∈ cellsFrom (s.heap.push { cls := .type "dict", data := .dict #[] }).objs.size scope.names (cloFrom X.env.cells scope.names []) := by
    rw [Heap.size_push]
    exact e2
  rcases cells_mem e3 with q | ⟨_, q, _⟩
  · rcases cloFrom_mem q with q | ⟨q1, q2⟩
    · cases q
    · obtain ⟨d, hd⟩ := J.ok.has y (ok.free _ q1 rfl)
      have ecd : c = d := by rw [q2, hd]; rfl
      exact nw y c (ecd ▸ hd)
  · rw [Heap.size_push] at q
    refine ⟨Nat.le_trans J.ok.bsz (Nat.le_trans J.sz (by omega)), fun z => ?_⟩
    have z' : c ∈ frs X.stack := z
    rcases J.ok.stk with e4 | ⟨e4, e5⟩
    · rw [e4] at z'
      exact J.nofs (by omega) z'
    · rw [e4] at z'
      have e6 : frs (X.env :: X.outer) = X.env.locals :: frs X.outer := by
        unfold frs
        rw [List.filterMap_cons, e5]
      rw [e6] at z'
      rcases List.mem_cons.mp z' with w | w
      · rw [w] at q
        exact absurd (Nat.lt_of_lt_of_le J.lt (Nat.le_of_succ_le q)) (Nat.lt_irrefl _)
      · exact J.nofs (by omega) w
/-- such a comprehension as a value -/
theorem lc_young {pos : Pos} (hc : X.calm = true) (nd : X.N.Nodup) (fnt : ∀ y, X.fn y = true) (hi : PI X tg iter wi) (ok : BlkOk X.N X.env.scope scope own)
    (hg : ∀ (s : Shared) (H : Hp) (A : Addr) (l : List (Str × Addr)) (fp : List Addr), PG (X.blk s H scope (compEnvC scope l A X.env) fp) tg g)
    (ht : ∀ (s : Shared) (H : Hp) (A : Addr) (l : List (Str × Addr)) (fp : List Addr), NewC (X.blk s H scope (compEnvC scope l A X.env) fp) → PTs (X.blk s H scope (compEnvC scope l A X.env) fp) ifs tt)
    (he : ∀ (s : Shared) (H : Hp) (A : Addr) (l : List (Str × Addr)) (fp : List Addr), NewC (X.blk s H scope (compEnvC scope l A X.env) fp) → PE (X.blk s H scope (compEnvC scope l A X.env) fp) elt te) (hs : ∀ x, foldedSetIterable iter X.env x = pure x := by intro _; rfl) :
    PE X (.ListComp elt [⟨tg, iter, ifs, 0⟩] scope pos) (tLc wi g tt te (own.map (·.2))) := by
  refine ⟨fun pns z0 τ Hz Q Iz hw => ?_⟩
  rw [eval_ListComp]
  have fr : ∀ y ∈ scope.names, y.2 = .free → ∃ c, X.env.cells.lookup y.1 = some c := fun y hy e => Iz.ok.has _ (ok.free y hy e)
  refine wpAny_comprehension_free rfl hs (closure_ok fr) ok.kind (fun y hy e => by rw [ok.uniq y hy, e]) (thn (hi.run pns z0 τ Hz _ Iz hw) fun _ z1 p1 => thn p1 fun _ z2 p2 => ?_)
  obtain ⟨it, fp, tn, J, Hy, rfl, Iy, Tn, sy, fy, qy⟩ := p2
  refine wpAny_newObj_type (newEnv_comp ?_) (show 0 ≤ sizeLine by decide)
  have nw := newC_of Iy fnt
  generalize eL : z2.heap.objs.size = L
  have HyL : Hy L = none := Iy.hok.fresh (Nat.le_of_eq eL)
  obtain ⟨Wd, ⟨m0, w0⟩, turn⟩ := qy L HyL
  let ob : Obj := { cls := .type "list", data := .seq ([] : List Value).toArray }
  generalize e3 : ({ z2 with heap := z2.heap.push ob } : Shared) = z3
  have h3 : z3.heap = z2.heap.push ob := by rw [← e3]
  have I3 : Inv X pns τ (upd Hy L (.lst [])) z3 := by
    rw [← e3]
    exact Iy.laid (t' := z2.toks) (fun b o e => Heap.get?_push_of_some _ e) (Nat.le_of_eq eL) ⟨Nat.zero_le _, [], 0, .nil, by rw [← eL]; exact Heap.get?_push_size _ rfl⟩
  have below : ∀ b ∈ fp, b < z2.heap.objs.size := fun b hb => let ⟨_, e, _⟩ := Tn.obj _ _ sy b hb; Heap.lt_size e
  have f3 : ∀ b ∈ fp, FpOk X pns (upd Hy L (.lst [])) b ∧ b < z3.heap.objs.size := fun b hb => by
    have lt := below b hb
    exact ⟨⟨by rw [upd_ne (by rw [← eL]; exact Nat.ne_of_lt lt)]; exact (fy b hb).1, (fy b hb).2⟩, by rw [h3, Heap.size_push]; exact Nat.lt_succ_of_lt lt⟩
  have s3 : tn 0 z3.heap := Tn.keep _ _ _ sy fun b _ o e => by rw [h3]; exact Heap.get?_push_of_some _ e
  have I4 := block_start I3 ok nd f3
  have nb := young (H0 := upd Hy L (.lst [])) (fp := fp) I3 nw ok
  have pg := hg z3 (upd Hy L (.lst [])) z3.heap.objs.size (bcl X scope z3.heap.objs.size) fp
  have pt := ht z3 (upd Hy L (.lst [])) z3.heap.objs.size (bcl X scope z3.heap.objs.size) fp nb
  have pe := he z3 (upd Hy L (.lst [])) z3.heap.objs.size (bcl X scope z3.heap.objs.size) fp nb
  show codeAny _ _ (.compStart (.ListComp elt [⟨tg, iter, ifs, 0⟩] scope pos) 0 (.ref it) (.ref L) (compEnvC scope (bcl X scope z3.heap.objs.size) z3.heap.objs.size X.env)) (compPost (model X.prog X.w) X.A X.xe none _ (.ref L) z3.heap.objs.size) { z3 with heap := pushCells (z3.heap.push { cls := .type "dict", data := .dict #[] }) scope.names }
  have fpn : ∀ b ∈ fp, (upd Hy L (.lst [])) b = none := fun b hb => (f3 b hb).1.1
  generalize eE : compEnvC scope (bcl X scope z3.heap.objs.size) z3.heap.objs.size X.env = be at I4 pg pt pe ⊢
  have beL : be.locals = z3.heap.objs.size := by rw [← eE]; rfl
  generalize eH : upd Hy L (.lst []) = H3 at I3 I4 pg pt pe w0 fpn f3
  generalize e4 : ({ z3 with heap := pushCells (z3.heap.push { cls := .type "dict", data := .dict #[] }) scope.names } : Shared) = z4 at I4 ⊢
  have s4 : tn 0 z4.heap := Tn.keep _ _ _ s3 fun b _ o e => by rw [← e4]; exact pushCells_keeps _ _ _ _ (Heap.get?_push_of_some _ e)
  have fpB : ∀ {τ' : L2.St} {H' : Hp} {z' : Shared}, Inv (X.blk z3 H3 scope be fp) [] τ' H' z' → (∀ b ∈ fp, H' b = none) → ∀ b ∈ fp, FpOk (X.blk z3 H3 scope be fp) [] H' b := fun {τ' H' z'} I' n b hb =>
    ⟨n b hb, (I'.ok.exf b hb).1, I'.ok.exfs b hb, .inl hb, fun x c e => (I'.ok.exf b hb).2 x c e, fun p hp => absurd (show p ∈ ([] : List (Addr × Obj)) ++ [] from hp) (by simp)⟩
  refine codeAny_compStart_list ?_ (Tn.self X.A 0 _ _ _ s4 ?_)
  all_goals
    refine compLoop_any (fun n z' => ∃ i H', Inv (X.blk z3 H3 scope be fp) [] (wipe τ (own.map (·.2))) H' z' ∧ tn i z'.heap ∧ (∀ b ∈ fp, H' b = none) ∧ Wd i n H') ?_ m0 ⟨0, H3, I4, s4, fpn, w0⟩
    rintro n z5 ⟨i, H5, I5, s5, n5, w5⟩
    rcases turn i n H5 w5 with ⟨stp, fin⟩ | ⟨goes, Nx, hN, stepT⟩
    · refine thnF (Tn.done (X.blk z3 H3 scope be fp) rfl rfl rfl hc i [] z5 _ H5 (fun _ _ => False) I5 (fpB I5 n5) s5 stp) fun r z6 ⟨er, I6⟩ => ?_
      subst er
      have I7 : Inv X pns τ H5 z6 := I3.call' (ch := fp) I6.os I6.base I6.hok I6.bare fun b hb => ⟨(f3 b hb).1.2.2.2.1, (f3 b hb).1.2.1, (f3 b hb).1.2.2.2.2.1, (f3 b hb).1.2.2.2.2.2⟩
      have nL : H5 z3.heap.objs.size = none := by rw [← beL]; exact I6.free
      obtain ⟨m, hn, _⟩ := I6.loc
      have hn' : z6.heap.Ns z3.heap.objs.size m := by rw [← beL]; exact hn
      obtain ⟨g0, g1, g2, g3, g4, g5⟩ := I3.fpOk (H' := H5) (Nat.le_refl _) nL
      exact ⟨m, hn', fun h'' sb => ⟨.ref L, H5, I7.turned (t' := z6.toks) (fun b o hb e => (sb.2 b hb).trans e) g0 g1 g3 g4 g5, rfl, fin⟩⟩
    · refine thnF (Tn.item (X.blk z3 H3 scope be fp) rfl rfl rfl hc i [] z5 _ H5 (fun _ _ => False) I5 (fpB I5 n5) s5 goes) fun r z6 ⟨u, er, p6⟩ => ?_
      subst er
      refine thnF p6 fun _ z7 ⟨x, H7, I7, r7, y7, s7, n7⟩ => ?_
      refine thnF (pg.run _ z7 _ H7 x u _ (I7.pinned (fpB I7 n7) (Tn.obj _ _ s7)) r7 (stepT x H7 y7)) fun _ z8 ⟨τ8, H8, I8, ew8, q8⟩ => ?_
      refine thnF (pt.run _ z8 τ8 H8 _ I8 q8) fun yes z9 ⟨H9, I9, q9⟩ => ?_
      have next : ∀ {z' : Shared} {H' : Hp}, Inv (X.blk z3 H3 scope be fp) ([] ++ pinsAt fp z7.heap) τ8 H' z' → Nx H' → ∃ m, m < n ∧ ∃ i H', Inv (X.blk z3 H3 scope be fp) [] (wipe τ (own.map (·.2))) H' z' ∧ tn i z'.heap ∧ (∀ b ∈ fp, H' b = none) ∧ Wd i m H' := fun {z' H'} I' nx => by
        obtain ⟨m', lt', w'⟩ := hN H' nx
        have held : ∀ b ∈ fp, ∀ o, z7.heap.get? b = some o → z'.heap.get? b = some o ∧ H' b = none := fun b hb o e =>
          ⟨(I'.pin (b, o) (List.mem_append_right _ (List.mem_append_right _ (mem_pinsAt hb e)))).1, (I'.pin (b, o) (List.mem_append_right _ (List.mem_append_right _ (mem_pinsAt hb e)))).2.1⟩
        refine ⟨m', lt', i + 1, H', (I'.unpinned (pins := [])).weak (by rw [← wipe_length τ8 (own.map (·.2)), ew8]) (fun j v e => ?_), Tn.keep _ _ _ s7 fun b hb o e => (held b hb o e).1, fun b hb => ?_, w'⟩
        · rw [← ew8] at e
          exact (wipe_some e).1
        · obtain ⟨o, e, _⟩ := Tn.obj _ _ s7 b hb
          exact (held b hb o e).2
      cases yes with
      | false =>
        rw [if_neg (by decide)] at q9 ⊢
        exact next I9 q9
      | true =>
        rw [if_pos rfl] at q9 ⊢
        exact thnF (pe.run _ z9 τ8 H9 _ I9 q9) fun _ z10 ⟨_, H10, I10, r10, acc, eL10, ez, nx⟩ => app_ok (X := X.blk z3 H3 scope be fp) I10 eL10 ez r10 fun z11 I11 => next I11 nx
end
end PV
end
section
set_option Elab.async false
set_option linter.all false
set_option maxRecDepth 100000
set_option maxHeartbeats 1000000
/-! PV42: lambdas are made and handed to a def that calls them. -/
namespace PV
open PySem PySem.Spec PyProof.Rows L2 LamX Classical
/-- an argument of a lambda's call: the name of the slot i, None, a number -/
inductive LA where
  | slot (i : Nat) | non | int (i : Int)
/-- lambda: x(es) -/
structure Lm where
  params : Arguments
  x : String
  px : Pos
  es : List Expr
  p : Pos
  scope : Scope
  as : List LA
def Lm.body (l : Lm) : Expr := .Call (.Name (Str.ofString l.x) l.px) l.es [] l.p
def laOk (X : Cx) (scope : Scope) (e : Expr) : LA → Prop
  | .slot i => ∃ y p, e = .Name y p ∧ X.N[i]? = some y ∧ scope.names.lookup y = some .free ∧ (X.env.scope.names.lookup y = some .cell ∨ X.env.scope.names.lookup y = some .free) ∧ (y == ("__debug__" : Str)) = false ∧ (y == ("__classdict__" : Str)) = false
  | .non => ∃ j p, e = .Constant .none j p
  | .int i => ∃ j p, e = .Constant (.int i) j p
def lasOk (X : Cx) (scope : Scope) : List Expr → List LA → Prop
  | [], [] => True
  | e :: es, a :: as => laOk X scope e a ∧ lasOk X scope es as
  | _, _ => False
structure Lm.Ok (X : Cx) (l : Lm) : Prop where
  kind : l.scope.kind = .function
  co : l.scope.isCoroutine = false
  gen : l.scope.isGenerator = false
  own : ∀ y ∈ l.scope.names, y.2 ≠ .local ∧ y.2 ≠ .cell
  free : ∀ y ∈ l.scope.names, y.2 = .free → X.env.scope.names.lookup y.1 = some .cell ∨ X.env.scope.names.lookup y.1 = some .free
  glob : l.scope.names.lookup (Str.ofString l.x) = some .globalImplicit
  dbg : (Str.ofString l.x == ("__debug__" : Str)) = false
  ne : l.es ≠ []
  bind : ∀ q cells pm c' ctv, bindArgs (PySem.W.kla_fn "<lambda>" q l.params l.body l.scope cells pm (.ref c') ctv) ⟨[], []⟩ = pure []
  args : lasOk X l.scope l.es l.as
def laD (ρ : Env) : LA → D
  | .slot i => (match ρ[i]? with
    | some (some d) => d
    | _ => .non)
  | .non => .non
  | .int i => .int i
/-- the lambda as a tree -/
def clo (ρ : Env) (l : Lm) : D := .box (.clo l.x) (l.as.map (laD ρ))
def tlam (X : Cx) (T : List (Addr × Str)) : List Lm → TA
  | [] => tNil
  | l :: r => tCons (tLamO X T l.params l.body l.scope) (tlam X T r)
def LamsAt (X : Cx) (H : Hp) : List Lm → List Addr → Prop
  | [], fs => fs = []
  | l :: r, fs => ∃ f gs, fs = f :: gs ∧ (∃ (c' : Addr) (pm ctv : Value), H f = some (objO f (lamObj X l.params l.body l.scope pm c' ctv)) ∧ H c' = some (CodeO c' (X.env.qual ++ "<lambda>"))) ∧ LamsAt X H r gs
section
variable {X : Cx} {T : List (Addr × Str)} {H H1 H2 Hc : Hp} {σ : L2.St} {ρ : Env}
def KeepT (T : List (Addr × Str)) (H H1 : Hp) : Prop := ∀ b o, (∀ p ∈ T, p.1 ≠ b) → H b = some o → H1 b = some o
theorem tab_ne {b : Addr} {o : HO} (t : Tabs T H) (h : H b = some o) (ho : ∀ ps, o ≠ .tbl ps) : ∀ p ∈ T, p.1 ≠ b := fun p hp e => by
  obtain ⟨ps, h1, _⟩ := t p hp
  rw [e, h] at h1
  cases h1
  exact ho _ rfl
theorem LamsAt.mono (t : Tabs T H) (k : KeepT T H H1) : ∀ {ls : List Lm} {fs : List Addr}, LamsAt X H ls fs → LamsAt X H1 ls fs
  | [], fs, h => h
  | l :: r, fs, h => by
    obtain ⟨f, gs, e, ⟨c', pm, ctv, h1, h2⟩, hr⟩ := h
    exact ⟨f, gs, e, ⟨c', pm, ctv, k _ _ (tab_ne t h1 (fun ps => objO_ne (fun φ z => by cases z))) h1, k _ _ (tab_ne t h2 codeO_ne) h2⟩, LamsAt.mono t k hr⟩
theorem tlam_run (Q : List V → Hp → Prop) : ∀ (ls : List Lm) (H : Hp), Tabs T H → (∀ fs H1, KeepT T H H1 → Tabs T H1 → LamsAt X H1 ls fs → Q (fs.map .ref) H1) → tlam X T ls σ H Q := by
  intro ls
  induction ls generalizing Q with
  | nil => exact fun H t h => h [] H (fun _ _ _ e => e) t rfl
  | cons l r ih =>
    intro H t h
    refine ⟨t, fun f H1 m => ?_⟩
    obtain ⟨_, k1, t1, _, c', pm, ctv, e1, e2⟩ := m
    refine ih (fun us H2 => Q (.ref f :: us) H2) H1 t1 fun fs H2 k2 t2 hl => ?_
    refine h (f :: fs) H2 (fun b o hb e => k2 b o hb (k1 b o hb e)) t2 ⟨f, fs, rfl, ⟨c', pm, ctv, ?_, ?_⟩, hl⟩
    · exact k2 _ _ (tab_ne t1 e1 (fun ps => objO_ne (fun φ z => by cases z))) e1
    · exact k2 _ _ (tab_ne t1 e2 codeO_ne) e2
/-! ### told of the cells -/
theorem clo_look {names : List (Str × NameKind)} {y : Str} {c : Addr} (hy : names.lookup y = some .free) (e : X.env.cells.lookup y = some c) : (cloFrom X.env.cells names []).lookup y = some c := by
  obtain ⟨c', h⟩ := mem_lookup (cloFrom_has (cells := X.env.cells) (acc := []) (PySem.mem_of_lookup hy))
  rcases cloFrom_mem (PySem.mem_of_lookup h) with z | ⟨_, z⟩
  · cases z
  · rw [h, z, e]
    rfl
theorem clo_back {names : List (Str × NameKind)} {y : Str} {c : Addr} (hf : ∀ y ∈ names, y.2 = .free → ∃ c, X.env.cells.lookup y.1 = some c) (e : (y, c) ∈ cloFrom X.env.cells names []) : X.env.cells.lookup y = some c := by
  rcases cloFrom_mem e with z | ⟨h, z⟩
  · cases z
  · obtain ⟨d, hd⟩ := hf _ h rfl
    rw [z, hd]
    rfl
section
variable {F : Addr → Prop}
/-- the slot's tree, told with the cells -/
def SlotAt (K : PySem.W.Frag) (F : Addr → Prop) (Hc : Hp) (σ : L2.St) (ρ : Env) : LA → Prop
  | .slot i => ∃ d v, ρ[i]? = some (some d) ∧ σ[i]? = some (some v) ∧ Rp K F Hc d v []
  | _ => True
theorem args_told (told : Told X σ H Hc) {scope : Scope} : ∀ {es : List Expr} {as : List LA}, lasOk X scope es as → (∀ a ∈ as, SlotAt X.K F Hc σ ρ a) → ∃ vs, ArgsAt Hc scope (cloFrom X.env.cells scope.names []) es vs ∧ RpL X.K F Hc (as.map (laD ρ)) vs []
  | [], [], _, _ => ⟨[], rfl, rfl, rfl⟩
  | e :: es, a :: as, h, hs => by
    obtain ⟨vs, h1, h2⟩ := args_told told h.2 fun b hb => hs b (List.mem_cons_of_mem _ hb)
    have ha := h.1
    cases a with
    | slot i =>
      obtain ⟨y, p, e1, e2, e3, e4, e5, e6⟩ := ha
      obtain ⟨d, v, r1, r2, r3⟩ := hs (.slot i) List.mem_cons_self
      obtain ⟨c, hc⟩ := told.has y e4
      obtain ⟨o, u, k1, k2, k3⟩ := told.val i y v c e2 r2 e4 hc
      refine ⟨v :: vs, ⟨v, vs, rfl, .inl ⟨y, p, c, o, u, e1, e3, clo_look e3 hc, k1, k2, k3, e5, e6⟩, h1⟩, v, vs, [], [], rfl, rfl, ?_, h2⟩
      show Rp X.K F Hc (match ρ[i]? with
        | some (some d) => d
        | _ => .non) v []
      rw [r1]
      exact r3
    | non =>
      obtain ⟨j, p, e1⟩ := ha
      exact ⟨.non :: vs, ⟨_, vs, rfl, .inr (.inl ⟨j, p, e1, rfl⟩), h1⟩, _, vs, [], [], rfl, rfl, ⟨rfl, rfl⟩, h2⟩
    | int i =>
      obtain ⟨j, p, e1⟩ := ha
      exact ⟨.int i :: vs, ⟨_, vs, rfl, .inr (.inr ⟨i, j, p, e1, rfl⟩), h1⟩, _, vs, [], [], rfl, rfl, ⟨rfl, rfl⟩, h2⟩
  | [], _ :: _, h, _ => h.elim
  | _ :: _, [], h, _ => h.elim
theorem lams_told (told : Told X σ H Hc) : ∀ {ls : List Lm} {fs : List Addr}, (∀ l ∈ ls, l.Ok X) → LamsAt X H ls fs → (∀ l ∈ ls, ∀ a ∈ l.as, SlotAt X.K F Hc σ ρ a) → RpL X.K F Hc (ls.map (clo ρ)) (fs.map .ref) []
  | [], fs, _, h, _ => by
    rw [show fs = [] from h]
    exact ⟨rfl, rfl⟩
  | l :: r, fs, ok, h, hs => by
    obtain ⟨f, gs, rfl, ⟨c', pm, ctv, h1, h2⟩, hr⟩ := h
    have L := ok l List.mem_cons_self
    obtain ⟨vs, a1, a2⟩ := args_told (F := F) (ρ := ρ) told L.args (hs l List.mem_cons_self)
    have out : ∀ {b : Addr} {o : HO}, H b = some o → Hc b = some o := fun {b o} e => by
      rw [told.out b fun z => by rw [told.non b z] at e; cases e]
      exact e
    have hf : ∀ y ∈ l.scope.names, y.2 = .free → ∃ c, X.env.cells.lookup y.1 = some c := fun y hy e => told.has _ (L.free y hy e)
    refine ⟨.ref f, gs.map .ref, [], [], rfl, rfl, ⟨f, vs, rfl, ⟨X.env.qual ++ "<lambda>", l.params, l.scope, cloFrom X.env.cells l.scope.names [], pm, ctv, c', l.es, l.px, l.p, out h1, out h2, L.kind, L.co, L.gen, L.own, L.glob, L.dbg, L.ne, fun y hy => ?_, fun y z c k1 k2 => ?_, fun y hy => ?_, L.bind _ _ _ _ _, a1⟩, rfl, a2⟩, lams_told told (fun l hl => ok l (List.mem_cons_of_mem _ hl)) hr fun l hl => hs l (List.mem_cons_of_mem _ hl)⟩
    · exact told.cel y.1 y.2 (clo_back hf hy)
    · exact told.inj y z c (clo_back hf (PySem.mem_of_lookup k1)) (clo_back hf (PySem.mem_of_lookup k2))
    · obtain ⟨c, hc⟩ := hf _ (PySem.mem_of_lookup hy) rfl
      exact ⟨c, clo_look hy hc⟩
end
end
end PV
end
section
set_option Elab.async false
set_option linter.all false
set_option maxRecDepth 100000
set_option maxHeartbeats 1000000
/-! PV43: calls = [lambda: .., ..]; if not f(calls, k, b): return False; and its like in a comprehension's test. -/
namespace PV
open PySem PySem.Spec PyProof.Rows L2 LamX Classical
section
variable {X : Cx} {hd : Bool} {E : XK} {b b' : Bs E} {F : Addr → Prop} {O : Nat → List Addr} {T : List (Addr × Str)} {H H1 H2 Hc : Hp} {σ : L2.St} {ρ : Env} {g : Addr} {n : Nat}
theorem WSt.keepT (W : WSt X.K hd g T n b F O H σ ρ) (k : KeepT T H H1) (t : Tabs T H1) : ∃ b', BRel g T b b' ∧ WSt X.K hd g T n b' F O H1 σ ρ := by
  refine W.imp (fun a o z e => k a o (fun p hp y => z (.inr ⟨p, hp, y⟩)) e) ?_ t
  obtain ⟨x, y, c, e, r⟩ := W.go.ex
  exact ⟨x, y, c, k _ _ (tab_ne W.tb e fun ps z => by cases z) e, r⟩
/-- what a frozen name tells, with the cells -/
theorem slot_told (S : Sd X.K b F O H σ ρ) {σ' : L2.St} {i : Nat} {d : D} (told : Told X σ' H Hc) (e : ρ[i]? = some (some d)) (hn : noOw d = true) : ∃ v, σ[i]? = some (some v) ∧ Rp X.K F Hc d v [] := by
  obtain ⟨v, h1, h2⟩ := S.at_ i d e
  have e0 := Rp.noOw d v _ hn h2
  rw [e0] at h2
  have out : ∀ a o, H a = some o → Hc a = some o := fun a o e => by
    rw [told.out a fun z => by rw [told.non a z] at e; cases e]
    exact e
  exact ⟨v, h1, Rp.mono (fun _ z => z) (fun a o e _ => out a o e) d v [] (fun a xs _ e => out a _ e) h2⟩
/-- the slots are told as frozen trees -/
def frozen (ρ : Env) : LA → Prop
  | .slot i => ∃ d, ρ[i]? = some (some d) ∧ noOw d = true
  | _ => True
theorem call_core {fm : List D → R D} {ls : List Lm} {fs : List Addr} {p : Addr} {k : Int} {ib : Nat} {bad : D} {vb : V} {Q : VK} {σ' : L2.St} (W : WSt X.K hd g T n b F O H σ ρ) (hp : H p = some (.lst (fs.map .ref))) (hl : LamsAt X H ls fs) (ok : ∀ l ∈ ls, l.Ok X) (hlen : (fs.map V.ref).length ≤ sizeLine)
    (hs : ∀ l ∈ ls, ∀ a ∈ l.as, frozen ρ a) (hσ : ∀ (i : Nat) (d : D) (v : V), ρ[i]? = some (some d) → σ[i]? = some (some v) → σ'[i]? = some (some v)) (hb : ρ[ib]? = some (some bad)) (hbo : noOw bad = true) (hvb : σ[ib]? = some (some vb)) (hf : fm [.lst false (ls.map (clo ρ)), .int k, bad] = .ok (.bl true)) (hQ : ∀ H', Same H H' → Q (.bl true) H') (told : Told X σ' H Hc) :
    spF X.K 3 fm [.ref p, .int k, vb] Hc (fun v H' => (∀ c ∈ celL X.env.cells, H' c = Hc c) ∧ Q v (minus H' (celL X.env.cells))) (fun _ _ _ => False) := by
  have out : ∀ a o, H a = some o → Hc a = some o := fun a o e => by
    rw [told.out a fun z => by rw [told.non a z] at e; cases e]
    exact e
  obtain ⟨vb', e1, rb⟩ := slot_told W.sd told hb hbo
  rw [hvb] at e1
  cases e1
  let F' : Addr → Prop := fun a => F a ∨ a = p
  have up : ∀ {d : D} {v : V}, Rp X.K F Hc d v [] → Rp X.K F' Hc d v [] := fun {d v} r => Rp.mono (fun a z => .inl z) (fun _ _ e _ => e) d v [] (fun _ _ _ e => e) r
  have rl : RpL X.K F' Hc (ls.map (clo ρ)) (fs.map .ref) [] := lams_told told ok hl fun l hl' a ha => by
    cases a with
    | slot i =>
      obtain ⟨d, q1, q2⟩ := hs l hl' _ ha
      obtain ⟨v, q3, q4⟩ := slot_told W.sd told q1 q2
      exact ⟨d, v, q1, hσ i d v q1 q3, up q4⟩
    | non => trivial
    | int i => trivial
  refine ⟨F', [.lst false (ls.map (clo ρ)), .int k, bad], rfl, fun a z => ?_, fun a z => .inl fun _ _ _ h => h, ⟨_, _, [], [], rfl, rfl, ⟨p, _, rfl, out p _ hp, hlen, .inr rfl, rfl, rl⟩, _, _, [], [], rfl, rfl, ⟨rfl, rfl⟩, _, _, [], [], rfl, rfl, up rb, rfl, rfl⟩, ?_⟩
  · rcases z with z | z
    · cases e : H a with
      | none => exact absurd e (W.sd.fdom a z)
      | some o => rw [out a o e]; exact Option.some_ne_none _
    · rw [z, out p _ hp]; exact Option.some_ne_none _
  · rw [hf]
    intro v H' s r
    obtain ⟨_, _, _, _, _, r⟩ := r
    obtain ⟨rfl, _⟩ := r
    refine ⟨fun c hc => ?_, hQ _ fun a o e => ?_⟩
    · obtain ⟨y, hy⟩ := celL_of hc
      obtain ⟨o, u, h1, _⟩ := told.cel y c hy
      rw [h1, s c _ h1]
    · have na : a ∉ celL X.env.cells := fun z => by rw [told.non a z] at e; cases e
      rw [minus_out na]
      exact s a o (out a o e)
theorem Sd.drop {K : PySem.W.Frag} {i : Nat} {x : Option V} (S : Sd K b F O H σ ρ) : Sd K b F O H (σ.set i x) (ρ.set i none) := by
  refine ⟨by simp [S.len], fun j d e => ?_, S.fdom, S.fr, S.nd, S.dj, S.own, S.same, S.sub, S.keep⟩
  by_cases h : j = i
  · subst h
    by_cases hl : j < ρ.length
    · rw [List.getElem?_set_self hl] at e; cases e
    · rw [List.getElem?_eq_none (by simpa using hl)] at e; cases e
  · rw [List.getElem?_set_ne (Ne.symm h)] at e ⊢
    exact S.at_ j d e
/-- calls = [lambda: .., ..]; if not f(calls, k, b): return False -/
theorem hs_calls {fm : List D → R D} {p nx : Env → Prop} {rt : D → Prop} (ls : List Lm) (ic ib : Nat) (k : Int) (ok : ∀ l ∈ ls, l.Ok X) (hlen : ls.length ≤ 1000)
    (hp : ∀ ρ, p ρ → (∀ l ∈ ls, ∀ a ∈ l.as, frozen ρ a ∧ (∀ i, a = .slot i → i ≠ ic)) ∧ ib ≠ ic ∧ (∃ bad, ρ[ib]? = some (some bad) ∧ noOw bad = true ∧ fm [.lst false (ls.map (clo ρ)), .int k, bad] = .ok (.bl true)) ∧ nx (ρ.set ic none) ∧ ρ.length = X.N.length ∧ ic < X.N.length) :
    HS X.K false g T 0 (tSeq (tAsg (tLst (tlam X T ls)) (gName ic)) (tIfS (tNot (tB (tCallC X (spF X.K 3 fm) (tCons (tVar ic) (tCons (tC (.int k)) (tCons (tVar ib) tNil)))))) (tRet (tC (.bl false))) tNext)) p nx rt := by
  intro E n b F O H σ ρ W hpp D hn hr
  obtain ⟨h1, h2, ⟨bad, h3, h4, h5⟩, h6, h7, h8⟩ := hp ρ hpp
  obtain ⟨vb, hvb, _⟩ := W.sd.at_ ib bad h3
  refine tlam_run _ ls H W.tb fun fs H1 kt t1 hl => ?_
  have lf : ∀ {ls : List Lm} {fs : List Addr}, LamsAt X H1 ls fs → fs.length = ls.length := by
    intro ls
    induction ls with
    | nil => intro fs h; rw [show fs = [] from h]; rfl
    | cons l r ih =>
      intro fs h
      obtain ⟨f, gs, rfl, _, h⟩ := h
      rw [List.length_cons, List.length_cons, ih h]
  have hz : (fs.map V.ref).length ≤ sizeLine := by
    rw [List.length_map, lf hl, sizeLine_eq]
    omega
  refine ⟨hz, fun q hq => ?_⟩
  obtain ⟨b1, B1, W1⟩ := W.keepT (X := X) kt t1
  have W2 := W1.fwd (upd_same_ext (o := .lst (fs.map V.ref)) hq)
  have hl2 : LamsAt X (upd H1 q (.lst (fs.map V.ref))) ls fs := hl.mono t1 fun a o _ e => upd_same_ext hq a o e
  have sl : σ.length = ρ.length := W.sd.len
  have hic : (σ.set ic (some (.ref q)))[ic]? = some (some (.ref q)) := List.getElem?_set_self (by rw [sl, h7]; exact h8)
  refine ⟨.ref q, hic, ?_⟩
  refine ⟨vb, by rw [List.getElem?_set_ne (Ne.symm h2)]; exact hvb, fun Hc told => ?_⟩
  have W3 : WSt X.K false g T n b1 F O (upd H1 q (.lst (fs.map V.ref))) (σ.set ic (some (.ref q))) (ρ.set ic none) := ⟨W2.sd.drop, W2.ap, fun z => (nomatch z), fun z => (nomatch z), W2.go, W2.tb, W2.no⟩
  have eq : ls.map (clo (ρ.set ic none)) = ls.map (clo ρ) := List.map_congr_left fun l hl => by
    unfold clo
    have : l.as.map (laD (ρ.set ic none)) = l.as.map (laD ρ) := List.map_congr_left fun a ha => by
      cases a with
      | slot i =>
        simp only [laD]
        rw [List.getElem?_set_ne (Ne.symm ((h1 l hl _ ha).2 i rfl))]
      | non => rfl
      | int i => rfl
    rw [this]
  refine call_core (Q := fun x H1 => ∃ c, x = V.bl c ∧ (if (!c) = true then tRet (tC (.bl false)) D (σ.set ic (some (.ref q))) H1 else tNext D (σ.set ic (some (.ref q))) H1)) (ρ := ρ.set ic none) (bad := bad) W3 upd_same hl2 ok hz (fun l hl a ha => ?_) (fun _ _ _ _ e => e) (by rw [List.getElem?_set_ne (Ne.symm h2)]; exact h3) h4 (by rw [List.getElem?_set_ne (Ne.symm h2)]; exact hvb) (by rw [eq]; exact h5) (fun H3 s3 => ?_) told
  · obtain ⟨x1, x2⟩ := h1 l hl a ha
    cases a with
    | slot i =>
      obtain ⟨d, y1, y2⟩ := x1
      exact ⟨d, by rw [List.getElem?_set_ne (Ne.symm (x2 i rfl))]; exact y1, y2⟩
    | non => trivial
    | int i => trivial
  · refine ⟨true, rfl, iteF ?_⟩
    exact hn b1 F O H3 _ _ B1 (W3.fwd s3) h6
/-- not f([lambda: .., ..], k, b) -/
theorem ht_calls {fm : List D → R D} {p : Env → Prop} (ls : List Lm) (ib : Nat) (k : Int) (ok : ∀ l ∈ ls, l.Ok X) (hlen : ls.length ≤ 1000)
    (hp : ∀ ρ, p ρ → (∀ l ∈ ls, ∀ a ∈ l.as, frozen ρ a) ∧ (∃ bad, ρ[ib]? = some (some bad) ∧ noOw bad = true ∧ fm [.lst false (ls.map (clo ρ)), .int k, bad] = .ok (.bl true))) :
    HT X.K hd g T 0 (tNot (tB (tCallC X (spF X.K 3 fm) (tCons (tLst (tlam X T ls)) (tCons (tC (.int k)) (tCons (tVar ib) tNil)))))) p (fun _ c => c = false) := by
  intro E n b F O H σ ρ W hpp Q hQ
  obtain ⟨h1, bad, h3, h4, h5⟩ := hp ρ hpp
  obtain ⟨vb, hvb, _⟩ := W.sd.at_ ib bad h3
  refine tlam_run _ ls H W.tb fun fs H1 kt t1 hl => ?_
  have lf : ∀ {ls : List Lm} {fs : List Addr}, LamsAt X H1 ls fs → fs.length = ls.length := by
    intro ls
    induction ls with
    | nil => intro fs h; rw [show fs = [] from h]; rfl
    | cons l r ih =>
      intro fs h
      obtain ⟨f, gs, rfl, _, h⟩ := h
      rw [List.length_cons, List.length_cons, ih h]
  have hz : (fs.map V.ref).length ≤ sizeLine := by
    rw [List.length_map, lf hl, sizeLine_eq]
    omega
  refine ⟨hz, fun q hq => ?_⟩
  obtain ⟨b1, B1, W1⟩ := W.keepT (X := X) kt t1
  have W2 := W1.fwd (upd_same_ext (o := .lst (fs.map V.ref)) hq)
  have hl2 : LamsAt X (upd H1 q (.lst (fs.map V.ref))) ls fs := hl.mono t1 fun a o _ e => upd_same_ext hq a o e
  refine ⟨vb, hvb, fun Hc told => ?_⟩
  refine call_core (Q := fun x H1 => ∃ c, x = V.bl c ∧ Q (!c) H1) (ρ := ρ) (bad := bad) W2 upd_same hl2 ok hz h1 (fun _ _ _ _ e => e) h3 h4 hvb h5 (fun H3 s3 => ?_) told
  refine ⟨true, rfl, hQ false b1 H3 B1 (W2.fwd s3) (fun a o z e => ?_) rfl⟩
  exact s3 a o (upd_same_ext hq a o (kt a o (fun p hp y => z (.inr ⟨p, hp, y⟩)) e))
end
end PV
end
section
set_option Elab.async false
set_option linter.all false
set_option maxRecDepth 100000
set_option maxHeartbeats 1000000
/-! PV44: a def without parameters; a def that makes lambdas keeps its promise; tests within a block. -/
namespace PV
open PySem PySem.Spec PyProof.Rows L2 LamX Classical
section
variable {X : Cx} {E : XK} {x : Str} {p pos : Pos} {k j : Nat}
theorem pe_call0G {CX : CXT} {f : Addr} {fd : FuncData} {sp : Sp} (F : FnG X.prog X.w X.K X.mg X.base CX k f fd [] sp) (hr : RoomG k X.A) (hg : Gl X x) (hm : X.mg x = some (.ref f)) (hk : PySem.W.keepIn X.K (.ref f) = true) (hb : Binds X.K fd [] []) (hx : Passes CX X E)
    (hdb : (x == ("__debug__" : Str)) = false := by decide) : PE X (.Call (.Name x p) [] [] pos) (tCall sp [] E tNil) := by
  refine ⟨fun pins s σ H Q I h => ?_⟩
  refine wpAny_Call_Name_kw (ld_glob I hg hm ?_ hdb)
  exact PySem.W.callWith_K0 I.kIn hk (run_fnG (us := []) F hr hb .nil hx I .nil h)
theorem xcall0 {f : List D → R D} (h : Def X.prog X.w X.K X.mg X.base k x [] f) (hr : RoomG j X.A) (hk : k ≤ j) (hx : Passes (L2.CX X.prog X.w) X E) (hg : Gl X x := by rfl) (hdb : (x == ("__debug__" : Str)) = false := by decide) :
    PX X E (.Call (.Name x p) [] [] pos) (tCall (spF X.K 0 f) [] E tNil) (mCall f aNil) [] [] := by
  obtain ⟨fd, F, hb, _, _, _, fun_⟩ := h.ok
  exact ⟨pe_call0G F (hr.mono hk) hg h.mg fun_.kp hb hx hdb, snd_call sna_nil fun ρ ds h => by cases h; rfl⟩
/-- a def is called, the cells told -/
theorem pe_callCD {ps : List Str} {f : List D → R D} {e : Expr} {es : List Expr} {t : TA} (h : Def X.prog X.w X.K X.mg X.base k x ps f) (hr : RoomG j X.A) (hk : k ≤ j) (hfn : (∀ y, X.fn y = true) ∨ NewC X) (ha : PA X (e :: es) t) (hg : Gl X x := by rfl)
    (hdb : (x == ("__debug__" : Str)) = false := by decide) (he : starEach (e :: es) X.env = (false, eval e X.env) :: starEach es X.env := by rfl) (hpl : (backTo pos (starEach es X.env)).any (·.1) = false := by rfl) :
    PE X (.Call (.Name x p) (e :: es) [] pos) (tCallC X (spF X.K ps.length f) t) := by
  obtain ⟨fd, F, hb, _, _, _, fun_⟩ := h.ok
  exact pe_callC F (hr.mono hk) hfn hg h.mg fun_.kp hb ha hdb he hpl
/-- a block's tests, read for every block -/
theorem pts_blk {ifs : List Expr} {scope : Scope} {t : Cx → TT} {s : Shared} {H : Hp} {C : Addr} {cl : List (Str × Addr)} {fp : List Addr} (h : PTs (Cx.bk X s H scope C cl fp) ifs (t (Cx.bk X s H scope C cl fp))) :
    PTs (Cx.bk X s H scope C cl fp) ifs (fun σ H' Q => ∀ s0 H0 C0 cl0 fp0, t (Cx.bk X s0 H0 scope C0 cl0 fp0) σ H' Q) := ⟨fun pins z σ H' Q I q => h.run pins z σ H' Q I (q s H C cl fp)⟩
theorem ht_blk {hd : Bool} {g : Addr} {T : List (Addr × Str)} {scope : Scope} {t : Cx → TT} {pr : Env → Prop} {q : Env → Bool → Prop} (h : ∀ s0 H0 C0 cl0 fp0, HT X.K hd g T 0 (t (Cx.bk X s0 H0 scope C0 cl0 fp0)) pr q) :
    HT X.K hd g T 0 (fun σ H' Q => ∀ s0 H0 C0 cl0 fp0, t (Cx.bk X s0 H0 scope C0 cl0 fp0) σ H' Q) pr q := fun E n b F O H σ ρ W hp Q hQ s0 H0 C0 cl0 fp0 => h s0 H0 C0 cl0 fp0 n b F O H σ ρ W hp Q hQ
/-- the code object of a def -/
theorem code_ref {K : PySem.W.Frag} {cdv : Value} (hlk : ∃ oc od dV kV doc pm an ct osl params body scope, K.lookup (He.ga K x) = some ⟨oc, od, .func (PySem.W.fnOf x x params body scope dV kV doc pm an cdv ct), osl⟩) (hc : PySem.W.codeIn K cdv x = true) : cdv = .ref (He.codeOf K (x, none)) := by
  obtain ⟨oc, od, dV, kV, doc, pm, an, ct, osl, params, body, scope, lk⟩ := hlk
  obtain ⟨c, rfl⟩ := He.codeIn_ref hc
  rw [He.codeOf_eq (p := (x, none)) lk rfl]
end
end PV
namespace PV
open PySem PySem.Spec PyProof.Rows L2 LamX Classical
theorem lmOk {X : Cx} {l : Lm} (h : lamSB X.env.scope l.scope = true) (glob : l.scope.names.lookup (Str.ofString l.x) = some .globalImplicit) (dbg : (Str.ofString l.x == ("__debug__" : Str)) = false) (ne : l.es ≠ [])
    (bind : ∀ q cells pm c' ctv, bindArgs (PySem.W.kla_fn "<lambda>" q l.params l.body l.scope cells pm (.ref c') ctv) ⟨[], []⟩ = pure []) (args : lasOk X l.scope l.es l.as) : l.Ok X :=
  ⟨(lamS_by h).kind, (lamS_by h).co, (lamS_by h).gen, (lamS_by h).own, (lamS_by h).free, glob, dbg, ne, bind, args⟩
theorem all1 {α : Type} {p : α → Prop} {a : α} (h : p a) : ∀ x ∈ [a], p x := fun x hx => by rw [List.mem_singleton.mp hx]; exact h
theorem allc {α : Type} {p : α → Prop} {a : α} {l : List α} (h : p a) (r : ∀ x ∈ l, p x) : ∀ x ∈ a :: l, p x := fun x hx => by
  rcases List.mem_cons.mp hx with z | z
  · rw [z]; exact h
  · exact r x z
theorem all0 {α : Type} {p : α → Prop} : ∀ x ∈ ([] : List α), p x := fun _ z => nomatch z
/-- an argument is frozen, and not the slot ic -/
def frOk (ρ : Env) (ic : Nat) (a : LA) : Prop := frozen ρ a ∧ ∀ i, a = .slot i → i ≠ ic
theorem fr_slot {ρ : Env} {ic i : Nat} {d : D} (h : ρ[i]? = some (some d)) (hn : noOw d = true) (hi : i ≠ ic) : frOk ρ ic (.slot i) := ⟨⟨d, h, hn⟩, fun j e => by cases e; exact hi⟩
theorem fr_non {ρ : Env} {ic : Nat} : frOk ρ ic .non := ⟨trivial, fun j e => by cases e⟩
theorem fr_int {ρ : Env} {ic : Nat} {i : Int} : frOk ρ ic (.int i) := ⟨trivial, fun j e => by cases e⟩
end PV
end
section
set_option Elab.async false
set_option linter.all false
set_option maxRecDepth 100000
set_option maxHeartbeats 1000000
/-! PV45: a def by any promise. -/
namespace PV
open PySem PySem.Spec PyProof.Rows L2 LamX Classical
section
variable {P : Program} {w : World} {K : PySem.W.Frag} {mg : Str → Option Value} {base : Heap} {k : Nat} {x : Str} {ps N : List Str} {params : Arguments} {body : List Stmt} {scope : Scope} {sp : Sp}
structure DefG (P : Program) (w : World) (K : PySem.W.Frag) (mg : Str → Option Value) (base : Heap) (k : Nat) (x : Str) (ps : List Str) (sp : Sp) : Prop where
  ok : ∃ fd, FnG P w K mg base (L2.CX P w) k (He.ga K x) fd ps sp ∧ Binds K fd ps [] ∧ ∃ params body scope, FunD K x x params body scope [] [] (He.ga K x) fd
  mg : mg x = some (.ref (He.ga K x))
theorem mkG (hmg : mg x = some (.ref (He.ga K x))) (hF : ∃ fd, FunD K x x params body scope [] [] (He.ga K x) fd) (S : FnScope N ps scope) (hlen : ∀ vs H Q E, sp vs H Q E → vs.length = ps.length)
    (hb : ∀ (kV doc pm : Value) (an : Option Addr) (cdv ct : Value) (us : List Value), us.length = ps.length → bindArgs (PySem.W.fnOf x x params body scope .none kV doc pm an cdv ct) ⟨us, []⟩ = pure (ps.zip us))
    (h : ∀ (cdv : Value) (A : Around) (outer : List PySem.Env) (s : Shared) (H : Hp) (vs : List V) (Q : VK) (E : XK), RoomG k (A.deeper (envOfC x scope s.heap.objs.size (He.ga K x) cdv)) → sp vs H Q E →
      ∃ t, PSs (XD P w K mg base N x scope cdv A outer s H E) body t ∧ t { nx := fun _ H' => Q .non H', rt := Q } (L2.start N vs) H) : DefG P w K mg base (k + 1) x ps sp := by
  obtain ⟨fd, F⟩ := hF
  have F' := F
  obtain ⟨oc, od, dV, kV, doc, pm, an, cdv, ct, osl, e1, lk, hcd, hD, hK⟩ := F'.ex
  refine ⟨⟨fd, ⟨hlen, fun A outer s H args us vs Q E hr e0 hbb r hsp => ?_⟩, F.bindsN hb, params, body, scope, F⟩, hmg⟩
  rw [e1] at lk hbb
  exact LamX.run_ofS lk hcd S hr.rm e0 hbb r (hlen vs H Q E hsp) fun hr' => h cdv A outer s H vs Q E ⟨hr', hr.gd⟩ hsp
end
section
variable {X : Cx} {E : XK} {x : Str} {p pos : Pos} {e : Expr} {es : List Expr} {t : TA} {k j : Nat} {ps : List Str} {sp : Sp}
theorem pe_callS (h : DefG X.prog X.w X.K X.mg X.base k x ps sp) (hr : RoomG j X.A) (hk : k ≤ j) (hx : Passes (L2.CX X.prog X.w) X E) (ha : PA X (e :: es) t) (hg : Gl X x := by rfl)
    (hdb : (x == ("__debug__" : Str)) = false := by decide) (he : starEach (e :: es) X.env = (false, eval e X.env) :: starEach es X.env := by rfl) (hpl : (backTo pos (starEach es X.env)).any (·.1) = false := by rfl) :
    PE X (.Call (.Name x p) (e :: es) [] pos) (tCall sp [] E t) := by
  obtain ⟨fd, F, hb, _, _, _, fun_⟩ := h.ok
  exact pe_callG F (hr.mono hk) hg h.mg fun_.kp hb .nil hx ha hdb he hpl
end
end PV
end
section
set_option Elab.async false
set_option linter.all false
set_option maxRecDepth 100000
set_option maxHeartbeats 2000000
/-! PV46: the end of a law's row, where the law's promise carries that no repr is under way. -/
namespace PV
open PySem PySem.Spec PyProof.Rows L2 LamX Classical
/-- what is told at the law's start: the tables, the script -/
noncomputable def stH (K : PySem.W.Frag) (ts : List Addr) (a : Addr) (ob : Obj) (xs : List V) : Hp := fun b => if b ∈ ts then some (.tbl #[]) else if b = a ∧ K.lookup a = none then some (.frz ob (.lst xs)) else none
section
variable {K : PySem.W.Frag} {ts : List Addr} {a b : Addr} {ob : Obj} {xs : List V}
theorem stH_t (h : b ∈ ts) : stH K ts a ob xs b = some (.tbl #[]) := if_pos h
theorem stH_a (h : b ∉ ts) (h2 : b = a ∧ K.lookup a = none) : stH K ts a ob xs b = some (.frz ob (.lst xs)) := (if_neg h).trans (if_pos h2)
theorem stH_n (h : b ∉ ts) (h2 : ¬ (b = a ∧ K.lookup a = none)) : stH K ts a ob xs b = none := (if_neg h).trans (if_neg h2)
end
/-- the promise of a law, with tables -/
structure LawG (P : Program) (w : World) (K : PySem.W.Frag) (k n : Nat) (x : Str) (mg : Str → Option Value) (fa : Addr) (h : Heap) : Prop where
  ex : ∃ (fd : FuncData) (cs : List (Addr × Addr)) (sp : Sp), (∀ p ∈ cs, h.get? p.2 = some { cls := .none, data := .fields #[] }) ∧ (∀ p ∈ cs, K.lookup p.2 = none) ∧ (∀ p ∈ cs, PySem.W.CodeHd h p.1 p.2) ∧ (∀ (s : Shared) (u : Value), BindsTo s fd ⟨[u], []⟩ [(x, u)]) ∧
    (∀ (H : Hp) (a : Addr) (ns : List Int), ns.length ≤ n → (∀ p ∈ cs, H p.2 = some (.tbl #[])) → SqL K H a (ns.map V.int) → sp [.ref a] H (fun v _ => v = .bl true) fun _ _ _ => False) ∧
    ∀ base : Heap, K.In base → base.Ns mainGlobals mg → (∀ p ∈ cs, TabB base mg p.1 p.2) → FnG P w K mg base (L2.CX P w) k fa fd [x] sp
section
variable {P : Program} {w : World} {K : PySem.W.Frag} {mg mb : Str → Option Value} {k : Nat} {fa a : Addr} {cs : List (Addr × Addr)} {fd : FuncData} {x : Str} {sp : Sp} {z : Shared} {vs : List Value} {ns : List Int}
theorem law_callG (KX : K.In z.heap) (hns : z.heap.Ns mainGlobals mg) (hb : z.heap.Ns builtinsNs mb) (hbb : ∀ y : Str, y ≠ "__name__" → mb y = bootBuiltins y) (lim : z.heap.NoLimit) (gens : z.gens = #[])
    (hT : ∀ p ∈ cs, z.heap.get? p.2 = some { cls := .none, data := .fields #[] }) (nT : ∀ p ∈ cs, K.lookup p.2 = none) (C : ∀ p ∈ cs, PySem.W.CodeHd z.heap p.1 p.2)
    (hbm : ∃ (bm : Addr) (ob : Obj), mg "__builtins__" = some (.ref bm) ∧ bm ≠ builtinsNs ∧ z.heap.get? bm = some ob ∧ ob.cls = .type "module" ∧ ob.dict = some builtinsNs ∧ ob.data = .plain)
    (ha : z.heap.get? a = some { cls := .type "list", data := .seq vs.toArray }) (hi : IntsAre vs ns) (hl : ns.length ≤ sizeLine) (hr : Room k callerA)
    (F : ∀ base : Heap, K.In base → base.Ns mainGlobals mg → (∀ p ∈ cs, TabB base mg p.1 p.2) → FnG P w K mg base (L2.CX P w) k fa fd [x] sp) (hbind : ∀ (s : Shared) (u : Value), BindsTo s fd ⟨[u], []⟩ [(x, u)])
    (hsp : ∀ H : Hp, (∀ p ∈ cs, H p.2 = some (.tbl #[])) → SqL K H a (ns.map V.int) → sp [.ref a] H (fun v _ => v = .bl true) fun _ _ _ => False) :
    codeAny (model P w) callerA (.call (.ref fa) ⟨[.ref a], []⟩) (fun r s' => r = .ok (.ret (.bool true)) ∧ OldK z.heap s'.heap ∧ s'.os = z.os ∧ AllBare s'.gens) z := by
  have rv := vals_ints hi
  have lv := hi.length
  generalize ets : cs.map (·.2) = ts
  have inT : ∀ p ∈ cs, p.2 ∈ ts := fun p hp => by rw [← ets]; exact List.mem_map.mpr ⟨p, hp, rfl⟩
  have outT : ∀ b ∈ ts, ∃ p ∈ cs, p.2 = b := fun b h => by
    rw [← ets] at h
    obtain ⟨p, hp, e⟩ := List.mem_map.mp h
    exact ⟨p, hp, e⟩
  have tT : ∀ b ∈ ts, z.heap.get? b = some { cls := .none, data := .fields #[] } := fun b h => by
    obtain ⟨p, hp, e⟩ := outT b h
    rw [← e]
    exact hT p hp
  have aT : a ∉ ts := fun h => by
    have q := tT a h
    rw [ha] at q
    cases congrArg Obj.data (Option.some.inj q)
  generalize eH : stH K ts a { cls := .type "list", data := .seq vs.toArray } (ns.map V.int) = H
  have Ht : ∀ p ∈ cs, H p.2 = some (.tbl #[]) := fun p hp => by rw [← eH]; exact stH_t (inT p hp)
  have Hn : ∀ b, b ∉ ts → ¬ (b = a ∧ K.lookup a = none) → H b = none := fun b h1 h2 => by rw [← eH]; exact stH_n h1 h2
  have Ha : K.lookup a = none → H a = some (.frz { cls := .type "list", data := .seq vs.toArray } (.lst (ns.map V.int))) := fun h => by rw [← eH]; exact stH_a aT ⟨rfl, h⟩
  have hok : HOk P w H z.heap := fun b u e => by
    by_cases h1 : b ∈ ts
    · rw [← eH, stH_t h1] at e
      cases e
      exact tT b h1
    · by_cases h2 : b = a ∧ K.lookup a = none
      · rw [h2.1, Ha h2.2] at e
        cases e
        rw [h2.1]
        exact ⟨ha, by rw [List.length_map]; exact hl, vs, _, rv, ha⟩
      · rw [Hn b h1 h2] at e
        cases e
  have hS : SqL K H a (ns.map V.int) := by
    cases q : K.lookup a with
    | none => exact .inl (.inr ⟨_, Ha q⟩)
    | some o =>
      have e := KX a o q
      rw [ha] at e
      cases e
      exact .inr ⟨_, vs.toArray, _, q, rfl, rfl, rfl, by rw [List.size_toArray, lv]; exact hl, by simpa using rv⟩
  -- objects that are neither
  have un : ∀ {b : Addr} {o : Obj}, z.heap.get? b = some o → (∀ us m, o.data ≠ .seq us m) → o.data ≠ .fields #[] → H b = none := fun {b o} e h1 h2 => by
    refine Hn b (fun h => ?_) fun h => ?_
    · have q := tT b h
      rw [e] at q
      cases q
      exact h2 rfl
    · rw [h.1, ha] at e
      cases e
      exact h1 _ _ rfl
  have toB : ∀ {b : Addr} {o : Obj}, z.heap.get? b = some o → H b = none → (hidT z.heap H).get? b = some o := fun e n => hidT_get e n
  have dct : ∀ {b : Addr} {o : Obj} {es : Array DictEntry} {ep : Nat}, z.heap.get? b = some o → o.data = .dict es ep → (hidT z.heap H).get? b = some o := fun {b o es ep} e d => toB e (un e (fun us m h => by rw [d] at h; cases h) fun h => by rw [d] at h; cases h)
  have nsB : ∀ {b : Addr} {m : Str → Option Value}, z.heap.Ns b m → (hidT z.heap H).Ns b m := fun {b m} ⟨o, es, ep, e, d, r⟩ => ⟨o, es, ep, dct e d, d, r⟩
  have KB : K.In (hidT z.heap H) := fun b o e => toB (KX b o e) (Hn b (fun h => by
    obtain ⟨p, hp, ep⟩ := outT b h
    rw [← ep, nT p hp] at e
    cases e) fun h => by rw [h.1, h.2] at e; cases e)
  have md : L2.Mod K mg (hidT z.heap H) := ⟨KB, nsB hns, ⟨mb, nsB hb, hbb⟩, let ⟨mc, l1, l2⟩ := lim; ⟨mc, nsB l1, l2⟩⟩
  have TB : ∀ p ∈ cs, TabB (hidT z.heap H) mg p.1 p.2 := fun p hp => by
    have tp := hT p hp
    obtain ⟨o, us, file, tf, fl, tg, inF, tx, tt, e1, r1, r2, r3, rest⟩ := C p hp
    obtain ⟨bm, ob, b1, b2, b3, b4, b5, b6⟩ := hbm
    have bmG : bm ≠ mainGlobals := fun q => by
      obtain ⟨o, es, ep, e, d, _⟩ := hns
      rw [q, e] at b3
      cases b3
      rw [d] at b6
      cases b6
    have bmP : bm ≠ p.2 := fun q => by
      rw [q, tp] at b3
      cases b3
      cases b6
    refine ⟨⟨o, us, file, tf, fl, tg, inF, tx, tt, toB e1 (un e1 (fun us m h => by rw [r2] at h; cases h) fun h => ?_), r1, r2, r3, rest⟩, ⟨bm, ob, b1, b2, bmG, bmP, toB b3 (un b3 (fun us m h => by rw [b6] at h; cases h) fun h => by rw [b6] at h; cases h), b4, b5, b6⟩, fun q => ?_⟩
    · rw [r2] at h
      cases h
      simp at r3
    · obtain ⟨o, es, ep, e, d, _⟩ := hns
      rw [q, tp] at e
      cases e
      cases d
  have e0 : Env0 P w K mg (hidT z.heap H) callerA [] z H := ⟨rfl, md, fun b o e => of_hidT e, Nat.le_of_eq (hidT_size _ _), trivial, fun b h => absurd (show b ∈ ([] : List Addr) from h) (by simp), hok, .of_eq gens⟩
  refine codeAny_mono ((F _ KB (nsB hns) TB).run callerA [] z H ⟨[.ref a], []⟩ [.ref a] [.ref a] _ _ ⟨hr, rfl⟩ e0 (hbind z (.ref a)) (.cons rfl .nil) (hsp H Ht hS)) fun r s' h => ?_
  cases r with
  | error e =>
    obtain ⟨_, _, _, _, _, _, _, _, _, _, _, _, q⟩ := h
    exact q.elim
  | ok fl =>
    cases fl with
    | ret u =>
      obtain ⟨v, H', os, bare, uu, hok', r', q⟩ := h
      have q' : v = .bl true := q
      subst q'
      obtain rfl : u = Value.bool true := r'
      have stay : ∀ b o, b ∉ ts → z.heap.get? b = some o → s'.heap.get? b = some o := fun b o h1 e => by
        by_cases h2 : b = a ∧ K.lookup a = none
        · have y := uu.frzs a _ _ (Ha h2.2)
          have y2 := (hok' a _ y).1
          rw [h2.1] at e ⊢
          rw [ha] at e
          cases e
          exact y2
        · exact uu.keep b o e (Hn b h1 h2) (fun y => absurd (show b ∈ ([] : List Addr) from y) (by simp)) (by simp)
      have tabs : ∀ b ∈ ts, ∃ p ∈ cs, p.2 = b ∧ ∃ more : Array Value, s'.heap.get? b = some { cls := .none, data := .fields more } := fun b h => by
        obtain ⟨p, hp, e⟩ := outT b h
        obtain ⟨more, y⟩ := uu.tbls p.2 #[] (Ht p hp)
        exact ⟨p, hp, e, _, by rw [← e]; exact hok' p.2 _ y⟩
      refine ⟨rfl, ⟨fun b o e => ?_, fun b o e => ?_⟩, os, bare⟩
      · by_cases h1 : b ∈ ts
        · obtain ⟨p, hp, ep, more, y⟩ := tabs b h1
          rw [tT b h1] at e
          cases e
          refine .inr (.inl ⟨?_, rfl, #[], more, rfl, by rw [Array.empty_append]; exact y⟩)
          rw [← ep]
          exact ((C p hp).tab (hT p hp)).isCodeTable
        · exact .inl (stay b o h1 e)
      · by_cases h1 : b ∈ ts
        · obtain ⟨p, hp, ep, more, y⟩ := tabs b h1
          exact ⟨_, y⟩
        · exact ⟨o, stay b o h1 e⟩
    | next => exact False.elim h
    | brk => exact False.elim h
    | cont => exact False.elim h
theorem walk_ofG {l : PySem.W.OpenLaw} {n k : Nat} {q : Program} {loose : List Str} {XP : (Str → Option Value) → Heap → Prop} {YP : World → Heap → Prop} {d : DefRec} {x : Str} (hn : l.most = some n) (hn2 : n ≤ sizeLine) (hdf : d.params.defaults = []) (hr : Room k callerA)
    (F : ∀ (w : World) (mg : Str → Option Value) (fa : Addr) (h : Heap), YP w h → h.Ns mainGlobals mg → mg d.name = some (.ref fa) → ∃ K : PySem.W.Frag, K.In h ∧ LawG l.prog w K k n x mg fa h) :
    PySem.W.WalkO q loose XP YP l.row.toRowW d [] (fun f vs => PySem.call f vs) := by
  refine Att.attach_callB hn hdf fun w s₀ s₁ mg mb fa o pm cd doc a vs ns G Y ho hd hcd hmg hobj hints hlen hbits hg => ?_
  obtain ⟨K, KX, ⟨fd, cs, sp, hT, nT, C, hb, hsp, hF⟩⟩ := F w mg fa _ Y G.T.g hmg
  exact law_callG KX G.T.g G.T.b G.T.builtins G.T.nolimit hg hT nT C G.T.bmain hobj hints (Nat.le_trans hlen hn2) hr hF hb fun H hH hS => hsp H a ns hlen hH hS
end
end PV
end
section
set_option Elab.async false
set_option linter.all false
set_option maxRecDepth 100000
set_option maxHeartbeats 2000000
/-! PV47: the head's facts, the exceptions' and the tables' among them, read by a Hook. -/
namespace PV
open PySem PySem.Spec PyProof.Rows L2 LamX He
/-! ### a function without its cells' places -/
abbrev FnC : Type := Option (Str × Str × Arguments × FuncBody × Scope × Addr × List Str × Addr)
def fnC (K : PySem.W.Frag) (f : Addr) : FnC := match K.lookup f with
  | some ⟨_, _, .func fd, _⟩ => some (fd.name, fd.qualname, fd.params, fd.body, fd.scope, fd.globals, fd.closure.map (·.1), fd.builtins)
  | _ => none
def iAd (K : PySem.W.Frag) : Addr := ma K (ga K "DeedError") "__init__"
/-! ### exceptions -/
def oexB (K : PySem.W.Frag) (C : Addr) : Bool := (match K.lookup C with
  | some ⟨.type c, _, .cls cd, sl⟩ => (match cd.mro, sl.toList with
    | .ref C' :: bm, [_, _, _, _, some (.builtin n), _] => decide (c = "type") && (decide (C' = C) && (decide (n = "ValueError.__new__") && (cd.hasDict && (!cd.hasDel && PySem.HandSPX.refsVE bm))))
    | _, _ => false)
  | _ => false) && (decide (PySem.W.findIn K (.ref C) "__setattr__" = some (some (.builtin "object.__setattr__"))) && (decide (PySem.W.subIn K (.ref C) (.type "BaseException") = some true) && (decide (PySem.W.typeIn K (.ref C) = some (.type "type")) && PySem.W.keepIn K (.ref C))))
theorem oexB_ok {K : PySem.W.Frag} {C : Addr} (h : oexB K C = true) : OexC K C := by
  obtain ⟨h1, h2⟩ := ba h
  obtain ⟨h3, h4⟩ := ba h2
  obtain ⟨h5, h6⟩ := ba h4
  obtain ⟨h7, h8⟩ := ba h6
  refine ⟨?_, of_decide_eq_true h3, of_decide_eq_true h5, of_decide_eq_true h7, h8⟩
  cases q : K.lookup C with
  | none => rw [q] at h1; cases h1
  | some o =>
    obtain ⟨oc, od, dt, sl⟩ := o
    rw [q] at h1
    cases oc with
    | type c =>
      cases dt with
      | cls cd =>
        have h1' : (match cd.mro, sl.toList with
          | .ref C' :: bm, [_, _, _, _, some (.builtin n), _] => decide (c = "type") && (decide (C' = C) && (decide (n = "ValueError.__new__") && (cd.hasDict && (!cd.hasDel && PySem.HandSPX.refsVE bm))))
          | _, _ => false) = true := h1
        split at h1'
        · rename_i C' bm k0 k1 k2 k3 n k5 e1 e2
          obtain ⟨g1, h1'⟩ := ba h1'
          obtain ⟨g2, h1'⟩ := ba h1'
          obtain ⟨g3, h1'⟩ := ba h1'
          obtain ⟨g4, h1'⟩ := ba h1'
          obtain ⟨g5, g6⟩ := ba h1'
          obtain ⟨n1, n2, n3, n4, n5, n6, n7, n8, n9, n10, n11⟩ := cd
          have e1 : n3 = .ref C' :: bm := e1
          have g4 : n6 = true := g4
          have g5 : n11 = false := by
            cases n11 with
            | false => rfl
            | true => cases g5
          have es : sl = #[k0, k1, k2, k3, some (.builtin n), k5] := by
            cases sl with
            | mk l =>
              have e2 : l = _ := e2
              rw [e2]
          refine ⟨n1, n5, n4, n2, bm, n7, n8, n9, n10, od, k0, k1, k2, k3, k5, ?_, g6⟩
          rw [e1, g4, g5, es, of_decide_eq_true g1, of_decide_eq_true g2, of_decide_eq_true g3]
        · cases h1'
      | _ => cases h1
    | _ => cases dt <;> cases h1
def supB (K : PySem.W.Frag) (C D : Addr) : Bool := oexB K C && (decide (PySem.W.findIn K (.ref C) "value" = some none) && (decide (PySem.W.mroIn K C (.ref D) = some true) && (decide (PySem.W.ks_superIn K C D "__init__" = some (some (.builtin "ValueError.__init__"))) && decide (PySem.W.subIn K (.ref C) (.type "ValueError") = some true))))
theorem supB_ok {K : PySem.W.Frag} {C D : Addr} (h : supB K C D = true) : SupC K C D := by
  obtain ⟨h1, h⟩ := ba h
  obtain ⟨h2, h⟩ := ba h
  obtain ⟨h3, h⟩ := ba h
  obtain ⟨h4, h5⟩ := ba h
  exact ⟨oexB_ok h1, of_decide_eq_true h2, of_decide_eq_true h3, of_decide_eq_true h4, of_decide_eq_true h5⟩
def excB (K : PySem.W.Frag) (C : Addr) : Bool := decide (PySem.W.findIn K (.ref C) "__getattribute__" = some (some (.builtin "BaseException.__getattribute__"))) && (decide (PySem.W.findIn K (.ref C) "__getattr__" = some none) && (decide (PySem.W.subIn K (.ref C) (.type "BaseException") = some true) && (PySem.W.hasDictIn K C &&
  (decide (PySem.W.findIn K (.ref C) "__class__" = some (some (.builtin "object.__class__"))) && (decide (PySem.W.specialIn K (.builtin "object.__class__") "__get__" = some (some (.builtin "getset_descriptor.__get__"))) && (decide (PySem.W.takesIn K (.builtin "object.__class__") = some true) && decide (PySem.W.mroIn K C (.type "object") = some true)))))))
theorem excB_ok {K : PySem.W.Frag} {C : Addr} (h : excB K C = true) : ExcC K C := by
  obtain ⟨h1, h⟩ := ba h
  obtain ⟨h2, h⟩ := ba h
  obtain ⟨h3, h⟩ := ba h
  obtain ⟨h4, h⟩ := ba h
  obtain ⟨h5, h⟩ := ba h
  obtain ⟨h6, h⟩ := ba h
  obtain ⟨h7, h8⟩ := ba h
  exact ⟨of_decide_eq_true h1, of_decide_eq_true h2, of_decide_eq_true h3, h4, of_decide_eq_true h5, of_decide_eq_true h6, of_decide_eq_true h7, of_decide_eq_true h8⟩
/-- all that is asked of the exceptions okc -/
def exfB (K : PySem.W.Frag) (okc : List String) : Bool := (okc.all fun c => excB K (ga K (Str.ofString c)) && (xfB K (ga K (Str.ofString c)) && (decide (PySem.W.findIn K (.ref (ga K (Str.ofString c))) "value" = some none) &&
  ((okc.all fun c' => decide (PySem.W.kitOne K (.ref (ga K (Str.ofString c))) (.ref (ga K (Str.ofString c'))) = some (c == c'))) && (decide (PySem.W.kitOne K (.type "NoneType") (.ref (ga K (Str.ofString c))) = some false) &&
  (decide (PySem.W.exmOne K (.ref (ga K (Str.ofString c))) (.ref (ga K "DeedError")) = some true) && (supB K (ga K (Str.ofString c)) (ga K "DeedError") && decide (PySem.W.findIn K (.ref (ga K (Str.ofString c))) "__init__" = some (some (.ref (iAd K)))))))))))
theorem exfB_at {K : PySem.W.Frag} {okc : List String} (h : exfB K okc = true) {c : String} (hc : c ∈ okc) : ExcC K (ga K (Str.ofString c)) ∧ XfC K (ga K (Str.ofString c)) ∧ PySem.W.findIn K (.ref (ga K (Str.ofString c))) "value" = some none ∧
    (∀ c' ∈ okc, PySem.W.kitOne K (.ref (ga K (Str.ofString c))) (.ref (ga K (Str.ofString c'))) = some (c == c')) ∧ PySem.W.kitOne K (.type "NoneType") (.ref (ga K (Str.ofString c))) = some false ∧
    PySem.W.exmOne K (.ref (ga K (Str.ofString c))) (.ref (ga K "DeedError")) = some true ∧ SupC K (ga K (Str.ofString c)) (ga K "DeedError") ∧ PySem.W.findIn K (.ref (ga K (Str.ofString c))) "__init__" = some (some (.ref (iAd K))) := by
  obtain ⟨h1, h⟩ := ba (List.all_eq_true.mp h c hc)
  obtain ⟨h2, h⟩ := ba h
  obtain ⟨h3, h⟩ := ba h
  obtain ⟨h4, h⟩ := ba h
  obtain ⟨h5, h⟩ := ba h
  obtain ⟨h6, h⟩ := ba h
  obtain ⟨h7, h8⟩ := ba h
  exact ⟨excB_ok h1, xfB_ok h2, of_decide_eq_true h3, fun c' hc' => of_decide_eq_true (List.all_eq_true.mp h4 c' hc'), of_decide_eq_true h5, of_decide_eq_true h6, supB_ok h7, of_decide_eq_true h8⟩
theorem exfB_ok {K : PySem.W.Frag} {okc : List String} (h : exfB K okc = true) : ExF K okc := ⟨fun c hc => (exfB_at h hc).1, fun c hc => (exfB_at h hc).2.1, fun c hc => (exfB_at h hc).2.2.1, fun c hc c' hc' => (exfB_at h hc).2.2.2.1 c' hc', fun c hc => (exfB_at h hc).2.2.2.2.1⟩
/-! ### DeedError's __init__ -/
def iniB (K : PySem.W.Frag) (file : Str) : Bool := (match K.lookup (iAd K) with
  | some ⟨_, _, .func fd, _⟩ => PySem.W.codeIn K fd.code "DeedError.__init__" && ((match fd.code with
    | .ref cda => (match K.lookup cda with
      | some ⟨_, _, .fields vs, _⟩ => (match vs[2]? with
        | some (Value.str f _) => file == f
        | _ => false)
      | _ => false)
    | _ => false) && (match fd.closure with
    | [(_, cc)] => (match K.lookup cc with
      | some ⟨_, _, .cell (some (.ref D)), _⟩ => decide (D = ga K "DeedError")
      | _ => false)
    | _ => false) && (match fd.defaults with
    | .ref T => (match K.lookup T with
      | some ⟨_, _, .seq its _, _⟩ => decide (its.size = 1)
      | _ => false)
    | _ => false))
  | _ => false) && ((PySem.W.clsIn K (ga K "DeedError")).isSome && (decide (PySem.W.nsIn K cStatics "thirdparty.any" = some none) && (decide (PySem.W.typeIn K (.ref (iAd K)) = some (.type "function")) && (K.lookup sysModules).isSome)))
/-! ### the Hook -/
abbrev Reach : Type := (Addr → Option Obj) → List Addr
structure SaysP (fa : List Fa) (fn : List DefD) (tf : List Defn) (ex : PySem.W.Frag → Bool) (iv : FnC) (h : Heap) (K : PySem.W.Frag) : Prop where
  t : SaysD fa fn K
  iv : fnC K (iAd K) = iv
  more : ex K = true
  hd : ∀ p ∈ tf, PySem.W.codeHdIn K (cT K p).1 (cT K p).2 = true
  out : ∀ p ∈ tf, K.lookup (cT K p).2 = none
  empty : ∀ p ∈ tf, h.get? (cT K p).2 = some { cls := .none, data := .fields #[] }
abbrev AlP : Type := AlD × (FnC × Bool)
def obsP (as : Reach) (fa : List Fa) (fn : List DefD) (tf : List Defn) (ex : PySem.W.Frag → Bool) (g : Addr → Option Obj) : AlP := (obsD fa fn (frT g (as g)), fnC (frT g (as g)) (iAd (frT g (as g))), ex (frT g (as g)) && tabsB g tf (frT g (as g)))
def valP (fn : List DefD) (iv : FnC) : AlP := (valD fn, iv, true)
theorem saysP_of {as : Reach} {fa : List Fa} {fn : List DefD} {tf : List Defn} {ex : PySem.W.Frag → Bool} {iv : FnC} {h : Heap} (e : obsP as fa fn tf ex h.get? = valP fn iv) : SaysP fa fn tf ex iv h (frT h.get? (as h.get?)) := by
  generalize eK : frT h.get? (as h.get?) = K at e ⊢
  have e1 : obsD fa fn K = valD fn := by rw [← eK]; exact congrArg (fun z : AlP => z.1) e
  have e2 : fnC K (iAd K) = iv := by rw [← eK]; exact congrArg (fun z : AlP => z.2.1) e
  have e3 : (ex K && tabsB h.get? tf K) = true := by rw [← eK]; exact congrArg (fun z : AlP => z.2.2) e
  obtain ⟨h1, h2⟩ := ba e3
  have key : ∀ p ∈ tf, PySem.W.codeHdIn K (cT K p).1 (cT K p).2 = true ∧ ∃ o, h.get? (cT K p).2 = some o ∧ emptyTab o = true := fun p hp => by
    obtain ⟨h3, h4⟩ := ba (List.all_eq_true.mp h2 p hp)
    refine ⟨h3, ?_⟩
    cases q : h.get? (cT K p).2 with
    | none => rw [q] at h4; cases h4
    | some o => rw [q] at h4; exact ⟨o, rfl, h4⟩
  exact ⟨e1, e2, h1, fun p hp => (key p hp).1, fun p hp => by
    obtain ⟨_, o, q, y⟩ := key p hp
    rw [← eK] at q ⊢
    exact frT_none q y, fun p hp => by
    obtain ⟨_, o, q, y⟩ := key p hp
    rw [q, emptyTab_eq y]⟩
def hookP (as : Reach) (fa : List Fa) (fn : List DefD) (tf : List Defn) (ex : PySem.W.Frag → Bool) (iv : FnC) : PySem.W.Hook where
  α := AlP
  obs := fun s => obsP as fa fn tf ex s.heap.get?
  val := fun _ => valP fn iv
  says := fun _ h => ∃ K : PySem.W.Frag, K.In h ∧ SaysP fa fn tf ex iv h K
  of := fun _ _ e => ⟨_, frT_in, saysP_of e⟩
  keeps := fun _ _ _ ⟨K, hK, c⟩ k => ⟨K, PySem.W.Frag.In.keeps hK k, ⟨c.t, c.iv, c.more, c.hd, c.out, fun p hp => k _ _ (c.empty p hp)⟩⟩
theorem obsP_eq {as : Reach} {fa : List Fa} {fn : List DefD} {tf : List Defn} {ex : PySem.W.Frag → Bool} {iv : FnC} {g : Addr → Option Obj} {s : Shared} (h : ∀ a, g a = s.heap.get? a) : obsP as fa fn tf ex g = (hookP as fa fn tf ex iv).obs s := by
  have e : g = s.heap.get? := funext h
  rw [e] <;> rfl
end PV
end
section
set_option Elab.async false
set_option linter.all false
set_option maxRecDepth 100000
namespace K90
open PySem PySem.Spec PyProof.Rows L2 PV
def top (i : Nat) : Stmt := PySem.Challenge.pw_deedchances_k90_whole_where_draws_lead.main.body.getD i (.Pass ⟨0, 0, 0, 0⟩)
def okc : List String := ["InvalidWorld", "InvalidLot", "InvalidPlan", "InvalidPlace", "InvalidList", "InvalidNumber", "InvalidText", "InvalidLine", "InvalidDeed", "InvalidDiscount"]
structure Txt (P : Program) (w : World) (K : PySem.W.Frag) (mg : Str → Option Value) (base : Heap) : Prop where
  g_is_whole : mg "is_whole" = some (.ref (He.ga K "is_whole"))
  d_is_whole : ∃ fd, FunD K "is_whole" "is_whole" (defArgs (top 13)) (defBody (top 13)) (defScope (top 13)) [] [] (He.ga K "is_whole") fd
  g_common_divisor : mg "common_divisor" = some (.ref (He.ga K "common_divisor"))
  d_common_divisor : ∃ fd, FunD K "common_divisor" "common_divisor" (defArgs (top 14)) (defBody (top 14)) (defScope (top 14)) [] [] (He.ga K "common_divisor") fd
  g_lowest : mg "lowest" = some (.ref (He.ga K "lowest"))
  d_lowest : ∃ fd, FunD K "lowest" "lowest" (defArgs (top 15)) (defBody (top 15)) (defScope (top 15)) [] [] (He.ga K "lowest") fd
  g_is_fraction : mg "is_fraction" = some (.ref (He.ga K "is_fraction"))
  d_is_fraction : ∃ fd, FunD K "is_fraction" "is_fraction" (defArgs (top 16)) (defBody (top 16)) (defScope (top 16)) [] [] (He.ga K "is_fraction") fd
  g_is_amount : mg "is_amount" = some (.ref (He.ga K "is_amount"))
  d_is_amount : ∃ fd, FunD K "is_amount" "is_amount" (defArgs (top 17)) (defBody (top 17)) (defScope (top 17)) [] [] (He.ga K "is_amount") fd
  g_are_amounts : mg "are_amounts" = some (.ref (He.ga K "are_amounts"))
  d_are_amounts : ∃ fd, FunD K "are_amounts" "are_amounts" (defArgs (top 18)) (defBody (top 18)) (defScope (top 18)) [] [] (He.ga K "are_amounts") fd
  g_plus : mg "plus" = some (.ref (He.ga K "plus"))
  d_plus : ∃ fd, FunD K "plus" "plus" (defArgs (top 20)) (defBody (top 20)) (defScope (top 20)) [] [] (He.ga K "plus") fd
  g_is_less : mg "is_less" = some (.ref (He.ga K "is_less"))
  d_is_less : ∃ fd, FunD K "is_less" "is_less" (defArgs (top 21)) (defBody (top 21)) (defScope (top 21)) [] [] (He.ga K "is_less") fd
  g_summed : mg "summed" = some (.ref (He.ga K "summed"))
  d_summed : ∃ fd, FunD K "summed" "summed" (defArgs (top 22)) (defBody (top 22)) (defScope (top 22)) [] [] (He.ga K "summed") fd
  g_are_chances : mg "are_chances" = some (.ref (He.ga K "are_chances"))
  d_are_chances : ∃ fd, FunD K "are_chances" "are_chances" (defArgs (top 19)) (defBody (top 19)) (defScope (top 19)) [] [] (He.ga K "are_chances") fd
  g_is_deed_of : mg "is_deed_of" = some (.ref (He.ga K "is_deed_of"))
  d_is_deed_of : ∃ fd, FunD K "is_deed_of" "is_deed_of" (defArgs (top 26)) (defBody (top 26)) (defScope (top 26)) [] [] (He.ga K "is_deed_of") fd
  g_is_world_by : mg "is_world_by" = some (.ref (He.ga K "is_world_by"))
  d_is_world_by : ∃ fd, FunD K "is_world_by" "is_world_by" (defArgs (top 27)) (defBody (top 27)) (defScope (top 27)) [] [] (He.ga K "is_world_by") fd
  g_check_world : mg "check_world" = some (.ref (He.ga K "check_world"))
  d_check_world : ∃ fd, FunD K "check_world" "check_world" (defArgs (top 28)) (defBody (top 28)) (defScope (top 28)) [] [] (He.ga K "check_world") fd
  g_places_in : mg "places_in" = some (.ref (He.ga K "places_in"))
  d_places_in : ∃ fd, FunD K "places_in" "places_in" (defArgs (top 29)) (defBody (top 29)) (defScope (top 29)) [] [] (He.ga K "places_in") fd
  g_deeds_at : mg "deeds_at" = some (.ref (He.ga K "deeds_at"))
  d_deeds_at : ∃ fd, FunD K "deeds_at" "deeds_at" (defArgs (top 30)) (defBody (top 30)) (defScope (top 30)) [] [] (He.ga K "deeds_at") fd
  g_chances_of : mg "chances_of" = some (.ref (He.ga K "chances_of"))
  d_chances_of : ∃ fd, FunD K "chances_of" "chances_of" (defArgs (top 31)) (defBody (top 31)) (defScope (top 31)) [] [] (He.ga K "chances_of") fd
  g_check_place : mg "check_place" = some (.ref (He.ga K "check_place"))
  d_check_place : ∃ fd, FunD K "check_place" "check_place" (defArgs (top 32)) (defBody (top 32)) (defScope (top 32)) [] [] (He.ga K "check_place") fd
  g_check_deed : mg "check_deed" = some (.ref (He.ga K "check_deed"))
  d_check_deed : ∃ fd, FunD K "check_deed" "check_deed" (defArgs (top 33)) (defBody (top 33)) (defScope (top 33)) [] [] (He.ga K "check_deed") fd
  g_is_draw : mg "is_draw" = some (.ref (He.ga K "is_draw"))
  d_is_draw : ∃ fd, FunD K "is_draw" "is_draw" (defArgs (top 35)) (defBody (top 35)) (defScope (top 35)) [] [] (He.ga K "is_draw") fd
  g_check_draw : mg "check_draw" = some (.ref (He.ga K "check_draw"))
  d_check_draw : ∃ fd, FunD K "check_draw" "check_draw" (defArgs (top 36)) (defBody (top 36)) (defScope (top 36)) [] [] (He.ga K "check_draw") fd
  g_drawn_at : mg "drawn_at" = some (.ref (He.ga K "drawn_at"))
  d_drawn_at : ∃ fd, FunD K "drawn_at" "drawn_at" (defArgs (top 37)) (defBody (top 37)) (defScope (top 37)) [] [] (He.ga K "drawn_at") fd
  g_next_by : mg "next_by" = some (.ref (He.ga K "next_by"))
  d_next_by : ∃ fd, FunD K "next_by" "next_by" (defArgs (top 38)) (defBody (top 38)) (defScope (top 38)) [] [] (He.ga K "next_by") fd
  g_draws_to : mg "draws_to" = some (.ref (He.ga K "draws_to"))
  d_draws_to : ∃ fd, FunD K "draws_to" "draws_to" (defArgs (top 39)) (defBody (top 39)) (defScope (top 39)) [] [] (He.ga K "draws_to") fd
  g__law_hash : mg "_law_hash" = some (.ref (He.ga K "_law_hash"))
  d__law_hash : ∃ fd, FunD K "_law_hash" "_law_hash" (defArgs (top 41)) (defBody (top 41)) (defScope (top 41)) [] [] (He.ga K "_law_hash") fd
  g__law_cell : mg "_law_cell" = some (.ref (He.ga K "_law_cell"))
  d__law_cell : ∃ fd, FunD K "_law_cell" "_law_cell" (defArgs (top 43)) (defBody (top 43)) (defScope (top 43)) [] [] (He.ga K "_law_cell") fd
  g__law_generator : mg "_law_generator" = some (.ref (He.ga K "_law_generator"))
  d__law_generator : ∃ fd, FunD K "_law_generator" "_law_generator" (defArgs (top 44)) (defBody (top 44)) (defScope (top 44)) [] [] (He.ga K "_law_generator") fd
  g__law_exact : mg "_law_exact" = some (.ref (He.ga K "_law_exact"))
  d__law_exact : ∃ fd, FunD K "_law_exact" "_law_exact" (defArgs (top 45)) (defBody (top 45)) (defScope (top 45)) [] [] (He.ga K "_law_exact") fd
  g__law_lowest : mg "_law_lowest" = some (.ref (He.ga K "_law_lowest"))
  d__law_lowest : ∃ fd, FunD K "_law_lowest" "_law_lowest" (defArgs (top 46)) (defBody (top 46)) (defScope (top 46)) [] [] (He.ga K "_law_lowest") fd
  g__law_plus : mg "_law_plus" = some (.ref (He.ga K "_law_plus"))
  d__law_plus : ∃ fd, FunD K "_law_plus" "_law_plus" (defArgs (top 47)) (defBody (top 47)) (defScope (top 47)) [] [] (He.ga K "_law_plus") fd
  g__law_less : mg "_law_less" = some (.ref (He.ga K "_law_less"))
  d__law_less : ∃ fd, FunD K "_law_less" "_law_less" (defArgs (top 48)) (defBody (top 48)) (defScope (top 48)) [] [] (He.ga K "_law_less") fd
  g__law_under : mg "_law_under" = some (.ref (He.ga K "_law_under"))
  d__law_under : ∃ fd, FunD K "_law_under" "_law_under" (defArgs (top 49)) (defBody (top 49)) (defScope (top 49)) [] [] (He.ga K "_law_under") fd
  g__law_caught : mg "_law_caught" = some (.ref (He.ga K "_law_caught"))
  d__law_caught : ∃ fd, FunD K "_law_caught" "_law_caught" (defArgs (top 52)) (defBody (top 52)) (defScope (top 52)) [] [] (He.ga K "_law_caught") fd
  g__law_all_caught : mg "_law_all_caught" = some (.ref (He.ga K "_law_all_caught"))
  d__law_all_caught : ∃ fd, FunD K "_law_all_caught" "_law_all_caught" (defArgs (top 53)) (defBody (top 53)) (defScope (top 53)) [] [] (He.ga K "_law_all_caught") fd
  g__law_bad_worlds : mg "_law_bad_worlds" = some (.ref (He.ga K "_law_bad_worlds"))
  d__law_bad_worlds : ∃ fd, FunD K "_law_bad_worlds" "_law_bad_worlds" (defArgs (top 54)) (defBody (top 54)) (defScope (top 54)) [] [] (He.ga K "_law_bad_worlds") fd
  g__law_spans : mg "_law_spans" = some (.ref (He.ga K "_law_spans"))
  d__law_spans : ∃ fd, FunD K "_law_spans" "_law_spans" (defArgs (top 55)) (defBody (top 55)) (defScope (top 55)) [] [] (He.ga K "_law_spans") fd
  g__law_led_by : mg "_law_led_by" = some (.ref (He.ga K "_law_led_by"))
  d__law_led_by : ∃ fd, FunD K "_law_led_by" "_law_led_by" (defArgs (top 56)) (defBody (top 56)) (defScope (top 56)) [] [] (He.ga K "_law_led_by") fd
  g__law_random : mg "_law_random" = some (.ref (He.ga K "_law_random"))
  d__law_random : ∃ fd, FunD K "_law_random" "_law_random" (defArgs (top 42)) (defBody (top 42)) (defScope (top 42)) [] [] (He.ga K "_law_random") fd
  g__law_chances : mg "_law_chances" = some (.ref (He.ga K "_law_chances"))
  d__law_chances : ∃ fd, FunD K "_law_chances" "_law_chances" (defArgs (top 50)) (defBody (top 50)) (defScope (top 50)) [] [] (He.ga K "_law_chances") fd
  g__law_world : mg "_law_world" = some (.ref (He.ga K "_law_world"))
  d__law_world : ∃ fd, FunD K "_law_world" "_law_world" (defArgs (top 51)) (defBody (top 51)) (defScope (top 51)) [] [] (He.ga K "_law_world") fd
  g__law_deed_right : mg "_law_deed_right" = some (.ref (He.ga K "_law_deed_right"))
  d__law_deed_right : ∃ fd, FunD K "_law_deed_right" "_law_deed_right" (defArgs (top 57)) (defBody (top 57)) (defScope (top 57)) [] [] (He.ga K "_law_deed_right") fd
  g__law_right : mg "_law_right" = some (.ref (He.ga K "_law_right"))
  d__law_right : ∃ fd, FunD K "_law_right" "_law_right" (defArgs (top 58)) (defBody (top 58)) (defScope (top 58)) [] [] (He.ga K "_law_right") fd
  g__law_refusals_right : mg "_law_refusals_right" = some (.ref (He.ga K "_law_refusals_right"))
  d__law_refusals_right : ∃ fd, FunD K "_law_refusals_right" "_law_refusals_right" (defArgs (top 59)) (defBody (top 59)) (defScope (top 59)) [] [] (He.ga K "_law_refusals_right") fd
  g_law : mg "law" = some (.ref (He.ga K "law"))
  d_law : ∃ fd, FunD K "law" "law" (defArgs (top 60)) (defBody (top 60)) (defScope (top 60)) [] [] (He.ga K "law") fd
  f_isinstance : mg "isinstance" = none
  f_len : mg "len" = none
  f_abs : mg "abs" = none
  f_int : mg "int" = none
  f_bool : mg "bool" = none
  f_str : mg "str" = none
  f_tuple : mg "tuple" = none
  f_list : mg "list" = none
  f_sum : mg "sum" = none
  f_all : mg "all" = none
  f_any : mg "any" = none
  f_max : mg "max" = none
  f_range : mg "range" = none
  f_enumerate : mg "enumerate" = none
  f_zip : mg "zip" = none
  f_repr : mg "repr" = none
  c_MOST_PLACES : ∃ t, mg "MOST_PLACES" = some (.int 8 t)
  c_MOST_DEEDS : ∃ t, mg "MOST_DEEDS" = some (.int 4 t)
  x_InvalidWorld : Exn P w K mg base "InvalidWorld"
  x_InvalidLot : Exn P w K mg base "InvalidLot"
  x_InvalidPlan : Exn P w K mg base "InvalidPlan"
  x_InvalidPlace : Exn P w K mg base "InvalidPlace"
  x_InvalidList : Exn P w K mg base "InvalidList"
  x_InvalidNumber : Exn P w K mg base "InvalidNumber"
  x_InvalidText : Exn P w K mg base "InvalidText"
  x_InvalidLine : Exn P w K mg base "InvalidLine"
  x_InvalidDeed : Exn P w K mg base "InvalidDeed"
  x_InvalidDiscount : Exn P w K mg base "InvalidDiscount"
  exf : ExF K okc
  exm : ∀ c ∈ okc, PySem.W.exmOne K (.ref (He.ga K (Str.ofString c))) (.ref (He.ga K "DeedError")) = some true
  g_DeedError : mg "DeedError" = some (.ref (He.ga K "DeedError"))
  sysm : ∃ o, base.get? sysModules = some o
variable {P : Program} {w : World} {K : PySem.W.Frag} {mg : Str → Option Value} {base : Heap}
abbrev s__law_random : Stmt := top 42
abbrev s__law_chances : Stmt := top 50
abbrev s__law_world : Stmt := top 51
abbrev s__law_deed_right : Stmt := top 57
abbrev s__law_right : Stmt := top 58
abbrev s__law_refusals_right : Stmt := top 59
abbrev s_law : Stmt := top 60
/-! ### is_whole -/
abbrev s_is_whole : Stmt := top 13
def b_is_whole : PV.Env → Fl := (sRet (vAnd (mIsi "int" (rdV 0)) (vNot (mIsi "bool" (rdV 0)))))
def m_is_whole : List D → R D := runF 1 b_is_whole
theorem d_is_whole (T : Txt P w K mg base) : Def P w K mg base 1 "is_whole" ["value"] m_is_whole := by
  have sc : FnScope ["value"] ["value"] (defScope s_is_whole) := ⟨rfl, rfl, rfl, by decide +kernel, rfl, by decide +kernel, by decide +kernel⟩
  have nd := sc.nd
  exact mkDef T.g_is_whole (T.d_is_whole) sc (fun _ _ _ _ _ _ us hl => match us, hl with | [_], _ => rfl) fun cdv A outer s H vs Q E hr hsp =>
    fin (m := b_is_whole) (lz (sret (xand (xisi (T.f_isinstance) (T.f_int) (by decide +kernel) (by rfl) (xv 0)) (xone (xnot (xisi (T.f_isinstance) (T.f_bool) (by decide +kernel) (by rfl) (xv 0))))))) hsp (by decide)
/-! ### common_divisor -/
abbrev s_common_divisor : Stmt := top 14
def b_common_divisor : PV.Env → Fl := (sSeq (sPar [] [] (aCons (mCb fAbs (aCons (rdV 0) aNil)) (aCons (mCb fAbs (aCons (rdV 1) aNil)) aNil)) 0 1) (sSeq (sWhile (tst (bin (rdV 1) (cI 0) fGt)) (sPar [1] [] (aCons (rdV 1) (aCons (bin (rdV 0) (rdV 1) fMod) aNil)) 0 1)) (sRet (mvV 0))))
def m_common_divisor : List D → R D := runF 2 b_common_divisor
theorem d_common_divisor (T : Txt P w K mg base) : Def P w K mg base 1 "common_divisor" ["one", "other"] m_common_divisor := by
  have sc : FnScope ["one", "other"] ["one", "other"] (defScope s_common_divisor) := ⟨rfl, rfl, rfl, by decide +kernel, rfl, by decide +kernel, by decide +kernel⟩
  have nd := sc.nd
  exact mkDef T.g_common_divisor (T.d_common_divisor) sc (fun _ _ _ _ _ _ us hl => match us, hl with | [_, _], _ => rfl) fun cdv A outer s H vs Q E hr hsp =>
    fin (m := b_common_divisor) (l1 (spar (i := 0) (j := 1) rfl nd (a1 (xabs (T.f_abs) (a1 (xv 0) a0)) (a1 (xabs (T.f_abs) (a1 (xv 1) a0)) a0))) (l1 (swhile ownE (tgt (xv 1) xi) (lz (spar (i := 0) (j := 1) rfl nd (a1 (xv 1) (a1 (xmod (xv 0) (xv 1)) a0))))) (lz (sret (xm 0))))) hsp (by decide)
/-! ### lowest -/
abbrev s_lowest : Stmt := top 15
def b_lowest : PV.Env → Fl := (sSeq (sIf (tst (bin (rdV 1) (cI 0) fLt)) (sPar [] [] (aCons (mNeg (rdV 0)) (aCons (mNeg (rdV 1)) aNil)) 0 1) sNil) (sSeq (sAsg [0, 1] [] (mCall m_common_divisor (aCons (rdV 0) (aCons (rdV 1) aNil))) (bName 2)) (sRet (mTup (aCons (bin (rdV 0) (rdV 2) fDiv) (aCons (bin (rdV 1) (rdV 2) fDiv) aNil))))))
def m_lowest : List D → R D := runF 3 b_lowest
theorem d_lowest (T : Txt P w K mg base) (h_common_divisor : Def P w K mg base 1 "common_divisor" ["one", "other"] m_common_divisor) : Def P w K mg base 2 "lowest" ["top", "under"] m_lowest := by
  have sc : FnScope ["top", "under", "common"] ["top", "under"] (defScope s_lowest) := ⟨rfl, rfl, rfl, by decide +kernel, rfl, by decide +kernel, by decide +kernel⟩
  have nd := sc.nd
  exact mkDef T.g_lowest (T.d_lowest) sc (fun _ _ _ _ _ _ us hl => match us, hl with | [_, _], _ => rfl) fun cdv A outer s H vs Q E hr hsp =>
    fin (m := b_lowest) (l1 (sif (tlt (xv 1) xi) (lz (spar (i := 0) (j := 1) rfl nd (a1 (xneg (xv 0)) (a1 (xneg (xv 1)) a0)))) l0) (l1 (sset 2 nd (xcall h_common_divisor hr (by decide) passE (a1 (xv 0) (a1 (xv 1) a0)))) (lz (sret (xtup (a1 (xdiv (xv 0) (xv 2)) (a1 (xdiv (xv 1) (xv 2)) a0))))))) hsp (by decide)
/-! ### is_fraction -/
abbrev s_is_fraction : Stmt := top 16
def b_is_fraction : PV.Env → Fl := (sSeq (sIf (mOr (mNot (tst (mIsi "tuple" (rdV 0)))) (mOr (tst (bin (mCb fLen (aCons (rdV 0) aNil)) (cI 2) fNe)) (mOr (mNot (tst (mCall m_is_whole (aCons (bin (rdV 0) (cI 0) fIx) aNil)))) (mNot (tst (mCall m_is_whole (aCons (bin (rdV 0) (cI 1) fIx) aNil))))))) (sRet (cB false)) sNil) (sRet (vAnd (bin (bin (rdV 0) (cI 1) fIx) (cI 0) fGt) (bin (mCall m_common_divisor (aCons (bin (rdV 0) (cI 0) fIx) (aCons (bin (rdV 0) (cI 1) fIx) aNil))) (cI 1) fEq))))
def m_is_fraction : List D → R D := runF 1 b_is_fraction
theorem d_is_fraction (T : Txt P w K mg base) (h_is_whole : Def P w K mg base 1 "is_whole" ["value"] m_is_whole) (h_common_divisor : Def P w K mg base 1 "common_divisor" ["one", "other"] m_common_divisor) : Def P w K mg base 2 "is_fraction" ["value"] m_is_fraction := by
  have sc : FnScope ["value"] ["value"] (defScope s_is_fraction) := ⟨rfl, rfl, rfl, by decide +kernel, rfl, by decide +kernel, by decide +kernel⟩
  have nd := sc.nd
  exact mkDef T.g_is_fraction (T.d_is_fraction) sc (fun _ _ _ _ _ _ us hl => match us, hl with | [_], _ => rfl) fun cdv A outer s H vs Q E hr hsp =>
    fin (m := b_is_fraction) (l1 (sif (tbx (tor (tnot (tx (xisi (T.f_isinstance) (T.f_tuple) (by decide +kernel) (by rfl) (xv 0)))) (tor (tne hr (xlen (T.f_len) (a1 (xv 0) a0)) xi) (tor (tnot (tx (xcall h_is_whole hr (by decide) passE (a1 (xix (xv 0) xi) a0)))) (tor1 (tnot (tx (xcall h_is_whole hr (by decide) passE (a1 (xix (xv 0) xi) a0))))))))) (lz (sret xb)) l0) (lz (sret (xand (xgt (xix (xv 0) xi) xi) (xone (xeq hr (xcall h_common_divisor hr (by decide) passE (a1 (xix (xv 0) xi) (a1 (xix (xv 0) xi) a0))) xi)))))) hsp (by decide)
/-! ### is_amount -/
abbrev s_is_amount : Stmt := top 17
def b_is_amount : PV.Env → Fl := (sRet (vAnd (mCall m_is_fraction (aCons (rdV 0) aNil)) (bin (bin (rdV 0) (cI 0) fIx) (cI 0) fGe)))
def m_is_amount : List D → R D := runF 1 b_is_amount
theorem d_is_amount (T : Txt P w K mg base) (h_is_fraction : Def P w K mg base 2 "is_fraction" ["value"] m_is_fraction) : Def P w K mg base 3 "is_amount" ["value"] m_is_amount := by
  have sc : FnScope ["value"] ["value"] (defScope s_is_amount) := ⟨rfl, rfl, rfl, by decide +kernel, rfl, by decide +kernel, by decide +kernel⟩
  have nd := sc.nd
  exact mkDef T.g_is_amount (T.d_is_amount) sc (fun _ _ _ _ _ _ us hl => match us, hl with | [_], _ => rfl) fun cdv A outer s H vs Q E hr hsp =>
    fin (m := b_is_amount) (lz (sret (xand (xcall h_is_fraction hr (by decide) passE (a1 (xv 0) a0)) (xone (xge (xix (xv 0) xi) xi))))) hsp (by decide)
/-! ### are_amounts -/
abbrev s_are_amounts : Stmt := top 18
def b_are_amounts : PV.Env → Fl := (sRet (vAnd (mIsi "list" (rdV 0)) (vAnd (bin (mCb fLen (aCons (rdV 0) aNil)) (rdV 1) fEq) (mCb fAll (aCons (mLc [0] [2] (iLst (rdV 0)) (bName 2) tYes' (mCall m_is_amount (aCons (rdV 2) aNil))) aNil)))))
def m_are_amounts : List D → R D := runF 3 b_are_amounts
theorem d_are_amounts (T : Txt P w K mg base) (h_is_amount : Def P w K mg base 3 "is_amount" ["value"] m_is_amount) : Def P w K mg base 4 "are_amounts" ["value", "many"] m_are_amounts := by
  have sc : FnScope ["value", "many", "one"] ["value", "many"] (defScope s_are_amounts) := ⟨rfl, rfl, rfl, by decide +kernel, rfl, by decide +kernel, by decide +kernel⟩
  have nd := sc.nd
  exact mkDef T.g_are_amounts (T.d_are_amounts) sc (fun _ _ _ _ _ _ us hl => match us, hl with | [_, _], _ => rfl) fun cdv A outer s H vs Q E hr hsp =>
    fin (m := b_are_amounts) (lz (sret (xand (xisi (T.f_isinstance) (T.f_list) (by decide +kernel) (by rfl) (xv 0)) (xand (xeq hr (xlen (T.f_len) (a1 (xv 0) a0)) (xv 1)) (xone (xall (T.f_all) rfl (a1 (xlc [("one", 2)] rfl nd (ilst (xv 0)) (by rfl) (by intro _ _ _ _ _; exact (gn 2 nd)) (by intro _ _ _ _ _; exact f0) (by intro _ _ _ _ _; exact (xcall h_is_amount hr (by decide) passB (a1 (xv 2) a0)))) a0))))))) hsp (by decide)
/-! ### plus -/
abbrev s_plus : Stmt := top 20
def b_plus : PV.Env → Fl := (sRet (mCall m_lowest (aCons (bin (bin (bin (rdV 0) (cI 0) fIx) (bin (rdV 1) (cI 1) fIx) fMul) (bin (bin (rdV 1) (cI 0) fIx) (bin (rdV 0) (cI 1) fIx) fMul) fAdd) (aCons (bin (bin (rdV 0) (cI 1) fIx) (bin (rdV 1) (cI 1) fIx) fMul) aNil))))
def m_plus : List D → R D := runF 2 b_plus
theorem d_plus (T : Txt P w K mg base) (h_lowest : Def P w K mg base 2 "lowest" ["top", "under"] m_lowest) : Def P w K mg base 3 "plus" ["one", "other"] m_plus := by
  have sc : FnScope ["one", "other"] ["one", "other"] (defScope s_plus) := ⟨rfl, rfl, rfl, by decide +kernel, rfl, by decide +kernel, by decide +kernel⟩
  have nd := sc.nd
  exact mkDef T.g_plus (T.d_plus) sc (fun _ _ _ _ _ _ us hl => match us, hl with | [_, _], _ => rfl) fun cdv A outer s H vs Q E hr hsp =>
    fin (m := b_plus) (lz (sret (xcall h_lowest hr (by decide) passE (a1 (xaddI (xmul (xix (xv 0) xi) (xix (xv 1) xi)) (xmul (xix (xv 1) xi) (xix (xv 0) xi))) (a1 (xmul (xix (xv 0) xi) (xix (xv 1) xi)) a0))))) hsp (by decide)
/-! ### is_less -/
abbrev s_is_less : Stmt := top 21
def b_is_less : PV.Env → Fl := (sRet (bin (bin (bin (rdV 0) (cI 0) fIx) (bin (rdV 1) (cI 1) fIx) fMul) (bin (bin (rdV 1) (cI 0) fIx) (bin (rdV 0) (cI 1) fIx) fMul) fLt))
def m_is_less : List D → R D := runF 2 b_is_less
theorem d_is_less (T : Txt P w K mg base) : Def P w K mg base 1 "is_less" ["one", "other"] m_is_less := by
  have sc : FnScope ["one", "other"] ["one", "other"] (defScope s_is_less) := ⟨rfl, rfl, rfl, by decide +kernel, rfl, by decide +kernel, by decide +kernel⟩
  have nd := sc.nd
  exact mkDef T.g_is_less (T.d_is_less) sc (fun _ _ _ _ _ _ us hl => match us, hl with | [_, _], _ => rfl) fun cdv A outer s H vs Q E hr hsp =>
    fin (m := b_is_less) (lz (sret (xlt (xmul (xix (xv 0) xi) (xix (xv 1) xi)) (xmul (xix (xv 1) xi) (xix (xv 0) xi))))) hsp (by decide)
/-! ### summed -/
abbrev s_summed : Stmt := top 22
def b_summed : PV.Env → Fl := (sSeq (sAsg [] [] (mTup (aCons (cI 0) (aCons (cI 1) aNil))) (bName 1)) (sSeq (sFor [0] (iLst (rdV 0)) (bName 2) (sAsg [1, 2] [] (mCall m_plus (aCons (rdV 1) (aCons (rdV 2) aNil))) (bName 1))) (sRet (mvV 1))))
def m_summed : List D → R D := runF 3 b_summed
theorem d_summed (T : Txt P w K mg base) (h_plus : Def P w K mg base 3 "plus" ["one", "other"] m_plus) : Def P w K mg base 4 "summed" ["some"] m_summed := by
  have sc : FnScope ["some", "found", "one"] ["some"] (defScope s_summed) := ⟨rfl, rfl, rfl, by decide +kernel, rfl, by decide +kernel, by decide +kernel⟩
  have nd := sc.nd
  exact mkDef T.g_summed (T.d_summed) sc (fun _ _ _ _ _ _ us hl => match us, hl with | [_], _ => rfl) fun cdv A outer s H vs Q E hr hsp =>
    fin (m := b_summed) (l1 (sset 1 nd (xtup (a1 xi (a1 xi a0)))) (l1 (sfor ownE rfl (ilst (xv 0)) (gn 2 nd) (lz (sset 1 nd (xcall h_plus hr (by decide) passE (a1 (xv 1) (a1 (xv 2) a0)))))) (lz (sret (xm 1))))) hsp (by decide)
/-! ### are_chances -/
abbrev s_are_chances : Stmt := top 19
def b_are_chances : PV.Env → Fl := (sRet (vAnd (mCall m_are_amounts (aCons (rdV 0) (aCons (rdV 1) aNil))) (bin (mCall m_summed (aCons (rdV 0) aNil)) (mTup (aCons (cI 1) (aCons (cI 1) aNil))) fEq)))
def m_are_chances : List D → R D := runF 2 b_are_chances
theorem d_are_chances (T : Txt P w K mg base) (h_are_amounts : Def P w K mg base 4 "are_amounts" ["value", "many"] m_are_amounts) (h_summed : Def P w K mg base 4 "summed" ["some"] m_summed) : Def P w K mg base 5 "are_chances" ["value", "many"] m_are_chances := by
  have sc : FnScope ["value", "many"] ["value", "many"] (defScope s_are_chances) := ⟨rfl, rfl, rfl, by decide +kernel, rfl, by decide +kernel, by decide +kernel⟩
  have nd := sc.nd
  exact mkDef T.g_are_chances (T.d_are_chances) sc (fun _ _ _ _ _ _ us hl => match us, hl with | [_, _], _ => rfl) fun cdv A outer s H vs Q E hr hsp =>
    fin (m := b_are_chances) (lz (sret (xand (xcall h_are_amounts hr (by decide) passE (a1 (xv 0) (a1 (xv 1) a0))) (xone (xeq hr (xcall h_summed hr (by decide) passE (a1 (xv 0) a0)) (xtup (a1 xi (a1 xi a0)))))))) hsp (by decide)
/-! ### is_deed_of -/
abbrev s_is_deed_of : Stmt := top 26
def b_is_deed_of : PV.Env → Fl := (sSeq (sIf (mOr (mNot (tst (mIsi "tuple" (rdV 0)))) (mOr (tst (bin (mCb fLen (aCons (rdV 0) aNil)) (cI 2) fNe)) (mNot (tst (mCall m_is_fraction (aCons (bin (rdV 0) (cI 0) fIx) aNil)))))) (sRet (cB false)) sNil) (sRet (mCall m_are_chances (aCons (bin (rdV 0) (cI 1) fIx) (aCons (rdV 1) aNil)))))
def m_is_deed_of : List D → R D := runF 2 b_is_deed_of
theorem d_is_deed_of (T : Txt P w K mg base) (h_is_fraction : Def P w K mg base 2 "is_fraction" ["value"] m_is_fraction) (h_are_chances : Def P w K mg base 5 "are_chances" ["value", "many"] m_are_chances) : Def P w K mg base 6 "is_deed_of" ["value", "many"] m_is_deed_of := by
  have sc : FnScope ["value", "many"] ["value", "many"] (defScope s_is_deed_of) := ⟨rfl, rfl, rfl, by decide +kernel, rfl, by decide +kernel, by decide +kernel⟩
  have nd := sc.nd
  exact mkDef T.g_is_deed_of (T.d_is_deed_of) sc (fun _ _ _ _ _ _ us hl => match us, hl with | [_, _], _ => rfl) fun cdv A outer s H vs Q E hr hsp =>
    fin (m := b_is_deed_of) (l1 (sif (tbx (tor (tnot (tx (xisi (T.f_isinstance) (T.f_tuple) (by decide +kernel) (by rfl) (xv 0)))) (tor (tne hr (xlen (T.f_len) (a1 (xv 0) a0)) xi) (tor1 (tnot (tx (xcall h_is_fraction hr (by decide) passE (a1 (xix (xv 0) xi) a0)))))))) (lz (sret xb)) l0) (lz (sret (xcall h_are_chances hr (by decide) passE (a1 (xix (xv 0) xi) (a1 (xv 1) a0)))))) hsp (by decide)
/-! ### is_world_by -/
abbrev s_is_world_by : Stmt := top 27
def b_is_world_by : PV.Env → Fl := (sSeq (sIf (mOr (mNot (tst (mIsi "tuple" (rdV 0)))) (mOr (tst (bin (mCb fLen (aCons (rdV 0) aNil)) (cI 2) fNe)) (mOr (mNot (tst (mIsi "str" (bin (rdV 0) (cI 0) fIx)))) (tst (bin (bin (rdV 0) (cI 0) fIx) (cS "world") fNe))))) (sRet (cB false)) sNil) (sSeq (sAsg [0] [] (bin (rdV 0) (cI 1) fIx) (bName 1)) (sSeq (sIf (mOr (mNot (tst (mIsi "list" (rdV 1)))) (mNot (tst (chn (cI 1) (mCb fLen (aCons (rdV 1) aNil)) (cI 8) fLe fLe)))) (sRet (cB false)) sNil) (sSeq (sIf (mNot (tst (mCb fAll (aCons (mLc [1] [2] (iLst (rdV 1)) (bName 2) tYes' (vAnd (mIsi "list" (rdV 2)) (chn (cI 1) (mCb fLen (aCons (rdV 2) aNil)) (cI 4) fLe fLe))) aNil)))) (sRet (cB false)) sNil) (sRet (mCb fAll (aCons (mLc [1] [2] (iLst (rdV 1)) (bName 2) tYes' (mCb fAll (aCons (mLc [2] [3] (iLst (rdV 2)) (bName 3) tYes' (mCall m_is_deed_of (aCons (rdV 3) (aCons (mCb fLen (aCons (rdV 1) aNil)) aNil)))) aNil))) aNil)))))))
def m_is_world_by : List D → R D := runF 4 b_is_world_by
theorem d_is_world_by (T : Txt P w K mg base) (h_is_deed_of : Def P w K mg base 6 "is_deed_of" ["value", "many"] m_is_deed_of) : Def P w K mg base 7 "is_world_by" ["value"] m_is_world_by := by
  have sc : FnScope ["value", "places", "deeds", "deed"] ["value"] (defScope s_is_world_by) := ⟨rfl, rfl, rfl, by decide +kernel, rfl, by decide +kernel, by decide +kernel⟩
  have nd := sc.nd
  exact mkDef T.g_is_world_by (T.d_is_world_by) sc (fun _ _ _ _ _ _ us hl => match us, hl with | [_], _ => rfl) fun cdv A outer s H vs Q E hr hsp =>
    fin (m := b_is_world_by) (l1 (sif (tbx (tor (tnot (tx (xisi (T.f_isinstance) (T.f_tuple) (by decide +kernel) (by rfl) (xv 0)))) (tor (tne hr (xlen (T.f_len) (a1 (xv 0) a0)) xi) (tor (tnot (tx (xisi (T.f_isinstance) (T.f_str) (by decide +kernel) (by rfl) (xix (xv 0) xi)))) (tor1 (tne hr (xix (xv 0) xi) xs)))))) (lz (sret xb)) l0) (l1 (sset 1 nd (xix (xv 0) xi)) (l1 (sif (tbx (tor (tnot (tx (xisi (T.f_isinstance) (T.f_list) (by decide +kernel) (by rfl) (xv 1)))) (tor1 (tnot (tlele xi (xlen (T.f_len) (a1 (xv 1) a0)) (xgi (T.c_MOST_PLACES))))))) (lz (sret xb)) l0) (l1 (sif (tnot (tx (xall (T.f_all) rfl (a1 (xlc [("deeds", 2)] rfl nd (ilst (xv 1)) (by rfl) (by intro _ _ _ _ _; exact (gn 2 nd)) (by intro _ _ _ _ _; exact f0) (by intro _ _ _ _ _; exact (xand (xisi (T.f_isinstance) (T.f_list) (by decide +kernel) (by rfl) (xv 2)) (xone (xlele xi (xlen (T.f_len) (a1 (xv 2) a0)) (xgi (T.c_MOST_DEEDS))))))) a0)))) (lz (sret xb)) l0) (lz (sret (xall (T.f_all) rfl (a1 (xlc [("deeds", 2)] rfl nd (ilst (xv 1)) (by rfl) (by intro _ _ _ _ _; exact (gn 2 nd)) (by intro _ _ _ _ _; exact f0) (by intro _ _ _ _ _; exact (xall (T.f_all) rfl (a1 (xlc [("deed", 3)] rfl nd (ilst (xv 2)) (by rfl) (by intro _ _ _ _ _; exact (gn 3 nd)) (by intro _ _ _ _ _; exact f0) (by intro _ _ _ _ _; exact (xcall h_is_deed_of hr (by decide) passB (a1 (xv 3) (a1 (xlen (T.f_len) (a1 (xv 1) a0)) a0))))) a0)))) a0)))))))) hsp (by decide)
/-! ### check_world -/
abbrev s_check_world : Stmt := top 28
def b_check_world : PV.Env → Fl := (sIf (mNot (tst (mCall m_is_world_by (aCons (rdV 0) aNil)))) (sRaise "InvalidWorld" (aCons (rdV 0) aNil)) sNil)
def m_check_world : List D → R D := runF 1 b_check_world
theorem d_check_world (T : Txt P w K mg base) (h_is_world_by : Def P w K mg base 7 "is_world_by" ["value"] m_is_world_by) : Def P w K mg base 8 "check_world" ["world"] m_check_world := by
  have sc : FnScope ["world"] ["world"] (defScope s_check_world) := ⟨rfl, rfl, rfl, by decide +kernel, rfl, by decide +kernel, by decide +kernel⟩
  have nd := sc.nd
  exact mkDef T.g_check_world (T.d_check_world) sc (fun _ _ _ _ _ _ us hl => match us, hl with | [_], _ => rfl) fun cdv A outer s H vs Q E hr hsp =>
    fin (m := b_check_world) (lz (sif (tnot (tx (xcall h_is_world_by hr (by decide) passE (a1 (xv 0) a0)))) (lz (sraise T.x_InvalidWorld hr (by decide) rfl tkE passF (a1 (xv 0) a0))) l0)) hsp (by decide)
/-! ### places_in -/
abbrev s_places_in : Stmt := top 29
def b_places_in : PV.Env → Fl := (sRet (mCb fLen (aCons (bin (rdV 0) (cI 1) fIx) aNil)))
def m_places_in : List D → R D := runF 1 b_places_in
theorem d_places_in (T : Txt P w K mg base) : Def P w K mg base 1 "places_in" ["world"] m_places_in := by
  have sc : FnScope ["world"] ["world"] (defScope s_places_in) := ⟨rfl, rfl, rfl, by decide +kernel, rfl, by decide +kernel, by decide +kernel⟩
  have nd := sc.nd
  exact mkDef T.g_places_in (T.d_places_in) sc (fun _ _ _ _ _ _ us hl => match us, hl with | [_], _ => rfl) fun cdv A outer s H vs Q E hr hsp =>
    fin (m := b_places_in) (lz (sret (xlen (T.f_len) (a1 (xix (xv 0) xi) a0)))) hsp (by decide)
/-! ### deeds_at -/
abbrev s_deeds_at : Stmt := top 30
def b_deeds_at : PV.Env → Fl := (sRet (mCb fLen (aCons (bin (bin (rdV 0) (cI 1) fIx) (rdV 1) fIx) aNil)))
def m_deeds_at : List D → R D := runF 2 b_deeds_at
theorem d_deeds_at (T : Txt P w K mg base) : Def P w K mg base 1 "deeds_at" ["world", "place"] m_deeds_at := by
  have sc : FnScope ["world", "place"] ["world", "place"] (defScope s_deeds_at) := ⟨rfl, rfl, rfl, by decide +kernel, rfl, by decide +kernel, by decide +kernel⟩
  have nd := sc.nd
  exact mkDef T.g_deeds_at (T.d_deeds_at) sc (fun _ _ _ _ _ _ us hl => match us, hl with | [_, _], _ => rfl) fun cdv A outer s H vs Q E hr hsp =>
    fin (m := b_deeds_at) (lz (sret (xlen (T.f_len) (a1 (xix (xix (xv 0) xi) (xv 1)) a0)))) hsp (by decide)
/-! ### chances_of -/
abbrev s_chances_of : Stmt := top 31
def b_chances_of : PV.Env → Fl := (sRet (bin (bin (bin (bin (rdV 0) (cI 1) fIx) (rdV 1) fIx) (rdV 2) fIx) (cI 1) fIx))
def m_chances_of : List D → R D := runF 3 b_chances_of
theorem d_chances_of (T : Txt P w K mg base) : Def P w K mg base 1 "chances_of" ["world", "place", "deed"] m_chances_of := by
  have sc : FnScope ["world", "place", "deed"] ["world", "place", "deed"] (defScope s_chances_of) := ⟨rfl, rfl, rfl, by decide +kernel, rfl, by decide +kernel, by decide +kernel⟩
  have nd := sc.nd
  exact mkDef T.g_chances_of (T.d_chances_of) sc (fun _ _ _ _ _ _ us hl => match us, hl with | [_, _, _], _ => rfl) fun cdv A outer s H vs Q E hr hsp =>
    fin (m := b_chances_of) (lz (sret (xix (xix (xix (xix (xv 0) xi) (xv 1)) (xv 2)) xi))) hsp (by decide)
/-! ### check_place -/
abbrev s_check_place : Stmt := top 32
def b_check_place : PV.Env → Fl := (sIf (mOr (mNot (tst (mCall m_is_whole (aCons (rdV 1) aNil)))) (mNot (tst (chn (cI 0) (rdV 1) (mCall m_places_in (aCons (rdV 0) aNil)) fLe fLt)))) (sRaise "InvalidPlace" (aCons (rdV 1) aNil)) sNil)
def m_check_place : List D → R D := runF 2 b_check_place
theorem d_check_place (T : Txt P w K mg base) (h_is_whole : Def P w K mg base 1 "is_whole" ["value"] m_is_whole) (h_places_in : Def P w K mg base 1 "places_in" ["world"] m_places_in) : Def P w K mg base 3 "check_place" ["world", "place"] m_check_place := by
  have sc : FnScope ["world", "place"] ["world", "place"] (defScope s_check_place) := ⟨rfl, rfl, rfl, by decide +kernel, rfl, by decide +kernel, by decide +kernel⟩
  have nd := sc.nd
  exact mkDef T.g_check_place (T.d_check_place) sc (fun _ _ _ _ _ _ us hl => match us, hl with | [_, _], _ => rfl) fun cdv A outer s H vs Q E hr hsp =>
    fin (m := b_check_place) (lz (sif (tbx (tor (tnot (tx (xcall h_is_whole hr (by decide) passE (a1 (xv 1) a0)))) (tor1 (tnot (tlelt xi (xv 1) (xcall h_places_in hr (by decide) passE (a1 (xv 0) a0))))))) (lz (sraise T.x_InvalidPlace hr (by decide) rfl tkE passF (a1 (xv 1) a0))) l0)) hsp (by decide)
/-! ### check_deed -/
abbrev s_check_deed : Stmt := top 33
def b_check_deed : PV.Env → Fl := (sIf (mOr (mNot (tst (mCall m_is_whole (aCons (rdV 2) aNil)))) (mNot (tst (chn (cI 0) (rdV 2) (mCall m_deeds_at (aCons (rdV 0) (aCons (rdV 1) aNil))) fLe fLt)))) (sRaise "InvalidDeed" (aCons (rdV 2) aNil)) sNil)
def m_check_deed : List D → R D := runF 3 b_check_deed
theorem d_check_deed (T : Txt P w K mg base) (h_is_whole : Def P w K mg base 1 "is_whole" ["value"] m_is_whole) (h_deeds_at : Def P w K mg base 1 "deeds_at" ["world", "place"] m_deeds_at) : Def P w K mg base 3 "check_deed" ["world", "place", "deed"] m_check_deed := by
  have sc : FnScope ["world", "place", "deed"] ["world", "place", "deed"] (defScope s_check_deed) := ⟨rfl, rfl, rfl, by decide +kernel, rfl, by decide +kernel, by decide +kernel⟩
  have nd := sc.nd
  exact mkDef T.g_check_deed (T.d_check_deed) sc (fun _ _ _ _ _ _ us hl => match us, hl with | [_, _, _], _ => rfl) fun cdv A outer s H vs Q E hr hsp =>
    fin (m := b_check_deed) (lz (sif (tbx (tor (tnot (tx (xcall h_is_whole hr (by decide) passE (a1 (xv 2) a0)))) (tor1 (tnot (tlelt xi (xv 2) (xcall h_deeds_at hr (by decide) passE (a1 (xv 0) (a1 (xv 1) a0)))))))) (lz (sraise T.x_InvalidDeed hr (by decide) rfl tkE passF (a1 (xv 2) a0))) l0)) hsp (by decide)
/-! ### is_draw -/
abbrev s_is_draw : Stmt := top 35
def b_is_draw : PV.Env → Fl := (sRet (vAnd (mCall m_is_fraction (aCons (rdV 0) aNil)) (chn (cI 0) (bin (rdV 0) (cI 0) fIx) (bin (rdV 0) (cI 1) fIx) fLe fLt)))
def m_is_draw : List D → R D := runF 1 b_is_draw
theorem d_is_draw (T : Txt P w K mg base) (h_is_fraction : Def P w K mg base 2 "is_fraction" ["value"] m_is_fraction) : Def P w K mg base 3 "is_draw" ["value"] m_is_draw := by
  have sc : FnScope ["value"] ["value"] (defScope s_is_draw) := ⟨rfl, rfl, rfl, by decide +kernel, rfl, by decide +kernel, by decide +kernel⟩
  have nd := sc.nd
  exact mkDef T.g_is_draw (T.d_is_draw) sc (fun _ _ _ _ _ _ us hl => match us, hl with | [_], _ => rfl) fun cdv A outer s H vs Q E hr hsp =>
    fin (m := b_is_draw) (lz (sret (xand (xcall h_is_fraction hr (by decide) passE (a1 (xv 0) a0)) (xone (xlelt xi (xix (xv 0) xi) (xix (xv 0) xi)))))) hsp (by decide)
/-! ### check_draw -/
abbrev s_check_draw : Stmt := top 36
def b_check_draw : PV.Env → Fl := (sIf (mNot (tst (mCall m_is_draw (aCons (rdV 0) aNil)))) (sRaise "InvalidNumber" (aCons (rdV 0) aNil)) sNil)
def m_check_draw : List D → R D := runF 1 b_check_draw
theorem d_check_draw (T : Txt P w K mg base) (h_is_draw : Def P w K mg base 3 "is_draw" ["value"] m_is_draw) : Def P w K mg base 4 "check_draw" ["draw"] m_check_draw := by
  have sc : FnScope ["draw"] ["draw"] (defScope s_check_draw) := ⟨rfl, rfl, rfl, by decide +kernel, rfl, by decide +kernel, by decide +kernel⟩
  have nd := sc.nd
  exact mkDef T.g_check_draw (T.d_check_draw) sc (fun _ _ _ _ _ _ us hl => match us, hl with | [_], _ => rfl) fun cdv A outer s H vs Q E hr hsp =>
    fin (m := b_check_draw) (lz (sif (tnot (tx (xcall h_is_draw hr (by decide) passE (a1 (xv 0) a0)))) (lz (sraise T.x_InvalidNumber hr (by decide) rfl tkE passF (a1 (xv 0) a0))) l0)) hsp (by decide)
/-! ### drawn_at -/
abbrev s_drawn_at : Stmt := top 37
def b_drawn_at : PV.Env → Fl := (sSeq (sAsg [] [] (mTup (aCons (cI 0) (aCons (cI 1) aNil))) (bName 2)) (sSeq (sFor [0] (iEn (rdV 0)) (bTup (bCons (bName 3) (bCons (bName 4) bNil)) 2) (sSeq (sAsg [2, 4] [] (mCall m_plus (aCons (rdV 2) (aCons (rdV 4) aNil))) (bName 2)) (sIf (tst (mCall m_is_less (aCons (rdV 1) (aCons (rdV 2) aNil)))) (sRet (mvV 3)) sNil))) (sRet (bin (mCb fLen (aCons (rdV 0) aNil)) (cI 1) fSub))))
def m_drawn_at : List D → R D := runF 5 b_drawn_at
theorem d_drawn_at (T : Txt P w K mg base) (h_plus : Def P w K mg base 3 "plus" ["one", "other"] m_plus) (h_is_less : Def P w K mg base 1 "is_less" ["one", "other"] m_is_less) : Def P w K mg base 4 "drawn_at" ["chances", "draw"] m_drawn_at := by
  have sc : FnScope ["chances", "draw", "here", "number", "chance"] ["chances", "draw"] (defScope s_drawn_at) := ⟨rfl, rfl, rfl, by decide +kernel, rfl, by decide +kernel, by decide +kernel⟩
  have nd := sc.nd
  exact mkDef T.g_drawn_at (T.d_drawn_at) sc (fun _ _ _ _ _ _ us hl => match us, hl with | [_, _], _ => rfl) fun cdv A outer s H vs Q E hr hsp =>
    fin (m := b_drawn_at) (l1 (sset 2 nd (xtup (a1 xi (a1 xi a0)))) (l1 (sfor ownE rfl (ienum (T.f_enumerate) (xv 0)) (gt rfl (h1 (gn 3 nd) (h1 (gn 4 nd) h0))) (l1 (sset 2 nd (xcall h_plus hr (by decide) passE (a1 (xv 2) (a1 (xv 4) a0)))) (lz (sif (tx (xcall h_is_less hr (by decide) passE (a1 (xv 1) (a1 (xv 2) a0)))) (lz (sret (xm 3))) l0)))) (lz (sret (xsub (xlen (T.f_len) (a1 (xv 0) a0)) xi))))) hsp (by decide)
/-! ### next_by -/
abbrev s_next_by : Stmt := top 38
def b_next_by : PV.Env → Fl := (sSeq (sDrop [0] [] (mCall m_check_world (aCons (rdV 0) aNil))) (sSeq (sDrop [0, 1] [] (mCall m_check_place (aCons (rdV 0) (aCons (rdV 1) aNil)))) (sSeq (sDrop [0, 1, 2] [] (mCall m_check_deed (aCons (rdV 0) (aCons (rdV 1) (aCons (rdV 2) aNil))))) (sSeq (sDrop [3] [] (mCall m_check_draw (aCons (rdV 3) aNil))) (sRet (mCall m_drawn_at (aCons (mCall m_chances_of (aCons (rdV 0) (aCons (rdV 1) (aCons (rdV 2) aNil)))) (aCons (rdV 3) aNil))))))))
def m_next_by : List D → R D := runF 4 b_next_by
theorem d_next_by (T : Txt P w K mg base) (h_check_world : Def P w K mg base 8 "check_world" ["world"] m_check_world) (h_check_place : Def P w K mg base 3 "check_place" ["world", "place"] m_check_place) (h_check_deed : Def P w K mg base 3 "check_deed" ["world", "place", "deed"] m_check_deed) (h_check_draw : Def P w K mg base 4 "check_draw" ["draw"] m_check_draw) (h_chances_of : Def P w K mg base 1 "chances_of" ["world", "place", "deed"] m_chances_of) (h_drawn_at : Def P w K mg base 4 "drawn_at" ["chances", "draw"] m_drawn_at) : Def P w K mg base 9 "next_by" ["world", "place", "deed", "draw"] m_next_by := by
  have sc : FnScope ["world", "place", "deed", "draw"] ["world", "place", "deed", "draw"] (defScope s_next_by) := ⟨rfl, rfl, rfl, by decide +kernel, rfl, by decide +kernel, by decide +kernel⟩
  have nd := sc.nd
  exact mkDef T.g_next_by (T.d_next_by) sc (fun _ _ _ _ _ _ us hl => match us, hl with | [_, _, _, _], _ => rfl) fun cdv A outer s H vs Q E hr hsp =>
    fin (m := b_next_by) (l1 (sexp (xcall h_check_world hr (by decide) passE (a1 (xv 0) a0))) (l1 (sexp (xcall h_check_place hr (by decide) passE (a1 (xv 0) (a1 (xv 1) a0)))) (l1 (sexp (xcall h_check_deed hr (by decide) passE (a1 (xv 0) (a1 (xv 1) (a1 (xv 2) a0))))) (l1 (sexp (xcall h_check_draw hr (by decide) passE (a1 (xv 3) a0))) (lz (sret (xcall h_drawn_at hr (by decide) passE (a1 (xcall h_chances_of hr (by decide) passE (a1 (xv 0) (a1 (xv 1) (a1 (xv 2) a0)))) (a1 (xv 3) a0))))))))) hsp (by decide)
/-! ### draws_to -/
abbrev s_draws_to : Stmt := top 39
def b_draws_to : PV.Env → Fl := (sSeq (sDrop [0] [] (mCall m_check_world (aCons (rdV 0) aNil))) (sSeq (sDrop [0, 1] [] (mCall m_check_place (aCons (rdV 0) (aCons (rdV 1) aNil)))) (sSeq (sDrop [0, 1, 2] [] (mCall m_check_deed (aCons (rdV 0) (aCons (rdV 1) (aCons (rdV 2) aNil))))) (sSeq (sDrop [0, 3] [] (mCall m_check_place (aCons (rdV 0) (aCons (rdV 3) aNil)))) (sSeq (sAsg [0, 1, 2] [] (mCall m_chances_of (aCons (rdV 0) (aCons (rdV 1) (aCons (rdV 2) aNil)))) (bName 4)) (sSeq (sIf (tst (bin (bin (bin (rdV 4) (rdV 3) fIx) (cI 0) fIx) (cI 0) fEq)) (sRet cN) sNil) (sSeq (sAsg [4] [] (mCall m_summed (aCons (mSl (rdV 4) (fun _ => .ok none) (oPart (rdV 3))) aNil)) (bName 5)) (sRet (mTup (aCons (rdV 5) (aCons (mCall m_plus (aCons (rdV 5) (aCons (bin (rdV 4) (rdV 3) fIx) aNil))) aNil)))))))))))
def m_draws_to : List D → R D := runF 6 b_draws_to
theorem d_draws_to (T : Txt P w K mg base) (h_check_world : Def P w K mg base 8 "check_world" ["world"] m_check_world) (h_check_place : Def P w K mg base 3 "check_place" ["world", "place"] m_check_place) (h_check_deed : Def P w K mg base 3 "check_deed" ["world", "place", "deed"] m_check_deed) (h_chances_of : Def P w K mg base 1 "chances_of" ["world", "place", "deed"] m_chances_of) (h_summed : Def P w K mg base 4 "summed" ["some"] m_summed) (h_plus : Def P w K mg base 3 "plus" ["one", "other"] m_plus) : Def P w K mg base 9 "draws_to" ["world", "place", "deed", "late"] m_draws_to := by
  have sc : FnScope ["world", "place", "deed", "late", "chances", "low"] ["world", "place", "deed", "late"] (defScope s_draws_to) := ⟨rfl, rfl, rfl, by decide +kernel, rfl, by decide +kernel, by decide +kernel⟩
  have nd := sc.nd
  exact mkDef T.g_draws_to (T.d_draws_to) sc (fun _ _ _ _ _ _ us hl => match us, hl with | [_, _, _, _], _ => rfl) fun cdv A outer s H vs Q E hr hsp =>
    fin (m := b_draws_to) (l1 (sexp (xcall h_check_world hr (by decide) passE (a1 (xv 0) a0))) (l1 (sexp (xcall h_check_place hr (by decide) passE (a1 (xv 0) (a1 (xv 1) a0)))) (l1 (sexp (xcall h_check_deed hr (by decide) passE (a1 (xv 0) (a1 (xv 1) (a1 (xv 2) a0))))) (l1 (sexp (xcall h_check_place hr (by decide) passE (a1 (xv 0) (a1 (xv 3) a0)))) (l1 (sset 4 nd (xcall h_chances_of hr (by decide) passE (a1 (xv 0) (a1 (xv 1) (a1 (xv 2) a0))))) (l1 (sif (teq hr (xix (xix (xv 4) (xv 3)) xi) xi) (lz (sret xn)) l0) (l1 (sset 5 nd (xcall h_summed hr (by decide) passE (a1 (xsl (xv 4) o0 (o1 (xv 3))) a0))) (lz (sret (xtup (a1 (xv 5) (a1 (xcall h_plus hr (by decide) passE (a1 (xv 5) (a1 (xix (xv 4) (xv 3)) a0))) a0)))))))))))) hsp (by decide)
/-! ### _law_hash -/
abbrev s__law_hash : Stmt := top 41
def b_law_hash : PV.Env → Fl := (sSeq (sAsg [] [] (bin (mCb fInt (aCons (bin (bin (bin (rdV 0) (cI 48271) fMul) (bin (rdV 1) (cI 69621) fMul) fAdd) (cI 11) fAdd) aNil)) (cI 2147483647) fMod) (bName 2)) (sSeq (sAsg [] [] (bin (mCb fInt (aCons (bin (bin (bin (rdV 2) (rdV 2) fMul) (bin (cI 62089) (rdV 1) fMul) fAdd) (cI 131) fAdd) aNil)) (cI 2147483629) fMod) (bName 2)) (sRet (bin (mCb fInt (aCons (bin (rdV 2) (bin (rdV 2) (cI 40692) fAdd) fMul) aNil)) (cI 2147483587) fMod))))
def m_law_hash : List D → R D := runF 3 b_law_hash
theorem d_law_hash (T : Txt P w K mg base) : Def P w K mg base 1 "_law_hash" ["seed", "index"] m_law_hash := by
  have sc : FnScope ["seed", "index", "mixed"] ["seed", "index"] (defScope s__law_hash) := ⟨rfl, rfl, rfl, by decide +kernel, rfl, by decide +kernel, by decide +kernel⟩
  have nd := sc.nd
  exact mkDef T.g__law_hash (T.d__law_hash) sc (fun _ _ _ _ _ _ us hl => match us, hl with | [_, _], _ => rfl) fun cdv A outer s H vs Q E hr hsp =>
    fin (m := b_law_hash) (l1 (sset 2 nd (xmod (xint (T.f_int) (a1 (xaddI (xaddI (xmul (xv 0) xi) (xmul (xv 1) xi)) xi) a0)) xi)) (l1 (sset 2 nd (xmod (xint (T.f_int) (a1 (xaddI (xaddI (xmul (xv 2) (xv 2)) (xmul xi (xv 1))) xi) a0)) xi)) (lz (sret (xmod (xint (T.f_int) (a1 (xmul (xv 2) (xaddI (xv 2) xi)) a0)) xi))))) hsp (by decide)
/-! ### _law_cell -/
abbrev s__law_cell : Stmt := top 43
def b_law_cell : PV.Env → Fl := (sSeq (sIf (tst (bin (rdV 1) (mCb fLen (aCons (rdV 0) aNil)) fLt)) (sRet (bin (rdV 0) (rdV 1) fIx)) sNil) (sRet (bin (mCb fSum (aCons (mSl (rdV 0) (fun _ => .ok none) (oPart (cI 1))) aNil)) (cI 1000003) fMod)))
def m_law_cell : List D → R D := runF 2 b_law_cell
theorem d_law_cell (T : Txt P w K mg base) : Def P w K mg base 1 "_law_cell" ["script", "index"] m_law_cell := by
  have sc : FnScope ["script", "index"] ["script", "index"] (defScope s__law_cell) := ⟨rfl, rfl, rfl, by decide +kernel, rfl, by decide +kernel, by decide +kernel⟩
  have nd := sc.nd
  exact mkDef T.g__law_cell (T.d__law_cell) sc (fun _ _ _ _ _ _ us hl => match us, hl with | [_, _], _ => rfl) fun cdv A outer s H vs Q E hr hsp =>
    fin (m := b_law_cell) (l1 (sif (tlt (xv 1) (xlen (T.f_len) (a1 (xv 0) a0))) (lz (sret (xix (xv 0) (xv 1)))) l0) (lz (sret (xmod (xsum (T.f_sum) rfl (a1 (xsl (xv 0) o0 (o1 xi)) a0)) xi)))) hsp (by decide)
/-! ### _law_generator -/
abbrev s__law_generator : Stmt := top 44
def b_law_generator : PV.Env → Fl := (sSeq (sAsg [0, 1] [] (mCall m_law_cell (aCons (rdV 0) (aCons (rdV 1) aNil))) (bName 2)) (sRet (mLst (aCons (bin (mCb fInt (aCons (mCb fMax2 (aCons (bin (rdV 2) (bin (cI 10) (cI 18) fPow) fSub) (aCons (cI 0) aNil))) aNil)) (bin (bin (cI 10) (cI 60) fPow) (cI 10) fPowW) fMod) (aCons (bin (mCb fInt (aCons (rdV 2) aNil)) (cI 2147483647) fMod) (aCons (bin (cI 1000) (rdV 1) fMul) aNil))))))
def m_law_generator : List D → R D := runF 3 b_law_generator
theorem d_law_generator (T : Txt P w K mg base) (h__law_cell : Def P w K mg base 1 "_law_cell" ["script", "index"] m_law_cell) : Def P w K mg base 2 "_law_generator" ["script", "index"] m_law_generator := by
  have sc : FnScope ["script", "index", "seed"] ["script", "index"] (defScope s__law_generator) := ⟨rfl, rfl, rfl, by decide +kernel, rfl, by decide +kernel, by decide +kernel⟩
  have nd := sc.nd
  exact mkDef T.g__law_generator (T.d__law_generator) sc (fun _ _ _ _ _ _ us hl => match us, hl with | [_, _], _ => rfl) fun cdv A outer s H vs Q E hr hsp =>
    fin (m := b_law_generator) (l1 (sset 2 nd (xcall h__law_cell hr (by decide) passE (a1 (xv 0) (a1 (xv 1) a0)))) (lz (sret (xlst (a1 (xmod (xint (T.f_int) (a1 (xmax (T.f_max) rfl (a1 (xsub (xv 2) (xpow xi xi)) (a1 xi a0))) a0)) (xpowW (xpow xi xi) xi)) (a1 (xmod (xint (T.f_int) (a1 (xv 2) a0)) xi) (a1 (xmul xi (xv 1)) a0))))))) hsp (by decide)
/-! ### _law_exact -/
abbrev s__law_exact : Stmt := top 45
def b_law_exact : PV.Env → Fl := (sRet (vAnd (bin (rdV 0) (rdV 1) fEqX) (bin (mCb fRepr (aCons (rdV 0) aNil)) (mCb fRepr (aCons (rdV 1) aNil)) fEqX)))
def m_law_exact : List D → R D := runF 2 b_law_exact
theorem d_law_exact (T : Txt P w K mg base) : Def P w K mg base 1 "_law_exact" ["told", "due"] m_law_exact := by
  have sc : FnScope ["told", "due"] ["told", "due"] (defScope s__law_exact) := ⟨rfl, rfl, rfl, by decide +kernel, rfl, by decide +kernel, by decide +kernel⟩
  have nd := sc.nd
  exact mkDef T.g__law_exact (T.d__law_exact) sc (fun _ _ _ _ _ _ us hl => match us, hl with | [_, _], _ => rfl) fun cdv A outer s H vs Q E hr hsp =>
    fin (m := b_law_exact) (lz (sret (xand (xeqX hr (xv 0) (xv 1)) (xone (xeqX hr (xrepr hr T.sysm (T.f_repr) (a1 (xv 0) a0)) (xrepr hr T.sysm (T.f_repr) (a1 (xv 1) a0))))))) hsp (by decide)
/-! ### _law_lowest -/
abbrev s__law_lowest : Stmt := top 46
def b_law_lowest : PV.Env → Fl := (sSeq (sIf (tst (bin (rdV 1) (cI 0) fLt)) (sPar [] [] (aCons (bin (cI 0) (rdV 0) fSub) (aCons (bin (cI 0) (rdV 1) fSub) aNil)) 0 1) sNil) (sSeq (sPar [1] [] (aCons (mCb fMax2 (aCons (rdV 0) (aCons (bin (cI 0) (rdV 0) fSub) aNil))) (aCons (rdV 1) aNil)) 2 3) (sSeq (sWhile (tst (bin (rdV 3) (cI 0) fGt)) (sPar [3] [] (aCons (rdV 3) (aCons (bin (mCb fInt (aCons (rdV 2) aNil)) (rdV 3) fMod) aNil)) 2 3)) (sRet (mTup (aCons (bin (rdV 0) (rdV 2) fDiv) (aCons (bin (rdV 1) (rdV 2) fDiv) aNil)))))))
def m_law_lowest : List D → R D := runF 4 b_law_lowest
theorem d_law_lowest (T : Txt P w K mg base) : Def P w K mg base 1 "_law_lowest" ["top", "under"] m_law_lowest := by
  have sc : FnScope ["top", "under", "one", "other"] ["top", "under"] (defScope s__law_lowest) := ⟨rfl, rfl, rfl, by decide +kernel, rfl, by decide +kernel, by decide +kernel⟩
  have nd := sc.nd
  exact mkDef T.g__law_lowest (T.d__law_lowest) sc (fun _ _ _ _ _ _ us hl => match us, hl with | [_, _], _ => rfl) fun cdv A outer s H vs Q E hr hsp =>
    fin (m := b_law_lowest) (l1 (sif (tlt (xv 1) xi) (lz (spar (i := 0) (j := 1) rfl nd (a1 (xsub xi (xv 0)) (a1 (xsub xi (xv 1)) a0)))) l0) (l1 (spar (i := 2) (j := 3) rfl nd (a1 (xmax (T.f_max) rfl (a1 (xv 0) (a1 (xsub xi (xv 0)) a0))) (a1 (xv 1) a0))) (l1 (swhile ownE (tgt (xv 3) xi) (lz (spar (i := 2) (j := 3) rfl nd (a1 (xv 3) (a1 (xmod (xint (T.f_int) (a1 (xv 2) a0)) (xv 3)) a0))))) (lz (sret (xtup (a1 (xdiv (xv 0) (xv 2)) (a1 (xdiv (xv 1) (xv 2)) a0)))))))) hsp (by decide)
/-! ### _law_plus -/
abbrev s__law_plus : Stmt := top 47
def b_law_plus : PV.Env → Fl := (sRet (mCall m_law_lowest (aCons (bin (bin (bin (rdV 0) (cI 0) fIx) (bin (rdV 1) (cI 1) fIx) fMul) (bin (bin (rdV 1) (cI 0) fIx) (bin (rdV 0) (cI 1) fIx) fMul) fAdd) (aCons (bin (bin (rdV 0) (cI 1) fIx) (bin (rdV 1) (cI 1) fIx) fMul) aNil))))
def m_law_plus : List D → R D := runF 2 b_law_plus
theorem d_law_plus (T : Txt P w K mg base) (h__law_lowest : Def P w K mg base 1 "_law_lowest" ["top", "under"] m_law_lowest) : Def P w K mg base 2 "_law_plus" ["one", "other"] m_law_plus := by
  have sc : FnScope ["one", "other"] ["one", "other"] (defScope s__law_plus) := ⟨rfl, rfl, rfl, by decide +kernel, rfl, by decide +kernel, by decide +kernel⟩
  have nd := sc.nd
  exact mkDef T.g__law_plus (T.d__law_plus) sc (fun _ _ _ _ _ _ us hl => match us, hl with | [_, _], _ => rfl) fun cdv A outer s H vs Q E hr hsp =>
    fin (m := b_law_plus) (lz (sret (xcall h__law_lowest hr (by decide) passE (a1 (xaddI (xmul (xix (xv 0) xi) (xix (xv 1) xi)) (xmul (xix (xv 1) xi) (xix (xv 0) xi))) (a1 (xmul (xix (xv 0) xi) (xix (xv 1) xi)) a0))))) hsp (by decide)
/-! ### _law_less -/
abbrev s__law_less : Stmt := top 48
def b_law_less : PV.Env → Fl := (sRet (mCall m_law_plus (aCons (rdV 0) (aCons (mTup (aCons (bin (cI 0) (bin (rdV 1) (cI 0) fIx) fSub) (aCons (bin (rdV 1) (cI 1) fIx) aNil))) aNil))))
def m_law_less : List D → R D := runF 2 b_law_less
theorem d_law_less (T : Txt P w K mg base) (h__law_plus : Def P w K mg base 2 "_law_plus" ["one", "other"] m_law_plus) : Def P w K mg base 3 "_law_less" ["one", "other"] m_law_less := by
  have sc : FnScope ["one", "other"] ["one", "other"] (defScope s__law_less) := ⟨rfl, rfl, rfl, by decide +kernel, rfl, by decide +kernel, by decide +kernel⟩
  have nd := sc.nd
  exact mkDef T.g__law_less (T.d__law_less) sc (fun _ _ _ _ _ _ us hl => match us, hl with | [_, _], _ => rfl) fun cdv A outer s H vs Q E hr hsp =>
    fin (m := b_law_less) (lz (sret (xcall h__law_plus hr (by decide) passE (a1 (xv 0) (a1 (xtup (a1 (xsub xi (xix (xv 1) xi)) (a1 (xix (xv 1) xi) a0))) a0))))) hsp (by decide)
/-! ### _law_under -/
abbrev s__law_under : Stmt := top 49
def b_law_under : PV.Env → Fl := (sRet (bin (bin (bin (rdV 0) (cI 0) fIx) (bin (rdV 1) (cI 1) fIx) fMul) (bin (bin (rdV 1) (cI 0) fIx) (bin (rdV 0) (cI 1) fIx) fMul) fLt))
def m_law_under : List D → R D := runF 2 b_law_under
theorem d_law_under (T : Txt P w K mg base) : Def P w K mg base 1 "_law_under" ["one", "other"] m_law_under := by
  have sc : FnScope ["one", "other"] ["one", "other"] (defScope s__law_under) := ⟨rfl, rfl, rfl, by decide +kernel, rfl, by decide +kernel, by decide +kernel⟩
  have nd := sc.nd
  exact mkDef T.g__law_under (T.d__law_under) sc (fun _ _ _ _ _ _ us hl => match us, hl with | [_, _], _ => rfl) fun cdv A outer s H vs Q E hr hsp =>
    fin (m := b_law_under) (lz (sret (xlt (xmul (xix (xv 0) xi) (xix (xv 1) xi)) (xmul (xix (xv 1) xi) (xix (xv 0) xi))))) hsp (by decide)
/-! ### _law_caught -/
abbrev s__law_caught : Stmt := top 52
def b_law_caught : PV.Env → Fl := (sSeq (sAsg [] [] cN (bName 1)) (sSeq (sTC (tbTwo "next_by" 4 m_next_by "draws_to" 4 m_draws_to) okc 0 1 2) (sSeq (sAsg [] [] (mLst (aCons (mIsE okc "InvalidWorld" (rdV 1)) (aCons (mIsE okc "InvalidLot" (rdV 1)) (aCons (mIsE okc "InvalidPlan" (rdV 1)) (aCons (mIsE okc "InvalidPlace" (rdV 1)) aNil))))) (bName 3)) (sSeq (sAsg [3] [] (bin (rdV 3) (mLst (aCons (mIsE okc "InvalidList" (rdV 1)) (aCons (mIsE okc "InvalidNumber" (rdV 1)) (aCons (mIsE okc "InvalidText" (rdV 1)) (aCons (mIsE okc "InvalidLine" (rdV 1)) aNil))))) fAddD) (bName 3)) (sSeq (sAsg [3] [] (bin (rdV 3) (mLst (aCons (mIsE okc "InvalidDeed" (rdV 1)) (aCons (mIsE okc "InvalidDiscount" (rdV 1)) aNil))) fAddD) (bName 3)) (sRet (mLst (aCons (rdV 3) (aCons (vIf (tst (bin (rdV 1) cN fIs)) cN (mVal okc (rdV 1))) aNil)))))))))
def m_law_caught : List D → R D := runF 4 b_law_caught
theorem d_law_caught (T : Txt P w K mg base) (h_next_by : Def P w K mg base 9 "next_by" ["world", "place", "deed", "draw"] m_next_by) (h_draws_to : Def P w K mg base 9 "draws_to" ["world", "place", "deed", "late"] m_draws_to) : Def P w K mg base 11 "_law_caught" ["call"] m_law_caught := by
  have sc : FnScope ["call", "error", "e", "kinds"] ["call"] (defScope s__law_caught) := ⟨rfl, rfl, rfl, by decide +kernel, rfl, by decide +kernel, by decide +kernel⟩
  have nd := sc.nd
  exact mkDef T.g__law_caught (T.d__law_caught) sc (fun _ _ _ _ _ _ us hl => match us, hl with | [_], _ => rfl) fun cdv A outer s H vs Q E hr hsp =>
    fin (m := b_law_caught) (l1 (sset 1 nd xn) (l1 (stryc 0 1 2 nd (tb_two (X := XD P w K mg base ["call", "error", "e", "kinds"] "_law_caught" (defScope s__law_caught) cdv A outer s H E) (x1 := "next_by") (x2 := "draws_to") h_next_by h_draws_to hr (by decide) (by decide)) T.exm T.g_DeedError) (l1 (sset 3 nd (xlst (a1 (xise "InvalidWorld" T.exf (by decide) (T.f_isinstance) (T.x_InvalidWorld).mg (xv 1)) (a1 (xise "InvalidLot" T.exf (by decide) (T.f_isinstance) (T.x_InvalidLot).mg (xv 1)) (a1 (xise "InvalidPlan" T.exf (by decide) (T.f_isinstance) (T.x_InvalidPlan).mg (xv 1)) (a1 (xise "InvalidPlace" T.exf (by decide) (T.f_isinstance) (T.x_InvalidPlace).mg (xv 1)) a0)))))) (l1 (sset 3 nd (xadd (xv 3) (xlst (a1 (xise "InvalidList" T.exf (by decide) (T.f_isinstance) (T.x_InvalidList).mg (xv 1)) (a1 (xise "InvalidNumber" T.exf (by decide) (T.f_isinstance) (T.x_InvalidNumber).mg (xv 1)) (a1 (xise "InvalidText" T.exf (by decide) (T.f_isinstance) (T.x_InvalidText).mg (xv 1)) (a1 (xise "InvalidLine" T.exf (by decide) (T.f_isinstance) (T.x_InvalidLine).mg (xv 1)) a0))))))) (l1 (sset 3 nd (xadd (xv 3) (xlst (a1 (xise "InvalidDeed" T.exf (by decide) (T.f_isinstance) (T.x_InvalidDeed).mg (xv 1)) (a1 (xise "InvalidDiscount" T.exf (by decide) (T.f_isinstance) (T.x_InvalidDiscount).mg (xv 1)) a0))))) (lz (sret (xlst (a1 (xv 3) (a1 (xif (tis (xv 1) xn) xn (xval T.exf (xv 1))) a0)))))))))) hsp (by decide)
/-! ### _law_all_caught -/
abbrev s__law_all_caught : Stmt := top 53
def b_law_all_caught : PV.Env → Fl := (sRet (bin (mLc [0] [3] (iLst (rdV 0)) (bName 3) (mNot (tst (mCall m_law_exact (aCons (mCall m_law_caught (aCons (rdV 3) aNil)) (aCons (mLst (aCons (mLc [] [4] (iRg1 (cI 10)) (bName 4) tYes' (bin (rdV 4) (rdV 1) fEq)) (aCons (rdV 2) aNil))) aNil))))) (rdV 3)) (mLst aNil) fEq))
def m_law_all_caught : List D → R D := runF 5 b_law_all_caught
theorem d_law_all_caught (T : Txt P w K mg base) (h__law_caught : Def P w K mg base 11 "_law_caught" ["call"] m_law_caught) (h__law_exact : Def P w K mg base 1 "_law_exact" ["told", "due"] m_law_exact) : Def P w K mg base 12 "_law_all_caught" ["calls", "at", "value"] m_law_all_caught := by
  have sc : FnScope ["calls", "at", "value", "call", "place"] ["calls", "at", "value"] (defScope s__law_all_caught) := ⟨rfl, rfl, rfl, by decide +kernel, rfl, by decide +kernel, by decide +kernel⟩
  have nd := sc.nd
  exact mkDef T.g__law_all_caught (T.d__law_all_caught) sc (fun _ _ _ _ _ _ us hl => match us, hl with | [_, _, _], _ => rfl) fun cdv A outer s H vs Q E hr hsp =>
    fin (m := b_law_all_caught) (lz (sret (xeq hr (xlc [("call", 3)] rfl nd (ilst (xv 0)) (by rfl) (by intro _ _ _ _ _; exact (gn 3 nd)) (by intro _ _ _ _ _; exact (f1 (tnot (tx (xcall h__law_exact hr (by decide) passB (a1 (xcall h__law_caught hr (by decide) passB (a1 (xv 3) a0)) (a1 (xlst (a1 (xlc [("place", 4)] rfl nd (irng1 (T.f_range) xi) (by rfl) (by intro _ _ _ _ _; exact (gn 4 nd)) (by intro _ _ _ _ _; exact f0) (by intro _ _ _ _ _; exact (xeq hr (xv 4) (xv 1)))) (a1 (xv 2) a0))) a0))))))) (by intro _ _ _ _ _; exact (xv 3))) (xlst a0)))) hsp (by decide)
/-! ### _law_bad_worlds -/
abbrev s__law_bad_worlds : Stmt := top 54
def b_law_bad_worlds : PV.Env → Fl := (sSeq (sAsg [] [] (mTup (aCons (mTup (aCons (cI 1) (aCons (cI 1) aNil))) (aCons (mLst (aCons (mTup (aCons (cI 1) (aCons (cI 1) aNil))) aNil)) aNil))) (bName 0)) (sSeq (sAsg [0, 0, 0, 0] [] (mLst (aCons cN (aCons (mTup aNil) (aCons cD0 (aCons (cS "world") (aCons (mLst (aCons (cS "world") (aCons (mLst (aCons (mLst (aCons (rdV 0) aNil)) aNil)) aNil))) (aCons (mTup (aCons (cS "world") aNil)) (aCons (mTup (aCons (cS "world") (aCons (mLst (aCons (mLst (aCons (rdV 0) aNil)) aNil)) (aCons (cI 0) aNil)))) (aCons (mTup (aCons (cS "World") (aCons (mLst (aCons (mLst (aCons (rdV 0) aNil)) aNil)) aNil))) (aCons (mTup (aCons (cS "world") (aCons (mLst aNil) aNil))) (aCons (mTup (aCons (cS "world") (aCons (mLst (aCons (mLst aNil) aNil)) aNil))) (aCons (mTup (aCons (cS "world") (aCons (mTup (aCons (mLst (aCons (rdV 0) aNil)) aNil)) aNil))) aNil)))))))))))) (bName 1)) (sSeq (sAsg [1, 0, 0, 0] [] (bin (rdV 1) (mLst (aCons (mTup (aCons (cS "world") (aCons (mLst (aCons (bin (mLst (aCons (rdV 0) aNil)) (cI 5) fRep) aNil)) aNil))) (aCons (mTup (aCons (cS "world") (aCons (mLst (aCons (mLst (aCons (rdV 0) aNil)) (aCons (mLst (aCons (rdV 0) aNil)) aNil))) aNil))) (aCons (mTup (aCons (cS "world") (aCons (mLst (aCons (mLst (aCons (mTup (aCons (cI 1) (aCons (mLst (aCons (mTup (aCons (cI 1) (aCons (cI 1) aNil))) aNil)) aNil))) aNil)) aNil)) aNil))) (aCons (mTup (aCons (cS "world") (aCons (mLst (aCons (mLst (aCons (mTup (aCons (mTup (aCons (cI 2) (aCons (cI 4) aNil))) (aCons (mLst (aCons (mTup (aCons (cI 1) (aCons (cI 1) aNil))) aNil)) aNil))) aNil)) aNil)) aNil))) (aCons (mTup (aCons (cS "world") (aCons (mLst (aCons (mLst (aCons (mTup (aCons (mTup (aCons (cI 1) (aCons (cI 1) aNil))) (aCons (mLst (aCons (mTup (aCons (cI 1) (aCons (cI 2) aNil))) aNil)) aNil))) aNil)) aNil)) aNil))) aNil)))))) fAddD) (bName 1)) (sRet (bin (rdV 1) (mLst (aCons (mTup (aCons (cS "world") (aCons (mLst (aCons (mLst (aCons (mTup (aCons (mTup (aCons (cI 1) (aCons (cI 1) aNil))) (aCons (mLst (aCons (mTup (aCons (cI 2) (aCons (cI 2) aNil))) aNil)) aNil))) aNil)) aNil)) aNil))) (aCons (mTup (aCons (cS "world") (aCons (mLst (aCons (mLst (aCons (mTup (aCons (mTup (aCons (cI 1) (aCons (cI 1) aNil))) (aCons (mTup (aCons (mTup (aCons (cI 1) (aCons (cI 1) aNil))) aNil)) aNil))) aNil)) aNil)) aNil))) (aCons (mTup (aCons (cS "world") (aCons (mLst (aCons (mLst (aCons (mLst (aCons (mTup (aCons (cI 1) (aCons (cI 1) aNil))) (aCons (mLst (aCons (mTup (aCons (cI 1) (aCons (cI 1) aNil))) aNil)) aNil))) aNil)) aNil)) aNil))) (aCons (mTup (aCons (cS "world") (aCons (mLst (aCons (mLst (aCons (mTup (aCons (mTup (aCons (cI 1) (aCons (cI 1) aNil))) (aCons (mLst (aCons (mTup (aCons (cI 1) (aCons (cI 1) aNil))) aNil)) (aCons (cI 0) aNil)))) aNil)) aNil)) aNil))) (aCons (mTup (aCons (cS "world") (aCons (mLst (aCons cN aNil)) aNil))) aNil)))))) fAddD)))))
def m_law_bad_worlds : List D → R D := runF 2 b_law_bad_worlds
theorem d_law_bad_worlds (T : Txt P w K mg base) : Def P w K mg base 1 "_law_bad_worlds" [] m_law_bad_worlds := by
  have sc : FnScope ["deed", "found"] [] (defScope s__law_bad_worlds) := ⟨rfl, rfl, rfl, by decide +kernel, rfl, by decide +kernel, by decide +kernel⟩
  have nd := sc.nd
  exact mkDef T.g__law_bad_worlds (T.d__law_bad_worlds) sc (fun _ _ _ _ _ _ us hl => match us, hl with | [], _ => rfl) fun cdv A outer s H vs Q E hr hsp =>
    fin (m := b_law_bad_worlds) (l1 (sset 0 nd (xtup (a1 (xtup (a1 xi (a1 xi a0))) (a1 (xlst (a1 (xtup (a1 xi (a1 xi a0))) a0)) a0)))) (l1 (sset 1 nd (xlst (a1 xn (a1 (xtup a0) (a1 xd0 (a1 xs (a1 (xlst (a1 xs (a1 (xlst (a1 (xlst (a1 (xv 0) a0)) a0)) a0))) (a1 (xtup (a1 xs a0)) (a1 (xtup (a1 xs (a1 (xlst (a1 (xlst (a1 (xv 0) a0)) a0)) (a1 xi a0)))) (a1 (xtup (a1 xs (a1 (xlst (a1 (xlst (a1 (xv 0) a0)) a0)) a0))) (a1 (xtup (a1 xs (a1 (xlst a0) a0))) (a1 (xtup (a1 xs (a1 (xlst (a1 (xlst a0) a0)) a0))) (a1 (xtup (a1 xs (a1 (xtup (a1 (xlst (a1 (xv 0) a0)) a0)) a0))) a0))))))))))))) (l1 (sset 1 nd (xadd (xv 1) (xlst (a1 (xtup (a1 xs (a1 (xlst (a1 (xrep (xlst (a1 (xv 0) a0)) xi) a0)) a0))) (a1 (xtup (a1 xs (a1 (xlst (a1 (xlst (a1 (xv 0) a0)) (a1 (xlst (a1 (xv 0) a0)) a0))) a0))) (a1 (xtup (a1 xs (a1 (xlst (a1 (xlst (a1 (xtup (a1 xi (a1 (xlst (a1 (xtup (a1 xi (a1 xi a0))) a0)) a0))) a0)) a0)) a0))) (a1 (xtup (a1 xs (a1 (xlst (a1 (xlst (a1 (xtup (a1 (xtup (a1 xi (a1 xi a0))) (a1 (xlst (a1 (xtup (a1 xi (a1 xi a0))) a0)) a0))) a0)) a0)) a0))) (a1 (xtup (a1 xs (a1 (xlst (a1 (xlst (a1 (xtup (a1 (xtup (a1 xi (a1 xi a0))) (a1 (xlst (a1 (xtup (a1 xi (a1 xi a0))) a0)) a0))) a0)) a0)) a0))) a0)))))))) (lz (sret (xadd (xv 1) (xlst (a1 (xtup (a1 xs (a1 (xlst (a1 (xlst (a1 (xtup (a1 (xtup (a1 xi (a1 xi a0))) (a1 (xlst (a1 (xtup (a1 xi (a1 xi a0))) a0)) a0))) a0)) a0)) a0))) (a1 (xtup (a1 xs (a1 (xlst (a1 (xlst (a1 (xtup (a1 (xtup (a1 xi (a1 xi a0))) (a1 (xtup (a1 (xtup (a1 xi (a1 xi a0))) a0)) a0))) a0)) a0)) a0))) (a1 (xtup (a1 xs (a1 (xlst (a1 (xlst (a1 (xlst (a1 (xtup (a1 xi (a1 xi a0))) (a1 (xlst (a1 (xtup (a1 xi (a1 xi a0))) a0)) a0))) a0)) a0)) a0))) (a1 (xtup (a1 xs (a1 (xlst (a1 (xlst (a1 (xtup (a1 (xtup (a1 xi (a1 xi a0))) (a1 (xlst (a1 (xtup (a1 xi (a1 xi a0))) a0)) (a1 xi a0)))) a0)) a0)) a0))) (a1 (xtup (a1 xs (a1 (xlst (a1 xn a0)) a0))) a0)))))))))))) hsp (by decide)
/-! ### _law_spans -/
abbrev s__law_spans : Stmt := top 55
def b_law_spans : PV.Env → Fl := (sSeq (sPar [] [] (aCons (mLst aNil) (aCons (mTup (aCons (cI 0) (aCons (cI 1) aNil))) aNil)) 1 2) (sSeq (sFor [0] (iLst (rdV 0)) (bName 3) (sSeq (sAsg [2, 3] [] (mCall m_law_plus (aCons (rdV 2) (aCons (rdV 3) aNil))) (bName 4)) (sSeq (sApp [2, 4] [] 1 (vIf (tst (bin (bin (rdV 3) (cI 0) fIx) (cI 0) fGt)) (mTup (aCons (rdV 2) (aCons (rdV 4) aNil))) cN)) (sAsg [4] [] (rdV 4) (bName 2))))) (sRet (mvV 1))))
def m_law_spans : List D → R D := runF 5 b_law_spans
theorem d_law_spans (T : Txt P w K mg base) (h__law_plus : Def P w K mg base 2 "_law_plus" ["one", "other"] m_law_plus) : Def P w K mg base 3 "_law_spans" ["chances"] m_law_spans := by
  have sc : FnScope ["chances", "found", "here", "chance", "late"] ["chances"] (defScope s__law_spans) := ⟨rfl, rfl, rfl, by decide +kernel, rfl, by decide +kernel, by decide +kernel⟩
  have nd := sc.nd
  exact mkDef T.g__law_spans (T.d__law_spans) sc (fun _ _ _ _ _ _ us hl => match us, hl with | [_], _ => rfl) fun cdv A outer s H vs Q E hr hsp =>
    fin (m := b_law_spans) (l1 (spar (i := 1) (j := 2) rfl nd (a1 (xlst a0) (a1 (xtup (a1 xi (a1 xi a0))) a0))) (l1 (sfor ownE rfl (ilst (xv 0)) (gn 3 nd) (l1 (sset 4 nd (xcall h__law_plus hr (by decide) passE (a1 (xv 2) (a1 (xv 3) a0)))) (l1 (sapp 1 (xif (tgt (xix (xv 3) xi) xi) (xtup (a1 (xv 2) (a1 (xv 4) a0))) xn)) (lz (sset 2 nd (xv 4)))))) (lz (sret (xm 1))))) hsp (by decide)
/-! ### _law_led_by -/
abbrev s__law_led_by : Stmt := top 56
def b_law_led_by : PV.Env → Fl := (sRet (bin (mLc [0] [2, 3] (iEn (rdV 0)) (bTup (bCons (bName 2) (bCons (bName 3) bNil)) 2) (mAnd (tst (bin (rdV 3) cN fIsNot)) (mAnd (mNot (tst (mCall m_law_under (aCons (rdV 1) (aCons (bin (rdV 3) (cI 0) fIx) aNil))))) (tst (mCall m_law_under (aCons (rdV 1) (aCons (bin (rdV 3) (cI 1) fIx) aNil)))))) (rdV 2)) (cI 0) fIx))
def m_law_led_by : List D → R D := runF 4 b_law_led_by
theorem d_law_led_by (T : Txt P w K mg base) (h__law_under : Def P w K mg base 1 "_law_under" ["one", "other"] m_law_under) : Def P w K mg base 2 "_law_led_by" ["spans", "draw"] m_law_led_by := by
  have sc : FnScope ["spans", "draw", "late", "span"] ["spans", "draw"] (defScope s__law_led_by) := ⟨rfl, rfl, rfl, by decide +kernel, rfl, by decide +kernel, by decide +kernel⟩
  have nd := sc.nd
  exact mkDef T.g__law_led_by (T.d__law_led_by) sc (fun _ _ _ _ _ _ us hl => match us, hl with | [_, _], _ => rfl) fun cdv A outer s H vs Q E hr hsp =>
    fin (m := b_law_led_by) (lz (sret (xix (xlc [("late", 2), ("span", 3)] rfl nd (ienum (T.f_enumerate) (xv 0)) (by rfl) (by intro _ _ _ _ _; exact (gt rfl (h1 (gn 2 nd) (h1 (gn 3 nd) h0)))) (by intro _ _ _ _ _; exact (f1 (tbx (tand (tisn (xv 3) xn) (tand (tnot (tx (xcall h__law_under hr (by decide) passB (a1 (xv 1) (a1 (xix (xv 3) xi) a0))))) (tand1 (tx (xcall h__law_under hr (by decide) passB (a1 (xv 1) (a1 (xix (xv 3) xi) a0)))))))))) (by intro _ _ _ _ _; exact (xv 2))) xi))) hsp (by decide)
end K90
end
section
set_option Elab.async false
set_option linter.all false
set_option maxRecDepth 100000
set_option maxHeartbeats 1000000
namespace K90
open PV
theorem mul_of {i j : Int} (h : j.natAbs < 2 ^ 64) : mulOk i j = true := by
  unfold mulOk
  simp [h]
theorem mul_of' {i j : Int} (h : i.natAbs < 2 ^ 64) : mulOk i j = true := by
  unfold mulOk
  simp [h]
theorem hash_ok (b c : Int) (hb : 0 ≤ b) (hc : 0 ≤ c) : ∃ z : Int, m_law_hash [.int b, .int c] = .ok (.int z) := by
  have h1 : mulOk b 48271 = true := mul_of (by decide)
  have h2 : mulOk c 69621 = true := mul_of (by decide)
  have h3 : mulOk 62089 c = true := mul_of' (by decide)
  have lt : ∀ (x m : Int), 0 < m → m < 2 ^ 60 → (x % m).natAbs < 2 ^ 64 := fun x m h h' => by
    have := Int.emod_nonneg x (by omega : m ≠ 0)
    have := Int.emod_lt_of_pos x h
    omega
  have h4 : ∀ x y : Int, mulOk (x % 2147483647) y = true := fun x y => mul_of' (lt x _ (by decide) (by decide))
  have h5 : ∀ x y : Int, mulOk (x % 2147483629) y = true := fun x y => mul_of' (lt x _ (by decide) (by decide))
  unfold m_law_hash runF b_law_hash
  simp [sSeq, sAsg, sRet, thnE, toF, bName, pre, PV.bin, mCb, aCons, aNil, rdV, cI, ent, R.bind_ok, ofO, fInt, fMul, fAdd, fMod, onI, noFz, fz, outF, h1, h2, h3, h4, h5]
end K90
end
section
set_option Elab.async false
set_option linter.all false
set_option maxRecDepth 100000
set_option maxHeartbeats 1000000
namespace K90
open PySem PySem.Spec PyProof.Rows L2 PV LamX
variable {P : Program} {w : World} {K : PySem.W.Frag} {mg : Str → Option Value} {base : Heap}
/-! ### _law_random -/
def preR (ds : List D) : Prop := ∃ j : Int, ds = [.int j] ∧ 0 < j ∧ j < 2 ^ 29
def postR (ds : List D) (d : D) : Prop := ∃ j i : Int, ds = [.int j] ∧ d = .int i ∧ 0 ≤ i ∧ i < j
theorem w_random (T : Txt P w K mg base) (Tb : List (Addr × Str)) (h_hash : Def P w K mg base 1 "_law_hash" ["seed", "index"] m_law_hash) : DefW P w K mg base 2 "_law_random" ["generator", "bound"] Tb 1 1 preR postR := by
  have sc : FnScope ["generator", "bound", "drawn", "turn"] ["generator", "bound"] (defScope s__law_random) := ⟨rfl, rfl, rfl, by decide +kernel, rfl, by decide +kernel, by decide +kernel⟩
  have nd := sc.nd
  refine mkW0 T.g__law_random (T.d__law_random) sc rfl (fun _ _ _ _ _ _ us hl => match us, hl with | [_, _], _ => rfl) fun cdv A outer s H vs Q E hr hsp => ?_
  refine ⟨_, pss_cons (ps_if (tgt (E := E) (xix (xv 0) xi) xi).pt (pss_cons (sset (E := E) 2 nd (xmod (xint (T.f_int) (a1 (xix (xv 0) xi) a0)) (xv 1))).ps (pss_cons (ps_asg (xdiv (E := E) (xix (xv 0) xi) (xv 1)).pe (pg_sub (xv (E := E) 0).pe (xi (E := E)).pe set_list)) (pss_one (sret (E := E) (xv 2)).ps))) pss_nil)
    (pss_cons (sset (E := E) 2 nd xi).ps (pss_cons (ps_for ownE rfl (irng1 (E := E) (T.f_range) (xaddI xi (xdiv (xbits (xv 1)) xi))).pi (gn 3 nd).pg
      (pss_cons (ps_asg (xaddI (E := E) (xix (xv 0) xi) xi).pe (pg_sub (xv (E := E) 0).pe (xi (E := E)).pe set_list)) (pss_one (sset (E := E) 2 nd (xaddI (xmul (xv 2) xi) (xcall h_hash hr (by decide) passE (a1 (xix (xv 0) xi) (a1 (xix (xv 0) xi) a0))))).ps)))
      (pss_one (sret (E := E) (xmod (xint (T.f_int) (a1 (xv 2) a0)) (xv 1))).ps))), ?_⟩
  obtain ⟨g, vs', n, F, ds, rfl, hl, hF, hrp, ⟨j, rfl, hj0, hj1⟩, go, tb, hz, hE, hq⟩ := hsp
  obtain ⟨v1, r1, a1', a2', e1, e2, rp1, rp2⟩ := hrp
  obtain ⟨rfl, _⟩ := rp1
  obtain ⟨rfl, _⟩ := rp2
  subst e1
  obtain ⟨a, b, c, hg, ⟨ha0, ha1⟩, ⟨hb0, hb1⟩, hc0, hc1⟩ := go.ex
  have fin : ∀ (H' : Hp) (i : Int) (a' c' : Int), Same (upd H g (.lst [.int a', .int b, .int c'])) H' → 0 ≤ a' → a' < 2 ^ 2100 → 0 ≤ c' → c' + n ≤ 2 ^ 40 → 0 ≤ i → i < j → Q (.int i) H' := fun H' i a' c' e x1 x2 x3 x4 x5 x6 => by
    exact hq (.int i) (.int i) _ (Imp.upd.trans (.of e)) ⟨a', b, c', e _ _ upd_same, ⟨x1, x2⟩, ⟨hb0, hb1⟩, x3, x4⟩ (Tabs.ext (PV.Tabs.updL tb hg) fun b o q => e b o q) (.int i) ⟨j, i, rfl, rfl, x5, x6⟩
  by_cases h0 : 0 < a
  · refine ⟨.ref g, rfl, rIx_lst hg rfl ⟨a, 0, rfl, rfl, true, by show V.bl (decide (0 < a)) = _; rw [decide_eq_true h0], iteT ?_⟩⟩
    refine ⟨.ref g, rfl, rIx_lst hg rfl (.inl ⟨a, rfl, .int j, rfl, a, j, rfl, rfl, hj0, ?_⟩)⟩
    refine ⟨.ref g, rfl, rIx_lst hg rfl ⟨.int j, rfl, a, j, rfl, rfl, wide_div (b := 30) hj0 (by omega) (by omega) (by omega), ?_⟩⟩
    refine ⟨.ref g, rfl, g, _, 0, 0, rfl, rfl, hg, rfl, ?_⟩
    refine ⟨_, rfl, ?_⟩
    refine fin _ _ (a / j) c (Same.refl _) (Int.ediv_nonneg ha0 (by omega)) (Int.lt_of_le_of_lt (Int.ediv_le_self _ ha0) ha1) hc0 (by omega) (Int.emod_nonneg _ (by omega)) (Int.emod_lt_of_pos _ hj0)
  · have ha : a = 0 := by omega
    have hbits : (1 : Int) + (Builtin.Int.intBits j : Int) / 30 = 1 := by
      have : Builtin.Int.intBits j ≤ 29 := by
        unfold Builtin.Int.intBits
        split
        · omega
        · have := (Nat.log2_lt (n := j.natAbs) (k := 29) (by omega)).mpr (by omega)
          omega
      omega
    refine ⟨.ref g, rfl, rIx_lst hg rfl ⟨a, 0, rfl, rfl, false, by show V.bl (decide (0 < a)) = _; rw [decide_eq_false h0], iteF ?_⟩⟩
    refine ⟨.int j, rfl, j, rfl, _, 30, rfl, rfl, ⟨by decide, by decide⟩, 1, _, rfl, rfl, 1, by show [V.int (1 + _)] = _; rw [hbits], by decide, by decide, ?_⟩
    refine for_range (fun i σ H' => (i = 0 ∧ σ = ([some (.ref g), some (.int j), some (.int 0), none] : L2.St) ∧ H' = H) ∨ (i = 1 ∧ ∃ z : Int, σ = ([some (.ref g), some (.int j), some (.int z), some (.int 0)] : L2.St) ∧ Same (upd H g (.lst [.int a, .int b, .int (c + 1)])) H')) (.inl ⟨rfl, rfl, rfl⟩) (fun i σ H' hi p => ?_) fun σ H' p => ?_
    · have hi0 : i = 0 := by
        have : i < 1 := hi
        omega
      subst hi0
      rcases p with ⟨_, rfl, rfl⟩ | ⟨z, _⟩
      · refine ⟨.ref g, rfl, rIx_lst hg rfl ⟨c, 1, rfl, rfl, ?_⟩⟩
        refine ⟨.ref g, rfl, g, _, 2, 2, rfl, rfl, hg, rfl, ?_⟩
        refine ⟨.int 0, rfl, 0, 2147483587, rfl, rfl, mulOk_ok (by decide), ?_⟩
        obtain ⟨z, ez⟩ := hash_ok b (c + 1) hb0 (by omega)
        refine ⟨.ref g, rfl, rIx_lst upd_same rfl ⟨.ref g, rfl, rIx_lst upd_same rfl ?_⟩⟩
        refine ⟨NoA, [.int b, .int (c + 1)], rfl, fun _ z => z.elim, fun _ _ => .inl hE, ⟨_, _, [], [], rfl, rfl, ⟨rfl, rfl⟩, _, _, [], [], rfl, rfl, ⟨rfl, rfl⟩, rfl, rfl⟩, ?_⟩
        rw [ez]
        intro v H2 s2 r2
        obtain ⟨F', as, _, _, _, rr⟩ := r2
        obtain ⟨rfl, _⟩ := rr
        exact ⟨_, _, rfl, rfl, .inr ⟨rfl, _, rfl, s2⟩⟩
      · cases z
    · rcases p with ⟨h, _⟩ | ⟨_, z, rfl, sH⟩
      · cases h
      · refine ⟨_, rfl, .inl ⟨z, rfl, .int j, rfl, z, j, rfl, rfl, hj0, ?_⟩⟩
        exact fin _ _ a (c + 1) sH ha0 ha1 (by omega) (by omega) (Int.emod_nonneg _ (by omega)) (Int.emod_lt_of_pos _ hj0)
end K90
end
section
set_option Elab.async false
set_option linter.all false
set_option maxRecDepth 100000
set_option maxHeartbeats 1000000
namespace K90
open PySem PySem.Spec PyProof.Rows L2 PV LamX
variable {P : Program} {w : World} {K : PySem.W.Frag} {mg : Str → Option Value} {base : Heap}
/-- p / s in lowest terms -/
def low (s p : Nat) : D := .tup [.int ((p / Nat.gcd p s : Nat) : Int), .int ((s / Nat.gcd p s : Nat) : Int)]
def preC (ds : List D) : Prop := ∃ m : Nat, ds = [.int m] ∧ 1 ≤ m ∧ m ≤ 8
def postC (ds : List D) (d : D) : Prop := ∃ (m : Nat) (ps : List Nat), ds = [.int m] ∧ ps.length = m ∧ (∀ p ∈ ps, p ≤ 3) ∧ 0 < ps.sum ∧ d = .lst true (ps.map (low ps.sum))
def insd (ps : List Nat) : List D := ps.map fun (p : Nat) => D.int (p : Int)
theorem entW_2 (N : Nat) (d : D) : entW N [d] = none :: ent (N - 1) [d] := rfl
section
variable {g : Addr} {Tb : List (Addr × Str)} {us mv : List Nat} {te : TE} {c : Nat} {me : PV.Env → R D}
/-- a number is drawn below what te comes to -/
theorem he_rnd0 {pre : PV.Env → Prop} (h : SndE K E0 te me us []) (hc : ∀ ρ, pre ρ → me ρ = .ok (.int (c : Int))) (h0 : 0 < c) (h1 : c < 2 ^ 29) :
    HE K true g Tb 1 (tCall (spW K Tb 1 1 preR postR) [] E0 (tCons (tVar 0) (tCons te tNil))) pre (fun _ d => ∃ z : Nat, d = .int (z : Int) ∧ z < c) us [] := by
  have h2 : HEA K true g Tb 0 (tCons te tNil) pre (fun _ ds => ds = [.int (c : Int)]) us [] := by
    have := hea_cons (g := g) (T := Tb) (hd := true) (he_pure0 (pre := pre) (post := fun _ d => d = .int (c : Int)) h fun ρ hp => ⟨_, hc ρ hp, rfl⟩) hea_nil (by unfold apart; simp)
    intro E n b F O H σ ρ W hp Q hQ
    refine this n b F O H σ ρ W ⟨hp, trivial⟩ Q fun ds vs b' H' B W' s r q => hQ ds vs b' H' B W' s ?_ ?_
    · simpa using r
    · obtain ⟨d, r, rfl, rfl, rfl⟩ := q
      rfl
  have h3 := he_callW (k2 := 1) (len := 1) (preF := preR) (postF := postR) (post := fun _ d => ∃ z : Nat, d = .int (z : Int) ∧ z < c) e0_no h2 (fun ρ ds q => by rw [q]; rfl) (fun ρ ds q => by
    subst q
    exact ⟨c, rfl, by omega, by omega⟩) fun ρ ds d q hd => by
    subst q
    obtain ⟨j, i, e1, rfl, x1, x2⟩ := hd
    have e2 : j = (c : Int) := by
      have : [D.int (c : Int)] = [.int j] := e1
      simp at this
      exact this.symm
    exact ⟨i.toNat, by rw [Int.toNat_of_nonneg x1], by omega⟩
  exact h3
theorem he_rnd (c : Nat) {pre : PV.Env → Prop} (h0 : 0 < c) (h1 : c < 2 ^ 29) :
    HE K true g Tb 1 (tCall (spW K Tb 1 1 preR postR) [] E0 (tCons (tVar 0) (tCons (tC (.int (c : Int))) tNil))) pre (fun _ d => ∃ z : Nat, d = .int (z : Int) ∧ z < c) [] [] := he_rnd0 (me := fun _ => .ok (.int (c : Int))) (snd_int _) (fun _ _ => rfl) h0 h1
/-- 1 + it -/
theorem he_1p {c : Nat} {t : TE} {k : Nat} {pre : PV.Env → Prop} (h : HE K true g Tb k t pre (fun _ d => ∃ z : Nat, d = .int (z : Int) ∧ z < c) us mv) :
    HE K true g Tb k (tOp rPl (tC (.int 1)) t) pre (fun _ d => ∃ z : Nat, d = .int (z : Int) ∧ 1 ≤ z ∧ z ≤ c) [] [] := by
  have h2 := he_opS (post := fun _ d => ∃ z : Nat, d = .int (z : Int) ∧ 1 ≤ z ∧ z ≤ c) ok_add (he_pure0 (g := g) (T := Tb) (hd := true) (pre := pre) (post := fun _ d => d = .int 1) (snd_int 1) fun ρ _ => ⟨_, rfl, rfl⟩) h (fun ρ d e q1 q2 => by
    obtain ⟨z, rfl, hz⟩ := q2
    subst q1
    exact ⟨_, rfl, z + 1, by push_cast; rw [Int.add_comm], by omega, by omega⟩) (by unfold apart; simp)
  rw [Nat.zero_add] at h2
  exact he_cons h2 (fun ρ hp => ⟨hp, hp⟩) fun _ _ _ q => q
end
theorem sum_set {j z : Nat} : ∀ {ps : List Nat}, j < ps.length → 0 < z → 0 < (ps.set j z).sum := by
  intro ps
  induction ps generalizing j with
  | nil => intro h; simp at h
  | cons p ps ih =>
    intro h hz
    cases j with
    | zero => simp; omega
    | succ j =>
      have := ih (j := j) (by simpa using h) hz
      simp
      omega
theorem flat_rep (m : Nat) : (List.replicate m [D.int 0]).flatten = insd (List.replicate m 0) := by
  induction m with
  | zero => rfl
  | succ m ih => rw [List.replicate_succ, List.flatten_cons, ih]; rfl
theorem lenOk_of {n : Nat} (h : n ≤ 1000000) : lenOk n = true := Nat.ble_eq.mpr h
theorem mkL_ok {ds : List D} (h : ds.length ≤ 1000000) : mkL ds = some (.lst true ds) := by
  unfold mkL
  rw [if_pos (lenOk_of h)]
theorem mkT_ok {ds : List D} (h : ds.length ≤ 1000000) : mkT ds = some (.tup ds) := by
  unfold mkT
  rw [if_pos (lenOk_of h)]
theorem fRep_0 {m : Nat} (h8 : m ≤ 8) : fRep (.lst true [.int 0]) (.int m) = some (.lst true (insd (List.replicate m 0))) := by
  have e : (inR (m : Int) && (lenOk (([D.int 0] : List D).length * (m : Int).toNat) && noOwL [D.int 0])) = true := by
    simp only [Bool.and_eq_true]
    exact ⟨inR_of (by omega), lenOk_of (by simp; omega), rfl⟩
  show (if _ then _ else _) = _
  rw [if_pos e, Int.toNat_natCast, flat_rep]
theorem noFz_insd : ∀ ps, noFzL (insd ps) = true
  | [] => rfl
  | p :: ps => by
    show (noFz (.int p) && noFzL (insd ps)) = true
    rw [noFz_insd ps]
    rfl
theorem w_chances (T : Txt P w K mg base) (Tb : List (Addr × Str)) (hR : DefW P w K mg base 2 "_law_random" ["generator", "bound"] Tb 1 1 preR postR) (h__law_lowest : Def P w K mg base 1 "_law_lowest" ["top", "under"] m_law_lowest)
  (mx : ∀ (ps : List Nat) (x : Option D), ps.length ≤ 8 → (∀ p ∈ ps, p ≤ 3) → 0 < ps.sum → (sRet (mLc [2] [4] (iLst (rdV 2)) (bName 4) tYes' (mCall m_law_lowest (aCons (rdV 4) (aCons (mCb fSum (aCons (rdV 2) aNil)) aNil))))) [none, some (.int ps.length), some (.lst true (insd ps)), x, none] = .rt (.lst true (ps.map (low ps.sum)))) :
    DefW P w K mg base 3 "_law_chances" ["generator", "many"] Tb 7 1 preC postC := by
  have sc : FnScope ["generator", "many", "parts", "turn", "part"] ["generator", "many"] (defScope s__law_chances) := ⟨rfl, rfl, rfl, by decide +kernel, rfl, by decide +kernel, by decide +kernel⟩
  have nd := sc.nd
  refine mkW T.g__law_chances (T.d__law_chances) sc rfl (by decide) (fun _ _ _ _ _ _ us hl => match us, hl with | [_, _], _ => rfl) fun cdv A outer s H E hr => ?_
  have S0 : ∃ t, SX (XD P w K mg base ["generator", "many", "parts", "turn", "part"] "_law_chances" (defScope s__law_chances) cdv A outer s H E) E0 (stm (defBody s__law_chances) 0) t _ := ⟨_, (sset 2 nd (xrep (xlst (a1 xi a0)) (xv 1)))⟩
  have S2 : ∃ t, LX (XD P w K mg base ["generator", "many", "parts", "turn", "part"] "_law_chances" (defScope s__law_chances) cdv A outer s H E) E0 ((defBody s__law_chances).drop 2) t _ := ⟨_, (lz (sret (xlc [("part", 4)] rfl nd (ilst (xv 2)) (by rfl) (by intro _ _ _ _ _; exact (gn 4 nd)) (by intro _ _ _ _ _; exact f0) (by intro _ _ _ _ _; exact (xcall h__law_lowest hr (by decide) passB (a1 (xv 4) (a1 (xsum (T.f_sum) rfl (a1 (xv 2) a0)) a0)))))))⟩
  obtain ⟨t0, S0⟩ := S0
  obtain ⟨t2, S2⟩ := S2
  refine ⟨_, pss_cons S0.ps (pss_cons
    (ps_for ownE rfl (pi_range1 rfl (T.f_range) (pa_cons (pe_op op_add (xi (E := E0)).pe (pe_callW hR hr (by decide) passB (a1 (E := E0) (xv 0) (a1 xi a0)).pa)) pa_nil rfl) rfl) (gn 3 nd).pg
      (pss_one (ps_asg (pe_op op_add (xi (E := E0)).pe (pe_callW hR hr (by decide) passB (a1 (E := E0) (xv 0) (a1 xi a0)).pa)) (pg_sub (xv (E := E0) 2).pe (pe_callW hR hr (by decide) passB (a1 (E := E0) (xv 0) (a1 (xv 1) a0)).pa) set_list)))) S2.ps), ?_⟩
  intro g ds hpre
  obtain ⟨m, rfl, h1, h8⟩ := hpre
  let V : List Nat → Option D → PV.Env := fun ps x => [none, some (.int m), some (.lst true (insd ps)), x, none]
  refine hs_k (hs_seq (q := fun ρ => ρ = V (List.replicate m 0) none) (hs_pure0 S0.sn fun ρ hp => ?_) (hs_seq (q := fun ρ => ∃ ps x, ps.length = m ∧ (∀ p ∈ ps, p ≤ 3) ∧ 0 < ps.sum ∧ ρ = V ps x)
    (hs_nx (rt := postC [.int m]) (hs_for (sng_name 3) (kp_name (.inl (by decide))) (.inl rfl) (N := 3) (c := 2) (hi_rng1 (he_1p (he_rnd 3 (by decide) (by decide))) fun ρ d q => ?_) []
      (fun ds j ρ => ∃ ps x, ps.length = m ∧ (∀ p ∈ ps, p ≤ 3) ∧ (0 < j → 0 < ps.sum) ∧ ρ = V ps x) (fun ρ ds q => ?_) (fun ρ ds hp q => ?_) (fun ds j d ρ _ _ _ => ⟨_, rfl⟩) fun ds j d hx hd => ?_) ?_ fun _ h => h)
    (hs_end0 S2.sn fun ρ hp => ?_))) (by decide)
  · subst hp
    have e1 := fRep_0 h8
    refine ⟨[some (.box (.adr g) []), some (.int m), some (.lst true (insd (List.replicate m 0))), none, none], ?_, fun _ => rfl, rfl⟩
    simp [sAsg, put0, entW, ent, PV.bin, mLst, mkL_ok, aCons, aNil, cI, rdV, fz, R.bind_ok, ofO, e1, thnE, toF, bName, pre, noFz, noFz_insd]
  · obtain ⟨z, rfl, _, _⟩ := q
    exact ⟨z, rfl, by omega⟩
  · obtain ⟨j, ⟨z, e, _, _⟩, rfl⟩ := q
    simp [rngL]
    simp at e
    omega
  · subst hp
    exact ⟨_, none, List.length_replicate, fun p hp => by rw [(List.mem_replicate.mp hp).2]; omega, fun h => absurd h (by omega), frzA_nil _ _⟩
  · refine hs_nx (rt := postC [.int m]) (hs_pre (hs_store 2 (he_1p (he_rnd 3 (by decide) (by decide))) (he_rnd0 (c := m) (snd_var 1) (pre := fun ρ => ∃ ps x, ps.length = m ∧ (∀ p ∈ ps, p ≤ 3) ∧ ρ = V ps x) (fun ρ hp => ?_) (by omega) (by omega)) (.inl (by decide)) (fun ρ d hq => ?_) (fun ρ d hp hq => ?_)) ?_) ?_ fun _ h => h
    · obtain ⟨ps, x, _, _, rfl⟩ := hp
      rfl
    · obtain ⟨z, rfl, _, _⟩ := hq
      rfl
    · obtain ⟨ps, x, q1, _, rfl⟩ := hp
      obtain ⟨z, rfl, hz⟩ := hq
      exact ⟨_, rfl, z, rfl, by unfold insd; rw [List.length_map, q1]; exact hz⟩
    · rintro ρ ⟨ρ0, ⟨ps, x, q1, q2, q3, rfl⟩, e⟩
      cases e
      exact ⟨⟨ps, some d, q1, q2, rfl⟩, _, rfl⟩
    · rintro ρ ⟨ρ0, d1, ds1, z, ⟨ps, x, q1, q2, rfl⟩, ⟨y, rfl, y1, y2⟩, _, e, hlt, rfl⟩
      cases e
      have hlt' : z < ps.length := by
        have : z < (insd ps).length := hlt
        unfold insd at this
        rwa [List.length_map] at this
      refine ⟨ps.set z y, x, by rw [List.length_set]; exact q1, fun p hp => ?_, fun _ => sum_set hlt' (by omega), ?_⟩
      · rcases List.mem_or_eq_of_mem_set hp with h | h
        · exact q2 p h
        · omega
      · show [none, some (D.int m), some (.lst true ((insd ps).set z (.int y))), x, none] = _
        unfold insd
        rw [← List.map_set]
        rfl
  · rintro ρ ⟨ds, ⟨ρ0, rfl, j, ⟨z, e, z1, z2⟩, rfl⟩, ps, x, q1, q2, q3, rfl⟩
    refine ⟨ps, x, q1, q2, q3 ?_, rfl⟩
    simp [rngL]
    simp at e
    omega
  · obtain ⟨ps, x, q1, q2, q3, rfl⟩ := hp
    have := mx ps x (by omega) q2 q3
    rw [q1] at this
    exact ⟨_, this, m, ps, rfl, q1, q2, q3, rfl⟩
end K90
end
section
set_option Elab.async false
set_option linter.all false
set_option maxRecDepth 100000
set_option maxHeartbeats 1000000
namespace K90
open PySem PySem.Spec PyProof.Rows L2 PV LamX
variable {P : Program} {w : World} {K : PySem.W.Frag} {mg : Str → Option Value} {base : Heap}
/-- a deed: what it pays (top, under), its parts -/
structure Dd where
  top : Nat
  und : Nat
  ps : List Nat
/-- in a world of n places -/
structure Dd.Ok (n : Nat) (d : Dd) : Prop where
  t : d.top ≤ 4
  u0 : 1 ≤ d.und
  u1 : d.und ≤ 2
  len : d.ps.length = n
  p3 : ∀ p ∈ d.ps, p ≤ 3
  sum : 0 < d.ps.sum
def deedD (b : Bool) (d : Dd) : D := .tup [low d.und d.top, .lst b (d.ps.map (low d.ps.sum))]
def placeD (b : Bool) (ds : List Dd) : D := .lst b (ds.map (deedD b))
def worldD (b : Bool) (wd : List (List Dd)) : D := .tup [.str "world", .lst b (wd.map (placeD b))]
structure PlOk (n : Nat) (ds : List Dd) : Prop where
  l0 : 1 ≤ ds.length
  l3 : ds.length ≤ 3
  ok : ∀ d ∈ ds, d.Ok n
structure WdOk (m : Nat) (wd : List (List Dd)) : Prop where
  l0 : 1 ≤ wd.length
  l1 : wd.length ≤ m
  ok : ∀ ds ∈ wd, PlOk wd.length ds
def preWd (ds : List D) : Prop := ∃ m : Nat, ds = [.int m] ∧ 1 ≤ m ∧ m ≤ 8
def postWd (ds : List D) (d : D) : Prop := ∃ (m : Nat) (wd : List (List Dd)), ds = [.int m] ∧ WdOk m wd ∧ d = worldD true wd
theorem w_world (T : Txt P w K mg base) (Tb : List (Addr × Str)) (hR : DefW P w K mg base 2 "_law_random" ["generator", "bound"] Tb 1 1 preR postR) (hC : DefW P w K mg base 3 "_law_chances" ["generator", "many"] Tb 7 1 preC postC) (h__law_lowest : Def P w K mg base 1 "_law_lowest" ["top", "under"] m_law_lowest)
  (lw : ∀ t u : Nat, t ≤ 4 → 1 ≤ u → u ≤ 2 → m_law_lowest [.int t, .int u] = .ok (low u t)) :
    DefW P w K mg base 4 "_law_world" ["generator", "most"] Tb 225 1 preWd postWd := by
  have sc : FnScope ["generator", "most", "many", "places", "place", "deed"] ["generator", "most"] (defScope s__law_world) := ⟨rfl, rfl, rfl, by decide +kernel, rfl, by decide +kernel, by decide +kernel⟩
  have nd := sc.nd
  refine mkW T.g__law_world (T.d__law_world) sc rfl (by decide) (fun _ _ _ _ _ _ us hl => match us, hl with | [_, _], _ => rfl) fun cdv A outer s H E hr => ?_
  have S1 : ∃ t, SX (XD P w K mg base ["generator", "most", "many", "places", "place", "deed"] "_law_world" (defScope s__law_world) cdv A outer s H E) E0 (stm (defBody s__law_world) 1) t _ := ⟨_, (sset 3 nd (xlst a0))⟩
  have S3 : ∃ t, LX (XD P w K mg base ["generator", "most", "many", "places", "place", "deed"] "_law_world" (defScope s__law_world) cdv A outer s H E) E0 ((defBody s__law_world).drop 3) t _ := ⟨_, (lz (sret (xtup (a1 xs (a1 (xm 3) a0)))))⟩
  obtain ⟨t1, S1⟩ := S1
  obtain ⟨t3, S3⟩ := S3
  refine ⟨_, pss_cons (wset 2 nd (pe_op op_add (xi (E := E0)).pe (pe_callW hR hr (by decide) passB (a1 (E := E0) (xv 0) (a1 (xv 1) a0)).pa))) (pss_cons S1.ps (pss_cons
    (ps_for ownE rfl (irng1 (E := E0) (T.f_range) (xv 2)).pi (gn 4 nd).pg
      (pss_one (wapp 3 (wlc [("deed", 5)] rfl nd (pi_range1 rfl (T.f_range) (pa_cons (pe_op op_add (xi (E := E0)).pe (pe_callW hR hr (by decide) passB (a1 (E := E0) (xv 0) (a1 xi a0)).pa)) pa_nil rfl) rfl) (by rfl) (by intro _ _ _ _ _; exact (gn 5 nd).pg) (by intro _ _ _ _ _; exact pts_nil)
        (by intro _ _ _ _ _; exact pe_tup (pa_cons (pe_callD h__law_lowest hr (by decide) passB (pa_cons (pe_callW hR hr (by decide) passB (a1 (E := E0) (xv 0) (a1 xi a0)).pa) (pa_cons (pe_op op_add (xi (E := E0)).pe (pe_callW hR hr (by decide) passB (a1 (E := E0) (xv 0) (a1 xi a0)).pa)) pa_nil))) (pa_cons (pe_callW hC hr (by decide) passB (a1 (E := E0) (xv 0) (a1 (xv 2) a0)).pa) pa_nil))))))) S3.ps)), ?_⟩
  intro g ds hpre
  obtain ⟨m, rfl, h1, h8⟩ := hpre
  let V : Nat → List D → Option D → PV.Env := fun n pls x => [none, some (.int m), some (.int n), some (.lst true pls), x, none]
  refine hs_k (hs_seq (q := fun ρ => ∃ n : Nat, (1 ≤ n ∧ n ≤ m) ∧ ρ = [none, some (.int m), some (.int n), none, none, none]) (hs_nx (rt := postWd [.int m]) (hs_asg 2 (.inl (by decide)) (he_1p (he_rnd0 (c := m) (snd_var 1) (fun ρ hp => ?_) (by omega) (by omega)))) ?_ fun _ h => h)
    (hs_ex fun n => hs_and fun hn => hs_seq (q := fun ρ => ρ = V n [] none) (hs_pure0 S1.sn fun ρ hp => ?_) (hs_seq (q := fun ρ => ∃ pls x, pls.length = n ∧ (∀ p ∈ pls, ∃ pl, PlOk n pl ∧ p = placeD true pl) ∧ ρ = V n pls x)
      (hs_nx (rt := postWd [.int m]) (hs_for (sng_name 4) (kp_name (.inl (by decide))) (.inl rfl) (N := 8) (c := 28) (hi_pure0 (post := fun _ ds => ds = rngL 0 n) (sni_rng1 (snd_var 2)) fun ρ hp => ?_) []
        (fun ds j ρ => ∃ pls x, pls.length = j ∧ (∀ p ∈ pls, ∃ pl, PlOk n pl ∧ p = placeD true pl) ∧ ρ = V n pls x) (fun ρ ds q => ?_) (fun ρ ds hp q => ?_) (fun ds j d ρ _ _ _ => ⟨_, rfl⟩) fun ds j d hx hd => ?_) ?_ fun _ h => h)
      (hs_end0 S3.sn fun ρ hp => ?_)))) (by decide)
  · subst hp
    rfl
  · rintro ρ ⟨ρ0, d, rfl, ⟨z, rfl, z1, z2⟩, rfl⟩
    exact ⟨z, ⟨z1, z2⟩, rfl⟩
  · subst hp
    exact ⟨[some (.box (.adr g) []), some (.int m), some (.int n), some (.lst true []), none, none], rfl, fun _ => rfl, rfl⟩
  · subst hp
    refine ⟨_, ?_, rfl⟩
    show (if inR (n : Int) = true then R.ok (rngL 0 (n : Int).toNat) else R.fail) = _
    rw [if_pos (inR_of (by omega)), Int.toNat_natCast]
  · subst q
    simp [rngL]
    omega
  · subst hp
    exact ⟨[], none, by simp, fun _ z => (nomatch z), frzA_nil _ _⟩
  · have jlt : j < n := by
      obtain ⟨_, rfl⟩ := hx
      rcases Nat.lt_or_ge j n with h | h
      · exact h
      · rw [List.getElem?_eq_none (by simp [rngL]; exact h)] at hd
        cases hd
    refine hs_nx (rt := postWd [.int m]) (hs_pre (hs_app 3 (he_cons (q' := fun _ d => ∃ pl, PlOk n pl ∧ d = placeD true pl) (p' := fun ρ => ∃ pls x, pls.length = j ∧ (∀ p ∈ pls, ∃ pl, PlOk n pl ∧ p = placeD true pl) ∧ ρ = V n pls x)
      (he_lc (N := 3) (hi_rng1 (he_1p (he_rnd 3 (by decide) (by decide))) fun ρ d q => ?_) (sng_name 5) (kp_name (.inl (by decide))) (ht_yes (p := fun _ => True))
        (he_cons (p' := fun ρ => ρ[2]? = some (some (.int n))) (q' := fun _ d => ∃ dd : Dd, dd.Ok n ∧ d = deedD true dd) (he_tup (hea_two (he_call (len := 2) (fm := m_law_lowest) (post := fun _ d => ∃ t u : Nat, (t ≤ 4 ∧ 1 ≤ u ∧ u ≤ 2) ∧ d = low u t) e0_no (hea_two (he_rnd 5 (by decide) (by decide)) (he_1p (he_rnd 2 (by decide) (by decide)))) (fun ρ ds q => ?_) fun ρ ds q => ?_)
          (he_callW (k2 := 7) (len := 1) (preF := preC) (postF := postC) (post := fun _ d => ∃ ps : List Nat, (ps.length = n ∧ (∀ p ∈ ps, p ≤ 3) ∧ 0 < ps.sum) ∧ d = .lst true (ps.map (low ps.sum))) e0_no (hea_one (he_pure0 (post := fun _ d => d = .int n) (snd_var 2) fun ρ hp => ?_)) (fun ρ ds q => ?_) (fun ρ ds q => ?_) fun ρ ds d q hd => ?_)) (fun ρ ds q => ?_)) (fun ρ hp => hp) fun ρ d hp q => ?_)
        (fun ρ ds hp q => ?_) (by decide) (fun ρ ds d hp q hd => ?_)) (fun ρ hp => hp) (fun ρ d hp q => ?_)) (.inl (by decide)) (by rfl) (by rfl) (by rfl) (fun ρ d hp q => ?_)) (fun ρ hp => ?_)) ?_ fun _ h => h
    · obtain ⟨z, rfl, _, _⟩ := q
      exact ⟨z, rfl, by omega⟩
    · obtain ⟨d, e, rfl, _, _⟩ := q
      rfl
    · obtain ⟨d, e, rfl, ⟨t, rfl, ht⟩, u, rfl, u1, u2⟩ := q
      exact ⟨low u t, lw t u (by omega) u1 u2, t, u, ⟨by omega, u1, u2⟩, rfl⟩
    · unfold rdV
      rw [hp]
      exact ⟨_, rfl, rfl⟩
    · obtain ⟨d, rfl, _⟩ := q
      rfl
    · obtain ⟨d, rfl, rfl⟩ := q
      exact ⟨n, rfl, hn.1, by omega⟩
    · obtain ⟨d', rfl, rfl⟩ := q
      obtain ⟨n', ps, e1, e2, e3, e4, rfl⟩ := hd
      have e1' : (n : Int) = n' := by
        have e1 : [D.int (n : Int)] = [.int n'] := e1
        simpa using e1
      exact ⟨ps, ⟨by omega, e3, e4⟩, rfl⟩
    · obtain ⟨d, e, rfl, _, _⟩ := q
      rfl
    · obtain ⟨ds, rfl, d, e, rfl, ⟨t, u, ⟨t1, u1, u2⟩, rfl⟩, ps, ⟨p1, p2, p3⟩, rfl⟩ := q
      exact ⟨⟨t, u, ps⟩, ⟨t1, u1, u2, p1, p2, p3⟩, rfl⟩
    · obtain ⟨z, ⟨y, e, _, _⟩, rfl⟩ := q
      simp [rngL]
      simp at e
      omega
    · obtain ⟨pls, x, _, _, rfl⟩ := hp
      exact ⟨[none, some (.int m), some (.int n), some (.lst true pls), x, some d], rfl, trivial, fun _ => rfl⟩
    · obtain ⟨ds, rs, ⟨z, ⟨y, e, y1, y2⟩, rfl⟩, hl, rfl⟩ := q
      obtain ⟨l1, l2⟩ := lcR_all hl
      obtain ⟨pl, rfl, hpl⟩ := list_choose (F := deedD true) (p := fun dd => dd.Ok n) (rs := rs) fun r hr => by
        obtain ⟨_, dd, h1, h2⟩ := l2 r hr
        exact ⟨dd, h1, h2⟩
      have lz : pl.length = z := by simpa [rngL] using l1
      have ey : (z : Int) = y := by injection e
      exact ⟨pl, ⟨by omega, by omega, hpl⟩, rfl⟩
    · obtain ⟨pls, x, q1, _, rfl⟩ := hp
      exact ⟨pls, rfl, lenOk_of (by omega)⟩
    · obtain ⟨ρ0, ⟨pls, x, q1, q2, rfl⟩, e⟩ := hp
      cases e
      exact ⟨⟨pls, some d, q1, q2, rfl⟩, pls, rfl⟩
    · rintro ρ ⟨ρ0, d1, ds1, ⟨pls, x, q1, q2, rfl⟩, ⟨pl, p1, rfl⟩, e, rfl⟩
      cases e
      refine ⟨ds1 ++ [placeD true pl], x, by simp [q1], fun p hp => ?_, ?_⟩
      · rcases List.mem_append.mp hp with h | h
        · exact q2 p h
        · rw [List.mem_singleton.mp h]
          exact ⟨pl, p1, rfl⟩
      · cases noFz (placeD true pl) <;> rfl
  · rintro ρ ⟨ds, ⟨ρ0, rfl, rfl⟩, pls, x, q1, q2, rfl⟩
    exact ⟨pls, x, by rw [q1]; simp [rngL], q2, rfl⟩
  · obtain ⟨pls, x, q1, q2, rfl⟩ := hp
    obtain ⟨wd, rfl, hw⟩ := list_choose q2
    rw [List.length_map] at q1
    exact ⟨_, rfl, m, wd, rfl, ⟨by omega, by omega, fun ds h => q1 ▸ hw ds h⟩, rfl⟩
end K90
end
section
set_option Elab.async false
set_option linter.all false
set_option maxRecDepth 100000
set_option maxHeartbeats 1000000
namespace K90
open PySem PySem.Spec PyProof.Rows L2 PV LamX
variable {P : Program} {w : World} {K : PySem.W.Frag} {mg : Str → Option Value} {base : Heap}
def q_law_deed_right_0 : PV.Env → Fl := (sAsg [1, 2, 3] [] (mCall m_law_spans (aCons (bin (bin (bin (bin (rdV 1) (cI 1) fIx) (rdV 2) fIx) (rdV 3) fIx) (cI 1) fIx) aNil)) (bName 4))
theorem sx_law_deed_right_0 (T : Txt P w K mg base) (h__law_spans : Def P w K mg base 3 "_law_spans" ["chances"] m_law_spans) (nd : (["generator", "world", "place", "deed", "spans", "late", "span", "some", "one", "draw", "due"] : List Str).Nodup) {cdv : Value} {A : Around} {outer : List PySem.Env} {s : Shared} {H : Hp} {E : XK} {kk : Nat} (hr : RoomG kk (A.deeper (envOfC "_law_deed_right" (defScope s__law_deed_right) s.heap.objs.size (He.ga K "_law_deed_right") cdv))) (hk : 3 ≤ kk) : ∃ t, SX (XD P w K mg base ["generator", "world", "place", "deed", "spans", "late", "span", "some", "one", "draw", "due"] "_law_deed_right" (defScope s__law_deed_right) cdv A outer s H E) E0 (stm (defBody s__law_deed_right) 0) t q_law_deed_right_0 :=
  ⟨_, (sset 4 nd (xcall h__law_spans hr (Nat.le_trans (by decide) hk) passB (a1 (xix (xix (xix (xix (xv 1) xi) (xv 2)) (xv 3)) xi) a0)))⟩
def q_law_deed_right_1 : PV.Env → Fl := (sFor [4] (iEn (rdV 4)) (bTup (bCons (bName 5) (bCons (bName 6) bNil)) 2) (sIf (mNot (tst (mCall m_law_exact (aCons (mLst (aCons (mCall m_draws_to (aCons (rdV 1) (aCons (rdV 2) (aCons (rdV 3) (aCons (rdV 5) aNil))))) (aCons (mCallK [3, 2, 1, 0] m_draws_to (aCons (rdV 5) (aCons (rdV 3) (aCons (rdV 2) (aCons (rdV 1) aNil))))) aNil))) (aCons (mLst (aCons (rdV 6) (aCons (rdV 6) aNil))) aNil))))) (sRet (cB false)) sNil))
theorem sx_law_deed_right_1 (T : Txt P w K mg base) (h_draws_to : Def P w K mg base 9 "draws_to" ["world", "place", "deed", "late"] m_draws_to) (h__law_exact : Def P w K mg base 1 "_law_exact" ["told", "due"] m_law_exact) (nd : (["generator", "world", "place", "deed", "spans", "late", "span", "some", "one", "draw", "due"] : List Str).Nodup) {cdv : Value} {A : Around} {outer : List PySem.Env} {s : Shared} {H : Hp} {E : XK} {kk : Nat} (hr : RoomG kk (A.deeper (envOfC "_law_deed_right" (defScope s__law_deed_right) s.heap.objs.size (He.ga K "_law_deed_right") cdv))) (hk : 9 ≤ kk) : ∃ t, SX (XD P w K mg base ["generator", "world", "place", "deed", "spans", "late", "span", "some", "one", "draw", "due"] "_law_deed_right" (defScope s__law_deed_right) cdv A outer s H E) E0 (stm (defBody s__law_deed_right) 1) t q_law_deed_right_1 :=
  ⟨_, (sfor ownE rfl (ienum (T.f_enumerate) (xv 4)) (gt rfl (h1 (gn 5 nd) (h1 (gn 6 nd) h0))) (lz (sif (tnot (tx (xcall h__law_exact hr (Nat.le_trans (by decide) hk) passB (a1 (xlst (a1 (xcall h_draws_to hr (Nat.le_trans (by decide) hk) passB (a1 (xv 1) (a1 (xv 2) (a1 (xv 3) (a1 (xv 5) a0))))) (a1 (xcallK h_draws_to (T.d_draws_to) [3, 2, 1, 0] ["late", "deed", "place", "world"] (fun _ _ _ _ _ _ ws hl => match ws, hl with | [_, _, _, _], _ => rfl) hr (Nat.le_trans (by decide) hk) passB (k1 (xv 5) (k1 (xv 3) (k1 (xv 2) (k1 (xv 1) k0))))) a0))) (a1 (xlst (a1 (xv 6) (a1 (xv 6) a0))) a0))))) (lz (sret xb)) l0)))⟩
def q_law_deed_right_3 : PV.Env → Fl := (sFor [4, 8] (iLst (mLc [4] [8] (iLst (rdV 4)) (bName 8) (tst (bin (rdV 8) cN fIsNot)) (rdV 8))) (bName 6) (sAsg [7, 6, 6, 6, 6, 9] [] (bin (rdV 7) (mLc [6, 6, 6, 6] [9] (iLst (mLst (aCons (bin (rdV 6) (cI 0) fIx) (aCons (bin (rdV 6) (cI 1) fIx) (aCons (mCall m_law_less (aCons (bin (rdV 6) (cI 1) fIx) (aCons (mTup (aCons (cI 1) (aCons (bin (cI 10) (cI 6) fPow) aNil))) aNil))) (aCons (mCall m_law_plus (aCons (bin (rdV 6) (cI 0) fIx) (aCons (mTup (aCons (cI 1) (aCons (bin (cI 10) (cI 6) fPow) aNil))) aNil))) aNil)))))) (bName 9) (tst (mCall m_law_under (aCons (rdV 9) (aCons (mTup (aCons (cI 1) (aCons (cI 1) aNil))) aNil)))) (rdV 9)) fAddD) (bName 7)))
theorem sx_law_deed_right_3 (T : Txt P w K mg base) (h__law_less : Def P w K mg base 3 "_law_less" ["one", "other"] m_law_less) (h__law_plus : Def P w K mg base 2 "_law_plus" ["one", "other"] m_law_plus) (h__law_under : Def P w K mg base 1 "_law_under" ["one", "other"] m_law_under) (nd : (["generator", "world", "place", "deed", "spans", "late", "span", "some", "one", "draw", "due"] : List Str).Nodup) {cdv : Value} {A : Around} {outer : List PySem.Env} {s : Shared} {H : Hp} {E : XK} {kk : Nat} (hr : RoomG kk (A.deeper (envOfC "_law_deed_right" (defScope s__law_deed_right) s.heap.objs.size (He.ga K "_law_deed_right") cdv))) (hk : 3 ≤ kk) : ∃ t, SX (XD P w K mg base ["generator", "world", "place", "deed", "spans", "late", "span", "some", "one", "draw", "due"] "_law_deed_right" (defScope s__law_deed_right) cdv A outer s H E) E0 (stm (defBody s__law_deed_right) 3) t q_law_deed_right_3 :=
  ⟨_, (sfor ownE rfl (ilst (xlc [("one", 8)] rfl nd (ilst (xv 4)) (by rfl) (by intro _ _ _ _ _; exact (gn 8 nd)) (by intro _ _ _ _ _; exact (f1 (tisn (xv 8) xn))) (by intro _ _ _ _ _; exact (xv 8)))) (gn 6 nd) (lz (sset 7 nd (xadd (xv 7) (xlc [("draw", 9)] rfl nd (ilst (xlst (a1 (xix (xv 6) xi) (a1 (xix (xv 6) xi) (a1 (xcall h__law_less hr (Nat.le_trans (by decide) hk) passB (a1 (xix (xv 6) xi) (a1 (xtup (a1 xi (a1 (xpow xi xi) a0))) a0))) (a1 (xcall h__law_plus hr (Nat.le_trans (by decide) hk) passB (a1 (xix (xv 6) xi) (a1 (xtup (a1 xi (a1 (xpow xi xi) a0))) a0))) a0)))))) (by rfl) (by intro _ _ _ _ _; exact (gn 9 nd)) (by intro _ _ _ _ _; exact (f1 (tx (xcall h__law_under hr (Nat.le_trans (by decide) hk) passB (a1 (xv 9) (a1 (xtup (a1 xi (a1 xi a0))) a0)))))) (by intro _ _ _ _ _; exact (xv 9)))))))⟩
def q_law_deed_right_4 : PV.Env → Fl := (sSeq (sFor [7] (iLst (rdV 7)) (bName 9) (sSeq (sAsg [4, 9] [] (mCall m_law_led_by (aCons (rdV 4) (aCons (rdV 9) aNil))) (bName 10)) (sIf (mNot (tst (mCall m_law_exact (aCons (mLst (aCons (mCall m_next_by (aCons (rdV 1) (aCons (rdV 2) (aCons (rdV 3) (aCons (rdV 9) aNil))))) (aCons (mCallK [3, 2, 1, 0] m_next_by (aCons (rdV 9) (aCons (rdV 3) (aCons (rdV 2) (aCons (rdV 1) aNil))))) aNil))) (aCons (mLst (aCons (rdV 10) (aCons (rdV 10) aNil))) aNil))))) (sRet (cB false)) sNil))) (sRet (cB true)))
theorem sx_law_deed_right_4 (T : Txt P w K mg base) (h__law_exact : Def P w K mg base 1 "_law_exact" ["told", "due"] m_law_exact) (h__law_led_by : Def P w K mg base 2 "_law_led_by" ["spans", "draw"] m_law_led_by) (h_next_by : Def P w K mg base 9 "next_by" ["world", "place", "deed", "draw"] m_next_by) (nd : (["generator", "world", "place", "deed", "spans", "late", "span", "some", "one", "draw", "due"] : List Str).Nodup) {cdv : Value} {A : Around} {outer : List PySem.Env} {s : Shared} {H : Hp} {E : XK} {kk : Nat} (hr : RoomG kk (A.deeper (envOfC "_law_deed_right" (defScope s__law_deed_right) s.heap.objs.size (He.ga K "_law_deed_right") cdv))) (hk : 9 ≤ kk) : ∃ t, LX (XD P w K mg base ["generator", "world", "place", "deed", "spans", "late", "span", "some", "one", "draw", "due"] "_law_deed_right" (defScope s__law_deed_right) cdv A outer s H E) E0 ((defBody s__law_deed_right).drop 4) t q_law_deed_right_4 :=
  ⟨_, (l1 (sfor ownE rfl (ilst (xv 7)) (gn 9 nd) (l1 (sset 10 nd (xcall h__law_led_by hr (Nat.le_trans (by decide) hk) passB (a1 (xv 4) (a1 (xv 9) a0)))) (lz (sif (tnot (tx (xcall h__law_exact hr (Nat.le_trans (by decide) hk) passB (a1 (xlst (a1 (xcall h_next_by hr (Nat.le_trans (by decide) hk) passB (a1 (xv 1) (a1 (xv 2) (a1 (xv 3) (a1 (xv 9) a0))))) (a1 (xcallK h_next_by (T.d_next_by) [3, 2, 1, 0] ["draw", "deed", "place", "world"] (fun _ _ _ _ _ _ ws hl => match ws, hl with | [_, _, _, _], _ => rfl) hr (Nat.le_trans (by decide) hk) passB (k1 (xv 9) (k1 (xv 3) (k1 (xv 2) (k1 (xv 1) k0))))) a0))) (a1 (xlst (a1 (xv 10) (a1 (xv 10) a0))) a0))))) (lz (sret xb)) l0)))) (lz (sret xb)))⟩
def q_law_right_1 : PV.Env → Fl := (sAsg [] [] (mCb fRepr (aCons (rdV 1) aNil)) (bName 2))
theorem sx_law_right_1 (T : Txt P w K mg base) (nd : (["generator", "world", "kept", "place", "deeds", "deed"] : List Str).Nodup) {cdv : Value} {A : Around} {outer : List PySem.Env} {s : Shared} {H : Hp} {E : XK} {kk : Nat} (hr : RoomG kk (A.deeper (envOfC "_law_right" (defScope s__law_right) s.heap.objs.size (He.ga K "_law_right") cdv))) (hk : 0 ≤ kk) : ∃ t, SX (XD P w K mg base ["generator", "world", "kept", "place", "deeds", "deed"] "_law_right" (defScope s__law_right) cdv A outer s H E) E0 (stm (defBody s__law_right) 1) t q_law_right_1 :=
  ⟨_, (sset 2 nd (xrepr hr T.sysm (T.f_repr) (a1 (xv 1) a0)))⟩
end K90
end
section
set_option Elab.async false
set_option linter.all false
set_option maxRecDepth 100000
set_option maxHeartbeats 1000000
namespace K90
open PySem PySem.Spec PyProof.Rows L2 PV LamX
variable {P : Program} {w : World} {K : PySem.W.Frag} {mg : Str → Option Value} {base : Heap}
/-- from where on, up to where -/
def spanD (s : Nat) (c p : Nat) : D := if 0 < p then .tup [low s c, low s (c + p)] else .non
def spansL (s : Nat) : Nat → List Nat → List D
  | _, [] => []
  | c, p :: ps => spanD s c p :: spansL s (c + p) ps
def spansD (b : Bool) (ps : List Nat) : D := .lst b (spansL ps.sum 0 ps)
/-- a draw -/
def DrawOk (e : D) : Prop := ∃ n d : Nat, e = .tup [.int n, .int d] ∧ n < d ∧ Nat.gcd n d = 1 ∧ d < 2 ^ 40
def preDR (ds : List D) : Prop := ∃ (wd : List (List Dd)) (p d : Nat) (pl : List Dd) (dd : Dd), ds = [worldD false wd, .int p, .int d] ∧ WdOk 5 wd ∧ wd[p]? = some pl ∧ pl[d]? = some dd
theorem w_deed_right (T : Txt P w K mg base) (Tb : List (Addr × Str)) (hR : DefW P w K mg base 2 "_law_random" ["generator", "bound"] Tb 1 1 preR postR)
  (h__law_lowest : Def P w K mg base 1 "_law_lowest" ["top", "under"] m_law_lowest)
  (S0' : ∀ {cdv A outer s H E}, RoomG 9 (A.deeper (envOfC "_law_deed_right" (defScope s__law_deed_right) s.heap.objs.size (He.ga K "_law_deed_right") cdv)) → ∃ t, SX (XD P w K mg base ["generator", "world", "place", "deed", "spans", "late", "span", "some", "one", "draw", "due"] "_law_deed_right" (defScope s__law_deed_right) cdv A outer s H E) E0 (stm (defBody s__law_deed_right) 0) t q_law_deed_right_0)
  (S1' : ∀ {cdv A outer s H E}, RoomG 9 (A.deeper (envOfC "_law_deed_right" (defScope s__law_deed_right) s.heap.objs.size (He.ga K "_law_deed_right") cdv)) → ∃ t, SX (XD P w K mg base ["generator", "world", "place", "deed", "spans", "late", "span", "some", "one", "draw", "due"] "_law_deed_right" (defScope s__law_deed_right) cdv A outer s H E) E0 (stm (defBody s__law_deed_right) 1) t q_law_deed_right_1)
  (S3' : ∀ {cdv A outer s H E}, RoomG 9 (A.deeper (envOfC "_law_deed_right" (defScope s__law_deed_right) s.heap.objs.size (He.ga K "_law_deed_right") cdv)) → ∃ t, SX (XD P w K mg base ["generator", "world", "place", "deed", "spans", "late", "span", "some", "one", "draw", "due"] "_law_deed_right" (defScope s__law_deed_right) cdv A outer s H E) E0 (stm (defBody s__law_deed_right) 3) t q_law_deed_right_3)
  (S4' : ∀ {cdv A outer s H E}, RoomG 9 (A.deeper (envOfC "_law_deed_right" (defScope s__law_deed_right) s.heap.objs.size (He.ga K "_law_deed_right") cdv)) → ∃ t, LX (XD P w K mg base ["generator", "world", "place", "deed", "spans", "late", "span", "some", "one", "draw", "due"] "_law_deed_right" (defScope s__law_deed_right) cdv A outer s H E) E0 ((defBody s__law_deed_right).drop 4) t q_law_deed_right_4)
  (hl : ∀ r : Nat, r < 97 → m_law_lowest [.int r, .int 97] = .ok (low 97 r))
  (h0 : ∀ wd p d pl dd z, WdOk 5 wd → wd[p]? = some pl → pl[d]? = some dd → q_law_deed_right_0 [z, some (worldD false wd), some (.int (p : Nat)), some (.int (d : Nat)), none, none, none, none, none, none, none] = .nx [z, some (worldD false wd), some (.int p), some (.int d), some (spansD true dd.ps), none, none, none, none, none, none])
  (h1 : ∀ wd p d pl dd z, WdOk 5 wd → wd[p]? = some pl → pl[d]? = some dd → ∃ x y, q_law_deed_right_1 [z, some (worldD false wd), some (.int (p : Nat)), some (.int (d : Nat)), some (spansD true dd.ps), none, none, none, none, none, none] = .nx [z, some (worldD false wd), some (.int p), some (.int d), some (spansD false dd.ps), x, y, none, none, none, none])
  (h3 : ∀ wd p d pl dd z x y r, WdOk 5 wd → wd[p]? = some pl → pl[d]? = some dd → r < 97 → ∃ y' es, (∀ e ∈ es, DrawOk e) ∧ q_law_deed_right_3 [z, some (worldD false wd), some (.int (p : Nat)), some (.int (d : Nat)), some (spansD false dd.ps), x, y, some (.lst true [.tup [.int 0, .int 1], .tup [.int 999999, .int 1000000], low 97 r]), none, none, none] = .nx [z, some (worldD false wd), some (.int p), some (.int d), some (spansD false dd.ps), x, y', some (.lst true es), none, none, none])
  (h4 : ∀ wd p d pl dd z x y es, WdOk 5 wd → wd[p]? = some pl → pl[d]? = some dd → (∀ e ∈ es, DrawOk e) → q_law_deed_right_4 [z, some (worldD false wd), some (.int (p : Nat)), some (.int (d : Nat)), some (spansD false dd.ps), x, y, some (.lst true es), none, none, none] = .rt (.bl true)) :
    DefW P w K mg base 10 "_law_deed_right" ["generator", "world", "place", "deed"] Tb 1 3 preDR (fun _ d => d = .bl true) := by
  have sc : FnScope ["generator", "world", "place", "deed", "spans", "late", "span", "some", "one", "draw", "due"] ["generator", "world", "place", "deed"] (defScope s__law_deed_right) := ⟨rfl, rfl, rfl, by decide +kernel, rfl, by decide +kernel, by decide +kernel⟩
  have nd := sc.nd
  refine mkW T.g__law_deed_right (T.d__law_deed_right) sc rfl (by decide) (fun _ _ _ _ _ _ us hl => match us, hl with | [_, _, _, _], _ => rfl) fun cdv A outer s H E hr => ?_
  obtain ⟨t0, S0⟩ := S0' (outer := outer) (H := H) (E := E) hr
  obtain ⟨t1, S1⟩ := S1' (outer := outer) (H := H) (E := E) hr
  obtain ⟨t3, S3⟩ := S3' (outer := outer) (H := H) (E := E) hr
  obtain ⟨t4, S4⟩ := S4' (outer := outer) (H := H) (E := E) hr
  refine ⟨_, pss_cons S0.ps (pss_cons S1.ps (pss_cons (wset 7 nd (pe_lst (pa_cons (xtup (E := E0) (a1 xi (a1 xi a0))).pe (pa_cons (xtup (E := E0) (a1 xi (a1 (xpow xi xi) a0))).pe (pa_cons (pe_callD h__law_lowest hr (by decide) passB (pa_cons (pe_callW hR hr (by decide) passB (a1 (E := E0) (xv 0) (a1 xi a0)).pa) (pa_cons (xi (E := E0)).pe pa_nil))) pa_nil))))) (pss_cons S3.ps S4.ps))), ?_⟩
  intro g ds hpre
  obtain ⟨wd, p, d, pl, dd, rfl, hw, hp, hd⟩ := hpre
  refine hs_k (hs_seq (q := fun ρ => ρ = [none, some (worldD false wd), some (.int p), some (.int d), some (spansD true dd.ps), none, none, none, none, none, none]) (hs_pure0 S0.sn fun ρ hq => ?_)
    (hs_seq (q := fun ρ => ∃ x y, ρ = [none, some (worldD false wd), some (.int p), some (.int d), some (spansD false dd.ps), x, y, none, none, none, none]) (hs_pure0 S1.sn fun ρ hq => ?_)
    (hs_seq (q := fun ρ => ∃ x y r, r < 97 ∧ ρ = [none, some (worldD false wd), some (.int p), some (.int d), some (spansD false dd.ps), x, y, some (.lst true [.tup [.int 0, .int 1], .tup [.int 999999, .int 1000000], low 97 r]), none, none, none])
      (hs_nx (rt := fun d => d = .bl true) (hs_asg 7 (.inl (by decide)) (he_cons (p' := fun ρ => ∃ x y, ρ = [none, some (worldD false wd), some (.int p), some (.int d), some (spansD false dd.ps), x, y, none, none, none, none]) (q' := fun _ d => ∃ r : Nat, r < 97 ∧ d = .lst true [.tup [.int 0, .int 1], .tup [.int 999999, .int 1000000], low 97 r]) (he_lst (hea_cons (he_pure0 (post := fun _ d => d = .tup [.int 0, .int 1]) (pre := fun _ => True) (snd_tup (sna_cons (snd_int 0) (sna_cons (snd_int 1) sna_nil))) fun ρ _ => ?_) (hea_cons (he_pure0 (pre := fun _ => True) (post := fun _ d => d = .tup [.int 999999, .int 1000000]) (snd_tup (sna_cons (snd_int 999999) (sna_cons (snd_opS ok_pow (snd_int 10) (snd_int 6)) sna_nil))) fun ρ _ => ?_)
        (hea_one (he_call (len := 2) (fm := m_law_lowest) (post := fun _ d => ∃ r : Nat, r < 97 ∧ d = low 97 r) e0_no (hea_two (he_rnd 97 (pre := fun _ => True) (by decide) (by decide)) (he_pure0 (post := fun _ d => d = .int 97) (snd_int 97) fun ρ _ => ?_)) (fun ρ ds q => ?_) fun ρ ds q => ?_)))) (fun ρ ds q => ?_)) (fun ρ hp => ?_) fun ρ d hp q => ?_)) ?_ fun _ h => h)
    (hs_seq (q := fun ρ => ∃ x y es, (∀ e ∈ es, DrawOk e) ∧ ρ = [none, some (worldD false wd), some (.int p), some (.int d), some (spansD false dd.ps), x, y, some (.lst true es), none, none, none]) (hs_pure0 S3.sn fun ρ hq => ?_)
      (hs_end0 S4.sn fun ρ hq => ?_))))) (by decide)
  · subst hq
    exact ⟨_, h0 wd p d pl dd _ hw hp hd, fun _ => rfl, rfl⟩
  · subst hq
    obtain ⟨x, y, e⟩ := h1 wd p d pl dd (some (.box (.adr g) [])) hw hp hd
    exact ⟨_, e, fun _ => rfl, x, y, rfl⟩
  · exact ⟨_, rfl, rfl⟩
  · exact ⟨_, rfl, rfl⟩
  · exact ⟨_, rfl, rfl⟩
  · obtain ⟨d, e, rfl, _⟩ := q
    rfl
  · obtain ⟨d, e, rfl, ⟨r, rfl, hr⟩, rfl⟩ := q
    exact ⟨low 97 r, hl r hr, r, hr, rfl⟩
  · obtain ⟨d1, ds1, rfl, rfl, d2, ds2, rfl, rfl, d3, rfl, _⟩ := q
    rfl
  · exact ⟨trivial, trivial, trivial⟩
  · obtain ⟨ds, rfl, d1, ds1, rfl, rfl, d2, ds2, rfl, rfl, d3, rfl, r, hr, rfl⟩ := q
    exact ⟨r, hr, rfl⟩
  · rintro ρ ⟨ρ0, d1, ⟨x, y, rfl⟩, ⟨r, hr, rfl⟩, rfl⟩
    exact ⟨x, y, r, hr, rfl⟩
  · obtain ⟨x, y, r, hr, rfl⟩ := hq
    obtain ⟨y', es, he, e⟩ := h3 wd p d pl dd (some (.box (.adr g) [])) x y r hw hp hd hr
    exact ⟨_, e, fun _ => rfl, x, y', es, he, rfl⟩
  · obtain ⟨x, y, es, he, rfl⟩ := hq
    exact ⟨_, h4 wd p d pl dd none x y es hw hp hd he, rfl⟩
end K90
end
section
set_option Elab.async false
set_option linter.all false
set_option maxRecDepth 100000
set_option maxHeartbeats 1000000
namespace K90
open PySem PySem.Spec PyProof.Rows L2 PV LamX
variable {P : Program} {w : World} {K : PySem.W.Frag} {mg : Str → Option Value} {base : Heap}
def preF (ds : List D) : Prop := ∃ wd : List (List Dd), ds = [worldD false wd] ∧ WdOk 5 wd
theorem fz_low (s p : Nat) : fz (low s p) = low s p := rfl
theorem fzL_low (s : Nat) : ∀ ps : List Nat, fzL (ps.map (low s)) = ps.map (low s)
  | [] => rfl
  | p :: ps => by
    show fz (low s p) :: fzL (ps.map (low s)) = _
    rw [fzL_low s ps]
    rfl
theorem fz_deed (b : Bool) (d : Dd) : fz (deedD b d) = deedD false d := by
  show D.tup [low d.und d.top, .lst false (fzL (d.ps.map (low d.ps.sum)))] = _
  rw [fzL_low]
  rfl
theorem fzL_deeds (b : Bool) : ∀ ds : List Dd, fzL (ds.map (deedD b)) = ds.map (deedD false)
  | [] => rfl
  | d :: ds => by
    show fz (deedD b d) :: fzL (ds.map (deedD b)) = _
    rw [fzL_deeds b ds, fz_deed]
    rfl
theorem fz_place (b : Bool) (ds : List Dd) : fz (placeD b ds) = placeD false ds := by
  show D.lst false (fzL (ds.map (deedD b))) = _
  rw [fzL_deeds]
  rfl
theorem fzL_places (b : Bool) : ∀ wd : List (List Dd), fzL (wd.map (placeD b)) = wd.map (placeD false)
  | [] => rfl
  | d :: ds => by
    show fz (placeD b d) :: fzL (ds.map (placeD b)) = _
    rw [fzL_places b ds, fz_place]
    rfl
theorem fz_world (b : Bool) (wd : List (List Dd)) : fz (worldD b wd) = worldD false wd := by
  show D.tup [.str "world", .lst false (fzL (wd.map (placeD b)))] = _
  rw [fzL_places]
  rfl
theorem hea_and {hd : Bool} {g : Addr} {Tb : List (Addr × Str)} {k1 k2 : Nat} {us us' mv mv' : List Nat} {ta : TE} {tr : TA} {p : PV.Env → Prop} {qa : PV.Env → D → Prop} {qr : PV.Env → List D → Prop} (ha : HE K hd g Tb k1 ta p qa us mv) (hr : HEA K hd g Tb k2 tr p qr us' mv') (ap : apart us mv us' mv' = true := by rfl) :
    HEA K hd g Tb (k1 + k2) (tCons ta tr) p (fun ρ ds => ∃ d r, ds = d :: r ∧ qa ρ d ∧ qr ρ r) (us ++ us') (mv ++ mv') := fun E n b F O H σ ρ W hp Q hQ => hea_cons ha hr ap n b F O H σ ρ W ⟨hp, hp⟩ Q hQ
theorem rdV_at {ρ : PV.Env} {i : Nat} {d : D} (h : ρ[i]? = some (some d)) : rdV i ρ = .ok (fz d) := by
  unfold rdV
  rw [h]
theorem lcR_none' {f : D → PV.Env → Option PV.Env} {qt : PV.Env → Bool → Prop} {qe : PV.Env → D → Prop} {ρ : PV.Env} {ds rs : List D} (h : LcR f qt qe ρ ds rs) (hq : ∀ ρ, ¬ qt ρ true) : rs = [] := by
  induction h with
  | nil => rfl
  | skip _ _ _ ih => exact ih
  | take _ h => exact absurd h (hq _)
theorem fEq_str (z : Str) (h : PyData.strOk z = true) : fEq (.str z) (.str z) = some (.bl true) := by
  unfold fEq
  simp [er, SeqAt.shaped, PyData.eqv, PyData.canLay0, PyData.depth, h]
theorem w_right (T : Txt P w K mg base) (Tb : List (Addr × Str)) (hW : DefW P w K mg base 4 "_law_world" ["generator", "most"] Tb 225 1 preWd postWd)
  (hD : DefW P w K mg base 10 "_law_deed_right" ["generator", "world", "place", "deed"] Tb 1 3 preDR (fun _ d => d = .bl true))
  (hF : DefT P w K mg base 14 "_law_refusals_right" ["world"] Tb 1 preF (fun _ d => d = .bl true))
  (rp : ∀ wd, WdOk 5 wd → ∃ z, fRepr [worldD false wd] = some (.str z) ∧ PyData.strOk z = true) :
    DefW P w K mg base 15 "_law_right" ["generator"] Tb 240 0 (fun ds => ds = []) (fun _ d => d = .bl true) := by
  have sc : FnScope ["generator", "world", "kept", "place", "deeds", "deed"] ["generator"] (defScope s__law_right) := ⟨rfl, rfl, rfl, by decide +kernel, rfl, by decide +kernel, by decide +kernel⟩
  have nd := sc.nd
  refine mkW T.g__law_right (T.d__law_right) sc rfl (by decide) (fun _ _ _ _ _ _ us hl => match us, hl with | [_], _ => rfl) fun cdv A outer s H E hr => ?_
  obtain ⟨t1, S1⟩ := sx_law_right_1 T nd (outer := outer) (H := H) (E := E) hr (by decide)
  refine ⟨_, pss_cons (wset 1 nd (pe_callW hW hr (by decide) passB (a1 (E := E0) (xv 0) (a1 xi a0)).pa)) (pss_cons S1.ps (pss_cons
    (ps_for ownE rfl (ienum (E := E0) (T.f_enumerate) (xix (xv 1) xi)).pi (gt rfl (h1 (gn 3 nd) (h1 (gn 4 nd) h0))).pg
      (pss_one (ps_if (pt_cmpR (op_neD hr.rm.units) (wlc [("deed", 5)] rfl nd (irng1 (E := E0) (T.f_range) (xlen (T.f_len) (a1 (xv 4) a0))).pi (by rfl) (by intro _ _ _ _ _; exact (gn 5 nd).pg) (by intro _ _ _ _ _; exact pts_one (pt_not (pt_val (pe_callW hD hr (by decide) passB (a1 (E := E0) (xv 0) (a1 (xv 1) (a1 (xv 3) (a1 (xv 5) a0)))).pa) (by intro _; rfl))))
        (by intro _ _ _ _ _; exact (xv (E := E0) 5).pe)) (xlst (E := E0) a0).pe (nomark _)) (pss_one (sret (E := E0) xb).ps) pss_nil)))
    (pss_one (ps_ret (pe_and (xeq hr (xrepr (E := E0) hr T.sysm (T.f_repr) (a1 (xv 1) a0)) (xv 2)).pe (pe_one (pe_callT hF hr (by decide) passB (a1 (E := E0) (xv 1) a0).pa))))))), ?_⟩
  intro g ds hpre
  subst hpre
  refine hs_k (hs_seq (q := fun ρ => ∃ wd, WdOk 5 wd ∧ ρ = [none, some (worldD true wd), none, none, none, none])
    (hs_nx (rt := fun d => d = .bl true) (hs_asg 1 (.inl (by decide)) (he_callW (k2 := 225) (len := 1) (preF := preWd) (postF := postWd) (post := fun _ d => ∃ wd, WdOk 5 wd ∧ d = worldD true wd) e0_no (hea_one (he_pure0 (pre := fun ρ => ρ = entW 6 []) (post := fun _ d => d = .int 5) (snd_int 5) fun ρ _ => ⟨_, rfl, rfl⟩)) (fun ρ ds q => ?_) (fun ρ ds q => ?_) fun ρ ds d q hd => ?_)) ?_ fun _ h => h)
    (hs_ex fun wd => hs_and fun hw => ?_)) (k1 := 225 + 15) (by decide)
  · obtain ⟨d, rfl, _⟩ := q
    rfl
  · obtain ⟨d, rfl, rfl⟩ := q
    exact ⟨5, rfl, by decide, by decide⟩
  · obtain ⟨m, wd, e, h1, rfl⟩ := hd
    obtain ⟨d', rfl, rfl⟩ := q
    have e' : (5 : Int) = m := by
      have e : [D.int 5] = [.int m] := e
      simpa using e
    exact ⟨wd, ⟨h1.l0, by have := h1.l1; omega, h1.ok⟩, rfl⟩
  · rintro ρ ⟨ρ0, d, rfl, ⟨wd, hw, rfl⟩, rfl⟩
    exact ⟨wd, hw, by cases noFz (worldD true wd) <;> rfl⟩
  obtain ⟨z, hz, hz2⟩ := rp wd hw
  refine hs_k (hs_seq (q := fun ρ => ρ = [none, some (worldD true wd), some (.str z), none, none, none]) (hs_pure0 S1.sn fun ρ hq => ?_)
    (hs_seq (q := fun ρ => ∃ x y, ρ = [none, some (worldD false wd), some (.str z), x, y, none])
      (hs_nx (rt := fun d => d = .bl true) (hs_for (sng_tup (sng_cons (sng_name 3) (sng_cons (sng_name 4) sng_nil))) (kp_tup (kp_cons (kp_name (.inl (by decide))) (kp_cons (kp_name (.inl (by decide))) kp_nil))) (.inl rfl) (N := 5) (c := 3)
        (hi_pure0 (post := fun _ ds => ds = enumL (wd.map (placeD false)) 0) (sni_enum (snd_opN ok_ix (snd_var 1) (snd_int 1) rfl)) fun ρ hp => ?_) [] (fun ds j ρ => ∃ x y, ρ = [none, some (worldD false wd), some (.str z), x, y, none])
        (fun ρ ds q => ?_) (fun ρ ds hp q => ?_) (fun ds j d ρ hx hd hP => ?_) fun ds j d hx hd => ?_) ?_ fun _ h => h)
      (hs_nx (hs_ret (nx := fun _ => False) (he_and (he_pure0 (post := fun _ d => d = .bl true) (snd_opS ok_eq (snd_cs ok_repr (sna_cons (snd_var 1) sna_nil)) (snd_var 2)) fun ρ hp => ?_)
        (he_callT (len := 1) (preF := preF) (postF := fun _ d => d = .bl true) (post := fun _ d => d = .bl true) e0_no (hea_one (he_pure0 (pre := fun ρ => ∃ x y, ρ = [none, some (worldD false wd), some (.str z), x, y, none]) (post := fun _ d => d = worldD false wd) (snd_var 1) fun ρ hp => ?_)) (fun ρ ds q => ?_) (fun ρ ds q => ?_) fun ρ ds d q hd => hd) fun ρ d hp q => ?_)) (fun _ h => h) fun d h => ?_))) (by decide)
  · subst hq
    have e : (mCb fRepr (aCons (rdV 1) aNil)) (put0 true g [none, some (worldD true wd), none, none, none, none]) = .ok (.str z) := by
      show ofO (fRepr [fz (worldD true wd)]) = _
      rw [fz_world, hz]
      rfl
    refine ⟨[some (.box (.adr g) []), some (worldD true wd), some (.str z), none, none, none], ?_, fun _ => rfl, rfl⟩
    unfold q_law_right_1 sAsg
    rw [e]
    rfl
  · subst hp
    refine ⟨_, ?_, rfl⟩
    show R.bind (R.bind (R.ok (fz (worldD true wd))) fun x => (R.ok (D.int 1)).bind fun y => ofO (fIx x y)) _ = _
    rw [fz_world]
    show R.ok (enumL (fzL (wd.map (placeD false))) 0) = _
    rw [fzL_places]
  · subst q
    rw [enumL_len, List.length_map]
    exact hw.l1
  · subst hp
    refine ⟨none, none, ?_⟩
    show [none, some (fz (worldD true wd)), some (D.str z), none, none, none] = _
    rw [fz_world]
  · obtain ⟨_, rfl⟩ := hx
    obtain ⟨x, y, rfl⟩ := hP
    rw [enumL_get, List.getElem?_map] at hd
    cases e : wd[j]? with
    | none => rw [e] at hd; cases hd
    | some pl =>
      rw [e] at hd
      cases hd
      exact ⟨_, rfl⟩
  · obtain ⟨_, rfl⟩ := hx
    rw [enumL_get, List.getElem?_map] at hd
    cases e : wd[j]? with
    | none => rw [e] at hd; cases hd
    | some pl =>
      rw [e] at hd
      cases hd
      have jlt : j < wd.length := by
        rcases Nat.lt_or_ge j wd.length with h | h
        · exact h
        · rw [List.getElem?_eq_none h] at e; cases e
      have hpl : PlOk wd.length pl := hw.ok pl (List.mem_of_getElem? e)
      let V1 : Option D → PV.Env := fun x => [none, some (worldD false wd), some (.str z), some (.int ((0 + j : Nat) : Int)), some (placeD false pl), x]
      refine hs_pre (p := fun ρ => ρ = V1 none) ?_ fun ρ hp => ?_
      · refine hs_k (hs_ifT (k1 := 0 + 3 * ((0 + (0 + (0 + 0))) + 1 + 0) + 0) (k2 := 0) (q := fun _ c => c = false) (ht_he (he_cons (p' := fun ρ => ρ = V1 none) (q' := fun _ d => d = .bl false) (he_opS (post := fun _ d => d = .bl false) ok_ne
          (he_lc (N := 3) (hi_pure0 (pre := fun ρ => ρ = V1 none) (post := fun _ ds => ds = rngL 0 pl.length) (sni_rng1 (snd_cs ok_len (sna_cons (snd_var 4) sna_nil))) fun ρ hp => ?_) (sng_name 5) (kp_name (.inl (by decide)))
            (ht_not (ht_heB (q' := fun _ c => c = true) (he_callW (k2 := 1) (len := 3) (preF := preDR) (postF := fun _ d => d = .bl true) (post := fun _ d => d = .bl true) e0_no
              (hea_and (he_pure0 (pre := fun ρ => ∃ i : Nat, i < pl.length ∧ ρ = V1 (some (.int i))) (post := fun _ d => d = worldD false wd) (snd_var 1) fun ρ hp => ?_) (hea_two (he_pure0 (post := fun _ d => d = .int (j : Nat)) (snd_var 3) fun ρ hp => ?_) (he_pure0 (post := fun ρ d => ∃ i : Nat, i < pl.length ∧ d = .int i) (snd_var 5) fun ρ hp => ?_)))
              (fun ρ ds q => ?_) (fun ρ ds q => ?_) fun ρ ds d q hd => hd) fun ρ d q => ?_))
            (he_pure0 (pre := fun _ => False) (post := fun _ _ => True) (snd_var 5) fun ρ hp => hp.elim) (fun ρ ds hp q => ?_) (by decide) (fun ρ ds d hp q hd => ?_))
          (he_pure0 (pre := fun _ => True) (post := fun _ d => d = .lst true []) (snd_lst sna_nil) fun ρ _ => ⟨_, rfl, rfl⟩) (fun ρ d e q1 q2 => ?_)) (fun ρ hp => ⟨hp, trivial⟩) fun ρ d hp q => q) fun ρ d q => ?_) (hs_no fun ρ hp => nomatch hp.2) (hs_pre hs_nil fun ρ hp => ?_)) (by decide)
        · subst hp
          refine ⟨_, ?_, rfl⟩
          show R.bind (ofO (fLen [fz (placeD false pl)])) _ = _
          rw [fz_place]
          show (if inR (((pl.map (deedD false)).length : Nat) : Int) = true then R.ok (rngL 0 (((pl.map (deedD false)).length : Nat) : Int).toNat) else R.fail) = _
          have h3 := hpl.l3
          rw [List.length_map, if_pos (inR_of (by omega)), Int.toNat_natCast]
        · obtain ⟨i, hi, rfl⟩ := hp
          exact ⟨_, rfl, fz_world false wd⟩
        · obtain ⟨i, hi, rfl⟩ := hp
          exact ⟨_, rfl, by show D.int ((0 + j : Nat) : Int) = _; rw [Nat.zero_add]⟩
        · obtain ⟨i, hi, rfl⟩ := hp
          exact ⟨_, rfl, i, hi, rfl⟩
        · obtain ⟨d, r, rfl, _, e1, e2, rfl, _⟩ := q
          rfl
        · obtain ⟨d, r, rfl, rfl, e1, e2, rfl, rfl, i, hi, rfl⟩ := q
          exact ⟨wd, j, i, pl, pl[i], by show [fz (worldD false wd), _, _] = _; rw [fz_world]; rfl, hw, e, List.getElem?_eq_getElem hi⟩
        · exact ⟨true, q, rfl⟩
        · subst q
          simp [rngL]
          exact hpl.l3
        · subst q hp
          unfold rngL at hd
          obtain ⟨i, hi, rfl⟩ := List.mem_map.mp hd
          refine ⟨V1 (some (.int i)), ?_, ⟨i, by simpa using hi, rfl⟩, fun h => nomatch h⟩
          show some [none, some (worldD false wd), some (.str z), some (.int ((0 + j : Nat) : Int)), some (placeD false pl), some (D.int (0 + (i : Int)))] = _
          rw [Int.zero_add]
        · obtain ⟨ds, rs, _, hl, rfl⟩ := q1
          subst q2
          rw [lcR_none' hl fun _ h => nomatch h]
          exact ⟨_, rfl, rfl⟩
        · exact ⟨false, q, rfl⟩
        · obtain ⟨rfl, _⟩ := hp
          exact ⟨_, _, rfl⟩
      · obtain ⟨ρ0, ⟨x, y, rfl⟩, e⟩ := hp
        cases e
        rfl
  · rintro ρ ⟨ds, _, h⟩
    exact h
  · obtain ⟨x, y, rfl⟩ := hp
    refine ⟨.bl true, ?_, rfl⟩
    have e : (mCb fRepr (aCons (rdV 1) aNil)) [none, some (worldD false wd), some (.str z), x, y, none] = .ok (.str z) := by
      show ofO (fRepr [fz (worldD false wd)]) = _
      rw [fz_world, hz]
      rfl
    show R.bind ((mCb fRepr (aCons (rdV 1) aNil)) _) _ = _
    rw [e]
    show ofO (fEq (.str z) (.str z)) = _
    rw [fEq_str z hz2]
    rfl
  · obtain ⟨x, y, rfl⟩ := hp
    exact ⟨_, rfl, fz_world false wd⟩
  · obtain ⟨d, rfl, _⟩ := q
    rfl
  · obtain ⟨d, rfl, rfl⟩ := q
    exact ⟨wd, by show [fz (worldD false wd)] = _; rw [fz_world], hw⟩
  · subst q
    exact ⟨true, rfl, hp⟩
  · obtain ⟨ρ, _, h⟩ := h
    exact h
end K90
end
section
set_option Elab.async false
set_option linter.all false
set_option maxRecDepth 100000
set_option maxHeartbeats 1000000
namespace K90
open PySem PySem.Spec PyProof.Rows L2 PV LamX
variable {P : Program} {w : World} {K : PySem.W.Frag} {mg : Str → Option Value} {base : Heap}
def forIt : Stmt → Expr
  | .For _ it _ _ _ => it
  | _ => .Name "" ⟨0, 0, 0, 0⟩
def forTg : Stmt → Expr
  | .For tg _ _ _ _ => tg
  | _ => .Name "" ⟨0, 0, 0, 0⟩
def lcIt : Stmt → Expr
  | .Return (some (.Compare (.ListComp _ [⟨_, it, _, _⟩] _ _) _ _ _)) _ => it
  | _ => .Name "" ⟨0, 0, 0, 0⟩
def lcTg : Stmt → Expr
  | .Return (some (.Compare (.ListComp _ [⟨tg, _, _, _⟩] _ _) _ _ _)) _ => tg
  | _ => .Name "" ⟨0, 0, 0, 0⟩
def i_refusals_1 : PV.Env → R (List D) := iLst (mLst (aCons cN (aCons (PV.bin (cI 0) (cI 1) fSub) (aCons (mCb fLen (aCons (PV.bin (rdV 0) (cI 1) fIx) aNil)) (aCons (cB true) (aCons (cS "0") (aCons (mLst (aCons (cI 0) aNil)) (aCons (mTup (aCons (cI 0) aNil)) aNil))))))))
def i_refusals_2 : PV.Env → R (List D) := iLst (mLst (aCons cN (aCons (PV.bin (cI 0) (cI 1) fSub) (aCons (mCb fLen (aCons (PV.bin (PV.bin (rdV 0) (cI 1) fIx) (cI 0) fIx) aNil)) (aCons (cB true) (aCons (cS "0") (aCons (mLst (aCons (cI 0) aNil)) (aCons (mTup (aCons (cI 0) aNil)) aNil))))))))
def i_refusals_3 : PV.Env → R (List D) := iLst (mLst (aCons cN (aCons (cI 0) (aCons (cI 1) (aCons (mTup (aCons (cI 1) (aCons (cI 1) aNil))) (aCons (mTup (aCons (PV.bin (cI 0) (cI 1) fSub) (aCons (cI 2) aNil))) (aCons (mTup (aCons (cI 2) (aCons (cI 4) aNil))) (aCons (mTup (aCons (cI 1) (aCons (cI 0) aNil))) (aCons (mLst (aCons (cI 1) (aCons (cI 2) aNil))) (aCons (mTup (aCons (cB true) (aCons (cI 2) aNil))) (aCons (mTup (aCons (cI 3) (aCons (cI 2) aNil))) aNil)))))))))))
/-- what is asked of a list of refused values -/
def RefOk (k : Int) (f : D → List D) (bads : List D) : Prop := bads.length ≤ 100 ∧ ∀ bad ∈ bads, noOw bad = true ∧ m_law_all_caught [.lst false (f bad), .int k, bad] = .ok (.bl true)
def refQ : Str := "_law_refusals_right.<locals>.<lambda>"
def tLast (Pt : Addr) (l : Lm) (Y : Cx) : TT := tNot (tB (tCallC Y (spF Y.K 3 m_law_all_caught) (tCons (tLst (tlam Y [(Pt, refQ)] [l])) (tCons (tC (.int 5)) (tCons (tVar 1) tNil)))))
theorem ht_last {hd : Bool} {g : Addr} {Pt : Addr} (Y : Cx) {p : PV.Env → Prop} (l : Lm) (ok : l.Ok Y)
    (hp : ∀ ρ, p ρ → (∀ a ∈ l.as, frozen ρ a) ∧ (∃ bad, ρ[1]? = some (some bad) ∧ noOw bad = true ∧ m_law_all_caught [.lst false [clo ρ l], .int 5, bad] = .ok (.bl true))) :
    HT Y.K hd g [(Pt, refQ)] 0 (tLast Pt l Y) p (fun _ c => c = false) :=
  ht_calls (X := Y) [l] 1 5 (all1 ok) (by simp) fun ρ h => ⟨all1 (hp ρ h).1, (hp ρ h).2⟩
theorem w_refusals (T : Txt P w K mg base) (Pt : Addr) (TB : TabB base mg (He.codeOf K ("_law_refusals_right", none)) Pt) (h_bad : Def P w K mg base 1 "_law_bad_worlds" [] m_law_bad_worlds) (h_all : Def P w K mg base 12 "_law_all_caught" ["calls", "at", "value"] m_law_all_caught)
  (r0 : ∃ bads, iLst (mCall m_law_bad_worlds aNil) [] = .ok bads ∧ RefOk 0 (fun bad => [.box (.clo "next_by") [bad, .non, .non, .non], .box (.clo "draws_to") [bad, .non, .non, .non]]) bads)
  (r1 : ∀ wd, WdOk 5 wd → ∀ x y, ∃ bads, i_refusals_1 [some (worldD false wd), x, y] = .ok bads ∧ RefOk 3 (fun bad => [.box (.clo "next_by") [worldD false wd, bad, .non, .non], .box (.clo "draws_to") [worldD false wd, bad, .non, .non], .box (.clo "draws_to") [worldD false wd, .int 0, .int 0, bad]]) bads)
  (r2 : ∀ wd, WdOk 5 wd → ∀ x y, ∃ bads, i_refusals_2 [some (worldD false wd), x, y] = .ok bads ∧ RefOk 8 (fun bad => [.box (.clo "next_by") [worldD false wd, .int 0, bad, .non], .box (.clo "draws_to") [worldD false wd, .int 0, bad, .non]]) bads)
  (r3 : ∀ wd, WdOk 5 wd → ∃ bads, i_refusals_3 [] = .ok bads ∧ RefOk 5 (fun bad => [.box (.clo "next_by") [worldD false wd, .int 0, .int 0, bad]]) bads) :
    DefT P w K mg base 14 "_law_refusals_right" ["world"] [(Pt, refQ)] 1 preF (fun _ d => d = .bl true) := by
  have sc : FnScope ["world", "bad", "calls"] ["world"] (defScope s__law_refusals_right) := ⟨rfl, rfl, rfl, by decide +kernel, rfl, by decide +kernel, by decide +kernel⟩
  have nd := sc.nd
  refine mkTb T.g__law_refusals_right (T.d__law_refusals_right) sc rfl (by decide) (fun _ _ _ _ _ _ us hl => match us, hl with | [_], _ => rfl) fun cdv A outer s H E hlk hcd hr => ?_
  obtain rfl := code_ref hlk hcd
  have I1 : ∃ t, IX (XD P w K mg base ["world", "bad", "calls"] "_law_refusals_right" (defScope s__law_refusals_right) (.ref (He.codeOf K ("_law_refusals_right", none))) A outer s H E) E0 (forTg (stm (defBody s__law_refusals_right) 1)) (forIt (stm (defBody s__law_refusals_right) 1)) t i_refusals_1 _ := ⟨_, ilst (xlst (a1 xn (a1 (xsub xi xi) (a1 (xlen (T.f_len) (a1 (xix (xv 0) xi) a0)) (a1 xb (a1 xs (a1 (xlst (a1 xi a0)) (a1 (xtup (a1 xi a0)) a0))))))))⟩
  have I2 : ∃ t, IX (XD P w K mg base ["world", "bad", "calls"] "_law_refusals_right" (defScope s__law_refusals_right) (.ref (He.codeOf K ("_law_refusals_right", none))) A outer s H E) E0 (forTg (stm (defBody s__law_refusals_right) 2)) (forIt (stm (defBody s__law_refusals_right) 2)) t i_refusals_2 _ := ⟨_, ilst (xlst (a1 xn (a1 (xsub xi xi) (a1 (xlen (T.f_len) (a1 (xix (xix (xv 0) xi) xi) a0)) (a1 xb (a1 xs (a1 (xlst (a1 xi a0)) (a1 (xtup (a1 xi a0)) a0))))))))⟩
  have I3 : ∃ t, IX (XD P w K mg base ["world", "bad", "calls"] "_law_refusals_right" (defScope s__law_refusals_right) (.ref (He.codeOf K ("_law_refusals_right", none))) A outer s H E) E0 (lcTg (stm (defBody s__law_refusals_right) 3)) (lcIt (stm (defBody s__law_refusals_right) 3)) t i_refusals_3 _ := ⟨_, ilst (xlst (a1 xn (a1 xi (a1 xi (a1 (xtup (a1 xi (a1 xi a0))) (a1 (xtup (a1 (xsub xi xi) (a1 xi a0))) (a1 (xtup (a1 xi (a1 xi a0))) (a1 (xtup (a1 xi (a1 xi a0))) (a1 (xlst (a1 xi (a1 xi a0))) (a1 (xtup (a1 xb (a1 xi a0))) (a1 (xtup (a1 xi (a1 xi a0))) a0)))))))))))⟩
  obtain ⟨t1, I1⟩ := I1
  obtain ⟨t2, I2⟩ := I2
  obtain ⟨t3, I3⟩ := I3
  have hu : ∀ p ∈ [(Pt, refQ)], p.1 = Pt → p.2 = refQ := fun p hp _ => by rw [List.mem_singleton.mp hp]
  refine ⟨_, pss_cons (ps_for ownE rfl (ilst (xcall0 (E := E0) h_bad hr (by decide) passB)).pi (gn 1 nd).pg (pss_cons (wset 2 nd (pe_lst (pa_cons (pe_lam (T := [(Pt, refQ)]) TB rfl (List.mem_singleton.mpr rfl) hu rfl (lamS_by rfl)) (pa_cons (pe_lam (T := [(Pt, refQ)]) TB rfl (List.mem_singleton.mpr rfl) hu rfl (lamS_by rfl)) pa_nil)))) (pss_one (ps_if (pt_not (pt_val (pe_callCD h_all hr (by decide) (.inl fun _ => rfl) (a1 (E := E0) (xv 2) (a1 xi (a1 (xv 1) a0))).pa) (by intro _; rfl))) (pss_one (sret (E := E0) xb).ps) pss_nil))))
    (pss_cons (ps_for ownE rfl I1.pi (gn 1 nd).pg (pss_cons (wset 2 nd (pe_lst (pa_cons (pe_lam (T := [(Pt, refQ)]) TB rfl (List.mem_singleton.mpr rfl) hu rfl (lamS_by rfl)) (pa_cons (pe_lam (T := [(Pt, refQ)]) TB rfl (List.mem_singleton.mpr rfl) hu rfl (lamS_by rfl)) (pa_cons (pe_lam (T := [(Pt, refQ)]) TB rfl (List.mem_singleton.mpr rfl) hu rfl (lamS_by rfl)) pa_nil))))) (pss_one (ps_if (pt_not (pt_val (pe_callCD h_all hr (by decide) (.inl fun _ => rfl) (a1 (E := E0) (xv 2) (a1 xi (a1 (xv 1) a0))).pa) (by intro _; rfl))) (pss_one (sret (E := E0) xb).ps) pss_nil)))) (pss_cons (ps_for ownE rfl I2.pi (gn 1 nd).pg (pss_cons (wset 2 nd (pe_lst (pa_cons (pe_lam (T := [(Pt, refQ)]) TB rfl (List.mem_singleton.mpr rfl) hu rfl (lamS_by rfl)) (pa_cons (pe_lam (T := [(Pt, refQ)]) TB rfl (List.mem_singleton.mpr rfl) hu rfl (lamS_by rfl)) pa_nil)))) (pss_one (ps_if (pt_not (pt_val (pe_callCD h_all hr (by decide) (.inl fun _ => rfl) (a1 (E := E0) (xv 2) (a1 xi (a1 (xv 1) a0))).pa) (by intro _; rfl))) (pss_one (sret (E := E0) xb).ps) pss_nil))))
    (pss_one (ps_ret (pe_cmpR (op_eqD hr.rm.units) (lc_young (own := [("bad", 1)]) rfl nd (fun _ => rfl) I3.pi (blkOk_by rfl) (by intro _ _ _ _ _; exact (gn 1 nd).pg)
      (by intro _ _ _ _ _ nw; exact pts_blk (t := tLast Pt ⟨_, "next_by", _, _, _, _, [.slot 0, .int 0, .int 0, .slot 1]⟩) (pts_one (pt_not (pt_val (pe_callCD h_all hr (by decide) (.inr nw) (pa_cons (pe_lst (pa_cons (pe_lam (T := [(Pt, refQ)]) TB rfl (List.mem_singleton.mpr rfl) hu rfl (lamS_by rfl)) pa_nil)) (a1 (E := E0) xi (a1 (xv 1) a0)).pa)) (by intro _; rfl)))))
      (by intro _ _ _ _ _ nw; exact (xv (E := E0) 1).pe)) (xlst (E := E0) a0).pe (nomark _)))))), ?_⟩
  intro g ds hpre
  obtain ⟨wd, rfl, hw⟩ := hpre
  let V : Option D → Option D → PV.Env := fun x y => [some (worldD false wd), x, y]
  refine hs_pre (p := fun ρ => ∃ x y, ρ = V x y) ?_ fun ρ hp => ⟨none, none, by subst hp; rfl⟩
  refine hs_k (k1 := 0 + 100 * 0 + (0 + 100 * 0 + (0 + 100 * 0 + (0 + 100 * (0 + 0) + 0)))) (hs_seq (q := fun ρ => ∃ x y, ρ = V x y) (hs_nx (rt := fun d => d = .bl true) (hs_for (sng_name 1) (kp_name (.inr rfl)) (.inr rfl) (N := 100) (c := 0) (hi_pure0 (pre := fun ρ => ∃ x y, ρ = V x y) (post := fun _ ds => RefOk 0 (fun bad => [.box (.clo "next_by") [bad, .non, .non, .non], .box (.clo "draws_to") [bad, .non, .non, .non]]) ds) (sni_list (snd_call (E := E0) sna_nil (fun ρ ds h => by cases h; rfl))) (fun ρ _ => r0)) [] (fun ds j ρ => ∃ x y, ρ = V x y)
      (fun ρ ds q => q.1) (fun ρ ds hp q => by obtain ⟨x, y, rfl⟩ := hp; exact ⟨x, y, rfl⟩) (fun ds j d ρ _ _ _ => ⟨_, rfl⟩)
      (fun ds j d hx hd => hs_pre (hs_calls (p := fun ρ => ∃ y, ρ = V (some d) y) (nx := fun ρ => ∃ x y, ρ = V x y) (rt := fun d => d = .bl true) (X := XD P w K mg base ["world", "bad", "calls"] "_law_refusals_right" (defScope s__law_refusals_right) (.ref (He.codeOf K ("_law_refusals_right", none))) A outer s H E) (fm := m_law_all_caught) [⟨_, "next_by", _, _, _, _, [.slot 1, .non, .non, .non]⟩, ⟨_, "draws_to", _, _, _, _, [.slot 1, .non, .non, .non]⟩] 2 1 0 (allc (lmOk rfl rfl (by rfl) (by simp) (fun _ _ _ _ _ => rfl) ⟨⟨_, _, rfl, rfl, rfl, .inl rfl, by rfl, by rfl⟩, ⟨⟨_, _, rfl⟩, ⟨⟨_, _, rfl⟩, ⟨⟨_, _, rfl⟩, trivial⟩⟩⟩⟩) (allc (lmOk rfl rfl (by rfl) (by simp) (fun _ _ _ _ _ => rfl) ⟨⟨_, _, rfl, rfl, rfl, .inl rfl, by rfl, by rfl⟩, ⟨⟨_, _, rfl⟩, ⟨⟨_, _, rfl⟩, ⟨⟨_, _, rfl⟩, trivial⟩⟩⟩⟩) all0)) (by decide) fun ρ hp => by
        obtain ⟨y, rfl⟩ := hp
        obtain ⟨_, hr⟩ := hx
        obtain ⟨hn, hf⟩ := hr.2 d (List.mem_of_getElem? hd)
        exact ⟨(allc (allc (fr_slot rfl hn (by decide)) (allc fr_non (allc fr_non (allc fr_non all0)))) (allc (allc (fr_slot rfl hn (by decide)) (allc fr_non (allc fr_non (allc fr_non all0)))) all0)), by decide, ⟨d, rfl, hn, hf⟩, ⟨_, _, rfl⟩, rfl, by show 2 < 3; decide⟩) fun ρ hp => by
          obtain ⟨ρ0, ⟨x, y, rfl⟩, e⟩ := hp
          cases e
          exact ⟨y, rfl⟩)) (fun ρ h => by obtain ⟨ds, _, h⟩ := h; exact h) fun _ h => h)
    (hs_seq (q := fun ρ => ∃ x y, ρ = V x y) (hs_nx (rt := fun d => d = .bl true) (hs_for (sng_name 1) (kp_name (.inr rfl)) (.inr rfl) (N := 100) (c := 0) (hi_pure0 (pre := fun ρ => ∃ x y, ρ = V x y) (post := fun _ ds => RefOk 3 _ ds) I1.sn (fun ρ hp => by obtain ⟨x, y, rfl⟩ := hp; exact r1 wd hw x y)) [] (fun ds j ρ => ∃ x y, ρ = V x y)
      (fun ρ ds q => q.1) (fun ρ ds hp q => by obtain ⟨x, y, rfl⟩ := hp; exact ⟨x, y, rfl⟩) (fun ds j d ρ _ _ _ => ⟨_, rfl⟩)
      (fun ds j d hx hd => hs_pre (hs_calls (p := fun ρ => ∃ y, ρ = V (some d) y) (nx := fun ρ => ∃ x y, ρ = V x y) (rt := fun d => d = .bl true) (X := XD P w K mg base ["world", "bad", "calls"] "_law_refusals_right" (defScope s__law_refusals_right) (.ref (He.codeOf K ("_law_refusals_right", none))) A outer s H E) (fm := m_law_all_caught) [⟨_, "next_by", _, _, _, _, [.slot 0, .slot 1, .non, .non]⟩, ⟨_, "draws_to", _, _, _, _, [.slot 0, .slot 1, .non, .non]⟩, ⟨_, "draws_to", _, _, _, _, [.slot 0, .int 0, .int 0, .slot 1]⟩] 2 1 3 (allc (lmOk rfl rfl (by rfl) (by simp) (fun _ _ _ _ _ => rfl) ⟨⟨_, _, rfl, rfl, rfl, .inl rfl, by rfl, by rfl⟩, ⟨⟨_, _, rfl, rfl, rfl, .inl rfl, by rfl, by rfl⟩, ⟨⟨_, _, rfl⟩, ⟨⟨_, _, rfl⟩, trivial⟩⟩⟩⟩) (allc (lmOk rfl rfl (by rfl) (by simp) (fun _ _ _ _ _ => rfl) ⟨⟨_, _, rfl, rfl, rfl, .inl rfl, by rfl, by rfl⟩, ⟨⟨_, _, rfl, rfl, rfl, .inl rfl, by rfl, by rfl⟩, ⟨⟨_, _, rfl⟩, ⟨⟨_, _, rfl⟩, trivial⟩⟩⟩⟩) (allc (lmOk rfl rfl (by rfl) (by simp) (fun _ _ _ _ _ => rfl) ⟨⟨_, _, rfl, rfl, rfl, .inl rfl, by rfl, by rfl⟩, ⟨⟨_, _, rfl⟩, ⟨⟨_, _, rfl⟩, ⟨⟨_, _, rfl, rfl, rfl, .inl rfl, by rfl, by rfl⟩, trivial⟩⟩⟩⟩) all0))) (by decide) fun ρ hp => by
        obtain ⟨y, rfl⟩ := hp
        obtain ⟨_, hr⟩ := hx
        obtain ⟨hn, hf⟩ := hr.2 d (List.mem_of_getElem? hd)
        exact ⟨(allc (allc (fr_slot (d := worldD false wd) rfl rfl (by decide)) (allc (fr_slot rfl hn (by decide)) (allc fr_non (allc fr_non all0)))) (allc (allc (fr_slot (d := worldD false wd) rfl rfl (by decide)) (allc (fr_slot rfl hn (by decide)) (allc fr_non (allc fr_non all0)))) (allc (allc (fr_slot (d := worldD false wd) rfl rfl (by decide)) (allc fr_int (allc fr_int (allc (fr_slot rfl hn (by decide)) all0)))) all0))), by decide, ⟨d, rfl, hn, hf⟩, ⟨_, _, rfl⟩, rfl, by show 2 < 3; decide⟩) fun ρ hp => by
          obtain ⟨ρ0, ⟨x, y, rfl⟩, e⟩ := hp
          cases e
          exact ⟨y, rfl⟩)) (fun ρ h => by obtain ⟨ds, _, h⟩ := h; exact h) fun _ h => h)
    (hs_seq (q := fun ρ => ∃ x y, ρ = V x y) (hs_nx (rt := fun d => d = .bl true) (hs_for (sng_name 1) (kp_name (.inr rfl)) (.inr rfl) (N := 100) (c := 0) (hi_pure0 (pre := fun ρ => ∃ x y, ρ = V x y) (post := fun _ ds => RefOk 8 _ ds) I2.sn (fun ρ hp => by obtain ⟨x, y, rfl⟩ := hp; exact r2 wd hw x y)) [] (fun ds j ρ => ∃ x y, ρ = V x y)
      (fun ρ ds q => q.1) (fun ρ ds hp q => by obtain ⟨x, y, rfl⟩ := hp; exact ⟨x, y, rfl⟩) (fun ds j d ρ _ _ _ => ⟨_, rfl⟩)
      (fun ds j d hx hd => hs_pre (hs_calls (p := fun ρ => ∃ y, ρ = V (some d) y) (nx := fun ρ => ∃ x y, ρ = V x y) (rt := fun d => d = .bl true) (X := XD P w K mg base ["world", "bad", "calls"] "_law_refusals_right" (defScope s__law_refusals_right) (.ref (He.codeOf K ("_law_refusals_right", none))) A outer s H E) (fm := m_law_all_caught) [⟨_, "next_by", _, _, _, _, [.slot 0, .int 0, .slot 1, .non]⟩, ⟨_, "draws_to", _, _, _, _, [.slot 0, .int 0, .slot 1, .non]⟩] 2 1 8 (allc (lmOk rfl rfl (by rfl) (by simp) (fun _ _ _ _ _ => rfl) ⟨⟨_, _, rfl, rfl, rfl, .inl rfl, by rfl, by rfl⟩, ⟨⟨_, _, rfl⟩, ⟨⟨_, _, rfl, rfl, rfl, .inl rfl, by rfl, by rfl⟩, ⟨⟨_, _, rfl⟩, trivial⟩⟩⟩⟩) (allc (lmOk rfl rfl (by rfl) (by simp) (fun _ _ _ _ _ => rfl) ⟨⟨_, _, rfl, rfl, rfl, .inl rfl, by rfl, by rfl⟩, ⟨⟨_, _, rfl⟩, ⟨⟨_, _, rfl, rfl, rfl, .inl rfl, by rfl, by rfl⟩, ⟨⟨_, _, rfl⟩, trivial⟩⟩⟩⟩) all0)) (by decide) fun ρ hp => by
        obtain ⟨y, rfl⟩ := hp
        obtain ⟨_, hr⟩ := hx
        obtain ⟨hn, hf⟩ := hr.2 d (List.mem_of_getElem? hd)
        exact ⟨(allc (allc (fr_slot (d := worldD false wd) rfl rfl (by decide)) (allc fr_int (allc (fr_slot rfl hn (by decide)) (allc fr_non all0)))) (allc (allc (fr_slot (d := worldD false wd) rfl rfl (by decide)) (allc fr_int (allc (fr_slot rfl hn (by decide)) (allc fr_non all0)))) all0)), by decide, ⟨d, rfl, hn, hf⟩, ⟨_, _, rfl⟩, rfl, by show 2 < 3; decide⟩) fun ρ hp => by
          obtain ⟨ρ0, ⟨x, y, rfl⟩, e⟩ := hp
          cases e
          exact ⟨y, rfl⟩)) (fun ρ h => by obtain ⟨ds, _, h⟩ := h; exact h) fun _ h => h) ?_))) (by decide)
  refine hs_nx (hs_ret (nx := fun _ => False) (he_cons (p' := fun ρ => ∃ x y, ρ = V x y) (q' := fun _ d => d = .bl true) (he_opS (post := fun _ d => d = .bl true) ok_eq
    (he_lc (N := 100) (pr := fun ρ => ∃ x y, ρ = V x y) (hi_pure0 (post := fun _ ds => RefOk 5 (fun bad => [.box (.clo "next_by") [worldD false wd, .int 0, .int 0, bad]]) ds) I3.sn fun ρ _ => r3 wd hw) (sng_name 1) (kp_name (.inr rfl))
      (ht_blk (t := tLast Pt _) (X := XD P w K mg base ["world", "bad", "calls"] "_law_refusals_right" (defScope s__law_refusals_right) (.ref (He.codeOf K ("_law_refusals_right", none))) A outer s H E) fun s0 H0 C0 cl0 fp0 => ht_last (Cx.bk (XD P w K mg base ["world", "bad", "calls"] "_law_refusals_right" (defScope s__law_refusals_right) (.ref (He.codeOf K ("_law_refusals_right", none))) A outer s H E) s0 H0 _ C0 cl0 fp0) (p := fun ρ => ∃ d y, ρ = V (some d) y ∧ noOw d = true ∧ m_law_all_caught [.lst false [.box (.clo "next_by") [worldD false wd, .int 0, .int 0, d]], .int 5, d] = .ok (.bl true)) _ ?_ fun ρ hp => ?_)
      (he_pure0 (pre := fun _ => False) (post := fun _ _ => True) (snd_var 1) fun ρ hp => hp.elim) (fun ρ ds hp q => q.1) (by decide) (fun ρ ds d hp q hd => ?_))
    (he_pure0 (pre := fun _ => True) (post := fun _ d => d = .lst true []) (snd_lst sna_nil) fun ρ _ => ⟨_, rfl, rfl⟩) (fun ρ d e q1 q2 => ?_)) (fun ρ hp => ⟨hp, trivial⟩) fun ρ d hp q => q)) (fun _ h => h) fun d h => by obtain ⟨ρ, _, h⟩ := h; exact h
  · exact lmOk rfl rfl (by rfl) (by simp) (fun _ _ _ _ _ => rfl) ⟨⟨_, _, rfl, rfl, rfl, .inl rfl, by rfl, by rfl⟩, ⟨_, _, rfl⟩, ⟨_, _, rfl⟩, ⟨_, _, rfl, rfl, rfl, .inl rfl, by rfl, by rfl⟩, trivial⟩
  · obtain ⟨d, y, rfl, hn, hf⟩ := hp
    exact ⟨allc ⟨_, rfl, rfl⟩ (allc trivial (allc trivial (allc ⟨_, rfl, hn⟩ all0))), d, rfl, hn, hf⟩
  · obtain ⟨x, y, rfl⟩ := hp
    obtain ⟨hn, hf⟩ := q.2 d hd
    exact ⟨V (some d) y, rfl, ⟨d, y, rfl, hn, hf⟩, fun h => nomatch h⟩
  · obtain ⟨ds, rs, _, hl, rfl⟩ := q1
    subst q2
    rw [lcR_none' hl fun _ h => nomatch h]
    exact ⟨_, rfl, rfl⟩
end K90
end
section
set_option Elab.async false
set_option linter.all false
set_option maxRecDepth 100000
set_option maxHeartbeats 1000000
namespace K90
open PySem PySem.Spec PyProof.Rows L2 PV LamX
variable {P : Program} {w : World} {K : PySem.W.Frag} {mg : Str → Option Value} {base : Heap}
def spCell (K : PySem.W.Frag) : Sp := fun vs H Q E => ∃ (a : Addr) (ns : List Int) (i : Int), vs = [.ref a, .int i] ∧ SqL K H a (ns.map V.int) ∧ 0 ≤ i ∧ ∀ z H', Same H H' → Q (.int z) H'
theorem w_cell (T : Txt P w K mg base) : DefG P w K mg base 1 "_law_cell" ["script", "index"] (spCell K) := by
  have sc : FnScope ["script", "index"] ["script", "index"] (defScope s__law_cell) := ⟨rfl, rfl, rfl, by decide +kernel, rfl, by decide +kernel, by decide +kernel⟩
  have nd := sc.nd
  refine mkG T.g__law_cell (T.d__law_cell) sc (fun vs H Q E h => by obtain ⟨a, ns, i, rfl, _⟩ := h; rfl) (fun _ _ _ _ _ _ us hl => match us, hl with | [_, _], _ => rfl) fun cdv A outer s H vs Q E hr hsp => ?_
  refine ⟨_, pss_cons (ps_if (tlt (E := E0) (xv 1) (xlen (T.f_len) (a1 (xv 0) a0))).pt (pss_one (sret (E := E0) (xix (xv 0) (xv 1))).ps) pss_nil) (pss_one (sret (E := E0) (xmod (xsum (T.f_sum) rfl (a1 (xsl (xv 0) o0 (o1 xi)) a0)) xi)).ps), ?_⟩
  obtain ⟨a, ns, i, rfl, hq, h0, hQ⟩ := hsp
  by_cases h : i < ((ns.map V.int).length : Nat)
  · refine ⟨.int i, rfl, .ref a, rfl, .ref a, _, rfl, .inl ⟨_, hq, rfl⟩, i, _, rfl, rfl, true, by show V.bl (decide _) = _; rw [decide_eq_true h], iteT ?_⟩
    have hi : i.toNat < ns.length := by rw [List.length_map] at h; omega
    refine ⟨.ref a, rfl, .int i, rfl, .inl ⟨a, _, i, .int ns[i.toNat], rfl, rfl, hq, ?_, hQ _ _ (Same.refl _)⟩⟩
    unfold atI ixN
    rw [if_pos h0, if_pos h]
    simp [hi]
  · refine ⟨.int i, rfl, .ref a, rfl, .ref a, _, rfl, .inl ⟨_, hq, rfl⟩, i, _, rfl, rfl, false, by show V.bl (decide _) = _; rw [decide_eq_false h], iteF ?_⟩
    refine ⟨.ref a, rfl, 1, rfl, a, _, rfl, hq, fun p hp => ?_⟩
    obtain ⟨ms, em⟩ : ∃ ms : List Int, cutV (ns.map V.int) none (some 1) = ms.map V.int := ⟨_, by unfold cutV; rw [← List.map_drop, ← List.map_take]⟩
    refine ⟨p, ms, rfl, .inl (.inl (by rw [em]; exact upd_same)), _, 1000003, rfl, rfl, (by show (0 : Int) < 1000003; decide), ?_⟩
    exact hQ _ _ (upd_same_ext hp)
def spGen (K : PySem.W.Frag) : Sp := fun vs H Q E => ∃ (a : Addr) (ns : List Int) (i : Int), vs = [.ref a, .int i] ∧ SqL K H a (ns.map V.int) ∧ 0 ≤ i ∧ (∀ c d H, ¬ E c d H) ∧ ∀ p A B H', Same H H' → H p = none → H' p = some (.lst [.int A, .int B, .int (1000 * i)]) → 0 ≤ A → A < 2 ^ 2100 → 0 ≤ B → B < 2 ^ 31 → Q (.ref p) H'
theorem big_lt : ((10 ^ (60 : Int).toNat : Int) ^ (10 : Int).toNat) < 2 ^ 2100 := by decide +kernel
theorem big_pos : (0 : Int) < ((10 ^ (60 : Int).toNat : Int) ^ (10 : Int).toNat) := by decide +kernel
theorem big_bits : CPowW (10 ^ (60 : Int).toNat : Int) 10 := ⟨by decide, by decide +kernel⟩
theorem w_gen (T : Txt P w K mg base) (hC : DefG P w K mg base 1 "_law_cell" ["script", "index"] (spCell K)) : DefG P w K mg base 2 "_law_generator" ["script", "index"] (spGen K) := by
  have sc : FnScope ["script", "index", "seed"] ["script", "index"] (defScope s__law_generator) := ⟨rfl, rfl, rfl, by decide +kernel, rfl, by decide +kernel, by decide +kernel⟩
  have nd := sc.nd
  refine mkG T.g__law_generator (T.d__law_generator) sc (fun vs H Q E h => by obtain ⟨a, ns, i, rfl, _⟩ := h; rfl) (fun _ _ _ _ _ _ us hl => match us, hl with | [_, _], _ => rfl) fun cdv A outer s H vs Q E hr hsp => ?_
  refine ⟨_, pss_cons (wset 2 nd (pe_callS hC hr (by decide) passF (a1 (E := E0) (xv 0) (a1 (xv 1) a0)).pa)) (pss_one (sret (E := E0) (xlst (a1 (xmod (xint (T.f_int) (a1 (xmax (T.f_max) rfl (a1 (xsub (xv 2) (xpow xi xi)) (a1 xi a0))) a0)) (xpowW (xpow xi xi) xi)) (a1 (xmod (xint (T.f_int) (a1 (xv 2) a0)) xi) (a1 (xmul xi (xv 1)) a0))))).ps), ?_⟩
  obtain ⟨a, ns, i, rfl, hq, h0, hE, hQ⟩ := hsp
  refine ⟨.ref a, rfl, .int i, rfl, a, ns, i, rfl, hq, h0, fun z H1 s1 => ?_⟩
  refine ⟨.int z, rfl, 10, 18, rfl, rfl, ⟨by decide, by decide, by decide⟩, z, _, rfl, rfl, _, 0, rfl, .inl ⟨_, rfl, 10, 60, rfl, rfl, ⟨by decide, by decide, by decide⟩, _, 10, rfl, rfl, big_bits, _, _, rfl, rfl, big_pos, ?_⟩⟩
  refine ⟨.int z, rfl, .inl ⟨z, rfl, z, 2147483647, rfl, rfl, (by show (0 : Int) < 2147483647; decide), .int i, rfl, 1000, i, rfl, rfl, .inl (.inl ⟨by decide, by decide⟩), ?_⟩⟩
  refine ⟨(by show 3 ≤ sizeLine; rw [sizeLine_eq]; decide), fun p hp => ?_⟩
  exact hQ p _ _ _ (s1.trans (upd_same_ext hp)) (s1.free hp) upd_same (Int.emod_nonneg _ (Int.ne_of_gt big_pos)) (Int.lt_trans (Int.emod_lt_of_pos _ big_pos) big_lt) (Int.emod_nonneg _ (by decide)) (Int.lt_trans (Int.emod_lt_of_pos _ (by decide)) (by decide))
theorem sqL_keepT {T : List (Addr × Str)} {H H' : Hp} {a : Addr} {xs : List V} (t : Tabs T H) (k : KeepT T H H') (h : SqL K H a xs) : SqL K H' a xs := by
  rcases h with (h | ⟨o, h⟩) | h
  · exact .inl (.inl (k _ _ (tab_ne t h fun ps z => by cases z) h))
  · exact .inl (.inr ⟨o, k _ _ (tab_ne t h fun ps z => by cases z) h⟩)
  · exact .inr h
def spLaw (K : PySem.W.Frag) (Tb : List (Addr × Str)) : Sp := fun vs H Q E => ∃ (a : Addr) (ns : List Int), vs = [.ref a] ∧ SqL K H a (ns.map V.int) ∧ Tabs Tb H ∧ (∀ c d H, ¬ E c d H) ∧ ∀ H', Q (.bl true) H'
theorem w_law (T : Txt P w K mg base) (Tb : List (Addr × Str)) (hG : DefG P w K mg base 2 "_law_generator" ["script", "index"] (spGen K)) (hR : DefW P w K mg base 15 "_law_right" ["generator"] Tb 240 0 (fun ds => ds = []) (fun _ d => d = .bl true)) : DefG P w K mg base 16 "law" ["script"] (spLaw K Tb) := by
  have sc : FnScope ["script", "index"] ["script"] (defScope s_law) := ⟨rfl, rfl, rfl, by decide +kernel, rfl, by decide +kernel, by decide +kernel⟩
  have nd := sc.nd
  refine mkG T.g_law (T.d_law) sc (fun vs H Q E h => by obtain ⟨a, ns, rfl, _⟩ := h; rfl) (fun _ _ _ _ _ _ us hl => match us, hl with | [_], _ => rfl) fun cdv A outer s H vs Q E hr hsp => ?_
  refine ⟨_, pss_cons (ps_for ownE rfl (irng1 (E := E0) (T.f_range) xi).pi (gn 1 nd).pg (pss_one (ps_if (pt_not (pt_val (pe_callW hR hr (by decide) passF (pa_cons (pe_callS hG hr (by decide) passF (a1 (E := E0) (xv 0) (a1 (xv 1) a0)).pa) pa_nil)) (by intro _; rfl))) (pss_one (sret (E := E0) xb).ps) pss_nil))) (pss_one (sret (E := E0) xb).ps), ?_⟩
  obtain ⟨a, ns, rfl, hq, tb, hE, hQ⟩ := hsp
  refine ⟨3, rfl, by decide, by decide, ?_⟩
  refine for_range (fun j σ H' => KeepT Tb H H' ∧ Tabs Tb H' ∧ ∃ x, σ = ([some (.ref a), x] : L2.St)) ⟨fun _ _ _ e => e, tb, none, rfl⟩ (fun j σ H1 hj p => ?_) fun σ H' p => hQ H'
  obtain ⟨k1, t1, x, rfl⟩ := p
  have hj3 : j < 3 := hj
  refine ⟨.ref a, rfl, .int (0 + (j : Int)), rfl, a, ns, _, rfl, sqL_keepT tb k1 hq, by omega, fun _ _ _ h => h, fun p A B H2 s2 hp e2 a0 a1 b0 b1 => ?_⟩
  have t2 : Tabs Tb H2 := Tabs.ext t1 fun b o e => s2 b o e
  refine ⟨p, [], 0, NoA, [], rfl, rfl, fun _ z => z.elim, ⟨rfl, rfl⟩, rfl, ⟨A, B, _, e2, ⟨a0, a1⟩, ⟨b0, b1⟩, by omega, by omega⟩, t2, fun _ _ z => z, fun _ _ _ h => h, fun d v H3 im go t3 r hd => ?_⟩
  subst hd
  obtain ⟨_, _, _, _, _, r⟩ := r
  obtain ⟨rfl, _⟩ := r
  refine ⟨true, rfl, iteF ⟨fun b o hb e => im b o (fun z => ?_) (s2 b o (k1 b o hb e)), t3, _, rfl⟩⟩
  rcases z with z | ⟨q, hq, z⟩
  · rw [z] at e
    rw [k1 p o (z ▸ hb) e] at hp
    cases hp
  · exact hb q hq z
end K90
end
section
set_option Elab.async false
set_option linter.all false
set_option maxRecDepth 100000
set_option maxHeartbeats 0
namespace K90
open PySem PySem.Spec PyProof.Rows L2 PV
def names : List PySem.Str := (["DeedError", "InvalidWorld", "InvalidPlace", "InvalidDeed", "InvalidPlan", "InvalidDiscount", "InvalidLot", "InvalidNumber", "InvalidList", "InvalidText", "InvalidLine", "is_whole", "common_divisor", "lowest", "is_fraction", "is_amount", "are_amounts", "are_chances", "plus", "is_less"] : List PySem.Str) ++ (["summed", "MOST_PLACES", "MOST_DEEDS", "is_deed_of", "is_world_by", "check_world", "places_in", "deeds_at", "chances_of", "check_place", "check_deed", "is_draw", "check_draw", "drawn_at", "next_by", "draws_to", "_law_hash", "_law_random", "_law_cell", "_law_generator"] : List PySem.Str) ++ (["_law_exact", "_law_lowest", "_law_plus", "_law_less", "_law_under", "_law_chances", "_law_world", "_law_caught", "_law_all_caught", "_law_bad_worlds", "_law_spans", "_law_led_by", "_law_deed_right", "_law_right", "_law_refusals_right"] : List PySem.Str)
def fa : List He.Fa := ([.glo "is_whole", .glo "common_divisor", .glo "lowest", .glo "is_fraction", .glo "is_amount", .glo "are_amounts", .glo "plus", .glo "is_less", .glo "summed", .glo "are_chances", .glo "is_deed_of", .glo "is_world_by", .glo "check_world", .glo "places_in", .glo "deeds_at", .glo "chances_of", .glo "check_place", .glo "check_deed", .glo "is_draw", .glo "check_draw"] : List He.Fa) ++ ([.glo "drawn_at", .glo "next_by", .glo "draws_to", .glo "_law_hash", .glo "_law_cell", .glo "_law_generator", .glo "_law_exact", .glo "_law_lowest", .glo "_law_plus", .glo "_law_less", .glo "_law_under", .glo "_law_caught", .glo "_law_all_caught", .glo "_law_bad_worlds", .glo "_law_spans", .glo "_law_led_by", .glo "_law_random", .glo "_law_chances", .glo "_law_world", .glo "_law_deed_right"] : List He.Fa) ++ ([.glo "_law_right", .glo "_law_refusals_right", .glo "law", .free "isinstance", .free "len", .free "abs", .free "int", .free "bool", .free "str", .free "tuple", .free "list", .free "sum", .free "all", .free "any", .free "max", .free "range", .free "enumerate", .free "zip", .free "repr", .free "super"] : List He.Fa) ++ ([.int "MOST_PLACES" 8, .int "MOST_DEEDS" 4, .glo "InvalidWorld", .glo "InvalidLot", .glo "InvalidPlan", .glo "InvalidPlace", .glo "InvalidList", .glo "InvalidNumber", .glo "InvalidText", .glo "InvalidLine", .glo "InvalidDeed", .glo "InvalidDiscount", .glo "DeedError"] : List He.Fa)
def fn : List He.DefD := ([⟨("is_whole", none), "is_whole", "is_whole", defArgs (top 13), defBody (top 13), defScope (top 13), [], []⟩, ⟨("common_divisor", none), "common_divisor", "common_divisor", defArgs (top 14), defBody (top 14), defScope (top 14), [], []⟩, ⟨("lowest", none), "lowest", "lowest", defArgs (top 15), defBody (top 15), defScope (top 15), [], []⟩, ⟨("is_fraction", none), "is_fraction", "is_fraction", defArgs (top 16), defBody (top 16), defScope (top 16), [], []⟩, ⟨("is_amount", none), "is_amount", "is_amount", defArgs (top 17), defBody (top 17), defScope (top 17), [], []⟩, ⟨("are_amounts", none), "are_amounts", "are_amounts", defArgs (top 18), defBody (top 18), defScope (top 18), [], []⟩, ⟨("plus", none), "plus", "plus", defArgs (top 20), defBody (top 20), defScope (top 20), [], []⟩, ⟨("is_less", none), "is_less", "is_less", defArgs (top 21), defBody (top 21), defScope (top 21), [], []⟩, ⟨("summed", none), "summed", "summed", defArgs (top 22), defBody (top 22), defScope (top 22), [], []⟩, ⟨("are_chances", none), "are_chances", "are_chances", defArgs (top 19), defBody (top 19), defScope (top 19), [], []⟩, ⟨("is_deed_of", none), "is_deed_of", "is_deed_of", defArgs (top 26), defBody (top 26), defScope (top 26), [], []⟩, ⟨("is_world_by", none), "is_world_by", "is_world_by", defArgs (top 27), defBody (top 27), defScope (top 27), [], []⟩, ⟨("check_world", none), "check_world", "check_world", defArgs (top 28), defBody (top 28), defScope (top 28), [], []⟩, ⟨("places_in", none), "places_in", "places_in", defArgs (top 29), defBody (top 29), defScope (top 29), [], []⟩, ⟨("deeds_at", none), "deeds_at", "deeds_at", defArgs (top 30), defBody (top 30), defScope (top 30), [], []⟩] : List He.DefD) ++ ([⟨("chances_of", none), "chances_of", "chances_of", defArgs (top 31), defBody (top 31), defScope (top 31), [], []⟩, ⟨("check_place", none), "check_place", "check_place", defArgs (top 32), defBody (top 32), defScope (top 32), [], []⟩, ⟨("check_deed", none), "check_deed", "check_deed", defArgs (top 33), defBody (top 33), defScope (top 33), [], []⟩, ⟨("is_draw", none), "is_draw", "is_draw", defArgs (top 35), defBody (top 35), defScope (top 35), [], []⟩, ⟨("check_draw", none), "check_draw", "check_draw", defArgs (top 36), defBody (top 36), defScope (top 36), [], []⟩, ⟨("drawn_at", none), "drawn_at", "drawn_at", defArgs (top 37), defBody (top 37), defScope (top 37), [], []⟩, ⟨("next_by", none), "next_by", "next_by", defArgs (top 38), defBody (top 38), defScope (top 38), [], []⟩, ⟨("draws_to", none), "draws_to", "draws_to", defArgs (top 39), defBody (top 39), defScope (top 39), [], []⟩, ⟨("_law_hash", none), "_law_hash", "_law_hash", defArgs (top 41), defBody (top 41), defScope (top 41), [], []⟩, ⟨("_law_cell", none), "_law_cell", "_law_cell", defArgs (top 43), defBody (top 43), defScope (top 43), [], []⟩, ⟨("_law_generator", none), "_law_generator", "_law_generator", defArgs (top 44), defBody (top 44), defScope (top 44), [], []⟩, ⟨("_law_exact", none), "_law_exact", "_law_exact", defArgs (top 45), defBody (top 45), defScope (top 45), [], []⟩, ⟨("_law_lowest", none), "_law_lowest", "_law_lowest", defArgs (top 46), defBody (top 46), defScope (top 46), [], []⟩, ⟨("_law_plus", none), "_law_plus", "_law_plus", defArgs (top 47), defBody (top 47), defScope (top 47), [], []⟩, ⟨("_law_less", none), "_law_less", "_law_less", defArgs (top 48), defBody (top 48), defScope (top 48), [], []⟩] : List He.DefD) ++ ([⟨("_law_under", none), "_law_under", "_law_under", defArgs (top 49), defBody (top 49), defScope (top 49), [], []⟩, ⟨("_law_caught", none), "_law_caught", "_law_caught", defArgs (top 52), defBody (top 52), defScope (top 52), [], []⟩, ⟨("_law_all_caught", none), "_law_all_caught", "_law_all_caught", defArgs (top 53), defBody (top 53), defScope (top 53), [], []⟩, ⟨("_law_bad_worlds", none), "_law_bad_worlds", "_law_bad_worlds", defArgs (top 54), defBody (top 54), defScope (top 54), [], []⟩, ⟨("_law_spans", none), "_law_spans", "_law_spans", defArgs (top 55), defBody (top 55), defScope (top 55), [], []⟩, ⟨("_law_led_by", none), "_law_led_by", "_law_led_by", defArgs (top 56), defBody (top 56), defScope (top 56), [], []⟩, ⟨("_law_random", none), "_law_random", "_law_random", defArgs (top 42), defBody (top 42), defScope (top 42), [], []⟩, ⟨("_law_chances", none), "_law_chances", "_law_chances", defArgs (top 50), defBody (top 50), defScope (top 50), [], []⟩, ⟨("_law_world", none), "_law_world", "_law_world", defArgs (top 51), defBody (top 51), defScope (top 51), [], []⟩, ⟨("_law_deed_right", none), "_law_deed_right", "_law_deed_right", defArgs (top 57), defBody (top 57), defScope (top 57), [], []⟩, ⟨("_law_right", none), "_law_right", "_law_right", defArgs (top 58), defBody (top 58), defScope (top 58), [], []⟩, ⟨("_law_refusals_right", none), "_law_refusals_right", "_law_refusals_right", defArgs (top 59), defBody (top 59), defScope (top 59), [], []⟩, ⟨("law", none), "law", "law", defArgs (top 60), defBody (top 60), defScope (top 60), [], []⟩] : List He.DefD)
def tf : List He.Defn := [("_law_refusals_right", none)]
/-- the class statement's own def -/
def clsDef : Stmt → Stmt
  | .ClassDef _ _ _ (st :: _) _ _ _ _ _ _ _ => st
  | _ => .Pass ⟨0, 0, 0, 0⟩
abbrev sIni : Stmt := clsDef (top 1)
def exB (K : PySem.W.Frag) : Bool := exfB K okc && iniB K "/claim/cut.py"
def iv : FnC := some ("__init__", "DeedError.__init__", defArgs sIni, .stmts (defBody sIni), defScope sIni, mainGlobals, ["__class__"], builtinsNs)
def reach : Reach := fun g => sysModules :: cStatics :: He.asD g 5
abbrev R90 : PySem.W.OpenRow := PySem.W.OpenLaw.row PySem.Challenge.rw_deedchances_k90_whole_where_draws_lead
abbrev hk : PySem.W.Hook := hookP reach fa fn tf exB iv
def ob (s : PySem.W.SharedT) : AlP := obsP reach fa fn tf exB (HandSHeadRun.getT s)
theorem ob_eq (s : PySem.W.SharedT) : ob s = hk.obs s.abs := obsP_eq (HandSHeadRun.getT_eq s)
theorem run (w : World) : HandSHeadRun.RunEq R90 (PySem.W.view R90.prog [60]) hk ob 6000 names w := by
  intro os
  kernel_rfl
end K90
end
section
set_option Elab.async false
set_option linter.all false
set_option maxRecDepth 100000
set_option maxHeartbeats 1000000
namespace K90
open PySem PySem.Spec PyProof.Rows L2 PV
abbrev P90 : Program := PySem.Challenge.pw_deedchances_k90_whole_where_draws_lead
def supO : Expr := match defBody sIni with
  | [.Expr (.Call (.Attribute o _ _) _ _ _) _, _] => o
  | _ => .Name "" ⟨0, 0, 0, 0⟩
theorem dfl1 {K : PySem.W.Frag} {dv : Value} (h : (match dv with
    | .ref T => (match K.lookup T with
      | some ⟨_, _, .seq its _, _⟩ => decide (its.size = 1)
      | _ => false)
    | _ => false) = true) : ∃ T cT dT its nT sT, dv = .ref T ∧ K.lookup T = some ⟨cT, dT, .seq its nT, sT⟩ ∧ its.size = 1 := by
  cases dv with
  | ref T =>
    have kd2 : (match K.lookup T with
      | some ⟨_, _, .seq its _, _⟩ => decide (its.size = 1)
      | _ => false) = true := h
    cases qT : K.lookup T with
    | none => rw [qT] at kd2; cases kd2
    | some oT =>
      obtain ⟨cT, dT, dtT, sT⟩ := oT
      rw [qT] at kd2
      cases dtT with
      | seq its nT => exact ⟨T, cT, dT, its, nT, sT, rfl, qT, of_decide_eq_true kd2⟩
      | _ => cases kd2
  | _ => cases h
theorem ini_ok {w : World} {K : PySem.W.Frag} {mg : Str → Option Value} {base : Heap} (hms : mg "super" = none) (e : fnC K (iAd K) = iv) (h : iniB K "/claim/cut.py" = true) :
    ∃ fd, FnOk P90 w K mg base (L2.CX P90 w) 1 (iAd K) fd ["self", "value"] (spI K (He.ga K "DeedError")) ∧ Binds K fd ["self", "value"] [] := by
  obtain ⟨h1, h2⟩ := He.ba h
  obtain ⟨h3, h4⟩ := He.ba h2
  obtain ⟨h5, h6⟩ := He.ba h4
  unfold fnC at e
  cases q : K.lookup (iAd K) with
  | none => rw [q] at h1; cases h1
  | some o =>
    obtain ⟨oc, od, dt, osl⟩ := o
    rw [q] at h1 e
    cases dt with
    | func fd =>
      obtain ⟨n1, n2, n3, n4, n5, n6, n7, n8, n9, n10, n11, n12, n13, n14, n15⟩ := fd
      have e2 : (some (n1, n2, n3, n4, n5, n6, n7.map (·.1), n15) : FnC) = iv := e
      unfold iv at e2
      simp only [Option.some.injEq, Prod.mk.injEq] at e2
      obtain ⟨g1, g2, g3, g4, g5, g6, g7, g8⟩ := e2
      obtain ⟨k1, k2⟩ := He.ba h1
      obtain ⟨k34, kd⟩ := He.ba k2
      obtain ⟨k3, k4⟩ := He.ba k34
      have k1 : PySem.W.codeIn K n13 "DeedError.__init__" = true := k1
      obtain ⟨cda, rfl⟩ := He.codeIn_ref k1
      have k3' : (match K.lookup cda with
        | some ⟨_, _, .fields vs, _⟩ => (match vs[2]? with
          | some (Value.str f _) => ("/claim/cut.py" : Str) == f
          | _ => false)
        | _ => false) = true := k3
      obtain ⟨T, cT, dT, its, nT, sT, rfl, lT, hT⟩ := dfl1 (dv := n8) kd
      cases n7 with
      | nil => cases k4
      | cons p7 r7 =>
       cases r7 with
       | cons _ _ => cases k4
       | nil =>
        obtain ⟨nm, cc⟩ := p7
        simp only [List.map_cons, List.map_nil, List.cons.injEq, and_true] at g7
        subst g1 g2 g3 g4 g5 g6 g7 g8
        cases q2 : K.lookup cda with
        | none => rw [q2] at k3'; cases k3'
        | some o2 =>
          obtain ⟨oc2, od2, dt2, osl2⟩ := o2
          rw [q2] at k3'
          cases dt2 with
          | fields vs =>
            have k3'' : (match vs[2]? with
              | some (Value.str f _) => ("/claim/cut.py" : Str) == f
              | _ => false) = true := k3'
            cases q3 : vs[2]? with
            | none => rw [q3] at k3''; cases k3''
            | some v =>
              rw [q3] at k3''
              cases v with
              | str f tf =>
                have k4' : (match K.lookup cc with
                  | some ⟨_, _, .cell (some (.ref D)), _⟩ => decide (D = He.ga K "DeedError")
                  | _ => false) = true := k4
                cases q4 : K.lookup cc with
                | none => rw [q4] at k4'; cases k4'
                | some o4 =>
                  obtain ⟨oc4, od4, dt4, osl4⟩ := o4
                  rw [q4] at k4'
                  cases dt4 with
                  | cell cv =>
                    cases cv with
                    | none => cases k4'
                    | some cv =>
                      cases cv with
                      | ref D =>
                        have eD : D = He.ga K "DeedError" := of_decide_eq_true k4'
                        subst eD
                        cases q5 : PySem.W.clsIn K (He.ga K "DeedError") with
                        | none => rw [q5] at h3; cases h3
                        | some cd =>
                          refine ⟨_, init_run (P := P90) (scope := defScope sIni) (params := defArgs sIni) q k1 rfl rfl q2 q3 k3'' q4 q5 (of_decide_eq_true h5) hms rfl rfl rfl rfl rfl rfl rfl (by decide +kernel) (by decide +kernel) (plainOf supO) (fun env => ?_) (fun env => rfl) (fun env => rfl), ?_⟩
                          · rfl
                          · intro z us X hl
                            match us, hl with
                            | [a, b], _ =>
                              refine BindsTo.of_looks fun M => ?_
                              obtain ⟨v, hv⟩ : ∃ v, its = #[v] := by
                                cases its with
                                | mk l =>
                                  match l, hT with
                                  | [v], _ => exact ⟨v, rfl⟩
                              subst hv
                              refine looks_items (k := ?_) X lT rfl ?_
                              rotate_left
                              exact .of_pure rfl
                      | _ => cases k4'
                  | _ => cases k4'
              | _ => cases k3''
          | _ => cases k3'
    | _ => cases h1
end K90
end
section
set_option Elab.async false
set_option linter.all false
set_option maxRecDepth 100000
set_option maxHeartbeats 1000000
namespace K90
open PV
/-- the plain law: what the mirrors come to -/
structure Plain : Prop where
  mx : ∀ (ps : List Nat) (x : Option D), ps.length ≤ 8 → (∀ p ∈ ps, p ≤ 3) → 0 < ps.sum → (sRet (mLc [2] [4] (iLst (rdV 2)) (bName 4) tYes' (mCall m_law_lowest (aCons (rdV 4) (aCons (mCb fSum (aCons (rdV 2) aNil)) aNil))))) [none, some (.int ps.length), some (.lst true (insd ps)), x, none] = .rt (.lst true (ps.map (low ps.sum)))
  lw : ∀ t u : Nat, t ≤ 4 → 1 ≤ u → u ≤ 2 → m_law_lowest [.int t, .int u] = .ok (low u t)
  hl : ∀ r : Nat, r < 97 → m_law_lowest [.int r, .int 97] = .ok (low 97 r)
  h0 : ∀ wd p d pl dd z, WdOk 5 wd → wd[p]? = some pl → pl[d]? = some dd → q_law_deed_right_0 [z, some (worldD false wd), some (.int (p : Nat)), some (.int (d : Nat)), none, none, none, none, none, none, none] = .nx [z, some (worldD false wd), some (.int p), some (.int d), some (spansD true dd.ps), none, none, none, none, none, none]
  h1 : ∀ wd p d pl dd z, WdOk 5 wd → wd[p]? = some pl → pl[d]? = some dd → ∃ x y, q_law_deed_right_1 [z, some (worldD false wd), some (.int (p : Nat)), some (.int (d : Nat)), some (spansD true dd.ps), none, none, none, none, none, none] = .nx [z, some (worldD false wd), some (.int p), some (.int d), some (spansD false dd.ps), x, y, none, none, none, none]
  h3 : ∀ wd p d pl dd z x y r, WdOk 5 wd → wd[p]? = some pl → pl[d]? = some dd → r < 97 → ∃ y' es, (∀ e ∈ es, DrawOk e) ∧ q_law_deed_right_3 [z, some (worldD false wd), some (.int (p : Nat)), some (.int (d : Nat)), some (spansD false dd.ps), x, y, some (.lst true [.tup [.int 0, .int 1], .tup [.int 999999, .int 1000000], low 97 r]), none, none, none] = .nx [z, some (worldD false wd), some (.int p), some (.int d), some (spansD false dd.ps), x, y', some (.lst true es), none, none, none]
  h4 : ∀ wd p d pl dd z x y es, WdOk 5 wd → wd[p]? = some pl → pl[d]? = some dd → (∀ e ∈ es, DrawOk e) → q_law_deed_right_4 [z, some (worldD false wd), some (.int (p : Nat)), some (.int (d : Nat)), some (spansD false dd.ps), x, y, some (.lst true es), none, none, none] = .rt (.bl true)
  rp : ∀ wd, WdOk 5 wd → ∃ z, fRepr [worldD false wd] = some (.str z) ∧ PySem.PyData.strOk z = true
  r0 : ∃ bads, iLst (mCall m_law_bad_worlds aNil) [] = .ok bads ∧ RefOk 0 (fun bad => [.box (.clo "next_by") [bad, .non, .non, .non], .box (.clo "draws_to") [bad, .non, .non, .non]]) bads
  r1 : ∀ wd, WdOk 5 wd → ∀ x y, ∃ bads, i_refusals_1 [some (worldD false wd), x, y] = .ok bads ∧ RefOk 3 (fun bad => [.box (.clo "next_by") [worldD false wd, bad, .non, .non], .box (.clo "draws_to") [worldD false wd, bad, .non, .non], .box (.clo "draws_to") [worldD false wd, .int 0, .int 0, bad]]) bads
  r2 : ∀ wd, WdOk 5 wd → ∀ x y, ∃ bads, i_refusals_2 [some (worldD false wd), x, y] = .ok bads ∧ RefOk 8 (fun bad => [.box (.clo "next_by") [worldD false wd, .int 0, bad, .non], .box (.clo "draws_to") [worldD false wd, .int 0, bad, .non]]) bads
  r3 : ∀ wd, WdOk 5 wd → ∃ bads, i_refusals_3 [] = .ok bads ∧ RefOk 5 (fun bad => [.box (.clo "next_by") [worldD false wd, .int 0, .int 0, bad]]) bads
end K90
end
section
set_option Elab.async false
set_option linter.all false
set_option maxRecDepth 100000
set_option maxHeartbeats 1000000
namespace K90
open PySem PySem.Spec PyProof.Rows L2 PV LamX
theorem txt {w : World} {K : PySem.W.Frag} {mg : Str → Option Value} {base h : Heap} (X : K.In base) (G : base.Ns mainGlobals mg) (c : SaysP fa fn tf exB iv h K) : Txt P90 w K mg base := by
  obtain ⟨e1, e2⟩ := He.ba c.more
  have ns : mg "super" = none := He.free_ok X G (c.t.fact 59 (f := .free "super") rfl)
  obtain ⟨fdI, okI, bI⟩ := ini_ok (w := w) (base := base) ns c.iv e2
  obtain ⟨_, e3⟩ := He.ba e2
  obtain ⟨_, e4⟩ := He.ba e3
  obtain ⟨_, e5⟩ := He.ba e4
  obtain ⟨e6, e7⟩ := He.ba e5
  have exn : ∀ s ∈ okc, mg (Str.ofString s) = some (.ref (He.ga K (Str.ofString s))) → Exn P90 w K mg base s := fun s hs hm => ⟨⟨iAd K, fdI, okI, (exfB_at e1 hs).2.2.2.2.2.2.1, bI, (exfB_at e1 hs).2.2.2.2.2.2.2, of_decide_eq_true e6⟩, hm⟩
  exact {
    g_is_whole := He.glo_ok X G (c.t.fact 0 (f := .glo "is_whole") rfl)
    d_is_whole := c.t.def_ 0 (d := ⟨("is_whole", none), "is_whole", "is_whole", defArgs (top 13), defBody (top 13), defScope (top 13), [], []⟩) rfl
    g_common_divisor := He.glo_ok X G (c.t.fact 1 (f := .glo "common_divisor") rfl)
    d_common_divisor := c.t.def_ 1 (d := ⟨("common_divisor", none), "common_divisor", "common_divisor", defArgs (top 14), defBody (top 14), defScope (top 14), [], []⟩) rfl
    g_lowest := He.glo_ok X G (c.t.fact 2 (f := .glo "lowest") rfl)
    d_lowest := c.t.def_ 2 (d := ⟨("lowest", none), "lowest", "lowest", defArgs (top 15), defBody (top 15), defScope (top 15), [], []⟩) rfl
    g_is_fraction := He.glo_ok X G (c.t.fact 3 (f := .glo "is_fraction") rfl)
    d_is_fraction := c.t.def_ 3 (d := ⟨("is_fraction", none), "is_fraction", "is_fraction", defArgs (top 16), defBody (top 16), defScope (top 16), [], []⟩) rfl
    g_is_amount := He.glo_ok X G (c.t.fact 4 (f := .glo "is_amount") rfl)
    d_is_amount := c.t.def_ 4 (d := ⟨("is_amount", none), "is_amount", "is_amount", defArgs (top 17), defBody (top 17), defScope (top 17), [], []⟩) rfl
    g_are_amounts := He.glo_ok X G (c.t.fact 5 (f := .glo "are_amounts") rfl)
    d_are_amounts := c.t.def_ 5 (d := ⟨("are_amounts", none), "are_amounts", "are_amounts", defArgs (top 18), defBody (top 18), defScope (top 18), [], []⟩) rfl
    g_plus := He.glo_ok X G (c.t.fact 6 (f := .glo "plus") rfl)
    d_plus := c.t.def_ 6 (d := ⟨("plus", none), "plus", "plus", defArgs (top 20), defBody (top 20), defScope (top 20), [], []⟩) rfl
    g_is_less := He.glo_ok X G (c.t.fact 7 (f := .glo "is_less") rfl)
    d_is_less := c.t.def_ 7 (d := ⟨("is_less", none), "is_less", "is_less", defArgs (top 21), defBody (top 21), defScope (top 21), [], []⟩) rfl
    g_summed := He.glo_ok X G (c.t.fact 8 (f := .glo "summed") rfl)
    d_summed := c.t.def_ 8 (d := ⟨("summed", none), "summed", "summed", defArgs (top 22), defBody (top 22), defScope (top 22), [], []⟩) rfl
    g_are_chances := He.glo_ok X G (c.t.fact 9 (f := .glo "are_chances") rfl)
    d_are_chances := c.t.def_ 9 (d := ⟨("are_chances", none), "are_chances", "are_chances", defArgs (top 19), defBody (top 19), defScope (top 19), [], []⟩) rfl
    g_is_deed_of := He.glo_ok X G (c.t.fact 10 (f := .glo "is_deed_of") rfl)
    d_is_deed_of := c.t.def_ 10 (d := ⟨("is_deed_of", none), "is_deed_of", "is_deed_of", defArgs (top 26), defBody (top 26), defScope (top 26), [], []⟩) rfl
    g_is_world_by := He.glo_ok X G (c.t.fact 11 (f := .glo "is_world_by") rfl)
    d_is_world_by := c.t.def_ 11 (d := ⟨("is_world_by", none), "is_world_by", "is_world_by", defArgs (top 27), defBody (top 27), defScope (top 27), [], []⟩) rfl
    g_check_world := He.glo_ok X G (c.t.fact 12 (f := .glo "check_world") rfl)
    d_check_world := c.t.def_ 12 (d := ⟨("check_world", none), "check_world", "check_world", defArgs (top 28), defBody (top 28), defScope (top 28), [], []⟩) rfl
    g_places_in := He.glo_ok X G (c.t.fact 13 (f := .glo "places_in") rfl)
    d_places_in := c.t.def_ 13 (d := ⟨("places_in", none), "places_in", "places_in", defArgs (top 29), defBody (top 29), defScope (top 29), [], []⟩) rfl
    g_deeds_at := He.glo_ok X G (c.t.fact 14 (f := .glo "deeds_at") rfl)
    d_deeds_at := c.t.def_ 14 (d := ⟨("deeds_at", none), "deeds_at", "deeds_at", defArgs (top 30), defBody (top 30), defScope (top 30), [], []⟩) rfl
    g_chances_of := He.glo_ok X G (c.t.fact 15 (f := .glo "chances_of") rfl)
    d_chances_of := c.t.def_ 15 (d := ⟨("chances_of", none), "chances_of", "chances_of", defArgs (top 31), defBody (top 31), defScope (top 31), [], []⟩) rfl
    g_check_place := He.glo_ok X G (c.t.fact 16 (f := .glo "check_place") rfl)
    d_check_place := c.t.def_ 16 (d := ⟨("check_place", none), "check_place", "check_place", defArgs (top 32), defBody (top 32), defScope (top 32), [], []⟩) rfl
    g_check_deed := He.glo_ok X G (c.t.fact 17 (f := .glo "check_deed") rfl)
    d_check_deed := c.t.def_ 17 (d := ⟨("check_deed", none), "check_deed", "check_deed", defArgs (top 33), defBody (top 33), defScope (top 33), [], []⟩) rfl
    g_is_draw := He.glo_ok X G (c.t.fact 18 (f := .glo "is_draw") rfl)
    d_is_draw := c.t.def_ 18 (d := ⟨("is_draw", none), "is_draw", "is_draw", defArgs (top 35), defBody (top 35), defScope (top 35), [], []⟩) rfl
    g_check_draw := He.glo_ok X G (c.t.fact 19 (f := .glo "check_draw") rfl)
    d_check_draw := c.t.def_ 19 (d := ⟨("check_draw", none), "check_draw", "check_draw", defArgs (top 36), defBody (top 36), defScope (top 36), [], []⟩) rfl
    g_drawn_at := He.glo_ok X G (c.t.fact 20 (f := .glo "drawn_at") rfl)
    d_drawn_at := c.t.def_ 20 (d := ⟨("drawn_at", none), "drawn_at", "drawn_at", defArgs (top 37), defBody (top 37), defScope (top 37), [], []⟩) rfl
    g_next_by := He.glo_ok X G (c.t.fact 21 (f := .glo "next_by") rfl)
    d_next_by := c.t.def_ 21 (d := ⟨("next_by", none), "next_by", "next_by", defArgs (top 38), defBody (top 38), defScope (top 38), [], []⟩) rfl
    g_draws_to := He.glo_ok X G (c.t.fact 22 (f := .glo "draws_to") rfl)
    d_draws_to := c.t.def_ 22 (d := ⟨("draws_to", none), "draws_to", "draws_to", defArgs (top 39), defBody (top 39), defScope (top 39), [], []⟩) rfl
    g__law_hash := He.glo_ok X G (c.t.fact 23 (f := .glo "_law_hash") rfl)
    d__law_hash := c.t.def_ 23 (d := ⟨("_law_hash", none), "_law_hash", "_law_hash", defArgs (top 41), defBody (top 41), defScope (top 41), [], []⟩) rfl
    g__law_cell := He.glo_ok X G (c.t.fact 24 (f := .glo "_law_cell") rfl)
    d__law_cell := c.t.def_ 24 (d := ⟨("_law_cell", none), "_law_cell", "_law_cell", defArgs (top 43), defBody (top 43), defScope (top 43), [], []⟩) rfl
    g__law_generator := He.glo_ok X G (c.t.fact 25 (f := .glo "_law_generator") rfl)
    d__law_generator := c.t.def_ 25 (d := ⟨("_law_generator", none), "_law_generator", "_law_generator", defArgs (top 44), defBody (top 44), defScope (top 44), [], []⟩) rfl
    g__law_exact := He.glo_ok X G (c.t.fact 26 (f := .glo "_law_exact") rfl)
    d__law_exact := c.t.def_ 26 (d := ⟨("_law_exact", none), "_law_exact", "_law_exact", defArgs (top 45), defBody (top 45), defScope (top 45), [], []⟩) rfl
    g__law_lowest := He.glo_ok X G (c.t.fact 27 (f := .glo "_law_lowest") rfl)
    d__law_lowest := c.t.def_ 27 (d := ⟨("_law_lowest", none), "_law_lowest", "_law_lowest", defArgs (top 46), defBody (top 46), defScope (top 46), [], []⟩) rfl
    g__law_plus := He.glo_ok X G (c.t.fact 28 (f := .glo "_law_plus") rfl)
    d__law_plus := c.t.def_ 28 (d := ⟨("_law_plus", none), "_law_plus", "_law_plus", defArgs (top 47), defBody (top 47), defScope (top 47), [], []⟩) rfl
    g__law_less := He.glo_ok X G (c.t.fact 29 (f := .glo "_law_less") rfl)
    d__law_less := c.t.def_ 29 (d := ⟨("_law_less", none), "_law_less", "_law_less", defArgs (top 48), defBody (top 48), defScope (top 48), [], []⟩) rfl
    g__law_under := He.glo_ok X G (c.t.fact 30 (f := .glo "_law_under") rfl)
    d__law_under := c.t.def_ 30 (d := ⟨("_law_under", none), "_law_under", "_law_under", defArgs (top 49), defBody (top 49), defScope (top 49), [], []⟩) rfl
    g__law_caught := He.glo_ok X G (c.t.fact 31 (f := .glo "_law_caught") rfl)
    d__law_caught := c.t.def_ 31 (d := ⟨("_law_caught", none), "_law_caught", "_law_caught", defArgs (top 52), defBody (top 52), defScope (top 52), [], []⟩) rfl
    g__law_all_caught := He.glo_ok X G (c.t.fact 32 (f := .glo "_law_all_caught") rfl)
    d__law_all_caught := c.t.def_ 32 (d := ⟨("_law_all_caught", none), "_law_all_caught", "_law_all_caught", defArgs (top 53), defBody (top 53), defScope (top 53), [], []⟩) rfl
    g__law_bad_worlds := He.glo_ok X G (c.t.fact 33 (f := .glo "_law_bad_worlds") rfl)
    d__law_bad_worlds := c.t.def_ 33 (d := ⟨("_law_bad_worlds", none), "_law_bad_worlds", "_law_bad_worlds", defArgs (top 54), defBody (top 54), defScope (top 54), [], []⟩) rfl
    g__law_spans := He.glo_ok X G (c.t.fact 34 (f := .glo "_law_spans") rfl)
    d__law_spans := c.t.def_ 34 (d := ⟨("_law_spans", none), "_law_spans", "_law_spans", defArgs (top 55), defBody (top 55), defScope (top 55), [], []⟩) rfl
    g__law_led_by := He.glo_ok X G (c.t.fact 35 (f := .glo "_law_led_by") rfl)
    d__law_led_by := c.t.def_ 35 (d := ⟨("_law_led_by", none), "_law_led_by", "_law_led_by", defArgs (top 56), defBody (top 56), defScope (top 56), [], []⟩) rfl
    g__law_random := He.glo_ok X G (c.t.fact 36 (f := .glo "_law_random") rfl)
    d__law_random := c.t.def_ 36 (d := ⟨("_law_random", none), "_law_random", "_law_random", defArgs (top 42), defBody (top 42), defScope (top 42), [], []⟩) rfl
    g__law_chances := He.glo_ok X G (c.t.fact 37 (f := .glo "_law_chances") rfl)
    d__law_chances := c.t.def_ 37 (d := ⟨("_law_chances", none), "_law_chances", "_law_chances", defArgs (top 50), defBody (top 50), defScope (top 50), [], []⟩) rfl
    g__law_world := He.glo_ok X G (c.t.fact 38 (f := .glo "_law_world") rfl)
    d__law_world := c.t.def_ 38 (d := ⟨("_law_world", none), "_law_world", "_law_world", defArgs (top 51), defBody (top 51), defScope (top 51), [], []⟩) rfl
    g__law_deed_right := He.glo_ok X G (c.t.fact 39 (f := .glo "_law_deed_right") rfl)
    d__law_deed_right := c.t.def_ 39 (d := ⟨("_law_deed_right", none), "_law_deed_right", "_law_deed_right", defArgs (top 57), defBody (top 57), defScope (top 57), [], []⟩) rfl
    g__law_right := He.glo_ok X G (c.t.fact 40 (f := .glo "_law_right") rfl)
    d__law_right := c.t.def_ 40 (d := ⟨("_law_right", none), "_law_right", "_law_right", defArgs (top 58), defBody (top 58), defScope (top 58), [], []⟩) rfl
    g__law_refusals_right := He.glo_ok X G (c.t.fact 41 (f := .glo "_law_refusals_right") rfl)
    d__law_refusals_right := c.t.def_ 41 (d := ⟨("_law_refusals_right", none), "_law_refusals_right", "_law_refusals_right", defArgs (top 59), defBody (top 59), defScope (top 59), [], []⟩) rfl
    g_law := He.glo_ok X G (c.t.fact 42 (f := .glo "law") rfl)
    d_law := c.t.def_ 42 (d := ⟨("law", none), "law", "law", defArgs (top 60), defBody (top 60), defScope (top 60), [], []⟩) rfl
    f_isinstance := He.free_ok X G (c.t.fact 43 (f := .free "isinstance") rfl)
    f_len := He.free_ok X G (c.t.fact 44 (f := .free "len") rfl)
    f_abs := He.free_ok X G (c.t.fact 45 (f := .free "abs") rfl)
    f_int := He.free_ok X G (c.t.fact 46 (f := .free "int") rfl)
    f_bool := He.free_ok X G (c.t.fact 47 (f := .free "bool") rfl)
    f_str := He.free_ok X G (c.t.fact 48 (f := .free "str") rfl)
    f_tuple := He.free_ok X G (c.t.fact 49 (f := .free "tuple") rfl)
    f_list := He.free_ok X G (c.t.fact 50 (f := .free "list") rfl)
    f_sum := He.free_ok X G (c.t.fact 51 (f := .free "sum") rfl)
    f_all := He.free_ok X G (c.t.fact 52 (f := .free "all") rfl)
    f_any := He.free_ok X G (c.t.fact 53 (f := .free "any") rfl)
    f_max := He.free_ok X G (c.t.fact 54 (f := .free "max") rfl)
    f_range := He.free_ok X G (c.t.fact 55 (f := .free "range") rfl)
    f_enumerate := He.free_ok X G (c.t.fact 56 (f := .free "enumerate") rfl)
    f_zip := He.free_ok X G (c.t.fact 57 (f := .free "zip") rfl)
    f_repr := He.free_ok X G (c.t.fact 58 (f := .free "repr") rfl)
    c_MOST_PLACES := He.int_ok X G (c.t.fact 60 (f := .int "MOST_PLACES" 8) rfl)
    c_MOST_DEEDS := He.int_ok X G (c.t.fact 61 (f := .int "MOST_DEEDS" 4) rfl)
    x_InvalidWorld := exn "InvalidWorld" (by decide) (He.glo_ok X G (c.t.fact 62 (f := .glo "InvalidWorld") rfl))
    x_InvalidLot := exn "InvalidLot" (by decide) (He.glo_ok X G (c.t.fact 63 (f := .glo "InvalidLot") rfl))
    x_InvalidPlan := exn "InvalidPlan" (by decide) (He.glo_ok X G (c.t.fact 64 (f := .glo "InvalidPlan") rfl))
    x_InvalidPlace := exn "InvalidPlace" (by decide) (He.glo_ok X G (c.t.fact 65 (f := .glo "InvalidPlace") rfl))
    x_InvalidList := exn "InvalidList" (by decide) (He.glo_ok X G (c.t.fact 66 (f := .glo "InvalidList") rfl))
    x_InvalidNumber := exn "InvalidNumber" (by decide) (He.glo_ok X G (c.t.fact 67 (f := .glo "InvalidNumber") rfl))
    x_InvalidText := exn "InvalidText" (by decide) (He.glo_ok X G (c.t.fact 68 (f := .glo "InvalidText") rfl))
    x_InvalidLine := exn "InvalidLine" (by decide) (He.glo_ok X G (c.t.fact 69 (f := .glo "InvalidLine") rfl))
    x_InvalidDeed := exn "InvalidDeed" (by decide) (He.glo_ok X G (c.t.fact 70 (f := .glo "InvalidDeed") rfl))
    x_InvalidDiscount := exn "InvalidDiscount" (by decide) (He.glo_ok X G (c.t.fact 71 (f := .glo "InvalidDiscount") rfl))
    exf := exfB_ok e1
    exm := fun s hs => (exfB_at e1 hs).2.2.2.2.2.1
    g_DeedError := He.glo_ok X G (c.t.fact 72 (f := .glo "DeedError") rfl)
    sysm := by
      cases q : K.lookup sysModules with
      | none => rw [q] at e7; cases e7
      | some o => exact ⟨o, X _ _ q⟩ }
theorem chain {P : Program} {w : World} {K : PySem.W.Frag} {mg : Str → Option Value} {base : Heap} (T : Txt P w K mg base) (pl : Plain) (Pt : Addr) (TB : TabB base mg (He.codeOf K ("_law_refusals_right", none)) Pt) : DefG P w K mg base 16 "law" ["script"] (spLaw K [(Pt, refQ)]) := by
  have h_is_whole := d_is_whole T
  have h_common_divisor := d_common_divisor T
  have h_lowest := d_lowest T h_common_divisor
  have h_is_fraction := d_is_fraction T h_is_whole h_common_divisor
  have h_is_amount := d_is_amount T h_is_fraction
  have h_are_amounts := d_are_amounts T h_is_amount
  have h_plus := d_plus T h_lowest
  have h_is_less := d_is_less T
  have h_summed := d_summed T h_plus
  have h_are_chances := d_are_chances T h_are_amounts h_summed
  have h_is_deed_of := d_is_deed_of T h_is_fraction h_are_chances
  have h_is_world_by := d_is_world_by T h_is_deed_of
  have h_check_world := d_check_world T h_is_world_by
  have h_places_in := d_places_in T
  have h_deeds_at := d_deeds_at T
  have h_chances_of := d_chances_of T
  have h_check_place := d_check_place T h_is_whole h_places_in
  have h_check_deed := d_check_deed T h_is_whole h_deeds_at
  have h_is_draw := d_is_draw T h_is_fraction
  have h_check_draw := d_check_draw T h_is_draw
  have h_drawn_at := d_drawn_at T h_plus h_is_less
  have h_next_by := d_next_by T h_check_world h_check_place h_check_deed h_check_draw h_chances_of h_drawn_at
  have h_draws_to := d_draws_to T h_check_world h_check_place h_check_deed h_chances_of h_summed h_plus
  have h__law_hash := d_law_hash T
  have h__law_cell := d_law_cell T
  have h__law_generator := d_law_generator T h__law_cell
  have h__law_exact := d_law_exact T
  have h__law_lowest := d_law_lowest T
  have h__law_plus := d_law_plus T h__law_lowest
  have h__law_less := d_law_less T h__law_plus
  have h__law_under := d_law_under T
  have h__law_caught := d_law_caught T h_next_by h_draws_to
  have h__law_all_caught := d_law_all_caught T h__law_caught h__law_exact
  have h__law_bad_worlds := d_law_bad_worlds T
  have h__law_spans := d_law_spans T h__law_plus
  have h__law_led_by := d_law_led_by T h__law_under
  have nd : (["generator", "world", "place", "deed", "spans", "late", "span", "some", "one", "draw", "due"] : List Str).Nodup := by decide +kernel
  have hR := w_random T [(Pt, refQ)] h__law_hash
  have hC := w_chances T [(Pt, refQ)] hR h__law_lowest pl.mx
  have hW := w_world T [(Pt, refQ)] hR hC h__law_lowest pl.lw
  have hD := w_deed_right T [(Pt, refQ)] hR h__law_lowest (fun {cdv A outer s H E} hr => sx_law_deed_right_0 T h__law_spans nd (cdv := cdv) (A := A) (outer := outer) (s := s) (H := H) (E := E) hr (by decide)) (fun {cdv A outer s H E} hr => sx_law_deed_right_1 T h_draws_to h__law_exact nd (cdv := cdv) (A := A) (outer := outer) (s := s) (H := H) (E := E) hr (by decide)) (fun {cdv A outer s H E} hr => sx_law_deed_right_3 T h__law_less h__law_plus h__law_under nd (cdv := cdv) (A := A) (outer := outer) (s := s) (H := H) (E := E) hr (by decide)) (fun {cdv A outer s H E} hr => sx_law_deed_right_4 T h__law_exact h__law_led_by h_next_by nd (cdv := cdv) (A := A) (outer := outer) (s := s) (H := H) (E := E) hr (by decide)) pl.hl pl.h0 pl.h1 pl.h3 pl.h4
  have hF := w_refusals T Pt TB h__law_bad_worlds h__law_all_caught pl.r0 pl.r1 pl.r2 pl.r3
  have hL := w_right T [(Pt, refQ)] hW hD hF pl.rp
  exact w_law T [(Pt, refQ)] (w_gen T (w_cell T)) hL
theorem funD_one {K : PySem.W.Frag} {x q x' q' : Str} {ps ps' : Arguments} {b b' : List Stmt} {s s' : Scope} {dv dv' : List V} {kw kw' : List (Str × V)} {f : Addr} {fd fd' : FuncData} (h : FunD K x q ps b s dv kw f fd) (h' : FunD K x' q' ps' b' s' dv' kw' f fd') : fd = fd' := by
  obtain ⟨_, _, _, _, _, _, _, _, _, _, _, e, _⟩ := h.ex
  obtain ⟨_, _, _, _, _, _, _, _, _, _, _, e', _⟩ := h'.ex
  rw [e] at e'
  cases e'
  rfl
theorem lawG (pl : Plain) {w : World} {K : PySem.W.Frag} {mg : Str → Option Value} {h : Heap} {f : Addr} (X : K.In h) (G : h.Ns mainGlobals mg) (hfa : mg ("law" : Str) = some (.ref f)) (c : SaysP fa fn tf exB iv h K) : LawG P90 w K 16 63 "script" mg f h := by
  have gl := He.glo_ok X G (c.t.fact 42 (f := .glo "law") rfl)
  have e := hfa.symm.trans gl
  cases e
  obtain ⟨fd, F⟩ : ∃ fd, FunD K "law" "law" (defArgs (top 60)) (defBody (top 60)) (defScope (top 60)) [] [] (He.ga K "law") fd := c.t.def_ 42 (d := ⟨("law", none), "law", "law", defArgs (top 60), defBody (top 60), defScope (top 60), [], []⟩) rfl
  have b := FunD.bindsA (ps := ["script"]) F fun _ _ _ _ _ _ us hl => match us, hl with | [_], _ => rfl
  have m0 : (("_law_refusals_right", none) : He.Defn) ∈ tf := List.mem_singleton.mpr rfl
  refine ⟨⟨fd, [He.cT K ("_law_refusals_right", none)], spLaw K [((He.cT K ("_law_refusals_right", none)).2, refQ)], all1 (c.empty _ m0), all1 (c.out _ m0), all1 (PySem.W.codeHd_of_K X (c.hd _ m0)), fun s v => b s [v] rfl, fun H a ns hl ht hS => ⟨a, ns, rfl, hS, fun p hp => ?_, fun _ _ _ z => z, fun _ => rfl⟩, fun base XB GB TB => ?_⟩⟩
  · rw [List.mem_singleton.mp hp]
    exact TabS.nil (ht _ (List.mem_singleton.mpr rfl))
  · obtain ⟨fd', F', _, _, _, _, FD⟩ := (chain (txt (w := w) XB GB c) pl _ (TB _ (List.mem_singleton.mpr rfl))).ok
    rw [funD_one F FD]
    exact F'
end K90
end
section
set_option Elab.async false
set_option linter.all false
set_option maxRecDepth 100000
set_option maxHeartbeats 1000000
namespace K90
open PV
/-! ### the greatest common divisor -/
theorem gcd_step (a b : Nat) : Nat.gcd b (a % b) = Nat.gcd a b := by
  rw [Nat.gcd_comm a b, Nat.gcd_rec b a, Nat.gcd_comm]
/-- the law's loop -/
theorem wl (c : PV.Env → R Bool) (m : PV.Env → Fl) (T U : Option D) (hc : ∀ a b : Nat, c [T, U, some (.int a), some (.int b)] = .ok (decide (0 < b))) (hm : ∀ a b : Nat, 0 < b → m [T, U, some (.int a), some (.int b)] = .nx [T, U, some (.int b), some (.int (a % b : Nat))]) :
    ∀ (b a n : Nat), b < n → whileF c m n [T, U, some (.int a), some (.int b)] = .nx [T, U, some (.int (Nat.gcd a b : Nat)), some (.int 0)] := by
  intro b
  induction b using Nat.strongRecOn with
  | ind b ih =>
    intro a n h
    cases n with
    | zero => omega
    | succ n =>
      unfold whileF
      rw [hc]
      by_cases h0 : 0 < b
      · simp only [h0, decide_true, hm a b h0]
        have := ih (a % b) (Nat.mod_lt _ h0) b n (by have := Nat.mod_lt a h0; omega)
        rw [this, gcd_step]
      · have : b = 0 := by omega
        subst this
        simp
theorem fuel_lt {b : Nat} (h : b < 2 ^ 190) : b < fuelW := by
  unfold fuelW
  omega
theorem modI (a b : Nat) (h : 0 < b) : fMod (.int a) (.int b) = some (.int ((a % b : Nat) : Int)) := by
  unfold fMod onI
  have : (decide ((0 : Int) < (b : Int))) = true := by simp; omega
  simp [this]
  omega
theorem divI (a b : Nat) (h : 0 < b) (hb : b < 2 ^ 190) : fDiv (.int a) (.int b) = some (.int ((a / b : Nat) : Int)) := by
  unfold fDiv onI
  have h1 : (decide ((0 : Int) < (b : Int))) = true := by simp; omega
  have h2 : (decide (((b : Int)).natAbs.log2 < 9000)) = true := by
    simp
    have := (Nat.log2_lt (n := b) (k := 190) (by omega)).mpr hb
    omega
  simp only [h1, h2, Bool.and_self, if_true]
  simp
theorem gtI (a : Nat) : fGt (.int a) (.int 0) = some (.bl (decide (0 < a))) := by
  unfold fGt onI
  simp
theorem ltI0 (a : Nat) : fLt (.int a) (.int 0) = some (.bl false) := by
  unfold fLt onI
  simp
theorem maxI (a : Nat) : fMax2 [.int a, .int (-(a : Int))] = some (.int a) := by
  unfold fMax2
  simp
  omega
theorem law_lowest (t u : Nat) (hu : 0 < u) (hu2 : u < 2 ^ 180) : m_law_lowest [.int t, .int u] = .ok (low u t) := by
  have hg : 0 < Nat.gcd t u := Nat.gcd_pos_of_pos_right _ hu
  have hg2 : Nat.gcd t u < 2 ^ 190 := Nat.lt_of_le_of_lt (Nat.le_of_dvd hu (Nat.gcd_dvd_right t u)) (by omega)
  have w := wl (tst (PV.bin (rdV 3) (cI 0) fGt)) (sPar [3] [] (aCons (rdV 3) (aCons (PV.bin (mCb fInt (aCons (rdV 2) aNil)) (rdV 3) fMod) aNil)) 2 3) (some (.int t)) (some (.int u)) (fun a b => by
    simp [runF, outF, ent, sSeq, sAsg, sRet, sIf, sPar, sDrop, sNil, thnE, toF, bName, pre, PV.bin, mCb, aCons, aNil, mTup, mLst, mCall, rdV, mvV, cI, cB, cS, cN, tst, asB, mNot, mAnd, mOr, vAnd, vOr, vNot, vIf, R.bind_ok, R.bind_ex, R.bind_fail, ofO, fz, fzL, noFz, noFzL, frzA, unsA, onI, fAdd, fSub, fNeg, mNeg, fInt, gtI]) (fun a b hb => by
    simp [runF, outF, ent, sSeq, sAsg, sRet, sIf, sPar, sDrop, sNil, thnE, toF, bName, pre, PV.bin, mCb, aCons, aNil, mTup, mLst, mCall, rdV, mvV, cI, cB, cS, cN, tst, asB, mNot, mAnd, mOr, vAnd, vOr, vNot, vIf, R.bind_ok, R.bind_ex, R.bind_fail, ofO, fz, fzL, noFz, noFzL, frzA, unsA, onI, fAdd, fSub, fNeg, mNeg, fInt, modI a b hb]) u t fuelW (fuel_lt (by omega))
  have d1 := divI t _ hg hg2
  have d2 := divI u _ hg hg2
  unfold m_law_lowest b_law_lowest
  simp [runF, outF, ent, sSeq, sAsg, sRet, sIf, sPar, sDrop, sNil, thnE, toF, bName, pre, PV.bin, mCb, aCons, aNil, mTup, mLst, mCall, rdV, mvV, cI, cB, cS, cN, tst, asB, mNot, mAnd, mOr, vAnd, vOr, vNot, vIf, R.bind_ok, R.bind_ex, R.bind_fail, ofO, fz, fzL, noFz, noFzL, frzA, unsA, onI, fAdd, fSub, fNeg, mNeg, fInt, ltI0, maxI, sWhile]
  rw [w]
  simp [runF, outF, ent, sSeq, sAsg, sRet, sIf, sPar, sDrop, sNil, thnE, toF, bName, pre, PV.bin, mCb, aCons, aNil, mTup, mLst, mCall, rdV, mvV, cI, cB, cS, cN, tst, asB, mNot, mAnd, mOr, vAnd, vOr, vNot, vIf, R.bind_ok, R.bind_ex, R.bind_fail, ofO, fz, fzL, noFz, noFzL, frzA, unsA, onI, fAdd, fSub, fNeg, mNeg, fInt, d1, d2, mkT_ok]
  rfl
end K90
end
section
set_option Elab.async false
set_option linter.all false
set_option maxRecDepth 100000
set_option maxHeartbeats 1000000
namespace K90
open PV
theorem low_eq {t u t' u' : Nat} (h : t * u' = t' * u) (hu : 0 < u) (hu' : 0 < u') : low u t = low u' t' := by
  have hg : 0 < Nat.gcd t u := Nat.gcd_pos_of_pos_right _ hu
  have hg' : 0 < Nat.gcd t' u' := Nat.gcd_pos_of_pos_right _ hu'
  have c1 := Nat.coprime_div_gcd_div_gcd hg
  have c2 := Nat.coprime_div_gcd_div_gcd hg'
  have et := Nat.div_mul_cancel (Nat.gcd_dvd_left t u)
  have eu := Nat.div_mul_cancel (Nat.gcd_dvd_right t u)
  have et' := Nat.div_mul_cancel (Nat.gcd_dvd_left t' u')
  have eu' := Nat.div_mul_cancel (Nat.gcd_dvd_right t' u')
  unfold low
  generalize Nat.gcd t u = g at *
  generalize Nat.gcd t' u' = g' at *
  generalize t / g = a at *
  generalize u / g = b at *
  generalize t' / g' = a' at *
  generalize u' / g' = b' at *
  have e : a * b' = a' * b := by
    have e1 : (g * g') * (a * b') = (g * g') * (a' * b) := by
      have : t * u' = t' * u := h
      rw [← et, ← eu, ← et', ← eu'] at this
      calc (g * g') * (a * b') = a * g * (b' * g') := by ac_rfl
        _ = a' * g' * (b * g) := this
        _ = (g * g') * (a' * b) := by ac_rfl
    exact Nat.eq_of_mul_eq_mul_left (Nat.mul_pos hg hg') e1
  have ea : a = a' := Nat.dvd_antisymm (c1.dvd_of_dvd_mul_right (e ▸ Nat.dvd_mul_right a b')) (c2.dvd_of_dvd_mul_right (e.symm ▸ Nat.dvd_mul_right a' b))
  have eb : b = b' := by
    refine Nat.dvd_antisymm (c1.symm.dvd_of_dvd_mul_left (e.symm ▸ Nat.dvd_mul_left b a')) (c2.symm.dvd_of_dvd_mul_left (e ▸ Nat.dvd_mul_left b' a))
  rw [ea, eb]
/-- a fraction -/
def fr (n d : Nat) : D := .tup [.int n, .int d]
theorem low_fr (s p : Nat) : low s p = fr (p / Nat.gcd p s) (s / Nat.gcd p s) := rfl
theorem low_sum {s a b : Nat} (hs : 0 < s) : low ((s / Nat.gcd a s) * (s / Nat.gcd b s)) ((a / Nat.gcd a s) * (s / Nat.gcd b s) + (b / Nat.gcd b s) * (s / Nat.gcd a s)) = low s (a + b) := by
  have hg : 0 < Nat.gcd a s := Nat.gcd_pos_of_pos_right _ hs
  have hh : 0 < Nat.gcd b s := Nat.gcd_pos_of_pos_right _ hs
  have ea := Nat.div_mul_cancel (Nat.gcd_dvd_left a s)
  have es := Nat.div_mul_cancel (Nat.gcd_dvd_right a s)
  have eb := Nat.div_mul_cancel (Nat.gcd_dvd_left b s)
  have es' := Nat.div_mul_cancel (Nat.gcd_dvd_right b s)
  have p1 : 0 < s / Nat.gcd a s := Nat.div_pos (Nat.le_of_dvd hs (Nat.gcd_dvd_right a s)) hg
  have p2 : 0 < s / Nat.gcd b s := Nat.div_pos (Nat.le_of_dvd hs (Nat.gcd_dvd_right b s)) hh
  refine low_eq ?_ (Nat.mul_pos p1 p2) hs
  generalize Nat.gcd a s = g at *
  generalize Nat.gcd b s = h at *
  generalize s / g = s1 at *
  generalize s / h = s2 at *
  generalize a / g = a1 at *
  generalize b / h = b1 at *
  calc (a1 * s2 + b1 * s1) * s = a1 * s2 * s + b1 * s1 * s := Nat.add_mul _ _ _
    _ = a1 * s2 * (s1 * g) + b1 * s1 * (s2 * h) := by rw [es, es']
    _ = (a1 * g + b1 * h) * (s1 * s2) := by rw [Nat.add_mul]; congr 1 <;> ac_rfl
    _ = (a + b) * (s1 * s2) := by rw [ea, eb]
/-! ### the program's own -/
theorem absI (a : Nat) : fAbs [.int a] = some (.int a) := by
  unfold fAbs
  simp
  omega
theorem common_divisor (a b : Nat) (hb : b < 2 ^ 190) : m_common_divisor [.int a, .int b] = .ok (.int (Nat.gcd a b : Nat)) := by
  have w : ∀ (b a n : Nat), b < n → whileF (tst (PV.bin (rdV 1) (cI 0) fGt)) (sPar [1] [] (aCons (rdV 1) (aCons (PV.bin (rdV 0) (rdV 1) fMod) aNil)) 0 1) n [some (.int a), some (.int b)] = .nx [some (.int (Nat.gcd a b : Nat)), some (.int 0)] := by
    intro b
    induction b using Nat.strongRecOn with
    | ind b ih =>
      intro a n h
      cases n with
      | zero => omega
      | succ n =>
        unfold whileF
        by_cases h0 : 0 < b
        · have := ih (a % b) (Nat.mod_lt _ h0) b n (by have := Nat.mod_lt a h0; omega)
          simp [runF, outF, ent, sSeq, sAsg, sRet, sIf, sPar, sDrop, sNil, thnE, toF, bName, pre, PV.bin, mCb, aCons, aNil, mTup, mLst, mCall, rdV, mvV, cI, cB, cS, cN, tst, asB, mNot, mAnd, mOr, vAnd, vOr, vNot, vIf, R.bind_ok, R.bind_ex, R.bind_fail, ofO, fz, fzL, noFz, noFzL, frzA, unsA, onI, fAdd, fSub, fNeg, mNeg, fInt, gtI, h0, modI a b h0]
          simp at this
          rw [this, gcd_step]
        · have : b = 0 := by omega
          subst this
          simp [runF, outF, ent, sSeq, sAsg, sRet, sIf, sPar, sDrop, sNil, thnE, toF, bName, pre, PV.bin, mCb, aCons, aNil, mTup, mLst, mCall, rdV, mvV, cI, cB, cS, cN, tst, asB, mNot, mAnd, mOr, vAnd, vOr, vNot, vIf, R.bind_ok, R.bind_ex, R.bind_fail, ofO, fz, fzL, noFz, noFzL, frzA, unsA, onI, fAdd, fSub, fNeg, mNeg, fInt, show fGt (.int 0) (.int 0) = some (.bl false) from rfl]
  have w' := w b a fuelW (fuel_lt hb)
  unfold m_common_divisor b_common_divisor
  simp [runF, outF, ent, sSeq, sAsg, sRet, sIf, sPar, sDrop, sNil, thnE, toF, bName, pre, PV.bin, mCb, aCons, aNil, mTup, mLst, mCall, rdV, mvV, cI, cB, cS, cN, tst, asB, mNot, mAnd, mOr, vAnd, vOr, vNot, vIf, R.bind_ok, R.bind_ex, R.bind_fail, ofO, fz, fzL, noFz, noFzL, frzA, unsA, onI, fAdd, fSub, fNeg, mNeg, fInt, absI, sWhile]
  rw [w']
  rfl
theorem lowest (t u : Nat) (hu : 0 < u) (hu2 : u < 2 ^ 180) : m_lowest [.int t, .int u] = .ok (low u t) := by
  have hg : 0 < Nat.gcd t u := Nat.gcd_pos_of_pos_right _ hu
  have hg2 : Nat.gcd t u < 2 ^ 190 := Nat.lt_of_le_of_lt (Nat.le_of_dvd hu (Nat.gcd_dvd_right t u)) (by omega)
  have d1 := divI t _ hg hg2
  have d2 := divI u _ hg hg2
  unfold m_lowest b_lowest
  simp [runF, outF, ent, sSeq, sAsg, sRet, sIf, sPar, sDrop, sNil, thnE, toF, bName, pre, PV.bin, mCb, aCons, aNil, mTup, mLst, mCall, rdV, mvV, cI, cB, cS, cN, tst, asB, mNot, mAnd, mOr, vAnd, vOr, vNot, vIf, R.bind_ok, R.bind_ex, R.bind_fail, ofO, fz, fzL, noFz, noFzL, frzA, unsA, onI, fAdd, fSub, fNeg, mNeg, fInt, ltI0, common_divisor t u (by omega), d1, d2, mkT_ok]
  rfl
theorem mulI (a b : Nat) (h : b < 2 ^ 64) : fMul (.int a) (.int b) = some (.int ((a * b : Nat) : Int)) := by
  have : mulOk (a : Int) (b : Int) = true := mul_of (by omega)
  unfold fMul onI
  simp [this]
theorem ix0 (a b : D) : fIx (.tup [a, b]) (.int 0) = some a := rfl
theorem ix1 (a b : D) : fIx (.tup [a, b]) (.int 1) = some b := rfl
theorem plus_fr (a b c d : Nat) (hb : 0 < b) (hd : 0 < d) (hb2 : b < 2 ^ 60) (hd2 : d < 2 ^ 60) : m_plus [fr a b, fr c d] = .ok (low (b * d) (a * d + c * b)) := by
  have hl := lowest (a * d + c * b) (b * d) (Nat.mul_pos hb hd) (Nat.lt_of_lt_of_le (Nat.mul_lt_mul'' hb2 hd2) (by decide))
  push_cast at hl
  unfold m_plus b_plus fr
  simp [runF, outF, ent, sSeq, sAsg, sRet, sIf, sPar, sDrop, sNil, thnE, toF, bName, pre, PV.bin, mCb, aCons, aNil, mTup, mLst, mCall, rdV, mvV, cI, cB, cS, cN, tst, asB, mNot, mAnd, mOr, vAnd, vOr, vNot, vIf, R.bind_ok, R.bind_ex, R.bind_fail, ofO, fz, fzL, noFz, noFzL, frzA, unsA, onI, fAdd, fSub, fNeg, mNeg, fInt, ix0, ix1, mulI _ _ (show d < 2 ^ 64 by omega), mulI _ _ (show b < 2 ^ 64 by omega)]
  rw [hl]
theorem law_plus_fr (a b c d : Nat) (hb : 0 < b) (hd : 0 < d) (hb2 : b < 2 ^ 60) (hd2 : d < 2 ^ 60) : m_law_plus [fr a b, fr c d] = .ok (low (b * d) (a * d + c * b)) := by
  have hl := law_lowest (a * d + c * b) (b * d) (Nat.mul_pos hb hd) (Nat.lt_of_lt_of_le (Nat.mul_lt_mul'' hb2 hd2) (by decide))
  push_cast at hl
  unfold m_law_plus b_law_plus fr
  simp [runF, outF, ent, sSeq, sAsg, sRet, sIf, sPar, sDrop, sNil, thnE, toF, bName, pre, PV.bin, mCb, aCons, aNil, mTup, mLst, mCall, rdV, mvV, cI, cB, cS, cN, tst, asB, mNot, mAnd, mOr, vAnd, vOr, vNot, vIf, R.bind_ok, R.bind_ex, R.bind_fail, ofO, fz, fzL, noFz, noFzL, frzA, unsA, onI, fAdd, fSub, fNeg, mNeg, fInt, ix0, ix1, mulI _ _ (show d < 2 ^ 64 by omega), mulI _ _ (show b < 2 ^ 64 by omega)]
  rw [hl]
end K90
end
section
set_option Elab.async false
set_option linter.all false
set_option maxRecDepth 100000
set_option maxHeartbeats 1000000
namespace K90
open PV
theorem noFz_low (s p : Nat) : noFz (low s p) = true := rfl
theorem lowd_pos {s p : Nat} (hs : 0 < s) : 0 < s / Nat.gcd p s := Nat.div_pos (Nat.le_of_dvd hs (Nat.gcd_dvd_right p s)) (Nat.gcd_pos_of_pos_right _ hs)
theorem lowd_le (s p : Nat) : s / Nat.gcd p s ≤ s := Nat.div_le_self _ _
theorem plus_low {s a b : Nat} (hs : 0 < s) (h2 : s < 2 ^ 60) : m_plus [low s a, low s b] = .ok (low s (a + b)) := by
  have h := plus_fr (a / Nat.gcd a s) (s / Nat.gcd a s) (b / Nat.gcd b s) (s / Nat.gcd b s) (lowd_pos hs) (lowd_pos hs) (Nat.lt_of_le_of_lt (lowd_le _ _) h2) (Nat.lt_of_le_of_lt (lowd_le _ _) h2)
  rw [low_sum hs] at h
  exact h
theorem law_plus_low {s a b : Nat} (hs : 0 < s) (h2 : s < 2 ^ 60) : m_law_plus [low s a, low s b] = .ok (low s (a + b)) := by
  have h := law_plus_fr (a / Nat.gcd a s) (s / Nat.gcd a s) (b / Nat.gcd b s) (s / Nat.gcd b s) (lowd_pos hs) (lowd_pos hs) (Nat.lt_of_le_of_lt (lowd_le _ _) h2) (Nat.lt_of_le_of_lt (lowd_le _ _) h2)
  rw [low_sum hs] at h
  exact h
theorem low_zero {s : Nat} (hs : 0 < s) : low s 0 = .tup [.int 0, .int 1] := by
  unfold low
  simp [Nat.div_self hs]
theorem low_one {s : Nat} (hs : 0 < s) : low s s = .tup [.int 1, .int 1] := by
  unfold low
  simp [Nat.div_self hs]
theorem summed_low {s : Nat} (hs : 0 < s) (h2 : s < 2 ^ 60) (ps : List Nat) : m_summed [.lst false (ps.map (low s))] = .ok (low s ps.sum) := by
  have loop : ∀ (ps : List Nat) (L x : Option D) (c : Nat), ∃ y, PV.forM (bName 2) (sAsg [1, 2] [] (mCall m_plus (aCons (rdV 1) (aCons (rdV 2) aNil))) (bName 1)) (ps.map (low s)) [L, some (low s c), x] = .nx [L, some (low s (c + ps.sum)), y] := by
    intro ps
    induction ps with
    | nil => intro L x c; exact ⟨x, rfl⟩
    | cons p ps ih =>
      intro L x c
      obtain ⟨y, e⟩ := ih L (some (low s p)) (c + p)
      refine ⟨y, ?_⟩
      rw [List.map_cons]
      unfold PV.forM
      simp [runF, outF, ent, sSeq, sAsg, sRet, sIf, sPar, sDrop, sNil, thnE, toF, bName, pre, PV.bin, mCb, aCons, aNil, mTup, mLst, mCall, rdV, mvV, cI, cB, cS, cN, tst, asB, mNot, mAnd, mOr, vAnd, vOr, vNot, vIf, R.bind_ok, R.bind_ex, R.bind_fail, ofO, fz, fzL, noFz, noFzL, frzA, unsA, onI, fAdd, fSub, fNeg, mNeg, fInt, fz_low, plus_low hs h2, noFz_low]
      rw [e, Nat.add_assoc]
  unfold m_summed b_summed
  obtain ⟨y, e⟩ := loop ps (some (.lst false (ps.map (low s)))) none 0
  rw [low_zero hs] at e
  simp [runF, outF, ent, sSeq, sAsg, sRet, sIf, sPar, sDrop, sNil, thnE, toF, bName, pre, PV.bin, mCb, aCons, aNil, mTup, mLst, mCall, rdV, mvV, cI, cB, cS, cN, tst, asB, mNot, mAnd, mOr, vAnd, vOr, vNot, vIf, R.bind_ok, R.bind_ex, R.bind_fail, ofO, fz, fzL, noFz, noFzL, frzA, unsA, onI, fAdd, fSub, fNeg, mNeg, fInt, mkT_ok, sFor, iLst, fzL_low]
  rw [e]
  simp
theorem whole_int (i : Int) : m_is_whole [.int i] = .ok (.bl true) := rfl
theorem whole_bl (b : Bool) : m_is_whole [.bl b] = .ok (.bl false) := rfl
theorem whole_non : m_is_whole [.non] = .ok (.bl false) := rfl
theorem whole_str (x : PySem.Str) : m_is_whole [.str x] = .ok (.bl false) := rfl
theorem whole_lst (o : Bool) (ds : List D) : m_is_whole [.lst o ds] = .ok (.bl false) := rfl
theorem whole_tup (ds : List D) : m_is_whole [.tup ds] = .ok (.bl false) := rfl
theorem eqI (a b : Int) : fEq (.int a) (.int b) = some (.bl (decide (a = b))) := by
  unfold fEq
  simp [er, PySem.SeqAt.shaped, PySem.PyData.eqv, PySem.PyData.canLay0, PySem.PyData.depth]
  rfl
theorem neI (a b : Int) : fNe (.int a) (.int b) = some (.bl (!decide (a = b))) := by
  unfold fNe
  simp [er, PySem.SeqAt.shaped, PySem.PyData.eqv, PySem.PyData.canLay0, PySem.PyData.depth]
  rfl
end K90
end
section
set_option Elab.async false
set_option linter.all false
set_option maxRecDepth 100000
set_option maxHeartbeats 1000000
namespace K90
open PV
theorem isi_tup (ds : List D) : isi "tuple" (.tup ds) = true := rfl
theorem isi_lst (o : Bool) (ds : List D) : isi "list" (.lst o ds) = true := rfl
theorem isi_str (x : PySem.Str) : isi "str" (.str x) = true := rfl
theorem len2 (a b : D) : fLen [.tup [a, b]] = some (.int 2) := rfl
theorem lenL (o : Bool) (ds : List D) : fLen [.lst o ds] = some (.int ds.length) := rfl
theorem is_fraction_fr {n d : Nat} (h : Nat.gcd n d = 1) (h0 : 0 < d) (h1 : d < 2 ^ 190) : m_is_fraction [fr n d] = .ok (.bl true) := by
  unfold m_is_fraction b_is_fraction fr
  simp [runF, outF, ent, sSeq, sAsg, sRet, sIf, sPar, sDrop, sNil, thnE, toF, bName, pre, PV.bin, mCb, aCons, aNil, mTup, mLst, mCall, rdV, mvV, cI, cB, cS, cN, tst, asB, mNot, mAnd, mOr, vAnd, vOr, vNot, vIf, R.bind_ok, R.bind_ex, R.bind_fail, ofO, fz, fzL, noFz, noFzL, frzA, unsA, onI, fAdd, fSub, fNeg, mNeg, fInt, mIsi, isBx, isi_tup, len2, neI, ix0, ix1, whole_int, gtI, h0, common_divisor n d h1, h, eqI]
theorem low_gcd {s p : Nat} (hs : 0 < s) : Nat.gcd (p / Nat.gcd p s) (s / Nat.gcd p s) = 1 := Nat.coprime_div_gcd_div_gcd (Nat.gcd_pos_of_pos_right _ hs)
theorem is_fraction_low {s p : Nat} (hs : 0 < s) (h2 : s < 2 ^ 60) : m_is_fraction [low s p] = .ok (.bl true) := is_fraction_fr (low_gcd hs) (lowd_pos hs) (Nat.lt_of_le_of_lt (lowd_le _ _) (by omega))
theorem geI0 (a : Nat) : fGe (.int a) (.int 0) = some (.bl true) := by
  unfold fGe onI
  simp
theorem is_amount_fr {n d : Nat} (h : Nat.gcd n d = 1) (h0 : 0 < d) (h1 : d < 2 ^ 190) : m_is_amount [fr n d] = .ok (.bl true) := by
  have h := is_fraction_fr h h0 h1
  unfold fr at h ⊢
  unfold m_is_amount b_is_amount
  simp [runF, outF, ent, sSeq, sAsg, sRet, sIf, sPar, sDrop, sNil, thnE, toF, bName, pre, PV.bin, mCb, aCons, aNil, mTup, mLst, mCall, rdV, mvV, cI, cB, cS, cN, tst, asB, mNot, mAnd, mOr, vAnd, vOr, vNot, vIf, R.bind_ok, R.bind_ex, R.bind_fail, ofO, fz, fzL, noFz, noFzL, frzA, unsA, onI, fAdd, fSub, fNeg, mNeg, fInt, h, ix0, geI0]
theorem is_amount_low {s p : Nat} (hs : 0 < s) (h2 : s < 2 ^ 60) : m_is_amount [low s p] = .ok (.bl true) := is_amount_fr (low_gcd hs) (lowd_pos hs) (Nat.lt_of_le_of_lt (lowd_le _ _) (by omega))
theorem lcM_all {f : D → PV.Env → Option PV.Env} {mt : PV.Env → R Bool} {me : PV.Env → R D} {ρ : PV.Env} {g : D → D} : ∀ {ds : List D}, (∀ d ∈ ds, ∃ ρ1, f d ρ = some ρ1 ∧ mt ρ1 = .ok true ∧ me ρ1 = .ok (g d)) → lcM f mt me ρ ds = .ok (ds.map g)
  | [], _ => rfl
  | d :: ds, h => by
    obtain ⟨ρ1, e1, e2, e3⟩ := h d List.mem_cons_self
    unfold lcM
    simp only [e1, e2, e3]
    rw [lcM_all fun x hx => h x (List.mem_cons_of_mem _ hx)]
    rfl
theorem lcM_filt {f : D → PV.Env → Option PV.Env} {mt : PV.Env → R Bool} {me : PV.Env → R D} {ρ : PV.Env} {g : D → D} {c : D → Bool} : ∀ {ds : List D}, (∀ d ∈ ds, ∃ ρ1, f d ρ = some ρ1 ∧ mt ρ1 = .ok (c d) ∧ (c d = true → me ρ1 = .ok (g d))) → lcM f mt me ρ ds = .ok ((ds.filter c).map g)
  | [], _ => rfl
  | d :: ds, h => by
    obtain ⟨ρ1, e1, e2, e3⟩ := h d List.mem_cons_self
    have ih := lcM_filt (ds := ds) fun x hx => h x (List.mem_cons_of_mem _ hx)
    unfold lcM
    simp only [e1, e2]
    cases hc : c d with
    | true =>
      simp only [e3 hc, List.filter_cons_of_pos hc, ih]
      rfl
    | false =>
      simp only [ih]
      rw [List.filter_cons_of_neg (by rw [hc]; decide)]
theorem all_true {α : Type} (ds : List α) (o : Bool) : fAll [.lst o (ds.map fun _ => D.bl true)] = some (.bl true) := by
  have : asBools (ds.map fun _ => D.bl true) = some (ds.map fun _ => true) := by
    induction ds with
    | nil => rfl
    | cons d ds ih =>
      rw [List.map_cons]
      unfold asBools
      rw [ih]
      rfl
  show Option.map _ (asBools _) = _
  rw [this]
  simp
theorem are_amounts_low {s : Nat} (hs : 0 < s) (h2 : s < 2 ^ 60) {ps : List Nat} (hl : ps.length ≤ 1000) : m_are_amounts [.lst false (ps.map (low s)), .int ps.length] = .ok (.bl true) := by
  have e : lcM (bName 2) tYes' (mCall m_is_amount (aCons (rdV 2) aNil)) [some (.lst false (ps.map (low s))), some (.int ps.length), none] (ps.map (low s)) = .ok ((ps.map (low s)).map fun _ => D.bl true) := by
    refine lcM_all fun d hd => ?_
    obtain ⟨p, _, rfl⟩ := List.mem_map.mp hd
    refine ⟨_, rfl, rfl, ?_⟩
    simp [runF, outF, ent, sSeq, sAsg, sRet, sIf, sPar, sDrop, sNil, thnE, toF, bName, pre, PV.bin, mCb, aCons, aNil, mTup, mLst, mCall, rdV, mvV, cI, cB, cS, cN, tst, asB, mNot, mAnd, mOr, vAnd, vOr, vNot, vIf, R.bind_ok, R.bind_ex, R.bind_fail, ofO, fz, fzL, noFz, noFzL, frzA, unsA, onI, fAdd, fSub, fNeg, mNeg, fInt, fz_low, is_amount_low hs h2]
  unfold m_are_amounts b_are_amounts
  simp [runF, outF, ent, sSeq, sAsg, sRet, sIf, sPar, sDrop, sNil, thnE, toF, bName, pre, PV.bin, mCb, aCons, aNil, mTup, mLst, mCall, rdV, mvV, cI, cB, cS, cN, tst, asB, mNot, mAnd, mOr, vAnd, vOr, vNot, vIf, R.bind_ok, R.bind_ex, R.bind_fail, ofO, fz, fzL, noFz, noFzL, frzA, unsA, onI, fAdd, fSub, fNeg, mNeg, fInt, mIsi, isBx, isi_lst, lenL, eqI, mLc, iLst, fzL_low, lenOk_of (show ps.length ≤ 1000000 by omega)]
  rw [e]
  have e2 := all_true (ps.map (low s)) true
  simp [R.bind_ok] at e2 ⊢
  rw [e2]
theorem eqT : fEq (.tup [.int 1, .int 1]) (.tup [.int 1, .int 1]) = some (.bl true) := rfl
theorem are_chances_low {ps : List Nat} (hs : 0 < ps.sum) (h2 : ps.sum < 2 ^ 60) (hl : ps.length ≤ 1000) : m_are_chances [.lst false (ps.map (low ps.sum)), .int ps.length] = .ok (.bl true) := by
  have h := are_amounts_low hs h2 hl
  have h3 := summed_low hs h2 ps
  rw [low_one hs] at h3
  unfold m_are_chances b_are_chances
  simp [runF, outF, ent, sSeq, sAsg, sRet, sIf, sPar, sDrop, sNil, thnE, toF, bName, pre, PV.bin, mCb, aCons, aNil, mTup, mLst, mCall, rdV, mvV, cI, cB, cS, cN, tst, asB, mNot, mAnd, mOr, vAnd, vOr, vNot, vIf, R.bind_ok, R.bind_ex, R.bind_fail, ofO, fz, fzL, noFz, noFzL, frzA, unsA, onI, fAdd, fSub, fNeg, mNeg, fInt, fzL_low, h, h3, mkT_ok, eqT]
end K90
end
section
set_option Elab.async false
set_option linter.all false
set_option maxRecDepth 100000
set_option maxHeartbeats 1000000
namespace K90
open PV
theorem sum_le3 : ∀ {ps : List Nat}, (∀ p ∈ ps, p ≤ 3) → ps.sum ≤ 3 * ps.length
  | [], _ => by simp
  | p :: ps, h => by
    have h1 := h p List.mem_cons_self
    have h2 := sum_le3 (ps := ps) fun x hx => h x (List.mem_cons_of_mem _ hx)
    simp only [List.sum_cons, List.length_cons]
    omega
theorem Dd.Ok.s60 {n : Nat} {d : Dd} (h : d.Ok n) (hn : n ≤ 1000) : d.ps.sum < 2 ^ 60 := by
  have := sum_le3 h.p3
  rw [h.len] at this
  omega
theorem ixL {o : Bool} {ds : List D} {i : Nat} {d : D} (h : ds[i]? = some d) : fIx (.lst o ds) (.int i) = some d := by
  have hi : i < ds.length := by
    rcases Nat.lt_or_ge i ds.length with z | z
    · exact z
    · rw [List.getElem?_eq_none z] at h; cases h
  show L2.atI ds i = _
  unfold L2.atI L2.ixN
  have h1 : (0 : Int) ≤ i := by omega
  have h2 : (i : Int) < (ds.length : Int) := by omega
  rw [if_pos h1, if_pos h2]
  simpa using h
theorem ixM {α : Type} {o : Bool} {l : List α} {f : α → D} {i : Nat} {x : α} (h : l[i]? = some x) : fIx (.lst o (l.map f)) (.int i) = some (f x) := ixL (by rw [List.getElem?_map, h]; rfl)
theorem is_deed_of_ok {n : Nat} {dd : Dd} (h : dd.Ok n) (hn : n ≤ 1000) : m_is_deed_of [deedD false dd, .int n] = .ok (.bl true) := by
  have h1 := is_fraction_low (s := dd.und) (p := dd.top) (by have := h.u0; omega) (by have := h.u1; omega)
  have h2 := are_chances_low h.sum (h.s60 hn) (by rw [h.len]; exact hn)
  rw [h.len] at h2
  unfold m_is_deed_of b_is_deed_of deedD
  simp [runF, outF, ent, sSeq, sAsg, sRet, sIf, sPar, sDrop, sNil, thnE, toF, bName, pre, PV.bin, mCb, aCons, aNil, mTup, mLst, mCall, rdV, mvV, cI, cB, cS, cN, tst, asB, mNot, mAnd, mOr, vAnd, vOr, vNot, vIf, R.bind_ok, R.bind_ex, R.bind_fail, ofO, fz, fzL, noFz, noFzL, frzA, unsA, onI, fAdd, fSub, fNeg, mNeg, fInt, mIsi, isBx, isi_tup, len2, neI, ix0, ix1, fz_low, fzL_low, h1, h2]
theorem ne_world : fNe (.str "world") (.str "world") = some (.bl false) := by kernel_rfl
theorem leI (a b : Int) (h : a ≤ b) : fLe (.int a) (.int b) = some (.bl true) := by
  unfold fLe onI
  simp [h]
theorem mCb_one {f : List D → Option D} {me : PV.Env → R D} {ρ : PV.Env} {x : D} (h : me ρ = .ok x) : mCb f (aCons me aNil) ρ = ofO (f [x]) := by
  show R.bind (R.bind (me ρ) _) _ = _
  rw [h]
  rfl
theorem is_world_by_ok {wd : List (List Dd)} (h : WdOk 5 wd) : m_is_world_by [worldD false wd] = .ok (.bl true) := by
  have l1 := leI 1 wd.length (by have := h.l0; omega)
  have l2 := leI wd.length 8 (by have := h.l1; omega)
  have e1 : ∀ ρ : PV.Env, 2 < ρ.length → lcM (bName 2) tYes' (vAnd (mIsi "list" (rdV 2)) (chn (cI 1) (mCb fLen (aCons (rdV 2) aNil)) (cI 4) fLe fLe)) ρ (wd.map (placeD false)) = .ok ((wd.map (placeD false)).map fun _ => D.bl true) := fun ρ hρ => by
    refine lcM_all fun d hd => ?_
    obtain ⟨pl, hpl, rfl⟩ := List.mem_map.mp hd
    have ok := h.ok pl hpl
    have a1 := leI 1 pl.length (by have := ok.l0; omega)
    have a2 := leI pl.length 4 (by have := ok.l3; omega)
    refine ⟨_, rfl, rfl, ?_⟩
    unfold placeD
    simp [runF, outF, ent, sSeq, sAsg, sRet, sIf, sPar, sDrop, sNil, thnE, toF, bName, pre, PV.bin, mCb, aCons, aNil, mTup, mLst, mCall, rdV, mvV, cI, cB, cS, cN, tst, asB, mNot, mAnd, mOr, vAnd, vOr, vNot, vIf, R.bind_ok, R.bind_ex, R.bind_fail, ofO, fz, fzL, noFz, noFzL, frzA, unsA, onI, fAdd, fSub, fNeg, mNeg, fInt, hρ, mIsi, isBx, isi_lst, lenL, chn, fzL_deeds, a1, a2]
  have e2 : ∀ pl ∈ wd, ∀ ρ : PV.Env, 3 < ρ.length → ρ[1]? = some (some (.lst false (wd.map (placeD false)))) → lcM (bName 3) tYes' (mCall m_is_deed_of (aCons (rdV 3) (aCons (mCb fLen (aCons (rdV 1) aNil)) aNil))) ρ (pl.map (deedD false)) = .ok ((pl.map (deedD false)).map fun _ => D.bl true) := fun pl hpl ρ hρ h1 => by
    refine lcM_all fun d hd => ?_
    obtain ⟨dd, hdd, rfl⟩ := List.mem_map.mp hd
    have ok := is_deed_of_ok ((h.ok pl hpl).ok dd hdd) (by have := h.l1; omega)
    refine ⟨_, rfl, rfl, ?_⟩
    simp [runF, outF, ent, sSeq, sAsg, sRet, sIf, sPar, sDrop, sNil, thnE, toF, bName, pre, PV.bin, mCb, aCons, aNil, mTup, mLst, mCall, rdV, mvV, cI, cB, cS, cN, tst, asB, mNot, mAnd, mOr, vAnd, vOr, vNot, vIf, R.bind_ok, R.bind_ex, R.bind_fail, ofO, fz, fzL, noFz, noFzL, frzA, unsA, onI, fAdd, fSub, fNeg, mNeg, fInt, hρ, h1, fz_deed, fzL_places, lenL, ok]
  have e3 : ∀ ρ : PV.Env, 3 < ρ.length → ρ[1]? = some (some (.lst false (wd.map (placeD false)))) → lcM (bName 2) tYes' (mCb fAll (aCons (mLc [2] [3] (iLst (rdV 2)) (bName 3) tYes' (mCall m_is_deed_of (aCons (rdV 3) (aCons (mCb fLen (aCons (rdV 1) aNil)) aNil)))) aNil)) ρ (wd.map (placeD false)) = .ok ((wd.map (placeD false)).map fun _ => D.bl true) := fun ρ hρ h1 => by
    refine lcM_all fun d hd => ?_
    obtain ⟨pl, hpl, rfl⟩ := List.mem_map.mp hd
    refine ⟨_, rfl, rfl, ?_⟩
    have ok := (h.ok pl hpl).l3
    have e := e2 pl hpl (unsA [3] (frzA [2] (ρ.set 2 (some (placeD false pl))) 0) 0) (by rw [unsA_len, frzA_len, List.length_set]; exact hρ) (by rw [unsA_get, frzA_get, List.getElem?_set_ne (by decide), h1]; rfl)
    have at_ := all_true (pl.map (deedD false)) true
    have r2 : rdV 2 (ρ.set 2 (some (placeD false pl))) = .ok (placeD false pl) := by
      unfold rdV
      rw [List.getElem?_set_self (by omega)]
      simp only [fz_place]
    have i2 : iLst (rdV 2) (ρ.set 2 (some (placeD false pl))) = .ok (pl.map (deedD false)) := by
      unfold iLst
      rw [r2]
      show R.ok (fzL (pl.map (deedD false))) = _
      rw [fzL_deeds]
    have m2 : mLc [2] [3] (iLst (rdV 2)) (bName 3) tYes' (mCall m_is_deed_of (aCons (rdV 3) (aCons (mCb fLen (aCons (rdV 1) aNil)) aNil))) (ρ.set 2 (some (placeD false pl))) = .ok (.lst true ((pl.map (deedD false)).map fun _ => D.bl true)) := by
      unfold mLc
      rw [i2]
      simp only [R.bind_ok]
      rw [if_pos (lenOk_of (by simp; omega)), e]
      rfl
    rw [mCb_one m2, at_]
    rfl
  have at_ := all_true (wd.map (placeD false)) true
  have at2 : fAll [D.lst true (List.map ((fun x => D.bl true) ∘ placeD false) wd)] = some (.bl true) := by rw [← List.map_map]; exact at_
  have hl := h.l1
  unfold m_is_world_by b_is_world_by worldD
  simp [runF, outF, ent, sSeq, sAsg, sRet, sIf, sPar, sDrop, sNil, thnE, toF, bName, pre, PV.bin, mCb, aCons, aNil, mTup, mLst, mCall, rdV, mvV, cI, cB, cS, cN, tst, asB, mNot, mAnd, mOr, vAnd, vOr, vNot, vIf, R.bind_ok, R.bind_ex, R.bind_fail, ofO, fz, fzL, noFz, noFzL, frzA, unsA, onI, fAdd, fSub, fNeg, mNeg, fInt, mIsi, isBx, isi_tup, isi_str, isi_lst, len2, lenL, neI, ix0, ix1, ne_world, fzL_places, chn, l1, l2, mLc, iLst, lenOk_of (show wd.length ≤ 1000000 by omega), e1, e3, at2]
end K90
end
section
set_option Elab.async false
set_option linter.all false
set_option maxRecDepth 100000
set_option maxHeartbeats 1000000
namespace K90
open PV
theorem check_world_ok {wd : List (List Dd)} (h : WdOk 5 wd) : m_check_world [worldD false wd] = .ok .non := by
  have e := is_world_by_ok h
  unfold m_check_world b_check_world
  simp [runF, outF, ent, sSeq, sAsg, sRet, sIf, sPar, sDrop, sNil, thnE, toF, bName, pre, PV.bin, mCb, aCons, aNil, mTup, mLst, mCall, rdV, mvV, cI, cB, cS, cN, tst, asB, mNot, mAnd, mOr, vAnd, vOr, vNot, vIf, R.bind_ok, R.bind_ex, R.bind_fail, ofO, fz, fzL, noFz, noFzL, frzA, unsA, onI, fAdd, fSub, fNeg, mNeg, fInt, fz_world, e]
theorem places_in_ok (wd : List (List Dd)) : m_places_in [worldD false wd] = .ok (.int wd.length) := by
  unfold m_places_in b_places_in worldD
  simp [runF, outF, ent, sSeq, sAsg, sRet, sIf, sPar, sDrop, sNil, thnE, toF, bName, pre, PV.bin, mCb, aCons, aNil, mTup, mLst, mCall, rdV, mvV, cI, cB, cS, cN, tst, asB, mNot, mAnd, mOr, vAnd, vOr, vNot, vIf, R.bind_ok, R.bind_ex, R.bind_fail, ofO, fz, fzL, noFz, noFzL, frzA, unsA, onI, fAdd, fSub, fNeg, mNeg, fInt, ix1, lenL, fzL_places]
theorem deeds_at_ok {wd : List (List Dd)} {p : Nat} {pl : List Dd} (h : wd[p]? = some pl) : m_deeds_at [worldD false wd, .int p] = .ok (.int pl.length) := by
  have e : fIx (.lst false (wd.map (placeD false))) (.int p) = some (.lst false (pl.map (deedD false))) := ixM h
  unfold m_deeds_at b_deeds_at worldD
  simp [runF, outF, ent, sSeq, sAsg, sRet, sIf, sPar, sDrop, sNil, thnE, toF, bName, pre, PV.bin, mCb, aCons, aNil, mTup, mLst, mCall, rdV, mvV, cI, cB, cS, cN, tst, asB, mNot, mAnd, mOr, vAnd, vOr, vNot, vIf, R.bind_ok, R.bind_ex, R.bind_fail, ofO, fz, fzL, noFz, noFzL, frzA, unsA, onI, fAdd, fSub, fNeg, mNeg, fInt, ix1, lenL, fzL_places, e, fzL_deeds]
theorem chances_of_ok {wd : List (List Dd)} {p d : Nat} {pl : List Dd} {dd : Dd} (h : wd[p]? = some pl) (h2 : pl[d]? = some dd) : m_chances_of [worldD false wd, .int p, .int d] = .ok (.lst false (dd.ps.map (low dd.ps.sum))) := by
  have e : fIx (.lst false (wd.map (placeD false))) (.int p) = some (.lst false (pl.map (deedD false))) := ixM h
  have e2 : fIx (.lst false (pl.map (deedD false))) (.int d) = some (.tup [low dd.und dd.top, .lst false (dd.ps.map (low dd.ps.sum))]) := ixM h2
  unfold m_chances_of b_chances_of worldD
  simp [runF, outF, ent, sSeq, sAsg, sRet, sIf, sPar, sDrop, sNil, thnE, toF, bName, pre, PV.bin, mCb, aCons, aNil, mTup, mLst, mCall, rdV, mvV, cI, cB, cS, cN, tst, asB, mNot, mAnd, mOr, vAnd, vOr, vNot, vIf, R.bind_ok, R.bind_ex, R.bind_fail, ofO, fz, fzL, noFz, noFzL, frzA, unsA, onI, fAdd, fSub, fNeg, mNeg, fInt, ix1, fzL_places, e, e2, fzL_deeds, fzL_low]
theorem ltI (a b : Int) : fLt (.int a) (.int b) = some (.bl (decide (a < b))) := by
  unfold fLt onI
  simp
theorem leB (a b : Int) : fLe (.int a) (.int b) = some (.bl (decide (a ≤ b))) := by
  unfold fLe onI
  simp
theorem check_place_ok {wd : List (List Dd)} {p : Nat} (h : p < wd.length) : m_check_place [worldD false wd, .int p] = .ok .non := by
  have e := places_in_ok wd
  unfold m_check_place b_check_place
  simp [runF, outF, ent, sSeq, sAsg, sRet, sIf, sPar, sDrop, sNil, thnE, toF, bName, pre, PV.bin, mCb, aCons, aNil, mTup, mLst, mCall, rdV, mvV, cI, cB, cS, cN, tst, asB, mNot, mAnd, mOr, vAnd, vOr, vNot, vIf, R.bind_ok, R.bind_ex, R.bind_fail, ofO, fz, fzL, noFz, noFzL, frzA, unsA, onI, fAdd, fSub, fNeg, mNeg, fInt, whole_int, chn, fz_world, e, leB, ltI, h]
theorem check_deed_ok {wd : List (List Dd)} {p d : Nat} {pl : List Dd} (h : wd[p]? = some pl) (h2 : d < pl.length) : m_check_deed [worldD false wd, .int p, .int d] = .ok .non := by
  have e := deeds_at_ok h
  unfold m_check_deed b_check_deed
  simp [runF, outF, ent, sSeq, sAsg, sRet, sIf, sPar, sDrop, sNil, thnE, toF, bName, pre, PV.bin, mCb, aCons, aNil, mTup, mLst, mCall, rdV, mvV, cI, cB, cS, cN, tst, asB, mNot, mAnd, mOr, vAnd, vOr, vNot, vIf, R.bind_ok, R.bind_ex, R.bind_fail, ofO, fz, fzL, noFz, noFzL, frzA, unsA, onI, fAdd, fSub, fNeg, mNeg, fInt, whole_int, chn, fz_world, e, leB, ltI, h2]
/-- a number out of range -/
theorem check_place_int {wd : List (List Dd)} {i : Int} (h : ¬ (0 ≤ i ∧ i < wd.length)) : m_check_place [worldD false wd, .int i] = .ex "InvalidPlace" (.int i) := by
  have e := places_in_ok wd
  unfold m_check_place b_check_place
  by_cases h0 : 0 ≤ i
  · have h1 : ¬ i < wd.length := fun z => h ⟨h0, z⟩
    simp [runF, outF, ent, sSeq, sAsg, sRet, sIf, sPar, sDrop, sNil, thnE, toF, bName, pre, PV.bin, mCb, aCons, aNil, mTup, mLst, mCall, rdV, mvV, cI, cB, cS, cN, tst, asB, mNot, mAnd, mOr, vAnd, vOr, vNot, vIf, R.bind_ok, R.bind_ex, R.bind_fail, ofO, fz, fzL, noFz, noFzL, frzA, unsA, onI, fAdd, fSub, fNeg, mNeg, fInt, whole_int, chn, fz_world, e, leB, ltI, h0, h1, sRaise]
  · simp [runF, outF, ent, sSeq, sAsg, sRet, sIf, sPar, sDrop, sNil, thnE, toF, bName, pre, PV.bin, mCb, aCons, aNil, mTup, mLst, mCall, rdV, mvV, cI, cB, cS, cN, tst, asB, mNot, mAnd, mOr, vAnd, vOr, vNot, vIf, R.bind_ok, R.bind_ex, R.bind_fail, ofO, fz, fzL, noFz, noFzL, frzA, unsA, onI, fAdd, fSub, fNeg, mNeg, fInt, whole_int, chn, fz_world, e, leB, ltI, h0, sRaise]
theorem check_deed_int {wd : List (List Dd)} {p : Nat} {pl : List Dd} {i : Int} (hp : wd[p]? = some pl) (h : ¬ (0 ≤ i ∧ i < pl.length)) : m_check_deed [worldD false wd, .int p, .int i] = .ex "InvalidDeed" (.int i) := by
  have e := deeds_at_ok hp
  unfold m_check_deed b_check_deed
  by_cases h0 : 0 ≤ i
  · have h1 : ¬ i < pl.length := fun z => h ⟨h0, z⟩
    simp [runF, outF, ent, sSeq, sAsg, sRet, sIf, sPar, sDrop, sNil, thnE, toF, bName, pre, PV.bin, mCb, aCons, aNil, mTup, mLst, mCall, rdV, mvV, cI, cB, cS, cN, tst, asB, mNot, mAnd, mOr, vAnd, vOr, vNot, vIf, R.bind_ok, R.bind_ex, R.bind_fail, ofO, fz, fzL, noFz, noFzL, frzA, unsA, onI, fAdd, fSub, fNeg, mNeg, fInt, whole_int, chn, fz_world, e, leB, ltI, h0, h1, sRaise]
  · simp [runF, outF, ent, sSeq, sAsg, sRet, sIf, sPar, sDrop, sNil, thnE, toF, bName, pre, PV.bin, mCb, aCons, aNil, mTup, mLst, mCall, rdV, mvV, cI, cB, cS, cN, tst, asB, mNot, mAnd, mOr, vAnd, vOr, vNot, vIf, R.bind_ok, R.bind_ex, R.bind_fail, ofO, fz, fzL, noFz, noFzL, frzA, unsA, onI, fAdd, fSub, fNeg, mNeg, fInt, whole_int, chn, fz_world, e, leB, ltI, h0, sRaise]
/-- no number at all -/
theorem check_place_no {x v : D} (hv : fz v = v) (h : m_is_whole [v] = .ok (.bl false)) : m_check_place [x, v] = .ex "InvalidPlace" v := by
  unfold m_check_place b_check_place
  simp [runF, outF, ent, sSeq, sAsg, sRet, sIf, sPar, sDrop, sNil, thnE, toF, bName, pre, PV.bin, mCb, aCons, aNil, mTup, mLst, mCall, rdV, mvV, cI, cB, cS, cN, tst, asB, mNot, mAnd, mOr, vAnd, vOr, vNot, vIf, R.bind_ok, R.bind_ex, R.bind_fail, ofO, fz, fzL, noFz, noFzL, frzA, unsA, onI, fAdd, fSub, fNeg, mNeg, fInt, hv, h, sRaise]
theorem check_deed_no {x y v : D} (hv : fz v = v) (h : m_is_whole [v] = .ok (.bl false)) : m_check_deed [x, y, v] = .ex "InvalidDeed" v := by
  unfold m_check_deed b_check_deed
  simp [runF, outF, ent, sSeq, sAsg, sRet, sIf, sPar, sDrop, sNil, thnE, toF, bName, pre, PV.bin, mCb, aCons, aNil, mTup, mLst, mCall, rdV, mvV, cI, cB, cS, cN, tst, asB, mNot, mAnd, mOr, vAnd, vOr, vNot, vIf, R.bind_ok, R.bind_ex, R.bind_fail, ofO, fz, fzL, noFz, noFzL, frzA, unsA, onI, fAdd, fSub, fNeg, mNeg, fInt, hv, h, sRaise]
theorem is_draw_ok {n d : Nat} (h : Nat.gcd n d = 1) (hn : n < d) (hd : d < 2 ^ 40) : m_is_draw [fr n d] = .ok (.bl true) := by
  have e := is_fraction_fr h (by omega) (show d < 2 ^ 190 by omega)
  unfold fr at e ⊢
  unfold m_is_draw b_is_draw
  simp [runF, outF, ent, sSeq, sAsg, sRet, sIf, sPar, sDrop, sNil, thnE, toF, bName, pre, PV.bin, mCb, aCons, aNil, mTup, mLst, mCall, rdV, mvV, cI, cB, cS, cN, tst, asB, mNot, mAnd, mOr, vAnd, vOr, vNot, vIf, R.bind_ok, R.bind_ex, R.bind_fail, ofO, fz, fzL, noFz, noFzL, frzA, unsA, onI, fAdd, fSub, fNeg, mNeg, fInt, e, chn, ix0, ix1, leB, ltI, hn]
theorem check_draw_ok {n d : Nat} (h : Nat.gcd n d = 1) (hn : n < d) (hd : d < 2 ^ 40) : m_check_draw [fr n d] = .ok .non := by
  have e := is_draw_ok h hn hd
  unfold fr at e ⊢
  unfold m_check_draw b_check_draw
  simp [runF, outF, ent, sSeq, sAsg, sRet, sIf, sPar, sDrop, sNil, thnE, toF, bName, pre, PV.bin, mCb, aCons, aNil, mTup, mLst, mCall, rdV, mvV, cI, cB, cS, cN, tst, asB, mNot, mAnd, mOr, vAnd, vOr, vNot, vIf, R.bind_ok, R.bind_ex, R.bind_fail, ofO, fz, fzL, noFz, noFzL, frzA, unsA, onI, fAdd, fSub, fNeg, mNeg, fInt, e]
theorem check_draw_no {v : D} (hv : fz v = v) (h : m_is_draw [v] = .ok (.bl false)) : m_check_draw [v] = .ex "InvalidNumber" v := by
  unfold m_check_draw b_check_draw
  simp [runF, outF, ent, sSeq, sAsg, sRet, sIf, sPar, sDrop, sNil, thnE, toF, bName, pre, PV.bin, mCb, aCons, aNil, mTup, mLst, mCall, rdV, mvV, cI, cB, cS, cN, tst, asB, mNot, mAnd, mOr, vAnd, vOr, vNot, vIf, R.bind_ok, R.bind_ex, R.bind_fail, ofO, fz, fzL, noFz, noFzL, frzA, unsA, onI, fAdd, fSub, fNeg, mNeg, fInt, hv, h, sRaise]
/-- under in the ordinary sense -/
theorem under_iff {n d s c : Nat} (hs : 0 < s) : (n * (s / Nat.gcd c s) < (c / Nat.gcd c s) * d) ↔ n * s < c * d := by
  have hg : 0 < Nat.gcd c s := Nat.gcd_pos_of_pos_right _ hs
  have ec := Nat.div_mul_cancel (Nat.gcd_dvd_left c s)
  have es := Nat.div_mul_cancel (Nat.gcd_dvd_right c s)
  generalize Nat.gcd c s = g at *
  generalize c / g = c1 at *
  generalize s / g = s1 at *
  subst ec es
  rw [← Nat.mul_assoc, show c1 * g * d = c1 * d * g by ac_rfl]
  exact (Nat.mul_lt_mul_right hg).symm
theorem is_less_fr (a b c d : Nat) (hb : b < 2 ^ 64) (hd : d < 2 ^ 64) : m_is_less [fr a b, fr c d] = .ok (.bl (decide (a * d < c * b))) := by
  unfold m_is_less b_is_less fr
  simp [runF, outF, ent, sSeq, sAsg, sRet, sIf, sPar, sDrop, sNil, thnE, toF, bName, pre, PV.bin, mCb, aCons, aNil, mTup, mLst, mCall, rdV, mvV, cI, cB, cS, cN, tst, asB, mNot, mAnd, mOr, vAnd, vOr, vNot, vIf, R.bind_ok, R.bind_ex, R.bind_fail, ofO, fz, fzL, noFz, noFzL, frzA, unsA, onI, fAdd, fSub, fNeg, mNeg, fInt, ix0, ix1, mulI _ _ hb, mulI _ _ hd, ltI]
  norm_cast
theorem law_under_fr (a b c d : Nat) (hb : b < 2 ^ 64) (hd : d < 2 ^ 64) : m_law_under [fr a b, fr c d] = .ok (.bl (decide (a * d < c * b))) := by
  unfold m_law_under b_law_under fr
  simp [runF, outF, ent, sSeq, sAsg, sRet, sIf, sPar, sDrop, sNil, thnE, toF, bName, pre, PV.bin, mCb, aCons, aNil, mTup, mLst, mCall, rdV, mvV, cI, cB, cS, cN, tst, asB, mNot, mAnd, mOr, vAnd, vOr, vNot, vIf, R.bind_ok, R.bind_ex, R.bind_fail, ofO, fz, fzL, noFz, noFzL, frzA, unsA, onI, fAdd, fSub, fNeg, mNeg, fInt, ix0, ix1, mulI _ _ hb, mulI _ _ hd, ltI]
  norm_cast
theorem is_less_low {n d s c : Nat} (hd : d < 2 ^ 64) (hs : 0 < s) (h2 : s < 2 ^ 60) : m_is_less [fr n d, low s c] = .ok (.bl (decide (n * s < c * d))) := by
  have h := is_less_fr n d (c / Nat.gcd c s) (s / Nat.gcd c s) hd (Nat.lt_of_le_of_lt (lowd_le _ _) (by omega))
  rw [low_fr, h]
  simp only [under_iff hs]
theorem law_under_low {n d s c : Nat} (hd : d < 2 ^ 64) (hs : 0 < s) (h2 : s < 2 ^ 60) : m_law_under [fr n d, low s c] = .ok (.bl (decide (n * s < c * d))) := by
  have h := law_under_fr n d (c / Nat.gcd c s) (s / Nat.gcd c s) hd (Nat.lt_of_le_of_lt (lowd_le _ _) (by omega))
  rw [low_fr, h]
  simp only [under_iff hs]
end K90
end
section
set_option Elab.async false
set_option linter.all false
set_option maxRecDepth 100000
set_option maxHeartbeats 1000000
namespace K90
open PySem PV
theorem so_add {a b : Str} (h1 : PyData.strOk a = true) (h2 : PyData.strOk b = true) : PyData.strOk (a ++ b) = true := by
  unfold PyData.strOk at *
  rw [PySem.Str.cps_append, Array.all_append, h1, h2]
  rfl
theorem so_text : ∀ (ts : List Str) (k : Nat) (acc : Str), (∀ t ∈ ts, PyData.strOk t = true) → PyData.strOk acc = true → PyData.strOk (textFrom k acc ts) = true
  | [], _, _, _, h => h
  | t :: ts, k, acc, h, h2 => by
    unfold textFrom
    refine so_text ts _ _ (fun x hx => h x (List.mem_cons_of_mem _ hx)) (so_add (so_add h2 ?_) (h t List.mem_cons_self))
    split
    · decide +kernel
    · decide +kernel
theorem so_list {ts : List Str} (h : ∀ t ∈ ts, PyData.strOk t = true) : PyData.strOk (listText ts) = true := so_add (so_text ts _ _ h (by decide +kernel)) (by decide +kernel)
theorem so_join : ∀ (ts : List Str), (∀ t ∈ ts, PyData.strOk t = true) → PyData.strOk (Str.join ", " ts) = true
  | [], _ => by decide +kernel
  | [x], h => h x List.mem_cons_self
  | x :: y :: ts, h => by
    unfold Str.join
    exact so_add (so_add (h x List.mem_cons_self) (by decide +kernel)) (so_join (y :: ts) fun z hz => h z (List.mem_cons_of_mem _ hz))
theorem so_tup {ts : List Str} (h : ∀ t ∈ ts, PyData.strOk t = true) : PyData.strOk (tupleText ts) = true := by
  unfold tupleText
  refine so_add (so_add (by decide +kernel) (so_join ts h)) ?_
  split
  · decide +kernel
  · decide +kernel
/-- small plain data -/
structure Sm (n w : Nat) (d : D) : Prop where
  pl : plD d = true
  cl : (er d).canLay0 = true
  dp : (er d).depth ≤ n
  sh : (er d).showable = true
  ls : (er d).leavesShort 13 = true
  wt : (er d).weight ≤ w
  so : PyData.strOk (er d).shown = true
structure SmL (n w : Nat) (ds : List D) : Prop where
  pl : plL ds = true
  cl : PyData.canLayAll0 (erL ds) = true
  dp : PyData.depthAll (erL ds) ≤ n
  sh : PyData.showableAll (erL ds) = true
  ls : PyData.leavesShortAll 13 (erL ds) = true
  wt : PyData.weightAll (erL ds) ≤ ds.length * (w + 1)
  so : ∀ t ∈ PyData.shownAll (erL ds), PyData.strOk t = true
theorem sm_list {n w : Nat} : ∀ {ds : List D}, (∀ d ∈ ds, Sm n w d) → SmL n w ds
  | [], _ => ⟨rfl, rfl, Nat.zero_le _, rfl, rfl, Nat.zero_le _, fun _ h => nomatch h⟩
  | d :: ds, h => by
    have a := h d List.mem_cons_self
    have b := sm_list (ds := ds) fun x hx => h x (List.mem_cons_of_mem _ hx)
    refine ⟨?_, ?_, ?_, ?_, ?_, ?_, ?_⟩
    · unfold plL; rw [a.pl, b.pl]; rfl
    · unfold erL PyData.canLayAll0; rw [a.cl, b.cl]; rfl
    · unfold erL PyData.depthAll; exact Nat.max_le.mpr ⟨a.dp, b.dp⟩
    · unfold erL PyData.showableAll; rw [a.sh, b.sh]; rfl
    · unfold erL PyData.leavesShortAll; rw [a.ls, b.ls]; rfl
    · unfold erL PyData.weightAll
      have := a.wt
      have := b.wt
      rw [List.length_cons, Nat.add_mul]
      omega
    · intro t ht
      unfold erL PyData.shownAll at ht
      rcases List.mem_cons.mp ht with rfl | ht
      · exact a.so
      · exact b.so t ht
theorem sm_lst {n w : Nat} {o : Bool} {ds : List D} (h : ∀ d ∈ ds, Sm n w d) : Sm (n + 1) (ds.length * (w + 1)) (.lst o ds) := by
  have b := sm_list h
  refine ⟨?_, ?_, ?_, ?_, ?_, ?_, ?_⟩
  · unfold plD; exact b.pl
  · unfold er PyData.canLay0; exact b.cl
  · unfold er PyData.depth; exact Nat.succ_le_succ b.dp
  · unfold er PyData.showable; exact b.sh
  · unfold er PyData.leavesShort; exact b.ls
  · unfold er PyData.weight; exact b.wt
  · unfold er PyData.shown; exact so_list b.so
theorem sm_tup {n w : Nat} {ds : List D} (h : ∀ d ∈ ds, Sm n w d) : Sm (n + 1) (ds.length * (w + 1)) (.tup ds) := by
  have b := sm_list h
  refine ⟨?_, ?_, ?_, ?_, ?_, ?_, ?_⟩
  · unfold plD; exact b.pl
  · unfold er PyData.canLay0; exact b.cl
  · unfold er PyData.depth; exact Nat.succ_le_succ b.dp
  · unfold er PyData.showable; exact b.sh
  · unfold er PyData.leavesShort; exact b.ls
  · unfold er PyData.weight; exact b.wt
  · unfold er PyData.shown; exact so_tup b.so
theorem Sm.mono {n m w v : Nat} {d : D} (h : Sm n w d) (h1 : n ≤ m) (h2 : w ≤ v) : Sm m v d := ⟨h.pl, h.cl, Nat.le_trans h.dp h1, h.sh, h.ls, Nat.le_trans h.wt h2, h.so⟩
theorem sm_int {i : Nat} (h : i < 25) : Sm 0 5 (.int i) := by
  have h1 : ∀ i : Nat, i < 25 → PyData.showable (.int i) = true ∧ PyData.leavesShort 13 (.int i) = true ∧ PyData.weight (.int i) ≤ 5 ∧ PyData.strOk (PyData.shown (.int i)) = true := by decide +kernel
  obtain ⟨a, b, c, d⟩ := h1 i h
  exact ⟨rfl, rfl, Nat.le_refl 0, a, b, c, d⟩
theorem sm_non : Sm 0 0 .non := ⟨rfl, rfl, Nat.le_refl 0, rfl, rfl, Nat.le_refl 0, by decide +kernel⟩
theorem sm_world : Sm 0 5 (.str "world") := ⟨rfl, by decide +kernel, Nat.le_refl 0, rfl, by decide +kernel, by decide +kernel, by decide +kernel⟩
theorem sm_two {n w : Nat} {a b : D} (h1 : Sm n w a) (h2 : Sm n w b) : Sm (n + 1) (2 * (w + 1)) (.tup [a, b]) := sm_tup (ds := [a, b]) fun d hd => by
  rcases List.mem_cons.mp hd with rfl | hd
  · exact h1
  · rw [List.mem_singleton.mp hd]; exact h2
theorem Sm.rep {n w : Nat} {d : D} (h : Sm n w d) (hn : n ≤ 64) (hw : w ≤ 60000) : okRep d = true := by
  have h1 := PyData.shown_le 13 (by decide) _ h.ls
  have h2 := h.wt
  have h3 := h.dp
  unfold okRep
  rw [h.pl, h.sh]
  have e1 : Nat.ble (er d).depth 64 = true := Nat.ble_eq_true_of_le (by omega)
  have e2 : Nat.ble (er d).shown.length 1000000 = true := Nat.ble_eq_true_of_le (by omega)
  rw [e1, e2]
  rfl
theorem Sm.shaped {n w : Nat} {d : D} (h : Sm n w d) (hn : n ≤ 64) : SeqAt.shaped (er d) = true := by
  have h3 := h.dp
  unfold SeqAt.shaped
  rw [h.cl, decide_eq_true (by omega : (er d).depth ≤ 64)]
  rfl
theorem Sm.eqX {n w : Nat} {d : D} (h : Sm n w d) (hn : n ≤ 64) : fEqX d d = some (.bl true) := by
  unfold fEqX
  rw [h.shaped hn, SeqAt.eqv_refl _ h.cl]
  rfl
theorem str_eqX {x : Str} (h : PyData.strOk x = true) : fEqX (.str x) (.str x) = some (.bl true) := by
  have c : (er (.str x)).canLay0 = true := by unfold er PyData.canLay0; exact h
  have s : SeqAt.shaped (er (.str x)) = true := by
    unfold SeqAt.shaped
    rw [c]
    rfl
  unfold fEqX
  rw [s, SeqAt.eqv_refl _ c]
  rfl
theorem rep_lst {o : Bool} {ds : List D} (h : okRep (.lst o ds) = true) : fRepr [.lst o ds] = some (.str (er (.lst o ds)).shown) := by
  show (if okRep (.lst o ds) then _ else _) = _
  rw [if_pos h]
/-- two lists that are the same -/
theorem law_exact_same {n w : Nat} {ds : List D} (h : Sm n w (.lst false ds)) (hn : n ≤ 64) (hw : w ≤ 60000) (hf : fzL ds = ds) : m_law_exact [.lst false ds, .lst false ds] = .ok (.bl true) := by
  have e := h.eqX hn
  have r := rep_lst (h.rep hn hw)
  have s := str_eqX h.so
  unfold m_law_exact b_law_exact
  simp [runF, outF, ent, sSeq, sAsg, sRet, sIf, sPar, sDrop, sNil, thnE, toF, bName, pre, PV.bin, mCb, aCons, aNil, mTup, mLst, mCall, rdV, mvV, cI, cB, cS, cN, tst, asB, mNot, mAnd, mOr, vAnd, vOr, vNot, vIf, R.bind_ok, R.bind_ex, R.bind_fail, ofO, fz, fzL, noFz, noFzL, frzA, unsA, onI, fAdd, fSub, fNeg, mNeg, fInt, hf, e, r, s]
theorem sm_low {s p : Nat} (h1 : p < 25) (h2 : s < 25) : Sm 1 12 (low s p) := by
  have a : p / Nat.gcd p s < 25 := Nat.lt_of_le_of_lt (Nat.div_le_self _ _) h1
  have b : s / Nat.gcd p s < 25 := Nat.lt_of_le_of_lt (Nat.div_le_self _ _) h2
  exact sm_two (sm_int a) (sm_int b)
end K90
end
section
set_option Elab.async false
set_option linter.all false
set_option maxRecDepth 100000
set_option maxHeartbeats 1000000
namespace K90
open PySem PV
theorem asInts_insd : ∀ ps : List Nat, asInts (insd ps) = some (ps.map fun (p : Nat) => (p : Int))
  | [] => rfl
  | p :: ps => by
    show asInts (.int p :: insd ps) = _
    unfold asInts
    rw [asInts_insd ps]
    rfl
theorem fzL_insd : ∀ ps : List Nat, fzL (insd ps) = insd ps
  | [] => rfl
  | p :: ps => by
    show fzL (.int p :: insd ps) = _
    unfold fzL
    rw [fzL_insd ps]
    rfl
theorem sum_cast : ∀ ps : List Nat, (ps.map fun (p : Nat) => (p : Int)).sum = ((ps.sum : Nat) : Int)
  | [] => rfl
  | p :: ps => by
    simp only [List.map_cons, List.sum_cons, sum_cast ps]
    push_cast
    rfl
theorem pow_gt {s : Nat} (h : s ≤ 1000) : s < 2 ^ 60 := Nat.lt_of_le_of_lt h (by decide)
theorem gt0_low {s p : Nat} (hs : 0 < s) : fGt (.int ((p / Nat.gcd p s : Nat) : Int)) (.int 0) = some (.bl (decide (0 < p))) := by
  unfold fGt onI
  have hg : 0 < Nat.gcd p s := Nat.gcd_pos_of_pos_right _ hs
  have : 0 < p / Nat.gcd p s ↔ 0 < p := by
    constructor
    · intro h
      rcases Nat.eq_zero_or_pos p with rfl | h'
      · simp at h
      · exact h'
    · intro h
      exact Nat.div_pos (Nat.le_of_dvd h (Nat.gcd_dvd_left p s)) hg
  have e : decide ((0 : Int) < ((p / Nat.gcd p s : Nat) : Int)) = decide (0 < p) := decide_eq_decide.mpr (by rw [← this]; omega)
  simp
  simpa using e
theorem fz_spanD (s c p : Nat) : fz (spanD s c p) = spanD s c p := by
  unfold spanD
  split <;> rfl
theorem fz_spansL (s : Nat) : ∀ (ps : List Nat) (c : Nat), fzL (spansL s c ps) = spansL s c ps
  | [], _ => rfl
  | p :: ps, c => by
    unfold spansL fzL
    rw [fz_spanD, fz_spansL s ps]
theorem spansL_len (s : Nat) : ∀ (ps : List Nat) (c : Nat), (spansL s c ps).length = ps.length
  | [], _ => rfl
  | p :: ps, c => by
    unfold spansL
    simp [spansL_len s ps]
theorem forM_step {f : D → PV.Env → Option PV.Env} {m : PV.Env → Fl} {d : D} {ds : List D} {ρ ρ1 ρ2 : PV.Env} (h1 : f d ρ = some ρ1) (h2 : m ρ1 = .nx ρ2) : PV.forM f m (d :: ds) ρ = PV.forM f m ds ρ2 := by
  rw [PV.forM]
  simp only [h1, h2]
theorem forM_ret {f : D → PV.Env → Option PV.Env} {m : PV.Env → Fl} {d v : D} {ds : List D} {ρ ρ1 : PV.Env} (h1 : f d ρ = some ρ1) (h2 : m ρ1 = .rt v) : PV.forM f m (d :: ds) ρ = .rt v := by
  rw [PV.forM]
  simp only [h1, h2]
theorem forM_nil {f : D → PV.Env → Option PV.Env} {m : PV.Env → Fl} {ρ : PV.Env} : PV.forM f m [] ρ = .nx ρ := rfl
theorem law_spans {s : Nat} (hs : 0 < s) (h2 : s ≤ 1000) (ps : List Nat) (hl : ps.length ≤ 1000) : m_law_spans [.lst false (ps.map (low s))] = .ok (.lst true (spansL s 0 ps)) := by
  have loop : ∀ (ps : List Nat) (L x y : Option D) (acc : List D) (c : Nat), acc.length + ps.length ≤ 1000 → ∃ x' y', PV.forM (bName 3) (sSeq (sAsg [2, 3] [] (mCall m_law_plus (aCons (rdV 2) (aCons (rdV 3) aNil))) (bName 4)) (sSeq (sApp [2, 4] [] 1 (vIf (tst (PV.bin (PV.bin (rdV 3) (cI 0) fIx) (cI 0) fGt)) (mTup (aCons (rdV 2) (aCons (rdV 4) aNil))) cN)) (sAsg [4] [] (rdV 4) (bName 2)))) (ps.map (low s)) [L, some (.lst true acc), some (low s c), x, y] = .nx [L, some (.lst true (acc ++ spansL s c ps)), some (low s (c + ps.sum)), x', y'] := by
    intro ps
    induction ps with
    | nil => intro L x y acc c _; exact ⟨x, y, by simp [PV.forM, spansL]⟩
    | cons p ps ih =>
      intro L x y acc c hl
      have hl' : acc.length + ps.length + 1 ≤ 1000 := by simpa [Nat.add_assoc] using hl
      obtain ⟨x', y', e⟩ := ih L (some (low s p)) (some (low s (c + p))) (acc ++ [spanD s c p]) (c + p) (by simp; omega)
      refine ⟨x', y', ?_⟩
      obtain ⟨n, i0, g⟩ : ∃ n : D, fIx (low s p) (.int 0) = some n ∧ fGt n (.int 0) = some (.bl (decide (0 < p))) := ⟨_, ix0 _ _, gt0_low (p := p) hs⟩
      have lo : lenOk (acc.length + 1) = true := lenOk_of (by omega)
      have pl := law_plus_low (a := c) (b := p) hs (pow_gt h2)
      have mt : mTup (aCons (rdV 2) (aCons (rdV 4) aNil)) [L, some (D.lst true acc), some (low s c), some (low s p), some (low s (c + p))] = .ok (.tup [low s c, low s (c + p)]) := by
        simp [runF, outF, ent, sSeq, sAsg, sRet, sIf, sPar, sDrop, sNil, thnE, toF, bName, pre, PV.bin, mCb, aCons, aNil, mTup, mLst, mCall, rdV, mvV, cI, cB, cS, cN, tst, asB, mNot, mAnd, mOr, vAnd, vOr, vNot, vIf, R.bind_ok, R.bind_ex, R.bind_fail, ofO, fz, fzL, noFz, noFzL, frzA, unsA, onI, fAdd, fSub, fNeg, mNeg, fInt, mkT_ok, fz_low]
      have vt : vIf (tst (PV.bin (PV.bin (rdV 3) (cI 0) fIx) (cI 0) fGt)) (mTup (aCons (rdV 2) (aCons (rdV 4) aNil))) cN [L, some (D.lst true acc), some (low s c), some (low s p), some (low s (c + p))] = .ok (spanD s c p) := by
        have tt : tst (PV.bin (PV.bin (rdV 3) (cI 0) fIx) (cI 0) fGt) [L, some (D.lst true acc), some (low s c), some (low s p), some (low s (c + p))] = .ok (decide (0 < p)) := by
          simp [runF, outF, ent, sSeq, sAsg, sRet, sIf, sPar, sDrop, sNil, thnE, toF, bName, pre, PV.bin, mCb, aCons, aNil, mTup, mLst, mCall, rdV, mvV, cI, cB, cS, cN, tst, asB, mNot, mAnd, mOr, vAnd, vOr, vNot, vIf, R.bind_ok, R.bind_ex, R.bind_fail, ofO, fz, fzL, noFz, noFzL, frzA, unsA, onI, fAdd, fSub, fNeg, mNeg, fInt, fz_low, i0, g]
        unfold vIf
        rw [tt]
        simp only [R.bind_ok]
        unfold spanD
        by_cases h : 0 < p
        · rw [if_pos h, decide_eq_true h, if_pos rfl, mt]
        · rw [if_neg h, decide_eq_false h, if_neg (by decide)]
          rfl
      have nf : noFz (spanD s c p) = true := by unfold spanD; split <;> rfl
      have s1 : sAsg [2, 3] [] (mCall m_law_plus (aCons (rdV 2) (aCons (rdV 3) aNil))) (bName 4) [L, some (.lst true acc), some (low s c), some (low s p), y] = .nx [L, some (.lst true acc), some (low s c), some (low s p), some (low s (c + p))] := by
        simp [runF, outF, ent, sSeq, sAsg, sRet, sIf, sPar, sDrop, sNil, thnE, toF, bName, pre, PV.bin, mCb, aCons, aNil, mTup, mLst, mCall, rdV, mvV, cI, cB, cS, cN, tst, asB, mNot, mAnd, mOr, vAnd, vOr, vNot, vIf, R.bind_ok, R.bind_ex, R.bind_fail, ofO, fz, fzL, noFz, noFzL, frzA, unsA, onI, fAdd, fSub, fNeg, mNeg, fInt, fz_low, pl, noFz_low]
      have s2 : sApp [2, 4] [] 1 (vIf (tst (PV.bin (PV.bin (rdV 3) (cI 0) fIx) (cI 0) fGt)) (mTup (aCons (rdV 2) (aCons (rdV 4) aNil))) cN) [L, some (.lst true acc), some (low s c), some (low s p), some (low s (c + p))] = .nx [L, some (.lst true (acc ++ [spanD s c p])), some (low s c), some (low s p), some (low s (c + p))] := by
        show thnE (vIf _ _ _ _) _ = _
        rw [vt]
        show (if lenOk (acc.length + 1) then _ else _) = _
        rw [if_pos lo, nf]
        rfl
      have s3 : sAsg [4] [] (rdV 4) (bName 2) [L, some (.lst true (acc ++ [spanD s c p])), some (low s c), some (low s p), some (low s (c + p))] = .nx [L, some (.lst true (acc ++ [spanD s c p])), some (low s (c + p)), some (low s p), some (low s (c + p))] := by
        simp [runF, outF, ent, sSeq, sAsg, sRet, sIf, sPar, sDrop, sNil, thnE, toF, bName, pre, PV.bin, mCb, aCons, aNil, mTup, mLst, mCall, rdV, mvV, cI, cB, cS, cN, tst, asB, mNot, mAnd, mOr, vAnd, vOr, vNot, vIf, R.bind_ok, R.bind_ex, R.bind_fail, ofO, fz, fzL, noFz, noFzL, frzA, unsA, onI, fAdd, fSub, fNeg, mNeg, fInt, fz_low, noFz_low]
      have body : sSeq (sAsg [2, 3] [] (mCall m_law_plus (aCons (rdV 2) (aCons (rdV 3) aNil))) (bName 4)) (sSeq (sApp [2, 4] [] 1 (vIf (tst (PV.bin (PV.bin (rdV 3) (cI 0) fIx) (cI 0) fGt)) (mTup (aCons (rdV 2) (aCons (rdV 4) aNil))) cN)) (sAsg [4] [] (rdV 4) (bName 2))) [L, some (.lst true acc), some (low s c), some (low s p), y] = .nx [L, some (.lst true (acc ++ [spanD s c p])), some (low s (c + p)), some (low s p), some (low s (c + p))] := by
        simp only [sSeq, s1, s2, s3]
      rw [List.map_cons, forM_step rfl body, e]
      simp [spansL, Nat.add_assoc]
  obtain ⟨x', y', e⟩ := loop ps (some (.lst false (ps.map (low s)))) none none [] 0 (by simpa using hl)
  rw [low_zero hs] at e
  unfold m_law_spans b_law_spans
  simp [runF, outF, ent, sSeq, sAsg, sRet, sIf, sPar, sDrop, sNil, thnE, toF, bName, pre, PV.bin, mCb, aCons, aNil, mTup, mLst, mCall, rdV, mvV, cI, cB, cS, cN, tst, asB, mNot, mAnd, mOr, vAnd, vOr, vNot, vIf, R.bind_ok, R.bind_ex, R.bind_fail, ofO, fz, fzL, noFz, noFzL, frzA, unsA, onI, fAdd, fSub, fNeg, mNeg, fInt, mkT_ok, mkL_ok, sFor, iLst, fzL_low]
  simp [bName] at e
  rw [e]
  rfl
theorem h0 (wd : List (List Dd)) (p d : Nat) (pl : List Dd) (dd : Dd) (z : Option D) (hw : WdOk 5 wd) (hp : wd[p]? = some pl) (hd : pl[d]? = some dd) : q_law_deed_right_0 [z, some (worldD false wd), some (.int (p : Nat)), some (.int (d : Nat)), none, none, none, none, none, none, none] = .nx [z, some (worldD false wd), some (.int p), some (.int d), some (spansD true dd.ps), none, none, none, none, none, none] := by
  have ok : dd.Ok wd.length := (hw.ok pl (List.mem_of_getElem? hp)).ok dd (List.mem_of_getElem? hd)
  have hl := hw.l1
  have e : fIx (.lst false (wd.map (placeD false))) (.int p) = some (.lst false (pl.map (deedD false))) := ixM hp
  have e2 : fIx (.lst false (pl.map (deedD false))) (.int d) = some (.tup [low dd.und dd.top, .lst false (dd.ps.map (low dd.ps.sum))]) := ixM hd
  have s5 := sum_le3 ok.p3
  have e3 := law_spans ok.sum (by rw [ok.len] at s5; omega) dd.ps (by rw [ok.len]; omega)
  have nf : noFzL (spansL dd.ps.sum 0 dd.ps) = true ∨ True := .inr trivial
  unfold q_law_deed_right_0 worldD spansD
  simp [runF, outF, ent, sSeq, sAsg, sRet, sIf, sPar, sDrop, sNil, thnE, toF, bName, pre, PV.bin, mCb, aCons, aNil, mTup, mLst, mCall, rdV, mvV, cI, cB, cS, cN, tst, asB, mNot, mAnd, mOr, vAnd, vOr, vNot, vIf, R.bind_ok, R.bind_ex, R.bind_fail, ofO, fz, fzL, noFz, noFzL, frzA, unsA, onI, fAdd, fSub, fNeg, mNeg, fInt, ix1, fzL_places, e, e2, fzL_deeds, fzL_low, e3]
end K90
end
section
set_option Elab.async false
set_option linter.all false
set_option maxRecDepth 100000
set_option maxHeartbeats 1000000
namespace K90
open PySem PV
theorem mx (ps : List Nat) (x : Option D) (hl : ps.length ≤ 8) (h3 : ∀ p ∈ ps, p ≤ 3) (hs : 0 < ps.sum) : (sRet (mLc [2] [4] (iLst (rdV 2)) (bName 4) tYes' (mCall m_law_lowest (aCons (rdV 4) (aCons (mCb fSum (aCons (rdV 2) aNil)) aNil))))) [none, some (.int ps.length), some (.lst true (insd ps)), x, none] = .rt (.lst true (ps.map (low ps.sum))) := by
  have s5 := sum_le3 h3
  have sm : fSum [.lst false (insd ps)] = some (.int ((ps.sum : Nat) : Int)) := by
    show Option.map _ (asInts (insd ps)) = _
    rw [asInts_insd]
    simp [sum_cast]
  have e : lcM (bName 4) tYes' (mCall m_law_lowest (aCons (rdV 4) (aCons (mCb fSum (aCons (rdV 2) aNil)) aNil))) [none, some (.int ps.length), some (.lst false (insd ps)), x, none] (insd ps) = .ok (ps.map (low ps.sum)) := by
    have : ps.map (low ps.sum) = (insd ps).map (fun d => match d with | .int i => low ps.sum i.toNat | _ => .non) := by
      unfold insd
      rw [List.map_map]
      rfl
    rw [this]
    refine lcM_all fun d hd => ?_
    obtain ⟨p, hp, rfl⟩ := List.mem_map.mp hd
    refine ⟨_, rfl, rfl, ?_⟩
    have ll := law_lowest p ps.sum hs (Nat.lt_of_le_of_lt (show ps.sum ≤ 1000 by omega) (by decide))
    simp [runF, outF, ent, sSeq, sAsg, sRet, sIf, sPar, sDrop, sNil, thnE, toF, bName, pre, PV.bin, mCb, aCons, aNil, mTup, mLst, mCall, rdV, mvV, cI, cB, cS, cN, tst, asB, mNot, mAnd, mOr, vAnd, vOr, vNot, vIf, R.bind_ok, R.bind_ex, R.bind_fail, ofO, fz, fzL, noFz, noFzL, frzA, unsA, onI, fAdd, fSub, fNeg, mNeg, fInt, fzL_insd, sm, ll]
  have li : (insd ps).length = ps.length := by unfold insd; rw [List.length_map]
  have lo : lenOk (insd ps).length = true := lenOk_of (by omega)
  unfold mLc sRet
  simp [runF, outF, ent, sSeq, sAsg, sRet, sIf, sPar, sDrop, sNil, thnE, toF, bName, pre, PV.bin, mCb, aCons, aNil, mTup, mLst, mCall, rdV, mvV, cI, cB, cS, cN, tst, asB, mNot, mAnd, mOr, vAnd, vOr, vNot, vIf, R.bind_ok, R.bind_ex, R.bind_fail, ofO, fz, fzL, noFz, noFzL, frzA, unsA, onI, fAdd, fSub, fNeg, mNeg, fInt, iLst, fzL_insd, lo, e]
theorem cut_take {ds : List D} {k : Nat} (h : k ≤ ds.length) : cutD ds none (some (k : Int)) = ds.take k := by
  unfold cutD
  have e1 : HT.sIx ds.length 0 none = 0 := rfl
  have e2 : HT.sIx ds.length ds.length (some (k : Int)) = k := by
    unfold HT.sIx
    have : ¬ ((k : Int) < 0) := by omega
    simp [this]
    omega
  rw [e1, e2]
  simp
theorem eq0_low {s p : Nat} (hs : 0 < s) : fEq (.int ((p / Nat.gcd p s : Nat) : Int)) (.int 0) = some (.bl (decide (p = 0))) := by
  have hg : 0 < Nat.gcd p s := Nat.gcd_pos_of_pos_right _ hs
  have : p / Nat.gcd p s = 0 ↔ p = 0 := by
    constructor
    · intro h
      rcases Nat.eq_zero_or_pos p with h' | h'
      · exact h'
      · have := Nat.div_pos (Nat.le_of_dvd h' (Nat.gcd_dvd_left p s)) hg
        omega
    · rintro rfl
      simp
  rw [eqI]
  have e : decide (((p / Nat.gcd p s : Nat) : Int) = 0) = decide (p = 0) := decide_eq_decide.mpr (by rw [← this]; omega)
  rw [e]
theorem draws_to_ok {wd : List (List Dd)} {p d k q : Nat} {pl : List Dd} {dd : Dd} (hw : WdOk 5 wd) (hp : wd[p]? = some pl) (hd : pl[d]? = some dd) (hk : dd.ps[k]? = some q) :
    m_draws_to [worldD false wd, .int p, .int d, .int k] = .ok (spanD dd.ps.sum (dd.ps.take k).sum q) := by
  have ok : dd.Ok wd.length := (hw.ok pl (List.mem_of_getElem? hp)).ok dd (List.mem_of_getElem? hd)
  have hl := hw.l1
  have s5 := sum_le3 ok.p3
  have hs := ok.sum
  have h1000 : dd.ps.sum ≤ 1000 := by rw [ok.len] at s5; omega
  have lt1 : p < wd.length := (List.getElem?_eq_some_iff.mp hp).1
  have lt2 : d < pl.length := (List.getElem?_eq_some_iff.mp hd).1
  have lt3 : k < dd.ps.length := (List.getElem?_eq_some_iff.mp hk).1
  have c1 := check_world_ok hw
  have c2 := check_place_ok (wd := wd) lt1
  have c3 := check_deed_ok hp lt2
  have c4 := check_place_ok (wd := wd) (p := k) (by rw [← ok.len]; exact lt3)
  have c5 := chances_of_ok hp hd
  have i1 : fIx (.lst false (dd.ps.map (low dd.ps.sum))) (.int k) = some (low dd.ps.sum q) := ixM hk
  obtain ⟨n, i0, g⟩ : ∃ n : D, fIx (low dd.ps.sum q) (.int 0) = some n ∧ fEq n (.int 0) = some (.bl (decide (q = 0))) := ⟨_, ix0 _ _, eq0_low (p := q) hs⟩
  have ct : cutD (dd.ps.map (low dd.ps.sum)) none (some (k : Int)) = (dd.ps.take k).map (low dd.ps.sum) := by
    rw [cut_take (by rw [List.length_map]; omega), List.map_take]
  have sm := summed_low hs (pow_gt h1000) (dd.ps.take k)
  have pq := plus_low (a := (dd.ps.take k).sum) (b := q) hs (pow_gt h1000)
  unfold m_draws_to b_draws_to
  by_cases h : q = 0
  · have e : spanD dd.ps.sum (dd.ps.take k).sum q = .non := by unfold spanD; rw [if_neg (by omega)]
    rw [e]
    have g' : fEq n (.int 0) = some (.bl true) := by rw [g, decide_eq_true h]
    simp [runF, outF, ent, sSeq, sAsg, sRet, sIf, sPar, sDrop, sNil, thnE, toF, bName, pre, PV.bin, mCb, aCons, aNil, mTup, mLst, mCall, rdV, mvV, cI, cB, cS, cN, tst, asB, mNot, mAnd, mOr, vAnd, vOr, vNot, vIf, R.bind_ok, R.bind_ex, R.bind_fail, ofO, fz, fzL, noFz, noFzL, frzA, unsA, onI, fAdd, fSub, fNeg, mNeg, fInt, fz_world, c1, c2, c3, c4, c5, fzL_low, i1, i0, g']
  · have e : spanD dd.ps.sum (dd.ps.take k).sum q = .tup [low dd.ps.sum (dd.ps.take k).sum, low dd.ps.sum ((dd.ps.take k).sum + q)] := by unfold spanD; rw [if_pos (by omega)]
    have g' : fEq n (.int 0) = some (.bl false) := by rw [g, decide_eq_false h]
    rw [e]
    simp [-List.map_take, runF, outF, ent, sSeq, sAsg, sRet, sIf, sPar, sDrop, sNil, thnE, toF, bName, pre, PV.bin, mCb, aCons, aNil, mTup, mLst, mCall, rdV, mvV, cI, cB, cS, cN, tst, asB, mNot, mAnd, mOr, vAnd, vOr, vNot, vIf, R.bind_ok, R.bind_ex, R.bind_fail, ofO, fz, fzL, noFz, noFzL, frzA, unsA, onI, fAdd, fSub, fNeg, mNeg, fInt, fz_world, c1, c2, c3, c4, c5, fzL_low, i1, i0, g', mSl, oPart, asI, ct, sm, pq, fz_low, mkT_ok]
end K90
end
section
set_option Elab.async false
set_option linter.all false
set_option maxRecDepth 100000
set_option maxHeartbeats 1000000
namespace K90
open PySem PV
theorem forM_all {I : PV.Env → Prop} {f : D → PV.Env → Option PV.Env} {m : PV.Env → Fl} : ∀ {ds : List D}, (∀ d ∈ ds, ∀ ρ, I ρ → ∃ ρ1 ρ2, f d ρ = some ρ1 ∧ m ρ1 = .nx ρ2 ∧ I ρ2) → ∀ {ρ}, I ρ → ∃ ρ', PV.forM f m ds ρ = .nx ρ' ∧ I ρ'
  | [], _, ρ, h => ⟨ρ, rfl, h⟩
  | d :: ds, hs, ρ, h => by
    obtain ⟨ρ1, ρ2, e1, e2, h2⟩ := hs d List.mem_cons_self ρ h
    obtain ⟨ρ', e3, h3⟩ := forM_all (ds := ds) (fun x hx => hs x (List.mem_cons_of_mem _ hx)) h2
    exact ⟨ρ', by rw [forM_step e1 e2, e3], h3⟩
theorem sm_spanD {s c q : Nat} (h1 : c + q < 25) (h2 : s < 25) : Sm 2 26 (spanD s c q) := by
  unfold spanD
  split
  · exact sm_two (sm_low (by omega) h2) (sm_low (by omega) h2)
  · exact sm_non.mono (by omega) (by omega)
theorem spansL_get (s : Nat) : ∀ (ps : List Nat) (c k : Nat), (spansL s c ps)[k]? = ps[k]?.map fun q => spanD s (c + (ps.take k).sum) q
  | [], c, k => by simp [spansL]
  | p :: ps, c, 0 => by simp [spansL]
  | p :: ps, c, k + 1 => by
    have := spansL_get s ps (c + p) k
    simp [spansL, this, Nat.add_assoc]
theorem take_le (ps : List Nat) (k q : Nat) (h : ps[k]? = some q) : (ps.take k).sum + q ≤ ps.sum := by
  induction ps generalizing k with
  | nil => simp at h
  | cons p ps ih =>
    cases k with
    | zero => simp at h; subst h; simp
    | succ k =>
      have := ih k (by simpa using h)
      simp
      omega
/-- two alike, against two alike -/
theorem exact_two {n w : Nat} {v : D} (h : Sm n w v) (hn : n ≤ 60) (hw : w ≤ 20000) (hf : fz v = v) : m_law_exact [.lst false [v, v], .lst false [v, v]] = .ok (.bl true) := by
  have a : Sm (n + 1) (2 * (w + 1)) (.lst false [v, v]) := sm_lst (ds := [v, v]) fun d hd => by
    rcases List.mem_cons.mp hd with rfl | hd
    · exact h
    · rw [List.mem_singleton.mp hd]; exact h
  exact law_exact_same a (by omega) (by omega) (by simp [fzL, hf])
theorem h1 (wd : List (List Dd)) (p d : Nat) (pl : List Dd) (dd : Dd) (z : Option D) (hw : WdOk 5 wd) (hp : wd[p]? = some pl) (hd : pl[d]? = some dd) : ∃ x y, q_law_deed_right_1 [z, some (worldD false wd), some (.int (p : Nat)), some (.int (d : Nat)), some (spansD true dd.ps), none, none, none, none, none, none] = .nx [z, some (worldD false wd), some (.int p), some (.int d), some (spansD false dd.ps), x, y, none, none, none, none] := by
  have ok : dd.Ok wd.length := (hw.ok pl (List.mem_of_getElem? hp)).ok dd (List.mem_of_getElem? hd)
  have hl := hw.l1
  have s5 := sum_le3 ok.p3
  have s15 : dd.ps.sum ≤ 15 := by rw [ok.len] at s5; omega
  have loop := forM_all (I := fun ρ => ∃ x y, ρ = [z, some (worldD false wd), some (.int (p : Nat)), some (.int (d : Nat)), some (spansD false dd.ps), x, y, none, none, none, none])
    (f := bTup (bCons (bName 5) (bCons (bName 6) bNil)) 2) (m := sIf (mNot (tst (mCall m_law_exact (aCons (mLst (aCons (mCall m_draws_to (aCons (rdV 1) (aCons (rdV 2) (aCons (rdV 3) (aCons (rdV 5) aNil))))) (aCons (mCallK [3, 2, 1, 0] m_draws_to (aCons (rdV 5) (aCons (rdV 3) (aCons (rdV 2) (aCons (rdV 1) aNil))))) aNil))) (aCons (mLst (aCons (rdV 6) (aCons (rdV 6) aNil))) aNil))))) (sRet (cB false)) sNil)
    (ds := enumL (spansL dd.ps.sum 0 dd.ps) 0) (fun e he ρ hρ => ?_) (ρ := [z, some (worldD false wd), some (.int (p : Nat)), some (.int (d : Nat)), some (spansD false dd.ps), none, none, none, none, none, none]) ⟨none, none, rfl⟩
  · obtain ⟨ρ', e, x, y, rfl⟩ := loop
    refine ⟨x, y, ?_⟩
    rw [← e]
    unfold q_law_deed_right_1 sFor iEn spansD
    simp [rdV, fz, fz_spansL, R.bind_ok, frzA]

  · obtain ⟨x, y, rfl⟩ := hρ
    obtain ⟨k, hk⟩ := List.mem_iff_getElem?.mp he
    rw [enumL_get, spansL_get] at hk
    cases hq : dd.ps[k]? with
    | none => rw [hq] at hk; cases hk
    | some q =>
      rw [hq] at hk
      have hk : D.tup [.int ((0 + k : Nat) : Int), spanD dd.ps.sum (0 + (dd.ps.take k).sum) q] = e := by simpa using hk
      rw [Nat.zero_add, Nat.zero_add] at hk
      subst hk
      have dt := draws_to_ok hw hp hd hq
      have tk := take_le _ _ _ hq
      have ex := exact_two (v := spanD dd.ps.sum (dd.ps.take k).sum q) (sm_spanD (by omega) (by omega)) (by omega) (by omega) (fz_spanD _ _ _)
      refine ⟨_, _, rfl, ?_, some (.int (k : Nat)), some (spanD dd.ps.sum (dd.ps.take k).sum q), rfl⟩
      simp [runF, outF, ent, sSeq, sAsg, sRet, sIf, sPar, sDrop, sNil, thnE, toF, bName, pre, PV.bin, mCb, aCons, aNil, mTup, mLst, mCall, rdV, mvV, cI, cB, cS, cN, tst, asB, mNot, mAnd, mOr, vAnd, vOr, vNot, vIf, R.bind_ok, R.bind_ex, R.bind_fail, ofO, fz, fzL, noFz, noFzL, frzA, unsA, onI, fAdd, fSub, fNeg, mNeg, fInt, fz_world, mCallK, perD, dt, mkL_ok, fz_spanD, ex]
end K90
end
section
set_option Elab.async false
set_option linter.all false
set_option maxRecDepth 100000
set_option maxHeartbeats 1000000
namespace K90
open PySem PV
/-- to which place the draw n / d leads -/
def lead (s n d : Nat) : Nat → Nat → List Nat → Option Nat
  | _, _, [] => none
  | k, c, p :: ps => if n * s < (c + p) * d then some k else lead s n d (k + 1) (c + p) ps
def sel (s n d : Nat) : Nat → Nat → List Nat → List D
  | _, _, [] => []
  | k, c, p :: ps => (if 0 < p ∧ ¬ n * s < c * d ∧ n * s < (c + p) * d then [.int k] else []) ++ sel s n d (k + 1) (c + p) ps
theorem lead_lt {s n d : Nat} : ∀ {ps : List Nat} {k c j : Nat}, lead s n d k c ps = some j → j < k + ps.length
  | [], _, _, _, h => by cases h
  | p :: ps, k, c, j, h => by
    unfold lead at h
    split at h
    · cases h; simp
    · have := lead_lt h
      simp
      omega
theorem lead_some {s n d : Nat} : ∀ {ps : List Nat} {k c : Nat}, ¬ n * s < c * d → n * s < (c + ps.sum) * d → ∃ j, lead s n d k c ps = some j
  | [], k, c, h1, h2 => absurd (by simpa using h2) h1
  | p :: ps, k, c, h1, h2 => by
    unfold lead
    split
    · exact ⟨k, rfl⟩
    · next h => exact lead_some h (by simpa [Nat.add_assoc] using h2)
theorem sel_head {s n d : Nat} : ∀ {ps : List Nat} {k c j : Nat}, ¬ n * s < c * d → lead s n d k c ps = some j → ∃ t, sel s n d k c ps = .int j :: t
  | [], _, _, _, _, h => by cases h
  | p :: ps, k, c, j, h1, h => by
    unfold lead at h
    unfold sel
    by_cases h2 : n * s < (c + p) * d
    · rw [if_pos h2] at h
      cases h
      have hp : 0 < p := by
        rcases Nat.eq_zero_or_pos p with rfl | hp
        · exact absurd h2 h1
        · exact hp
      rw [if_pos ⟨hp, h1, h2⟩]
      exact ⟨_, rfl⟩
    · rw [if_neg h2] at h
      rw [if_neg fun z => h2 z.2.2]
      exact sel_head h2 h
theorem sel_len {s n d : Nat} : ∀ {ps : List Nat} {k c : Nat}, (sel s n d k c ps).length ≤ ps.length
  | [], _, _ => Nat.le_refl 0
  | p :: ps, k, c => by
    have := sel_len (s := s) (n := n) (d := d) (ps := ps) (k := k + 1) (c := c + p)
    unfold sel
    split
    · simp; omega
    · simp; omega
theorem drawn_at_ok {s n d : Nat} (hs : 0 < s) (h2 : s ≤ 1000) (hd : d < 2 ^ 40) (hn : n < d) {ps : List Nat} (hsum : ps.sum = s) {j : Nat} (hj : lead s n d 0 0 ps = some j) : m_drawn_at [.lst false (ps.map (low s)), fr n d] = .ok (.int j) := by
  have loop : ∀ (ps : List Nat) (L x y : Option D) (k c : Nat), ∀ j, lead s n d k c ps = some j → PV.forM (bTup (bCons (bName 3) (bCons (bName 4) bNil)) 2) (sSeq (sAsg [2, 4] [] (mCall m_plus (aCons (rdV 2) (aCons (rdV 4) aNil))) (bName 2)) (sIf (tst (mCall m_is_less (aCons (rdV 1) (aCons (rdV 2) aNil)))) (sRet (mvV 3)) sNil)) (enumL (ps.map (low s)) k) [L, some (fr n d), some (low s c), x, y] = .rt (.int j) := by
    intro ps
    induction ps with
    | nil => intro L x y k c j h; cases h
    | cons p ps ih =>
      intro L x y k c j h
      have pl := plus_low (a := c) (b := p) hs (pow_gt h2)
      have il := is_less_low (n := n) (d := d) (c := c + p) (s := s) (by omega) hs (pow_gt h2)
      have ff : fz (fr n d) = fr n d := rfl
      show PV.forM _ _ (.tup [.int k, low s p] :: enumL (ps.map (low s)) (k + 1)) _ = _
      have st : bTup (bCons (bName 3) (bCons (bName 4) bNil)) 2 (.tup [.int k, low s p]) [L, some (fr n d), some (low s c), x, y] = some [L, some (fr n d), some (low s c), some (.int k), some (low s p)] := rfl
      have s1 : sAsg [2, 4] [] (mCall m_plus (aCons (rdV 2) (aCons (rdV 4) aNil))) (bName 2) [L, some (fr n d), some (low s c), some (.int k), some (low s p)] = .nx [L, some (fr n d), some (low s (c + p)), some (.int k), some (low s p)] := by
        simp [runF, outF, ent, sSeq, sAsg, sRet, sIf, sPar, sDrop, sNil, thnE, toF, bName, pre, PV.bin, mCb, aCons, aNil, mTup, mLst, mCall, rdV, mvV, cI, cB, cS, cN, tst, asB, mNot, mAnd, mOr, vAnd, vOr, vNot, vIf, R.bind_ok, R.bind_ex, R.bind_fail, ofO, fz, fzL, noFz, noFzL, frzA, unsA, onI, fAdd, fSub, fNeg, mNeg, fInt, fz_low, pl, noFz_low]
      unfold lead at h
      by_cases hh : n * s < (c + p) * d
      · rw [if_pos hh] at h
        cases h
        refine forM_ret st ?_
        simp only [sSeq, s1]
        rw [decide_eq_true hh] at il
        simp [runF, outF, ent, sSeq, sAsg, sRet, sIf, sPar, sDrop, sNil, thnE, toF, bName, pre, PV.bin, mCb, aCons, aNil, mTup, mLst, mCall, rdV, mvV, cI, cB, cS, cN, tst, asB, mNot, mAnd, mOr, vAnd, vOr, vNot, vIf, R.bind_ok, R.bind_ex, R.bind_fail, ofO, fz, fzL, noFz, noFzL, frzA, unsA, onI, fAdd, fSub, fNeg, mNeg, fInt, fz_low, ff, il]
      · rw [if_neg hh] at h
        rw [decide_eq_false hh] at il
        rw [forM_step (ρ2 := [L, some (fr n d), some (low s (c + p)), some (.int k), some (low s p)]) st ?_, ih _ _ _ _ _ _ h]
        simp only [sSeq, s1]
        simp [runF, outF, ent, sSeq, sAsg, sRet, sIf, sPar, sDrop, sNil, thnE, toF, bName, pre, PV.bin, mCb, aCons, aNil, mTup, mLst, mCall, rdV, mvV, cI, cB, cS, cN, tst, asB, mNot, mAnd, mOr, vAnd, vOr, vNot, vIf, R.bind_ok, R.bind_ex, R.bind_fail, ofO, fz, fzL, noFz, noFzL, frzA, unsA, onI, fAdd, fSub, fNeg, mNeg, fInt, fz_low, ff, il]
  have e := loop ps (some (.lst false (ps.map (low s)))) none none 0 0 j hj
  rw [low_zero hs] at e
  unfold m_drawn_at b_drawn_at
  unfold fr at e ⊢
  simp [runF, outF, ent, sSeq, sAsg, sRet, sIf, sPar, sDrop, sNil, thnE, toF, bName, pre, PV.bin, mCb, aCons, aNil, mTup, mLst, mCall, rdV, mvV, cI, cB, cS, cN, tst, asB, mNot, mAnd, mOr, vAnd, vOr, vNot, vIf, R.bind_ok, R.bind_ex, R.bind_fail, ofO, fz, fzL, noFz, noFzL, frzA, unsA, onI, fAdd, fSub, fNeg, mNeg, fInt, mkT_ok, sFor, iEn, fzL_low]
  rw [show (sNil : PV.Env → Fl) = Fl.nx from rfl] at e
  rw [e]
theorem law_led_by_ok {s n d : Nat} (hs : 0 < s) (h2 : s ≤ 1000) (hd : d < 2 ^ 40) {ps : List Nat} (hl : ps.length ≤ 1000) {j : Nat} (hj : lead s n d 0 0 ps = some j) : m_law_led_by [.lst false (spansL s 0 ps), fr n d] = .ok (.int j) := by
  have loop : ∀ (ρ : PV.Env) (L x y : Option D) (ps : List Nat) (k c : Nat), ρ = [L, some (fr n d), x, y] → lcM (bTup (bCons (bName 2) (bCons (bName 3) bNil)) 2) (mAnd (tst (PV.bin (rdV 3) cN fIsNot)) (mAnd (mNot (tst (mCall m_law_under (aCons (rdV 1) (aCons (PV.bin (rdV 3) (cI 0) fIx) aNil))))) (tst (mCall m_law_under (aCons (rdV 1) (aCons (PV.bin (rdV 3) (cI 1) fIx) aNil)))))) (rdV 2) ρ (enumL (spansL s c ps) k) = .ok (sel s n d k c ps) := by
    intro ρ L x y ps
    induction ps with
    | nil => intro k c _; rfl
    | cons p ps ih =>
      intro k c hρ
      subst hρ
      have ih := ih (k + 1) (c + p) rfl
      have u1 := law_under_low (n := n) (d := d) (c := c) (s := s) (by omega) hs (pow_gt h2)
      have u2 := law_under_low (n := n) (d := d) (c := c + p) (s := s) (by omega) hs (pow_gt h2)
      have ff : fz (fr n d) = fr n d := rfl
      show lcM _ _ _ _ (.tup [.int k, spanD s c p] :: enumL (spansL s (c + p) ps) (k + 1)) = _
      have st : bTup (bCons (bName 2) (bCons (bName 3) bNil)) 2 (.tup [.int k, spanD s c p]) [L, some (fr n d), x, y] = some [L, some (fr n d), some (.int k), some (spanD s c p)] := rfl
      have r2 : rdV 2 [L, some (fr n d), some (.int k), some (spanD s c p)] = .ok (.int k) := rfl
      have te : mAnd (tst (PV.bin (rdV 3) cN fIsNot)) (mAnd (mNot (tst (mCall m_law_under (aCons (rdV 1) (aCons (PV.bin (rdV 3) (cI 0) fIx) aNil))))) (tst (mCall m_law_under (aCons (rdV 1) (aCons (PV.bin (rdV 3) (cI 1) fIx) aNil))))) [L, some (fr n d), some (.int k), some (spanD s c p)] = .ok (decide (0 < p ∧ ¬ n * s < c * d ∧ n * s < (c + p) * d)) := by
        unfold spanD
        by_cases hp : 0 < p
        · have nn : fIsNot (.tup [low s c, low s (c + p)]) .non = some (.bl true) := rfl
          rw [if_pos hp]
          by_cases z1 : n * s < c * d
          · have u1' : m_law_under [fr n d, low s c] = .ok (.bl true) := by rw [u1, decide_eq_true z1]
            simp [runF, outF, ent, sSeq, sAsg, sRet, sIf, sPar, sDrop, sNil, thnE, toF, bName, pre, PV.bin, mCb, aCons, aNil, mTup, mLst, mCall, rdV, mvV, cI, cB, cS, cN, tst, asB, mNot, mAnd, mOr, vAnd, vOr, vNot, vIf, R.bind_ok, R.bind_ex, R.bind_fail, ofO, fz, fzL, noFz, noFzL, frzA, unsA, onI, fAdd, fSub, fNeg, mNeg, fInt, fz_low, ff, nn, ix0, ix1, u1', z1]
          · have u1' : m_law_under [fr n d, low s c] = .ok (.bl false) := by rw [u1, decide_eq_false z1]
            by_cases z2 : n * s < (c + p) * d
            · have u2' : m_law_under [fr n d, low s (c + p)] = .ok (.bl true) := by rw [u2, decide_eq_true z2]
              have z1' : c * d ≤ n * s := Nat.le_of_not_lt z1
              simp [runF, outF, ent, sSeq, sAsg, sRet, sIf, sPar, sDrop, sNil, thnE, toF, bName, pre, PV.bin, mCb, aCons, aNil, mTup, mLst, mCall, rdV, mvV, cI, cB, cS, cN, tst, asB, mNot, mAnd, mOr, vAnd, vOr, vNot, vIf, R.bind_ok, R.bind_ex, R.bind_fail, ofO, fz, fzL, noFz, noFzL, frzA, unsA, onI, fAdd, fSub, fNeg, mNeg, fInt, fz_low, ff, nn, ix0, ix1, u1', u2', z1', z2, hp]
            · have u2' : m_law_under [fr n d, low s (c + p)] = .ok (.bl false) := by rw [u2, decide_eq_false z2]
              simp [runF, outF, ent, sSeq, sAsg, sRet, sIf, sPar, sDrop, sNil, thnE, toF, bName, pre, PV.bin, mCb, aCons, aNil, mTup, mLst, mCall, rdV, mvV, cI, cB, cS, cN, tst, asB, mNot, mAnd, mOr, vAnd, vOr, vNot, vIf, R.bind_ok, R.bind_ex, R.bind_fail, ofO, fz, fzL, noFz, noFzL, frzA, unsA, onI, fAdd, fSub, fNeg, mNeg, fInt, fz_low, ff, nn, ix0, ix1, u1', u2', z2]
        · have nn : fIsNot .non .non = some (.bl false) := rfl
          rw [if_neg hp]
          simp [runF, outF, ent, sSeq, sAsg, sRet, sIf, sPar, sDrop, sNil, thnE, toF, bName, pre, PV.bin, mCb, aCons, aNil, mTup, mLst, mCall, rdV, mvV, cI, cB, cS, cN, tst, asB, mNot, mAnd, mOr, vAnd, vOr, vNot, vIf, R.bind_ok, R.bind_ex, R.bind_fail, ofO, fz, fzL, noFz, noFzL, frzA, unsA, onI, fAdd, fSub, fNeg, mNeg, fInt, nn, hp]
      unfold lcM
      rw [st]
      simp only [te, r2]
      unfold sel
      by_cases hc : 0 < p ∧ ¬ n * s < c * d ∧ n * s < (c + p) * d
      · rw [if_pos hc, decide_eq_true hc]
        simp only [ih]
        rfl
      · rw [if_neg hc, decide_eq_false hc]
        simp only [ih]
        rfl
  obtain ⟨t, ht⟩ := sel_head (s := s) (n := n) (d := d) (ps := ps) (k := 0) (c := 0) (by simp) hj
  have sl := spansL_len s ps 0
  have e := loop (unsA [2, 3] (frzA [0] [some (.lst false (spansL s 0 ps)), some (fr n d), none, none] 0) 0) _ none none ps 0 0 rfl
  have lo : lenOk (enumL (spansL s 0 ps) 0).length = true := lenOk_of (by rw [enumL_len, sl]; omega)
  have ml : mLc [0] [2, 3] (iEn (rdV 0)) (bTup (bCons (bName 2) (bCons (bName 3) bNil)) 2) (mAnd (tst (PV.bin (rdV 3) cN fIsNot)) (mAnd (mNot (tst (mCall m_law_under (aCons (rdV 1) (aCons (PV.bin (rdV 3) (cI 0) fIx) aNil))))) (tst (mCall m_law_under (aCons (rdV 1) (aCons (PV.bin (rdV 3) (cI 1) fIx) aNil)))))) (rdV 2) [some (.lst false (spansL s 0 ps)), some (fr n d), none, none] = .ok (.lst true (.int j :: t)) := by
    unfold mLc
    have ie : iEn (rdV 0) [some (.lst false (spansL s 0 ps)), some (fr n d), none, none] = .ok (enumL (spansL s 0 ps) 0) := by
      simp [iEn, rdV, fz, fz_spansL, R.bind_ok]
    rw [ie]
    simp only [R.bind_ok]
    rw [if_pos lo, e, ht]
    rfl
  have fx : fIx (.lst true (.int j :: t)) (.int 0) = some (.int j) := ixL (i := 0) rfl
  unfold m_law_led_by b_law_led_by
  have en : ent 4 [D.lst false (spansL s 0 ps), fr n d] = [some (.lst false (spansL s 0 ps)), some (fr n d), none, none] := rfl
  simp only [runF, sRet, PV.bin]
  rw [en, ml]
  simp [runF, outF, ent, sSeq, sAsg, sRet, sIf, sPar, sDrop, sNil, thnE, toF, bName, pre, PV.bin, mCb, aCons, aNil, mTup, mLst, mCall, rdV, mvV, cI, cB, cS, cN, tst, asB, mNot, mAnd, mOr, vAnd, vOr, vNot, vIf, R.bind_ok, R.bind_ex, R.bind_fail, ofO, fz, fzL, noFz, noFzL, frzA, unsA, onI, fAdd, fSub, fNeg, mNeg, fInt, fx]
end K90
end
section
set_option Elab.async false
set_option linter.all false
set_option maxRecDepth 100000
set_option maxHeartbeats 1000000
namespace K90
open PySem PV
theorem next_by_ok {wd : List (List Dd)} {p d : Nat} {pl : List Dd} {dd : Dd} {n u j : Nat} (hw : WdOk 5 wd) (hp : wd[p]? = some pl) (hd : pl[d]? = some dd) (hn : n < u) (hg : Nat.gcd n u = 1) (hu : u < 2 ^ 40) (hj : lead dd.ps.sum n u 0 0 dd.ps = some j) :
    m_next_by [worldD false wd, .int p, .int d, fr n u] = .ok (.int j) := by
  have ok : dd.Ok wd.length := (hw.ok pl (List.mem_of_getElem? hp)).ok dd (List.mem_of_getElem? hd)
  have hl := hw.l1
  have s5 := sum_le3 ok.p3
  have hs := ok.sum
  have h1000 : dd.ps.sum ≤ 1000 := by rw [ok.len] at s5; omega
  have lt1 : p < wd.length := (List.getElem?_eq_some_iff.mp hp).1
  have lt2 : d < pl.length := (List.getElem?_eq_some_iff.mp hd).1
  have c1 := check_world_ok hw
  have c2 := check_place_ok (wd := wd) lt1
  have c3 := check_deed_ok hp lt2
  have c4 := check_draw_ok hg hn hu
  have c5 := chances_of_ok hp hd
  have c6 := drawn_at_ok hs h1000 hu hn rfl hj
  have ff : fz (fr n u) = fr n u := rfl
  unfold m_next_by b_next_by
  simp [runF, outF, ent, sSeq, sAsg, sRet, sIf, sPar, sDrop, sNil, thnE, toF, bName, pre, PV.bin, mCb, aCons, aNil, mTup, mLst, mCall, rdV, mvV, cI, cB, cS, cN, tst, asB, mNot, mAnd, mOr, vAnd, vOr, vNot, vIf, R.bind_ok, R.bind_ex, R.bind_fail, ofO, fz, fzL, noFz, noFzL, frzA, unsA, onI, fAdd, fSub, fNeg, mNeg, fInt, fz_world, c1, c2, c3, c4, c5, c6, ff, fzL_low]
theorem h4 (wd : List (List Dd)) (p d : Nat) (pl : List Dd) (dd : Dd) (z x y : Option D) (es : List D) (hw : WdOk 5 wd) (hp : wd[p]? = some pl) (hd : pl[d]? = some dd) (he : ∀ e ∈ es, DrawOk e) : q_law_deed_right_4 [z, some (worldD false wd), some (.int (p : Nat)), some (.int (d : Nat)), some (spansD false dd.ps), x, y, some (.lst true es), none, none, none] = .rt (.bl true) := by
  have ok : dd.Ok wd.length := (hw.ok pl (List.mem_of_getElem? hp)).ok dd (List.mem_of_getElem? hd)
  have hl := hw.l1
  have s5 := sum_le3 ok.p3
  have l5 : dd.ps.length ≤ 5 := by rw [ok.len]; exact hl
  have hs := ok.sum
  have h1000 : dd.ps.sum ≤ 1000 := by omega
  have fzes : fzL es = es := by
    clear hl s5
    induction es with
    | nil => rfl
    | cons e es ih =>
      obtain ⟨n, u, rfl, _⟩ := he e List.mem_cons_self
      unfold fzL
      rw [ih fun x hx => he x (List.mem_cons_of_mem _ hx)]
      rfl
  have loop := forM_all (I := fun ρ => ∃ v w, ρ = [z, some (worldD false wd), some (.int (p : Nat)), some (.int (d : Nat)), some (spansD false dd.ps), x, y, some (.lst false es), none, v, w])
    (f := bName 9) (m := sSeq (sAsg [4, 9] [] (mCall m_law_led_by (aCons (rdV 4) (aCons (rdV 9) aNil))) (bName 10)) (sIf (mNot (tst (mCall m_law_exact (aCons (mLst (aCons (mCall m_next_by (aCons (rdV 1) (aCons (rdV 2) (aCons (rdV 3) (aCons (rdV 9) aNil))))) (aCons (mCallK [3, 2, 1, 0] m_next_by (aCons (rdV 9) (aCons (rdV 3) (aCons (rdV 2) (aCons (rdV 1) aNil))))) aNil))) (aCons (mLst (aCons (rdV 10) (aCons (rdV 10) aNil))) aNil))))) (sRet (cB false)) sNil))
    (ds := es) (fun e hx ρ hρ => ?_) (ρ := [z, some (worldD false wd), some (.int (p : Nat)), some (.int (d : Nat)), some (spansD false dd.ps), x, y, some (.lst false es), none, none, none]) ⟨none, none, rfl⟩
  · obtain ⟨ρ', e, v, w, rfl⟩ := loop
    have ef : (sFor [7] (iLst (rdV 7)) (bName 9) (sSeq (sAsg [4, 9] [] (mCall m_law_led_by (aCons (rdV 4) (aCons (rdV 9) aNil))) (bName 10)) (sIf (mNot (tst (mCall m_law_exact (aCons (mLst (aCons (mCall m_next_by (aCons (rdV 1) (aCons (rdV 2) (aCons (rdV 3) (aCons (rdV 9) aNil))))) (aCons (mCallK [3, 2, 1, 0] m_next_by (aCons (rdV 9) (aCons (rdV 3) (aCons (rdV 2) (aCons (rdV 1) aNil))))) aNil))) (aCons (mLst (aCons (rdV 10) (aCons (rdV 10) aNil))) aNil))))) (sRet (cB false)) sNil))) [z, some (worldD false wd), some (.int (p : Nat)), some (.int (d : Nat)), some (spansD false dd.ps), x, y, some (.lst true es), none, none, none] = .nx [z, some (worldD false wd), some (.int (p : Nat)), some (.int (d : Nat)), some (spansD false dd.ps), x, y, some (.lst false es), none, v, w] := by
      rw [← e]
      unfold sFor iLst
      simp [rdV, fz, fzes, R.bind_ok, frzA]
    unfold q_law_deed_right_4
    simp only [sSeq] at ef ⊢
    rw [ef]
    rfl
  · obtain ⟨v, w, rfl⟩ := hρ
    obtain ⟨n, u, rfl, hn, hg, hu⟩ := he e hx
    obtain ⟨j, hj⟩ := lead_some (s := dd.ps.sum) (n := n) (d := u) (ps := dd.ps) (k := 0) (c := 0) (by simp) (by rw [Nat.zero_add, Nat.mul_comm]; exact Nat.mul_lt_mul_of_pos_left hn hs)
    have jl := lead_lt hj
    have nb := next_by_ok hw hp hd hn hg hu hj
    have lb := law_led_by_ok hs h1000 hu (by omega) hj
    have ex := exact_two (v := .int (j : Nat)) (sm_int (by omega)) (by omega) (by omega) rfl
    refine ⟨_, _, rfl, ?_, some (fr n u), some (.int (j : Nat)), rfl⟩
    unfold fr at nb lb
    unfold spansD
    simp [runF, outF, ent, sSeq, sAsg, sRet, sIf, sPar, sDrop, sNil, thnE, toF, bName, pre, PV.bin, mCb, aCons, aNil, mTup, mLst, mCall, rdV, mvV, cI, cB, cS, cN, tst, asB, mNot, mAnd, mOr, vAnd, vOr, vNot, vIf, R.bind_ok, R.bind_ex, R.bind_fail, ofO, fz, fzL, noFz, noFzL, frzA, unsA, onI, fAdd, fSub, fNeg, mNeg, fInt, fz_world, fz_spansL, mCallK, perD, nb, lb, mkL_ok, ex, fr]
end K90
end
section
set_option Elab.async false
set_option linter.all false
set_option maxRecDepth 100000
set_option maxHeartbeats 1000000
namespace K90
open PySem PV
theorem fzL_id : ∀ {ds : List D}, (∀ d ∈ ds, fz d = d) → fzL ds = ds
  | [], _ => rfl
  | d :: ds, h => by
    unfold fzL
    rw [h d List.mem_cons_self, fzL_id fun x hx => h x (List.mem_cons_of_mem _ hx)]
def FrOk (e : D) : Prop := ∃ a b : Nat, e = fr a b ∧ Nat.gcd a b = 1 ∧ 0 < b ∧ b < 2 ^ 40
theorem frOk_low {s p : Nat} (hs : 0 < s) (h : s < 2 ^ 40) : FrOk (low s p) := ⟨_, _, rfl, low_gcd hs, lowd_pos hs, Nat.lt_of_le_of_lt (lowd_le _ _) h⟩
theorem mulIz (a b : Int) (h : b.natAbs < 2 ^ 64) : fMul (.int a) (.int b) = some (.int (a * b)) := by
  have : mulOk a b = true := mul_of h
  unfold fMul onI
  simp [this]
theorem law_less_gen {a b m : Nat} (hm : 0 < m) (hm2 : m < 2 ^ 20) (hb : 0 < b) (hb2 : b < 2 ^ 40) (h : b ≤ a * m) : m_law_less [fr a b, fr 1 m] = .ok (low (b * m) (a * m - b)) := by
  have hl := law_lowest (a * m - b) (b * m) (Nat.mul_pos hb hm) (Nat.lt_of_lt_of_le (Nat.mul_lt_mul'' hb2 hm2) (by decide))
  have e1 : fMul (.int (a : Int)) (.int (m : Int)) = some (.int ((a : Int) * m)) := mulIz _ _ (by omega)
  have e2 : fMul (.int (-1 : Int)) (.int (b : Int)) = some (.int (-1 * (b : Int))) := mulIz _ _ (by omega)
  have e3 : fMul (.int (b : Int)) (.int (m : Int)) = some (.int ((b : Int) * m)) := mulIz _ _ (by omega)
  have c1 : ((a * m - b : Nat) : Int) = (a : Int) * m + -1 * (b : Int) := by rw [Int.ofNat_sub h]; push_cast; omega
  have c2 : ((b * m : Nat) : Int) = (b : Int) * m := by push_cast; rfl
  rw [c1, c2] at hl
  have lp : m_law_plus [.tup [.int a, .int b], .tup [.int (-1), .int m]] = .ok (low (b * m) (a * m - b)) := by
    unfold m_law_plus b_law_plus
    simp only [Int.neg_mul, Int.one_mul] at hl e2
    simp [runF, outF, ent, sSeq, sAsg, sRet, sIf, sPar, sDrop, sNil, thnE, toF, bName, pre, PV.bin, mCb, aCons, aNil, mTup, mLst, mCall, rdV, mvV, cI, cB, cS, cN, tst, asB, mNot, mAnd, mOr, vAnd, vOr, vNot, vIf, R.bind_ok, R.bind_ex, R.bind_fail, ofO, fz, fzL, noFz, noFzL, frzA, unsA, onI, fAdd, fSub, fNeg, mNeg, fInt, ix0, ix1, e1, e2, e3, hl]
  unfold m_law_less b_law_less fr
  simp [runF, outF, ent, sSeq, sAsg, sRet, sIf, sPar, sDrop, sNil, thnE, toF, bName, pre, PV.bin, mCb, aCons, aNil, mTup, mLst, mCall, rdV, mvV, cI, cB, cS, cN, tst, asB, mNot, mAnd, mOr, vAnd, vOr, vNot, vIf, R.bind_ok, R.bind_ex, R.bind_fail, ofO, fz, fzL, noFz, noFzL, frzA, unsA, onI, fAdd, fSub, fNeg, mNeg, fInt, ix0, ix1, mkT_ok, lp]
theorem law_less_ok {a b : Nat} (hb : 0 < b) (hb2 : b < 2 ^ 40) (h : b ≤ a * 1000000) : m_law_less [fr a b, fr 1 1000000] = .ok (low (b * 1000000) (a * 1000000 - b)) := law_less_gen (by decide) (by decide) hb hb2 h
theorem pow6 : fPow (.int 10) (.int 6) = some (.int 1000000) := by kernel_rfl
/-- the draws beside one span -/
theorem beside {s c q : Nat} (hs : 0 < s) (h1 : s ≤ 100) (hq : 0 < q) (x0 x1 x2 x3 x4 x5 x7 x8 x9 x10 : Option D) :
    ∃ es, es.length ≤ 4 ∧ (∀ e ∈ es, DrawOk e) ∧ mLc [6, 6, 6, 6] [9] (iLst (mLst (aCons (PV.bin (rdV 6) (cI 0) fIx) (aCons (PV.bin (rdV 6) (cI 1) fIx) (aCons (mCall m_law_less (aCons (PV.bin (rdV 6) (cI 1) fIx) (aCons (mTup (aCons (cI 1) (aCons (PV.bin (cI 10) (cI 6) fPow) aNil))) aNil))) (aCons (mCall m_law_plus (aCons (PV.bin (rdV 6) (cI 0) fIx) (aCons (mTup (aCons (cI 1) (aCons (PV.bin (cI 10) (cI 6) fPow) aNil))) aNil))) aNil)))))) (bName 9) (tst (mCall m_law_under (aCons (rdV 9) (aCons (mTup (aCons (cI 1) (aCons (cI 1) aNil))) aNil)))) (rdV 9) [x0, x1, x2, x3, x4, x5, some (.tup [low s c, low s (c + q)]), x7, x8, x9, x10] = .ok (.lst true es) := by
  have hd := lowd_pos (p := c + q) hs
  have hd0 := lowd_pos (p := c) hs
  have dl := lowd_le s (c + q)
  have dl0 := lowd_le s c
  have tp : 0 < (c + q) / Nat.gcd (c + q) s := Nat.div_pos (Nat.le_of_dvd (by omega) (Nat.gcd_dvd_left _ _)) (Nat.gcd_pos_of_pos_right _ hs)
  have ll : m_law_less [low s (c + q), .tup [.int 1, .int 1000000]] = _ := law_less_ok (a := (c + q) / Nat.gcd (c + q) s) (b := s / Nat.gcd (c + q) s) hd (by omega) (by omega)
  have lp : m_law_plus [low s c, .tup [.int 1, .int 1000000]] = _ := law_plus_fr (c / Nat.gcd c s) (s / Nat.gcd c s) 1 1000000 hd0 (by decide) (by omega) (by decide)
  have f0 : FrOk (low s c) := frOk_low hs (by omega)
  have f1 : FrOk (low s (c + q)) := frOk_low hs (by omega)
  obtain ⟨v2, f2, ll⟩ : ∃ v, FrOk v ∧ m_law_less [low s (c + q), .tup [.int 1, .int 1000000]] = .ok v := ⟨_, frOk_low (Nat.mul_pos hd (by decide)) (by omega), ll⟩
  obtain ⟨v3, f3, lp⟩ : ∃ v, FrOk v ∧ m_law_plus [low s c, .tup [.int 1, .int 1000000]] = .ok v := ⟨_, frOk_low (Nat.mul_pos hd0 (by decide)) (by omega), lp⟩
  have fz2 : fz v2 = v2 := by obtain ⟨a, b, rfl, _⟩ := f2; rfl
  have fz3 : fz v3 = v3 := by obtain ⟨a, b, rfl, _⟩ := f3; rfl
  have it : iLst (mLst (aCons (PV.bin (rdV 6) (cI 0) fIx) (aCons (PV.bin (rdV 6) (cI 1) fIx) (aCons (mCall m_law_less (aCons (PV.bin (rdV 6) (cI 1) fIx) (aCons (mTup (aCons (cI 1) (aCons (PV.bin (cI 10) (cI 6) fPow) aNil))) aNil))) (aCons (mCall m_law_plus (aCons (PV.bin (rdV 6) (cI 0) fIx) (aCons (mTup (aCons (cI 1) (aCons (PV.bin (cI 10) (cI 6) fPow) aNil))) aNil))) aNil))))) [x0, x1, x2, x3, x4, x5, some (.tup [low s c, low s (c + q)]), x7, x8, x9, x10] = .ok [low s c, low s (c + q), v2, v3] := by
    simp [runF, outF, ent, sSeq, sAsg, sRet, sIf, sPar, sDrop, sNil, thnE, toF, bName, pre, PV.bin, mCb, aCons, aNil, mTup, mLst, mCall, rdV, mvV, cI, cB, cS, cN, tst, asB, mNot, mAnd, mOr, vAnd, vOr, vNot, vIf, R.bind_ok, R.bind_ex, R.bind_fail, ofO, fz, fzL, noFz, noFzL, frzA, unsA, onI, fAdd, fSub, fNeg, mNeg, fInt, iLst, ix0, ix1, fz_low, pow6, mkT_ok, ll, lp, mkL_ok, fz2, fz3]
  have fa : ∀ e ∈ [low s c, low s (c + q), v2, v3], FrOk e := fun e he => by
    simp at he
    rcases he with rfl | rfl | rfl | rfl
    · exact f0
    · exact f1
    · exact f2
    · exact f3
  let cc : D → Bool := fun d => match d with
    | .tup [.int a, .int b] => decide (a < b)
    | _ => false
  have lf : ∀ ρ : PV.Env, ρ.length = 11 → lcM (bName 9) (tst (mCall m_law_under (aCons (rdV 9) (aCons (mTup (aCons (cI 1) (aCons (cI 1) aNil))) aNil)))) (rdV 9) ρ [low s c, low s (c + q), v2, v3] = .ok (([low s c, low s (c + q), v2, v3].filter cc).map id) := fun ρ hρ => lcM_filt fun e he => by
    obtain ⟨a, b, rfl, _, hb, hb2⟩ := fa e he
    have u := law_under_fr a b 1 1 (by omega) (by decide)
    have u' : m_law_under [.tup [.int a, .int b], .tup [.int 1, .int 1]] = .ok (.bl (decide (a * 1 < 1 * b))) := u
    refine ⟨_, rfl, ?_, fun _ => ?_⟩
    · have e9 : (ρ.set 9 (some (fr a b)))[9]? = some (some (fr a b)) := List.getElem?_set_self (by omega)
      have r9 : rdV 9 (ρ.set 9 (some (fr a b))) = .ok (fr a b) := by unfold rdV; rw [e9]; rfl
      have ec : cc (fr a b) = decide (a * 1 < 1 * b) := decide_eq_decide.mpr (by omega)
      rw [ec]
      have m : mCall m_law_under (aCons (rdV 9) (aCons (mTup (aCons (cI 1) (aCons (cI 1) aNil))) aNil)) (ρ.set 9 (some (fr a b))) = .ok (.bl (decide (a * 1 < 1 * b))) := by
        show R.bind (R.bind (rdV 9 _) _) _ = _
        rw [r9]
        exact u'
      show R.bind (mCall m_law_under (aCons (rdV 9) (aCons (mTup (aCons (cI 1) (aCons (cI 1) aNil))) aNil)) (ρ.set 9 (some (fr a b)))) _ = _
      rw [m]
      rfl
    · have e9 : (ρ.set 9 (some (fr a b)))[9]? = some (some (fr a b)) := List.getElem?_set_self (by omega)
      unfold rdV; rw [e9]; rfl
  refine ⟨([low s c, low s (c + q), v2, v3].filter cc).map id, ?_, fun e he => ?_, ?_⟩
  · rw [List.length_map]
    exact List.length_filter_le _ _
  · rw [List.map_id] at he
    obtain ⟨m, hc⟩ := List.mem_filter.mp he
    obtain ⟨a, b, rfl, g, hb, hb2⟩ := fa e m
    have hc : decide ((a : Int) < (b : Int)) = true := hc
    exact ⟨a, b, rfl, by have := of_decide_eq_true hc; omega, g, hb2⟩
  · unfold mLc
    rw [it]
    simp only [R.bind_ok]
    rw [if_pos (lenOk_of (by simp)), lf _ (by rw [unsA_len, frzA_len]; rfl)]
    rfl
end K90
end
section
set_option Elab.async false
set_option linter.all false
set_option maxRecDepth 100000
set_option maxHeartbeats 1000000
namespace K90
open PySem PV
theorem h3 (wd : List (List Dd)) (p d : Nat) (pl : List Dd) (dd : Dd) (z x y : Option D) (r : Nat) (hw : WdOk 5 wd) (hp : wd[p]? = some pl) (hd : pl[d]? = some dd) (hr : r < 97) : ∃ y' es, (∀ e ∈ es, DrawOk e) ∧ q_law_deed_right_3 [z, some (worldD false wd), some (.int (p : Nat)), some (.int (d : Nat)), some (spansD false dd.ps), x, y, some (.lst true [.tup [.int 0, .int 1], .tup [.int 999999, .int 1000000], low 97 r]), none, none, none] = .nx [z, some (worldD false wd), some (.int p), some (.int d), some (spansD false dd.ps), x, y', some (.lst true es), none, none, none] := by
  have ok : dd.Ok wd.length := (hw.ok pl (List.mem_of_getElem? hp)).ok dd (List.mem_of_getElem? hd)
  have hl := hw.l1
  have s5 := sum_le3 ok.p3
  have l5 : dd.ps.length ≤ 5 := by rw [ok.len]; exact hl
  have hs := ok.sum
  have h15 : dd.ps.sum ≤ 100 := by omega
  let cc : D → Bool := fun d => !isN d
  let SP : List D := (spansL dd.ps.sum 0 dd.ps).filter cc
  have hSP : ∀ e ∈ SP, ∃ c q, 0 < q ∧ e = .tup [low dd.ps.sum c, low dd.ps.sum (c + q)] := fun e he => by
    obtain ⟨m, hc⟩ := List.mem_filter.mp he
    obtain ⟨k, hk⟩ := List.mem_iff_getElem?.mp m
    rw [spansL_get] at hk
    cases hq : dd.ps[k]? with
    | none => rw [hq] at hk; cases hk
    | some q =>
      rw [hq] at hk
      have hk : spanD dd.ps.sum (0 + (dd.ps.take k).sum) q = e := by simpa using hk
      subst hk
      unfold spanD at hc ⊢
      by_cases h : 0 < q
      · rw [if_pos h]
        exact ⟨_, _, h, rfl⟩
      · rw [if_neg h] at hc
        cases hc
  have lSP : SP.length ≤ 5 := by
    have := List.length_filter_le cc (spansL dd.ps.sum 0 dd.ps)
    rw [spansL_len] at this
    exact Nat.le_trans this l5
  have fzSP : fzL SP = SP := fzL_id fun e he => by
    obtain ⟨c, q, _, rfl⟩ := hSP e he
    rfl
  let V : Option D → List D → Option D → PV.Env := fun y es v9 => [z, some (worldD false wd), some (.int (p : Nat)), some (.int (d : Nat)), some (spansD false dd.ps), x, y, some (.lst true es), none, v9, none]
  have loop : ∀ (sp : List D) (y : Option D) (es : List D), (∀ e ∈ sp, ∃ c q, 0 < q ∧ e = .tup [low dd.ps.sum c, low dd.ps.sum (c + q)]) → (∀ e ∈ es, DrawOk e) → es.length + 4 * sp.length ≤ 1000 → ∃ y' es', (∀ e ∈ es', DrawOk e) ∧ PV.forM (bName 6) (sAsg [7, 6, 6, 6, 6, 9] [] (PV.bin (rdV 7) (mLc [6, 6, 6, 6] [9] (iLst (mLst (aCons (PV.bin (rdV 6) (cI 0) fIx) (aCons (PV.bin (rdV 6) (cI 1) fIx) (aCons (mCall m_law_less (aCons (PV.bin (rdV 6) (cI 1) fIx) (aCons (mTup (aCons (cI 1) (aCons (PV.bin (cI 10) (cI 6) fPow) aNil))) aNil))) (aCons (mCall m_law_plus (aCons (PV.bin (rdV 6) (cI 0) fIx) (aCons (mTup (aCons (cI 1) (aCons (PV.bin (cI 10) (cI 6) fPow) aNil))) aNil))) aNil)))))) (bName 9) (tst (mCall m_law_under (aCons (rdV 9) (aCons (mTup (aCons (cI 1) (aCons (cI 1) aNil))) aNil)))) (rdV 9)) fAddD) (bName 7)) sp (V y es none) = .nx (V y' es' none) := by
    intro sp
    induction sp with
    | nil => intro y es _ he _; exact ⟨y, es, he, rfl⟩
    | cons e sp ih =>
      intro y es h1 he hl
      obtain ⟨c, q, hq, rfl⟩ := h1 e List.mem_cons_self
      obtain ⟨es1, l1, o1, e1⟩ := beside (c := c) hs h15 hq z (some (worldD false wd)) (some (.int (p : Nat))) (some (.int (d : Nat))) (some (spansD false dd.ps)) x (some (.lst true es)) none none none
      simp only [List.length_cons] at hl
      obtain ⟨y', es', o', e'⟩ := ih (some (.tup [low dd.ps.sum c, low dd.ps.sum (c + q)])) (es ++ es1) (fun e he => h1 e (List.mem_cons_of_mem _ he)) (fun e hx => (List.mem_append.mp hx).elim (he e) (o1 e)) (by rw [List.length_append]; omega)
      refine ⟨y', es', o', ?_⟩
      rw [forM_step (ρ2 := V (some (.tup [low dd.ps.sum c, low dd.ps.sum (c + q)])) (es ++ es1) none) (rfl : _ = some (V (some (.tup [low dd.ps.sum c, low dd.ps.sum (c + q)])) es none)) ?_, e']
      have fzes : fzL es = es := fzL_id fun e hx => by obtain ⟨n, u, rfl, _⟩ := he e hx; rfl
      have ad : fAddD (.lst false es) (.lst true es1) = some (.lst true (es ++ es1)) := by
        show (if lenOk (es.length + es1.length) then _ else _) = _
        rw [if_pos (lenOk_of (by omega))]
      have b : (PV.bin (rdV 7) (mLc [6, 6, 6, 6] [9] (iLst (mLst (aCons (PV.bin (rdV 6) (cI 0) fIx) (aCons (PV.bin (rdV 6) (cI 1) fIx) (aCons (mCall m_law_less (aCons (PV.bin (rdV 6) (cI 1) fIx) (aCons (mTup (aCons (cI 1) (aCons (PV.bin (cI 10) (cI 6) fPow) aNil))) aNil))) (aCons (mCall m_law_plus (aCons (PV.bin (rdV 6) (cI 0) fIx) (aCons (mTup (aCons (cI 1) (aCons (PV.bin (cI 10) (cI 6) fPow) aNil))) aNil))) aNil)))))) (bName 9) (tst (mCall m_law_under (aCons (rdV 9) (aCons (mTup (aCons (cI 1) (aCons (cI 1) aNil))) aNil)))) (rdV 9)) fAddD) (V (some (.tup [low dd.ps.sum c, low dd.ps.sum (c + q)])) es none) = .ok (.lst true (es ++ es1)) := by
        show R.bind (rdV 7 _) (fun x => R.bind (mLc _ _ _ _ _ _ (V _ es none)) fun y => ofO (fAddD x y)) = _
        have r7 : rdV 7 (V (some (.tup [low dd.ps.sum c, low dd.ps.sum (c + q)])) es none) = .ok (.lst false es) := by
          show R.ok (D.lst false (fzL es)) = _
          rw [fzes]
        rw [r7]
        simp only [R.bind_ok]
        rw [e1]
        simp only [R.bind_ok]
        rw [ad]
        rfl
      unfold sAsg
      rw [b]
      cases h9 : noFz (D.lst true (es ++ es1)) with
      | true =>
        simp only [thnE, h9]
        rfl
      | false =>
        simp only [thnE, h9]
        rfl
  have d0 : ∀ e ∈ [D.tup [.int 0, .int 1], .tup [.int 999999, .int 1000000], low 97 r], DrawOk e := fun e he => by
    simp only [List.mem_cons, List.not_mem_nil, or_false] at he
    rcases he with rfl | rfl | rfl
    · exact ⟨0, 1, rfl, by decide, by decide, by decide⟩
    · exact ⟨999999, 1000000, rfl, by decide, by decide +kernel, by decide⟩
    · refine ⟨_, _, rfl, ?_, low_gcd (by decide), Nat.lt_of_le_of_lt (lowd_le _ _) (by decide)⟩
      have hg : 0 < Nat.gcd r 97 := Nat.gcd_pos_of_pos_right _ (by decide)
      exact Nat.div_lt_div_of_lt_of_dvd (Nat.gcd_dvd_right r 97) hr
  obtain ⟨y', es', o', e'⟩ := loop SP y _ hSP d0 (by simp; omega)
  refine ⟨y', es', o', ?_⟩
  have lf : ∀ ρ : PV.Env, ρ.length = 11 → lcM (bName 8) (tst (PV.bin (rdV 8) cN fIsNot)) (rdV 8) ρ (spansL dd.ps.sum 0 dd.ps) = .ok (SP.map id) := fun ρ hρ => lcM_filt fun e he => by
    have e9 : (ρ.set 8 (some e))[8]? = some (some e) := List.getElem?_set_self (by omega)
    have fe : fz e = e := by
      obtain ⟨k, hk⟩ := List.mem_iff_getElem?.mp he
      rw [spansL_get] at hk
      cases hq : dd.ps[k]? with
      | none => rw [hq] at hk; cases hk
      | some q =>
        rw [hq] at hk
        have hk : spanD dd.ps.sum (0 + (dd.ps.take k).sum) q = e := by simpa using hk
        subst hk
        exact fz_spanD _ _ _
    have r9 : rdV 8 (ρ.set 8 (some e)) = .ok e := by unfold rdV; rw [e9]; simp only [fe]
    refine ⟨_, rfl, ?_, fun _ => r9⟩
    show R.bind (R.bind (rdV 8 _) _) _ = _
    rw [r9]
    rfl
  have it : ∀ es, iLst (mLc [4] [8] (iLst (rdV 4)) (bName 8) (tst (PV.bin (rdV 8) cN fIsNot)) (rdV 8)) (V y es none) = .ok SP := fun es => by
    have r4 : iLst (rdV 4) (V y es none) = .ok (spansL dd.ps.sum 0 dd.ps) := by
      show R.ok (fzL (fzL (spansL dd.ps.sum 0 dd.ps))) = _
      rw [fz_spansL, fz_spansL]
    have m : mLc [4] [8] (iLst (rdV 4)) (bName 8) (tst (PV.bin (rdV 8) cN fIsNot)) (rdV 8) (V y es none) = .ok (.lst true SP) := by
      unfold mLc
      rw [r4]
      simp only [R.bind_ok]
      rw [if_pos (lenOk_of (by rw [spansL_len]; omega)), lf _ (by rw [unsA_len, frzA_len]; rfl), List.map_id]
      rfl
    show R.bind (mLc _ _ _ _ _ _ (V y es none)) _ = _
    rw [m]
    show R.ok (fzL SP) = _
    rw [fzSP]
  unfold q_law_deed_right_3
  show (match iLst (mLc [4] [8] (iLst (rdV 4)) (bName 8) (tst (PV.bin (rdV 8) cN fIsNot)) (rdV 8)) (V y _ none) with | .ok ds => PV.forM (bName 6) _ ds (frzA [4, 8] (V y _ none) 0) | .ex c d => Fl.ex c d | .fail => Fl.fail) = _
  rw [it]
  show PV.forM (bName 6) _ SP (frzA [4, 8] (V y _ none) 0) = _
  have ef : ∀ es, frzA [4, 8] (V y es none) 0 = V y es none := fun es => by
    show [z, some (worldD false wd), some (.int (p : Nat)), some (.int (d : Nat)), some (.lst false (fzL (spansL dd.ps.sum 0 dd.ps))), x, y, some (.lst true es), none, none, none] = _
    rw [fz_spansL]
    rfl
  rw [ef]
  exact e'
end K90
end
section
set_option Elab.async false
set_option linter.all false
set_option maxRecDepth 100000
set_option maxHeartbeats 1000000
namespace K90
open PySem PV
theorem rp (wd : List (List Dd)) (hw : WdOk 5 wd) : ∃ z, fRepr [worldD false wd] = some (.str z) ∧ PySem.PyData.strOk z = true := by
  have hl := hw.l1
  have sd : ∀ dd : Dd, dd.Ok wd.length → Sm 3 132 (deedD false dd) := fun dd ok => by
    have s5 := sum_le3 ok.p3
    have l5 : dd.ps.length ≤ 5 := by rw [ok.len]; exact hl
    have a : Sm 2 65 (.lst false (dd.ps.map (low dd.ps.sum))) := (sm_lst (n := 1) (w := 12) fun e he => by
      obtain ⟨p, hp, rfl⟩ := List.mem_map.mp he
      exact sm_low (by have := ok.p3 p hp; omega) (by omega)).mono (by omega) (by rw [List.length_map]; omega)
    exact sm_two (n := 2) (w := 65) ((sm_low (by have := ok.t; omega) (by have := ok.u1; omega)).mono (by omega) (by omega)) a
  have sp : ∀ pl ∈ wd, Sm 4 399 (placeD false pl) := fun pl hpl => by
    have ok := hw.ok pl hpl
    refine (sm_lst (n := 3) (w := 132) fun e he => ?_).mono (by omega) (by rw [List.length_map]; have := ok.l3; omega)
    obtain ⟨dd, hd, rfl⟩ := List.mem_map.mp he
    exact sd dd (ok.ok dd hd)
  have sw : Sm 6 4002 (worldD false wd) := sm_two (n := 5) (w := 2000) (sm_world.mono (by omega) (by omega)) ((sm_lst (n := 4) (w := 399) fun e he => by
    obtain ⟨pl, hpl, rfl⟩ := List.mem_map.mp he
    exact sp pl hpl).mono (by omega) (by rw [List.length_map]; omega))
  refine ⟨(er (worldD false wd)).shown, ?_, sw.so⟩
  have r := sw.rep (by omega) (by omega)
  unfold worldD at r ⊢
  show (if okRep (.tup _) then _ else _) = _
  rw [if_pos r]
end K90
end
section
set_option Elab.async false
set_option linter.all false
set_option maxRecDepth 100000
set_option maxHeartbeats 1000000
namespace K90
open PySem PV
/-- which kinds hold -/
def kindsD (k : Nat) : D := .lst true ((List.range 10).map fun i => .bl (decide (i = k)))
def kindsF (k : Nat) : D := .lst false ((List.range 10).map fun i => .bl (decide (i = k)))
def tbK : String → Option (Nat × (List D → R D)) := tbTwo "next_by" 4 m_next_by "draws_to" 4 m_draws_to
theorem clo_next {ds : List D} (h : ds.length = 4) (hb : noBxL ds = true) : cloR tbK (.box (.clo "next_by") ds) = m_next_by ds := by
  unfold cloR tbK tbTwo
  simp [h, hb]
theorem clo_to {ds : List D} (h : ds.length = 4) (hb : noBxL ds = true) : cloR tbK (.box (.clo "draws_to") ds) = m_draws_to ds := by
  unfold cloR tbK tbTwo
  simp [h, hb]
theorem add_lst {o o' : Bool} {xs ys : List D} (h : xs.length + ys.length ≤ 1000000) : fAddD (.lst o xs) (.lst o' ys) = some (.lst true (xs ++ ys)) := by
  show (if lenOk (xs.length + ys.length) then _ else _) = _
  rw [if_pos (lenOk_of h)]
theorem caught_place {b v : D} (h : cloR tbK b = .ex "InvalidPlace" v) (hf : fz v = v) : m_law_caught [b] = .ok (.lst true [kindsF 3, v]) := by
  have h' : cloR (tbTwo "next_by" 4 m_next_by "draws_to" 4 m_draws_to) b = .ex "InvalidPlace" v := h
  have kd : kindsF 3 = .lst false [.bl false, .bl false, .bl false, .bl true, .bl false, .bl false, .bl false, .bl false, .bl false, .bl false] := rfl
  have fi : fIs (.box (.exc "InvalidPlace") [v]) .non = some (.bl false) := rfl
  unfold m_law_caught b_law_caught
  simp [runF, outF, ent, sSeq, sAsg, sRet, sIf, sPar, sDrop, sNil, thnE, toF, bName, pre, PV.bin, mCb, aCons, aNil, mTup, mLst, mCall, rdV, mvV, cI, cB, cS, cN, tst, asB, mNot, mAnd, mOr, vAnd, vOr, vNot, vIf, R.bind_ok, R.bind_ex, R.bind_fail, ofO, fz, fzL, noFz, noFzL, frzA, unsA, onI, fAdd, fSub, fNeg, mNeg, fInt, sTC, h', okc, mIsE, mVal, hf, mkL_ok, fi, add_lst, kd]
theorem caught_deed {b v : D} (h : cloR tbK b = .ex "InvalidDeed" v) (hf : fz v = v) : m_law_caught [b] = .ok (.lst true [kindsF 8, v]) := by
  have h' : cloR (tbTwo "next_by" 4 m_next_by "draws_to" 4 m_draws_to) b = .ex "InvalidDeed" v := h
  have kd : kindsF 8 = .lst false [.bl false, .bl false, .bl false, .bl false, .bl false, .bl false, .bl false, .bl false, .bl true, .bl false] := rfl
  have fi : fIs (.box (.exc "InvalidDeed") [v]) .non = some (.bl false) := rfl
  unfold m_law_caught b_law_caught
  simp [runF, outF, ent, sSeq, sAsg, sRet, sIf, sPar, sDrop, sNil, thnE, toF, bName, pre, PV.bin, mCb, aCons, aNil, mTup, mLst, mCall, rdV, mvV, cI, cB, cS, cN, tst, asB, mNot, mAnd, mOr, vAnd, vOr, vNot, vIf, R.bind_ok, R.bind_ex, R.bind_fail, ofO, fz, fzL, noFz, noFzL, frzA, unsA, onI, fAdd, fSub, fNeg, mNeg, fInt, sTC, h', okc, mIsE, mVal, hf, mkL_ok, fi, add_lst, kd]
theorem caught_number {b v : D} (h : cloR tbK b = .ex "InvalidNumber" v) (hf : fz v = v) : m_law_caught [b] = .ok (.lst true [kindsF 5, v]) := by
  have h' : cloR (tbTwo "next_by" 4 m_next_by "draws_to" 4 m_draws_to) b = .ex "InvalidNumber" v := h
  have kd : kindsF 5 = .lst false [.bl false, .bl false, .bl false, .bl false, .bl false, .bl true, .bl false, .bl false, .bl false, .bl false] := rfl
  have fi : fIs (.box (.exc "InvalidNumber") [v]) .non = some (.bl false) := rfl
  unfold m_law_caught b_law_caught
  simp [runF, outF, ent, sSeq, sAsg, sRet, sIf, sPar, sDrop, sNil, thnE, toF, bName, pre, PV.bin, mCb, aCons, aNil, mTup, mLst, mCall, rdV, mvV, cI, cB, cS, cN, tst, asB, mNot, mAnd, mOr, vAnd, vOr, vNot, vIf, R.bind_ok, R.bind_ex, R.bind_fail, ofO, fz, fzL, noFz, noFzL, frzA, unsA, onI, fAdd, fSub, fNeg, mNeg, fInt, sTC, h', okc, mIsE, mVal, hf, mkL_ok, fi, add_lst, kd]
theorem sm_bl (b : Bool) : Sm 0 0 (.bl b) := by
  cases b
  · exact ⟨rfl, rfl, Nat.le_refl 0, rfl, rfl, Nat.le_refl 0, by decide +kernel⟩
  · exact ⟨rfl, rfl, Nat.le_refl 0, rfl, rfl, Nat.le_refl 0, by decide +kernel⟩
theorem sm_kinds (k : Nat) : Sm 1 10 (kindsF k) := by
  have := sm_lst (n := 0) (w := 0) (o := false) (ds := (List.range 10).map fun i => .bl (decide (i = k))) fun d hd => by
    obtain ⟨i, _, rfl⟩ := List.mem_map.mp hd
    exact sm_bl _
  exact this.mono (by omega) (by simp)
/-- all calls are refused so -/
theorem all_caught_ok {k w : Nat} {v : D} {calls : List D} (hk : k < 10) (hv : Sm 10 w v) (hw : w ≤ 1000) (hf : fz v = v) (hl : calls.length ≤ 10) (hc : ∀ b ∈ calls, fz b = b ∧ m_law_caught [b] = .ok (.lst true [kindsF k, v])) : m_law_all_caught [.lst false calls, .int k, v] = .ok (.bl true) := by
  have fk : fz (kindsD k) = kindsF k := by
    unfold kindsD kindsF fz
    rw [fzL_id fun d hd => by obtain ⟨i, _, rfl⟩ := List.mem_map.mp hd; rfl]
  have fk2 : fz (kindsF k) = kindsF k := by
    unfold kindsF fz
    rw [fzL_id fun d hd => by obtain ⟨i, _, rfl⟩ := List.mem_map.mp hd; rfl]
  have fc : fzL calls = calls := fzL_id fun b hb => (hc b hb).1
  have sm : Sm 11 (2 * (w + 10 + 1)) (.lst false [kindsF k, v]) := sm_lst (n := 10) (w := w + 10) (ds := [kindsF k, v]) fun d hd => by
    simp only [List.mem_cons, List.not_mem_nil, or_false] at hd
    rcases hd with rfl | rfl
    · exact (sm_kinds k).mono (by omega) (by omega)
    · exact hv.mono (by omega) (by omega)
  have ex := law_exact_same sm (by omega) (by omega) (by simp [fzL, fk2, hf])
  have kl : ∀ ρ : PV.Env, ρ[1]? = some (some (.int k)) → 4 < ρ.length → mLc [] [4] (iRg1 (cI 10)) (bName 4) tYes' (PV.bin (rdV 4) (rdV 1) fEq) ρ = .ok (kindsD k) := fun ρ h1 h4 => by
    have lk : ∀ ρ : PV.Env, ρ[1]? = some (some (.int k)) → 4 < ρ.length → lcM (bName 4) tYes' (PV.bin (rdV 4) (rdV 1) fEq) ρ (rngL 0 10) = .ok ((rngL 0 10).map fun d => match d with | .int i => .bl (decide (i = (k : Int))) | _ => .non) := fun ρ h1 h4 => lcM_all fun d hd => by
      obtain ⟨i, _, rfl⟩ := List.mem_map.mp hd
      refine ⟨_, rfl, rfl, ?_⟩
      have a : rdV 4 (ρ.set 4 (some (.int (0 + (i : Int))))) = .ok (.int (0 + i)) := by
        unfold rdV
        rw [List.getElem?_set_self (by omega)]
        rfl
      have b : rdV 1 (ρ.set 4 (some (.int (0 + (i : Int))))) = .ok (.int k) := by
        unfold rdV
        rw [List.getElem?_set_ne (by decide), h1]
        rfl
      unfold PV.bin
      rw [a, b]
      simp only [R.bind_ok, eqI]
      rfl
    unfold mLc
    have ir : iRg1 (cI 10) ρ = .ok (rngL 0 10) := by
      show (if inR 10 = true then R.ok (rngL 0 10) else R.fail) = _
      rw [if_pos (inR_of (by decide))]
    rw [ir]
    simp only [R.bind_ok]
    rw [if_pos (lenOk_of (by simp [rngL])), lk _ (by rw [unsA_get, frzA_get, h1]; rfl) (by rw [unsA_len, frzA_len]; exact h4)]
    show R.ok (D.lst true _) = _
    unfold kindsD rngL
    rw [List.map_map]
    have e : (List.range 10).map (fun i => D.bl (decide (i = k))) = (List.range 10).map ((fun d => match d with | .int i => D.bl (decide (i = (k : Int))) | _ => .non) ∘ fun (k : Nat) => D.int (0 + (k : Int))) := by
      refine List.map_congr_left fun i _ => ?_
      show D.bl (decide (i = k)) = D.bl (decide (0 + (i : Int) = (k : Int)))
      congr 1
      exact decide_eq_decide.mpr (by omega)
    rw [e]
  have te : ∀ b ∈ calls, ∀ ρ : PV.Env, ρ[1]? = some (some (.int k)) → ρ[2]? = some (some v) → ρ[3]? = some (some b) → 4 < ρ.length → mNot (tst (mCall m_law_exact (aCons (mCall m_law_caught (aCons (rdV 3) aNil)) (aCons (mLst (aCons (mLc [] [4] (iRg1 (cI 10)) (bName 4) tYes' (PV.bin (rdV 4) (rdV 1) fEq)) (aCons (rdV 2) aNil))) aNil)))) ρ = .ok false := fun b hb ρ h1 h2 h3 h4 => by
    obtain ⟨fb, cb⟩ := hc b hb
    have mk : mkL [kindsD k, v] = some (.lst true [kindsD k, v]) := rfl
    have k2 := kl ρ h1 h4
    have r3 : rdV 3 ρ = .ok b := by unfold rdV; rw [h3]; simp only [fb]
    have r2 : rdV 2 ρ = .ok v := by unfold rdV; rw [h2]; simp only [hf]
    unfold mNot tst mCall mLst aCons aNil
    simp only [r3, r2, k2, R.bind_ok, fzL, fb, cb, mk, ofO, fz, fk, fk2, hf, ex, asB]
    rfl
  have lc : lcM (bName 3) (mNot (tst (mCall m_law_exact (aCons (mCall m_law_caught (aCons (rdV 3) aNil)) (aCons (mLst (aCons (mLc [] [4] (iRg1 (cI 10)) (bName 4) tYes' (PV.bin (rdV 4) (rdV 1) fEq)) (aCons (rdV 2) aNil))) aNil))))) (rdV 3) (unsA [3] (frzA [0] [some (.lst false calls), some (.int k), some v, none, none] 0) 0) calls = .ok ((calls.filter fun _ => false).map id) := lcM_filt fun b hb => by
    refine ⟨_, rfl, te b hb _ rfl rfl rfl (by simp [unsA_len, frzA_len]), fun z => (nomatch z)⟩
  have ml : mLc [0] [3] (iLst (rdV 0)) (bName 3) (mNot (tst (mCall m_law_exact (aCons (mCall m_law_caught (aCons (rdV 3) aNil)) (aCons (mLst (aCons (mLc [] [4] (iRg1 (cI 10)) (bName 4) tYes' (PV.bin (rdV 4) (rdV 1) fEq)) (aCons (rdV 2) aNil))) aNil))))) (rdV 3) [some (.lst false calls), some (.int k), some v, none, none] = .ok (.lst true []) := by
    have il : iLst (rdV 0) [some (.lst false calls), some (.int k), some v, none, none] = .ok calls := by
      show R.ok (fzL (fzL calls)) = _
      rw [fc, fc]
    show R.bind (iLst (rdV 0) _) _ = _
    rw [il]
    simp only [R.bind_ok]
    rw [if_pos (lenOk_of (by omega)), lc]
    simp [R.bind_ok]
  have ee : fEq (.lst true []) (.lst true []) = some (.bl true) := rfl
  unfold m_law_all_caught b_law_all_caught
  simp only [runF, sRet, PV.bin]
  have en : ent 5 [D.lst false calls, .int k, v] = [some (.lst false calls), some (.int k), some v, none, none] := rfl
  rw [en, ml]
  simp [runF, outF, ent, sSeq, sAsg, sRet, sIf, sPar, sDrop, sNil, thnE, toF, bName, pre, PV.bin, mCb, aCons, aNil, mTup, mLst, mCall, rdV, mvV, cI, cB, cS, cN, tst, asB, mNot, mAnd, mOr, vAnd, vOr, vNot, vIf, R.bind_ok, R.bind_ex, R.bind_fail, ofO, fz, fzL, noFz, noFzL, frzA, unsA, onI, fAdd, fSub, fNeg, mNeg, fInt, mkL_ok, ee]
end K90
end
section
set_option Elab.async false
set_option linter.all false
set_option maxRecDepth 100000
set_option maxHeartbeats 1000000
namespace K90
open PySem PV
mutual
/-- no list within is an own one -/
def frB : D → Bool
  | .lst o ds => !o && frBL ds
  | .tup ds => frBL ds
  | .dic _ ds => frBL ds
  | .box _ ds => frBL ds
  | _ => true
def frBL : List D → Bool
  | [] => true
  | d :: ds => frB d && frBL ds
end
mutual
theorem frB_ok : ∀ d : D, frB d = true → fz d = d
  | .non, _ => rfl
  | .bl _, _ => rfl
  | .int _, _ => rfl
  | .str _, _ => rfl
  | .lst o ds, h => by
    unfold frB at h
    rw [Bool.and_eq_true] at h
    cases o with
    | true => cases h.1
    | false =>
      unfold fz
      rw [frBL_ok ds h.2]
  | .tup ds, h => by
    unfold frB at h
    unfold fz
    rw [frBL_ok ds h]
  | .dic ks ds, h => by
    unfold frB at h
    unfold fz
    rw [frBL_ok ds h]
  | .box k ds, h => by
    unfold frB at h
    unfold fz
    rw [frBL_ok ds h]
theorem frBL_ok : ∀ ds : List D, frBL ds = true → fzL ds = ds
  | [], _ => rfl
  | d :: ds, h => by
    unfold frBL at h
    rw [Bool.and_eq_true] at h
    unfold fzL
    rw [frB_ok d h.1, frBL_ok ds h.2]
end
theorem caught_world {b v : D} (h : cloR tbK b = .ex "InvalidWorld" v) (hf : fz v = v) : m_law_caught [b] = .ok (.lst true [kindsF 0, v]) := by
  have h' : cloR (tbTwo "next_by" 4 m_next_by "draws_to" 4 m_draws_to) b = .ex "InvalidWorld" v := h
  have kd : kindsF 0 = .lst false [.bl true, .bl false, .bl false, .bl false, .bl false, .bl false, .bl false, .bl false, .bl false, .bl false] := rfl
  have fi : fIs (.box (.exc "InvalidWorld") [v]) .non = some (.bl false) := rfl
  unfold m_law_caught b_law_caught
  simp [runF, outF, ent, sSeq, sAsg, sRet, sIf, sPar, sDrop, sNil, thnE, toF, bName, pre, PV.bin, mCb, aCons, aNil, mTup, mLst, mCall, rdV, mvV, cI, cB, cS, cN, tst, asB, mNot, mAnd, mOr, vAnd, vOr, vNot, vIf, R.bind_ok, R.bind_ex, R.bind_fail, ofO, fz, fzL, noFz, noFzL, frzA, unsA, onI, fAdd, fSub, fNeg, mNeg, fInt, sTC, h', okc, mIsE, mVal, hf, mkL_ok, fi, add_lst, kd]
theorem check_world_no {v : D} (hv : fz v = v) (h : m_is_world_by [v] = .ok (.bl false)) : m_check_world [v] = .ex "InvalidWorld" v := by
  unfold m_check_world b_check_world
  simp [runF, outF, ent, sSeq, sAsg, sRet, sIf, sPar, sDrop, sNil, thnE, toF, bName, pre, PV.bin, mCb, aCons, aNil, mTup, mLst, mCall, rdV, mvV, cI, cB, cS, cN, tst, asB, mNot, mAnd, mOr, vAnd, vOr, vNot, vIf, R.bind_ok, R.bind_ex, R.bind_fail, ofO, fz, fzL, noFz, noFzL, frzA, unsA, onI, fAdd, fSub, fNeg, mNeg, fInt, hv, h, sRaise]
theorem next_world {v x y z : D} (hv : fz v = v) (h : m_is_world_by [v] = .ok (.bl false)) : m_next_by [v, x, y, z] = .ex "InvalidWorld" v := by
  have c := check_world_no hv h
  unfold m_next_by b_next_by
  simp [runF, outF, ent, sSeq, sAsg, sRet, sIf, sPar, sDrop, sNil, thnE, toF, bName, pre, PV.bin, mCb, aCons, aNil, mTup, mLst, mCall, rdV, mvV, cI, cB, cS, cN, tst, asB, mNot, mAnd, mOr, vAnd, vOr, vNot, vIf, R.bind_ok, R.bind_ex, R.bind_fail, ofO, fz, fzL, noFz, noFzL, frzA, unsA, onI, fAdd, fSub, fNeg, mNeg, fInt, hv, c]
theorem to_world {v x y z : D} (hv : fz v = v) (h : m_is_world_by [v] = .ok (.bl false)) : m_draws_to [v, x, y, z] = .ex "InvalidWorld" v := by
  have c := check_world_no hv h
  unfold m_draws_to b_draws_to
  simp [runF, outF, ent, sSeq, sAsg, sRet, sIf, sPar, sDrop, sNil, thnE, toF, bName, pre, PV.bin, mCb, aCons, aNil, mTup, mLst, mCall, rdV, mvV, cI, cB, cS, cN, tst, asB, mNot, mAnd, mOr, vAnd, vOr, vNot, vIf, R.bind_ok, R.bind_ex, R.bind_fail, ofO, fz, fzL, noFz, noFzL, frzA, unsA, onI, fAdd, fSub, fNeg, mNeg, fInt, hv, c]
def badsW : List D := match iLst (mCall m_law_bad_worlds aNil) [] with
  | .ok ds => ds
  | _ => []
def fW : D → List D := fun bad => [.box (.clo "next_by") [bad, .non, .non, .non], .box (.clo "draws_to") [bad, .non, .non, .non]]
def isW0 (v : D) : Bool := frB v && noOw v && noBx v && (match m_is_world_by [v] with | .ok (.bl false) => true | _ => false)
def isDc : D → Bool
  | .dic [] [] => true
  | _ => false
def isSm (n w : Nat) (v : D) : Bool := plD v && (er v).canLay0 && Nat.ble (er v).depth n && (er v).showable && (er v).leavesShort 13 && Nat.ble (er v).weight w && PyData.strOk (er v).shown
theorem isSm_ok {n w : Nat} {v : D} (h : isSm n w v = true) : Sm n w v := by
  unfold isSm at h
  simp only [Bool.and_eq_true] at h
  obtain ⟨⟨⟨⟨⟨⟨a, b⟩, c⟩, d⟩, e⟩, f⟩, g⟩ := h
  exact ⟨a, b, Nat.le_of_ble_eq_true c, d, e, Nat.le_of_ble_eq_true f, g⟩
theorem isDc_ok {v : D} (h : isDc v = true) : v = .dic [] [] := by
  cases v with
  | dic ks ds =>
    cases ks with
    | nil =>
      cases ds with
      | nil => rfl
      | cons _ _ => cases h
    | cons _ _ => cases h
  | _ => cases h
end K90
end
section
set_option Elab.async false
set_option linter.all false
set_option maxRecDepth 100000
set_option maxHeartbeats 1000000
namespace K90
open PySem PV
theorem bw0 : (match iLst (mCall m_law_bad_worlds aNil) [] with | .ok _ => true | _ => false) = true := by kernel_rfl
theorem bw1 : Nat.ble badsW.length 100 = true := by kernel_rfl
theorem bw2 : badsW.all isW0 = true := by kernel_rfl
end K90
end
section
set_option Elab.async false
set_option linter.all false
set_option maxRecDepth 100000
set_option maxHeartbeats 1000000
namespace K90
open PySem PV
theorem bw3 : badsW.all (fun v => isDc v || isSm 10 400 v) = true := by kernel_rfl
end K90
end
section
set_option Elab.async false
set_option linter.all false
set_option maxRecDepth 100000
set_option maxHeartbeats 1000000
namespace K90
open PySem PV
theorem bw4 : m_law_all_caught [.lst false (fW (.dic [] [])), .int 0, .dic [] []] = .ok (.bl true) := by kernel_rfl
theorem r0 : ∃ bads, iLst (mCall m_law_bad_worlds aNil) [] = .ok bads ∧ RefOk 0 (fun bad => [.box (.clo "next_by") [bad, .non, .non, .non], .box (.clo "draws_to") [bad, .non, .non, .non]]) bads := by
  refine ⟨badsW, ?_, Nat.le_of_ble_eq_true bw1, fun bad hb => ?_⟩
  · have e := bw0
    unfold badsW
    split at e
    · next h => rw [h]
    · cases e
  · have h1 := List.all_eq_true.mp bw2 bad hb
    have h2 := List.all_eq_true.mp bw3 bad hb
    unfold isW0 at h1
    simp only [Bool.and_eq_true] at h1
    obtain ⟨⟨⟨a, b⟩, c⟩, d⟩ := h1
    have hf := frB_ok bad a
    have hw : m_is_world_by [bad] = .ok (.bl false) := by
      split at d
      · assumption
      · cases d
    refine ⟨b, ?_⟩
    rw [Bool.or_eq_true] at h2
    rcases h2 with h2 | h2
    · rw [isDc_ok h2]
      exact bw4
    · refine all_caught_ok (by decide) (isSm_ok h2) (by omega) hf (by simp) fun x hx => ?_
      have f4 : fzL [bad, .non, .non, .non] = [bad, .non, .non, .non] := by simp [fzL, hf, fz]
      have n4 : noBxL [bad, .non, .non, .non] = true := by simp [noBxL, c, noBx]
      have fb : ∀ x : String, fz (.box (.clo x) [bad, .non, .non, .non]) = .box (.clo x) [bad, .non, .non, .non] := fun x => by
        unfold fz
        rw [f4]
      simp only [List.mem_cons, List.not_mem_nil, or_false] at hx
      rcases hx with rfl | rfl
      · exact ⟨fb _, caught_world (by rw [clo_next rfl n4]; exact next_world hf hw) hf⟩
      · exact ⟨fb _, caught_world (by rw [clo_to rfl n4]; exact to_world hf hw) hf⟩
end K90
end
section
set_option Elab.async false
set_option linter.all false
set_option maxRecDepth 100000
set_option maxHeartbeats 1000000
namespace K90
open PySem PV
theorem nb_all : ∀ {ds : List D}, (∀ d ∈ ds, noBx d = true) → noBxL ds = true
  | [], _ => rfl
  | d :: ds, h => by
    unfold noBxL
    rw [h d List.mem_cons_self, nb_all fun x hx => h x (List.mem_cons_of_mem _ hx)]
    rfl
theorem nb_world (wd : List (List Dd)) : noBx (worldD false wd) = true := by
  have h1 : ∀ s : Nat, ∀ ps : List Nat, noBxL (ps.map (low s)) = true := fun s ps => nb_all fun d hd => by
    obtain ⟨p, _, rfl⟩ := List.mem_map.mp hd
    rfl
  have h2 : ∀ dd : Dd, noBx (deedD false dd) = true := fun dd => by
    show (noBx (low dd.und dd.top) && (noBxL (dd.ps.map (low dd.ps.sum)) && true)) = true
    rw [h1]
    rfl
  have h3 : ∀ pl : List Dd, noBx (placeD false pl) = true := fun pl => nb_all fun d hd => by
    obtain ⟨p, _, rfl⟩ := List.mem_map.mp hd
    exact h2 p
  have h4 : noBxL (wd.map (placeD false)) = true := nb_all fun d hd => by
    obtain ⟨p, _, rfl⟩ := List.mem_map.mp hd
    exact h3 p
  show (noBx (.str "world") && (noBxL (wd.map (placeD false)) && true)) = true
  rw [h4]
  rfl
theorem next_place {wd : List (List Dd)} {v x y : D} (hw : WdOk 5 wd) (hv : fz v = v) (h : m_check_place [worldD false wd, v] = .ex "InvalidPlace" v) : m_next_by [worldD false wd, v, x, y] = .ex "InvalidPlace" v := by
  have c1 := check_world_ok hw
  unfold m_next_by b_next_by
  simp [runF, outF, ent, sSeq, sAsg, sRet, sIf, sPar, sDrop, sNil, thnE, toF, bName, pre, PV.bin, mCb, aCons, aNil, mTup, mLst, mCall, rdV, mvV, cI, cB, cS, cN, tst, asB, mNot, mAnd, mOr, vAnd, vOr, vNot, vIf, R.bind_ok, R.bind_ex, R.bind_fail, ofO, fz, fzL, noFz, noFzL, frzA, unsA, onI, fAdd, fSub, fNeg, mNeg, fInt, fz_world, c1, hv, h]
theorem to_place {wd : List (List Dd)} {v x y : D} (hw : WdOk 5 wd) (hv : fz v = v) (h : m_check_place [worldD false wd, v] = .ex "InvalidPlace" v) : m_draws_to [worldD false wd, v, x, y] = .ex "InvalidPlace" v := by
  have c1 := check_world_ok hw
  unfold m_draws_to b_draws_to
  simp [runF, outF, ent, sSeq, sAsg, sRet, sIf, sPar, sDrop, sNil, thnE, toF, bName, pre, PV.bin, mCb, aCons, aNil, mTup, mLst, mCall, rdV, mvV, cI, cB, cS, cN, tst, asB, mNot, mAnd, mOr, vAnd, vOr, vNot, vIf, R.bind_ok, R.bind_ex, R.bind_fail, ofO, fz, fzL, noFz, noFzL, frzA, unsA, onI, fAdd, fSub, fNeg, mNeg, fInt, fz_world, c1, hv, h]
theorem first {wd : List (List Dd)} (hw : WdOk 5 wd) : ∃ pl dd, wd[0]? = some pl ∧ pl[0]? = some dd ∧ PlOk wd.length pl := by
  have l0 := hw.l0
  have e : wd[0]? = some (wd[0]'(by omega)) := List.getElem?_eq_getElem _
  have ok := hw.ok _ (List.mem_of_getElem? e)
  have l := ok.l0
  exact ⟨_, _, e, List.getElem?_eq_getElem (by omega), ok⟩
theorem next_deed {wd : List (List Dd)} {v y : D} (hw : WdOk 5 wd) (hv : fz v = v) (h : m_check_deed [worldD false wd, .int 0, v] = .ex "InvalidDeed" v) : m_next_by [worldD false wd, .int 0, v, y] = .ex "InvalidDeed" v := by
  have c1 := check_world_ok hw
  have c2 : m_check_place [worldD false wd, .int 0] = .ok .non := check_place_ok (p := 0) (by have := hw.l0; omega)
  unfold m_next_by b_next_by
  simp [runF, outF, ent, sSeq, sAsg, sRet, sIf, sPar, sDrop, sNil, thnE, toF, bName, pre, PV.bin, mCb, aCons, aNil, mTup, mLst, mCall, rdV, mvV, cI, cB, cS, cN, tst, asB, mNot, mAnd, mOr, vAnd, vOr, vNot, vIf, R.bind_ok, R.bind_ex, R.bind_fail, ofO, fz, fzL, noFz, noFzL, frzA, unsA, onI, fAdd, fSub, fNeg, mNeg, fInt, fz_world, c1, c2, hv, h]
theorem to_deed {wd : List (List Dd)} {v y : D} (hw : WdOk 5 wd) (hv : fz v = v) (h : m_check_deed [worldD false wd, .int 0, v] = .ex "InvalidDeed" v) : m_draws_to [worldD false wd, .int 0, v, y] = .ex "InvalidDeed" v := by
  have c1 := check_world_ok hw
  have c2 : m_check_place [worldD false wd, .int 0] = .ok .non := check_place_ok (p := 0) (by have := hw.l0; omega)
  unfold m_draws_to b_draws_to
  simp [runF, outF, ent, sSeq, sAsg, sRet, sIf, sPar, sDrop, sNil, thnE, toF, bName, pre, PV.bin, mCb, aCons, aNil, mTup, mLst, mCall, rdV, mvV, cI, cB, cS, cN, tst, asB, mNot, mAnd, mOr, vAnd, vOr, vNot, vIf, R.bind_ok, R.bind_ex, R.bind_fail, ofO, fz, fzL, noFz, noFzL, frzA, unsA, onI, fAdd, fSub, fNeg, mNeg, fInt, fz_world, c1, c2, hv, h]
theorem to_late {wd : List (List Dd)} {v : D} (hw : WdOk 5 wd) (hv : fz v = v) (h : m_check_place [worldD false wd, v] = .ex "InvalidPlace" v) : m_draws_to [worldD false wd, .int 0, .int 0, v] = .ex "InvalidPlace" v := by
  obtain ⟨pl, dd, h1, h2, ok⟩ := first hw
  have c1 := check_world_ok hw
  have c2 : m_check_place [worldD false wd, .int 0] = .ok .non := check_place_ok (p := 0) (by have := hw.l0; omega)
  have c3 : m_check_deed [worldD false wd, .int 0, .int 0] = .ok .non := check_deed_ok (p := 0) (d := 0) h1 (by have := ok.l0; omega)
  unfold m_draws_to b_draws_to
  simp [runF, outF, ent, sSeq, sAsg, sRet, sIf, sPar, sDrop, sNil, thnE, toF, bName, pre, PV.bin, mCb, aCons, aNil, mTup, mLst, mCall, rdV, mvV, cI, cB, cS, cN, tst, asB, mNot, mAnd, mOr, vAnd, vOr, vNot, vIf, R.bind_ok, R.bind_ex, R.bind_fail, ofO, fz, fzL, noFz, noFzL, frzA, unsA, onI, fAdd, fSub, fNeg, mNeg, fInt, fz_world, c1, c2, c3, hv, h]
theorem next_draw {wd : List (List Dd)} {v : D} (hw : WdOk 5 wd) (hv : fz v = v) (h : m_is_draw [v] = .ok (.bl false)) : m_next_by [worldD false wd, .int 0, .int 0, v] = .ex "InvalidNumber" v := by
  obtain ⟨pl, dd, h1, h2, ok⟩ := first hw
  have c1 := check_world_ok hw
  have c2 : m_check_place [worldD false wd, .int 0] = .ok .non := check_place_ok (p := 0) (by have := hw.l0; omega)
  have c3 : m_check_deed [worldD false wd, .int 0, .int 0] = .ok .non := check_deed_ok (p := 0) (d := 0) h1 (by have := ok.l0; omega)
  have c4 := check_draw_no hv h
  unfold m_next_by b_next_by
  simp [runF, outF, ent, sSeq, sAsg, sRet, sIf, sPar, sDrop, sNil, thnE, toF, bName, pre, PV.bin, mCb, aCons, aNil, mTup, mLst, mCall, rdV, mvV, cI, cB, cS, cN, tst, asB, mNot, mAnd, mOr, vAnd, vOr, vNot, vIf, R.bind_ok, R.bind_ex, R.bind_fail, ofO, fz, fzL, noFz, noFzL, frzA, unsA, onI, fAdd, fSub, fNeg, mNeg, fInt, fz_world, c1, c2, c3, c4, hv]
/-- what is no place or deed -/
def badsN (n : Nat) : List D := [.non, .int (-1), .int n, .bl true, .str "0", .lst false [.int 0], .tup [.int 0]]
theorem sm_of {n w : Nat} {d : D} (h1 : plD d = true) (h2 : (er d).canLay0 = true) (h3 : (er d).depth ≤ n) (h4 : (er d).showable = true) (h5 : (er d).leavesShort 13 = true) (h6 : (er d).weight ≤ w) (h7 : PyData.strOk (er d).shown = true) : Sm n w d := ⟨h1, h2, h3, h4, h5, h6, h7⟩
theorem badsN_ok {n : Nat} (hn : n < 25) : ∀ v ∈ badsN n, fz v = v ∧ noOw v = true ∧ noBx v = true ∧ Sm 1 60 v := fun v hv => by
  simp only [badsN, List.mem_cons, List.not_mem_nil, or_false] at hv
  rcases hv with rfl | rfl | rfl | rfl | rfl | rfl | rfl
  · exact ⟨rfl, rfl, rfl, sm_of (by decide +kernel) (by decide +kernel) (by decide +kernel) (by decide +kernel) (by decide +kernel) (by decide +kernel) (by decide +kernel)⟩
  · exact ⟨rfl, rfl, rfl, sm_of (by decide +kernel) (by decide +kernel) (by decide +kernel) (by decide +kernel) (by decide +kernel) (by decide +kernel) (by decide +kernel)⟩
  · exact ⟨rfl, rfl, rfl, (sm_int hn).mono (by omega) (by omega)⟩
  · exact ⟨rfl, rfl, rfl, sm_of (by decide +kernel) (by decide +kernel) (by decide +kernel) (by decide +kernel) (by decide +kernel) (by decide +kernel) (by decide +kernel)⟩
  · exact ⟨rfl, rfl, rfl, sm_of (by decide +kernel) (by decide +kernel) (by decide +kernel) (by decide +kernel) (by decide +kernel) (by decide +kernel) (by decide +kernel)⟩
  · exact ⟨rfl, rfl, rfl, sm_of (by decide +kernel) (by decide +kernel) (by decide +kernel) (by decide +kernel) (by decide +kernel) (by decide +kernel) (by decide +kernel)⟩
  · exact ⟨rfl, rfl, rfl, sm_of (by decide +kernel) (by decide +kernel) (by decide +kernel) (by decide +kernel) (by decide +kernel) (by decide +kernel) (by decide +kernel)⟩
theorem bad_place {wd : List (List Dd)} : ∀ v ∈ badsN wd.length, m_check_place [worldD false wd, v] = .ex "InvalidPlace" v := fun v hv => by
  simp only [badsN, List.mem_cons, List.not_mem_nil, or_false] at hv
  rcases hv with rfl | rfl | rfl | rfl | rfl | rfl | rfl
  · exact check_place_no rfl whole_non
  · exact check_place_int (by omega)
  · exact check_place_int (by omega)
  · exact check_place_no rfl (whole_bl _)
  · exact check_place_no rfl (whole_str _)
  · exact check_place_no rfl (whole_lst _ _)
  · exact check_place_no rfl (whole_tup _)
theorem bad_deed {wd : List (List Dd)} {pl : List Dd} (hp : wd[0]? = some pl) : ∀ v ∈ badsN pl.length, m_check_deed [worldD false wd, .int 0, v] = .ex "InvalidDeed" v := fun v hv => by
  simp only [badsN, List.mem_cons, List.not_mem_nil, or_false] at hv
  rcases hv with rfl | rfl | rfl | rfl | rfl | rfl | rfl
  · exact check_deed_no rfl whole_non
  · exact check_deed_int (p := 0) hp (by omega)
  · exact check_deed_int (p := 0) hp (by omega)
  · exact check_deed_no rfl (whole_bl _)
  · exact check_deed_no rfl (whole_str _)
  · exact check_deed_no rfl (whole_lst _ _)
  · exact check_deed_no rfl (whole_tup _)
theorem nb4 {a b c d : D} (h1 : noBx a = true) (h2 : noBx b = true) (h3 : noBx c = true) (h4 : noBx d = true) : noBxL [a, b, c, d] = true := by
  simp [noBxL, h1, h2, h3, h4]
theorem fz_clo {x : String} {ds : List D} (h : fzL ds = ds) : fz (.box (.clo x) ds) = .box (.clo x) ds := by
  unfold fz
  rw [h]
theorem r1 (wd : List (List Dd)) (hw : WdOk 5 wd) (x y : Option D) : ∃ bads, i_refusals_1 [some (worldD false wd), x, y] = .ok bads ∧ RefOk 3 (fun bad => [.box (.clo "next_by") [worldD false wd, bad, .non, .non], .box (.clo "draws_to") [worldD false wd, bad, .non, .non], .box (.clo "draws_to") [worldD false wd, .int 0, .int 0, bad]]) bads := by
  have hl := hw.l1
  refine ⟨badsN wd.length, ?_, by unfold badsN; simp, fun v hv => ?_⟩
  · unfold i_refusals_1 worldD badsN
    simp [runF, outF, ent, sSeq, sAsg, sRet, sIf, sPar, sDrop, sNil, thnE, toF, bName, pre, PV.bin, mCb, aCons, aNil, mTup, mLst, mCall, rdV, mvV, cI, cB, cS, cN, tst, asB, mNot, mAnd, mOr, vAnd, vOr, vNot, vIf, R.bind_ok, R.bind_ex, R.bind_fail, ofO, fz, fzL, noFz, noFzL, frzA, unsA, onI, fAdd, fSub, fNeg, mNeg, fInt, iLst, ix1, fzL_places, lenL, mkL_ok, mkT_ok]
  · obtain ⟨f, o, b, sm⟩ := badsN_ok (n := wd.length) (by omega) v hv
    have bp := bad_place v hv
    refine ⟨o, all_caught_ok (w := 60) (by decide) (sm.mono (by omega) (Nat.le_refl _)) (by omega) f (by simp) fun c hc => ?_⟩
    simp only [List.mem_cons, List.not_mem_nil, or_false] at hc
    rcases hc with rfl | rfl | rfl
    · exact ⟨fz_clo (by simp [fzL, fz, fz_world, f]), caught_place (by rw [clo_next rfl (nb4 (nb_world wd) b rfl rfl)]; exact next_place hw f bp) f⟩
    · exact ⟨fz_clo (by simp [fzL, fz, fz_world, f]), caught_place (by rw [clo_to rfl (nb4 (nb_world wd) b rfl rfl)]; exact to_place hw f bp) f⟩
    · exact ⟨fz_clo (by simp [fzL, fz, fz_world, f]), caught_place (by rw [clo_to rfl (nb4 (nb_world wd) rfl rfl b)]; exact to_late hw f bp) f⟩
theorem r2 (wd : List (List Dd)) (hw : WdOk 5 wd) (x y : Option D) : ∃ bads, i_refusals_2 [some (worldD false wd), x, y] = .ok bads ∧ RefOk 8 (fun bad => [.box (.clo "next_by") [worldD false wd, .int 0, bad, .non], .box (.clo "draws_to") [worldD false wd, .int 0, bad, .non]]) bads := by
  have hl := hw.l1
  obtain ⟨pl, dd, h1, h2, ok⟩ := first hw
  have e : fIx (.lst false (wd.map (placeD false))) (.int 0) = some (.lst false (pl.map (deedD false))) := ixM (i := 0) h1
  refine ⟨badsN pl.length, ?_, by unfold badsN; simp, fun v hv => ?_⟩
  · unfold i_refusals_2 worldD badsN
    simp [runF, outF, ent, sSeq, sAsg, sRet, sIf, sPar, sDrop, sNil, thnE, toF, bName, pre, PV.bin, mCb, aCons, aNil, mTup, mLst, mCall, rdV, mvV, cI, cB, cS, cN, tst, asB, mNot, mAnd, mOr, vAnd, vOr, vNot, vIf, R.bind_ok, R.bind_ex, R.bind_fail, ofO, fz, fzL, noFz, noFzL, frzA, unsA, onI, fAdd, fSub, fNeg, mNeg, fInt, iLst, ix1, fzL_places, fzL_deeds, e, lenL, mkL_ok, mkT_ok]
  · obtain ⟨f, o, b, sm⟩ := badsN_ok (n := pl.length) (by have := ok.l3; omega) v hv
    have bp := bad_deed h1 v hv
    refine ⟨o, all_caught_ok (w := 60) (by decide) (sm.mono (by omega) (Nat.le_refl _)) (by omega) f (by simp) fun c hc => ?_⟩
    simp only [List.mem_cons, List.not_mem_nil, or_false] at hc
    rcases hc with rfl | rfl
    · exact ⟨fz_clo (by simp [fzL, fz, fz_world, f]), caught_deed (by rw [clo_next rfl (nb4 (nb_world wd) rfl b rfl)]; exact next_deed hw f bp) f⟩
    · exact ⟨fz_clo (by simp [fzL, fz, fz_world, f]), caught_deed (by rw [clo_to rfl (nb4 (nb_world wd) rfl b rfl)]; exact to_deed hw f bp) f⟩
def badsR : List D := [.non, .int 0, .int 1, .tup [.int 1, .int 1], .tup [.int (-1), .int 2], .tup [.int 2, .int 4], .tup [.int 1, .int 0], .lst false [.int 1, .int 2], .tup [.bl true, .int 2], .tup [.int 3, .int 2]]
def okR (v : D) : Bool := plD v && (er v).canLay0 && Nat.ble (er v).depth 1 && (er v).showable && (er v).leavesShort 13 && Nat.ble (er v).weight 60 && PyData.strOk (er v).shown && noOw v && noBx v && (match m_is_draw [v] with | .ok (.bl false) => true | _ => false)
theorem badsR_ok : ∀ v ∈ badsR, fz v = v ∧ noOw v = true ∧ noBx v = true ∧ Sm 1 60 v ∧ m_is_draw [v] = .ok (.bl false) := fun v hv => by
  have h : badsR.all okR = true := by kernel_rfl
  have h1 := List.all_eq_true.mp h v hv
  unfold okR at h1
  simp only [Bool.and_eq_true] at h1
  obtain ⟨⟨⟨⟨⟨⟨⟨⟨⟨a, b⟩, c⟩, d⟩, e⟩, f⟩, g⟩, i⟩, j⟩, k⟩ := h1
  refine ⟨?_, i, j, ⟨a, b, Nat.le_of_ble_eq_true c, d, e, Nat.le_of_ble_eq_true f, g⟩, ?_⟩
  · simp only [badsR, List.mem_cons, List.not_mem_nil, or_false] at hv
    rcases hv with rfl | rfl | rfl | rfl | rfl | rfl | rfl | rfl | rfl | rfl <;> rfl
  · split at k
    · assumption
    · cases k
theorem r3 (wd : List (List Dd)) (hw : WdOk 5 wd) : ∃ bads, i_refusals_3 [] = .ok bads ∧ RefOk 5 (fun bad => [.box (.clo "next_by") [worldD false wd, .int 0, .int 0, bad]]) bads := by
  refine ⟨badsR, by kernel_rfl, by unfold badsR; simp, fun v hv => ?_⟩
  obtain ⟨f, o, b, sm, dr⟩ := badsR_ok v hv
  refine ⟨o, all_caught_ok (w := 60) (by decide) (sm.mono (by omega) (Nat.le_refl _)) (by omega) f (by simp) fun c hc => ?_⟩
  simp only [List.mem_cons, List.not_mem_nil, or_false] at hc
  subst hc
  exact ⟨fz_clo (by simp [fzL, fz, fz_world, f]), caught_number (by rw [clo_next rfl (nb4 (nb_world wd) rfl rfl b)]; exact next_draw hw f dr) f⟩
theorem plain : Plain := ⟨mx, fun t u _ h1 h2 => law_lowest t u h1 (Nat.lt_of_le_of_lt h2 (by decide)), fun r _ => law_lowest r 97 (by decide) (by decide), h0, h1, h3, h4, rp, r0, r1, r2, r3⟩
end K90
end
set_option Elab.async false
set_option linter.all false
open PySem PySem.W PySem.Calls PyProof.Rows
set_option maxRecDepth 100000 in
set_option maxHeartbeats 0 in
theorem PySem.Challenge.cw_deedchances_k90_whole_where_draws_lead_holds : PySem.Challenge.rw_deedchances_k90_whole_where_draws_lead.Holds := by
  w_on; o_law
  refine HandSHeadRun.head_any (r := OpenLaw.row PySem.Challenge.rw_deedchances_k90_whole_where_draws_lead) (q := view (OpenLaw.row PySem.Challenge.rw_deedchances_k90_whole_where_draws_lead).prog [60]) (H := K90.hk) (ob := K90.ob) (M := 6000) (loose := K90.names) (d := HandSHeadRun.topDef (OpenLaw.row PySem.Challenge.rw_deedchances_k90_whole_where_draws_lead).prog 60) (kwd := []) K90.ob_eq
    (by kernel_rfl) (fun s => by kernel_rfl) K90.run (by kernel_rfl) (by kernel_rfl) (by kernel_rfl) (by rfl) (by first | assumption | decide +kernel) (by decide +kernel) ⟨rfl, rfl, rfl, rfl, rfl, by decide +kernel⟩ ?hw ?hc
  case hw => w_witness2
  case hc =>
    refine PV.walk_ofG (l := PySem.Challenge.rw_deedchances_k90_whole_where_draws_lead) (n := 63) (k := 16) (x := "script") rfl (by decide) (by kernel_rfl) ⟨rfl, by decide, by decide⟩ ?F
    intro w mg fa h Y G hmg0
    obtain ⟨K, KX, c⟩ := Y
    have hmg : mg ("law" : PySem.Str) = some (.ref fa) := by
      have e : (HandSHeadRun.topDef (OpenLaw.row PySem.Challenge.rw_deedchances_k90_whole_where_draws_lead).prog 60).name = ("law" : PySem.Str) := by kernel_rfl
      rw [← e]
      exact hmg0
    exact ⟨K, KX, K90.lawG K90.plain KX G hmg c⟩
