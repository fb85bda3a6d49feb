import PyProof.Rows.All
import Wide.All
import OpenK.AllK
import Wide.FinOn
import HandS.ForMost
import HandS.ForExc
import HandS.Evl
import HandS.IsInst
import HandS.ExcValue
import HandS.Lambda
import HandS.TupAny
import HandS.SortInts
import HandS.Wide
import HandS.Conv
import HandS.Style
import HandS.EndTab
import HandS.ExcIs
import KE.DataEq
import KE.SortData
import HandS.NoneIn
import HandS.ExcOwn
import KE.KeyNested
import KE.KDictKeyed
import KE.KDictCopyH
import KE.KDictDisplayH
import KE.KDictSum
import HandS.TupLen
import KE.GoesMore
import PySem.Challenge.RW_whatstays_k01_whole_groups
import HandS.Strs
import HandS.ExcField
import KE.KExcIs
import KE.DatumOrd
import HandS.CallLocal
import KE.KExcSuper
import HandS.ExcInit
import KE.KDictPairs
import HandS.HeadHook1
import HandS.Head0
import HandS.Head1
import HandS.Head2
import HandS.HeadEnd
import HandS.HeadHook2
import HandS.HeadHook3
import HandS.HeadHook4
import HandS.Ends
import HandS.WordsExc
import HandS.Defaults
set_option Elab.async false
set_option linter.all false
set_option maxRecDepth 100000
set_option maxHeartbeats 0
section
/-! PW: statements of Python read over plain data, the heap hidden. 1: data, states, expressions. -/
namespace L2.Px
open PySem PySem.Spec
open PyProof.Rows

/-! ### data -/
/-- what flies: an own exception class, or one with a field that holds a number -/
inductive EC where
  | pl (C : Addr) | fd (C : Addr) (f : Str) (n : Int)
instance : Coe Addr EC := ⟨.pl⟩
def EC.cls : EC → Addr
  | .pl C => C
  | .fd C _ _ => C
inductive D where
  | non | bl (b : Bool) | int (i : Int) | str (x : Str)
  | tup (xs : List D) | lst (xs : List D)
  | dct | dix | obj (a : Addr) | ty (n : String) | exc (C : EC)
  | scr (ns : List Int)      -- the script, or another list of ints that is read alone
  | ntup (xs : List D)       -- a tuple of which the very object is known
  | dic (ks vs : List D)     -- a dict whose keys are tuples

/-- the world of the run -/
class Wld where
  P : Program
  w : World
variable [Wld]
abbrev NK : Type := PySem.NestedKey
mutual
def D.nk : D → Option NK
  | .non => some .none
  | .bl b => some (.num (if b then 1 else 0))
  | .int i => some (.num i)
  | .str x => some (.text x)
  | .tup ds => (D.nkA ds).map NestedKey.tup
  | _ => none
def D.nkA : List D → Option (List NK)
  | [] => some []
  | d :: ds => match d.nk, D.nkA ds with
    | some k, some ks => some (k :: ks)
    | _, _ => none
end
/-- what is known of a dict with tuple keys at a -/
def DXin (a : Addr) (xs : List (NK × Addr × V)) (h : Heap) : Prop := (a == sysModules) = false ∧ xs.length ≤ sizeLine ∧ (xs.map (·.1)).Nodup ∧ (∀ x ∈ xs, x.1.depth ≤ 8) ∧ ∃ (ys : List (NK × Addr × Value)) (o : Obj) (es : Array DictEntry) (ep : Nat),
  Paired (fun (p : NK × Addr × V) (q : NK × Addr × Value) => p.1 = q.1 ∧ p.2.1 = q.2.1 ∧ RelV p.2.2 q.2.2) xs ys ∧ h.get? a = some o ∧ o.ExactDict ∧ o.data = .dict es ep ∧ es.toList = ys.map (entryOfKey (nestedKind Wld.P Wld.w))
def DX (a : Addr) (xs : List (NK × Addr × V)) : HO := .ext (DXin a xs)

abbrev Ex (H H' : Hp) : Prop := ∀ a o, H a = some o → H' a = some o
theorem Ex.refl (H : Hp) : Ex H H := fun _ _ h => h
theorem Ex.trans {H H1 H2 : Hp} (a : Ex H H1) (b : Ex H1 H2) : Ex H H2 := fun x o h => b x o (a x o h)

/-- an exception object of the class cls at a, raised or not -/
def ExD (cls : Value) (d : Option Addr) (a : Addr) : HO := .ext fun h => ∃ (oe : Obj) (vs : Array Value), h.get? a = some oe ∧ Zc cls d oe ∧ oe.data = .fields vs
/-- a dict of which the class alone is known -/
def DO (a : Addr) : HO := .ext fun h => ∃ o : Obj, h.get? a = some o ∧ o.cls = .type "dict"
/-- a kept exception, of data -/
def EC.at (B : Hp) (a : Addr) : EC → Prop
  | .pl C => B a = some (ExD (.ref C) none a)
  | .fd C f n => ∃ dd, B a = some (ExD (.ref C) (some dd) a) ∧ B dd = some (.xd [(f, .int n)])
/-- an exception that leaves -/
def EC.go (E : XK) (B H : Hp) : EC → Prop
  | .pl C => E (.ref C) none H
  | .fd C f n => ∀ dd, B dd = some (.xd [(f, .int n)]) → E (.ref C) (some dd) H
mutual
inductive Rp (K : PySem.W.Frag) (B : Hp) : V → D → Prop
  | non : Rp K B .non .non
  | bl (b : Bool) : Rp K B (.bl b) (.bl b)
  | int (i : Int) : Rp K B (.int i) (.int i)
  | str (x : Str) : Rp K B (.str x) (.str x)
  | tup {a : Addr} {xs : List V} {ds : List D} : Rd B a (.tup xs) → RpA K B xs ds → Rp K B (.ref a) (.tup ds)
  | ntup {a : Addr} {xs : List V} {ds : List D} {o : Obj} : o.dict = none → B a = some (.frz o (.tup xs)) → RpA K B xs ds → Rp K B (.ref a) (.ntup ds)
  | lst {a : Addr} {xs : List V} {ds : List D} : B a = some (.lst xs) → RpA K B xs ds → Rp K B (.ref a) (.lst ds)
  | scr {a : Addr} {ns : List Int} : SqL K B a (ns.map V.int) → Rp K B (.ref a) (.scr ns)
  | dct {a : Addr} {kvs : List (Key × V)} : B a = some (.dK kvs) → Rp K B (.ref a) .dct
  | dix {a : Addr} : B a = some (DO a) → Rp K B (.ref a) .dix
  | obj (a : Addr) : Rp K B (.ref a) (.obj a)
  | ty (n : String) : Rp K B (.ty n) (.ty n)
  | exc {a : Addr} {C : EC} : C.at B a → Rp K B (.ref a) (.exc C)
  | dic {a : Addr} {xs : List (NK × Addr × V)} {ks vs : List D} : B a = some (DX a xs) → ks.map D.nk = xs.map (fun x => some x.1) → RpA K B (xs.map fun x => V.ref x.2.1) ks → RpA K B (xs.map (·.2.2)) vs → Rp K B (.ref a) (.dic ks vs)
inductive RpA (K : PySem.W.Frag) (B : Hp) : List V → List D → Prop
  | nil : RpA K B [] []
  | cons {v : V} {vs : List V} {d : D} {ds : List D} : Rp K B v d → RpA K B vs ds → RpA K B (v :: vs) (d :: ds)
end
theorem EC.at.mono {B B' : Hp} {a : Addr} (e : Ex B B') : ∀ {C : EC}, C.at B a → C.at B' a
  | .pl _, h => e _ _ h
  | .fd _ _ _, ⟨dd, h1, h2⟩ => ⟨dd, e _ _ h1, e _ _ h2⟩
theorem rd_ex {H H' : Hp} {a : Addr} {u : HO} (e : Ex H H') (h : Rd H a u) : Rd H' a u := h.imp (fun qw => e _ _ qw) fun ⟨o, qw⟩ => ⟨o, e _ _ qw⟩
theorem ex_l {K : PySem.W.Frag} {H H' : Hp} {a : Addr} {xs : List V} (e : Ex H H') (h : SqL K H a xs) : SqL K H' a xs := Evl.ex_l e h
theorem ex_t {K : PySem.W.Frag} {H H' : Hp} {a : Addr} {xs : List V} (e : Ex H H') (h : SqT K H a xs) : SqT K H' a xs := Evl.ex_t e h
mutual
theorem Rp.mono {K : PySem.W.Frag} {B B' : Hp} (e : Ex B B') : ∀ (d : D) (v : V), Rp K B v d → Rp K B' v d
  | .non, _, h => by cases h; exact .non
  | .bl _, _, h => by cases h; exact .bl _
  | .int _, _, h => by cases h; exact .int _
  | .str _, _, h => by cases h; exact .str _
  | .tup ds, _, h => by
    cases h with
    | tup hsa ha => exact .tup (rd_ex e hsa) (RpA.mono e ds _ ha)
  | .ntup ds, _, h => by
    cases h with
    | ntup h0 hsa ha => exact .ntup h0 (e _ _ hsa) (RpA.mono e ds _ ha)
  | .lst ds, _, h => by
    cases h with
    | lst hsa ha => exact .lst (e _ _ hsa) (RpA.mono e ds _ ha)
  | .scr _, _, h => by
    cases h with
    | scr qw => exact .scr (ex_l e qw)
  | .dct, _, h => by
    cases h with
    | dct qw => exact .dct (e _ _ qw)
  | .dix, _, h => by
    cases h with
    | dix qw => exact .dix (e _ _ qw)
  | .obj _, _, h => by cases h; exact .obj _
  | .ty _, _, h => by cases h; exact .ty _
  | .exc _, _, h => by
    cases h with
    | exc qw => exact .exc (qw.mono e)
  | .dic ks vs, _, h => by
    cases h with
    | dic qw hn hk hv => exact .dic (e _ _ qw) hn (RpA.mono e ks _ hk) (RpA.mono e vs _ hv)
theorem RpA.mono {K : PySem.W.Frag} {B B' : Hp} (e : Ex B B') : ∀ (ds : List D) (vs : List V), RpA K B vs ds → RpA K B' vs ds
  | [], _, h => by cases h; exact .nil
  | d :: ds, _, h => by
    cases h with
    | cons ha1 h2 => exact .cons (Rp.mono e d _ ha1) (RpA.mono e ds _ h2)
end
theorem RpA.len {K : PySem.W.Frag} {B : Hp} : ∀ {vs : List V} {ds : List D}, RpA K B vs ds → vs.length = ds.length
  | _, _, .nil => rfl
  | _, _, .cons _ t => congrArg (· + 1) (RpA.len t)
theorem RpA.get {K : PySem.W.Frag} {B : Hp} : ∀ {vs : List V} {ds : List D} {i : Nat} {d : D}, RpA K B vs ds → ds[i]? = some d → ∃ v, vs[i]? = some v ∧ Rp K B v d
  | _, _, _, _, .nil, e => by simp at e
  | _, _, 0, _, .cons r _, e => by simp at e; subst e; exact ⟨_, rfl, r⟩
  | _, _, i + 1, d, .cons _ t, e => by
    obtain ⟨u, ha1, h2⟩ := RpA.get (i := i) (d := d) t (by simpa using e)
    exact ⟨u, by simpa using ha1, h2⟩
theorem RpA.getV {K : PySem.W.Frag} {B : Hp} : ∀ {vs : List V} {ds : List D} {i : Nat} {v : V}, RpA K B vs ds → vs[i]? = some v → ∃ d, ds[i]? = some d ∧ Rp K B v d
  | _, _, _, _, .nil, e => by simp at e
  | _, _, 0, _, .cons r _, e => by simp at e; subst e; exact ⟨_, rfl, r⟩
  | _, _, i + 1, v, .cons _ t, e => by
    obtain ⟨u, ha1, h2⟩ := RpA.getV (i := i) (v := v) t (by simpa using e)
    exact ⟨u, by simpa using ha1, h2⟩
theorem RpA.app {K : PySem.W.Frag} {B : Hp} : ∀ {vs ws : List V} {ds es : List D}, RpA K B vs ds → RpA K B ws es → RpA K B (vs ++ ws) (ds ++ es)
  | _, _, _, _, .nil, sh => sh
  | _, _, _, _, .cons r t, sh => .cons r (RpA.app t sh)
theorem RpA.take {K : PySem.W.Frag} {B : Hp} : ∀ {vs : List V} {ds : List D} (n : Nat), RpA K B vs ds → RpA K B (vs.take n) (ds.take n)
  | _, _, 0, _ => .nil
  | _, _, _ + 1, .nil => .nil
  | _, _, n + 1, .cons r t => .cons r (RpA.take n t)
theorem RpA.drop {K : PySem.W.Frag} {B : Hp} : ∀ {vs : List V} {ds : List D} (n : Nat), RpA K B vs ds → RpA K B (vs.drop n) (ds.drop n)
  | _, _, 0, r => r
  | _, _, _ + 1, .nil => .nil
  | _, _, n + 1, .cons _ t => RpA.drop n t
theorem RpA.set {K : PySem.W.Frag} {B : Hp} {v : V} {d : D} (r : Rp K B v d) : ∀ {vs : List V} {ds : List D} (i : Nat), RpA K B vs ds → RpA K B (vs.set i v) (ds.set i d)
  | _, _, _, .nil => .nil
  | _, _, 0, .cons _ t => .cons r t
  | _, _, i + 1, .cons qw t => .cons qw (RpA.set r i t)
theorem RpA.era {K : PySem.W.Frag} {B : Hp} : ∀ {vs : List V} {ds : List D} (i : Nat), RpA K B vs ds → RpA K B (vs.eraseIdx i) (ds.eraseIdx i)
  | _, _, _, .nil => .nil
  | _, _, 0, .cons _ t => t
  | _, _, i + 1, .cons qw t => .cons qw (RpA.era i t)
theorem RpA.ints {K : PySem.W.Frag} {B : Hp} : ∀ {ns : List Int} {vs : List V}, RpA K B vs (ns.map D.int) → vs = ns.map V.int
  | [], _, h => by cases h; rfl
  | n :: ns, _, h => by
    cases h with
    | cons ha1 h2 =>
      cases ha1
      rw [RpA.ints h2]; rfl
theorem RpA.ofInts {K : PySem.W.Frag} {B : Hp} : ∀ (ns : List Int), RpA K B (ns.map V.int) (ns.map D.int)
  | [] => .nil
  | n :: ns => .cons (.int n) (RpA.ofInts ns)

/-! ### what a slot may hold: a thing that stays, or an object of the def's own -/
inductive OD where
  | lst (ds : List D) | dK (kvs : List (Key × D)) | dT (kvs : List (List Key × D)) | dN (ks vs : List D)
inductive Sl where
  | val (d : D) | own (o : OD)
abbrev Gam := List (Option Sl)
def OdR (K : PySem.W.Frag) (B : Hp) (p : Addr) : OD → HO → Prop
  | .lst ds, o => ∃ xs, o = .lst xs ∧ RpA K B xs ds
  | .dK kvs, o => ∃ ws, o = .dK ws ∧ ws.map (·.1) = kvs.map (·.1) ∧ RpA K B (ws.map (·.2)) (kvs.map (·.2))
  | .dT kvs, o => ∃ ws, o = .dT ws ∧ ws.map (·.1) = kvs.map (·.1) ∧ RpA K B (ws.map (·.2)) (kvs.map (·.2))
  | .dN ks vs, o => ∃ xs, o = DX p xs ∧ ks.map D.nk = xs.map (fun x => some x.1) ∧ RpA K B (xs.map fun x => V.ref x.2.1) ks ∧ RpA K B (xs.map (·.2.2)) vs
theorem OdR.mono {K : PySem.W.Frag} {B B' : Hp} {p : Addr} (e : Ex B B') : ∀ {od : OD} {o : HO}, OdR K B p od o → OdR K B' p od o
  | .lst _, _, ⟨xs, h, r⟩ => ⟨xs, h, RpA.mono e _ _ r⟩
  | .dK _, _, ⟨xs, h, k, r⟩ => ⟨xs, h, k, RpA.mono e _ _ r⟩
  | .dT _, _, ⟨xs, h, k, r⟩ => ⟨xs, h, k, RpA.mono e _ _ r⟩
  | .dN _ _, _, ⟨xs, h, n, k, r⟩ => ⟨xs, h, n, RpA.mono e _ _ k, RpA.mono e _ _ r⟩

/-- the world of a def's run: what others may change (V), of which G holds; the heap at the entry, what of it is told -/
structure Cfg where
  V : Addr → Prop
  G : Hp → Prop
/-- what is not told apart by who holds it -/
def Firm : HO → Prop
  | .lst _ => False
  | .dK _ => False
  | .dT _ => False
  | .set _ _ => False
  | .ins _ _ _ => False
  | .ext φ => ∀ a xs, φ ≠ DXin a xs
  | _ => True
structure Fm where
  c : Cfg
  H0 : Hp
  B0 : Hp
/-- G hangs on what others may change, and on what is firm -/
class Cfg.Ok (c : Cfg) : Prop where
  st : ∀ H H', (∀ a, c.V a → H' a = H a) → (∀ a o, H a = some o → ¬ c.V a → Firm o → H' a = some o) → c.G H → c.G H'

def Ownd (Γ : Gam) (τ : St) (a : Addr) : Prop := ∃ (i : Nat) (od : OD), Γ[i]? = some (some (.own od)) ∧ τ[i]? = some (some (.ref a))
def SlR (K : PySem.W.Frag) (F : Fm) (B H : Hp) : Sl → V → Prop
  | .val d, v => Rp K B v d
  | .own od, v => ∃ p o, v = .ref p ∧ B p = none ∧ F.H0 p = none ∧ ¬ F.c.V p ∧ H p = some o ∧ OdR K B p od o
structure Stt (K : PySem.W.Frag) (F : Fm) (B : Hp) (Γ : Gam) (τ : St) (H : Hp) : Prop where
  fr : ∀ a o, F.H0 a = some o → ¬ F.c.V a → H a = some o
  b0 : Ex F.B0 B
  bH : ∀ a o, B a = some o → H a = some o ∧ ¬ F.c.V a
  bn : ∀ a o, B a = some o → F.B0 a = some o ∨ F.H0 a = none
  vH : ∀ a, F.c.V a → F.H0 a ≠ none
  vH' : ∀ a, F.c.V a → H a ≠ none
  g : F.c.G H
  len : Γ.length = τ.length
  sl : ∀ (i : Nat) (sh : Sl), Γ[i]? = some (some sh) → ∃ v, τ[i]? = some (some v) ∧ SlR K F B H sh v
  dj : ∀ (i j : Nat) (oi oj : OD) (p : Addr), Γ[i]? = some (some (.own oi)) → Γ[j]? = some (some (.own oj)) → τ[i]? = some (some (.ref p)) → τ[j]? = some (some (.ref p)) → i = j
structure Nxt (K : PySem.W.Frag) (F : Fm) (τ : St) (B : Hp) (Γ : Gam) (H : Hp) (B' : Hp) (Γ' : Gam) (H' : Hp) : Prop where
  st : Stt K F B' Γ' τ H'
  ex : Ex B B'
  kp : ∀ a o, H a = some o → ¬ F.c.V a → ¬ Ownd Γ τ a → H' a = some o
  ow : ∀ a, Ownd Γ' τ a → Ownd Γ τ a
  al : ∀ a, H a ≠ none → H' a ≠ none
  nb : ∀ a o, B' a = some o → B a = some o ∨ H a = none
theorem Nxt.refl {K : PySem.W.Frag} {F : Fm} {τ : St} {B : Hp} {Γ : Gam} {H : Hp} (sh : Stt K F B Γ τ H) : Nxt K F τ B Γ H B Γ H := ⟨sh, Ex.refl _, fun _ _ h _ _ => h, fun _ h => h, fun _ h => h, fun _ _ h => .inl h⟩
theorem Nxt.trans {K : PySem.W.Frag} {F : Fm} {τ : St} {B B1 B2 : Hp} {Γ Γ1 Γ2 : Gam} {H H1 H2 : Hp} (a : Nxt K F τ B Γ H B1 Γ1 H1) (b : Nxt K F τ B1 Γ1 H1 B2 Γ2 H2) : Nxt K F τ B Γ H B2 Γ2 H2 :=
  ⟨b.st, a.ex.trans b.ex, fun x o h v w => b.kp x o (a.kp x o h v w) v (fun qw => w (a.ow x qw)), fun x qw => a.ow x (b.ow x qw), fun x h => b.al x (a.al x h), fun x o h => by
    rcases b.nb x o h with zw | zw
    · exact a.nb x o zw
    · refine .inr ?_
      cases e : H x with
      | none => rfl
      | some u => exact absurd zw (a.al x (by rw [e]; exact fun qw => nomatch qw))⟩

theorem Stt.rd {K : PySem.W.Frag} {F : Fm} {τ : St} {B : Hp} {Γ : Gam} {H : Hp} (sh : Stt K F B Γ τ H) {a : Addr} {u : HO} (h : Rd B a u) : Rd H a u := h.imp (fun qw => (sh.bH _ _ qw).1) fun ⟨o, qw⟩ => ⟨o, (sh.bH _ _ qw).1⟩
theorem Stt.nv {K : PySem.W.Frag} {F : Fm} {τ : St} {B : Hp} {Γ : Gam} {H : Hp} (sh : Stt K F B Γ τ H) {p : Addr} (hp : H p = none) : ¬ F.c.V p := fun qw => sh.vH' p qw hp
theorem Stt.h0 {K : PySem.W.Frag} {F : Fm} {τ : St} {B : Hp} {Γ : Gam} {H : Hp} (sh : Stt K F B Γ τ H) {p : Addr} (hp : H p = none) : F.H0 p = none := by
  cases h : F.H0 p with
  | none => rfl
  | some o =>
    rw [sh.fr p o h (sh.nv hp)] at hp
    cases hp
theorem Stt.bnone {K : PySem.W.Frag} {F : Fm} {τ : St} {B : Hp} {Γ : Gam} {H : Hp} (sh : Stt K F B Γ τ H) {p : Addr} (hp : H p = none) : B p = none := by
  cases h : B p with
  | none => rfl
  | some o =>
    rw [(sh.bH p o h).1] at hp
    cases hp
theorem ownd_some {K : PySem.W.Frag} {F : Fm} {τ : St} {B : Hp} {Γ : Gam} {H : Hp} (sh : Stt K F B Γ τ H) {p : Addr} (h : Ownd Γ τ p) : (∃ o, H p = some o) ∧ B p = none ∧ ¬ F.c.V p ∧ F.H0 p = none := by
  obtain ⟨i, od, ha1, h2⟩ := h
  obtain ⟨v, e, p', o, rfl, b, h0, nv, hob, _⟩ := sh.sl i _ ha1
  rw [h2] at e
  cases e
  exact ⟨⟨o, hob⟩, b, nv, h0⟩
/-- a new object that stays -/
theorem Stt.frozen {K : PySem.W.Frag} {F : Fm} [F.c.Ok] {τ : St} {B : Hp} {Γ : Gam} {H : Hp} (sh : Stt K F B Γ τ H) {p : Addr} {o : HO} (hp : H p = none) : Nxt K F τ B Γ H (upd B p o) Γ (upd H p o) := by
  have hb := sh.bnone hp
  have eB : Ex B (upd B p o) := fun a u e => by
    rw [upd_ne (ne_of_none e hb)]
    exact e
  refine ⟨⟨fun a u h v => ?_, sh.b0.trans eB, fun a u h => ?_, fun a u h => ?_, sh.vH, fun a v => ?_, Cfg.Ok.st H _ (fun a v => ?_) (fun a u h _ _ => ?_) sh.g, sh.len, fun i sl h => ?_, sh.dj⟩, eB, fun a u h _ _ => ?_, fun _ h => h, fun a h => ?_, fun a u h => ?_⟩
  · rw [upd_ne (ne_of_none (sh.fr a u h v) hp)]
    exact sh.fr a u h v
  · by_cases e : a = p
    · subst e
      rw [upd_same] at h ⊢
      exact ⟨h, sh.nv hp⟩
    · rw [upd_ne e] at h ⊢
      exact sh.bH a u h
  · by_cases e : a = p
    · subst e
      exact .inr (sh.h0 hp)
    · rw [upd_ne e] at h
      exact sh.bn a u h
  · have ha1 := sh.vH' a v
    by_cases e : a = p
    · subst e
      exact absurd hp ha1
    · rw [upd_ne e]
      exact ha1
  · have ha1 := sh.vH' a v
    by_cases e : a = p
    · subst e
      exact absurd hp ha1
    · rw [upd_ne e]
  · rw [upd_ne (ne_of_none h hp)]
    exact h
  · obtain ⟨v, e, r⟩ := sh.sl i sl h
    refine ⟨v, e, ?_⟩
    cases sl with
    | val d => exact Rp.mono eB _ _ r
    | own od =>
      obtain ⟨p', o', rfl, b, h0, nv, hob, ro⟩ := r
      have ne : p' ≠ p := ne_of_none hob hp
      exact ⟨p', o', rfl, by rw [upd_ne ne]; exact b, h0, nv, by rw [upd_ne ne]; exact hob, ro.mono eB⟩
  · rw [upd_ne (ne_of_none h hp)]
    exact h
  · unfold upd
    split
    · exact fun zw => nomatch zw
    · exact h
  · by_cases e : a = p
    · subst e
      exact .inr hp
    · rw [upd_ne e] at h
      exact .inl h
/-- a new object of the def's own, not yet in a slot -/
theorem Stt.laid {K : PySem.W.Frag} {F : Fm} [F.c.Ok] {τ : St} {B : Hp} {Γ : Gam} {H : Hp} (sh : Stt K F B Γ τ H) {p : Addr} {o : HO} (hp : H p = none) : Nxt K F τ B Γ H B Γ (upd H p o) := by
  refine ⟨⟨fun a u h v => ?_, sh.b0, fun a u h => ?_, sh.bn, sh.vH, fun a v => ?_, Cfg.Ok.st H _ (fun a v => ?_) (fun a u h _ _ => ?_) sh.g, sh.len, fun i sl h => ?_, sh.dj⟩, Ex.refl _, fun a u h _ _ => ?_, fun _ h => h, fun a h => ?_, fun _ _ h => .inl h⟩
  · rw [upd_ne (ne_of_none (sh.fr a u h v) hp)]
    exact sh.fr a u h v
  · have qw := sh.bH a u h
    rw [upd_ne (ne_of_none qw.1 hp)]
    exact qw
  · have ha1 := sh.vH' a v
    by_cases e : a = p
    · subst e
      exact absurd hp ha1
    · rw [upd_ne e]
      exact ha1
  · have ha1 := sh.vH' a v
    by_cases e : a = p
    · subst e
      exact absurd hp ha1
    · rw [upd_ne e]
  · rw [upd_ne (ne_of_none h hp)]
    exact h
  · obtain ⟨v, e, r⟩ := sh.sl i sl h
    refine ⟨v, e, ?_⟩
    cases sl with
    | val d => exact r
    | own od =>
      obtain ⟨p', o', rfl, b, h0, nv, hob, ro⟩ := r
      have ne : p' ≠ p := ne_of_none hob hp
      exact ⟨p', o', rfl, b, h0, nv, by rw [upd_ne ne]; exact hob, ro⟩
  · rw [upd_ne (ne_of_none h hp)]
    exact h
  · unfold upd
    split
    · exact fun zw => nomatch zw
    · exact h

/-! ### expressions -/
def wpE (X : Cx) (e : Expr) : TE := fun τ H Q => ∀ (pq : List (Addr × Obj)) (sh : Shared), Inv X pq τ H sh → wpAny (model X.prog X.w) X.A (eval e X.env) (EP X pq τ Q) X.xe sh
theorem pe_wp {X : Cx} {e : Expr} : PE X e (wpE X e) := ⟨fun pq sh τ H Q I h => h pq sh I⟩
theorem wp_of {X : Cx} {e : Expr} {t : TE} {τ : St} {H : Hp} {Q : VK} (h : PE X e t) (qw : t τ H Q) : wpE X e τ H Q := fun pq sh I => h.run pq sh τ H Q I qw
def wpT (X : Cx) (e : Expr) : TT := fun τ H Q => ∀ (pq : List (Addr × Obj)) (sh : Shared), Inv X pq τ H sh → wpAny (model X.prog X.w) X.A (isTrue e X.env (eval e X.env)) (TP X pq τ Q) X.xe sh
theorem pt_wp {X : Cx} {e : Expr} : PT X e (wpT X e) := ⟨fun pq sh τ H Q I h => h pq sh I⟩
theorem wpt_of {X : Cx} {e : Expr} {t : TT} {τ : St} {H : Hp} {Q : Bool → Hp → Prop} (h : PT X e t) (qw : t τ H Q) : wpT X e τ H Q := fun pq sh I => h.run pq sh τ H Q I qw
def wpA (X : Cx) (es : List Expr) : TA := fun τ H Q => ∀ (pos : Pos) (pq : List (Addr × Obj)) (sh : Shared), Inv X pq τ H sh → wpAny (model X.prog X.w) X.A (spliced (backTo pos (starEach es X.env))) (AP X pq τ Q) X.xe sh
theorem pa_wp {X : Cx} {es : List Expr} : PA X es (wpA X es) := ⟨fun pos pq sh τ H Q I h => h pos pq sh I⟩
theorem wpa_of {X : Cx} {es : List Expr} {t : TA} {τ : St} {H : Hp} {Q : List V → Hp → Prop} (h : PA X es t) (qw : t τ H Q) : wpA X es τ H Q := fun pos pq sh I => h.run pos pq sh τ H Q I qw

/-- e gives some d, leaving Γ', of which Φ holds -/
def WE (X : Cx) (F : Fm) (e : Expr) (Γ : Gam) (Φ : D → Gam → Prop) : Prop := ∀ B τ H, Stt X.K F B Γ τ H → ∀ Q : VK,
  (∀ v d B' Γ' H', Φ d Γ' → Nxt X.K F τ B Γ H B' Γ' H' → Rp X.K B' v d → Q v H') → wpE X e τ H Q
/-- e gives a new object of the def's own -/
def WN (X : Cx) (F : Fm) (e : Expr) (Γ : Gam) (Φ : OD → Gam → Prop) : Prop := ∀ B τ H, Stt X.K F B Γ τ H → ∀ Q : VK,
  (∀ p o od B' Γ' H', Φ od Γ' → Nxt X.K F τ B Γ H B' Γ' H' → B' p = none → F.H0 p = none → ¬ F.c.V p → ¬ Ownd Γ' τ p → H p = none → H' p = some o → OdR X.K B' p od o → Q (.ref p) H') → wpE X e τ H Q
def WT (X : Cx) (F : Fm) (e : Expr) (Γ : Gam) (Φ : Bool → Gam → Prop) : Prop := ∀ B τ H, Stt X.K F B Γ τ H → ∀ Q : Bool → Hp → Prop,
  (∀ b B' Γ' H', Φ b Γ' → Nxt X.K F τ B Γ H B' Γ' H' → Q b H') → wpT X e τ H Q
def WA (X : Cx) (F : Fm) (es : List Expr) (Γ : Gam) (Φ : List D → Gam → Prop) : Prop := ∀ B τ H, Stt X.K F B Γ τ H → ∀ Q : List V → Hp → Prop,
  (∀ vs ds B' Γ' H', Φ ds Γ' → Nxt X.K F τ B Γ H B' Γ' H' → RpA X.K B' vs ds → Q vs H') → wpA X es τ H Q

section
variable {X : Cx} {F : Fm} {Γ : Gam} {Φ : D → Gam → Prop}
theorem WE.imp {e : Expr} {Φ' : D → Gam → Prop} (h : WE X F e Γ Φ) (k : ∀ d Γ', Φ d Γ' → Φ' d Γ') : WE X F e Γ Φ' := fun B τ H sh Q qw => h B τ H sh Q fun v d B' Γ' H' p n r => qw v d B' Γ' H' (k _ _ p) n r
theorem WT.imp {e : Expr} {Φ Φ' : Bool → Gam → Prop} (h : WT X F e Γ Φ) (k : ∀ d Γ', Φ d Γ' → Φ' d Γ') : WT X F e Γ Φ' := fun B τ H sh Q qw => h B τ H sh Q fun d B' Γ' H' p n => qw d B' Γ' H' (k _ _ p) n
theorem WA.imp {e : List Expr} {Φ Φ' : List D → Gam → Prop} (h : WA X F e Γ Φ) (k : ∀ d Γ', Φ d Γ' → Φ' d Γ') : WA X F e Γ Φ' := fun B τ H sh Q qw => h B τ H sh Q fun v d B' Γ' H' p n r => qw v d B' Γ' H' (k _ _ p) n r
theorem we_name {i : Nat} {x : Str} {pos : Pos} {d : D} (hN : X.N[i]? = some x) (hv : Vis X.env.scope x) (hΓ : Γ[i]? = some (some (.val d))) (h : Φ d Γ)
    (hdt : (x == ("__debug__" : Str)) = false := by decide) (hcd : (x == ("__classdict__" : Str)) = false := by decide) : WE X F (.Name x pos) Γ Φ := by
  intro B τ H sh Q qw
  obtain ⟨v, e, r⟩ := sh.sl i _ hΓ
  exact wp_of (pe_var hN hv hdt hcd) ⟨v, e, qw v d B Γ H h (Nxt.refl sh) r⟩
theorem we_int {i : Int} {j} {pos : Pos} (h : Φ (.int i) Γ) : WE X F (.Constant (.int i) j pos) Γ Φ := fun B τ H sh Q qw => wp_of pe_int (qw _ _ _ _ _ h (Nxt.refl sh) (.int i))
theorem we_bl {b : Bool} {j} {pos : Pos} (h : Φ (.bl b) Γ) : WE X F (.Constant (.bool b) j pos) Γ Φ := fun B τ H sh Q qw => wp_of pe_bl (qw _ _ _ _ _ h (Nxt.refl sh) (.bl b))
theorem we_non {j} {pos : Pos} (h : Φ .non Γ) : WE X F (.Constant .none j pos) Γ Φ := fun B τ H sh Q qw => wp_of pe_non (qw _ _ _ _ _ h (Nxt.refl sh) .non)
theorem we_str {x : Str} {j} {pos : Pos} (h : Φ (.str x) Γ) : WE X F (.Constant (.str x) j pos) Γ Φ := fun B τ H sh Q qw => wp_of pe_str (qw _ _ _ _ _ h (Nxt.refl sh) (.str x))
theorem we_ifExp {c a b : Expr} {pos : Pos} (h : WT X F c Γ fun k Γ1 => if k = true then WE X F a Γ1 Φ else WE X F b Γ1 Φ) : WE X F (.IfExp c a b pos) Γ Φ := by
  intro B τ H sh Q qw
  refine wp_of (pe_ifExp pt_wp pe_wp pe_wp) (h B τ H sh _ fun k B1 Γ1 H1 p n => ?_)
  cases k with
  | true => exact p B1 τ H1 n.st Q fun v d B' Γ' H' p' n' r => qw v d B' Γ' H' p' (n.trans n') r
  | false => exact p B1 τ H1 n.st Q fun v d B' Γ' H' p' n' r => qw v d B' Γ' H' p' (n.trans n') r
theorem we_and {a b : Expr} {rest : List Expr} {pos : Pos} (h : WE X F a Γ fun d Γ1 => ∃ k, d = .bl k ∧ if k = true then WE X F (.BoolOp .And (b :: rest) pos) Γ1 Φ else Φ (.bl false) Γ1) : WE X F (.BoolOp .And (a :: b :: rest) pos) Γ Φ := by
  intro B τ H sh Q qw
  refine wp_of (pe_and pe_wp pe_wp) (h B τ H sh _ fun v d B1 Γ1 H1 p n r => ?_)
  obtain ⟨k, rfl, p⟩ := p
  cases r
  refine ⟨k, rfl, ?_⟩
  cases k with
  | true => exact p B1 τ H1 n.st Q fun v d B' Γ' H' p' n' r => qw v d B' Γ' H' p' (n.trans n') r
  | false => exact qw _ _ _ _ _ p n (.bl false)
theorem we_or {a b : Expr} {rest : List Expr} {pos : Pos} (h : WE X F a Γ fun d Γ1 => ∃ k, d = .bl k ∧ if k = true then Φ (.bl true) Γ1 else WE X F (.BoolOp .Or (b :: rest) pos) Γ1 Φ) : WE X F (.BoolOp .Or (a :: b :: rest) pos) Γ Φ := by
  intro B τ H sh Q qw
  refine wp_of (pe_or pe_wp pe_wp) (h B τ H sh _ fun v d B1 Γ1 H1 p n r => ?_)
  obtain ⟨k, rfl, p⟩ := p
  cases r
  refine ⟨k, rfl, ?_⟩
  cases k with
  | false => exact p B1 τ H1 n.st Q fun v d B' Γ' H' p' n' r => qw v d B' Γ' H' p' (n.trans n') r
  | true => exact qw _ _ _ _ _ p n (.bl true)
theorem we_one {op : BoolOp} {a : Expr} {pos : Pos} (h : WE X F a Γ Φ) : WE X F (.BoolOp op [a] pos) Γ Φ := fun B τ H sh Q qw => wp_of (pe_one pe_wp) (h B τ H sh Q qw)
theorem we_not {a : Expr} {pos : Pos} (h : WE X F a Γ fun d Γ1 => ∃ k, d = .bl k ∧ Φ (.bl (!k)) Γ1) : WE X F (.UnaryOp .Not a pos) Γ Φ := by
  intro B τ H sh Q qw
  refine wp_of (pe_not pe_wp) (h B τ H sh _ fun v d B1 Γ1 H1 p n r => ?_)
  obtain ⟨k, rfl, p⟩ := p
  cases r
  exact ⟨k, rfl, qw _ _ _ _ _ p n (.bl _)⟩
/-! ### tests -/
variable {Ψ : Bool → Gam → Prop}
end
end L2.Px
/-! PW 2: operators, comparisons, displays, subscripts, slices. -/
namespace L2.Px
open PySem PySem.Spec
open PyProof.Rows

variable [Wld]
section
variable {X : Cx} {F : Fm} {Γ : Gam} {Φ : D → Gam → Prop}
/-! ### an operation on two values -/
def OpD (K : PySem.W.Frag) (r : R2) (d1 d2 : D) (Ψ : D → Prop) : Prop := ∀ (F : Fm) [F.c.Ok] (Γ : Gam) (B : Hp) (τ : St) (H : Hp) (v1 v2 : V), Stt K F B Γ τ H → Rp K B v1 d1 → Rp K B v2 d2 →
  ∀ Q : VK, (∀ v d B' H', Ψ d → Nxt K F τ B Γ H B' Γ H' → Rp K B' v d → Q v H') → r v1 v2 H Q
theorem we_bin [F.c.Ok] {e a b : Expr} {r : R2} (mk : PE X e (tOp r (wpE X a) (wpE X b))) (h : WE X F a Γ fun d1 Γ1 => WE X F b Γ1 fun d2 Γ2 => OpD X.K r d1 d2 fun d => Φ d Γ2) : WE X F e Γ Φ := by
  intro B τ H sh Q qw
  refine wp_of mk (h B τ H sh _ fun v d B1 Γ1 H1 p n r1 => ?_)
  refine p B1 τ H1 n.st _ fun v2 d2 B2 Γ2 H2 p2 n2 r2 => ?_
  exact p2 F Γ2 B2 τ H2 v v2 n2.st (Rp.mono n2.ex _ _ r1) r2 Q fun v' d' B' H' p' n' r' => qw v' d' B' Γ2 H' p' ((n.trans n2).trans n') r'
theorem opr_or {f : Value → Value → Sem Value} {r1 r2 : R2} (ha1 : OpR X f r1) (h2 : OpR X f r2) : OpR X f (fun x y H Q => r1 x y H Q ∨ r2 x y H Q) := by
  intro pq sh τ H x y v u Q I rxw ry h
  rcases h with h | h
  · exact ha1 pq sh τ H x y v u Q I rxw ry h
  · exact h2 pq sh τ H x y v u Q I rxw ry h
theorem opD_of {K : PySem.W.Frag} {r r' : R2} {d1 d2 : D} {Ψ : D → Prop} (h : OpD K r d1 d2 Ψ) (k : ∀ x y H Q, r x y H Q → r' x y H Q) : OpD K r' d1 d2 Ψ :=
  fun F _ Γ B τ H v1 v2 sh r1 r2 Q qw => k _ _ _ _ (h F Γ B τ H v1 v2 sh r1 r2 Q qw)
/-- + -/
def rAddX (K : PySem.W.Frag) : R2 := fun x y H Q => rI0 (fun i j => .int (i + j)) x y H Q ∨ (rCat x y H Q ∨ rCatA K x y H Q)
theorem op_addX : OpR X (binaryOp .Add) (rAddX X.K) := opr_or op_add (opr_or op_cat op_catA)
theorem we_add [F.c.Ok] {a b : Expr} {pos : Pos} (h : WE X F a Γ fun d1 Γ1 => WE X F b Γ1 fun d2 Γ2 => OpD X.K (rAddX X.K) d1 d2 fun d => Φ d Γ2) : WE X F (.BinOp a .Add b pos) Γ Φ := we_bin (pe_op op_addX pe_wp pe_wp) h
theorem od_add {K : PySem.W.Frag} {i j : Int} {Ψ : D → Prop} (h : Ψ (.int (i + j))) : OpD K (rAddX K) (.int i) (.int j) Ψ := by
  intro F _ Γ B τ H v1 v2 sh r1 r2 Q qw
  cases r1
  cases r2
  exact .inl ⟨i, j, rfl, rfl, qw _ _ _ _ h (Nxt.refl sh) (.int _)⟩
theorem od_cat {K : PySem.W.Frag} {xs ys : List D} {Ψ : D → Prop} (hlw : xs.length + ys.length ≤ 100000) (h : Ψ (.lst (xs ++ ys))) : OpD K (rAddX K) (.lst xs) (.lst ys) Ψ := by
  intro F _ Γ B τ H v1 v2 sh r1 r2 Q qw
  cases r1 with
  | @lst a vs _ ha1 a1 =>
  cases r2 with
  | @lst b ws _ h2 a2 =>
  refine .inr (.inl ⟨a, b, vs, ws, rfl, rfl, (sh.bH _ _ ha1).1, (sh.bH _ _ h2).1, Nat.le_trans (by rw [a1.len, a2.len]; exact hlw) (by decide), fun p hp => ?_⟩)
  have n := sh.frozen (o := .lst (vs ++ ws)) hp
  exact qw _ _ _ _ h n (.lst upd_same (RpA.app (RpA.mono n.ex _ _ a1) (RpA.mono n.ex _ _ a2)))
theorem od_catT {K : PySem.W.Frag} {xs ys : List D} {Ψ : D → Prop} (hlw : xs.length + ys.length ≤ 100000) (h : Ψ (.tup (xs ++ ys))) : OpD K (rAddX K) (.tup xs) (.tup ys) Ψ := by
  intro F _ Γ B τ H v1 v2 sh r1 r2 Q qw
  cases r1 with
  | @tup a vs _ ha1 a1 =>
  cases r2 with
  | @tup b ws _ h2 a2 =>
  refine .inr (.inr ⟨a, b, vs, ws, rfl, rfl, .inl (sh.rd ha1), .inl (sh.rd h2), Nat.le_trans (by rw [a1.len, a2.len]; exact hlw) (by decide), fun e => ?_, fun _ e => ?_, fun _ _ p hp => ?_⟩)
  · subst e
    cases a1
    exact qw _ _ _ _ h (Nxt.refl sh) (.tup h2 a2)
  · subst e
    cases a2
    exact qw _ _ _ _ h (Nxt.refl sh) (by rw [List.append_nil]; exact .tup ha1 a1)
  · have n := sh.frozen (o := .tup (vs ++ ws)) hp
    exact qw _ _ _ _ h n (.tup (.inl upd_same) (RpA.app (RpA.mono n.ex _ _ a1) (RpA.mono n.ex _ _ a2)))
/-- -, *, //, %, ** of ints; list * int -/
theorem we_sub [F.c.Ok] {a b : Expr} {pos : Pos} (h : WE X F a Γ fun d1 Γ1 => WE X F b Γ1 fun d2 Γ2 => ∃ i j, d1 = .int i ∧ d2 = .int j ∧ Φ (.int (i - j)) Γ2) : WE X F (.BinOp a .Sub b pos) Γ Φ := by
  refine we_bin (pe_op op_sub pe_wp pe_wp) (h.imp fun d1 Γ1 h => h.imp fun d2 Γ2 h => ?_)
  obtain ⟨i, j, rfl, rfl, h⟩ := h
  intro F _ Γ B τ H v1 v2 sh r1 r2 Q qw
  cases r1
  cases r2
  exact ⟨i, j, rfl, rfl, qw _ _ _ _ h (Nxt.refl sh) (.int _)⟩
theorem we_mod [F.c.Ok] {a b : Expr} {pos : Pos} (h : WE X F a Γ fun d1 Γ1 => WE X F b Γ1 fun d2 Γ2 => ∃ i j, d1 = .int i ∧ d2 = .int j ∧ 0 < j ∧ Φ (.int (i % j)) Γ2) : WE X F (.BinOp a .Mod b pos) Γ Φ := by
  refine we_bin (pe_op op_mod pe_wp pe_wp) (h.imp fun d1 Γ1 h => h.imp fun d2 Γ2 h => ?_)
  obtain ⟨i, j, rfl, rfl, hjw, h⟩ := h
  intro F _ Γ B τ H v1 v2 sh r1 r2 Q qw
  cases r1
  cases r2
  exact ⟨i, j, rfl, rfl, hjw, qw _ _ _ _ h (Nxt.refl sh) (.int _)⟩
theorem we_fdiv [F.c.Ok] {a b : Expr} {pos : Pos} (h : WE X F a Γ fun d1 Γ1 => WE X F b Γ1 fun d2 Γ2 => ∃ i j, d1 = .int i ∧ d2 = .int j ∧ CDivW i j ∧ Φ (.int (i / j)) Γ2) : WE X F (.BinOp a .FloorDiv b pos) Γ Φ := by
  refine we_bin (pe_op op_fdivW pe_wp pe_wp) (h.imp fun d1 Γ1 h => h.imp fun d2 Γ2 h => ?_)
  obtain ⟨i, j, rfl, rfl, hjw, h⟩ := h
  intro F _ Γ B τ H v1 v2 sh r1 r2 Q qw
  cases r1
  cases r2
  exact ⟨i, j, rfl, rfl, hjw, qw _ _ _ _ h (Nxt.refl sh) (.int _)⟩
theorem we_pow [F.c.Ok] {a b : Expr} {pos : Pos} (h : WE X F a Γ fun d1 Γ1 => WE X F b Γ1 fun d2 Γ2 => ∃ i j, d1 = .int i ∧ d2 = .int j ∧ CPow i j ∧ Φ (.int (i ^ j.toNat)) Γ2) : WE X F (.BinOp a .Pow b pos) Γ Φ := by
  refine we_bin (pe_op op_pow pe_wp pe_wp) (h.imp fun d1 Γ1 h => h.imp fun d2 Γ2 h => ?_)
  obtain ⟨i, j, rfl, rfl, hjw, h⟩ := h
  intro F _ Γ B τ H v1 v2 sh r1 r2 Q qw
  cases r1
  cases r2
  exact ⟨i, j, rfl, rfl, hjw, qw _ _ _ _ h (Nxt.refl sh) (.int _)⟩
def rMulX : R2 := fun x y H Q => rI CMulW (fun i j => .int (i * j)) x y H Q ∨ rRep x y H Q
theorem we_mul [F.c.Ok] {a b : Expr} {pos : Pos} (h : WE X F a Γ fun d1 Γ1 => WE X F b Γ1 fun d2 Γ2 => OpD X.K rMulX d1 d2 fun d => Φ d Γ2) : WE X F (.BinOp a .Mult b pos) Γ Φ := we_bin (pe_op (opr_or op_mulW op_rep) pe_wp pe_wp) h
theorem od_mul {K : PySem.W.Frag} {i j : Int} {Ψ : D → Prop} (hc : CMulW i j) (h : Ψ (.int (i * j))) : OpD K rMulX (.int i) (.int j) Ψ := by
  intro F _ Γ B τ H v1 v2 sh r1 r2 Q qw
  cases r1
  cases r2
  exact .inl ⟨i, j, rfl, rfl, hc, qw _ _ _ _ h (Nxt.refl sh) (.int _)⟩
theorem RpA.rep {K : PySem.W.Frag} {B : Hp} {vs : List V} {ds : List D} (h : RpA K B vs ds) : ∀ n : Nat, RpA K B (List.replicate n vs).flatten (List.replicate n ds).flatten
  | 0 => .nil
  | n + 1 => by
    rw [List.replicate_succ, List.replicate_succ, List.flatten_cons, List.flatten_cons]
    exact RpA.app h (RpA.rep h n)
theorem od_rep {K : PySem.W.Frag} {xs : List D} {n : Nat} {Ψ : D → Prop} (hn : n ≤ 1000) (hlw : xs.length ≤ 100) (h : Ψ (.lst (List.replicate n xs).flatten)) : OpD K rMulX (.lst xs) (.int n) Ψ := by
  intro F _ Γ B τ H v1 v2 sh r1 r2 Q qw
  cases r1 with
  | @lst a vs _ ha1 a1 =>
  cases r2
  refine .inr ⟨a, n, vs, rfl, rfl, (sh.bH _ _ ha1).1, by omega, by omega, ?_, fun p hp => ?_⟩
  · rw [a1.len, Int.toNat_natCast]
    exact Nat.le_trans (Nat.mul_le_mul hlw hn) (by decide)
  · have nx := sh.frozen (o := .lst (List.replicate (n : Int).toNat vs).flatten) hp
    refine qw _ _ _ _ h nx (.lst upd_same ?_)
    rw [Int.toNat_natCast]
    exact (RpA.mono nx.ex _ _ a1).rep n
end

/-! ### == and != of data -/
mutual
def D.py : D → PyData
  | .non => .none
  | .bl b => .bool b
  | .int i => .int i
  | .str x => .str x
  | .tup ds => .tuple (D.pyA ds)
  | .lst ds => .list (D.pyA ds)
  | _ => .dict []
def D.pyA : List D → List PyData
  | [] => []
  | d :: ds => d.py :: D.pyA ds
end
mutual
def D.pl : D → Bool
  | .non => true
  | .bl _ => true
  | .int _ => true
  | .str _ => true
  | .tup ds => D.plA ds
  | .lst ds => D.plA ds
  | _ => false
def D.plA : List D → Bool
  | [] => true
  | d :: ds => d.pl && D.plA ds
end
mutual
theorem Rp.dp {K : PySem.W.Frag} {H : Hp} : ∀ (d : D) (v : V), d.pl = true → Rp K H v d → Dp K H v d.py
  | .non, _, _, h => by cases h; exact .non
  | .bl _, _, _, h => by cases h; exact .bl _
  | .int _, _, _, h => by cases h; exact .int _
  | .str _, _, _, h => by cases h; exact .str _
  | .tup ds, _, p, h => by
    cases h with
    | tup hsa ha => exact .tup (.inl hsa) (RpA.dp ds _ p ha)
  | .lst ds, _, p, h => by
    cases h with
    | lst hsa ha => exact .lst (SqL.of hsa) (RpA.dp ds _ p ha)
  | .dct, _, p, _ => nomatch p
  | .dix, _, p, _ => nomatch p
  | .dic _ _, _, p, _ => nomatch p
  | .obj _, _, p, _ => nomatch p
  | .ty _, _, p, _ => nomatch p
  | .exc _, _, p, _ => nomatch p
  | .scr _, _, p, _ => nomatch p
theorem RpA.dp {K : PySem.W.Frag} {H : Hp} : ∀ (ds : List D) (vs : List V), D.plA ds = true → RpA K H vs ds → DpAll K H vs (D.pyA ds)
  | [], _, _, h => by cases h; exact .nil
  | d :: ds, _, p, h => by
    cases h with
    | cons ha1 h2 =>
      have qw : d.pl = true ∧ D.plA ds = true := by
        have zw : (d.pl && D.plA ds) = true := p
        simpa using zw
      exact .cons (Rp.dp d _ qw.1 ha1) (RpA.dp ds _ qw.2 h2)
end
mutual
theorem py_plain : ∀ d : D, d.pl = true → d.py.plain = true
  | .non, _ => rfl
  | .bl _, _ => rfl
  | .int _, _ => rfl
  | .str _, _ => rfl
  | .tup ds, p => py_plainA ds p
  | .lst ds, p => py_plainA ds p
  | .dct, p => nomatch p
  | .dix, p => nomatch p
  | .dic _ _, p => nomatch p
  | .obj _, p => nomatch p
  | .ty _, p => nomatch p
  | .exc _, p => nomatch p
  | .scr _, p => nomatch p
theorem py_plainA : ∀ ds : List D, D.plA ds = true → PyData.plainAll (D.pyA ds) = true
  | [], _ => rfl
  | d :: ds, p => by
    have qw : d.pl = true ∧ D.plA ds = true := by
      have zw : (d.pl && D.plA ds) = true := p
      simpa using zw
    show (d.py.plain && PyData.plainAll (D.pyA ds)) = true
    rw [py_plain d qw.1, py_plainA ds qw.2]
    rfl
end
end L2.Px
/-! PW 3: argument lists, displays, calls of defs, promises over data. -/
namespace L2.Px
open PySem PySem.Spec
open PyProof.Rows

variable [Wld]
section
variable {X : Cx} {F : Fm} {Γ : Gam} {Φ : D → Gam → Prop}
theorem wa_nil {Φ : List D → Gam → Prop} (h : Φ [] Γ) : WA X F [] Γ Φ := fun B τ H sh Q qw => wpa_of pa_nil (qw _ _ _ _ _ h (Nxt.refl sh) .nil)
theorem wa_cons {Φ : List D → Gam → Prop} {e : Expr} {es : List Expr} (h : WE X F e Γ fun d Γ1 => WA X F es Γ1 fun ds Γ2 => Φ (d :: ds) Γ2)
    (hsa : starEach (e :: es) X.env = (false, eval e X.env) :: starEach es X.env := by rfl) : WA X F (e :: es) Γ Φ := by
  intro B τ H sh Q qw
  refine wpa_of (pa_cons pe_wp pa_wp hsa) (h B τ H sh _ fun v d B1 Γ1 H1 p n r1 => ?_)
  exact p B1 τ H1 n.st _ fun vs ds B2 Γ2 H2 p2 n2 r2 => qw _ _ _ _ _ p2 (n.trans n2) (.cons (Rp.mono n2.ex _ _ r1) r2)
theorem we_tup [F.c.Ok] {es : List Expr} {k : Nat} {pos : Pos} (h : WA X F es Γ fun ds Γ1 => ds.length ≤ 100000 ∧ Φ (.tup ds) Γ1) : WE X F (.Tuple es k pos) Γ Φ := by
  intro B τ H sh Q qw
  refine wp_of (pe_tup pa_wp) (h B τ H sh _ fun vs ds B1 Γ1 H1 p n r => ⟨Nat.le_trans (by rw [r.len]; exact p.1) (by decide), fun a ha => ?_⟩)
  have n2 := n.st.frozen (o := .tup vs) ha
  exact qw _ _ _ _ _ p.2 (n.trans n2) (.tup (.inl upd_same) (RpA.mono n2.ex _ _ r))
theorem we_lst [F.c.Ok] {es : List Expr} {pos : Pos} (h : WA X F es Γ fun ds Γ1 => ds.length ≤ 100000 ∧ Φ (.lst ds) Γ1) : WE X F (.List es pos) Γ Φ := by
  intro B τ H sh Q qw
  refine wp_of (pe_lst pa_wp) (h B τ H sh _ fun vs ds B1 Γ1 H1 p n r => ⟨Nat.le_trans (by rw [r.len]; exact p.1) (by decide), fun a ha => ?_⟩)
  have n2 := n.st.frozen (o := .lst vs) ha
  exact qw _ _ _ _ _ p.2 (n.trans n2) (.lst upd_same (RpA.mono n2.ex _ _ r))
/-- a new list of the def's own -/
theorem not_ownd {K : PySem.W.Frag} {τ : St} {B : Hp} {H : Hp} (sh : Stt K F B Γ τ H) {p : Addr} (hp : H p = none) : ¬ Ownd Γ τ p := fun qw => by
  obtain ⟨⟨o, e⟩, _⟩ := ownd_some sh qw
  rw [hp] at e
  cases e
theorem wn_of [F.c.Ok] {Ψ : OD → Gam → Prop} {τ : St} {B B1 : Hp} {H H1 : Hp} {Γ1 : Gam} {Q : VK} {p : Addr} {o : HO} {od : OD} (sh : Stt X.K F B Γ τ H)
    (qw : ∀ p o od B' Γ' H', Ψ od Γ' → Nxt X.K F τ B Γ H B' Γ' H' → B' p = none → F.H0 p = none → ¬ F.c.V p → ¬ Ownd Γ' τ p → H p = none → H' p = some o → OdR X.K B' p od o → Q (.ref p) H')
    (n : Nxt X.K F τ B Γ H B1 Γ1 H1) (hp : H1 p = none) (h : Ψ od Γ1) (r : OdR X.K B1 p od o) : Q (.ref p) (upd H1 p o) := by
  have n2 := n.st.laid (o := o) hp
  have hH : H p = none := by
    cases e : H p with
    | none => rfl
    | some u => exact absurd hp (n.al p (by rw [e]; exact fun zw => nomatch zw))
  exact qw p o od B1 Γ1 _ h (n.trans n2) (n.st.bnone hp) (n.st.h0 hp) (n.st.nv hp) (not_ownd n.st hp) hH upd_same r

theorem wn_lst [F.c.Ok] {Ψ : OD → Gam → Prop} {es : List Expr} {pos : Pos} (h : WA X F es Γ fun ds Γ1 => ds.length ≤ 100000 ∧ Ψ (.lst ds) Γ1) : WN X F (.List es pos) Γ Ψ := by
  intro B τ H sh Q qw
  refine wp_of (pe_lst pa_wp) (h B τ H sh _ fun vs ds B1 Γ1 H1 p n r => ⟨Nat.le_trans (by rw [r.len]; exact p.1) (by decide), fun a ha => ?_⟩)
  exact wn_of sh qw n ha p.2 ⟨vs, rfl, r⟩
/-- such an object stays from here on -/
theorem frz_new {K : PySem.W.Frag} [F.c.Ok] {p : Addr} {τ : St} {B B0 : Hp} {H H0 : Hp} {Γ0 : Gam} (n : Nxt K F τ B0 Γ0 H0 B Γ H) (new : H0 p = none) {o : HO} (hb : B p = none) (h0 : F.H0 p = none) (nv : ¬ F.c.V p) (no : ¬ Ownd Γ τ p) (hob : H p = some o) : Nxt K F τ B0 Γ0 H0 (upd B p o) Γ H := by
  have sh := n.st
  have eB : Ex B (upd B p o) := fun a u e => by
    rw [upd_ne (ne_of_none e hb)]
    exact e
  refine ⟨⟨sh.fr, sh.b0.trans eB, fun a u h => ?_, fun a u h => ?_, sh.vH, sh.vH', sh.g, sh.len, fun i sl h => ?_, sh.dj⟩, n.ex.trans eB, n.kp, n.ow, n.al, fun a u h => ?_⟩
  · by_cases e : a = p
    · subst e
      rw [upd_same] at h
      cases h
      exact ⟨hob, nv⟩
    · rw [upd_ne e] at h
      exact sh.bH a u h
  · by_cases e : a = p
    · subst e
      exact .inr h0
    · rw [upd_ne e] at h
      exact sh.bn a u h
  · obtain ⟨v, e, r⟩ := sh.sl i sl h
    refine ⟨v, e, ?_⟩
    cases sl with
    | val d => exact Rp.mono eB _ _ r
    | own od =>
      obtain ⟨p', o', rfl, b, h0', nv', ho', ro⟩ := r
      have ne : p' ≠ p := fun zw => no ⟨i, od, h, by rw [← zw]; exact e⟩
      exact ⟨p', o', rfl, by rw [upd_ne ne]; exact b, h0', nv', ho', ro.mono eB⟩
  · by_cases e : a = p
    · subst e
      exact .inr new
    · rw [upd_ne e] at h
      exact n.nb a u h
def OD.d : OD → D
  | .lst ds => .lst ds
  | .dK _ => .dct
  | .dT _ => .dct
  | .dN ks vs => .dic ks vs
theorem we_new [F.c.Ok] {e : Expr} (h : WN X F e Γ fun od Γ1 => ∃ ds, od = .lst ds ∧ Φ (.lst ds) Γ1) : WE X F e Γ Φ := by
  intro B τ H sh Q qw
  refine h B τ H sh Q fun p o od B1 Γ1 H1 h n hb h0 nv no new hob r => ?_
  obtain ⟨ds, rfl, h⟩ := h
  obtain ⟨xs, rfl, r⟩ := r
  have n2 := frz_new n new hb h0 nv no hob
  refine qw _ _ _ _ _ h n2 (.lst upd_same (RpA.mono (fun a u e => ?_) _ _ r))
  rw [upd_ne (ne_of_none e hb)]
  exact e
end

/-! ### promises over data -/
inductive Out where
  | ret (d : D) | exc (C : EC)
structure DS where
  run : List D → (Out → Prop) → Prop
  mono : ∀ ds P P', (∀ o, P o → P' o) → run ds P → run ds P'
/-- what a callee leaves -/
structure Pst (c : Cfg) (B H B' H' : Hp) : Prop where
  kp : ∀ a o, H a = some o → ¬ c.V a → H' a = some o
  ex : Ex B B'
  bH : ∀ a o, B' a = some o → H' a = some o ∧ ¬ c.V a
  bn : ∀ a o, B' a = some o → B a = some o ∨ H a = none
  vH : ∀ a, c.V a → H' a ≠ none
  g : c.G H'
def SpD (K : PySem.W.Frag) (c : Cfg) (n : Nat) (sp : DS) : Sp := fun vs H Q E => ∃ B ds, ds.length = n ∧ (∀ a o, B a = some o → H a = some o ∧ ¬ c.V a) ∧ (∀ a, c.V a → H a ≠ none) ∧ c.G H ∧ RpA K B vs ds ∧
  sp.run ds fun o => match o with
    | .ret d => ∀ v B' H', Pst c B H B' H' → Rp K B' v d → Q v H'
    | .exc C => ∀ B' H', Pst c B H B' H' → C.go E B' H'
theorem SpD.len {K : PySem.W.Frag} {c : Cfg} {n : Nat} {sp : DS} {vs : List V} {H : Hp} {Q : VK} {E : XK} (h : SpD K c n sp vs H Q E) : vs.length = n := by
  obtain ⟨B, ds, hlw, _, _, _, r, _⟩ := h
  rw [r.len, hlw]
/-- nothing but itself -/
def c0 : Cfg := ⟨fun _ => False, fun _ => True⟩
instance : c0.Ok := ⟨fun _ _ _ _ _ => True.intro⟩
section
variable {X : Cx} {F : Fm} {Γ : Gam} {Φ : D → Gam → Prop}
/-- behind a callee -/
theorem Stt.called {K : PySem.W.Frag} {τ : St} {B H B' H' : Hp} (sh : Stt K F B Γ τ H) (p : Pst F.c B H B' H') : Nxt K F τ B Γ H B' Γ H' := by
  have bno : ∀ qw o, B qw = none → H qw = some o → B' qw = none := fun qw o hb hob => by
    cases e : B' qw with
    | none => rfl
    | some u =>
      rcases p.bn qw u e with zw | zw
      · rw [hb] at zw
        cases zw
      · rw [hob] at zw
        cases zw
  refine ⟨⟨fun a o h v => p.kp a o (sh.fr a o h v) v, sh.b0.trans p.ex, p.bH, fun a o h => ?_, sh.vH, p.vH, p.g, sh.len, fun i sl h => ?_, sh.dj⟩, p.ex, fun a o h v _ => p.kp a o h v, fun _ h => h, fun a h => ?_, p.bn⟩
  · rcases p.bn a o h with zw | zw
    · exact sh.bn a o zw
    · exact .inr (sh.h0 zw)
  · obtain ⟨v, e, r⟩ := sh.sl i sl h
    refine ⟨v, e, ?_⟩
    cases sl with
    | val d => exact Rp.mono p.ex _ _ r
    | own od =>
      obtain ⟨p', o', rfl, b, h0', nv', ho', ro⟩ := r
      exact ⟨p', o', rfl, bno _ _ b ho', h0', nv', p.kp _ _ ho' nv', ro.mono p.ex⟩
  · cases e : H a with
    | none => exact absurd e h
    | some o =>
      by_cases v : F.c.V a
      · exact p.vH a v
      · rw [p.kp a o e v]
        exact fun zw => nomatch zw
theorem Pst.up {c : Cfg} [c.Ok] {B H B' H' : Hp} (p : Pst c0 B H B' H') (hv : ∀ a, c.V a → H a ≠ none) (g : c.G H) (hb : ∀ a o, B a = some o → ¬ c.V a) : Pst c B H B' H' := by
  have kp : ∀ a o, H a = some o → H' a = some o := fun a o h => p.kp a o h (fun zw => zw)
  have same : ∀ a, c.V a → H' a = H a := fun a v => by
    cases e : H a with
    | none => exact absurd e (hv a v)
    | some o => exact kp a o e
  refine ⟨fun a o h _ => kp a o h, p.ex, fun a o h => ⟨(p.bH a o h).1, fun v => ?_⟩, p.bn, fun a v => ?_, Cfg.Ok.st H H' same (fun a o h _ _ => kp a o h) g⟩
  · rcases p.bn a o h with zw | zw
    · exact hb a o zw v
    · exact hv a v zw
  · rw [same a v]
    exact hv a v
/-- what may leave the def -/
structure Rs (X : Cx) (F : Fm) (EX : EC → Prop) : Prop where
  ex : ∃ E : XK, Takes X (fun cls d _ H => E cls d H) ∧ ∀ (C : EC) B' H', EX C → Pst F.c F.B0 F.H0 B' H' → C.go E B' H'
theorem Stt.pst {K : PySem.W.Frag} {τ : St} {B H : Hp} (sh : Stt K F B Γ τ H) : Pst F.c F.B0 F.H0 B H := ⟨sh.fr, sh.b0, sh.bH, sh.bn, sh.vH', sh.g⟩
/-- the def x of the text keeps the promise sp (n arguments) -/
structure Dfn (X : Cx) (x : Str) (c : Cfg) (ps : List Str) (sp : DS) : Prop where
  ex : ∃ (k : Nat) (f : Addr) (fd : FuncData), FnOk X.prog X.w X.K X.mg X.base (L2.CX X.prog X.w) k f fd ps (SpD X.K c ps.length sp) ∧ Room k X.A ∧ X.mg x = some (.ref f) ∧ PySem.W.keepIn X.K (.ref f) = true ∧ Binds X.K fd ps []
theorem Pst.chain {c : Cfg} {B0 H0 B H B' H' : Hp} (a : Pst c B0 H0 B H) (p : Pst c B H B' H') (hv : ∀ qw, c.V qw → H0 qw ≠ none) : Pst c B0 H0 B' H' := by
  refine ⟨fun qw o h v => p.kp qw o (a.kp qw o h v) v, a.ex.trans p.ex, p.bH, fun qw o h => ?_, p.vH, p.g⟩
  rcases p.bn qw o h with zw | zw
  · exact a.bn qw o zw
  · refine .inr ?_
    cases e : H0 qw with
    | none => rfl
    | some u =>
      by_cases v : c.V qw
      · exact absurd zw (a.vH qw v)
      · rw [a.kp qw u e v] at zw
        cases zw
theorem we_callC {EX : EC → Prop} {x : Str} {ps : List Str} {sp : DS} {e : Expr} {es : List Expr} {p pos : Pos} (R : Rs X F EX) (Fn : Dfn X x F.c ps sp) (hg : Gl X x)
    (h : WA X F (e :: es) Γ fun ds Γ1 => ds.length = ps.length ∧ sp.run ds fun o => match o with | .ret d => Φ d Γ1 | .exc C => EX C)
    (hdb : (x == ("__debug__" : Str)) = false := by decide) (hen : starEach (e :: es) X.env = (false, eval e X.env) :: starEach es X.env := by rfl) (hpl : (backTo pos (starEach es X.env)).any (·.1) = false := by rfl) :
    WE X F (.Call (.Name x p) (e :: es) [] pos) Γ Φ := by
  obtain ⟨E, tk, hE⟩ := R.ex
  obtain ⟨k, f, fd, FO, hr, hmw, hkw2, hb⟩ := Fn.ex
  intro B τ H sh Q qw
  refine wp_of (pe_call FO hr hg hmw hkw2 hb .nil (passes_call tk fun _ _ _ _ h => h) pa_wp hdb hen hpl) (h B τ H sh _ fun vs ds B1 Γ1 H1 p n r => ?_)
  rw [List.append_nil]
  refine ⟨B1, ds, p.1, n.st.bH, n.st.vH', n.st.g, r, sp.mono _ _ _ (fun o hob => ?_) p.2⟩
  cases o with
  | ret d => exact fun v B' H' P rr => qw v d B' Γ1 H' hob (n.trans (n.st.called P)) rr
  | exc C => exact fun B' H' P => hE C B' H' hob (n.st.pst.chain P sh.vH)
theorem we_call [F.c.Ok] {EX : EC → Prop} {x : Str} {ps : List Str} {sp : DS} {e : Expr} {es : List Expr} {p pos : Pos} (R : Rs X F EX) (Fn : Dfn X x c0 ps sp) (hg : Gl X x)
    (h : WA X F (e :: es) Γ fun ds Γ1 => ds.length = ps.length ∧ sp.run ds fun o => match o with | .ret d => Φ d Γ1 | .exc C => EX C)
    (hdb : (x == ("__debug__" : Str)) = false := by decide) (hen : starEach (e :: es) X.env = (false, eval e X.env) :: starEach es X.env := by rfl) (hpl : (backTo pos (starEach es X.env)).any (·.1) = false := by rfl) :
    WE X F (.Call (.Name x p) (e :: es) [] pos) Γ Φ := by
  obtain ⟨E, tk, hE⟩ := R.ex
  obtain ⟨k, f, fd, FO, hr, hmw, hkw2, hb⟩ := Fn.ex
  intro B τ H sh Q qw
  refine wp_of (pe_call FO hr hg hmw hkw2 hb .nil (passes_call tk fun _ _ _ _ h => h) pa_wp hdb hen hpl) (h B τ H sh _ fun vs ds B1 Γ1 H1 p n r => ?_)
  rw [List.append_nil]
  refine ⟨B1, ds, p.1, fun a o zw => ⟨(n.st.bH a o zw).1, fun zw => zw⟩, fun _ zw => zw.elim, True.intro, r, sp.mono _ _ _ (fun o hob => ?_) p.2⟩
  cases o with
  | ret d => exact fun v B' H' P rr => qw v d B' Γ1 H' hob (n.trans (n.st.called (P.up n.st.vH' n.st.g fun a o zw => (n.st.bH a o zw).2))) rr
  | exc C => exact fun B' H' P => hE C B' H' hob (n.st.pst.chain (P.up n.st.vH' n.st.g fun a o zw => (n.st.bH a o zw).2) sh.vH)
end
end L2.Px
/-! PW 4: statements, loops, what a def promises. -/
namespace L2.Px
open PySem PySem.Spec
open PyProof.Rows

variable [Wld]
def wpS (X : Cx) (st : Stmt) : TS := fun D τ H => ∀ (pq : List (Addr × Obj)) (sh : Shared), Inv X pq τ H sh → wpAny (model X.prog X.w) X.A (exec st X.env) (SP X pq D) X.xe sh
theorem ps_wp {X : Cx} {st : Stmt} : PS X st (wpS X st) := ⟨fun pq sh τ H D I h => h pq sh I⟩
theorem wps_of {X : Cx} {st : Stmt} {t : TS} {D : Ends} {τ : St} {H : Hp} (h : PS X st t) (qw : t D τ H) : wpS X st D τ H := fun pq sh I => h.run pq sh τ H D I qw
def wpSs (X : Cx) (st : List Stmt) : TS := fun D τ H => ∀ (pq : List (Addr × Obj)) (sh : Shared), Inv X pq τ H sh → wpAny (model X.prog X.w) X.A (execs st X.env) (SP X pq D) X.xe sh
theorem pss_wp {X : Cx} {st : List Stmt} : PSs X st (wpSs X st) := ⟨fun pq sh τ H D I h => h pq sh I⟩
theorem wpss_of {X : Cx} {st : List Stmt} {t : TS} {D : Ends} {τ : St} {H : Hp} (h : PSs X st t) (qw : t D τ H) : wpSs X st D τ H := fun pq sh I => h.run pq sh τ H D I qw
def wpG (X : Cx) (tg : Expr) : TG := fun v τ H Q => ∀ (pq : List (Addr × Obj)) (sh : Shared) (u : Value), Inv X pq τ H sh → RelV v u → wpAny (model X.prog X.w) X.A (assign tg X.env u) (fun _ s' => ∃ σ' H', Inv X pq σ' H' s' ∧ Q σ' H') X.xe sh
theorem pg_wp {X : Cx} {tg : Expr} : PG X tg (wpG X tg) := ⟨fun pq sh τ H v u Q I r h => h pq sh u I r⟩
theorem wpg_of {X : Cx} {tg : Expr} {g : TG} {v : V} {τ : St} {H : Hp} {Q : St → Hp → Prop} (h : PG X tg g) (qw : g v τ H Q) : wpG X tg v τ H Q := fun pq sh u I r => h.run pq sh τ H v u Q I r qw

/-- where a statement leads: on; out with a value; out of the loop; to the next turn -/
structure ED where
  nx : Gam → Prop
  rt : D → Prop
  bk : Gam → Prop := fun _ => False
  ct : Gam → Prop := fun _ => False
structure Lnk (K : PySem.W.Frag) (F : Fm) (B : Hp) (ed : ED) (D : Ends) : Prop where
  nx : ∀ B' Γ τ H, ed.nx Γ → Stt K F B' Γ τ H → Ex B B' → D.nx τ H
  rt : ∀ B' Γ τ H v d, ed.rt d → Stt K F B' Γ τ H → Ex B B' → Rp K B' v d → D.rt v H
  bk : ∀ B' Γ τ H, ed.bk Γ → Stt K F B' Γ τ H → Ex B B' → D.bk τ H
  ct : ∀ B' Γ τ H, ed.ct Γ → Stt K F B' Γ τ H → Ex B B' → D.ct τ H
theorem Lnk.ext {K : PySem.W.Frag} {F : Fm} {B B1 : Hp} {ed : ED} {D : Ends} (l : Lnk K F B ed D) (e : Ex B B1) : Lnk K F B1 ed D :=
  ⟨fun B' Γ τ H h sh x => l.nx B' Γ τ H h sh (e.trans x), fun B' Γ τ H v d h sh x => l.rt B' Γ τ H v d h sh (e.trans x), fun B' Γ τ H h sh x => l.bk B' Γ τ H h sh (e.trans x), fun B' Γ τ H h sh x => l.ct B' Γ τ H h sh (e.trans x)⟩
def WS (X : Cx) (F : Fm) (st : Stmt) (Γ : Gam) (ed : ED) : Prop := ∀ B τ H, Stt X.K F B Γ τ H → ∀ D, Lnk X.K F B ed D → wpS X st D τ H
def WSs (X : Cx) (F : Fm) (st : List Stmt) (Γ : Gam) (ed : ED) : Prop := ∀ B τ H, Stt X.K F B Γ τ H → ∀ D, Lnk X.K F B ed D → wpSs X st D τ H
/-- a target takes a value -/
structure Tkn (K : PySem.W.Frag) (F : Fm) (vs : List Nat) (τ : St) (B : Hp) (Γ : Gam) (H : Hp) (σ' : St) (B' : Hp) (Γ' : Gam) (H' : Hp) : Prop where
  st : Stt K F B' Γ' σ' H'
  ex : Ex B B'
  kp : ∀ a o, H a = some o → ¬ F.c.V a → ¬ Ownd Γ τ a → H' a = some o
  ow : ∀ a, Ownd Γ' σ' a → Ownd Γ τ a
  al : ∀ a, H a ≠ none → H' a ≠ none
  nb : ∀ a o, B' a = some o → B a = some o ∨ H a = none
  ln : σ'.length = τ.length
  sm : ∀ j, j ∉ vs → σ'[j]? = τ[j]?
def WG (X : Cx) (F : Fm) (tg : Expr) (vs : List Nat) (d : D) (Γ : Gam) (Φ : Gam → Prop) : Prop := ∀ B τ H v, Stt X.K F B Γ τ H → Rp X.K B v d → ∀ Q : St → Hp → Prop, (∀ B' Γ' σ' H', Φ Γ' → Tkn X.K F vs τ B Γ H σ' B' Γ' H' → Q σ' H') → wpG X tg v τ H Q

section
variable {X : Cx} {F : Fm} {Γ : Gam} {ed : ED}
theorem ws_nil (h : ed.nx Γ) : WSs X F [] Γ ed := fun B τ H sh D l => wpss_of pss_nil (l.nx B Γ τ H h sh (Ex.refl _))
theorem ws_cons {st : Stmt} {rest : List Stmt} (h : WS X F st Γ { ed with nx := fun Γ1 => WSs X F rest Γ1 ed }) : WSs X F (st :: rest) Γ ed := by
  intro B τ H sh D l
  refine wpss_of (pss_cons ps_wp pss_wp) (h B τ H sh _ ⟨fun B' Γ' σ' H' p s' e => ?_, l.rt, l.bk, l.ct⟩)
  exact p B' σ' H' s' D (l.ext e)
theorem ws_imp {ed' : ED} {st : Stmt} (h : WS X F st Γ ed) (ha1 : ∀ Γ, ed.nx Γ → ed'.nx Γ) (h2 : ∀ d, ed.rt d → ed'.rt d) (h3 : ∀ Γ, ed.bk Γ → ed'.bk Γ) (h4 : ∀ Γ, ed.ct Γ → ed'.ct Γ) : WS X F st Γ ed' := fun B τ H sh D l =>
  h B τ H sh D ⟨fun B' Γ τ H h sh x => l.nx B' Γ τ H (ha1 _ h) sh x, fun B' Γ τ H v d h sh x => l.rt B' Γ τ H v d (h2 _ h) sh x, fun B' Γ τ H h sh x => l.bk B' Γ τ H (h3 _ h) sh x, fun B' Γ τ H h sh x => l.ct B' Γ τ H (h4 _ h) sh x⟩
theorem wss_imp {ed' : ED} {st : List Stmt} (h : WSs X F st Γ ed) (ha1 : ∀ Γ, ed.nx Γ → ed'.nx Γ) (h2 : ∀ d, ed.rt d → ed'.rt d) (h3 : ∀ Γ, ed.bk Γ → ed'.bk Γ) (h4 : ∀ Γ, ed.ct Γ → ed'.ct Γ) : WSs X F st Γ ed' := fun B τ H sh D l =>
  h B τ H sh D ⟨fun B' Γ τ H h sh x => l.nx B' Γ τ H (ha1 _ h) sh x, fun B' Γ τ H v d h sh x => l.rt B' Γ τ H v d (h2 _ h) sh x, fun B' Γ τ H h sh x => l.bk B' Γ τ H (h3 _ h) sh x, fun B' Γ τ H h sh x => l.ct B' Γ τ H (h4 _ h) sh x⟩
theorem ws_pass {pos : Pos} (h : ed.nx Γ) : WS X F (.Pass pos) Γ ed := fun B τ H sh D l => wps_of ps_pass (l.nx B Γ τ H h sh (Ex.refl _))
theorem ws_break {pos : Pos} (h : ed.bk Γ) : WS X F (.Break pos) Γ ed := fun B τ H sh D l => wps_of ps_break (l.bk B Γ τ H h sh (Ex.refl _))
theorem ws_continue {pos : Pos} (h : ed.ct Γ) : WS X F (.Continue pos) Γ ed := fun B τ H sh D l => wps_of ps_continue (l.ct B Γ τ H h sh (Ex.refl _))
theorem ws_ret {e : Expr} {pos : Pos} (h : WE X F e Γ fun d _ => ed.rt d) : WS X F (.Return (some e) pos) Γ ed := fun B τ H sh D l =>
  wps_of (ps_ret pe_wp) (h B τ H sh _ fun v d B' Γ' H' p n r => l.rt B' Γ' τ H' v d p n.st n.ex r)
theorem ws_expr {e : Expr} {pos : Pos} (h : WE X F e Γ fun _ Γ1 => ed.nx Γ1) (hsa : swapsWith e none pos.line X.env = pure false := by rfl) : WS X F (.Expr e pos) Γ ed := fun B τ H sh D l =>
  wps_of (ps_expr pe_wp hsa) (h B τ H sh _ fun v d B' Γ' H' p n r => l.nx B' Γ' τ H' p n.st n.ex)
theorem ws_if {c : Expr} {a b : List Stmt} {pos : Pos} (h : WT X F c Γ fun k Γ1 => if k = true then WSs X F a Γ1 ed else WSs X F b Γ1 ed) : WS X F (.If c a b pos) Γ ed := by
  intro B τ H sh D l
  refine wps_of (ps_if pt_wp pss_wp pss_wp) (h B τ H sh _ fun k B1 Γ1 H1 p n => ?_)
  cases k with
  | true => exact p B1 τ H1 n.st D (l.ext n.ex)
  | false => exact p B1 τ H1 n.st D (l.ext n.ex)
/-! ### names take values -/
theorem stt_set {K : PySem.W.Frag} {B : Hp} {τ : St} {H : Hp} (sh : Stt K F B Γ τ H) {i : Nat} {v : V} {sl : Sl} (hi : i < Γ.length) (r : SlR K F B H sl v)
    (hdt : ∀ od p, sl = .own od → v = .ref p → ¬ Ownd Γ τ p) : Stt K F B (Γ.set i (some sl)) (τ.set i (some v)) H := by
  refine ⟨sh.fr, sh.b0, sh.bH, sh.bn, sh.vH, sh.vH', sh.g, by rw [List.length_set, List.length_set]; exact sh.len, fun j sj hjw => ?_, fun j k oj ok p ha1 h2 h3 h4 => ?_⟩
  · by_cases e : i = j
    · subst e
      rw [List.getElem?_set_self hi] at hjw
      cases hjw
      exact ⟨v, List.getElem?_set_self (by rw [← sh.len]; exact hi), r⟩
    · rw [List.getElem?_set_ne e] at hjw ⊢
      exact sh.sl j sj hjw
  · by_cases ea1 : i = j
    · by_cases e2 : i = k
      · exact ea1.symm.trans e2
      · exfalso
        subst ea1
        rw [List.getElem?_set_self hi] at ha1
        rw [List.getElem?_set_self (by rw [← sh.len]; exact hi)] at h3
        rw [List.getElem?_set_ne e2] at h2 h4
        cases ha1
        cases h3
        exact hdt _ p rfl rfl ⟨k, ok, h2, h4⟩
    · by_cases e2 : i = k
      · exfalso
        subst e2
        rw [List.getElem?_set_self hi] at h2
        rw [List.getElem?_set_self (by rw [← sh.len]; exact hi)] at h4
        rw [List.getElem?_set_ne ea1] at ha1 h3
        cases h2
        cases h4
        exact hdt _ p rfl rfl ⟨j, oj, ha1, h3⟩
      · rw [List.getElem?_set_ne ea1] at ha1 h3
        rw [List.getElem?_set_ne e2] at h2 h4
        exact sh.dj j k oj ok p ha1 h2 h3 h4
theorem ownd_val {τ : St} {i : Nat} {v : V} {d : D} (hlw : Γ.length = τ.length) (hi : i < Γ.length) {a : Addr} (h : Ownd (Γ.set i (some (.val d))) (τ.set i (some v)) a) : Ownd Γ τ a := by
  obtain ⟨j, od, ha1, h2⟩ := h
  by_cases e : i = j
  · subst e
    rw [List.getElem?_set_self hi] at ha1
    cases ha1
  · rw [List.getElem?_set_ne e] at ha1 h2
    exact ⟨j, od, ha1, h2⟩
theorem wg_name {i : Nat} {x : Str} {pos : Pos} {d : D} {Φ : Gam → Prop} (hN : X.N.Nodup) (hi : X.N[i]? = some x) (hxw : Loc X.env.scope x) (hlw : i < Γ.length) (h : Φ (Γ.set i (some (.val d))))
    (hf : X.fn x = true ∨ X.env.scope.names.lookup x = some .local := by first | exact .inl rfl | exact .inr rfl | assumption) : WG X F (.Name x pos) [i] d Γ Φ := by
  intro B τ H v sh r Q qw
  refine wpg_of (pg_name hN hi hxw hf) (qw B _ _ H h ⟨stt_set sh hlw r (fun _ _ zw => nomatch zw), Ex.refl _, fun _ _ zw _ _ => zw, fun a zw => ownd_val sh.len hlw zw, fun _ zw => zw, fun _ _ zw => .inl zw, by rw [List.length_set], fun j hjw => ?_⟩)
  exact List.getElem?_set_ne (fun e => hjw (by rw [e]; simp))
theorem ws_set {i : Nat} {x : Str} {e : Expr} {pos pos' : Pos} (hN : X.N.Nodup) (hi : X.N[i]? = some x) (hxw : Loc X.env.scope x) (hlw : i < Γ.length) (h : WE X F e Γ fun d Γ1 => ed.nx (Γ1.set i (some (.val d))))
    (hsa : swapsWith e (some (.Name x pos')) pos.line X.env = pure false := by rfl) (hf : X.fn x = true ∨ X.env.scope.names.lookup x = some .local := by first | exact .inl rfl | exact .inr rfl | assumption) :
    WS X F (.Assign [.Name x pos'] e pos) Γ ed := by
  intro B τ H sh D l
  refine wps_of (ps_set hN hi hxw pe_wp hsa hf) (h B τ H sh _ fun v d B' Γ' H' p n r => ?_)
  exact l.nx B' _ _ H' p (stt_set n.st (by rw [n.st.len, ← sh.len]; exact hlw) r fun _ _ zw => nomatch zw) n.ex
theorem ws_setN {i : Nat} {x : Str} {e : Expr} {pos pos' : Pos} (hN : X.N.Nodup) (hi : X.N[i]? = some x) (hxw : Loc X.env.scope x) (hlw : i < Γ.length) (h : WN X F e Γ fun d Γ1 => ed.nx (Γ1.set i (some (.own d))))
    (hsa : swapsWith e (some (.Name x pos')) pos.line X.env = pure false := by rfl) (hf : X.fn x = true ∨ X.env.scope.names.lookup x = some .local := by first | exact .inl rfl | exact .inr rfl | assumption) :
    WS X F (.Assign [.Name x pos'] e pos) Γ ed := by
  intro B τ H sh D l
  refine wps_of (ps_set hN hi hxw pe_wp hsa hf) (h B τ H sh _ fun p o od B' Γ' H' hh n hb h0 nv no _ hob r => ?_)
  refine l.nx B' _ _ H' hh (stt_set n.st (by rw [n.st.len, ← sh.len]; exact hlw) ⟨p, o, rfl, hb, h0, nv, hob, r⟩ fun _ p' _ zw => ?_) n.ex
  cases zw
  exact no
/-! ### while -/
theorem ws_while {c : Expr} {body : List Stmt} {pos : Pos} (hp : PassesOwn (model X.prog X.w) X.A X.env X.xe) (I : Nat → Gam → Prop) (m : Nat) (h0 : I m Γ)
    (h : ∀ m Γ, I m Γ → WT X F c Γ fun k Γ1 => if k = true then WSs X F body Γ1 { nx := fun Γ2 => ∃ m', m' < m ∧ I m' Γ2, rt := ed.rt, bk := ed.nx, ct := fun Γ2 => ∃ m', m' < m ∧ I m' Γ2 } else ed.nx Γ1) :
    WS X F (.While c body [] pos) Γ ed := by
  intro B τ H sh D l
  refine wps_of (ps_while hp pt_wp pss_wp) ⟨fun m σ' H' => ∃ B' Γ', I m Γ' ∧ Stt X.K F B' Γ' σ' H' ∧ Ex B B', ⟨m, B, Γ, h0, sh, Ex.refl _⟩, ?_⟩
  rintro m σ' H' ⟨B', Γ', hI, s', e⟩
  refine h m Γ' hI B' σ' H' s' _ fun k B1 Γ1 H1 p n => ?_
  cases k with
  | false => exact l.nx B1 Γ1 σ' H1 p n.st (e.trans n.ex)
  | true =>
    refine ⟨fun σ2 H2 => ∃ m', m' < m ∧ ∃ B2 Γ2, I m' Γ2 ∧ Stt X.K F B2 Γ2 σ2 H2 ∧ Ex B B2, fun σ2 H2 ⟨m', hmw, qw⟩ => ⟨m', hmw, qw⟩, ?_⟩
    have le := e.trans n.ex
    exact p B1 σ' H1 n.st _ ⟨fun B2 Γ2 σ2 H2 ⟨m', hmw, hI'⟩ s2 e2 => ⟨m', hmw, B2, Γ2, hI', s2, le.trans e2⟩, fun B2 Γ2 σ2 H2 v d hr s2 e2 => l.rt B2 Γ2 σ2 H2 v d hr s2 (le.trans e2), fun B2 Γ2 σ2 H2 hn s2 e2 => l.nx B2 Γ2 σ2 H2 hn s2 (le.trans e2),
      fun B2 Γ2 σ2 H2 ⟨m', hmw, hI'⟩ s2 e2 => ⟨m', hmw, B2, Γ2, hI', s2, le.trans e2⟩⟩
/-! ### for -/
/-- the iterator J goes over ds, as long as what B tells stands -/
def ItD (K : PySem.W.Frag) (c : Cfg) (B0 : Hp) (J : It) (ds : List D) : Prop := ∀ (F : Fm) [F.c.Ok], F.c = c → ∀ (Γ : Gam) (B : Hp) (τ : St) (H : Hp), Stt K F B Γ τ H → Ex B0 B → ∀ i,
  (i < ds.length → J.go i H) ∧ (ds.length ≤ i → J.stop i H) ∧ (i < ds.length → ∀ x H', J.yld i H x H' → ∃ d B', ds[i]? = some d ∧ Nxt K F τ B Γ H B' Γ H' ∧ Rp K B' x d)
def wpI (X : Cx) (tg iter : Expr) : TI := fun τ H R => ∀ (pq : List (Addr × Obj)) (sh : Shared), Inv X pq τ H sh → wpAny (model X.prog X.w) X.A (eval iter X.env) (fun v s1 => wpAny (model X.prog X.w) X.A (pyIter v) (PIE X pq τ tg R) X.xe s1) X.xe sh
theorem pi_wp {X : Cx} {tg iter : Expr} : PI X tg iter (wpI X tg iter) := ⟨fun pq sh τ H R I h => h pq sh I⟩
theorem wpi_of {X : Cx} {tg iter : Expr} {t : TI} {τ : St} {H : Hp} {R : It → Hp → Prop} (h : PI X tg iter t) (qw : t τ H R) : wpI X tg iter τ H R := fun pq sh I => h.run pq sh τ H R I qw
def WI (X : Cx) (F : Fm) (tg iter : Expr) (Γ : Gam) (Φ : List D → Gam → Prop) : Prop := ∀ B τ H, Stt X.K F B Γ τ H → ∀ R : It → Hp → Prop,
  (∀ J ds B' Γ' H', Φ ds Γ' → Nxt X.K F τ B Γ H B' Γ' H' → ItD X.K F.c B' J ds → R J H') → wpI X tg iter τ H R
theorem ws_for [F.c.Ok] {tg iter : Expr} {body : List Stmt} {pos : Pos} (hp : PassesOwn (model X.prog X.w) X.A X.env X.xe) (hc : X.calm = true)
    (h : WI X F tg iter Γ fun ds Γ1 => ∃ I : Nat → Gam → Prop, I 0 Γ1 ∧ ∃ vs, (∀ i d Γ2, ds[i]? = some d → I i Γ2 → WG X F tg vs d Γ2 fun Γ3 => WSs X F body Γ3 { nx := I (i + 1), rt := ed.rt, bk := ed.nx, ct := I (i + 1) }) ∧ ∀ Γ2, I ds.length Γ2 → ed.nx Γ2)
    (hsa : ∀ x, foldedSetIterable iter X.env x = pure x := by intro _; rfl) : WS X F (.For tg iter body [] pos) Γ ed := by
  intro B τ H sh D l
  refine wps_of (ps_for hp hc pi_wp pg_wp pss_wp hsa) (h B τ H sh _ fun J ds B1 Γ1 H1 hh n it => ?_)
  obtain ⟨I, i0, vs, turn, done⟩ := hh
  refine ⟨fun i m σ' H' => m = ds.length - i ∧ i ≤ ds.length ∧ ∃ B' Γ', I i Γ' ∧ Stt X.K F B' Γ' σ' H' ∧ Ex B1 B', ⟨ds.length, by simp, Nat.zero_le _, B1, Γ1, i0, n.st, Ex.refl _⟩, ?_⟩
  rintro i m σ' H' ⟨rfl, hi, B', Γ', hI, s', e⟩
  obtain ⟨go, stop, yld⟩ := it F rfl Γ' B' σ' H' s' e i
  have lB := l.ext n.ex
  by_cases hlt : i < ds.length
  · refine .inr ⟨go hlt, fun σ2 H2 => ∃ B2 Γ2, I (i + 1) Γ2 ∧ Stt X.K F B2 Γ2 σ2 H2 ∧ Ex B1 B2, fun σ2 H2 qw => ⟨ds.length - (i + 1), by omega, rfl, hlt, qw⟩, fun x H2 y => ?_⟩
    obtain ⟨d, B2, hdt, n2, r⟩ := yld hlt x H2 y
    refine turn i d Γ' hdt hI B2 σ' H2 x n2.st r _ fun B3 Γ3 σ3 H3 p tk3 => ?_
    have le := (e.trans n2.ex).trans tk3.ex
    exact p B3 σ3 H3 tk3.st _ ⟨fun B4 Γ4 σ4 H4 qw s4 e4 => ⟨B4, Γ4, qw, s4, le.trans e4⟩, fun B4 Γ4 σ4 H4 v d qw s4 e4 r4 => lB.rt B4 Γ4 σ4 H4 v d qw s4 (le.trans e4) r4, fun B4 Γ4 σ4 H4 qw s4 e4 => lB.nx B4 Γ4 σ4 H4 qw s4 (le.trans e4), fun B4 Γ4 σ4 H4 qw s4 e4 => ⟨B4, Γ4, qw, s4, le.trans e4⟩⟩
  · have ei : i = ds.length := by omega
    subst ei
    exact .inl ⟨stop (Nat.le_refl _), lB.nx B' Γ' σ' H' (done Γ' hI) s' e⟩
theorem itd_list {K : PySem.W.Frag} {c : Cfg} {B : Hp} {a : Addr} {vs : List V} {ds : List D} (h : SqL K B a vs) (r : RpA K B vs ds) : ItD K c B (Itl K a) ds := by
  intro F _ _ Γ B' τ H sh e i
  have hq : SqL K H a vs := ex_l (fun b o zw => (sh.bH b o zw).1) (ex_l e h)
  refine ⟨fun hi => ?_, fun hi => ⟨vs, hq, by rw [r.len]; exact hi⟩, fun _ x H' y => ?_⟩
  · obtain ⟨v, evw, _⟩ := r.get (List.getElem?_eq_getElem hi)
    exact ⟨vs, v, hq, evw⟩
  · obtain ⟨rfl, y⟩ := y
    obtain ⟨d, ed, rd⟩ := r.getV (y vs hq)
    exact ⟨d, B', ed, Nxt.refl sh, Rp.mono e _ _ rd⟩
theorem itd_tup {K : PySem.W.Frag} {c : Cfg} {B : Hp} {a : Addr} {vs : List V} {ds : List D} (h : SqT K B a vs) (r : RpA K B vs ds) : ItD K c B (Itt K a) ds := by
  intro F _ _ Γ B' τ H sh e i
  have hq : SqT K H a vs := ex_t (fun b o zw => (sh.bH b o zw).1) (ex_t e h)
  refine ⟨fun hi => ?_, fun hi => ⟨vs, hq, by rw [r.len]; exact hi⟩, fun _ x H' y => ?_⟩
  · obtain ⟨v, evw, _⟩ := r.get (List.getElem?_eq_getElem hi)
    exact ⟨vs, v, hq, evw⟩
  · obtain ⟨rfl, y⟩ := y
    obtain ⟨d, ed, rd⟩ := r.getV (y vs hq)
    exact ⟨d, B', ed, Nxt.refl sh, Rp.mono e _ _ rd⟩
theorem itd_range {K : PySem.W.Frag} {c : Cfg} {B : Hp} {lo : Int} {n : Nat} : ItD K c B (Itr lo n) ((List.range n).map fun i => D.int (lo + (i : Nat))) := by
  intro F _ _ Γ B' τ H sh e i
  refine ⟨fun hi => ?_, fun hi => ?_, fun hi x H' y => ?_⟩
  · have qw : i < n := by simpa using hi
    exact qw
  · have qw : n ≤ i := by simpa using hi
    exact qw
  · obtain ⟨rfl, rfl⟩ := y
    have qw : i < n := by simpa using hi
    exact ⟨.int (lo + (i : Nat)), B', by simp [qw], Nxt.refl sh, .int _⟩
/-! ### what is walked: a list or a tuple; range -/
theorem wi_lst [F.c.Ok] {tg e : Expr} {Φ : List D → Gam → Prop} (h : WE X F e Γ fun d Γ1 => ∃ ds, d = .lst ds ∧ Φ ds Γ1) : WI X F tg e Γ Φ := by
  intro B τ H sh R qw
  refine wpi_of (pi_list pe_wp) (h B τ H sh _ fun v d B1 Γ1 H1 p n r => ?_)
  obtain ⟨ds, rfl, p⟩ := p
  cases r with
  | lst hsa ha => exact ⟨_, rfl, ⟨_, SqL.of (n.st.bH _ _ hsa).1⟩, qw _ ds B1 Γ1 H1 p n (itd_list (SqL.of hsa) ha)⟩
theorem wi_tup [F.c.Ok] {tg e : Expr} {Φ : List D → Gam → Prop} (h : WE X F e Γ fun d Γ1 => ∃ ds, d = .tup ds ∧ Φ ds Γ1) : WI X F tg e Γ Φ := by
  intro B τ H sh R qw
  refine wpi_of (pi_tup pe_wp) (h B τ H sh _ fun v d B1 Γ1 H1 p n r => ?_)
  obtain ⟨ds, rfl, p⟩ := p
  cases r with
  | tup hsa ha => exact ⟨_, rfl, ⟨_, .inl (n.st.rd hsa)⟩, qw _ ds B1 Γ1 H1 p n (itd_tup (.inl hsa) ha)⟩
theorem wi_scr [F.c.Ok] {tg e : Expr} {Φ : List D → Gam → Prop} (h : WE X F e Γ fun d Γ1 => ∃ ns : List Int, d = .scr ns ∧ Φ (ns.map D.int) Γ1) : WI X F tg e Γ Φ := by
  intro B τ H sh R qw
  refine wpi_of (pi_list pe_wp) (h B τ H sh _ fun v d B1 Γ1 H1 p n r => ?_)
  obtain ⟨ns, rfl, p⟩ := p
  cases r with
  | scr hsa => exact ⟨_, rfl, ⟨_, ex_l (fun b o zw => (n.st.bH b o zw).1) hsa⟩, qw _ _ B1 Γ1 H1 p n (itd_list hsa (RpA.ofInts ns))⟩
theorem wi_range1 [F.c.Ok] {tg e : Expr} {p pos : Pos} {Φ : List D → Gam → Prop} (hg : Gl X "range") (hmw : X.mg "range" = none) (h : WE X F e Γ fun d Γ1 => ∃ j : Int, d = .int j ∧ -(2 ^ 62) ≤ j ∧ j < 2 ^ 62 ∧ Φ ((List.range j.toNat).map fun i => D.int (0 + (i : Nat))) Γ1)
    (hsa : starEach [e] X.env = [(false, eval e X.env)] := by rfl) : WI X F tg (.Call (.Name "range" p) [e] [] pos) Γ Φ := by
  intro B τ H sh R qw
  have hs' : starEach (e :: []) X.env = (false, eval e X.env) :: starEach [] X.env := by rw [hsa]; rfl
  refine wpi_of (pi_range1 hg hmw (pa_cons pe_wp pa_nil hs') hsa) (h B τ H sh _ fun v d B1 Γ1 H1 p n r => ?_)
  obtain ⟨j, rfl, ha1, h2, p⟩ := p
  cases r
  exact ⟨j, rfl, ha1, h2, qw _ _ B1 Γ1 H1 p n itd_range⟩

end

/-! ### what a def promises -/
def start0 (N : List Str) (ds : List D) : Gam := ds.map (fun d => some (Sl.val d)) ++ List.replicate (N.length - ds.length) none
theorem stt_start {K : PySem.W.Frag} {c : Cfg} {B H : Hp} {N : List Str} {vs : List V} {ds : List D} (r : RpA K B vs ds) (bH : ∀ a o, B a = some o → H a = some o ∧ ¬ c.V a) (vH : ∀ a, c.V a → H a ≠ none) (g : c.G H) :
    Stt K ⟨c, H, B⟩ B (start0 N ds) (start N vs) H := by
  have hlw := r.len
  have sl : ∀ (i : Nat) (sh : Sl), (start0 N ds)[i]? = some (some sh) → ∃ d v, sh = .val d ∧ (start N vs)[i]? = some (some v) ∧ Rp K B v d := by
    intro i sh h
    unfold start0 at h
    by_cases hi : i < ds.length
    · rw [List.getElem?_append_left (by simpa using hi), List.getElem?_map] at h
      cases e : ds[i]? with
      | none =>
        rw [e] at h
        cases h
      | some d =>
        rw [e] at h
        cases h
        obtain ⟨v, evw, rv⟩ := r.get e
        refine ⟨d, v, rfl, ?_, rv⟩
        unfold start
        rw [List.getElem?_append_left (by rw [List.length_map, hlw]; exact hi), List.getElem?_map, evw]
        rfl
    · rw [List.getElem?_append_right (by simpa using hi)] at h
      rw [List.getElem?_replicate] at h
      split at h
      · cases h
      · cases h
  refine ⟨fun a o h _ => h, Ex.refl _, bH, fun a o h => .inl h, vH, vH, g, ?_, fun i sh h => ?_, fun i j oi oj p ha1 _ _ _ => ?_⟩
  · unfold start0 start
    simp [hlw]
  · obtain ⟨d, v, rfl, e, rv⟩ := sl i sh h
    exact ⟨v, e, rv⟩
  · obtain ⟨d, v, e, _⟩ := sl i _ ha1
    cases e
theorem defn {P : Program} {w : World} {K : PySem.W.Frag} {mg : Str → Option Value} {base : Heap} {x qual : Str} {st : Stmt} {f : Addr} {fd : FuncData} {N ps : List Str} {k : Nat} {sp : DS} {c : Cfg} (Fn : Fun K x qual st f fd) (S : FnScope N ps (defScope st))
    (body : ∀ (cdv : Value) (A : Around) (outer : List Env) (sh : Shared) (H : Hp) (E : XK), Room k (A.deeper (envOfC qual (defScope st) sh.heap.objs.size f cdv)) →
      ∀ (H0 B0 : Hp) (ds : List D) (Φ : Out → Prop), ds.length = ps.length → sp.run ds Φ → Rs (cxOf (L2.CX P w) P w K mg base N qual (defScope st) f cdv A outer sh H E) ⟨c, H0, B0⟩ (fun C => Φ (.exc C)) →
      WSs (cxOf (L2.CX P w) P w K mg base N qual (defScope st) f cdv A outer sh H E) ⟨c, H0, B0⟩ (defBody st) (start0 N ds) { nx := fun _ => Φ (.ret .non), rt := fun d => Φ (.ret d) }) :
    FnOk P w K mg base (L2.CX P w) (k + 1) f fd ps (SpD K c ps.length sp) := by
  refine Fn.okX S (fun vs H Q E h => h.len) (fun cdv A outer sh H vs Q E hr h => ?_)
  obtain ⟨B, ds, hlw, bH, vH, g, r, h⟩ := h
  refine ⟨_, pss_wp, ?_⟩
  refine body cdv A outer sh H E hr H B ds (fun o => match o with
    | .ret d => ∀ v B' H', Pst c B H B' H' → Rp K B' v d → Q v H'
    | .exc C => ∀ B' H', Pst c B H B' H' → C.go E B' H') hlw h ⟨E, takes_of rfl rfl rfl rfl, fun C B' H' hxw hp => hxw B' H' hp⟩ B _ H (stt_start r bH vH g) _ ⟨fun B' Γ σ' H' p s' e => ?_, fun B' Γ σ' H' v d p s' e rv => ?_, fun _ _ _ _ p => p.elim, fun _ _ _ _ p => p.elim⟩
  · exact p _ B' H' s'.pst .non
  · exact p v B' H' s'.pst rv
/-- the def x stands in the module with the promise sp, at level k -/
structure Gd (P : Program) (w : World) (K : PySem.W.Frag) (mg : Str → Option Value) (base : Heap) (x : Str) (k : Nat) (c : Cfg) (ps : List Str) (sp : DS) : Prop where
  ex : ∃ (f : Addr) (fd : FuncData), FnOk P w K mg base (L2.CX P w) k f fd ps (SpD K c ps.length sp) ∧ mg x = some (.ref f) ∧ PySem.W.keepIn K (.ref f) = true ∧ Binds K fd ps []
theorem Gd.dfn {X : Cx} {x : Str} {k j : Nat} {c : Cfg} {ps : List Str} {sp : DS} (g : Gd X.prog X.w X.K X.mg X.base x k c ps sp) (hr : Room j X.A) (h : k ≤ j) : Dfn X x c ps sp := by
  obtain ⟨f, fd, a, b, d, e⟩ := g.ex
  exact ⟨k, f, fd, a, hr.mono h, b, d, e⟩
end L2.Px
/-! PW 5: sorted(..) of a list or a tuple of alike data. -/
namespace L2.Px
open PySem PySem.Spec
open PyProof.Rows

variable [Wld]
section
variable {prog : Program} {w : World} {A : Around} {E : Value → Shared → Prop} {sh : Shared}
open PySem.W PySem.Calls
theorem gather_tup {l : Addr} {vs : List Value} {Q : List Value → Shared → Prop} (hlw : IsTup sh.heap l vs.toArray) (hsz : vs.length ≤ sizeLine)
    (h : Q vs { sh with heap := (sh.heap.push (seqObj "list" #[] 0)).update sh.heap.objs.size (Obj.mapSeq (· ++ vs.toArray)) }) :
    wpAny (model prog w) A (collect (.ref l)) Q E sh := by
  obtain ⟨o, hob, hc, n, hdt⟩ := id hlw
  unfold collect
  refine wpAny_bind (wpAny_runValue (codeAny_builtin entry_proto_collect' ?g))
  case g =>
  show wpAny _ _ (newList [] >>= fun y => again (.builtin "list.__iadd__" ⟨[y, .ref l], []⟩)) _ _ sh
  refine wpAny_bind (wpAny_newList (wpAny_pure ⟨Code.quiet_builtin _ (by decide +kernel), codeAny_builtin entry_list_iadd' ?g⟩))
  case g =>
  show wpAny _ _ (Builtin.List.listExtendWith (.ref (Array.size sh.heap.objs)) (.ref l) (.ref (Array.size sh.heap.objs))) _ _ _
  unfold Builtin.List.listExtendWith
  have old : Heap.get? (sh.heap.push (seqObj "list" #[] 0)) l = some o := by exact Heap.get?_push_of_some _ hob
  refine wpAny_bind (wpAny_typeOf (T := "tuple") (by exact ⟨o, old, hc⟩) ?g)
  case g =>
  have htw : ((Value.type "tuple" == Value.type "list") || (Value.type "tuple" == Value.type "tuple")) = true := by rfl
  rw [if_pos (by first | exact htw | rfl | (simp [htw]))]
  refine wpAny_bind (listItems_at old hdt ?g)
  case g =>
  have hnew : Heap.get? (sh.heap.push (seqObj "list" #[] 0)) (Array.size sh.heap.objs) = some (seqObj "list" #[] 0) := by exact Heap.get?_push_size _ rfl
  refine wpAny_bind (listItems_at (xs := (#[] : Array Value)) (n := 0) hnew rfl ?g)
  case g =>
  rw [if_neg (by simp)]
  refine wpAny_bind (listUpdate_at (xs := (#[] : Array Value)) (n := 0) hnew rfl ?g (by exact Nat.zero_le _) ?zw)
  case zw =>
    show ((#[] : Array Value) ++ vs.toArray).size ≤ sizeLine + 1
    simp only [Array.size_append, List.size_toArray, List.length_nil]
    omega
  case g =>
  refine wpAny_pure ?g
  case g =>
  show wpAny (model prog w) A (load (Array.size sh.heap.objs) >>= fun o => match o.data with
    | .seq xs _ => pure xs.toList
    | _ => unsupported "internal:collect") Q E _
  refine wpAny_bind (wpAny_load (get?_update_seq hnew _) ?g)
  case g =>
  have e : ((#[] : Array Value) ++ vs.toArray).toList = vs := by simp
  show wpAny _ _ (pure (((#[] : Array Value) ++ vs.toArray).toList)) Q E _
  rw [e]
  exact wpAny_pure h
theorem sorted_tup {κ : PyProof.Rows.KeyKind} {l : Addr} {vs : List Value} {Q : Value → Shared → Prop} (hlw : IsTup sh.heap l vs.toArray)
    (S : SortsAt prog w A.in1.in1 { sh with heap := sortingHeap (copyHeap sh.heap vs) (sh.heap.objs.size + 1) vs } κ vs) (hL : vs.length ≤ sizeLine)
    (h : Q (.ref (sh.heap.objs.size + 1)) { sh with heap := sortedAll sh.heap vs (sortVals κ false vs vs).toArray }) : wpAny (model prog w) A (call (.builtin "sorted") [.ref l]) Q E sh := by
  refine call_function_entry_kw (kw := []) kind_sorted plain_sorted entry_sorted (args_sorted1 _) ?g
  case g =>
  unfold Builtin.«sorted»
  refine wpAny_bind (m := checkCount "sorted" 1 1 _) (wpAny_pure ?g)
  case g =>
  refine wpAny_bind (gather_tup hlw hL ?g)
  case g =>
  refine wpAny_bind (wpAny_newList (by
    have size1 : Array.size ((sh.heap.push (seqObj "list" #[] 0)).update sh.heap.objs.size (Obj.mapSeq (· ++ vs.toArray))).objs = sh.heap.objs.size + 1 := (by rw [Heap.size_update, size_push'])
    show wpAny _ _ _ _ _ ({ sh with heap := copyHeap sh.heap vs } : Shared)
    rw [size1]
    refine wpAny_bind (wpAny_holding (wpAny_call_entry_kw (kw := []) slot_list_sort (by exact ⟨_, copyHeap_at sh.heap vs, rfl⟩) entry_list_sort ?b (args_list_sort _)))
    case b =>
    show wpAny (model prog w) A.in1.in1 (Builtin.«list.sort» ⟨[.ref (sh.heap.objs.size + 1)], []⟩) _ _ _
    refine list_sort_vals (s := { sh with heap := copyHeap sh.heap vs }) (copyHeap_at sh.heap vs) S hL ?_
    exact ⟨_, rfl, wpAny_pure ⟨_, rfl, h⟩⟩) hL)
end
end L2.Px
/-! PW 6: built-ins, comparisons, subscripts, tests, a def's own lists. -/
namespace L2.Px
open PySem PySem.Spec
open PyProof.Rows

variable [Wld]
section
variable {X : Cx} {F : Fm} {Γ : Gam} {Φ : D → Gam → Prop}
/-! ### calls of built-ins -/
def CallD (K : PySem.W.Frag) (r : List V → Hp → VK → Prop) (ds : List D) (Ψ : D → Prop) : Prop := ∀ (F : Fm) [F.c.Ok] (Γ : Gam) (B : Hp) (τ : St) (H : Hp) (vs : List V), Stt K F B Γ τ H → RpA K B vs ds →
  ∀ Q : VK, (∀ v d B' H', Ψ d → Nxt K F τ B Γ H B' Γ H' → Rp K B' v d → Q v H') → r vs H Q
theorem we_callB [F.c.Ok] {id : String} {r : List V → Hp → VK → Prop} {x : Str} {p pos : Pos} {e : Expr} {es : List Expr} (hc : CallR X (.builtin id) r) (hg : Gl X x) (hmw : X.mg x = none) (hv : bootBuiltins x = some (.builtin id))
    (h : WA X F (e :: es) Γ fun ds Γ1 => CallD X.K r ds fun d => Φ d Γ1) (hn : x ≠ "__name__" := by decide) (hdb : (x == ("__debug__" : Str)) = false := by decide)
    (hen : starEach (e :: es) X.env = (false, eval e X.env) :: starEach es X.env := by rfl) (hpl : (backTo pos (starEach es X.env)).any (·.1) = false := by rfl) : WE X F (.Call (.Name x p) (e :: es) [] pos) Γ Φ := by
  intro B τ H sh Q qw
  refine wp_of (pe_callB hc hg hmw hv pa_wp hn hdb hen hpl) (h B τ H sh _ fun vs ds B1 Γ1 H1 p n r => ?_)
  exact p F Γ1 B1 τ H1 vs n.st r Q fun v d B' H' p' n' r' => qw v d B' Γ1 H' p' (n.trans n') r'
theorem we_callTy [F.c.Ok] {T : String} {r : List V → Hp → VK → Prop} {x : Str} {p pos : Pos} {e : Expr} {es : List Expr} (hc : CallR X (.type T) r) (hg : Gl X x) (hmw : X.mg x = none) (hv : bootBuiltins x = some (.type T))
    (h : WA X F (e :: es) Γ fun ds Γ1 => CallD X.K r ds fun d => Φ d Γ1) (hn : x ≠ "__name__" := by decide) (hdb : (x == ("__debug__" : Str)) = false := by decide)
    (hen : starEach (e :: es) X.env = (false, eval e X.env) :: starEach es X.env := by rfl) (hpl : (backTo pos (starEach es X.env)).any (·.1) = false := by rfl) : WE X F (.Call (.Name x p) (e :: es) [] pos) Γ Φ := by
  intro B τ H sh Q qw
  refine wp_of (pe_callTy hc hg hmw hv pa_wp hn hdb hen hpl) (h B τ H sh _ fun vs ds B1 Γ1 H1 p n r => ?_)
  exact p F Γ1 B1 τ H1 vs n.st r Q fun v d B' H' p' n' r' => qw v d B' Γ1 H' p' (n.trans n') r'
variable {K : PySem.W.Frag} {Ψ : D → Prop}
def rLenX (K : PySem.W.Frag) : List V → Hp → VK → Prop := fun xs H Q => ∃ p ys, xs = [.ref p] ∧ (SqL K H p ys ∨ SqT K H p ys) ∧ Q (.int ys.length) H
theorem cr_lenX : CallR X (.builtin "len") (rLenX X.K) := call_len_seq
theorem cd_len {ds : List D} {d : D} (hdt : d = .lst ds ∨ d = .tup ds) (h : Ψ (.int ds.length)) : CallD K (rLenX K) [d] Ψ := by
  intro F _ Γ B τ H vs sh r Q qw
  rcases hdt with rfl | rfl
  · cases r with
    | cons r1 r2 =>
    cases r2
    cases r1 with
    | lst hsa ha => exact ⟨_, _, rfl, .inl (SqL.of (sh.bH _ _ hsa).1), qw _ _ _ _ h (Nxt.refl sh) (by rw [ha.len]; exact .int _)⟩
  · cases r with
    | cons r1 r2 =>
    cases r2
    cases r1 with
    | tup hsa ha => exact ⟨_, _, rfl, .inr (.inl (sh.rd hsa)), qw _ _ _ _ h (Nxt.refl sh) (by rw [ha.len]; exact .int _)⟩
theorem cd_lenScr {ns : List Int} (h : Ψ (.int ns.length)) : CallD K (rLenX K) [.scr ns] Ψ := by
  intro F _ Γ B τ H vs sh r Q qw
  cases r with
  | cons r1 r2 =>
  cases r2
  cases r1 with
  | scr hsa => exact ⟨_, _, rfl, .inl (ex_l (fun b o zw => (sh.bH b o zw).1) hsa), qw _ _ _ _ h (Nxt.refl sh) (by rw [List.length_map]; exact .int _)⟩
theorem RpA.bools {B : Hp} : ∀ {bs : List Bool} {vs : List V}, RpA K B vs (bs.map D.bl) → vs = bs.map V.bl
  | [], _, h => by cases h; rfl
  | n :: ns, _, h => by
    cases h with
    | cons ha1 h2 =>
      cases ha1
      rw [RpA.bools h2]; rfl
theorem cd_all {bs : List Bool} (h : Ψ (.bl (bs.all id))) : CallD K (rAll K) [.lst (bs.map D.bl)] Ψ := by
  intro F _ Γ B τ H vs sh r Q qw
  cases r with
  | cons r1 r2 =>
  cases r2
  cases r1 with
  | lst hsa ha =>
    have e := ha.bools
    subst e
    exact ⟨_, bs, rfl, SqL.of (sh.bH _ _ hsa).1, qw _ _ _ _ h (Nxt.refl sh) (.bl _)⟩
theorem cd_any {bs : List Bool} (h : Ψ (.bl (bs.any id))) : CallD K (rAny K) [.lst (bs.map D.bl)] Ψ := by
  intro F _ Γ B τ H vs sh r Q qw
  cases r with
  | cons r1 r2 =>
  cases r2
  cases r1 with
  | lst hsa ha =>
    have e := ha.bools
    subst e
    exact ⟨_, bs, rfl, SqL.of (sh.bH _ _ hsa).1, qw _ _ _ _ h (Nxt.refl sh) (.bl _)⟩
def rListX (K : PySem.W.Frag) : List V → Hp → VK → Prop := fun xs H Q => ∃ p ys, xs = [.ref p] ∧ (SqL K H p ys ∨ SqT K H p ys) ∧ ∀ l, H l = none → Q (.ref l) (upd H l (.lst ys))
theorem cr_listX : CallR X (.type "list") (rListX X.K) := call_list_of
theorem cd_list {ds : List D} {d : D} (hdt : d = .lst ds ∨ d = .tup ds) (h : Ψ (.lst ds)) : CallD K (rListX K) [d] Ψ := by
  intro F _ Γ B τ H vs sh r Q qw
  rcases hdt with rfl | rfl
  · cases r with
    | cons r1 r2 =>
    cases r2
    cases r1 with
    | @lst a ys _ hsa ha =>
      refine ⟨a, ys, rfl, .inl (SqL.of (sh.bH _ _ hsa).1), fun l hlw => ?_⟩
      have n := sh.frozen (o := .lst ys) hlw
      exact qw _ _ _ _ h n (.lst upd_same (RpA.mono n.ex _ _ ha))
  · cases r with
    | cons r1 r2 =>
    cases r2
    cases r1 with
    | @tup a ys _ hsa ha =>
      refine ⟨a, ys, rfl, .inr (.inl (sh.rd hsa)), fun l hlw => ?_⟩
      have n := sh.frozen (o := .lst ys) hlw
      exact qw _ _ _ _ h n (.lst upd_same (RpA.mono n.ex _ _ ha))
def rTupX (K : PySem.W.Frag) : List V → Hp → VK → Prop := fun xs H Q => ∃ p ys, xs = [.ref p] ∧ ((SqL K H p ys ∧ ∀ l, H l = none → Q (.ref l) (upd H l (.tup ys))) ∨ (SqT K H p ys ∧ Q (.ref p) H))
theorem cr_tupX : CallR X (.type "tuple") (rTupX X.K) := call_tuple_of
theorem cd_tuple {ds : List D} {d : D} (hdt : d = .lst ds ∨ d = .tup ds) (h : Ψ (.tup ds)) : CallD K (rTupX K) [d] Ψ := by
  intro F _ Γ B τ H vs sh r Q qw
  rcases hdt with rfl | rfl
  · cases r with
    | cons r1 r2 =>
    cases r2
    cases r1 with
    | @lst a ys _ hsa ha =>
      refine ⟨a, ys, rfl, .inl ⟨SqL.of (sh.bH _ _ hsa).1, fun l hlw => ?_⟩⟩
      have n := sh.frozen (o := .tup ys) hlw
      exact qw _ _ _ _ h n (.tup (.inl upd_same) (RpA.mono n.ex _ _ ha))
  · cases r with
    | cons r1 r2 =>
    cases r2
    cases r1 with
    | @tup a ys _ hsa ha => exact ⟨a, ys, rfl, .inr ⟨.inl (sh.rd hsa), qw _ _ _ _ h (Nxt.refl sh) (.tup hsa ha)⟩⟩
def rAbsX : List V → Hp → VK → Prop := fun xs H Q => ∃ i, xs = [.int i] ∧ Q (.int (if i < 0 then -i else i)) H
theorem cr_absX : CallR X (.builtin "abs") rAbsX := call_abs
theorem cd_abs {i : Int} (h : Ψ (.int (if i < 0 then -i else i))) : CallD K rAbsX [.int i] Ψ := by
  intro F _ Γ B τ H vs sh r Q qw
  cases r with
  | cons r1 r2 =>
  cases r2
  cases r1
  exact ⟨i, rfl, qw _ _ _ _ h (Nxt.refl sh) (.int _)⟩
def rMin2X : List V → Hp → VK → Prop := fun xs H Q => ∃ i j, xs = [.int i, .int j] ∧ Q (.int (if j < i then j else i)) H
theorem cr_min2X (hc : X.calm = true) : CallR X (.builtin "min") rMin2X := call_min2 hc
theorem cd_min2 {i j : Int} (h : Ψ (.int (if j < i then j else i))) : CallD K rMin2X [.int i, .int j] Ψ := by
  intro F _ Γ B τ H vs sh r Q qw
  cases r with
  | cons r1 r2 =>
  cases r2 with
  | cons r2 r3 =>
  cases r3
  cases r1
  cases r2
  exact ⟨i, j, rfl, qw _ _ _ _ h (Nxt.refl sh) (.int _)⟩
def rIntX : List V → Hp → VK → Prop := fun xs H Q => (∃ i, xs = [.int i] ∧ Q (.int i) H) ∨ ∃ k, xs = [.bl k] ∧ Q (.int (if k then 1 else 0)) H
theorem cr_intX : CallR X (.type "int") rIntX := call_int1
theorem cd_int {i : Int} (h : Ψ (.int i)) : CallD K rIntX [.int i] Ψ := by
  intro F _ Γ B τ H vs sh r Q qw
  cases r with
  | cons r1 r2 =>
  cases r2
  cases r1
  exact .inl ⟨i, rfl, qw _ _ _ _ h (Nxt.refl sh) (.int _)⟩
/-! ### sorted -/
theorem D.pyA_map : ∀ ds : List D, D.pyA ds = ds.map D.py
  | [] => rfl
  | d :: ds => by
    show d.py :: D.pyA ds = _
    rw [D.pyA_map ds]
    rfl
noncomputable def D.srt (ds : List D) : List D := ds.mergeSort (PySem.W.dataLe false D.py)
structure SrtOk (ds : List D) : Prop where
  pl : D.plA ds = true
  al : PySem.W.AllAlike (ds.map D.py)
  so : PySem.W.Sortable (ds.map D.py)
  dp : ∀ d ∈ ds, d.py.depth ≤ 60
  sz : ds.length ≤ 100000
def rSortD (K : PySem.W.Frag) : List V → Hp → VK → Prop := fun vs H Q => ∃ (a : Addr) (xs : List V) (ds : List D), vs = [.ref a] ∧ (SqL K H a xs ∨ SqT K H a xs) ∧ SrtOk ds ∧ ∃ B, Ex B H ∧ RpA K B xs ds ∧
  ∀ ys p, RpA K B ys (D.srt ds) → H p = none → Q (.ref p) (upd H p (.lst ys))
theorem each_of {H : Hp} : ∀ {xs : List V} {us : List Value} {ds : List D}, Vals xs us → RpA K H xs ds → PySem.W.EachIs (fun v d => ∃ x, RelV x v ∧ Rp K H x d) us ds
  | _, _, _, .nil, h => by cases h; exact .nil
  | _, _, _, .cons r t, h => by
    cases h with
    | cons ha1 h2 => exact .cons ⟨_, r, ha1⟩ (each_of t h2)
theorem each_to {H : Hp} {us : List Value} {ds : List D} (h : PySem.W.EachIs (fun v d => ∃ x, RelV x v ∧ Rp K H x d) us ds) : ∃ xs, Vals xs us ∧ RpA K H xs ds := by
  induction h with
  | nil => exact ⟨[], .nil, .nil⟩
  | cons ha1 _ ih =>
    obtain ⟨x, r, qw⟩ := ha1
    obtain ⟨xs, rs, qs⟩ := ih
    exact ⟨x :: xs, .cons r rs, .cons qw qs⟩
theorem RpA.plD {H : Hp} : ∀ {xs : List V} {ds : List D}, D.plA ds = true → RpA K H xs ds → ∀ d ∈ ds, d.pl = true
  | _, [], _, _, _, hdt => absurd hdt (by simp)
  | _, d :: ds, p, h, e, hen => by
    have qw : d.pl = true ∧ D.plA ds = true := by
      have zw : (d.pl && D.plA ds) = true := p
      simpa using zw
    cases h with
    | cons ha1 h2 =>
      rcases List.mem_cons.mp hen with rfl | hen
      · exact qw.1
      · exact RpA.plD qw.2 h2 e hen
theorem each_reads {H : Hp} {pq : List (Addr × Obj)} {τ : St} {sh : Shared} (I : Inv X pq τ H sh) {us : List Value} {ds : List D} (h : PySem.W.EachIs (fun v d => ∃ x, RelV x v ∧ Rp X.K H x d) us ds) :
    (∀ d ∈ ds, d.pl = true) → PySem.W.EachIs (fun v d => ∃ as, Reads sh.heap v (D.py d) as) us ds := by
  induction h with
  | nil => exact fun _ => .nil
  | cons ha1 _ ih =>
    intro pl
    obtain ⟨x, r, qw⟩ := ha1
    exact .cons (Dp.reads I _ x _ (Rp.dp _ x (pl _ (by simp)) qw) r) (ih fun d hdt => pl d (List.mem_cons_of_mem _ hdt))
theorem cr_sortD {k : Nat} (hr : Room k X.A) : CallR X (.builtin "sorted") (rSortD X.K) := by
  intro pq sh τ H vs us Q I r h
  obtain ⟨a, xs, ds, rfl, hsa, ok, B, eB, ra, qw⟩ := h
  rw [Vals.ref1 r]
  have hu : ∀ d, d ∈ ds → X.A.units + 2 + (D.py d).depth < cLine := fun d hdt => by
    have ha1 := ok.dp d hdt
    have h2 := hr.un
    omega
  have fin : ∀ its : List Value, Vals xs its → PySem.W.EachIs (fun v d => ∃ x, RelV x v ∧ Rp X.K B x d) its ds → ∀ out : List Value, PySem.W.EachIs (fun v d => ∃ x, RelV x v ∧ Rp X.K B x d) out (ds.mergeSort (PySem.W.dataLe false D.py)) →
      EP X pq τ Q (.ref (sh.heap.objs.size + 1)) { sh with heap := sortedAll sh.heap its out.toArray } := by
    intro its rv e out eo
    obtain ⟨ys, ry, qy⟩ := each_to eo
    obtain ⟨ep, hep⟩ := PyProof.Rows.sortedAll_at sh.heap its out.toArray
    have hlen : ys.length ≤ sizeLine := by
      rw [qy.len, List.length_mergeSort]
      exact Nat.le_trans ok.sz (by decide)
    refine ⟨.ref _, upd H (sh.heap.objs.size + 1) (.lst ys), I.laid (t' := sh.toks) (fun _ _ => PyProof.Rows.sortedAll_old) (Nat.le_succ _) ?_, rfl, qw ys _ qy (I.hok.fresh (Nat.le_succ _))⟩
    exact ⟨hlen, out, ep, ry, hep⟩
  rcases hsa with hsa | hsa
  · obtain ⟨its, rv, hlw, hzz⟩ := I.list hsa
    have e := each_of rv ra
    have er := each_reads I (e.mono fun _ _ ⟨x, r, zw⟩ => ⟨x, r, Rp.mono eB _ _ zw⟩) (RpA.plD ok.pl ra)
    exact PySem.W.sorted_data (R := fun v d => ∃ x, RelV x v ∧ Rp X.K B x d) hlw.isList e er ok.al ok.so (Nat.le_trans ok.sz (by decide)) hu fun out _ eo => fin its rv e out eo
  · obtain ⟨its, rv, hlw, hzz⟩ := I.tuple hsa
    have e := each_of rv ra
    have er := each_reads I (e.mono fun _ _ ⟨x, r, zw⟩ => ⟨x, r, Rp.mono eB _ _ zw⟩) (RpA.plD ok.pl ra)
    have er' : PySem.W.EachIs (fun v b => ∃ as, Reads (PySem.W.sortingHeap (PySem.W.copyHeap sh.heap its) (sh.heap.objs.size + 1) its) v (D.py b) as) its ds := er.mono fun _ _ ⟨as, r⟩ => ⟨as, PyProof.Rows.Reads.keeps (fun _ _ => PySem.W.sorting_copy_old) r⟩
    have em := PySem.W.each_map (R := fun v d => ∃ as, Reads (PySem.W.sortingHeap (PySem.W.copyHeap sh.heap its) (sh.heap.objs.size + 1) its) v d as) D.py er'
    have hz' : its.length ≤ sizeLine := by rw [← rv.length]; exact hzz
    refine sorted_tup hlw (PySem.W.SortsAt.data (s := { sh with heap := PySem.W.sortingHeap (PySem.W.copyHeap sh.heap its) (sh.heap.objs.size + 1) its }) em ok.al ok.so (PySem.W.bound_map (A := X.A.in1.in1) (fun b hb => ?_))) hz' ?_
    · exact hu b hb
    · exact fin its rv e _ (PySem.W.sortVals_data false e er' ok.al)
theorem cd_sorted {ds : List D} {d : D} (hdt : d = .lst ds ∨ d = .tup ds) (ok : SrtOk ds) (h : Ψ (.lst (D.srt ds))) : CallD K (rSortD K) [d] Ψ := by
  intro F _ Γ B τ H vs sh r Q qw
  have eH : Ex B H := fun b o zw => (sh.bH b o zw).1
  rcases hdt with rfl | rfl
  · cases r with
    | cons r1 r2 =>
    cases r2
    cases r1 with
    | @lst a ys _ hsa ha =>
      refine ⟨a, ys, ds, rfl, .inl (SqL.of (eH _ _ hsa)), ok, B, eH, ha, fun zs p rz hp => ?_⟩
      have n := sh.frozen (o := .lst zs) hp
      exact qw _ _ _ _ h n (.lst upd_same (RpA.mono n.ex _ _ rz))
  · cases r with
    | cons r1 r2 =>
    cases r2
    cases r1 with
    | @tup a ys _ hsa ha =>
      refine ⟨a, ys, ds, rfl, .inr (.inl (rd_ex eH hsa)), ok, B, eH, ha, fun zs p rz hp => ?_⟩
      have n := sh.frozen (o := .lst zs) hp
      exact qw _ _ _ _ h n (.lst upd_same (RpA.mono n.ex _ _ rz))
/-! ### isinstance of a built-in class -/
def D.tyN : D → String
  | .non => "NoneType"
  | .bl _ => "bool"
  | .int _ => "int"
  | .str _ => "str"
  | .tup _ => "tuple"
  | .lst _ => "list"
  | .dct => "dict"
  | .dix => "dict"
  | _ => ""
def D.plainTy : D → Bool
  | .obj _ => false
  | .ty _ => false
  | .exc _ => false
  | .scr _ => false
  | .ntup _ => false
  | .dic _ _ => false
  | _ => true
def D.isDix : D → Bool
  | .dix => true
  | _ => false
theorem Rp.tyx {H : Hp} {d : D} {v : V} (p : d.plainTy = true) (n : d.isDix = false) (r : Rp K H v d) : TyX K H v (.type d.tyN) := by
  cases r with
  | non => exact .base .non
  | bl b => exact .base (.bl b)
  | int i => exact .base (.int i)
  | str x => exact .base (.str x)
  | tup h _ =>
    rcases h with h | ⟨o, h⟩
    · exact .base (.tup h)
    · exact .fTuple h
  | ntup h _ _ => exact absurd p (fun zw => nomatch zw)
  | dic h _ _ _ => exact absurd p (fun zw => nomatch zw)
  | lst h _ => exact .base (.lst h)
  | dct h => exact .base (.dK h)
  | dix h => cases n
  | scr h => exact absurd p (fun zw => nomatch zw)
  | obj a => exact absurd p (fun zw => nomatch zw)
  | ty n => exact absurd p (fun zw => nomatch zw)
  | exc h => exact absurd p (fun zw => nomatch zw)
/-- isinstance(x, c), also of a dict of which the class alone is known -/
def rIsiY (K : PySem.W.Frag) : List V → Hp → VK → Prop := fun xs H Q => rIsi K xs H Q ∨ ∃ (a : Addr) (c : V) (u : Value) (b : Bool), xs = [.ref a, c] ∧ ClsV c u ∧ H a = some (DO a) ∧ PySem.W.kitOne K (.type "dict") u = some b ∧ Q (.bl b) H
theorem cr_isiX : CallR X (.builtin "isinstance") (rIsiY X.K) := by
  intro pins s σ H xs us Q I r h
  rcases h with h | h
  · exact call_isi pins s σ H xs us Q I r h
  obtain ⟨a, c, u, b, rfl, k, ha, e, q⟩ := h
  obtain ⟨u1, u2, rfl, r1, r2⟩ := vals2 r
  have e2 := k.eq r2
  subst e2
  cases (show u1 = Value.ref a from r1)
  obtain ⟨⟨o, ho, hc⟩, _, _⟩ := I.hok a _ ha
  exact PySem.W.kia_one PySem.W.kitx_dict I.kIn ⟨o, ho, hc⟩ e (fun z => nomatch z) fun tk => ⟨.bl b, H, I.tok tk, rfl, q⟩
theorem cd_isi {d : D} {c : String} {b : Bool} (hp : d.plainTy = true) (hb : PySem.W.kitOne K (.type d.tyN) (.type c) = some b) (h : Ψ (.bl b)) : CallD K (rIsiY K) [d, .ty c] Ψ := by
  intro F _ Γ B τ H vs sh r Q qw
  cases r with
  | cons r1 r2 =>
  cases r2 with
  | cons r2 r3 =>
  cases r3
  cases r2
  cases hx : d.isDix with
  | false => exact .inl ⟨_, .ty c, _, _, b, rfl, .ty c, Rp.tyx hp hx (Rp.mono (fun b o zw => (sh.bH b o zw).1) _ _ r1), hb, qw _ _ _ _ h (Nxt.refl sh) (.bl b)⟩
  | true =>
    cases d with
    | dix =>
      cases r1 with
      | dix ha => exact .inr ⟨_, .ty c, _, b, rfl, .ty c, (sh.bH _ _ ha).1, hb, qw _ _ _ _ h (Nxt.refl sh) (.bl b)⟩
    | _ => cases hx
/-- a built-in class's name -/
theorem we_ty {x : Str} {n : String} {pos : Pos} (hg : Gl X x) (hmw : X.mg x = none) (hv : bootBuiltins x = some (.type n)) (h : Φ (.ty n) Γ) (hn : x ≠ "__name__" := by decide) (hdt : (x == ("__debug__" : Str)) = false := by decide) : WE X F (.Name x pos) Γ Φ := fun B τ H sh Q qw =>
  wp_of (pe_bltn (v := .ty n) hg hmw hv rfl hn hdt) (qw _ _ _ _ _ h (Nxt.refl sh) (.ty n))
/-- a module's constant, a def's name -/
theorem we_globI {x : Str} {i : Int} {t : Tok} {pos : Pos} (hg : Gl X x) (hmw : X.mg x = some (.int i t)) (h : Φ (.int i) Γ) (hdt : (x == ("__debug__" : Str)) = false := by decide) : WE X F (.Name x pos) Γ Φ := fun B τ H sh Q qw =>
  wp_of (pe_glob (v := .int i) hg hmw ⟨t, rfl⟩ hdt) (qw _ _ _ _ _ h (Nxt.refl sh) (.int i))
theorem we_globO {x : Str} {a : Addr} {pos : Pos} (hg : Gl X x) (hmw : X.mg x = some (.ref a)) (h : Φ (.obj a) Γ) (hdt : (x == ("__debug__" : Str)) = false := by decide) : WE X F (.Name x pos) Γ Φ := fun B τ H sh Q qw =>
  wp_of (pe_glob (v := .ref a) hg hmw rfl hdt) (qw _ _ _ _ _ h (Nxt.refl sh) (.obj a))
end
end L2.Px
/-! PW 6b: comparisons. -/
namespace L2.Px
open PySem PySem.Spec
open PyProof.Rows

variable [Wld]
section
variable {X : Cx} {F : Fm} {Γ : Gam} {Φ : D → Gam → Prop} {K : PySem.W.Frag} {Ψ : D → Prop}
/-! ### == and the like -/
mutual
def D.fl : D → Nat → Bool
  | .non, _ => true
  | .bl _, _ => true
  | .int _, _ => true
  | .str _, _ => true
  | .tup ds, n + 1 => D.flA ds n
  | .lst ds, n + 1 => D.flA ds n
  | _, _ => false
def D.flA : List D → Nat → Bool
  | [], _ => true
  | d :: ds, n => d.fl n && D.flA ds n
end
mutual
theorem fl_pl : ∀ (d : D) (n : Nat), d.fl n = true → d.pl = true ∧ d.py.depth ≤ n
  | .non, _, _ => ⟨rfl, Nat.zero_le _⟩
  | .bl _, _, _ => ⟨rfl, Nat.zero_le _⟩
  | .int _, _, _ => ⟨rfl, Nat.zero_le _⟩
  | .str _, _, _ => ⟨rfl, Nat.zero_le _⟩
  | .tup ds, n + 1, h => by
    have qw := fl_plA ds n h
    exact ⟨qw.1, Nat.succ_le_succ qw.2⟩
  | .lst ds, n + 1, h => by
    have qw := fl_plA ds n h
    exact ⟨qw.1, Nat.succ_le_succ qw.2⟩
  | .tup _, 0, h => nomatch h
  | .lst _, 0, h => nomatch h
  | .dct, 0, h => nomatch h
  | .dix, 0, h => nomatch h
  | .dic _ _, 0, h => nomatch h
  | .dct, _ + 1, h => nomatch h
  | .dix, _ + 1, h => nomatch h
  | .dic _ _, _ + 1, h => nomatch h
  | .obj _, 0, h => nomatch h
  | .obj _, _ + 1, h => nomatch h
  | .ty _, 0, h => nomatch h
  | .ty _, _ + 1, h => nomatch h
  | .exc _, 0, h => nomatch h
  | .exc _, _ + 1, h => nomatch h
  | .scr _, 0, h => nomatch h
  | .scr _, _ + 1, h => nomatch h
theorem fl_plA : ∀ (ds : List D) (n : Nat), D.flA ds n = true → D.plA ds = true ∧ PyData.depthAll (D.pyA ds) ≤ n
  | [], _, _ => ⟨rfl, Nat.zero_le _⟩
  | d :: ds, n, h => by
    have zw : d.fl n = true ∧ D.flA ds n = true := by
      have zw : (d.fl n && D.flA ds n) = true := h
      simpa using zw
    have q1 := fl_pl d n zw.1
    have q2 := fl_plA ds n zw.2
    refine ⟨?_, Nat.max_le.mpr ⟨q1.2, q2.2⟩⟩
    show (d.pl && D.plA ds) = true
    rw [q1.1, q2.1]
    rfl
end
def D.eq (a b : D) : Bool := PyData.eqv a.py b.py
def rEqX (K : PySem.W.Frag) : R2 := fun x y H Q => ∃ d e : D, d.fl 60 = true ∧ e.fl 60 = true ∧ Rp K H x d ∧ Rp K H y e ∧ Q (.bl (d.eq e)) H
def rNeX (K : PySem.W.Frag) : R2 := fun x y H Q => ∃ d e : D, d.fl 60 = true ∧ e.fl 60 = true ∧ Rp K H x d ∧ Rp K H y e ∧ Q (.bl (!d.eq e)) H
theorem op_eqX {k : Nat} (hr : Room k X.A) : OpR X (compareOp .Eq) (rEqX X.K) := by
  intro pq sh τ H x y v u Q I rxw ry h
  obtain ⟨d, e, hdt, hen, r1, r2, qw⟩ := h
  obtain ⟨p1, d1⟩ := fl_pl d 60 hdt
  obtain ⟨p2, d2⟩ := fl_pl e 60 hen
  obtain ⟨as, a1⟩ := Dp.reads I _ x v (Rp.dp d x p1 r1) rxw
  obtain ⟨bs, a2⟩ := Dp.reads I _ y u (Rp.dp e y p2 r2) ry
  have hu := hr.un
  exact SeqAt.eq_plain a1 a2 (py_plain d p1) (py_plain e p2) (by have := Nat.min_le_left d.py.depth e.py.depth; omega) ⟨.bl _, H, I, rfl, qw⟩
theorem op_neX {k : Nat} (hr : Room k X.A) : OpR X (compareOp .NotEq) (rNeX X.K) := by
  intro pq sh τ H x y v u Q I rxw ry h
  obtain ⟨d, e, hdt, hen, r1, r2, qw⟩ := h
  obtain ⟨p1, d1⟩ := fl_pl d 60 hdt
  obtain ⟨p2, d2⟩ := fl_pl e 60 hen
  obtain ⟨as, a1⟩ := Dp.reads I _ x v (Rp.dp d x p1 r1) rxw
  obtain ⟨bs, a2⟩ := Dp.reads I _ y u (Rp.dp e y p2 r2) ry
  have hu := hr.un
  exact SeqAt.ne_plain a1 a2 (py_plain d p1) (py_plain e p2) (by have := Nat.min_le_left d.py.depth e.py.depth; omega) ⟨.bl _, H, I, rfl, qw⟩
theorem od_eq {d e : D} (hdt : d.fl 60 = true) (hen : e.fl 60 = true) (h : Ψ (.bl (d.eq e))) : OpD K (rEqX K) d e Ψ := by
  intro F _ Γ B τ H v1 v2 sh r1 r2 Q qw
  have eH : Ex B H := fun b o zw => (sh.bH b o zw).1
  exact ⟨d, e, hdt, hen, Rp.mono eH _ _ r1, Rp.mono eH _ _ r2, qw _ _ _ _ h (Nxt.refl sh) (.bl _)⟩
theorem od_ne {d e : D} (hdt : d.fl 60 = true) (hen : e.fl 60 = true) (h : Ψ (.bl (!d.eq e))) : OpD K (rNeX K) d e Ψ := by
  intro F _ Γ B τ H v1 v2 sh r1 r2 Q qw
  have eH : Ex B H := fun b o zw => (sh.bH b o zw).1
  exact ⟨d, e, hdt, hen, Rp.mono eH _ _ r1, Rp.mono eH _ _ r2, qw _ _ _ _ h (Nxt.refl sh) (.bl _)⟩
/-- in, not in -/
def D.has (ds : List D) (d : D) : Bool := ds.any fun y => y.eq d
def rInX (K : PySem.W.Frag) (neg : Bool) : R2 := fun x y H Q => ∃ (d c : D) (ds : List D), (c = .lst ds ∨ c = .tup ds) ∧ d.fl 60 = true ∧ D.flA ds 60 = true ∧ Rp K H x d ∧ Rp K H y c ∧ Q (.bl (if neg = true then !D.has ds d else D.has ds d)) H
theorem has_py (ds : List D) (d : D) : ((D.pyA ds).any fun y => PyData.eqv y d.py) = D.has ds d := by
  rw [D.pyA_map, List.any_map]
  rfl
theorem op_inX {k : Nat} (hr : Room k X.A) : OpR X (compareOp .In) (rInX X.K false) := by
  intro pq sh τ H x y v u Q I rxw ry h
  obtain ⟨d, c, ds, hc, hdt, hds, r1, r2, qw⟩ := h
  obtain ⟨p1, d1⟩ := fl_pl d 60 hdt
  obtain ⟨p2, d2⟩ := fl_plA ds 60 hds
  obtain ⟨as, a1⟩ := Dp.reads I _ x v (Rp.dp d x p1 r1) rxw
  have hu := hr.un
  rcases hc with rfl | rfl
  · obtain ⟨bs, a2⟩ := Dp.reads I _ y u (Rp.dp (.lst ds) y p2 r2) ry
    exact SeqAt.in_list_data a2 a1 (py_plainA ds p2) (py_plain d p1) (by have := Nat.min_le_left (PyData.depthAll (D.pyA ds)) d.py.depth; omega) ⟨.bl _, H, I, by rw [has_py]; rfl, qw⟩
  · obtain ⟨bs, a2⟩ := Dp.reads I _ y u (Rp.dp (.tup ds) y p2 r2) ry
    exact SeqAt.in_tuple_data a2 a1 (py_plainA ds p2) (py_plain d p1) (by have := Nat.min_le_left (PyData.depthAll (D.pyA ds)) d.py.depth; omega) ⟨.bl _, H, I, by rw [has_py]; rfl, qw⟩
theorem op_notInX {k : Nat} (hr : Room k X.A) : OpR X (compareOp .NotIn) (rInX X.K true) := by
  intro pq sh τ H x y v u Q I rxw ry h
  obtain ⟨d, c, ds, hc, hdt, hds, r1, r2, qw⟩ := h
  obtain ⟨p1, d1⟩ := fl_pl d 60 hdt
  obtain ⟨p2, d2⟩ := fl_plA ds 60 hds
  obtain ⟨as, a1⟩ := Dp.reads I _ x v (Rp.dp d x p1 r1) rxw
  have hu := hr.un
  rcases hc with rfl | rfl
  · obtain ⟨bs, a2⟩ := Dp.reads I _ y u (Rp.dp (.lst ds) y p2 r2) ry
    exact SeqAt.notIn_list_data a2 a1 (py_plainA ds p2) (py_plain d p1) (by have := Nat.min_le_left (PyData.depthAll (D.pyA ds)) d.py.depth; omega) ⟨.bl _, H, I, by rw [has_py]; rfl, qw⟩
  · obtain ⟨bs, a2⟩ := Dp.reads I _ y u (Rp.dp (.tup ds) y p2 r2) ry
    exact SeqAt.notIn_tuple_data a2 a1 (py_plainA ds p2) (py_plain d p1) (by have := Nat.min_le_left (PyData.depthAll (D.pyA ds)) d.py.depth; omega) ⟨.bl _, H, I, by rw [has_py]; rfl, qw⟩
theorem od_in {neg : Bool} {d c : D} {ds : List D} (hc : c = .lst ds ∨ c = .tup ds) (hdt : d.fl 60 = true) (hen : D.flA ds 60 = true) (h : Ψ (.bl (if neg = true then !D.has ds d else D.has ds d))) : OpD K (rInX K neg) d c Ψ := by
  intro F _ Γ B τ H v1 v2 sh r1 r2 Q qw
  have eH : Ex B H := fun b o zw => (sh.bH b o zw).1
  exact ⟨d, c, ds, hc, hdt, hen, Rp.mono eH _ _ r1, Rp.mono eH _ _ r2, qw _ _ _ _ h (Nxt.refl sh) (.bl _)⟩
end
end L2.Px
/-! PW 7: tests, comparisons as expressions and tests, subscripts, slices, a def's own lists, lists lent. -/
namespace L2.Px
open PySem PySem.Spec
open PyProof.Rows

variable [Wld]
section
variable {X : Cx} {F : Fm} {Γ : Gam} {Φ : D → Gam → Prop} {K : PySem.W.Frag} {Ψ : D → Prop} {T : Bool → Gam → Prop}
/-! ### tests -/
theorem wt_val {e : Expr} (h : WE X F e Γ fun d Γ1 => ∃ b, d = .bl b ∧ T b Γ1) (hen : ∀ whole, isTrue e X.env whole = (do let v ← whole; standAt e.pos; holding [v] (truthy v)) := by intro _; rfl) : WT X F e Γ T := by
  intro B τ H sh Q qw
  refine wpt_of (pt_val pe_wp hen) (h B τ H sh _ fun v d B1 Γ1 H1 p n r => ?_)
  obtain ⟨b, rfl, p⟩ := p
  cases r
  exact ⟨b, rfl, qw b B1 Γ1 H1 p n⟩
theorem wt_not {a : Expr} {pos : Pos} (h : WT X F a Γ fun b Γ1 => T (!b) Γ1) : WT X F (.UnaryOp .Not a pos) Γ T := fun B τ H sh Q qw =>
  wpt_of (pt_not pt_wp) (h B τ H sh _ fun b B1 Γ1 H1 p n => qw (!b) B1 Γ1 H1 p n)
/-- and, or: tests whatever their whole is -/
def wpW (X : Cx) (e : Expr) : TT := fun τ H Q => ∀ (whole : Sem Value) (pq : List (Addr × Obj)) (sh : Shared), Inv X pq τ H sh → wpAny (model X.prog X.w) X.A (isTrue e X.env whole) (TP X pq τ Q) X.xe sh
theorem pw_wp {e : Expr} : PW X e (wpW X e) := ⟨fun whole pq sh τ H Q I h => h whole pq sh I⟩
theorem wpw_of {e : Expr} {t : TT} {τ : St} {H : Hp} {Q : Bool → Hp → Prop} (h : PW X e t) (qw : t τ H Q) : wpW X e τ H Q := fun whole pq sh I => h.run whole pq sh τ H Q I qw
def WW (X : Cx) (F : Fm) (e : Expr) (Γ : Gam) (Φ : Bool → Gam → Prop) : Prop := ∀ B τ H, Stt X.K F B Γ τ H → ∀ Q : Bool → Hp → Prop,
  (∀ b B' Γ' H', Φ b Γ' → Nxt X.K F τ B Γ H B' Γ' H' → Q b H') → wpW X e τ H Q
theorem wt_ww {e : Expr} (h : WW X F e Γ T) : WT X F e Γ T := fun B τ H sh Q qw => wpt_of (PW.pt pw_wp) (h B τ H sh Q qw)
theorem ww_and1 {a : Expr} {pos : Pos} (h : WT X F a Γ T) : WW X F (.BoolOp .And [a] pos) Γ T := fun B τ H sh Q qw => wpw_of (pw_and1 pt_wp) (h B τ H sh Q qw)
theorem ww_or1 {a : Expr} {pos : Pos} (h : WT X F a Γ T) : WW X F (.BoolOp .Or [a] pos) Γ T := fun B τ H sh Q qw => wpw_of (pw_or1 pt_wp) (h B τ H sh Q qw)
theorem ww_and {a b : Expr} {rest : List Expr} {pos : Pos} (h : WT X F a Γ fun k Γ1 => if k = true then WW X F (.BoolOp .And (b :: rest) pos) Γ1 T else T false Γ1) : WW X F (.BoolOp .And (a :: b :: rest) pos) Γ T := by
  intro B τ H sh Q qw
  refine wpw_of (pw_and pt_wp pw_wp) (h B τ H sh _ fun k B1 Γ1 H1 p n => ?_)
  cases k with
  | true => exact p B1 τ H1 n.st Q fun b B' Γ' H' p' n' => qw b B' Γ' H' p' (n.trans n')
  | false => exact qw false B1 Γ1 H1 p n
theorem ww_or {a b : Expr} {rest : List Expr} {pos : Pos} (h : WT X F a Γ fun k Γ1 => if k = true then T true Γ1 else WW X F (.BoolOp .Or (b :: rest) pos) Γ1 T) : WW X F (.BoolOp .Or (a :: b :: rest) pos) Γ T := by
  intro B τ H sh Q qw
  refine wpw_of (pw_or pt_wp pw_wp) (h B τ H sh _ fun k B1 Γ1 H1 p n => ?_)
  cases k with
  | false => exact p B1 τ H1 n.st Q fun b B' Γ' H' p' n' => qw b B' Γ' H' p' (n.trans n')
  | true => exact qw true B1 Γ1 H1 p n
/-! ### comparisons -/
theorem we_cmp [F.c.Ok] {a b : Expr} {op : CmpOp} {r : R2} {pos : Pos} (hob : OpR X (compareOp op) r) (h : WE X F a Γ fun d1 Γ1 => WE X F b Γ1 fun d2 Γ2 => OpD X.K r d1 d2 fun d => Φ d Γ2) (hmw : behindInMarks op b = false) : WE X F (.Compare a [op] [b] pos) Γ Φ :=
  we_bin (pe_cmpR hob pe_wp pe_wp hmw) h
theorem wt_cmp [F.c.Ok] {a b : Expr} {op : CmpOp} {r : R2} {pos : Pos} (hob : OpR X (compareOp op) r) (h : WE X F a Γ fun d1 Γ1 => WE X F b Γ1 fun d2 Γ2 => OpD X.K r d1 d2 fun d => ∃ k, d = .bl k ∧ T k Γ2) (hmw : behindInMarks op b = false) : WT X F (.Compare a [op] [b] pos) Γ T := by
  intro B τ H sh Q qw
  refine wpt_of (pt_cmpR hob pe_wp pe_wp hmw) (h B τ H sh _ fun v d B1 Γ1 H1 p n r1 => ?_)
  refine p B1 τ H1 n.st _ fun v2 d2 B2 Γ2 H2 p2 n2 r2 => ?_
  refine p2 F Γ2 B2 τ H2 v v2 n2.st (Rp.mono n2.ex _ _ r1) r2 _ fun v' d' B' H' p' n' r' => ?_
  obtain ⟨k, rfl, p'⟩ := p'
  cases r'
  exact ⟨k, rfl, qw k B' Γ2 H' p' ((n.trans n2).trans n')⟩
theorem od_lt {i j : Int} (h : Ψ (.bl (decide (i < j)))) : OpD K (rI0 fun i j => .bl (decide (i < j))) (.int i) (.int j) Ψ := by
  intro F _ Γ B τ H v1 v2 sh r1 r2 Q qw
  cases r1
  cases r2
  exact ⟨i, j, rfl, rfl, qw _ _ _ _ h (Nxt.refl sh) (.bl _)⟩
theorem od_le {i j : Int} (h : Ψ (.bl (decide (i ≤ j)))) : OpD K (rI0 fun i j => .bl (decide (i ≤ j))) (.int i) (.int j) Ψ := by
  intro F _ Γ B τ H v1 v2 sh r1 r2 Q qw
  cases r1
  cases r2
  exact ⟨i, j, rfl, rfl, qw _ _ _ _ h (Nxt.refl sh) (.bl _)⟩
theorem od_gt {i j : Int} (h : Ψ (.bl (decide (j < i)))) : OpD K (rI0 fun i j => .bl (decide (j < i))) (.int i) (.int j) Ψ := by
  intro F _ Γ B τ H v1 v2 sh r1 r2 Q qw
  cases r1
  cases r2
  exact ⟨i, j, rfl, rfl, qw _ _ _ _ h (Nxt.refl sh) (.bl _)⟩
theorem od_ge {i j : Int} (h : Ψ (.bl (decide (j ≤ i)))) : OpD K (rI0 fun i j => .bl (decide (j ≤ i))) (.int i) (.int j) Ψ := by
  intro F _ Γ B τ H v1 v2 sh r1 r2 Q qw
  cases r1
  cases r2
  exact ⟨i, j, rfl, rfl, qw _ _ _ _ h (Nxt.refl sh) (.bl _)⟩
/-- a op b op' c -/
theorem we_chain [F.c.Ok] {a b c : Expr} {op op' : CmpOp} {r r' : R2} {pos : Pos} (hob : OpR X (compareOp op) r) (ho' : OpR X (compareOp op') r')
    (h : WE X F a Γ fun d1 Γ1 => WE X F b Γ1 fun d2 Γ2 => OpD X.K r d1 d2 fun d => ∃ k, d = .bl k ∧ if k = true then WE X F c Γ2 fun d3 Γ3 => OpD X.K r' d2 d3 fun d => Φ d Γ3 else Φ (.bl false) Γ2)
    (hmw : lastMarks [op, op'] [b, c] = false := by with_unfolding_all rfl) : WE X F (.Compare a [op, op'] [b, c] pos) Γ Φ := by
  intro B τ H sh Q qw
  refine wp_of (pe_chain hob ho' pe_wp pe_wp pe_wp hmw) (h B τ H sh _ fun v d B1 Γ1 H1 p n r1 => ?_)
  refine p B1 τ H1 n.st _ fun v2 d2 B2 Γ2 H2 p2 n2 r2 => ?_
  refine p2 F Γ2 B2 τ H2 v v2 n2.st (Rp.mono n2.ex _ _ r1) r2 _ fun v' d' B3 H3 p' n3 r' => ?_
  obtain ⟨k, rfl, p'⟩ := p'
  cases r'
  refine ⟨k, rfl, ?_⟩
  have n03 := (n.trans n2).trans n3
  cases k with
  | true =>
    refine p' B3 τ H3 n3.st _ fun v4 d4 B4 Γ4 H4 p4 n4 r4 => ?_
    exact p4 F Γ4 B4 τ H4 v2 v4 n4.st (Rp.mono (n3.ex.trans n4.ex) _ _ r2) r4 Q fun v5 d5 B5 H5 p5 n5 r5 => qw v5 d5 B5 Γ4 H5 p5 ((n03.trans n4).trans n5) r5
  | false => exact qw _ _ B3 Γ2 H3 p' n03 (.bl false)
theorem wt_chain [F.c.Ok] {a b c : Expr} {op op' : CmpOp} {r r' : R2} {pos : Pos} (hob : OpR X (compareOp op) r) (ho' : OpR X (compareOp op') r')
    (h : WE X F a Γ fun d1 Γ1 => WE X F b Γ1 fun d2 Γ2 => OpD X.K r d1 d2 fun d => ∃ k, d = .bl k ∧ if k = true then WE X F c Γ2 fun d3 Γ3 => OpD X.K r' d2 d3 fun d => ∃ k, d = .bl k ∧ T k Γ3 else T false Γ2)
    (hmw : lastMarks [op, op'] [b, c] = false := by with_unfolding_all rfl) : WT X F (.Compare a [op, op'] [b, c] pos) Γ T := by
  intro B τ H sh Q qw
  have w : WE X F (.Compare a [op, op'] [b, c] pos) Γ fun d Γ1 => ∃ k, d = .bl k ∧ T k Γ1 := we_chain hob ho' (h.imp fun _ _ h => h.imp fun _ _ h => fun F' o Γ' B τ H v1 v2 sh r1 r2 Q qw => h F' Γ' B τ H v1 v2 sh r1 r2 Q fun v d B' H' p => qw v d B' H' (by
    obtain ⟨k, rfl, p⟩ := p
    refine ⟨k, rfl, ?_⟩
    cases k with
    | true => exact p
    | false => exact ⟨false, rfl, p⟩)) hmw
  refine wpt_of (pt_chain hob ho' pe_wp pe_wp pe_wp hmw) (h B τ H sh _ fun v d B1 Γ1 H1 p n r1 => ?_)
  refine p B1 τ H1 n.st _ fun v2 d2 B2 Γ2 H2 p2 n2 r2 => ?_
  refine p2 F Γ2 B2 τ H2 v v2 n2.st (Rp.mono n2.ex _ _ r1) r2 _ fun v' d' B3 H3 p' n3 r' => ?_
  obtain ⟨k, rfl, p'⟩ := p'
  cases r'
  refine ⟨k, rfl, ?_⟩
  have n03 := (n.trans n2).trans n3
  cases k with
  | true =>
    refine p' B3 τ H3 n3.st _ fun v4 d4 B4 Γ4 H4 p4 n4 r4 => ?_
    refine p4 F Γ4 B4 τ H4 v2 v4 n4.st (Rp.mono (n3.ex.trans n4.ex) _ _ r2) r4 _ fun v5 d5 B5 H5 p5 n5 r5 => ?_
    obtain ⟨k, rfl, p5⟩ := p5
    cases r5
    exact ⟨k, rfl, qw k B5 Γ4 H5 p5 ((n03.trans n4).trans n5)⟩
  | false => exact ⟨false, rfl, qw false B3 Γ2 H3 p' n03⟩
/-! ### items -/
theorem RpA.atI {B : Hp} {vs : List V} {ds : List D} {i : Int} {d : D} (h : RpA K B vs ds) (e : L2.atI ds i = some d) : ∃ v, L2.atI vs i = some v ∧ Rp K B v d := by
  unfold L2.atI at e ⊢
  rw [h.len]
  cases c : ixN ds.length i with
  | none =>
    rw [c] at e
    cases e
  | some j =>
    rw [c] at e
    exact h.get e
def rIxX (K : PySem.W.Frag) : R2 := fun x y H Q => rIxL K x y H Q ∨ rIxT K x y H Q
theorem we_ix [F.c.Ok] {a b : Expr} {pos : Pos} (h : WE X F a Γ fun d1 Γ1 => WE X F b Γ1 fun d2 Γ2 => OpD X.K (rIxX X.K) d1 d2 fun d => Φ d Γ2) (hsa : PlainIx b := by intro _ _; rfl) : WE X F (.Subscript a b pos) Γ Φ :=
  we_bin (pe_ix (IxR.or ix_list ix_tup) pe_wp pe_wp hsa) h
theorem od_ix {c d : D} {ds : List D} {i : Int} (hc : c = .lst ds ∨ c = .tup ds) (hen : L2.atI ds i = some d) (h : Ψ d) : OpD K (rIxX K) c (.int i) Ψ := by
  intro F _ Γ B τ H v1 v2 sh r1 r2 Q qw
  cases r2
  rcases hc with rfl | rfl
  · cases r1 with
    | lst hsa ha =>
      obtain ⟨v, evw, rv⟩ := ha.atI hen
      exact .inl ⟨_, _, i, v, rfl, rfl, SqL.of (sh.bH _ _ hsa).1, evw, qw _ _ _ _ h (Nxt.refl sh) rv⟩
  · cases r1 with
    | tup hsa ha =>
      obtain ⟨v, evw, rv⟩ := ha.atI hen
      exact .inr ⟨_, _, i, v, rfl, rfl, .inl (sh.rd hsa), evw, qw _ _ _ _ h (Nxt.refl sh) rv⟩
/-! ### slices of tuples and lists -/
def cutD (ds : List D) (lo hi : Option Int) : List D := (ds.drop (HT.sIx ds.length 0 lo)).take (HT.sIx ds.length ds.length hi - HT.sIx ds.length 0 lo)
theorem RpA.cut {B : Hp} {vs : List V} {ds : List D} (h : RpA K B vs ds) (lo hi : Option Int) : RpA K B (cutV vs lo hi) (cutD ds lo hi) := by
  unfold cutV cutD
  rw [h.len]
  exact (h.drop _).take _
def WO (X : Cx) (F : Fm) (e : Option Expr) (Γ : Gam) (Φ : Option Int → Gam → Prop) : Prop := match e with
  | none => Φ none Γ
  | some e => WE X F e Γ fun d Γ1 => ∃ i, d = .int i ∧ Φ (some i) Γ1
def rSlX (K : PySem.W.Frag) : V → Option Int → Option Int → Hp → VK → Prop := fun x lo hi H Q => rSlL K x lo hi H Q ∨ rSlA K x lo hi H Q
def tO (X : Cx) : Option Expr → TO
  | none => tNoPart
  | some e => tPart (wpE X e)
theorem po_wp {lo : Option Expr} : PO X lo (tO X lo) := by
  cases lo with
  | none => exact po_none
  | some e => exact po_some pe_wp
theorem wo_run {lo : Option Expr} {P : Option Int → Gam → Prop} (h : WO X F lo Γ P) {B H : Hp} {τ : St} (sh : Stt X.K F B Γ τ H) (Q : Option Int → Hp → Prop)
    (qw : ∀ l B' Γ' H', P l Γ' → Nxt X.K F τ B Γ H B' Γ' H' → Q l H') : tO X lo τ H Q := by
  cases lo with
  | none => exact qw none B Γ H h (Nxt.refl sh)
  | some e =>
    have h' : WE X F e Γ fun d Γ1 => ∃ i, d = .int i ∧ P (some i) Γ1 := h
    refine h' B τ H sh _ fun v d B1 Γ1 H1 p n r => ?_
    obtain ⟨i, rfl, p⟩ := p
    cases r
    exact ⟨i, rfl, qw _ B1 Γ1 H1 p n⟩
theorem we_slice [F.c.Ok] {e : Expr} {lo hi : Option Expr} {p2 pos : Pos} (h : WE X F e Γ fun d Γ1 => WO X F lo Γ1 fun l Γ2 => WO X F hi Γ2 fun u Γ3 => ∃ ds, (d = .lst ds ∧ Φ (.lst (cutD ds l u)) Γ3) ∨ (d = .tup ds ∧ Φ (.tup (cutD ds l u)) Γ3)) :
    WE X F (.Subscript e (.Slice lo hi none p2) pos) Γ Φ := by
  intro B τ H sh Q qw
  refine wp_of (pe_slice (SlR.or sl_list sl_tupA) pe_wp po_wp po_wp) (h B τ H sh _ fun v d B1 Γ1 H1 p n r => ?_)
  refine wo_run p n.st _ fun l B2 Γ2 H2 p' n2 => ?_
  refine wo_run p' n2.st _ fun u B3 Γ3 H3 p'' n3 => ?_
  clear p p'
  have n03 := (n.trans n2).trans n3
  have r3 := Rp.mono (n2.ex.trans n3.ex) _ _ r
  obtain ⟨ds, ⟨rfl, p⟩ | ⟨rfl, p⟩⟩ := p''
  · cases r3 with
    | @lst a ys _ hsa ha =>
      refine .inl ⟨a, ys, rfl, SqL.of (n3.st.bH _ _ hsa).1, fun x hxw => ?_⟩
      have n4 := n3.st.frozen (o := .lst (cutV ys l u)) hxw
      exact qw _ _ _ _ _ p (n03.trans n4) (.lst upd_same (RpA.mono n4.ex _ _ (ha.cut l u)))
  · cases r3 with
    | @tup a ys _ hsa ha =>
      refine .inr ⟨a, ys, rfl, .inl (n3.st.rd hsa), fun c => ?_, fun _ x hxw => ?_⟩
      · have e : cutD ds l u = ds := by
          unfold cutD
          rw [ha.len] at c
          rw [c.1, c.2, List.drop_zero]
          simp
        rw [e] at p
        exact qw _ _ _ _ _ p n03 (.tup hsa ha)
      · have n4 := n3.st.frozen (o := .tup (cutV ys l u)) hxw
        exact qw _ _ _ _ _ p (n03.trans n4) (.tup (.inl upd_same) (RpA.mono n4.ex _ _ (ha.cut l u)))
/-! ### a def's own object changes -/
theorem Stt.mut {B : Hp} {τ : St} {H : Hp} [F.c.Ok] (sh : Stt K F B Γ τ H) {i : Nat} {p : Addr} {od od' : OD} {o' : HO} (hΓ : Γ[i]? = some (some (.own od))) (hσ : τ[i]? = some (some (.ref p))) (r : OdR K B p od' o') :
    Nxt K F τ B Γ H B (Γ.set i (some (.own od'))) (upd H p o') := by
  obtain ⟨v, e, p1, o, rfl, hb, h0, nv, hob, ro⟩ := sh.sl i _ hΓ
  rw [hσ] at e
  cases e
  have il : i < Γ.length := (List.getElem?_eq_some_iff.mp hΓ).1
  have soft : ¬ Firm o := by
    cases od with
    | lst ds => obtain ⟨xs, rfl, _⟩ := ro; exact fun zw => zw
    | dK ds => obtain ⟨xs, rfl, _⟩ := ro; exact fun zw => zw
    | dT ds => obtain ⟨xs, rfl, _⟩ := ro; exact fun zw => zw
    | dN ks vs => obtain ⟨xs, rfl, _⟩ := ro; exact fun zw => zw p xs rfl
  have own : Ownd Γ τ p := ⟨i, od, hΓ, hσ⟩
  have gi : ∀ j sj, (Γ.set i (some (Sl.own od')))[j]? = some (some sj) → (j = i ∧ sj = .own od') ∨ (j ≠ i ∧ Γ[j]? = some (some sj)) := by
    intro j sj h
    by_cases e : i = j
    · subst e
      rw [List.getElem?_set_self il] at h
      cases h
      exact .inl ⟨rfl, rfl⟩
    · rw [List.getElem?_set_ne e] at h
      exact .inr ⟨Ne.symm e, h⟩
  have hne : ∀ a, H a ≠ none → upd H p o' a ≠ none := fun a h => by
    unfold upd
    split
    · exact fun zw => nomatch zw
    · exact h
  refine ⟨⟨fun a u h v => ?_, sh.b0, fun a u h => ?_, sh.bn, sh.vH, fun a v => hne a (sh.vH' a v), Cfg.Ok.st H _ (fun a v => upd_ne (fun zw => nv (zw ▸ v))) (fun a u h _ f => ?_) sh.g, by rw [List.length_set]; exact sh.len, fun j sj h => ?_, fun j k oj ok qw ha1 h2 h3 h4 => ?_⟩,
    Ex.refl _, fun a u h _ w => ?_, fun a ⟨j, oj, ha1, h2⟩ => ?_, hne, fun _ _ zw => .inl zw⟩
  · rw [upd_ne (fun zw => by rw [zw, h0] at h; cases h)]
    exact sh.fr a u h v
  · rw [upd_ne (fun zw => by rw [zw, hb] at h; cases h)]
    exact sh.bH a u h
  · rw [upd_ne (fun zw => by rw [zw, hob] at h; cases h; exact soft f)]
    exact h
  · rcases gi j sj h with ⟨rfl, rfl⟩ | ⟨ne, h⟩
    · exact ⟨.ref p, hσ, p, o', rfl, hb, h0, nv, upd_same, r⟩
    · obtain ⟨v, evw, rv⟩ := sh.sl j sj h
      refine ⟨v, evw, ?_⟩
      cases sj with
      | val d => exact rv
      | own oj =>
        obtain ⟨qw, u, rfl, b1, ha1, n1, ea1, r1⟩ := rv
        have nq : qw ≠ p := fun zw => ne (sh.dj j i oj od p h hΓ (by rw [← zw]; exact evw) hσ)
        exact ⟨qw, u, rfl, b1, ha1, n1, by rw [upd_ne nq]; exact ea1, r1⟩
  · rcases gi j _ ha1 with ⟨ea1, _⟩ | ⟨n1, g1⟩
    · rcases gi k _ h2 with ⟨e2, _⟩ | ⟨n2, g2⟩
      · rw [ea1, e2]
      · rw [ea1] at h3 ⊢
        exact sh.dj _ k od ok qw hΓ g2 h3 h4
    · rcases gi k _ h2 with ⟨e2, _⟩ | ⟨n2, g2⟩
      · rw [e2] at h4 ⊢
        exact sh.dj j _ oj od qw g1 hΓ h3 h4
      · exact sh.dj j k oj ok qw g1 g2 h3 h4
  · rw [upd_ne (fun zw => w (by rw [zw]; exact own))]
    exact h
  · rcases gi j _ ha1 with ⟨rfl, _⟩ | ⟨n1, ha1⟩
    · exact ⟨j, od, hΓ, h2⟩
    · exact ⟨j, oj, ha1, h2⟩
theorem own_at {B : Hp} {τ : St} {H : Hp} (sh : Stt K F B Γ τ H) {i : Nat} {ds : List D} (h : Γ[i]? = some (some (.own (.lst ds)))) : ∃ p xs, τ[i]? = some (some (.ref p)) ∧ H p = some (.lst xs) ∧ RpA K B xs ds := by
  obtain ⟨v, e, p1, o, rfl, hb, h0, nv, hob, xs, rfl, r⟩ := sh.sl i _ h
  exact ⟨p1, xs, e, hob, r⟩
/-- xs.append(e) -/
theorem we_append [F.c.Ok] {i : Nat} {x : Str} {e : Expr} {p1 p2 pos : Pos} {ds0 : List D} (hN : X.N[i]? = some x) (hv : Vis X.env.scope x) (h0 : Γ[i]? = some (some (.own (.lst ds0))))
    (h : WE X F e Γ fun d Γ1 => ∃ ds, Γ1[i]? = some (some (.own (.lst ds))) ∧ ds.length < 100000 ∧ Φ .non (Γ1.set i (some (.own (.lst (ds ++ [d]))))))
    (hdt : (x == ("__debug__" : Str)) = false := by decide) (hcd : (x == ("__classdict__" : Str)) = false := by decide) (hline : (p2.endLine == pos.line) = true := by rfl)
    (hbase : attributeBase (.Name x p1) "append" X.env (eval (.Name x p1) X.env) = eval (.Name x p1) X.env := by rfl)
    (hsa : starEach (e :: []) X.env = (false, eval e X.env) :: starEach [] X.env := by rfl)
    (hfew : ((backTo pos (starEach (e :: []) X.env)).all (fun x => !x.1) && (backToKw pos (keywordEach [] X.env)).all (fun x => x.1.isSome)
      && decide ((e :: []).length + ([] : List Keyword).length + (if ([] : List Keyword).isEmpty then 0 else 1) < 30)) = true := by rfl) :
    WE X F (.Call (.Attribute (.Name x p1) "append" p2) [e] [] pos) Γ Φ := by
  intro B τ H sh Q qw
  obtain ⟨p, xs, eσ, hob, r0⟩ := own_at sh h0
  refine wp_of (pe_bm PySem.F.plainAttrs_list PySem.F.slot_list_append PySem.F.type_list_append mt_append (pe_var hN hv hdt hcd) (pa_cons pe_wp pa_nil hsa) hbase hfew hline hsa) ⟨.ref p, eσ, .inl ⟨rfl, _, SqL.of hob⟩, ?_⟩
  refine h B τ H sh _ fun v d B1 Γ1 H1 p' n r => ?_
  obtain ⟨ds, hΓ, hlw, p'⟩ := p'
  obtain ⟨p2, ys, eσ2, ho2, r2⟩ := own_at n.st hΓ
  rw [eσ] at eσ2
  cases eσ2
  refine ⟨p, ys, v, rfl, rfl, ho2, Nat.lt_of_lt_of_le (by rw [r2.len]; exact hlw) (by decide), ?_⟩
  have n2 := n.st.mut (od' := .lst (ds ++ [d])) (o' := .lst (ys ++ [v])) hΓ eσ ⟨_, rfl, RpA.app r2 (.cons r .nil)⟩
  exact qw _ _ _ _ _ p' (n.trans n2) .non
/-- xs.pop() -/
theorem we_pop [F.c.Ok] {i : Nat} {x : Str} {p1 p2 pos : Pos} {ds : List D} {d : D} (hN : X.N[i]? = some x) (hv : Vis X.env.scope x) (h0 : Γ[i]? = some (some (.own (.lst ds)))) (hd0 : ds[ds.length - 1]? = some d)
    (h : Φ d (Γ.set i (some (.own (.lst ds.dropLast)))))
    (hdt : (x == ("__debug__" : Str)) = false := by decide) (hcd : (x == ("__classdict__" : Str)) = false := by decide) (hline : (p2.endLine == pos.line) = true := by rfl)
    (hbase : attributeBase (.Name x p1) "pop" X.env (eval (.Name x p1) X.env) = eval (.Name x p1) X.env := by rfl) :
    WE X F (.Call (.Attribute (.Name x p1) "pop" p2) [] [] pos) Γ Φ := by
  intro B τ H sh Q qw
  obtain ⟨p, xs, eσ, hob, r0⟩ := own_at sh h0
  obtain ⟨v, evw, rv⟩ := r0.get hd0
  refine wp_of (pe_bm0 PySem.F.plainAttrs_list PySem.F.slot_list_pop PySem.F.type_list_pop mt_pop (pe_var hN hv hdt hcd) hbase hline) ⟨.ref p, eσ, .inl ⟨rfl, _, SqL.of hob⟩, p, xs, v, rfl, rfl, hob, by rw [r0.len]; exact evw, ?_⟩
  have rd : RpA X.K B xs.dropLast ds.dropLast := by
    rw [List.dropLast_eq_take, List.dropLast_eq_take, r0.len]
    exact r0.take _
  have n2 := sh.mut (od' := .lst ds.dropLast) (o' := .lst xs.dropLast) h0 eσ ⟨_, rfl, rd⟩
  exact qw _ _ _ _ _ h n2 rv
/-- xs.pop(i) -/
theorem we_popAt [F.c.Ok] {i : Nat} {x : Str} {e : Expr} {p1 p2 pos : Pos} {ds0 : List D} (hN : X.N[i]? = some x) (hv : Vis X.env.scope x) (h0 : Γ[i]? = some (some (.own (.lst ds0))))
    (h : WE X F e Γ fun k Γ1 => ∃ (ds : List D) (n : Nat) (d : D), Γ1[i]? = some (some (.own (.lst ds))) ∧ k = .int n ∧ n < 100000 ∧ ds[n]? = some d ∧ Φ d (Γ1.set i (some (.own (.lst (ds.eraseIdx n))))))
    (hdt : (x == ("__debug__" : Str)) = false := by decide) (hcd : (x == ("__classdict__" : Str)) = false := by decide) (hline : (p2.endLine == pos.line) = true := by rfl)
    (hbase : attributeBase (.Name x p1) "pop" X.env (eval (.Name x p1) X.env) = eval (.Name x p1) X.env := by rfl)
    (hsa : starEach (e :: []) X.env = (false, eval e X.env) :: starEach [] X.env := by rfl)
    (hfew : ((backTo pos (starEach (e :: []) X.env)).all (fun x => !x.1) && (backToKw pos (keywordEach [] X.env)).all (fun x => x.1.isSome)
      && decide ((e :: []).length + ([] : List Keyword).length + (if ([] : List Keyword).isEmpty then 0 else 1) < 30)) = true := by rfl) :
    WE X F (.Call (.Attribute (.Name x p1) "pop" p2) [e] [] pos) Γ Φ := by
  intro B τ H sh Q qw
  obtain ⟨p, xs, eσ, hob, r0⟩ := own_at sh h0
  refine wp_of (pe_bm PySem.F.plainAttrs_list PySem.F.slot_list_pop PySem.F.type_list_pop mt_popAt (pe_var hN hv hdt hcd) (pa_cons pe_wp pa_nil hsa) hbase hfew hline hsa) ⟨.ref p, eσ, .inl ⟨rfl, _, SqL.of hob⟩, ?_⟩
  refine h B τ H sh _ fun v k B1 Γ1 H1 p' n r => ?_
  obtain ⟨ds, m, d, hΓ, rfl, hmw, hdm, p'⟩ := p'
  cases r
  obtain ⟨p2, ys, eσ2, ho2, r2⟩ := own_at n.st hΓ
  rw [eσ] at eσ2
  cases eσ2
  obtain ⟨y, ey, ry⟩ := r2.get hdm
  have ml : m < ys.length := (List.getElem?_eq_some_iff.mp ey).1
  have hix : ixN ys.length (m : Int) = some m := by
    unfold ixN
    rw [if_pos (by omega), if_pos (by omega)]
    rfl
  refine ⟨p, ys, (m : Int), m, y, rfl, rfl, ho2, by omega, by omega, (ixN_seq hix).1, ey, ?_⟩
  have n2 := n.st.mut (od' := .lst (ds.eraseIdx m)) (o' := .lst (ys.eraseIdx m)) hΓ eσ ⟨_, rfl, r2.era m⟩
  exact qw _ _ _ _ _ p' (n.trans n2) ry
/-- xs[e] = d -/
theorem ws_store [F.c.Ok] {ed : ED} {i : Nat} {x : Str} {e k : Expr} {p1 p2 pos : Pos} (hN : X.N[i]? = some x) (hv : Vis X.env.scope x)
    (h : WE X F e Γ fun d Γ1 => (∃ ds0, Γ1[i]? = some (some (.own (.lst ds0)))) ∧ WE X F k Γ1 fun c Γ2 => ∃ (ds : List D) (n : Nat), Γ2[i]? = some (some (.own (.lst ds))) ∧ c = .int n ∧ n < ds.length ∧ ed.nx (Γ2.set i (some (.own (.lst (ds.set n d))))))
    (hdt : (x == ("__debug__" : Str)) = false := by decide) (hcd : (x == ("__classdict__" : Str)) = false := by decide)
    (ha : ∀ v, assign (.Subscript (.Name x p1) k p2) X.env v = (do
      let ov ← holding [v] (eval (.Name x p1) X.env)
      let iv ← holding [v, ov] (eval k X.env)
      standAt p2
      holding [v, ov, iv] (setItem ov iv v)
      release [v, ov, iv] []) := by intro _; rfl)
    (hsa : swapsWithSole [.Subscript (.Name x p1) k p2] e pos.line X.env = pure false := by rfl) (hw : swappedStores [.Subscript (.Name x p1) k p2] e X.env = pure none := by rfl)
    (ha1 : (assignEach [.Subscript (.Name x p1) k p2] X.env).map (·.2) = [assign (.Subscript (.Name x p1) k p2) X.env] := by rfl) : WS X F (.Assign [.Subscript (.Name x p1) k p2] e pos) Γ ed := by
  intro B τ H sh D l
  refine wps_of (ps_asg pe_wp (pg_sub (pe_var hN hv hdt hcd) pe_wp set_list ha) hsa hw ha1) (h B τ H sh _ fun v d B1 Γ1 H1 p n r => ?_)
  obtain ⟨⟨ds0, hΓ0⟩, p⟩ := p
  obtain ⟨p0, xs0, eσ, ho0, _⟩ := own_at n.st hΓ0
  refine ⟨.ref p0, eσ, p B1 τ H1 n.st _ fun c kd B2 Γ2 H2 p' n2 r2 => ?_⟩
  obtain ⟨ds, m, hΓ, rfl, hmw, p'⟩ := p'
  cases r2
  obtain ⟨p2, ys, eσ2, ho2, ry⟩ := own_at n2.st hΓ
  rw [eσ] at eσ2
  cases eσ2
  have hix : ixN ys.length (m : Int) = some m := by
    unfold ixN
    rw [if_pos (by omega), if_pos (by rw [ry.len]; omega)]
    rfl
  refine ⟨p0, ys, (m : Int), m, rfl, rfl, ho2, hix, ?_⟩
  have n3 := n2.st.mut (od' := .lst (ds.set m d)) (o' := .lst (ys.set m v)) hΓ eσ ⟨_, rfl, RpA.set (Rp.mono n2.ex _ _ r) m ry⟩
  exact l.nx _ _ _ _ p' n3.st ((n.ex.trans n2.ex).trans n3.ex)
end
end L2.Px
/-! PW 8: list comprehensions. -/
namespace L2.Px
open PySem PySem.Spec
open PyProof.Rows

variable [Wld]
section
variable {X : Cx} {F : Fm} {Γ : Gam} {K : PySem.W.Frag}
/-- the context of a comprehension's block -/
abbrev bx (X : Cx) (scope : Scope) (sh : Shared) (H : Hp) (C : Addr) (cl : List (Str × Addr)) (fp : List Addr) : Cx := X.blk sh H scope (compEnvC scope cl C X.env) fp
def wipeG (Γ : Gam) : List Nat → Gam
  | [] => Γ
  | v :: vs => (wipeG Γ vs).set v none
theorem wipeG_length (Γ : Gam) : ∀ vs : List Nat, (wipeG Γ vs).length = Γ.length
  | [] => rfl
  | v :: vs => by unfold wipeG; rw [List.length_set, wipeG_length Γ vs]
theorem wipeG_some {Γ : Gam} {i : Nat} {x : Sl} : ∀ {vs : List Nat}, (wipeG Γ vs)[i]? = some (some x) → Γ[i]? = some (some x) ∧ i ∉ vs
  | [], h => ⟨h, by simp⟩
  | v :: vs, h => by
    unfold wipeG at h
    by_cases e : v = i
    · subst e
      by_cases hlw : v < (wipeG Γ vs).length
      · rw [List.getElem?_set_self hlw] at h
        cases h
      · rw [List.getElem?_eq_none (by rw [List.length_set]; omega)] at h
        cases h
    · rw [List.getElem?_set_ne e] at h
      obtain ⟨ha1, h2⟩ := wipeG_some h
      exact ⟨ha1, by simp [h2, Ne.symm e]⟩
theorem wipe_at {τ : St} {i : Nat} : ∀ {vs : List Nat}, i ∉ vs → (wipe τ vs)[i]? = τ[i]?
  | [], _ => rfl
  | v :: vs, h => by
    unfold wipe
    have ha1 : v ≠ i := fun e => h (by simp [e])
    have h2 : i ∉ vs := fun e => h (List.mem_cons_of_mem _ e)
    rw [List.getElem?_set_ne ha1]
    exact wipe_at h2
theorem wipe_in {τ : St} {i : Nat} : ∀ {vs : List Nat}, i ∈ vs → i < τ.length → (wipe τ vs)[i]? = some none
  | [], h, _ => absurd h (by simp)
  | v :: vs, h, hlw => by
    unfold wipe
    by_cases e : v = i
    · subst e
      exact List.getElem?_set_self (by rw [wipe_length]; exact hlw)
    · rw [List.getElem?_set_ne e]
      rcases List.mem_cons.mp h with zw | zw
      · exact absurd zw.symm e
      · exact wipe_in zw hlw
theorem wipe_same {τ σ' : St} {vs : List Nat} (hlw : σ'.length = τ.length) (hsa : ∀ j, j ∉ vs → σ'[j]? = (wipe τ vs)[j]?) : wipe σ' vs = wipe τ vs := by
  apply List.ext_getElem?
  intro j
  by_cases h : j ∈ vs
  · by_cases l : j < τ.length
    · rw [wipe_in h (by rw [hlw]; exact l), wipe_in h l]
    · rw [List.getElem?_eq_none (by rw [wipe_length, hlw]; omega), List.getElem?_eq_none (by rw [wipe_length]; omega)]
  · rw [wipe_at h, hsa j h]
theorem stt_wipe {τ : St} {B H : Hp} (sh : Stt K F B Γ τ H) (vs : List Nat) : Stt K F B (wipeG Γ vs) (wipe τ vs) H := by
  refine ⟨sh.fr, sh.b0, sh.bH, sh.bn, sh.vH, sh.vH', sh.g, by rw [wipeG_length, wipe_length]; exact sh.len, fun i sl h => ?_, fun i j oi oj p ha1 h2 h3 h4 => ?_⟩
  · obtain ⟨ha1, h2⟩ := wipeG_some h
    obtain ⟨v, e, r⟩ := sh.sl i sl ha1
    exact ⟨v, by rw [wipe_at h2]; exact e, r⟩
  · obtain ⟨a1, a2⟩ := wipeG_some ha1
    obtain ⟨b1, b2⟩ := wipeG_some h2
    rw [wipe_at a2] at h3
    rw [wipe_at b2] at h4
    exact sh.dj i j oi oj p a1 b1 h3 h4
/-- the def's own objects are as they were -/
def Kpo (Γ Γ' : Gam) : Prop := ∀ (i : Nat) (od : OD), Γ[i]? = some (some (.own od)) → Γ'[i]? = some (some (.own od))
theorem kpo_wipe {Γ : Gam} {vs : List Nat} (h : ∀ i ∈ vs, ∀ od, Γ[i]? ≠ some (some (.own od))) : ∀ {us : List Nat}, (∀ i ∈ us, i ∈ vs) → Kpo Γ (wipeG Γ us)
  | [], _, i, od, e => e
  | u :: us, hu, i, od, e => by
    unfold wipeG
    have ne : u ≠ i := fun zw => h u (hu u (by simp)) od (by rw [zw]; exact e)
    rw [List.getElem?_set_ne ne]
    exact kpo_wipe h (fun j hjw => hu j (List.mem_cons_of_mem _ hjw)) i od e
def WTs (X : Cx) (F : Fm) (ifs : List Expr) (Γ : Gam) (T : Bool → Gam → Prop) : Prop := match ifs with
  | [] => T true Γ
  | [c] => WT X F c Γ T
  | _ => False
def tTs (X : Cx) : List Expr → TT
  | [] => tYes
  | [c] => wpT X c
  | _ => fun _ _ _ => False
theorem pts_wp {X : Cx} {ifs : List Expr} (h : ifs.length ≤ 1) : PTs X ifs (tTs X ifs) := by
  match ifs, h with
  | [], _ => exact pts_nil
  | [c], _ => exact pts_one pt_wp
  | _ :: _ :: _, h => exact absurd h (by simp)
theorem wts_run {ifs : List Expr} {P : Bool → Gam → Prop} (h : WTs X F ifs Γ P) {B H : Hp} {τ : St} (sh : Stt X.K F B Γ τ H) (Q : Bool → Hp → Prop)
    (qw : ∀ b B' Γ' H', P b Γ' → Nxt X.K F τ B Γ H B' Γ' H' → Q b H') : tTs X ifs τ H Q := by
  match ifs, h with
  | [], h => exact qw true B Γ H h (Nxt.refl sh)
  | [c], h => exact h B τ H sh Q qw
  | _ :: _ :: _, h => exact h.elim
/-- what a comprehension's walk asks -/
def lcT (X : Cx) (elt tg iter : Expr) (ifs : List Expr) (scope : Scope) (vs : List Nat) : TE := tLc (wpI X tg iter) (fun v τ H Q => ∀ s0 H0 C cl fp, wpG (bx X scope s0 H0 C cl fp) tg v τ H Q) (fun τ H Q => ∀ s0 H0 C cl fp, tTs (bx X scope s0 H0 C cl fp) ifs τ H Q) (fun τ H Q => ∀ s0 H0 C cl fp, wpE (bx X scope s0 H0 C cl fp) elt τ H Q) vs
/-- a comprehension over one for gives a new list -/
structure WL (X : Cx) (F : Fm) (e : Expr) (Γ : Gam) (Ψ : OD → Gam → Prop) : Prop where
  ex : ∃ elt tg iter ifs scope own pos, e = .ListComp elt [⟨tg, iter, ifs, 0⟩] scope pos ∧ X.calm = true ∧ X.N.Nodup ∧ BlkOk X.N X.env.scope scope own ∧ ifs.length ≤ 1 ∧ (∀ x, foldedSetIterable iter X.env x = pure x) ∧
    ∀ B τ H, Stt X.K F B Γ τ H → ∀ Q : VK, (∀ p o od B' Γ' H', Ψ od Γ' → Nxt X.K F τ B Γ H B' Γ' H' → B' p = none → F.H0 p = none → ¬ F.c.V p → ¬ Ownd Γ' τ p → H p = none → H' p = some o → OdR X.K B' p od o → Q (.ref p) H') →
      lcT X elt tg iter ifs scope (own.map (·.2)) τ H Q
theorem WL.wn {X : Cx} {F : Fm} {Γ : Gam} {e : Expr} {Ψ : OD → Gam → Prop} (h : WL X F e Γ Ψ) : WN X F e Γ Ψ := by
  obtain ⟨elt, tg, iter, ifs, scope, own, pos, rfl, hc, hN, ok, hifs, hsa, h⟩ := h.ex
  intro B τ H sh Q qw
  exact wp_of (pe_lc hc hN pi_wp ok (fun s0 H0 C cl fp => ⟨fun pq st τ H v u Q I r h => (h s0 H0 C cl fp) pq st u I r⟩) (fun s0 H0 C cl fp => ⟨fun pq st τ H Q I h => (pts_wp hifs).run pq st τ H Q I (h s0 H0 C cl fp)⟩) (fun s0 H0 C cl fp => ⟨fun pq st τ H Q I h => h s0 H0 C cl fp pq st I⟩) hsa) (h B τ H sh Q qw)
theorem we_newL {X : Cx} {F : Fm} {Γ : Gam} {Φ : D → Gam → Prop} [F.c.Ok] {e : Expr} (h : WL X F e Γ fun od Γ1 => ∃ ds, od = .lst ds ∧ Φ (.lst ds) Γ1) : WE X F e Γ Φ := we_new h.wn
/-- name = [..], the name a local -/
theorem ws_setL {X : Cx} {F : Fm} {Γ : Gam} {ed : ED} {i : Nat} {x : Str} {e : Expr} {pos pos' : Pos} (hi : X.N[i]? = some x) (hxw : X.env.scope.names.lookup x = some .local) (hlw : i < Γ.length)
    (h : WL X F e Γ fun d Γ1 => ed.nx (Γ1.set i (some (.own d)))) (hsw : swapsWith e (some (.Name x pos')) pos.line X.env = pure true) : WS X F (.Assign [.Name x pos'] e pos) Γ ed := by
  obtain ⟨elt, tg, iter, ifs, scope, own, pos2, rfl, hc, hN, ok, hifs, hsa, h⟩ := h.ex
  intro B τ H sh D l
  refine wps_of (ps_setLc hc hN hi hxw hsw pi_wp ok (fun s0 H0 C cl fp => ⟨fun pq st τ H v u Q I r h => (h s0 H0 C cl fp) pq st u I r⟩) (fun s0 H0 C cl fp => ⟨fun pq st τ H Q I h => (pts_wp hifs).run pq st τ H Q I (h s0 H0 C cl fp)⟩) (fun s0 H0 C cl fp => ⟨fun pq st τ H Q I h => h s0 H0 C cl fp pq st I⟩) hsa)
    (h B τ H sh _ fun p o od B' Γ' H' hh n hb h0 nv no _ hob r => ?_)
  refine l.nx B' _ _ H' hh (stt_set n.st (by rw [n.st.len, ← sh.len]; exact hlw) ⟨p, o, rfl, hb, h0, nv, hob, r⟩ fun _ p' _ zw => ?_) n.ex
  cases zw
  exact no
/-- [elt for tg in iter if ..]: P tells what is made of the first i items -/
theorem wn_lc [F.c.Ok] {Ψ : OD → Gam → Prop} {elt tg iter : Expr} {ifs : List Expr} {scope : Scope} {own : List (Str × Nat)} {pos : Pos} (hc : X.calm = true) (hN : X.N.Nodup) (ok : BlkOk X.N X.env.scope scope own) (hifs : ifs.length ≤ 1)
    (h : WI X F tg iter Γ fun ds Γ1 => (∀ i ∈ own.map (·.2), ∀ od, Γ1[i]? ≠ some (some (.own od))) ∧ ds.length ≤ 100000 ∧ ∃ P : Nat → List D → Prop, P 0 [] ∧ (∀ i d acc, ds[i]? = some d → P i acc → ∀ sh H C cl fp,
      WG (bx X scope sh H C cl fp) F tg (own.map (·.2)) d (wipeG Γ1 (own.map (·.2))) fun Γ2 => Kpo Γ1 Γ2 ∧ ∀ sh H C cl fp, WTs (bx X scope sh H C cl fp) F ifs Γ2 fun b Γ3 => Kpo Γ1 Γ3 ∧
        if b = true then ∀ sh H C cl fp, WE (bx X scope sh H C cl fp) F elt Γ3 fun r Γ4 => Kpo Γ1 Γ4 ∧ P (i + 1) (acc ++ [r]) else P (i + 1) acc) ∧ ∀ acc, P ds.length acc → Ψ (.lst acc) Γ1)
    (hsa : ∀ x, foldedSetIterable iter X.env x = pure x := by intro _; rfl) : WL X F (.ListComp elt [⟨tg, iter, ifs, 0⟩] scope pos) Γ Ψ := by
  refine ⟨_, _, _, _, _, own, _, rfl, hc, hN, ok, hifs, hsa, fun B τ H sh Q qw => h B τ H sh _ fun J ds B1 Γ1 H1 p n it => ?_⟩
  obtain ⟨no, hsz, P, p0, turn, done⟩ := p
  intro Dd hD
  have nl := n.st.laid (o := .lst []) hD
  have dB : B1 Dd = none := n.st.bnone hD
  have d0 : F.H0 Dd = none := n.st.h0 hD
  have dV : ¬ F.c.V Dd := n.st.nv hD
  have dO : ¬ Ownd Γ1 τ Dd := not_ownd n.st hD
  -- what holds ahead of turn i
  let Iv : Nat → Hp → Prop := fun i H' => ∃ B' acc av, Stt X.K F B' Γ1 τ H' ∧ Ex B1 B' ∧ B' Dd = none ∧ H' Dd = some (.lst av) ∧ RpA X.K B' av acc ∧ P i acc ∧ acc.length ≤ i ∧
    (∀ a o, H1 a = some o → ¬ F.c.V a → ¬ Ownd Γ1 τ a → H' a = some o) ∧ (∀ a, H1 a ≠ none → H' a ≠ none) ∧ (∀ a o, B' a = some o → B1 a = some o ∨ H1 a = none)
  refine ⟨fun i m H' => m = ds.length - i ∧ i ≤ ds.length ∧ Iv i H', ⟨ds.length, by simp, Nat.zero_le _, B1, [], [], nl.st, Ex.refl _, dB, upd_same, .nil, p0, Nat.le_refl _, fun a o e _ _ => ?_, fun a e => ?_, fun _ _ zw => .inl zw⟩, ?_⟩
  · rw [upd_ne (ne_of_none e hD)]
    exact e
  · exact nl.al a e
  · rintro i m H' ⟨rfl, hi, B', acc, av, s', en, hb, hdt, ra, hP, hacc, kp, al, nb⟩
    obtain ⟨go, stop, yld⟩ := it F rfl Γ1 B' τ H' s' en i
    by_cases hlt : i < ds.length
    · refine .inr ⟨go hlt, Iv (i + 1), fun H2 q2 => ⟨ds.length - (i + 1), by omega, rfl, hlt, q2⟩, fun x H2 y => ?_⟩
      obtain ⟨d, B2, hdi, n2, rxw⟩ := yld hlt x H2 y
      have hd2 : H2 Dd = some (.lst av) := n2.kp _ _ hdt dV dO
      have bnone : ∀ {B3 B4 H3 : Hp}, B3 Dd = none → H3 Dd = some (.lst av) → (∀ a o, B4 a = some o → B3 a = some o ∨ H3 a = none) → B4 Dd = none := fun {B3 B4 H3} ha1 h2 h3 => by
        cases e : B4 Dd with
        | none => rfl
        | some o =>
          rcases h3 Dd o e with zw | zw
          · rw [ha1] at zw
            cases zw
          · rw [h2] at zw
            cases zw
      have hb2 := bnone hb hdt n2.nb
      -- the block begins
      refine ?_
      have sw := stt_wipe n2.st (own.map (·.2))
      have ow0 : ∀ a, Ownd (wipeG Γ1 (own.map (·.2))) (wipe τ (own.map (·.2))) a → Ownd Γ1 τ a := fun a ⟨k, od, ha1, h2⟩ => by
        obtain ⟨g1, g2⟩ := wipeG_some ha1
        rw [wipe_at g2] at h2
        exact ⟨k, od, g1, h2⟩
      intro s0 H0 C0 cl0 fp0
      refine turn i d acc hdi hP s0 H0 C0 cl0 fp0 B2 _ H2 x sw rxw _ fun B3 Γ3 σ3 H3 p3 t3 => ?_
      obtain ⟨k3, p3⟩ := p3
      refine ⟨wipe_same (by rw [t3.ln, wipe_length]) t3.sm, ?_⟩
      have hd3 : H3 Dd = some (.lst av) := t3.kp _ _ hd2 dV fun zw => dO (ow0 _ zw)
      have hb3 := bnone hb2 hd2 t3.nb
      have kp3 : ∀ a o, H1 a = some o → ¬ F.c.V a → ¬ Ownd Γ1 τ a → H3 a = some o := fun a o h v w => t3.kp a o (n2.kp a o (kp a o h v w) v w) v fun zw => w (ow0 _ zw)
      have al3 : ∀ a, H1 a ≠ none → H3 a ≠ none := fun a h => t3.al a (n2.al a (al a h))
      have e3 : Ex B1 B3 := (en.trans n2.ex).trans t3.ex
      -- back to the def's own slots
      have back : ∀ {B4 Γ4 H4}, Stt X.K F B4 Γ4 σ3 H4 → Ex B1 B4 → Kpo Γ1 Γ4 → Stt X.K F B4 Γ1 τ H4 := fun {B4 Γ4 H4} s4 e4 k4 => by
        refine ⟨s4.fr, s4.b0, s4.bH, s4.bn, s4.vH, s4.vH', s4.g, s'.len, fun j sl hjw => ?_, s'.dj⟩
        obtain ⟨v, evw, rv⟩ := n.st.sl j sl hjw
        refine ⟨v, evw, ?_⟩
        cases sl with
        | val d => exact Rp.mono e4 _ _ rv
        | own od =>
          obtain ⟨v4, ev4, r4⟩ := s4.sl j _ (k4 j od hjw)
          have nj : j ∉ own.map (·.2) := fun zw => no j zw od hjw
          rw [t3.sm j nj, wipe_at nj, evw] at ev4
          cases ev4
          exact r4
      intro s0 H0 C0 cl0 fp0
      refine wts_run (p3 s0 H0 C0 cl0 fp0) t3.st _ fun b B4 Γ4 H4 p4 n4 => ?_
      obtain ⟨k4, p4⟩ := p4
      have ow3 : ∀ a, Ownd Γ3 σ3 a → Ownd Γ1 τ a := fun a zw => ow0 a (t3.ow a zw)
      have hd4 : H4 Dd = some (.lst av) := n4.kp _ _ hd3 dV fun zw => dO (ow3 _ zw)
      have hb4 := bnone hb3 hd3 n4.nb
      have kp4 : ∀ a o, H1 a = some o → ¬ F.c.V a → ¬ Ownd Γ1 τ a → H4 a = some o := fun a o h v w => n4.kp a o (kp3 a o h v w) v fun zw => w (ow3 a zw)
      have al4 : ∀ a, H1 a ≠ none → H4 a ≠ none := fun a h => n4.al a (al3 a h)
      have e4 := e3.trans n4.ex
      have cmp : ∀ {B6 Hw6 B7 : Hp}, (∀ a o, B6 a = some o → B1 a = some o ∨ H1 a = none) → (∀ a, H1 a ≠ none → Hw6 a ≠ none) → (∀ a o, B7 a = some o → B6 a = some o ∨ Hw6 a = none) → ∀ a o, B7 a = some o → B1 a = some o ∨ H1 a = none := fun {B6 Hw6 B7} ha1 h2 h3 a o e => by
        rcases h3 a o e with zw | zw
        · exact ha1 a o zw
        · refine .inr ?_
          cases qw : H1 a with
          | none => rfl
          | some u => exact absurd zw (h2 a (by rw [qw]; exact fun w => nomatch w))
      have nb4 := cmp (cmp (cmp nb al n2.nb) (fun a h => n2.al a (al a h)) t3.nb) al3 n4.nb
      cases b with
      | false => exact ⟨B4, acc, av, back n4.st e4 k4, e4, hb4, hd4, RpA.mono ((n2.ex.trans t3.ex).trans n4.ex) _ _ ra, p4, Nat.le_succ_of_le hacc, kp4, al4, nb4⟩
      | true =>
        intro s0 H0 C0 cl0 fp0
        refine p4 s0 H0 C0 cl0 fp0 B4 σ3 H4 n4.st _ fun y r B5 Γ5 H5 p5 n5 ry => ?_
        obtain ⟨k5, p5⟩ := p5
        have ow4 : ∀ a, Ownd Γ4 σ3 a → Ownd Γ1 τ a := fun a zw => ow3 a (n4.ow a zw)
        have hd5 : H5 Dd = some (.lst av) := n5.kp _ _ hd4 dV fun zw => dO (ow4 _ zw)
        have hb5 := bnone hb4 hd4 n5.nb
        have e5 := e4.trans n5.ex
        have eB : Ex B' B5 := ((n2.ex.trans t3.ex).trans n4.ex).trans n5.ex
        have s5 := back n5.st e5 k5
        have ra5 := RpA.mono eB _ _ ra
        refine ⟨av, hd5, Nat.lt_of_lt_of_le (by rw [ra.len]; omega) (show 100001 ≤ sizeLine by decide), B5, acc ++ [r], av ++ [y], ?_, e5, hb5, upd_same, RpA.app ra5 (.cons ry .nil), p5, by rw [List.length_append, List.length_singleton]; omega, fun a o h v w => ?_, fun a h => ?_, cmp nb4 al4 n5.nb⟩
        · have hne : ∀ a u, H5 a = some u → a ≠ Dd → upd H5 Dd (.lst (av ++ [y])) a = some u := fun a u h ne => by
            rw [upd_ne ne]
            exact h
          refine ⟨fun a u h v => hne a u (s5.fr a u h v) (fun zw => by rw [zw, d0] at h; cases h), s5.b0, fun a u h => ⟨hne a u (s5.bH a u h).1 (fun zw => by rw [zw, hb5] at h; cases h), (s5.bH a u h).2⟩, s5.bn, s5.vH, fun a v => ?_,
            Cfg.Ok.st H5 _ (fun a v => upd_ne (fun zw => dV (by rw [← zw]; exact v))) (fun a u h _ f => hne a u h (fun zw => by rw [zw, hd5] at h; cases h; exact f)) s5.g, s5.len, fun j sl hjw => ?_, s5.dj⟩
          · unfold upd
            split
            · exact fun zw => nomatch zw
            · exact s5.vH' a v
          · obtain ⟨v, evw, rv⟩ := s5.sl j sl hjw
            refine ⟨v, evw, ?_⟩
            cases sl with
            | val d => exact rv
            | own od =>
              obtain ⟨p1, u, rfl, b1, ha1, n1, ea1, r1⟩ := rv
              exact ⟨p1, u, rfl, b1, ha1, n1, hne p1 u ea1 (fun zw => dO ⟨j, od, hjw, by rw [← zw]; exact evw⟩), r1⟩
        · have h5 : H5 a = some o := n5.kp a o (kp4 a o h v w) v fun zw => w (ow4 a zw)
          rw [upd_ne (fun zw => by rw [zw, hD] at h; cases h)]
          exact h5
        · unfold upd
          split
          · exact fun zw => nomatch zw
          · exact n5.al a (al4 a h)
    · have ei : i = ds.length := by omega
      subst ei
      refine .inl ⟨stop (Nat.le_refl _), ?_⟩
      refine qw Dd (.lst av) (.lst acc) B' Γ1 H' (done acc hP) (n.trans ⟨s', en, kp, fun _ zw => zw, al, nb⟩) hb d0 dV dO ?_ hdt ⟨av, rfl, ra⟩
      cases e : H Dd with
      | none => rfl
      | some u => exact absurd hD (n.al Dd (by rw [e]; exact fun zw => nomatch zw))
end
end L2.Px
/-! PW 9: several names at once, lists lent and given away, raise, keyword calls, targets that are tuples. -/
namespace L2.Px
open PySem PySem.Spec
open PyProof.Rows

variable [Wld]
section
variable {X : Cx} {F : Fm} {Γ : Gam} {K : PySem.W.Frag} {Φ : D → Gam → Prop} {ed : ED}
/-- e gives what a slot may hold -/
def WX (X : Cx) (F : Fm) (e : Expr) (Γ : Gam) (Φ : Sl → Gam → Prop) : Prop := ∀ B τ H, Stt X.K F B Γ τ H → ∀ Q : VK,
  (∀ v sl B' Γ' H', Φ sl Γ' → Nxt X.K F τ B Γ H B' Γ' H' → SlR X.K F B' H' sl v → (∀ od p, sl = .own od → v = .ref p → ¬ Ownd Γ' τ p ∧ H p = none) → Q v H') → wpE X e τ H Q
theorem wx_val {e : Expr} {Φ : Sl → Gam → Prop} (h : WE X F e Γ fun d Γ1 => Φ (.val d) Γ1) : WX X F e Γ Φ := fun B τ H sh Q qw =>
  h B τ H sh Q fun v d B' Γ' H' p n r => qw v (.val d) B' Γ' H' p n r fun _ _ zw => nomatch zw
theorem wx_new {e : Expr} {Φ : Sl → Gam → Prop} (h : WN X F e Γ fun od Γ1 => Φ (.own od) Γ1) : WX X F e Γ Φ := fun B τ H sh Q qw =>
  h B τ H sh Q fun p o od B' Γ' H' hh n hb h0 nv no new hob r => qw (.ref p) (.own od) B' Γ' H' hh n ⟨p, o, rfl, hb, h0, nv, hob, r⟩ fun _ p' _ zw => by
    cases zw
    exact ⟨no, new⟩
theorem slr_next {τ : St} {B H B' H' : Hp} {Γ' : Gam} {sl : Sl} {v : V} (n : Nxt K F τ B Γ H B' Γ' H') (r : SlR K F B H sl v) (no : ∀ od p, sl = .own od → v = .ref p → ¬ Ownd Γ τ p) :
    SlR K F B' H' sl v ∧ ∀ od p, sl = .own od → v = .ref p → ¬ Ownd Γ' τ p ∧ H p ≠ none := by
  cases sl with
  | val d => exact ⟨Rp.mono n.ex _ _ r, fun _ _ zw => nomatch zw⟩
  | own od =>
    obtain ⟨p, o, rfl, hb, h0, nv, hob, ro⟩ := r
    have w := no od p rfl rfl
    refine ⟨⟨p, o, rfl, ?_, h0, nv, n.kp p o hob nv w, ro.mono n.ex⟩, fun _ p' _ zw => ?_⟩
    · cases e : B' p with
      | none => rfl
      | some u =>
        rcases n.nb p u e with zw | zw
        · rw [hb] at zw
          cases zw
        · rw [hob] at zw
          cases zw
    · cases zw
      exact ⟨fun zw => w (n.ow _ zw), by rw [hob]; exact fun zw => nomatch zw⟩
theorem ownd_set {τ : St} {i : Nat} {v : V} {sl : Sl} (hlw : Γ.length = τ.length) (hi : i < Γ.length) {a : Addr} (h : Ownd (Γ.set i (some sl)) (τ.set i (some v)) a) : Ownd Γ τ a ∨ ∃ od, sl = .own od ∧ v = .ref a := by
  obtain ⟨j, od, ha1, h2⟩ := h
  by_cases e : i = j
  · subst e
    rw [List.getElem?_set_self hi] at ha1
    rw [List.getElem?_set_self (by rw [← hlw]; exact hi)] at h2
    cases ha1
    cases h2
    exact .inr ⟨od, rfl, rfl⟩
  · rw [List.getElem?_set_ne e] at ha1 h2
    exact .inl ⟨j, od, ha1, h2⟩
/-- x, y = a, b -/
theorem ws_par {i j : Nat} {x y : Str} {a b : Expr} {px py pt pos : Pos} {kt k2 pt2} (hc : X.calm = true) (hN : X.N.Nodup) (hi : X.N[i]? = some x) (hjw : X.N[j]? = some y) (hij : i ≠ j) (hli : i < Γ.length) (hlj : j < Γ.length)
    (hxw : X.env.scope.names.lookup x = some .local) (hyw : X.env.scope.names.lookup y = some .local)
    (h : WX X F a Γ fun s1 Γ1 => WX X F b Γ1 fun s2 Γ2 => ed.nx ((Γ2.set i (some s1)).set j (some s2)))
    (hw : swappedStores [.Tuple [.Name x px, .Name y py] kt pt] (.Tuple [a, b] k2 pt2) X.env = pure (some [x, y]) := by rfl)
    (hsa : swapsWithSole [.Tuple [.Name x px, .Name y py] kt pt] (.Tuple [a, b] k2 pt2) pos.line X.env = pure false := by rfl)
    (ha : starEach (a :: [b]) X.env = (false, eval a X.env) :: starEach [b] X.env := by rfl) (hb : starEach (b :: []) X.env = (false, eval b X.env) :: starEach [] X.env := by rfl) :
    WS X F (.Assign [.Tuple [.Name x px, .Name y py] kt pt] (.Tuple [a, b] k2 pt2) pos) Γ ed := by
  intro B τ H sh D l
  refine wps_of (L2.ps_par hc hN hi hjw hij hxw hyw (pa_cons pe_wp (pa_cons pe_wp pa_nil hb) ha) hw hsa) (h B τ H sh _ fun v1 s1 B1 Γ1 H1 p n r1 f1 => ?_)
  refine p B1 τ H1 n.st _ fun v2 s2 B2 Γ2 H2 p2 n2 r2 f2 => ⟨v1, v2, rfl, ?_⟩
  obtain ⟨r1', f1'⟩ := slr_next n2 r1 fun od qw ea1 e2 => (f1 od qw ea1 e2).1
  have il : i < Γ2.length := by rw [n2.st.len, ← sh.len]; exact hli
  have jl : j < Γ2.length := by rw [n2.st.len, ← sh.len]; exact hlj
  have st1 := stt_set n2.st il r1' fun od qw ea1 e2 => (f1' od qw ea1 e2).1
  refine l.nx _ _ _ _ p2 (stt_set st1 (by rw [List.length_set]; exact jl) r2 fun od qw ea1 e2 zw => ?_) (n.ex.trans n2.ex)
  rcases ownd_set n2.st.len il zw with zw | ⟨od', e3, e4⟩
  · exact (f2 od qw ea1 e2).1 zw
  · exact (f1' od' qw e3 e4).2 (f2 od qw ea1 e2).2
/-- x, y, zw = a, b, c -/
theorem ws_par3 {i j k : Nat} {x y zw : Str} {a b c : Expr} {px py pz pt pos : Pos} {kt k2 pt2} (hc : X.calm = true) (hN : X.N.Nodup) (hi : X.N[i]? = some x) (hjw : X.N[j]? = some y) (hkw2 : X.N[k]? = some zw) (hij : i ≠ j) (hik : i ≠ k) (hjk : j ≠ k) (hli : i < Γ.length) (hlj : j < Γ.length) (hlk : k < Γ.length)
    (hxw : X.env.scope.names.lookup x = some .local) (hyw : X.env.scope.names.lookup y = some .local) (hzz : X.env.scope.names.lookup zw = some .local)
    (h : WE X F a Γ fun d1 Γ1 => WE X F b Γ1 fun d2 Γ2 => WE X F c Γ2 fun d3 Γ3 => ed.nx (((Γ3.set i (some (.val d1))).set j (some (.val d2))).set k (some (.val d3))))
    (hw : swappedStores [.Tuple [.Name x px, .Name y py, .Name zw pz] kt pt] (.Tuple [a, b, c] k2 pt2) X.env = pure (some [x, y, zw]) := by rfl)
    (hsa : swapsWithSole [.Tuple [.Name x px, .Name y py, .Name zw pz] kt pt] (.Tuple [a, b, c] k2 pt2) pos.line X.env = pure false := by rfl)
    (ha : starEach (a :: [b, c]) X.env = (false, eval a X.env) :: starEach [b, c] X.env := by rfl) (hb : starEach (b :: [c]) X.env = (false, eval b X.env) :: starEach [c] X.env := by rfl) (hcc : starEach (c :: []) X.env = (false, eval c X.env) :: starEach [] X.env := by rfl) :
    WS X F (.Assign [.Tuple [.Name x px, .Name y py, .Name zw pz] kt pt] (.Tuple [a, b, c] k2 pt2) pos) Γ ed := by
  intro B τ H sh D l
  refine wps_of (L2.ps_par3 hc hN hi hjw hkw2 hij hik hjk hxw hyw hzz (pa_cons pe_wp (pa_cons pe_wp (pa_cons pe_wp pa_nil hcc) hb) ha) hw hsa) (h B τ H sh _ fun v1 d1 B1 Γ1 H1 p n r1 => ?_)
  refine p B1 τ H1 n.st _ fun v2 d2 B2 Γ2 H2 p2 n2 r2 => ?_
  refine p2 B2 τ H2 n2.st _ fun v3 d3 B3 Γ3 H3 p3 n3 r3 => ⟨v1, v2, v3, rfl, ?_⟩
  have il : i < Γ3.length := by rw [n3.st.len, ← sh.len]; exact hli
  have jl : j < Γ3.length := by rw [n3.st.len, ← sh.len]; exact hlj
  have kl : k < Γ3.length := by rw [n3.st.len, ← sh.len]; exact hlk
  have st1 := stt_set (sl := .val d1) n3.st il (Rp.mono (n2.ex.trans n3.ex) _ _ r1) fun _ _ zw => nomatch zw
  have st2 := stt_set (sl := .val d2) (i := j) st1 (by rw [List.length_set]; exact jl) (Rp.mono n3.ex _ _ r2) fun _ _ zw => nomatch zw
  have st3 := stt_set (sl := .val d3) (i := k) st2 (by rw [List.length_set, List.length_set]; exact kl) r3 fun _ _ zw => nomatch zw
  exact l.nx _ _ _ _ p3 st3 ((n.ex.trans n2.ex).trans n3.ex)
/-! ### a list given away: it stays from here on -/
theorem stt_give {τ : St} {B H : Hp} (sh : Stt K F B Γ τ H) {i : Nat} {ds : List D} (h : Γ[i]? = some (some (.own (.lst ds)))) : ∃ B', Stt K F B' (Γ.set i (some (.val (.lst ds)))) τ H ∧ Ex B B' := by
  obtain ⟨v, e, p, o, rfl, hb, h0, nv, hob, xs, rfl, r⟩ := sh.sl i _ h
  have il : i < Γ.length := (List.getElem?_eq_some_iff.mp h).1
  have eB : Ex B (upd B p (.lst xs)) := fun a u zw => by
    rw [upd_ne (ne_of_none zw hb)]
    exact zw
  refine ⟨upd B p (.lst xs), ⟨sh.fr, sh.b0.trans eB, fun a u zw => ?_, fun a u zw => ?_, sh.vH, sh.vH', sh.g, by rw [List.length_set]; exact sh.len, fun j sl hjw => ?_, fun j k oj ok qw ha1 h2 h3 h4 => ?_⟩, eB⟩
  · by_cases w : a = p
    · subst w
      rw [upd_same] at zw
      cases zw
      exact ⟨hob, nv⟩
    · rw [upd_ne w] at zw
      exact sh.bH a u zw
  · by_cases w : a = p
    · subst w
      exact .inr h0
    · rw [upd_ne w] at zw
      exact sh.bn a u zw
  · by_cases w : i = j
    · subst w
      rw [List.getElem?_set_self il] at hjw
      cases hjw
      exact ⟨.ref p, e, .lst upd_same (RpA.mono eB _ _ r)⟩
    · rw [List.getElem?_set_ne w] at hjw
      obtain ⟨v, evw, rv⟩ := sh.sl j sl hjw
      refine ⟨v, evw, ?_⟩
      cases sl with
      | val d => exact Rp.mono eB _ _ rv
      | own od =>
        obtain ⟨qw, u, rfl, b1, ha1, n1, ea1, r1⟩ := rv
        have nq : qw ≠ p := fun zw => w (sh.dj i j _ od p h hjw e (by rw [← zw]; exact evw))
        exact ⟨qw, u, rfl, by rw [upd_ne nq]; exact b1, ha1, n1, ea1, r1.mono eB⟩
  · have ne : ∀ m om, (Γ.set i (some (Sl.val (.lst ds))))[m]? = some (some (Sl.own om)) → Γ[m]? = some (some (Sl.own om)) := fun m om zw => by
      by_cases w : i = m
      · subst w
        rw [List.getElem?_set_self il] at zw
        cases zw
      · rw [List.getElem?_set_ne w] at zw
        exact zw
    exact sh.dj j k oj ok qw (ne j oj ha1) (ne k ok h2) h3 h4
theorem wss_give {i : Nat} {ds : List D} {sts : List Stmt} (h0 : Γ[i]? = some (some (.own (.lst ds)))) (h : WSs X F sts (Γ.set i (some (.val (.lst ds)))) ed) : WSs X F sts Γ ed := by
  intro B τ H sh D l
  obtain ⟨B', s', e⟩ := stt_give sh h0
  exact h B' τ H s' D (l.ext e)
theorem ws_give {i : Nat} {ds : List D} {st : Stmt} (h0 : Γ[i]? = some (some (.own (.lst ds)))) (h : WS X F st (Γ.set i (some (.val (.lst ds)))) ed) : WS X F st Γ ed := by
  intro B τ H sh D l
  obtain ⟨B', s', e⟩ := stt_give sh h0
  exact h B' τ H s' D (l.ext e)
/-! ### a list lent to an expression -/
mutual
def D.imm : D → Bool
  | .tup ds => D.immA ds
  | .lst _ => false
  | .scr _ => false
  | .ntup _ => false
  | .dic _ _ => false
  | _ => true
def D.immA : List D → Bool
  | [] => true
  | d :: ds => d.imm && D.immA ds
end
def OD.imm : OD → Bool
  | .lst ds => D.immA ds
  | .dK kvs => D.immA (kvs.map (·.2))
  | .dT kvs => D.immA (kvs.map (·.2))
  | .dN ks vs => D.immA ks && D.immA vs
/-- B without p -/
def cutB (B : Hp) (p : Addr) : Hp := fun a => if a = p then none else B a
theorem cutB_ne {B : Hp} {p a : Addr} (h : a ≠ p) : cutB B p a = B a := if_neg h
theorem EC.at.cut {B : Hp} {p a : Addr} {o : HO} (hp : B p = some o) (h1 : ∀ C d a, ExD C d a ≠ o) (h2 : ∀ fs, HO.xd fs ≠ o) : ∀ {C : EC}, C.at B a → C.at (cutB B p) a
  | .pl _, h => by
    show cutB B p a = _
    rw [cutB_ne (ne_of h hp (h1 _ _ _))]
    exact h
  | .fd _ _ _, ⟨dd, e1, e2⟩ => ⟨dd, by rw [cutB_ne (ne_of e1 hp (h1 _ _ _))]; exact e1, by rw [cutB_ne (ne_of e2 hp (h2 _))]; exact e2⟩
mutual
theorem Rp.cutB {B : Hp} {p : Addr} {xs : List V} (hp : B p = some (.lst xs)) : ∀ (d : D) (v : V), d.imm = true → Rp K B v d → Rp K (cutB B p) v d
  | .non, _, _, h => by cases h; exact .non
  | .bl _, _, _, h => by cases h; exact .bl _
  | .int _, _, _, h => by cases h; exact .int _
  | .str _, _, _, h => by cases h; exact .str _
  | .tup ds, _, i, h => by
    cases h with
    | tup hsa ha =>
      refine .tup ?_ (RpA.cutB hp ds _ i ha)
      rcases hsa with hsa | ⟨o, hsa⟩
      · exact .inl (by rw [cutB_ne (ne_of hsa hp (fun zw => nomatch zw))]; exact hsa)
      · exact .inr ⟨o, by rw [cutB_ne (ne_of hsa hp (fun zw => nomatch zw))]; exact hsa⟩
  | .ntup _, _, i, _ => nomatch i
  | .lst _, _, i, _ => nomatch i
  | .scr _, _, i, _ => nomatch i
  | .dic _ _, _, i, _ => nomatch i
  | .dct, _, _, h => by
    cases h with
    | dct qw => exact .dct (by rw [cutB_ne (ne_of qw hp (fun zw => nomatch zw))]; exact qw)
  | .dix, _, _, h => by
    cases h with
    | dix qw => exact .dix (by rw [cutB_ne (ne_of qw hp (fun zw => nomatch zw))]; exact qw)
  | .obj _, _, _, h => by cases h; exact .obj _
  | .ty _, _, _, h => by cases h; exact .ty _
  | .exc _, _, _, h => by
    cases h with
    | exc qw => exact .exc (qw.cut hp (fun _ _ _ zw => nomatch zw) (fun _ zw => nomatch zw))
theorem RpA.cutB {B : Hp} {p : Addr} {xs : List V} (hp : B p = some (.lst xs)) : ∀ (ds : List D) (vs : List V), D.immA ds = true → RpA K B vs ds → RpA K (cutB B p) vs ds
  | [], _, _, h => by cases h; exact .nil
  | d :: ds, _, i, h => by
    cases h with
    | cons ha1 h2 =>
      have qw : d.imm = true ∧ D.immA ds = true := by
        have zw : (d.imm && D.immA ds) = true := i
        simpa using zw
      exact .cons (Rp.cutB hp d _ qw.1 ha1) (RpA.cutB hp ds _ qw.2 h2)
end
theorem OdR.cutB {B : Hp} {p q : Addr} {xs : List V} (hp : B p = some (.lst xs)) : ∀ {od : OD} {o : HO}, od.imm = true → OdR K B q od o → OdR K (cutB B p) q od o
  | .lst _, _, i, ⟨xs, h, r⟩ => ⟨xs, h, RpA.cutB hp _ _ i r⟩
  | .dK _, _, i, ⟨xs, h, k, r⟩ => ⟨xs, h, k, RpA.cutB hp _ _ i r⟩
  | .dT _, _, i, ⟨xs, h, k, r⟩ => ⟨xs, h, k, RpA.cutB hp _ _ i r⟩
  | .dN ks vs, _, i, ⟨xs, h, n, k, r⟩ => by
    have zw : (D.immA ks && D.immA vs) = true := i
    simp only [Bool.and_eq_true] at zw
    exact ⟨xs, h, n, RpA.cutB hp _ _ zw.1 k, RpA.cutB hp _ _ zw.2 r⟩
/-- behind an expression that a list was lent to -/
theorem nxt_lent {τ : St} {B H : Hp} (sh : Stt K F B Γ τ H) {i : Nat} {ds : List D} (h : Γ[i]? = some (some (.own (.lst ds)))) (hob : ∀ (j : Nat) (od : OD), j ≠ i → Γ[j]? = some (some (.own od)) → od.imm = true) :
    ∃ B1, Stt K F B1 (Γ.set i (some (.val (.lst ds)))) τ H ∧ Ex B B1 ∧ ∀ B2 H2, Nxt K F τ B1 (Γ.set i (some (.val (.lst ds)))) H B2 (Γ.set i (some (.val (.lst ds)))) H2 → ∃ B3, Nxt K F τ B Γ H B3 Γ H2 ∧ ∀ v d, d.imm = true → Rp K B2 v d → Rp K B3 v d := by
  obtain ⟨v, e, p, o, rfl, hb, h0, nv, hoH, xs, rfl, r⟩ := sh.sl i _ h
  have il : i < Γ.length := (List.getElem?_eq_some_iff.mp h).1
  have eB : Ex B (upd B p (.lst xs)) := fun a u zw => by
    rw [upd_ne (ne_of_none zw hb)]
    exact zw
  have s1 : Stt K F (upd B p (.lst xs)) (Γ.set i (some (.val (.lst ds)))) τ H := by
    refine ⟨sh.fr, sh.b0.trans eB, fun a u zw => ?_, fun a u zw => ?_, sh.vH, sh.vH', sh.g, by rw [List.length_set]; exact sh.len, fun j sl hjw => ?_, fun j k oj ok qw ha1 h2 h3 h4 => ?_⟩
    · by_cases w : a = p
      · subst w
        rw [upd_same] at zw
        cases zw
        exact ⟨hoH, nv⟩
      · rw [upd_ne w] at zw
        exact sh.bH a u zw
    · by_cases w : a = p
      · subst w
        exact .inr h0
      · rw [upd_ne w] at zw
        exact sh.bn a u zw
    · by_cases w : i = j
      · subst w
        rw [List.getElem?_set_self il] at hjw
        cases hjw
        exact ⟨.ref p, e, .lst upd_same (RpA.mono eB _ _ r)⟩
      · rw [List.getElem?_set_ne w] at hjw
        obtain ⟨v, evw, rv⟩ := sh.sl j sl hjw
        refine ⟨v, evw, ?_⟩
        cases sl with
        | val d => exact Rp.mono eB _ _ rv
        | own od =>
          obtain ⟨qw, u, rfl, b1, ha1, n1, ea1, r1⟩ := rv
          have nq : qw ≠ p := fun zw => w (sh.dj i j _ od p h hjw e (by rw [← zw]; exact evw))
          exact ⟨qw, u, rfl, by rw [upd_ne nq]; exact b1, ha1, n1, ea1, r1.mono eB⟩
    · have ne : ∀ m om, (Γ.set i (some (Sl.val (.lst ds))))[m]? = some (some (Sl.own om)) → Γ[m]? = some (some (Sl.own om)) := fun m om zw => by
        by_cases w : i = m
        · subst w
          rw [List.getElem?_set_self il] at zw
          cases zw
        · rw [List.getElem?_set_ne w] at zw
          exact zw
      exact sh.dj j k oj ok qw (ne j oj ha1) (ne k ok h2) h3 h4
  refine ⟨upd B p (.lst xs), s1, eB, fun B2 H2 n => ?_⟩
  have hp2 : B2 p = some (.lst xs) := n.ex p _ upd_same
  have e3 : Ex B (cutB B2 p) := fun a u zw => by
    rw [cutB_ne (fun w => by rw [w, hb] at zw; cases zw)]
    exact n.ex a u (eB a u zw)
  have b3 : ∀ a u, cutB B2 p a = some u → B2 a = some u ∧ a ≠ p := fun a u zw => by
    by_cases w : a = p
    · rw [w] at zw
      unfold cutB at zw
      rw [if_pos rfl] at zw
      cases zw
    · rw [cutB_ne w] at zw
      exact ⟨zw, w⟩
  have s2 := n.st
  refine ⟨cutB B2 p, ⟨⟨s2.fr, fun a u zw => e3 a u (sh.b0 a u zw), fun a u zw => s2.bH a u (b3 a u zw).1, fun a u zw => s2.bn a u (b3 a u zw).1, s2.vH, s2.vH', s2.g, sh.len, fun j sl hjw => ?_, sh.dj⟩, e3, fun a u zw nv' no => ?_, fun _ zw => zw, n.al, fun a u zw => ?_⟩, fun v d im rv => Rp.cutB hp2 d v im rv⟩
  · obtain ⟨v, evw, rv⟩ := sh.sl j sl hjw
    refine ⟨v, evw, ?_⟩
    by_cases w : i = j
    · subst w
      rw [h] at hjw
      cases hjw
      rw [e] at evw
      cases evw
      refine ⟨p, .lst xs, rfl, if_pos rfl, h0, nv, (s2.bH p _ hp2).1, xs, rfl, RpA.mono e3 _ _ r⟩
    · cases sl with
      | val d => exact Rp.mono e3 _ _ rv
      | own od =>
        obtain ⟨v', ev', qw, u, rfl, b1, ha1, n1, ea1, r1⟩ := s2.sl j (.own od) (by rw [List.getElem?_set_ne w]; exact hjw)
        rw [evw] at ev'
        cases ev'
        have nq : qw ≠ p := fun zw => w (sh.dj i j _ od p h hjw e (by rw [← zw]; exact evw))
        exact ⟨qw, u, rfl, by rw [cutB_ne nq]; exact b1, ha1, n1, ea1, r1.cutB hp2 (hob j od (Ne.symm w) hjw)⟩
  · refine n.kp a u zw nv' fun ⟨j, oj, ha1, h2⟩ => no ⟨j, oj, ?_, h2⟩
    by_cases w : i = j
    · subst w
      rw [List.getElem?_set_self il] at ha1
      cases ha1
    · rw [List.getElem?_set_ne w] at ha1
      exact ha1
  · obtain ⟨z1, z2⟩ := b3 a u zw
    rcases n.nb a u z1 with w | w
    · rw [upd_ne z2] at w
      exact .inl w
    · exact .inr w
theorem we_lend {e : Expr} {i : Nat} {ds : List D} (h0 : Γ[i]? = some (some (.own (.lst ds)))) (hob : ∀ (j : Nat) (od : OD), j ≠ i → Γ[j]? = some (some (.own od)) → od.imm = true)
    (h : WE X F e (Γ.set i (some (.val (.lst ds)))) fun d Γ1 => Γ1 = Γ.set i (some (.val (.lst ds))) ∧ d.imm = true ∧ Φ d Γ) : WE X F e Γ Φ := by
  intro B τ H sh Q qw
  obtain ⟨B1, s1, ea1, back⟩ := nxt_lent sh h0 hob
  refine h B1 τ H s1 Q fun v d B2 Γ2 H2 p n r => ?_
  obtain ⟨rfl, im, p⟩ := p
  obtain ⟨B3, n3, r3⟩ := back B2 H2 n
  exact qw v d B3 Γ H2 p n3 (r3 v d im r)
theorem wt_lend {e : Expr} {i : Nat} {ds : List D} {T : Bool → Gam → Prop} (h0 : Γ[i]? = some (some (.own (.lst ds)))) (hob : ∀ (j : Nat) (od : OD), j ≠ i → Γ[j]? = some (some (.own od)) → od.imm = true)
    (h : WT X F e (Γ.set i (some (.val (.lst ds)))) fun b Γ1 => Γ1 = Γ.set i (some (.val (.lst ds))) ∧ T b Γ) : WT X F e Γ T := by
  intro B τ H sh Q qw
  obtain ⟨B1, s1, ea1, back⟩ := nxt_lent sh h0 hob
  refine h B1 τ H s1 Q fun b B2 Γ2 H2 p n => ?_
  obtain ⟨rfl, p⟩ := p
  obtain ⟨B3, n3, _⟩ := back B2 H2 n
  exact qw b B3 Γ H2 p n3
/-! ### raise X('..') -/
/-- X is an own exception class at C, made with a text -/
structure Exn (X : Cx) (x : Str) (C : Addr) : Prop where
  ex : ∃ (B newId initId : String) (bmB : List Value), ExcBaseFacts B newId initId bmB ∧ PySem.W.excIn X.K C bmB newId = true
  g : X.mg x = some (.ref C)
  k : PySem.W.keepIn X.K (.ref C) = true
  r : Raises X (.ref C)
theorem ws_raise {EX : EC → Prop} {x m : Str} {C : Addr} {j : Nat} {p p2 pos pos2 : Pos} (hc : X.calm = true) (R : Rs X F EX) (N : Exn X x C) (hg : Gl X x) (h : EX (.pl C)) (hdb : (x == ("__debug__" : Str)) = false := by decide) :
    WS X F (.Raise (some (.Call (.Name x p) [.Constant (.str m) j p2] [] pos)) none pos2) Γ ed := by
  intro B τ H sh D l
  obtain ⟨E, tk, hE⟩ := R.ex
  obtain ⟨Bn, ni, ii, bmB, fa, qw⟩ := N.ex
  exact wps_of (ps_raise hc tk (pmk_own fa qw N.g N.k N.r hg hdb)) (hE (.pl C) B H h sh.pst)
/-! ### targets that are tuples -/
/-- the targets take the values, from the left -/
def WGs (X : Cx) (F : Fm) (tgs : List Expr) (vs : List Nat) (ds : List D) (Γ : Gam) (Φ : Gam → Prop) : Prop := match tgs, ds with
  | [], [] => Φ Γ
  | t :: ts, d :: ds => WG X F t vs d Γ fun Γ1 => WGs X F ts vs ds Γ1 Φ
  | _, _ => False
def gTs (X : Cx) : List Expr → TGs
  | [] => gNil
  | t :: ts => gCons (wpG X t) (gTs X ts)
theorem pgs_wp {X : Cx} : ∀ {tgs : List Expr} (h : ∀ i t ts, tgs.drop i = t :: ts → (assignEach (t :: ts) X.env).map (·.2) = assign t X.env :: (assignEach ts X.env).map (·.2)), PGs X tgs (gTs X tgs)
  | [], _ => pgs_nil
  | t :: ts, h => pgs_cons pg_wp (pgs_wp fun i u us e => h (i + 1) u us e) (h 0 t ts rfl)
theorem Tkn.trans {vs : List Nat} {τ σ1 σ2 : St} {B B1 B2 : Hp} {Γ1 Γ2 : Gam} {H H1 H2 : Hp} (a : Tkn K F vs τ B Γ H σ1 B1 Γ1 H1) (b : Tkn K F vs σ1 B1 Γ1 H1 σ2 B2 Γ2 H2) : Tkn K F vs τ B Γ H σ2 B2 Γ2 H2 :=
  ⟨b.st, a.ex.trans b.ex, fun x o h v w => b.kp x o (a.kp x o h v w) v fun qw => w (a.ow x qw), fun x qw => a.ow x (b.ow x qw), fun x h => b.al x (a.al x h), fun x o h => by
    rcases b.nb x o h with zw | zw
    · exact a.nb x o zw
    · refine .inr ?_
      cases e : H x with
      | none => rfl
      | some u => exact absurd zw (a.al x (by rw [e]; exact fun qw => nomatch qw)), b.ln.trans a.ln, fun j hjw => (b.sm j hjw).trans (a.sm j hjw)⟩
theorem wgs_run : ∀ {tgs : List Expr} {vs : List Nat} {ds : List D} {Γ : Gam} {P : Gam → Prop}, WGs X F tgs vs ds Γ P → ∀ {B H : Hp} {τ : St} {xs : List V}, Stt X.K F B Γ τ H → RpA X.K B xs ds → ∀ Q : St → Hp → Prop,
    (∀ B' Γ' σ' H', P Γ' → Tkn X.K F vs τ B Γ H σ' B' Γ' H' → Q σ' H') → gTs X tgs xs τ H Q
  | [], vs, [], Γ, P, h, B, H, τ, xs, sh, r, Q, qw => by
    cases r
    exact ⟨rfl, qw B Γ τ H h ⟨sh, Ex.refl _, fun _ _ zw _ _ => zw, fun _ zw => zw, fun _ zw => zw, fun _ _ zw => .inl zw, rfl, fun _ _ => rfl⟩⟩
  | t :: ts, vs, d :: ds, Γ, P, h, B, H, τ, xs, sh, r, Q, qw => by
    cases r with
    | cons r1 r2 =>
      refine ⟨_, _, rfl, h B τ H _ sh r1 _ fun B1 Γ1 σ1 H1 p t1 => ?_⟩
      exact wgs_run p t1.st (RpA.mono t1.ex _ _ r2) Q fun B2 Γ2 σ2 H2 p2 t2 => qw B2 Γ2 σ2 H2 p2 (t1.trans t2)
  | [], _, _ :: _, _, _, h, _, _, _, _, _, _, _, _ => h.elim
  | _ :: _, _, [], _, _, h, _, _, _, _, _, _, _, _ => h.elim
theorem wg_tup {tgs : List Expr} {vs : List Nat} {k : Nat} {pos : Pos} {ds : List D} {P : Gam → Prop} (hc : X.calm = true) (h : WGs X F tgs vs ds Γ P) (hlw : tgs.length = ds.length)
    (ha1 : ∀ i t ts, tgs.drop i = t :: ts → (assignEach (t :: ts) X.env).map (·.2) = assign t X.env :: (assignEach ts X.env).map (·.2))
    (hn : (assignEach tgs X.env).length = tgs.length := by rfl) (hst : (assignEach tgs X.env).findIdx? (·.1) = none := by rfl) : WG X F (.Tuple tgs k pos) vs (.tup ds) Γ P := by
  intro B τ H v sh r Q qw
  cases r with
  | @tup a xs _ hsa ha => exact wpg_of (pg_tup hc (pgs_wp ha1) hn hst) ⟨a, xs, rfl, .inl (sh.rd hsa), by rw [ha.len, hlw], wgs_run h sh ha Q qw⟩
theorem wg_unl {tgs : List Expr} {vs : List Nat} {k : Nat} {pos : Pos} {ds : List D} {P : Gam → Prop} (hc : X.calm = true) (h : WGs X F tgs vs ds Γ P) (hlw : tgs.length = ds.length)
    (ha1 : ∀ i t ts, tgs.drop i = t :: ts → (assignEach (t :: ts) X.env).map (·.2) = assign t X.env :: (assignEach ts X.env).map (·.2))
    (hn : (assignEach tgs X.env).length = tgs.length := by rfl) (hst : (assignEach tgs X.env).findIdx? (·.1) = none := by rfl) : WG X F (.Tuple tgs k pos) vs (.lst ds) Γ P := by
  intro B τ H v sh r Q qw
  cases r with
  | @lst a xs _ hsa ha => exact wpg_of (pg_unl hc (pgs_wp ha1) hn hst) ⟨a, xs, rfl, SqL.of (sh.bH _ _ hsa).1, by rw [ha.len, hlw], wgs_run h sh ha Q qw⟩
/-- target = e -/
theorem ws_asg {tg e : Expr} {vs : List Nat} {pos : Pos} (h : WE X F e Γ fun d Γ1 => WG X F tg vs d Γ1 ed.nx) (hsa : swapsWithSole [tg] e pos.line X.env = pure false := by rfl) (hw : swappedStores [tg] e X.env = pure none := by rfl)
    (ha1 : (assignEach [tg] X.env).map (·.2) = [assign tg X.env] := by rfl) : WS X F (.Assign [tg] e pos) Γ ed := by
  intro B τ H sh D l
  refine wps_of (ps_asg pe_wp pg_wp hsa hw ha1) (h B τ H sh _ fun v d B1 Γ1 H1 p n r => ?_)
  exact p B1 τ H1 v n.st r _ fun B2 Γ2 σ2 H2 p2 t2 => l.nx B2 Γ2 σ2 H2 p2 t2.st (n.ex.trans t2.ex)
end
end L2.Px
/-! PW 10: ranges, names of built-ins, sorted ints. -/
namespace L2.Px
open PySem PySem.Spec
open PyProof.Rows

variable [Wld]
section
variable {X : Cx} {F : Fm} {Γ : Gam} {K : PySem.W.Frag} {Φ : D → Gam → Prop}
def D.rng (n : Nat) : List D := (List.range n).map fun i => D.int ((i : Nat) : Int)
theorem rgV_rng {B : Hp} (n : Nat) : RpA K B (rgV 0 (n : Int)) (D.rng n) := by
  unfold rgV D.rng
  have e : ((n : Int) - 0).toNat = n := by omega
  rw [e]
  have : ∀ l : List Nat, RpA K B (l.map fun i : Nat => V.int (0 + (i : Nat))) (l.map fun i : Nat => D.int ((i : Nat) : Int)) := by
    intro l
    induction l with
    | nil => exact .nil
    | cons a l ih =>
      refine .cons ?_ ih
      show Rp K B (V.int (0 + (a : Int))) (D.int (a : Int))
      rw [Int.zero_add]
      exact .int _
  exact this _
theorem rgOk_nat {n : Nat} (h : n ≤ 1000000) : RgOk 0 (n : Int) := RgOk.of_le (by omega) (by omega) (by omega) (by omega)
theorem we_listRg [F.c.Ok] {e : Expr} {p p2 pos pos2 : Pos} (hc : X.calm = true) (hg : Gl X "list") (hmw : X.mg "list" = none) (hgr : Gl X "range") (hmr : X.mg "range" = none)
    (h : WE X F e Γ fun d Γ1 => ∃ n : Nat, d = .int n ∧ n ≤ 1000000 ∧ Φ (.lst (D.rng n)) Γ1)
    (naw : starEach [Expr.Call (.Name "range" p2) [e] [] pos2] X.env = (false, eval (.Call (.Name "range" p2) [e] [] pos2) X.env) :: starEach [] X.env := by rfl)
    (na2 : starEach [e] X.env = (false, eval e X.env) :: starEach [] X.env := by rfl) : WE X F (.Call (.Name "list" p) [.Call (.Name "range" p2) [e] [] pos2] [] pos) Γ Φ := by
  intro B τ H sh Q qw
  refine wp_of (pe_listRg hc hg hmw (prg_1 hgr hmr pe_wp na2) naw) (h B τ H sh _ fun v d B1 Γ1 H1 p n r => ?_)
  obtain ⟨m, rfl, hmw, p⟩ := p
  cases r
  refine ⟨m, rfl, rgOk_nat hmw, fun a ha => ?_⟩
  have n2 := n.st.frozen (o := .lst (rgV 0 (m : Int))) ha
  exact qw _ _ _ _ _ p (n.trans n2) (.lst upd_same (rgV_rng m))
theorem wn_listRg [F.c.Ok] {Ψ : OD → Gam → Prop} {e : Expr} {p p2 pos pos2 : Pos} (hc : X.calm = true) (hg : Gl X "list") (hmw : X.mg "list" = none) (hgr : Gl X "range") (hmr : X.mg "range" = none)
    (h : WE X F e Γ fun d Γ1 => ∃ n : Nat, d = .int n ∧ n ≤ 1000000 ∧ Ψ (.lst (D.rng n)) Γ1)
    (naw : starEach [Expr.Call (.Name "range" p2) [e] [] pos2] X.env = (false, eval (.Call (.Name "range" p2) [e] [] pos2) X.env) :: starEach [] X.env := by rfl)
    (na2 : starEach [e] X.env = (false, eval e X.env) :: starEach [] X.env := by rfl) : WN X F (.Call (.Name "list" p) [.Call (.Name "range" p2) [e] [] pos2] [] pos) Γ Ψ := by
  intro B τ H sh Q qw
  refine wp_of (pe_listRg hc hg hmw (prg_1 hgr hmr pe_wp na2) naw) (h B τ H sh _ fun v d B1 Γ1 H1 p n r => ?_)
  obtain ⟨m, rfl, hmw, p⟩ := p
  cases r
  exact ⟨m, rfl, rgOk_nat hmw, fun a ha => wn_of sh qw n ha p ⟨_, rfl, rgV_rng m⟩⟩
theorem we_tupRg [F.c.Ok] {e : Expr} {p p2 pos pos2 : Pos} (hc : X.calm = true) (hg : Gl X "tuple") (hmw : X.mg "tuple" = none) (hgr : Gl X "range") (hmr : X.mg "range" = none)
    (h : WE X F e Γ fun d Γ1 => ∃ n : Nat, d = .int n ∧ n ≤ 1000000 ∧ Φ (.tup (D.rng n)) Γ1)
    (naw : starEach [Expr.Call (.Name "range" p2) [e] [] pos2] X.env = (false, eval (.Call (.Name "range" p2) [e] [] pos2) X.env) :: starEach [] X.env := by rfl)
    (na2 : starEach [e] X.env = (false, eval e X.env) :: starEach [] X.env := by rfl) : WE X F (.Call (.Name "tuple" p) [.Call (.Name "range" p2) [e] [] pos2] [] pos) Γ Φ := by
  intro B τ H sh Q qw
  refine wp_of (pe_tupRg hc hg hmw (prg_1 hgr hmr pe_wp na2) naw) (h B τ H sh _ fun v d B1 Γ1 H1 p n r => ?_)
  obtain ⟨m, rfl, hmw, p⟩ := p
  cases r
  refine ⟨m, rfl, rgOk_nat hmw, fun a ha => ?_⟩
  have n2 := n.st.frozen (o := .tup (rgV 0 (m : Int))) ha
  exact qw _ _ _ _ _ p (n.trans n2) (.tup (.inl upd_same) (rgV_rng m))
end
theorem rs_blk {X : Cx} {F : Fm} {scope : Scope} {sh : Shared} {H : Hp} {C : Addr} {cl : List (Str × Addr)} {fp : List Addr} : Rs (bx X scope sh H C cl fp) F (fun _ => False) := ⟨E0, takes0, fun _ _ _ zw => zw.elim⟩
/-! ### facts of the built-ins' names -/
theorem bb_isinstance : bootBuiltins "isinstance" = some (.builtin "isinstance") := by decide +kernel
theorem bb_int : bootBuiltins "int" = some (.type "int") := by decide +kernel
theorem bb_bool : bootBuiltins "bool" = some (.type "bool") := by decide +kernel
theorem bb_str : bootBuiltins "str" = some (.type "str") := by decide +kernel
theorem bb_tuple : bootBuiltins "tuple" = some (.type "tuple") := by decide +kernel
theorem bb_list : bootBuiltins "list" = some (.type "list") := by decide +kernel
theorem bb_dict : bootBuiltins "dict" = some (.type "dict") := by decide +kernel
theorem bb_all : bootBuiltins "all" = some (.builtin "all") := by decide +kernel
theorem bb_any : bootBuiltins "any" = some (.builtin "any") := by decide +kernel
theorem bb_sorted : bootBuiltins "sorted" = some (.builtin "sorted") := by decide +kernel
theorem bb_len : bootBuiltins "len" = some (.builtin "len") := by decide +kernel
theorem bb_abs : bootBuiltins "abs" = some (.builtin "abs") := by decide +kernel
theorem bb_min : bootBuiltins "min" = some (.builtin "min") := by decide +kernel
/-! ### isinstance of built-in classes -/
theorem kt_isi {K : PySem.W.Frag} {d : D} (p : d.plainTy = true) (c : String) (b : Bool) (h : ∀ t, t ∈ ["NoneType", "bool", "int", "str", "tuple", "list", "dict"] → t = d.tyN → kitB t c = some b) : PySem.W.kitOne K (.type d.tyN) (.type c) = some b := by
  refine kit_ty (h d.tyN ?_ rfl)
  cases d with
  | non => exact .head _
  | bl _ => exact .tail _ (.head _)
  | int _ => exact .tail _ (.tail _ (.head _))
  | str _ => exact .tail _ (.tail _ (.tail _ (.head _)))
  | tup _ => exact .tail _ (.tail _ (.tail _ (.tail _ (.head _))))
  | lst _ => exact .tail _ (.tail _ (.tail _ (.tail _ (.tail _ (.head _)))))
  | dct => exact .tail _ (.tail _ (.tail _ (.tail _ (.tail _ (.tail _ (.head _))))))
  | dix => exact .tail _ (.tail _ (.tail _ (.tail _ (.tail _ (.tail _ (.head _))))))
  | obj a => exact absurd p (fun zw => nomatch zw)
  | ty n => exact absurd p (fun zw => nomatch zw)
  | exc C => exact absurd p (fun zw => nomatch zw)
  | scr C => exact absurd p (fun zw => nomatch zw)
  | ntup C => exact absurd p (fun zw => nomatch zw)
  | dic C E => exact absurd p (fun zw => nomatch zw)
def D.isTup : D → Bool
  | .tup _ => true
  | _ => false
def D.isLst : D → Bool
  | .lst _ => true
  | _ => false
def D.isDct : D → Bool
  | .dct => true
  | .dix => true
  | _ => false
def D.isBl : D → Bool
  | .bl _ => true
  | _ => false
def D.isInt : D → Bool
  | .int _ => true
  | .bl _ => true
  | _ => false
theorem kit_tab {K : PySem.W.Frag} {c : String} {f : D → Bool} (hn : kitB "NoneType" c = some (f .non)) (hb : ∀ b, kitB "bool" c = some (f (.bl b))) (hi : ∀ i, kitB "int" c = some (f (.int i))) (hsa : ∀ x, kitB "str" c = some (f (.str x)))
    (htw : ∀ x, kitB "tuple" c = some (f (.tup x))) (hlw : ∀ x, kitB "list" c = some (f (.lst x))) (hdt : kitB "dict" c = some (f .dct)) {d : D} (p : d.plainTy = true) (hdx : f .dix = f .dct := by rfl) : PySem.W.kitOne K (.type d.tyN) (.type c) = some (f d) := by
  cases d with
  | non => exact kit_ty hn
  | bl _ => exact kit_ty (hb _)
  | int _ => exact kit_ty (hi _)
  | str _ => exact kit_ty (hsa _)
  | tup _ => exact kit_ty (htw _)
  | lst _ => exact kit_ty (hlw _)
  | dct => exact kit_ty hdt
  | dix => exact kit_ty (by rw [hdx]; exact hdt)
  | obj a => exact absurd p (fun zw => nomatch zw)
  | ty n => exact absurd p (fun zw => nomatch zw)
  | exc C => exact absurd p (fun zw => nomatch zw)
  | scr C => exact absurd p (fun zw => nomatch zw)
  | ntup C => exact absurd p (fun zw => nomatch zw)
  | dic C E => exact absurd p (fun zw => nomatch zw)
theorem kit_tup {K : PySem.W.Frag} {d : D} (p : d.plainTy = true) : PySem.W.kitOne K (.type d.tyN) (.type "tuple") = some d.isTup :=
  kit_tab (f := D.isTup) (show kitB "NoneType" "tuple" = some false by decide +kernel) (fun _ => show kitB "bool" "tuple" = some false by decide +kernel) (fun _ => show kitB "int" "tuple" = some false by decide +kernel) (fun _ => show kitB "str" "tuple" = some false by decide +kernel)
    (fun _ => show kitB "tuple" "tuple" = some true by decide +kernel) (fun _ => show kitB "list" "tuple" = some false by decide +kernel) (show kitB "dict" "tuple" = some false by decide +kernel) p
theorem kit_lst {K : PySem.W.Frag} {d : D} (p : d.plainTy = true) : PySem.W.kitOne K (.type d.tyN) (.type "list") = some d.isLst :=
  kit_tab (f := D.isLst) (show kitB "NoneType" "list" = some false by decide +kernel) (fun _ => show kitB "bool" "list" = some false by decide +kernel) (fun _ => show kitB "int" "list" = some false by decide +kernel) (fun _ => show kitB "str" "list" = some false by decide +kernel)
    (fun _ => show kitB "tuple" "list" = some false by decide +kernel) (fun _ => show kitB "list" "list" = some true by decide +kernel) (show kitB "dict" "list" = some false by decide +kernel) p
theorem kit_dct {K : PySem.W.Frag} {d : D} (p : d.plainTy = true) : PySem.W.kitOne K (.type d.tyN) (.type "dict") = some d.isDct :=
  kit_tab (f := D.isDct) (show kitB "NoneType" "dict" = some false by decide +kernel) (fun _ => show kitB "bool" "dict" = some false by decide +kernel) (fun _ => show kitB "int" "dict" = some false by decide +kernel) (fun _ => show kitB "str" "dict" = some false by decide +kernel)
    (fun _ => show kitB "tuple" "dict" = some false by decide +kernel) (fun _ => show kitB "list" "dict" = some false by decide +kernel) (show kitB "dict" "dict" = some true by decide +kernel) p
theorem kit_bl {K : PySem.W.Frag} {d : D} (p : d.plainTy = true) : PySem.W.kitOne K (.type d.tyN) (.type "bool") = some d.isBl :=
  kit_tab (f := D.isBl) (show kitB "NoneType" "bool" = some false by decide +kernel) (fun _ => show kitB "bool" "bool" = some true by decide +kernel) (fun _ => show kitB "int" "bool" = some false by decide +kernel) (fun _ => show kitB "str" "bool" = some false by decide +kernel)
    (fun _ => show kitB "tuple" "bool" = some false by decide +kernel) (fun _ => show kitB "list" "bool" = some false by decide +kernel) (show kitB "dict" "bool" = some false by decide +kernel) p
theorem kit_in {K : PySem.W.Frag} {d : D} (p : d.plainTy = true) : PySem.W.kitOne K (.type d.tyN) (.type "int") = some d.isInt :=
  kit_tab (f := D.isInt) (show kitB "NoneType" "int" = some false by decide +kernel) (fun _ => show kitB "bool" "int" = some true by decide +kernel) (fun _ => show kitB "int" "int" = some true by decide +kernel) (fun _ => show kitB "str" "int" = some false by decide +kernel)
    (fun _ => show kitB "tuple" "int" = some false by decide +kernel) (fun _ => show kitB "list" "int" = some false by decide +kernel) (show kitB "dict" "int" = some false by decide +kernel) p
/-! ### ints: sorted, equal -/
def D.ints (ns : List Int) : List D := ns.map D.int
theorem ints_fl (ns : List Int) (n : Nat) : D.flA (D.ints ns) n = true := by
  induction ns with
  | nil => rfl
  | cons a ns ih =>
    show (D.fl (.int a) n && D.flA (D.ints ns) n) = true
    rw [ih]
    cases n <;> rfl
theorem eqv_ints (ns ms : List Int) : PyData.eqvAll (D.pyA (D.ints ns)) (D.pyA (D.ints ms)) = decide (ns = ms) := by
  induction ns generalizing ms with
  | nil => cases ms <;> rfl
  | cons a ns ih =>
    cases ms with
    | nil => rfl
    | cons b ms =>
      show ((a == b) && PyData.eqvAll (D.pyA (D.ints ns)) (D.pyA (D.ints ms))) = _
      rw [ih]
      by_cases ha1 : a = b
      · subst ha1
        by_cases h2 : ns = ms <;> simp [h2]
      · simp [ha1]
theorem eq_lints (ns ms : List Int) : D.eq (.lst (D.ints ns)) (.lst (D.ints ms)) = decide (ns = ms) := eqv_ints ns ms
theorem eq_tints (ns ms : List Int) : D.eq (.tup (D.ints ns)) (.tup (D.ints ms)) = decide (ns = ms) := eqv_ints ns ms
theorem eq_int (i j : Int) : D.eq (.int i) (.int j) = decide (i = j) := by
  show (i == j) = _
  by_cases h : i = j <;> simp [h]
theorem rng_ints (n : Nat) : D.rng n = D.ints ((List.range n).map fun i : Nat => (i : Int)) := by
  unfold D.rng D.ints
  rw [List.map_map]
  rfl
theorem srt_ok_ints (ns : List Int) (h : ns.length ≤ 100000) : SrtOk (D.ints ns) := by
  refine ⟨?_, ?_, ?_, ?_, by unfold D.ints; rw [List.length_map]; exact h⟩
  · exact (fl_plA _ 1 (ints_fl ns 1)).1
  · intro d hdt d' hd'
    unfold D.ints at hdt hd'
    rw [List.map_map] at hdt hd'
    obtain ⟨i, _, rfl⟩ := List.mem_map.mp hdt
    obtain ⟨j, _, rfl⟩ := List.mem_map.mp hd'
    rfl
  · refine .inr fun d hdt => ?_
    unfold D.ints at hdt
    rw [List.map_map] at hdt
    obtain ⟨i, _, rfl⟩ := List.mem_map.mp hdt
    exact ⟨(fun zw => nomatch zw), fun xs zw => nomatch zw⟩
  · intro d hdt
    obtain ⟨i, _, rfl⟩ := List.mem_map.mp hdt
    exact Nat.zero_le _
theorem srt_ints (ns : List Int) : D.srt (D.ints ns) = D.ints (ns.mergeSort fun a b => decide (a ≤ b)) := by
  unfold D.srt D.ints
  have e := PySem.W.dataLe_int (fun i : Int => i)
  rw [List.map_mergeSort (s := PySem.W.dataLe false D.py)]
  intro a _ b _
  have h2 : PySem.W.dataLe false (fun i : Int => PyData.int i) a b = decide (a ≤ b) := by rw [e]
  exact h2.symm
end L2.Px
/-! PW 11: comprehensions over one name. -/
namespace L2.Px
open PySem PySem.Spec
open PyProof.Rows

variable [Wld]
theorem itT {p qw : Prop} (h : p) : if true = true then p else qw := by rw [if_pos rfl]; exact h
theorem itF {p qw : Prop} (h : qw) : if false = true then p else qw := by rw [if_neg Bool.false_ne_true]; exact h
section
variable {X : Cx} {F : Fm} {Γ : Gam} {K : PySem.W.Frag} {Φ : D → Gam → Prop}
theorem kpo_set {Γ : Gam} {i : Nat} {d : D} (h : ∀ od, Γ[i]? ≠ some (some (.own od))) : Kpo Γ (Γ.set i (some (.val d))) := fun j od e => by
  by_cases zw : i = j
  · subst zw
    exact absurd e (h od)
  · rw [List.getElem?_set_ne zw]
    exact e
theorem take_more {α : Type} : ∀ {l : List α} {i : Nat} {x : α}, l[i]? = some x → l.take (i + 1) = l.take i ++ [x]
  | [], i, x, h => by simp at h
  | a :: l, 0, x, h => by
    have e : a = x := Option.some.inj h
    subst e
    rfl
  | a :: l, i + 1, x, h => by
    have ih := take_more (l := l) (i := i) (x := x) h
    show a :: l.take (i + 1) = a :: l.take i ++ [x]
    rw [ih]
    rfl
theorem wn_one [F.c.Ok] {Ψ : OD → Gam → Prop} {i : Nat} {x : Str} {elt iter : Expr} {ifs : List Expr} {scope : Scope} {pos px : Pos} (hc : X.calm = true) (hN : X.N.Nodup) (ok : BlkOk X.N X.env.scope scope [(x, i)]) (hi : X.N[i]? = some x) (hxw : (relabel scope X.env).names.lookup x = some .local ∨ ((relabel scope X.env).names.lookup x = some .cell ∧ scope.names.lookup x = some .cell)) (hifs : ifs.length ≤ 1) (hlw : i < Γ.length)
    (h : WI X F (.Name x px) iter Γ fun ds Γ1 => (∀ od, Γ1[i]? ≠ some (some (.own od))) ∧ ds.length ≤ 100000 ∧ Γ1.length = Γ.length ∧ ∃ P : Nat → List D → Prop, P 0 [] ∧ (∀ j d acc, ds[j]? = some d → P j acc →
      ∀ sh H C cl fp, WTs (bx X scope sh H C cl fp) F ifs (Γ1.set i (some (.val d))) fun b Γ3 => Γ3 = Γ1.set i (some (.val d)) ∧
        if b = true then ∀ sh H C cl fp, WE (bx X scope sh H C cl fp) F elt (Γ1.set i (some (.val d))) fun r Γ4 => Γ4 = Γ1.set i (some (.val d)) ∧ P (j + 1) (acc ++ [r]) else P (j + 1) acc) ∧ ∀ acc, P ds.length acc → Ψ (.lst acc) Γ1)
    (hsa : ∀ x, foldedSetIterable iter X.env x = pure x := by intro _; rfl) : WL X F (.ListComp elt [⟨.Name x px, iter, ifs, 0⟩] scope pos) Γ Ψ := by
  refine wn_lc hc hN ok hifs ?_ hsa
  refine fun B τ H sh R qw => h B τ H sh R fun J ds B' Γ' H' p n it => qw J ds B' Γ' H' ?_ n it
  obtain ⟨no, hsz, hgl, P, p0, turn, done⟩ := p
  refine ⟨fun k hkw2 od => ?_, hsz, P, p0, fun j d acc hjw hP s1 H1 C1 cl1 fp1 => ?_, done⟩
  · have e : k = i := by simpa using hkw2
    subst e
    exact no od
  · have e : wipeG Γ' ([(x, i)].map (·.2)) = Γ'.set i none := rfl
    rw [e]
    have e2 : ((Γ'.set i none).set i (some (.val d))) = Γ'.set i (some (.val d)) := by rw [List.set_set]
    have hlo : Loc (bx X scope s1 H1 C1 cl1 fp1).env.scope x := hxw.imp id And.left
    have hfn : (bx X scope s1 H1 C1 cl1 fp1).fn x = true ∨ (bx X scope s1 H1 C1 cl1 fp1).env.scope.names.lookup x = some .local := by
      rcases hxw with zw | ⟨_, zw⟩
      · exact .inr zw
      · refine .inl ?_
        show (scope.names.lookup x == some .cell) = true
        rw [zw]
        rfl
    refine wg_name (X := bx X scope s1 H1 C1 cl1 fp1) (i := i) hN hi hlo (by rw [List.length_set, hgl]; exact hlw) (h := ?_) (hf := hfn)
    show Kpo Γ' ((Γ'.set i none).set i (some (.val d))) ∧ _
    rw [e2]
    refine ⟨kpo_set no, fun s2 H2 C2 cl2 fp2 => ?_⟩
    have t := turn j d acc hjw hP s2 H2 C2 cl2 fp2
    have fin : ∀ b Γ3, (Γ3 = Γ'.set i (some (.val d)) ∧ if b = true then ∀ sh H C cl fp, WE (bx X scope sh H C cl fp) F elt (Γ'.set i (some (.val d))) fun r Γ4 => Γ4 = Γ'.set i (some (.val d)) ∧ P (j + 1) (acc ++ [r]) else P (j + 1) acc) →
        Kpo Γ' Γ3 ∧ if b = true then ∀ sh H C cl fp, WE (bx X scope sh H C cl fp) F elt Γ3 fun r Γ4 => Kpo Γ' Γ4 ∧ P (j + 1) (acc ++ [r]) else P (j + 1) acc := fun b Γ3 ⟨e3, g⟩ => by
      subst e3
      refine ⟨kpo_set no, ?_⟩
      cases b with
      | false => exact g
      | true => exact fun sh H C cl fp => (g sh H C cl fp).imp fun r Γ4 ⟨e4, p4⟩ => ⟨by rw [e4]; exact kpo_set no, p4⟩
    match ifs, t with
    | [], t => exact fin _ _ t
    | [c], t => exact WT.imp t fin
    | _ :: _ :: _, t => exact t.elim
/-- [elt for x in iter], each item by f -/
theorem wn_map [F.c.Ok] {Ψ : OD → Gam → Prop} {i : Nat} {x : Str} {elt iter : Expr} {scope : Scope} {pos px : Pos} (f : D → D) (hc : X.calm = true) (hN : X.N.Nodup) (ok : BlkOk X.N X.env.scope scope [(x, i)]) (hi : X.N[i]? = some x) (hxw : (relabel scope X.env).names.lookup x = some .local ∨ ((relabel scope X.env).names.lookup x = some .cell ∧ scope.names.lookup x = some .cell)) (hlw : i < Γ.length)
    (h : WI X F (.Name x px) iter Γ fun ds Γ1 => (∀ od, Γ1[i]? ≠ some (some (.own od))) ∧ ds.length ≤ 100000 ∧ Γ1.length = Γ.length ∧ (∀ (j : Nat) d, ds[j]? = some d →
      ∀ sh H C cl fp, WE (bx X scope sh H C cl fp) F elt (Γ1.set i (some (.val d))) fun r Γ4 => Γ4 = Γ1.set i (some (.val d)) ∧ r = f d) ∧ Ψ (.lst (ds.map f)) Γ1)
    (hsa : ∀ x, foldedSetIterable iter X.env x = pure x := by intro _; rfl) : WL X F (.ListComp elt [⟨.Name x px, iter, [], 0⟩] scope pos) Γ Ψ := by
  refine wn_one hc hN ok hi hxw (by decide) hlw ?_ hsa
  refine fun B τ H sh R qw => h B τ H sh R fun J ds B' Γ' H' p n it => qw J ds B' Γ' H' ?_ n it
  obtain ⟨no, hsz, hgl, turn, done⟩ := p
  refine ⟨no, hsz, hgl, fun j acc => acc = (ds.take j).map f, rfl, fun j d acc hjw hP s1 H1 C1 cl1 fp1 => ⟨rfl, ?_⟩, fun acc e => ?_⟩
  · rw [if_pos rfl]
    refine fun sh H C cl fp => (turn j d hjw sh H C cl fp).imp fun r Γ4 ⟨e4, e5⟩ => ⟨e4, ?_⟩
    show acc ++ [r] = (ds.take (j + 1)).map f
    rw [take_more hjw, List.map_append, hP, e5]
    rfl
  · have en : acc = (ds.take ds.length).map f := e
    rw [List.take_length] at en
    rw [en]
    exact done
/-- .. each item in some way -/
theorem wn_mapR [F.c.Ok] {Ψ : OD → Gam → Prop} {i : Nat} {x : Str} {elt iter : Expr} {scope : Scope} {pos px : Pos} (R : D → D → Prop) (hc : X.calm = true) (hN : X.N.Nodup) (ok : BlkOk X.N X.env.scope scope [(x, i)]) (hi : X.N[i]? = some x) (hxw : (relabel scope X.env).names.lookup x = some .local ∨ ((relabel scope X.env).names.lookup x = some .cell ∧ scope.names.lookup x = some .cell)) (hlw : i < Γ.length)
    (h : WI X F (.Name x px) iter Γ fun ds Γ1 => (∀ od, Γ1[i]? ≠ some (some (.own od))) ∧ ds.length ≤ 100000 ∧ Γ1.length = Γ.length ∧ (∀ (j : Nat) d, ds[j]? = some d →
      ∀ sh H C cl fp, WE (bx X scope sh H C cl fp) F elt (Γ1.set i (some (.val d))) fun r Γ4 => Γ4 = Γ1.set i (some (.val d)) ∧ R d r) ∧ ∀ rs : List D, rs.length = ds.length → (∀ (j : Nat) d r, ds[j]? = some d → rs[j]? = some r → R d r) → Ψ (.lst rs) Γ1)
    (hsa : ∀ x, foldedSetIterable iter X.env x = pure x := by intro _; rfl) : WL X F (.ListComp elt [⟨.Name x px, iter, [], 0⟩] scope pos) Γ Ψ := by
  refine wn_one hc hN ok hi hxw (by decide) hlw ?_ hsa
  refine fun B τ H sh Rr qw => h B τ H sh Rr fun J ds B' Γ' H' p n it => qw J ds B' Γ' H' ?_ n it
  obtain ⟨no, hsz, hgl, turn, done⟩ := p
  refine ⟨no, hsz, hgl, fun j acc => acc.length = j ∧ ∀ (k : Nat) d r, ds[k]? = some d → acc[k]? = some r → R d r, ⟨rfl, fun k d r _ e => by simp at e⟩, fun j d acc hjw hP s1 H1 C1 cl1 fp1 => ⟨rfl, ?_⟩, fun acc e => done acc e.1 e.2⟩
  rw [if_pos rfl]
  refine fun sh H C cl fp => (turn j d hjw sh H C cl fp).imp fun r Γ4 ⟨e4, e5⟩ => ⟨e4, by rw [List.length_append, hP.1]; rfl, fun k d' r' ha1 h2 => ?_⟩
  by_cases hkw2 : k < acc.length
  · rw [List.getElem?_append_left hkw2] at h2
    exact hP.2 k d' r' ha1 h2
  · rw [List.getElem?_append_right (by omega)] at h2
    have ek : k - acc.length = 0 := by
      have := (List.getElem?_eq_some_iff.mp h2).1
      simp at this
      omega
    rw [ek] at h2
    have er : r = r' := by simpa using h2
    have ek2 : k = j := by have := hP.1; omega
    rw [ek2, hjw] at ha1
    cases ha1
    rw [← er]
    exact e5
/-- [x for x in iter if c] -/
theorem wn_filter [F.c.Ok] {Ψ : OD → Gam → Prop} {i : Nat} {x : Str} {elt iter c : Expr} {scope : Scope} {pos px : Pos} (f : D → D) (t : D → Bool) (hc : X.calm = true) (hN : X.N.Nodup) (ok : BlkOk X.N X.env.scope scope [(x, i)]) (hi : X.N[i]? = some x) (hxw : (relabel scope X.env).names.lookup x = some .local ∨ ((relabel scope X.env).names.lookup x = some .cell ∧ scope.names.lookup x = some .cell)) (hlw : i < Γ.length)
    (h : WI X F (.Name x px) iter Γ fun ds Γ1 => (∀ od, Γ1[i]? ≠ some (some (.own od))) ∧ ds.length ≤ 100000 ∧ Γ1.length = Γ.length ∧ (∀ (j : Nat) d, ds[j]? = some d →
      ∀ sh H C cl fp, WT (bx X scope sh H C cl fp) F c (Γ1.set i (some (.val d))) fun b Γ3 => Γ3 = Γ1.set i (some (.val d)) ∧ b = t d ∧
        (t d = true → ∀ sh H C cl fp, WE (bx X scope sh H C cl fp) F elt (Γ1.set i (some (.val d))) fun r Γ4 => Γ4 = Γ1.set i (some (.val d)) ∧ r = f d)) ∧ Ψ (.lst ((ds.filter t).map f)) Γ1)
    (hsa : ∀ x, foldedSetIterable iter X.env x = pure x := by intro _; rfl) : WL X F (.ListComp elt [⟨.Name x px, iter, [c], 0⟩] scope pos) Γ Ψ := by
  refine wn_one hc hN ok hi hxw (Nat.le_refl 1) hlw ?_ hsa
  refine fun B τ H sh R qw => h B τ H sh R fun J ds B' Γ' H' p n it => qw J ds B' Γ' H' ?_ n it
  obtain ⟨no, hsz, hgl, turn, done⟩ := p
  refine ⟨no, hsz, hgl, fun j acc => acc = ((ds.take j).filter t).map f, rfl, fun j d acc hjw hP s1 H1 C1 cl1 fp1 => ?_, fun acc e => ?_⟩
  · refine WT.imp (turn j d hjw s1 H1 C1 cl1 fp1) fun b Γ3 ⟨e3, eb, g⟩ => ⟨e3, ?_⟩
    subst eb
    cases e : t d with
    | false =>
      rw [if_neg Bool.false_ne_true]
      show acc = ((ds.take (j + 1)).filter t).map f
      rw [take_more hjw, List.filter_append, hP]
      simp [e]
    | true =>
      rw [if_pos rfl]
      refine fun sh H C cl fp => (g e sh H C cl fp).imp fun r Γ4 ⟨e4, e5⟩ => ⟨e4, ?_⟩
      show acc ++ [r] = ((ds.take (j + 1)).filter t).map f
      rw [take_more hjw, List.filter_append, hP, e5]
      simp [e]
  · have en : acc = ((ds.take ds.length).filter t).map f := e
    rw [List.take_length] at en
    rw [en]
    exact done
/-- an own exception class of the text -/
structure KExn (K : PySem.W.Frag) (mg : Str → Option Value) (x : Str) (C : Addr) : Prop where
  ex : ∃ (B newId initId : String) (bmB : List Value), ExcBaseFacts B newId initId bmB ∧ PySem.W.excIn K C bmB newId = true
  g : mg x = some (.ref C)
  k : PySem.W.keepIn K (.ref C) = true
  s : PySem.W.subIn K (.ref C) (.type "BaseException") = some true
  t : PySem.W.typeIn K (.ref C) = some (.type "type")
theorem KExn.exn {X : Cx} {x : Str} {C : Addr} (n : KExn X.K X.mg x C) : Exn X x C := ⟨n.ex, n.g, n.k, raises_own n.s n.t⟩
end
end L2.Px

/-! N1: dicts whose keys are tuples, below the data -/
namespace L2.Px
open PySem PySem.Spec
open PyProof.Rows
variable [Wld]
/-- a code object is no such dict -/
theorem codeO_firm (c : Addr) (q : Str) : Firm (LamX.CodeO c q) := by
  intro a xs e
  have h1 : (fun h : Heap => ∃ (oc : Obj) (vs : Array Value) (t : Tok), h.get? c = some oc ∧ oc.data = .fields vs ∧ vs[1]? = some (.str q t)) (⟨Array.replicate (c + a + 1) { cls := .none, data := .fields #[.none, .str q 0] }, {}⟩) := by
    refine ⟨{ cls := .none, data := .fields #[.none, .str q 0] }, _, 0, ?_, rfl, rfl⟩
    unfold Heap.get?
    simp only [Array.getElem?_replicate]
    rw [if_pos (by omega)]
  rw [e] at h1
  obtain ⟨_, _, _, _, ys, o, es, ep, _, hg, _, hd, _⟩ := h1
  unfold Heap.get? at hg
  simp only [Array.getElem?_replicate] at hg
  rw [if_pos (by omega)] at hg
  cases hg
  cases hd
section
variable {X : Cx} {pq : List (Addr × Obj)} {τ : St} {H B : Hp} {sh : Shared}
mutual
theorem rp_nk (I : Inv X pq τ H sh) (eB : Ex B H) : ∀ (d : D) (k : NK) (v : V) (u : Value), Rp X.K B v d → d.nk = some k → RelV v u → NestedIs sh.heap k u
  | .non, k, v, u, r, e, rv => by
    cases r
    cases e
    cases (show u = Value.none from rv)
    exact .none
  | .bl b, k, v, u, r, e, rv => by
    cases r
    cases e
    cases (show u = Value.bool b from rv)
    exact .bool rfl
  | .int i, k, v, u, r, e, rv => by
    cases r
    cases e
    obtain ⟨t, rfl⟩ := rv
    exact .int _ _
  | .str x, k, v, u, r, e, rv => by
    cases r
    cases e
    obtain ⟨t, rfl⟩ := rv
    exact .text _ _
  | .tup ds, k, v, u, r, e, rv => by
    cases r with
    | @tup a xs _ hs ha =>
      have e : (D.nkA ds).map NestedKey.tup = some k := e
      obtain ⟨ks, e1, rfl⟩ := Option.map_eq_some_iff.mp e
      cases (show u = Value.ref a from rv)
      obtain ⟨its, r', ⟨o, ho, hc, n, hd⟩, _⟩ := I.tuple (.inl (rd_ex eB hs) : SqT X.K H a xs)
      exact .tup ho hc hd (by simpa using rpA_nk I eB ds ks xs its ha e1 r')
  | .lst _, _, _, _, _, e, _ => nomatch e
  | .dct, _, _, _, _, e, _ => nomatch e
  | .dix, _, _, _, _, e, _ => nomatch e
  | .obj _, _, _, _, _, e, _ => nomatch e
  | .ty _, _, _, _, _, e, _ => nomatch e
  | .exc _, _, _, _, _, e, _ => nomatch e
  | .scr _, _, _, _, _, e, _ => nomatch e
  | .ntup _, _, _, _, _, e, _ => nomatch e
  | .dic _ _, _, _, _, _, e, _ => nomatch e
theorem rpA_nk (I : Inv X pq τ H sh) (eB : Ex B H) : ∀ (ds : List D) (ks : List NK) (vs : List V) (us : List Value), RpA X.K B vs ds → D.nkA ds = some ks → Vals vs us → NestedAll sh.heap ks us
  | [], ks, vs, us, r, e, rv => by
    cases r
    cases rv
    cases e
    exact .nil
  | d :: ds, ks, vs, us, r, e, rv => by
    cases r with
    | cons r1 r2 =>
      cases rv with
      | cons v1 v2 =>
        have e : (match d.nk, D.nkA ds with
          | some k, some ks => some (k :: ks)
          | _, _ => none) = some ks := e
        cases e1 : d.nk with
        | none =>
          rw [e1] at e
          cases e
        | some k =>
          cases e2 : D.nkA ds with
          | none =>
            rw [e1, e2] at e
            cases e
          | some ks' =>
            rw [e1, e2] at e
            cases e
            exact .cons (rp_nk I eB d k _ _ r1 e1 v1) (rpA_nk I eB ds ks' _ _ r2 e2 v2)
end
/-- the context runs in the world -/
structure InW (X : Cx) : Prop where
  P : X.prog = Wld.P
  w : X.w = Wld.w
abbrev DR (p : NK × Addr × V) (q : NK × Addr × Value) : Prop := p.1 = q.1 ∧ p.2.1 = q.2.1 ∧ RelV p.2.2 q.2.2
theorem dr_keys : ∀ {xs : List (NK × Addr × V)} {ys : List (NK × Addr × Value)}, Paired DR xs ys → xs.map (·.1) = ys.map (·.1)
  | _, _, .nil => rfl
  | _, _, .cons r t => by
    rw [List.map_cons, List.map_cons, r.1, dr_keys t]
theorem keys_is (I : Inv X pq τ H sh) (eB : Ex B H) : ∀ {ks : List D} {xs : List (NK × Addr × V)} {ys : List (NK × Addr × Value)}, Paired DR xs ys → ks.map D.nk = xs.map (fun x => some x.1) → RpA X.K B (xs.map fun x => V.ref x.2.1) ks → ∀ y ∈ ys, NestedIs sh.heap y.1 (.ref y.2.1)
  | _, _, _, .nil, _, _, y, hy => by cases hy
  | [], _, _, .cons r t, e, _, _, _ => by cases e
  | k :: ks, x :: xs, y :: ys, .cons r t, e, hr, z, hz => by
    cases hr with
    | cons r1 r2 =>
      rw [List.map_cons, List.map_cons] at e
      injection e with e1 e2
      rcases List.mem_cons.mp hz with rfl | hz
      · rw [← r.1, ← r.2.1]
        exact rp_nk I eB k _ _ _ r1 e1 (show RelV (V.ref x.2.1) (Value.ref x.2.1) from rfl)
      · exact keys_is I eB t e2 r2 z hz
theorem dx_dict (W : InW X) (I : Inv X pq τ H sh) (eB : Ex B H) {a : Addr} {ks : List D} {xs : List (NK × Addr × V)} (h : H a = some (DX a xs)) (hn : ks.map D.nk = xs.map (fun x => some x.1)) (hk : RpA X.K B (xs.map fun x => V.ref x.2.1) ks) :
    ∃ ys, Paired DR xs ys ∧ (a == sysModules) = false ∧ xs.length ≤ sizeLine ∧ sh.heap.DictOfH (nestedKind X.prog X.w) a ys := by
  obtain ⟨⟨hs, hl, hd, h8, ys, o, es, ep, hp, hg, hx, hda, he⟩, _⟩ := I.hok a _ h
  have ek := dr_keys hp
  refine ⟨ys, hp, hs, hl, o, es, ep, hg, hx, hda, ?_, fun y hy => ⟨keys_is I eB hp hn hk y hy, ?_⟩, by rw [← ek]; exact hd⟩
  · rw [W.P, W.w]
    exact he
  · have q : y.1 ∈ ys.map (·.1) := List.mem_map.mpr ⟨y, hy, rfl⟩
    rw [← ek] at q
    obtain ⟨x, hx2, e⟩ := List.mem_map.mp q
    rw [← e]
    exact h8 x hx2
/-- the item at a key, of data -/
def valN : List D → List D → NK → Option D
  | k :: ks, v :: vs, n => if k.nk = some n then some v else valN ks vs n
  | _, _, _ => none
theorem dr_at {k : NK} : ∀ {ks vs : List D} {xs : List (NK × Addr × V)} {ys : List (NK × Addr × Value)}, Paired DR xs ys → ks.map D.nk = xs.map (fun x => some x.1) → RpA X.K B (xs.map (·.2.2)) vs →
    (∀ d, valN ks vs k = some d → ∃ (p : Addr × Value) (v : V), atKey ys k = some p ∧ RelV v p.2 ∧ Rp X.K B v d) ∧ (valN ks vs k = none → atKey ys k = none)
  | ks, vs, _, _, .nil, e, hv => by
    cases ks with
    | nil => exact ⟨(fun d q => nomatch (show (none : Option D) = some d by cases vs <;> exact q)), fun _ => rfl⟩
    | cons k ks => cases e
  | [], _, _, _, .cons r t, e, _ => by cases e
  | d0 :: ks, vs, x :: xs, y :: ys, .cons r t, e, hv => by
    cases hv with
    | @cons v1 _ d1 ds r1 r2 =>
      rw [List.map_cons, List.map_cons] at e
      injection e with e1 e2
      have ih := dr_at (k := k) t e2 r2
      have e3 : valN (d0 :: ks) (d1 :: ds) k = if d0.nk = some k then some d1 else valN ks ds k := rfl
      have e4 : atKey (y :: ys) k = if y.1 = k then some y.2 else atKey ys k := by
        unfold atKey
        rw [List.find?_cons]
        by_cases q : y.1 = k
        · rw [if_pos q]
          simp [q]
        · rw [if_neg q]
          simp [q]
      rw [e3, e4, e1]
      by_cases q : x.1 = k
      · rw [if_pos (by rw [q]), if_pos (by rw [← r.1]; exact q)]
        exact ⟨fun d z => by cases z; exact ⟨_, _, rfl, r.2.2, r1⟩, fun z => nomatch z⟩
      · rw [if_neg (fun z => q (Option.some.inj z)), if_neg (by rw [← r.1]; exact q)]
        exact ih
theorem room_n {A : Around} (hu : A.units + 10 < cLine) : (nestedKind X.prog X.w).room A.in1 := by
  show A.in1.units + 8 < cLine
  have e : A.in1.units = A.units + 1 := rfl
  omega
/-- what the rules of a dict ask: the dict at a in H, its data -/
structure DicAt (K : PySem.W.Frag) (B H : Hp) (a : Addr) (ks vs : List D) : Prop where
  ex : ∃ xs, H a = some (DX a xs) ∧ ks.map D.nk = xs.map (fun x => some x.1) ∧ RpA K B (xs.map fun x => V.ref x.2.1) ks ∧ RpA K B (xs.map (·.2.2)) vs
theorem x_get (W : InW X) {A : Around} {E : Value → Shared → Prop} {Q : Value → Shared → Prop} {a b : Addr} {ks vs : List D} {kd d : D} {k : NK} (hu : A.units + 10 < cLine) (I : Inv X pq τ H sh) (eB : Ex B H) (D0 : DicAt X.K B H a ks vs) (hk : Rp X.K B (.ref b) kd) (en : kd.nk = some k) (h8 : k.depth ≤ 8)
    (hv : valN ks vs k = some d) (h : ∀ v u s', Inv X pq τ H s' → RelV v u → Rp X.K B v d → Q u s') : wpAny (model X.prog X.w) A (getItem (.ref a) (.ref b)) Q E sh := by
  obtain ⟨xs, h1, h2, h3, h4⟩ := D0.ex
  obtain ⟨ys, hp, hs, hl, dd⟩ := dx_dict W I eB h1 h2 h3
  obtain ⟨p, v, e1, e2, e3⟩ := (dr_at (k := k) hp h2 h4).1 d hv
  exact wpAny_getItem_heap (room_n hu) ⟨rp_nk I eB kd k _ _ hk en (show RelV (V.ref b) (Value.ref b) from rfl), h8⟩ dd e1 (h v p.2 _ (I.tok _) e2 e3)
theorem x_in (W : InW X) {A : Around} {E : Value → Shared → Prop} {Q : Value → Shared → Prop} {a b : Addr} {ks vs : List D} {kd : D} {k : NK} (hu : A.units + 10 < cLine) (I : Inv X pq τ H sh) (eB : Ex B H) (D0 : DicAt X.K B H a ks vs) (hk : Rp X.K B (.ref b) kd) (en : kd.nk = some k) (h8 : k.depth ≤ 8)
    (h : ∀ s', Inv X pq τ H s' → Q (.bool (valN ks vs k).isSome) s') : wpAny (model X.prog X.w) A (compareOp .In (.ref b) (.ref a)) Q E sh := by
  obtain ⟨xs, h1, h2, h3, h4⟩ := D0.ex
  obtain ⟨ys, hp, hs, hl, dd⟩ := dx_dict W I eB h1 h2 h3
  refine wpAny_in_heap (room_n hu) ⟨rp_nk I eB kd k _ _ hk en (show RelV (V.ref b) (Value.ref b) from rfl), h8⟩ hs dd ?_
  obtain ⟨g1, g2⟩ := dr_at (k := k) hp h2 h4
  have e : (atKey ys k).isSome = (valN ks vs k).isSome := by
    cases q : valN ks vs k with
    | none => rw [g2 q]; rfl
    | some d => obtain ⟨p, _, e, _⟩ := g1 d q; rw [e]; rfl
  rw [e]
  exact h _ (I.tok _)
theorem x_notin (W : InW X) {A : Around} {E : Value → Shared → Prop} {Q : Value → Shared → Prop} {a b : Addr} {ks vs : List D} {kd : D} {k : NK} (hu : A.units + 10 < cLine) (I : Inv X pq τ H sh) (eB : Ex B H) (D0 : DicAt X.K B H a ks vs) (hk : Rp X.K B (.ref b) kd) (en : kd.nk = some k) (h8 : k.depth ≤ 8)
    (h : ∀ s', Inv X pq τ H s' → Q (.bool (!(valN ks vs k).isSome)) s') : wpAny (model X.prog X.w) A (compareOp .NotIn (.ref b) (.ref a)) Q E sh := by
  obtain ⟨xs, h1, h2, h3, h4⟩ := D0.ex
  obtain ⟨ys, hp, hs, hl, dd⟩ := dx_dict W I eB h1 h2 h3
  refine wpAny_notIn_heap (room_n hu) ⟨rp_nk I eB kd k _ _ hk en (show RelV (V.ref b) (Value.ref b) from rfl), h8⟩ hs dd ?_
  obtain ⟨g1, g2⟩ := dr_at (k := k) hp h2 h4
  have e : (atKey ys k).isSome = (valN ks vs k).isSome := by
    cases q : valN ks vs k with
    | none => rw [g2 q]; rfl
    | some d => obtain ⟨p, _, e, _⟩ := g1 d q; rw [e]; rfl
  rw [e]
  exact h _ (I.tok _)
end
end L2.Px

/-! N2: dicts with tuple keys: made, stored to; what is lent -/
namespace L2.Px
open PySem PySem.Spec
open PyProof.Rows
variable [Wld]
theorem dxin_stay {a : Addr} {xs : List (NK × Addr × V)} {h1 h2 : Heap} (x : DXin a xs h1) (st : ∀ o, h1.get? a = some o → h2.get? a = some o) : DXin a xs h2 := by
  obtain ⟨q1, q2, q3, q4, ys, o, es, ep, q5, q6, q7, q8, q9⟩ := x
  exact ⟨q1, q2, q3, q4, ys, o, es, ep, q5, st o q6, q7, q8, q9⟩
theorem dx_ok {P : Program} {w : World} {H : Hp} {h : Heap} {a : Addr} {xs : List (NK × Addr × V)} (x : DXin a xs h) : ObjOk P w H h a (DX a xs) := by
  refine ⟨x, ?_, fun h1 h2 y st => dxin_stay y st⟩
  obtain ⟨_, _, _, _, ys, o, es, ep, _, q6, _⟩ := x
  exact ⟨o, q6⟩
theorem paired_app {α β : Type} {R : α → β → Prop} : ∀ {xs xs' : List α} {ys ys' : List β}, Paired R xs ys → Paired R xs' ys' → Paired R (xs ++ xs') (ys ++ ys')
  | _, _, _, _, .nil, q => q
  | _, _, _, _, .cons r t, q => .cons r (paired_app t q)
section
variable {X : Cx} {pq : List (Addr × Obj)} {τ : St} {H B : Hp} {sh : Shared}
theorem at_none {k : NK} : ∀ {xs : List (NK × Addr × V)} {ys : List (NK × Addr × Value)}, Paired DR xs ys → atKey ys k = none → k ∉ xs.map (·.1)
  | _, _, .nil, _, h => by cases h
  | x :: xs, y :: ys, .cons r t, e, h => by
    have e4 : atKey (y :: ys) k = if y.1 = k then some y.2 else atKey ys k := by
      unfold atKey
      rw [List.find?_cons]
      by_cases q : y.1 = k
      · rw [if_pos q]
        simp [q]
      · rw [if_neg q]
        simp [q]
    rw [e4] at e
    by_cases q : y.1 = k
    · rw [if_pos q] at e
      cases e
    · rw [if_neg q] at e
      rcases List.mem_cons.mp h with h | h
      · exact q (by rw [← r.1]; exact h.symm)
      · exact at_none t e h
/-- d[k] = v, k not yet a key -/
theorem x_new (W : InW X) {A : Around} {E : Value → Shared → Prop} {Q : Unit → Shared → Prop} {a b : Addr} {ks vs : List D} {kd d : D} {k : NK} {xs : List (NK × Addr × V)} {v : V} {u : Value} (hu : A.units + 10 < cLine) (I : Inv X pq τ H sh) (eB : Ex B H)
    (h1 : H a = some (DX a xs)) (h2 : ks.map D.nk = xs.map (fun x => some x.1)) (h3 : RpA X.K B (xs.map fun x => V.ref x.2.1) ks) (h4 : RpA X.K B (xs.map (·.2.2)) vs) (hk : Rp X.K B (.ref b) kd) (en : kd.nk = some k) (h8 : k.depth ≤ 8)
    (hv : valN ks vs k = none) (rv : RelV v u) (hl : xs.length < sizeLine) (h : ∀ s', Inv X pq τ (upd H a (DX a (xs ++ [(k, b, v)]))) s' → Q () s') : wpAny (model X.prog X.w) A (setItem (.ref a) (.ref b) u) Q E sh := by
  obtain ⟨ys, hp, hs, hl0, dd⟩ := dx_dict W I eB h1 h2 h3
  have hz : ys.length ≤ sizeLine := by rw [← Paired.length hp]; omega
  have hn := (dr_at (k := k) hp h2 h4).2 hv
  refine wpAny_setItem_heap (hsz := hz) (room_n hu) ⟨rp_nk I eB kd k _ _ hk en (show RelV (V.ref b) (Value.ref b) from rfl), h8⟩ dd fun h' dd' hb => h _ ?_
  rw [storedH_new hn] at dd'
  obtain ⟨o, es, ep, g1, g2, g3, g4, g5, g6⟩ := dd'
  obtain ⟨⟨_, _, z3, z4, _⟩, _⟩ := I.hok a _ h1
  refine d_write I (by rw [h1]; exact True.intro) hb ⟨o, g1⟩ (dx_ok ⟨hs, by rw [List.length_append]; exact hl, ?_, fun x hx => ?_, ys ++ [(k, b, u)], o, es, ep, paired_app hp (.cons ⟨rfl, rfl, rv⟩ .nil), g1, g2, g3, ?_⟩)
  · rw [List.map_append]
    refine List.nodup_append.mpr ⟨z3, by simp, fun x hx y hy e => ?_⟩
    simp at hy
    subst hy
    subst e
    exact at_none hp hn hx
  · rcases List.mem_append.mp hx with hx | hx
    · exact z4 x hx
    · rcases List.mem_cons.mp hx with rfl | hx
      · exact h8
      · cases hx
  · rw [← W.P, ← W.w]
    exact g4
/-- {} -/
def tNewN : TE := fun _ H Q => ∀ p, H p = none → Q (.ref p) (upd H p (DX p []))
theorem pe_newN {pos : Pos} : PE X (.Dict [] [] pos) tNewN := ⟨fun pq sh τ H Q I h => wpAny_Dict_empty ⟨.ref sh.heap.objs.size, _, I.laid (a := sh.heap.objs.size) (o := DX sh.heap.objs.size []) (t' := sh.toks) (fun _ _ q => Heap.get?_push_of_some _ q) (Nat.le_refl _)
    (dx_ok ⟨beq_eq_false_iff_ne.mpr (Ne.symm (Nat.ne_of_lt I.big)), Nat.zero_le _, List.nodup_nil, (fun x hx => nomatch hx), [], _, #[], 0, .nil, Heap.get?_push_size _ rfl, ⟨rfl, rfl, rfl⟩, rfl, rfl⟩), rfl, h _ (I.hok.fresh (Nat.le_refl _))⟩⟩
end
end L2.Px

/-! N3: dicts with tuple keys: sorted, len -/
namespace L2.Px
open PySem PySem.Spec
open PyProof.Rows
variable [Wld]
section
variable {prog : Program} {w : World} {A : Around} {E : Value → Shared → Prop} {s : Shared}
open PySem.W PySem.Calls in
theorem sorted_raw {Q : Value → Shared → Prop} {d : Addr} {o : Obj} {es : Array DictEntry} {ep : Nat} (lo : (d == sysModules) = false) (hx : o.ExactDict) (hd : o.data = .dict es ep) (hh : A.handled = none) (ho : s.heap.get? d = some o) (hn : es.size ≤ sizeLine)
    (h : ∀ (h' : Heap) (tk : Nat), (∀ b o, s.heap.get? b = some o → h'.get? b = some o) → ∃ κ, SortsAt prog w A.in1.in1 { s with heap := sortingHeap (h'.push (seqObj "list" (es.toList.map (·.key)).toArray 0)) h'.objs.size (es.toList.map (·.key)), toks := tk } κ (es.toList.map (·.key)) ∧
      Q (.ref h'.objs.size) { s with heap := sortedHeap (h'.push (seqObj "list" (es.toList.map (·.key)).toArray 0)) h'.objs.size (es.toList.map (·.key)) (sortVals κ false (es.toList.map (·.key)) (es.toList.map (·.key))).toArray, toks := tk }) :
    wpAny (model prog w) A (call (.builtin "sorted") [.ref d]) Q E s := by
  refine call_function_entry kind_sorted plain_sorted entry_sorted (args_sorted1 _) ?_
  unfold Builtin.«sorted»
  refine wpAny_bind (m := checkCount "sorted" 1 1 _) (wpAny_pure ?_)
  refine wpAny_bind (kdu_collect (A := A.in1) (L2.kdl_raw lo hx hd) hh ho hn fun h' tk acc hk hacc => ?_)
  have hl : acc.toList.length = es.size := by rw [Array.length_toList]; exact hacc.1
  have ea : acc.toList = es.toList.map (·.key) := by
    apply List.ext_getElem?
    intro j
    rw [List.getElem?_map]
    cases hj : acc.toList[j]? with
    | none =>
      have h1 := List.getElem?_eq_none_iff.mp hj
      rw [List.getElem?_eq_none (by rw [Array.length_toList]; omega)]
      rfl
    | some v =>
      obtain ⟨en, hen, hv⟩ := hacc.2 j v (by rw [← Array.getElem?_toList]; exact hj)
      rw [Array.getElem?_toList, hen, hv]
      rfl
  rw [ea]
  have hL : (es.toList.map (·.key)).length ≤ sizeLine := by rw [List.length_map, Array.length_toList]; exact hn
  refine wpAny_bind (wpAny_newList ?_ hL)
  obtain ⟨κ, S, q⟩ := h h' tk hk
  have hat : (h'.push (seqObj "list" (es.toList.map (·.key)).toArray 0)).get? h'.objs.size = some (seqObj "list" (es.toList.map (·.key)).toArray 0) := Heap.get?_push_size _ rfl
  refine wpAny_bind (wpAny_holding (wpAny_call_entry slot_list_sort ⟨_, hat, rfl⟩ entry_list_sort ?body (args_list_sort _)))
  case body =>
    exact list_sort_vals (s := { s with heap := h'.push (seqObj "list" (es.toList.map (·.key)).toArray 0), toks := tk }) hat S hL ⟨_, rfl, wpAny_pure ⟨_, rfl, q⟩⟩
end
section
variable {X : Cx} {K : PySem.W.Frag} {Ψ : D → Prop}
def rSortN (K : PySem.W.Frag) : List V → Hp → VK → Prop := fun vs H Q => ∃ (B : Hp) (a : Addr) (ks ds : List D), vs = [.ref a] ∧ Ex B H ∧ DicAt K B H a ks ds ∧ SrtOk ks ∧
  ∀ ys p, RpA K B ys (D.srt ks) → H p = none → Q (.ref p) (upd H p (.lst ys))
theorem cr_sortN (W : InW X) (hc : X.calm = true) {k : Nat} (hr : Room k X.A) : CallR X (.builtin "sorted") (rSortN X.K) := by
  intro pq sh τ H vs us Q I r h
  obtain ⟨B, a, ks, ds, rfl, eB, D0, ok, q⟩ := h
  rw [Vals.ref1 r]
  obtain ⟨xs, h1, h2, h3, h4⟩ := D0.ex
  obtain ⟨ys, hp, hs, hl, dd⟩ := dx_dict W I eB h1 h2 h3
  obtain ⟨o, es, ep, ho, hx, hd, he, his, hn⟩ := dd
  have ek : es.toList.map (·.key) = xs.map (fun x => Value.ref x.2.1) := by
    rw [he, List.map_map]
    clear he his hn h1 h2 h3 h4 hl hd D0
    induction hp with
    | nil => rfl
    | cons r t ih =>
      rw [List.map_cons, List.map_cons, ih, r.2.1]
      rfl
  have hsz : es.size = xs.length := by
    have e := congrArg List.length ek
    rw [List.length_map, List.length_map, Array.length_toList] at e
    exact e
  have hu : ∀ d, d ∈ ks → X.A.units + 2 + (D.py d).depth < cLine := fun d hdt => by
    have ha1 := ok.dp d hdt
    have h5 := hr.un
    omega
  refine sorted_raw hs hx hd (I.ok.hd hc) ho (by rw [hsz]; exact hl) fun h' tk kp => ?_
  rw [ek]
  have rv : Vals (xs.map fun x => V.ref x.2.1) (xs.map fun x => Value.ref x.2.1) := by
    have e1 : xs.map (fun x => V.ref x.2.1) = (xs.map fun x => x.2.1).map V.ref := by rw [List.map_map]; rfl
    have e2 : xs.map (fun x => Value.ref x.2.1) = (xs.map fun x => x.2.1).map Value.ref := by rw [List.map_map]; rfl
    rw [e1, e2]
    exact vals_refs _
  have e := each_of rv h3
  have er := each_reads I (e.mono fun _ _ ⟨x, r, zw⟩ => ⟨x, r, Rp.mono eB _ _ zw⟩) (RpA.plD ok.pl h3)
  have old : ∀ {b : Addr} {o : Obj}, sh.heap.get? b = some o → (h'.push (seqObj "list" (xs.map fun x => Value.ref x.2.1).toArray 0)).get? b = some o := fun e => Heap.get?_push_of_some _ (kp _ _ e)
  have ne : ∀ {b : Addr} {o : Obj}, sh.heap.get? b = some o → b ≠ h'.objs.size := fun e => Nat.ne_of_lt (Heap.lt_size (kp _ _ e))
  have er' : PySem.W.EachIs (fun v b => ∃ as, Reads (PySem.W.sortingHeap (h'.push (seqObj "list" (xs.map fun x => Value.ref x.2.1).toArray 0)) h'.objs.size (xs.map fun x => Value.ref x.2.1)) v (D.py b) as) (xs.map fun x => Value.ref x.2.1) ks :=
    er.mono fun _ _ ⟨as, r⟩ => ⟨as, PyProof.Rows.Reads.keeps (fun _ _ e => PySem.W.sortingHeap_old (ne e) (old e)) r⟩
  have em := PySem.W.each_map (R := fun v d => ∃ as, Reads (PySem.W.sortingHeap (h'.push (seqObj "list" (xs.map fun x => Value.ref x.2.1).toArray 0)) h'.objs.size (xs.map fun x => Value.ref x.2.1)) v d as) D.py er'
  refine ⟨_, PySem.W.SortsAt.data (s := { sh with heap := PySem.W.sortingHeap (h'.push (seqObj "list" (xs.map fun x => Value.ref x.2.1).toArray 0)) h'.objs.size (xs.map fun x => Value.ref x.2.1), toks := tk }) em ok.al ok.so (PySem.W.bound_map (A := X.A.in1.in1) (fun b hb => ?_)), ?_⟩
  · exact hu b hb
  · obtain ⟨zs, rz, qz⟩ := each_to (PySem.W.sortVals_data false e er' ok.al)
    have hlen : zs.length ≤ sizeLine := by
      rw [qz.len, List.length_mergeSort]
      exact Nat.le_trans ok.sz (by decide)
    have hat : (h'.push (seqObj "list" (xs.map fun x => Value.ref x.2.1).toArray 0)).get? h'.objs.size = some (seqObj "list" (xs.map fun x => Value.ref x.2.1).toArray 0) := Heap.get?_push_size _ rfl
    obtain ⟨ep2, hep⟩ := sortedHeap_at (out := (PySem.W.sortVals (PySem.W.dataKind (PySem.W.sortingHeap (h'.push (seqObj "list" (xs.map fun x => Value.ref x.2.1).toArray 0)) h'.objs.size (xs.map fun x => Value.ref x.2.1)) (ks.map D.py)) false (xs.map fun x => Value.ref x.2.1) (xs.map fun x => Value.ref x.2.1)).toArray) hat
    have hno : sh.heap.get? h'.objs.size = none := by
      cases q : sh.heap.get? h'.objs.size with
      | none => rfl
      | some o => exact absurd (Heap.lt_size (kp _ _ q)) (Nat.lt_irrefl _)
    have hHn : H h'.objs.size = none := (I.hok.kept kp).fresh (Nat.le_refl _)
    refine ⟨.ref _, upd H h'.objs.size (.lst zs), I.laidN (t' := tk) (fun b o e => ?_) hno hHn ?_, rfl, q zs _ qz hHn⟩
    · exact (sortedHeap_old (ne e) (Heap.lt_size (old e))).trans (old e)
    · exact ⟨hlen, _, ep2, rz, hep⟩
theorem cd_sortN {ks vs : List D} (ok : SrtOk ks) (h : Ψ (.lst (D.srt ks))) : CallD K (rSortN K) [.dic ks vs] Ψ := by
  intro F _ Γ B τ H us sh r Q qw
  cases r with
  | cons r1 r2 =>
  cases r2
  cases r1 with
  | @dic a xs _ _ h1 h2 h3 h4 =>
  refine ⟨B, a, ks, vs, rfl, fun b o zw => (sh.bH b o zw).1, ⟨xs, (sh.bH _ _ h1).1, h2, h3, h4⟩, ok, fun ys p hy hp => ?_⟩
  have n := sh.frozen (o := .lst ys) hp
  exact qw _ _ _ _ h n (.lst upd_same (RpA.mono n.ex _ _ hy))
def rLenN (K : PySem.W.Frag) : List V → Hp → VK → Prop := fun vs H Q => ∃ (B : Hp) (a : Addr) (ks ds : List D), vs = [.ref a] ∧ Ex B H ∧ DicAt K B H a ks ds ∧ Q (.int ((ks.length : Nat) : Int)) H
theorem cr_lenN (W : InW X) : CallR X (.builtin "len") (rLenN X.K) := by
  intro pq sh τ H vs us Q I r h
  obtain ⟨B, a, ks, ds, rfl, eB, D0, q⟩ := h
  rw [Vals.ref1 r]
  obtain ⟨xs, h1, h2, h3, h4⟩ := D0.ex
  obtain ⟨ys, hp, hs, hl, dd⟩ := dx_dict W I eB h1 h2 h3
  have l1 : xs.length = ys.length := Paired.length hp
  have l2 : ks.length = xs.length := by
    have e := congrArg List.length h2
    rw [List.length_map, List.length_map] at e
    exact e
  refine call_len_dictH hs dd (by rw [← l1]; rw [sizeLine_eq] at hl; omega) ?_
  rw [← l1, ← l2]
  exact ⟨.int ((ks.length : Nat) : Int), H, I.tok _, ⟨_, rfl⟩, q⟩
theorem cd_lenN {ks vs : List D} (h : Ψ (.int ((ks.length : Nat) : Int))) : CallD K (rLenN K) [.dic ks vs] Ψ := by
  intro F _ Γ B τ H us sh r Q qw
  cases r with
  | cons r1 r2 =>
  cases r2
  cases r1 with
  | @dic a xs _ _ h1 h2 h3 h4 =>
  exact ⟨B, a, ks, vs, rfl, fun b o zw => (sh.bH b o zw).1, ⟨xs, (sh.bH _ _ h1).1, h2, h3, h4⟩, qw _ _ _ _ h (Nxt.refl sh) (.int _)⟩
def rInN (K : PySem.W.Frag) (neg : Bool) : R2 := fun x y H Q => ∃ (B : Hp) (a b : Addr) (ks vs : List D) (kd : D) (k : NK), x = .ref b ∧ y = .ref a ∧ Ex B H ∧ DicAt K B H a ks vs ∧ Rp K B (.ref b) kd ∧ kd.nk = some k ∧ k.depth ≤ 8 ∧ Q (.bl (if neg = true then !(valN ks vs k).isSome else (valN ks vs k).isSome)) H
theorem op_inN (W : InW X) {k : Nat} (hr : Room k X.A) : OpR X (compareOp .In) (rInN X.K false) := by
  intro pq sh τ H x y v u Q I rx ry h
  obtain ⟨B, a, b, ks, vs, kd, n, rfl, rfl, eB, D0, hk, en, h8, q⟩ := h
  cases (show v = Value.ref b from rx)
  cases (show u = Value.ref a from ry)
  have hu := hr.un
  exact x_in W (by omega) I eB D0 hk en h8 fun s' I' => ⟨.bl _, H, I', rfl, q⟩
theorem op_notInN (W : InW X) {k : Nat} (hr : Room k X.A) : OpR X (compareOp .NotIn) (rInN X.K true) := by
  intro pq sh τ H x y v u Q I rx ry h
  obtain ⟨B, a, b, ks, vs, kd, n, rfl, rfl, eB, D0, hk, en, h8, q⟩ := h
  cases (show v = Value.ref b from rx)
  cases (show u = Value.ref a from ry)
  have hu := hr.un
  exact x_notin W (by omega) I eB D0 hk en h8 fun s' I' => ⟨.bl _, H, I', rfl, q⟩
theorem od_inN {neg : Bool} {ts ks vs : List D} {k : NK} (en : (D.tup ts).nk = some k) (h8 : k.depth ≤ 8) (h : Ψ (.bl (if neg = true then !(valN ks vs k).isSome else (valN ks vs k).isSome))) : OpD K (rInN K neg) (.tup ts) (.dic ks vs) Ψ := by
  intro F _ Γ B τ H v1 v2 sh r1 r2 Q qw
  cases r1 with
  | @tup b ys _ g1 g2 =>
  cases r2 with
  | @dic a xs _ _ h1 h2 h3 h4 =>
  exact ⟨B, a, b, ks, vs, _, k, rfl, rfl, fun b o zw => (sh.bH b o zw).1, ⟨xs, (sh.bH _ _ h1).1, h2, h3, h4⟩, .tup g1 g2, en, h8, qw _ _ _ _ h (Nxt.refl sh) (.bl _)⟩
end
end L2.Px

/-! N4: own dicts with tuple keys: shown, stored to, lent -/
namespace L2.Px
open PySem PySem.Spec
open PyProof.Rows
variable [Wld]
theorem exk_ne (C : Value) (dd : Option Addr) (a p : Addr) (xs : List (NK × Addr × V)) : ExD C dd a ≠ DX p xs := by
  intro e
  have h1 : (fun h : Heap => ∃ (oe : Obj) (vs : Array Value), h.get? a = some oe ∧ L2.Zc C dd oe ∧ oe.data = .fields vs) (⟨Array.replicate (a + p + 1) { cls := C, dict := dd, data := .fields #[] }, {}⟩) := by
    refine ⟨{ cls := C, dict := dd, data := .fields #[] }, _, ?_, ⟨rfl, rfl⟩, rfl⟩
    unfold Heap.get?
    simp only [Array.getElem?_replicate]
    rw [if_pos (by omega)]
  have e2 : (fun h : Heap => ∃ (oe : Obj) (vs : Array Value), h.get? a = some oe ∧ L2.Zc C dd oe ∧ oe.data = .fields vs) = DXin p xs := HO.ext.inj e
  rw [e2] at h1
  obtain ⟨_, _, _, _, ys, o, es, ep, _, hg, _, hd, _⟩ := h1
  unfold Heap.get? at hg
  simp only [Array.getElem?_replicate] at hg
  rw [if_pos (by omega)] at hg
  cases hg
  cases hd
theorem do_ne (a p : Addr) (xs : List (NK × Addr × V)) : DO a ≠ DX p xs := by
  intro e
  have h1 : (fun h : Heap => ∃ o : Obj, h.get? a = some o ∧ o.cls = .type "dict") (⟨Array.replicate (a + p + 1) { cls := .type "dict", data := .fields #[] }, {}⟩) := by
    refine ⟨{ cls := .type "dict", data := .fields #[] }, ?_, rfl⟩
    unfold Heap.get?
    simp only [Array.getElem?_replicate]
    rw [if_pos (by omega)]
  have e2 : (fun h : Heap => ∃ o : Obj, h.get? a = some o ∧ o.cls = .type "dict") = DXin p xs := HO.ext.inj e
  rw [e2] at h1
  obtain ⟨_, _, _, _, ys, o, es, ep, _, hg, _, hd, _⟩ := h1
  unfold Heap.get? at hg
  simp only [Array.getElem?_replicate] at hg
  rw [if_pos (by omega)] at hg
  cases hg
  cases hd
/-- what is no part of immutable data -/
structure Soft (o : HO) : Prop where
  tup : ∀ xs, HO.tup xs ≠ o
  frz : ∀ o' u, HO.frz o' u ≠ o
  dK : ∀ k, HO.dK k ≠ o
  exk : ∀ C d a, ExD C d a ≠ o
  xd : ∀ fs, HO.xd fs ≠ o
  dO : ∀ a, DO a ≠ o
theorem soft_dx (p : Addr) (xs : List (NK × Addr × V)) : Soft (DX p xs) := ⟨(fun _ e => nomatch e), (fun _ _ e => nomatch e), (fun _ e => nomatch e), fun C d a e => exk_ne C d a p xs e, (fun _ e => nomatch e), fun a e => do_ne a p xs e⟩
section
variable {K : PySem.W.Frag}
mutual
theorem Rp.cutS {B : Hp} {p : Addr} {o : HO} (hp : B p = some o) (so : Soft o) : ∀ (d : D) (v : V), d.imm = true → Rp K B v d → Rp K (L2.Px.cutB B p) v d
  | .non, _, _, h => by cases h; exact .non
  | .bl _, _, _, h => by cases h; exact .bl _
  | .int _, _, _, h => by cases h; exact .int _
  | .str _, _, _, h => by cases h; exact .str _
  | .tup ds, _, i, h => by
    cases h with
    | tup hsa ha =>
      refine .tup ?_ (RpA.cutS hp so ds _ i ha)
      rcases hsa with hsa | ⟨o, hsa⟩
      · exact .inl (by rw [cutB_ne (ne_of hsa hp (so.tup _))]; exact hsa)
      · exact .inr ⟨o, by rw [cutB_ne (ne_of hsa hp (so.frz _ _))]; exact hsa⟩
  | .ntup _, _, i, _ => nomatch i
  | .lst _, _, i, _ => nomatch i
  | .scr _, _, i, _ => nomatch i
  | .dic _ _, _, i, _ => nomatch i
  | .dct, _, _, h => by
    cases h with
    | dct qw => exact .dct (by rw [cutB_ne (ne_of qw hp (so.dK _))]; exact qw)
  | .dix, _, _, h => by
    cases h with
    | dix qw => exact .dix (by rw [cutB_ne (ne_of qw hp (so.dO _))]; exact qw)
  | .obj _, _, _, h => by cases h; exact .obj _
  | .ty _, _, _, h => by cases h; exact .ty _
  | .exc _, _, _, h => by
    cases h with
    | exc qw => exact .exc (qw.cut hp so.exk so.xd)
theorem RpA.cutS {B : Hp} {p : Addr} {o : HO} (hp : B p = some o) (so : Soft o) : ∀ (ds : List D) (vs : List V), D.immA ds = true → RpA K B vs ds → RpA K (L2.Px.cutB B p) vs ds
  | [], _, _, h => by cases h; exact .nil
  | d :: ds, _, i, h => by
    cases h with
    | cons ha1 h2 =>
      have qw : d.imm = true ∧ D.immA ds = true := by
        have zw : (d.imm && D.immA ds) = true := i
        simpa using zw
      exact .cons (Rp.cutS hp so d _ qw.1 ha1) (RpA.cutS hp so ds _ qw.2 h2)
end
theorem OdR.cutS {B : Hp} {p q : Addr} {o : HO} (hp : B p = some o) (so : Soft o) : ∀ {od : OD} {u : HO}, od.imm = true → OdR K B q od u → OdR K (L2.Px.cutB B p) q od u
  | .lst _, _, i, ⟨xs, h, r⟩ => ⟨xs, h, RpA.cutS hp so _ _ i r⟩
  | .dK _, _, i, ⟨xs, h, k, r⟩ => ⟨xs, h, k, RpA.cutS hp so _ _ i r⟩
  | .dT _, _, i, ⟨xs, h, k, r⟩ => ⟨xs, h, k, RpA.cutS hp so _ _ i r⟩
  | .dN ks vs, _, i, ⟨xs, h, n, k, r⟩ => by
    have zw : (D.immA ks && D.immA vs) = true := i
    simp only [Bool.and_eq_true] at zw
    exact ⟨xs, h, n, RpA.cutS hp so _ _ zw.1 k, RpA.cutS hp so _ _ zw.2 r⟩
end
section
variable {X : Cx} {F : Fm} {Γ : Gam} {K : PySem.W.Frag} {Φ : D → Gam → Prop} {ed : ED}
/-- behind an expression that a dict was lent to -/
theorem nxt_lentN {τ : St} {B H : Hp} (sh : Stt K F B Γ τ H) {i : Nat} {ks ds : List D} (h : Γ[i]? = some (some (.own (.dN ks ds)))) (hob : ∀ (j : Nat) (od : OD), j ≠ i → Γ[j]? = some (some (.own od)) → od.imm = true) :
    ∃ B1, Stt K F B1 (Γ.set i (some (.val (.dic ks ds)))) τ H ∧ Ex B B1 ∧ ∀ B2 H2, Nxt K F τ B1 (Γ.set i (some (.val (.dic ks ds)))) H B2 (Γ.set i (some (.val (.dic ks ds)))) H2 → ∃ B3, Nxt K F τ B Γ H B3 Γ H2 ∧ ∀ v d, d.imm = true → Rp K B2 v d → Rp K B3 v d := by
  obtain ⟨v, e, p, o, rfl, hb, h0, nv, hoH, xs, rfl, hn, hk, r⟩ := sh.sl i _ h
  have il : i < Γ.length := (List.getElem?_eq_some_iff.mp h).1
  have eB : Ex B (upd B p (DX p xs)) := fun a u zw => by
    rw [upd_ne (ne_of_none zw hb)]
    exact zw
  have s1 : Stt K F (upd B p (DX p xs)) (Γ.set i (some (.val (.dic ks ds)))) τ H := by
    refine ⟨sh.fr, sh.b0.trans eB, fun a u zw => ?_, fun a u zw => ?_, sh.vH, sh.vH', sh.g, by rw [List.length_set]; exact sh.len, fun j sl hjw => ?_, fun j k oj ok qw ha1 h2 h3 h4 => ?_⟩
    · by_cases w : a = p
      · subst w
        rw [upd_same] at zw
        cases zw
        exact ⟨hoH, nv⟩
      · rw [upd_ne w] at zw
        exact sh.bH a u zw
    · by_cases w : a = p
      · subst w
        exact .inr h0
      · rw [upd_ne w] at zw
        exact sh.bn a u zw
    · by_cases w : i = j
      · subst w
        rw [List.getElem?_set_self il] at hjw
        cases hjw
        exact ⟨.ref p, e, .dic upd_same hn (RpA.mono eB _ _ hk) (RpA.mono eB _ _ r)⟩
      · rw [List.getElem?_set_ne w] at hjw
        obtain ⟨v, evw, rv⟩ := sh.sl j sl hjw
        refine ⟨v, evw, ?_⟩
        cases sl with
        | val d => exact Rp.mono eB _ _ rv
        | own od =>
          obtain ⟨qw, u, rfl, b1, ha1, n1, ea1, r1⟩ := rv
          have nq : qw ≠ p := fun zw => w (sh.dj i j _ od p h hjw e (by rw [← zw]; exact evw))
          exact ⟨qw, u, rfl, by rw [upd_ne nq]; exact b1, ha1, n1, ea1, r1.mono eB⟩
    · have ne : ∀ m om, (Γ.set i (some (Sl.val (.dic ks ds))))[m]? = some (some (Sl.own om)) → Γ[m]? = some (some (Sl.own om)) := fun m om zw => by
        by_cases w : i = m
        · subst w
          rw [List.getElem?_set_self il] at zw
          cases zw
        · rw [List.getElem?_set_ne w] at zw
          exact zw
      exact sh.dj j k oj ok qw (ne j oj ha1) (ne k ok h2) h3 h4
  refine ⟨upd B p (DX p xs), s1, eB, fun B2 H2 n => ?_⟩
  have hp2 : B2 p = some (DX p xs) := n.ex p _ upd_same
  have so := soft_dx p xs
  have e3 : Ex B (L2.Px.cutB B2 p) := fun a u zw => by
    rw [cutB_ne (fun w => by rw [w, hb] at zw; cases zw)]
    exact n.ex a u (eB a u zw)
  have b3 : ∀ a u, L2.Px.cutB B2 p a = some u → B2 a = some u ∧ a ≠ p := fun a u zw => by
    by_cases w : a = p
    · rw [w] at zw
      unfold L2.Px.cutB at zw
      rw [if_pos rfl] at zw
      cases zw
    · rw [cutB_ne w] at zw
      exact ⟨zw, w⟩
  have s2 := n.st
  refine ⟨L2.Px.cutB B2 p, ⟨⟨s2.fr, fun a u zw => e3 a u (sh.b0 a u zw), fun a u zw => s2.bH a u (b3 a u zw).1, fun a u zw => s2.bn a u (b3 a u zw).1, s2.vH, s2.vH', s2.g, sh.len, fun j sl hjw => ?_, sh.dj⟩, e3, fun a u zw nv' no => ?_, fun _ zw => zw, n.al, fun a u zw => ?_⟩, fun v d im rv => Rp.cutS hp2 so d v im rv⟩
  · obtain ⟨v, evw, rv⟩ := sh.sl j sl hjw
    refine ⟨v, evw, ?_⟩
    by_cases w : i = j
    · subst w
      rw [h] at hjw
      cases hjw
      rw [e] at evw
      cases evw
      exact ⟨p, DX p xs, rfl, if_pos rfl, h0, nv, (s2.bH p _ hp2).1, xs, rfl, hn, RpA.mono e3 _ _ hk, RpA.mono e3 _ _ r⟩
    · cases sl with
      | val d => exact Rp.mono e3 _ _ rv
      | own od =>
        obtain ⟨v', ev', qw, u, rfl, b1, ha1, n1, ea1, r1⟩ := s2.sl j (.own od) (by rw [List.getElem?_set_ne w]; exact hjw)
        rw [evw] at ev'
        cases ev'
        have nq : qw ≠ p := fun zw => w (sh.dj i j _ od p h hjw e (by rw [← zw]; exact evw))
        exact ⟨qw, u, rfl, by rw [cutB_ne nq]; exact b1, ha1, n1, ea1, r1.cutS hp2 so (hob j od (Ne.symm w) hjw)⟩
  · refine n.kp a u zw nv' fun ⟨j, oj, ha1, h2⟩ => no ⟨j, oj, ?_, h2⟩
    by_cases w : i = j
    · subst w
      rw [List.getElem?_set_self il] at ha1
      cases ha1
    · rw [List.getElem?_set_ne w] at ha1
      exact ha1
  · obtain ⟨z1, z2⟩ := b3 a u zw
    rcases n.nb a u z1 with w | w
    · rw [upd_ne z2] at w
      exact .inl w
    · exact .inr w
theorem we_lendN {e : Expr} {i : Nat} {ks ds : List D} (h0 : Γ[i]? = some (some (.own (.dN ks ds)))) (hob : ∀ (j : Nat) (od : OD), j ≠ i → Γ[j]? = some (some (.own od)) → od.imm = true)
    (h : WE X F e (Γ.set i (some (.val (.dic ks ds)))) fun d Γ1 => Γ1 = Γ.set i (some (.val (.dic ks ds))) ∧ d.imm = true ∧ Φ d Γ) : WE X F e Γ Φ := by
  intro B τ H sh Q qw
  obtain ⟨B1, s1, ea1, back⟩ := nxt_lentN sh h0 hob
  refine h B1 τ H s1 Q fun v d B2 Γ2 H2 p n r => ?_
  obtain ⟨rfl, im, p⟩ := p
  obtain ⟨B3, n3, r3⟩ := back B2 H2 n
  exact qw v d B3 Γ H2 p n3 (r3 v d im r)
theorem wt_lendN {e : Expr} {i : Nat} {ks ds : List D} {T : Bool → Gam → Prop} (h0 : Γ[i]? = some (some (.own (.dN ks ds)))) (hob : ∀ (j : Nat) (od : OD), j ≠ i → Γ[j]? = some (some (.own od)) → od.imm = true)
    (h : WT X F e (Γ.set i (some (.val (.dic ks ds)))) fun b Γ1 => Γ1 = Γ.set i (some (.val (.dic ks ds))) ∧ T b Γ) : WT X F e Γ T := by
  intro B τ H sh Q qw
  obtain ⟨B1, s1, ea1, back⟩ := nxt_lentN sh h0 hob
  refine h B1 τ H s1 Q fun b B2 Γ2 H2 p n => ?_
  obtain ⟨rfl, p⟩ := p
  obtain ⟨B3, n3, _⟩ := back B2 H2 n
  exact qw b B3 Γ H2 p n3
/-- found[e] = d, a new key -/
def rSetN (K : PySem.W.Frag) : TSet := fun o i v H Q => ∃ (B : Hp) (a b : Addr) (ks vs : List D) (kd : D) (k : NK) (xs : List (NK × Addr × V)), o = .ref a ∧ i = .ref b ∧ Ex B H ∧ H a = some (DX a xs) ∧ ks.map D.nk = xs.map (fun x => some x.1) ∧ RpA K B (xs.map fun x => V.ref x.2.1) ks ∧ RpA K B (xs.map (·.2.2)) vs ∧
  Rp K B (.ref b) kd ∧ kd.nk = some k ∧ k.depth ≤ 8 ∧ valN ks vs k = none ∧ xs.length < sizeLine ∧ Q (upd H a (DX a (xs ++ [(k, b, v)])))
theorem set_newN (W : InW X) {k : Nat} (hr : Room k X.A) : PSet X (rSetN X.K) := by
  intro pq sh τ H o i v ov iv u Q I ro ri rv h
  obtain ⟨B, a, b, ks, vs, kd, n, xs, rfl, rfl, eB, h1, h2, h3, h4, hk, en, h8, hv, hl, q⟩ := h
  cases (show ov = Value.ref a from ro)
  cases (show iv = Value.ref b from ri)
  have hu := hr.un
  exact x_new (d := kd) W (by omega) I eB h1 h2 h3 h4 hk en h8 hv rv hl fun s' I' => ⟨_, I', q⟩
/-- found[k] = e, k not yet a key -/
theorem ws_putN [F.c.Ok] (W : InW X) {m : Nat} (hr : Room m X.A) {i : Nat} {x : Str} {e k : Expr} {p1 p2 pos : Pos} (hN : X.N[i]? = some x) (hv : Vis X.env.scope x)
    (h : WE X F e Γ fun d Γ1 => (∃ ks0 vs0, Γ1[i]? = some (some (.own (.dN ks0 vs0)))) ∧ WE X F k Γ1 fun c Γ2 => ∃ (ks vs ts : List D) (n : NK), Γ2[i]? = some (some (.own (.dN ks vs))) ∧ c = .tup ts ∧ (D.tup ts).nk = some n ∧ n.depth ≤ 8 ∧ valN ks vs n = none ∧ ks.length < 100000 ∧ ed.nx (Γ2.set i (some (.own (.dN (ks ++ [.tup ts]) (vs ++ [d]))))))
    (hdt : (x == ("__debug__" : Str)) = false := by decide) (hcd : (x == ("__classdict__" : Str)) = false := by decide)
    (ha : ∀ v, assign (.Subscript (.Name x p1) k p2) X.env v = (do
      let ov ← holding [v] (eval (.Name x p1) X.env)
      let iv ← holding [v, ov] (eval k X.env)
      standAt p2
      holding [v, ov, iv] (setItem ov iv v)
      release [v, ov, iv] []) := by intro _; rfl)
    (hsa : swapsWithSole [.Subscript (.Name x p1) k p2] e pos.line X.env = pure false := by rfl) (hw : swappedStores [.Subscript (.Name x p1) k p2] e X.env = pure none := by rfl)
    (ha1 : (assignEach [.Subscript (.Name x p1) k p2] X.env).map (·.2) = [assign (.Subscript (.Name x p1) k p2) X.env] := by rfl) : WS X F (.Assign [.Subscript (.Name x p1) k p2] e pos) Γ ed := by
  intro B τ H sh D l
  refine wps_of (ps_asg pe_wp (pg_sub (pe_var hN hv hdt hcd) pe_wp (set_newN W hr) ha) hsa hw ha1) (h B τ H sh _ fun v d B1 Γ1 H1 p n r => ?_)
  obtain ⟨⟨ks0, vs0, hΓ0⟩, p⟩ := p
  obtain ⟨_, eσ, p0, o0, rfl, _⟩ := n.st.sl i _ hΓ0
  refine ⟨.ref p0, eσ, p B1 τ H1 n.st _ fun c kd B2 Γ2 H2 p' n2 r2 => ?_⟩
  obtain ⟨ks, vs, ts, q, hΓ, rfl, en, h8, hnew, hlen, p'⟩ := p'
  obtain ⟨_, eσ2, p2, o2, rfl, hb, h0, nv, hoH, xs, rfl, hk1, hk2, hk3⟩ := n2.st.sl i _ hΓ
  rw [eσ] at eσ2
  cases eσ2
  have lx : ks.length = xs.length := by
    have e := congrArg List.length hk1
    rw [List.length_map, List.length_map] at e
    exact e
  cases r2 with
  | @tup b ys _ g1 g2 =>
  refine ⟨B2, p0, b, ks, vs, .tup ts, q, xs, rfl, rfl, fun a o zw => (n2.st.bH a o zw).1, hoH, hk1, hk2, hk3, .tup g1 g2, en, h8, hnew, Nat.lt_of_lt_of_le (by omega) (show 100000 ≤ sizeLine by decide), ?_⟩
  have n3 := n2.st.mut (od' := .dN (ks ++ [.tup ts]) (vs ++ [d])) (o' := DX p0 (xs ++ [(q, b, v)])) hΓ eσ
    ⟨_, rfl, by rw [List.map_append, List.map_append, hk1, List.map_singleton, List.map_singleton, en], by rw [List.map_append]; exact RpA.app hk2 (.cons (.tup g1 g2) .nil), by rw [List.map_append]; exact RpA.app hk3 (.cons (Rp.mono n2.ex _ _ r) .nil)⟩
  exact l.nx _ _ _ _ p' n3.st ((n.ex.trans n2.ex).trans n3.ex)
/-! ### {k: v} -/
theorem nxt_rewrite [F.c.Ok] {τ : St} {B H B2 H2 : Hp} {Γ2 : Gam} {p : Addr} {o o' : HO} (n : Nxt K F τ B Γ H B2 Γ2 H2) (hp : H p = none) (ho : H2 p = some o) (so : ¬ Firm o) (hb : B2 p = none) (h0 : F.H0 p = none) (nv : ¬ F.c.V p) (no : ¬ Ownd Γ2 τ p) :
    Nxt K F τ B Γ H B2 Γ2 (upd H2 p o') := by
  have hne : ∀ a u, H2 a = some u → a ≠ p → upd H2 p o' a = some u := fun a u h ne => by
    rw [upd_ne ne]
    exact h
  have s := n.st
  refine ⟨⟨fun a u h v => hne a u (s.fr a u h v) (fun zw => by rw [zw, h0] at h; cases h), s.b0, fun a u h => ⟨hne a u (s.bH a u h).1 (fun zw => by rw [zw, hb] at h; cases h), (s.bH a u h).2⟩, s.bn, s.vH, fun a v => ?_,
    Cfg.Ok.st H2 _ (fun a v => upd_ne (fun zw => nv (by rw [← zw]; exact v))) (fun a u h _ f => hne a u h (fun zw => by rw [zw, ho] at h; cases h; exact so f)) s.g, s.len, fun j sl hjw => ?_, s.dj⟩, n.ex, fun a u h v w => ?_, n.ow, fun a h => ?_, n.nb⟩
  · unfold upd
    split
    · exact fun zw => nomatch zw
    · exact s.vH' a v
  · obtain ⟨v, evw, rv⟩ := s.sl j sl hjw
    refine ⟨v, evw, ?_⟩
    cases sl with
    | val d => exact rv
    | own od =>
      obtain ⟨p1, u, rfl, b1, ha1, n1, ea1, r1⟩ := rv
      exact ⟨p1, u, rfl, b1, ha1, n1, hne p1 u ea1 (fun zw => no ⟨j, od, hjw, by rw [← zw]; exact evw⟩), r1⟩
  · exact hne a u (n.kp a u h v w) (fun zw => by rw [zw, hp] at h; cases h)
  · unfold upd
    split
    · exact fun zw => nomatch zw
    · exact n.al a h
def tDispN (tk tv : TE) (K : PySem.W.Frag) : TE := fun σ H Q => ∀ p, H p = none → tPairs [(tk, tv)] σ (upd H p (DX p [])) fun ps H2 => H2 p = some (DX p []) ∧ ∃ (B : Hp) (b : Addr) (kd : D) (k : NK) (v : V), ps = [(.ref b, v)] ∧ Ex B H2 ∧ Rp K B (.ref b) kd ∧ kd.nk = some k ∧ k.depth ≤ 8 ∧ Q (.ref p) (upd H2 p (DX p [(k, b, v)]))
theorem pe_dispN (W : InW X) {m : Nat} (hr : Room m X.A) {pos : Pos} {k v : Expr} {tk tv : TE} (hk : PE X k tk) (hv : PE X v tv) : PE X (.Dict [some k] [v] pos) (tDispN tk tv X.K) := by
  refine ⟨fun pq sh τ H Q I q => ?_⟩
  have hn := I.hok.fresh (Nat.le_refl sh.heap.objs.size)
  have I1 := I.laid (a := sh.heap.objs.size) (o := DX sh.heap.objs.size []) (h' := sh.heap.push { cls := .type "dict", data := .dict #[] }) (t' := sh.toks) (fun _ _ q => Heap.get?_push_of_some _ q) (Nat.le_refl _)
    (dx_ok ⟨beq_eq_false_iff_ne.mpr (Ne.symm (Nat.ne_of_lt I.big)), Nat.zero_le _, List.nodup_nil, (fun x hx => nomatch hx), [], _, #[], 0, .nil, Heap.get?_push_size _ rfl, ⟨rfl, rfl, rfl⟩, rfl, rfl⟩)
  have hu := hr.un
  have hru : (nestedKind X.prog X.w).room X.A := by show X.A.units + 8 < cLine; omega
  rw [PySem.arm_eval_Dict, zip_pairTrees [some k] [v] X.env pos rfl rfl, dictDisplay_pairs (pairTrees [some k] [v] X.env pos) (by intro zw; cases zw) (by show 1 < 17; decide)]
  refine wpAny_bind (wpAny_standAt (wpAny_bind (wpAny_subDictH (knd := nestedKind X.prog X.w) (Q := fun d s' => wpAny (model X.prog X.w) X.A (pure (Value.ref d)) _ X.xe s') hru (by show 1 ≤ 15; decide) ?_)))
  refine thn ((pps_cons hk hv pps_nil).run pq _ τ _ _ I1 (q _ hn)) fun ws s2 ⟨ps, H2, I2, rel, e, B, b, kd, n, y, ep, eB, hkd, en, h8, q2⟩ => ?_
  subst ep
  cases rel with
  | @cons _ b1 _ _ r1 r2 =>
  cases r2
  obtain ⟨c1, c2⟩ := b1
  obtain ⟨r1, r3⟩ := r1
  cases (show c1 = Value.ref b from r1)
  obtain ⟨ys, hp, hs, hl, dd⟩ := dx_dict (ks := []) W I2 eB e rfl .nil
  cases hp
  refine ⟨[(n, b, c2)], ⟨rfl, rfl, ⟨rp_nk I2 eB kd n _ _ hkd en (show RelV (V.ref b) (Value.ref b) from rfl), h8⟩, True.intro⟩, dd, fun h' tk dd' hsb => wpAny_pure ⟨.ref sh.heap.objs.size, _, ?_, rfl, q2⟩⟩
  obtain ⟨o, es, ep, g1, g2, g3, g4, g5, g6⟩ := dd'
  refine d_write I2 (by rw [e]; exact True.intro) hsb ⟨o, g1⟩ (dx_ok ⟨hs, by show 1 ≤ _; decide, by simp, fun x hx => ?_, [(n, b, c2)], o, es, ep, .cons ⟨rfl, rfl, r3⟩ .nil, g1, g2, g3, ?_⟩)
  · rcases List.mem_cons.mp hx with rfl | hx
    · exact h8
    · cases hx
  · rw [← W.P, ← W.w]
    exact g4
/-- {k: v} -/
theorem wn_dispN [F.c.Ok] (W : InW X) {m : Nat} (hr : Room m X.A) {Ψ : OD → Gam → Prop} {k v : Expr} {pos : Pos} (h : WE X F k Γ fun kd Γ1 => WE X F v Γ1 fun d Γ2 => ∃ ts n, kd = .tup ts ∧ (D.tup ts).nk = some n ∧ n.depth ≤ 8 ∧ Ψ (.dN [.tup ts] [d]) Γ2) : WN X F (.Dict [some k] [v] pos) Γ Ψ := by
  intro B τ H sh Q qw
  refine wp_of (pe_dispN W hr pe_wp pe_wp) fun p hp => ?_
  have n0 := sh.laid (o := DX p []) hp
  have d0 : F.H0 p = none := sh.h0 hp
  have dV : ¬ F.c.V p := sh.nv hp
  have hb0 : B p = none := sh.bnone hp
  have no0 : ¬ Ownd Γ τ p := not_ownd sh hp
  refine h B τ _ n0.st _ fun x kd B1 Γ1 H1 p1 n1 r1 => ?_
  refine p1 B1 τ H1 n1.st _ fun y d B2 Γ2 H2 p2 n2 r2 => ?_
  obtain ⟨ts, n, rfl, en, h8, p2⟩ := p2
  have n12 := n1.trans n2
  have e2 : H2 p = some (DX p []) := n12.kp p _ upd_same dV no0
  have hb2 : B2 p = none := by
    cases e : B2 p with
    | none => rfl
    | some o =>
      rcases n12.nb p o e with zw | zw
      · rw [hb0] at zw
        cases zw
      · rw [upd_same] at zw
        cases zw
  have no2 : ¬ Ownd Γ2 τ p := fun zw => no0 (n12.ow p zw)
  cases r1 with
  | @tup b ys _ g1 g2 =>
  have rk : Rp X.K B2 (.ref b) (.tup ts) := Rp.mono n2.ex _ _ (.tup g1 g2)
  refine ⟨e2, B2, b, .tup ts, n, y, rfl, fun a o zw => (n2.st.bH a o zw).1, rk, en, h8, ?_⟩
  have nn := nxt_rewrite (o' := DX p [(n, b, y)]) (n0.trans n12) hp e2 (fun zw => zw p [] rfl) hb2 d0 dV no2
  exact qw p _ (.dN [.tup ts] [d]) B2 Γ2 _ p2 nn hb2 d0 dV no2 hp upd_same ⟨[(n, b, y)], rfl, by rw [List.map_singleton, List.map_singleton, en], .cons rk .nil, .cons r2 .nil⟩
end
end L2.Px

/-! N5: a dict display of 17 pairs -/
namespace L2.Px
open PySem PySem.Spec
open PyProof.Rows
abbrev Prs := List (Sem Value × Sem Value)
theorem gath (f : (Option (Sem Value) × Sem Value) → (Option Addr × Prs) → Sem (ForInStep (Option Addr × Prs)))
    (hf : ∀ (p : Sem Value × Sem Value) (r : Prs), r.length < 16 → f (some p.1, p.2) (none, r) = pure (.yield (none, r ++ [p]))) (last : Sem Value × Sem Value) :
    ∀ (l r : Prs), r.length + l.length = 16 → forIn ((l ++ [last]).map fun p => (some p.1, p.2)) ((none : Option Addr), r) f = forIn [(some last.1, last.2)] ((none : Option Addr), r ++ l) f
  | [], r, _ => by
    rw [List.append_nil]
    rfl
  | p :: l, r, h => by
    have hl : (p :: l).length = l.length + 1 := rfl
    have ih := gath f hf last l (r ++ [p]) (by rw [List.length_append, List.length_singleton]; omega)
    rw [List.append_assoc] at ih
    show forIn ((some p.1, p.2) :: (l ++ [last]).map fun p => (some p.1, p.2)) _ f = _
    rw [List.forIn_cons, hf p r (by omega), pure_bind]
    exact ih
theorem display17 (l : Prs) (last : Sem Value × Sem Value) (h : l.length = 16) : dictDisplay ((l ++ [last]).map fun p => (some p.1, p.2)) = (do let d ← subDict (l ++ [last]); pure (.ref d)) := by
  unfold dictDisplay
  dsimp only
  rw [gath _ (fun p r hr => by
    have e : ((r ++ [(p.1, p.2)]).length == 17) = false := by simp; omega
    simp only [e, Bool.false_eq_true, if_false]) last l [] (by simpa using h)]
  have e2 : ((l ++ [(last.1, last.2)]).length == 17) = true := by simp [h]
  have e3 : ((l ++ [(last.1, last.2)]).isEmpty) = false := by simp
  simp [List.forIn_cons, h]
end L2.Px

/-! N6: a long dict display, pair by pair -/
namespace L2.Px
open PySem PySem.Spec
open PyProof.Rows
variable [Wld]
section
variable {X : Cx}
def tLong (a : Addr) : List (TE × TE) → St → Hp → (Hp → Prop) → Prop
  | [], _, H, Q => Q H
  | (tk, tv) :: r, τ, H, Q => tk τ H fun x H1 => tv τ H1 fun y H2 => ∃ (kvs : List (Key × V)) (k : Key), H2 a = some (.dK kvs) ∧ x = kV k ∧ kvs.length < sizeLine ∧ tLong a r τ (upd H2 a (.dK (putK kvs k y))) Q
def tDispL (trs : List (TE × TE)) : TE := fun τ H Q => ∀ p, H p = none → tLong p trs τ (upd H p (.dK [])) fun H2 => Q (.ref p) H2
theorem sub_long {pairs : Prs} {A : Around} {E : Value → Shared → Prop} {Q : Addr → Shared → Prop} {prog : Program} {w : World} {s : Shared} (hl : 15 < pairs.length) (h : wpAny (model prog w) A (forIn pairs PUnit.unit fun (x : Sem Value × Sem Value) (_ : PUnit) => (do
      let kv ← x.1
      let vv ← holding [kv] x.2
      holding [kv, vv] (dictSet s.heap.objs.size kv vv)
      pure (ForInStep.yield PUnit.unit) : Sem (ForInStep PUnit))) (fun _ s' => Q s.heap.objs.size s') E { s with heap := s.heap.push { cls := .type "dict", data := .dict #[] } }) :
    wpAny (model prog w) A (subDict pairs) Q E s := by
  unfold subDict
  refine wpAny_bind (wpAny_alloc ?_)
  refine wpAny_bind (wpAny_holding ?_)
  rw [if_neg (by omega)]
  refine wpAny_bind (wpAny_rule ?_)
  refine wpAny_bind (wpAny_mono h (fun u s' q => wpAny_pure (wpAny_pure q)) fun _ _ e => e)
inductive LP (X : Cx) : List (Option Expr) → List Expr → List (TE × TE) → Prop
  | nil : LP X [] [] []
  | cons {k v : Expr} {ks : List (Option Expr)} {vs : List Expr} {tk tv : TE} {trs : List (TE × TE)} : PE X k tk → PE X v tv → LP X ks vs trs → LP X (some k :: ks) (v :: vs) ((tk, tv) :: trs)
theorem loop_long {a : Addr} {pos : Pos} : ∀ {ks : List (Option Expr)} {vs : List Expr} {trs : List (TE × TE)}, LP X ks vs trs → ∀ (pq : List (Addr × Obj)) (s : Shared) (τ : St) (H : Hp) (Q : Hp → Prop), Inv X pq τ H s → tLong a trs τ H Q →
    wpAny (model X.prog X.w) X.A (forIn (pairTrees ks vs X.env pos) PUnit.unit fun (x : Sem Value × Sem Value) (_ : PUnit) => (do
      let kv ← x.1
      let vv ← holding [kv] x.2
      holding [kv, vv] (dictSet a kv vv)
      pure (ForInStep.yield PUnit.unit) : Sem (ForInStep PUnit))) (fun _ s' => ∃ H', Inv X pq τ H' s' ∧ Q H') X.xe s
  | _, _, _, .nil, pq, s, τ, H, Q, I, h => by
    show wpAny _ _ (forIn [] PUnit.unit _) _ _ _
    rw [List.forIn_nil]
    exact wpAny_pure ⟨H, I, h⟩
  | _, _, _, .cons hk hv r, pq, s, τ, H, Q, I, h => by
    show wpAny _ _ (forIn ((_, _) :: pairTrees _ _ _ _) PUnit.unit _) _ _ _
    rw [List.forIn_cons]
    refine wpAny_bind (wpAny_bind (thn (hk.run pq s τ H _ I h) fun u s1 ⟨x, H1, I1, rx, q1⟩ => ?_))
    refine wpAny_bind (wpAny_holding (wpAny_bind (thn (hv.run pq s1 τ H1 _ I1 q1) fun w2 s2 ⟨y, H2, I2, ry, q2⟩ => wpAny_bind (wpAny_standAt (wpAny_pure ?_)))))
    obtain ⟨kvs, k, e, ek, hl, q3⟩ := q2
    subst ek
    obtain ⟨z, hd, ws, rel, dd⟩ := dk_of I2.hok e
    have hz : ws.length ≤ sizeLine := by rw [← rel.length]; exact z
    have hl2 : (putK kvs k y).length ≤ sizeLine := by have := length_putK kvs k y; omega
    refine wpAny_bind (wpAny_holding (wpAny_dictSet_pairs (hsz := hz) (kV_is rx) dd fun h' dd' hs => wpAny_pure ?_))
    have he : ∃ q, h'.get? a = some q := let ⟨q, _, _, hq, _⟩ := dd'; ⟨q, hq⟩
    exact loop_long r pq _ τ _ Q (d_write I2 (by rw [e]; exact True.intro) hs he (dk_new hl2 hd (rel.put k ry) dd')) q3
theorem pe_disp17 {pos : Pos} {keys : List (Option Expr)} {values : List Expr} {trs : List (TE × TE)} (h : LP X keys values trs) (hall : keys.all (·.isSome) = true) (hl : keys.length = values.length) (h17 : keys.length = 17) : PE X (.Dict keys values pos) (tDispL trs) := by
  refine ⟨fun pq sh τ H Q I q => ?_⟩
  have hn := I.hok.fresh (Nat.le_refl sh.heap.objs.size)
  have I1 := I.laid (a := sh.heap.objs.size) (o := .dK []) (h' := sh.heap.push { cls := .type "dict", data := .dict #[] }) (t' := sh.toks) (fun _ _ q => Heap.get?_push_of_some _ q) (Nat.le_refl _) (dk_empty sh.heap I.big)
  have len : (pairTrees keys values X.env pos).length = 17 := by rw [pairTrees_length keys values X.env pos hall hl, h17]
  obtain ⟨l, last, el⟩ : ∃ l last, pairTrees keys values X.env pos = l ++ [last] := by
    rcases List.eq_nil_or_concat (pairTrees keys values X.env pos) with z | ⟨l, last, z⟩
    · rw [z] at len
      cases len
    · exact ⟨l, last, by rw [z, List.concat_eq_append]⟩
  have l16 : l.length = 16 := by
    rw [el, List.length_append, List.length_singleton] at len
    omega
  rw [PySem.arm_eval_Dict, zip_pairTrees keys values X.env pos hall hl, el, display17 l last l16, ← el]
  refine wpAny_bind (wpAny_standAt (wpAny_bind (sub_long (by omega) ?_)))
  exact thn (loop_long h pq _ τ _ _ I1 (q _ hn)) fun _ s2 ⟨H2, I2, q2⟩ => wpAny_pure ⟨.ref sh.heap.objs.size, H2, I2, rfl, q2⟩
end
end L2.Px

/-! N7: the display of 17 pairs, of data -/
namespace L2.Px
open PySem PySem.Spec
open PyProof.Rows
variable [Wld]
section
variable {X : Cx} {F : Fm} {Γ : Gam}
def wpPs (X : Cx) : List (Option Expr) → List Expr → List (TE × TE)
  | some k :: ks, v :: vs => (wpE X k, wpE X v) :: wpPs X ks vs
  | _, _ => []
theorem lp_wp : ∀ {ks : List (Option Expr)} {vs : List Expr}, ks.all (·.isSome) = true → ks.length = vs.length → LP X ks vs (wpPs X ks vs)
  | [], [], _, _ => .nil
  | [], _ :: _, _, h => by cases h
  | _ :: _, [], _, h => by cases h
  | none :: _, _ :: _, h, _ => by simp at h
  | some k :: ks, v :: vs, h, hl => by
    have h2 : ks.all (·.isSome) = true := by simpa using h
    have hl2 : ks.length = vs.length := by simpa using hl
    exact .cons pe_wp pe_wp (lp_wp h2 hl2)
/-- the pairs of a display with text keys, each new -/
def WP (X : Cx) (F : Fm) : List (Option Expr) → List Expr → List (Key × D) → Gam → (List (Key × D) → Gam → Prop) → Prop
  | some k :: ks, v :: vs, acc, Γ, Φ => WE X F k Γ fun kd Γ1 => WE X F v Γ1 fun d Γ2 => ∃ x : Str, kd = .str x ∧ (.inr x : Key) ∉ acc.map (·.1) ∧ WP X F ks vs (acc ++ [(.inr x, d)]) Γ2 Φ
  | _, _, acc, Γ, Φ => Φ acc Γ
theorem putK_new {k : Key} {y : V} : ∀ {ws : List (Key × V)}, k ∉ ws.map (·.1) → putK ws k y = ws ++ [(k, y)] := fun {ws} h => by
  unfold putK
  rw [if_neg]
  intro z
  obtain ⟨p, hp, e⟩ := List.any_eq_true.mp z
  exact h (List.mem_map.mpr ⟨p, hp, of_decide_eq_true e⟩)
theorem run_long [F.c.Ok] {Φ : List (Key × D) → Gam → Prop} {τ : St} {B H : Hp} {p : Addr} {Q : Hp → Prop} (hp : H p = none) (h0 : F.H0 p = none) (nv : ¬ F.c.V p)
    (fin : ∀ acc ws B' Γ' H', Φ acc Γ' → Nxt X.K F τ B Γ H B' Γ' H' → B' p = none → ¬ Ownd Γ' τ p → H' p = some (.dK ws) → ws.map (·.1) = acc.map (·.1) → RpA X.K B' (ws.map (·.2)) (acc.map (·.2)) → Q H') :
    ∀ (ks : List (Option Expr)) (vs : List Expr) (acc : List (Key × D)) (ws : List (Key × V)) (B1 : Hp) (Γ1 : Gam) (H1 : Hp), WP X F ks vs acc Γ1 Φ → Nxt X.K F τ B Γ H B1 Γ1 H1 → B1 p = none → ¬ Ownd Γ1 τ p → H1 p = some (.dK ws) → ws.map (·.1) = acc.map (·.1) → RpA X.K B1 (ws.map (·.2)) (acc.map (·.2)) →
      ws.length + ks.length ≤ 100 → tLong p (wpPs X ks vs) τ H1 Q
  | [], vs, acc, ws, B1, Γ1, H1, w, n, hb, no, e, ek, er, hl => fin acc ws B1 Γ1 H1 w n hb no e ek er
  | none :: ks, vs, acc, ws, B1, Γ1, H1, w, n, hb, no, e, ek, er, hl => fin acc ws B1 Γ1 H1 w n hb no e ek er
  | some k :: ks, [], acc, ws, B1, Γ1, H1, w, n, hb, no, e, ek, er, hl => fin acc ws B1 Γ1 H1 w n hb no e ek er
  | some k :: ks, v :: vs, acc, ws, B1, Γ1, H1, w, n, hb, no, e, ek, er, hl => by
    refine w B1 τ H1 n.st _ fun x kd B2 Γ2 H2 w2 n2 r2 => ?_
    refine w2 B2 τ H2 n2.st _ fun y d B3 Γ3 H3 w3 n3 r3 => ?_
    obtain ⟨x', rfl, hnew, w3⟩ := w3
    cases r2
    have n23 := n2.trans n3
    have e3 : H3 p = some (.dK ws) := n23.kp p _ e nv no
    have hb3 : B3 p = none := by
      cases eb : B3 p with
      | none => rfl
      | some o =>
        rcases n23.nb p o eb with zw | zw
        · rw [hb] at zw
          cases zw
        · rw [e] at zw
          cases zw
    have no3 : ¬ Ownd Γ3 τ p := fun zw => no (n23.ow p zw)
    have hz : ws.length < sizeLine := Nat.lt_of_lt_of_le (by rw [List.length_cons] at hl; omega) (show 100 ≤ sizeLine by decide)
    refine ⟨ws, .inr x', e3, rfl, hz, ?_⟩
    rw [putK_new (by rw [ek]; exact hnew)]
    have nn := nxt_rewrite (o' := .dK (ws ++ [(.inr x', y)])) (n.trans n23) hp e3 (fun zw => zw) hb3 h0 nv no3
    refine run_long hp h0 nv fin ks vs _ _ B3 Γ3 _ w3 nn hb3 no3 upd_same ?_ ?_ ?_
    · rw [List.map_append, List.map_append, ek]
      rfl
    · rw [List.map_append, List.map_append]
      exact RpA.app (RpA.mono n23.ex _ _ er) (.cons r3 .nil)
    · rw [List.length_append, List.length_singleton]
      rw [List.length_cons] at hl
      omega
/-- {k: v, ..}, 17 pairs with text keys -/
theorem wn_disp17 [F.c.Ok] {Ψ : OD → Gam → Prop} {keys : List (Option Expr)} {values : List Expr} {pos : Pos} (h : WP X F keys values [] Γ fun acc Γ1 => Ψ (.dK acc) Γ1) (hall : keys.all (·.isSome) = true) (hl : keys.length = values.length) (h17 : keys.length = 17) : WN X F (.Dict keys values pos) Γ Ψ := by
  intro B τ H sh Q qw
  refine wp_of (pe_disp17 (lp_wp hall hl) hall hl h17) fun p hp => ?_
  have n0 := sh.laid (o := .dK []) hp
  have d0 : F.H0 p = none := sh.h0 hp
  have dV : ¬ F.c.V p := sh.nv hp
  exact run_long (Q := fun H2 => Q (.ref p) H2) hp d0 dV (fun acc ws B' Γ' H' f n hb no e ek er => qw p _ (.dK acc) B' Γ' H' f n hb d0 dV no hp e ⟨ws, rfl, ek, er⟩)
    keys values [] [] B Γ _ h n0 (sh.bnone hp) (not_ownd sh hp) upd_same rfl .nil (by rw [h17]; decide)
end
end L2.Px

/-! N8: an own dict with text keys, read -/
namespace L2.Px
open PySem PySem.Spec
open PyProof.Rows
variable [Wld]
section
variable {X : Cx} {F : Fm} {Γ : Gam} {Φ : D → Gam → Prop}
/-- the item at a key, of data -/
def atK : List (Key × D) → Key → Option D
  | [], _ => none
  | p :: r, k => if p.1 = k then some p.2 else atK r k
theorem valV_at {K : PySem.W.Frag} {B : Hp} {k : Key} : ∀ {ws : List (Key × V)} {kvs : List (Key × D)} {d : D}, ws.map (·.1) = kvs.map (·.1) → RpA K B (ws.map (·.2)) (kvs.map (·.2)) → atK kvs k = some d → ∃ v, valV ws k = some v ∧ Rp K B v d
  | [], [], d, _, _, h => by cases h
  | [], _ :: _, d, e, _, _ => by cases e
  | _ :: _, [], d, e, _, _ => by cases e
  | p :: ws, q :: kvs, d, e, r, h => by
    rw [List.map_cons, List.map_cons] at e
    injection e with e1 e2
    cases r with
    | cons r1 r2 =>
      unfold atK at h
      by_cases z : q.1 = k
      · rw [if_pos z] at h
        cases h
        exact ⟨p.2, valV_pos (e1.trans z), r1⟩
      · rw [if_neg z] at h
        obtain ⟨v, h1, h2⟩ := valV_at e2 r2 h
        exact ⟨v, by rw [valV_neg (fun w => z (e1.symm.trans w))]; exact h1, h2⟩
/-- some[k] of an own dict -/
theorem we_getK {i : Nat} {x : Str} {k : Expr} {p1 p2 : Pos} {kvs : List (Key × D)} (hu : X.A.units + 1 < cLine) (hN : X.N[i]? = some x) (hv : Vis X.env.scope x) (h0 : Γ[i]? = some (some (.own (.dK kvs))))
    (h : WE X F k Γ fun kd Γ1 => Γ1[i]? = some (some (.own (.dK kvs))) ∧ ∃ (y : Str) (d : D), kd = .str y ∧ atK kvs (.inr y) = some d ∧ Φ d Γ1) (hs : NoSl k := by intro _ _; rfl)
    (hdt : (x == ("__debug__" : Str)) = false := by decide) (hcd : (x == ("__classdict__" : Str)) = false := by decide) : WE X F (.Subscript (.Name x p1) k p2) Γ Φ := by
  intro B τ H sh Q qw
  obtain ⟨v, eσ, p, o, rfl, _⟩ := sh.sl i _ h0
  refine wp_of (pe_dget hu (pe_var hN hv hdt hcd) pe_wp hs) ⟨.ref p, eσ, h B τ H sh _ fun y kd B1 Γ1 H1 w n r => ?_⟩
  obtain ⟨h1, y', d, rfl, ea, f⟩ := w
  cases r
  obtain ⟨v', eσ', p', o', rfl, hb, hh, nv, ho, ws, rfl, ek, er⟩ := n.st.sl i _ h1
  rw [eσ] at eσ'
  cases eσ'
  obtain ⟨u, hu1, ru⟩ := valV_at ek er ea
  exact ⟨p, u, rfl, by rw [← hu1]; exact DGet.k (k := .inr y') ho, qw u d B1 Γ1 H1 f n ru⟩
end
end L2.Px
end
section
open L2 L2.Px PySem PySem.Spec PyProof.Rows
local macro_rules | `(tactic| walk_at "vis") => `(tactic| first | exact .inl rfl | exact .inr (.inl rfl) | exact .inr (.inr rfl))
local macro_rules | `(tactic| walk_at "n") => `(tactic| first
  | refine we_name (i := 0) rfl (by walk_at "vis") rfl ?_
  | refine we_name (i := 1) rfl (by walk_at "vis") rfl ?_
  | refine we_name (i := 2) rfl (by walk_at "vis") rfl ?_
  | refine we_name (i := 3) rfl (by walk_at "vis") rfl ?_
  | refine we_name (i := 4) rfl (by walk_at "vis") rfl ?_
  | refine we_name (i := 5) rfl (by walk_at "vis") rfl ?_
  | refine we_name (i := 6) rfl (by walk_at "vis") rfl ?_
  | refine we_name (i := 7) rfl (by walk_at "vis") rfl ?_
  | refine we_name (i := 8) rfl (by walk_at "vis") rfl ?_
  | refine we_name (i := 9) rfl (by walk_at "vis") rfl ?_)
local macro_rules | `(tactic| walk_at "e1") => `(tactic| first
  | ((with_reducible show (if _ then _ else _)); first | refine itT ?_ | refine itF ?_)
  | ((with_reducible show WE _ _ (.Name _ _) _ _); walk_at "n")
  | ((with_reducible show WE _ _ (.Constant (.int _) _ _) _ _); refine we_int ?_)
  | ((with_reducible show WE _ _ (.Constant (.str _) _ _) _ _); refine we_str ?_)
  | ((with_reducible show WE _ _ (.Constant (.bool _) _ _) _ _); refine we_bl ?_)
  | ((with_reducible show WE _ _ (.Constant .none _ _) _ _); refine we_non ?_)
  | ((with_reducible show WA _ _ (_ :: _) _ _); refine wa_cons ?_)
  | ((with_reducible show WA _ _ [] _ _); refine wa_nil ?_)
  | ((with_reducible show WE _ _ (.BoolOp _ [_] _) _ _); refine we_one ?_)
  | ((with_reducible show WE _ _ (.BoolOp .And _ _) _ _); refine we_and ?_)
  | ((with_reducible show WE _ _ (.BoolOp .Or _ _) _ _); refine we_or ?_)
  | ((with_reducible show WE _ _ (.UnaryOp .Not _ _) _ _); refine we_not ?_)
  | ((with_reducible show WE _ _ (.IfExp _ _ _ _) _ _); refine we_ifExp ?_)
  | ((with_reducible show WE _ _ (.Tuple _ _ _) _ _); refine we_tup ?_)
  | ((with_reducible show WE _ _ (.List _ _) _ _); refine we_lst ?_)
  | ((with_reducible show WE _ _ (.BinOp _ .Add _ _) _ _); refine we_add ?_)
  | ((with_reducible show WE _ _ (.BinOp _ .Sub _ _) _ _); refine we_sub ?_)
  | ((with_reducible show WE _ _ (.BinOp _ .Mult _ _) _ _); refine we_mul ?_)
  | ((with_reducible show WE _ _ (.BinOp _ .Mod _ _) _ _); refine we_mod ?_)
  | ((with_reducible show WE _ _ (.BinOp _ .FloorDiv _ _) _ _); refine we_fdiv ?_)
  | ((with_reducible show WE _ _ (.BinOp _ .Pow _ _) _ _); refine we_pow ?_)
  | ((with_reducible show WT _ _ (.UnaryOp .Not _ _) _ _); refine wt_not ?_)
  | ((with_reducible show WT _ _ (.BoolOp .And _ _) _ _); refine wt_ww (ww_and ?_))
  | ((with_reducible show WT _ _ (.BoolOp .Or _ _) _ _); refine wt_ww (ww_or ?_))
  | ((with_reducible show WW _ _ (.BoolOp .And [_] _) _ _); refine ww_and1 ?_)
  | ((with_reducible show WW _ _ (.BoolOp .Or [_] _) _ _); refine ww_or1 ?_)
  | ((with_reducible show WW _ _ (.BoolOp .And _ _) _ _); refine ww_and ?_)
  | ((with_reducible show WW _ _ (.BoolOp .Or _ _) _ _); refine ww_or ?_)
  | ((with_reducible show WSs _ _ (_ :: _) _ _); refine ws_cons ?_)
  | ((with_reducible show WSs _ _ [] _ _); refine ws_nil ?_)
  | ((with_reducible show WS _ _ (.Return (some _) _) _ _); refine ws_ret ?_)
  | ((with_reducible show WS _ _ (.If _ _ _ _) _ _); refine ws_if ?_)
  | ((with_reducible show WT _ _ (.Call _ _ _ _) _ _); refine wt_val ?_)
  | ((with_reducible show WT _ _ (.Name _ _) _ _); refine wt_val ?_))
local macro_rules | `(tactic| walk_at "e") => `(tactic| repeat' walk_at "e1")
/-! own: enumerate over a tuple -/
namespace L2.Px
open PySem PySem.Spec
open PyProof.Rows
variable [Wld]
theorem meets_enumT {v : Value} {o : Obj} {H : Heap → Prop} (B : Begins v o H) :
    Meets (Builtin.«enumerate.__new__» ⟨[.type "enumerate", v], []⟩) (fun _ R sh => H sh.heap ∧
      R (.ok (.ret (.ref (sh.heap.push o).objs.size))) { sh with heap := (sh.heap.push o).push { cls := .type "enumerate", data := .fields #[.none, .bool false, .ref sh.heap.objs.size, rawInt 0, .none, .none] } }) :=
  .of_wp fun prog w A R sh h => by
    obtain ⟨hp, g, d, tk, os⟩ := sh; obtain ⟨ha1, h⟩ := h
    have hsub := sub_enumerate
    have q1 : ∀ {A' : Around} {E : Value → Shared → Prop} {Q : Value → Shared → Prop}, Q (.ref hp.objs.size) ⟨hp.push o, g, d, tk, os⟩ → wpAny (model prog w) A' (pyIter v) Q E ⟨hp, g, d, tk, os⟩ :=
      fun qw => B.iter prog w _ _ ⟨hp, g, d, tk, os⟩ _ ha1 qw
    wp_walk using q1
    refine wpAny_stack_any fun st => wpAny_pure ?_
    split
    · rename_i c _ _ _ _ _
      cases (c == Value.type "enumerate")
      · wp_walk using q1
        exact ⟨_, rfl, h⟩
      · wp_walk using q1
        exact ⟨_, rfl, h⟩
    · wp_walk using q1
      exact ⟨_, rfl, h⟩
theorem call_enumT {prog : Program} {w : World} {A : Around} {E : Value → Shared → Prop} {sh : Shared} {l : Addr} {items : Array Value} {Q : Value → Shared → Prop} (hL : sh.heap.IsTuple l items)
    (h : ∀ h', IsEnum h' (sh.heap.objs.size + 1) sh.heap.objs.size 0 .none → h'.IsTupleIter sh.heap.objs.size l 0 → h'.objs.size = sh.heap.objs.size + 2 →
      (∀ b o, sh.heap.get? b = some o → h'.get? b = some o) → Q (.ref (sh.heap.objs.size + 1)) { sh with heap := h' }) :
    wpAny (model prog w) A (call (.type "enumerate") [.ref l]) Q E sh := by
  refine callType_new F.called_enumerate (by decide) (F.typeCall_enumerate_1 _) (F.newCall_enumerate_1 _) (fun obj => F.args_object_init_2 obj _) F.entry_enumerate_new
    (meets_enumT (begins_tuple l items)) ⟨hL, ?_⟩
  have hzz : (sh.heap.push { cls := .type "tuple_iterator", data := .fields #[.ref l, .int 0 0] }).objs.size = sh.heap.objs.size + 1 := Heap.size_push ..
  show _ ∧ _
  rw [hzz]
  have hen : IsEnum ((sh.heap.push { cls := .type "tuple_iterator", data := .fields #[.ref l, .int 0 0] }).push
      { cls := .type "enumerate", data := .fields #[.none, .bool false, .ref sh.heap.objs.size, rawInt 0, .none, .none] }) (sh.heap.objs.size + 1) sh.heap.objs.size 0 .none := by
    have := Heap.get?_push_size (sh.heap.push { cls := .type "tuple_iterator", data := .fields #[.ref l, .int 0 0] })
      (o := { cls := .type "enumerate", data := .fields #[.none, .bool false, .ref sh.heap.objs.size, rawInt 0, .none, .none] }) rfl
    rw [hzz] at this; exact this
  refine ⟨⟨_, hen, rfl⟩, h _ hen ⟨_, Heap.get?_push_of_some _ (Heap.get?_push_size _ rfl), rfl, rfl⟩ (by rw [Heap.size_push, hzz]) fun b o x => Heap.get?_push_of_some _ (Heap.get?_push_of_some _ x)⟩
/-- each item of the tuple at a in a new pair -/
def IteT (K : PySem.W.Frag) (a : Addr) : It :=
  ⟨fun i H => ∃ (xs : List V) (x : V), SqT K H a xs ∧ xs[i]? = some x, fun i H v H' => ∃ T x, v = .ref T ∧ H T = none ∧ H' = upd H T (.tup [.int (i : Nat), x]) ∧ ∀ xs, SqT K H a xs → xs[i]? = some x, fun i H => ∃ xs : List V, SqT K H a xs ∧ xs.length ≤ i⟩
theorem apart {h : Heap} {a it : Addr} {i : Nat} {items : Array Value} (p : h.IsTuple a items) (qw : h.IsTupleIter it a i) : a ≠ it := fun zw => by
  obtain ⟨o, ha1, h2, _⟩ := p
  obtain ⟨o2, h3, h4, _⟩ := qw
  rw [zw, h3] at ha1
  cases ha1
  rw [h4] at h2
  exact absurd h2 (by decide)
theorem apart2 {h : Heap} {a e it : Addr} {i : Int} {old : Value} {items : Array Value} (p : h.IsTuple a items) (qw : IsEnum h e it i old) : a ≠ e := fun zw => by
  obtain ⟨o, ha1, h2, _⟩ := p
  have h3 : h.get? e = _ := qw
  rw [zw, h3] at ha1
  cases ha1
  exact absurd (show Value.type "enumerate" = Value.type "tuple" from h2) (by decide)
theorem turn_enumT {P : Program} {w : World} {K : PySem.W.Frag} {elts : List Expr} {kk : Nat} {tpos : Pos} (a e it : Addr) :
    Turn P w K (.Tuple elts kk tpos) (IteT K a) [e, it] e (fun i h => (∃ old, IsEnum h e it ((i : Nat) : Int) old) ∧ h.IsTupleIter it a i ∧ e ≠ it) where
  mem := by simp
  obj := fun i h st b hb => by
    obtain ⟨⟨old, hen⟩, ⟨o, hob, hc, hdt⟩, _⟩ := st
    have en : b = e ∨ b = it := by simpa using hb
    rcases en with zw | zw
    · rw [zw]; exact ⟨_, hen, fun v qw => nomatch qw⟩
    · rw [zw]; exact ⟨o, hob, fun v qw => by rw [hdt] at qw; cases qw⟩
  keep := fun i h h' st k => let ⟨⟨old, hen⟩, hi, hne⟩ := st; ⟨⟨old, k e (by simp) _ hen⟩, hi.at fun o qw => k it (by simp) o qw, hne⟩
  item := by
    intro X hP hw hK hc i pq sh τ H E I hf st hg
    subst hP hw hK
    obtain ⟨⟨old, hen⟩, hit, hne⟩ := st
    obtain ⟨xs, x, hq, hxw⟩ := hg
    obtain ⟨its, rv, p, hzz⟩ := I.tuple hq
    obtain ⟨u, hu, ru⟩ := rv.get hxw
    have hlw := rv.length
    have hel : e < sh.heap.objs.size := Heap.lt_size hen
    have hil : it < sh.heap.objs.size := by obtain ⟨_, qw, _⟩ := hit; exact Heap.lt_size qw
    have hai : a ≠ it := apart p hit
    have hae : e ≠ a := fun zw => apart2 p hen zw.symm
    have hh : X.A.in1.handled = none := I.ok.hd hc
    have D := Draws.tuple (prog := X.prog) (w := X.w) (A := X.A.in1) hh it a hai its.toArray
    have hlt : i < its.toArray.size := by
      obtain ⟨hi, _⟩ := List.getElem?_eq_some_iff.mp hxw
      simp only [List.size_toArray]
      omega
    refine wpAny_pyNext_enum_itemD D hen ⟨hit, p⟩ hlt hne (by simp [hne, hae]) fun x' h' tk hx' hob hst hT hsz hkw2 => ?_
    obtain rfl : u = x' := by
      have qw : its.toArray[i]? = some u := by simpa using hu
      rw [qw] at hx'
      exact Option.some.inj hx'
    obtain ⟨hit', _⟩ := hst
    refine ⟨_, rfl, wpAny_letOwnedTupleGo_enum (s := { sh with heap := h', toks := tk + 1 }) hob fun h'' he' sb => ?_⟩
    have hT2 : h''.get? sh.heap.objs.size = some { cls := .type "tuple", data := .seq #[.int i tk, u] } := (sb.2 _ (Nat.ne_of_gt hel)).trans hT
    have new : ObjOk X.prog X.w (upd H sh.heap.objs.size (.tup [.int (i : Nat), x])) h'' sh.heap.objs.size (.tup [.int (i : Nat), x]) :=
      ⟨by show 2 ≤ sizeLine; decide, [.int i tk, u], .cons ⟨_, rfl⟩ (.cons ru .nil), ⟨_, hT2, rfl, _, rfl⟩⟩
    have I1 : Inv X pq τ (upd H sh.heap.objs.size (.tup [.int (i : Nat), x])) { sh with heap := h'', toks := tk + 1 } :=
      I.turnedNew (ch := [e, it]) (fun b ob hb qw => (sb.2 b (fun zw => hb (by simp [zw]))).trans (hkw2 b ob (fun zw => hb (by simp [zw])) (fun zw => hb (by simp [zw])) qw)) hf (Nat.le_refl _) new
    refine ⟨.ref sh.heap.objs.size, _, I1, rfl, ⟨_, x, rfl, I.hok.fresh (Nat.le_refl _), rfl, fun ys hyw => by rw [I.tuple_inj hyw hq]; exact hxw⟩, ⟨⟨u, ?_⟩, hit'.at fun o qw => (sb.2 it (Ne.symm hne)).trans qw, hne⟩, fun b hb => ?_⟩
    · have ea1 : ((i + 1 : Nat) : Int) = (i : Int) + 1 := by omega
      rw [ea1]; exact he'
    · have hb' : b < sh.heap.objs.size := by
        have en : b = e ∨ b = it := by simpa using hb
        rcases en with zw | zw
        · rw [zw]; exact hel
        · rw [zw]; exact hil
      rw [upd_ne (Nat.ne_of_lt hb')]
      exact (hf b hb).1
  done := by
    intro X hP hw hK hc i pq sh τ H E I hf st hg
    subst hP hw hK
    obtain ⟨⟨old, hen⟩, hit, hne⟩ := st
    obtain ⟨xs, hq, hxw⟩ := hg
    obtain ⟨its, rv, p, hzz⟩ := I.tuple hq
    obtain ⟨f0, f1, f2, f3, f4, f5⟩ := hf it (by simp)
    have hlw := rv.length
    have hai : a ≠ it := apart p hit
    have hh : X.A.in1.handled = none := I.ok.hd hc
    have D2 : Draws X.prog X.w X.A.in1 it [it, a] i (fun i v => True) (fun j h => j = i ∧ h.IsTupleIter it a j ∧ h.IsTuple a its.toArray) :=
      ⟨fun j h st => let ⟨_, ⟨o, qw, _⟩, _⟩ := st; ⟨o, qw⟩, fun j h h' st k => ⟨st.1, st.2.1.at fun o qw => k it (by simp) o qw, st.2.2.at fun o qw => k a (by simp) o qw⟩,
       fun j sh Q E hjw st hQ => by
         have qw := st.1
         omega,
       fun sh Q E st hE => wpAny_nextOf_tuple_end hh st.2.1 st.2.2 (by simp; omega) hE⟩
    exact wpAny_pyNext_enum_endD D2 hen ⟨rfl, hit, p⟩ fun h' eb => ⟨rfl, I.turned (t' := sh.toks) (fun b o hb qw => eb b o hb qw) f0 f1 f3 f4 f5⟩
  self := fun A i sh Q E st h => let ⟨⟨_, hen⟩, _⟩ := st; wpAny_pyIter_enum hen h
/-- the pairs of enumerate -/
def D.pairs (ds : List D) : List D := ds.mapIdx fun i d => .tup [.int (i : Nat), d]
theorem itd_enumT {K : PySem.W.Frag} {c : Cfg} {B : Hp} {a : Addr} {vs : List V} {ds : List D} (h : SqT K B a vs) (r : RpA K B vs ds) : ItD K c B (IteT K a) (D.pairs ds) := by
  intro F _ _ Γ B' τ H sh e i
  have hq : SqT K H a vs := ex_t (fun b o zw => (sh.bH b o zw).1) (ex_t e h)
  have hlen : (D.pairs ds).length = ds.length := by unfold D.pairs; rw [List.length_mapIdx]
  rw [hlen]
  refine ⟨fun hi => ?_, fun hi => ⟨vs, hq, by rw [r.len]; exact hi⟩, fun _ x H' y => ?_⟩
  · obtain ⟨v, evw, _⟩ := r.get (List.getElem?_eq_getElem hi)
    exact ⟨vs, v, hq, evw⟩
  · obtain ⟨T, u, rfl, hn, rfl, y⟩ := y
    obtain ⟨d, ed, rd⟩ := r.getV (y vs hq)
    have n2 := sh.frozen (o := .tup [.int (i : Nat), u]) hn
    refine ⟨.tup [.int (i : Nat), d], _, ?_, n2, .tup (.inl upd_same) (RpA.mono n2.ex _ _ (.cons (.int _) (.cons (Rp.mono e _ _ rd) .nil)))⟩
    unfold D.pairs
    rw [List.getElem?_mapIdx, ed]
    rfl
def iEnumT (K : PySem.W.Frag) (te : TE) : TI := fun τ H R => te τ H fun v H1 => ∃ a xs, v = .ref a ∧ SqT K H1 a xs ∧ R (IteT K a) H1
theorem pi_enumT {X : Cx} {e : Expr} {te : TE} {p pos tpos : Pos} {elts : List Expr} {kk : Nat} (hg : Gl X "enumerate") (hmw : X.mg "enumerate" = none) (hen : PE X e te) (hsa : starEach [e] X.env = (false, eval e X.env) :: starEach [] X.env := by rfl) :
    PI X (.Tuple elts kk tpos) (.Call (.Name "enumerate" p) [e] [] pos) (iEnumT X.K te) := by
  refine ⟨fun pq sh τ H R I h => ?_⟩
  refine Call_ (ld_blt I hg hmw boot_enumerate (PyProof.Rows.callWith_type1 (args_cons (thn (hen.run pq sh τ H _ I h) fun u s1 ⟨v, H1, I1, r1, q1⟩ => args_nil ?_) hsa) hsa rfl))
  obtain ⟨a, xs, evw, hq, qw⟩ := q1
  subst evw
  obtain rfl : u = Value.ref a := r1
  obtain ⟨its, rv, p', hzz⟩ := I1.tuple hq
  refine call_enumT p' fun h' hen hit hsz hkw2 => wpAny_pyIter_enum hen ?_
  have I2 : Inv X pq τ H1 { s1 with heap := h' } := I1.kept (t' := s1.toks) hkw2
  refine ⟨s1.heap.objs.size + 1, [s1.heap.objs.size + 1, s1.heap.objs.size], _, _, H1, rfl, I2, turn_enumT a (s1.heap.objs.size + 1) s1.heap.objs.size, ⟨⟨.none, hen⟩, hit, Nat.succ_ne_self _⟩, fun b hb => ?_, qw⟩
  have en : b = s1.heap.objs.size + 1 ∨ b = s1.heap.objs.size := by simpa using hb
  have hlew : s1.heap.objs.size ≤ b := by
    rcases en with zw | zw
    · rw [zw]; exact Nat.le_add_right _ _
    · rw [zw]; exact Nat.le_refl _
  exact I1.fpOk hlew (I1.hok.fresh hlew)
theorem wi_enumT {X : Cx} {F : Fm} {Γ : Gam} [F.c.Ok] {e : Expr} {p pos tpos : Pos} {elts : List Expr} {kk : Nat} {Φ : List D → Gam → Prop} (hg : Gl X "enumerate") (hmw : X.mg "enumerate" = none) (h : WE X F e Γ fun d Γ1 => ∃ ds, d = .tup ds ∧ Φ (D.pairs ds) Γ1)
    (hsa : starEach [e] X.env = (false, eval e X.env) :: starEach [] X.env := by rfl) : WI X F (.Tuple elts kk tpos) (.Call (.Name "enumerate" p) [e] [] pos) Γ Φ := by
  intro B τ H sh R qw
  refine wpi_of (pi_enumT hg hmw pe_wp hsa) (h B τ H sh _ fun v d B1 Γ1 H1 p n r => ?_)
  obtain ⟨ds, rfl, p⟩ := p
  cases r with
  | tup hsa ha => exact ⟨_, _, rfl, .inl (n.st.rd hsa), qw _ _ B1 Γ1 H1 p n (itd_enumT (.inl hsa) ha)⟩
end L2.Px

namespace L2.Px
open PySem PySem.Spec
open PyProof.Rows
variable [Wld]
def topB : List Stmt := PySem.Challenge.pw_whatstays_k01_whole_groups.main.body
def top (i : Nat) : Stmt := topB.getD i (.Pass ⟨0, 0, 0, 0⟩)
/-- what of the built-ins the module leaves -/
structure Tx (mg : Str → Option Value) : Prop where
  isinstance : mg "isinstance" = none
  int : mg "int" = none
  bool : mg "bool" = none
  tuple : mg "tuple" = none
  list : mg "list" = none
  dict : mg "dict" = none
  all : mg "all" = none
  sorted : mg "sorted" = none
  range : mg "range" = none
  len : mg "len" = none
  abs : mg "abs" = none
  min : mg "min" = none
  enumerate : mg "enumerate" = none


section
variable {P : Program} {w : World} {K : PySem.W.Frag} {mg : Str → Option Value} {base : Heap}
abbrev sIsNumber : Stmt := top 8
def D.isNum : D → Bool
  | .int _ => true
  | _ => false
def spIsNumber : DS := ⟨fun ds k => ∃ d, ds = [d] ∧ d.plainTy = true ∧ k (.ret (.bl d.isNum)), fun _ _ _ i ⟨d, e, p, h⟩ => ⟨d, e, p, i _ h⟩⟩
theorem sc_is_number : FnScope ["thing"] ["thing"] (defScope sIsNumber) := ⟨rfl, rfl, rfl, by decide +kernel, rfl, by decide +kernel, by decide +kernel⟩
theorem num_of (d : D) : (if d.isInt = true then !d.isBl else false) = d.isNum := by cases d <;> rfl
theorem ok_is_number {f : Addr} {fd : FuncData} (Fn : Fun K "is_number" "is_number" sIsNumber f fd) (T : Tx mg) : FnOk P w K mg base (L2.CX P w) 1 f fd ["thing"] (SpD K c0 1 spIsNumber) := by
  refine defn (k := 0) (ps := ["thing"]) Fn sc_is_number fun cdv A outer sh H E hr H0 B0 ds Φ hlw h R => ?_
  obtain ⟨d, rfl, p, h⟩ := h
  rw [← num_of d] at h
  refine ws_cons ?_
  walk_at "e"
  refine we_callB cr_isiX rfl T.isinstance bb_isinstance ?_
  walk_at "e"
  refine we_ty rfl T.int bb_int ?_
  walk_at "e"
  refine cd_isi p (kit_in p) ⟨d.isInt, rfl, ?_⟩
  cases e : d.isInt with
  | false =>
    rw [e] at h
    exact h
  | true =>
    rw [e] at h
    walk_at "e"
    refine we_callB cr_isiX rfl T.isinstance bb_isinstance ?_
    walk_at "e"
    refine we_ty rfl T.bool bb_bool ?_
    walk_at "e"
    exact cd_isi p (kit_bl p) ⟨d.isBl, rfl, h⟩
/-! ### are_each_once -/
def D.toI : D → Int
  | .int i => i
  | _ => 0
def leB (a b : Int) : Bool := decide (a ≤ b)
def eachI (ns : List Int) : Bool := decide (ns.mergeSort leB = (List.range ns.length).map fun i : Nat => (i : Int))
def D.each : D → Bool
  | .tup xs => xs.all D.isNum && eachI (xs.map D.toI)
  | _ => false
theorem ints_of : ∀ {xs : List D}, xs.all D.isNum = true → xs = D.ints (xs.map D.toI)
  | [], _ => rfl
  | x :: xs, h => by
    have qw : x.isNum = true ∧ xs.all D.isNum = true := by simpa using h
    have e := ints_of qw.2
    cases x with
    | int i =>
      show D.int i :: xs = D.int i :: D.ints (xs.map D.toI)
      rw [← e]
    | _ => exact absurd qw.1 (fun zw => nomatch zw)
/-- what may be asked about -/
def D.okT (d : D) : Prop := d.plainTy = true ∧ ∀ xs, d = .tup xs → xs.length ≤ 1000 ∧ ∀ x ∈ xs, x.plainTy = true
def spEach : DS := ⟨fun ds k => ∃ d, ds = [d] ∧ d.okT ∧ k (.ret (.bl d.each)), fun _ _ _ i ⟨d, e, p, h⟩ => ⟨d, e, p, i _ h⟩⟩
abbrev sEach : Stmt := top 9
theorem sc_each : FnScope ["thing", "item"] ["thing"] (defScope sEach) := ⟨rfl, rfl, rfl, by decide +kernel, rfl, by decide +kernel, by decide +kernel⟩
theorem ok_each {f : Addr} {fd : FuncData} (Fn : Fun K "are_each_once" "are_each_once" sEach f fd) (T : Tx mg) (g1 : Gd P w K mg base "is_number" 1 c0 ["thing"] spIsNumber) : FnOk P w K mg base (L2.CX P w) 2 f fd ["thing"] (SpD K c0 1 spEach) := by
  refine defn (k := 1) (ps := ["thing"]) Fn sc_each fun cdv A outer sh H E hr H0 B0 ds Φ hlw h R => ?_
  obtain ⟨d, rfl, ⟨p, pt⟩, h⟩ := h
  refine ws_cons ?_
  walk_at "e"
  refine we_callB cr_isiX rfl T.isinstance bb_isinstance ?_
  walk_at "e"
  refine we_ty rfl T.tuple bb_tuple ?_
  walk_at "e"
  refine cd_isi p (kit_tup p) ⟨d.isTup, rfl, ?_⟩
  cases d with
  | tup xs =>
    obtain ⟨hlen, hxw⟩ := pt xs rfl
    walk_at "e"
    refine we_callB (cr_all rfl) rfl T.all bb_all ?_
    walk_at "e"
    refine we_newL (wn_map (i := 1) (fun x => .bl x.isNum) rfl sc_each.nd (blkOk_by (N := ["thing", "item"]) (sc := defScope sEach) (by decide +kernel)) rfl (.inl rfl) (show 1 < 2 by decide) (wi_tup ?_))
    walk_at "e"
    refine ⟨xs, rfl, (fun od zw => nomatch zw), Nat.le_trans hlen (by decide), rfl, fun j x hjw s1 H1 C1 cl1 fp1 => ?_, ?_⟩
    · refine we_call rs_blk (g1.dfn hr (by decide)) rfl ?_
      walk_at "e"
      exact ⟨rfl, x, rfl, hxw x (List.mem_of_getElem? hjw), rfl, rfl⟩
    · refine ⟨_, rfl, wa_nil ?_⟩
      have ea1 : xs.map (fun x => D.bl x.isNum) = (xs.map D.isNum).map D.bl := by rw [List.map_map]; rfl
      rw [ea1]
      refine cd_all ⟨_, rfl, ?_⟩
      have e2 : (xs.map D.isNum).all id = xs.all D.isNum := by rw [List.all_map]; rfl
      rw [e2]
      cases e : xs.all D.isNum with
      | false =>
        walk_at "e"
        have e3 : D.each (.tup xs) = false := by show (xs.all D.isNum && _) = false; rw [e]; rfl
        rw [e3] at h
        exact h
      | true =>
        walk_at "e"
        obtain ⟨ns, rfl⟩ : ∃ ns, xs = D.ints ns := ⟨_, ints_of e⟩
        refine we_cmp (op_eqX hr) ?_ (nomark _)
        refine we_callB (cr_sortD hr) rfl T.sorted bb_sorted ?_
        walk_at "e"
        have hl2 : ns.length ≤ 1000 := by
          have qw := hlen
          unfold D.ints at qw
          rw [List.length_map] at qw
          exact qw
        refine cd_sorted (.inr rfl) (srt_ok_ints ns (Nat.le_trans hl2 (by decide))) ?_
        refine we_listRg rfl rfl T.list rfl T.range ?_
        refine we_callB cr_lenX rfl T.len bb_len ?_
        walk_at "e"
        refine cd_len (.inr rfl) ⟨(D.ints ns).length, rfl, by rw [show (D.ints ns).length = ns.length from by unfold D.ints; rw [List.length_map]]; omega, ?_⟩
        rw [srt_ints, rng_ints]
        refine od_eq (ints_fl _ _) (ints_fl _ _) ?_
        rw [eq_lints]
        have e3 : D.each (.tup (D.ints ns)) = decide (ns.mergeSort (fun a b => decide (a ≤ b)) = (List.range (D.ints ns).length).map fun i : Nat => (i : Int)) := by
          show ((D.ints ns).all D.isNum && eachI ((D.ints ns).map D.toI)) = _
          rw [e, Bool.true_and]
          have q1 : (D.ints ns).map D.toI = ns := by
            unfold D.ints
            rw [List.map_map]
            exact List.map_id ns
          have q2 : (D.ints ns).length = ns.length := by unfold D.ints; rw [List.length_map]
          rw [q1, q2]
          rfl
        rw [e3] at h
        exact h
  | _ =>
    walk_at "e"
    exact h
end
end L2.Px

namespace L2.Px
open PySem PySem.Spec
open PyProof.Rows
variable [Wld]


/-- where the errors' classes stand -/
structure Ad where
  group : Addr
  members : Addr
  places : Addr
  many : Addr
  stay : Addr
structure Er (K : PySem.W.Frag) (mg : Str → Option Value) (ad : Ad) : Prop where
  group : KExn K mg "BadGroup" ad.group
  members : KExn K mg "BadMembers" ad.members
  places : KExn K mg "BadPlaces" ad.places
section
variable {P : Program} {w : World} {K : PySem.W.Frag} {mg : Str → Option Value} {base : Heap}
/-! ### is_member_of, is_any_member -/
def D.len : D → Nat
  | .tup xs => xs.length
  | _ => 0
def D.memb (n : Int) (d : D) : Bool := d.each && decide ((d.len : Int) = n)
def D.any5 (d : D) : Bool := d.each && (decide (1 ≤ (d.len : Int)) && decide ((d.len : Int) ≤ 5))
theorem each_tup {d : D} (h : d.each = true) : ∃ xs, d = .tup xs := by
  cases d with
  | tup xs => exact ⟨xs, rfl⟩
  | _ => exact absurd h (fun zw => nomatch zw)
def spIsMemberOf : DS := ⟨fun ds k => ∃ (n : Int) (d : D), ds = [.int n, d] ∧ d.okT ∧ k (.ret (.bl (d.memb n))), fun _ _ _ i ⟨n, d, e, p, h⟩ => ⟨n, d, e, p, i _ h⟩⟩
abbrev sIsMemberOf : Stmt := top 10
theorem sc_is_member_of : FnScope ["places", "thing"] ["places", "thing"] (defScope sIsMemberOf) := ⟨rfl, rfl, rfl, by decide +kernel, rfl, by decide +kernel, by decide +kernel⟩
theorem ok_is_member_of {f : Addr} {fd : FuncData} (Fn : Fun K "is_member_of" "is_member_of" sIsMemberOf f fd) (T : Tx mg) (g1 : Gd P w K mg base "are_each_once" 2 c0 ["thing"] spEach) : FnOk P w K mg base (L2.CX P w) 3 f fd ["places", "thing"] (SpD K c0 2 spIsMemberOf) := by
  refine defn (k := 2) (ps := ["places", "thing"]) Fn sc_is_member_of fun cdv A outer sh H E hr H0 B0 ds Φ hlw h R => ?_
  obtain ⟨n, d, rfl, p, h⟩ := h
  refine ws_cons ?_
  walk_at "e"
  refine we_call R (g1.dfn hr (by decide)) rfl ?_
  walk_at "e"
  refine ⟨rfl, d, rfl, p, _, rfl, ?_⟩
  cases e : d.each with
  | false =>
    walk_at "e"
    have e2 : d.memb n = false := by show (d.each && _) = false; rw [e]; rfl
    rw [e2] at h
    exact h
  | true =>
    obtain ⟨xs, rfl⟩ := each_tup e
    walk_at "e"
    refine we_cmp (op_eqX hr) ?_ (nomark _)
    refine we_callB cr_lenX rfl T.len bb_len ?_
    walk_at "e"
    refine cd_len (.inr rfl) ?_
    walk_at "e"
    refine od_eq rfl rfl ?_
    rw [eq_int]
    have e2 : (D.tup xs).memb n = decide ((xs.length : Int) = n) := by show ((D.tup xs).each && _) = _; rw [e]; rfl
    rw [e2] at h
    exact h
def spIsAny : DS := ⟨fun ds k => ∃ (d : D), ds = [d] ∧ d.okT ∧ k (.ret (.bl d.any5)), fun _ _ _ i ⟨d, e, p, h⟩ => ⟨d, e, p, i _ h⟩⟩
abbrev sIsAny : Stmt := top 11
theorem sc_is_any : FnScope ["thing"] ["thing"] (defScope sIsAny) := ⟨rfl, rfl, rfl, by decide +kernel, rfl, by decide +kernel, by decide +kernel⟩
theorem ok_is_any {f : Addr} {fd : FuncData} (Fn : Fun K "is_any_member" "is_any_member" sIsAny f fd) (T : Tx mg) (m5 : ∃ t, mg "MOST_PLACES" = some (.int 5 t)) (g1 : Gd P w K mg base "are_each_once" 2 c0 ["thing"] spEach) : FnOk P w K mg base (L2.CX P w) 3 f fd ["thing"] (SpD K c0 1 spIsAny) := by
  refine defn (k := 2) (ps := ["thing"]) Fn sc_is_any fun cdv A outer sh H E hr H0 B0 ds Φ hlw h R => ?_
  obtain ⟨d, rfl, p, h⟩ := h
  obtain ⟨t5, m5⟩ := m5
  refine ws_cons ?_
  walk_at "e"
  refine we_call R (g1.dfn hr (by decide)) rfl ?_
  walk_at "e"
  refine ⟨rfl, d, rfl, p, _, rfl, ?_⟩
  cases e : d.each with
  | false =>
    walk_at "e"
    have e2 : d.any5 = false := by show (d.each && _) = false; rw [e]; rfl
    rw [e2] at h
    exact h
  | true =>
    obtain ⟨xs, rfl⟩ := each_tup e
    walk_at "e"
    refine we_chain op_le op_le ?_
    walk_at "e"
    refine we_callB cr_lenX rfl T.len bb_len ?_
    walk_at "e"
    refine cd_len (.inr rfl) ?_
    refine od_le ⟨_, rfl, ?_⟩
    have e2 : (D.tup xs).any5 = (decide (1 ≤ (xs.length : Int)) && decide ((xs.length : Int) ≤ 5)) := by show ((D.tup xs).each && _) = _; rw [e]; rfl
    rw [e2] at h
    cases e3 : decide (1 ≤ (xs.length : Int)) with
    | false =>
      rw [e3] at h
      walk_at "e"
      exact h
    | true =>
      rw [e3] at h
      walk_at "e"
      refine we_globI rfl m5 ?_
      exact od_le h
/-! ### need_places, need_one -/
def D.okPl : D → Bool
  | .int n => decide (1 ≤ n) && decide (n ≤ 5)
  | _ => false
def spNeedPlaces (ad : Ad) : DS := ⟨fun ds k => ∃ (d : D), ds = [d] ∧ d.plainTy = true ∧ k (if d.okPl = true then .ret .non else .exc ad.places), fun _ _ _ i ⟨d, e, p, h⟩ => ⟨d, e, p, i _ h⟩⟩
abbrev sNeedPlaces : Stmt := top 12
theorem sc_need_places : FnScope ["places"] ["places"] (defScope sNeedPlaces) := ⟨rfl, rfl, rfl, by decide +kernel, rfl, by decide +kernel, by decide +kernel⟩
theorem ok_need_places {ad : Ad} {f : Addr} {fd : FuncData} (Fn : Fun K "need_places" "need_places" sNeedPlaces f fd) (Z : Er K mg ad) (m5 : ∃ t, mg "MOST_PLACES" = some (.int 5 t)) (g1 : Gd P w K mg base "is_number" 1 c0 ["thing"] spIsNumber) : FnOk P w K mg base (L2.CX P w) 2 f fd ["places"] (SpD K c0 1 (spNeedPlaces ad)) := by
  refine defn (k := 1) (ps := ["places"]) Fn sc_need_places fun cdv A outer sh H E hr H0 B0 ds Φ hlw h R => ?_
  obtain ⟨d, rfl, p, h⟩ := h
  obtain ⟨t5, m5⟩ := m5
  refine ws_cons ?_
  walk_at "e"
  refine we_call R (g1.dfn hr (by decide)) rfl ?_
  walk_at "e"
  refine ⟨rfl, d, rfl, p, _, rfl, ?_⟩
  cases d with
  | int n =>
    walk_at "e"
    refine wt_chain op_le op_le ?_
    walk_at "e"
    refine od_le ⟨_, rfl, ?_⟩
    have e2 : (D.int n).okPl = (decide (1 ≤ n) && decide (n ≤ 5)) := rfl
    rw [e2] at h
    cases e3 : decide (1 ≤ n) with
    | false =>
      rw [e3] at h
      walk_at "e"
      exact ws_raise rfl R Z.places.exn rfl h
    | true =>
      rw [e3] at h
      walk_at "e"
      refine we_globI rfl m5 ?_
      refine od_le ⟨_, rfl, ?_⟩
      cases e4 : decide (n ≤ 5) with
      | false =>
        rw [e4] at h
        walk_at "e"
        exact ws_raise rfl R Z.places.exn rfl h
      | true =>
        rw [e4] at h
        walk_at "e"
        exact h
  | _ =>
    walk_at "e"
    exact ws_raise rfl R Z.places.exn rfl h
/-! ### unit_by, then_by -/
omit [Wld] in
def unitI (n : Nat) : List Int := (List.range n).map fun i : Nat => (i : Int)
def spUnitBy : DS := ⟨fun ds k => ∃ (n : Nat), ds = [.int n] ∧ n ≤ 1000 ∧ k (.ret (.tup (D.ints (unitI n)))), fun _ _ _ i ⟨d, e, p, h⟩ => ⟨d, e, p, i _ h⟩⟩
abbrev sUnitBy : Stmt := top 13
theorem sc_unit_by : FnScope ["places"] ["places"] (defScope sUnitBy) := ⟨rfl, rfl, rfl, by decide +kernel, rfl, by decide +kernel, by decide +kernel⟩
theorem ok_unit_by {f : Addr} {fd : FuncData} (Fn : Fun K "unit_by" "unit_by" sUnitBy f fd) (T : Tx mg) : FnOk P w K mg base (L2.CX P w) 1 f fd ["places"] (SpD K c0 1 spUnitBy) := by
  refine defn (k := 0) (ps := ["places"]) Fn sc_unit_by fun cdv A outer sh H E hr H0 B0 ds Φ hlw h R => ?_
  obtain ⟨n, rfl, p, h⟩ := h
  refine ws_cons ?_
  walk_at "e"
  refine we_tupRg rfl rfl T.tuple rfl T.range ?_
  walk_at "e"
  refine ⟨n, rfl, Nat.le_trans p (by decide), ?_⟩
  rw [rng_ints]
  exact h
omit [Wld] in
def thenI (a b : List Int) : List Int := a.map fun i => b.getD i.toNat 0
/-- all spots lie in a list of n -/
def Ins (n : Nat) (a : List Int) : Prop := ∀ i ∈ a, 0 ≤ i ∧ i < n
def spThenBy : DS := ⟨fun ds k => ∃ (a b : List Int), ds = [.tup (D.ints a), .tup (D.ints b)] ∧ a.length ≤ 1000 ∧ Ins b.length a ∧ k (.ret (.tup (D.ints (thenI a b)))), fun _ _ _ i ⟨a, b, e, p, qw, h⟩ => ⟨a, b, e, p, qw, i _ h⟩⟩
theorem ints_len (a : List Int) : (D.ints a).length = a.length := by unfold D.ints; rw [List.length_map]
theorem ints_get {a : List Int} {j : Nat} {d : D} (h : (D.ints a)[j]? = some d) : ∃ i, a[j]? = some i ∧ d = .int i := by
  unfold D.ints at h
  rw [List.getElem?_map] at h
  cases e : a[j]? with
  | none =>
    rw [e] at h
    cases h
  | some i =>
    rw [e] at h
    exact ⟨i, rfl, (Option.some.inj h).symm⟩
theorem at_ints {b : List Int} {i : Int} (h0 : 0 ≤ i) (ha1 : i < b.length) : L2.atI (D.ints b) i = some (.int (b.getD i.toNat 0)) := by
  unfold L2.atI ixN
  rw [ints_len, if_pos h0, if_pos ha1]
  show (D.ints b)[i.toNat]? = _
  have hlw : i.toNat < b.length := by omega
  unfold D.ints
  rw [List.getElem?_map, List.getElem?_eq_getElem hlw, List.getD_eq_getElem?_getD, List.getElem?_eq_getElem hlw]
  rfl
abbrev sThenBy : Stmt := top 14
theorem sc_then_by : FnScope ["one", "other", "spot"] ["one", "other"] (defScope sThenBy) := ⟨rfl, rfl, rfl, by decide +kernel, rfl, by decide +kernel, by decide +kernel⟩
theorem ok_then_by {f : Addr} {fd : FuncData} (Fn : Fun K "then_by" "then_by" sThenBy f fd) (T : Tx mg) : FnOk P w K mg base (L2.CX P w) 1 f fd ["one", "other"] (SpD K c0 2 spThenBy) := by
  refine defn (k := 0) (ps := ["one", "other"]) Fn sc_then_by fun cdv A outer sh H E hr H0 B0 ds Φ hlw h R => ?_
  obtain ⟨a, b, rfl, p, hin, h⟩ := h
  refine ws_cons ?_
  walk_at "e"
  refine we_callTy cr_tupX rfl T.tuple bb_tuple ?_
  walk_at "e"
  refine we_newL (wn_map (i := 2) (fun x => .int (b.getD x.toI.toNat 0)) rfl sc_then_by.nd (blkOk_by (N := ["one", "other", "spot"]) (sc := defScope sThenBy) (by decide +kernel)) rfl (.inl rfl) (show 2 < 3 by decide) (wi_tup ?_))
  walk_at "e"
  refine ⟨_, rfl, (fun od zw => nomatch zw), by rw [ints_len]; exact Nat.le_trans p (by decide), rfl, fun j x hjw s1 H1 C1 cl1 fp1 => ?_, ?_⟩
  · obtain ⟨i, hi, rfl⟩ := ints_get hjw
    have qw := hin i (List.mem_of_getElem? hi)
    refine we_ix ?_
    walk_at "e"
    exact od_ix (.inr rfl) (at_ints qw.1 qw.2) ⟨rfl, rfl⟩
  · refine ⟨_, rfl, wa_nil ?_⟩
    have e : (D.ints a).map (fun x => D.int (b.getD x.toI.toNat 0)) = D.ints (thenI a b) := by
      unfold D.ints thenI
      rw [List.map_map, List.map_map]
      rfl
    rw [e]
    exact cd_tuple (.inl rfl) h
end
end L2.Px

namespace L2.Px
open PySem PySem.Spec
open PyProof.Rows
variable [Wld]


section
variable {X : Cx} {F : Fm} {Γ : Gam}
theorem wg_mono {tg : Expr} {vs vs' : List Nat} {d : D} {Φ : Gam → Prop} (h : WG X F tg vs d Γ Φ) (hsa : ∀ j ∈ vs, j ∈ vs') : WG X F tg vs' d Γ Φ := by
  intro B τ H v sh r Q qw
  refine h B τ H v sh r Q fun B' Γ' σ' H' p t => qw B' Γ' σ' H' p ?_
  exact ⟨t.st, t.ex, t.kp, t.ow, t.al, t.nb, t.ln, fun j hjw => t.sm j fun zw => hjw (hsa j zw)⟩
end
/-- two names -/
theorem wg_two {X : Cx} {F : Fm} {Γ : Gam} {i j : Nat} {x y : Str} {px py pos : Pos} {k : Nat} {d e : D} {Φ : Gam → Prop} (hc : X.calm = true) (hN : X.N.Nodup) (hi : X.N[i]? = some x) (hjw : X.N[j]? = some y) (hxw : Loc X.env.scope x) (hyw : Loc X.env.scope y)
    (hli : i < Γ.length) (hlj : j < Γ.length) (h : Φ ((Γ.set i (some (.val d))).set j (some (.val e))))
    (hf : X.fn x = true ∨ X.env.scope.names.lookup x = some .local := by first | exact .inl rfl | exact .inr rfl | assumption)
    (hg : X.fn y = true ∨ X.env.scope.names.lookup y = some .local := by first | exact .inl rfl | exact .inr rfl | assumption) :
    WG X F (.Tuple [.Name x px, .Name y py] k pos) [i, j] (.tup [d, e]) Γ Φ := by
  refine wg_tup hc ?_ rfl (fun n t ts e => ?_)
  · show WG X F _ _ _ _ _
    refine wg_mono (wg_name hN hi hxw hli ?_ hf) (fun a b => by simp at b; simp [b])
    show WG X F _ _ _ _ _
    exact wg_mono (wg_name hN hjw hyw (by rw [List.length_set]; exact hlj) h hg) (fun a b => by simp at b; simp [b])
  · match n, e with
    | 0, e =>
      cases e
      rfl
    | 1, e =>
      cases e
      rfl
    | n + 2, e => simp at e
section
variable {P : Program} {w : World} {K : PySem.W.Frag} {mg : Str → Option Value} {base : Heap}
/-! ### back_by -/
omit [Wld] in
def bkI : Nat → List Int → List Int → List Int
  | _, [], f => f
  | i, x :: r, f => bkI (i + 1) r (f.set x.toNat i)
omit [Wld] in
def backI (a : List Int) : List Int := bkI 0 a (List.replicate a.length 0)
theorem ints_set {f : List Int} {i : Nat} {x : Int} : (D.ints f).set i (.int x) = D.ints (f.set i x) := by
  unfold D.ints
  rw [List.map_set]
theorem drop_some {α : Type} : ∀ {a : List α} {i : Nat} {j : α}, a[i]? = some j → a.drop i = j :: a.drop (i + 1)
  | [], i, j, h => by simp at h
  | x :: a, 0, j, h => by
    have e : x = j := Option.some.inj h
    rw [e]
    rfl
  | x :: a, i + 1, j, h => drop_some (a := a) (i := i) h
theorem pairs_get {a : List Int} {i : Nat} {d : D} (h : (D.pairs (D.ints a))[i]? = some d) : ∃ j, a[i]? = some j ∧ d = .tup [.int i, .int j] := by
  unfold D.pairs at h
  rw [List.getElem?_mapIdx] at h
  cases e : (D.ints a)[i]? with
  | none =>
    rw [e] at h
    cases h
  | some x =>
    rw [e] at h
    obtain ⟨j, hjw, rfl⟩ := ints_get e
    exact ⟨j, hjw, (Option.some.inj h).symm⟩
end
end L2.Px

namespace L2.Px
open PySem PySem.Spec
open PyProof.Rows
variable [Wld]


/-! ### plain: lists of spots -/
structure Mb (n : Nat) (a : List Int) : Prop where
  len : a.length = n
  ins : Ins n a
theorem then_len (a b : List Int) : (thenI a b).length = a.length := List.length_map ..
theorem getD_ins {n : Nat} {b : List Int} (h : Mb n b) {i : Int} (h0 : 0 ≤ i) (ha1 : i < n) : 0 ≤ b.getD i.toNat 0 ∧ b.getD i.toNat 0 < n := by
  have hlw : i.toNat < b.length := by rw [h.len]; omega
  rw [List.getD_eq_getElem?_getD, List.getElem?_eq_getElem hlw]
  exact h.ins _ (List.getElem_mem hlw)
theorem Mb.then {n : Nat} {a b : List Int} (ha : Mb n a) (hb : Mb n b) : Mb n (thenI a b) := by
  refine ⟨by rw [then_len, ha.len], fun i hi => ?_⟩
  obtain ⟨j, hjw, rfl⟩ := List.mem_map.mp hi
  have qw := ha.ins j hjw
  exact getD_ins hb qw.1 qw.2
theorem then_assoc {n : Nat} {a b c : List Int} (ha : Mb n a) (hb : Mb n b) : thenI (thenI a b) c = thenI a (thenI b c) := by
  unfold thenI
  rw [List.map_map]
  refine List.map_congr_left fun i hi => ?_
  have qw := ha.ins i hi
  have hlw : i.toNat < b.length := by rw [hb.len]; omega
  show c.getD (b.getD i.toNat 0).toNat 0 = (b.map fun i => c.getD i.toNat 0).getD i.toNat 0
  simp only [List.getD_eq_getElem?_getD, List.getElem?_map, List.getElem?_eq_getElem hlw]
  rfl
theorem unit_mb (n : Nat) : Mb n (unitI n) := by
  refine ⟨by unfold unitI; rw [List.length_map, List.length_range], fun i hi => ?_⟩
  unfold unitI at hi
  obtain ⟨j, hjw, rfl⟩ := List.mem_map.mp hi
  have qw := List.mem_range.mp hjw
  omega
theorem unit_then {n : Nat} {a : List Int} (ha : Mb n a) : thenI (unitI n) a = a := by
  unfold thenI unitI
  rw [List.map_map]
  refine List.ext_getElem? fun i => ?_
  rw [List.getElem?_map]
  by_cases h : i < n
  · rw [List.getElem?_range h, List.getElem?_eq_getElem (by rw [ha.len]; exact h)]
    show some (a.getD ((i : Int).toNat) 0) = _
    rw [List.getD_eq_getElem?_getD, Int.toNat_natCast, List.getElem?_eq_getElem (by rw [ha.len]; exact h)]
    rfl
  · rw [List.getElem?_eq_none (by rw [List.length_range]; omega), List.getElem?_eq_none (by rw [ha.len]; omega)]
    rfl
theorem then_unit {n : Nat} {a : List Int} (ha : Mb n a) : thenI a (unitI n) = a := by
  unfold thenI
  refine (List.map_congr_left (g := id) fun i hi => ?_).trans (List.map_id a)
  have qw := ha.ins i hi
  have hlw : i.toNat < n := by omega
  unfold unitI
  rw [List.getD_eq_getElem?_getD, List.getElem?_map, List.getElem?_range hlw]
  show (((i.toNat : Nat) : Int)) = i
  omega
def powN (n : Nat) (a : List Int) : Nat → List Int
  | 0 => unitI n
  | k + 1 => thenI a (powN n a k)
theorem pow_mb {n : Nat} {a : List Int} (ha : Mb n a) : ∀ k, Mb n (powN n a k)
  | 0 => unit_mb n
  | k + 1 => ha.then (pow_mb ha k)
theorem pow_add {n : Nat} {a : List Int} (ha : Mb n a) : ∀ j k, powN n a (j + k) = thenI (powN n a j) (powN n a k)
  | 0, k => by rw [Nat.zero_add]; exact (unit_then (pow_mb ha k)).symm
  | j + 1, k => by
    rw [show j + 1 + k = (j + k) + 1 by omega]
    show thenI a (powN n a (j + k)) = thenI (thenI a (powN n a j)) (powN n a k)
    rw [pow_add ha j k, then_assoc ha (pow_mb ha j)]
theorem pow_two {n : Nat} {a : List Int} (ha : Mb n a) : ∀ k, powN n (thenI a a) k = powN n a (2 * k)
  | 0 => rfl
  | k + 1 => by
    rw [show 2 * (k + 1) = 2 * k + 1 + 1 by omega]
    show thenI (thenI a a) (powN n (thenI a a) k) = thenI a (thenI a (powN n a (2 * k)))
    rw [pow_two ha k, then_assoc ha ha]
theorem pow_step {n : Nat} {a : List Int} (ha : Mb n a) (L : Nat) : powN n a L = if L % 2 = 1 then thenI a (powN n (thenI a a) (L / 2)) else powN n (thenI a a) (L / 2) := by
  rw [pow_two ha]
  split
  · have e : L = 2 * (L / 2) + 1 := by omega
    rw [show powN n a L = powN n a (2 * (L / 2) + 1) by rw [← e]]
    rfl
  · have e : L = 2 * (L / 2) := by omega
    rw [← e]
theorem bk_mb {n : Nat} : ∀ {r f : List Int} {i : Nat}, Mb n f → i + r.length ≤ n → Mb n (bkI i r f)
  | [], f, i, hf, _ => hf
  | x :: r, f, i, hf, h => by
    have hlw : (x :: r).length = r.length + 1 := rfl
    refine bk_mb (r := r) (i := i + 1) ⟨by rw [List.length_set]; exact hf.len, fun y hyw => ?_⟩ (by omega)
    rcases List.mem_or_eq_of_mem_set hyw with zw | zw
    · exact hf.ins y zw
    · subst zw
      omega
theorem back_mb {n : Nat} {a : List Int} (ha : Mb n a) : Mb n (backI a) := by
  refine bk_mb ⟨by rw [List.length_replicate]; exact ha.len, fun i hi => ?_⟩ (by rw [ha.len]; omega)
  have qw := List.eq_of_mem_replicate hi
  have : a.length ≠ 0 := fun zw => by rw [zw] at hi; exact absurd hi (by simp)
  have := ha.len
  omega
/-- many times a, backwards below nought -/
def powI (n : Nat) (a : List Int) (m : Int) : List Int := powN n (if 0 ≤ m then a else backI a) m.natAbs
section
variable {P : Program} {w : World} {K : PySem.W.Frag} {mg : Str → Option Value} {base : Heap}
def whBody : Stmt → List Stmt
  | .While _ b _ _ => b
  | _ => []
end
end L2.Px

namespace L2.Px
open PySem PySem.Spec
open PyProof.Rows
variable [Wld]


/-! ### members -/
structure Pm (n : Nat) (a : List Int) : Prop where
  each : eachI a = true
  len : a.length = n
theorem Pm.mb {n : Nat} {a : List Int} (h : Pm n a) : Mb n a := by
  refine ⟨h.len, fun i hi => ?_⟩
  have e : a.mergeSort leB = (List.range a.length).map fun i : Nat => (i : Int) := of_decide_eq_true h.each
  have qw : i ∈ a.mergeSort leB := (List.mergeSort_perm a leB).mem_iff.mpr hi
  rw [e] at qw
  obtain ⟨j, hjw, rfl⟩ := List.mem_map.mp qw
  have := List.mem_range.mp hjw
  have := h.len
  omega
def D.toL : D → List Int
  | .tup xs => xs.map D.toI
  | _ => []
theorem toL_ints (a : List Int) : (D.tup (D.ints a)).toL = a := by
  show (D.ints a).map D.toI = a
  unfold D.ints
  rw [List.map_map]
  exact List.map_id a
theorem all_ints (a : List Int) : (D.ints a).all D.isNum = true := by
  induction a with
  | nil => rfl
  | cons x a ih => exact ih
theorem each_ints (a : List Int) : (D.tup (D.ints a)).each = eachI a := by
  show ((D.ints a).all D.isNum && eachI ((D.tup (D.ints a)).toL)) = _
  rw [all_ints, toL_ints, Bool.true_and]
theorem each_ok {d : D} (h : d.each = true) : ∃ a, d = .tup (D.ints a) ∧ eachI a = true := by
  cases d with
  | tup xs =>
    have qw : xs.all D.isNum = true ∧ eachI (xs.map D.toI) = true := by
      have h : (xs.all D.isNum && eachI (xs.map D.toI)) = true := h
      simpa using h
    exact ⟨xs.map D.toI, by rw [← ints_of qw.1], qw.2⟩
  | _ => exact absurd h (fun zw => nomatch zw)
theorem any5_ok {d : D} (h : d.any5 = true) : ∃ a, d = .tup (D.ints a) ∧ Pm a.length a ∧ 1 ≤ a.length ∧ a.length ≤ 5 := by
  have h : (d.each && (decide (1 ≤ (d.len : Int)) && decide ((d.len : Int) ≤ 5))) = true := h
  simp only [Bool.and_eq_true, decide_eq_true_eq] at h
  obtain ⟨ha1, h2, h3⟩ := h
  obtain ⟨a, rfl, h4⟩ := each_ok ha1
  have e : (D.tup (D.ints a)).len = a.length := ints_len a
  rw [e] at h2 h3
  exact ⟨a, rfl, ⟨h4, rfl⟩, by omega, by omega⟩
theorem any5_of {a : List Int} {n : Nat} (h : Pm n a) (ha1 : 1 ≤ n) (h5 : n ≤ 5) : (D.tup (D.ints a)).any5 = true := by
  show ((D.tup (D.ints a)).each && (decide (1 ≤ ((D.tup (D.ints a)).len : Int)) && decide (((D.tup (D.ints a)).len : Int) ≤ 5))) = true
  have e : (D.tup (D.ints a)).len = a.length := ints_len a
  have qw := h.len
  rw [each_ints, h.each, e, qw]
  simp only [Bool.and_eq_true, decide_eq_true_eq]
  exact ⟨trivial, by omega, by omega⟩
theorem memb_ok {d : D} {n : Nat} (h : d.memb n = true) : ∃ a, d = .tup (D.ints a) ∧ Pm n a := by
  have h : (d.each && decide ((d.len : Int) = n)) = true := h
  simp only [Bool.and_eq_true, decide_eq_true_eq] at h
  obtain ⟨ha1, h2⟩ := h
  obtain ⟨a, rfl, h4⟩ := each_ok ha1
  have e : (D.tup (D.ints a)).len = a.length := ints_len a
  rw [e] at h2
  exact ⟨a, rfl, h4, by omega⟩
theorem memb_of {a : List Int} {n : Nat} (h : Pm n a) : (D.tup (D.ints a)).memb n = true := by
  show ((D.tup (D.ints a)).each && decide (((D.tup (D.ints a)).len : Int) = n)) = true
  have e : (D.tup (D.ints a)).len = a.length := ints_len a
  rw [each_ints, h.each, e, h.len]
  simp
theorem ok_ints (a : List Int) (h : a.length ≤ 1000) : (D.tup (D.ints a)).okT := by
  refine ⟨rfl, fun xs e => ?_⟩
  cases e
  refine ⟨by rw [ints_len]; exact h, fun x hxw => ?_⟩
  obtain ⟨i, _, rfl⟩ := List.mem_map.mp hxw
  rfl
end L2.Px
end
section
open L2 L2.Px PySem PySem.Spec PyProof.Rows
local macro_rules | `(tactic| walk_at "vis") => `(tactic| first | exact .inl rfl | exact .inr (.inl rfl) | exact .inr (.inr rfl))
local macro_rules | `(tactic| walk_at "n") => `(tactic| first
  | refine we_name (i := 0) rfl (by walk_at "vis") rfl ?_
  | refine we_name (i := 1) rfl (by walk_at "vis") rfl ?_
  | refine we_name (i := 2) rfl (by walk_at "vis") rfl ?_
  | refine we_name (i := 3) rfl (by walk_at "vis") rfl ?_
  | refine we_name (i := 4) rfl (by walk_at "vis") rfl ?_
  | refine we_name (i := 5) rfl (by walk_at "vis") rfl ?_
  | refine we_name (i := 6) rfl (by walk_at "vis") rfl ?_
  | refine we_name (i := 7) rfl (by walk_at "vis") rfl ?_
  | refine we_name (i := 8) rfl (by walk_at "vis") rfl ?_
  | refine we_name (i := 9) rfl (by walk_at "vis") rfl ?_)
local macro_rules | `(tactic| walk_at "e1") => `(tactic| first
  | ((with_reducible show (if _ then _ else _)); first | refine itT ?_ | refine itF ?_)
  | ((with_reducible show WE _ _ (.Name _ _) _ _); walk_at "n")
  | ((with_reducible show WE _ _ (.Constant (.int _) _ _) _ _); refine we_int ?_)
  | ((with_reducible show WE _ _ (.Constant (.str _) _ _) _ _); refine we_str ?_)
  | ((with_reducible show WE _ _ (.Constant (.bool _) _ _) _ _); refine we_bl ?_)
  | ((with_reducible show WE _ _ (.Constant .none _ _) _ _); refine we_non ?_)
  | ((with_reducible show WA _ _ (_ :: _) _ _); refine wa_cons ?_)
  | ((with_reducible show WA _ _ [] _ _); refine wa_nil ?_)
  | ((with_reducible show WE _ _ (.BoolOp _ [_] _) _ _); refine we_one ?_)
  | ((with_reducible show WE _ _ (.BoolOp .And _ _) _ _); refine we_and ?_)
  | ((with_reducible show WE _ _ (.BoolOp .Or _ _) _ _); refine we_or ?_)
  | ((with_reducible show WE _ _ (.UnaryOp .Not _ _) _ _); refine we_not ?_)
  | ((with_reducible show WE _ _ (.IfExp _ _ _ _) _ _); refine we_ifExp ?_)
  | ((with_reducible show WE _ _ (.Tuple _ _ _) _ _); refine we_tup ?_)
  | ((with_reducible show WE _ _ (.List _ _) _ _); refine we_lst ?_)
  | ((with_reducible show WE _ _ (.BinOp _ .Add _ _) _ _); refine we_add ?_)
  | ((with_reducible show WE _ _ (.BinOp _ .Sub _ _) _ _); refine we_sub ?_)
  | ((with_reducible show WE _ _ (.BinOp _ .Mult _ _) _ _); refine we_mul ?_)
  | ((with_reducible show WE _ _ (.BinOp _ .Mod _ _) _ _); refine we_mod ?_)
  | ((with_reducible show WE _ _ (.BinOp _ .FloorDiv _ _) _ _); refine we_fdiv ?_)
  | ((with_reducible show WE _ _ (.BinOp _ .Pow _ _) _ _); refine we_pow ?_)
  | ((with_reducible show WT _ _ (.UnaryOp .Not _ _) _ _); refine wt_not ?_)
  | ((with_reducible show WT _ _ (.BoolOp .And _ _) _ _); refine wt_ww (ww_and ?_))
  | ((with_reducible show WT _ _ (.BoolOp .Or _ _) _ _); refine wt_ww (ww_or ?_))
  | ((with_reducible show WW _ _ (.BoolOp .And [_] _) _ _); refine ww_and1 ?_)
  | ((with_reducible show WW _ _ (.BoolOp .Or [_] _) _ _); refine ww_or1 ?_)
  | ((with_reducible show WW _ _ (.BoolOp .And _ _) _ _); refine ww_and ?_)
  | ((with_reducible show WW _ _ (.BoolOp .Or _ _) _ _); refine ww_or ?_)
  | ((with_reducible show WSs _ _ (_ :: _) _ _); refine ws_cons ?_)
  | ((with_reducible show WSs _ _ [] _ _); refine ws_nil ?_)
  | ((with_reducible show WS _ _ (.Return (some _) _) _ _); refine ws_ret ?_)
  | ((with_reducible show WS _ _ (.If _ _ _ _) _ _); refine ws_if ?_)
  | ((with_reducible show WT _ _ (.Call _ _ _ _) _ _); refine wt_val ?_)
  | ((with_reducible show WT _ _ (.Name _ _) _ _); refine wt_val ?_))
local macro_rules | `(tactic| walk_at "e") => `(tactic| repeat' walk_at "e1")
namespace L2.Px
open PySem PySem.Spec
open PyProof.Rows
variable [Wld]


/-! ### what the law draws from: a dict that others may change -/
structure Dr where
  a : Addr
  L : Addr
  C : Addr
  ys : List Int
  T : List (Addr × Str)
def drKvs (d : Dr) (r t : Int) : List (Key × V) := [(.inr "large", .ref d.L), (.inr "rest", .int r), (.inr "cells", .ref d.C), (.inr "turn", .int t)]
structure Dr.Is (d : Dr) (H : Hp) (xs : List Int) (r t : Int) : Prop where
  dic : H d.a = some (.dK (drKvs d r t))
  lar : H d.L = some (.lst (xs.map V.int))
  cel : H d.C = some (.lst (d.ys.map V.int))
  tab : LamX.Tabs d.T H
def Dr.At (d : Dr) (H : Hp) : Prop := d.L ≠ d.C ∧ d.ys.length ≤ 1000 ∧ ∃ xs r t, d.Is H xs r t
def Dr.cfg (d : Dr) : Cfg := ⟨fun p => p = d.a ∨ p = d.L ∨ p = d.C ∨ ∃ x ∈ d.T, x.1 = p, d.At⟩
theorem tabs_st {T : List (Addr × Str)} {H H' : Hp} (t : LamX.Tabs T H) (k1 : ∀ x ∈ T, ∀ ps, H x.1 = some (.tbl ps) → H' x.1 = some (.tbl ps)) (k2 : ∀ c q, H c = some (LamX.CodeO c q) → H' c = some (LamX.CodeO c q)) : LamX.Tabs T H' := fun p hp => by
  obtain ⟨ps, a1, a2, a3⟩ := t p hp
  refine ⟨ps, k1 p hp ps a1, a2, fun pos cv w => ?_⟩
  obtain ⟨c, b1, b2⟩ := a3 pos cv w
  exact ⟨c, b1, k2 c _ b2⟩
instance (d : Dr) : d.cfg.Ok := ⟨fun H H' k1 k2 g => by
  obtain ⟨ne, hlw, xs, r, t, g⟩ := g
  refine ⟨ne, hlw, xs, r, t, ⟨(k1 _ (.inl rfl)).trans g.dic, (k1 _ (.inr (.inl rfl))).trans g.lar, (k1 _ (.inr (.inr (.inl rfl)))).trans g.cel, tabs_st g.tab (fun x hx ps e => (k1 _ (.inr (.inr (.inr ⟨x, hx, rfl⟩)))).trans e) fun c q e => ?_⟩⟩
  by_cases v : d.cfg.V c
  · exact (k1 _ v).trans e
  · exact k2 c _ e v (codeO_firm c q)⟩
theorem Dr.Is.aL {d : Dr} {H : Hp} {xs : List Int} {r t : Int} (h : d.Is H xs r t) : d.a ≠ d.L := fun zw => by
  have qw := h.dic
  rw [zw, h.lar] at qw
  cases qw
theorem Dr.Is.aC {d : Dr} {H : Hp} {xs : List Int} {r t : Int} (h : d.Is H xs r t) : d.a ≠ d.C := fun zw => by
  have qw := h.dic
  rw [zw, h.cel] at qw
  cases qw
theorem Dr.Is.put {d : Dr} {H : Hp} {xs : List Int} {r t r' t' : Int} (h : d.Is H xs r t) : d.Is (upd H d.a (.dK (drKvs d r' t'))) xs r' t' :=
  ⟨upd_same, by rw [upd_ne (Ne.symm h.aL)]; exact h.lar, by rw [upd_ne (Ne.symm h.aC)]; exact h.cel, tabs_st h.tab
    (fun x _ ps e => by rw [upd_ne (fun w => by rw [w, h.dic] at e; cases e)]; exact e) (fun c q e => by rw [upd_ne (fun w => by rw [w, h.dic] at e; unfold LamX.CodeO at e; cases e)]; exact e)⟩
theorem Dr.Is.pop {d : Dr} {H : Hp} {xs xs' : List Int} {r t : Int} (h : d.Is H xs r t) (ne : d.L ≠ d.C) : d.Is (upd H d.L (.lst (xs'.map V.int))) xs' r t :=
  ⟨by rw [upd_ne h.aL]; exact h.dic, upd_same, by rw [upd_ne (Ne.symm ne)]; exact h.cel, tabs_st h.tab
    (fun x _ ps e => by rw [upd_ne (fun w => by rw [w, h.lar] at e; cases e)]; exact e) (fun c q e => by rw [upd_ne (fun w => by rw [w, h.lar] at e; unfold LamX.CodeO at e; cases e)]; exact e)⟩
section
variable {X : Cx} {F : Fm} {Γ : Gam} {ed : ED}
theorem nxt_vol {τ : St} {B H : Hp} {p : Addr} {o : HO} (sh : Stt X.K F B Γ τ H) (hp : F.c.V p) (hg : F.c.G (upd H p o)) : Nxt X.K F τ B Γ H B Γ (upd H p o) := by
  have hne : ∀ a, ¬ F.c.V a → a ≠ p := fun a h zw => h (zw ▸ hp)
  refine ⟨⟨fun a u e v => ?_, sh.b0, fun a u e => ⟨?_, (sh.bH a u e).2⟩, sh.bn, sh.vH, fun a v => ?_, hg, sh.len, fun i sl e => ?_, sh.dj⟩, Ex.refl _, fun a u e v _ => ?_, fun a zw => zw, fun a zw => ?_, fun a u e => .inl e⟩
  · rw [upd_ne (hne a v)]
    exact sh.fr a u e v
  · rw [upd_ne (hne a (sh.bH a u e).2)]
    exact (sh.bH a u e).1
  · by_cases zw : a = p
    · rw [zw, upd_same]
      exact fun qw => nomatch qw
    · rw [upd_ne zw]
      exact sh.vH' a v
  · obtain ⟨v, evw, rv⟩ := sh.sl i sl e
    refine ⟨v, evw, ?_⟩
    cases sl with
    | val d => exact rv
    | own od =>
      obtain ⟨qw, u, rfl, ha1, h2, h3, h4, h5⟩ := rv
      exact ⟨qw, u, rfl, ha1, h2, h3, by rw [upd_ne (hne qw h3)]; exact h4, h5⟩
  · rw [upd_ne (hne a v)]
    exact e
  · by_cases qw : a = p
    · rw [qw, upd_same]
      exact fun w => nomatch w
    · rw [upd_ne qw]
      exact zw
theorem we_mulS [F.c.Ok] {a b : Expr} {pos : Pos} {Φ : D → Gam → Prop} (h : WE X F a Γ fun d1 Γ1 => WE X F b Γ1 fun d2 Γ2 => ∃ i j, d1 = .int i ∧ d2 = .int j ∧ CMul i j ∧ Φ (.int (i * j)) Γ2) : WE X F (.BinOp a .Mult b pos) Γ Φ := by
  refine we_bin (pe_op op_mul pe_wp pe_wp) (h.imp fun d1 Γ1 h => h.imp fun d2 Γ2 h => ?_)
  obtain ⟨i, j, rfl, rfl, hjw, h⟩ := h
  intro F _ Γ B τ H v1 v2 sh r1 r2 Q qw
  cases r1
  cases r2
  exact ⟨i, j, rfl, rfl, hjw, qw _ _ _ _ h (Nxt.refl sh) (.int _)⟩
variable {d : Dr} {H0 B0 : Hp}
theorem val_rest (r t : Int) : valV (drKvs d r t) (.inr "rest") = some (.int r) := rfl
theorem val_turn (r t : Int) : valV (drKvs d r t) (.inr "turn") = some (.int t) := rfl
theorem val_large (r t : Int) : valV (drKvs d r t) (.inr "large") = some (.ref d.L) := rfl
theorem val_cells (r t : Int) : valV (drKvs d r t) (.inr "cells") = some (.ref d.C) := rfl
theorem put_rest (r t n : Int) : putK (drKvs d r t) (.inr "rest") (.int n) = drKvs d n t := rfl
theorem put_turn (r t n : Int) : putK (drKvs d r t) (.inr "turn") (.int n) = drKvs d r n := rfl
theorem dr_g {τ : St} {B H : Hp} (hF : F.c = d.cfg) (sh : Stt X.K F B Γ τ H) : d.At H := by
  have g := sh.g
  rw [hF] at g
  exact g
/-- draw[key], an int -/
theorem we_drI {i : Nat} {x key : Str} {j} {p1 p2 pos : Pos} {Φ : D → Gam → Prop} (hF : F.c = d.cfg) (hu : X.A.units + 1 < cLine) (hN : X.N[i]? = some x) (hv : Vis X.env.scope x) (h0 : Γ[i]? = some (some (.val (.obj d.a)))) (hkw2 : key = "rest" ∨ key = "turn") (h : ∀ n : Int, Φ (.int n) Γ)
    (hdt : (x == ("__debug__" : Str)) = false := by decide) (hcd : (x == ("__classdict__" : Str)) = false := by decide) : WE X F (.Subscript (.Name x p1) (.Constant (.str key) j p2) pos) Γ Φ := by
  intro B τ H sh Q qw
  obtain ⟨v, eσ, rv⟩ := sh.sl i _ h0
  cases rv
  obtain ⟨ne, hlw, xs, r, t, g⟩ := dr_g hF sh
  rcases hkw2 with rfl | rfl
  · exact wp_of (pe_dget hu (pe_var hN hv hdt hcd) pe_str (fun _ _ => rfl)) ⟨.ref d.a, eσ, d.a, .int r, rfl, (DGet.k (k := .inr "rest") g.dic : DGet H d.a (kV (.inr "rest")) _), qw _ _ _ _ _ (h r) (Nxt.refl sh) (.int r)⟩
  · exact wp_of (pe_dget hu (pe_var hN hv hdt hcd) pe_str (fun _ _ => rfl)) ⟨.ref d.a, eσ, d.a, .int t, rfl, (DGet.k (k := .inr "turn") g.dic : DGet H d.a (kV (.inr "turn")) _), qw _ _ _ _ _ (h t) (Nxt.refl sh) (.int t)⟩
/-- draw[key] = e, an int -/
theorem ws_drPut {i : Nat} {x key : Str} {j} {e : Expr} {p1 p2 p3 pos : Pos} (hF : F.c = d.cfg) (hu : X.A.units + 1 < cLine) (hN : X.N[i]? = some x) (hv : Vis X.env.scope x) (hkw2 : key = "rest" ∨ key = "turn")
    (h : WE X F e Γ fun v Γ1 => Γ1[i]? = some (some (.val (.obj d.a))) ∧ ∃ n, v = .int n ∧ ed.nx Γ1)
    (hdt : (x == ("__debug__" : Str)) = false := by decide) (hcd : (x == ("__classdict__" : Str)) = false := by decide)
    (hsa : swapsWith e (some (.Subscript (.Name x p1) (.Constant (.str key) j p2) p3)) pos.line X.env = pure false := by rfl) : WS X F (.Assign [.Subscript (.Name x p1) (.Constant (.str key) j p2) p3] e pos) Γ ed := by
  intro B τ H sh D l
  refine wps_of (ps_dput hu (pe_var hN hv hdt hcd) pe_str pe_wp hsa) (h B τ H sh _ fun v dd B1 Γ1 H1 p n r => ?_)
  obtain ⟨h0, m, rfl, p⟩ := p
  cases r
  obtain ⟨v, eσ, rv⟩ := n.st.sl i _ h0
  cases rv
  obtain ⟨ne, hlw, xs, r, t, g⟩ := dr_g hF n.st
  have fin : ∀ o : HO, F.c.G (upd H1 d.a o) → D.nx τ (upd H1 d.a o) := fun o go => by
    have n2 := nxt_vol n.st (p := d.a) (o := o) (by rw [hF]; exact .inl rfl) go
    exact l.nx _ _ _ _ p n2.st (n.ex.trans n2.ex)
  rcases hkw2 with rfl | rfl
  · refine ⟨.ref d.a, eσ, d.a, _, rfl, DPut.k (k := .inr "rest") g.dic (show 4 < sizeLine by decide), ?_⟩
    rw [put_rest]
    refine fin _ ?_
    rw [hF]
    exact ⟨ne, hlw, xs, m, t, g.put⟩
  · refine ⟨.ref d.a, eσ, d.a, _, rfl, DPut.k (k := .inr "turn") g.dic (show 4 < sizeLine by decide), ?_⟩
    rw [put_turn]
    refine fin _ ?_
    rw [hF]
    exact ⟨ne, hlw, xs, r, m, g.put⟩
/-- for .. in draw["cells"] -/
theorem wi_cells {tg : Expr} {i : Nat} {x : Str} {j} {p1 p2 pos : Pos} {Φ : List D → Gam → Prop} (hF : F.c = d.cfg) (hu : X.A.units + 1 < cLine) (hN : X.N[i]? = some x) (hv : Vis X.env.scope x) (h0 : Γ[i]? = some (some (.val (.obj d.a)))) (h : Φ (D.ints d.ys) Γ)
    (hdt : (x == ("__debug__" : Str)) = false := by decide) (hcd : (x == ("__classdict__" : Str)) = false := by decide) : WI X F tg (.Subscript (.Name x p1) (.Constant (.str "cells") j p2) pos) Γ Φ := by
  intro B τ H sh R qw
  obtain ⟨v, eσ, rv⟩ := sh.sl i _ h0
  cases rv
  obtain ⟨ne, hlw, xs, r, t, g⟩ := dr_g hF sh
  refine wpi_of (pi_list (pe_dget hu (pe_var hN hv hdt hcd) pe_str (fun _ _ => rfl))) ⟨.ref d.a, eσ, d.a, .ref d.C, rfl, (DGet.k (k := .inr "cells") g.dic : DGet H d.a (kV (.inr "cells")) _), d.C, rfl, ⟨_, .inl (.inl g.cel)⟩, qw _ _ _ _ _ h (Nxt.refl sh) ?_⟩
  intro F' _ hF' Γ' B' σ' H' s' en k
  have g' : d.At H' := dr_g (hF'.trans hF) s'
  obtain ⟨_, _, xs', r', t', g'⟩ := g'
  have hq : SqL X.K H' d.C (d.ys.map V.int) := .inl (.inl g'.cel)
  have hlew : (D.ints d.ys).length = d.ys.length := ints_len d.ys
  refine ⟨fun hi => ?_, fun hi => ⟨_, hq, by rw [List.length_map]; omega⟩, fun hi y H2 zw => ?_⟩
  · have hkw2 : k < d.ys.length := by omega
    exact ⟨_, .int d.ys[k], hq, by rw [List.getElem?_map, List.getElem?_eq_getElem hkw2]; rfl⟩
  · obtain ⟨rfl, zw⟩ := zw
    have hkw2 : k < d.ys.length := by omega
    have zw := zw _ hq
    rw [List.getElem?_map, List.getElem?_eq_getElem hkw2] at zw
    cases zw
    exact ⟨.int d.ys[k], B', by unfold D.ints; rw [List.getElem?_map, List.getElem?_eq_getElem hkw2]; rfl, Nxt.refl s', .int _⟩
end
end L2.Px

namespace L2.Px
open PySem PySem.Spec
open PyProof.Rows
variable [Wld]


section
variable {X : Cx} {F : Fm} {Γ : Gam} {d : Dr}
theorem we_large {i k : Nat} {x : Str} {j j2 j3} {p1 p2 p3 p4 p5 q1 q2 q3 q4 q5 qw6 pos : Pos} {e2 : Expr} {Φ : D → Gam → Prop} [F.c.Ok] (hF : F.c = d.cfg) (hr : Room k X.A) (hN : X.N[i]? = some x) (hv : Vis X.env.scope x) (h0 : Γ[i]? = some (some (.val (.obj d.a)))) (ha1 : ∀ n : Int, Φ (.int n) Γ) (h2 : WE X F e2 Γ Φ)
    (hdt : (x == ("__debug__" : Str)) = false := by decide) (hcd : (x == ("__classdict__" : Str)) = false := by decide)
    (hsa : starEach (.Constant (.int 0) j3 q5 :: []) X.env = (false, eval (.Constant (.int 0) j3 q5) X.env) :: starEach [] X.env := by rfl)
    (hline : (q4.endLine == qw6.line) = true := by rfl)
    (hbase : attributeBase (.Subscript (.Name x q1) (.Constant (.str "large") j2 q2) q3) "pop" X.env (eval (.Subscript (.Name x q1) (.Constant (.str "large") j2 q2) q3) X.env) = eval (.Subscript (.Name x q1) (.Constant (.str "large") j2 q2) q3) X.env := by rfl)
    (hfew : ((backTo qw6 (starEach (.Constant (.int 0) j3 q5 :: []) X.env)).all (fun x => !x.1) && (backToKw qw6 (keywordEach [] X.env)).all (fun x => x.1.isSome)
      && decide ((Expr.Constant (.int 0) j3 q5 :: []).length + ([] : List Keyword).length + (if ([] : List Keyword).isEmpty then 0 else 1) < 30)) = true := by rfl)
    (hpl : (backTo qw6 (starEach [] X.env)).any (·.1) = false := by rfl) :
    WE X F (.IfExp (.Compare (.Subscript (.Name x p1) (.Constant (.str "large") j p2) p3) [.NotEq] [.List [] p4] p5) (.Call (.Attribute (.Subscript (.Name x q1) (.Constant (.str "large") j2 q2) q3) "pop" q4) [.Constant (.int 0) j3 q5] [] qw6) e2 pos) Γ Φ := by
  intro B τ H sh Q qw
  have hu : X.A.units + 1 < cLine := by have := hr.un; omega
  obtain ⟨v, eσ, rv⟩ := sh.sl i _ h0
  cases rv
  obtain ⟨ne, hlw, xs, r, t, g⟩ := dr_g hF sh
  refine wp_of (pe_ifExp (pt_cmpR (op_neX hr) (pe_dget hu (pe_var hN hv hdt hcd) pe_str (fun _ _ => rfl)) (pe_lst pa_nil) (nomark _))
    (pe_bm PySem.F.plainAttrs_list PySem.F.slot_list_pop PySem.F.type_list_pop mt_popAt (pe_dget hu (pe_var hN hv hdt hcd) pe_str (fun _ _ => rfl)) (pa_cons pe_int pa_nil hsa) hbase hfew hline hsa hpl) pe_wp) ?_
  refine ⟨.ref d.a, eσ, d.a, .ref d.L, rfl, (DGet.k (k := .inr "large") g.dic : DGet H d.a (kV (.inr "large")) _), Nat.zero_le _, fun u hn => ?_⟩
  have n1 := sh.frozen (o := .lst []) hn
  have g1 : d.Is (upd H u (.lst [])) xs r t := ⟨by rw [upd_ne (ne_of_none g.dic hn)]; exact g.dic, by rw [upd_ne (ne_of_none g.lar hn)]; exact g.lar, by rw [upd_ne (ne_of_none g.cel hn)]; exact g.cel, g.tab.ext fun a o e => by rw [upd_ne (ne_of_none e hn)]; exact e⟩
  refine ⟨.lst (D.ints xs), .lst (D.ints []), ints_fl _ _, ints_fl _ _, .lst g1.lar (RpA.ofInts xs), .lst upd_same .nil, _, rfl, ?_⟩
  rw [eq_lints]
  cases xs with
  | nil => exact h2 _ τ _ n1.st Q fun v dd B' Γ' H' p n r => qw v dd B' Γ' H' p (n1.trans n) r
  | cons x0 xs =>
    refine ⟨.ref d.a, eσ, d.a, .ref d.L, rfl, (DGet.k (k := .inr "large") g1.dic : DGet _ d.a (kV (.inr "large")) _), .inl ⟨rfl, _, .inl (.inl g1.lar)⟩, ?_⟩
    refine ⟨d.L, _, 0, 0, .int x0, rfl, rfl, g1.lar, by decide, by decide, ?_, rfl, ?_⟩
    · have hix : ixN ((x0 :: xs).map V.int).length ((0 : Nat) : Int) = some 0 := by
        unfold ixN
        rw [if_pos (by omega), if_pos (by rw [List.length_map, List.length_cons]; omega)]
        rfl
      exact (ixN_seq hix).1
    · have n2 := nxt_vol n1.st (p := d.L) (o := .lst (xs.map V.int)) (by rw [hF]; exact .inr (.inl rfl)) (by rw [hF]; exact ⟨ne, hlw, xs, r, t, g1.pop ne⟩)
      exact qw _ _ _ _ _ (ha1 x0) (n1.trans n2) (.int x0)
end
section
variable {P : Program} {w : World} {K : PySem.W.Frag} {mg : Str → Option Value} {base : Heap}
/-- any int comes -/
def spMixed (d : Dr) : DS := ⟨fun ds k => ds = [.obj d.a] ∧ ∀ n : Int, k (.ret (.int n)), fun _ _ _ i ⟨e, h⟩ => ⟨e, fun n => i _ (h n)⟩⟩
abbrev sMixed : Stmt := top 26
theorem sc_mixed : FnScope ["draw", "lap", "found", "great", "blend", "cell"] ["draw"] (defScope sMixed) := ⟨rfl, rfl, rfl, by decide +kernel, rfl, by decide +kernel, by decide +kernel⟩
theorem ok_mixed {d : Dr} {f : Addr} {fd : FuncData} (Fn : Fun K "_law_mixed" "_law_mixed" sMixed f fd) (T : Tx mg) : FnOk P w K mg base (L2.CX P w) 1 f fd ["draw"] (SpD K d.cfg 1 (spMixed d)) := by
  refine defn (k := 0) (ps := ["draw"]) Fn sc_mixed fun cdv A outer sh H E hr H0 B0 ds Φ hlw h R => ?_
  obtain ⟨rfl, h⟩ := h
  have hu : (A.deeper (envOfC "_law_mixed" (defScope sMixed) sh.heap.objs.size f cdv)).units + 1 < cLine := by have := hr.un; omega
  refine ws_cons ?_
  refine ws_drPut (i := 0) rfl hu rfl (by walk_at "vis") (.inr rfl) ?_
  walk_at "e"
  refine we_drI (i := 0) (d := d) rfl hu rfl (by walk_at "vis") rfl (.inr rfl) fun n => ?_
  walk_at "e"
  refine od_add ⟨rfl, _, rfl, ?_⟩
  refine ws_cons ?_
  refine ws_par (i := 1) (j := 2) rfl sc_mixed.nd rfl rfl (by decide) (show 1 < 6 by decide) (show 2 < 6 by decide) rfl rfl (wx_val ?_)
  refine we_callTy cr_intX rfl T.int bb_int ?_
  refine wa_cons ?_
  refine we_drI (i := 0) (d := d) rfl hu rfl (by walk_at "vis") rfl (.inr rfl) fun lap => ?_
  walk_at "e"
  refine cd_int ?_
  refine wx_val ?_
  walk_at "e"
  refine ws_for (passes_of rfl) rfl (wi_lst ?_)
  walk_at "e"
  refine ⟨(show 3 ≤ 100000 by decide), _, rfl, fun _ Γ => ∃ (f : Int) (s1 s2 s3 : Option Sl), Γ = [some (.val (.obj d.a)), some (.val (.int lap)), some (.val (.int f)), s1, s2, s3], ⟨0, none, none, none, rfl⟩, [3], ?_, ?_⟩
  · rintro i g Γ2 hg ⟨f, s1, s2, s3, rfl⟩
    obtain ⟨gr, rfl, g0, g1⟩ : ∃ gr : Int, g = .int gr ∧ 0 < gr ∧ gr < 2 ^ 40 := by
      have qw := List.mem_of_getElem? hg
      simp only [List.mem_cons, List.not_mem_nil, or_false] at qw
      rcases qw with rfl | rfl | rfl
      · exact ⟨_, rfl, by decide, by decide⟩
      · exact ⟨_, rfl, by decide, by decide⟩
      · exact ⟨_, rfl, by decide, by decide⟩
    refine wg_name (i := 3) sc_mixed.nd rfl (.inl rfl) (show 3 < 6 by decide) ?_
    refine ws_cons ?_
    refine ws_set (i := 4) sc_mixed.nd rfl (.inl rfl) (show 4 < 6 by decide) ?_
    refine we_mod ?_
    refine we_add ?_
    refine we_mulS ?_
    walk_at "e"
    refine ⟨_, _, rfl, rfl, .inr ⟨by decide, by decide⟩, ?_⟩
    walk_at "e"
    refine ⟨_, _, rfl, rfl, ⟨by decide, by decide⟩, ?_⟩
    refine od_add ?_
    walk_at "e"
    refine ⟨_, _, rfl, rfl, g0, ?_⟩
    refine ws_cons ?_
    refine ws_for (passes_of rfl) rfl (wi_cells (i := 0) (d := d) rfl hu rfl (by walk_at "vis") rfl ?_)
    refine ⟨fun _ Γ => ∃ (b : Int) (s3 : Option Sl), 0 ≤ b ∧ b < gr ∧ Γ = [some (.val (.obj d.a)), some (.val (.int lap)), some (.val (.int f)), some (.val (.int gr)), some (.val (.int b)), s3], ⟨_, _, Int.emod_nonneg _ (by omega), Int.emod_lt_of_pos _ g0, rfl⟩, [5], ?_, ?_⟩
    · rintro j c Γ2 hc ⟨b, s3, b0, b1, rfl⟩
      obtain ⟨cl, hcl, rfl⟩ := ints_get hc
      refine wg_name (i := 5) sc_mixed.nd rfl (.inl rfl) (show 5 < 6 by decide) ?_
      refine ws_cons ?_
      refine ws_set (i := 4) sc_mixed.nd rfl (.inl rfl) (show 4 < 6 by decide) ?_
      refine we_mod ?_
      refine we_add ?_
      refine we_add ?_
      refine we_mulS ?_
      walk_at "e"
      refine ⟨_, _, rfl, rfl, .inr ⟨by decide, by decide⟩, ?_⟩
      refine we_callTy cr_intX rfl T.int bb_int ?_
      walk_at "e"
      refine cd_int ?_
      refine od_add ?_
      walk_at "e"
      refine od_add ?_
      walk_at "e"
      refine ⟨_, _, rfl, rfl, g0, ?_⟩
      exact ws_nil ⟨_, _, Int.emod_nonneg _ (by omega), Int.emod_lt_of_pos _ g0, rfl⟩
    · rintro Γ2 ⟨b, s3, b0, b1, rfl⟩
      refine ws_cons ?_
      refine ws_set (i := 2) sc_mixed.nd rfl (.inl rfl) (show 2 < 6 by decide) ?_
      refine we_add ?_
      refine we_mulS ?_
      walk_at "e"
      refine ⟨_, _, rfl, rfl, .inr ⟨by decide, by decide⟩, ?_⟩
      walk_at "e"
      refine ⟨_, _, rfl, rfl, ⟨by decide, by decide, by omega⟩, ?_⟩
      walk_at "e"
      refine ⟨_, _, rfl, rfl, g0, ?_⟩
      refine od_add ?_
      exact ws_nil ⟨_, _, _, _, rfl⟩
  · rintro Γ2 ⟨f, s1, s2, s3, rfl⟩
    refine ws_cons ?_
    walk_at "e"
    exact h f
def spTake (d : Dr) : DS := ⟨fun ds k => ∃ n : Int, ds = [.obj d.a, .int n] ∧ 0 < n ∧ n ≤ 1000 ∧ ∀ r : Nat, (r : Int) < n → k (.ret (.int r)), fun _ _ _ i ⟨n, e, p, qw, h⟩ => ⟨n, e, p, qw, fun r zw => i _ (h r zw)⟩⟩
abbrev sTake : Stmt := top 27
theorem sc_take : FnScope ["draw", "amount", "found"] ["draw", "amount"] (defScope sTake) := ⟨rfl, rfl, rfl, by decide +kernel, rfl, by decide +kernel, by decide +kernel⟩
theorem ok_take {d : Dr} {f : Addr} {fd : FuncData} (Fn : Fun K "_law_take" "_law_take" sTake f fd) (T : Tx mg) (g1 : Gd P w K mg base "_law_mixed" 1 d.cfg ["draw"] (spMixed d)) : FnOk P w K mg base (L2.CX P w) 2 f fd ["draw", "amount"] (SpD K d.cfg 2 (spTake d)) := by
  refine defn (k := 1) (ps := ["draw", "amount"]) Fn sc_take fun cdv A outer sh H E hr H0 B0 ds Φ hlw h R => ?_
  obtain ⟨n, rfl, n0, n1, h⟩ := h
  have hu : (A.deeper (envOfC "_law_take" (defScope sTake) sh.heap.objs.size f cdv)).units + 1 < cLine := by have := hr.un; omega
  have tail : WSs (cxOf (L2.CX P w) P w K mg base ["draw", "amount", "found"] "_law_take" (defScope sTake) f cdv A outer sh H E) ⟨d.cfg, H0, B0⟩ ((defBody sTake).drop 1) [some (.val (.obj d.a)), some (.val (.int n)), none] { nx := fun _ => Φ (.ret .non), rt := fun d => Φ (.ret d) } := by
    refine ws_cons ?_
    refine ws_set (i := 2) sc_take.nd rfl (.inl rfl) (show 2 < 3 by decide) ?_
    refine we_mod ?_
    refine we_callTy cr_intX rfl T.int bb_int ?_
    refine wa_cons ?_
    refine we_drI (i := 0) (d := d) rfl hu rfl (by walk_at "vis") rfl (.inl rfl) fun a => ?_
    walk_at "e"
    refine cd_int ?_
    walk_at "e"
    refine ⟨_, _, rfl, rfl, n0, ?_⟩
    refine ws_cons ?_
    refine ws_drPut (i := 0) rfl hu rfl (by walk_at "vis") (.inl rfl) ?_
    refine we_fdiv ?_
    refine we_callTy cr_intX rfl T.int bb_int ?_
    refine wa_cons ?_
    refine we_drI (i := 0) (d := d) rfl hu rfl (by walk_at "vis") rfl (.inl rfl) fun b => ?_
    walk_at "e"
    refine cd_int ?_
    walk_at "e"
    refine ⟨_, _, rfl, rfl, ⟨n0, ?_⟩, rfl, _, rfl, ?_⟩
    · refine Nat.lt_of_le_of_lt (Nat.log2_le_self _) ?_
      omega
    · refine ws_cons ?_
      walk_at "e"
      have q0 := Int.emod_nonneg a (show n ≠ 0 by omega)
      have q1 := Int.emod_lt_of_pos a n0
      have zw := h (a % n).toNat (by omega)
      rw [Int.toNat_of_nonneg q0] at zw
      exact zw
  refine ws_cons ?_
  refine ws_if ?_
  refine wt_cmp (op_eqX hr) ?_ (nomark _)
  refine we_drI (i := 0) (d := d) rfl hu rfl (by walk_at "vis") rfl (.inl rfl) fun a => ?_
  walk_at "e"
  refine od_eq rfl rfl ⟨_, rfl, ?_⟩
  cases D.eq (.int a) (.int 0) with
  | false =>
    refine itF ?_
    exact ws_nil tail
  | true =>
    refine itT ?_
    refine ws_cons ?_
    refine ws_drPut (i := 0) rfl hu rfl (by walk_at "vis") (.inl rfl) ?_
    refine we_large (i := 0) (d := d) rfl hr rfl (by walk_at "vis") rfl (fun n => ⟨rfl, _, rfl, ws_nil tail⟩) ?_
    refine we_callC R (g1.dfn hr (by decide)) rfl ?_
    walk_at "e"
    exact ⟨rfl, rfl, fun n => ⟨rfl, _, rfl, ws_nil tail⟩⟩
end
end L2.Px

namespace L2.Px
open PySem PySem.Spec
open PyProof.Rows
variable [Wld]


section
variable {X : Cx} {F : Fm} {Γ : Gam}
theorem wn_list [F.c.Ok] {Ψ : OD → Gam → Prop} {e : Expr} {p pos : Pos} (hg : Gl X "list") (hmw : X.mg "list" = none)
    (h : WA X F [e] Γ fun as Γ1 => ∃ d ds, as = [d] ∧ (d = .lst ds ∨ d = .tup ds) ∧ Ψ (.lst ds) Γ1)
    (hen : starEach (e :: []) X.env = (false, eval e X.env) :: starEach [] X.env := by rfl) (hpl : (backTo pos (starEach [] X.env)).any (·.1) = false := by rfl) : WN X F (.Call (.Name "list" p) [e] [] pos) Γ Ψ := by
  intro B τ H sh Q qw
  refine wp_of (pe_callTy cr_listX hg hmw bb_list pa_wp (by decide) (by decide) hen hpl) (h B τ H sh _ fun vs ds B1 Γ1 H1 p n r => ?_)
  obtain ⟨d, xs, rfl, hdt, p⟩ := p
  cases r with
  | cons r1 r2 =>
    cases r2
    rcases hdt with rfl | rfl
    · cases r1 with
      | @lst a ys _ hsa ha => exact ⟨a, ys, rfl, .inl (SqL.of (n.st.bH _ _ hsa).1), fun l hlw => wn_of sh qw n hlw p ⟨_, rfl, ha⟩⟩
    · cases r1 with
      | @tup a ys _ hsa ha => exact ⟨a, ys, rfl, .inr (.inl (n.st.rd hsa)), fun l hlw => wn_of sh qw n hlw p ⟨_, rfl, ha⟩⟩
theorem ints_era : ∀ (l : List Int) (r : Nat), (D.ints l).eraseIdx r = D.ints (l.eraseIdx r)
  | [], _ => rfl
  | _ :: _, 0 => rfl
  | x :: l, r + 1 => congrArg (D.int x :: ·) (ints_era l r)
theorem era_perm : ∀ (l : List Int) (r : Nat) (h : r < l.length), ([l[r]] ++ l.eraseIdx r).Perm l
  | _ :: _, 0, _ => List.Perm.refl _
  | x :: l, r + 1, h => (List.Perm.swap x (l[r]'(Nat.lt_of_succ_lt_succ h)) (l.eraseIdx r)).trans (List.Perm.cons x (era_perm l r (Nat.lt_of_succ_lt_succ h)))
theorem imm_ints (a : List Int) : D.immA (D.ints a) = true := by
  induction a with
  | nil => rfl
  | cons x a ih => exact ih
end
section
variable {P : Program} {w : World} {K : PySem.W.Frag} {mg : Str → Option Value} {base : Heap}
/-! ### _law_pick, _law_shuffled -/
def spPick (d : Dr) : DS := ⟨fun ds k => ∃ xs : List D, ds = [.obj d.a, .lst xs] ∧ 1 ≤ xs.length ∧ xs.length ≤ 1000 ∧ ∀ x ∈ xs, k (.ret x), fun _ _ _ i ⟨n, e, p, qw, h⟩ => ⟨n, e, p, qw, fun r zw => i _ (h r zw)⟩⟩
abbrev sPick : Stmt := top 28
theorem sc_pick : FnScope ["draw", "some"] ["draw", "some"] (defScope sPick) := ⟨rfl, rfl, rfl, by decide +kernel, rfl, by decide +kernel, by decide +kernel⟩
theorem ok_pick {d : Dr} {f : Addr} {fd : FuncData} (Fn : Fun K "_law_pick" "_law_pick" sPick f fd) (T : Tx mg) (g1 : Gd P w K mg base "_law_take" 2 d.cfg ["draw", "amount"] (spTake d)) : FnOk P w K mg base (L2.CX P w) 3 f fd ["draw", "some"] (SpD K d.cfg 2 (spPick d)) := by
  refine defn (k := 2) (ps := ["draw", "some"]) Fn sc_pick fun cdv A outer sh H E hr H0 B0 ds Φ hlw h R => ?_
  obtain ⟨xs, rfl, n0, n1, h⟩ := h
  refine ws_cons ?_
  walk_at "e"
  refine we_ix ?_
  walk_at "e"
  refine we_callC R (g1.dfn hr (by decide)) rfl ?_
  walk_at "e"
  refine we_callB cr_lenX rfl T.len bb_len ?_
  walk_at "e"
  refine cd_len (.inl rfl) ?_
  walk_at "e"
  refine ⟨rfl, (xs.length : Nat), rfl, by omega, by omega, fun r hr => ?_⟩
  have hlw : r < xs.length := by omega
  refine od_ix (.inl rfl) (d := xs[r]) ?_ (h _ (List.getElem_mem hlw))
  unfold L2.atI ixN
  rw [if_pos (by omega), if_pos (by omega)]
  show xs[(r : Int).toNat]? = _
  rw [Int.toNat_natCast, List.getElem?_eq_getElem hlw]
def spShuffled (d : Dr) : DS := ⟨fun ds k => ∃ xs : List Int, ds = [.obj d.a, .lst (D.ints xs)] ∧ xs.length ≤ 1000 ∧ ∀ ys : List Int, ys.Perm xs → k (.ret (.lst (D.ints ys))), fun _ _ _ i ⟨n, e, qw, h⟩ => ⟨n, e, qw, fun r zw => i _ (h r zw)⟩⟩
abbrev sShuffled : Stmt := top 29
theorem sc_shuffled : FnScope ["draw", "some", "left", "found"] ["draw", "some"] (defScope sShuffled) := ⟨rfl, rfl, rfl, by decide +kernel, rfl, by decide +kernel, by decide +kernel⟩
theorem ok_shuffled {d : Dr} {f : Addr} {fd : FuncData} (Fn : Fun K "_law_shuffled" "_law_shuffled" sShuffled f fd) (T : Tx mg) (g1 : Gd P w K mg base "_law_take" 2 d.cfg ["draw", "amount"] (spTake d)) : FnOk P w K mg base (L2.CX P w) 3 f fd ["draw", "some"] (SpD K d.cfg 2 (spShuffled d)) := by
  refine defn (k := 2) (ps := ["draw", "some"]) Fn sc_shuffled fun cdv A outer sh H E hr H0 B0 ds Φ hlw h R => ?_
  obtain ⟨xs, rfl, n1, h⟩ := h
  refine ws_cons ?_
  refine ws_par (i := 2) (j := 3) rfl sc_shuffled.nd rfl rfl (by decide) (show 2 < 4 by decide) (show 3 < 4 by decide) rfl rfl (wx_new ?_)
  refine wn_list rfl T.list ?_
  walk_at "e"
  refine ⟨_, _, rfl, .inl rfl, ?_⟩
  refine wx_new ?_
  refine wn_lst (wa_nil ⟨Nat.zero_le _, ?_⟩)
  refine ws_cons ?_
  refine ws_while (passes_of rfl) (fun m Γ => ∃ l f : List Int, Γ = [some (.val (.obj d.a)), some (.val (.lst (D.ints xs))), some (.own (.lst (D.ints l))), some (.own (.lst (D.ints f)))] ∧ l.length = m ∧ (f ++ l).Perm xs) xs.length ⟨xs, [], rfl, rfl, List.Perm.refl _⟩ ?_
  rintro m Γ ⟨l, f, rfl, hmw, hp⟩
  have hlen : f.length + l.length = xs.length := by rw [← List.length_append]; exact hp.length_eq
  refine wt_lend (i := 2) rfl ?_ ?_
  · intro j od hjw e
    match j, e with
    | 3, e =>
      cases e
      exact imm_ints f
  · refine wt_cmp (op_neX hr) ?_ (nomark _)
    walk_at "e"
    refine ⟨by decide, ?_⟩
    refine od_ne (ints_fl _ _) (show D.flA (D.ints []) 60 = true from rfl) ⟨_, rfl, rfl, ?_⟩
    rw [show D.eq (.lst (D.ints l)) (.lst []) = decide (l = []) from eq_lints l []]
    cases l with
    | nil =>
      have hf : f.Perm xs := by rw [List.append_nil] at hp; exact hp
      refine itF ?_
      refine wss_give (i := 3) rfl ?_
      walk_at "e"
      exact h f hf
    | cons x0 l0 =>
      have hlc : (x0 :: l0).length = l0.length + 1 := rfl
      refine itT ?_
      refine ws_cons ?_
      refine ws_expr ?_
      refine we_append (i := 3) rfl (by walk_at "vis") rfl ?_
      refine we_popAt (i := 2) rfl (by walk_at "vis") rfl ?_
      refine we_callC R (g1.dfn hr (by decide)) rfl ?_
      walk_at "e"
      refine we_lend (i := 2) rfl ?_ ?_
      · intro j od hjw e
        match j, e with
        | 3, e =>
          cases e
          exact imm_ints f
      · refine we_callB cr_lenX rfl T.len bb_len ?_
        walk_at "e"
        refine cd_len (.inl rfl) ⟨rfl, rfl, ?_⟩
        walk_at "e"
        refine ⟨rfl, ((x0 :: l0).length : Nat), by rw [ints_len], by omega, by omega, fun r hr2 => ?_⟩
        have hr3 : r < (x0 :: l0).length := by omega
        refine ⟨D.ints (x0 :: l0), r, .int (x0 :: l0)[r], rfl, rfl, by omega, ?_, ?_⟩
        · unfold D.ints
          rw [List.getElem?_map, List.getElem?_eq_getElem hr3]
          rfl
        · refine ⟨D.ints f, rfl, by rw [ints_len]; omega, ?_⟩
          refine ws_nil ⟨l0.length, by omega, (x0 :: l0).eraseIdx r, f ++ [(x0 :: l0)[r]], ?_, ?_, ?_⟩
          · have ea1 : (D.ints (x0 :: l0)).eraseIdx r = D.ints ((x0 :: l0).eraseIdx r) := ints_era _ _
            have e2 : D.ints f ++ [D.int (x0 :: l0)[r]] = D.ints (f ++ [(x0 :: l0)[r]]) := by
              unfold D.ints
              rw [List.map_append]
              rfl
            rw [ea1, e2]
            rfl
          · rw [List.length_eraseIdx, if_pos hr3]
            rfl
          · refine List.Perm.trans ?_ hp
            rw [List.append_assoc]
            refine List.Perm.append_left f ?_
            exact era_perm _ _ hr3
end
end L2.Px

namespace L2.Px
open PySem PySem.Spec
open PyProof.Rows
variable [Wld]


section
variable {X : Cx} {F : Fm} {Γ : Gam}
def eqZ (zw : Int) : Value → Bool
  | .int a _ => a == zw
  | _ => false
def rTIx (K : PySem.W.Frag) : V → List V → Hp → VK → Prop := fun x xs H Q => ∃ p, ∃ ys : List Int, ∃ (zw : Int) (j : Nat), x = .ref p ∧ xs = [.int zw] ∧ SqT K H p (ys.map V.int) ∧ ys[j]? = some zw ∧ (∀ m, m < j → ys[m]? ≠ some zw) ∧ Q (.int (j : Nat)) H
theorem mt_tindex : MtR X "tuple.index" (rTIx X.K) := by
  intro pq sh τ H x xs v us Q I rxw rs h
  obtain ⟨p, ys, zw, j, rfl, rfl, hq, hyw, hno, qw⟩ := h
  cases rxw
  obtain ⟨u, rfl, t, rfl⟩ := vals1 rs
  obtain ⟨its, r, pl, hzz⟩ := I.tuple hq
  obtain ⟨⟨cls, dd, dt, sl⟩, hob, hc, n, hdt⟩ := pl
  simp only at hc hdt
  subst hc
  subst hdt
  have hlw : its.toArray.size = ys.length := by rw [List.size_toArray, ← r.length, List.length_map]
  have hjw : j < its.toArray.size := by rw [hlw]; exact (List.getElem?_eq_some_iff.mp hyw).1
  have at' : ∀ (m : Nat) (hmw : m < its.toArray.size), ∃ y t', ys[m]? = some y ∧ its.toArray[m] = Value.int y t' := fun m hmw => by
    have hm' : m < ys.length := by rw [← hlw]; exact hmw
    obtain ⟨w, hw, t', hw'⟩ := r.get (i := m) (x := .int ys[m]) (by simp [hm'])
    refine ⟨ys[m], t', List.getElem?_eq_getElem hm', ?_⟩
    have e := (List.getElem?_eq_some_iff.mp hw).2
    rw [← hw', ← e]
    simp
  refine call_meets PySem.F.slot_tuple_index ⟨_, hob, rfl⟩ PySem.F.entry_tuple_index (PySem.F.args_tuple_index_2 _ _) (_root_.TI.tuple_indexAt p its.toArray n dd sl (.int zw t) (eqZ zw) j hjw ?_ ?_)
    ⟨hob, fun w hw => ?_, ⟨.int (j : Nat), H, I.tok _, ⟨_, rfl⟩, qw⟩⟩
  · obtain ⟨y, t', ha1, h2⟩ := at' j hjw
    rw [hyw] at ha1
    cases ha1
    rw [h2]
    show (zw == zw) = true
    exact beq_self_eq_true zw
  · intro m hmw hmj
    obtain ⟨y, t', ha1, h2⟩ := at' m hmw
    rw [h2]
    show (y == zw) = false
    exact beq_eq_false_iff_ne.mpr fun e => hno m hmj (e ▸ ha1)
  · obtain ⟨m, hmw, e⟩ := Array.mem_iff_getElem.mp hw
    obtain ⟨y, t', ha1, h2⟩ := at' m hmw
    rw [← e, h2]
    exact PySem.SeqAt.EqAt.int_int y t' zw t
def tTix (K : PySem.W.Frag) (to : TE) (t : TA) : TE := fun τ H Q => to τ H fun x H1 => ∃ (a : Addr) (ob : Obj) (ys : List V), x = .ref a ∧ H1 a = some (.frz ob (.tup ys)) ∧ ob.dict = none ∧ t τ H1 fun xs H2 => rTIx K x xs H2 Q
theorem pe_tix {o e : Expr} {apos cpos : Pos} {to : TE} {t : TA} (hob : PE X o to) (ha : PA X (e :: []) t)
    (hbase : attributeBase o "index" X.env (eval o X.env) = eval o X.env := by rfl)
    (hfew : ((backTo cpos (starEach (e :: []) X.env)).all (fun x => !x.1) && (backToKw cpos (keywordEach [] X.env)).all (fun x => x.1.isSome)
      && decide ((e :: []).length + ([] : List Keyword).length + (if ([] : List Keyword).isEmpty then 0 else 1) < 30)) = true := by rfl)
    (hline : (apos.endLine == cpos.line) = true := by rfl) (hsa : starEach (e :: []) X.env = (false, eval e X.env) :: starEach [] X.env := by rfl) (hplain : (backTo cpos (starEach [] X.env)).any (·.1) = false := by rfl) :
    PE X (.Call (.Attribute o "index" apos) [e] [] cpos) (tTix X.K to t) := by
  refine ⟨fun pq sh τ H Q I h => ?_⟩
  refine wpAny_Call_method_late hbase hfew hline rfl (thn (hob.run pq sh τ H _ I h) fun v s1 ⟨x, H1, I1, r1, a, ob, ys, ex, hH, hdt, q1⟩ => ?_)
  subst ex
  obtain rfl : v = Value.ref a := r1
  obtain ⟨hob, _, its, _, o2, ho2, hc2, _⟩ : s1.heap.get? a = some ob ∧ _ := I1.hok a _ hH
  refine ⟨"tuple", "tuple.index", PySem.F.plainAttrs_tuple, PySem.F.slot_tuple_index, PySem.F.type_tuple_index, ⟨o2, ho2, hc2⟩, fun b e => ?_, ?_⟩
  · cases e
    exact ⟨ob, hob, hdt⟩
  have hA := ha.run cpos pq s1 τ H1 _ I1 q1
  rw [hsa] at hA ⊢
  refine Calls.callWith_builtin (by show (false || (backTo cpos (starEach [] X.env)).any (·.1)) = false; rw [hplain] <;> rfl) (Calls.evalArgs_plain ?_)
  exact thn hA fun us s2 ⟨vs, H2, I2, r2, q2⟩ => mt_tindex pq s2 τ H2 (.ref a) vs (.ref a) us Q I2 rfl r2 q2
theorem we_tindex [F.c.Ok] {e e2 : Expr} {p2 pos : Pos} {Φ : D → Gam → Prop} (h : WE X F e Γ fun d Γ1 => ∃ ys : List Int, d = .ntup (D.ints ys) ∧ WE X F e2 Γ1 fun k Γ2 => ∃ (zw : Int) (j : Nat), k = .int zw ∧ ys[j]? = some zw ∧ (∀ m, m < j → ys[m]? ≠ some zw) ∧ Φ (.int (j : Nat)) Γ2)
    (hline : (p2.endLine == pos.line) = true := by rfl)
    (hbase : attributeBase e "index" X.env (eval e X.env) = eval e X.env := by rfl)
    (hsa : starEach (e2 :: []) X.env = (false, eval e2 X.env) :: starEach [] X.env := by rfl)
    (hfew : ((backTo pos (starEach (e2 :: []) X.env)).all (fun x => !x.1) && (backToKw pos (keywordEach [] X.env)).all (fun x => x.1.isSome)
      && decide ((e2 :: []).length + ([] : List Keyword).length + (if ([] : List Keyword).isEmpty then 0 else 1) < 30)) = true := by rfl)
    (hpl : (backTo pos (starEach [] X.env)).any (·.1) = false := by rfl) :
    WE X F (.Call (.Attribute e "index" p2) [e2] [] pos) Γ Φ := by
  intro B τ H sh Q qw
  refine wp_of (pe_tix pe_wp (pa_cons pe_wp pa_nil hsa) hbase hfew hline hsa hpl) (h B τ H sh _ fun v d B1 Γ1 H1 p n r => ?_)
  obtain ⟨ys, rfl, p⟩ := p
  cases r with
  | @ntup a vs _ ob h0 ha hr =>
    have evw := RpA.ints hr
    subst evw
    refine ⟨a, ob, _, rfl, (n.st.bH _ _ ha).1, h0, p B1 τ H1 n.st _ fun v2 d2 B2 Γ2 H2 p2 n2 r2 => ?_⟩
    obtain ⟨zw, j, rfl, hzz, hmw, p2⟩ := p2
    cases r2
    exact ⟨a, ys, zw, j, rfl, rfl, .inl (.inr ⟨ob, (n2.st.bH _ _ (n2.ex _ _ ha)).1⟩), hzz, hmw, qw _ _ _ _ _ p2 (n.trans n2) (.int _)⟩
/-- seen as any tuple -/
theorem we_weak {e : Expr} {Φ : D → Gam → Prop} (h : WE X F e Γ fun d Γ1 => ∃ ys : List D, d = .ntup ys ∧ Φ (.tup ys) Γ1) : WE X F e Γ Φ := by
  intro B τ H sh Q qw
  refine h B τ H sh Q fun v d B1 Γ1 H1 p n r => ?_
  obtain ⟨ys, rfl, p⟩ := p
  cases r with
  | ntup h0 hsa ha => exact qw _ _ _ _ _ p n (.tup (.inr ⟨_, hsa⟩) ha)
/-! ### tuple(list): the object known -/
def rTupN (K : PySem.W.Frag) : List V → Hp → VK → Prop := fun xs H Q => ∃ p ys, xs = [.ref p] ∧ SqL K H p ys ∧ ∀ l ob, H l = none → ob.dict = none → Q (.ref l) (upd H l (.frz ob (.tup ys)))
theorem cr_tupN : CallR X (.type "tuple") (rTupN X.K) := by
  intro pq sh τ H xs us Q I r h
  obtain ⟨p, ys, rfl, hq, qw⟩ := h
  obtain ⟨u, rfl, rxw⟩ := vals1 r
  cases rxw
  obtain ⟨its, r', pl, hzz⟩ := I.list hq
  have hlen := r'.length
  refine call_tuple_list pl.isList (fun h' kp => ?_) (by simp only [List.size_toArray] <;> omega)
  have I1 : Inv X pq τ H { sh with heap := h' } := I.kept (t' := sh.toks) kp
  have I2 : Inv X pq τ (upd H h'.objs.size (.frz { cls := .type "tuple", data := .seq its.toArray } (.tup ys))) { sh with heap := h'.push { cls := .type "tuple", data := .seq its.toArray } } :=
    I1.laid (t' := sh.toks) (fun b o e => Heap.get?_push_of_some _ e) (Nat.le_refl _) (show ObjOk X.prog X.w _ _ _ (.frz _ (.tup ys)) from ⟨Heap.get?_push_size _ rfl, hzz, its, r', IsTup.new _ _⟩)
  exact ⟨.ref h'.objs.size, _, I2, rfl, qw _ _ (I1.hok.fresh (Nat.le_refl _)) rfl⟩
theorem cd_tupN {K : PySem.W.Frag} {ds : List D} {Ψ : D → Prop} (h : Ψ (.ntup ds)) : CallD K (rTupN K) [.lst ds] Ψ := by
  intro F _ Γ B τ H vs sh r Q qw
  cases r with
  | cons r1 r2 =>
    cases r2
    cases r1 with
    | @lst a ys _ hsa ha =>
      refine ⟨a, ys, rfl, SqL.of (sh.bH _ _ hsa).1, fun l ob hlw hdt => ?_⟩
      have n := sh.frozen (o := .frz ob (.tup ys)) hlw
      exact qw _ _ _ _ h n (.ntup hdt upd_same (RpA.mono n.ex _ _ ha))
end
end L2.Px

namespace L2.Px
open PySem PySem.Spec
open PyProof.Rows
variable [Wld]


section
variable {P : Program} {w : World} {K : PySem.W.Frag} {mg : Str → Option Value} {base : Heap}
/-! ### the law's own: _law_is_number, _law_is_line, _law_then, _law_back, _law_times -/
abbrev sLNum : Stmt := top 35
theorem sc_lnum : FnScope ["thing"] ["thing"] (defScope sLNum) := ⟨rfl, rfl, rfl, by decide +kernel, rfl, by decide +kernel, by decide +kernel⟩
theorem ok_lnum {f : Addr} {fd : FuncData} (Fn : Fun K "_law_is_number" "_law_is_number" sLNum f fd) (T : Tx mg) : FnOk P w K mg base (L2.CX P w) 1 f fd ["thing"] (SpD K c0 1 spIsNumber) := by
  refine defn (k := 0) (ps := ["thing"]) Fn sc_lnum fun cdv A outer sh H E hr H0 B0 ds Φ hlw h R => ?_
  obtain ⟨d, rfl, p, h⟩ := h
  rw [← num_of d] at h
  refine ws_cons ?_
  walk_at "e"
  refine we_callB cr_isiX rfl T.isinstance bb_isinstance ?_
  walk_at "e"
  refine we_ty rfl T.int bb_int ?_
  walk_at "e"
  refine cd_isi p (kit_in p) ⟨d.isInt, rfl, ?_⟩
  cases e : d.isInt with
  | false =>
    rw [e] at h
    exact h
  | true =>
    rw [e] at h
    walk_at "e"
    refine we_callB cr_isiX rfl T.isinstance bb_isinstance ?_
    walk_at "e"
    refine we_ty rfl T.bool bb_bool ?_
    walk_at "e"
    exact cd_isi p (kit_bl p) ⟨d.isBl, rfl, h⟩
theorem fl_filter {t : D → Bool} : ∀ {xs : List D} (n : Nat), D.flA xs n = true → D.flA ((xs.filter t).map id) n = true
  | [], _, _ => rfl
  | x :: xs, n, h => by
    have qw : x.fl n = true ∧ D.flA xs n = true := by
      have zw : (x.fl n && D.flA xs n) = true := h
      simpa using zw
    have ih := fl_filter (t := t) n qw.2
    rw [List.filter_cons]
    split
    · show (x.fl n && D.flA ((xs.filter t).map id) n) = true
      rw [qw.1, ih]
      rfl
    · exact ih
theorem eq_nil (ys : List D) : D.eq (.lst ys) (.lst []) = ys.isEmpty := by cases ys <;> rfl
theorem fil_all (xs : List D) : ((xs.filter fun x => !x.isNum).map id).isEmpty = xs.all D.isNum := by
  induction xs with
  | nil => rfl
  | cons x xs ih =>
    rw [List.filter_cons]
    cases e : x.isNum with
    | true =>
      show ((xs.filter fun x => !x.isNum).map id).isEmpty = (x.isNum && xs.all D.isNum)
      rw [e, ih]
      rfl
    | false =>
      show false = (x.isNum && xs.all D.isNum)
      rw [e]
      rfl
/-- what _law_is_line may be asked about -/
def D.okL (d : D) : Prop := d.okT ∧ ∀ xs, d = .tup xs → D.flA xs 59 = true
def spLine : DS := ⟨fun ds k => ∃ d : D, ds = [d] ∧ d.okL ∧ k (.ret (.bl d.each)), fun _ _ _ i ⟨d, e, p, h⟩ => ⟨d, e, p, i _ h⟩⟩
abbrev sLine : Stmt := top 36
theorem sc_line : FnScope ["thing", "item"] ["thing"] (defScope sLine) := ⟨rfl, rfl, rfl, by decide +kernel, rfl, by decide +kernel, by decide +kernel⟩
theorem ok_line {f : Addr} {fd : FuncData} (Fn : Fun K "_law_is_line" "_law_is_line" sLine f fd) (T : Tx mg) (g1 : Gd P w K mg base "_law_is_number" 1 c0 ["thing"] spIsNumber) : FnOk P w K mg base (L2.CX P w) 2 f fd ["thing"] (SpD K c0 1 spLine) := by
  refine defn (k := 1) (ps := ["thing"]) Fn sc_line fun cdv A outer sh H E hr H0 B0 ds Φ hlw h R => ?_
  obtain ⟨d, rfl, ⟨⟨p, pt⟩, pf⟩, h⟩ := h
  refine ws_cons ?_
  walk_at "e"
  refine we_callB cr_isiX rfl T.isinstance bb_isinstance ?_
  walk_at "e"
  refine we_ty rfl T.tuple bb_tuple ?_
  walk_at "e"
  refine cd_isi p (kit_tup p) ⟨d.isTup, rfl, ?_⟩
  cases d with
  | tup xs =>
    obtain ⟨hlen, hxw⟩ := pt xs rfl
    have hf := pf xs rfl
    walk_at "e"
    refine we_cmp (op_eqX hr) ?_ (nomark _)
    refine we_newL (wn_filter (i := 1) id (fun x => !x.isNum) rfl sc_line.nd (blkOk_by (N := ["thing", "item"]) (sc := defScope sLine) (by decide +kernel)) rfl (.inl rfl) (show 1 < 2 by decide) (wi_tup ?_))
    walk_at "e"
    refine ⟨xs, rfl, (fun od zw => nomatch zw), Nat.le_trans hlen (by decide), rfl, fun j x hjw s1 H1 C1 cl1 fp1 => ?_, ?_⟩
    · walk_at "e"
      refine we_call rs_blk (g1.dfn hr (by decide)) rfl ?_
      walk_at "e"
      refine ⟨rfl, x, rfl, hxw x (List.mem_of_getElem? hjw), _, rfl, rfl, rfl, fun _ sh H C cl fp => ?_⟩
      walk_at "e"
      exact ⟨rfl, rfl⟩
    · refine ⟨_, rfl, ?_⟩
      walk_at "e"
      refine ⟨Nat.zero_le _, ?_⟩
      refine od_eq (fl_filter 59 hf) rfl ⟨_, rfl, ?_⟩
      rw [eq_nil, fil_all]
      cases e : xs.all D.isNum with
      | false =>
        walk_at "e"
        have e3 : D.each (.tup xs) = false := by show (xs.all D.isNum && _) = false; rw [e]; rfl
        rw [e3] at h
        exact h
      | true =>
        walk_at "e"
        obtain ⟨ns, rfl⟩ : ∃ ns, xs = D.ints ns := ⟨_, ints_of e⟩
        refine we_cmp (op_eqX hr) ?_ (nomark _)
        refine we_callB (cr_sortD hr) rfl T.sorted bb_sorted ?_
        walk_at "e"
        have hl2 : ns.length ≤ 1000 := by
          have qw := hlen
          rw [ints_len] at qw
          exact qw
        refine cd_sorted (.inr rfl) (srt_ok_ints ns (Nat.le_trans hl2 (by decide))) ?_
        refine we_listRg rfl rfl T.list rfl T.range ?_
        refine we_callB cr_lenX rfl T.len bb_len ?_
        walk_at "e"
        refine cd_len (.inr rfl) ⟨(D.ints ns).length, rfl, by rw [ints_len]; omega, ?_⟩
        rw [srt_ints, rng_ints]
        refine od_eq (ints_fl _ _) (ints_fl _ _) ?_
        rw [eq_lints, ints_len]
        have e3 : D.each (.tup (D.ints ns)) = decide (ns.mergeSort (fun a b => decide (a ≤ b)) = (List.range ns.length).map fun i : Nat => (i : Int)) := each_ints ns
        rw [e3] at h
        exact h
  | _ =>
    walk_at "e"
    exact h
end
end L2.Px

namespace L2.Px
open PySem PySem.Spec
open PyProof.Rows
variable [Wld]


omit [Wld] in
def ixI (zw : Int) : List Int → Nat
  | [] => 0
  | x :: a => if x = zw then 0 else ixI zw a + 1
theorem ixI_get {zw : Int} : ∀ {a : List Int}, zw ∈ a → a[ixI zw a]? = some zw
  | x :: a, h => by
    unfold ixI
    split
    · rename_i e
      rw [e]
      rfl
    · rename_i e
      have qw : zw ∈ a := by
        rcases List.mem_cons.mp h with w | w
        · exact absurd w.symm e
        · exact w
      exact ixI_get qw
theorem ixI_first {zw : Int} : ∀ {a : List Int} {m : Nat}, m < ixI zw a → a[m]? ≠ some zw
  | [], m, h => absurd h (Nat.not_lt_zero _)
  | x :: a, m, h => by
    unfold ixI at h
    split at h
    · exact absurd h (Nat.not_lt_zero _)
    · rename_i e
      match m with
      | 0 => exact fun qw => e (Option.some.inj qw)
      | m + 1 => exact ixI_first (a := a) (m := m) (by omega)
omit [Wld] in
def lbI (a : List Int) : List Int := (List.range a.length).map fun sh : Nat => ((ixI sh a : Nat) : Int)
theorem Pm.has {n : Nat} {a : List Int} (h : Pm n a) {sh : Nat} (hsa : sh < n) : (sh : Int) ∈ a := by
  have e : a.mergeSort leB = (List.range a.length).map fun i : Nat => (i : Int) := of_decide_eq_true h.each
  refine (List.mergeSort_perm a leB).mem_iff.mp ?_
  rw [e, h.len]
  exact List.mem_map.mpr ⟨sh, List.mem_range.mpr hsa, rfl⟩
section
variable {P : Program} {w : World} {K : PySem.W.Frag} {mg : Str → Option Value} {base : Heap}
abbrev sLThen : Stmt := top 37
theorem sc_lthen : FnScope ["one", "other", "spot"] ["one", "other"] (defScope sLThen) := ⟨rfl, rfl, rfl, by decide +kernel, rfl, by decide +kernel, by decide +kernel⟩
theorem ok_lthen {f : Addr} {fd : FuncData} (Fn : Fun K "_law_then" "_law_then" sLThen f fd) (T : Tx mg) : FnOk P w K mg base (L2.CX P w) 1 f fd ["one", "other"] (SpD K c0 2 spThenBy) := by
  refine defn (k := 0) (ps := ["one", "other"]) Fn sc_lthen fun cdv A outer sh H E hr H0 B0 ds Φ hlw h R => ?_
  obtain ⟨a, b, rfl, p, hin, h⟩ := h
  refine ws_cons ?_
  walk_at "e"
  refine we_callTy cr_tupX rfl T.tuple bb_tuple ?_
  walk_at "e"
  refine we_newL (wn_map (i := 2) (fun x => .int (b.getD x.toI.toNat 0)) rfl sc_lthen.nd (blkOk_by (N := ["one", "other", "spot"]) (sc := defScope sLThen) (by decide +kernel)) rfl (.inl rfl) (show 2 < 3 by decide) (wi_tup ?_))
  walk_at "e"
  refine ⟨_, rfl, (fun od zw => nomatch zw), by rw [ints_len]; exact Nat.le_trans p (by decide), rfl, fun j x hjw s1 H1 C1 cl1 fp1 => ?_, ?_⟩
  · obtain ⟨i, hi, rfl⟩ := ints_get hjw
    have qw := hin i (List.mem_of_getElem? hi)
    refine we_ix ?_
    walk_at "e"
    exact od_ix (.inr rfl) (at_ints qw.1 qw.2) ⟨rfl, rfl⟩
  · refine ⟨_, rfl, wa_nil ?_⟩
    have e : (D.ints a).map (fun x => D.int (b.getD x.toI.toNat 0)) = D.ints (thenI a b) := by
      unfold D.ints thenI
      rw [List.map_map, List.map_map]
      rfl
    rw [e]
    exact cd_tuple (.inl rfl) h
/-! ### _law_back -/
def spLBack : DS := ⟨fun ds k => ∃ a : List Int, ds = [.ntup (D.ints a)] ∧ a.length ≤ 1000 ∧ Pm a.length a ∧ k (.ret (.tup (D.ints (lbI a)))), fun _ _ _ i ⟨a, e, p, qw, h⟩ => ⟨a, e, p, qw, i _ h⟩⟩
abbrev sLBack : Stmt := top 38
theorem sc_lback : FnScope ["one", "spot"] ["one"] (defScope sLBack) := ⟨rfl, rfl, rfl, by decide +kernel, rfl, by decide +kernel, by decide +kernel⟩
theorem ok_lback {f : Addr} {fd : FuncData} (Fn : Fun K "_law_back" "_law_back" sLBack f fd) (T : Tx mg) : FnOk P w K mg base (L2.CX P w) 1 f fd ["one"] (SpD K c0 1 spLBack) := by
  refine defn (k := 0) (ps := ["one"]) Fn sc_lback fun cdv A outer sh H E hr H0 B0 ds Φ hlw h R => ?_
  obtain ⟨a, rfl, p, hp, h⟩ := h
  refine ws_cons ?_
  walk_at "e"
  refine we_callTy cr_tupX rfl T.tuple bb_tuple ?_
  walk_at "e"
  refine we_newL (wn_map (i := 1) (fun x => .int (ixI x.toI a : Nat)) rfl sc_lback.nd (blkOk_by (N := ["one", "spot"]) (sc := defScope sLBack) (by decide +kernel)) rfl (.inl rfl) (show 1 < 2 by decide) (wi_range1 rfl T.range ?_))
  refine we_callB cr_lenX rfl T.len bb_len ?_
  refine wa_cons (we_weak ?_)
  walk_at "e"
  refine ⟨_, rfl, ?_⟩
  walk_at "e"
  refine cd_len (.inr rfl) ?_
  rw [ints_len]
  refine ⟨(a.length : Nat), rfl, by omega, by omega, (fun od zw => nomatch zw), by rw [List.length_map, List.length_range]; omega, rfl, fun j x hjw s1 H1 C1 cl1 fp1 => ?_, ?_⟩
  · rw [List.getElem?_map] at hjw
    have hj2 : j < a.length := by
      by_cases zw : j < a.length
      · exact zw
      · rw [Int.toNat_natCast, List.getElem?_eq_none (by rw [List.length_range]; omega)] at hjw
        cases hjw
    rw [Int.toNat_natCast, List.getElem?_range hj2] at hjw
    cases hjw
    refine we_tindex ?_
    walk_at "e"
    refine ⟨a, rfl, ?_⟩
    walk_at "e"
    refine ⟨_, ixI (j : Int) a, rfl, ?_, fun m hmw => ?_, rfl, ?_⟩
    · rw [show (0 : Int) + (j : Nat) = (j : Nat) by omega]
      exact ixI_get (hp.has hj2)
    · rw [show (0 : Int) + (j : Nat) = (j : Nat) by omega]
      exact ixI_first hmw
    · show D.int _ = D.int ((ixI (0 + (j : Nat) : Int) a : Nat) : Int)
      rw [show (0 : Int) + (j : Nat) = (j : Nat) by omega]
  · refine ⟨_, rfl, wa_nil ?_⟩
    have e : ((List.range (((a.length : Nat) : Int)).toNat).map fun i : Nat => D.int (0 + (i : Nat))).map (fun x => D.int ((ixI x.toI a : Nat) : Int)) = D.ints (lbI a) := by
      unfold D.ints lbI
      rw [List.map_map, List.map_map, Int.toNat_natCast]
      refine List.map_congr_left fun i _ => ?_
      show D.int ((ixI (0 + (i : Nat) : Int) a : Nat) : Int) = _
      rw [show (0 : Int) + (i : Nat) = (i : Nat) by omega]
      rfl
    rw [e]
    exact cd_tuple (.inl rfl) h
end
end L2.Px
end
section
open L2 L2.Px PySem PySem.Spec PyProof.Rows
local macro_rules | `(tactic| walk_at "vis") => `(tactic| first | exact .inl rfl | exact .inr (.inl rfl) | exact .inr (.inr rfl))
local macro_rules | `(tactic| walk_at "n") => `(tactic| first
  | refine we_name (i := 0) rfl (by walk_at "vis") rfl ?_
  | refine we_name (i := 1) rfl (by walk_at "vis") rfl ?_
  | refine we_name (i := 2) rfl (by walk_at "vis") rfl ?_
  | refine we_name (i := 3) rfl (by walk_at "vis") rfl ?_
  | refine we_name (i := 4) rfl (by walk_at "vis") rfl ?_
  | refine we_name (i := 5) rfl (by walk_at "vis") rfl ?_
  | refine we_name (i := 6) rfl (by walk_at "vis") rfl ?_
  | refine we_name (i := 7) rfl (by walk_at "vis") rfl ?_
  | refine we_name (i := 8) rfl (by walk_at "vis") rfl ?_
  | refine we_name (i := 9) rfl (by walk_at "vis") rfl ?_)
local macro_rules | `(tactic| walk_at "e1") => `(tactic| first
  | ((with_reducible show (if _ then _ else _)); first | refine itT ?_ | refine itF ?_)
  | ((with_reducible show WE _ _ (.Name _ _) _ _); walk_at "n")
  | ((with_reducible show WE _ _ (.Constant (.int _) _ _) _ _); refine we_int ?_)
  | ((with_reducible show WE _ _ (.Constant (.str _) _ _) _ _); refine we_str ?_)
  | ((with_reducible show WE _ _ (.Constant (.bool _) _ _) _ _); refine we_bl ?_)
  | ((with_reducible show WE _ _ (.Constant .none _ _) _ _); refine we_non ?_)
  | ((with_reducible show WA _ _ (_ :: _) _ _); refine wa_cons ?_)
  | ((with_reducible show WA _ _ [] _ _); refine wa_nil ?_)
  | ((with_reducible show WE _ _ (.BoolOp _ [_] _) _ _); refine we_one ?_)
  | ((with_reducible show WE _ _ (.BoolOp .And _ _) _ _); refine we_and ?_)
  | ((with_reducible show WE _ _ (.BoolOp .Or _ _) _ _); refine we_or ?_)
  | ((with_reducible show WE _ _ (.UnaryOp .Not _ _) _ _); refine we_not ?_)
  | ((with_reducible show WE _ _ (.IfExp _ _ _ _) _ _); refine we_ifExp ?_)
  | ((with_reducible show WE _ _ (.Tuple _ _ _) _ _); refine we_tup ?_)
  | ((with_reducible show WE _ _ (.List _ _) _ _); refine we_lst ?_)
  | ((with_reducible show WE _ _ (.BinOp _ .Add _ _) _ _); refine we_add ?_)
  | ((with_reducible show WE _ _ (.BinOp _ .Sub _ _) _ _); refine we_sub ?_)
  | ((with_reducible show WE _ _ (.BinOp _ .Mult _ _) _ _); refine we_mul ?_)
  | ((with_reducible show WE _ _ (.BinOp _ .Mod _ _) _ _); refine we_mod ?_)
  | ((with_reducible show WE _ _ (.BinOp _ .FloorDiv _ _) _ _); refine we_fdiv ?_)
  | ((with_reducible show WE _ _ (.BinOp _ .Pow _ _) _ _); refine we_pow ?_)
  | ((with_reducible show WT _ _ (.UnaryOp .Not _ _) _ _); refine wt_not ?_)
  | ((with_reducible show WT _ _ (.BoolOp .And _ _) _ _); refine wt_ww (ww_and ?_))
  | ((with_reducible show WT _ _ (.BoolOp .Or _ _) _ _); refine wt_ww (ww_or ?_))
  | ((with_reducible show WW _ _ (.BoolOp .And [_] _) _ _); refine ww_and1 ?_)
  | ((with_reducible show WW _ _ (.BoolOp .Or [_] _) _ _); refine ww_or1 ?_)
  | ((with_reducible show WW _ _ (.BoolOp .And _ _) _ _); refine ww_and ?_)
  | ((with_reducible show WW _ _ (.BoolOp .Or _ _) _ _); refine ww_or ?_)
  | ((with_reducible show WSs _ _ (_ :: _) _ _); refine ws_cons ?_)
  | ((with_reducible show WSs _ _ [] _ _); refine ws_nil ?_)
  | ((with_reducible show WS _ _ (.Return (some _) _) _ _); refine ws_ret ?_)
  | ((with_reducible show WS _ _ (.If _ _ _ _) _ _); refine ws_if ?_)
  | ((with_reducible show WT _ _ (.Call _ _ _ _) _ _); refine wt_val ?_)
  | ((with_reducible show WT _ _ (.Name _ _) _ _); refine wt_val ?_))
local macro_rules | `(tactic| walk_at "e") => `(tactic| repeat' walk_at "e1")
namespace L2.Px
open PySem PySem.Spec
open PyProof.Rows
variable [Wld]


local macro_rules | `(tactic| walk_at "is_tuple") => `(tactic| (refine we_callB cr_isiX rfl (Tx.isinstance ‹Tx _›) bb_isinstance ?_; walk_at "e"; refine we_ty rfl (Tx.tuple ‹Tx _›) bb_tuple ?_; walk_at "e"; refine cd_isi rfl (kit_tup rfl) ⟨_, rfl, ?_⟩; walk_at "e"))
local macro_rules | `(tactic| walk_at "is_list") => `(tactic| (refine we_callB cr_isiX rfl (Tx.isinstance ‹Tx _›) bb_isinstance ?_; walk_at "e"; refine we_ty rfl (Tx.list ‹Tx _›) bb_list ?_; walk_at "e"; refine cd_isi rfl (kit_lst rfl) ⟨_, rfl, ?_⟩; walk_at "e"))
local macro_rules | `(tactic| walk_at "is_dict") => `(tactic| (refine we_callB cr_isiX rfl (Tx.isinstance ‹Tx _›) bb_isinstance ?_; walk_at "e"; refine we_ty rfl (Tx.dict ‹Tx _›) bb_dict ?_; walk_at "e"; refine cd_isi rfl (kit_dct rfl) ⟨_, rfl, ?_⟩; walk_at "e"))
local macro_rules | `(tactic| walk_at "is_bool") => `(tactic| (refine we_callB cr_isiX rfl (Tx.isinstance ‹Tx _›) bb_isinstance ?_; walk_at "e"; refine we_ty rfl (Tx.bool ‹Tx _›) bb_bool ?_; walk_at "e"; refine cd_isi rfl (kit_bl rfl) ⟨_, rfl, ?_⟩; walk_at "e"))
local macro_rules | `(tactic| walk_at "kd_app") => `(tactic| (refine ws_expr ?_; refine we_append (i := 1) rfl (by walk_at "vis") rfl ?_; walk_at "e"))
section
variable {X : Cx} {F : Fm} {Γ : Gam}
/-- a + b, two lists, new -/
theorem wn_add [F.c.Ok] {Ψ : OD → Gam → Prop} {a b : Expr} {pos : Pos} (h : WE X F a Γ fun d1 Γ1 => ∃ xs, d1 = .lst xs ∧ WE X F b Γ1 fun d2 Γ2 => ∃ ys, d2 = .lst ys ∧ xs.length + ys.length ≤ 100000 ∧ Ψ (.lst (xs ++ ys)) Γ2) : WN X F (.BinOp a .Add b pos) Γ Ψ := by
  intro B τ H sh Q qw
  refine wp_of (pe_op op_addX pe_wp pe_wp) (h B τ H sh _ fun v d B1 Γ1 H1 p n r => ?_)
  obtain ⟨xs, rfl, p⟩ := p
  refine p B1 τ H1 n.st _ fun v2 d2 B2 Γ2 H2 p2 n2 r2 => ?_
  obtain ⟨ys, rfl, hlw, p2⟩ := p2
  have r := Rp.mono n2.ex _ _ r
  cases r with
  | @lst a vs _ ha1 a1 =>
  cases r2 with
  | @lst b ws _ h2 a2 =>
  refine .inr (.inl ⟨a, b, vs, ws, rfl, rfl, (n2.st.bH _ _ ha1).1, (n2.st.bH _ _ h2).1, Nat.le_trans (by rw [a1.len, a2.len]; exact hlw) (by decide), fun p hp => ?_⟩)
  exact wn_of sh qw (n.trans n2) hp p2 ⟨_, rfl, RpA.app a1 a2⟩
end
def D.kids : D → List D
  | .tup xs => xs
  | .lst xs => xs
  | _ => []
def D.kind : D → Str
  | .tup _ => "tuple"
  | .lst _ => "list"
  | .dct => "dict"
  | .dix => "dict"
  | .bl _ => "bool"
  | _ => "other"
mutual
def D.sz : D → Nat
  | .tup xs => D.szA xs + 1
  | .lst xs => D.szA xs + 1
  | _ => 1
def D.szA : List D → Nat
  | [] => 0
  | d :: ds => d.sz + D.szA ds
end
theorem szA_app : ∀ (a b : List D), D.szA (a ++ b) = D.szA a + D.szA b
  | [], b => by show D.szA b = 0 + D.szA b; omega
  | d :: a, b => by
    show d.sz + D.szA (a ++ b) = d.sz + D.szA a + D.szA b
    rw [szA_app a b]
    omega
theorem sz_pos (d : D) : 1 ≤ d.sz := by cases d <;> simp [D.sz]
theorem szA_len : ∀ (a : List D), a.length ≤ D.szA a
  | [] => Nat.le_refl _
  | d :: a => by
    have := sz_pos d
    have := szA_len a
    show a.length + 1 ≤ d.sz + D.szA a
    omega
theorem sz_kids (d : D) : d.sz = D.szA d.kids + 1 := by cases d <;> rfl
mutual
theorem fl_up : ∀ (d : D) (n : Nat), d.fl n = true → d.fl (n + 1) = true
  | .non, _, _ => rfl
  | .bl _, _, _ => rfl
  | .int _, _, _ => rfl
  | .str _, _, _ => rfl
  | .tup ds, n + 1, h => flA_up ds n h
  | .lst ds, n + 1, h => flA_up ds n h
  | .tup _, 0, h => nomatch h
  | .lst _, 0, h => nomatch h
theorem flA_up : ∀ (ds : List D) (n : Nat), D.flA ds n = true → D.flA ds (n + 1) = true
  | [], _, _ => rfl
  | d :: ds, n, h => by
    have qw : d.fl n = true ∧ D.flA ds n = true := by
      have zw : (d.fl n && D.flA ds n) = true := h
      simpa using zw
    show (d.fl (n + 1) && D.flA ds (n + 1)) = true
    rw [fl_up d n qw.1, flA_up ds n qw.2]
    rfl
end
theorem flA_app {n : Nat} : ∀ {a b : List D}, D.flA a n = true → D.flA b n = true → D.flA (a ++ b) n = true
  | [], _, _, h => h
  | d :: a, b, ha1, h2 => by
    have qw : d.fl n = true ∧ D.flA a n = true := by
      have zw : (d.fl n && D.flA a n) = true := ha1
      simpa using zw
    show (d.fl n && D.flA (a ++ b) n) = true
    rw [qw.1, flA_app qw.2 h2]
    rfl
theorem flA_of {n : Nat} : ∀ {a b : List D}, D.flA (a ++ b) n = true → D.flA a n = true ∧ D.flA b n = true
  | [], _, h => ⟨rfl, h⟩
  | d :: a, b, h => by
    have qw : d.fl n = true ∧ D.flA (a ++ b) n = true := by
      have zw : (d.fl n && D.flA (a ++ b) n) = true := h
      simpa using zw
    have r := flA_of qw.2
    refine ⟨?_, r.2⟩
    show (d.fl n && D.flA a n) = true
    rw [qw.1, r.1]
    rfl
theorem fl_kids {d : D} {n : Nat} (h : d.fl n = true) : D.flA d.kids n = true := by
  cases d with
  | tup xs =>
    cases n with
    | zero => exact nomatch h
    | succ n => exact flA_up _ _ h
  | lst xs =>
    cases n with
    | zero => exact nomatch h
    | succ n => exact flA_up _ _ h
  | _ => rfl
def kds : Nat → List D → List Str
  | 0, _ => []
  | n + 1, l => match l.getLast? with
    | none => []
    | some here => here.kind :: kds n (l.dropLast ++ here.kids)
theorem kds_snoc (m : Nat) (l : List D) (x : D) : kds (m + 1) (l ++ [x]) = x.kind :: kds m (l ++ x.kids) := by
  rw [kds, List.getLast?_concat, List.dropLast_concat]
section
variable {P : Program} {w : World} {K : PySem.W.Frag} {mg : Str → Option Value} {base : Heap}
def D.strs (xs : List Str) : List D := xs.map D.str
theorem imm_strs (xs : List Str) : D.immA (D.strs xs) = true := by
  induction xs with
  | nil => rfl
  | cons x xs ih => exact ih
def spKinds : DS := ⟨fun ds k => ∃ d : D, ds = [d] ∧ d.fl 59 = true ∧ d.sz ≤ 9000 ∧ k (.ret (.lst (D.strs (kds d.sz [d])))), fun _ _ _ i ⟨a, e, p, qw, h⟩ => ⟨a, e, p, qw, i _ h⟩⟩
abbrev sKinds : Stmt := top 32
theorem sc_kinds : FnScope ["thing", "found", "line", "here", "kind", "named", "key", "name"] ["thing"] (defScope sKinds) := ⟨rfl, rfl, rfl, by decide +kernel, rfl, by decide +kernel, by decide +kernel⟩
def kdInv (d : D) (m : Nat) (Γ : Gam) : Prop := ∃ (f : List Str) (l : List D) (s3 s4 : Option Sl), Γ = [some (.val d), some (.own (.lst (D.strs f))), some (.own (.lst l)), s3, s4, none, none, none] ∧ (∀ od, s3 ≠ some (.own od)) ∧ (∀ od, s4 ≠ some (.own od)) ∧ D.szA l = m ∧ m ≤ 9000 ∧ f.length + m ≤ 9000 ∧ D.flA l 59 = true ∧ f ++ kds m l = kds d.sz [d]
theorem ok_kinds {f : Addr} {fd : FuncData} (Fn : Fun K "_law_value_kinds" "_law_value_kinds" sKinds f fd) (T : Tx mg) : FnOk P w K mg base (L2.CX P w) 1 f fd ["thing"] (SpD K c0 1 spKinds) := by
  refine defn (k := 0) (ps := ["thing"]) Fn sc_kinds fun cdv A outer sh H E hr H0 B0 ds Φ hlw h R => ?_
  obtain ⟨d, rfl, hf, hsz, h⟩ := h
  refine ws_cons ?_
  refine ws_par (i := 1) (j := 2) rfl sc_kinds.nd rfl rfl (by decide) (show 1 < 8 by decide) (show 2 < 8 by decide) rfl rfl (wx_new ?_)
  refine wn_lst (wa_nil ⟨Nat.zero_le _, ?_⟩)
  refine wx_new ?_
  refine wn_lst ?_
  walk_at "e"
  refine ⟨(show 1 ≤ 100000 by decide), ?_⟩
  refine ws_cons ?_
  refine ws_while (passes_of rfl) (kdInv d) d.sz ⟨[], [d], none, none, rfl, (fun od zw => nomatch zw), (fun od zw => nomatch zw), rfl, hsz, ?_, ?_, rfl⟩ ?_
  · show 0 + d.sz ≤ 9000
    omega
  · show (d.fl 59 && true) = true
    rw [hf]
    rfl
  rintro m Γ ⟨f, l, s3, s4, rfl, n3, n4, hmw, m1, m2, fl, evw⟩
  refine wt_lend (i := 2) rfl ?_ ?_
  · intro j od hjw e
    match j, e with
    | 0, e => cases e
    | 1, e =>
      cases e
      exact imm_strs f
    | 2, e => exact absurd rfl hjw
    | 3, e => exact absurd (Option.some.inj e) (n3 od)
    | 4, e => exact absurd (Option.some.inj e) (n4 od)
    | 5, e => cases e
    | 6, e => cases e
    | 7, e => cases e
    | n + 8, e => cases e
  · refine wt_cmp (op_neX hr) ?_ (nomark _)
    walk_at "e"
    refine ⟨by decide, ?_⟩
    refine od_ne (show D.flA l 59 = true from fl) (show D.flA (D.ints []) 60 = true from rfl) ⟨_, rfl, rfl, ?_⟩
    rw [eq_nil]
    rcases List.eq_nil_or_concat l with rfl | ⟨l0, here, rfl⟩
    · have zw : D.szA [] = 0 := rfl
      have hm0 : m = 0 := by omega
      subst hm0
      have ev2 : f = kds d.sz [d] := by
        have z2 : f ++ [] = kds d.sz [d] := evw
        rw [List.append_nil] at z2
        exact z2
      subst ev2
      refine itF ?_
      refine wss_give (i := 1) rfl ?_
      walk_at "e"
      exact h
    · have e0 : (l0.concat here).isEmpty = false := by simp
      rw [List.concat_eq_append] at *
      rw [show ((l0 ++ [here]).isEmpty) = false by simp]
      have hsz1 : D.szA l0 + here.sz = m := by
        rw [← hmw, szA_app]
        show _ = D.szA l0 + (here.sz + 0)
        omega
      have fl2 := flA_of fl
      have flh : here.fl 59 = true := by
        have zw : (here.fl 59 && true) = true := fl2.2
        simpa using zw
      have hkw2 := sz_kids here
      have fin : m - 1 < m ∧ kdInv d (m - 1) [some (.val d), some (.own (.lst (D.strs (f ++ [here.kind])))), some (.own (.lst (l0 ++ here.kids))), some (.val here), some (.val (.str here.kind)), none, none, none] := by
        refine ⟨by omega, f ++ [here.kind], l0 ++ here.kids, _, _, rfl, (fun od zw => nomatch zw), (fun od zw => nomatch zw), by rw [szA_app]; omega, by omega, by rw [List.length_append, List.length_singleton]; omega, flA_app fl2.1 (fl_kids flh), ?_⟩
        rw [← evw]
        obtain ⟨m', rfl⟩ : ∃ m', m = m' + 1 := ⟨m - 1, by omega⟩
        rw [kds_snoc, List.append_assoc]
        rfl
      have hll : (l0 ++ [here])[(l0 ++ [here]).length - 1]? = some here := by
        rw [List.length_append, List.length_singleton, Nat.add_sub_cancel, List.getElem?_append_right (Nat.le_refl _), Nat.sub_self]
        rfl
      refine itT ?_
      refine ws_cons ?_
      refine ws_set (i := 3) sc_kinds.nd rfl (.inr rfl) (show 3 < 8 by decide) ?_
      refine we_pop (i := 2) rfl (by walk_at "vis") rfl hll ?_
      rw [List.dropLast_concat]
      refine ws_cons ?_
      refine ws_set (i := 4) sc_kinds.nd rfl (.inl rfl) (show 4 < 8 by decide) ?_
      cases here with
      | tup xs =>
        walk_at "e"
        walk_at "is_tuple"
        walk_at "kd_app"
        refine ⟨D.strs f, rfl, ?_, ?_⟩
        · unfold D.strs
          rw [List.length_map]
          omega
        · refine ws_cons ?_
          refine ws_if ?_
          refine wt_cmp (op_inX hr) ?_ (by rfl)
          walk_at "e"
          refine ⟨(show 2 ≤ 100000 by decide), ?_⟩
          refine od_in (.inl rfl) rfl rfl ⟨_, rfl, ?_⟩
          refine itT ?_
          refine ws_cons ?_
          refine ws_give (i := 2) rfl ?_
          refine ws_setN (i := 2) sc_kinds.nd rfl (.inl rfl) (show 2 < 8 by decide) ?_
          refine wn_add ?_
          walk_at "e"
          refine ⟨_, rfl, ?_⟩
          refine we_callTy cr_listX rfl T.list bb_list ?_
          walk_at "e"
          refine cd_list (.inr rfl) ⟨_, rfl, ?_, ?_⟩
          · have := szA_len l0
            have := szA_len xs
            have zw : (D.tup xs).sz = D.szA xs + 1 := rfl
            omega
          · refine ws_nil ?_
            refine ws_cons ?_
            refine ws_if ?_
            refine wt_cmp (op_eqX hr) ?_ (nomark _)
            walk_at "e"
            refine od_eq rfl rfl ⟨_, rfl, ?_⟩
            refine itF ?_
            refine ws_nil ?_
            refine ws_nil ?_
            refine ⟨m - 1, fin.1, ?_⟩
            have zw := fin.2
            unfold D.strs at zw
            rw [List.map_append] at zw
            exact zw
      | lst xs =>
        walk_at "e"
        walk_at "is_tuple"
        walk_at "is_list"
        walk_at "kd_app"
        refine ⟨D.strs f, rfl, ?_, ?_⟩
        · unfold D.strs
          rw [List.length_map]
          omega
        · refine ws_cons ?_
          refine ws_if ?_
          refine wt_cmp (op_inX hr) ?_ (by rfl)
          walk_at "e"
          refine ⟨(show 2 ≤ 100000 by decide), ?_⟩
          refine od_in (.inl rfl) rfl rfl ⟨_, rfl, ?_⟩
          refine itT ?_
          refine ws_cons ?_
          refine ws_give (i := 2) rfl ?_
          refine ws_setN (i := 2) sc_kinds.nd rfl (.inl rfl) (show 2 < 8 by decide) ?_
          refine wn_add ?_
          walk_at "e"
          refine ⟨_, rfl, ?_⟩
          refine we_callTy cr_listX rfl T.list bb_list ?_
          walk_at "e"
          refine cd_list (.inl rfl) ⟨_, rfl, ?_, ?_⟩
          · have := szA_len l0
            have := szA_len xs
            have zw : (D.lst xs).sz = D.szA xs + 1 := rfl
            omega
          · refine ws_nil ?_
            refine ws_cons ?_
            refine ws_if ?_
            refine wt_cmp (op_eqX hr) ?_ (nomark _)
            walk_at "e"
            refine od_eq rfl rfl ⟨_, rfl, ?_⟩
            refine itF ?_
            refine ws_nil ?_
            refine ws_nil ?_
            refine ⟨m - 1, fin.1, ?_⟩
            have zw := fin.2
            unfold D.strs at zw
            rw [List.map_append] at zw
            exact zw
      | non =>
        walk_at "e"
        walk_at "is_tuple"
        walk_at "is_list"
        walk_at "is_dict"
        walk_at "is_bool"
        walk_at "kd_app"
        refine ⟨D.strs f, rfl, ?_, ?_⟩
        · unfold D.strs
          rw [List.length_map]
          omega
        · refine ws_cons ?_
          refine ws_if ?_
          refine wt_cmp (op_inX hr) ?_ (by rfl)
          walk_at "e"
          refine ⟨(show 2 ≤ 100000 by decide), ?_⟩
          refine od_in (.inl rfl) rfl rfl ⟨_, rfl, ?_⟩
          refine itF ?_
          refine ws_nil ?_
          refine ws_cons ?_
          refine ws_if ?_
          refine wt_cmp (op_eqX hr) ?_ (nomark _)
          walk_at "e"
          refine od_eq rfl rfl ⟨_, rfl, ?_⟩
          refine itF ?_
          refine ws_nil ?_
          refine ws_nil ?_
          refine ⟨m - 1, fin.1, ?_⟩
          have zw := fin.2
          unfold D.strs at zw
          rw [List.map_append] at zw
          have e9 : l0 ++ D.kids (.non) = l0 := List.append_nil l0
          rw [e9] at zw
          exact zw
      | bl b =>
        walk_at "e"
        walk_at "is_tuple"
        walk_at "is_list"
        walk_at "is_dict"
        walk_at "is_bool"
        walk_at "kd_app"
        refine ⟨D.strs f, rfl, ?_, ?_⟩
        · unfold D.strs
          rw [List.length_map]
          omega
        · refine ws_cons ?_
          refine ws_if ?_
          refine wt_cmp (op_inX hr) ?_ (by rfl)
          walk_at "e"
          refine ⟨(show 2 ≤ 100000 by decide), ?_⟩
          refine od_in (.inl rfl) rfl rfl ⟨_, rfl, ?_⟩
          refine itF ?_
          refine ws_nil ?_
          refine ws_cons ?_
          refine ws_if ?_
          refine wt_cmp (op_eqX hr) ?_ (nomark _)
          walk_at "e"
          refine od_eq rfl rfl ⟨_, rfl, ?_⟩
          refine itF ?_
          refine ws_nil ?_
          refine ws_nil ?_
          refine ⟨m - 1, fin.1, ?_⟩
          have zw := fin.2
          unfold D.strs at zw
          rw [List.map_append] at zw
          have e9 : l0 ++ D.kids (.bl b) = l0 := List.append_nil l0
          rw [e9] at zw
          exact zw
      | int b =>
        walk_at "e"
        walk_at "is_tuple"
        walk_at "is_list"
        walk_at "is_dict"
        walk_at "is_bool"
        walk_at "kd_app"
        refine ⟨D.strs f, rfl, ?_, ?_⟩
        · unfold D.strs
          rw [List.length_map]
          omega
        · refine ws_cons ?_
          refine ws_if ?_
          refine wt_cmp (op_inX hr) ?_ (by rfl)
          walk_at "e"
          refine ⟨(show 2 ≤ 100000 by decide), ?_⟩
          refine od_in (.inl rfl) rfl rfl ⟨_, rfl, ?_⟩
          refine itF ?_
          refine ws_nil ?_
          refine ws_cons ?_
          refine ws_if ?_
          refine wt_cmp (op_eqX hr) ?_ (nomark _)
          walk_at "e"
          refine od_eq rfl rfl ⟨_, rfl, ?_⟩
          refine itF ?_
          refine ws_nil ?_
          refine ws_nil ?_
          refine ⟨m - 1, fin.1, ?_⟩
          have zw := fin.2
          unfold D.strs at zw
          rw [List.map_append] at zw
          have e9 : l0 ++ D.kids (.int b) = l0 := List.append_nil l0
          rw [e9] at zw
          exact zw
      | str b =>
        walk_at "e"
        walk_at "is_tuple"
        walk_at "is_list"
        walk_at "is_dict"
        walk_at "is_bool"
        walk_at "kd_app"
        refine ⟨D.strs f, rfl, ?_, ?_⟩
        · unfold D.strs
          rw [List.length_map]
          omega
        · refine ws_cons ?_
          refine ws_if ?_
          refine wt_cmp (op_inX hr) ?_ (by rfl)
          walk_at "e"
          refine ⟨(show 2 ≤ 100000 by decide), ?_⟩
          refine od_in (.inl rfl) rfl rfl ⟨_, rfl, ?_⟩
          refine itF ?_
          refine ws_nil ?_
          refine ws_cons ?_
          refine ws_if ?_
          refine wt_cmp (op_eqX hr) ?_ (nomark _)
          walk_at "e"
          refine od_eq rfl rfl ⟨_, rfl, ?_⟩
          refine itF ?_
          refine ws_nil ?_
          refine ws_nil ?_
          refine ⟨m - 1, fin.1, ?_⟩
          have zw := fin.2
          unfold D.strs at zw
          rw [List.map_append] at zw
          have e9 : l0 ++ D.kids (.str b) = l0 := List.append_nil l0
          rw [e9] at zw
          exact zw
      | _ => exact nomatch flh
end
end L2.Px

namespace L2.Px
open PySem PySem.Spec
open PyProof.Rows
variable [Wld]


section
variable {prog : Program} {w : World} {A : Around} {E : Value → Shared → Prop} {sh : Shared}
theorem places_rev (n : Nat) : Builtin.Slice.slicePlaces ((n : Int) - 1) (-1) (-1) = n := by
  unfold Builtin.Slice.slicePlaces
  rw [if_neg (by decide)]
  by_cases h : (n : Int) - 1 > -1
  · rw [if_pos h, show (-(-1) : Int) = 1 from rfl, Int.ediv_one]
    omega
  · rw [if_neg h]
    omega
theorem adjust_rev (n : Nat) : Builtin.Slice.sliceAdjust none none (-1) (n : Int) = ((n : Int) - 1, -1) := rfl
theorem fm_map {α β : Type} {f : α → Option β} {g : α → β} : ∀ {l : List α}, (∀ m ∈ l, f m = some (g m)) → l.filterMap f = l.map g
  | [], _ => rfl
  | a :: l, h => by
    rw [List.filterMap_cons, h a (by simp), List.map_cons, fm_map fun m hmw => h m (by simp [hmw])]
theorem pick_rev (xs : Array Value) : ((List.range xs.size).filterMap fun (m : Nat) => xs[(((xs.size : Nat) : Int) - 1 + (m : Int) * (-1)).toNat]?).toArray = xs.toList.reverse.toArray := by
  congr 1
  refine List.ext_getElem? fun i => ?_
  have e : (List.range xs.size).filterMap (fun (m : Nat) => xs[(((xs.size : Nat) : Int) - 1 + (m : Int) * (-1)).toNat]?) = (List.range xs.size).map fun m => xs.toList.getD (xs.size - 1 - m) .none := by
    refine fm_map fun m hmw => ?_
    have hmw := List.mem_range.mp hmw
    have qw : (((xs.size : Nat) : Int) - 1 + (m : Int) * (-1)).toNat = xs.size - 1 - m := by omega
    have q2 : xs.size - 1 - m < xs.toList.length := by rw [Array.length_toList]; omega
    rw [qw, ← Array.getElem?_toList, List.getElem?_eq_getElem q2]
    show _ = some _
    rw [List.getD_eq_getElem?_getD, List.getElem?_eq_getElem q2]
    rfl
  rw [e]
  by_cases h : i < xs.size
  · have q2 : xs.size - 1 - i < xs.toList.length := by rw [Array.length_toList]; omega
    rw [List.getElem?_map, List.getElem?_range h, List.getElem?_reverse (by rw [Array.length_toList]; exact h), Array.length_toList]
    show some (xs.toList.getD (xs.size - 1 - i) .none) = _
    rw [List.getD_eq_getElem?_getD, List.getElem?_eq_getElem q2]
    rfl
  · rw [List.getElem?_eq_none (by rw [List.length_map, List.length_range]; omega), List.getElem?_eq_none (by rw [List.length_reverse, Array.length_toList]; omega)]
theorem getItem_tupRev {t sl : Addr} {items : Array Value} {vl vu vs : Value} {Q : Value → Shared → Prop} (htw : IsTup sh.heap t items) (hsa : sh.heap.IsSliceOf sl vl vu vs) (pl : IsPart vl none) (pu : IsPart vu none) (ps : IsPart vs (some (-1)))
    (h : Q (.ref sh.heap.objs.size) { sh with heap := sh.heap.push { cls := .type "tuple", data := .seq items.toList.reverse.toArray } })
    (hsz : items.size ≤ sizeLine) : wpAny (model prog w) A (getItem (.ref t) (.ref sl)) Q E sh := by
  have htake : sizeOk (.seq items.toList.reverse.toArray) := by
    show items.toList.reverse.toArray.size ≤ sizeLine
    rw [List.size_toArray, List.length_reverse, Array.length_toList]
    exact hsz
  obtain ⟨os, hos, hcs, hds⟩ := id hsa
  have hTs : sh.TypeIs (.ref sl) "slice" := ⟨os, hos, hcs⟩
  unfold getItem
  try with_reducible refine wpAny_holding ?_
  first | refine wpAny_bind (wpAny_pure ?_) | skip
  refine wpAny_bind (wpAny_sequenceKey htw.typeIs (by decide) ?_)
  refine wpAny_bind (wpAny_callSpecial?_slot (name := Str.ofString "__getitem__") htw.typeIs PyProof.Rows.slot_tuple_getitem
    (wpAny_call_entry PyProof.Rows.slot_tuple_getitem htw.typeIs entry_tuple_getitem ?_ (args_tuple_getitem _ _)))
  show wpAny _ _ (Builtin.Tuple.tupleItemsOf (.ref t) >>= _) _ _ sh
  refine wpAny_bind (tupleItemsOf_ htw ?_)
  refine wpAny_bind (wpAny_typeOf hTs ?_)
  rw [if_pos (by decide)]
  refine wpAny_bind ?_
  · unfold Builtin.Slice.sliceApplied Builtin.Slice.sliceFields
    refine wpAny_bind (wpAny_bind (wpAny_field hos hds (x := vl) rfl (wpAny_bind (wpAny_field hos hds (x := vu) rfl (wpAny_bind (wpAny_field hos hds (x := vs) rfl (wpAny_pure ?_)))))))
    refine wpAny_bind (HT.slicePart_ ps ?_)
    show wpAny _ _ (if ((-1 : Int) == 0) = true then _ else _) _ _ sh
    rw [if_neg (by decide)]
    refine wpAny_bind (HT.slicePart_ pl (wpAny_bind (HT.slicePart_ pu (wpAny_bind (wpAny_pure ?_)))))
    show wpAny _ _ (match Builtin.Slice.sliceAdjust none none (-1) ((items.size : Nat) : Int) with | (lo, hi) => pure (lo, (-1 : Int), Builtin.Slice.slicePlaces lo hi (-1))) _ _ sh
    rw [adjust_rev]
    show wpAny _ _ (pure (((items.size : Nat) : Int) - 1, (-1 : Int), Builtin.Slice.slicePlaces (((items.size : Nat) : Int) - 1) (-1) (-1))) _ _ sh
    rw [places_rev]
    refine wpAny_pure ?_
    show wpAny _ _ (if ((((items.size : Nat) : Int) - 1) == 0 && (-1 : Int) == 1 && items.size == items.size) = true then _ else _) _ _ sh
    rw [if_neg (by rw [show ((-1 : Int) == 1) = false from rfl, Bool.and_false]; exact Bool.false_ne_true), pick_rev]
    first
      | exact wpAny_bind (m := Builtin.Tuple.tupleExact _) (wpAny_newObj_type (wpAny_pure ⟨_, rfl, wpAny_pure h⟩) htake)
      | exact wpAny_bind (m := Builtin.Tuple.tupleExact _) (wpAny_newObj_type (wpAny_bind (wpAny_pure (wpAny_pure ⟨_, rfl, wpAny_pure h⟩))) htake)
      | exact wpAny_bind (wpAny_bind (m := Builtin.Tuple.tupleExact _) (wpAny_newObj_type (wpAny_pure (wpAny_pure ⟨_, rfl, wpAny_pure h⟩)) htake))
      | exact wpAny_bind (wpAny_bind (m := Builtin.Tuple.tupleExact _) (wpAny_newObj_type (wpAny_pure ⟨_, rfl, wpAny_pure h⟩) htake))
end
section
variable {X : Cx} {F : Fm} {Γ : Gam}
def tRevT (K : PySem.W.Frag) (te : TE) : TE := fun τ H Q => te τ H fun x H1 => ∃ a xs, x = .ref a ∧ SqT K H1 a xs ∧ ∀ p, H1 p = none → Q (.ref p) (upd H1 p (.tup xs.reverse))
theorem pe_revT {e : Expr} {te : TE} {k : Nat} {p1 p2 p3 pos : Pos} (hen : PE X e te) : PE X (.Subscript e (.Slice none none (some (.UnaryOp .USub (.Constant (.int 1) k p1) p2)) p3) pos) (tRevT X.K te) := by
  refine ⟨fun pq sh τ H Q I h => ?_⟩
  refine Subscript_ (thn (hen.run pq sh τ H _ I h) fun v s1 ⟨x, H1, I1, r1, q1⟩ => ?_)
  obtain ⟨a, xs, ex, hxw, qw⟩ := q1
  subst ex
  cases r1
  have hst : PO X (some (.UnaryOp .USub (.Constant (.int 1) k p1) p2)) (tPart (tUn (rU fun i => .int (-i)) (tC (.int 1)))) := po_some (pe_un un_neg pe_int)
  refine wpAny_Slice (thn (po_none.run pq s1 τ H1 (fun o H2 => o = none ∧ H2 = H1) I1 ⟨rfl, rfl⟩) fun vl s2 ⟨l, H2, I2, pl, el, e2⟩ => ?_)
  subst el e2
  refine thn (po_none.run pq s2 τ H2 (fun o H3 => o = none ∧ H3 = H2) I2 ⟨rfl, rfl⟩) fun vu s3 ⟨u, H3, I3, pu, eu, e3⟩ => ?_
  subst eu e3
  refine thn (hst.run pq s3 τ H3 (fun o H4 => o = some (-1) ∧ H4 = H3) I3 ⟨1, rfl, -1, rfl, rfl, rfl⟩) fun vs s4 ⟨o, H4, I4, ps, eo, e4⟩ => ?_
  subst eo e4
  have I5 : Inv X pq τ H4 { s4 with heap := s4.heap.push { cls := .type "slice", data := .fields #[vl, vu, vs] } } := I4.kept (t' := s4.toks) fun b ob qw => Heap.get?_push_of_some _ qw
  obtain ⟨its, r, htw, hzz⟩ := I5.tuple hxw
  have hlen := r.length
  show wpAny (model X.prog X.w) X.A (subscriptTail e (.Slice none none (some (.UnaryOp .USub (.Constant (.int 1) k p1) p2)) p3) (.ref a) (.ref s4.heap.objs.size)) (EP X pq τ Q) X.xe { s4 with heap := s4.heap.push { cls := .type "slice", data := .fields #[vl, vu, vs] } }
  refine tail_any (ops := [.ref a, .ref s4.heap.objs.size]) htw.typeIs (PyProof.Rows.slot_tuple_getitem.lookup) ?_ (by with_unfolding_all rfl)
  refine getItem_tupRev htw (Heap.IsSliceOf.new _ vl vu vs) pl pu ps ?_ (by rw [List.size_toArray]; omega)
  refine ⟨.ref _, _, I5.laid (t' := s4.toks) (o := .tup xs.reverse) (fun b ob qw => Heap.get?_push_of_some _ qw) (Nat.le_refl _) ?_, rfl, qw _ (I5.hok.fresh (Nat.le_refl _))⟩
  exact ⟨by rw [List.length_reverse]; exact hzz, its.reverse, r.reverse, IsTup.new _ _⟩
theorem RpA.rev {K : PySem.W.Frag} {B : Hp} : ∀ {vs : List V} {ds : List D}, RpA K B vs ds → RpA K B vs.reverse ds.reverse
  | _, _, .nil => .nil
  | _, _, .cons r t => by
    rw [List.reverse_cons, List.reverse_cons]
    exact RpA.app (RpA.rev t) (.cons r .nil)
theorem we_revT [F.c.Ok] {e : Expr} {k : Nat} {p1 p2 p3 pos : Pos} {Φ : D → Gam → Prop} (h : WE X F e Γ fun d Γ1 => ∃ ds, d = .tup ds ∧ Φ (.tup ds.reverse) Γ1) :
    WE X F (.Subscript e (.Slice none none (some (.UnaryOp .USub (.Constant (.int 1) k p1) p2)) p3) pos) Γ Φ := by
  intro B τ H sh Q qw
  refine wp_of (pe_revT pe_wp) (h B τ H sh _ fun v d B1 Γ1 H1 p n r => ?_)
  obtain ⟨ds, rfl, p⟩ := p
  cases r with
  | @tup a vs _ ha hr =>
    refine ⟨a, vs, rfl, .inl (n.st.rd ha), fun x hxw => ?_⟩
    have n2 := n.st.frozen (o := .tup vs.reverse) hxw
    exact qw _ _ _ _ _ p (n.trans n2) (.tup (.inl upd_same) (RpA.mono n2.ex _ _ hr.rev))
theorem we_neg [F.c.Ok] {e : Expr} {pos : Pos} {Φ : D → Gam → Prop} (h : WE X F e Γ fun d Γ1 => ∃ i, d = .int i ∧ Φ (.int (-i)) Γ1) : WE X F (.UnaryOp .USub e pos) Γ Φ := by
  intro B τ H sh Q qw
  refine wp_of (pe_un un_neg pe_wp) (h B τ H sh _ fun v d B1 Γ1 H1 p n r => ?_)
  obtain ⟨i, rfl, p⟩ := p
  cases r
  exact ⟨i, rfl, qw _ _ _ _ _ p n (.int _)⟩
/-- {} -/
theorem we_dict0 [F.c.Ok] {pos : Pos} {Φ : D → Gam → Prop} (h : Φ .dct Γ) : WE X F (.Dict [] [] pos) Γ Φ := by
  intro B τ H sh Q qw
  refine wp_of pe_dnewK fun p hp => ?_
  have n := sh.frozen (o := .dK []) hp
  exact qw _ _ _ _ _ h n (.dct upd_same)
/-- {"a": 1} -/
theorem we_dict1 [F.c.Ok] {x : Str} {i : Int} {j1 j2} {p1 p2 pos : Pos} {Φ : D → Gam → Prop} (h : Φ .dct Γ) : WE X F (.Dict [some (.Constant (.str x) j1 p1)] [.Constant (.int i) j2 p2] pos) Γ Φ := by
  intro B τ H sh Q qw
  refine wp_of (pe_disp (pps_cons pe_str pe_int pps_nil) rfl rfl (by simp) (by simp)) fun p hp => ?_
  refine ⟨?_, [(.inr x, .int i)], rfl, by simp, ?_⟩
  · exact upd_same
  · have e : upd (upd H p (.dK [])) p (.dK (mergeK [] [((.inr x : Key), V.int i)])) = upd H p (.dK (mergeK [] [((.inr x : Key), V.int i)])) := by
      funext a
      by_cases zw : a = p
      · rw [zw, upd_same, upd_same]
      · rw [upd_ne zw, upd_ne zw, upd_ne zw]
    have n := sh.frozen (o := .dK (mergeK [] [((.inr x : Key), V.int i)])) hp
    rw [e]
    exact qw _ _ _ _ _ h n (.dct upd_same)
def rDictP (K : PySem.W.Frag) : List V → Hp → VK → Prop := fun xs H Q => ∃ (a : Addr) (ps : List Addr) (kvs : List (Key × V)), xs = [.ref a] ∧ SqL K H a (ps.map V.ref) ∧ Paired (fun p kv => SqT K H p [kV kv.1, kv.2]) ps kvs ∧
    ∀ p, H p = none → Q (.ref p) (upd H p (.dK (mergeK [] kvs)))
theorem cr_dictP (hc : X.calm = true) : CallR X (.type "dict") (rDictP X.K) := call_dictP hc
theorem pairs_of {K : PySem.W.Frag} {B : Hp} : ∀ {a : List Int} {vs : List V}, RpA K B vs (a.map fun sh => D.tup [.int sh, .int 1]) → ∃ (ps : List Addr) (kvs : List (Key × V)), vs = ps.map V.ref ∧ Paired (fun p kv => SqT K B p [kV kv.1, kv.2]) ps kvs
  | [], _, h => by
    cases h
    exact ⟨[], [], rfl, .nil⟩
  | sh :: a, _, h => by
    cases h with
    | cons r t =>
      obtain ⟨ps, kvs, rfl, pr⟩ := pairs_of t
      cases r with
      | @tup b xs _ hb hr =>
        cases hr with
        | cons r1 r2 =>
          cases r1
          cases r2 with
          | cons r3 r4 =>
            cases r3
            cases r4
            exact ⟨b :: ps, (.inl sh, .int 1) :: kvs, rfl, .cons (.inl hb) pr⟩
theorem paired_imp {α β : Type} {F G : α → β → Prop} (h : ∀ a b, F a b → G a b) : ∀ {l₁ : List α} {l₂ : List β}, Paired F l₁ l₂ → Paired G l₁ l₂
  | _, _, .nil => .nil
  | _, _, .cons r t => .cons (h _ _ r) (paired_imp h t)
theorem cd_dictP {K : PySem.W.Frag} {a : List Int} {Ψ : D → Prop} (h : Ψ .dct) : CallD K (rDictP K) [.lst (a.map fun sh => D.tup [.int sh, .int 1])] Ψ := by
  intro F _ Γ B τ H vs sh r Q qw
  cases r with
  | cons r1 r2 =>
    cases r2
    cases r1 with
    | @lst b ys _ hsa ha =>
      obtain ⟨ps, kvs, rfl, pr⟩ := pairs_of ha
      refine ⟨b, ps, kvs, rfl, SqL.of (sh.bH _ _ hsa).1, paired_imp (fun p kv zw => ex_t (fun b o zw => (sh.bH b o zw).1) zw) pr, fun p hp => ?_⟩
      have n := sh.frozen (o := .dK (mergeK [] kvs)) hp
      exact qw _ _ _ _ h n (.dct upd_same)
end
end L2.Px

namespace L2.Px
open PySem PySem.Spec
open PyProof.Rows
variable [Wld]


local macro_rules | `(tactic| walk_at "d1") => `(tactic| first
  | walk_at "e1"
  | ((with_reducible show WE _ _ (.UnaryOp .USub _ _) _ _); refine we_neg ?_)
  | ((with_reducible show WE _ _ (.Dict [] [] _) _ _); refine we_dict0 ?_)
  | ((with_reducible show WE _ _ (.Dict [_] _ _) _ _); refine we_dict1 ?_)
  | ((with_reducible show _ ≤ _ ∧ _); refine ⟨Nat.le_of_ble_eq_true rfl, ?_⟩)
  | ((with_reducible show ∃ i, D.int _ = D.int i ∧ _); refine ⟨_, rfl, ?_⟩))
local macro_rules | `(tactic| walk_at "d") => `(tactic| repeat' walk_at "d1")
mutual
theorem eqv_refl : ∀ (d : D) (n : Nat), d.fl n = true → PyData.eqv d.py d.py = true
  | .non, _, _ => rfl
  | .bl b, _, _ => by cases b <;> rfl
  | .int i, _, _ => by show (i == i) = true; simp
  | .str x, _, _ => by show (x == x) = true; simp
  | .tup ds, n + 1, h => eqvA_refl ds n h
  | .lst ds, n + 1, h => eqvA_refl ds n h
  | .tup _, 0, h => nomatch h
  | .lst _, 0, h => nomatch h
theorem eqvA_refl : ∀ (ds : List D) (n : Nat), D.flA ds n = true → PyData.eqvAll (D.pyA ds) (D.pyA ds) = true
  | [], _, _ => rfl
  | d :: ds, n, h => by
    have qw : d.fl n = true ∧ D.flA ds n = true := by
      have zw : (d.fl n && D.flA ds n) = true := h
      simpa using zw
    show (PyData.eqv d.py d.py && PyData.eqvAll (D.pyA ds) (D.pyA ds)) = true
    rw [eqv_refl d n qw.1, eqvA_refl ds n qw.2]
    rfl
end
theorem flA_mem {n : Nat} : ∀ {xs : List D}, (∀ x ∈ xs, x.fl n = true) → D.flA xs n = true
  | [], _ => rfl
  | x :: xs, h => by
    show (x.fl n && D.flA xs n) = true
    rw [h x (by simp), flA_mem fun y hyw => h y (by simp [hyw])]
    rfl
theorem okL_tup {xs : List D} (hlw : xs.length ≤ 1000) (h : ∀ x ∈ xs, x.plainTy = true ∧ x.fl 59 = true) : (D.tup xs).okL := by
  refine ⟨⟨rfl, fun ys e => ?_⟩, fun ys e => ?_⟩
  · cases e
    exact ⟨hlw, fun x hxw => (h x hxw).1⟩
  · cases e
    exact flA_mem fun x hxw => (h x hxw).2
theorem okL_of {d : D} (h : d.plainTy = true) (n : ∀ xs, d ≠ .tup xs) : d.okL := ⟨⟨h, fun xs e => absurd e (n xs)⟩, fun xs e => absurd e (n xs)⟩
section
variable {P : Program} {w : World} {K : PySem.W.Frag} {mg : Str → Option Value} {base : Heap}
/-! ### _law_says, of the same twice -/
def spSays : DS := ⟨fun ds k => ∃ d : D, ds = [d, d] ∧ d.fl 59 = true ∧ d.sz ≤ 9000 ∧ k (.ret (.bl true)), fun _ _ _ i ⟨a, e, p, qw, h⟩ => ⟨a, e, p, qw, i _ h⟩⟩
abbrev sSays : Stmt := top 33
theorem sc_says : FnScope ["told", "due"] ["told", "due"] (defScope sSays) := ⟨rfl, rfl, rfl, by decide +kernel, rfl, by decide +kernel, by decide +kernel⟩
theorem strs_fl (xs : List Str) (n : Nat) : D.flA (D.strs xs) n = true := by
  induction xs with
  | nil => rfl
  | cons x xs ih =>
    show (D.fl (.str x) n && D.flA (D.strs xs) n) = true
    rw [ih]
    cases n <;> rfl
theorem ok_says {f : Addr} {fd : FuncData} (Fn : Fun K "_law_says" "_law_says" sSays f fd) (g1 : Gd P w K mg base "_law_value_kinds" 1 c0 ["thing"] spKinds) : FnOk P w K mg base (L2.CX P w) 2 f fd ["told", "due"] (SpD K c0 2 spSays) := by
  refine defn (k := 1) (ps := ["told", "due"]) Fn sc_says fun cdv A outer sh H E hr H0 B0 ds Φ hlw h R => ?_
  obtain ⟨d, rfl, hf, hsa, h⟩ := h
  refine ws_cons ?_
  walk_at "e"
  refine we_cmp (op_eqX hr) ?_ (nomark _)
  walk_at "e"
  refine od_eq (fl_up _ _ hf) (fl_up _ _ hf) ⟨_, rfl, ?_⟩
  rw [show D.eq d d = true from eqv_refl d 59 hf]
  walk_at "e"
  refine we_cmp (op_eqX hr) ?_ (nomark _)
  refine we_call R (g1.dfn hr (by decide)) rfl ?_
  walk_at "e"
  refine ⟨rfl, d, rfl, hf, hsa, ?_⟩
  refine we_call R (g1.dfn hr (by decide)) rfl ?_
  walk_at "e"
  refine ⟨rfl, d, rfl, hf, hsa, ?_⟩
  refine od_eq (strs_fl _ _) (strs_fl _ _) ?_
  rw [show D.eq (.lst (D.strs (kds d.sz [d]))) (.lst (D.strs (kds d.sz [d]))) = true from eqv_refl _ 60 (strs_fl _ _)]
  exact h
/-! ### _law_odd -/
def spOdd (d : Dr) : DS := ⟨fun ds k => ds = [.obj d.a] ∧ ∀ x : D, x.okL → k (.ret x), fun _ _ _ i ⟨e, h⟩ => ⟨e, fun x zw => i _ (h x zw)⟩⟩
abbrev sOdd : Stmt := top 34
theorem sc_odd : FnScope ["draw"] ["draw"] (defScope sOdd) := ⟨rfl, rfl, rfl, by decide +kernel, rfl, by decide +kernel, by decide +kernel⟩
theorem ok_odd {d : Dr} {f : Addr} {fd : FuncData} (Fn : Fun K "_law_odd" "_law_odd" sOdd f fd) (g1 : Gd P w K mg base "_law_pick" 3 d.cfg ["draw", "some"] (spPick d)) : FnOk P w K mg base (L2.CX P w) 4 f fd ["draw"] (SpD K d.cfg 1 (spOdd d)) := by
  refine defn (k := 3) (ps := ["draw"]) Fn sc_odd fun cdv A outer sh H E hr H0 B0 ds Φ hlw h R => ?_
  obtain ⟨rfl, h⟩ := h
  refine ws_cons ?_
  walk_at "e"
  refine we_callC R (g1.dfn hr (by decide)) rfl ?_
  walk_at "d"
  refine ⟨rfl, _, rfl, Nat.le_of_ble_eq_true rfl, Nat.le_of_ble_eq_true rfl, fun x hxw => h x ?_⟩
  simp only [List.mem_cons, List.not_mem_nil, or_false] at hxw
  rcases hxw with rfl | rfl | rfl | rfl | rfl | rfl | rfl | rfl | rfl | rfl | rfl | rfl | rfl | rfl | rfl | rfl | rfl
  all_goals first
    | exact okL_tup (xs := []) (Nat.le_of_ble_eq_true rfl) (fun x hxw => absurd hxw List.not_mem_nil)
    | (refine okL_tup (Nat.le_of_ble_eq_true rfl) ?_; intro x hxw; simp only [List.mem_cons, List.not_mem_nil, or_false] at hxw; first | exact hxw.elim | (subst hxw; exact ⟨rfl, rfl⟩) | (rcases hxw with rfl | rfl; exact ⟨rfl, rfl⟩; exact ⟨rfl, rfl⟩))
    | exact okL_of rfl (fun xs e => nomatch e)
end
end L2.Px

namespace L2.Px
open PySem PySem.Spec
open PyProof.Rows
variable [Wld]


section
variable {P : Program} {w : World} {K : PySem.W.Frag} {mg : Str → Option Value} {base : Heap}
/-! ### _law_begun -/
def dVal (st : Stmt) (i : Nat) : Expr := match st with
  | .Return (some (.Dict _ vs _)) _ => vs.getD i (.Constant .none 0 ⟨0, 0, 0, 0⟩)
  | _ => .Constant .none 0 ⟨0, 0, 0, 0⟩
def SpBegun (K : PySem.W.Frag) (T : List (Addr × Str)) : Sp := fun vs H Q _ => ∃ (p : Addr) (ns : List Int), vs = [.ref p] ∧ LamX.Tabs T H ∧ SqL K H p (ns.map V.int) ∧ ns.length ≤ 1000 ∧
  ∀ (d : Dr) (H' : Hp), (∀ a o, H a = some o → H' a = some o) → H d.a = none → H d.L = none → H d.C = none → d.T = T → d.At H' → Q (.ref d.a) H'
abbrev sBegun : Stmt := top 25
theorem sc_begun : FnScope ["script", "large", "cell"] ["script"] (defScope sBegun) := ⟨rfl, rfl, rfl, by decide +kernel, rfl, by decide +kernel, by decide +kernel⟩
def absI (i : Int) : Int := if i < 0 then -i else i
theorem ok_begun {Tb : List (Addr × Str)} {f : Addr} {fd : FuncData} (Fn : Fun K "_law_begun" "_law_begun" sBegun f fd) (T : Tx mg) : FnOk P w K mg base (L2.CX P w) 1 f fd ["script"] (SpBegun K Tb) := by
  refine Fn.okX sc_begun (fun vs H Q E h => ?_) (fun cdv A outer sh H vs Q E hr h => ?_)
  · obtain ⟨p, ns, rfl, _⟩ := h
    rfl
  obtain ⟨p, ns, rfl, hTb, hq, hlw, h⟩ := h
  refine ⟨_, pss_wp, ?_⟩
  have st0 : Stt K ⟨c0, H, H⟩ H (start0 ["script", "large", "cell"] [.scr ns]) (L2.start ["script", "large", "cell"] [.ref p]) H := stt_start (.cons (.scr hq) .nil) (fun a o e => ⟨e, fun zw => zw⟩) (fun a zw => zw.elim) True.intro
  have W : WS (cxOf (L2.CX P w) P w K mg base ["script", "large", "cell"] "_law_begun" (defScope sBegun) f cdv A outer sh H E) ⟨c0, H, H⟩ ((defBody sBegun).getD 0 (.Pass ⟨0, 0, 0, 0⟩)) (start0 ["script", "large", "cell"] [.scr ns])
      { nx := fun Γ => ∃ ls : List Int, Γ = [some (.val (.scr ns)), some (.own (.lst (D.ints ls))), none], rt := fun _ => False } := by
    refine ws_setL (i := 1) rfl rfl (show 1 < 3 by decide) ?_ (sw_true rfl rfl rfl (by decide +kernel))
    refine wn_filter (i := 2) (fun x => .int (absI x.toI - 10 ^ 18)) (fun x => decide ((10 : Int) ^ 18 ≤ absI x.toI)) rfl sc_begun.nd (blkOk_by (N := ["script", "large", "cell"]) (sc := defScope sBegun) (by decide +kernel)) rfl (.inl rfl) (show 2 < 3 by decide) (wi_scr ?_)
    walk_at "e"
    refine ⟨ns, rfl, (fun od zw => nomatch zw), by rw [List.length_map]; omega, rfl, fun j x hjw s1 H1 C1 cl1 fp1 => ?_, ?_⟩
    · obtain ⟨i, _, rfl⟩ : ∃ i, ns[j]? = some i ∧ x = .int i := ints_get (a := ns) hjw
      refine wt_cmp op_ge ?_ (nomark _)
      refine we_callB cr_absX rfl T.abs bb_abs ?_
      walk_at "e"
      refine cd_abs ?_
      walk_at "e"
      refine ⟨_, _, rfl, rfl, ⟨by decide, by decide, by decide⟩, ?_⟩
      refine od_ge ⟨_, rfl, rfl, rfl, fun _ sh H C cl fp => ?_⟩
      walk_at "e"
      refine we_callB cr_absX rfl T.abs bb_abs ?_
      walk_at "e"
      refine cd_abs ?_
      walk_at "e"
      refine ⟨_, _, rfl, rfl, ⟨by decide, by decide, by decide⟩, ?_⟩
      exact ⟨_, _, rfl, rfl, rfl, rfl⟩
    · refine ⟨((ns.map D.int).filter fun x => decide ((10 : Int) ^ 18 ≤ absI x.toI)).map fun x => absI x.toI - 10 ^ 18, ?_⟩
      unfold D.ints
      rw [List.map_map]
      rfl
  have WC : ∀ ls : List Int, WN (cxOf (L2.CX P w) P w K mg base ["script", "large", "cell"] "_law_begun" (defScope sBegun) f cdv A outer sh H E) ⟨c0, H, H⟩ (dVal ((defBody sBegun).getD 1 (.Pass ⟨0, 0, 0, 0⟩)) 2)
      [some (.val (.scr ns)), some (.own (.lst (D.ints ls))), none] (fun od Γ => od = .lst (D.ints (ns.map absI)) ∧ Γ = [some (.val (.scr ns)), some (.own (.lst (D.ints ls))), none]) := by
    intro ls
    refine WL.wn (wn_map (i := 2) (fun x => .int (absI x.toI)) rfl sc_begun.nd (blkOk_by (N := ["script", "large", "cell"]) (sc := defScope sBegun) (by decide +kernel)) rfl (.inl rfl) (show 2 < 3 by decide) (wi_scr ?_))
    walk_at "e"
    refine ⟨ns, rfl, (fun od zw => nomatch zw), by rw [List.length_map]; omega, rfl, fun j x hjw s1 H1 C1 cl1 fp1 => ?_, ?_⟩
    · obtain ⟨i, _, rfl⟩ : ∃ i, ns[j]? = some i ∧ x = .int i := ints_get (a := ns) hjw
      refine we_callB cr_absX rfl T.abs bb_abs ?_
      walk_at "e"
      exact cd_abs ⟨rfl, rfl⟩
    · refine ⟨?_, rfl⟩
      unfold D.ints
      rw [List.map_map, List.map_map]
      rfl
  refine wpss_of (pss_cons ps_wp pss_wp) (W H _ H st0 _ ⟨fun B1 Γ1 σ1 H1 p1 s1 ea1 => ?_, fun _ _ _ _ _ _ zw => zw.elim, fun _ _ _ _ zw => zw.elim, fun _ _ _ _ zw => zw.elim⟩)
  obtain ⟨ls, rfl⟩ := p1
  obtain ⟨v, eσ, p', o, rfl, hb, h0, _, hob, xs, rfl, rxw⟩ := s1.sl 1 (.own (.lst (D.ints ls))) rfl
  refine wpss_of (pss_one (ps_ret (pe_disp (pps_cons pe_str (pe_var (i := 1) rfl (.inl rfl)) (pps_cons pe_str pe_int (pps_cons pe_str pe_wp (pps_cons pe_str pe_int pps_nil)))) rfl rfl (by simp) (by simp)))) ?_
  intro dp hdp
  have n1 := s1.laid (o := .dK []) hdp
  refine ⟨.ref p', eσ, ?_⟩
  refine WC ls B1 σ1 (upd H1 dp (.dK [])) n1.st _ fun c o2 od B2 Γ2 H2 hw n2 hb2 h02 _ no2 hc0 ho2 r2 => ?_
  obtain ⟨rfl, rfl⟩ := hw
  obtain ⟨zs, rfl, rz⟩ := r2
  have ez : zs = (ns.map absI).map V.int := RpA.ints rz
  obtain ⟨v2, eσ2, p2, o2, rfl, _, _, _, ho3, xs2, rfl, rx2⟩ := n2.st.sl 1 (.own (.lst (D.ints ls))) rfl
  rw [eσ] at eσ2
  cases eσ2
  have ex2 : xs2 = ls.map V.int := RpA.ints rx2
  subst ez ex2
  have pd : p' ≠ dp := ne_of_none hob hdp
  have pc : p' ≠ c := fun zw => by
    rw [← zw, upd_ne pd, hob] at hc0
    cases hc0
  have cd : c ≠ dp := fun zw => by
    rw [zw, upd_same] at hc0
    cases hc0
  have hd2 : H2 dp = some (.dK []) := n2.kp dp _ upd_same (fun zw => zw) (not_ownd s1 hdp)
  refine ⟨hd2, drKvs ⟨dp, p', c, ns.map absI, Tb⟩ 0 0, rfl, (show 4 ≤ 15 by decide), ?_⟩
  refine h ⟨dp, p', c, ns.map absI, Tb⟩ _ (fun a o e => ?_) (s1.h0 hdp) h0 h02 rfl ⟨pc, by rw [List.length_map]; omega, ls, 0, 0, ⟨upd_same, ?_, ?_, hTb.ext fun a o e => by rw [upd_ne (ne_of_none e (s1.h0 hdp))]; exact n2.st.fr a o e fun w => w⟩⟩
  · rw [upd_ne (ne_of_none e (s1.h0 hdp))]
    exact n2.st.fr a o e (fun zw => zw)
  · rw [upd_ne pd]
    exact ho3
  · rw [upd_ne cd]
    exact ho2
end
end L2.Px

namespace L2.Px
open PySem PySem.Spec
open PyProof.Rows
variable [Wld]


/-! ### calls by keywords alone, the last parameter first -/
def KRev (K : PySem.W.Frag) (fd : FuncData) (ps : List Str) : Prop := ∀ (sh : Shared) (ws : List Value), K.In sh.heap → ws.length = ps.length → BindsTo sh fd ⟨[], ps.reverse.zip ws⟩ (ps.zip ws.reverse)
theorem krev_of {K : PySem.W.Frag} {x qual : Str} {st : Stmt} {f : Addr} {fd : FuncData} (F : Fun K x qual st f fd) {ps : List Str}
    (h : ∀ (kV doc pm : Value) (an : Option Addr) (cdv ct : Value) (ws : List Value), ws.length = ps.length → bindArgs (PySem.W.fnOf x qual (defArgs st) (defBody st) (defScope st) .none kV doc pm an cdv ct) ⟨[], ps.reverse.zip ws⟩ = pure (ps.zip ws.reverse)) : KRev K fd ps := by
  obtain ⟨oc, od, kV, doc, pm, an, cdv, ct, osl, rfl, lk, hcd⟩ := F.ex
  exact fun sh ws _ hlw => .of_eq (h kV doc pm an cdv ct ws hlw)
structure GdK (P : Program) (w : World) (K : PySem.W.Frag) (mg : Str → Option Value) (base : Heap) (x : Str) (k : Nat) (c : Cfg) (ps : List Str) (sp : DS) : Prop where
  ex : ∃ (f : Addr) (fd : FuncData), FnOk P w K mg base (L2.CX P w) k f fd ps (SpD K c ps.length sp) ∧ mg x = some (.ref f) ∧ PySem.W.keepIn K (.ref f) = true ∧ Binds K fd ps [] ∧ KRev K fd ps
theorem GdK.gd {P : Program} {w : World} {K : PySem.W.Frag} {mg : Str → Option Value} {base : Heap} {x : Str} {k : Nat} {c : Cfg} {ps : List Str} {sp : DS} (g : GdK P w K mg base x k c ps sp) : Gd P w K mg base x k c ps sp := by
  obtain ⟨f, fd, a, b, c, d, _⟩ := g.ex
  exact ⟨f, fd, a, b, c, d⟩
theorem Vals.rev {vs : List V} {us : List Value} (r : Vals vs us) : Vals vs.reverse us.reverse := r.reverse
section
variable {X : Cx} {F : Fm} {Γ : Gam} {Φ : D → Gam → Prop}
def tCallR (sp : Sp) (E : XK) (tk : TA) : TE := fun τ H Q => tk τ H fun zs H2 => sp zs.reverse H2 Q E
theorem pe_callR {CX : CXT} {k : Nat} {f : Addr} {fd : FuncData} {ps : List Str} {sp : Sp} {E : XK} {x : Str} {p pos : Pos} {kws : List Keyword} {tk : TA} (FO : FnOk X.prog X.w X.K X.mg X.base CX k f fd ps sp) (hr : Room k X.A) (hg : Gl X x) (hmw : X.mg x = some (.ref f)) (hkw2 : PySem.W.keepIn X.K (.ref f) = true) (hb : KRev X.K fd ps) (hxw : Passes CX X E)
    (hkw : PK X kws tk) (hall : (backToKw pos (keywordEach kws X.env)).all (·.1.isSome) = true) (hks : (backToKw pos (keywordEach kws X.env)).filterMap (·.1) = ps.reverse)
    (hdb : (x == ("__debug__" : Str)) = false) (hpl : ((backTo pos (starEach [] X.env)).any (·.1) || (backToKw pos (keywordEach kws X.env)).any (·.1.isNone)) = false) :
    PE X (.Call (.Name x p) [] kws pos) (tCallR sp E tk) := by
  refine ⟨fun pq sh τ H Q I h => ?_⟩
  refine wpAny_Call_Name_kw (ld_glob I hg hmw ?_ hdb)
  refine PySem.W.callWith_KW0 (h₀ := X.base) I.ok.mod.kin hkw2 hall (thn (hkw.run pos pq sh τ H _ I h) fun ws s2 ⟨zs, H2, I2, rz, q2⟩ => ⟨I2.kIn, ?_⟩) hpl
  rw [hks]
  have r2 := rz.reverse
  have hlw : ws.length = ps.length := by
    have ea1 := FO.len _ _ _ _ q2
    have e2 := r2.length
    rw [List.length_reverse] at ea1 e2
    rw [List.length_reverse] at e2
    omega
  refine wpAny_call (codeAny_mono (FO.run X.A X.stack s2 H2 ⟨[], ps.reverse.zip ws⟩ ws.reverse zs.reverse Q E hr I2.env0 (hb s2 ws I2.kIn hlw) r2 q2) fun r s' hq => ?_)
  cases r with
  | error e => exact hxw pq τ H2 s2 e s' I2 hq
  | ok fl =>
    cases fl with
    | ret u => exact I2.after hq
    | next => exact False.elim hq
    | brk => exact False.elim hq
    | cont => exact False.elim hq
/-- f(b = ea1, a = e2), f's parameters a, b -/
theorem we_callK2 [F.c.Ok] {k j : Nat} {EX : EC → Prop} {x a b : Str} {sp : DS} {ea1 e2 : Expr} {p p1 p2 pos : Pos} (R : Rs X F EX) (g : GdK X.prog X.w X.K X.mg X.base x k c0 [a, b] sp) (hr : Room j X.A) (hkj : k ≤ j) (hg : Gl X x)
    (h : WE X F ea1 Γ fun d1 Γ1 => WE X F e2 Γ1 fun d2 Γ2 => sp.run [d2, d1] fun o => match o with | .ret d => Φ d Γ2 | .exc C => EX C)
    (hdb : (x == ("__debug__" : Str)) = false := by decide) (hall : (backToKw pos (keywordEach [⟨some b, ea1, p1⟩, ⟨some a, e2, p2⟩] X.env)).all (·.1.isSome) = true := by rfl) (hks : (backToKw pos (keywordEach [⟨some b, ea1, p1⟩, ⟨some a, e2, p2⟩] X.env)).filterMap (·.1) = [b, a] := by rfl)
    (hpl : ((backTo pos (starEach [] X.env)).any (·.1) || (backToKw pos (keywordEach [⟨some b, ea1, p1⟩, ⟨some a, e2, p2⟩] X.env)).any (·.1.isNone)) = false := by rfl) :
    WE X F (.Call (.Name x p) [] [⟨some b, ea1, p1⟩, ⟨some a, e2, p2⟩] pos) Γ Φ := by
  obtain ⟨E, tk, hE⟩ := R.ex
  obtain ⟨f, fd, FO, hmw, hkw2, _, hb⟩ := g.ex
  intro B τ H sh Q qw
  refine wp_of (pe_callR FO (hr.mono hkj) hg hmw hkw2 hb (passes_call tk fun _ _ _ _ h => h) (pk_cons pe_wp (pk_cons pe_wp pk_nil)) hall hks hdb hpl) (h B τ H sh _ fun v d1 B1 Γ1 H1 p n r => ?_)
  refine p B1 τ H1 n.st _ fun v2 d2 B2 Γ2 H2 p2 n2 r2 => ?_
  refine ⟨B2, [d2, d1], rfl, fun a o zw => ⟨(n2.st.bH a o zw).1, fun zw => zw⟩, fun _ zw => zw.elim, True.intro, .cons r2 (.cons (Rp.mono n2.ex _ _ r) .nil), sp.mono _ _ _ (fun o hob => ?_) p2⟩
  have n := n.trans n2
  cases o with
  | ret d => exact fun v B' H' P rr => qw v d B' Γ2 H' hob (n.trans (n2.st.called (P.up n2.st.vH' n2.st.g fun a o zw => (n2.st.bH a o zw).2))) rr
  | exc C => exact fun B' H' P => hE C B' H' hob (n2.st.pst.chain (P.up n2.st.vH' n2.st.g fun a o zw => (n2.st.bH a o zw).2) sh.vH)
/-- f(a = e) -/
theorem we_callK1 [F.c.Ok] {k j : Nat} {EX : EC → Prop} {x a : Str} {sp : DS} {ea1 : Expr} {p p1 pos : Pos} (R : Rs X F EX) (g : GdK X.prog X.w X.K X.mg X.base x k c0 [a] sp) (hr : Room j X.A) (hkj : k ≤ j) (hg : Gl X x)
    (h : WE X F ea1 Γ fun d1 Γ1 => sp.run [d1] fun o => match o with | .ret d => Φ d Γ1 | .exc C => EX C)
    (hdb : (x == ("__debug__" : Str)) = false := by decide) (hall : (backToKw pos (keywordEach [⟨some a, ea1, p1⟩] X.env)).all (·.1.isSome) = true := by rfl) (hks : (backToKw pos (keywordEach [⟨some a, ea1, p1⟩] X.env)).filterMap (·.1) = [a] := by rfl)
    (hpl : ((backTo pos (starEach [] X.env)).any (·.1) || (backToKw pos (keywordEach [⟨some a, ea1, p1⟩] X.env)).any (·.1.isNone)) = false := by rfl) :
    WE X F (.Call (.Name x p) [] [⟨some a, ea1, p1⟩] pos) Γ Φ := by
  obtain ⟨E, tk, hE⟩ := R.ex
  obtain ⟨f, fd, FO, hmw, hkw2, _, hb⟩ := g.ex
  intro B τ H sh Q qw
  refine wp_of (pe_callR FO (hr.mono hkj) hg hmw hkw2 hb (passes_call tk fun _ _ _ _ h => h) (pk_cons pe_wp pk_nil) hall hks hdb hpl) (h B τ H sh _ fun v d1 B2 Γ2 H2 p2 n2 r2 => ?_)
  refine ⟨B2, [d1], rfl, fun a o zw => ⟨(n2.st.bH a o zw).1, fun zw => zw⟩, fun _ zw => zw.elim, True.intro, .cons r2 .nil, sp.mono _ _ _ (fun o hob => ?_) p2⟩
  cases o with
  | ret d => exact fun v B' H' P rr => qw v d B' Γ2 H' hob (n2.trans (n2.st.called (P.up n2.st.vH' n2.st.g fun a o zw => (n2.st.bH a o zw).2))) rr
  | exc C => exact fun B' H' P => hE C B' H' hob (n2.st.pst.chain (P.up n2.st.vH' n2.st.g fun a o zw => (n2.st.bH a o zw).2) sh.vH)
end
end L2.Px

/-! an exception that is caught and kept -/
namespace L2.Px
open PySem PySem.Spec
open PyProof.Rows
variable [Wld]
section
variable {X : Cx} {pq : List (Addr × Obj)} {τ : St} {H : Hp} {sh : Shared}
theorem Inv.trackX {a : Addr} {cls : Value} {d : Option Addr} {oe : Obj} {vs : Array Value} (I : Inv X pq τ H sh) (hen : sh.heap.get? a = some oe) (hzz : Zc cls d oe) (hdt : oe.data = .fields vs) (ha : H a = none) (nL : a ≠ X.env.locals)
    (n0 : X.s_0.heap.get? a = none) (np : ∀ p ∈ X.pn ++ pq, p.1 ≠ a) : Inv X pq τ (upd H a (ExD cls d a)) sh := by
  have ne : ∀ b o, H b = some o → b ≠ a := fun b o e zw => by
    rw [zw, ha] at e
    cases e
  refine ⟨I.ok, I.os, I.bare, ⟨I.base.keep, I.base.slot, fun b o e n hxw => ?_, I.base.there, fun b xs e => ?_, fun b o xs e => ?_, fun b ps e => ?_⟩, I.loc, I.cell, ?_, fun x c e => ?_, fun p hp => ?_, ?_, I.len⟩
  · rw [upd_ne (fun zw => by rw [zw, n0] at e; cases e)]
    exact I.base.free b o e n hxw
  · have qw := I.base.tups b xs e
    rw [upd_ne (ne _ _ qw)]
    exact qw
  · have qw := I.base.frzs b o xs e
    rw [upd_ne (ne _ _ qw)]
    exact qw
  · obtain ⟨more, qw⟩ := I.base.tbls b ps e
    exact ⟨more, by rw [upd_ne (ne _ _ qw)]; exact qw⟩
  · rw [upd_ne (Ne.symm nL)]
    exact I.free
  · have nc : c ≠ a := fun zw => by
      obtain ⟨v, o, hob, hv⟩ := I.cell x c e
      rw [zw, hen] at hob
      cases hob
      rw [hdt] at hv
      cases hv
    rw [upd_ne nc]
    exact I.freeC x c e
  · obtain ⟨ea1, e2, e3⟩ := I.pin p hp
    exact ⟨ea1, by rw [upd_ne (np p hp)]; exact e2, e3⟩
  · exact HOk.laidN I.hok (fun b u qw => qw) ha ⟨⟨oe, vs, hen, hzz, hdt⟩, ⟨oe, hen⟩, fun ha1 h2 ⟨o, v, qw, r⟩ k => ⟨o, v, k o qw, r⟩⟩
end
/-- what 'except x as n' wishes, the exception kept -/
def wAsK (K : PySem.W.Frag) (c : Value) (m i : Nat) (ts : Addr → Value → Option Addr → TS) (D : Ends) : L2.WX := fun cls d τ H =>
  ∃ b, PySem.W.exmOne K cls c = some b ∧ b = true ∧ (τ.length = m → ∀ a, H a = none → ts a cls d { nx := fun σ' H' => D.nx (σ'.set i none) (upd H' a (ExD cls d a)), rt := fun _ _ => False, bk := fun _ _ => False, ct := fun _ _ => False } (τ.set i (some (.ref a))) H)
section
variable {X : Cx} {x n : Str} {c : Value} {i : Nat} {body suite : List Stmt} {b₀ : Stmt} {np pos pos' : Pos} {tb : L2.WX → TS} {ts : Addr → Value → Option Addr → TS}
theorem ps_try_keep (hex : X.ex = []) (hsa : X.stack = X.env :: X.outer) (hf : X.env.frame = some X.env.locals) (hN : X.N.Nodup) (hi : X.N[i]? = some n) (hln : X.env.kindOf n = some .local) (hc : Names X x c)
    (hb : ∀ (W : L2.WX) (pn : List (Addr × Obj)) (xe : Value → Shared → Prop), Takes (X.tr pn xe) W → PassesOwn (model X.prog X.w) X.A X.env xe → PSs (X.tr pn xe) body (tb W))
    (hsu : ∀ (a : Addr) (oe : Obj) (cls : Value) (d : Option Addr) (pn : List (Addr × Obj)), Zc cls d oe → (∃ vs, oe.data = .fields vs) → PSs (X.suite a ((a, oe) :: pn)) (b₀ :: suite) (ts a cls d)) :
    PS X (.Try body [.ExceptHandler (some (.Name x np)) (some n) (b₀ :: suite) pos'] [] [] pos) (fun D τ H => tb (wAsK X.K c X.N.length i ts D) D τ H) := by
  refine ⟨fun pq sh τ H D I h => ?_⟩
  have ok := I.ok
  have hfr : X.A.frames = some (X.env :: X.outer) := by rw [ok.frames, hsa]
  have hloc : Loc X.env.scope n := .inl hln
  refine wpAny_Try_except ?_
  refine wpAny_mono ((hb (wAsK X.K c X.N.length i ts D) (X.pn ++ pq) (fun e s₁ => wpAny (model X.prog X.w) X.A (noteFrame e X.env) (fun _ s₂ => wpAny (model X.prog X.w) X.A (setFlight e none) (fun _ s₃ =>
    wpAny (model X.prog X.w) X.A (handleBy e X.env [.ExceptHandler (some (.Name x np)) (some n) (b₀ :: suite) pos']) (SP X pq D) X.xe s₃) X.xe s₂) X.xe s₁) (fun u s' xx => ?_) PassesOwn.looking).run [] sh τ H D (I.toTry _) h) (fun f s1 hspw => ?_) (fun e s1 hen => hen)
  · -- the catch
    obtain ⟨a, B, sI, pins', σ', H', cls, d, rfl, Jw, nb, up, sky, naw, os, ag, b, hb1, hbt, hyes⟩ := xx
    subst hbt
    have J : Inv X pq σ' H' sI := Jw.ofTry ok
    have sky' : Sky B (X.env :: X.outer) a (Zc cls d) X.env.locals s'.heap := by rw [← hsa]; exact sky
    show wpAny (model X.prog X.w) X.A (noteFrame (.ref a) X.env) _ _ _
    refine Sky.land Zc.steady hfr hf sky' fun h3 fa3 up3 => ?_
    have J3 : Inv X pq σ' H' { s' with heap := h3 } := J.landed nb fa3.1 (up.trans up3) os ag
    obtain ⟨oe3, vs3, he3, hz3, hd3⟩ := fa3.there
    have notFr : ∀ {h : Heap} {o : Obj} {vs : Array Value}, h.FunFrames B (X.env :: X.outer) → h.get? a = some o → o.data = .fields vs → a ∉ frs (X.env :: X.outer) := fun {h o vs} ff e dd hmw => by
      obtain ⟨_, o', en, hnf⟩ := ff.mem hmw
      rw [e] at en; cases en
      exact hnf _ dd
    have nfr := notFr fa3.2.2.1 he3 hd3
    have nL : a ≠ X.env.locals := fun zw => nfr (List.mem_filterMap.mpr ⟨X.env, List.mem_cons_self, by rw [hf, zw]⟩)
    have nF : a ∉ X.fs := fun hmw => by
      obtain ⟨e, hen, qw⟩ := List.mem_filterMap.mp hmw
      exact nfr (List.mem_filterMap.mpr ⟨e, List.mem_cons_of_mem _ hen, qw⟩)
    -- it is new
    have nB : B.get? a = none := fa3.2.1
    have nI : sI.heap.get? a = none := by
      cases e : sI.heap.get? a with
      | none => rfl
      | some o =>
        rw [nb a o e (by rw [hsa]; exact nfr)] at nB
        cases nB
    have n0 : X.s_0.heap.get? a = none := by
      cases e : X.s_0.heap.get? a with
      | none => rfl
      | some o =>
        by_cases hxw : a ∈ X.ex
        · rw [hex] at hxw
          exact absurd hxw List.not_mem_nil
        · obtain ⟨o', qw⟩ := J.base.there a o e hxw
          rw [nI] at qw
          cases qw
    have npin : ∀ p ∈ X.pn ++ pq, p.1 ≠ a := fun p hp zw => by
      have qw := (J.pin p hp).1
      rw [zw, nI] at qw
      cases qw
    have Sw3 := J3.suite he3 hd3 naw nL nF
    refine wpAny_handleBy_cons (codeAny_handlers_test ?_) (by intro qw; cases qw)
    have LT : PySem.W.Looks (model X.prog X.w) h3 (typeOf (.ref a)) cls := fun A Q E sh k qw => wpAny_typeOf_ref (k _ _ he3) (by rw [hz3.1]; exact qw)
    have LM := PySem.W.exm_one (M := model X.prog X.w) (J3.kIn) LT hb1
    have test : ∀ {Q : Value → Shared → Prop} {E : Value → Shared → Prop}, Q c { s' with heap := h3 } → wpAny (model X.prog X.w) (X.A.mark (some (.ref a))) (eval (.Name x np) X.env) Q E { s' with heap := h3 } := fun {Q E} qw => by
      obtain ⟨hg, hdbg, hmw | ⟨hmw, hv, hnn⟩⟩ := hc
      · exact ld_glob (X := X.suite a ((a, oe3) :: (X.pn ++ pq))) Sw3 hg hmw qw hdbg
      · exact ld_blt (X := X.suite a ((a, oe3) :: (X.pn ++ pq))) Sw3 hg hmw hv qw hnn hdbg
    refine test (LM.here ?_)
    refine codeAny_handlers_suite_as ?_
    refine HandSPX.lands_againZ fa3 fun h4 fa4 up4 => ?_
    have J4 : Inv X pq σ' H' { s' with heap := h4 } := J.landed nb fa4.1 ((up.trans up3).trans up4) os ag
    obtain ⟨oe4, vs4, he4, hz4, hd4⟩ := fa4.there
    have Sw4 := J4.suite he4 hd4 naw nL nF
    refine store_ok (X := X.suite a ((a, oe4) :: (X.pn ++ pq))) (v := .ref a) Sw4 hN hi hloc rfl (fun s5 S5 => ?_) (.inr hln)
    refine wpAny_mono ((hsu a oe4 cls d (X.pn ++ pq) hz4 ⟨_, hd4⟩).run [] s5 _ H' _ S5 (hyes J.len a naw)) (fun f s6 hspw => ?_) (fun _ _ zw => False.elim zw)
    cases f with
    | next =>
      obtain ⟨τ6, Hw6, Sw6, qw6⟩ := hspw
      have pin6 := Sw6.pin (a, oe4) (by simp [Cx.suite])
      have I6 := Inv.trackX (Sw6.unsuite ok) (cls := cls) (oe := oe4) pin6.1 hz4 hd4 pin6.2.1 nL n0 npin
      exact gone_ok I6 hN hi hln fun s7 J7 => ⟨_, _, J7, qw6⟩
    | brk =>
      obtain ⟨τ6, Hw6, Sw6, qw6⟩ := hspw
      exact qw6.elim
    | cont =>
      obtain ⟨τ6, Hw6, Sw6, qw6⟩ := hspw
      exact qw6.elim
    | ret u =>
      obtain ⟨vw6, τ6, Hw6, Sw6, r6, qw6⟩ := hspw
      exact qw6.elim
  · cases f with
    | next =>
      obtain ⟨σ', H', Jw, qw⟩ := hspw
      exact wpAny_execs_nil ⟨σ', H', Jw.ofTry ok, qw⟩
    | brk =>
      obtain ⟨σ', H', Jw, qw⟩ := hspw
      exact ⟨σ', H', Jw.ofTry ok, qw⟩
    | cont =>
      obtain ⟨σ', H', Jw, qw⟩ := hspw
      exact ⟨σ', H', Jw.ofTry ok, qw⟩
    | ret u =>
      obtain ⟨v, σ', H', Jw, r, qw⟩ := hspw
      exact ⟨v, σ', H', Jw.ofTry ok, r, qw⟩
end
section
variable {X : Cx} {F : Fm} {Γ : Gam} {K : PySem.W.Frag}
/-- isinstance(e, c), e a kept exception, or None -/
def rIsK (K : PySem.W.Frag) : List V → Hp → VK → Prop := fun xs H Q => ∃ (a C : Addr) (D : EC) (b : Bool), xs = [.ref a, .ref C] ∧ D.at H a ∧ ExcC K D.cls ∧ PySem.W.kitOne K (.ref D.cls) (.ref C) = some b ∧ Q (.bl b) H
theorem isk_run {X : Cx} {pq : List (Addr × Obj)} {τ : St} {H : Hp} {sh : Shared} {a C D : Addr} {d : Option Addr} {oe : Obj} {od : Option Obj} {b : Bool} {Q : Value → Shared → Prop} (I : Inv X pq τ H sh) (ec : ExcC X.K D) (J : PySem.W.InstAt sh.heap a oe D od)
    (e : PySem.W.kitOne X.K (.ref D) (.ref C) = some b) (q : ∀ tk, Q (.bool b) { sh with toks := tk }) : wpAny (model X.prog X.w) X.A (call (.builtin "isinstance") [.ref a, .ref C]) Q X.xe sh := by
  have hcl : (PySem.W.clsIn X.K D).isSome = true := by
    obtain ⟨cd, hc, _⟩ := PySem.W.any_some ec.hd
    rw [hc]
    rfl
  exact PySem.W.kia_one (PySem.W.kitx_exc (od := od) hcl ec.hg ec.hk ec.hs ec.ha ec.hn ec.ht ec.hm) I.kIn J e (fun zw => nomatch zw) fun tk => q tk
theorem cr_isK : CallR X (.builtin "isinstance") (rIsK X.K) := by
  intro pq sh τ H xs us Q I r h
  obtain ⟨a, C, D, b, rfl, ha, ec, e, qw⟩ := h
  cases r with
  | cons rxw rr =>
    cases rr with
    | cons rt rr =>
      cases rr
      cases rxw
      cases rt
      cases D with
      | pl D =>
        obtain ⟨⟨oe, vs, hget, hzz, hv⟩, _, _⟩ := I.hok a _ ha
        have J : PySem.W.InstAt sh.heap a oe D none := by
          obtain ⟨oc, od, oda, osl⟩ := oe
          obtain ⟨ha1, h2⟩ := hzz
          dsimp only at ha1 h2 hv
          subst ha1 h2 hv
          exact ⟨hget, rfl, rfl, trivial⟩
        exact isk_run (d := none) I ec J e fun tk => ⟨.bl b, H, I.kept (t' := tk) fun _ _ zw => zw, rfl, qw⟩
      | fd D f n =>
        obtain ⟨dd, ha, hdd⟩ := ha
        obtain ⟨⟨oe, vs, hget, hzz, hv⟩, _, _⟩ := I.hok a _ ha
        have hx : ObjOk X.prog X.w H sh.heap dd (.xd [(f, .int n)]) := I.hok dd _ hdd
        obtain ⟨mA, hns, _⟩ := hx
        obtain ⟨od, ho, _⟩ := lookIn_ns hns
        have J : PySem.W.InstAt sh.heap a oe D (some od) := by
          obtain ⟨oc, od, oda, osl⟩ := oe
          obtain ⟨ha1, h2⟩ := hzz
          dsimp only at ha1 h2 hv
          subst ha1 h2 hv
          exact ⟨hget, rfl, rfl, ho⟩
        exact isk_run (d := none) I ec J e fun tk => ⟨.bl b, H, I.kept (t' := tk) fun _ _ zw => zw, rfl, qw⟩
def rIsB (K : PySem.W.Frag) : List V → Hp → VK → Prop := fun xs H Q => rIsiY K xs H Q ∨ rIsK K xs H Q
theorem cr_isB : CallR X (.builtin "isinstance") (rIsB X.K) := by
  intro pq sh τ H xs us Q I r h
  rcases h with h | h
  · exact cr_isiX pq sh τ H xs us Q I r h
  · exact cr_isK pq sh τ H xs us Q I r h
theorem EC.at.stt {F : Fm} {Γ : Gam} {B : Hp} {τ : St} {H : Hp} (sh : Stt K F B Γ τ H) {a : Addr} : ∀ {C : EC}, C.at B a → C.at H a
  | .pl _, h => (sh.bH _ _ h).1
  | .fd _ _ _, ⟨dd, h1, h2⟩ => ⟨dd, (sh.bH _ _ h1).1, (sh.bH _ _ h2).1⟩
theorem cd_isExc {D : EC} {C : Addr} {b : Bool} {Ψ : L2.Px.D → Prop} (ec : ExcC K D.cls) (hkw2 : PySem.W.kitOne K (.ref D.cls) (.ref C) = some b) (h : Ψ (.bl b)) : CallD K (rIsB K) [.exc D, .obj C] Ψ := by
  intro F _ Γ B τ H vs sh r Q qw
  cases r with
  | cons r1 r2 =>
    cases r2 with
    | cons r2 r3 =>
      cases r3
      cases r2
      cases r1 with
      | exc ha => exact .inr ⟨_, C, D, b, rfl, ha.stt sh, ec, hkw2, qw _ _ _ _ h (Nxt.refl sh) (.bl b)⟩
theorem cd_isNon {C : Addr} {b : Bool} {Ψ : L2.Px.D → Prop} (hkw2 : PySem.W.kitOne K (.type "NoneType") (.ref C) = some b) (h : Ψ (.bl b)) : CallD K (rIsB K) [.non, .obj C] Ψ := by
  intro F _ Γ B τ H vs sh r Q qw
  cases r with
  | cons r1 r2 =>
    cases r2 with
    | cons r2 r3 =>
      cases r3
      cases r2
      cases r1
      exact .inl <| .inl ⟨.non, .ref C, .type "NoneType", .ref C, b, rfl, .own C, .base .non, hkw2, qw _ _ _ _ h (Nxt.refl sh) (.bl b)⟩
/-! ### error.f -/
def tXfK (C : Addr) (f : Str) (te : TE) : TE := fun σ H Q => te σ H fun x H1 => ∃ (a dd : Addr) (fs : List (Str × V)) (v : V), x = .ref a ∧ H1 a = some (ExD (.ref C) (some dd) a) ∧ H1 dd = some (.xd fs) ∧ fs.lookup f = some v ∧ Q v H1
theorem pe_xfK {C : Addr} {e : Expr} {te : TE} {pos : Pos} {f : Str} (T : XfC X.K C) (hno : PySem.W.findIn X.K (.ref C) f = some none) (he : PE X e te) (hb : attributeBase e f X.env (eval e X.env) = eval e X.env := by rfl) : PE X (.Attribute e f pos) (tXfK C f te) := by
  refine ⟨fun pins s σ H Q I h => ?_⟩
  refine attr_of hb (thn (he.run pins s σ H _ I h) fun u s1 hh => ?_)
  obtain ⟨x, H1, I1, rx, a, dd, fs, v, ex, ea, ed, l, q⟩ := hh
  subst ex
  obtain rfl : u = Value.ref a := rx
  obtain ⟨⟨oe, vs, hget, hzz, hv⟩, _, _⟩ := I1.hok a _ ea
  have hx : ObjOk X.prog X.w H1 s1.heap dd (.xd fs) := I1.hok dd _ ed
  obtain ⟨mA, hns, hr⟩ := hx
  obtain ⟨od, ho, hl⟩ := lookIn_ns hns
  obtain ⟨u, hu, ru⟩ := RelO.some_of (v := v) (o := mA f) (by rw [← l]; exact hr f)
  have J : PySem.W.InstAt s1.heap a oe C (some od) := by
    obtain ⟨oc, od, oda, osl⟩ := oe
    obtain ⟨ha1, h2⟩ := hzz
    dsimp only at ha1 h2 hv
    subst ha1 h2 hv
    exact ⟨hget, rfl, rfl, ho⟩
  exact HandSPX.exc_get I1.kIn J T.ga T.gg T.exC (PySem.W.findObj_own T.hdC hno rfl (by rw [hl, hu])) (handed_of ru) ⟨v, H1, I1.tok _, ru, q⟩
theorem we_xf {C : Addr} {e : Expr} {pos : Pos} {f : Str} {Φ : D → Gam → Prop} (T : XfC X.K C) (hno : PySem.W.findIn X.K (.ref C) f = some none) (h : WE X F e Γ fun d Γ1 => ∃ n, d = .exc (.fd C f n) ∧ Φ (.int n) Γ1)
    (hb : attributeBase e f X.env (eval e X.env) = eval e X.env := by rfl) : WE X F (.Attribute e f pos) Γ Φ := by
  intro B τ H sh Q qw
  refine wp_of (pe_xfK T hno pe_wp hb) (h B τ H sh _ fun v d B1 Γ1 H1 p n r => ?_)
  obtain ⟨i, rfl, p⟩ := p
  cases r with
  | @exc a _ ha =>
    obtain ⟨dd, h1, h2⟩ := ha.stt n.st
    refine ⟨a, dd, _, .int i, rfl, h1, h2, ?_, qw _ _ _ _ _ p n (.int i)⟩
    simp [List.lookup]
end
end L2.Px
end
section
open L2 L2.Px PySem PySem.Spec PyProof.Rows
local macro_rules | `(tactic| walk_at "vis") => `(tactic| first | exact .inl rfl | exact .inr (.inl rfl) | exact .inr (.inr rfl))
local macro_rules | `(tactic| walk_at "n") => `(tactic| first
  | refine we_name (i := 0) rfl (by walk_at "vis") rfl ?_
  | refine we_name (i := 1) rfl (by walk_at "vis") rfl ?_
  | refine we_name (i := 2) rfl (by walk_at "vis") rfl ?_
  | refine we_name (i := 3) rfl (by walk_at "vis") rfl ?_
  | refine we_name (i := 4) rfl (by walk_at "vis") rfl ?_
  | refine we_name (i := 5) rfl (by walk_at "vis") rfl ?_
  | refine we_name (i := 6) rfl (by walk_at "vis") rfl ?_
  | refine we_name (i := 7) rfl (by walk_at "vis") rfl ?_
  | refine we_name (i := 8) rfl (by walk_at "vis") rfl ?_
  | refine we_name (i := 9) rfl (by walk_at "vis") rfl ?_)
local macro_rules | `(tactic| walk_at "e1") => `(tactic| first
  | ((with_reducible show (if _ then _ else _)); first | refine itT ?_ | refine itF ?_)
  | ((with_reducible show WE _ _ (.Name _ _) _ _); walk_at "n")
  | ((with_reducible show WE _ _ (.Constant (.int _) _ _) _ _); refine we_int ?_)
  | ((with_reducible show WE _ _ (.Constant (.str _) _ _) _ _); refine we_str ?_)
  | ((with_reducible show WE _ _ (.Constant (.bool _) _ _) _ _); refine we_bl ?_)
  | ((with_reducible show WE _ _ (.Constant .none _ _) _ _); refine we_non ?_)
  | ((with_reducible show WA _ _ (_ :: _) _ _); refine wa_cons ?_)
  | ((with_reducible show WA _ _ [] _ _); refine wa_nil ?_)
  | ((with_reducible show WE _ _ (.BoolOp _ [_] _) _ _); refine we_one ?_)
  | ((with_reducible show WE _ _ (.BoolOp .And _ _) _ _); refine we_and ?_)
  | ((with_reducible show WE _ _ (.BoolOp .Or _ _) _ _); refine we_or ?_)
  | ((with_reducible show WE _ _ (.UnaryOp .Not _ _) _ _); refine we_not ?_)
  | ((with_reducible show WE _ _ (.IfExp _ _ _ _) _ _); refine we_ifExp ?_)
  | ((with_reducible show WE _ _ (.Tuple _ _ _) _ _); refine we_tup ?_)
  | ((with_reducible show WE _ _ (.List _ _) _ _); refine we_lst ?_)
  | ((with_reducible show WE _ _ (.BinOp _ .Add _ _) _ _); refine we_add ?_)
  | ((with_reducible show WE _ _ (.BinOp _ .Sub _ _) _ _); refine we_sub ?_)
  | ((with_reducible show WE _ _ (.BinOp _ .Mult _ _) _ _); refine we_mul ?_)
  | ((with_reducible show WE _ _ (.BinOp _ .Mod _ _) _ _); refine we_mod ?_)
  | ((with_reducible show WE _ _ (.BinOp _ .FloorDiv _ _) _ _); refine we_fdiv ?_)
  | ((with_reducible show WE _ _ (.BinOp _ .Pow _ _) _ _); refine we_pow ?_)
  | ((with_reducible show WT _ _ (.UnaryOp .Not _ _) _ _); refine wt_not ?_)
  | ((with_reducible show WT _ _ (.BoolOp .And _ _) _ _); refine wt_ww (ww_and ?_))
  | ((with_reducible show WT _ _ (.BoolOp .Or _ _) _ _); refine wt_ww (ww_or ?_))
  | ((with_reducible show WW _ _ (.BoolOp .And [_] _) _ _); refine ww_and1 ?_)
  | ((with_reducible show WW _ _ (.BoolOp .Or [_] _) _ _); refine ww_or1 ?_)
  | ((with_reducible show WW _ _ (.BoolOp .And _ _) _ _); refine ww_and ?_)
  | ((with_reducible show WW _ _ (.BoolOp .Or _ _) _ _); refine ww_or ?_)
  | ((with_reducible show WSs _ _ (_ :: _) _ _); refine ws_cons ?_)
  | ((with_reducible show WSs _ _ [] _ _); refine ws_nil ?_)
  | ((with_reducible show WS _ _ (.Return (some _) _) _ _); refine ws_ret ?_)
  | ((with_reducible show WS _ _ (.If _ _ _ _) _ _); refine ws_if ?_)
  | ((with_reducible show WT _ _ (.Call _ _ _ _) _ _); refine wt_val ?_)
  | ((with_reducible show WT _ _ (.Name _ _) _ _); refine wt_val ?_))
local macro_rules | `(tactic| walk_at "e") => `(tactic| repeat' walk_at "e1")
/-! K1: members of at most 5 places, gone through; what some members make -/
namespace L2.Px
variable [Wld]
omit [Wld] in
def insA (x : Int) : List Int → List (List Int)
  | [] => [[x]]
  | y :: l => (x :: y :: l) :: (insA x l).map (y :: ·)
omit [Wld] in
def pms : List Int → List (List Int)
  | [] => [[]]
  | x :: l => (pms l).flatMap (insA x)
theorem ins_mem (x : Int) : ∀ (u v : List Int), u ++ x :: v ∈ insA x (u ++ v)
  | [], [] => by simp [insA]
  | [], y :: v => by simp [insA]
  | a :: u, v => by
    show a :: (u ++ x :: v) ∈ insA x (a :: (u ++ v))
    unfold insA
    exact List.mem_cons_of_mem _ (List.mem_map.mpr ⟨_, ins_mem x u v, rfl⟩)
theorem pms_mem : ∀ {l a : List Int}, a.Perm l → a ∈ pms l
  | [], a, h => by
    rw [List.perm_nil.mp h]
    simp [pms]
  | x :: l, a, h => by
    have hx : x ∈ a := h.mem_iff.mpr (by simp)
    obtain ⟨u, v, rfl⟩ := List.append_of_mem hx
    have h2 : (u ++ v).Perm l := List.Perm.cons_inv ((List.perm_middle.symm).trans h)
    unfold pms
    exact List.mem_flatMap.mpr ⟨u ++ v, pms_mem h2, ins_mem x u v⟩
theorem Pm.perm {n : Nat} {a : List Int} (h : Pm n a) : a.Perm (unitI n) := by
  have e : a.mergeSort leB = (List.range a.length).map fun i : Nat => (i : Int) := of_decide_eq_true h.each
  have q := (List.mergeSort_perm a leB).symm
  rw [e, h.len] at q
  exact q
theorem unit_pair : ∀ n : Nat, (unitI n).Pairwise (fun a b : Int => leB a b = true) := fun n => by
  unfold unitI
  rw [List.pairwise_map]
  exact List.pairwise_lt_range.imp fun {a b} h => by
    show decide _ = true
    simp only [decide_eq_true_eq]
    omega
theorem pm_of_perm {n : Nat} {a : List Int} (h : a.Perm (unitI n)) : Pm n a := by
  have hl : a.length = n := h.length_eq.trans (unit_mb n).len
  refine ⟨?_, hl⟩
  have tr : ∀ a b c : Int, leB a b = true → leB b c = true → leB a c = true := fun a b c h1 h2 => by
    have h1 := of_decide_eq_true h1
    have h2 := of_decide_eq_true h2
    exact decide_eq_true (by omega)
  have to : ∀ a b : Int, (leB a b || leB b a) = true := fun a b => by
    show (decide _ || decide _) = true
    simp only [Bool.or_eq_true, decide_eq_true_eq]
    omega
  have q := List.Perm.eq_of_pairwise (le := fun a b : Int => leB a b = true) (fun a b _ _ h1 h2 => by
    have h1 := of_decide_eq_true h1
    have h2 := of_decide_eq_true h2
    omega) (List.pairwise_mergeSort tr to a) (unit_pair n) ((List.mergeSort_perm a leB).trans h)
  show decide _ = true
  rw [hl]
  exact decide_eq_true q
theorem pm_unit (n : Nat) : Pm n (unitI n) := pm_of_perm (List.Perm.refl _)
theorem pm_then {n : Nat} {a b : List Int} (ha : Pm n a) (hb : Pm n b) : Pm n (thenI a b) := by
  refine pm_of_perm ?_
  have q : (thenI a b).Perm (thenI (unitI n) b) := ha.perm.map _
  rw [unit_then hb.mb] at q
  exact q.trans hb.perm

omit [Wld] in
def okOne (n : Nat) (a : List Int) : Bool :=
  decide (thenI a (backI a) = unitI n) && decide (thenI (backI a) a = unitI n) && decide (lbI a = backI a) && (pms (unitI n)).contains (backI a)
omit [Wld] in
theorem ok_1 : (pms (unitI 1)).all (okOne 1) = true := by decide +kernel
omit [Wld] in
theorem ok_2 : (pms (unitI 2)).all (okOne 2) = true := by decide +kernel
omit [Wld] in
theorem ok_3 : (pms (unitI 3)).all (okOne 3) = true := by decide +kernel
omit [Wld] in
theorem ok_4 : (pms (unitI 4)).all (okOne 4) = true := by decide +kernel
omit [Wld] in
theorem ok_5 : (pms (unitI 5)).all (okOne 5) = true := by decide +kernel
theorem ok_one {n : Nat} {a : List Int} (h : Pm n a) (h1 : 1 ≤ n) (h5 : n ≤ 5) : okOne n a = true := by
  have m := pms_mem h.perm
  have c : n = 1 ∨ n = 2 ∨ n = 3 ∨ n = 4 ∨ n = 5 := by omega
  rcases c with rfl | rfl | rfl | rfl | rfl
  · exact List.all_eq_true.mp ok_1 a m
  · exact List.all_eq_true.mp ok_2 a m
  · exact List.all_eq_true.mp ok_3 a m
  · exact List.all_eq_true.mp ok_4 a m
  · exact List.all_eq_true.mp ok_5 a m
theorem ins_perm (x : Int) : ∀ (l b : List Int), b ∈ insA x l → b.Perm (x :: l)
  | [], b, h => by
    have h : b ∈ [[x]] := h
    rw [List.mem_singleton.mp h]
  | y :: l, b, h => by
    have h : b ∈ (x :: y :: l) :: (insA x l).map (y :: ·) := h
    rcases List.mem_cons.mp h with rfl | h
    · exact List.Perm.refl _
    · obtain ⟨c, hc, rfl⟩ := List.mem_map.mp h
      exact ((ins_perm x l c hc).cons y).trans (List.Perm.swap x y l)
theorem pms_perm : ∀ (l a : List Int), a ∈ pms l → a.Perm l
  | [], a, h => by
    have h : a ∈ [[]] := h
    rw [List.mem_singleton.mp h]
  | x :: l, a, h => by
    unfold pms at h
    obtain ⟨b, hb, hab⟩ := List.mem_flatMap.mp h
    exact (ins_perm x b a hab).trans ((pms_perm l b hb).cons x)
structure Fct (n : Nat) (a : List Int) : Prop where
  tb : thenI a (backI a) = unitI n
  bt : thenI (backI a) a = unitI n
  lb : lbI a = backI a
  pb : Pm n (backI a)
theorem fct {n : Nat} {a : List Int} (h : Pm n a) (h1 : 1 ≤ n) (h5 : n ≤ 5) : Fct n a := by
  have q := ok_one h h1 h5
  unfold okOne at q
  simp only [Bool.and_eq_true, decide_eq_true_eq, List.contains_iff_mem] at q
  obtain ⟨⟨⟨q1, q2⟩, q3⟩, q4⟩ := q
  exact ⟨q1, q2, q3, pm_of_perm (pms_perm _ _ q4)⟩
/-! ### lists without doubles -/
theorem nodup_le {α : Type} [DecidableEq α] : ∀ {l m : List α}, l.Nodup → (∀ x ∈ l, x ∈ m) → l.length ≤ m.length
  | [], _, _, _ => Nat.zero_le _
  | x :: l, m, h, k => by
    have hx : x ∈ m := k x List.mem_cons_self
    have h2 := List.nodup_cons.mp h
    have e : (m.erase x).length = m.length - 1 := List.length_erase_of_mem hx
    have p : 0 < m.length := List.length_pos_of_mem hx
    have ih := nodup_le (m := m.erase x) h2.2 fun y hy => by
      refine (List.mem_erase_of_ne (fun z => ?_)).mpr (k y (List.mem_cons_of_mem _ hy))
      rw [z] at hy
      exact h2.1 hy
    rw [List.length_cons]
    omega
theorem pms_len {n : Nat} (h1 : 1 ≤ n) (h5 : n ≤ 5) : (pms (unitI n)).length ≤ 120 := by
  have c : n = 1 ∨ n = 2 ∨ n = 3 ∨ n = 4 ∨ n = 5 := by omega
  rcases c with rfl | rfl | rfl | rfl | rfl <;> decide +kernel
theorem pm_few {n : Nat} {l : List (List Int)} (h1 : 1 ≤ n) (h5 : n ≤ 5) (nd : l.Nodup) (h : ∀ x ∈ l, Pm n x) : l.length ≤ 120 :=
  Nat.le_trans (nodup_le nd fun x hx => pms_mem (h x hx).perm) (pms_len h1 h5)
/-! ### the sequence of tuples -/
omit [Wld] in
def ltL : List Int → List Int → Bool
  | [], [] => false
  | [], _ :: _ => true
  | _ :: _, [] => false
  | x :: xs, y :: ys => if x = y then ltL xs ys else decide (x < y)
theorem ltL_irr : ∀ a : List Int, ltL a a = false
  | [] => rfl
  | x :: a => by
    unfold ltL
    rw [if_pos rfl]
    exact ltL_irr a
theorem ltL_tr : ∀ {a b c : List Int}, ltL a b = true → ltL b c = true → ltL a c = true
  | [], [], _, h, _ => by cases h
  | [], _ :: _, [], _, h => by cases h
  | [], _ :: _, _ :: _, _, _ => rfl
  | _ :: _, [], _, h, _ => by cases h
  | _ :: _, _ :: _, [], _, h => by cases h
  | x :: a, y :: b, z :: c, h1, h2 => by
    unfold ltL at h1 h2 ⊢
    by_cases e1 : x = y
    · subst e1
      rw [if_pos rfl] at h1
      by_cases e2 : x = z
      · subst e2
        rw [if_pos rfl] at h2 ⊢
        exact ltL_tr h1 h2
      · rw [if_neg e2] at h2 ⊢
        exact h2
    · rw [if_neg e1] at h1
      have h1 := of_decide_eq_true h1
      by_cases e2 : y = z
      · subst e2
        rw [if_neg e1]
        exact decide_eq_true h1
      · rw [if_neg e2] at h2
        have h2 := of_decide_eq_true h2
        rw [if_neg (by omega)]
        exact decide_eq_true (by omega)
theorem ltL_to : ∀ {a b : List Int}, ltL a b = false → ltL b a = false → a = b
  | [], [], _, _ => rfl
  | [], _ :: _, h, _ => by cases h
  | _ :: _, [], _, h => by cases h
  | x :: a, y :: b, h1, h2 => by
    unfold ltL at h1 h2
    by_cases e : x = y
    · subst e
      rw [if_pos rfl] at h1 h2
      rw [ltL_to h1 h2]
    · rw [if_neg e] at h1
      rw [if_neg (Ne.symm e)] at h2
      have h1 := of_decide_eq_false h1
      have h2 := of_decide_eq_false h2
      omega
/-- ascending, each once -/
def Asc (l : List (List Int)) : Prop := l.Pairwise fun a b => ltL a b = true
theorem asc_eq : ∀ {l m : List (List Int)}, Asc l → Asc m → (∀ x, x ∈ l ↔ x ∈ m) → l = m
  | [], [], _, _, _ => rfl
  | [], y :: m, _, _, h => absurd ((h y).mpr List.mem_cons_self) (by simp)
  | x :: l, [], _, _, h => absurd ((h x).mp List.mem_cons_self) (by simp)
  | x :: l, y :: m, a, b, h => by
    obtain ⟨a1, a2⟩ := List.pairwise_cons.mp a
    obtain ⟨b1, b2⟩ := List.pairwise_cons.mp b
    have exy : x = y := by
      by_cases e : x = y
      · exact e
      · exfalso
        have hx : x ∈ m := by
          rcases List.mem_cons.mp ((h x).mp List.mem_cons_self) with z | z
          · exact absurd z e
          · exact z
        have hy : y ∈ l := by
          rcases List.mem_cons.mp ((h y).mpr List.mem_cons_self) with z | z
          · exact absurd z.symm e
          · exact z
        have c := ltL_tr (a1 y hy) (b1 x hx)
        rw [ltL_irr] at c
        cases c
    subst exy
    have ih : l = m := asc_eq a2 b2 fun z => by
      have hz := h z
      constructor
      · intro q
        rcases List.mem_cons.mp (hz.mp (List.mem_cons_of_mem _ q)) with w | w
        · subst w
          have c := a1 z q
          rw [ltL_irr] at c
          cases c
        · exact w
      · intro q
        rcases List.mem_cons.mp (hz.mpr (List.mem_cons_of_mem _ q)) with w | w
        · subst w
          have c := b1 z q
          rw [ltL_irr] at c
          cases c
        · exact w
    rw [ih]
theorem asc_nodup {l : List (List Int)} (h : Asc l) : l.Nodup := h.imp fun {a b} q e => by
  subst e
  rw [ltL_irr] at q
  cases q
def leL (a b : List Int) : Bool := !ltL b a
theorem leL_tr (a b c : List Int) (h1 : leL a b = true) (h2 : leL b c = true) : leL a c = true := by
  have h1 : ltL b a = false := by simpa [leL] using h1
  have h2 : ltL c b = false := by simpa [leL] using h2
  have g : ltL c a = false := by
    cases e : ltL c a with
    | false => rfl
    | true =>
      cases e2 : ltL a b with
      | true =>
        have c := ltL_tr e e2
        rw [h2] at c
        cases c
      | false =>
        have := ltL_to e2 h1
        subst this
        rw [h2] at e
        cases e
  simp [leL, g]
theorem leL_total (a b : List Int) : (leL a b || leL b a) = true := by
  cases e : ltL b a with
  | false => simp [leL, e]
  | true =>
    have g : ltL a b = false := by
      cases e2 : ltL a b with
      | false => rfl
      | true =>
        have c := ltL_tr e e2
        rw [ltL_irr] at c
        cases c
    simp [leL, g]
theorem sort_asc {l : List (List Int)} (nd : l.Nodup) : Asc (l.mergeSort leL) := by
  have p := List.pairwise_mergeSort (le := leL) leL_tr leL_total l
  have n : (l.mergeSort leL).Nodup := (List.mergeSort_perm l leL).nodup_iff.mpr nd
  refine (p.and n).imp fun {a b} q => ?_
  cases e : ltL a b with
  | true => rfl
  | false =>
    have h1 : ltL b a = false := by simpa [leL] using q.1
    exact absurd (ltL_to e h1) q.2
theorem sort_to {l m : List (List Int)} (nd : l.Nodup) (am : Asc m) (h : ∀ x, x ∈ l ↔ x ∈ m) : l.mergeSort leL = m :=
  asc_eq (sort_asc nd) am fun x => (List.mergeSort_perm l leL).mem_iff.trans (h x)
/-! ### what some members make -/
inductive Reach (n : Nat) (ms : List (List Int)) : List Int → Prop
  | unit : Reach n ms (unitI n)
  | step {x m : List Int} : Reach n ms x → m ∈ ms → Reach n ms (thenI x m)
/-- L: the group that ms make -/
structure Cls (n : Nat) (ms L : List (List Int)) : Prop where
  asc : Asc L
  mem : ∀ x, x ∈ L ↔ Reach n ms x
theorem Reach.pm {n : Nat} {ms : List (List Int)} (h : ∀ m ∈ ms, Pm n m) {x : List Int} (r : Reach n ms x) : Pm n x := by
  induction r with
  | unit => exact pm_unit n
  | step _ hm ih => exact pm_then ih (h _ hm)
theorem Reach.mono {n : Nat} {ms ms' : List (List Int)} (h : ∀ m ∈ ms, m ∈ ms') {x : List Int} (r : Reach n ms x) : Reach n ms' x := by
  induction r with
  | unit => exact .unit
  | step _ hm ih => exact .step ih (h _ hm)
theorem Reach.mul {n : Nat} {ms : List (List Int)} (h : ∀ m ∈ ms, Pm n m) {x y : List Int} (rx : Reach n ms x) (ry : Reach n ms y) : Reach n ms (thenI x y) := by
  induction ry with
  | unit =>
    rw [then_unit (rx.pm h).mb]
    exact rx
  | step r hm ih =>
    rw [← then_assoc (rx.pm h).mb (r.pm h).mb]
    exact .step ih hm
theorem Reach.of {n : Nat} {ms : List (List Int)} (h : ∀ m ∈ ms, Pm n m) {m : List Int} (hm : m ∈ ms) : Reach n ms m := by
  have q : Reach n ms (thenI (unitI n) m) := .step .unit hm
  rw [unit_then (h m hm).mb] at q
  exact q
/-- what is made by what is made -/
theorem Reach.sub {n : Nat} {ms ks : List (List Int)} (h : ∀ m ∈ ms, Pm n m) (k : ∀ m ∈ ks, Reach n ms m) {x : List Int} (r : Reach n ks x) : Reach n ms x := by
  induction r with
  | unit => exact .unit
  | step _ hm ih => exact ih.mul h (k _ hm)
omit [Wld] in
theorem pms_nd1 : (pms (unitI 1)).Nodup := by decide +kernel
omit [Wld] in
theorem pms_nd2 : (pms (unitI 2)).Nodup := by decide +kernel
omit [Wld] in
theorem pms_nd3 : (pms (unitI 3)).Nodup := by decide +kernel
omit [Wld] in
theorem pms_nd4 : (pms (unitI 4)).Nodup := by decide +kernel
omit [Wld] in
theorem pms_nd5 : (pms (unitI 5)).Nodup := by decide +kernel
theorem pms_nd {n : Nat} (h1 : 1 ≤ n) (h5 : n ≤ 5) : (pms (unitI n)).Nodup := by
  have c : n = 1 ∨ n = 2 ∨ n = 3 ∨ n = 4 ∨ n = 5 := by omega
  rcases c with rfl | rfl | rfl | rfl | rfl
  · exact pms_nd1
  · exact pms_nd2
  · exact pms_nd3
  · exact pms_nd4
  · exact pms_nd5
theorem cls_ex {n : Nat} {ms : List (List Int)} (h : ∀ m ∈ ms, Pm n m) (h1 : 1 ≤ n) (h5 : n ≤ 5) : ∃ L, Cls n ms L := by
  classical
  refine ⟨((pms (unitI n)).filter fun x => decide (Reach n ms x)).mergeSort leL, sort_asc ((pms_nd h1 h5).filter _), fun x => ?_⟩
  rw [(List.mergeSort_perm _ leL).mem_iff, List.mem_filter]
  exact ⟨fun q => of_decide_eq_true q.2, fun r => ⟨pms_mem (r.pm h).perm, decide_eq_true r⟩⟩
theorem Cls.one {n : Nat} {ms L L' : List (List Int)} (a : Cls n ms L) (b : Cls n ms L') : L = L' := asc_eq a.asc b.asc fun x => (a.mem x).trans (b.mem x).symm
theorem Cls.few {n : Nat} {ms L : List (List Int)} (a : Cls n ms L) (h : ∀ m ∈ ms, Pm n m) (h1 : 1 ≤ n) (h5 : n ≤ 5) : L.length ≤ 120 := pm_few h1 h5 (asc_nodup a.asc) fun x hx => ((a.mem x).mp hx).pm h
end L2.Px

/-! K2: lists of members as data -/
namespace L2.Px
open PySem PySem.Spec
open PyProof.Rows
variable [Wld]
def perms (L : List (List Int)) : List D := L.map fun a => D.tup (D.ints a)
def trues (L : List (List Int)) : List D := L.map fun _ => D.bl true
def nkI (a : List Int) : NK := NestedKey.tup (a.map NestedKey.num)
theorem nkA_ints : ∀ a : List Int, D.nkA (D.ints a) = some (a.map NestedKey.num)
  | [] => rfl
  | x :: a => by
    have e : D.nkA (D.ints (x :: a)) = (match (D.int x).nk, D.nkA (D.ints a) with
      | some k, some ks => some (k :: ks)
      | _, _ => none) := rfl
    rw [e, nkA_ints a]
    rfl
theorem nk_perm (a : List Int) : (D.tup (D.ints a)).nk = some (nkI a) := by
  show (D.nkA (D.ints a)).map NestedKey.tup = _
  rw [nkA_ints]
  rfl
theorem nkI_inj {a b : List Int} (h : nkI a = nkI b) : a = b := by
  have h : a.map NestedKey.num = b.map NestedKey.num := NestedKey.tup.inj h
  exact (List.map_inj_right (fun x y e => NestedKey.num.inj e)).mp h
theorem nkI_depth (a : List Int) : (nkI a).depth ≤ 8 := by
  have e : ∀ l : List Int, NestedKey.depthAll (l.map NestedKey.num) ≤ 1 := fun l => by
    induction l with
    | nil => simp [NestedKey.depthAll]
    | cons x l ih =>
      rw [List.map_cons]
      simp only [NestedKey.depthAll, NestedKey.depth]
      omega
  have := e a
  unfold nkI
  simp only [NestedKey.depth]
  omega
theorem valN_perms (a : List Int) : ∀ L : List (List Int), valN (perms L) (trues L) (nkI a) = if a ∈ L then some (.bl true) else none
  | [] => by
    rw [if_neg (by simp)]
    rfl
  | b :: L => by
    have e : valN (perms (b :: L)) (trues (b :: L)) (nkI a) = if (D.tup (D.ints b)).nk = some (nkI a) then some (.bl true) else valN (perms L) (trues L) (nkI a) := rfl
    rw [e, nk_perm, valN_perms a L]
    by_cases h : b = a
    · subst h
      rw [if_pos rfl, if_pos List.mem_cons_self]
    · rw [if_neg (fun z => h (nkI_inj (Option.some.inj z)))]
      by_cases h2 : a ∈ L
      · rw [if_pos h2, if_pos (List.mem_cons_of_mem _ h2)]
      · rw [if_neg h2, if_neg (fun z => (List.mem_cons.mp z).elim (fun w => h w.symm) h2)]
theorem flA_perms (n : Nat) : ∀ L : List (List Int), D.flA (perms L) (n + 1) = true
  | [] => rfl
  | a :: L => by
    show (D.flA (D.ints a) n && D.flA (perms L) (n + 1)) = true
    rw [ints_fl, flA_perms n L]
    rfl
theorem imm_perms : ∀ L : List (List Int), D.immA (perms L) = true
  | [] => rfl
  | a :: L => by
    show (D.immA (D.ints a) && D.immA (perms L)) = true
    rw [imm_ints, imm_perms L]
    rfl
theorem imm_trues (L : List (List Int)) : D.immA (trues L) = true := by
  induction L with
  | nil => rfl
  | cons x a ih => exact ih
theorem perms_len (L : List (List Int)) : (perms L).length = L.length := List.length_map ..
theorem pyA_ints (a : List Int) : D.pyA (D.ints a) = a.map PyData.int := by
  induction a with
  | nil => rfl
  | cons x a ih =>
    show PyData.int x :: D.pyA (D.ints a) = _
    rw [ih]
    rfl
theorem listLt_eq : ∀ a b : List Int, PySem.W.listLt a b = ltL a b
  | [], [] => rfl
  | [], _ :: _ => rfl
  | _ :: _, [] => rfl
  | x :: a, y :: b => by
    unfold PySem.W.listLt ltL
    rw [listLt_eq a b]
    rfl
theorem dataLe_perm (a b : List Int) : PySem.W.dataLe false D.py (D.tup (D.ints a)) (D.tup (D.ints b)) = leL a b := by
  have e : PySem.W.dataLe false D.py (D.tup (D.ints a)) (D.tup (D.ints b)) = !lexLt itemOrd (PySem.W.keyToks (D.tup (D.ints b)).py) (PySem.W.keyToks (D.tup (D.ints a)).py) := rfl
  have k : ∀ c : List Int, PySem.W.keyToks (D.tup (D.ints c)).py = PySem.W.keyToksAll (c.map PyData.int) := fun c => by
    show PySem.W.keyToks (.tuple (D.pyA (D.ints c))) = _
    rw [PySem.W.keyToks, pyA_ints]
  rw [e, k, k]
  have l := PySem.W.lexAll_map b a
  unfold leL
  rw [← listLt_eq, ← l]
  rfl
theorem srt_perms (L : List (List Int)) : D.srt (perms L) = perms (L.mergeSort leL) := by
  unfold D.srt perms
  rw [List.map_mergeSort (s := PySem.W.dataLe false D.py)]
  intro a _ b _
  exact (dataLe_perm a b).symm
theorem srtOk_perms {n : Nat} {L : List (List Int)} (h1 : 1 ≤ n) (hl : ∀ a ∈ L, a.length = n) (hs : L.length ≤ 100000) : SrtOk (perms L) := by
  refine ⟨(fl_plA _ 2 (flA_perms 1 L)).1, ?_, ?_, ?_, by rw [perms_len]; exact hs⟩
  · intro d hd d' hd'
    unfold perms at hd hd'
    rw [List.map_map] at hd hd'
    obtain ⟨a, _, rfl⟩ := List.mem_map.mp hd
    obtain ⟨b, _, rfl⟩ := List.mem_map.mp hd'
    show PySem.W.alike (.tuple (D.pyA (D.ints a))) (.tuple (D.pyA (D.ints b))) = true
    rw [PySem.W.alike, pyA_ints, pyA_ints]
    exact PySem.W.alikeAll_map a b
  · refine .inl fun d hd => ?_
    unfold perms at hd
    rw [List.map_map] at hd
    obtain ⟨a, ha, rfl⟩ := List.mem_map.mp hd
    have := hl a ha
    cases a with
    | nil => exact absurd this (by simp; omega)
    | cons x a => exact ⟨_, _, rfl⟩
  · intro d hd
    unfold perms at hd
    obtain ⟨a, _, rfl⟩ := List.mem_map.mp hd
    exact Nat.le_trans (fl_pl (.tup (D.ints a)) 2 (by show D.flA (D.ints a) 1 = true; exact ints_fl a 1)).2 (by decide)
end L2.Px

/-! K3: closed_by -/
namespace L2.Px
open PySem PySem.Spec
open PyProof.Rows
variable [Wld]


section
variable {X : Cx} {F : Fm} {Γ : Gam}
theorem wi_seqN [F.c.Ok] {tg : Expr} {i : Nat} {x : Str} {pos : Pos} {c : D} {ds : List D} {Φ : List D → Gam → Prop} (hN : X.N[i]? = some x) (hv : Vis X.env.scope x) (h0 : Γ[i]? = some (some (.val c))) (hc : c = .lst ds ∨ c = .tup ds) (h : Φ ds Γ)
    (hdt : (x == ("__debug__" : Str)) = false := by decide) (hcd : (x == ("__classdict__" : Str)) = false := by decide) : WI X F tg (.Name x pos) Γ Φ := by
  rcases hc with rfl | rfl
  · exact wi_lst (we_name hN hv h0 ⟨_, rfl, h⟩ hdt hcd)
  · exact wi_tup (we_name hN hv h0 ⟨_, rfl, h⟩ hdt hcd)
end
/-- what stands between two turns -/
structure Cli (n : Nat) (ms fs ln : List (List Int)) : Prop where
  nd : fs.Nodup
  re : ∀ x ∈ fs, Reach n ms x
  un : unitI n ∈ fs
  sub : ∀ x ∈ ln, x ∈ fs
  cl : ∀ x ∈ fs, x ∉ ln → ∀ m ∈ ms, thenI x m ∈ fs
  le : ln.length ≤ fs.length
/-- within a turn: here is h, the first j members are seen to -/
structure Clj (n : Nat) (ms : List (List Int)) (h : List Int) (f0 l0 j : Nat) (fs ln : List (List Int)) : Prop where
  nd : fs.Nodup
  re : ∀ x ∈ fs, Reach n ms x
  un : unitI n ∈ fs
  hf : h ∈ fs
  sub : ∀ x ∈ ln, x ∈ fs
  cl : ∀ x ∈ fs, x ∉ ln → x = h ∨ ∀ m ∈ ms, thenI x m ∈ fs
  hj : ∀ m ∈ ms.take j, thenI h m ∈ fs
  le : ln.length ≤ fs.length
  mo : fs.length + l0 = ln.length + f0
  ge : f0 ≤ fs.length
  up : fs.length ≤ f0 + j
theorem Cli.first (n : Nat) (ms : List (List Int)) : Cli n ms [unitI n] [unitI n] :=
  ⟨by simp, (fun x hx => by rw [List.mem_singleton.mp hx]; exact .unit), by simp, (fun x hx => hx), (fun x hx hn => absurd hx hn), Nat.le_refl _⟩
theorem Cli.turn {n : Nat} {ms fs l0 : List (List Int)} {h : List Int} (c : Cli n ms fs (l0 ++ [h])) : Clj n ms h fs.length l0.length 0 fs l0 := by
  refine ⟨c.nd, c.re, c.un, c.sub h (by simp), fun x hx => c.sub x (by simp [hx]), fun x hx hn => ?_, (fun m hm => by simp at hm), ?_, by omega, Nat.le_refl _, Nat.le_refl _⟩
  · by_cases e : x = h
    · exact .inl e
    · exact .inr (c.cl x hx (fun z => by
        rcases List.mem_append.mp z with w | w
        · exact hn w
        · exact e (List.mem_singleton.mp w)))
  · have := c.le
    rw [List.length_append, List.length_singleton] at this
    omega
theorem Clj.old {n : Nat} {ms : List (List Int)} {h m : List Int} {f0 l0 j : Nat} {fs ln : List (List Int)} (c : Clj n ms h f0 l0 j fs ln) (e : ms[j]? = some m) (hm : thenI h m ∈ fs) : Clj n ms h f0 l0 (j + 1) fs ln :=
  ⟨c.nd, c.re, c.un, c.hf, c.sub, c.cl, (fun y hy => by
    rw [take_more e] at hy
    rcases List.mem_append.mp hy with z | z
    · exact c.hj y z
    · rw [List.mem_singleton.mp z]; exact hm), c.le, c.mo, c.ge, by have := c.up; omega⟩
theorem Clj.new {n : Nat} {ms : List (List Int)} {h m : List Int} {f0 l0 j : Nat} {fs ln : List (List Int)} (c : Clj n ms h f0 l0 j fs ln) (e : ms[j]? = some m) (hm : thenI h m ∉ fs) : Clj n ms h f0 l0 (j + 1) (fs ++ [thenI h m]) (ln ++ [thenI h m]) := by
  have up := c.up
  have le := c.le
  have mo := c.mo
  have ge := c.ge
  refine ⟨?_, fun x hx => ?_, by simp [c.un], by simp [c.hf], fun x hx => ?_, fun x hx hn => ?_, fun y hy => ?_, by simp; omega, by simp; omega, by simp; omega, by simp; omega⟩
  · refine List.nodup_append.mpr ⟨c.nd, by simp, fun x hx y hy e => ?_⟩
    rw [List.mem_singleton.mp hy] at e
    exact hm (e ▸ hx)
  · rcases List.mem_append.mp hx with z | z
    · exact c.re x z
    · rw [List.mem_singleton.mp z]
      exact .step (c.re h c.hf) (List.mem_of_getElem? e)
  · rcases List.mem_append.mp hx with z | z
    · exact List.mem_append_left _ (c.sub x z)
    · exact List.mem_append_right _ z
  · rcases List.mem_append.mp hx with z | z
    · rcases c.cl x z (fun w => hn (List.mem_append_left _ w)) with w | w
      · exact .inl w
      · exact .inr fun m hm => List.mem_append_left _ (w m hm)
    · exact absurd (List.mem_append_right _ z) hn
  · rw [take_more e] at hy
    rcases List.mem_append.mp hy with z | z
    · exact List.mem_append_left _ (c.hj y z)
    · rw [List.mem_singleton.mp z]
      exact List.mem_append_right _ (List.mem_singleton.mpr rfl)
theorem Clj.done {n : Nat} {ms : List (List Int)} {h : List Int} {f0 l0 : Nat} {fs ln : List (List Int)} (c : Clj n ms h f0 l0 ms.length fs ln) : Cli n ms fs ln := by
  refine ⟨c.nd, c.re, c.un, c.sub, fun x hx hn m hm => ?_, c.le⟩
  rcases c.cl x hx hn with e | w
  · rw [e]
    exact c.hj m (by rw [List.take_length]; exact hm)
  · exact w m hm
theorem Cli.fin {n : Nat} {ms fs L : List (List Int)} (c : Cli n ms fs []) (k : Cls n ms L) : ∀ x, x ∈ fs ↔ x ∈ L := fun x => by
  refine ⟨fun h => (k.mem x).mpr (c.re x h), fun h => ?_⟩
  have r := (k.mem x).mp h
  induction r with
  | unit => exact c.un
  | step r hm ih => exact c.cl _ (ih ((k.mem _).mpr r)) (by simp) _ hm
theorem Cli.over {n : Nat} {ms fs ln L : List (List Int)} (c : Cli n ms fs ln) (k : Cls n ms L) : fs.length ≤ L.length := nodup_le c.nd fun x hx => (k.mem x).mpr (c.re x hx)
section
variable {P : Program} {w : World} {K : PySem.W.Frag} {mg : Str → Option Value} {base : Heap}
def spClosedBy : DS := ⟨fun ds k => ∃ (n : Nat) (ms : List (List Int)) (c : D), ds = [.int n, c] ∧ (c = .lst (perms ms) ∨ c = .tup (perms ms)) ∧ 1 ≤ n ∧ n ≤ 5 ∧ ms.length ≤ 1000 ∧ (∀ m ∈ ms, Pm n m) ∧ ∀ L, Cls n ms L → k (.ret (if L.length ≤ 60 then .tup (perms L) else .non)),
  fun _ _ _ i ⟨n, ms, c, e, h1, h2, h3, h4, h5, h⟩ => ⟨n, ms, c, e, h1, h2, h3, h4, h5, fun L k => i _ (h L k)⟩⟩
abbrev sClosedBy : Stmt := top 17
theorem sc_closed_by : FnScope ["places", "members", "found", "line", "here", "member", "late"] ["places", "members"] (defScope sClosedBy) := ⟨rfl, rfl, rfl, by decide +kernel, rfl, by decide +kernel, by decide +kernel⟩
def clInv (n : Nat) (c : D) (ms : List (List Int)) (m : Nat) (Γ : Gam) : Prop := ∃ (fs ln : List (List Int)) (s4 s5 s6 : Option Sl), Γ = [some (.val (.int n)), some (.val c), some (.own (.dN (perms fs) (trues fs))), some (.own (.lst (perms ln))), s4, s5, s6] ∧
  (∀ od, s4 ≠ some (.own od)) ∧ (∀ od, s5 ≠ some (.own od)) ∧ (∀ od, s6 ≠ some (.own od)) ∧ Cli n ms fs ln ∧ fs.length ≤ 60 ∧ 2 * (61 - fs.length) + ln.length = m
theorem ok_closed_by (hP : P = Wld.P) (hw : w = Wld.w) {f : Addr} {fd : FuncData} (Fn : Fun K "closed_by" "closed_by" sClosedBy f fd) (T : Tx mg) (m60 : ∃ t, mg "MOST_MEMBERS" = some (.int 60 t)) (g1 : Gd P w K mg base "unit_by" 1 c0 ["places"] spUnitBy) (g2 : Gd P w K mg base "then_by" 1 c0 ["one", "other"] spThenBy) :
    FnOk P w K mg base (L2.CX P w) 2 f fd ["places", "members"] (SpD K c0 2 spClosedBy) := by
  refine defn (k := 1) (ps := ["places", "members"]) Fn sc_closed_by fun cdv A outer sh H E hr H0 B0 ds Φ hlw h R => ?_
  obtain ⟨n, ms, c, rfl, hc, h1, h5, hm, pm, h⟩ := h
  obtain ⟨t60, m60⟩ := m60
  have W : InW (cxOf (L2.CX P w) P w K mg base ["places", "members", "found", "line", "here", "member", "late"] "closed_by" (defScope sClosedBy) f cdv A outer sh H E) := ⟨hP, hw⟩
  refine ws_cons ?_
  refine ws_par (i := 2) (j := 3) rfl sc_closed_by.nd rfl rfl (by decide) (show 2 < 7 by decide) (show 3 < 7 by decide) rfl rfl (wx_new ?_)
  refine wn_dispN W hr ?_
  refine we_call R (g1.dfn hr (by decide)) rfl ?_
  walk_at "e"
  refine ⟨rfl, n, rfl, by omega, ?_⟩
  walk_at "e"
  refine ⟨D.ints (unitI n), nkI (unitI n), rfl, nk_perm _, nkI_depth _, ?_⟩
  refine wx_new ?_
  refine wn_lst ?_
  walk_at "e"
  refine we_call R (g1.dfn hr (by decide)) rfl ?_
  walk_at "e"
  refine ⟨rfl, n, rfl, by omega, ?_⟩
  walk_at "e"
  refine ⟨(show 1 ≤ 100000 by decide), ?_⟩
  refine ws_cons ?_
  refine ws_while (passes_of rfl) (clInv n c ms) (2 * 60 + 1) ⟨[unitI n], [unitI n], none, none, none, rfl, (fun od zw => nomatch zw), (fun od zw => nomatch zw), (fun od zw => nomatch zw), Cli.first n ms, (show 1 ≤ 60 by decide), rfl⟩ ?_
  rintro m Γ ⟨fs, ln, s4, s5, s6, rfl, n4, n5, n6, ci, f60, hm0⟩
  refine wt_lend (i := 3) rfl ?_ ?_
  · intro j od hjw e
    match j, e with
    | 0, e => cases e
    | 1, e => cases e
    | 2, e =>
      cases e
      show (D.immA (perms fs) && D.immA (trues fs)) = true
      rw [imm_perms, imm_trues]
      rfl
    | 3, e => exact absurd rfl hjw
    | 4, e => exact absurd (Option.some.inj e) (n4 od)
    | 5, e => exact absurd (Option.some.inj e) (n5 od)
    | 6, e => exact absurd (Option.some.inj e) (n6 od)
  · refine wt_cmp (op_neX hr) ?_ (nomark _)
    walk_at "e"
    refine ⟨by decide, ?_⟩
    refine od_ne (show D.flA (perms ln) 59 = true from flA_perms 58 ln) (show D.flA (D.ints []) 60 = true from rfl) ⟨_, rfl, rfl, ?_⟩
    rw [eq_nil]
    rcases List.eq_nil_or_concat ln with rfl | ⟨l0, hd, rfl⟩
    · refine itF ?_
      refine ws_cons ?_
      refine ws_ret ?_
      refine we_lendN (i := 2) rfl ?_ ?_
      · intro j od hjw e
        match j, e with
        | 0, e => cases e
        | 1, e => cases e
        | 2, e => exact absurd rfl hjw
        | 3, e =>
          cases e
          rfl
        | 4, e => exact absurd (Option.some.inj e) (n4 od)
        | 5, e => exact absurd (Option.some.inj e) (n5 od)
        | 6, e => exact absurd (Option.some.inj e) (n6 od)
      · refine we_callTy cr_tupX rfl T.tuple bb_tuple ?_
        refine wa_cons ?_
        refine we_callB (cr_sortN W rfl hr) rfl T.sorted bb_sorted ?_
        walk_at "e"
        refine cd_sortN (srtOk_perms h1 (fun a ha => ((ci.re a ha).pm pm).len) (by omega)) ?_
        walk_at "e"
        refine cd_tuple (.inl rfl) ?_
        rw [srt_perms]
        obtain ⟨L, cL⟩ := cls_ex pm h1 h5
        have fin := ci.fin cL
        have e := sort_to ci.nd cL.asc fin
        rw [e]
        have q := h L cL
        have ll : L.length ≤ 60 := Nat.le_trans (nodup_le (asc_nodup cL.asc) fun x hx => (fin x).mpr hx) f60
        rw [if_pos ll] at q
        exact ⟨rfl, imm_perms L, q⟩
    · rw [List.concat_eq_append] at *
      rw [show ((perms (l0 ++ [hd])).isEmpty) = false by unfold perms; simp]
      refine itT ?_
      have hll : (perms (l0 ++ [hd]))[(perms (l0 ++ [hd])).length - 1]? = some (.tup (D.ints hd)) := by
        unfold perms
        rw [List.length_map, List.getElem?_map, List.length_append, List.length_singleton, Nat.add_sub_cancel, List.getElem?_append_right (Nat.le_refl _), Nat.sub_self]
        rfl
      refine ws_cons ?_
      refine ws_set (i := 4) sc_closed_by.nd rfl (.inl rfl) (show 4 < 7 by decide) ?_
      refine we_pop (i := 3) rfl (by walk_at "vis") rfl hll ?_
      have hdl : (perms (l0 ++ [hd])).dropLast = perms l0 := by
        unfold perms
        rw [List.map_append, List.map_singleton, List.dropLast_concat]
      rw [hdl]
      refine ws_cons ?_
      refine ws_for (passes_of rfl) rfl ?_
      refine wi_seqN (i := 1) rfl (by walk_at "vis") rfl hc ?_
      have lm := ms
      refine ⟨fun j Γ2 => ∃ (gs ks : List (List Int)) (s5 s6 : Option Sl), Γ2 = [some (.val (.int n)), some (.val c), some (.own (.dN (perms gs) (trues gs))), some (.own (.lst (perms ks))), some (.val (.tup (D.ints hd))), s5, s6] ∧ (∀ od, s5 ≠ some (.own od)) ∧ (∀ od, s6 ≠ some (.own od)) ∧ Clj n ms hd fs.length l0.length j gs ks,
        ⟨fs, l0, s5, s6, rfl, n5, n6, ci.turn⟩, [5], ?_, ?_⟩
      · rintro j d Γ2 hj ⟨gs, ks, t5, t6, rfl, q5, q6, cj⟩
        obtain ⟨mb, hmb, rfl⟩ : ∃ mb, ms[j]? = some mb ∧ d = .tup (D.ints mb) := by
          unfold perms at hj
          rw [List.getElem?_map] at hj
          cases e : ms[j]? with
          | none =>
            rw [e] at hj
            cases hj
          | some mb =>
            rw [e] at hj
            exact ⟨mb, rfl, (Option.some.inj hj).symm⟩
        refine wg_name sc_closed_by.nd rfl (.inl rfl) (show 5 < 7 by decide) ?_
        refine ws_cons ?_
        refine ws_set (i := 6) sc_closed_by.nd rfl (.inl rfl) (show 6 < 7 by decide) ?_
        refine we_call R (g2.dfn hr (by decide)) rfl ?_
        walk_at "e"
        have ph : Pm n hd := (cj.re hd cj.hf).pm pm
        have pb : Pm n mb := pm mb (List.mem_of_getElem? hmb)
        have hjl : j < ms.length := (List.getElem?_eq_some_iff.mp hmb).1
        have up := cj.up
        have lle := cj.le
        refine ⟨rfl, hd, mb, rfl, by rw [ph.len]; omega, by rw [pb.len]; exact ph.mb.ins, ?_⟩
        refine ws_cons ?_
        refine ws_if ?_
        refine wt_lendN (i := 2) rfl ?_ ?_
        · intro j od hjw e
          match j, e with
          | 0, e => cases e
          | 1, e => cases e
          | 2, e => exact absurd rfl hjw
          | 3, e =>
            cases e
            exact imm_perms ks
          | 4, e => cases e
          | 5, e => cases e
          | 6, e => cases e
        · refine wt_cmp (op_notInN W hr) ?_ (by rfl)
          walk_at "e"
          refine od_inN (nk_perm _) (nkI_depth _) ⟨_, rfl, rfl, ?_⟩
          rw [valN_perms]
          by_cases hin : thenI hd mb ∈ gs
          · rw [if_pos hin]
            refine itF ?_
            refine ws_nil ?_
            refine ws_nil ?_
            exact ⟨gs, ks, _, _, rfl, (fun od zw => nomatch zw), (fun od zw => nomatch zw), cj.old hmb hin⟩
          · rw [if_neg hin]
            refine itT ?_
            refine ws_cons ?_
            refine ws_putN W hr (i := 2) rfl (by walk_at "vis") ?_
            walk_at "e"
            refine ⟨⟨_, _, rfl⟩, ?_⟩
            walk_at "e"
            refine ⟨perms gs, trues gs, _, nkI (thenI hd mb), rfl, rfl, nk_perm _, nkI_depth _, by rw [valN_perms, if_neg hin], by rw [perms_len]; omega, ?_⟩
            refine ws_cons ?_
            refine ws_expr ?_
            refine we_append (i := 3) rfl (by walk_at "vis") rfl ?_
            walk_at "e"
            refine ⟨perms ks, rfl, by rw [perms_len]; omega, ?_⟩
            refine ws_nil ?_
            refine ws_nil ?_
            refine ⟨gs ++ [thenI hd mb], ks ++ [thenI hd mb], some (.val (.tup (D.ints mb))), some (.val (.tup (D.ints (thenI hd mb)))), ?_, (fun od zw => nomatch zw), (fun od zw => nomatch zw), cj.new hmb hin⟩
            unfold perms trues
            rw [List.map_append, List.map_append, List.map_append]
            rfl
      · rintro Γ2 ⟨gs, ks, t5, t6, rfl, q5, q6, cj⟩
        have cj : Clj n ms hd fs.length l0.length ms.length gs ks := by rw [perms_len] at cj; exact cj
        refine ws_cons ?_
        refine ws_if ?_
        refine wt_lendN (i := 2) rfl ?_ ?_
        · intro j od hjw e
          match j, e with
          | 0, e => cases e
          | 1, e => cases e
          | 2, e => exact absurd rfl hjw
          | 3, e =>
            cases e
            exact imm_perms ks
          | 4, e => cases e
          | 5, e => exact absurd (Option.some.inj e) (q5 od)
          | 6, e => exact absurd (Option.some.inj e) (q6 od)
        · refine wt_cmp op_gt ?_ (nomark _)
          refine we_callB (cr_lenN W) rfl T.len bb_len ?_
          walk_at "e"
          refine cd_lenN ?_
          refine we_globI rfl m60 ?_
          refine od_gt ⟨_, rfl, rfl, ?_⟩
          rw [perms_len]
          by_cases big : 60 < gs.length
          · rw [decide_eq_true (by omega)]
            refine itT ?_
            refine ws_cons ?_
            walk_at "e"
            obtain ⟨L, cL⟩ := cls_ex pm h1 h5
            have q := h L cL
            have ov := cj.done.over cL
            rw [if_neg (by omega)] at q
            exact q
          · rw [decide_eq_false (by omega)]
            refine itF ?_
            refine ws_nil ?_
            refine ws_nil ?_
            have mo := cj.mo
            have ge := cj.ge
            have lh : (l0 ++ [hd]).length = l0.length + 1 := by rw [List.length_append]; rfl
            rw [lh] at hm0
            exact ⟨2 * (61 - gs.length) + ks.length, by omega, gs, ks, _, _, _, rfl, (fun od zw => nomatch zw), q5, q6, cj.done, by omega, rfl⟩
end
end L2.Px

/-! K4: _law_closed -/
namespace L2.Px
open PySem PySem.Spec
open PyProof.Rows
variable [Wld]


section
variable {P : Program} {w : World} {K : PySem.W.Frag} {mg : Str → Option Value} {base : Heap}
def spLClosed : DS := ⟨fun ds k => ∃ (n : Nat) (ms : List (List Int)) (c : D), ds = [.int n, c] ∧ (c = .lst (perms ms) ∨ c = .tup (perms ms)) ∧ 1 ≤ n ∧ n ≤ 5 ∧ ms.length ≤ 1000 ∧ (∀ m ∈ ms, Pm n m) ∧ ∀ L, Cls n ms L → k (.ret (.tup (perms L))),
  fun _ _ _ i ⟨n, ms, c, e, h1, h2, h3, h4, h5, h⟩ => ⟨n, ms, c, e, h1, h2, h3, h4, h5, fun L k => i _ (h L k)⟩⟩
abbrev sLClosed : Stmt := top 39
theorem sc_lclosed : FnScope ["places", "lot", "found", "line", "here", "member", "late"] ["places", "lot"] (defScope sLClosed) := ⟨rfl, rfl, rfl, by decide +kernel, rfl, by decide +kernel, by decide +kernel⟩
def lcInv (n : Nat) (c : D) (ms : List (List Int)) (m : Nat) (Γ : Gam) : Prop := ∃ (fs ln : List (List Int)) (s4 s5 s6 : Option Sl), Γ = [some (.val (.int n)), some (.val c), some (.own (.dN (perms fs) (trues fs))), some (.own (.lst (perms ln))), s4, s5, s6] ∧
  (∀ od, s4 ≠ some (.own od)) ∧ (∀ od, s5 ≠ some (.own od)) ∧ (∀ od, s6 ≠ some (.own od)) ∧ Cli n ms fs ln ∧ 2 * (130 + ms.length - fs.length) + ln.length = m
theorem ok_lclosed (hP : P = Wld.P) (hw : w = Wld.w) {f : Addr} {fd : FuncData} (Fn : Fun K "_law_closed" "_law_closed" sLClosed f fd) (T : Tx mg) (g2 : Gd P w K mg base "_law_then" 1 c0 ["one", "other"] spThenBy) :
    FnOk P w K mg base (L2.CX P w) 2 f fd ["places", "lot"] (SpD K c0 2 spLClosed) := by
  refine defn (k := 1) (ps := ["places", "lot"]) Fn sc_lclosed fun cdv A outer sh H E hr H0 B0 ds Φ hlw h R => ?_
  obtain ⟨n, ms, c, rfl, hc, h1, h5, hm, pm, h⟩ := h
  have W : InW (cxOf (L2.CX P w) P w K mg base ["places", "lot", "found", "line", "here", "member", "late"] "_law_closed" (defScope sLClosed) f cdv A outer sh H E) := ⟨hP, hw⟩
  refine ws_cons ?_
  refine ws_par (i := 2) (j := 3) rfl sc_lclosed.nd rfl rfl (by decide) (show 2 < 7 by decide) (show 3 < 7 by decide) rfl rfl (wx_new ?_)
  refine wn_dispN W hr ?_
  refine we_tupRg rfl rfl T.tuple rfl T.range ?_
  walk_at "e"
  refine ⟨n, rfl, by omega, ?_⟩
  rw [rng_ints]
  walk_at "e"
  refine ⟨D.ints (unitI n), nkI (unitI n), rfl, nk_perm _, nkI_depth _, ?_⟩
  refine wx_new ?_
  refine wn_lst ?_
  walk_at "e"
  refine we_tupRg rfl rfl T.tuple rfl T.range ?_
  walk_at "e"
  refine ⟨n, rfl, by omega, ?_⟩
  rw [rng_ints]
  walk_at "e"
  refine ⟨(show 1 ≤ 100000 by decide), ?_⟩
  refine ws_cons ?_
  refine ws_while (passes_of rfl) (lcInv n c ms) (2 * (130 + ms.length - 1) + 1) ⟨[unitI n], [unitI n], none, none, none, rfl, (fun od zw => nomatch zw), (fun od zw => nomatch zw), (fun od zw => nomatch zw), Cli.first n ms, rfl⟩ ?_
  rintro m Γ ⟨fs, ln, s4, s5, s6, rfl, n4, n5, n6, ci, hm0⟩
  have few : fs.length ≤ 120 := pm_few h1 h5 ci.nd fun x hx => (ci.re x hx).pm pm
  refine wt_ww (ww_and ?_)
  refine wt_lend (i := 3) rfl ?_ ?_
  · intro j od hjw e
    match j, e with
    | 0, e => cases e
    | 1, e => cases e
    | 2, e =>
      cases e
      show (D.immA (perms fs) && D.immA (trues fs)) = true
      rw [imm_perms, imm_trues]
      rfl
    | 3, e => exact absurd rfl hjw
    | 4, e => exact absurd (Option.some.inj e) (n4 od)
    | 5, e => exact absurd (Option.some.inj e) (n5 od)
    | 6, e => exact absurd (Option.some.inj e) (n6 od)
  · refine wt_cmp (op_neX hr) ?_ (nomark _)
    walk_at "e"
    refine ⟨by decide, ?_⟩
    refine od_ne (show D.flA (perms ln) 59 = true from flA_perms 58 ln) (show D.flA (D.ints []) 60 = true from rfl) ⟨_, rfl, rfl, ?_⟩
    rw [eq_nil]
    rcases List.eq_nil_or_concat ln with rfl | ⟨l0, hd, rfl⟩
    · refine itF ?_
      refine ws_cons ?_
      refine ws_ret ?_
      refine we_lendN (i := 2) rfl ?_ ?_
      · intro j od hjw e
        match j, e with
        | 0, e => cases e
        | 1, e => cases e
        | 2, e => exact absurd rfl hjw
        | 3, e =>
          cases e
          rfl
        | 4, e => exact absurd (Option.some.inj e) (n4 od)
        | 5, e => exact absurd (Option.some.inj e) (n5 od)
        | 6, e => exact absurd (Option.some.inj e) (n6 od)
      · refine we_callTy cr_tupX rfl T.tuple bb_tuple ?_
        refine wa_cons ?_
        refine we_callB (cr_sortN W rfl hr) rfl T.sorted bb_sorted ?_
        walk_at "e"
        refine cd_sortN (srtOk_perms h1 (fun a ha => ((ci.re a ha).pm pm).len) (by omega)) ?_
        walk_at "e"
        refine cd_tuple (.inl rfl) ?_
        rw [srt_perms]
        obtain ⟨L, cL⟩ := cls_ex pm h1 h5
        have fin := ci.fin cL
        have e := sort_to ci.nd cL.asc fin
        rw [e]
        have q := h L cL
        exact ⟨rfl, imm_perms L, q⟩
    · rw [List.concat_eq_append] at *
      rw [show ((perms (l0 ++ [hd])).isEmpty) = false by unfold perms; simp]
      refine itT ?_
      refine ww_and1 ?_
      refine wt_lendN (i := 2) rfl ?_ ?_
      · intro j od hjw e
        match j, e with
        | 0, e => cases e
        | 1, e => cases e
        | 2, e => exact absurd rfl hjw
        | 3, e =>
          cases e
          exact imm_perms _
        | 4, e => exact absurd (Option.some.inj e) (n4 od)
        | 5, e => exact absurd (Option.some.inj e) (n5 od)
        | 6, e => exact absurd (Option.some.inj e) (n6 od)
      refine wt_cmp op_lt ?_ (nomark _)
      refine we_callB (cr_lenN W) rfl T.len bb_len ?_
      walk_at "e"
      refine cd_lenN ?_
      walk_at "e"
      refine od_lt ⟨_, rfl, rfl, ?_⟩
      rw [perms_len, decide_eq_true (by omega)]
      refine itT ?_
      have hll : (perms (l0 ++ [hd]))[(perms (l0 ++ [hd])).length - 1]? = some (.tup (D.ints hd)) := by
        unfold perms
        rw [List.length_map, List.getElem?_map, List.length_append, List.length_singleton, Nat.add_sub_cancel, List.getElem?_append_right (Nat.le_refl _), Nat.sub_self]
        rfl
      refine ws_cons ?_
      refine ws_set (i := 4) sc_lclosed.nd rfl (.inl rfl) (show 4 < 7 by decide) ?_
      refine we_pop (i := 3) rfl (by walk_at "vis") rfl hll ?_
      have hdl : (perms (l0 ++ [hd])).dropLast = perms l0 := by
        unfold perms
        rw [List.map_append, List.map_singleton, List.dropLast_concat]
      rw [hdl]
      refine ws_cons ?_
      refine ws_for (passes_of rfl) rfl ?_
      refine wi_seqN (i := 1) rfl (by walk_at "vis") rfl hc ?_
      have lm := ms
      refine ⟨fun j Γ2 => ∃ (gs ks : List (List Int)) (s5 s6 : Option Sl), Γ2 = [some (.val (.int n)), some (.val c), some (.own (.dN (perms gs) (trues gs))), some (.own (.lst (perms ks))), some (.val (.tup (D.ints hd))), s5, s6] ∧ (∀ od, s5 ≠ some (.own od)) ∧ (∀ od, s6 ≠ some (.own od)) ∧ Clj n ms hd fs.length l0.length j gs ks,
        ⟨fs, l0, s5, s6, rfl, n5, n6, ci.turn⟩, [5], ?_, ?_⟩
      · rintro j d Γ2 hj ⟨gs, ks, t5, t6, rfl, q5, q6, cj⟩
        obtain ⟨mb, hmb, rfl⟩ : ∃ mb, ms[j]? = some mb ∧ d = .tup (D.ints mb) := by
          unfold perms at hj
          rw [List.getElem?_map] at hj
          cases e : ms[j]? with
          | none =>
            rw [e] at hj
            cases hj
          | some mb =>
            rw [e] at hj
            exact ⟨mb, rfl, (Option.some.inj hj).symm⟩
        refine wg_name sc_lclosed.nd rfl (.inl rfl) (show 5 < 7 by decide) ?_
        refine ws_cons ?_
        refine ws_set (i := 6) sc_lclosed.nd rfl (.inl rfl) (show 6 < 7 by decide) ?_
        refine we_call R (g2.dfn hr (by decide)) rfl ?_
        walk_at "e"
        have ph : Pm n hd := (cj.re hd cj.hf).pm pm
        have pb : Pm n mb := pm mb (List.mem_of_getElem? hmb)
        have hjl : j < ms.length := (List.getElem?_eq_some_iff.mp hmb).1
        have up := cj.up
        have lle := cj.le
        refine ⟨rfl, hd, mb, rfl, by rw [ph.len]; omega, by rw [pb.len]; exact ph.mb.ins, ?_⟩
        refine ws_cons ?_
        refine ws_if ?_
        refine wt_lendN (i := 2) rfl ?_ ?_
        · intro j od hjw e
          match j, e with
          | 0, e => cases e
          | 1, e => cases e
          | 2, e => exact absurd rfl hjw
          | 3, e =>
            cases e
            exact imm_perms ks
          | 4, e => cases e
          | 5, e => cases e
          | 6, e => cases e
        · refine wt_cmp (op_notInN W hr) ?_ (by rfl)
          walk_at "e"
          refine od_inN (nk_perm _) (nkI_depth _) ⟨_, rfl, rfl, ?_⟩
          rw [valN_perms]
          by_cases hin : thenI hd mb ∈ gs
          · rw [if_pos hin]
            refine itF ?_
            refine ws_nil ?_
            refine ws_nil ?_
            exact ⟨gs, ks, _, _, rfl, (fun od zw => nomatch zw), (fun od zw => nomatch zw), cj.old hmb hin⟩
          · rw [if_neg hin]
            refine itT ?_
            refine ws_cons ?_
            refine ws_putN W hr (i := 2) rfl (by walk_at "vis") ?_
            walk_at "e"
            refine ⟨⟨_, _, rfl⟩, ?_⟩
            walk_at "e"
            refine ⟨perms gs, trues gs, _, nkI (thenI hd mb), rfl, rfl, nk_perm _, nkI_depth _, by rw [valN_perms, if_neg hin], by rw [perms_len]; omega, ?_⟩
            refine ws_cons ?_
            refine ws_expr ?_
            refine we_append (i := 3) rfl (by walk_at "vis") rfl ?_
            walk_at "e"
            refine ⟨perms ks, rfl, by rw [perms_len]; omega, ?_⟩
            refine ws_nil ?_
            refine ws_nil ?_
            refine ⟨gs ++ [thenI hd mb], ks ++ [thenI hd mb], some (.val (.tup (D.ints mb))), some (.val (.tup (D.ints (thenI hd mb)))), ?_, (fun od zw => nomatch zw), (fun od zw => nomatch zw), cj.new hmb hin⟩
            unfold perms trues
            rw [List.map_append, List.map_append, List.map_append]
            rfl
      · rintro Γ2 ⟨gs, ks, t5, t6, rfl, q5, q6, cj⟩
        have cj : Clj n ms hd fs.length l0.length ms.length gs ks := by rw [perms_len] at cj; exact cj
        refine ws_nil ?_
        have mo := cj.mo
        have ge := cj.ge
        have up := cj.up
        have lh : (l0 ++ [hd]).length = l0.length + 1 := by rw [List.length_append]; rfl
        rw [lh] at hm0
        exact ⟨2 * (130 + ms.length - gs.length) + ks.length, by omega, gs, ks, _, _, _, rfl, (fun od zw => nomatch zw), q5, q6, cj.done, rfl⟩
end
end L2.Px

/-! K5: makers_by, _law_own_makers -/
namespace L2.Px
open PySem PySem.Spec
open PyProof.Rows
variable [Wld]


open Classical in
noncomputable def clo (n : Nat) (ms : List (List Int)) : List (List Int) := ((pms (unitI n)).filter fun x => decide (Reach n ms x)).mergeSort leL
theorem clo_cls {n : Nat} {ms : List (List Int)} (h : ∀ m ∈ ms, Pm n m) (h1 : 1 ≤ n) (h5 : n ≤ 5) : Cls n ms (clo n ms) := by
  classical
  refine ⟨sort_asc ((pms_nd h1 h5).filter _), fun x => ?_⟩
  unfold clo
  rw [(List.mergeSort_perm _ leL).mem_iff, List.mem_filter]
  exact ⟨fun q => of_decide_eq_true q.2, fun r => ⟨pms_mem (r.pm h).perm, decide_eq_true r⟩⟩
theorem reach_nil {n : Nat} {x : List Int} (r : Reach n [] x) : x = unitI n := by
  cases r with
  | unit => rfl
  | step _ hm => cases hm
noncomputable def mkStep (n : Nat) (fs : List (List Int)) (m : List Int) : List (List Int) := if m ∈ clo n fs then fs else fs ++ [m]
noncomputable def mkrs (n : Nat) (G : List (List Int)) : List (List Int) := G.foldl (mkStep n) []
/-- a group -/
structure Grp (n : Nat) (G : List (List Int)) : Prop where
  h1 : 1 ≤ n
  h5 : n ≤ 5
  pm : ∀ x ∈ G, Pm n x
  cl : Cls n G G
theorem Grp.of {n : Nat} {ms G : List (List Int)} (h1 : 1 ≤ n) (h5 : n ≤ 5) (pm : ∀ m ∈ ms, Pm n m) (c : Cls n ms G) : Grp n G := by
  refine ⟨h1, h5, fun x hx => ((c.mem x).mp hx).pm pm, c.asc, fun x => ⟨fun hx => ?_, fun r => ?_⟩⟩
  · exact Reach.of (fun y hy => ((c.mem y).mp hy).pm pm) hx
  · exact (c.mem x).mpr (Reach.sub pm (fun m hm => (c.mem m).mp hm) r)
theorem fold_sub {n : Nat} : ∀ (l fs : List (List Int)), ∀ x ∈ l.foldl (mkStep n) fs, x ∈ fs ∨ x ∈ l
  | [], fs, x, h => .inl h
  | m :: l, fs, x, h => by
    rcases fold_sub l (mkStep n fs m) x h with z | z
    · unfold mkStep at z
      split at z
      · exact .inl z
      · rcases List.mem_append.mp z with w | w
        · exact .inl w
        · rw [List.mem_singleton.mp w]
          exact .inr List.mem_cons_self
    · exact .inr (List.mem_cons_of_mem _ z)
theorem fold_has {n : Nat} : ∀ (l fs : List (List Int)), ∀ x ∈ fs, x ∈ l.foldl (mkStep n) fs
  | [], fs, x, h => h
  | m :: l, fs, x, h => by
    refine fold_has l (mkStep n fs m) x ?_
    unfold mkStep
    split
    · exact h
    · exact List.mem_append_left _ h
theorem fold_gen {n : Nat} (h1 : 1 ≤ n) (h5 : n ≤ 5) : ∀ (l fs : List (List Int)), (∀ x ∈ l, Pm n x) → (∀ x ∈ fs, Pm n x) → ∀ x ∈ l, Reach n (l.foldl (mkStep n) fs) x
  | [], fs, _, _, x, h => by cases h
  | m :: l, fs, p1, p2, x, h => by
    have pm := p1 m List.mem_cons_self
    have q2 : ∀ x ∈ mkStep n fs m, Pm n x := fun x hx => by
      unfold mkStep at hx
      split at hx
      · exact p2 x hx
      · rcases List.mem_append.mp hx with w | w
        · exact p2 x w
        · rw [List.mem_singleton.mp w]
          exact pm
    have q1 : ∀ x ∈ l, Pm n x := fun x hx => p1 x (List.mem_cons_of_mem _ hx)
    rcases List.mem_cons.mp h with rfl | h
    · have big : ∀ y ∈ mkStep n fs x, y ∈ l.foldl (mkStep n) (mkStep n fs x) := fold_has l _
      have r : Reach n (mkStep n fs x) x := by
        by_cases e : x ∈ clo n fs
        · have e2 : mkStep n fs x = fs := if_pos e
          rw [e2]
          exact ((clo_cls p2 h1 h5).mem x).mp e
        · have e2 : mkStep n fs x = fs ++ [x] := if_neg e
          have hx : x ∈ mkStep n fs x := by rw [e2]; simp
          exact Reach.of q2 hx
      exact r.mono big
    · exact fold_gen h1 h5 l (mkStep n fs m) q1 q2 x h
theorem mkrs_sub {n : Nat} {G : List (List Int)} : ∀ x ∈ mkrs n G, x ∈ G := fun x h => (fold_sub G [] x h).elim (fun z => by cases z) id
theorem mkrs_cls {n : Nat} {G : List (List Int)} (g : Grp n G) : Cls n (mkrs n G) G := by
  refine ⟨g.cl.asc, fun x => ⟨fun h => fold_gen g.h1 g.h5 G [] g.pm (fun _ z => by cases z) x h, fun r => (g.cl.mem x).mpr (r.mono mkrs_sub)⟩⟩
theorem clo_few {n : Nat} {G fs : List (List Int)} (g : Grp n G) (h : ∀ x ∈ fs, x ∈ G) : (clo n fs).length ≤ G.length := by
  have c := clo_cls (fun x hx => g.pm x (h x hx)) g.h1 g.h5
  exact nodup_le (asc_nodup c.asc) fun x hx => (g.cl.mem x).mpr (((c.mem x).mp hx).mono h)
theorem has_perms (a : List Int) (L : List (List Int)) : D.has (perms L) (.tup (D.ints a)) = decide (a ∈ L) := by
  unfold D.has perms
  rw [List.any_map]
  induction L with
  | nil => rfl
  | cons b L ih =>
    rw [List.any_cons, ih]
    show (D.eq (.tup (D.ints b)) (.tup (D.ints a)) || _) = _
    rw [eq_tints]
    by_cases e : b = a
    · subst e
      simp
    · by_cases e2 : a ∈ L
      · simp [e2]
      · simp [e, e2, Ne.symm e]
theorem clo_nil (n : Nat) (h1 : 1 ≤ n) (h5 : n ≤ 5) : clo n [] = [unitI n] := by
  refine (clo_cls (ms := []) (fun _ z => by cases z) h1 h5).one ⟨by unfold Asc; simp, fun x => ⟨fun h => ?_, fun r => ?_⟩⟩
  · rw [List.mem_singleton.mp h]
    exact .unit
  · rw [reach_nil r]
    simp
section
variable {P : Program} {w : World} {K : PySem.W.Frag} {mg : Str → Option Value} {base : Heap}
def spMakersBy : DS := ⟨fun ds k => ∃ (n : Nat) (G : List (List Int)), ds = [.tup (perms G)] ∧ Grp n G ∧ G.length ≤ 60 ∧ k (.ret (.tup (perms (mkrs n G)))),
  fun _ _ _ i ⟨n, G, e, g, l, h⟩ => ⟨n, G, e, g, l, i _ h⟩⟩
abbrev sMakersBy : Stmt := top 18
theorem sc_makers_by : FnScope ["group", "places", "found", "here", "member"] ["group"] (defScope sMakersBy) := ⟨rfl, rfl, rfl, by decide +kernel, rfl, by decide +kernel, by decide +kernel⟩
theorem at_perms {L : List (List Int)} {j : Nat} {a : List Int} (h : L[j]? = some a) : L2.atI (perms L) ((j : Nat) : Int) = some (.tup (D.ints a)) := by
  have hl : j < L.length := (List.getElem?_eq_some_iff.mp h).1
  unfold L2.atI ixN
  rw [perms_len, if_pos (by omega), if_pos (by omega)]
  show (perms L)[((j : Nat) : Int).toNat]? = _
  unfold perms
  rw [List.getElem?_map, Int.toNat_natCast, h]
  rfl
def mkInv (n : Nat) (G : List (List Int)) (c : D) (j : Nat) (Γ : Gam) : Prop := ∃ (fs : List (List Int)) (s4 : Option Sl), fs = (G.take j).foldl (mkStep n) [] ∧ Γ = [some (.val c), some (.val (.int n)), some (.own (.lst (perms fs))), some (.val (.tup (perms (clo n fs)))), s4] ∧ (∀ od, s4 ≠ some (.own od))
theorem ok_makers_by {f : Addr} {fd : FuncData} (Fn : Fun K "makers_by" "makers_by" sMakersBy f fd) (T : Tx mg) (g1 : Gd P w K mg base "unit_by" 1 c0 ["places"] spUnitBy) (g2 : Gd P w K mg base "closed_by" 2 c0 ["places", "members"] spClosedBy) :
    FnOk P w K mg base (L2.CX P w) 3 f fd ["group"] (SpD K c0 1 spMakersBy) := by
  refine defn (k := 2) (ps := ["group"]) Fn sc_makers_by fun cdv A outer sh H E hr H0 B0 ds Φ hlw h R => ?_
  obtain ⟨n, G, rfl, g, g60, h⟩ := h
  have hu : unitI n ∈ G := (g.cl.mem _).mpr .unit
  obtain ⟨a0, G', eG⟩ : ∃ a0 G', G = a0 :: G' := by
    cases G with
    | nil => cases hu
    | cons a G' => exact ⟨a, G', rfl⟩
  have l0 : a0.length = n := (g.pm a0 (by rw [eG]; exact List.mem_cons_self)).len
  have h5 := g.h5
  refine ws_cons ?_
  refine ws_par (i := 1) (j := 2) rfl sc_makers_by.nd rfl rfl (by decide) (show 1 < 5 by decide) (show 2 < 5 by decide) rfl rfl (wx_val ?_)
  refine we_callB cr_lenX rfl T.len bb_len ?_
  refine wa_cons ?_
  refine we_ix ?_
  walk_at "e"
  refine od_ix (.inr rfl) (d := .tup (D.ints a0)) (at_perms (j := 0) (by rw [eG]; rfl)) ?_
  walk_at "e"
  refine cd_len (.inr rfl) ?_
  refine wx_new ?_
  refine wn_lst (wa_nil ⟨Nat.zero_le _, ?_⟩)
  rw [ints_len, l0]
  refine ws_cons ?_
  refine ws_set (i := 3) sc_makers_by.nd rfl (.inl rfl) (show 3 < 5 by decide) ?_
  walk_at "e"
  refine we_call R (g1.dfn hr (by decide)) rfl ?_
  walk_at "e"
  refine ⟨rfl, n, rfl, by omega, ?_⟩
  walk_at "e"
  refine ⟨(show 1 ≤ 100000 by decide), ?_⟩
  refine ws_cons ?_
  refine ws_for (passes_of rfl) rfl ?_
  refine wi_seqN (i := 0) rfl (by walk_at "vis") rfl (.inr rfl) ?_
  refine ⟨mkInv n G (.tup (perms G)), ⟨[], none, rfl, ?_, (fun od zw => nomatch zw)⟩, [4], ?_, ?_⟩
  · rw [clo_nil n g.h1 g.h5]
    rfl
  · rintro j d Γ2 hj ⟨fs, s4, efs, rfl, n4⟩
    obtain ⟨mb, hmb, rfl⟩ : ∃ mb, G[j]? = some mb ∧ d = .tup (D.ints mb) := by
      unfold perms at hj
      rw [List.getElem?_map] at hj
      cases e : G[j]? with
      | none =>
        rw [e] at hj
        cases hj
      | some mb =>
        rw [e] at hj
        exact ⟨mb, rfl, (Option.some.inj hj).symm⟩
    have et : (G.take (j + 1)).foldl (mkStep n) [] = mkStep n ((G.take j).foldl (mkStep n) []) mb := by
      rw [take_more hmb, List.foldl_append]
      rfl
    have inG : ∀ x ∈ fs, x ∈ G := fun x hx => by
      rw [efs] at hx
      exact (fold_sub _ _ x hx).elim (fun z => by cases z) fun z => List.mem_of_mem_take z
    rw [← efs] at et
    have mG : mb ∈ G := List.mem_of_getElem? hmb
    refine wg_name sc_makers_by.nd rfl (.inl rfl) (show 4 < 5 by decide) ?_
    refine ws_cons ?_
    refine ws_if ?_
    refine wt_cmp (op_notInX hr) ?_ (by rfl)
    walk_at "e"
    refine od_in (.inr rfl) (show D.flA (D.ints mb) 59 = true from ints_fl _ _) (flA_perms 59 _) ⟨_, rfl, ?_⟩
    rw [if_pos rfl, has_perms]
    by_cases hin : mb ∈ clo n fs
    · rw [decide_eq_true hin]
      refine itF ?_
      refine ws_nil ?_
      refine ws_nil ?_
      exact ⟨fs, _, by rw [et]; exact (if_pos hin).symm, rfl, (fun od zw => nomatch zw)⟩
    · rw [decide_eq_false hin]
      refine itT ?_
      have ef : mkStep n fs mb = fs ++ [mb] := if_neg hin
      refine ws_cons ?_
      refine ws_expr ?_
      refine we_append (i := 2) rfl (by walk_at "vis") rfl ?_
      walk_at "e"
      have in2 : ∀ x ∈ fs ++ [mb], x ∈ G := fun x hx => (List.mem_append.mp hx).elim (inG x) fun z => by rw [List.mem_singleton.mp z]; exact mG
      have hjl : j < G.length := (List.getElem?_eq_some_iff.mp hmb).1
      have fl : fs.length ≤ j := by
        rw [efs]
        have : ∀ (l gs : List (List Int)), (l.foldl (mkStep n) gs).length ≤ gs.length + l.length := fun l => by
          induction l with
          | nil => exact fun gs => Nat.le_refl _
          | cons m l ih =>
            intro gs
            have q := ih (mkStep n gs m)
            have s : (mkStep n gs m).length ≤ gs.length + 1 := by
              unfold mkStep
              split
              · omega
              · rw [List.length_append]; exact Nat.le_refl _
            rw [List.foldl_cons, List.length_cons]
            omega
        have := this (G.take j) []
        rw [List.length_take] at this
        simp at this
        omega
      refine ⟨perms fs, rfl, by rw [perms_len]; omega, ?_⟩
      have ep : perms fs ++ [.tup (D.ints mb)] = perms (fs ++ [mb]) := by unfold perms; rw [List.map_append]; rfl
      rw [ep]
      refine ws_cons ?_
      refine ws_set (i := 3) sc_makers_by.nd rfl (.inl rfl) (show 3 < 5 by decide) ?_
      refine we_lend (i := 2) rfl ?_ ?_
      · intro j od hjw e
        match j, e with
        | 0, e => cases e
        | 1, e => cases e
        | 2, e => exact absurd rfl hjw
        | 3, e => cases e
        | 4, e => cases e
      · refine we_call R (g2.dfn hr (by decide)) rfl ?_
        walk_at "e"
        refine ⟨rfl, n, fs ++ [mb], .lst (perms (fs ++ [mb])), rfl, .inl rfl, g.h1, g.h5, by rw [List.length_append, List.length_singleton]; omega, fun x hx => g.pm x (in2 x hx), fun L cL => ?_⟩
        have eL : L = clo n (fs ++ [mb]) := cL.one (clo_cls (fun x hx => g.pm x (in2 x hx)) g.h1 g.h5)
        have fL := clo_few g in2
        rw [eL, if_pos (by omega)]
        refine ⟨rfl, imm_perms _, ?_⟩
        refine ws_nil ?_
        refine ws_nil ?_
        exact ⟨fs ++ [mb], _, by rw [et]; exact ef.symm, rfl, (fun od zw => nomatch zw)⟩
  · rintro Γ2 ⟨fs, s4, efs, rfl, n4⟩
    rw [perms_len, List.take_length] at efs
    refine ws_cons ?_
    refine ws_ret ?_
    refine we_lend (i := 2) rfl ?_ ?_
    · intro j od hjw e
      match j, e with
      | 0, e => cases e
      | 1, e => cases e
      | 2, e => exact absurd rfl hjw
      | 3, e => cases e
      | 4, e => exact absurd (Option.some.inj e) (n4 od)
    · refine we_callTy cr_tupX rfl T.tuple bb_tuple ?_
      walk_at "e"
      refine cd_tuple (.inl rfl) ?_
      refine ⟨rfl, imm_perms _, ?_⟩
      rw [efs]
      exact h
end
end L2.Px

/-! K6: _law_own_makers -/
namespace L2.Px
open PySem PySem.Spec
open PyProof.Rows
variable [Wld]


omit [Wld] in
def leastU (n : Nat) : Bool := (pms (unitI n)).all fun a => decide (a = unitI n) || ltL (unitI n) a
omit [Wld] in
theorem lu1 : leastU 1 = true := by decide +kernel
omit [Wld] in
theorem lu2 : leastU 2 = true := by decide +kernel
omit [Wld] in
theorem lu3 : leastU 3 = true := by decide +kernel
omit [Wld] in
theorem lu4 : leastU 4 = true := by decide +kernel
omit [Wld] in
theorem lu5 : leastU 5 = true := by decide +kernel
theorem unit_least {n : Nat} {a : List Int} (h : Pm n a) (h1 : 1 ≤ n) (h5 : n ≤ 5) : a = unitI n ∨ ltL (unitI n) a = true := by
  have m := pms_mem h.perm
  have l : leastU n = true := by
    have c : n = 1 ∨ n = 2 ∨ n = 3 ∨ n = 4 ∨ n = 5 := by omega
    rcases c with rfl | rfl | rfl | rfl | rfl
    · exact lu1
    · exact lu2
    · exact lu3
    · exact lu4
    · exact lu5
  have q := List.all_eq_true.mp l a m
  simpa using q
theorem Grp.head {n : Nat} {G : List (List Int)} (g : Grp n G) : ∃ G', G = unitI n :: G' := by
  have hu : unitI n ∈ G := (g.cl.mem _).mpr .unit
  cases G with
  | nil => cases hu
  | cons a G' =>
    refine ⟨G', ?_⟩
    rcases unit_least (g.pm a List.mem_cons_self) g.h1 g.h5 with e | e
    · rw [e]
    · rcases List.mem_cons.mp hu with z | z
      · rw [z]
      · have q := (List.pairwise_cons.mp g.cl.asc).1 _ z
        have c := ltL_tr q e
        rw [ltL_irr] at c
        cases c
section
variable {P : Program} {w : World} {K : PySem.W.Frag} {mg : Str → Option Value} {base : Heap}
abbrev sOwnMakers : Stmt := top 45
theorem sc_own_makers : FnScope ["group", "found", "here", "member"] ["group"] (defScope sOwnMakers) := ⟨rfl, rfl, rfl, by decide +kernel, rfl, by decide +kernel, by decide +kernel⟩
def omInv (n : Nat) (G : List (List Int)) (c : D) (j : Nat) (Γ : Gam) : Prop := ∃ (fs : List (List Int)) (s4 : Option Sl), fs = (G.take j).foldl (mkStep n) [] ∧ Γ = [some (.val c), some (.own (.lst (perms fs))), some (.val (.tup (perms (clo n fs)))), s4] ∧ (∀ od, s4 ≠ some (.own od))
theorem ok_own_makers {f : Addr} {fd : FuncData} (Fn : Fun K "_law_own_makers" "_law_own_makers" sOwnMakers f fd) (T : Tx mg) (g2 : Gd P w K mg base "_law_closed" 2 c0 ["places", "lot"] spLClosed) :
    FnOk P w K mg base (L2.CX P w) 3 f fd ["group"] (SpD K c0 1 spMakersBy) := by
  refine defn (k := 2) (ps := ["group"]) Fn sc_own_makers fun cdv A outer sh H E hr H0 B0 ds Φ hlw h R => ?_
  obtain ⟨n, G, rfl, g, g60, h⟩ := h
  obtain ⟨G', eG⟩ := g.head
  have h5 := g.h5
  refine ws_cons ?_
  refine ws_par (i := 1) (j := 2) rfl sc_own_makers.nd rfl rfl (by decide) (show 1 < 4 by decide) (show 2 < 4 by decide) rfl rfl (wx_new ?_)
  refine wn_lst (wa_nil ⟨Nat.zero_le _, ?_⟩)
  refine wx_val ?_
  refine we_tup ?_
  refine wa_cons ?_
  refine we_ix ?_
  walk_at "e"
  refine od_ix (.inr rfl) (d := .tup (D.ints (unitI n))) (at_perms (j := 0) (by rw [eG]; rfl)) ?_
  walk_at "e"
  refine ⟨(show 1 ≤ 100000 by decide), ?_⟩
  refine ws_cons ?_
  refine ws_for (passes_of rfl) rfl ?_
  refine wi_seqN (i := 0) rfl (by walk_at "vis") rfl (.inr rfl) ?_
  refine ⟨omInv n G (.tup (perms G)), ⟨[], none, rfl, ?_, (fun od zw => nomatch zw)⟩, [3], ?_, ?_⟩
  · rw [clo_nil n g.h1 g.h5]
    rfl
  · rintro j d Γ2 hj ⟨fs, s4, efs, rfl, n4⟩
    obtain ⟨mb, hmb, rfl⟩ : ∃ mb, G[j]? = some mb ∧ d = .tup (D.ints mb) := by
      unfold perms at hj
      rw [List.getElem?_map] at hj
      cases e : G[j]? with
      | none =>
        rw [e] at hj
        cases hj
      | some mb =>
        rw [e] at hj
        exact ⟨mb, rfl, (Option.some.inj hj).symm⟩
    have et : (G.take (j + 1)).foldl (mkStep n) [] = mkStep n ((G.take j).foldl (mkStep n) []) mb := by
      rw [take_more hmb, List.foldl_append]
      rfl
    have inG : ∀ x ∈ fs, x ∈ G := fun x hx => by
      rw [efs] at hx
      exact (fold_sub _ _ x hx).elim (fun z => by cases z) fun z => List.mem_of_mem_take z
    rw [← efs] at et
    have mG : mb ∈ G := List.mem_of_getElem? hmb
    refine wg_name sc_own_makers.nd rfl (.inl rfl) (show 3 < 4 by decide) ?_
    refine ws_cons ?_
    refine ws_if ?_
    refine wt_cmp (op_notInX hr) ?_ (by rfl)
    walk_at "e"
    refine od_in (.inr rfl) (show D.flA (D.ints mb) 59 = true from ints_fl _ _) (flA_perms 59 _) ⟨_, rfl, ?_⟩
    rw [if_pos rfl, has_perms]
    by_cases hin : mb ∈ clo n fs
    · rw [decide_eq_true hin]
      refine itF ?_
      refine ws_nil ?_
      refine ws_nil ?_
      exact ⟨fs, _, by rw [et]; exact (if_pos hin).symm, rfl, (fun od zw => nomatch zw)⟩
    · rw [decide_eq_false hin]
      refine itT ?_
      have ef : mkStep n fs mb = fs ++ [mb] := if_neg hin
      refine ws_cons ?_
      refine ws_expr ?_
      refine we_append (i := 1) rfl (by walk_at "vis") rfl ?_
      walk_at "e"
      have in2 : ∀ x ∈ fs ++ [mb], x ∈ G := fun x hx => (List.mem_append.mp hx).elim (inG x) fun z => by rw [List.mem_singleton.mp z]; exact mG
      have hjl : j < G.length := (List.getElem?_eq_some_iff.mp hmb).1
      have fl : fs.length ≤ j := by
        rw [efs]
        have : ∀ (l gs : List (List Int)), (l.foldl (mkStep n) gs).length ≤ gs.length + l.length := fun l => by
          induction l with
          | nil => exact fun gs => Nat.le_refl _
          | cons m l ih =>
            intro gs
            have q := ih (mkStep n gs m)
            have s : (mkStep n gs m).length ≤ gs.length + 1 := by
              unfold mkStep
              split
              · omega
              · rw [List.length_append]; exact Nat.le_refl _
            rw [List.foldl_cons, List.length_cons]
            omega
        have := this (G.take j) []
        rw [List.length_take] at this
        simp at this
        omega
      refine ⟨perms fs, rfl, by rw [perms_len]; omega, ?_⟩
      have ep : perms fs ++ [.tup (D.ints mb)] = perms (fs ++ [mb]) := by unfold perms; rw [List.map_append]; rfl
      rw [ep]
      refine ws_cons ?_
      refine ws_set (i := 2) sc_own_makers.nd rfl (.inl rfl) (show 2 < 4 by decide) ?_
      refine we_lend (i := 1) rfl ?_ ?_
      · intro j od hjw e
        match j, e with
        | 0, e => cases e
        | 1, e => exact absurd rfl hjw
        | 2, e => cases e
        | 3, e => cases e
      · refine we_call R (g2.dfn hr (by decide)) rfl ?_
        refine wa_cons ?_
        refine we_callB cr_lenX rfl T.len bb_len ?_
        walk_at "e"
        refine cd_len (.inr rfl) ?_
        rw [ints_len, (g.pm mb mG).len]
        walk_at "e"
        refine ⟨rfl, n, fs ++ [mb], .lst (perms (fs ++ [mb])), rfl, .inl rfl, g.h1, g.h5, by rw [List.length_append, List.length_singleton]; omega, fun x hx => g.pm x (in2 x hx), fun L cL => ?_⟩
        have eL : L = clo n (fs ++ [mb]) := cL.one (clo_cls (fun x hx => g.pm x (in2 x hx)) g.h1 g.h5)
        have fL := clo_few g in2
        rw [eL]
        refine ⟨rfl, imm_perms _, ?_⟩
        refine ws_nil ?_
        refine ws_nil ?_
        exact ⟨fs ++ [mb], _, by rw [et]; exact ef.symm, rfl, (fun od zw => nomatch zw)⟩
  · rintro Γ2 ⟨fs, s4, efs, rfl, n4⟩
    rw [perms_len, List.take_length] at efs
    refine ws_cons ?_
    refine ws_ret ?_
    refine we_lend (i := 1) rfl ?_ ?_
    · intro j od hjw e
      match j, e with
      | 0, e => cases e
      | 1, e => exact absurd rfl hjw
      | 2, e => cases e
      | 3, e => exact absurd (Option.some.inj e) (n4 od)
    · refine we_callTy cr_tupX rfl T.tuple bb_tuple ?_
      walk_at "e"
      refine cd_tuple (.inl rfl) ?_
      refine ⟨rfl, imm_perms _, ?_⟩
      rw [efs]
      exact h
end
end L2.Px

/-! K7: is_group_of, need_group, is_group -/
namespace L2.Px
open PySem PySem.Spec
open PyProof.Rows
variable [Wld]


/-- any value that may be asked of being a group -/
def D.okG (d : D) : Prop := d.plainTy = true ∧ ∀ xs, d = .tup xs → xs.length ≤ 1000 ∧ ∀ x ∈ xs, x.okT
def IsGrp (d : D) : Prop := ∃ (n : Nat) (G : List (List Int)), d = .tup (perms G) ∧ Grp n G ∧ G.length ≤ 60
open Classical in
noncomputable def D.isGrp (d : D) : Bool := decide (IsGrp d)
theorem isGrp_t {d : D} (h : IsGrp d) : d.isGrp = true := by
  unfold D.isGrp
  classical
  exact decide_eq_true h
theorem isGrp_f {d : D} (h : ¬ IsGrp d) : d.isGrp = false := by
  unfold D.isGrp
  classical
  exact decide_eq_false h
theorem ints_inj {a b : List Int} (h : D.ints a = D.ints b) : a = b := by
  have q := congrArg (fun d => D.toL (.tup d)) h
  simpa [toL_ints] using q
theorem perms_inj {a b : List (List Int)} (h : perms a = perms b) : a = b :=
  (List.map_inj_right (fun x y e => ints_inj (D.tup.inj e))).mp h
theorem eqA_perms : ∀ a b : List (List Int), PyData.eqvAll (D.pyA (perms a)) (D.pyA (perms b)) = decide (a = b)
  | [], [] => rfl
  | [], _ :: _ => rfl
  | _ :: _, [] => rfl
  | x :: a, y :: b => by
    show (D.eq (.tup (D.ints x)) (.tup (D.ints y)) && PyData.eqvAll (D.pyA (perms a)) (D.pyA (perms b))) = _
    rw [eqA_perms a b, eq_tints]
    by_cases e : x = y
    · subst e
      by_cases e2 : a = b <;> simp [e2]
    · simp [e]
theorem eq_tperms (a b : List (List Int)) : D.eq (.tup (perms a)) (.tup (perms b)) = decide (a = b) := eqA_perms a b
theorem IsGrp.tup {d : D} (h : IsGrp d) : ∃ a xs, d = .tup (.tup (D.ints a) :: xs) ∧ xs.length + 1 ≤ 60 ∧ 1 ≤ a.length ∧ a.length ≤ 5 ∧ ∀ x ∈ D.tup (D.ints a) :: xs, x.memb a.length = true := by
  obtain ⟨n, G, rfl, g, l⟩ := h
  obtain ⟨G', rfl⟩ := g.head
  have e : (unitI n).length = n := (pm_unit n).len
  refine ⟨unitI n, perms G', rfl, by rw [perms_len]; exact l, by rw [e]; exact g.h1, by rw [e]; exact g.h5, fun x hx => ?_⟩
  obtain ⟨y, hy, rfl⟩ := List.mem_map.mp (show x ∈ perms (unitI n :: G') from hx)
  rw [e]
  exact memb_of (g.pm y hy)
theorem membs_of {n : Nat} : ∀ {xs : List D}, (∀ x ∈ xs, x.memb n = true) → ∃ ms, xs = perms ms ∧ ∀ m ∈ ms, Pm n m
  | [], _ => ⟨[], rfl, fun _ z => by cases z⟩
  | x :: xs, h => by
    obtain ⟨a, rfl, p⟩ := memb_ok (h x List.mem_cons_self)
    obtain ⟨ms, rfl, q⟩ := membs_of fun y hy => h y (List.mem_cons_of_mem _ hy)
    refine ⟨a :: ms, rfl, fun m hm => ?_⟩
    rcases List.mem_cons.mp hm with rfl | hm
    · exact p
    · exact q m hm
theorem at_zero (x : D) (xs : List D) : L2.atI (x :: xs) 0 = some x := by
  unfold L2.atI ixN
  rw [if_pos (by omega), if_pos (by rw [List.length_cons]; omega)]
  rfl
/-- what is_group_of comes down to -/
theorem isGrp_iff {n : Nat} {ms L : List (List Int)} (h1 : 1 ≤ n) (h5 : n ≤ 5) (h0 : ms ≠ []) (h60 : ms.length ≤ 60) (pm : ∀ m ∈ ms, Pm n m) (c : Cls n ms L) : IsGrp (.tup (perms ms)) ↔ L = ms := by
  refine ⟨fun ⟨n', G, e, g, _⟩ => ?_, fun e => ?_⟩
  · have e := perms_inj (D.tup.inj e)
    subst e
    obtain ⟨m, hm⟩ : ∃ m, m ∈ ms := by
      cases ms with
      | nil => exact absurd rfl h0
      | cons m ms => exact ⟨m, List.mem_cons_self⟩
    have en : n' = n := (g.pm m hm).len.symm.trans (pm m hm).len
    subst en
    exact c.one g.cl
  · subst e
    exact ⟨n, L, rfl, Grp.of h1 h5 pm c, h60⟩
section
variable {P : Program} {w : World} {K : PySem.W.Frag} {mg : Str → Option Value} {base : Heap}
noncomputable def spIsGroupOf : DS := ⟨fun ds k => ∃ (d : D), ds = [d] ∧ d.okG ∧ k (.ret (.bl d.isGrp)), fun _ _ _ i ⟨d, e, p, h⟩ => ⟨d, e, p, i _ h⟩⟩
abbrev sIsGroupOf : Stmt := top 19
theorem sc_is_group_of : FnScope ["thing", "member"] ["thing"] (defScope sIsGroupOf) := ⟨rfl, rfl, rfl, by decide +kernel, rfl, by decide +kernel, by decide +kernel⟩
theorem ok_is_group_of {f : Addr} {fd : FuncData} (Fn : Fun K "is_group_of" "is_group_of" sIsGroupOf f fd) (T : Tx mg) (m60 : ∃ t, mg "MOST_MEMBERS" = some (.int 60 t)) (g1 : Gd P w K mg base "is_any_member" 3 c0 ["thing"] spIsAny)
    (g2 : Gd P w K mg base "is_member_of" 3 c0 ["places", "thing"] spIsMemberOf) (g3 : Gd P w K mg base "closed_by" 2 c0 ["places", "members"] spClosedBy) : FnOk P w K mg base (L2.CX P w) 4 f fd ["thing"] (SpD K c0 1 spIsGroupOf) := by
  refine defn (k := 3) (ps := ["thing"]) Fn sc_is_group_of fun cdv A outer sh H E hr H0 B0 ds Φ hlw h R => ?_
  obtain ⟨d, rfl, ⟨p, pt⟩, h⟩ := h
  obtain ⟨t60, m60⟩ := m60
  refine ws_cons ?_
  walk_at "e"
  refine we_callB cr_isiX rfl T.isinstance bb_isinstance ?_
  walk_at "e"
  refine we_ty rfl T.tuple bb_tuple ?_
  walk_at "e"
  refine cd_isi p (kit_tup p) ⟨d.isTup, rfl, ?_⟩
  cases d with
  | tup xs =>
    obtain ⟨hlen, hit⟩ := pt xs rfl
    walk_at "e"
    refine wt_chain op_le op_le ?_
    walk_at "e"
    refine we_callB cr_lenX rfl T.len bb_len ?_
    walk_at "e"
    refine cd_len (.inr rfl) ?_
    refine od_le ⟨_, rfl, ?_⟩
    cases xs with
    | nil =>
      rw [show decide ((1 : Int) ≤ (([] : List D).length : Int)) = false by decide]
      walk_at "e"
      rw [isGrp_f (fun z => by obtain ⟨a, ys, e, _⟩ := z.tup; cases e)] at h
      exact h
    | cons x xs =>
    rw [decide_eq_true (show (1 : Int) ≤ ((x :: xs).length : Int) by rw [List.length_cons]; omega)]
    walk_at "e"
    refine we_globI rfl m60 ?_
    refine od_le ⟨_, rfl, ?_⟩
    by_cases big : ((x :: xs).length : Int) ≤ 60
    · rw [decide_eq_true big]
      walk_at "e"
      refine we_call R (g1.dfn hr (by decide)) rfl ?_
      refine wa_cons ?_
      refine we_ix ?_
      walk_at "e"
      refine od_ix (.inr rfl) (d := x) (at_zero _ _) ?_
      walk_at "e"
      refine ⟨rfl, x, rfl, hit x List.mem_cons_self, _, rfl, ?_⟩
      cases ex : x.any5 with
      | false =>
        walk_at "e"
        rw [isGrp_f (fun z => by
          obtain ⟨a, ys, e, l, h1, h5, hm⟩ := z.tup
          cases e
          obtain ⟨a', e', pa⟩ := memb_ok (hm _ List.mem_cons_self)
          rw [any5_of (n := a.length) (by cases ints_inj (D.tup.inj e'); exact pa) h1 h5] at ex
          cases ex)] at h
        exact h
      | true =>
        obtain ⟨a, rfl, pa, h1, h5⟩ := any5_ok ex
        walk_at "e"
        refine we_callB (cr_all rfl) rfl T.all bb_all ?_
        walk_at "e"
        refine we_newL (wn_map (i := 1) (fun y => .bl (y.memb a.length)) rfl sc_is_group_of.nd (blkOk_by (N := ["thing", "member"]) (sc := defScope sIsGroupOf) (by decide +kernel)) rfl (.inl rfl) (show 1 < 2 by decide) (wi_tup ?_))
        walk_at "e"
        refine ⟨_, rfl, (fun od zw => nomatch zw), Nat.le_trans hlen (by decide), rfl, fun j y hjw s1 H1 C1 cl1 fp1 => ?_, ?_⟩
        · refine we_call rs_blk (g2.dfn hr (by decide)) rfl ?_
          refine wa_cons ?_
          refine we_callB cr_lenX rfl T.len bb_len ?_
          refine wa_cons ?_
          refine we_ix ?_
          walk_at "e"
          refine od_ix (.inr rfl) (d := .tup (D.ints a)) (at_zero _ _) ?_
          walk_at "e"
          refine cd_len (.inr rfl) ?_
          rw [ints_len]
          walk_at "e"
          exact ⟨rfl, a.length, y, rfl, hit y (List.mem_of_getElem? hjw), rfl, rfl⟩
        · refine ⟨_, rfl, wa_nil ?_⟩
          have ea1 : (D.tup (D.ints a) :: xs).map (fun y => D.bl (y.memb a.length)) = ((D.tup (D.ints a) :: xs).map (fun y => y.memb a.length)).map D.bl := by rw [List.map_map]; rfl
          rw [ea1]
          refine cd_all ⟨_, rfl, ?_⟩
          have e2 : ((D.tup (D.ints a) :: xs).map (fun y => y.memb a.length)).all id = (D.tup (D.ints a) :: xs).all (fun y => y.memb a.length) := by rw [List.all_map]; rfl
          rw [e2]
          cases ea : (D.tup (D.ints a) :: xs).all (fun y => y.memb a.length) with
          | false =>
            walk_at "e"
            rw [isGrp_f (fun z => by
              obtain ⟨a', ys, e, l, h1, h5, hm⟩ := z.tup
              have e3 := D.tup.inj e
              injection e3 with e4 e5
              have e6 := ints_inj (D.tup.inj e4)
              subst e6
              subst e5
              rw [List.all_eq_true.mpr hm] at ea
              cases ea)] at h
            exact h
          | true =>
            walk_at "e"
            obtain ⟨ms, ems, pm⟩ := membs_of (List.all_eq_true.mp ea)
            have h0 : ms ≠ [] := fun z => by rw [z] at ems; cases ems
            have l60 : ms.length ≤ 60 := by
              rw [ems, perms_len] at big
              omega
            rw [ems] at h ⊢
            have ep : ∀ d, (D.tup (perms ms)) = d → L2.atI (perms ms) 0 = some (.tup (D.ints a)) := fun _ _ => by rw [← ems]; exact at_zero _ _
            refine we_cmp (op_eqX hr) ?_ (nomark _)
            refine we_call R (g3.dfn hr (by decide)) rfl ?_
            refine wa_cons ?_
            refine we_callB cr_lenX rfl T.len bb_len ?_
            refine wa_cons ?_
            refine we_ix ?_
            walk_at "e"
            refine od_ix (.inr rfl) (d := .tup (D.ints a)) (ep _ rfl) ?_
            walk_at "e"
            refine cd_len (.inr rfl) ?_
            rw [ints_len]
            walk_at "e"
            refine ⟨rfl, a.length, ms, .tup (perms ms), rfl, .inr rfl, h1, h5, by omega, pm, fun L cL => ?_⟩
            walk_at "e"
            have iff := isGrp_iff h1 h5 h0 l60 pm cL
            by_cases l : L.length ≤ 60
            · rw [if_pos l]
              refine od_eq (flA_perms 58 L) (flA_perms 58 ms) ?_
              rw [eq_tperms]
              by_cases e : L = ms
              · rw [isGrp_t (iff.mpr e)] at h
                rw [decide_eq_true e]
                exact h
              · rw [isGrp_f (fun z => e (iff.mp z))] at h
                rw [decide_eq_false e]
                exact h
            · rw [if_neg l]
              refine od_eq rfl (flA_perms 58 ms) ?_
              rw [isGrp_f (fun z => l (by rw [iff.mp z]; exact l60))] at h
              exact h
    · rw [decide_eq_false big]
      walk_at "e"
      rw [isGrp_f (fun z => by obtain ⟨a, ys, e, l, _⟩ := z.tup; cases e; rw [List.length_cons] at big; omega)] at h
      exact h
  | _ =>
    walk_at "e"
    rw [isGrp_f (fun ⟨_, _, e, _⟩ => nomatch e)] at h
    exact h
end
end L2.Px

/-! K8: need_group, is_group, makers -/
namespace L2.Px
open PySem PySem.Spec
open PyProof.Rows
variable [Wld]


section
variable {P : Program} {w : World} {K : PySem.W.Frag} {mg : Str → Option Value} {base : Heap}
theorem isGrp_of {d : D} (h : d.isGrp = true) : IsGrp d := by
  unfold D.isGrp at h
  classical
  exact of_decide_eq_true h
noncomputable def spNeedGroup (ad : Ad) : DS := ⟨fun ds k => ∃ (d : D), ds = [d] ∧ d.okG ∧ k (if d.isGrp = true then .ret .non else .exc ad.group), fun _ _ _ i ⟨d, e, p, h⟩ => ⟨d, e, p, i _ h⟩⟩
abbrev sNeedGroup : Stmt := top 20
theorem sc_need_group : FnScope ["group"] ["group"] (defScope sNeedGroup) := ⟨rfl, rfl, rfl, by decide +kernel, rfl, by decide +kernel, by decide +kernel⟩
theorem ok_need_group {ad : Ad} {f : Addr} {fd : FuncData} (Fn : Fun K "need_group" "need_group" sNeedGroup f fd) (Z : Er K mg ad) (g1 : Gd P w K mg base "is_group_of" 4 c0 ["thing"] spIsGroupOf) : FnOk P w K mg base (L2.CX P w) 5 f fd ["group"] (SpD K c0 1 (spNeedGroup ad)) := by
  refine defn (k := 4) (ps := ["group"]) Fn sc_need_group fun cdv A outer sh H E hr H0 B0 ds Φ hlw h R => ?_
  obtain ⟨d, rfl, p, h⟩ := h
  refine ws_cons ?_
  walk_at "e"
  refine we_call R (g1.dfn hr (by decide)) rfl ?_
  walk_at "e"
  refine ⟨rfl, d, rfl, p, _, rfl, ?_⟩
  cases e : d.isGrp with
  | false =>
    rw [e] at h
    walk_at "e"
    exact ws_raise rfl R Z.group.exn rfl h
  | true =>
    rw [e] at h
    walk_at "e"
    exact h
abbrev sIsGroup : Stmt := top 21
theorem sc_is_group : FnScope ["thing"] ["thing"] (defScope sIsGroup) := ⟨rfl, rfl, rfl, by decide +kernel, rfl, by decide +kernel, by decide +kernel⟩
theorem ok_is_group {f : Addr} {fd : FuncData} (Fn : Fun K "is_group" "is_group" sIsGroup f fd) (g1 : Gd P w K mg base "is_group_of" 4 c0 ["thing"] spIsGroupOf) : FnOk P w K mg base (L2.CX P w) 5 f fd ["thing"] (SpD K c0 1 spIsGroupOf) := by
  refine defn (k := 4) (ps := ["thing"]) Fn sc_is_group fun cdv A outer sh H E hr H0 B0 ds Φ hlw h R => ?_
  obtain ⟨d, rfl, p, h⟩ := h
  refine ws_cons ?_
  walk_at "e"
  refine we_call R (g1.dfn hr (by decide)) rfl ?_
  walk_at "e"
  exact ⟨rfl, d, rfl, p, h⟩
def spMakers (ad : Ad) : DS := ⟨fun ds k => ∃ (d : D), ds = [d] ∧ d.okG ∧ (¬ IsGrp d → k (.exc ad.group)) ∧ ∀ n G, d = .tup (perms G) → Grp n G → G.length ≤ 60 → k (.ret (.tup (perms (mkrs n G)))),
  fun _ _ _ i ⟨d, e, p, h1, h2⟩ => ⟨d, e, p, fun z => i _ (h1 z), fun n G a b c => i _ (h2 n G a b c)⟩⟩
abbrev sMakers : Stmt := top 23
theorem sc_makers : FnScope ["group"] ["group"] (defScope sMakers) := ⟨rfl, rfl, rfl, by decide +kernel, rfl, by decide +kernel, by decide +kernel⟩
theorem ok_makers {ad : Ad} {f : Addr} {fd : FuncData} (Fn : Fun K "makers" "makers" sMakers f fd) (g1 : Gd P w K mg base "need_group" 5 c0 ["group"] (spNeedGroup ad)) (g2 : Gd P w K mg base "makers_by" 3 c0 ["group"] spMakersBy) : FnOk P w K mg base (L2.CX P w) 6 f fd ["group"] (SpD K c0 1 (spMakers ad)) := by
  refine defn (k := 5) (ps := ["group"]) Fn sc_makers fun cdv A outer sh H E hr H0 B0 ds Φ hlw h R => ?_
  obtain ⟨d, rfl, p, h1, h2⟩ := h
  refine ws_cons ?_
  refine ws_expr ?_
  refine we_call R (g1.dfn hr (by decide)) rfl ?_
  walk_at "e"
  refine ⟨rfl, d, rfl, p, ?_⟩
  cases e : d.isGrp with
  | false =>
    walk_at "e"
    exact h1 fun z => by rw [isGrp_t z] at e; cases e
  | true =>
    obtain ⟨n, G, rfl, g, l⟩ := isGrp_of e
    show WSs _ _ _ _ _
    walk_at "e"
    refine we_call R (g2.dfn hr (by decide)) rfl ?_
    walk_at "e"
    exact ⟨rfl, n, G, rfl, g, l, h2 n G rfl g l⟩
end
end L2.Px

/-! K9: _law_is_group -/
namespace L2.Px
open PySem PySem.Spec
open PyProof.Rows
variable [Wld]


/-- any value that the law's own look is asked of -/
def D.okGL (d : D) : Prop := d.plainTy = true ∧ ∀ xs, d = .tup xs → xs.length ≤ 1000 ∧ D.flA xs 59 = true ∧ ∀ x ∈ xs, x.okL
theorem film_all (n : Nat) (xs : List D) : ((xs.filter fun y => !y.memb n).map id).isEmpty = xs.all fun y => y.memb n := by
  induction xs with
  | nil => rfl
  | cons x xs ih =>
    rw [List.filter_cons, List.all_cons]
    cases e : x.memb n with
    | true =>
      rw [if_neg (by simp)]
      rw [ih]
      rfl
    | false => simp
section
variable {P : Program} {w : World} {K : PySem.W.Frag} {mg : Str → Option Value} {base : Heap}
noncomputable def spLIsGroup : DS := ⟨fun ds k => ∃ (d : D), ds = [d] ∧ d.okGL ∧ k (.ret (.bl d.isGrp)), fun _ _ _ i ⟨d, e, p, h⟩ => ⟨d, e, p, i _ h⟩⟩
abbrev sLIsGroup : Stmt := top 40
theorem sc_lis_group : FnScope ["thing", "member"] ["thing"] (defScope sLIsGroup) := ⟨rfl, rfl, rfl, by decide +kernel, rfl, by decide +kernel, by decide +kernel⟩
theorem ok_lis_group {f : Addr} {fd : FuncData} (Fn : Fun K "_law_is_group" "_law_is_group" sLIsGroup f fd) (T : Tx mg) (g1 : Gd P w K mg base "_law_is_line" 2 c0 ["thing"] spLine)
    (g3 : Gd P w K mg base "_law_closed" 2 c0 ["places", "lot"] spLClosed) : FnOk P w K mg base (L2.CX P w) 3 f fd ["thing"] (SpD K c0 1 spLIsGroup) := by
  refine defn (k := 2) (ps := ["thing"]) Fn sc_lis_group fun cdv A outer sh H E hr H0 B0 ds Φ hlw h R => ?_
  obtain ⟨d, rfl, ⟨p, pt⟩, h⟩ := h
  refine ws_cons ?_
  walk_at "e"
  refine we_callB cr_isiX rfl T.isinstance bb_isinstance ?_
  walk_at "e"
  refine we_ty rfl T.tuple bb_tuple ?_
  walk_at "e"
  refine cd_isi p (kit_tup p) ⟨d.isTup, rfl, ?_⟩
  cases d with
  | tup xs =>
    obtain ⟨hlen, hfl, hit⟩ := pt xs rfl
    walk_at "e"
    refine wt_chain op_le op_le ?_
    walk_at "e"
    refine we_callB cr_lenX rfl T.len bb_len ?_
    walk_at "e"
    refine cd_len (.inr rfl) ?_
    refine od_le ⟨_, rfl, ?_⟩
    cases xs with
    | nil =>
      rw [show decide ((1 : Int) ≤ (([] : List D).length : Int)) = false by decide]
      walk_at "e"
      rw [isGrp_f (fun z => by obtain ⟨a, ys, e, _⟩ := z.tup; cases e)] at h
      exact h
    | cons x xs =>
    rw [decide_eq_true (show (1 : Int) ≤ ((x :: xs).length : Int) by rw [List.length_cons]; omega)]
    walk_at "e"
    refine od_le ⟨_, rfl, ?_⟩
    by_cases big : ((x :: xs).length : Int) ≤ 60
    · rw [decide_eq_true big]
      walk_at "e"
      refine we_call R (g1.dfn hr (by decide)) rfl ?_
      refine wa_cons ?_
      refine we_ix ?_
      walk_at "e"
      refine od_ix (.inr rfl) (d := x) (at_zero _ _) ?_
      walk_at "e"
      refine ⟨rfl, x, rfl, hit x List.mem_cons_self, _, rfl, ?_⟩
      cases ex : x.each with
      | false =>
        walk_at "e"
        rw [isGrp_f (fun z => by
          obtain ⟨a, ys, e, l, h1, h5, hm⟩ := z.tup
          cases e
          obtain ⟨a', e', pa⟩ := memb_ok (hm _ List.mem_cons_self)
          rw [each_ints] at ex
          cases ints_inj (D.tup.inj e')
          rw [pa.each] at ex
          cases ex)] at h
        exact h
      | true =>
        obtain ⟨a, rfl, pe⟩ := each_ok ex
        have pa : Pm a.length a := ⟨pe, rfl⟩
        walk_at "e"
        refine wt_chain op_le op_le ?_
        walk_at "e"
        refine we_callB cr_lenX rfl T.len bb_len ?_
        refine wa_cons ?_
        refine we_ix ?_
        walk_at "e"
        refine od_ix (.inr rfl) (d := .tup (D.ints a)) (at_zero _ _) ?_
        walk_at "e"
        refine cd_len (.inr rfl) ?_
        rw [ints_len]
        refine od_le ⟨_, rfl, ?_⟩
        have nog : ¬ (1 ≤ a.length ∧ a.length ≤ 5) → ¬ IsGrp (.tup (.tup (D.ints a) :: xs)) := fun n z => by
          obtain ⟨a', ys, e, l, h1, h5, hm⟩ := z.tup
          have e3 := D.tup.inj e
          injection e3 with e4 e5
          have e6 := ints_inj (D.tup.inj e4)
          subst e6
          exact n ⟨h1, h5⟩
        by_cases h1 : (1 : Int) ≤ (a.length : Int)
        case neg =>
          rw [decide_eq_false h1]
          walk_at "e"
          rw [isGrp_f (nog (fun z => h1 (by omega)))] at h
          exact h
        rw [decide_eq_true h1]
        walk_at "e"
        refine od_le ⟨_, rfl, ?_⟩
        by_cases h5 : (a.length : Int) ≤ 5
        case neg =>
          rw [decide_eq_false h5]
          walk_at "e"
          rw [isGrp_f (nog (fun z => h5 (by omega)))] at h
          exact h
        rw [decide_eq_true h5]
        have h1 : 1 ≤ a.length := by omega
        have h5 : a.length ≤ 5 := by omega
        walk_at "e"
        refine wt_cmp (op_neX hr) ?_ (nomark _)
        refine we_newL (wn_filter (i := 1) id (fun y => !y.memb a.length) rfl sc_lis_group.nd (blkOk_by (N := ["thing", "member"]) (sc := defScope sLIsGroup) (by decide +kernel)) rfl (.inl rfl) (show 1 < 2 by decide) (wi_tup ?_))
        walk_at "e"
        refine ⟨_, rfl, (fun od zw => nomatch zw), Nat.le_trans hlen (by decide), rfl, fun j y hjw s1 H1 C1 cl1 fp1 => ?_, ?_⟩
        · walk_at "e"
          refine we_call rs_blk (g1.dfn hr (by decide)) rfl ?_
          walk_at "e"
          have em : y.memb a.length = (y.each && decide ((y.len : Int) = (a.length : Int))) := rfl
          refine ⟨rfl, y, rfl, hit y (List.mem_of_getElem? hjw), _, rfl, ?_⟩
          cases ey : y.each with
          | false =>
            walk_at "e"
            rw [em, ey]
            refine ⟨rfl, rfl, fun _ sh H C cl fp => ?_⟩
            walk_at "e"
            exact ⟨rfl, rfl⟩
          | true =>
            obtain ⟨b, rfl, pe⟩ := each_ok ey
            walk_at "e"
            refine wt_cmp (op_neX hr) ?_ (nomark _)
            refine we_callB cr_lenX rfl T.len bb_len ?_
            walk_at "e"
            refine cd_len (.inr rfl) ?_
            rw [ints_len]
            refine we_callB cr_lenX rfl T.len bb_len ?_
            refine wa_cons ?_
            refine we_ix ?_
            walk_at "e"
            refine od_ix (.inr rfl) (d := .tup (D.ints a)) (at_zero _ _) ?_
            walk_at "e"
            refine cd_len (.inr rfl) ?_
            rw [ints_len]
            refine od_ne rfl rfl ⟨_, rfl, rfl, ?_, fun _ sh H C cl fp => ?_⟩
            · have el : (D.tup (D.ints b)).len = b.length := ints_len b
              rw [em, ey, eq_int, el]
              rfl
            · walk_at "e"
              exact ⟨rfl, rfl⟩
        · refine ⟨_, rfl, ?_⟩
          walk_at "e"
          refine ⟨Nat.zero_le _, ?_⟩
          refine od_ne (fl_filter 59 hfl) rfl ⟨_, rfl, ?_⟩
          rw [eq_nil, film_all]
          cases ea : (D.tup (D.ints a) :: xs).all (fun y => y.memb a.length) with
          | false =>
            walk_at "e"
            rw [isGrp_f (fun z => by
              obtain ⟨a', ys, e, l, h1, h5, hm⟩ := z.tup
              have e3 := D.tup.inj e
              injection e3 with e4 e5
              have e6 := ints_inj (D.tup.inj e4)
              subst e6
              subst e5
              rw [List.all_eq_true.mpr hm] at ea
              cases ea)] at h
            exact h
          | true =>
            walk_at "e"
            obtain ⟨ms, ems, pm⟩ := membs_of (List.all_eq_true.mp ea)
            have h0 : ms ≠ [] := fun z => by rw [z] at ems; cases ems
            have l60 : ms.length ≤ 60 := by
              rw [ems, perms_len] at big
              omega
            rw [ems] at h ⊢
            have ep : ∀ d, (D.tup (perms ms)) = d → L2.atI (perms ms) 0 = some (.tup (D.ints a)) := fun _ _ => by rw [← ems]; exact at_zero _ _
            refine we_cmp (op_eqX hr) ?_ (nomark _)
            refine we_call R (g3.dfn hr (by decide)) rfl ?_
            refine wa_cons ?_
            refine we_callB cr_lenX rfl T.len bb_len ?_
            refine wa_cons ?_
            refine we_ix ?_
            walk_at "e"
            refine od_ix (.inr rfl) (d := .tup (D.ints a)) (ep _ rfl) ?_
            walk_at "e"
            refine cd_len (.inr rfl) ?_
            rw [ints_len]
            walk_at "e"
            refine ⟨rfl, a.length, ms, .tup (perms ms), rfl, .inr rfl, h1, h5, by omega, pm, fun L cL => ?_⟩
            walk_at "e"
            have iff := isGrp_iff h1 h5 h0 l60 pm cL
            refine od_eq (flA_perms 58 L) (flA_perms 58 ms) ?_
            rw [eq_tperms]
            by_cases e : L = ms
            · rw [isGrp_t (iff.mpr e)] at h
              rw [decide_eq_true e]
              exact h
            · rw [isGrp_f (fun z => e (iff.mp z))] at h
              rw [decide_eq_false e]
              exact h
    · rw [decide_eq_false big]
      walk_at "e"
      rw [isGrp_f (fun z => by obtain ⟨a, ys, e, l, _⟩ := z.tup; cases e; rw [List.length_cons] at big; omega)] at h
      exact h
  | _ =>
    walk_at "e"
    rw [isGrp_f (fun ⟨_, _, e, _⟩ => nomatch e)] at h
    exact h
end
end L2.Px
end
section
open L2 L2.Px PySem PySem.Spec PyProof.Rows
local macro_rules | `(tactic| walk_at "vis") => `(tactic| first | exact .inl rfl | exact .inr (.inl rfl) | exact .inr (.inr rfl))
local macro_rules | `(tactic| walk_at "n") => `(tactic| first
  | refine we_name (i := 0) rfl (by walk_at "vis") rfl ?_
  | refine we_name (i := 1) rfl (by walk_at "vis") rfl ?_
  | refine we_name (i := 2) rfl (by walk_at "vis") rfl ?_
  | refine we_name (i := 3) rfl (by walk_at "vis") rfl ?_
  | refine we_name (i := 4) rfl (by walk_at "vis") rfl ?_
  | refine we_name (i := 5) rfl (by walk_at "vis") rfl ?_
  | refine we_name (i := 6) rfl (by walk_at "vis") rfl ?_
  | refine we_name (i := 7) rfl (by walk_at "vis") rfl ?_
  | refine we_name (i := 8) rfl (by walk_at "vis") rfl ?_
  | refine we_name (i := 9) rfl (by walk_at "vis") rfl ?_)
local macro_rules | `(tactic| walk_at "e1") => `(tactic| first
  | ((with_reducible show (if _ then _ else _)); first | refine itT ?_ | refine itF ?_)
  | ((with_reducible show WE _ _ (.Name _ _) _ _); walk_at "n")
  | ((with_reducible show WE _ _ (.Constant (.int _) _ _) _ _); refine we_int ?_)
  | ((with_reducible show WE _ _ (.Constant (.str _) _ _) _ _); refine we_str ?_)
  | ((with_reducible show WE _ _ (.Constant (.bool _) _ _) _ _); refine we_bl ?_)
  | ((with_reducible show WE _ _ (.Constant .none _ _) _ _); refine we_non ?_)
  | ((with_reducible show WA _ _ (_ :: _) _ _); refine wa_cons ?_)
  | ((with_reducible show WA _ _ [] _ _); refine wa_nil ?_)
  | ((with_reducible show WE _ _ (.BoolOp _ [_] _) _ _); refine we_one ?_)
  | ((with_reducible show WE _ _ (.BoolOp .And _ _) _ _); refine we_and ?_)
  | ((with_reducible show WE _ _ (.BoolOp .Or _ _) _ _); refine we_or ?_)
  | ((with_reducible show WE _ _ (.UnaryOp .Not _ _) _ _); refine we_not ?_)
  | ((with_reducible show WE _ _ (.IfExp _ _ _ _) _ _); refine we_ifExp ?_)
  | ((with_reducible show WE _ _ (.Tuple _ _ _) _ _); refine we_tup ?_)
  | ((with_reducible show WE _ _ (.List _ _) _ _); refine we_lst ?_)
  | ((with_reducible show WE _ _ (.BinOp _ .Add _ _) _ _); refine we_add ?_)
  | ((with_reducible show WE _ _ (.BinOp _ .Sub _ _) _ _); refine we_sub ?_)
  | ((with_reducible show WE _ _ (.BinOp _ .Mult _ _) _ _); refine we_mul ?_)
  | ((with_reducible show WE _ _ (.BinOp _ .Mod _ _) _ _); refine we_mod ?_)
  | ((with_reducible show WE _ _ (.BinOp _ .FloorDiv _ _) _ _); refine we_fdiv ?_)
  | ((with_reducible show WE _ _ (.BinOp _ .Pow _ _) _ _); refine we_pow ?_)
  | ((with_reducible show WT _ _ (.UnaryOp .Not _ _) _ _); refine wt_not ?_)
  | ((with_reducible show WT _ _ (.BoolOp .And _ _) _ _); refine wt_ww (ww_and ?_))
  | ((with_reducible show WT _ _ (.BoolOp .Or _ _) _ _); refine wt_ww (ww_or ?_))
  | ((with_reducible show WW _ _ (.BoolOp .And [_] _) _ _); refine ww_and1 ?_)
  | ((with_reducible show WW _ _ (.BoolOp .Or [_] _) _ _); refine ww_or1 ?_)
  | ((with_reducible show WW _ _ (.BoolOp .And _ _) _ _); refine ww_and ?_)
  | ((with_reducible show WW _ _ (.BoolOp .Or _ _) _ _); refine ww_or ?_)
  | ((with_reducible show WSs _ _ (_ :: _) _ _); refine ws_cons ?_)
  | ((with_reducible show WSs _ _ [] _ _); refine ws_nil ?_)
  | ((with_reducible show WS _ _ (.Return (some _) _) _ _); refine ws_ret ?_)
  | ((with_reducible show WS _ _ (.If _ _ _ _) _ _); refine ws_if ?_)
  | ((with_reducible show WT _ _ (.Call _ _ _ _) _ _); refine wt_val ?_)
  | ((with_reducible show WT _ _ (.Name _ _) _ _); refine wt_val ?_))
local macro_rules | `(tactic| walk_at "e") => `(tactic| repeat' walk_at "e1")
/-! _law_caught, handed a lambda -/
namespace L2.Px
open PySem PySem.Spec
open PyProof.Rows LamX
variable [Wld]
abbrev sCaught : Stmt := top 30
abbrev nCaught : List Str := ["work", "caught", "error"]
theorem sc_caught : FnScope nCaught ["work"] (defScope sCaught) := ⟨rfl, rfl, rfl, by decide +kernel, rfl, by decide +kernel, by decide +kernel⟩
/-- None, or the error that came -/
def TTc (K : PySem.W.Frag) (CS : Addr) : (XK → Hp → VK → Prop) → Hp → VK → Prop := fun tl H Q =>
  ∀ Q2 : VK, (∀ v H', Q .non H' → Q2 v H') → tl (fun cls d H' => PySem.W.exmOne K cls (.ref CS) = some true ∧ ∀ a, H' a = none → Q (.ref a) (upd H' a (ExD cls d a))) H Q2
theorem caught_gives {X : Cx} {qw : Str} {g CS : Addr} {cdg : Value} (hme : X.mg "StayError" = some (.ref CS)) : GivesTo X nCaught "_law_caught" (defScope sCaught) g cdg (defBody sCaught) "work" qw (TTc X.K CS) := by
  intro f c' sh H Q tl act hc h
  have ndw := sc_caught.nd
  refine ⟨_, pss_cons (ps_set (i := 1) ndw rfl (.inl rfl) pe_non) (pss_cons (ps_try_keep (X := (cxOf C8.CX0 X.prog X.w X.K X.mg X.base nCaught "_law_caught" (defScope sCaught) g cdg X.A X.stack sh H C8.E0).nox) (c := .ref CS) (i := 2)
      (tb := fun W D τ H => ∃ Ech : XK, (∀ cls d σ' H', Ech cls d H' → W cls d σ' H') ∧ τ[0]? = some (some (.ref f)) ∧ H c' = some (CodeO c' qw) ∧ tl Ech H fun _ H' => D.nx τ H')
      (ts := fun a cls d D τ H => tVar 2 τ H fun v H1 => D.nx (τ.set 1 (some v)) H1)
      rfl rfl rfl ndw rfl rfl ⟨rfl, by decide, .inl hme⟩ (fun W pn xe tk _ => ?_) (fun a oe cls d pn _ _ => ?_)) (pss_one (ps_ret (pe_var (i := 1) rfl (.inl rfl))))), ?_⟩
  · refine ⟨fun pq s' τ H' D I h' => ?_⟩
    obtain ⟨Ech, hW, ha1, h2, h3⟩ := h'
    exact (pss_one (ps_expr (act W pn xe Ech _ _ tk hW) rfl)).run pq s' τ H' D I ⟨ha1, h2, h3⟩
  · exact pss_one (ps_set (i := 1) ndw rfl (.inl rfl) (pe_var (i := 2) rfl (.inl rfl)))
  · refine ⟨_, fun cls d σ' H' ⟨e2, e3⟩ => ⟨true, e2, rfl, fun hlw a ha => ?_⟩, rfl, hc, h _ fun v H' hq => ⟨.non, rfl, hq⟩⟩
    have hlw : σ'.length = 3 := hlw
    refine ⟨.ref a, ?_, .ref a, ?_, e3 a ha⟩
    · rw [List.getElem?_set_self (by omega)]
    · rw [List.getElem?_set_ne (by decide), List.getElem?_set_self (by rw [List.length_set]; omega)]
end L2.Px

/-! the making of a lambda, told more finely -/
namespace L2.Px
open PySem PySem.Spec
open PyProof.Rows LamX
variable [Wld]
/-- nothing but the table P and a new code object changed -/
structure LamHp (T : List (Addr × Str)) (P c' : Addr) (q : Str) (H H1 : Hp) : Prop where
  old : ∀ a o, H a = some o → a ≠ P → H1 a = some o
  tab : ∃ ps, H1 P = some (.tbl ps)
  tabs : Tabs T H1
  code : H1 c' = some (CodeO c' q)
section
variable {X : Cx} {pq : List (Addr × Obj)} {τ : St} {H : Hp} {sh : Shared}
theorem lam_make3 {T : List (Addr × Str)} {c P : Addr} {params : Arguments} {body : Expr} {scope : Scope} {pos : Pos} {E : Value → Shared → Prop} {Q : Value → Shared → Prop} (I : Inv X pq τ H sh) (TB : TabB X.base X.mg c P) (hcode : X.env.code = .ref c)
    (hin : (P, X.env.qual ++ "<lambda>") ∈ T) (hun : ∀ p ∈ T, p.1 = P → p.2 = X.env.qual ++ "<lambda>") (hT : Tabs T H) (hdf : defaultsOf params X.env = ([], [])) (hfr : ∀ y ∈ scope.names, y.2 = .free → ∃ c, X.env.cells.lookup y.1 = some c)
    (hyp : ∀ (f c' : Addr) (pm ctv : Value) (H1 : Hp) (sh' : Shared), Inv X pq τ H1 sh' → LamHp T P c' (X.env.qual ++ "<lambda>") H H1 →
      sh'.heap.get? f = some (PySem.W.kla_obj "<lambda>" (X.env.qual ++ "<lambda>") params body scope (cloFrom X.env.cells scope.names []) pm c' ctv) → H1 f = none → f ∉ frs X.stack → Q (.ref f) sh') :
    wpAny (model X.prog X.w) X.A (eval (.Lambda params body scope pos) X.env) Q E sh := by
  obtain ⟨ps, hP, htr, hcs⟩ := hT _ hin
  refine PySem.W.kla_eval hdf ?_
  have bP : sh.heap.BuiltinsAt X.mg P := TB.bm.keeps I.bk
  have atP : sh.heap.get? P = some { cls := .none, data := .fields ps } := I.hok P _ hP
  have nofr : ∀ f, sh.heap.objs.size ≤ f → f ∉ frs X.stack := fun f hge w => by
    rcases List.mem_cons.mp (I.stkSub _ w) with e | e
    · have lt1 := I.lt
      rw [← e] at lt1
      exact Nat.lt_irrefl _ (Nat.lt_of_lt_of_le lt1 hge)
    · exact I.nofs hge e
  cases hcA : codeAmong pos ps.toList with
  | none =>
    refine PySem.W.kla_makeFunction (mg := X.mg) (c := c) (P := P) (ps := ps) (closure_ok hfr) I.ok.glob (I.mod.glob.keeps I.bk) hcode (TB.code.keeps I.bk) atP htr hcA TB.gP bP fun c' ctv h' tk kx hge hlt hrec htb => ?_
    obtain ⟨c2, oc, vs, t, eq2, goc, dd, vv⟩ := hrec
    cases eq2
    have hsz : sh.heap.objs.size ≤ h'.objs.size := Nat.le_trans hge (Nat.le_of_lt hlt)
    have nC : H c' = none := I.hok.fresh hge
    have I1 := inv_table (t' := tk) (more := #[rawInt pos.line, rawInt pos.col, .ref c']) (h' := h'.push (PySem.W.kla_obj "<lambda>" (X.env.qual ++ "<lambda>") params body scope (cloFrom X.env.cells scope.names []) ((X.mg "__name__").getD .none) c' ctv)) I hP
      (fun b o nb e => Heap.get?_push_of_some _ (kx b o nb e)) (Heap.get?_push_of_some _ htb) hge ⟨oc, vs, t, Heap.get?_push_of_some _ goc, dd, vv⟩
    have kO : ∀ a o, H a = some o → a ≠ P → upd (upd H P (.tbl (ps ++ #[rawInt pos.line, rawInt pos.col, .ref c']))) c' (CodeO c' (X.env.qual ++ "<lambda>")) a = some o := fun a o e n => by
      rw [upd_ne (ne_of_none e nC), upd_ne n]
      exact e
    have kC : ∀ a q2, H a = some (CodeO a q2) → a ≠ P := fun a q2 e w => by
      rw [w, hP] at e
      exact codeO_ne ps (Option.some.inj e).symm
    have eL : (ps ++ #[rawInt pos.line, rawInt pos.col, .ref c']).toList = ps.toList ++ [rawInt pos.line, rawInt pos.col, .ref c'] := by simp
    refine hyp h'.objs.size c' ((X.mg "__name__").getD .none) ctv _ _ I1 ⟨kO, ⟨_, by rw [upd_ne (ne_of_none hP nC), upd_same]⟩, fun p hp => ?_, upd_same⟩ (Heap.get?_push_size _ rfl) ?_ (nofr _ hsz)
    · by_cases pP : p.1 = P
      · rw [hun p hp pP, pP]
        refine ⟨_, by rw [upd_ne (ne_of_none hP nC), upd_same], by rw [eL]; exact PySem.TriplesOk_snoc _ _ _ _ htr, fun p' cv among => ?_⟩
        rw [eL] at among
        rcases among_app _ htr among with w | w
        · obtain ⟨c3, ev3, at3⟩ := hcs p' cv w
          exact ⟨c3, ev3, kO _ _ at3 (kC _ _ at3)⟩
        · exact ⟨c', w, upd_same⟩
      · obtain ⟨ps2, t1, t2, t3⟩ := hT p hp
        refine ⟨ps2, kO _ _ t1 pP, t2, fun p' cv among => ?_⟩
        obtain ⟨c3, ev3, at3⟩ := t3 p' cv among
        exact ⟨c3, ev3, kO _ _ at3 (kC _ _ at3)⟩
    · have n1 : h'.objs.size ≠ c' := Nat.ne_of_gt hlt
      have n2 : h'.objs.size ≠ P := Nat.ne_of_gt (Nat.lt_of_lt_of_le (Heap.lt_size atP) hsz)
      rw [upd_ne n1, upd_ne n2]
      exact I.hok.fresh hsz
  | some cv =>
    obtain ⟨c', ecv, hco⟩ := hcs pos cv hcA
    subst ecv
    refine PySem.W.kla_makeFunctionHit (mg := X.mg) (c := c) (P := P) (ps := ps) (closure_ok hfr) I.ok.glob (I.mod.glob.keeps I.bk) hcode (TB.code.keeps I.bk) atP htr hcA bP fun ctv h' tk kx hsz => ?_
    have I1 : Inv X pq τ H { sh with heap := h'.push (PySem.W.kla_obj "<lambda>" (X.env.qual ++ "<lambda>") params body scope (cloFrom X.env.cells scope.names []) ((X.mg "__name__").getD .none) c' ctv), toks := tk } := I.kept fun b o e => Heap.get?_push_of_some _ (kx b o e)
    exact hyp h'.objs.size c' ((X.mg "__name__").getD .none) ctv H _ I1 ⟨fun _ _ e _ => e, ⟨_, hP⟩, hT, hco⟩ (Heap.get?_push_size _ rfl) (I.hok.fresh hsz) (nofr _ hsz)
end
end L2.Px

/-! _law_caught(lambda: e) -/
namespace L2.Px
open PySem PySem.Spec
open PyProof.Rows LamX
variable [Wld]
def tLam3 (T : List (Addr × Str)) (P : Addr) (q : Str) (TT : (XK → Hp → VK → Prop) → Hp → VK → Prop) (t : XK → TE) : TE := fun τ H Q => Tabs T H ∧ ∀ H1 c', LamHp T P c' q H H1 → TT (fun E H' Q' => t E τ H' Q') H1 Q
/-- the def _law_caught as it stands -/
structure CaughtAt (K : PySem.W.Frag) (mg : Str → Option Value) (CS : Addr) : Prop where
  ex : ∃ (g : Addr) (fd : FuncData), Fun K "_law_caught" "_law_caught" sCaught g fd ∧ mg "_law_caught" = some (.ref g) ∧ PySem.W.keepIn K (.ref g) = true ∧ Binds K fd ["work"] []
  stay : mg "StayError" = some (.ref CS)
section
variable {X : Cx}
theorem pe_lam3 {T : List (Addr × Str)} {c P CS : Addr} {k : Nat} {params : Arguments} {body : Expr} {scope : Scope} {t : XK → TE} {p lpos pos : Pos} (hg : Gl X "_law_caught") (CA : CaughtAt X.K X.mg CS)
    (TB : TabB X.base X.mg c P) (hcode : X.env.code = .ref c) (hin : (P, X.env.qual ++ "<lambda>") ∈ T) (hun : ∀ p ∈ T, p.1 = P → p.2 = X.env.qual ++ "<lambda>") (hr : Room (k + 2) X.A) (L : LamS X.env.scope scope) (hdf : defaultsOf params X.env = ([], []))
    (hbind : ∀ (q : Str) (cl : List (Str × Addr)) (pm cv ctv : Value), bindArgs (PySem.W.kla_fn "<lambda>" q params body scope cl pm cv ctv) ⟨[], []⟩ = pure [])
    (hbody : ∀ (A : Around) (outer : List Env) (sh : Shared) (H : Hp) (E : XK) (f c' : Addr), Room k (A.deeper (lamEnv X scope sh.heap.objs.size f c')) → PE (lamCx X A outer sh H E scope f c') body (t E)) :
    PE X (.Call (.Name "_law_caught" p) [.Lambda params body scope lpos] [] pos) (tLam3 T P (X.env.qual ++ "<lambda>") (TTc X.K CS) t) := by
  refine ⟨fun pq sh τ H Q I h => ?_⟩
  obtain ⟨hT, h⟩ := h
  obtain ⟨g, fd, Fn, hmg, hkp, hbn⟩ := CA.ex
  obtain ⟨oc, od, kV, doc, pm, an, cdv, ct, osl, rfl, lk, hcd⟩ := Fn.ex
  refine wpAny_Call_Name_kw (ld_glob I hg hmg ?_ (by decide))
  refine PySem.W.callWith_K (h₀ := X.base) I.ok.mod.kin hkp ?_ (by rfl) (by rfl)
  show wpAny _ _ (spliced ((false, eval (.Lambda params body scope lpos) X.env) :: backTo pos (starEach [] X.env))) _ _ sh
  refine Calls.spliced_cons (lam_make3 I TB hcode hin hun hT hdf (L.has I.ok) fun f c' pm' ctv H1 sh' I1 hL gf hfn hfo => ?_)
  refine Calls.spliced_nil ⟨I1.kIn, ?_⟩
  have rc : codeAny (model X.prog X.w) X.A (.call (.ref g) ⟨[.ref f], []⟩) (CR C8.CX0 X.stack X.prog X.w H1 sh' Q C8.E0) sh' := by
    refine run_ofS (N := nCaught) (ps := ["work"]) (us := [.ref f]) (vs := [.ref f]) lk hcd sc_caught hr I1.env0 (hbn sh' [.ref f] I1.kIn rfl) (.cons rfl .nil) rfl fun hr2 => ?_
    obtain ⟨t2, ht2, hq2⟩ := caught_gives CA.stay f c' sh' H1 Q (fun E H' Q' => t E τ H' Q') (fun W pn xe E p1 p2 tk hW => pe_act (i := 0) I1 L gf hfn hfo (hbind _ _ _ _ _) tk hW hr2 (fun A outer s2 H2 hr3 => hbody A outer s2 H2 E f c' hr3) rfl (.inl rfl)) hL.code (h H1 c' hL)
    exact ⟨t2, ht2.nox, hq2⟩
  refine wpAny_call (codeAny_mono rc fun r s2 hqc => ?_)
  cases r with
  | error e => exact (show False from hqc).elim
  | ok fl =>
    cases fl with
    | ret u => exact I1.after hqc
    | next => exact False.elim hqc
    | brk => exact False.elim hqc
    | cont => exact False.elim hqc
end
end L2.Px

/-! _law_caught(lambda: e), told of data -/
namespace L2.Px
open PySem PySem.Spec
open PyProof.Rows LamX
variable [Wld]
/-- a configuration that bears the making of lambdas at the table Pt -/
structure LCfg (c : Cfg) (T : List (Addr × Str)) (Pt : Addr) (q : Str) : Prop where
  tabs : ∀ H, c.G H → Tabs T H
  vP : c.V Pt
  keep : ∀ H H1 c', c.G H → LamHp T Pt c' q H H1 → c.G H1
/-- the slots without the def's own objects -/
def unown (Γ : Gam) : Gam := Γ.map fun x => match x with
  | some (.val d) => some (.val d)
  | _ => none
theorem unown_some {Γ : Gam} {i : Nat} {sl : Sl} (h : (unown Γ)[i]? = some (some sl)) : ∃ d, sl = .val d ∧ Γ[i]? = some (some (.val d)) := by
  unfold unown at h
  rw [List.getElem?_map] at h
  cases e : Γ[i]? with
  | none =>
    rw [e] at h
    cases h
  | some x =>
    rw [e] at h
    cases x with
    | none => exact nomatch (Option.some.inj h)
    | some y =>
      cases y with
      | val d => exact ⟨d, (Option.some.inj (Option.some.inj h)).symm, rfl⟩
      | own od => exact nomatch (Option.some.inj h)
section
variable {X : Cx} {F : Fm} {Γ : Gam} {Φ : D → Gam → Prop}
theorem nxt_lam {K : PySem.W.Frag} {T : List (Addr × Str)} {Pt c' : Addr} {q : Str} {τ : St} {B H H1 : Hp} (st : Stt K F B Γ τ H) (L : LamHp T Pt c' q H H1) (C : LCfg F.c T Pt q) : Nxt K F τ B Γ H B Γ H1 := by
  have ne : ∀ a, ¬ F.c.V a → a ≠ Pt := fun a v w => v (w ▸ C.vP)
  have al : ∀ a, H a ≠ none → H1 a ≠ none := fun a w => by
    by_cases e : a = Pt
    · obtain ⟨ps, h⟩ := L.tab
      rw [e, h]
      exact fun q => nomatch q
    · cases ho : H a with
      | none => exact absurd ho w
      | some o =>
        rw [L.old a o ho e]
        exact fun q => nomatch q
  refine ⟨⟨fun a o e v => L.old a o (st.fr a o e v) (ne a v), st.b0, fun a o e => ⟨L.old a o (st.bH a o e).1 (ne a (st.bH a o e).2), (st.bH a o e).2⟩, st.bn, st.vH, fun a v => al a (st.vH' a v), C.keep _ _ _ st.g L, st.len, fun i sl e => ?_, st.dj⟩, Ex.refl _, fun a o e v _ => L.old a o e (ne a v), fun _ w => w, al, fun _ _ w => .inl w⟩
  obtain ⟨v, ev, rv⟩ := st.sl i sl e
  refine ⟨v, ev, ?_⟩
  cases sl with
  | val d => exact rv
  | own od =>
    obtain ⟨p, o, rfl, r1, r2, r3, r4, r5⟩ := rv
    exact ⟨p, o, rfl, r1, r2, r3, L.old p o r4 (ne p r3), r5⟩
theorem stt_inner {K : PySem.W.Frag} {τ : St} {B H : Hp} (st : Stt K F B Γ τ H) : Stt K ⟨F.c, H, B⟩ B (unown Γ) τ H := by
  refine ⟨fun a o e _ => e, Ex.refl _, st.bH, fun a o e => .inl e, st.vH', st.vH', st.g, ?_, fun i sl e => ?_, fun i j oi oj p e _ _ _ => ?_⟩
  · unfold unown
    rw [List.length_map]
    exact st.len
  · obtain ⟨d, rfl, e2⟩ := unown_some e
    obtain ⟨v, ev, rv⟩ := st.sl i _ e2
    exact ⟨v, ev, rv⟩
  · obtain ⟨d, e2, _⟩ := unown_some e
    cases e2
theorem we_caught [F.c.Ok] {T : List (Addr × Str)} {c Pt CS : Addr} {k : Nat} {params : Arguments} {body : Expr} {scope : Scope} {p lpos pos : Pos} (hg : Gl X "_law_caught") (CA : CaughtAt X.K X.mg CS)
    (TB : TabB X.base X.mg c Pt) (hcode : X.env.code = .ref c) (hin : (Pt, X.env.qual ++ "<lambda>") ∈ T) (hun : ∀ p ∈ T, p.1 = Pt → p.2 = X.env.qual ++ "<lambda>") (hr : Room (k + 2) X.A) (L : LamS X.env.scope scope) (hdf : defaultsOf params X.env = ([], []))
    (hbind : ∀ (q : Str) (cl : List (Str × Addr)) (pm cv ctv : Value), bindArgs (PySem.W.kla_fn "<lambda>" q params body scope cl pm cv ctv) ⟨[], []⟩ = pure [])
    (C : LCfg F.c T Pt (X.env.qual ++ "<lambda>"))
    (h : ∀ (B H1 : Hp) (A : Around) (outer : List Env) (sh : Shared) (HZ : Hp) (E : XK) (f c' : Addr), Room k (A.deeper (lamEnv X scope sh.heap.objs.size f c')) →
      Rs (lamCx X A outer sh HZ E scope f c') ⟨F.c, H1, B⟩ (fun D => PySem.W.exmOne X.K (.ref D.cls) (.ref CS) = some true ∧ Φ (.exc D) Γ) → WE (lamCx X A outer sh HZ E scope f c') ⟨F.c, H1, B⟩ body (unown Γ) fun _ _ => Φ .non Γ) :
    WE X F (.Call (.Name "_law_caught" p) [.Lambda params body scope lpos] [] pos) Γ Φ := by
  intro B τ H st Q q
  refine wp_of (pe_lam3 (t := fun E τ H' Q' => ∀ (A : Around) (outer : List Env) (sh : Shared) (HZ : Hp) (f c' : Addr), Room k (A.deeper (lamEnv X scope sh.heap.objs.size f c')) → wpE (lamCx X A outer sh HZ E scope f c') body τ H' Q')
    hg CA TB hcode hin hun hr L hdf hbind (fun A outer sh HZ E f c' hr2 => ⟨fun pq st τ H Q I h => h A outer sh HZ f c' hr2 pq st I⟩)) ⟨C.tabs _ st.g, fun H1 c' hL => ?_⟩
  intro Q2 hQ A outer sh HZ f c2 hr2
  have n1 := nxt_lam st hL C
  refine h B H1 A outer sh HZ _ f c2 hr2 ⟨_, takes_of rfl rfl rfl rfl, fun D B' H' hD P' => ?_⟩ B τ H1 (stt_inner n1.st) Q2 fun v d B' Γ' H' hΦ n r => ?_
  · have n := n1.trans (n1.st.called P')
    cases D with
    | pl D =>
      refine ⟨hD.1, fun a ha => ?_⟩
      have n2 := n.st.frozen (o := ExD (.ref D) none a) ha
      exact q _ _ _ _ _ hD.2 (n.trans n2) (.exc upd_same)
    | fd D f n0 =>
      intro dd hdd
      refine ⟨hD.1, fun a ha => ?_⟩
      have n2 := n.st.frozen (o := ExD (.ref D) (some dd) a) ha
      exact q _ _ _ _ _ hD.2 (n.trans n2) (.exc ⟨dd, upd_same, n2.ex _ _ hdd⟩)
  · exact hQ v H' (q _ _ _ _ _ hΦ (n1.trans (n1.st.called n.st.pst)) .non)
end
end L2.Px

/-! a local name that holds a def is called -/
namespace L2.Px
open PySem PySem.Spec
open PyProof.Rows
variable [Wld]
/-- the def at f keeps the promise sp -/
structure GdA (P : Program) (w : World) (K : PySem.W.Frag) (mg : Str → Option Value) (base : Heap) (f : Addr) (k : Nat) (c : Cfg) (ps : List Str) (sp : DS) : Prop where
  ex : ∃ fd : FuncData, FnOk P w K mg base (L2.CX P w) k f fd ps (SpD K c ps.length sp) ∧ PySem.W.keepIn K (.ref f) = true ∧ Binds K fd ps []
theorem Gd.atA {P : Program} {w : World} {K : PySem.W.Frag} {mg : Str → Option Value} {base : Heap} {x : Str} {k : Nat} {c : Cfg} {ps : List Str} {sp : DS} (g : Gd P w K mg base x k c ps sp) : ∃ f, mg x = some (.ref f) ∧ GdA P w K mg base f k c ps sp := by
  obtain ⟨f, fd, a, b, c, d⟩ := g.ex
  exact ⟨f, b, fd, a, c, d⟩
section
variable {X : Cx} {F : Fm} {Γ : Gam} {Φ : D → Gam → Prop}
theorem we_callL [F.c.Ok] {k j i : Nat} {f : Addr} {EX : EC → Prop} {x : Str} {ps : List Str} {sp : DS} {e : Expr} {es : List Expr} {p pos : Pos} (R : Rs X F EX) (g : GdA X.prog X.w X.K X.mg X.base f k c0 ps sp) (hr : Room j X.A) (hkj : k ≤ j) (hN : X.N[i]? = some x) (hv : Vis X.env.scope x)
    (h : WA X F (e :: es) Γ fun ds Γ1 => ds.length = ps.length ∧ sp.run ds fun o => match o with | .ret d => Φ d Γ1 | .exc C => EX C) (h0 : Γ[i]? = some (some (.val (.obj f))))
    (hdb : (x == ("__debug__" : Str)) = false := by decide) (hcd : (x == ("__classdict__" : Str)) = false := by decide)
    (hst : starEach (e :: es) X.env = (false, eval e X.env) :: starEach es X.env := by rfl) (hpl : (backTo pos (starEach es X.env)).any (·.1) = false := by rfl) :
    WE X F (.Call (.Name x p) (e :: es) [] pos) Γ Φ := by
  obtain ⟨E, tk, hE⟩ := R.ex
  obtain ⟨fd, FO, hk, hb⟩ := g.ex
  intro B τ H st Q q
  obtain ⟨v0, ev0, rv0⟩ := st.sl i _ h0
  cases rv0
  refine wp_of (pe_callL (i := i) FO (hr.mono hkj) hN hv hk hb .nil (passes_call tk fun _ _ _ _ h => h) pa_wp hdb hcd hst hpl) ⟨ev0, h B τ H st _ fun vs ds B1 Γ1 H1 p n r => ?_⟩
  rw [List.append_nil]
  refine ⟨B1, ds, p.1, fun a o w => ⟨(n.st.bH a o w).1, fun w => w⟩, fun _ w => w.elim, True.intro, r, sp.mono _ _ _ (fun o ho => ?_) p.2⟩
  cases o with
  | ret d => exact fun v B' H' P rr => q v d B' Γ1 H' ho (n.trans (n.st.called (P.up n.st.vH' n.st.g fun a o w => (n.st.bH a o w).2))) rr
  | exc C => exact fun B' H' P => hE C B' H' ho (n.st.pst.chain (P.up n.st.vH' n.st.g fun a o w => (n.st.bH a o w).2) st.vH)
end
end L2.Px
end
section
/-! TM: an own exception class whose __init__ says super().__init__("..") and keeps one field; raise X(e) -/
namespace L2.Px
open PySem PySem.Spec PyProof.Rows
abbrev tmBody (m f : Str) (j : Nat) (p0 p1 p2 p3 p4 p5 p6 p7 p8 p9 : Pos) : List Stmt :=
  [.Expr (.Call (.Attribute (.Call (.Name "super" p0) [] [] p1) "__init__" p2) [.Constant (.str m) j p3] [] p4) p5, .Assign [.Attribute (.Name "self" p6) f p7] (.Name f p8) p9]
/-- what the written part says of such a class -/
structure TmC (P : Program) (K : PySem.W.Frag) (C : Addr) (f : Str) : Prop where
  ox : OexC K C
  ex : ∃ (fI cda cc : Addr) (qual m : Str) (j : Nat) (p0 p1 p2 p3 p4 p5 p6 p7 p8 p9 : Pos) (params : Arguments) (ar : Arg) (scope : Scope) (dV kV doc pm ct oc ccl cl : Value) (an od cdd cld : Option Addr) (osl ccs csl : Array (Option Value)) (vs : Array Value) (file : Str) (tf : Tok),
    PySem.W.findIn K (.ref C) "__init__" = some (some (.ref fI)) ∧ PySem.W.typeIn K (.ref fI) = some (.type "function") ∧
    K.lookup fI = some ⟨oc, od, .func (PySem.W.ksFn "__init__" qual params (tmBody m f j p0 p1 p2 p3 p4 p5 p6 p7 p8 p9) scope dV kV doc pm an (.ref cda) ct cc), osl⟩ ∧ PySem.W.codeIn K (.ref cda) qual = true ∧
    L2.Binds K (PySem.W.ksFn "__init__" qual params (tmBody m f j p0 p1 p2 p3 p4 p5 p6 p7 p8 p9) scope dV kV doc pm an (.ref cda) ct cc) ["self", f] [] ∧
    (params.posonlyargs ++ params.args).head? = some ar ∧ ar.arg = "self" ∧ K.lookup cda = some ⟨ccl, cdd, .fields vs, ccs⟩ ∧ vs[2]? = some (.str file tf) ∧ ((P.main.file : Str) == file) = true ∧
    K.lookup cc = some ⟨cl, cld, .cell (some (.ref C)), csl⟩ ∧ scope.names.lookup ("super" : Str) = some .globalImplicit ∧ scope.names.lookup ("__class__" : Str) = some .free ∧ scope.names.lookup ("self" : Str) = some .local ∧ scope.names.lookup f = some .local ∧
    scope.kind = .function ∧ (∀ x ∈ scope.names, x.2 ≠ .cell) ∧ scope.isCoroutine = false ∧ scope.isGenerator = false ∧
    (∀ env : Env, ∃ pl : Sem Bool, eval (.Call (.Attribute (.Call (.Name "super" p0) [] [] p1) "__init__" p2) [.Constant (.str m) j p3] [] p4) env = (do
      let ov ← attributeBase (.Call (.Name "super" p0) [] [] p1) "__init__" env (eval (.Call (.Name "super" p0) [] [] p1) env)
      standAt p2.atName
      let (f, first) ← holding [ov] (getMethod ov "__init__" pl)
      callWith p4 f first (backTo p4 (starEach [.Constant (.str m) j p3] env)) []))
  sub : PySem.W.mroIn K C (.ref C) = some true
  al : PySem.W.ks_superIn K C C "__init__" = some (some (.builtin "ValueError.__init__"))
  op : PySem.W.nsIn K cStatics "thirdparty.any" = some none
  su : PySem.W.subIn K (.ref C) (.type "ValueError") = some true
  no : PySem.W.findIn K (.ref C) f = some none
  tp : (P.main.scope.names.lookup ("super" : Str)).isSome = false
  fs : (f == ("__debug__" : Str)) = false
  fx : f ≠ "self"
theorem tm_run {P : Program} {w : World} {K : PySem.W.Frag} {mg : Str → Option Value} {base : Heap} {A : Around} {outer : List Env} {H : Hp} {C fI x t0 : Addr} {f : Str} {v : Value} {R : Result → Shared → Prop} {hp : Heap} {g : Array GenState} {d : Drawn} {t : Nat} {os : OsState}
    (T : TmC P K C f) (e0 : Env0 P w K mg base A outer ⟨hp, g, d, t, os⟩ H) (hd : A.depth < recursionLimit) (hx : hp.get? x = some (PySem.HandSPX.excO C t0)) (hsu : mg "super" = none) (hxb : base.get? x = none)
    (iC : PySem.W.findIn K (.ref C) "__init__" = some (some (.ref fI)))
    (q : ∀ h' tk dx t1, (∀ b o, b ≠ x → hp.get? b = some o → h'.get? b = some o) → hp.objs.size ≤ dx → dx ≠ x → h'.get? x = some { cls := .ref C, dict := some dx, data := .fields #[.ref t1, .none, .none, .none, .bool false, .none] } →
      h'.Ns1 dx (fun y => if y = f then some v else none) → R (.ok (.ret .none)) ⟨h', g, d, tk, os⟩) :
    codeAny (model P w) A (.call (.ref fI) ⟨[.ref x, v], []⟩) R ⟨hp, g, d, t, os⟩ := by
  obtain ⟨fI', cda, cc, qual, m, j, p0, p1, p2, p3, p4, p5, p6, p7, p8, p9, params, ar, scope, dV, kV, doc, pm, ct, oc, ccl, cl, an, od, cdd, cld, osl, ccs, csl, vs, file, tf, iC', tI, lk, hcd, bd, hhead, har, hcda, hvs, hfile, hcc, ksu, kcl, kse, kf, hk, hcell, hco, hgen, hev⟩ := T.ex
  rw [iC] at iC'
  cases iC'
  have X : K.In hp := e0.mod.kin.keeps fun b o e => (e0.bs b o e).1
  have lim : hp.NoLimit := e0.mod.nolimit.keeps fun b o e => (e0.bs b o e).1
  have hg : hp.Ns mainGlobals mg := e0.mod.glob.keeps fun b o e => (e0.bs b o e).1
  obtain ⟨mb, hb1, hb2⟩ := e0.mod.blt
  have hb : hp.Ns builtinsNs mb := hb1.keeps fun b o e => (e0.bs b o e).1
  obtain ⟨nm, qn, N, bs, bm, sn, sub, ab, col, dd, k0, k1, k2, k3, k5, hC, hbm⟩ := T.ox.cls
  have hcl : PySem.W.clsIn K C = some { name := nm, bases := bs, mro := .ref C :: bm, ns := N, qualname := qn, hasDict := true, slotNames := sn, subclasses := sub, abstract := ab, collection := col, hasDel := false } := by unfold PySem.W.clsIn; rw [hC] <;> rfl
  refine PySem.ks_codeAny_call_defAt (fd := PySem.W.ksFn "__init__" qual params (tmBody m f j p0 p1 p2 p3 p4 p5 p6 p7 p8 p9) scope dV kV doc pm an (.ref cda) ct cc) (body := tmBody m f j p0 p1 p2 p3 p4 p5 p6 p7 p8 p9) (binds := (["self", f] : List Str).zip ([.ref x, v] ++ []))
    hd (X _ _ lk) rfl lim (PySem.W.codeRec_of X hcd) rfl (bd _ [.ref x, v] X rfl) hcell (fun y hy => ?_) (fun h0 hns hk0 => ?_) hco hgen hk
  · rcases List.mem_cons.mp hy with rfl | hy
    · exact kse
    · rcases List.mem_cons.mp hy with rfl | hy
      · exact kf
      · cases hy
  have X0 : K.In h0 := X.keeps hk0
  have v1 : (([("self", Value.ref x), (f, v)] : List (Str × Value)).reverse.lookup ("self" : Str)) = some (Value.ref x) := by
    show ([(f, v), ("self", Value.ref x)] : List (Str × Value)).lookup ("self" : Str) = _
    have e : (("self" : Str) == f) = false := by simpa using Ne.symm T.fx
    simp [List.lookup, e]
  have v2 : (([("self", Value.ref x), (f, v)] : List (Str × Value)).reverse.lookup f) = some v := by
    show ([(f, v), ("self", Value.ref x)] : List (Str × Value)).lookup f = _
    simp [List.lookup]
  have hx0 := hk0 _ _ hx
  have I0 : PySem.W.InstAt h0 x (PySem.HandSPX.excO C t0) C none := ⟨hx0, rfl, rfl, trivial⟩
  have hD1 := X0 _ _ hC
  obtain ⟨pl, he⟩ := hev (callEnv (PySem.W.ksFn "__init__" qual params (tmBody m f j p0 p1 p2 p3 p4 p5 p6 p7 p8 p9) scope dV kV doc pm an (.ref cda) ct cc) hp.objs.size fI)
  refine PySem.ks_wpAt_execs_cons (PySem.ks_wpAt_Expr_any (PySem.ks_wpAt_MethodCall (he := he) ?_) ?hi ?hs)
  case hi =>
    show (scope.kind == .module && _) = false
    rw [hk]
    rfl
  case hs => rfl
  refine PySem.ks_wpAt_super_base (env := callEnv (PySem.W.ksFn "__init__" qual params (tmBody m f j p0 p1 p2 p3 p4 p5 p6 p7 p8 p9) scope dV kV doc pm an (.ref cda) ct cc) hp.objs.size fI) ksu kcl rfl rfl (X0 _ _ lk) rfl hhead rfl (X0 _ _ hcda) rfl hvs hfile T.tp ?_
  refine PySem.W.ks_loadName_global hk ksu (Calls.loadGlobal_builtin (hg.keeps hk0) hsu (hb.keeps hk0) ((hb2 _ (by decide)).trans (by decide +kernel)) ⟨rfl, ?_⟩)
  refine wpAny_loadName_free hk kcl rfl ⟨_, X0 _ _ hcc, rfl⟩ ?_
  rw [har]
  refine wpAny_loadName_local hk kse hns v1 ?_
  refine PySem.ks_wpAny_isType_cls hD1 rfl ⟨rfl, ?_⟩
  refine PySem.ks_wpAny_call_super hD1 rfl hx0 rfl (fun c e => nomatch e) (PySem.W.looks_mroIn X0 T.sub) (fun h1 hso k1 => ?_)
  have X1 : K.In h1 := X0.keeps k1
  have hx1 := k1 _ _ hx0
  have I1 : PySem.W.InstAt h1 x (PySem.HandSPX.excO C t0) C none := ⟨hx1, rfl, rfl, trivial⟩
  have hm : PySem.W.alongIn K "__init__" (((.ref C :: bm : List Value).dropWhile (· != .ref C)).drop 1) = some (some (.builtin "ValueError.__init__")) := by
    have z := T.al
    unfold PySem.W.ks_superIn at z
    rw [hcl] at z
    exact z
  refine PySem.W.kxs_getMethod PySem.W.kxs_ValueError hso (PySem.W.looks_opaque X1 T.op) (l₀ := .ref C :: bm) (fun A Q E s k z => wpAny_bind ((PySem.W.looks_clsIn X1 hcl) A _ E s k (wpAny_pure z))) rfl X1 hm
    (I1.type.andThen (PySem.W.looks_subIn X1 T.su)) (PySem.W.ks_ne X1 I1 hcl) rfl ?_
  have k2 : ∀ b o, h1.get? b = some o → (h1.push (PySem.W.kxs_mw "ValueError.__init__" x)).get? b = some o := fun b o e => Heap.get?_push_of_some _ e
  have hu : (h1.push (PySem.W.kxs_mw "ValueError.__init__" x)).get? h1.objs.size = some (PySem.W.kxs_mw "ValueError.__init__" x) := Heap.get?_push_at rfl rfl
  show wpAny _ _ (callWith p4 (.ref h1.objs.size) [] (backTo p4 (starEach [.Constant (.str m) j p3] _)) []) _ _ _
  have hse : ∀ env : Env, starEach [.Constant (.str m) j p3] env = (false, eval (.Constant (.str m) j p3) env) :: starEach [] env := fun _ => rfl
  rw [hse]
  refine PySem.W.kxs_callWith (i := "ValueError.__init__") (x := x) rfl (Calls.evalArgs_plain (Calls.spliced_cons (Calls.Constant_str (k := j) (pos := p3) (Calls.spliced_nil ⟨hu, ?_⟩))))
  have hx2 := k2 _ _ hx1
  have X2 : K.In (h1.push (PySem.W.kxs_mw "ValueError.__init__" x)) := X1.keeps k2
  have FB := F.excBase_ValueError
  refine wpAny_call (codeAny_of_tree ?_)
  show wpAny _ _ (callAny (.ref h1.objs.size) ⟨[.str m _], []⟩) _ _ _
  simp only [callAny]
  refine wpAny_bind (wpAny_load hu ?_)
  simp only [PySem.W.kxs_mw, show (Value.type "method-wrapper" == Value.type "method" || Value.type "method-wrapper" == Value.type "builtin_function_or_method" || Value.type "method-wrapper" == Value.type "method-wrapper") = true by decide, if_true]
  refine PySem.W.KFB.if_so (by decide) ?_
  refine wpAny_bind (PySem.W.check_bound_init FB.toExcCallFacts (X2 _ _ hC) hx2 rfl ?_)
  refine wpAny_bind (wpAny_pure (wpAny_pure ?_))
  refine ⟨plainId_quiet FB.init.plain _, codeAny_builtin FB.initEntry ?_⟩
  refine PySem.W.exc_init_tree (cls := .ref C) (t0 := t0) (dv := none) (c2 := .none) (c3 := .none) (b4 := .bool false) hx2 (by show 1 ≤ sizeLine; decide) (fun h3 k3 hx3 _ => ?_)
  have neL : hp.objs.size ≠ x := Nat.ne_of_gt (Heap.lt_size hx)
  have hns3 : h3.Ns hp.objs.size (fun y => ((["self", f] : List Str).zip ([.ref x, v] ++ [])).reverse.lookup y) := by
    obtain ⟨oL, es, ep, hL, r⟩ := hns
    exact ⟨oL, es, ep, k3 _ _ neL (k2 _ _ (k1 _ _ hL)), r⟩
  have kp3 : ∀ b o, b ≠ x → hp.get? b = some o → h3.get? b = some o := fun b o hb e => k3 _ _ hb (k2 _ _ (k1 _ _ (hk0 _ _ e)))
  have X3 : K.In h3 := fun b o e => by
    have hb : b ≠ x := fun z => by
      have e1 := e0.mod.kin _ _ e
      rw [z, hxb] at e1
      cases e1
    exact kp3 _ _ hb (X _ _ e)
  show PySem.wpAt _ _ _ (execs [.Assign [.Attribute (.Name "self" p6) f p7] (.Name f p8) p9] _) _ _ _
  refine PySem.ks_wpAt_execs_cons (wpAt_of_wpAny (plainObj_wpAny_Assign_Attribute (wpAny_Name (wpAny_loadName_local hk kf hns3 v2 ?_) T.fs) rfl))
  refine wpAny_Name (wpAny_loadName_local hk kse hns3 v1 ?_) (by decide)
  refine PySem.W.set_plain X3 (od := none) ⟨hx3, rfl, rfl, trivial⟩ T.ox.sa ?_
  refine PySem.HandSPX.exc_osa X3 hx3 hcl (show PySem.HandSPX.refsVE (.ref C :: bm) = true from hbm) rfl T.no (fun h4 tk4 dx k4 dn dne hx4 hns4 => ?_)
  have kx : ∀ b o, b ≠ x → hp.get? b = some o → h4.get? b = some o := fun b o hb e => k4 _ _ hb (kp3 _ _ hb e)
  have sz : hp.objs.size ≤ h3.objs.size := by
    obtain ⟨oL, _, _, hL, _⟩ := hns3
    exact Nat.le_of_lt (Heap.lt_size hL)
  show PySem.wpAt _ _ _ (execs [] _) _ _ _
  exact wpAt_of_wpAny (wpAny_execs_nil (q h4 _ dx _ kx (Nat.le_trans sz dn) dne hx4 hns4))
theorem TmC.init {P : Program} {K : PySem.W.Frag} {C : Addr} {f : Str} (T : TmC P K C f) : ∃ fI, PySem.W.findIn K (.ref C) "__init__" = some (some (.ref fI)) ∧ PySem.W.typeIn K (.ref fI) = some (.type "function") := by
  obtain ⟨fI, cda, cc, qual, m, j, p0, p1, p2, p3, p4, p5, p6, p7, p8, p9, params, ar, scope, dV, kV, doc, pm, ct, oc, ccl, cl, an, od, cdd, cld, osl, ccs, csl, vs, file, tf, iC', tI, _⟩ := T.ex
  exact ⟨fI, iC', tI⟩
section
variable {X : Cx}
/-- X(e), as an exception that is raised: its dict holds the field alone -/
theorem pmk_tm {x f : Str} {C : Addr} {e : Expr} {te : TE} {p pos : Pos} (T : TmC X.prog X.K C f) (hsu : X.mg "super" = none) (hr : Room 1 X.A) (kC : PySem.W.keepIn X.K (.ref C) = true) (hg : Gl X x) (hm : X.mg x = some (.ref C)) (he : PE X e te)
    (hdb : (x == ("__debug__" : Str)) = false := by decide) (hst : starEach [e] X.env = (false, eval e X.env) :: starEach [] X.env := by rfl) :
    PMk X (.Call (.Name x p) [e] [] pos) (fun σ H Q => te σ H fun v H1 => ∀ d, H1 d = none → Q (.ref C) (some d) (upd H1 d (.xd [(f, v)]))) := by
  intro pins s σ H Q I h
  obtain ⟨nm, qn, N, bs, bm, sn, sub, ab, col, dd, k0, k1, k2, k3, k5, hC, hbm⟩ := T.ox.cls
  obtain ⟨fI, iC, tI⟩ := T.init
  refine wpAny_Call_Name_kw (ld_glob I hg hm ?_ hdb)
  refine PySem.W.callWith_K (h₀ := X.base) I.ok.mod.kin kC ?_ hst (by rfl)
  rw [hst]
  show wpAny _ _ (spliced ((false, eval e X.env) :: backTo pos (starEach [] X.env))) _ _ s
  refine Calls.spliced_cons (thn (he.run pins s σ H _ I h) fun u s1 ⟨v, H1, I1, r1, q1⟩ => ?_)
  refine Calls.spliced_nil ⟨I1.kIn, ?_⟩
  show wpAny _ _ (call (.ref C) [u]) _ _ _
  obtain ⟨hp, g, dr, tk, os⟩ := s1
  have hsz : hp.objs.size ≤ hp.objs.size + 1 := Nat.le_succ _
  have hn : H1 (hp.objs.size + 1) = none := I1.hok.fresh hsz
  have kk : ∀ b o, hp.get? b = some o → ((hp.push (PySem.W.kdv_tup [u])).push (PySem.HandSPX.excO C hp.objs.size)).get? b = some o := fun b o e => Heap.get?_push_of_some _ (Heap.get?_push_of_some _ e)
  have hget : ((hp.push (PySem.W.kdv_tup [u])).push (PySem.HandSPX.excO C hp.objs.size)).get? (hp.objs.size + 1) = some (PySem.HandSPX.excO C hp.objs.size) := by heap_get
  have I2 : Inv X pins σ (upd H1 (hp.objs.size + 1) (exo (hp.objs.size + 1) C none)) ⟨(hp.push (PySem.W.kdv_tup [u])).push (PySem.HandSPX.excO C hp.objs.size), g, dr, tk, os⟩ :=
    I1.laid (t' := tk) (a := hp.objs.size + 1) (o := exo (hp.objs.size + 1) C none) (h' := (hp.push (PySem.W.kdv_tup [u])).push (PySem.HandSPX.excO C hp.objs.size)) kk hsz (exo_ok hget)
  have hbase : X.base.get? (hp.objs.size + 1) = none := by
    cases eb : X.base.get? (hp.objs.size + 1) with
    | none => rfl
    | some o =>
      have z := (I2.env0.bs _ _ eb).2
      rw [upd_same] at z
      cases z
  refine wpAny_call (PySem.HandSPX.call_own F.excBase_ValueError (fun Y => PySem.HandSPX.refsVE_contains Y bm hbm) (I1.kIn _ _ hC) (PySem.W.looks_findIn I1.kIn iC) (fun self => PySem.W.bind_fn I1.kIn self tI) (by show 1 ≤ sizeLine; decide)
    (tm_run (v := u) T (I2.env0.make C [u] []) (hr.make C [u] []).depth hget hsu hbase iC (fun h' tk' dx t1 k hd hne hx hns => ⟨rfl, ?_⟩)))
  have hn2 : upd H1 (hp.objs.size + 1) (exo (hp.objs.size + 1) C none) dx = none := I2.hok.fresh hd
  have hnd : H1 dx = none := by
    rw [upd_ne hne] at hn2
    exact hn2
  have e0 : upd H1 (hp.objs.size + 1) (exo (hp.objs.size + 1) C none) (hp.objs.size + 1) = some (exo (hp.objs.size + 1) C none) := upd_same
  have na : ∀ {b : Addr}, upd H1 (hp.objs.size + 1) (exo (hp.objs.size + 1) C none) b = none → b ≠ hp.objs.size + 1 := fun {b} n z => by
    rw [z, e0] at n
    cases n
  have nd : ∀ {b : Addr} {o : Obj}, ((hp.push (PySem.W.kdv_tup [u])).push (PySem.HandSPX.excO C hp.objs.size)).get? b = some o → b ≠ dx := fun {b o} z => Nat.ne_of_lt (Nat.lt_of_lt_of_le (Heap.lt_size z) hd)
  have Un1 : Un (frs X.stack) [] (upd H1 (hp.objs.size + 1) (exo (hp.objs.size + 1) C none)) (upd (upd (upd H1 (hp.objs.size + 1) (exo (hp.objs.size + 1) C none)) dx (exd dx [(f, v)])) (hp.objs.size + 1) (exo (hp.objs.size + 1) C (some dx))) ((hp.push (PySem.W.kdv_tup [u])).push (PySem.HandSPX.excO C hp.objs.size)) h' := {
    keep := fun b o z n _ _ => k b o (na n) z
    slot := fun b o z n _ _ => ⟨o.slots, k b o (na n) z⟩
    free := fun b o z n _ => by rw [upd_ne (na n), upd_ne (nd z)]; exact n
    there := fun b o z _ => by
      by_cases hb : b = hp.objs.size + 1
      · exact ⟨_, by rw [hb]; exact hx⟩
      · exact ⟨o, k b o hb z⟩
    tups := fun b xs z => by rw [upd_ne (at_ne e0 z exo_tup), upd_ne (ne_of_none z hn2)]; exact z
    frzs := fun b o v z => by rw [upd_ne (at_ne e0 z exo_frz), upd_ne (ne_of_none z hn2)]; exact z
    tbls := fun b ps z => ⟨#[], by rw [upd_ne (at_ne e0 z exo_tbl), upd_ne (ne_of_none z hn2), z]; simp⟩ }
  have hok2 : HOk X.prog X.w (upd (upd (upd H1 (hp.objs.size + 1) (exo (hp.objs.size + 1) C none)) dx (exd dx [(f, v)])) (hp.objs.size + 1) (exo (hp.objs.size + 1) C (some dx))) h' := fun b o z => by
    by_cases hb : b = hp.objs.size + 1
    · subst hb
      rw [upd_same] at z
      cases z
      exact exo_ok hx
    · rw [upd_ne hb] at z
      by_cases hdx : b = dx
      · subst hdx
        rw [upd_same] at z
        cases z
        exact exd_ok hns (relO_put (fs := []) r1 fun g => True.intro)
      · rw [upd_ne hdx] at z
        exact (I2.hok b o z).stay (fun c v hc z => k c v (by
            rcases hc with hc | hc
            · rw [hc]
              exact hb
            · exact at_ne e0 hc exo_own) z)
          (fun c hc => by rw [upd_ne (at_ne e0 hc exo_own), upd_ne (ne_of_none hc hn2)]; exact hc) (fun c xs hc => by rw [upd_ne (at_ne e0 hc exo_tup), upd_ne (ne_of_none hc hn2)]; exact hc)
  have ea2 : (upd (upd (upd H1 (hp.objs.size + 1) (exo (hp.objs.size + 1) C none)) dx (exd dx [(f, v)])) (hp.objs.size + 1) (exo (hp.objs.size + 1) C (some dx))) (hp.objs.size + 1) = some (exo (hp.objs.size + 1) C (some dx)) := upd_same
  have ed2 : (upd (upd (upd H1 (hp.objs.size + 1) (exo (hp.objs.size + 1) C none)) dx (exd dx [(f, v)])) (hp.objs.size + 1) (exo (hp.objs.size + 1) C (some dx))) dx = some (exd dx [(f, v)]) := by
    rw [upd_ne hne, upd_same]
  have eq : upd (del (upd (upd (upd H1 (hp.objs.size + 1) (exo (hp.objs.size + 1) C none)) dx (exd dx [(f, v)])) (hp.objs.size + 1) (exo (hp.objs.size + 1) C (some dx))) (hp.objs.size + 1)) dx (.xd [(f, v)]) = upd H1 dx (.xd [(f, v)]) := by
    funext b
    by_cases hdx : b = dx
    · subst hdx
      rw [upd_same, upd_same]
    · rw [upd_ne hdx, upd_ne hdx]
      by_cases hb : b = hp.objs.size + 1
      · rw [hb, del_same, hn]
      · rw [del_ne hb, upd_ne hb, upd_ne hdx, upd_ne hb]
  exact mk_end (raises_own T.ox.exC T.ox.tyC) I1 hsz kk Un1 hok2 rfl I1.bare ea2 ed2 hnd (by rw [eq]; exact q1 dx hnd)
end
end L2.Px
end
section
/-! KM: TooMany; closed, _law_is_too_many -/
namespace L2.Px
open PySem PySem.Spec
open PyProof.Rows
variable [Wld]
local macro_rules | `(tactic| walk_at "vis") => `(tactic| first | exact .inl rfl | exact .inr (.inl rfl) | exact .inr (.inr rfl))
local macro_rules | `(tactic| walk_at "n") => `(tactic| first
  | refine we_name (i := 0) rfl (by walk_at "vis") rfl ?_
  | refine we_name (i := 1) rfl (by walk_at "vis") rfl ?_
  | refine we_name (i := 2) rfl (by walk_at "vis") rfl ?_
  | refine we_name (i := 3) rfl (by walk_at "vis") rfl ?_
  | refine we_name (i := 4) rfl (by walk_at "vis") rfl ?_
  | refine we_name (i := 5) rfl (by walk_at "vis") rfl ?_
  | refine we_name (i := 6) rfl (by walk_at "vis") rfl ?_
  | refine we_name (i := 7) rfl (by walk_at "vis") rfl ?_
  | refine we_name (i := 8) rfl (by walk_at "vis") rfl ?_
  | refine we_name (i := 9) rfl (by walk_at "vis") rfl ?_)
local macro_rules | `(tactic| walk_at "e1") => `(tactic| first
  | ((with_reducible show (if _ then _ else _)); first | refine itT ?_ | refine itF ?_)
  | ((with_reducible show WE _ _ (.Name _ _) _ _); walk_at "n")
  | ((with_reducible show WE _ _ (.Constant (.int _) _ _) _ _); refine we_int ?_)
  | ((with_reducible show WE _ _ (.Constant (.str _) _ _) _ _); refine we_str ?_)
  | ((with_reducible show WE _ _ (.Constant (.bool _) _ _) _ _); refine we_bl ?_)
  | ((with_reducible show WE _ _ (.Constant .none _ _) _ _); refine we_non ?_)
  | ((with_reducible show WA _ _ (_ :: _) _ _); refine wa_cons ?_)
  | ((with_reducible show WA _ _ [] _ _); refine wa_nil ?_)
  | ((with_reducible show WE _ _ (.BoolOp _ [_] _) _ _); refine we_one ?_)
  | ((with_reducible show WE _ _ (.BoolOp .And _ _) _ _); refine we_and ?_)
  | ((with_reducible show WE _ _ (.BoolOp .Or _ _) _ _); refine we_or ?_)
  | ((with_reducible show WE _ _ (.UnaryOp .Not _ _) _ _); refine we_not ?_)
  | ((with_reducible show WE _ _ (.IfExp _ _ _ _) _ _); refine we_ifExp ?_)
  | ((with_reducible show WE _ _ (.Tuple _ _ _) _ _); refine we_tup ?_)
  | ((with_reducible show WE _ _ (.List _ _) _ _); refine we_lst ?_)
  | ((with_reducible show WE _ _ (.BinOp _ .Add _ _) _ _); refine we_add ?_)
  | ((with_reducible show WE _ _ (.BinOp _ .Sub _ _) _ _); refine we_sub ?_)
  | ((with_reducible show WE _ _ (.BinOp _ .Mult _ _) _ _); refine we_mul ?_)
  | ((with_reducible show WE _ _ (.BinOp _ .Mod _ _) _ _); refine we_mod ?_)
  | ((with_reducible show WE _ _ (.BinOp _ .FloorDiv _ _) _ _); refine we_fdiv ?_)
  | ((with_reducible show WE _ _ (.BinOp _ .Pow _ _) _ _); refine we_pow ?_)
  | ((with_reducible show WT _ _ (.UnaryOp .Not _ _) _ _); refine wt_not ?_)
  | ((with_reducible show WT _ _ (.BoolOp .And _ _) _ _); refine wt_ww (ww_and ?_))
  | ((with_reducible show WT _ _ (.BoolOp .Or _ _) _ _); refine wt_ww (ww_or ?_))
  | ((with_reducible show WW _ _ (.BoolOp .And [_] _) _ _); refine ww_and1 ?_)
  | ((with_reducible show WW _ _ (.BoolOp .Or [_] _) _ _); refine ww_or1 ?_)
  | ((with_reducible show WW _ _ (.BoolOp .And _ _) _ _); refine ww_and ?_)
  | ((with_reducible show WW _ _ (.BoolOp .Or _ _) _ _); refine ww_or ?_)
  | ((with_reducible show WSs _ _ (_ :: _) _ _); refine ws_cons ?_)
  | ((with_reducible show WSs _ _ [] _ _); refine ws_nil ?_)
  | ((with_reducible show WS _ _ (.Return (some _) _) _ _); refine ws_ret ?_)
  | ((with_reducible show WS _ _ (.If _ _ _ _) _ _); refine ws_if ?_)
  | ((with_reducible show WT _ _ (.Call _ _ _ _) _ _); refine wt_val ?_)
  | ((with_reducible show WT _ _ (.Name _ _) _ _); refine wt_val ?_))
local macro_rules | `(tactic| walk_at "e") => `(tactic| repeat' walk_at "e1")
section
variable {X : Cx} {F : Fm} {Γ : Gam} {Φ : D → Gam → Prop} {ed : ED}
/-- raise X(e), a class with one field -/
theorem ws_raiseN [F.c.Ok] {EX : EC → Prop} {x f : Str} {C : Addr} {e : Expr} {p pos pos2 : Pos} (hc : X.calm = true) (R : Rs X F EX) (T : TmC X.prog X.K C f) (hsu : X.mg "super" = none) (hr : Room 1 X.A) (kC : PySem.W.keepIn X.K (.ref C) = true) (hm : X.mg x = some (.ref C)) (hg : Gl X x)
    (h : WE X F e Γ fun d Γ1 => ∃ n, d = .int n ∧ EX (.fd C f n)) (hdb : (x == ("__debug__" : Str)) = false := by decide) (hst : starEach [e] X.env = (false, eval e X.env) :: starEach [] X.env := by rfl) :
    WS X F (.Raise (some (.Call (.Name x p) [e] [] pos)) none pos2) Γ ed := by
  intro B τ H sh D l
  obtain ⟨E, tk, hE⟩ := R.ex
  refine wps_of (ps_raise hc tk (pmk_tm T hsu hr kC hg hm pe_wp hdb hst)) (h B τ H sh _ fun v d B1 Γ1 H1 p n r => ?_)
  obtain ⟨i, rfl, p⟩ := p
  cases r
  intro dd hdd
  have n2 := n.st.frozen (o := .xd [(f, .int i)]) hdd
  exact hE (.fd C f i) _ _ p n2.st.pst dd upd_same
/-- isinstance(e, (list, tuple)) -/
theorem we_isiLT [F.c.Ok] {e : Expr} {p p1 p2 p3 pos : Pos} {k : Nat} (hg : Gl X "isinstance") (hm : X.mg "isinstance" = none) (gl : Gl X "list") (ml : X.mg "list" = none) (gt : Gl X "tuple") (mt : X.mg "tuple" = none)
    (h : WE X F e Γ fun d Γ1 => d.plainTy = true ∧ d.isDix = false ∧ Φ (.bl (d.isLst || d.isTup)) Γ1)
    (h1 : starEach (e :: [.Tuple [.Name "list" p1, .Name "tuple" p2] k p3]) X.env = (false, eval e X.env) :: starEach [.Tuple [.Name "list" p1, .Name "tuple" p2] k p3] X.env := by rfl)
    (hpl : (backTo pos (starEach [.Tuple [.Name "list" p1, .Name "tuple" p2] k p3] X.env)).any (·.1) = false := by rfl) :
    WE X F (.Call (.Name "isinstance" p) [e, .Tuple [.Name "list" p1, .Name "tuple" p2] k p3] [] pos) Γ Φ := by
  intro B τ H sh Q qw
  refine wp_of (pe_callB call_isiT hg hm bb_isinstance (pa_cons pe_wp (pa_cons (pe_tup (pa_cons (pe_bltn (v := .ty "list") gl ml bb_list rfl (by decide)) (pa_cons (pe_bltn (v := .ty "tuple") gt mt bb_tuple rfl (by decide)) pa_nil rfl) rfl)) pa_nil rfl) h1) (by decide) (by decide) h1 hpl)
    (h B τ H sh _ fun v d B1 Γ1 H1 p n r => ⟨(show 2 ≤ sizeLine by decide), fun a ha => ?_⟩)
  obtain ⟨p, px, hp⟩ := p
  have n2 := n.st.frozen (o := .tup [.ty "list", .ty "tuple"]) ha
  refine ⟨v, a, _, .type d.tyN, [.type "list", .type "tuple"], d.isLst || d.isTup, rfl, upd_same, .cons (.ty _) (.cons (.ty _) .nil), ?_, ?_, qw _ _ _ _ _ hp (n.trans n2) (.bl _)⟩
  · exact Rp.tyx p px (Rp.mono (fun b o zw => (n2.st.bH b o zw).1) _ _ (Rp.mono n2.ex _ _ r))
  · refine kitAny_cons (kit_lst p) (fun e => ?_) (fun e => by rw [e]; rfl)
    rw [e]
    exact kitAny_cons (kit_tup p) (fun e => by rw [e]; exact kitAny_nil) (fun e => by rw [e]; rfl)
def D.isNon : D → Bool
  | .non => true
  | _ => false
theorem od_isN {K : PySem.W.Frag} {d : D} {Ψ : D → Prop} (h : Ψ (.bl d.isNon)) : OpD K (fun x y H Q => y = .non ∧ Q (.bl (decide (x = .non))) H) d .non Ψ := by
  intro F _ Γ B τ H v1 v2 sh r1 r2 Q qw
  cases r2
  have e : decide (v1 = V.non) = d.isNon := by cases r1 <;> rfl
  exact ⟨rfl, by rw [e]; exact qw _ _ _ _ h (Nxt.refl sh) (.bl _)⟩
theorem od_notN {K : PySem.W.Frag} {d : D} {Ψ : D → Prop} (h : Ψ (.bl (!d.isNon))) : OpD K (fun x y H Q => y = .non ∧ Q (.bl (!decide (x = .non))) H) d .non Ψ := by
  intro F _ Γ B τ H v1 v2 sh r1 r2 Q qw
  cases r2
  have e : decide (v1 = V.non) = d.isNon := by cases r1 <;> rfl
  exact ⟨rfl, by rw [e]; exact qw _ _ _ _ h (Nxt.refl sh) (.bl _)⟩
end
/-- TooMany -/
structure Em (P : Program) (K : PySem.W.Frag) (mg : Str → Option Value) (C : Addr) : Prop where
  t : TmC P K C "most"
  g : mg "TooMany" = some (.ref C)
  k : PySem.W.keepIn K (.ref C) = true
  su : mg "super" = none
def D.seq? : D → Option (List D)
  | .lst xs => some xs
  | .tup xs => some xs
  | _ => none
/-- what closed is asked with -/
def D.okMs (d : D) : Prop := (d.plainTy = true ∧ d.isDix = false) ∧ ∀ xs, (d = .lst xs ∨ d = .tup xs) → xs.length ≤ 1000 ∧ ∀ x ∈ xs, x.okT
structure ClO (ad : Ad) (p d : D) (k : Out → Prop) : Prop where
  h1 : p.okPl = false → k (.exc ad.places)
  h2 : p.okPl = true → (d.isLst || d.isTup) = false → k (.exc ad.members)
  h3 : ∀ xs, p.okPl = true → (d = .lst xs ∨ d = .tup xs) → 60 < xs.length → k (.exc ad.members)
  h4 : ∀ (n : Nat) xs, p = .int n → 1 ≤ n → n ≤ 5 → (d = .lst xs ∨ d = .tup xs) → xs.length ≤ 60 → (xs.all fun y => y.memb n) = false → k (.exc ad.members)
  h5 : ∀ (n : Nat) ms L, p = .int n → 1 ≤ n → n ≤ 5 → (d = .lst (perms ms) ∨ d = .tup (perms ms)) → ms.length ≤ 60 → (∀ m ∈ ms, Pm n m) → Cls n ms L → k (if L.length ≤ 60 then .ret (.tup (perms L)) else .exc (.fd ad.many "most" 60))
def spClosed (ad : Ad) : DS := ⟨fun ds k => ∃ (p d : D), ds = [p, d] ∧ p.plainTy = true ∧ d.okMs ∧ ClO ad p d k,
  fun _ _ _ i ⟨p, d, e, a, b, c⟩ => ⟨p, d, e, a, b, fun z => i _ (c.h1 z), fun y z => i _ (c.h2 y z), fun xs y z u => i _ (c.h3 xs y z u), fun n xs a b c2 d e f => i _ (c.h4 n xs a b c2 d e f), fun n ms L a b c2 d e f g => i _ (c.h5 n ms L a b c2 d e f g)⟩⟩
section
variable {P : Program} {w : World} {K : PySem.W.Frag} {mg : Str → Option Value} {base : Heap}
abbrev sClosed : Stmt := top 22
theorem sc_closed : FnScope ["places", "members", "member", "found"] ["places", "members"] (defScope sClosed) := ⟨rfl, rfl, rfl, by decide +kernel, rfl, by decide +kernel, by decide +kernel⟩
theorem ok_closed {ad : Ad} {f : Addr} {fd : FuncData} (Fn : Fun K "closed" "closed" sClosed f fd) (T : Tx mg) (Z : Er K mg ad) (M : Em P K mg ad.many) (m60 : ∃ t, mg "MOST_MEMBERS" = some (.int 60 t)) (g1 : Gd P w K mg base "need_places" 2 c0 ["places"] (spNeedPlaces ad))
    (g2 : Gd P w K mg base "is_member_of" 3 c0 ["places", "thing"] spIsMemberOf) (g3 : Gd P w K mg base "closed_by" 2 c0 ["places", "members"] spClosedBy) : FnOk P w K mg base (L2.CX P w) 4 f fd ["places", "members"] (SpD K c0 2 (spClosed ad)) := by
  refine defn (k := 3) (ps := ["places", "members"]) Fn sc_closed fun cdv A outer sh H E hr H0 B0 ds Φ hlw h R => ?_
  obtain ⟨p, d, rfl, pp, ⟨pd, hd⟩, c⟩ := h
  obtain ⟨t60, m60⟩ := m60
  refine ws_cons ?_
  refine ws_expr ?_
  refine we_call R (g1.dfn hr (by decide)) rfl ?_
  walk_at "e"
  refine ⟨rfl, p, rfl, pp, ?_⟩
  cases ep : p.okPl with
  | false =>
    rw [if_neg (by decide)]
    exact c.h1 ep
  | true =>
  rw [if_pos rfl]
  show WSs _ _ _ _ _
  obtain ⟨n, rfl, h1, h5⟩ : ∃ n : Nat, p = .int n ∧ 1 ≤ n ∧ n ≤ 5 := by
    cases p with
    | int i =>
      have q : (decide (1 ≤ i) && decide (i ≤ 5)) = true := ep
      simp only [Bool.and_eq_true, decide_eq_true_eq] at q
      exact ⟨i.toNat, by rw [Int.toNat_of_nonneg (by omega)], by omega, by omega⟩
    | _ => cases ep
  refine ws_cons ?_
  walk_at "e"
  refine we_isiLT rfl T.isinstance rfl T.list rfl T.tuple ?_
  walk_at "e"
  refine ⟨pd.1, pd.2, ?_⟩
  have seq : (d.isLst || d.isTup) = true → ∃ xs, d = .lst xs ∨ d = .tup xs := fun z => by
    cases d with
    | lst xs => exact ⟨xs, .inl rfl⟩
    | tup xs => exact ⟨xs, .inr rfl⟩
    | _ => cases z
  cases es : (d.isLst || d.isTup) with
  | false =>
    refine ⟨_, rfl, ?_⟩
    walk_at "e"
    exact ws_raise rfl R Z.members.exn rfl (c.h2 ep es)
  | true =>
  obtain ⟨xs, hxs⟩ := seq es
  obtain ⟨hl, hk⟩ := hd xs hxs
  refine ⟨_, rfl, ?_⟩
  walk_at "e"
  refine wt_cmp op_gt ?_ rfl
  refine we_callB cr_lenX rfl T.len bb_len ?_
  walk_at "e"
  refine cd_len hxs ?_
  walk_at "e"
  refine we_globI rfl m60 ?_
  refine od_gt ⟨_, rfl, ?_⟩
  by_cases big : (60 : Int) < (xs.length : Int)
  · rw [decide_eq_true big]
    walk_at "e"
    exact ws_raise rfl R Z.members.exn rfl (c.h3 xs ep hxs (by omega))
  rw [decide_eq_false big]
  have l60 : xs.length ≤ 60 := by omega
  walk_at "e"
  refine we_callB (cr_all rfl) rfl T.all bb_all ?_
  walk_at "e"
  refine we_newL (wn_map (i := 2) (fun y => .bl (y.memb n)) rfl sc_closed.nd (blkOk_by (N := ["places", "members", "member", "found"]) (sc := defScope sClosed) (by decide +kernel)) rfl (.inl rfl) (show 2 < 4 by decide) (wi_seqN (i := 1) rfl (by walk_at "vis") rfl hxs ?_))
  refine ⟨(fun od zw => nomatch zw), by omega, rfl, fun j y hjw s1 H1 C1 cl1 fp1 => ?_, ?_⟩
  · refine we_call rs_blk (g2.dfn hr (by decide)) rfl ?_
    walk_at "e"
    exact ⟨rfl, n, y, rfl, hk y (List.mem_of_getElem? hjw), rfl, rfl⟩
  · refine ⟨_, rfl, wa_nil ?_⟩
    have ea1 : xs.map (fun y => D.bl (y.memb n)) = (xs.map (fun y => y.memb n)).map D.bl := by rw [List.map_map]; rfl
    rw [ea1]
    refine cd_all ⟨_, rfl, ?_⟩
    have e2 : (xs.map (fun y => y.memb n)).all id = xs.all (fun y => y.memb n) := by rw [List.all_map]; rfl
    rw [e2]
    cases ea : xs.all (fun y => y.memb n) with
    | false =>
      walk_at "e"
      exact ws_raise rfl R Z.members.exn rfl (c.h4 n xs rfl h1 h5 hxs l60 ea)
    | true =>
      walk_at "e"
      obtain ⟨ms, rfl, pm⟩ := membs_of (List.all_eq_true.mp ea)
      have lm : ms.length ≤ 60 := by rw [perms_len] at l60; exact l60
      refine ws_set (i := 3) sc_closed.nd rfl (.inl rfl) (show 3 < 4 by decide) ?_
      refine we_call R (g3.dfn hr (by decide)) rfl ?_
      walk_at "e"
      refine ⟨rfl, n, ms, d, rfl, hxs, h1, h5, by omega, pm, fun L cL => ?_⟩
      have fin := c.h5 n ms L rfl h1 h5 hxs lm pm cL
      by_cases l : L.length ≤ 60
      · rw [if_pos l] at fin ⊢
        show WSs _ _ _ _ _
        walk_at "e"
        refine wt_cmp op_isN ?_ rfl
        walk_at "e"
        refine od_isN ⟨_, rfl, ?_⟩
        show if false = true then _ else _
        walk_at "e"
        exact fin
      · rw [if_neg l] at fin ⊢
        show WSs _ _ _ _ _
        walk_at "e"
        refine wt_cmp op_isN ?_ rfl
        walk_at "e"
        refine od_isN ⟨_, rfl, ?_⟩
        show if true = true then _ else _
        walk_at "e"
        refine ws_raiseN rfl R M.t M.su (hr.mono (by decide)) M.k M.g rfl ?_
        exact we_globI rfl m60 ⟨60, rfl, fin⟩
/-! ### _law_is_too_many -/
/-- what was caught -/
def D.isMany (C : Addr) : D → Bool
  | .exc (.fd C' _ n) => C' == C && n == 60
  | _ => false
def spTooMany (ad : Ad) : DS := ⟨fun ds k => ∃ (d : D), ds = [d, .int 60] ∧ (d = .non ∨ (∃ n, d = .exc (.fd ad.many "most" n))) ∧ k (.ret (.bl (d.isMany ad.many))), fun _ _ _ i ⟨d, e, p, h⟩ => ⟨d, e, p, i _ h⟩⟩
abbrev sTooMany : Stmt := top 31
theorem sc_too_many : FnScope ["error", "most"] ["error", "most"] (defScope sTooMany) := ⟨rfl, rfl, rfl, by decide +kernel, rfl, by decide +kernel, by decide +kernel⟩
/-- what isinstance and the field say of TooMany -/
structure Tm (K : PySem.W.Frag) (C : Addr) : Prop where
  x : XfC K C
  no : PySem.W.findIn K (.ref C) "most" = some none
  ec : ExcC K C
  yes : PySem.W.kitOne K (.ref C) (.ref C) = some true
  non : PySem.W.kitOne K (.type "NoneType") (.ref C) = some false
theorem ok_too_many {ad : Ad} {f : Addr} {fd : FuncData} (Fn : Fun K "_law_is_too_many" "_law_is_too_many" sTooMany f fd) (T : Tx mg) (M : Tm K ad.many) (g : mg "TooMany" = some (.ref ad.many)) : FnOk P w K mg base (L2.CX P w) 1 f fd ["error", "most"] (SpD K c0 2 (spTooMany ad)) := by
  refine defn (k := 0) (ps := ["error", "most"]) Fn sc_too_many fun cdv A outer sh H E hr H0 B0 ds Φ hlw h R => ?_
  obtain ⟨d, rfl, hd, h⟩ := h
  refine ws_cons ?_
  walk_at "e"
  refine we_callB cr_isB rfl T.isinstance bb_isinstance ?_
  walk_at "e"
  refine we_globO rfl g ?_
  walk_at "e"
  rcases hd with rfl | ⟨n, rfl⟩
  · refine cd_isNon M.non ⟨_, rfl, ?_⟩
    walk_at "e"
    exact h
  · refine cd_isExc (D := .fd ad.many "most" n) M.ec M.yes ⟨_, rfl, ?_⟩
    walk_at "e"
    refine we_cmp (op_eqX hr) ?_ (nomark _)
    refine we_xf M.x M.no ?_
    walk_at "e"
    refine ⟨n, rfl, ?_⟩
    walk_at "e"
    refine od_eq rfl rfl ?_
    rw [eq_int]
    have e : (D.exc (.fd ad.many "most" n)).isMany ad.many = decide (n = 60) := by
      show (ad.many == ad.many && n == 60) = _
      simp
      rfl
    rw [e] at h
    exact h
end
end L2.Px
end
section
/-! LT: written values, evaluated by the kernel -/
namespace L2.Px
open PySem PySem.Spec
open PyProof.Rows
def allO {α β : Type} (f : α → Option β) : List α → Option (List β)
  | [] => some []
  | a :: l => match f a, allO f l with
    | some b, some r => some (b :: r)
    | _, _ => none
theorem allO_len {α β : Type} {f : α → Option β} : ∀ {l : List α} {r : List β}, allO f l = some r → r.length = l.length
  | [], r, h => by
    cases h
    rfl
  | a :: l, r, h => by
    have h : (match f a, allO f l with
      | some b, some r => some (b :: r)
      | _, _ => none) = some r := h
    cases e1 : f a with
    | none =>
      rw [e1] at h
      cases h
    | some b =>
      cases e2 : allO f l with
      | none =>
        rw [e1, e2] at h
        cases h
      | some r' =>
        rw [e1, e2] at h
        cases h
        rw [List.length_cons, List.length_cons, allO_len e2]
/-- what a written value is -/
def litD : Nat → Expr → Option D
  | 0, _ => none
  | n + 1, e => match e with
    | .Constant (.int i) _ _ => some (.int i)
    | .Constant (.bool b) _ _ => some (.bl b)
    | .Constant (.str x) _ _ => some (.str x)
    | .Constant .none _ _ => some .non
    | .UnaryOp .USub (.Constant (.int i) _ _) _ => some (.int (-i))
    | .Tuple es _ _ => if es.length ≤ 1000 then (allO (litD n) es).map .tup else none
    | .List es _ => if es.length ≤ 1000 then (allO (litD n) es).map .lst else none
    | _ => none
variable [Wld]
section
variable {X : Cx} {F : Fm}
theorem lit_star {n : Nat} {e : Expr} {es : List Expr} {d : D} (h : litD n e = some d) : starEach (e :: es) X.env = (false, eval e X.env) :: starEach es X.env := by
  cases n with
  | zero => cases h
  | succ n => cases e <;> first | rfl | cases h
theorem wa_litL [F.c.Ok] {n : Nat} (ih : ∀ (e : Expr) (d : D) (Γ : Gam) (Φ : D → Gam → Prop), litD n e = some d → Φ d Γ → WE X F e Γ Φ) : ∀ (es : List Expr) (ds : List D) (Γ : Gam) (Φ : List D → Gam → Prop), allO (litD n) es = some ds → Φ ds Γ → WA X F es Γ Φ
  | [], ds, Γ, Φ, h, k => by
    cases h
    exact wa_nil k
  | e :: es, ds, Γ, Φ, h, k => by
    rw [allO] at h
    cases e1 : litD n e with
    | none =>
      rw [e1] at h
      cases h
    | some b =>
      cases e2 : allO (litD n) es with
      | none =>
        rw [e1, e2] at h
        cases h
      | some r =>
        rw [e1, e2] at h
        cases h
        exact wa_cons (ih e b Γ _ e1 (wa_litL ih es r Γ _ e2 k)) (lit_star e1)
theorem we_lit [F.c.Ok] : ∀ (n : Nat) (e : Expr) (d : D) (Γ : Gam) (Φ : D → Gam → Prop), litD n e = some d → Φ d Γ → WE X F e Γ Φ
  | 0, e, d, Γ, Φ, h, k => by cases h
  | n + 1, e, d, Γ, Φ, h, k => by
    unfold litD at h
    split at h
    · cases h
      exact we_int k
    · cases h
      exact we_bl k
    · cases h
      exact we_str k
    · cases h
      exact we_non k
    · cases h
      exact we_neg (we_int ⟨_, rfl, k⟩)
    · split at h
      · rename_i hl
        obtain ⟨ds, e2, rfl⟩ := Option.map_eq_some_iff.mp h
        refine we_tup (wa_litL (we_lit n) _ ds Γ _ e2 ⟨?_, k⟩)
        rw [allO_len e2]
        exact Nat.le_trans hl (by decide)
      · cases h
    · split at h
      · rename_i hl
        obtain ⟨ds, e2, rfl⟩ := Option.map_eq_some_iff.mp h
        refine we_lst (wa_litL (we_lit n) _ ds Γ _ e2 ⟨?_, k⟩)
        rw [allO_len e2]
        exact Nat.le_trans hl (by decide)
      · cases h
    · cases h
/-- a written list of the def's own -/
theorem wn_lit [F.c.Ok] {n : Nat} {es : List Expr} {pos : Pos} {ds : List D} {Γ : Gam} {Ψ : OD → Gam → Prop} (h : allO (litD n) es = some ds) (hl : es.length ≤ 1000) (k : Ψ (.lst ds) Γ) : WN X F (.List es pos) Γ Ψ :=
  wn_lst (wa_litL (we_lit n) _ ds Γ _ h ⟨by rw [allO_len h]; exact Nat.le_trans hl (by decide), k⟩)
/-- the pairs of a written dict with text keys -/
def litP (n : Nat) : List (Option Expr) → List Expr → Option (List (Str × D))
  | [], [] => some []
  | some k :: ks, v :: vs => match litD n k, litD n v, litP n ks vs with
    | some (.str x), some d, some r => some ((x, d) :: r)
    | _, _, _ => none
  | _, _ => none
def kvsOf (l : List (Str × D)) : List (Key × D) := l.map fun p => (.inr p.1, p.2)
theorem wp_lit [F.c.Ok] {n : Nat} {Φ : List (Key × D) → Gam → Prop} {Γ : Gam} : ∀ (ks : List (Option Expr)) (vs : List Expr) (acc : List (Key × D)) (l : List (Str × D)), litP n ks vs = some l → ((acc ++ kvsOf l).map (·.1)).Nodup → Φ (acc ++ kvsOf l) Γ → WP X F ks vs acc Γ Φ
  | [], [], acc, l, h, nd, k => by
    cases h
    show Φ acc Γ
    rw [show acc ++ kvsOf [] = acc from List.append_nil acc] at k
    exact k
  | [], _ :: _, acc, l, h, nd, k => by cases h
  | none :: _, [], acc, l, h, nd, k => by cases h
  | none :: _, _ :: _, acc, l, h, nd, k => by cases h
  | some _ :: _, [], acc, l, h, nd, k => by cases h
  | some k0 :: ks, v :: vs, acc, l, h, nd, k => by
    have h : (match litD n k0, litD n v, litP n ks vs with
      | some (.str x), some d, some r => some ((x, d) :: r)
      | _, _, _ => none) = some l := h
    split at h
    · rename_i x d r e1 e2 e3
      cases h
      have ea : acc ++ kvsOf ((x, d) :: r) = (acc ++ [(.inr x, d)]) ++ kvsOf r := by
        rw [List.append_assoc]
        rfl
      rw [ea] at nd k
      show WE X F k0 Γ _
      refine we_lit n k0 _ Γ _ e1 ?_
      refine we_lit n v _ Γ _ e2 ⟨x, rfl, ?_, wp_lit ks vs _ r e3 nd k⟩
      rw [List.map_append] at nd
      have nd2 := (List.nodup_append.mp nd).1
      rw [List.map_append] at nd2
      exact fun z => (List.nodup_append.mp nd2).2.2 _ z _ (by simp) rfl
    · cases h
theorem atK_nd {k : Key} {d : D} : ∀ {l : List (Key × D)}, (l.map (·.1)).Nodup → (k, d) ∈ l → atK l k = some d
  | [], _, h => by cases h
  | p :: l, nd, h => by
    rw [List.map_cons] at nd
    obtain ⟨n1, n2⟩ := List.nodup_cons.mp nd
    unfold atK
    rcases List.mem_cons.mp h with e | h
    · rw [← e]
      exact if_pos rfl
    · rw [if_neg (fun z => n1 (by rw [z]; exact List.mem_map.mpr ⟨_, h, rfl⟩))]
      exact atK_nd n2 h
end
end L2.Px
end
section
namespace L2.Px
open PySem PySem.Spec
open PyProof.Rows
abbrev sLMakers : Stmt := top 41
def lmSt : List Stmt := defBody sLMakers
def lmK : List (Option Expr) := match lmSt with | .Assign _ (.Dict ks _ _) _ :: _ => ks | _ => []
def lmV : List Expr := match lmSt with | .Assign _ (.Dict _ vs _) _ :: _ => vs | _ => []
def lmP (i : Nat) : Pos := (match lmSt with | [.Assign [.Name _ p1] (.Dict _ _ p2) p3, .Return (some (.Subscript (.Name _ p4) (.Name _ p5) p6)) p7] => [p1, p2, p3, p4, p5, p6, p7] | _ => []).getD i ⟨0, 0, 0, 0⟩
theorem lm_st : lmSt = [.Assign [.Name "some" (lmP 0)] (.Dict lmK lmV (lmP 1)) (lmP 2), .Return (some (.Subscript (.Name "some" (lmP 3)) (.Name "name" (lmP 4)) (lmP 5))) (lmP 6)] := by kernel_rfl
theorem lm_k : lmK.length = 17 ∧ lmK.all (·.isSome) = true ∧ lmV.length = 17 := by decide +kernel
variable [Wld]
local macro_rules | `(tactic| walk_at "vis") => `(tactic| first | exact .inl rfl | exact .inr (.inl rfl) | exact .inr (.inr rfl))
local macro_rules | `(tactic| walk_at "n") => `(tactic| first
  | refine we_name (i := 0) rfl (by walk_at "vis") rfl ?_
  | refine we_name (i := 1) rfl (by walk_at "vis") rfl ?_
  | refine we_name (i := 2) rfl (by walk_at "vis") rfl ?_
  | refine we_name (i := 3) rfl (by walk_at "vis") rfl ?_
  | refine we_name (i := 4) rfl (by walk_at "vis") rfl ?_
  | refine we_name (i := 5) rfl (by walk_at "vis") rfl ?_
  | refine we_name (i := 6) rfl (by walk_at "vis") rfl ?_
  | refine we_name (i := 7) rfl (by walk_at "vis") rfl ?_
  | refine we_name (i := 8) rfl (by walk_at "vis") rfl ?_
  | refine we_name (i := 9) rfl (by walk_at "vis") rfl ?_)
local macro_rules | `(tactic| walk_at "e1") => `(tactic| first
  | ((with_reducible show (if _ then _ else _)); first | refine itT ?_ | refine itF ?_)
  | ((with_reducible show WE _ _ (.Name _ _) _ _); walk_at "n")
  | ((with_reducible show WE _ _ (.Constant (.int _) _ _) _ _); refine we_int ?_)
  | ((with_reducible show WE _ _ (.Constant (.str _) _ _) _ _); refine we_str ?_)
  | ((with_reducible show WE _ _ (.Constant (.bool _) _ _) _ _); refine we_bl ?_)
  | ((with_reducible show WE _ _ (.Constant .none _ _) _ _); refine we_non ?_)
  | ((with_reducible show WA _ _ (_ :: _) _ _); refine wa_cons ?_)
  | ((with_reducible show WA _ _ [] _ _); refine wa_nil ?_)
  | ((with_reducible show WE _ _ (.BoolOp _ [_] _) _ _); refine we_one ?_)
  | ((with_reducible show WE _ _ (.BoolOp .And _ _) _ _); refine we_and ?_)
  | ((with_reducible show WE _ _ (.BoolOp .Or _ _) _ _); refine we_or ?_)
  | ((with_reducible show WE _ _ (.UnaryOp .Not _ _) _ _); refine we_not ?_)
  | ((with_reducible show WE _ _ (.IfExp _ _ _ _) _ _); refine we_ifExp ?_)
  | ((with_reducible show WE _ _ (.Tuple _ _ _) _ _); refine we_tup ?_)
  | ((with_reducible show WE _ _ (.List _ _) _ _); refine we_lst ?_)
  | ((with_reducible show WE _ _ (.BinOp _ .Add _ _) _ _); refine we_add ?_)
  | ((with_reducible show WE _ _ (.BinOp _ .Sub _ _) _ _); refine we_sub ?_)
  | ((with_reducible show WE _ _ (.BinOp _ .Mult _ _) _ _); refine we_mul ?_)
  | ((with_reducible show WE _ _ (.BinOp _ .Mod _ _) _ _); refine we_mod ?_)
  | ((with_reducible show WE _ _ (.BinOp _ .FloorDiv _ _) _ _); refine we_fdiv ?_)
  | ((with_reducible show WE _ _ (.BinOp _ .Pow _ _) _ _); refine we_pow ?_)
  | ((with_reducible show WT _ _ (.UnaryOp .Not _ _) _ _); refine wt_not ?_)
  | ((with_reducible show WT _ _ (.BoolOp .And _ _) _ _); refine wt_ww (ww_and ?_))
  | ((with_reducible show WT _ _ (.BoolOp .Or _ _) _ _); refine wt_ww (ww_or ?_))
  | ((with_reducible show WW _ _ (.BoolOp .And [_] _) _ _); refine ww_and1 ?_)
  | ((with_reducible show WW _ _ (.BoolOp .Or [_] _) _ _); refine ww_or1 ?_)
  | ((with_reducible show WW _ _ (.BoolOp .And _ _) _ _); refine ww_and ?_)
  | ((with_reducible show WW _ _ (.BoolOp .Or _ _) _ _); refine ww_or ?_)
  | ((with_reducible show WSs _ _ (_ :: _) _ _); refine ws_cons ?_)
  | ((with_reducible show WSs _ _ [] _ _); refine ws_nil ?_)
  | ((with_reducible show WS _ _ (.Return (some _) _) _ _); refine ws_ret ?_)
  | ((with_reducible show WS _ _ (.If _ _ _ _) _ _); refine ws_if ?_)
  | ((with_reducible show WT _ _ (.Call _ _ _ _) _ _); refine wt_val ?_)
  | ((with_reducible show WT _ _ (.Name _ _) _ _); refine wt_val ?_))
local macro_rules | `(tactic| walk_at "e") => `(tactic| repeat' walk_at "e1")
omit [Wld] in
def namedG : List (Str × Nat × List (List Int)) := [
  ("one", 1, []),
  ("two", 2, [[1, 0]]),
  ("three", 3, [[1, 2, 0]]),
  ("s3", 3, [[1, 2, 0], [1, 0, 2]]),
  ("four", 4, [[1, 2, 3, 0]]),
  ("v4", 4, [[1, 0, 3, 2], [2, 3, 0, 1]]),
  ("w4", 4, [[1, 0, 2, 3], [0, 1, 3, 2]]),
  ("d4", 4, [[1, 2, 3, 0], [0, 3, 2, 1]]),
  ("a4", 4, [[1, 2, 0, 3], [1, 0, 3, 2]]),
  ("s4", 4, [[1, 2, 3, 0], [1, 0, 2, 3]]),
  ("five", 5, [[1, 2, 3, 4, 0]]),
  ("six", 5, [[1, 2, 0, 4, 3]]),
  ("d5", 5, [[1, 2, 3, 4, 0], [0, 4, 3, 2, 1]]),
  ("f20", 5, [[1, 2, 3, 4, 0], [0, 2, 4, 1, 3]]),
  ("s3c2", 5, [[1, 2, 0, 3, 4], [1, 0, 2, 3, 4], [0, 1, 2, 4, 3]]),
  ("s3in5", 5, [[1, 2, 0, 3, 4], [1, 0, 2, 4, 3]]),
  ("a5", 5, [[1, 2, 3, 4, 0], [1, 2, 0, 3, 4]])]
omit [Wld] in
def namedD : List (Str × D) := namedG.map fun p => (p.1, .tup [.int p.2.1, .lst (perms p.2.2)])
omit [Wld] in
theorem lm_lit : litP 5 lmK lmV = some namedD := by kernel_rfl
omit [Wld] in
theorem lm_nd : ((kvsOf namedD).map (·.1)).Nodup := by decide +kernel
theorem lm_body : defBody sLMakers = [.Assign [.Name "some" (lmP 0)] (.Dict lmK lmV (lmP 1)) (lmP 2), .Return (some (.Subscript (.Name "some" (lmP 3)) (.Name "name" (lmP 4)) (lmP 5))) (lmP 6)] := lm_st
section
variable {P : Program} {w : World} {K : PySem.W.Frag} {mg : Str → Option Value} {base : Heap}
def spLMakers : DS := ⟨fun ds k => ∃ (x : Str) (n : Nat) (ms : List (List Int)), ds = [.str x] ∧ (x, n, ms) ∈ namedG ∧ k (.ret (.tup [.int n, .lst (perms ms)])), fun _ _ _ i ⟨x, n, ms, e, p, h⟩ => ⟨x, n, ms, e, p, i _ h⟩⟩
theorem sc_lmakers : FnScope ["name", "some"] ["name"] (defScope sLMakers) := ⟨rfl, rfl, rfl, by decide +kernel, rfl, by decide +kernel, by decide +kernel⟩
theorem lm_walk {ks : List (Option Expr)} {vs : List Expr} {p1 p2 p3 p4 p5 p6 p7 : Pos} (hl : litP 5 ks vs = some namedD) (h17 : ks.length = 17) (v17 : vs.length = 17) (ha : ks.all (·.isSome) = true) {f : Addr} {cdv : Value} {A : Around} {outer : List Env} {sh : Shared} {H H0 B0 : Hp} {E : XK} {x : Str} {n : Nat} {ms : List (List Int)} {ed : ED}
    (hr : Room 0 (A.deeper (envOfC "_law_makers" (defScope sLMakers) sh.heap.objs.size f cdv))) (hx : (x, n, ms) ∈ namedG) (h : ed.rt (.tup [.int n, .lst (perms ms)])) :
    WSs (cxOf (L2.CX P w) P w K mg base ["name", "some"] "_law_makers" (defScope sLMakers) f cdv A outer sh H E) ⟨c0, H0, B0⟩ [.Assign [.Name "some" p1] (.Dict ks vs p2) p3, .Return (some (.Subscript (.Name "some" p4) (.Name "name" p5) p6)) p7] (start0 ["name", "some"] [.str x]) ed := by
  refine ws_cons ?_
  refine ws_setN (i := 1) sc_lmakers.nd rfl (.inl rfl) (show 1 < 2 by decide) ?_ rfl
  refine wn_disp17 (wp_lit _ _ _ _ hl lm_nd ?_) ha (by rw [h17, v17]) h17
  refine ws_cons ?_
  refine ws_ret ?_
  refine we_getK (i := 1) (by have := hr.un; show (A.deeper _).units + 1 < cLine; omega) rfl (.inl rfl) rfl ?_
  refine we_name (i := 0) rfl (.inl rfl) rfl ?_
  refine ⟨rfl, x, .tup [.int n, .lst (perms ms)], rfl, ?_, h⟩
  refine atK_nd lm_nd ?_
  show (_, _) ∈ kvsOf namedD
  unfold kvsOf namedD
  rw [List.map_map]
  exact List.mem_map.mpr ⟨_, hx, rfl⟩
theorem ok_lmakers {f : Addr} {fd : FuncData} (Fn : Fun K "_law_makers" "_law_makers" sLMakers f fd) : FnOk P w K mg base (L2.CX P w) 1 f fd ["name"] (SpD K c0 1 spLMakers) := by
  refine defn (k := 0) (ps := ["name"]) Fn sc_lmakers fun cdv A outer sh H E hr H0 B0 ds Φ hlw h R => ?_
  obtain ⟨x, n, ms, rfl, hx, h⟩ := h
  generalize hs : defBody sLMakers = sts
  have e2 := hs.symm.trans lm_body
  generalize hk : lmK = ks at e2
  generalize hv : lmV = vs at e2
  rw [e2]
  exact lm_walk (by rw [← hk, ← hv]; exact lm_lit) (by rw [← hk]; exact lm_k.1) (by rw [← hv]; exact lm_k.2.2) (by rw [← hk]; exact lm_k.2.1) hr hx h
end
end L2.Px
end
section
/-! KP: groups turned, few makers -/
namespace L2.Px
open PySem PySem.Spec
open PyProof.Rows
variable [Wld]
/-! ### turned -/
def conjI (b x : List Int) : List Int := thenI (thenI (backI b) x) b
theorem pm_conj {n : Nat} {b x : List Int} (h1 : 1 ≤ n) (h5 : n ≤ 5) (hb : Pm n b) (hx : Pm n x) : Pm n (conjI b x) := pm_then (pm_then (fct hb h1 h5).pb hx) hb
theorem conj_unit {n : Nat} {b : List Int} (h1 : 1 ≤ n) (h5 : n ≤ 5) (hb : Pm n b) : conjI b (unitI n) = unitI n := by
  have f := fct hb h1 h5
  unfold conjI
  rw [then_unit f.pb.mb, f.bt]
theorem conj_mul {n : Nat} {b x y : List Int} (h1 : 1 ≤ n) (h5 : n ≤ 5) (hb : Pm n b) (hx : Pm n x) (hy : Pm n y) : thenI (conjI b x) (conjI b y) = conjI b (thenI x y) := by
  have f := fct hb h1 h5
  unfold conjI
  have pbx := pm_then f.pb hx
  have pby := pm_then f.pb hy
  rw [then_assoc pbx.mb hb.mb, ← then_assoc hb.mb pby.mb, ← then_assoc hb.mb f.pb.mb, f.tb, unit_then hy.mb, ← then_assoc pbx.mb hy.mb, then_assoc f.pb.mb hx.mb]
theorem reach_conj {n : Nat} {b : List Int} {ms : List (List Int)} (h1 : 1 ≤ n) (h5 : n ≤ 5) (hb : Pm n b) (pm : ∀ m ∈ ms, Pm n m) {y : List Int} (r : Reach n (ms.map (conjI b)) y) : ∃ x, Reach n ms x ∧ y = conjI b x := by
  induction r with
  | unit => exact ⟨unitI n, .unit, (conj_unit h1 h5 hb).symm⟩
  | step r hm ih =>
    obtain ⟨x, rx, rfl⟩ := ih
    obtain ⟨m, hm2, rfl⟩ := List.mem_map.mp hm
    exact ⟨thenI x m, .step rx hm2, conj_mul h1 h5 hb (rx.pm pm) (pm m hm2)⟩
/-! ### the named groups have at most sixty members -/
omit [Wld] in
def bfs (ms : List (List Int)) : Nat → List (List Int) → List (List Int) → List (List Int)
  | 0, f, _ => f
  | _ + 1, f, [] => f
  | k + 1, f, h :: ln =>
    let r := ms.foldl (fun (p : List (List Int) × List (List Int)) m => let y := thenI h m; if p.1.contains y then p else (y :: p.1, y :: p.2)) (f, ln)
    bfs ms k r.1 r.2
omit [Wld] in
def isCl (n : Nat) (ms S : List (List Int)) : Bool := S.contains (unitI n) && S.all fun x => ms.all fun m => S.contains (thenI x m)
theorem isCl_has {n : Nat} {ms S : List (List Int)} (h : isCl n ms S = true) {x : List Int} (r : Reach n ms x) : x ∈ S := by
  unfold isCl at h
  simp only [Bool.and_eq_true, List.all_eq_true, List.contains_iff_mem] at h
  induction r with
  | unit => exact h.1
  | step r hm ih => exact h.2 _ ih _ hm
omit [Wld] in
def okNamed (p : Str × Nat × List (List Int)) : Bool := decide (1 ≤ p.2.1) && decide (p.2.1 ≤ 5) && decide (p.2.2.length ≤ 10) && p.2.2.all (fun m => (pms (unitI p.2.1)).contains m) &&
  isCl p.2.1 p.2.2 (bfs p.2.2 100 [unitI p.2.1] [unitI p.2.1]) && decide ((bfs p.2.2 100 [unitI p.2.1] [unitI p.2.1]).length ≤ 60)
omit [Wld] in
theorem named_ok : namedG.all okNamed = true := by decide +kernel
structure NamedF (n : Nat) (ms : List (List Int)) : Prop where
  h1 : 1 ≤ n
  h5 : n ≤ 5
  few : ms.length ≤ 10
  pm : ∀ m ∈ ms, Pm n m
  sm : ∃ S : List (List Int), S.length ≤ 60 ∧ ∀ x, Reach n ms x → x ∈ S
theorem named_f {x : Str} {n : Nat} {ms : List (List Int)} (h : (x, n, ms) ∈ namedG) : NamedF n ms := by
  have q := List.all_eq_true.mp named_ok _ h
  unfold okNamed at q
  simp only [Bool.and_eq_true, decide_eq_true_eq, List.all_eq_true, List.contains_iff_mem] at q
  obtain ⟨⟨⟨⟨⟨q1, q2⟩, q3⟩, q4⟩, q5⟩, q6⟩ := q
  exact ⟨q1, q2, q3, fun m hm => pm_of_perm (pms_perm _ _ (q4 m hm)), _, q6, fun x r => isCl_has q5 r⟩
theorem conj_grp {n : Nat} {b : List Int} {ms L : List (List Int)} (f : NamedF n ms) (hb : Pm n b) (c : Cls n (ms.map (conjI b)) L) : Grp n L ∧ L.length ≤ 60 := by
  have pm : ∀ m ∈ ms.map (conjI b), Pm n m := fun m hm => by
    obtain ⟨y, hy, rfl⟩ := List.mem_map.mp hm
    exact pm_conj f.h1 f.h5 hb (f.pm y hy)
  refine ⟨Grp.of f.h1 f.h5 pm c, ?_⟩
  obtain ⟨S, hS, hs⟩ := f.sm
  have q := nodup_le (m := S.map (conjI b)) (asc_nodup c.asc) fun y hy => by
    obtain ⟨x, rx, rfl⟩ := reach_conj f.h1 f.h5 hb f.pm ((c.mem y).mp hy)
    exact List.mem_map.mpr ⟨x, hs x rx, rfl⟩
  rw [List.length_map] at q
  omega
/-! ### few makers -/
theorem then_inj {n : Nat} {x y m : List Int} (h1 : 1 ≤ n) (h5 : n ≤ 5) (hx : Pm n x) (hy : Pm n y) (hm : Pm n m) (e : thenI x m = thenI y m) : x = y := by
  have f := fct hm h1 h5
  have q : thenI (thenI x m) (backI m) = thenI (thenI y m) (backI m) := by rw [e]
  rw [then_assoc hx.mb hm.mb, then_assoc hy.mb hm.mb, f.tb, then_unit hx.mb, then_unit hy.mb] at q
  exact q
theorem then_injL {n : Nat} {x y m : List Int} (h1 : 1 ≤ n) (h5 : n ≤ 5) (hx : Pm n x) (hy : Pm n y) (hm : Pm n m) (e : thenI m x = thenI m y) : x = y := by
  have f := fct hm h1 h5
  have q : thenI (backI m) (thenI m x) = thenI (backI m) (thenI m y) := by rw [e]
  rw [← then_assoc f.pb.mb hm.mb, ← then_assoc f.pb.mb hm.mb, f.bt, unit_then hx.mb, unit_then hy.mb] at q
  exact q
theorem inj_onto {α : Type} [DecidableEq α] {l : List α} {f : α → α} (nd : l.Nodup) (into : ∀ x ∈ l, f x ∈ l) (inj : ∀ x ∈ l, ∀ y ∈ l, f x = f y → x = y) {z : α} (hz : z ∈ l) : ∃ y ∈ l, f y = z := by
  by_cases h : z ∈ l.map f
  · obtain ⟨y, hy, e⟩ := List.mem_map.mp h
    exact ⟨y, hy, e⟩
  · exfalso
    have nm : (l.map f).Nodup := by
      rw [List.nodup_iff_pairwise_ne, List.pairwise_map]
      refine nd.imp_of_mem fun {a b} ha hb ne e => ne (inj a ha b hb e)
    have q := nodup_le (l := z :: l.map f) (m := l) (List.nodup_cons.mpr ⟨h, nm⟩) fun x hx => by
      rcases List.mem_cons.mp hx with rfl | hx
      · exact hz
      · obtain ⟨y, hy, rfl⟩ := List.mem_map.mp hx
        exact into y hy
    rw [List.length_cons, List.length_map] at q
    omega
theorem clo_mem {n : Nat} {fs : List (List Int)} (h1 : 1 ≤ n) (h5 : n ≤ 5) (pm : ∀ m ∈ fs, Pm n m) (x : List Int) : x ∈ clo n fs ↔ Reach n fs x := (clo_cls pm h1 h5).mem x
/-- a member that is new doubles, at the least -/
theorem clo_twice {n : Nat} {fs : List (List Int)} {m : List Int} (h1 : 1 ≤ n) (h5 : n ≤ 5) (pm : ∀ x ∈ fs, Pm n x) (hm : Pm n m) (new : m ∉ clo n fs) : 2 * (clo n fs).length ≤ (clo n (fs ++ [m])).length := by
  have pm2 : ∀ x ∈ fs ++ [m], Pm n x := fun x hx => by
    rcases List.mem_append.mp hx with z | z
    · exact pm x z
    · rw [List.mem_singleton.mp z]; exact hm
  have nd := asc_nodup (clo_cls pm h1 h5).asc
  have pc : ∀ x ∈ clo n fs, Pm n x := fun x hx => ((clo_mem h1 h5 pm x).mp hx).pm pm
  have q := nodup_le (l := clo n fs ++ (clo n fs).map fun x => thenI x m) (m := clo n (fs ++ [m])) (List.nodup_append.mpr ⟨nd, ?_, ?_⟩) fun x hx => ?_
  · rw [List.length_append, List.length_map] at q
    omega
  · rw [List.nodup_iff_pairwise_ne, List.pairwise_map]
    exact nd.imp_of_mem fun {a b} ha hb ne e => ne (then_inj h1 h5 (pc a ha) (pc b hb) hm e)
  · intro a ha b hb e
    subst e
    obtain ⟨x, hx, rfl⟩ := List.mem_map.mp hb
    obtain ⟨y, hy, e⟩ := inj_onto (f := fun y => thenI x y) nd (fun y hy => (clo_mem h1 h5 pm _).mpr (((clo_mem h1 h5 pm x).mp hx).mul pm ((clo_mem h1 h5 pm y).mp hy))) (fun a ha b hb e => then_injL h1 h5 (pc a ha) (pc b hb) (pc x hx) e) ha
    have e2 := then_injL h1 h5 (pc y hy) hm (pc x hx) e
    exact new (e2 ▸ hy)
  · rw [clo_mem h1 h5 pm2]
    rcases List.mem_append.mp hx with z | z
    · exact ((clo_mem h1 h5 pm x).mp z).mono fun y hy => List.mem_append_left _ hy
    · obtain ⟨y, hy, rfl⟩ := List.mem_map.mp z
      exact .step (((clo_mem h1 h5 pm y).mp hy).mono fun y hy => List.mem_append_left _ hy) (by simp)
theorem fold_pow {n : Nat} (h1 : 1 ≤ n) (h5 : n ≤ 5) : ∀ (l fs : List (List Int)), (∀ x ∈ l, Pm n x) → (∀ x ∈ fs, Pm n x) → 2 ^ fs.length ≤ (clo n fs).length → 2 ^ (l.foldl (mkStep n) fs).length ≤ (clo n (l.foldl (mkStep n) fs)).length
  | [], fs, _, _, h => h
  | m :: l, fs, hl, hf, h => by
    have hm := hl m List.mem_cons_self
    refine fold_pow h1 h5 l (mkStep n fs m) (fun x hx => hl x (List.mem_cons_of_mem _ hx)) (fun x hx => ?_) ?_
    · unfold mkStep at hx
      split at hx
      · exact hf x hx
      · rcases List.mem_append.mp hx with z | z
        · exact hf x z
        · rw [List.mem_singleton.mp z]; exact hm
    · unfold mkStep
      split
      · exact h
      · rename_i new
        have q := clo_twice h1 h5 hf hm new
        rw [List.length_append, List.length_singleton, Nat.pow_succ]
        omega
theorem mkrs_few {n : Nat} {G : List (List Int)} (g : Grp n G) (h : G.length ≤ 60) : (mkrs n G).length ≤ 5 := by
  have q := fold_pow g.h1 g.h5 G [] g.pm (fun x hx => by cases hx) (by rw [clo_nil n g.h1 g.h5]; exact Nat.le_refl _)
  have e : (mkrs n G).length = (G.foldl (mkStep n) []).length := rfl
  have f := clo_few g (fs := mkrs n G) mkrs_sub
  have p : 2 ^ (mkrs n G).length ≤ 60 := Nat.le_trans q (Nat.le_trans f h)
  by_cases hh : (mkrs n G).length ≤ 5
  · exact hh
  · have : 2 ^ 6 ≤ 2 ^ (mkrs n G).length := Nat.pow_le_pow_right (by decide) (by omega)
    omega
end L2.Px
end
section
/-! KS: _law_shuffled of any things; weaker promises; a drawn group -/
namespace L2.Px
open PySem PySem.Spec
open PyProof.Rows
variable [Wld]
local macro_rules | `(tactic| walk_at "vis") => `(tactic| first | exact .inl rfl | exact .inr (.inl rfl) | exact .inr (.inr rfl))
local macro_rules | `(tactic| walk_at "n") => `(tactic| first
  | refine we_name (i := 0) rfl (by walk_at "vis") rfl ?_
  | refine we_name (i := 1) rfl (by walk_at "vis") rfl ?_
  | refine we_name (i := 2) rfl (by walk_at "vis") rfl ?_
  | refine we_name (i := 3) rfl (by walk_at "vis") rfl ?_
  | refine we_name (i := 4) rfl (by walk_at "vis") rfl ?_
  | refine we_name (i := 5) rfl (by walk_at "vis") rfl ?_
  | refine we_name (i := 6) rfl (by walk_at "vis") rfl ?_
  | refine we_name (i := 7) rfl (by walk_at "vis") rfl ?_
  | refine we_name (i := 8) rfl (by walk_at "vis") rfl ?_
  | refine we_name (i := 9) rfl (by walk_at "vis") rfl ?_)
local macro_rules | `(tactic| walk_at "e1") => `(tactic| first
  | ((with_reducible show (if _ then _ else _)); first | refine itT ?_ | refine itF ?_)
  | ((with_reducible show WE _ _ (.Name _ _) _ _); walk_at "n")
  | ((with_reducible show WE _ _ (.Constant (.int _) _ _) _ _); refine we_int ?_)
  | ((with_reducible show WE _ _ (.Constant (.str _) _ _) _ _); refine we_str ?_)
  | ((with_reducible show WE _ _ (.Constant (.bool _) _ _) _ _); refine we_bl ?_)
  | ((with_reducible show WE _ _ (.Constant .none _ _) _ _); refine we_non ?_)
  | ((with_reducible show WA _ _ (_ :: _) _ _); refine wa_cons ?_)
  | ((with_reducible show WA _ _ [] _ _); refine wa_nil ?_)
  | ((with_reducible show WE _ _ (.BoolOp _ [_] _) _ _); refine we_one ?_)
  | ((with_reducible show WE _ _ (.BoolOp .And _ _) _ _); refine we_and ?_)
  | ((with_reducible show WE _ _ (.BoolOp .Or _ _) _ _); refine we_or ?_)
  | ((with_reducible show WE _ _ (.UnaryOp .Not _ _) _ _); refine we_not ?_)
  | ((with_reducible show WE _ _ (.IfExp _ _ _ _) _ _); refine we_ifExp ?_)
  | ((with_reducible show WE _ _ (.Tuple _ _ _) _ _); refine we_tup ?_)
  | ((with_reducible show WE _ _ (.List _ _) _ _); refine we_lst ?_)
  | ((with_reducible show WE _ _ (.BinOp _ .Add _ _) _ _); refine we_add ?_)
  | ((with_reducible show WE _ _ (.BinOp _ .Sub _ _) _ _); refine we_sub ?_)
  | ((with_reducible show WE _ _ (.BinOp _ .Mult _ _) _ _); refine we_mul ?_)
  | ((with_reducible show WE _ _ (.BinOp _ .Mod _ _) _ _); refine we_mod ?_)
  | ((with_reducible show WE _ _ (.BinOp _ .FloorDiv _ _) _ _); refine we_fdiv ?_)
  | ((with_reducible show WE _ _ (.BinOp _ .Pow _ _) _ _); refine we_pow ?_)
  | ((with_reducible show WT _ _ (.UnaryOp .Not _ _) _ _); refine wt_not ?_)
  | ((with_reducible show WT _ _ (.BoolOp .And _ _) _ _); refine wt_ww (ww_and ?_))
  | ((with_reducible show WT _ _ (.BoolOp .Or _ _) _ _); refine wt_ww (ww_or ?_))
  | ((with_reducible show WW _ _ (.BoolOp .And [_] _) _ _); refine ww_and1 ?_)
  | ((with_reducible show WW _ _ (.BoolOp .Or [_] _) _ _); refine ww_or1 ?_)
  | ((with_reducible show WW _ _ (.BoolOp .And _ _) _ _); refine ww_and ?_)
  | ((with_reducible show WW _ _ (.BoolOp .Or _ _) _ _); refine ww_or ?_)
  | ((with_reducible show WSs _ _ (_ :: _) _ _); refine ws_cons ?_)
  | ((with_reducible show WSs _ _ [] _ _); refine ws_nil ?_)
  | ((with_reducible show WS _ _ (.Return (some _) _) _ _); refine ws_ret ?_)
  | ((with_reducible show WS _ _ (.If _ _ _ _) _ _); refine ws_if ?_)
  | ((with_reducible show WT _ _ (.Call _ _ _ _) _ _); refine wt_val ?_)
  | ((with_reducible show WT _ _ (.Name _ _) _ _); refine wt_val ?_))
local macro_rules | `(tactic| walk_at "e") => `(tactic| repeat' walk_at "e1")
theorem immA_of {xs : List D} (h : ∀ x ∈ xs, x.imm = true) : D.immA xs = true := by
  induction xs with
  | nil => rfl
  | cons x xs ih =>
    show (x.imm && D.immA xs) = true
    rw [h x List.mem_cons_self, ih fun y hy => h y (List.mem_cons_of_mem _ hy)]
    rfl
theorem flA_ofD {n : Nat} {xs : List D} (h : ∀ x ∈ xs, x.fl n = true) : D.flA xs n = true := by
  induction xs with
  | nil => rfl
  | cons x xs ih =>
    show (x.fl n && D.flA xs n) = true
    rw [h x List.mem_cons_self, ih fun y hy => h y (List.mem_cons_of_mem _ hy)]
    rfl
theorem era_permD {α : Type} : ∀ (l : List α) (r : Nat) (h : r < l.length), ([l[r]] ++ l.eraseIdx r).Perm l
  | _ :: _, 0, _ => List.Perm.refl _
  | x :: l, r + 1, h => (List.Perm.swap x (l[r]'(Nat.lt_of_succ_lt_succ h)) (l.eraseIdx r)).trans (List.Perm.cons x (era_permD l r (Nat.lt_of_succ_lt_succ h)))
section
variable {P : Program} {w : World} {K : PySem.W.Frag} {mg : Str → Option Value} {base : Heap}
theorem Gd.weak {x : Str} {k : Nat} {c : Cfg} {ps : List Str} {sp sp' : DS} (g : Gd P w K mg base x k c ps sp) (h : ∀ ds Φ, sp'.run ds Φ → sp.run ds Φ) : Gd P w K mg base x k c ps sp' := by
  obtain ⟨f, fd, a, b, c1, d⟩ := g.ex
  exact ⟨f, fd, a.imp fun vs H Q E ⟨B, ds, h1, h2, h3, h4, h5, h6⟩ => ⟨B, ds, h1, h2, h3, h4, h5, h _ _ h6⟩, b, c1, d⟩
def spShufD (d : Dr) : DS := ⟨fun ds k => ∃ xs : List D, ds = [.obj d.a, .lst xs] ∧ xs.length ≤ 1000 ∧ (∀ x ∈ xs, x.imm = true ∧ x.fl 59 = true) ∧ ∀ ys : List D, ys.Perm xs → k (.ret (.lst ys)), fun _ _ _ i ⟨n, e, qw, m, h⟩ => ⟨n, e, qw, m, fun r zw => i _ (h r zw)⟩⟩
theorem ok_shufD {d : Dr} {f : Addr} {fd : FuncData} (Fn : Fun K "_law_shuffled" "_law_shuffled" sShuffled f fd) (T : Tx mg) (g1 : Gd P w K mg base "_law_take" 2 d.cfg ["draw", "amount"] (spTake d)) : FnOk P w K mg base (L2.CX P w) 3 f fd ["draw", "some"] (SpD K d.cfg 2 (spShufD d)) := by
  refine defn (k := 2) (ps := ["draw", "some"]) Fn sc_shuffled fun cdv A outer sh H E hr H0 B0 ds Φ hlw h R => ?_
  obtain ⟨xs, rfl, n1, hx, h⟩ := h
  have im : ∀ {l : List D}, (∀ x ∈ l, x ∈ xs) → D.immA l = true := fun hl => immA_of fun x z => (hx x (hl x z)).1
  have fl : ∀ {l : List D}, (∀ x ∈ l, x ∈ xs) → D.flA l 59 = true := fun hl => flA_ofD fun x z => (hx x (hl x z)).2
  refine ws_cons ?_
  refine ws_par (i := 2) (j := 3) rfl sc_shuffled.nd rfl rfl (by decide) (show 2 < 4 by decide) (show 3 < 4 by decide) rfl rfl (wx_new ?_)
  refine wn_list rfl T.list ?_
  walk_at "e"
  refine ⟨_, _, rfl, .inl rfl, ?_⟩
  refine wx_new ?_
  refine wn_lst (wa_nil ⟨Nat.zero_le _, ?_⟩)
  refine ws_cons ?_
  refine ws_while (passes_of rfl) (fun m Γ => ∃ l f : List D, Γ = [some (.val (.obj d.a)), some (.val (.lst xs)), some (.own (.lst l)), some (.own (.lst f))] ∧ l.length = m ∧ (f ++ l).Perm xs) xs.length ⟨xs, [], rfl, rfl, List.Perm.refl _⟩ ?_
  rintro m Γ ⟨l, f, rfl, hmw, hp⟩
  have fm : ∀ x ∈ f, x ∈ xs := fun x z => hp.mem_iff.mp (List.mem_append_left _ z)
  have lm : ∀ x ∈ l, x ∈ xs := fun x z => hp.mem_iff.mp (List.mem_append_right _ z)
  have hlen : f.length + l.length = xs.length := by rw [← List.length_append]; exact hp.length_eq
  refine wt_lend (i := 2) rfl ?_ ?_
  · intro j od hjw e
    match j, e with
    | 3, e =>
      cases e
      exact im fm
  · refine wt_cmp (op_neX hr) ?_ (nomark _)
    walk_at "e"
    refine ⟨by decide, ?_⟩
    refine od_ne (show D.flA l 59 = true from fl lm) (show D.flA [] 59 = true from rfl) ⟨_, rfl, rfl, ?_⟩
    rw [eq_nil]
    cases l with
    | nil =>
      have hf : f.Perm xs := by rw [List.append_nil] at hp; exact hp
      refine itF ?_
      refine wss_give (i := 3) rfl ?_
      walk_at "e"
      exact h f hf
    | cons x0 l0 =>
      have hlc : (x0 :: l0).length = l0.length + 1 := rfl
      refine itT ?_
      refine ws_cons ?_
      refine ws_expr ?_
      refine we_append (i := 3) rfl (by walk_at "vis") rfl ?_
      refine we_popAt (i := 2) rfl (by walk_at "vis") rfl ?_
      refine we_callC R (g1.dfn hr (by decide)) rfl ?_
      walk_at "e"
      refine we_lend (i := 2) rfl ?_ ?_
      · intro j od hjw e
        match j, e with
        | 3, e =>
          cases e
          exact im fm
      · refine we_callB cr_lenX rfl T.len bb_len ?_
        walk_at "e"
        refine cd_len (.inl rfl) ⟨rfl, rfl, ?_⟩
        walk_at "e"
        refine ⟨rfl, ((x0 :: l0).length : Nat), rfl, by omega, by omega, fun r hr2 => ?_⟩
        have hr3 : r < (x0 :: l0).length := by omega
        refine ⟨x0 :: l0, r, (x0 :: l0)[r], rfl, rfl, by omega, ?_, ?_⟩
        · exact List.getElem?_eq_getElem hr3
        · refine ⟨f, rfl, by omega, ?_⟩
          refine ws_nil ⟨l0.length, by omega, (x0 :: l0).eraseIdx r, f ++ [(x0 :: l0)[r]], ?_, ?_, ?_⟩
          · rfl
          · rw [List.length_eraseIdx, if_pos hr3]
            rfl
          · refine List.Perm.trans ?_ hp
            rw [List.append_assoc]
            refine List.Perm.append_left f ?_
            exact era_permD _ _ hr3
theorem ints_toI (m : List Int) : (D.ints m).map D.toI = m := by
  unfold D.ints
  rw [List.map_map]
  have : (D.toI ∘ D.int) = id := rfl
  rw [this, List.map_id]
theorem ints_perm {xs : List Int} {ys : List D} (h : ys.Perm (D.ints xs)) : ∃ zs : List Int, ys = D.ints zs ∧ zs.Perm xs := by
  have e : ys = D.ints (ys.map D.toI) := by
    unfold D.ints
    rw [List.map_map]
    have : ∀ x ∈ ys, (D.int ∘ D.toI) x = x := fun x hx => by
      have hx := h.mem_iff.mp hx
      unfold D.ints at hx
      obtain ⟨i, _, rfl⟩ := List.mem_map.mp hx
      rfl
    rw [List.map_congr_left this]
    simp
  refine ⟨_, e, ?_⟩
  have q := h.map D.toI
  have e2 : (D.ints xs).map D.toI = xs := by
    unfold D.ints
    rw [List.map_map]
    have : (D.toI ∘ D.int) = id := rfl
    rw [this, List.map_id]
  rw [e2] at q
  exact q
theorem shuf_ints {d : Dr} (g : Gd P w K mg base "_law_shuffled" 3 d.cfg ["draw", "some"] (spShufD d)) : Gd P w K mg base "_law_shuffled" 3 d.cfg ["draw", "some"] (spShuffled d) := g.weak fun ds Φ ⟨xs, e, l, h⟩ => by
  refine ⟨D.ints xs, e, by rw [ints_len]; exact l, fun x hx => ?_, fun ys p => ?_⟩
  · unfold D.ints at hx
    obtain ⟨i, _, rfl⟩ := List.mem_map.mp hx
    exact ⟨rfl, rfl⟩
  · obtain ⟨zs, rfl, p2⟩ := ints_perm p
    exact h zs p2
/-! ### a drawn group -/
theorem listRg_perm {n : Nat} {ys : List Int} (h : ys.Perm (unitI n)) : Pm n ys := pm_of_perm h
/-- a group's data -/
structure GrpD (n : Nat) (G : List (List Int)) : Prop where
  g : Grp n G
  l : G.length ≤ 60
def spGroupOf (d : Dr) : DS := ⟨fun ds k => ∃ (x : Str) (n : Nat) (ms : List (List Int)), ds = [.obj d.a, .str x] ∧ (x, n, ms) ∈ namedG ∧ ∀ G, GrpD n G → k (.ret (.tup (perms G))),
  fun _ _ _ i ⟨x, n, ms, e, h1, h⟩ => ⟨x, n, ms, e, h1, fun G g => i _ (h G g)⟩⟩
abbrev sGroupOf : Stmt := top 43
theorem sc_group_of : FnScope ["draw", "name", "places", "lot", "by", "member"] ["draw", "name"] (defScope sGroupOf) := ⟨rfl, rfl, rfl, by decide +kernel, rfl, by decide +kernel, by decide +kernel⟩
theorem ok_group_of {d : Dr} {f : Addr} {fd : FuncData} (Fn : Fun K "_law_group_of" "_law_group_of" sGroupOf f fd) (T : Tx mg) (g1 : Gd P w K mg base "_law_makers" 1 c0 ["name"] spLMakers) (g2 : Gd P w K mg base "_law_shuffled" 3 d.cfg ["draw", "some"] (spShuffled d))
    (g3 : Gd P w K mg base "_law_closed" 2 c0 ["places", "lot"] spLClosed) (g4 : Gd P w K mg base "_law_then" 1 c0 ["one", "other"] spThenBy) (g5 : Gd P w K mg base "_law_back" 1 c0 ["one"] spLBack) :
    FnOk P w K mg base (L2.CX P w) 4 f fd ["draw", "name"] (SpD K d.cfg 2 (spGroupOf d)) := by
  refine defn (k := 3) (ps := ["draw", "name"]) Fn sc_group_of fun cdv A outer sh H E hr H0 B0 ds Φ hlw h R => ?_
  obtain ⟨x, n, ms, rfl, hx, h⟩ := h
  have nf := named_f hx
  refine ws_cons ?_
  refine ws_asg (vs := [2, 3]) ?_
  refine we_call R (g1.dfn hr (by decide)) rfl ?_
  walk_at "e"
  refine ⟨rfl, x, n, ms, rfl, hx, ?_⟩
  refine wg_two (i := 2) (j := 3) rfl sc_group_of.nd rfl rfl (.inl rfl) (.inl rfl) (show 2 < 6 by decide) (show 3 < 6 by decide) ?_
  refine ws_cons ?_
  refine ws_set (i := 4) sc_group_of.nd rfl (.inr rfl) (show 4 < 6 by decide) ?_
  refine we_callTy cr_tupN rfl T.tuple bb_tuple ?_
  refine wa_cons ?_
  refine we_callC R (g2.dfn hr (by decide)) rfl ?_
  walk_at "e"
  refine we_listRg rfl rfl T.list rfl T.range ?_
  walk_at "e"
  refine ⟨n, rfl, by have := nf.h5; omega, ?_⟩
  walk_at "e"
  refine ⟨rfl, unitI n, by rw [rng_ints]; rfl, by have := nf.h5; have : (unitI n).length = n := (pm_unit n).len; omega, fun ys hys => ?_⟩
  have pb : Pm n ys := listRg_perm hys
  refine wa_nil (cd_tupN ?_)
  refine ws_cons ?_
  refine ws_ret ?_
  refine we_call R (g3.dfn hr (by decide)) rfl ?_
  walk_at "e"
  refine we_newL (wn_map (i := 5) (fun x => .tup (D.ints (conjI ys (x.kids.map D.toI)))) rfl sc_group_of.nd (blkOk_by (N := ["draw", "name", "places", "lot", "by", "member"]) (sc := defScope sGroupOf) (by decide +kernel)) rfl (.inl rfl) (show 5 < 6 by decide) (wi_seqN (i := 3) rfl (by walk_at "vis") rfl (.inl rfl) ?_))
  refine ⟨(fun od zw => nomatch zw), by rw [perms_len]; have := nf.few; omega, rfl, fun j y hjw s1 H1 C1 cl1 fp1 => ?_, ?_⟩
  · obtain ⟨m, hm, rfl⟩ : ∃ m, m ∈ ms ∧ y = .tup (D.ints m) := by
      have z := List.mem_of_getElem? hjw
      unfold perms at z
      obtain ⟨m, hm, e⟩ := List.mem_map.mp z
      exact ⟨m, hm, e.symm⟩
    have pm := nf.pm m hm
    have fb := fct pb nf.h1 nf.h5
    have pbm := pm_then fb.pb pm
    have h5 := nf.h5
    refine we_call rs_blk (g4.dfn hr (by decide)) rfl ?_
    refine wa_cons ?_
    refine we_call rs_blk (g4.dfn hr (by decide)) rfl ?_
    refine wa_cons ?_
    refine we_call rs_blk (g5.dfn hr (by decide)) rfl ?_
    refine wa_cons (we_name (i := 4) rfl (by walk_at "vis") rfl (wa_nil ?_))
    refine ⟨rfl, ys, rfl, by rw [pb.len]; omega, by rw [pb.len]; exact pb, ?_⟩
    refine wa_cons (we_name (i := 5) rfl (by walk_at "vis") rfl (wa_nil ?_))
    rw [fb.lb]
    refine ⟨rfl, backI ys, m, rfl, by rw [fb.pb.len]; omega, ?_, ?_⟩
    · rw [pm.len]
      exact fb.pb.mb.ins
    refine wa_cons (we_weak (we_name (i := 4) rfl (by walk_at "vis") rfl ⟨_, rfl, wa_nil ?_⟩))
    refine ⟨rfl, thenI (backI ys) m, ys, rfl, by rw [pbm.len]; omega, ?_, rfl, ?_⟩
    · rw [pb.len]
      exact pbm.mb.ins
    · show D.tup (D.ints (conjI ys m)) = D.tup (D.ints (conjI ys ((D.ints m).map D.toI)))
      rw [ints_toI]
  · have e : (perms ms).map (fun x => D.tup (D.ints (conjI ys (x.kids.map D.toI)))) = perms (ms.map (conjI ys)) := by
      unfold perms
      rw [List.map_map, List.map_map]
      refine List.map_congr_left fun m hm => ?_
      show D.tup (D.ints (conjI ys ((D.ints m).map D.toI))) = D.tup (D.ints (conjI ys m))
      rw [ints_toI]
    rw [e]
    refine ⟨_, rfl, wa_nil ?_⟩
    refine ⟨rfl, n, ms.map (conjI ys), _, rfl, .inl rfl, nf.h1, nf.h5, by rw [List.length_map]; have := nf.few; omega, fun m hm => ?_, fun L cL => ?_⟩
    · obtain ⟨y, hy, rfl⟩ := List.mem_map.mp hm
      exact pm_conj nf.h1 nf.h5 pb (nf.pm y hy)
    · obtain ⟨g, l⟩ := conj_grp nf pb cL
      exact h L ⟨g, l⟩
/-! ### _law_group -/
omit [Wld] in
def grpNames : List Str := ["one", "two", "three", "s3", "s3", "four", "v4", "v4", "w4", "d4", "d4", "a4", "s4", "five", "six", "d5", "f20", "s3c2", "s3c2", "s3in5"]
omit [Wld] in
theorem names_in : grpNames.all (fun x => namedG.any fun p => decide (p.1 = x)) = true := by decide +kernel
theorem name_in {x : Str} (h : x ∈ grpNames) : ∃ n ms, (x, n, ms) ∈ namedG := by
  have q := List.all_eq_true.mp names_in x h
  obtain ⟨⟨y, n, ms⟩, hp, e⟩ := List.any_eq_true.mp q
  have e : y = x := of_decide_eq_true e
  subst e
  exact ⟨n, ms, hp⟩
def spGroup (d : Dr) : DS := ⟨fun ds k => ds = [.obj d.a] ∧ ∀ n G, GrpD n G → k (.ret (.tup (perms G))), fun _ _ _ i ⟨e, h⟩ => ⟨e, fun n G g => i _ (h n G g)⟩⟩
abbrev sGroup : Stmt := top 42
theorem sc_group : FnScope ["draw", "name"] ["draw"] (defScope sGroup) := ⟨rfl, rfl, rfl, by decide +kernel, rfl, by decide +kernel, by decide +kernel⟩
theorem ok_group {d : Dr} {f : Addr} {fd : FuncData} (Fn : Fun K "_law_group" "_law_group" sGroup f fd) (g1 : Gd P w K mg base "_law_pick" 3 d.cfg ["draw", "some"] (spPick d)) (g2 : Gd P w K mg base "_law_group_of" 4 d.cfg ["draw", "name"] (spGroupOf d)) :
    FnOk P w K mg base (L2.CX P w) 5 f fd ["draw"] (SpD K d.cfg 1 (spGroup d)) := by
  refine defn (k := 4) (ps := ["draw"]) Fn sc_group fun cdv A outer sh H E hr H0 B0 ds Φ hlw h R => ?_
  obtain ⟨rfl, h⟩ := h
  refine ws_cons ?_
  refine ws_set (i := 1) sc_group.nd rfl (.inl rfl) (show 1 < 2 by decide) ?_
  refine we_callC R (g1.dfn hr (by decide)) rfl ?_
  refine wa_cons (we_name (i := 0) rfl (by walk_at "vis") rfl ?_)
  walk_at "e"
  refine ⟨(by decide), ?_⟩
  walk_at "e"
  refine ⟨rfl, _, rfl, (by decide), (by decide), fun x hx => ?_⟩
  obtain ⟨y, hy, rfl⟩ := List.mem_map.mp (show x ∈ grpNames.map D.str from hx)
  obtain ⟨n, ms, hn⟩ := name_in hy
  refine ws_cons ?_
  refine ws_ret ?_
  refine we_callC R (g2.dfn hr (by decide)) rfl ?_
  walk_at "e"
  exact ⟨rfl, y, n, ms, rfl, hn, fun G g => h n G g⟩
end
end L2.Px
end
section
/-! DX2: dict([(key, value), ..]) with tuple keys -/
namespace L2.Px
open PySem PySem.Spec
open PyProof.Rows
variable [Wld]
section
variable {X : Cx} {F : Fm} {Γ : Gam} {Φ : D → Gam → Prop}
structure PrD (K : PySem.W.Frag) (B : Hp) (p : Addr) (q : D × Addr × V) : Prop where
  t : SqT K B p [.ref q.2.1, q.2.2]
  r : Rp K B (.ref q.2.1) q.1
  k : ∃ k, q.1.nk = some k ∧ k.depth ≤ 8
def rDictX (K : PySem.W.Frag) : List V → Hp → VK → Prop := fun vs H Q => ∃ (b : Addr) (ps : List Addr) (prs : List (D × Addr × V)) (B : Hp), vs = [.ref b] ∧ SqL K H b (ps.map V.ref) ∧ Ex B H ∧ Paired (PrD K B) ps prs ∧ ∀ p, H p = none → Q (.ref p) (upd H p (DO p))
theorem prd_at {pq : List (Addr × Obj)} {τ : St} {H B : Hp} {sh : Shared} (I : Inv X pq τ H sh) (eB : Ex B H) : ∀ {ps : List Addr} {prs : List (D × Addr × V)}, Paired (PrD X.K B) ps prs →
    ∃ xs : List (NK × Addr × Value), xs.length = ps.length ∧ ∀ (j : Nat) (x : NK × Addr × Value), xs[j]? = some x → ∃ p, ps[j]? = some p ∧ sh.heap.IsTuple p #[.ref x.2.1, x.2.2] ∧ NestedIs sh.heap x.1 (.ref x.2.1) ∧ x.1.depth ≤ 8
  | _, _, .nil => ⟨[], rfl, fun j x e => by cases e⟩
  | _, _, .cons (a := p) (b := q) r t => by
    obtain ⟨xs, hl, h⟩ := prd_at I eB t
    obtain ⟨k, ek, h8⟩ := r.k
    obtain ⟨its, rv, it, _⟩ := I.tuple (ex_t eB r.t)
    obtain ⟨u1, u2, rfl, r1, r2⟩ := vals2 rv
    cases (show u1 = Value.ref q.2.1 from r1)
    refine ⟨(k, q.2.1, u2) :: xs, by rw [List.length_cons, List.length_cons, hl], fun j x e => ?_⟩
    cases j with
    | zero =>
      cases e
      obtain ⟨o, ho, hc, n, hd⟩ := it
      exact ⟨p, rfl, ⟨o, ho, hc, n, hd⟩, rp_nk I eB q.1 k _ _ r.r ek (show RelV (V.ref q.2.1) (Value.ref q.2.1) from rfl), h8⟩
    | succ j =>
      obtain ⟨p', e1, e2⟩ := h j x e
      exact ⟨p', e1, e2⟩
theorem cr_dictX {k : Nat} (hr : Room k X.A) : CallR X (.type "dict") (rDictX X.K) := by
  intro pq s τ H xs us Q I r h
  obtain ⟨b, ps, prs, B, rfl, hq, eB, hp, q⟩ := h
  obtain ⟨u, rfl, rx⟩ := vals1 r
  cases (show u = Value.ref b from rx)
  obtain ⟨its, rv, ⟨o, n, ho, hc, hd, hdat⟩, hz⟩ := I.list hq
  have ei := refs_at rv
  subst ei
  obtain ⟨ks, hl, hk⟩ := prd_at I eB hp
  have hlen : (ks.map fun x => (Value.ref x.2.1, x.2.2)).length = ks.length := List.length_map ..
  refine call_dict_pairsH (knd := nestedKind X.prog X.w) (ps := ks) (PairArg.list b (ps.map Value.ref).toArray (fun j => ps.getD j 0) (ks.map fun x => (Value.ref x.2.1, x.2.2))) hr.hd (by
      show X.A.in1.in1.units + 8 < cLine
      have := hr.un
      have e : X.A.in1.in1.units = X.A.units + 2 := rfl
      omega) ⟨⟨o, n, ho, hc, hd, hdat⟩, by rw [hlen, hl]; simp, fun j k v e => ?_⟩ ⟨by rw [hlen], fun i key v e => ?_⟩ (fun h' hk' x hx => ?_) (by rw [hlen, hl]; rw [List.length_map] at hz; exact hz) fun h' tk hd' hkeep => ?_
  · rw [List.getElem?_map] at e
    cases ek : ks[j]? with
    | none =>
      rw [ek] at e
      cases e
    | some x =>
      rw [ek] at e
      cases e
      obtain ⟨p, e1, e2, _⟩ := hk j x ek
      have e3 : ps.getD j 0 = p := by rw [List.getD_eq_getElem?_getD, e1]; rfl
      dsimp only
      rw [e3]
      exact ⟨by simp [e1], .inl e2⟩
  · have e : (ks.map fun x => (Value.ref x.2.1, x.2.2))[i]? = some (key, v) := e
    rw [List.getElem?_map] at e
    cases ek : ks[i]? with
    | none =>
      rw [ek] at e
      cases e
    | some x =>
      rw [ek] at e
      cases e
      exact ⟨x.1, x.2.1, rfl, rfl⟩
  · obtain ⟨j, hj, rfl⟩ := List.getElem_of_mem hx
    obtain ⟨p, _, _, e3, e4⟩ := hk j _ (List.getElem?_eq_getElem hj)
    exact ⟨NestedIs.at (fun a o vs n e _ => hk' a o (Nat.ne_of_lt (Heap.lt_size e)) (by simp) e) _ _ e3, e4⟩
  · obtain ⟨od, es, ep, e1, e2, _⟩ := hd'
    exact ⟨.ref s.heap.objs.size, upd H s.heap.objs.size (DO s.heap.objs.size), I.laid (t' := tk) (fun b o e => hkeep b o (by simp) e) (Nat.le_refl _) ⟨⟨od, e1, e2.1⟩, ⟨od, e1⟩, fun _ _ ⟨o, e, c⟩ k => ⟨o, k o e, c⟩⟩, rfl, q _ (I.hok.fresh (Nat.le_refl _))⟩
/-- the pairs, of data -/
theorem prd_of {K : PySem.W.Frag} {B : Hp} : ∀ {ds : List D} {vs : List V}, (∀ d ∈ ds, ∃ k v n, d = .tup [.tup k, v] ∧ (D.tup k).nk = some n ∧ n.depth ≤ 8) → RpA K B vs ds → ∃ (ps : List Addr) (prs : List (D × Addr × V)), vs = ps.map V.ref ∧ Paired (PrD K B) ps prs
  | [], _, _, h => by
    cases h
    exact ⟨[], [], rfl, .nil⟩
  | d :: ds, _, hd, h => by
    cases h with
    | cons r t =>
      obtain ⟨ps, prs, rfl, pr⟩ := prd_of (fun y hy => hd y (List.mem_cons_of_mem _ hy)) t
      obtain ⟨k, v, n, rfl, en, hn⟩ := hd d List.mem_cons_self
      cases r with
      | @tup b xs _ hb hr =>
        cases hr with
        | cons r1 r2 =>
          cases r2 with
          | cons r3 r4 =>
            cases r4
            cases r1 with
            | @tup a ys _ ha hy => exact ⟨b :: ps, (.tup k, a, _) :: prs, rfl, .cons ⟨.inl hb, .tup ha hy, n, en, hn⟩ pr⟩
theorem cd_dictX {K : PySem.W.Frag} {ds : List D} {Ψ : D → Prop} (hd : ∀ d ∈ ds, ∃ k v n, d = .tup [.tup k, v] ∧ (D.tup k).nk = some n ∧ n.depth ≤ 8) (h : Ψ .dix) : CallD K (rDictX K) [.lst ds] Ψ := by
  intro F _ Γ B τ H vs sh r Q qw
  cases r with
  | cons r1 r2 =>
    cases r2
    cases r1 with
    | @lst b ys _ hsa ha =>
      obtain ⟨ps, prs, rfl, pr⟩ := prd_of hd ha
      refine ⟨b, ps, prs, B, rfl, SqL.of (sh.bH _ _ hsa).1, fun a o e => (sh.bH a o e).1, pr, fun p hp => ?_⟩
      exact qw _ _ _ _ h (sh.frozen (o := DO p) hp) (.dix upd_same)
end
end L2.Px
end
section
/-! KB: values near to groups, odd values -/
namespace L2.Px
open PySem PySem.Spec
open PyProof.Rows
variable [Wld]
local macro_rules | `(tactic| walk_at "vis") => `(tactic| first | exact .inl rfl | exact .inr (.inl rfl) | exact .inr (.inr rfl))
local macro_rules | `(tactic| walk_at "n") => `(tactic| first
  | refine we_name (i := 0) rfl (by walk_at "vis") rfl ?_
  | refine we_name (i := 1) rfl (by walk_at "vis") rfl ?_
  | refine we_name (i := 2) rfl (by walk_at "vis") rfl ?_
  | refine we_name (i := 3) rfl (by walk_at "vis") rfl ?_
  | refine we_name (i := 4) rfl (by walk_at "vis") rfl ?_
  | refine we_name (i := 5) rfl (by walk_at "vis") rfl ?_
  | refine we_name (i := 6) rfl (by walk_at "vis") rfl ?_
  | refine we_name (i := 7) rfl (by walk_at "vis") rfl ?_
  | refine we_name (i := 8) rfl (by walk_at "vis") rfl ?_
  | refine we_name (i := 9) rfl (by walk_at "vis") rfl ?_)
local macro_rules | `(tactic| walk_at "e1") => `(tactic| first
  | ((with_reducible show (if _ then _ else _)); first | refine itT ?_ | refine itF ?_)
  | ((with_reducible show WE _ _ (.Name _ _) _ _); walk_at "n")
  | ((with_reducible show WE _ _ (.Constant (.int _) _ _) _ _); refine we_int ?_)
  | ((with_reducible show WE _ _ (.Constant (.str _) _ _) _ _); refine we_str ?_)
  | ((with_reducible show WE _ _ (.Constant (.bool _) _ _) _ _); refine we_bl ?_)
  | ((with_reducible show WE _ _ (.Constant .none _ _) _ _); refine we_non ?_)
  | ((with_reducible show WA _ _ (_ :: _) _ _); refine wa_cons ?_)
  | ((with_reducible show WA _ _ [] _ _); refine wa_nil ?_)
  | ((with_reducible show WE _ _ (.BoolOp _ [_] _) _ _); refine we_one ?_)
  | ((with_reducible show WE _ _ (.BoolOp .And _ _) _ _); refine we_and ?_)
  | ((with_reducible show WE _ _ (.BoolOp .Or _ _) _ _); refine we_or ?_)
  | ((with_reducible show WE _ _ (.UnaryOp .Not _ _) _ _); refine we_not ?_)
  | ((with_reducible show WE _ _ (.IfExp _ _ _ _) _ _); refine we_ifExp ?_)
  | ((with_reducible show WE _ _ (.Tuple _ _ _) _ _); refine we_tup ?_)
  | ((with_reducible show WE _ _ (.List _ _) _ _); refine we_lst ?_)
  | ((with_reducible show WE _ _ (.BinOp _ .Add _ _) _ _); refine we_add ?_)
  | ((with_reducible show WE _ _ (.BinOp _ .Sub _ _) _ _); refine we_sub ?_)
  | ((with_reducible show WE _ _ (.BinOp _ .Mult _ _) _ _); refine we_mul ?_)
  | ((with_reducible show WE _ _ (.BinOp _ .Mod _ _) _ _); refine we_mod ?_)
  | ((with_reducible show WE _ _ (.BinOp _ .FloorDiv _ _) _ _); refine we_fdiv ?_)
  | ((with_reducible show WE _ _ (.BinOp _ .Pow _ _) _ _); refine we_pow ?_)
  | ((with_reducible show WT _ _ (.UnaryOp .Not _ _) _ _); refine wt_not ?_)
  | ((with_reducible show WT _ _ (.BoolOp .And _ _) _ _); refine wt_ww (ww_and ?_))
  | ((with_reducible show WT _ _ (.BoolOp .Or _ _) _ _); refine wt_ww (ww_or ?_))
  | ((with_reducible show WW _ _ (.BoolOp .And [_] _) _ _); refine ww_and1 ?_)
  | ((with_reducible show WW _ _ (.BoolOp .Or [_] _) _ _); refine ww_or1 ?_)
  | ((with_reducible show WW _ _ (.BoolOp .And _ _) _ _); refine ww_and ?_)
  | ((with_reducible show WW _ _ (.BoolOp .Or _ _) _ _); refine ww_or ?_)
  | ((with_reducible show WSs _ _ (_ :: _) _ _); refine ws_cons ?_)
  | ((with_reducible show WSs _ _ [] _ _); refine ws_nil ?_)
  | ((with_reducible show WS _ _ (.Return (some _) _) _ _); refine ws_ret ?_)
  | ((with_reducible show WS _ _ (.If _ _ _ _) _ _); refine ws_if ?_)
  | ((with_reducible show WT _ _ (.Call _ _ _ _) _ _); refine wt_val ?_)
  | ((with_reducible show WT _ _ (.Name _ _) _ _); refine wt_val ?_))
local macro_rules | `(tactic| walk_at "e") => `(tactic| repeat' walk_at "e1")
local macro_rules | `(tactic| walk_at "d1") => `(tactic| first
  | walk_at "e1"
  | ((with_reducible show WE _ _ (.UnaryOp .USub _ _) _ _); refine we_neg ?_)
  | ((with_reducible show WE _ _ (.Dict [] [] _) _ _); refine we_dict0 ?_)
  | ((with_reducible show WE _ _ (.Dict [_] _ _) _ _); refine we_dict1 ?_)
  | ((with_reducible show _ ≤ _ ∧ _); refine ⟨Nat.le_of_ble_eq_true rfl, ?_⟩)
  | ((with_reducible show ∃ i, D.int _ = D.int i ∧ _); refine ⟨_, rfl, ?_⟩)
  | ((with_reducible show ∃ i j, D.int _ = D.int i ∧ D.int _ = D.int j ∧ _); refine ⟨_, _, rfl, rfl, ?_⟩)
  | ((with_reducible show WE _ _ (.Call (.Name (Str.ofString "len") _) [Expr.Name _ _] [] _) _ _); refine we_callB cr_lenX rfl (Tx.len ‹Tx _›) bb_len ?_; walk_at "e"; refine cd_len (.inr rfl) ?_))
local macro_rules | `(tactic| walk_at "d") => `(tactic| repeat' walk_at "d1")

/-! ### what may be asked of any value -/
omit [Wld] in
def eleB (x : D) : Bool := x.fl 59 && (x.plainTy && (decide (x.kids.length ≤ 1000) && x.kids.all D.plainTy))
omit [Wld] in
def okBb : D → Bool
  | .tup xs => decide (xs.length ≤ 1000) && xs.all eleB
  | d => d.plainTy
structure Ele (x : D) : Prop where
  f : x.fl 59 = true
  p : x.plainTy = true
  l : x.kids.length ≤ 1000
  k : ∀ y ∈ x.kids, y.plainTy = true
theorem ele_of {x : D} (h : eleB x = true) : Ele x := by
  unfold eleB at h
  simp only [Bool.and_eq_true, decide_eq_true_eq, List.all_eq_true] at h
  exact ⟨h.1, h.2.1, h.2.2.1, h.2.2.2⟩
theorem Ele.b {x : D} (h : Ele x) : eleB x = true := by
  unfold eleB
  simp only [Bool.and_eq_true, decide_eq_true_eq, List.all_eq_true]
  exact ⟨h.f, h.p, h.l, h.k⟩
theorem Ele.okT {x : D} (h : Ele x) : x.okT := ⟨h.p, fun ys e => by
  subst e
  exact ⟨h.l, h.k⟩⟩
theorem flA_in {n : Nat} : ∀ {xs : List D}, D.flA xs n = true → ∀ x ∈ xs, x.fl n = true
  | [], _, x, h => by cases h
  | y :: ys, h, x, hx => by
    have q : y.fl n = true ∧ D.flA ys n = true := by
      have z : (y.fl n && D.flA ys n) = true := h
      simpa using z
    rcases List.mem_cons.mp hx with rfl | hx
    · exact q.1
    · exact flA_in q.2 x hx
theorem Ele.okL {x : D} (h : Ele x) : x.okL := ⟨h.okT, fun ys e => by
  subst e
  exact flA_mem fun y hy => fl_up _ _ (flA_in (show D.flA ys 58 = true from h.f) y hy)⟩
structure OkB (d : D) : Prop where
  g : d.okG
  l : d.okGL
theorem okB_tup {xs : List D} (l : xs.length ≤ 1000) (h : ∀ x ∈ xs, Ele x) : OkB (.tup xs) := by
  refine ⟨⟨rfl, fun ys e => ?_⟩, ⟨rfl, fun ys e => ?_⟩⟩
  · cases e
    exact ⟨l, fun x hx => (h x hx).okT⟩
  · cases e
    exact ⟨l, flA_mem fun x hx => (h x hx).f, fun x hx => (h x hx).okL⟩
theorem okB_of {d : D} (h : okBb d = true) : OkB d := by
  cases d with
  | tup xs =>
    have h : (decide (xs.length ≤ 1000) && xs.all eleB) = true := h
    simp only [Bool.and_eq_true, decide_eq_true_eq, List.all_eq_true] at h
    exact okB_tup h.1 fun x hx => ele_of (h.2 x hx)
  | _ => first | exact ⟨⟨h, fun ys e => nomatch e⟩, ⟨h, fun ys e => nomatch e⟩⟩ | cases h
theorem ele_ints {a : List Int} (h : a.length ≤ 1000) : Ele (.tup (D.ints a)) := ⟨ints_fl a 58, rfl, by rw [show (D.tup (D.ints a)).kids = D.ints a from rfl, ints_len]; exact h, fun y hy => by
  obtain ⟨i, _, rfl⟩ := List.mem_map.mp (show y ∈ a.map D.int from hy)
  rfl⟩
theorem ele_lints {a : List Int} (h : a.length ≤ 1000) : Ele (.lst (D.ints a)) := ⟨ints_fl a 58, rfl, by rw [show (D.lst (D.ints a)).kids = D.ints a from rfl, ints_len]; exact h, fun y hy => by
  obtain ⟨i, _, rfl⟩ := List.mem_map.mp (show y ∈ a.map D.int from hy)
  rfl⟩
section
variable {P : Program} {w : World} {K : PySem.W.Frag} {mg : Str → Option Value} {base : Heap}
def spOddB (d : Dr) : DS := ⟨fun ds k => ds = [.obj d.a] ∧ ∀ x : D, OkB x → k (.ret x), fun _ _ _ i ⟨e, h⟩ => ⟨e, fun x zw => i _ (h x zw)⟩⟩
theorem ok_oddB {d : Dr} {f : Addr} {fd : FuncData} (Fn : Fun K "_law_odd" "_law_odd" sOdd f fd) (g1 : Gd P w K mg base "_law_pick" 3 d.cfg ["draw", "some"] (spPick d)) : FnOk P w K mg base (L2.CX P w) 4 f fd ["draw"] (SpD K d.cfg 1 (spOddB d)) := by
  refine defn (k := 3) (ps := ["draw"]) Fn sc_odd fun cdv A outer sh H E hr H0 B0 ds Φ hlw h R => ?_
  obtain ⟨rfl, h⟩ := h
  refine ws_cons ?_
  walk_at "e"
  refine we_callC R (g1.dfn hr (by decide)) rfl ?_
  walk_at "d"
  refine ⟨rfl, _, rfl, Nat.le_of_ble_eq_true rfl, Nat.le_of_ble_eq_true rfl, fun x hxw => h x (okB_of ?_)⟩
  simp only [List.mem_cons, List.not_mem_nil, or_false] at hxw
  rcases hxw with rfl | rfl | rfl | rfl | rfl | rfl | rfl | rfl | rfl | rfl | rfl | rfl | rfl | rfl | rfl | rfl | rfl
  all_goals rfl
/-! ### _law_bent -/
def cutA {α : Type} (l : List α) (lo hi : Option Int) : List α := (l.drop (HT.sIx l.length 0 lo)).take (HT.sIx l.length l.length hi - HT.sIx l.length 0 lo)
theorem cut_perms (G : List (List Int)) (lo hi : Option Int) : cutD (perms G) lo hi = perms (cutA G lo hi) := by
  unfold cutD cutA
  rw [perms_len]
  unfold perms
  rw [← List.map_drop, ← List.map_take]
theorem cutA_mem {α : Type} {l : List α} {lo hi : Option Int} {x : α} (h : x ∈ cutA l lo hi) : x ∈ l := List.mem_of_mem_drop (List.mem_of_mem_take h)
theorem cutA_len {α : Type} (l : List α) (lo hi : Option Int) : (cutA l lo hi).length ≤ l.length := by
  unfold cutA
  rw [List.length_take, List.length_drop]
  omega
theorem perms_app (a b : List (List Int)) : perms (a ++ b) = perms a ++ perms b := List.map_append ..
theorem ele_perms {n : Nat} {L : List (List Int)} (h : ∀ a ∈ L, a.length = n) (h5 : n ≤ 5) : ∀ x ∈ perms L, Ele x := fun x hx => by
  obtain ⟨a, ha, rfl⟩ := List.mem_map.mp (show x ∈ L.map _ from hx)
  exact ele_ints (by rw [h a ha]; omega)
def spBent (d : Dr) : DS := ⟨fun ds k => ∃ (n : Nat) (G : List (List Int)), ds = [.obj d.a, .tup (perms G)] ∧ GrpD n G ∧ ∀ x : D, OkB x → k (.ret x), fun _ _ _ i ⟨n, G, e, g, h⟩ => ⟨n, G, e, g, fun x zw => i _ (h x zw)⟩⟩
abbrev sBent : Stmt := top 44
theorem sc_bent : FnScope ["draw", "group", "at", "near", "some", "found", "member"] ["draw", "group"] (defScope sBent) := ⟨rfl, rfl, rfl, by decide +kernel, rfl, by decide +kernel, by decide +kernel⟩
theorem ok_bent {d : Dr} {f : Addr} {fd : FuncData} (Fn : Fun K "_law_bent" "_law_bent" sBent f fd) (T : Tx mg) (g0 : Gd P w K mg base "_law_take" 2 d.cfg ["draw", "amount"] (spTake d)) (g1 : Gd P w K mg base "_law_pick" 3 d.cfg ["draw", "some"] (spPick d)) (g2 : Gd P w K mg base "_law_shuffled" 3 d.cfg ["draw", "some"] (spShuffled d)) :
    FnOk P w K mg base (L2.CX P w) 4 f fd ["draw", "group"] (SpD K d.cfg 2 (spBent d)) := by
  refine defn (k := 3) (ps := ["draw", "group"]) Fn sc_bent fun cdv A outer sh H E hr H0 B0 ds Φ hlw h R => ?_
  obtain ⟨n, G, rfl, ⟨g, g60⟩, h⟩ := h
  have le := perms_len G
  have h5 := g.h5
  have len : ∀ a ∈ G, a.length = n := fun a ha => (g.pm a ha).len
  obtain ⟨G', hG⟩ := g.head
  have pos : 1 ≤ G.length := by rw [hG, List.length_cons]; omega
  refine ws_cons ?_
  refine ws_set (i := 2) sc_bent.nd rfl (.inl rfl) (show 2 < 7 by decide) ?_
  refine we_callC R (g0.dfn hr (by decide)) rfl ?_
  walk_at "d"
  refine ⟨rfl, (G.length : Nat), by rw [le], by omega, by omega, fun r hr2 => ?_⟩
  have hr3 : r < G.length := by omega
  have pm := g.pm G[r] (List.getElem_mem hr3)
  refine ws_cons ?_
  refine ws_set (i := 3) sc_bent.nd rfl (.inl rfl) (show 3 < 7 by decide) ?_
  refine we_callTy cr_tupX rfl T.tuple bb_tuple ?_
  refine wa_cons ?_
  refine we_callC R (g2.dfn hr (by decide)) rfl ?_
  walk_at "d"
  refine we_callTy cr_listX rfl T.list bb_list ?_
  refine wa_cons ?_
  refine we_ix ?_
  walk_at "d"
  refine od_ix (.inr rfl) (at_perms (List.getElem?_eq_getElem hr3)) ?_
  walk_at "d"
  refine cd_list (.inr rfl) ?_
  walk_at "d"
  refine ⟨rfl, G[r], rfl, by rw [pm.len]; omega, fun ys hys => ?_⟩
  have py : Pm n ys := pm_of_perm (hys.trans pm.perm)
  walk_at "d"
  refine cd_tuple (.inl rfl) ?_
  refine ws_cons ?_
  refine ws_set (i := 4) sc_bent.nd rfl (.inl rfl) (show 4 < 7 by decide) ?_
  have l1 := cutA_len G none (some (r : Int))
  have l2 := cutA_len G (some ((r : Int) + 1)) none
  have e1 : ∀ a ∈ cutA G none (some (r : Int)), a.length = n := fun a ha => len a (cutA_mem ha)
  have e2 : ∀ a ∈ cutA G (some ((r : Int) + 1)) none, a.length = n := fun a ha => len a (cutA_mem ha)
  refine we_lst ?_
  refine wa_cons ?_
  refine we_add ?_
  refine we_slice ?_
  walk_at "d"
  unfold WO
  walk_at "d"
  refine ⟨_, .inr ⟨rfl, ?_⟩⟩
  rw [cut_perms]
  refine we_slice ?_
  walk_at "d"
  unfold WO
  refine we_add ?_
  walk_at "d"
  refine od_add ⟨_, rfl, ?_⟩
  refine ⟨_, .inr ⟨rfl, ?_⟩⟩
  rw [cut_perms]
  refine od_catT (by rw [perms_len, perms_len]; omega) ?_
  rw [← perms_app]
  refine wa_cons ?_
  refine we_callTy cr_tupX rfl T.tuple bb_tuple ?_
  refine wa_cons ?_
  refine we_callB (cr_sortD hr) rfl T.sorted bb_sorted ?_
  refine wa_cons ?_
  refine we_add ?_
  refine we_add ?_
  refine we_slice ?_
  walk_at "d"
  unfold WO
  walk_at "d"
  refine ⟨_, .inr ⟨rfl, ?_⟩⟩
  rw [cut_perms]
  walk_at "d"
  refine od_catT (by rw [perms_len]; show _ + 1 ≤ _; omega) ?_
  refine we_slice ?_
  walk_at "d"
  unfold WO
  refine we_add ?_
  walk_at "d"
  refine od_add ⟨_, rfl, ?_⟩
  refine ⟨_, .inr ⟨rfl, ?_⟩⟩
  rw [cut_perms]
  have en : perms (cutA G none (some (r : Int))) ++ [D.tup (D.ints ys)] = perms (cutA G none (some (r : Int)) ++ [ys]) := by
    rw [perms_app]
    rfl
  rw [en]
  refine od_catT (by rw [perms_len, perms_len, List.length_append]; show _ + 1 + _ ≤ _; omega) ?_
  rw [← perms_app]
  refine wa_nil ?_
  have e3 : ∀ a ∈ (cutA G none (some (r : Int)) ++ [ys]) ++ cutA G (some ((r : Int) + 1)) none, a.length = n := fun a ha => by
    rcases List.mem_append.mp ha with z | z
    · rcases List.mem_append.mp z with z | z
      · exact e1 a z
      · rw [List.mem_singleton.mp z]
        exact py.len
    · exact e2 a z
  have l3 : ((cutA G none (some (r : Int)) ++ [ys]) ++ cutA G (some ((r : Int) + 1)) none).length ≤ 121 := by
    rw [List.length_append, List.length_append]
    show _ + 1 + _ ≤ _
    omega
  refine cd_sorted (.inr rfl) (srtOk_perms (n := n) g.h1 e3 (by omega)) ?_
  rw [srt_perms]
  refine wa_nil (cd_tuple (.inl rfl) ?_)
  refine wa_cons ?_
  refine we_revT ?_
  walk_at "d"
  refine ⟨_, rfl, ?_⟩
  refine wa_cons ?_
  refine we_callTy cr_listX rfl T.list bb_list ?_
  walk_at "d"
  refine cd_list (.inr rfl) ?_
  refine wa_cons ?_
  refine we_add ?_
  walk_at "d"
  refine we_ix ?_
  walk_at "d"
  refine od_ix (.inr rfl) (d := .tup (D.ints (G[G.length - 1]'(by omega)))) ?_ ?_
  · unfold L2.atI ixN
    rw [if_neg (by omega), if_pos (by rw [le]; omega)]
    show (perms G)[((-1 : Int) + ((perms G).length : Nat)).toNat]? = _
    have e : ((-1 : Int) + ((perms G).length : Nat)).toNat = G.length - 1 := by rw [le]; omega
    rw [e]
    unfold perms
    rw [List.getElem?_map, List.getElem?_eq_getElem (by omega)]
    rfl
  walk_at "d"
  have E0 : ∀ x ∈ perms G, Ele x := ele_perms len h5
  have E1 : ∀ x ∈ perms (cutA G none (some (r : Int))), Ele x := ele_perms e1 h5
  have E2 : ∀ x ∈ perms (cutA G (some ((r : Int) + 1)) none), Ele x := ele_perms e2 h5
  have app : ∀ {xs ys : List D}, (∀ x ∈ xs, Ele x) → (∀ x ∈ ys, Ele x) → ∀ x ∈ xs ++ ys, Ele x := fun a b x hx => (List.mem_append.mp hx).elim (a x) (b x)
  have one : ∀ {y : D}, Ele y → ∀ x ∈ [y], Ele x := fun h x hx => by
    rw [List.mem_singleton.mp hx]
    exact h
  have EL : Ele (.tup (D.ints (G[G.length - 1]'(by omega)))) := ele_ints (by rw [len _ (List.getElem_mem _)]; omega)
  refine od_catT (by rw [le]; show _ + 1 ≤ _; omega) ?_
  walk_at "d"
  refine ws_set (i := 5) sc_bent.nd rfl (.inl rfl) (show 5 < 7 by decide) ?_
  refine we_callC R (g1.dfn hr (by decide)) rfl ?_
  refine wa_cons (we_name (i := 0) rfl (by walk_at "vis") rfl ?_)
  refine wa_cons ?_
  refine we_add ?_
  walk_at "d"
  refine we_slice ?_
  walk_at "d"
  unfold WO
  walk_at "d"
  refine ⟨_, .inr ⟨rfl, ?_⟩⟩
  rw [cut_perms]
  walk_at "d"
  refine od_catT (by rw [perms_len]; show _ + 1 ≤ _; omega) ?_
  refine we_slice ?_
  walk_at "d"
  unfold WO
  refine we_add ?_
  walk_at "d"
  refine od_add ⟨_, rfl, ?_⟩
  refine ⟨_, .inr ⟨rfl, ?_⟩⟩
  rw [cut_perms]
  refine od_catT (by rw [List.length_append, perms_len, perms_len]; show _ + 1 + _ ≤ _; omega) ?_
  walk_at "d"
  refine od_cat (Nat.le_of_ble_eq_true rfl) ?_
  refine wa_nil ⟨rfl, _, rfl, Nat.le_of_ble_eq_true rfl, Nat.le_of_ble_eq_true rfl, fun x hx => ?_⟩
  have hB : OkB x := by
    simp only [List.cons_append, List.nil_append, List.mem_cons, List.not_mem_nil, or_false] at hx
    rcases hx with rfl | rfl | rfl | rfl | rfl | rfl | rfl | rfl
    · refine okB_tup ?_ (ele_perms (n := n) (fun a ha => (List.mem_append.mp ha).elim (e1 a) (e2 a)) h5)
      rw [perms_len, List.length_append]
      omega
    · refine okB_tup ?_ (ele_perms (n := n) (fun a ha => e3 a ((List.mergeSort_perm _ _).mem_iff.mp ha)) h5)
      rw [perms_len, List.length_mergeSort]
      omega
    · exact okB_tup (by rw [List.length_reverse, le]; omega) fun x hx => E0 x (List.mem_reverse.mp hx)
    · exact okB_of rfl
    · refine okB_tup (by rw [List.length_append, le]; show _ + 1 ≤ _; omega) (app E0 (one EL))
    · exact okB_of rfl
    · exact okB_of rfl
    · refine okB_tup ?_ (app (app E1 (one (ele_lints (a := [0]) (by decide)))) E2)
      rw [List.length_append, List.length_append, perms_len, perms_len]
      show _ + 1 + _ ≤ _
      omega
  clear hx
  refine ws_cons ?_
  refine ws_ret ?_
  refine we_callC R (g1.dfn hr (by decide)) rfl ?_
  refine wa_cons (we_name (i := 0) rfl (by walk_at "vis") rfl ?_)
  refine wa_cons ?_
  refine we_lst ?_
  refine wa_cons (we_name (i := 5) rfl (by walk_at "vis") rfl ?_)
  refine wa_cons (we_name (i := 5) rfl (by walk_at "vis") rfl ?_)
  refine wa_cons ?_
  refine we_callTy cr_tupX rfl T.tuple bb_tuple ?_
  refine wa_cons ?_
  refine we_newL (wn_map (i := 6) (fun x => .lst x.kids) rfl sc_bent.nd (blkOk_by (N := ["draw", "group", "at", "near", "some", "found", "member"]) (sc := defScope sBent) (by decide +kernel)) rfl (.inl rfl) (show 6 < 7 by decide) (wi_seqN (i := 1) rfl (by walk_at "vis") rfl (.inr rfl) ?_))
  refine ⟨(fun od zw => nomatch zw), by rw [le]; omega, rfl, fun j x hjw s1 H1 C1 cl1 fp1 => ?_, ?_⟩
  · obtain ⟨a, ha, rfl⟩ := List.mem_map.mp (show x ∈ G.map _ from List.mem_of_getElem? hjw)
    refine we_callTy cr_listX rfl T.list bb_list ?_
    walk_at "d"
    refine cd_list (.inr rfl) ⟨rfl, rfl⟩
  refine ⟨_, rfl, wa_nil (cd_tuple (.inl rfl) ?_)⟩
  refine wa_cons ?_
  refine we_callTy (cr_dictX hr) rfl T.dict bb_dict ?_
  refine wa_cons ?_
  refine we_newL (wn_map (i := 6) (fun x => .tup [x, .int 1]) rfl sc_bent.nd (blkOk_by (N := ["draw", "group", "at", "near", "some", "found", "member"]) (sc := defScope sBent) (by decide +kernel)) rfl (.inl rfl) (show 6 < 7 by decide) (wi_seqN (i := 1) rfl (by walk_at "vis") rfl (.inr rfl) ?_))
  refine ⟨(fun od zw => nomatch zw), by rw [le]; omega, rfl, fun j x hjw s1 H1 C1 cl1 fp1 => ?_, ?_⟩
  · walk_at "d"
    exact ⟨rfl, rfl⟩
  refine ⟨_, rfl, wa_nil (cd_dictX (fun dd hdd => ?_) ?_)⟩
  · obtain ⟨y, hy, rfl⟩ := List.mem_map.mp hdd
    obtain ⟨a, ha, rfl⟩ := List.mem_map.mp (show y ∈ G.map _ from hy)
    exact ⟨_, _, nkI a, rfl, nk_perm a, nkI_depth a⟩
  refine wa_cons ?_
  refine we_add ?_
  walk_at "d"
  refine od_catT (by rw [le]; show _ + 1 ≤ _; omega) ?_
  walk_at "d"
  refine ⟨rfl, _, rfl, Nat.le_of_ble_eq_true rfl, Nat.le_of_ble_eq_true rfl, fun y hy => h y ?_⟩
  simp only [List.mem_cons, List.not_mem_nil, or_false] at hy
  rcases hy with rfl | rfl | rfl | rfl | rfl | rfl | rfl
  · exact hB
  · exact hB
  · refine okB_tup (by rw [List.length_map, le]; omega) fun z hz => ?_
    obtain ⟨y, hy, rfl⟩ := List.mem_map.mp hz
    obtain ⟨a, ha, rfl⟩ := List.mem_map.mp (show y ∈ G.map _ from hy)
    exact ele_lints (by rw [len a ha]; omega)
  · exact okB_of rfl
  · exact okB_tup (by rw [List.length_append, le]; show _ + 1 ≤ _; omega) (app E0 (one (ele_ints (a := [0]) (by decide))))
  · exact okB_of rfl
  · exact okB_of rfl
end
end L2.Px
end
section
/-! CA: lambdas of the law: configuration, isinstance of what is caught, a lambda that appends to a list of the frame -/
namespace L2.Px
open PySem PySem.Spec
open PyProof.Rows LamX
variable [Wld]
theorem lcfg {d : Dr} {Pt : Addr} {q : Str} (hin : (Pt, q) ∈ d.T) : LCfg d.cfg d.T Pt q := by
  refine ⟨fun H g => ?_, .inr (.inr (.inr ⟨_, hin, rfl⟩)), fun H H1 c' g L => ?_⟩
  · obtain ⟨_, _, xs, r, t, g⟩ := g
    exact g.tab
  · obtain ⟨ne, hlw, xs, r, t, g⟩ := g
    obtain ⟨ps, hP, _⟩ := g.tab _ hin
    have hP : H Pt = some (.tbl ps) := hP
    have ne1 : ∀ a o, H a = some o → (∀ ps, o ≠ .tbl ps) → a ≠ Pt := fun a o e n w => by
      rw [w, hP] at e
      exact n ps (Option.some.inj e).symm
    exact ⟨ne, hlw, xs, r, t, ⟨L.old _ _ g.dic (ne1 _ _ g.dic fun _ w => nomatch w), L.old _ _ g.lar (ne1 _ _ g.lar fun _ w => nomatch w), L.old _ _ g.cel (ne1 _ _ g.cel fun _ w => nomatch w), L.tabs⟩⟩
structure FunC (K : PySem.W.Frag) (x qual : Str) (st : Stmt) (f : Addr) (fd : FuncData) (c : Addr) : Prop where
  ex : ∃ (oc : Value) (od : Option Addr) (kV doc pm : Value) (an : Option Addr) (ct : Value) (osl : Array (Option Value)),
    fd = PySem.W.fnOf x qual (defArgs st) (defBody st) (defScope st) .none kV doc pm an (.ref c) ct ∧ K.lookup f = some ⟨oc, od, .func fd, osl⟩ ∧ PySem.W.codeIn K (.ref c) qual = true
theorem defnC {P : Program} {w : World} {K : PySem.W.Frag} {mg : Str → Option Value} {base : Heap} {x qual : Str} {st : Stmt} {f cc : Addr} {fd : FuncData} {N ps : List Str} {k : Nat} {sp : DS} {c : Cfg} (Fn : FunC K x qual st f fd cc) (S : FnScope N ps (defScope st))
    (body : ∀ (A : Around) (outer : List Env) (sh : Shared) (H : Hp) (E : XK), Room k (A.deeper (envOfC qual (defScope st) sh.heap.objs.size f (.ref cc))) →
      ∀ (H0 B0 : Hp) (ds : List D) (Φ : Out → Prop), ds.length = ps.length → sp.run ds Φ → Rs (cxOf (L2.CX P w) P w K mg base N qual (defScope st) f (.ref cc) A outer sh H E) ⟨c, H0, B0⟩ (fun C => Φ (.exc C)) →
      WSs (cxOf (L2.CX P w) P w K mg base N qual (defScope st) f (.ref cc) A outer sh H E) ⟨c, H0, B0⟩ (defBody st) (start0 N ds) { nx := fun _ => Φ (.ret .non), rt := fun d => Φ (.ret d) }) :
    FnOk P w K mg base (L2.CX P w) (k + 1) f fd ps (SpD K c ps.length sp) := by
  obtain ⟨oc, od, kV, doc, pm, an, ct, osl, rfl, lk, hcd⟩ := Fn.ex
  refine fn_of lk hcd S (fun vs H Q E h => h.len) fun A outer sh H vs Q E hr h => ?_
  obtain ⟨B, ds, hl, bH, vH, g, r, h⟩ := h
  refine ⟨_, pss_wp, ?_⟩
  refine body A outer sh H E hr H B ds (fun o => match o with
    | .ret d => ∀ v B' H', Pst c B H B' H' → Rp K B' v d → Q v H'
    | .exc C => ∀ B' H', Pst c B H B' H' → C.go E B' H') hl h ⟨E, takes_of rfl rfl rfl rfl, fun C B' H' q hp => q B' H' hp⟩ B _ H (stt_start r bH vH g) _ ⟨fun B' Γ σ' H' p st e => ?_, fun B' Γ σ' H' v d p st e rv => ?_, fun _ _ _ _ p => p.elim, fun _ _ _ _ p => p.elim⟩
  · exact p _ B' H' st.pst .non
  · exact p v B' H' st.pst rv
/-- where a def's lambdas stand -/
structure LamK (base : Heap) (mg : Str → Option Value) (K : PySem.W.Frag) (d : Dr) (c Pt CS : Addr) (q : Str) : Prop where
  TB : TabB base mg c Pt
  tin : (Pt, q) ∈ d.T
  tun : ∀ p ∈ d.T, p.1 = Pt → p.2 = q
  CA : CaughtAt K mg CS
/-- what isinstance(.., C) says of what was caught -/
def SaysB (K : PySem.W.Frag) (CS C : Addr) (b : Bool) : Out → Prop
  | .ret _ => PySem.W.kitOne K (.type "NoneType") (.ref C) = some b
  | .exc D => PySem.W.exmOne K (.ref D.cls) (.ref CS) = some true ∧ ExcC K D.cls ∧ PySem.W.kitOne K (.ref D.cls) (.ref C) = some b
/-- isinstance(_law_caught(lambda: body), x) -/
theorem we_isc {X : Cx} {F : Fm} [F.c.Ok] {Γ : Gam} {Φ : D → Gam → Prop} {T : List (Addr × Str)} {c Pt CS C : Addr} {bo : Bool} {k : Nat} {x : Str} {params : Arguments} {body : Expr} {scope : Scope} {p0 p p2 lpos pos ppos : Pos} (hgi : Gl X "isinstance") (hmi : X.mg "isinstance" = none) (hg : Gl X "_law_caught") (CA : CaughtAt X.K X.mg CS)
    (TB : TabB X.base X.mg c Pt) (hcode : X.env.code = .ref c) (hin : (Pt, X.env.qual ++ "<lambda>") ∈ T) (hun : ∀ p ∈ T, p.1 = Pt → p.2 = X.env.qual ++ "<lambda>") (hr : Room (k + 2) X.A) (L : LamS X.env.scope scope) (hdf : defaultsOf params X.env = ([], []))
    (hbind : ∀ (q : Str) (cl : List (Str × Addr)) (pm cv ctv : Value), bindArgs (PySem.W.kla_fn "<lambda>" q params body scope cl pm cv ctv) ⟨[], []⟩ = pure [])
    (LC : LCfg F.c T Pt (X.env.qual ++ "<lambda>")) (hgx : Gl X x) (hmx : X.mg x = some (.ref C))
    (h : ∀ (B H1 : Hp) (A : Around) (outer : List Env) (sh : Shared) (HZ : Hp) (E : XK) (f c' : Addr), Room k (A.deeper (lamEnv X scope sh.heap.objs.size f c')) →
      Rs (lamCx X A outer sh HZ E scope f c') ⟨F.c, H1, B⟩ (fun D => SaysB X.K CS C bo (.exc D)) → WE (lamCx X A outer sh HZ E scope f c') ⟨F.c, H1, B⟩ body (unown Γ) fun d _ => SaysB X.K CS C bo (.ret d))
    (hΦ : Φ (.bl bo) Γ) (hdx : (x == ("__debug__" : Str)) = false := by decide)
    (s1 : starEach [Expr.Call (.Name "_law_caught" p) [.Lambda params body scope lpos] [] ppos, .Name x p2] X.env = (false, eval (Expr.Call (.Name "_law_caught" p) [.Lambda params body scope lpos] [] ppos) X.env) :: starEach [.Name x p2] X.env := by rfl)
    (s2 : starEach [Expr.Name x p2] X.env = (false, eval (Expr.Name x p2) X.env) :: starEach [] X.env := by rfl) :
    WE X F (.Call (.Name "isinstance" p0) [.Call (.Name "_law_caught" p) [.Lambda params body scope lpos] [] ppos, .Name x p2] [] pos) Γ Φ := by
  refine we_callB cr_isB hgi hmi bb_isinstance (wa_cons ?_ s1)
  refine we_caught (k := k) hg CA TB hcode hin hun hr L hdf hbind LC fun B H1 A2 o2 sh2 HZ E2 f2 c2 hr2 R2 => ?_
  have fin : ∀ o, SaysB X.K CS C bo o → (match o with | .ret _ => WA X F [.Name x p2] Γ (fun ds Γ2 => CallD X.K (rIsB X.K) (.non :: ds) fun d => Φ d Γ2) | .exc D => PySem.W.exmOne X.K (.ref D.cls) (.ref CS) = some true ∧ WA X F [.Name x p2] Γ (fun ds Γ2 => CallD X.K (rIsB X.K) (.exc D :: ds) fun d => Φ d Γ2)) := by
    intro o ho
    cases o with
    | ret d => exact wa_cons (we_globO hgx hmx (wa_nil (cd_isNon ho hΦ)) hdx) s2
    | exc D =>
      obtain ⟨e1, e2, e3⟩ := ho
      exact ⟨e1, wa_cons (we_globO hgx hmx (wa_nil (cd_isExc e2 e3 hΦ)) hdx) s2⟩
  refine (h B H1 A2 o2 sh2 HZ E2 f2 c2 hr2 ?_).imp fun d Γ1 hs => fin (.ret d) hs
  obtain ⟨E', tk, hE⟩ := R2.ex
  exact ⟨E', tk, fun D B' H' hs hp => hE D B' H' (fin (.exc D) hs) hp⟩
/-- a call's end, caught -/
theorem say_run {K : PySem.W.Frag} {CS C : Addr} {bo : Bool} : ∀ {o : Out}, SaysB K CS C bo o → (fun o => match o with | Out.ret d => SaysB K CS C bo (.ret d) | .exc D => SaysB K CS C bo (.exc D)) o
  | .ret _, h => h
  | .exc _, h => h
/-- the names of a def's slots, a known tuple seen as any tuple -/
theorem we_nameT {X : Cx} {F : Fm} {Γ : Gam} {Φ : D → Gam → Prop} {i : Nat} {x : Str} {pos : Pos} {ys : List D} (hN : X.N[i]? = some x) (hv : Vis X.env.scope x) (hΓ : Γ[i]? = some (some (.val (.ntup ys)))) (h : Φ (.tup ys) Γ)
    (hdt : (x == ("__debug__" : Str)) = false := by decide) (hcd : (x == ("__classdict__" : Str)) = false := by decide) : WE X F (.Name x pos) Γ Φ := we_weak (we_name hN hv hΓ ⟨ys, rfl, h⟩ hdt hcd)
section
variable {X : Cx} {F : Fm} {Γ : Gam} {Φ : D → Gam → Prop}
/-- _law_caught(lambda: xs.append(e)), xs a list of the frame's own -/
theorem we_caughtA [F.c.Ok] {T : List (Addr × Str)} {c Pt CS : Addr} {k i : Nat} {x : Str} {e : Expr} {ds0 : List D} {p1 p2 p3 : Pos} {params : Arguments} {scope : Scope} {p lpos pos : Pos} (hg : Gl X "_law_caught") (CA : CaughtAt X.K X.mg CS)
    (TB : TabB X.base X.mg c Pt) (hcode : X.env.code = .ref c) (hin : (Pt, X.env.qual ++ "<lambda>") ∈ T) (hun : ∀ p ∈ T, p.1 = Pt → p.2 = X.env.qual ++ "<lambda>") (hr : Room (k + 2) X.A) (L : LamS X.env.scope scope) (hdf : defaultsOf params X.env = ([], []))
    (hbind : ∀ (q : Str) (cl : List (Str × Addr)) (pm cv ctv : Value), bindArgs (PySem.W.kla_fn "<lambda>" q params (.Call (.Attribute (.Name x p1) "append" p2) [e] [] p3) scope cl pm cv ctv) ⟨[], []⟩ = pure [])
    (C : LCfg F.c T Pt (X.env.qual ++ "<lambda>")) (hN : X.N[i]? = some x) (h0 : Γ[i]? = some (some (.own (.lst ds0)))) (hl0 : ds0.length < 100000)
    (hv : ∀ (A : Around) (outer : List Env) (sh : Shared) (HZ : Hp) (E : XK) (f c' : Addr), Vis (lamCx X A outer sh HZ E scope f c').env.scope x)
    (h : ∀ (B H1 : Hp) (A : Around) (outer : List Env) (sh : Shared) (HZ : Hp) (E : XK) (f c' : Addr), Room k (A.deeper (lamEnv X scope sh.heap.objs.size f c')) →
      Rs (lamCx X A outer sh HZ E scope f c') ⟨F.c, H1, B⟩ (fun D => PySem.W.exmOne X.K (.ref D.cls) (.ref CS) = some true ∧ Φ (.exc D) Γ) → WE (lamCx X A outer sh HZ E scope f c') ⟨F.c, H1, B⟩ e (unown Γ) fun d _ => Φ .non (Γ.set i (some (.own (.lst (ds0 ++ [d]))))))
    (hdt : (x == ("__debug__" : Str)) = false := by decide) (hcd : (x == ("__classdict__" : Str)) = false := by decide) (hline : (p2.endLine == p3.line) = true := by rfl) (hsa : ∀ env : Env, starEach (e :: []) env = (false, eval e env) :: starEach [] env := by intro _; rfl)
    (hfew : ∀ env : Env, ((backTo p3 (starEach (e :: []) env)).all (fun x => !x.1) && (backToKw p3 (keywordEach [] env)).all (fun x => x.1.isSome)
      && decide ((e :: []).length + ([] : List Keyword).length + (if ([] : List Keyword).isEmpty then 0 else 1) < 30)) = true := by intro _; rfl) :
    WE X F (.Call (.Name "_law_caught" p) [.Lambda params (.Call (.Attribute (.Name x p1) "append" p2) [e] [] p3) scope lpos] [] pos) Γ Φ := by
  intro B τ H st Q q
  refine wp_of (pe_lam3 (t := fun E τ H' Q' => ∀ (A : Around) (outer : List Env) (sh : Shared) (HZ : Hp) (f c' : Addr), Room k (A.deeper (lamEnv X scope sh.heap.objs.size f c')) → wpE (lamCx X A outer sh HZ E scope f c') (.Call (.Attribute (.Name x p1) "append" p2) [e] [] p3) τ H' Q')
    hg CA TB hcode hin hun hr L hdf hbind (fun A outer sh HZ E f c' hr2 => ⟨fun pq st τ H Q I h => h A outer sh HZ f c' hr2 pq st I⟩)) ⟨C.tabs _ st.g, fun H1 c' hL => ?_⟩
  intro Q2 hQ A outer sh HZ f c2 hr2
  have n1 := nxt_lam st hL C
  obtain ⟨pp, xs, eσ, hob, r0⟩ := own_at n1.st h0
  refine wp_of (pe_bm PySem.F.plainAttrs_list PySem.F.slot_list_append PySem.F.type_list_append mt_append (pe_var (i := i) hN (hv A outer sh HZ _ f c2) hdt hcd) (pa_cons pe_wp pa_nil (hsa _)) rfl (hfew _) hline (hsa _)) ⟨.ref pp, eσ, .inl ⟨rfl, _, SqL.of hob⟩, ?_⟩
  refine h B H1 A outer sh HZ _ f c2 hr2 ⟨_, takes_of rfl rfl rfl rfl, fun D B' H' hD P' => ?_⟩ B τ H1 (stt_inner n1.st) _ fun v d B' Γ' H' hΦ n r => ?_
  · have n := n1.trans (n1.st.called P')
    cases D with
    | pl D =>
      refine ⟨hD.1, fun a ha => ?_⟩
      have n2 := n.st.frozen (o := ExD (.ref D) none a) ha
      exact q _ _ _ _ _ hD.2 (n.trans n2) (.exc upd_same)
    | fd D f n0 =>
      intro dd hdd
      refine ⟨hD.1, fun a ha => ?_⟩
      have n2 := n.st.frozen (o := ExD (.ref D) (some dd) a) ha
      exact q _ _ _ _ _ hD.2 (n.trans n2) (.exc ⟨dd, upd_same, n2.ex _ _ hdd⟩)
  · have n2 := n1.trans (n1.st.called n.st.pst)
    obtain ⟨pp2, ys, eσ2, ho2, r2⟩ := own_at n2.st h0
    rw [eσ] at eσ2
    cases eσ2
    refine ⟨pp, ys, v, rfl, rfl, ho2, Nat.lt_of_lt_of_le (by rw [r2.len]; exact hl0) (by decide), ?_⟩
    have n3 := n2.st.mut (od' := .lst (ds0 ++ [d])) (o' := .lst (ys ++ [v])) h0 eσ ⟨_, rfl, RpA.app r2 (.cons r .nil)⟩
    exact hQ .non _ (q _ _ _ _ _ hΦ (n2.trans n3) .non)
/-- x, y = a, b, not both of them plain locals -/
theorem ws_parT [F.c.Ok] {ed : ED} {i j : Nat} {x y : Str} {a b : Expr} {px py pt pos : Pos} {kt k2 pt2} (hc : X.calm = true) (hN : X.N.Nodup) (hi : X.N[i]? = some x) (hjw : X.N[j]? = some y) (hij : i ≠ j) (hli : i < Γ.length) (hlj : j < Γ.length)
    (hxw : Loc X.env.scope x) (hyw : Loc X.env.scope y)
    (h : WX X F a Γ fun s1 Γ1 => WX X F b Γ1 fun s2 Γ2 => ed.nx ((Γ2.set i (some s1)).set j (some s2)))
    (hsa : swapsWithSole [.Tuple [.Name x px, .Name y py] kt pt] (.Tuple [a, b] k2 pt2) pos.line X.env = pure false := by rfl)
    (hw : swappedStores [.Tuple [.Name x px, .Name y py] kt pt] (.Tuple [a, b] k2 pt2) X.env = pure none := by rfl)
    (ha1 : (assignEach [.Tuple [.Name x px, .Name y py] kt pt] X.env).map (·.2) = [assign (.Tuple [.Name x px, .Name y py] kt pt) X.env] := by rfl)
    (ha : starEach (a :: [b]) X.env = (false, eval a X.env) :: starEach [b] X.env := by rfl) (hb : starEach (b :: []) X.env = (false, eval b X.env) :: starEach [] X.env := by rfl)
    (hn : (assignEach [.Name x px, .Name y py] X.env).length = 2 := by rfl) (hst : (assignEach [.Name x px, .Name y py] X.env).findIdx? (·.1) = none := by rfl)
    (hs1 : (assignEach (.Name x px :: [.Name y py]) X.env).map (·.2) = assign (.Name x px) X.env :: (assignEach [.Name y py] X.env).map (·.2) := by rfl) (hs2 : (assignEach (.Name y py :: []) X.env).map (·.2) = assign (.Name y py) X.env :: (assignEach [] X.env).map (·.2) := by rfl)
    (hfx : X.fn x = true ∨ X.env.scope.names.lookup x = some .local := by first | exact .inl rfl | exact .inr rfl | assumption)
    (hfy : X.fn y = true ∨ X.env.scope.names.lookup y = some .local := by first | exact .inl rfl | exact .inr rfl | assumption) :
    WS X F (.Assign [.Tuple [.Name x px, .Name y py] kt pt] (.Tuple [a, b] k2 pt2) pos) Γ ed := by
  intro B τ H sh D l
  refine wps_of (ps_asg (pe_tup (pa_cons pe_wp (pa_cons pe_wp pa_nil hb) ha)) (pg_tup hc (pgs_cons (pg_name hN hi hxw hfx) (pgs_cons (pg_name hN hjw hyw hfy) pgs_nil hs2) hs1) hn hst) hsa hw ha1) (h B τ H sh _ fun v1 s1 B1 Γ1 H1 p n r1 f1 => ?_)
  refine p B1 τ H1 n.st _ fun v2 s2 B2 Γ2 H2 p2 n2 r2 f2 => ⟨(show 2 ≤ sizeLine by decide), fun t ht => ?_⟩
  have n3 := n2.st.laid (o := .tup [v1, v2]) ht
  refine ⟨t, [v1, v2], rfl, .inl (.inl upd_same), rfl, v1, [v2], rfl, ?_⟩
  refine ⟨v2, [], rfl, ?_⟩
  refine ⟨rfl, ?_⟩
  obtain ⟨r1', f1'⟩ := slr_next n2 r1 fun od qw ea1 e2 => (f1 od qw ea1 e2).1
  obtain ⟨r1'', f1''⟩ := slr_next n3 r1' fun od qw ea1 e2 => (f1' od qw ea1 e2).1
  obtain ⟨r2', f2'⟩ := slr_next n3 r2 fun od qw ea1 e2 => (f2 od qw ea1 e2).1
  have il : i < Γ2.length := by rw [n2.st.len, ← sh.len]; exact hli
  have jl : j < Γ2.length := by rw [n2.st.len, ← sh.len]; exact hlj
  have st1 := stt_set n3.st il r1'' fun od qw ea1 e2 => (f1'' od qw ea1 e2).1
  refine l.nx _ _ _ _ p2 (stt_set st1 (by rw [List.length_set]; exact jl) r2' fun od qw ea1 e2 zw => ?_) (n.ex.trans n2.ex)
  rcases ownd_set n2.st.len il zw with zw | ⟨od', e3, e4⟩
  · exact (f2 od qw ea1 e2).1 zw
  · exact (f1' od' qw e3 e4).2 (f2 od qw ea1 e2).2
end
end L2.Px
end
section
/-! KR: _law_right -/
namespace L2.Px
open PySem PySem.Spec
open PyProof.Rows LamX
variable [Wld]
local macro_rules | `(tactic| walk_at "vis") => `(tactic| first | exact .inl rfl | exact .inr (.inl rfl) | exact .inr (.inr rfl))
local macro_rules | `(tactic| walk_at "n") => `(tactic| first
  | refine we_name (i := 0) rfl (by walk_at "vis") rfl ?_
  | refine we_name (i := 1) rfl (by walk_at "vis") rfl ?_
  | refine we_name (i := 2) rfl (by walk_at "vis") rfl ?_
  | refine we_name (i := 3) rfl (by walk_at "vis") rfl ?_
  | refine we_name (i := 4) rfl (by walk_at "vis") rfl ?_
  | refine we_name (i := 5) rfl (by walk_at "vis") rfl ?_
  | refine we_name (i := 6) rfl (by walk_at "vis") rfl ?_
  | refine we_name (i := 7) rfl (by walk_at "vis") rfl ?_
  | refine we_name (i := 8) rfl (by walk_at "vis") rfl ?_
  | refine we_name (i := 9) rfl (by walk_at "vis") rfl ?_)
local macro_rules | `(tactic| walk_at "e1") => `(tactic| first
  | ((with_reducible show (if _ then _ else _)); first | refine itT ?_ | refine itF ?_)
  | ((with_reducible show WE _ _ (.Name _ _) _ _); walk_at "n")
  | ((with_reducible show WE _ _ (.Constant (.int _) _ _) _ _); refine we_int ?_)
  | ((with_reducible show WE _ _ (.Constant (.str _) _ _) _ _); refine we_str ?_)
  | ((with_reducible show WE _ _ (.Constant (.bool _) _ _) _ _); refine we_bl ?_)
  | ((with_reducible show WE _ _ (.Constant .none _ _) _ _); refine we_non ?_)
  | ((with_reducible show WA _ _ (_ :: _) _ _); refine wa_cons ?_)
  | ((with_reducible show WA _ _ [] _ _); refine wa_nil ?_)
  | ((with_reducible show WE _ _ (.BoolOp _ [_] _) _ _); refine we_one ?_)
  | ((with_reducible show WE _ _ (.BoolOp .And _ _) _ _); refine we_and ?_)
  | ((with_reducible show WE _ _ (.BoolOp .Or _ _) _ _); refine we_or ?_)
  | ((with_reducible show WE _ _ (.UnaryOp .Not _ _) _ _); refine we_not ?_)
  | ((with_reducible show WE _ _ (.IfExp _ _ _ _) _ _); refine we_ifExp ?_)
  | ((with_reducible show WE _ _ (.Tuple _ _ _) _ _); refine we_tup ?_)
  | ((with_reducible show WE _ _ (.List _ _) _ _); refine we_lst ?_)
  | ((with_reducible show WE _ _ (.BinOp _ .Add _ _) _ _); refine we_add ?_)
  | ((with_reducible show WE _ _ (.BinOp _ .Sub _ _) _ _); refine we_sub ?_)
  | ((with_reducible show WE _ _ (.BinOp _ .Mult _ _) _ _); refine we_mul ?_)
  | ((with_reducible show WE _ _ (.BinOp _ .Mod _ _) _ _); refine we_mod ?_)
  | ((with_reducible show WE _ _ (.BinOp _ .FloorDiv _ _) _ _); refine we_fdiv ?_)
  | ((with_reducible show WE _ _ (.BinOp _ .Pow _ _) _ _); refine we_pow ?_)
  | ((with_reducible show WT _ _ (.UnaryOp .Not _ _) _ _); refine wt_not ?_)
  | ((with_reducible show WT _ _ (.BoolOp .And _ _) _ _); refine wt_ww (ww_and ?_))
  | ((with_reducible show WT _ _ (.BoolOp .Or _ _) _ _); refine wt_ww (ww_or ?_))
  | ((with_reducible show WW _ _ (.BoolOp .And [_] _) _ _); refine ww_and1 ?_)
  | ((with_reducible show WW _ _ (.BoolOp .Or [_] _) _ _); refine ww_or1 ?_)
  | ((with_reducible show WW _ _ (.BoolOp .And _ _) _ _); refine ww_and ?_)
  | ((with_reducible show WW _ _ (.BoolOp .Or _ _) _ _); refine ww_or ?_)
  | ((with_reducible show WSs _ _ (_ :: _) _ _); refine ws_cons ?_)
  | ((with_reducible show WSs _ _ [] _ _); refine ws_nil ?_)
  | ((with_reducible show WS _ _ (.Return (some _) _) _ _); refine ws_ret ?_)
  | ((with_reducible show WS _ _ (.If _ _ _ _) _ _); refine ws_if ?_)
  | ((with_reducible show WT _ _ (.Call _ _ _ _) _ _); refine wt_val ?_)
  | ((with_reducible show WT _ _ (.Name _ _) _ _); refine wt_val ?_))
local macro_rules | `(tactic| walk_at "e") => `(tactic| repeat' walk_at "e1")
local macro_rules | `(tactic| walk_at "d1") => `(tactic| first
  | walk_at "e1"
  | ((with_reducible show WE _ _ (.UnaryOp .USub _ _) _ _); refine we_neg ?_)
  | ((with_reducible show WE _ _ (.Dict [] [] _) _ _); refine we_dict0 ?_)
  | ((with_reducible show WE _ _ (.Dict [_] _ _) _ _); refine we_dict1 ?_)
  | ((with_reducible show _ ≤ _ ∧ _); refine ⟨Nat.le_of_ble_eq_true rfl, ?_⟩)
  | ((with_reducible show ∃ i, D.int _ = D.int i ∧ _); refine ⟨_, rfl, ?_⟩)
  | ((with_reducible show ∃ i j, D.int _ = D.int i ∧ D.int _ = D.int j ∧ _); refine ⟨_, _, rfl, rfl, ?_⟩)
  | ((with_reducible show WE _ _ (.Call (.Name (Str.ofString "len") _) [Expr.Name _ _] [] _) _ _); refine we_callB cr_lenX rfl (Tx.len ‹Tx _›) bb_len ?_; walk_at "e"; refine cd_len (.inr rfl) ?_))
local macro_rules | `(tactic| walk_at "d") => `(tactic| repeat' walk_at "d1")


local macro_rules | `(tactic| walk_at "loc") => `(tactic| first | exact .inl rfl | exact .inr rfl)
abbrev sRight : Stmt := top 46
abbrev sLaw : Stmt := top 47
abbrev nRight : List Str := ["draw", "group", "places", "due", "some", "lot", "lap", "whole", "found", "error", "thing", "is_one"]
theorem sc_right : FnScope nRight ["draw"] (defScope sRight) := ⟨rfl, rfl, rfl, by decide +kernel, rfl, by decide +kernel, by decide +kernel⟩
/-! ### sizes, shapes -/
theorem szA_ints (a : List Int) : D.szA (D.ints a) = a.length := by
  induction a with
  | nil => rfl
  | cons x a ih =>
    show (D.int x).sz + D.szA (D.ints a) = a.length + 1
    rw [ih]
    show 1 + a.length = a.length + 1
    omega
theorem szA_perms {n : Nat} : ∀ {L : List (List Int)}, (∀ a ∈ L, a.length = n) → D.szA (perms L) = L.length * (n + 1)
  | [], _ => by simp [perms, D.szA]
  | a :: L, h => by
    show (D.tup (D.ints a)).sz + D.szA (perms L) = _
    rw [szA_perms fun b hb => h b (List.mem_cons_of_mem _ hb)]
    show D.szA (D.ints a) + 1 + _ = _
    rw [szA_ints, h a List.mem_cons_self, List.length_cons, Nat.succ_mul]
    omega
theorem fl_l (xs : List D) (n : Nat) (h : ∀ x ∈ xs, x.fl n = true) : (D.lst xs).fl (n + 1) = true := flA_mem h
theorem rn_says {xs : List D} {k : Out → Prop} (hf : ∀ x ∈ xs, x.fl 58 = true) (hs : D.szA xs + 1 ≤ 9000) (h : k (.ret (.bl true))) : spSays.run [.lst xs, .lst xs] k := ⟨.lst xs, rfl, fl_l _ _ hf, hs, h⟩
theorem fl_tperms (L : List (List Int)) : (D.tup (perms L)).fl 58 = true := flA_perms 56 L
theorem sz_tperms {n : Nat} {L : List (List Int)} (h : ∀ a ∈ L, Pm n a) : (D.tup (perms L)).sz = L.length * (n + 1) + 1 := congrArg (· + 1) (szA_perms fun a ha => (h a ha).len)
theorem perms_perm {xs : List (List Int)} {ys : List D} (h : ys.Perm (perms xs)) : ∃ zs, ys = perms zs ∧ zs.Perm xs := by
  have e : ys = perms (ys.map fun y => y.kids.map D.toI) := by
    unfold perms
    rw [List.map_map]
    have : ∀ x ∈ ys, ((fun a => D.tup (D.ints a)) ∘ fun y => y.kids.map D.toI) x = x := fun x hx => by
      have hx := h.mem_iff.mp hx
      obtain ⟨i, _, rfl⟩ := List.mem_map.mp (show x ∈ xs.map _ from hx)
      show D.tup (D.ints ((D.ints i).map D.toI)) = _
      rw [ints_toI]
    rw [List.map_congr_left this]
    simp
  refine ⟨_, e, ?_⟩
  have q := h.map fun y => y.kids.map D.toI
  have e2 : (perms xs).map (fun y => y.kids.map D.toI) = xs := by
    unfold perms
    rw [List.map_map]
    have : ∀ x ∈ xs, ((fun y => y.kids.map D.toI) ∘ fun a => D.tup (D.ints a)) x = x := fun x _ => ints_toI x
    rw [List.map_congr_left this]
    simp
  rw [e2] at q
  exact q
/-! ### closed, run -/
theorem D.int_inj {i j : Int} (h : D.int i = D.int j) : i = j := by
  cases h
  rfl
theorem seq_inj {a b : List D} {d : D} (h1 : d = .lst a ∨ d = .tup a) (h2 : d = .lst b ∨ d = .tup b) : a = b := by
  rcases h1 with rfl | rfl <;> rcases h2 with h | h <;> first | (cases h; rfl) | cases h
theorem memb_pm {n : Nat} {a : List Int} (h : Pm n a) : (D.tup (D.ints a)).memb n = true := by
  have e : (D.tup (D.ints a)).memb n = ((D.tup (D.ints a)).each && decide (((D.ints a).length : Int) = (n : Int))) := rfl
  rw [e, each_ints, h.each, ints_len, h.len]
  simp
theorem rn_closed {ad : Ad} {n : Nat} {ms : List (List Int)} {d : D} {k : Out → Prop} (h1 : 1 ≤ n) (h5 : n ≤ 5) (hd : d = .lst (perms ms) ∨ d = .tup (perms ms)) (l : ms.length ≤ 60) (pm : ∀ m ∈ ms, Pm n m)
    (h : ∀ L, Cls n ms L → k (if L.length ≤ 60 then .ret (.tup (perms L)) else .exc (.fd ad.many "most" 60))) : (spClosed ad).run [.int n, d] k := by
  have ok : (D.int n).okPl = true := by
    show (decide (1 ≤ (n : Int)) && decide ((n : Int) ≤ 5)) = true
    rw [decide_eq_true (by omega), decide_eq_true (by omega)]
    rfl
  refine ⟨.int n, d, rfl, rfl, ⟨?_, fun xs e => ?_⟩, ⟨fun e => ?_, fun _ e => ?_, fun xs _ e lt => ?_, fun n' xs e _ _ e2 _ f => ?_, fun n' ms' L e _ _ e2 _ _ c => ?_⟩⟩
  · rcases hd with rfl | rfl <;> exact ⟨rfl, rfl⟩
  · cases seq_inj e hd
    rw [perms_len]
    refine ⟨by omega, fun x hx => ?_⟩
    exact (ele_perms (n := n) (fun a ha => (pm a ha).len) h5 x hx).okT
  · rw [ok] at e
    cases e
  · rcases hd with rfl | rfl <;> cases e
  · cases seq_inj e hd
    rw [perms_len] at lt
    omega
  · have en : n = n' := by have := D.int_inj e; omega
    subst en
    cases seq_inj e2 hd
    have : (perms ms).all (fun y => y.memb n) = true := List.all_eq_true.mpr fun x hx => by
      obtain ⟨a, ha, rfl⟩ := List.mem_map.mp (show x ∈ ms.map _ from hx)
      exact memb_pm (pm a ha)
    rw [this] at f
    cases f
  · have en : n = n' := by have := D.int_inj e; omega
    subst en
    have := perms_inj (seq_inj e2 hd)
    subst this
    exact h L c
theorem Cls.of_mem {n : Nat} {ms ms' G : List (List Int)} (pm : ∀ m ∈ ms, Pm n m) (c : Cls n ms G) (h1 : ∀ x ∈ ms, x ∈ ms') (h2 : ∀ x ∈ ms', x ∈ G) : Cls n ms' G := by
  refine ⟨c.asc, fun x => (c.mem x).trans ⟨fun r => r.mono h1, fun r => ?_⟩⟩
  exact Reach.sub pm (fun m hm => (c.mem m).mp (h2 m hm)) r
/-! ### the promises that _law_right leans on -/
structure GsR (P : Program) (w : World) (K : PySem.W.Frag) (mg : Str → Option Value) (base : Heap) (ad : Ad) (d : Dr) : Prop where
  T : Tx mg
  Z : Er K mg ad
  take : Gd P w K mg base "_law_take" 2 d.cfg ["draw", "amount"] (spTake d)
  pick : Gd P w K mg base "_law_pick" 3 d.cfg ["draw", "some"] (spPick d)
  shuf : Gd P w K mg base "_law_shuffled" 3 d.cfg ["draw", "some"] (spShufD d)
  odd : Gd P w K mg base "_law_odd" 4 d.cfg ["draw"] (spOddB d)
  bent : Gd P w K mg base "_law_bent" 4 d.cfg ["draw", "group"] (spBent d)
  says : Gd P w K mg base "_law_says" 2 c0 ["told", "due"] spSays
  grp : Gd P w K mg base "_law_group" 5 d.cfg ["draw"] (spGroup d)
  grpOf : Gd P w K mg base "_law_group_of" 4 d.cfg ["draw", "name"] (spGroupOf d)
  lclosed : Gd P w K mg base "_law_closed" 2 c0 ["places", "lot"] spLClosed
  lown : Gd P w K mg base "_law_own_makers" 3 c0 ["group"] spMakersBy
  lisg : Gd P w K mg base "_law_is_group" 3 c0 ["thing"] spLIsGroup
  tooMany : Gd P w K mg base "_law_is_too_many" 1 c0 ["error", "most"] (spTooMany ad)
  isg : GdK P w K mg base "is_group" 5 c0 ["thing"] spIsGroupOf
  mak : GdK P w K mg base "makers" 6 c0 ["group"] (spMakers ad)
  clo : GdK P w K mg base "closed" 4 c0 ["places", "members"] (spClosed ad)
/-- a group's facts -/
theorem GrpD.is {n : Nat} {G : List (List Int)} (g : GrpD n G) : (D.tup (perms G)).isGrp = true := isGrp_t ⟨n, G, rfl, g.g, g.l⟩
theorem GrpD.okB {n : Nat} {G : List (List Int)} (g : GrpD n G) : OkB (.tup (perms G)) := okB_tup (by rw [perms_len]; have := g.l; omega) (ele_perms (n := n) (fun a ha => (g.g.pm a ha).len) g.g.h5)
theorem rn_isg {n : Nat} {G : List (List Int)} {k : Out → Prop} (g : GrpD n G) (h : k (.ret (.bl true))) : spIsGroupOf.run [.tup (perms G)] k := ⟨_, rfl, g.okB.g, by rw [g.is]; exact h⟩
theorem Grp.unique {n n' : Nat} {G : List (List Int)} (g : Grp n G) (g' : Grp n' G) : n = n' := by
  obtain ⟨G1, e⟩ := g.head
  have h1 : unitI n ∈ G := by rw [e]; exact List.mem_cons_self
  have a := (g.pm _ h1).len
  have b := (g'.pm _ h1).len
  omega
theorem rn_mak {ad : Ad} {n : Nat} {G : List (List Int)} {k : Out → Prop} (g : GrpD n G) (h : k (.ret (.tup (perms (mkrs n G))))) : (spMakers ad).run [.tup (perms G)] k := by
  refine ⟨_, rfl, g.okB.g, fun z => absurd ⟨n, G, rfl, g.g, g.l⟩ z, fun n' G' e g' l' => ?_⟩
  have := perms_inj (D.tup.inj e)
  subst this
  have := g.g.unique g'
  subst this
  exact h
section
variable {P : Program} {w : World} {K : PySem.W.Frag} {mg : Str → Option Value} {base : Heap} {ad : Ad} {d : Dr} {f : Addr} {cdv : Value} {A : Around} {outer : List Env} {sh : Shared} {H : Hp} {E : XK} {H0 B0 : Hp}
abbrev xR (P : Program) (w : World) (K : PySem.W.Frag) (mg : Str → Option Value) (base : Heap) (f : Addr) (cdv : Value) (A : Around) (outer : List Env) (sh : Shared) (H : Hp) (E : XK) : Cx := cxOf (L2.CX P w) P w K mg base nRight "_law_right" (defScope sRight) f cdv A outer sh H E
abbrev gA (d : Dr) : Gam := [some (.val (.obj d.a)), none, none, none, none, none, none, none, none, none, none, none]
abbrev gB (d : Dr) (G : List (List Int)) : Gam := [some (.val (.obj d.a)), some (.val (.tup (perms G))), none, none, none, none, none, none, none, none, none, none]
abbrev gC (d : Dr) (n : Nat) (G M : List (List Int)) (s4 s5 s7 s8 s9 s10 s11 : Option Sl) : Gam := [some (.val (.obj d.a)), some (.val (.tup (perms G))), some (.val (.int n)), some (.val (.tup (perms M))), s4, s5, none, s7, s8, s9, s10, s11]
theorem right_0 {EX : EC → Prop} {ed : ED} (G : GsR P w K mg base ad d) (hr : Room 8 (A.deeper (envOfC "_law_right" (defScope sRight) sh.heap.objs.size f cdv))) (R : Rs (xR P w K mg base f cdv A outer sh H E) ⟨d.cfg, H0, B0⟩ EX)
    (next : ∀ n Gs, GrpD n Gs → WSs (xR P w K mg base f cdv A outer sh H E) ⟨d.cfg, H0, B0⟩ ((defBody sRight).drop 1) (gB d Gs) ed) :
    WSs (xR P w K mg base f cdv A outer sh H E) ⟨d.cfg, H0, B0⟩ (defBody sRight) (gA d) ed := by
  refine ws_cons ?_
  refine ws_set (i := 1) sc_right.nd rfl (by walk_at "loc") (show 1 < 12 by decide) ?_
  walk_at "d"
  refine wt_cmp (op_eqX hr) ?_ (nomark _)
  refine we_callC R (G.take.dfn hr (by decide)) rfl ?_
  walk_at "d"
  refine ⟨rfl, 4, rfl, by decide, by decide, fun u hu => ?_⟩
  walk_at "d"
  refine od_eq rfl rfl ⟨_, rfl, ?_⟩
  rw [eq_int]
  cases decide ((u : Int) = 0) with
  | false =>
    walk_at "d"
    refine we_callC R (G.grp.dfn hr (by decide)) rfl ?_
    walk_at "d"
    exact ⟨rfl, rfl, fun n Gs g => next n Gs g⟩
  | true =>
    walk_at "d"
    refine we_callC R (G.pick.dfn hr (by decide)) rfl ?_
    walk_at "d"
    refine we_callC R (G.grp.dfn hr (by decide)) rfl ?_
    walk_at "d"
    refine ⟨rfl, rfl, fun n1 G1 g1 => ?_⟩
    walk_at "d"
    refine we_callC R (G.grp.dfn hr (by decide)) rfl ?_
    walk_at "d"
    refine ⟨rfl, rfl, fun n2 G2 g2 => ?_⟩
    walk_at "d"
    refine we_callC R (G.grpOf.dfn hr (by decide)) rfl ?_
    walk_at "d"
    refine ⟨rfl, "a5", 5, [[1, 2, 3, 4, 0], [1, 2, 0, 3, 4]], rfl, by unfold namedG; simp, fun G3 g3 => ?_⟩
    walk_at "d"
    refine ⟨rfl, _, rfl, Nat.le_of_ble_eq_true rfl, Nat.le_of_ble_eq_true rfl, fun x hx => ?_⟩
    simp only [List.mem_cons, List.not_mem_nil, or_false] at hx
    rcases hx with rfl | rfl | rfl
    · exact next n1 G1 g1
    · exact next n2 G2 g2
    · exact next 5 G3 g3
set_option hygiene false in
local macro_rules | `(tactic| walk_at "c") => `(tactic| first
  | ((with_reducible show WE _ _ (.Call (.Name "is_group" _) (_ :: _) _ _) _ _); refine we_call R (G.isg.gd.dfn hr (by decide)) rfl ?_)
  | ((with_reducible show WE _ _ (.Call (.Name "is_group" _) [] _ _) _ _); refine we_callK1 R G.isg hr (by decide) rfl ?_)
  | ((with_reducible show WE _ _ (.Call (.Name "makers" _) (_ :: _) _ _) _ _); refine we_call R (G.mak.gd.dfn hr (by decide)) rfl ?_)
  | ((with_reducible show WE _ _ (.Call (.Name "makers" _) [] _ _) _ _); refine we_callK1 R G.mak hr (by decide) rfl ?_)
  | ((with_reducible show WE _ _ (.Call (.Name "closed" _) (_ :: _) _ _) _ _); refine we_call R (G.clo.gd.dfn hr (by decide)) rfl ?_)
  | ((with_reducible show WE _ _ (.Call (.Name "closed" _) [] _ _) _ _); refine we_callK2 R G.clo hr (by decide) rfl ?_)
  | ((with_reducible show WE _ _ (.Call (.Name "_law_says" _) (_ :: _) _ _) _ _); refine we_call R (G.says.dfn hr (by decide)) rfl ?_)
  | ((with_reducible show (_ = _ ∧ _)); refine ⟨rfl, ?_⟩)
  | walk_at "d1")
local macro_rules | `(tactic| walk_at "cs") => `(tactic| repeat' walk_at "c")
theorem right_1 {EX : EC → Prop} {ed : ED} {n : Nat} {Gs : List (List Int)} (G : GsR P w K mg base ad d) (hr : Room 8 (A.deeper (envOfC "_law_right" (defScope sRight) sh.heap.objs.size f cdv))) (R : Rs (xR P w K mg base f cdv A outer sh H E) ⟨d.cfg, H0, B0⟩ EX) (g : GrpD n Gs)
    (next : WSs (xR P w K mg base f cdv A outer sh H E) ⟨d.cfg, H0, B0⟩ ((defBody sRight).drop 2) (gC d n Gs (mkrs n Gs) none none none none none none none) ed) :
    WSs (xR P w K mg base f cdv A outer sh H E) ⟨d.cfg, H0, B0⟩ ((defBody sRight).drop 1) (gB d Gs) ed := by
  have h5 := g.g.h5
  obtain ⟨G', hG⟩ := g.g.head
  have e0 : Gs[0]? = some (unitI n) := by rw [hG]; rfl
  refine ws_cons ?_
  refine ws_parT (i := 2) (j := 3) rfl sc_right.nd rfl rfl (by decide) (show 2 < 12 by decide) (show 3 < 12 by decide) (by walk_at "loc") (by walk_at "loc") (wx_val ?_)
  refine we_callB cr_lenX rfl G.T.len bb_len ?_
  refine wa_cons ?_
  refine we_ix ?_
  walk_at "d"
  refine od_ix (.inr rfl) (at_perms e0) ?_
  walk_at "d"
  refine cd_len (.inr rfl) ?_
  rw [ints_len, (pm_unit n).len]
  refine wx_val ?_
  refine we_call R (G.lown.dfn hr (by decide)) rfl ?_
  walk_at "d"
  exact ⟨rfl, n, Gs, rfl, g.g, g.l, next⟩
theorem right_2 {EX : EC → Prop} {ed : ED} {n : Nat} {Gs : List (List Int)} (G : GsR P w K mg base ad d) (hr : Room 8 (A.deeper (envOfC "_law_right" (defScope sRight) sh.heap.objs.size f cdv))) (R : Rs (xR P w K mg base f cdv A outer sh H E) ⟨d.cfg, H0, B0⟩ EX) (g : GrpD n Gs)
    (next : WSs (xR P w K mg base f cdv A outer sh H E) ⟨d.cfg, H0, B0⟩ ((defBody sRight).drop 3) (gC d n Gs (mkrs n Gs) none none none none none none none) ed) :
    WSs (xR P w K mg base f cdv A outer sh H E) ⟨d.cfg, H0, B0⟩ ((defBody sRight).drop 2) (gC d n Gs (mkrs n Gs) none none none none none none none) ed := by
  have h5 := g.g.h5
  have few := mkrs_few g.g g.l
  have pm : ∀ a ∈ mkrs n Gs, Pm n a := fun a ha => g.g.pm a (mkrs_sub a ha)
  have sz := sz_tperms pm
  have bd : (mkrs n Gs).length * (n + 1) ≤ 5 * 6 := Nat.mul_le_mul few (by omega)
  refine ws_cons ?_
  walk_at "cs"
  refine rn_isg g ?_
  walk_at "cs"
  refine rn_isg g ?_
  walk_at "cs"
  refine rn_mak g ?_
  walk_at "cs"
  refine rn_mak g ?_
  walk_at "cs"
  refine rn_says (fun x hx => ?_) ?_ ⟨_, rfl, itF (ws_nil next)⟩
  · simp only [List.mem_cons, List.not_mem_nil, or_false] at hx
    rcases hx with rfl | rfl | rfl | rfl
    · rfl
    · rfl
    · exact fl_tperms _
    · exact fl_tperms _
  · show (D.bl true).sz + ((D.bl true).sz + ((D.tup (perms (mkrs n Gs))).sz + ((D.tup (perms (mkrs n Gs))).sz + 0))) + 1 ≤ 9000
    rw [sz]
    show 1 + (1 + _) + 1 ≤ 9000
    omega
theorem right_3 {EX : EC → Prop} {ed : ED} {n : Nat} {Gs : List (List Int)} (G : GsR P w K mg base ad d) (hr : Room 8 (A.deeper (envOfC "_law_right" (defScope sRight) sh.heap.objs.size f cdv))) (R : Rs (xR P w K mg base f cdv A outer sh H E) ⟨d.cfg, H0, B0⟩ EX) (g : GrpD n Gs)
    (next : ∀ S : List (List Int), S.Perm ((mkrs n Gs ++ mkrs n Gs) ++ [unitI n]) → WSs (xR P w K mg base f cdv A outer sh H E) ⟨d.cfg, H0, B0⟩ ((defBody sRight).drop 4) (gC d n Gs (mkrs n Gs) (some (.val (.lst (perms S)))) none none none none none none) ed) :
    WSs (xR P w K mg base f cdv A outer sh H E) ⟨d.cfg, H0, B0⟩ ((defBody sRight).drop 3) (gC d n Gs (mkrs n Gs) none none none none none none none) ed := by
  have h5 := g.g.h5
  have few := mkrs_few g.g g.l
  obtain ⟨G', hG⟩ := g.g.head
  have e0 : Gs[0]? = some (unitI n) := by rw [hG]; rfl
  refine ws_cons ?_
  refine ws_set (i := 4) sc_right.nd rfl (by walk_at "loc") (show 4 < 12 by decide) ?_
  refine we_callC R (G.shuf.dfn hr (by decide)) rfl ?_
  refine wa_cons (we_name (i := 0) rfl (by walk_at "vis") rfl ?_)
  refine wa_cons ?_
  refine we_add ?_
  refine we_mul ?_
  refine we_callTy cr_listX rfl G.T.list bb_list ?_
  walk_at "d"
  refine cd_list (.inr rfl) ?_
  walk_at "d"
  refine od_rep (n := 2) (by decide) (by rw [perms_len]; omega) ?_
  refine we_lst ?_
  refine wa_cons ?_
  refine we_ix ?_
  walk_at "d"
  refine od_ix (.inr rfl) (at_perms e0) ?_
  walk_at "d"
  have er : (List.replicate 2 (perms (mkrs n Gs))).flatten = perms (mkrs n Gs ++ mkrs n Gs) := by
    rw [perms_app]
    simp [List.replicate]
  rw [er]
  refine od_cat (by rw [perms_len, List.length_append]; show _ + 1 ≤ _; omega) ?_
  have e2 : perms (mkrs n Gs ++ mkrs n Gs) ++ [D.tup (D.ints (unitI n))] = perms ((mkrs n Gs ++ mkrs n Gs) ++ [unitI n]) := by
    rw [perms_app _ [unitI n]]
    rfl
  rw [e2]
  refine wa_nil ⟨rfl, _, rfl, ?_, fun x hx => ?_, fun ys hys => ?_⟩
  · rw [perms_len, List.length_append, List.length_append]
    show _ + 1 ≤ _
    omega
  · obtain ⟨a, ha, rfl⟩ := List.mem_map.mp (show x ∈ List.map _ _ from hx)
    exact ⟨imm_ints a, ints_fl a 58⟩
  · obtain ⟨S, rfl, hS⟩ := perms_perm hys
    exact next S hS
theorem right_4 {EX : EC → Prop} {ed : ED} {n : Nat} {Gs S : List (List Int)} (G : GsR P w K mg base ad d) (hr : Room 8 (A.deeper (envOfC "_law_right" (defScope sRight) sh.heap.objs.size f cdv))) (R : Rs (xR P w K mg base f cdv A outer sh H E) ⟨d.cfg, H0, B0⟩ EX) (g : GrpD n Gs)
    (hS : S.Perm ((mkrs n Gs ++ mkrs n Gs) ++ [unitI n]))
    (next : WSs (xR P w K mg base f cdv A outer sh H E) ⟨d.cfg, H0, B0⟩ ((defBody sRight).drop 5) (gC d n Gs (mkrs n Gs) (some (.val (.lst (perms S)))) none none none none none none) ed) :
    WSs (xR P w K mg base f cdv A outer sh H E) ⟨d.cfg, H0, B0⟩ ((defBody sRight).drop 4) (gC d n Gs (mkrs n Gs) (some (.val (.lst (perms S)))) none none none none none none) ed := by
  have h1 := g.g.h1
  have h5 := g.g.h5
  have l60 := g.l
  have few := mkrs_few g.g g.l
  have pm : ∀ a ∈ mkrs n Gs, Pm n a := fun a ha => g.g.pm a (mkrs_sub a ha)
  have cm := mkrs_cls g.g
  have un : unitI n ∈ Gs := (g.g.cl.mem _).mpr .unit
  have pS : ∀ a ∈ S, a ∈ Gs := fun a ha => by
    have z := hS.mem_iff.mp ha
    rcases List.mem_append.mp z with z | z
    · rcases List.mem_append.mp z with z | z <;> exact mkrs_sub a z
    · rw [List.mem_singleton.mp z]
      exact un
  have cS : Cls n S Gs := Cls.of_mem pm cm (fun x hx => hS.mem_iff.mpr (by simp [hx])) pS
  have lS : S.length ≤ 60 := by
    rw [hS.length_eq, List.length_append, List.length_append]
    show _ + 1 ≤ _
    omega
  have sz := sz_tperms g.g.pm
  have bd : Gs.length * (n + 1) ≤ 60 * 6 := Nat.mul_le_mul l60 (by omega)
  have run : ∀ {ms : List (List Int)} {dd : D} {k : Out → Prop}, (dd = .lst (perms ms) ∨ dd = .tup (perms ms)) → ms.length ≤ 60 → (∀ m ∈ ms, Pm n m) → Cls n ms Gs → k (.ret (.tup (perms Gs))) → (spClosed ad).run [.int n, dd] k := fun hd l p c h =>
    rn_closed h1 h5 hd l p fun L cL => by
      have := cL.one c
      subst this
      rw [if_pos l60]
      exact h
  refine ws_cons ?_
  walk_at "cs"
  refine run (.inl rfl) lS (fun a ha => g.g.pm a (pS a ha)) cS ?_
  walk_at "cs"
  refine we_callTy cr_tupX rfl G.T.tuple bb_tuple ?_
  walk_at "cs"
  refine cd_tuple (.inr rfl) ?_
  walk_at "cs"
  refine run (.inr rfl) (by omega) pm cm ?_
  walk_at "cs"
  refine we_callTy cr_listX rfl G.T.list bb_list ?_
  walk_at "cs"
  refine cd_list (.inr rfl) ?_
  walk_at "cs"
  refine run (.inl rfl) l60 g.g.pm g.g.cl ?_
  walk_at "cs"
  refine od_rep (n := 3) (by decide) (Nat.le_of_ble_eq_true rfl) ?_
  walk_at "cs"
  refine rn_says (fun x hx => ?_) ?_ ⟨_, rfl, itF (ws_nil next)⟩
  · simp only [List.mem_cons, List.not_mem_nil, or_false] at hx
    rcases hx with rfl | rfl | rfl <;> exact fl_tperms _
  · show (D.tup (perms Gs)).sz + ((D.tup (perms Gs)).sz + ((D.tup (perms Gs)).sz + 0)) + 1 ≤ 9000
    rw [sz]
    omega
end
end L2.Px
end
section
/-! KR2: _law_right, the rest -/
namespace L2.Px
open PySem PySem.Spec
open PyProof.Rows LamX
variable [Wld]
local macro_rules | `(tactic| walk_at "vis") => `(tactic| first | exact .inl rfl | exact .inr (.inl rfl) | exact .inr (.inr rfl))
local macro_rules | `(tactic| walk_at "n") => `(tactic| first
  | refine we_name (i := 0) rfl (by walk_at "vis") rfl ?_
  | refine we_name (i := 1) rfl (by walk_at "vis") rfl ?_
  | refine we_name (i := 2) rfl (by walk_at "vis") rfl ?_
  | refine we_name (i := 3) rfl (by walk_at "vis") rfl ?_
  | refine we_name (i := 4) rfl (by walk_at "vis") rfl ?_
  | refine we_name (i := 5) rfl (by walk_at "vis") rfl ?_
  | refine we_name (i := 6) rfl (by walk_at "vis") rfl ?_
  | refine we_name (i := 7) rfl (by walk_at "vis") rfl ?_
  | refine we_name (i := 8) rfl (by walk_at "vis") rfl ?_
  | refine we_name (i := 9) rfl (by walk_at "vis") rfl ?_)
local macro_rules | `(tactic| walk_at "e1") => `(tactic| first
  | ((with_reducible show (if _ then _ else _)); first | refine itT ?_ | refine itF ?_)
  | ((with_reducible show WE _ _ (.Name _ _) _ _); walk_at "n")
  | ((with_reducible show WE _ _ (.Constant (.int _) _ _) _ _); refine we_int ?_)
  | ((with_reducible show WE _ _ (.Constant (.str _) _ _) _ _); refine we_str ?_)
  | ((with_reducible show WE _ _ (.Constant (.bool _) _ _) _ _); refine we_bl ?_)
  | ((with_reducible show WE _ _ (.Constant .none _ _) _ _); refine we_non ?_)
  | ((with_reducible show WA _ _ (_ :: _) _ _); refine wa_cons ?_)
  | ((with_reducible show WA _ _ [] _ _); refine wa_nil ?_)
  | ((with_reducible show WE _ _ (.BoolOp _ [_] _) _ _); refine we_one ?_)
  | ((with_reducible show WE _ _ (.BoolOp .And _ _) _ _); refine we_and ?_)
  | ((with_reducible show WE _ _ (.BoolOp .Or _ _) _ _); refine we_or ?_)
  | ((with_reducible show WE _ _ (.UnaryOp .Not _ _) _ _); refine we_not ?_)
  | ((with_reducible show WE _ _ (.IfExp _ _ _ _) _ _); refine we_ifExp ?_)
  | ((with_reducible show WE _ _ (.Tuple _ _ _) _ _); refine we_tup ?_)
  | ((with_reducible show WE _ _ (.List _ _) _ _); refine we_lst ?_)
  | ((with_reducible show WE _ _ (.BinOp _ .Add _ _) _ _); refine we_add ?_)
  | ((with_reducible show WE _ _ (.BinOp _ .Sub _ _) _ _); refine we_sub ?_)
  | ((with_reducible show WE _ _ (.BinOp _ .Mult _ _) _ _); refine we_mul ?_)
  | ((with_reducible show WE _ _ (.BinOp _ .Mod _ _) _ _); refine we_mod ?_)
  | ((with_reducible show WE _ _ (.BinOp _ .FloorDiv _ _) _ _); refine we_fdiv ?_)
  | ((with_reducible show WE _ _ (.BinOp _ .Pow _ _) _ _); refine we_pow ?_)
  | ((with_reducible show WT _ _ (.UnaryOp .Not _ _) _ _); refine wt_not ?_)
  | ((with_reducible show WT _ _ (.BoolOp .And _ _) _ _); refine wt_ww (ww_and ?_))
  | ((with_reducible show WT _ _ (.BoolOp .Or _ _) _ _); refine wt_ww (ww_or ?_))
  | ((with_reducible show WW _ _ (.BoolOp .And [_] _) _ _); refine ww_and1 ?_)
  | ((with_reducible show WW _ _ (.BoolOp .Or [_] _) _ _); refine ww_or1 ?_)
  | ((with_reducible show WW _ _ (.BoolOp .And _ _) _ _); refine ww_and ?_)
  | ((with_reducible show WW _ _ (.BoolOp .Or _ _) _ _); refine ww_or ?_)
  | ((with_reducible show WSs _ _ (_ :: _) _ _); refine ws_cons ?_)
  | ((with_reducible show WSs _ _ [] _ _); refine ws_nil ?_)
  | ((with_reducible show WS _ _ (.Return (some _) _) _ _); refine ws_ret ?_)
  | ((with_reducible show WS _ _ (.If _ _ _ _) _ _); refine ws_if ?_)
  | ((with_reducible show WT _ _ (.Call _ _ _ _) _ _); refine wt_val ?_)
  | ((with_reducible show WT _ _ (.Name _ _) _ _); refine wt_val ?_))
local macro_rules | `(tactic| walk_at "e") => `(tactic| repeat' walk_at "e1")
local macro_rules | `(tactic| walk_at "d1") => `(tactic| first
  | walk_at "e1"
  | ((with_reducible show WE _ _ (.UnaryOp .USub _ _) _ _); refine we_neg ?_)
  | ((with_reducible show WE _ _ (.Dict [] [] _) _ _); refine we_dict0 ?_)
  | ((with_reducible show WE _ _ (.Dict [_] _ _) _ _); refine we_dict1 ?_)
  | ((with_reducible show _ ≤ _ ∧ _); refine ⟨Nat.le_of_ble_eq_true rfl, ?_⟩)
  | ((with_reducible show ∃ i, D.int _ = D.int i ∧ _); refine ⟨_, rfl, ?_⟩)
  | ((with_reducible show ∃ i j, D.int _ = D.int i ∧ D.int _ = D.int j ∧ _); refine ⟨_, _, rfl, rfl, ?_⟩)
  | ((with_reducible show WE _ _ (.Call (.Name (Str.ofString "len") _) [Expr.Name _ _] [] _) _ _); refine we_callB cr_lenX rfl (Tx.len ‹Tx _›) bb_len ?_; walk_at "e"; refine cd_len (.inr rfl) ?_))
local macro_rules | `(tactic| walk_at "d") => `(tactic| repeat' walk_at "d1")


local macro_rules | `(tactic| walk_at "loc") => `(tactic| first | exact .inl rfl | exact .inr rfl)
set_option hygiene false in
local macro_rules | `(tactic| walk_at "c") => `(tactic| first
  | ((with_reducible show WE _ _ (.Call (.Name "is_group" _) (_ :: _) _ _) _ _); refine we_call R (G.isg.gd.dfn hr (by decide)) rfl ?_)
  | ((with_reducible show WE _ _ (.Call (.Name "is_group" _) [] _ _) _ _); refine we_callK1 R G.isg hr (by decide) rfl ?_)
  | ((with_reducible show WE _ _ (.Call (.Name "makers" _) (_ :: _) _ _) _ _); refine we_call R (G.mak.gd.dfn hr (by decide)) rfl ?_)
  | ((with_reducible show WE _ _ (.Call (.Name "makers" _) [] _ _) _ _); refine we_callK1 R G.mak hr (by decide) rfl ?_)
  | ((with_reducible show WE _ _ (.Call (.Name "closed" _) (_ :: _) _ _) _ _); refine we_call R (G.clo.gd.dfn hr (by decide)) rfl ?_)
  | ((with_reducible show WE _ _ (.Call (.Name "closed" _) [] _ _) _ _); refine we_callK2 R G.clo hr (by decide) rfl ?_)
  | ((with_reducible show WE _ _ (.Call (.Name "_law_says" _) (_ :: _) _ _) _ _); refine we_call R (G.says.dfn hr (by decide)) rfl ?_)
  | ((with_reducible show (_ = _ ∧ _)); refine ⟨rfl, ?_⟩)
  | walk_at "d1")
local macro_rules | `(tactic| walk_at "cs") => `(tactic| repeat' walk_at "c")

local macro_rules | `(tactic| walk_at "n") => `(tactic| first
  | refine we_name (i := 10) rfl (by walk_at "vis") rfl ?_
  | refine we_name (i := 11) rfl (by walk_at "vis") rfl ?_)
/-- the errors and what isinstance says of them -/
structure EK (K : PySem.W.Frag) (ad : Ad) (CS : Addr) : Prop where
  grpC : ExcC K ad.group
  plaC : ExcC K ad.places
  memC : ExcC K ad.members
  grpS : PySem.W.exmOne K (.ref ad.group) (.ref CS) = some true
  plaS : PySem.W.exmOne K (.ref ad.places) (.ref CS) = some true
  memS : PySem.W.exmOne K (.ref ad.members) (.ref CS) = some true
  manS : PySem.W.exmOne K (.ref ad.many) (.ref CS) = some true
  grp1 : PySem.W.kitOne K (.ref ad.group) (.ref ad.group) = some true
  pla1 : PySem.W.kitOne K (.ref ad.places) (.ref ad.places) = some true
  mem1 : PySem.W.kitOne K (.ref ad.members) (.ref ad.members) = some true
  non1 : PySem.W.kitOne K (.type "NoneType") (.ref ad.group) = some false
section
variable {P : Program} {w : World} {K : PySem.W.Frag} {mg : Str → Option Value} {base : Heap} {ad : Ad} {d : Dr} {f c Pt CS : Addr} {A : Around} {outer : List Env} {sh : Shared} {H : Hp} {E : XK} {H0 B0 : Hp}
theorem right_5 {EX : EC → Prop} {ed : ED} {n : Nat} {Gs M : List (List Int)} {s4 : D} (G : GsR P w K mg base ad d) (hr : Room 8 (A.deeper (envOfC "_law_right" (defScope sRight) sh.heap.objs.size f (.ref c)))) (R : Rs (xR P w K mg base f (.ref c) A outer sh H E) ⟨d.cfg, H0, B0⟩ EX) (h5 : n ≤ 5)
    (next : ∀ lot : List (List Int), lot.length ≤ 3 → (∀ m ∈ lot, Pm n m) → WSs (xR P w K mg base f (.ref c) A outer sh H E) ⟨d.cfg, H0, B0⟩ ((defBody sRight).drop 6) (gC d n Gs M (some (.val s4)) (some (.val (.lst (perms lot)))) none none none none none) ed) :
    WSs (xR P w K mg base f (.ref c) A outer sh H E) ⟨d.cfg, H0, B0⟩ ((defBody sRight).drop 5) (gC d n Gs M (some (.val s4)) none none none none none none) ed := by
  refine ws_cons ?_
  refine ws_set (i := 5) sc_right.nd rfl (by walk_at "loc") (show 5 < 12 by decide) ?_
  refine we_newL (wn_mapR (i := 6) (fun _ r => ∃ a : List Int, r = .tup (D.ints a) ∧ Pm n a) rfl sc_right.nd (blkOk_by (N := nRight) (sc := defScope sRight) (by decide +kernel)) rfl (.inl rfl) (show 6 < 12 by decide) (wi_range1 rfl G.T.range ?_))
  refine we_callC R (G.take.dfn hr (by decide)) rfl ?_
  walk_at "d"
  refine ⟨rfl, 4, rfl, by decide, by decide, fun u hu => ?_⟩
  refine ⟨_, rfl, by omega, by omega, (fun od w => nomatch w), by simp; omega, rfl, fun j x hj s1 H1 C1 cl1 fp1 => ?_, fun rs hl hR => ?_⟩
  · refine we_callTy cr_tupX rfl G.T.tuple bb_tuple ?_
    refine wa_cons ?_
    refine we_callC rs_blk ((shuf_ints G.shuf).dfn hr (by decide)) rfl ?_
    walk_at "d"
    refine we_listRg rfl rfl G.T.list rfl G.T.range ?_
    walk_at "d"
    refine ⟨n, rfl, by omega, ?_⟩
    rw [rng_ints]
    walk_at "d"
    refine ⟨rfl, unitI n, rfl, by rw [(unit_mb n).len]; omega, fun ys hy => ?_⟩
    walk_at "d"
    exact cd_tuple (.inl rfl) ⟨rfl, ys, rfl, pm_of_perm hy⟩
  · have hp : ∃ lot, rs = perms lot ∧ ∀ m ∈ lot, Pm n m := by
      have : ∀ r ∈ rs, ∃ a : List Int, r = .tup (D.ints a) ∧ Pm n a := fun r hr => by
        obtain ⟨j, hj, rfl⟩ := List.getElem_of_mem hr
        exact hR j _ _ (List.getElem?_eq_getElem (by rw [← hl]; exact hj)) (List.getElem?_eq_getElem hj)
      clear hR hl
      induction rs with
      | nil => exact ⟨[], rfl, fun m hm => by cases hm⟩
      | cons r rs ih =>
        obtain ⟨a, rfl, pa⟩ := this r List.mem_cons_self
        obtain ⟨lot, rfl, hlot⟩ := ih fun r hr => this r (List.mem_cons_of_mem _ hr)
        refine ⟨a :: lot, rfl, fun m hm => ?_⟩
        rcases List.mem_cons.mp hm with rfl | hm
        · exact pa
        · exact hlot m hm
    obtain ⟨lot, rfl, hlot⟩ := hp
    have l3 : lot.length ≤ 3 := by
      rw [perms_len] at hl
      rw [hl]
      simp
      omega
    exact ⟨_, rfl, next lot l3 hlot⟩
theorem right_6 {EX : EC → Prop} {ed : ED} {n : Nat} {Gs M lot : List (List Int)} {s4 : D} (G : GsR P w K mg base ad d) (hr : Room 8 (A.deeper (envOfC "_law_right" (defScope sRight) sh.heap.objs.size f (.ref c)))) (R : Rs (xR P w K mg base f (.ref c) A outer sh H E) ⟨d.cfg, H0, B0⟩ EX) (h1 : 1 ≤ n) (h5 : n ≤ 5)
    (l3 : lot.length ≤ 3) (pm : ∀ m ∈ lot, Pm n m)
    (next : ∀ L, Cls n lot L → WSs (xR P w K mg base f (.ref c) A outer sh H E) ⟨d.cfg, H0, B0⟩ ((defBody sRight).drop 7) (gC d n Gs M (some (.val s4)) (some (.val (.lst (perms lot)))) (some (.val (.tup (perms L)))) (some (.own (.lst []))) none none none) ed) :
    WSs (xR P w K mg base f (.ref c) A outer sh H E) ⟨d.cfg, H0, B0⟩ ((defBody sRight).drop 6) (gC d n Gs M (some (.val s4)) (some (.val (.lst (perms lot)))) none none none none none) ed := by
  refine ws_cons ?_
  refine ws_parT (i := 7) (j := 8) rfl sc_right.nd rfl rfl (by decide) (show 7 < 12 by decide) (show 8 < 12 by decide) (by walk_at "loc") (by walk_at "loc") (wx_val ?_)
  refine we_call R (G.lclosed.dfn hr (by decide)) rfl ?_
  walk_at "d"
  refine ⟨rfl, n, lot, _, rfl, .inl rfl, h1, h5, by omega, pm, fun L cL => ?_⟩
  show WX _ _ _ _ _
  exact wx_new (wn_lst (wa_nil ⟨Nat.zero_le _, next L cL⟩))
theorem ls_app : LamS (defScope sRight) { kind := .function, names := [("found", .free), ("lot", .free), ("places", .free), ("closed", .globalImplicit)], isGenerator := false, isCoroutine := false } := lamS_by (by decide +kernel)
theorem ls_mak : LamS (defScope sRight) { kind := .function, names := [("thing", .free), ("makers", .globalImplicit)], isGenerator := false, isCoroutine := false } := lamS_by (by decide +kernel)
theorem right_7 {EX : EC → Prop} {ed : ED} {n : Nat} {Gs M lot L : List (List Int)} {s4 : D} (G : GsR P w K mg base ad d) (Z : EK K ad CS) (LK : LamK base mg K d c Pt CS "_law_right.<locals>.<lambda>")
    (hr : Room 8 (A.deeper (envOfC "_law_right" (defScope sRight) sh.heap.objs.size f (.ref c)))) (R : Rs (xR P w K mg base f (.ref c) A outer sh H E) ⟨d.cfg, H0, B0⟩ EX) (h1 : 1 ≤ n) (h5 : n ≤ 5)
    (l3 : lot.length ≤ 3) (pm : ∀ m ∈ lot, Pm n m) (cL : Cls n lot L)
    (next : ∀ er fo, (if L.length ≤ 60 then er = D.non ∧ fo = [D.tup (perms L)] else er = D.exc (.fd ad.many "most" 60) ∧ fo = []) → WSs (xR P w K mg base f (.ref c) A outer sh H E) ⟨d.cfg, H0, B0⟩ ((defBody sRight).drop 8) (gC d n Gs M (some (.val s4)) (some (.val (.lst (perms lot)))) (some (.val (.tup (perms L)))) (some (.own (.lst fo))) (some (.val er)) none none) ed) :
    WSs (xR P w K mg base f (.ref c) A outer sh H E) ⟨d.cfg, H0, B0⟩ ((defBody sRight).drop 7) (gC d n Gs M (some (.val s4)) (some (.val (.lst (perms lot)))) (some (.val (.tup (perms L)))) (some (.own (.lst []))) none none none) ed := by
  refine ws_cons ?_
  refine ws_set (i := 9) sc_right.nd rfl (by walk_at "loc") (show 9 < 12 by decide) ?_
  refine we_caughtA (k := 6) (i := 8) rfl LK.CA LK.TB rfl LK.tin LK.tun hr ls_app rfl (fun _ _ _ _ _ => rfl) (lcfg LK.tin) rfl rfl (by decide) (fun _ _ _ _ _ _ _ => by walk_at "vis") fun B H1 A2 o2 sh2 HZ E2 f2 c2 hr2 R2 => ?_
  refine we_call R2 (G.clo.gd.dfn hr2 (by decide)) rfl ?_
  walk_at "d"
  refine ⟨rfl, rn_closed h1 h5 (.inl rfl) (by omega) pm fun L' cL' => ?_⟩
  have := cL'.one cL
  subst this
  by_cases l : L'.length ≤ 60
  · rw [if_pos l]
    refine next _ _ ?_
    rw [if_pos l]
    exact ⟨rfl, rfl⟩
  · rw [if_neg l]
    refine ⟨Z.manS, next _ _ ?_⟩
    rw [if_neg l]
    exact ⟨rfl, rfl⟩
theorem right_8 {EX : EC → Prop} {ed : ED} {n : Nat} {Gs M lot L : List (List Int)} {s4 er : D} {fo : List D} (G : GsR P w K mg base ad d)
    (hr : Room 8 (A.deeper (envOfC "_law_right" (defScope sRight) sh.heap.objs.size f (.ref c)))) (R : Rs (xR P w K mg base f (.ref c) A outer sh H E) ⟨d.cfg, H0, B0⟩ EX) (h1 : 1 ≤ n) (h5 : n ≤ 5)
    (pL : ∀ m ∈ L, Pm n m) (q : if L.length ≤ 60 then er = D.non ∧ fo = [D.tup (perms L)] else er = D.exc (.fd ad.many "most" 60) ∧ fo = [])
    (next : WSs (xR P w K mg base f (.ref c) A outer sh H E) ⟨d.cfg, H0, B0⟩ ((defBody sRight).drop 9) (gC d n Gs M (some (.val s4)) (some (.val (.lst (perms lot)))) (some (.val (.tup (perms L)))) (some (.val (.lst fo))) (some (.val er)) none none) ed) :
    WSs (xR P w K mg base f (.ref c) A outer sh H E) ⟨d.cfg, H0, B0⟩ ((defBody sRight).drop 8) (gC d n Gs M (some (.val s4)) (some (.val (.lst (perms lot)))) (some (.val (.tup (perms L)))) (some (.own (.lst fo))) (some (.val er)) none none) ed := by
  have T := G.T
  refine wss_give (i := 8) rfl ?_
  show WSs _ _ _ (gC d n Gs M (some (.val s4)) (some (.val (.lst (perms lot)))) (some (.val (.tup (perms L)))) (some (.val (.lst fo))) (some (.val er)) none none) _
  refine ws_cons ?_
  walk_at "cs"
  refine wt_cmp op_gt ?_ rfl
  walk_at "cs"
  rw [perms_len]
  refine od_gt ⟨_, rfl, ?_⟩
  by_cases l : L.length ≤ 60
  · rw [if_pos l] at q
    obtain ⟨rfl, rfl⟩ := q
    rw [decide_eq_false (by omega)]
    walk_at "cs"
    refine wt_cmp op_le ?_ rfl
    walk_at "cs"
    rw [perms_len]
    refine od_le ⟨_, rfl, ?_⟩
    rw [decide_eq_true (by omega)]
    walk_at "cs"
    refine wt_cmp op_notN ?_ rfl
    walk_at "cs"
    refine od_notN ⟨_, rfl, ?_⟩
    show if false = true then _ else _
    walk_at "cs"
    refine rn_says (fun x hx => ?_) ?_ ?_
    · rw [List.mem_singleton.mp hx]
      exact fl_tperms _
    · show (D.tup (perms L)).sz + 0 + 1 ≤ 9000
      rw [sz_tperms pL]
      have : L.length * (n + 1) ≤ 60 * 6 := Nat.mul_le_mul l (by omega)
      omega
    · exact ⟨_, rfl, itF (ws_nil next)⟩
  · rw [if_neg l] at q
    obtain ⟨rfl, rfl⟩ := q
    rw [decide_eq_true (by omega)]
    walk_at "cs"
    refine we_call R (G.tooMany.dfn hr (by decide)) rfl ?_
    walk_at "cs"
    refine ⟨_, rfl, .inr ⟨60, rfl⟩, ?_⟩
    have e : (D.exc (.fd ad.many "most" 60)).isMany ad.many = true := by
      show (ad.many == ad.many && (60 : Int) == 60) = true
      simp
    rw [e]
    refine ⟨_, rfl, ?_⟩
    show if false = true then _ else _
    walk_at "cs"
    refine wt_cmp op_le ?_ rfl
    walk_at "cs"
    rw [perms_len]
    refine od_le ⟨_, rfl, ?_⟩
    rw [decide_eq_false (by omega)]
    refine itF ?_
    exact itF (ws_nil next)
theorem say_mak {t : D} (Z : EK K ad CS) (ht : OkB t) : ∀ {k : Out → Prop}, (∀ o, SaysB K CS ad.group (!t.isGrp) o → k o) → (spMakers ad).run [t] k := fun {k} h => by
  refine ⟨t, rfl, ht.g, fun n => ?_, fun n G e g l => ?_⟩
  · refine h _ ?_
    rw [isGrp_f n]
    exact ⟨Z.grpS, Z.grpC, Z.grp1⟩
  · refine h _ ?_
    rw [isGrp_t ⟨n, G, e, g, l⟩]
    exact Z.non1
theorem right_9 {EX : EC → Prop} {ed : ED} {n : Nat} {Gs M : List (List Int)} {s4 s5 s7 s8 er : D} (G : GsR P w K mg base ad d) (Z : EK K ad CS) (LK : LamK base mg K d c Pt CS "_law_right.<locals>.<lambda>")
    (hr : Room 8 (A.deeper (envOfC "_law_right" (defScope sRight) sh.heap.objs.size f (.ref c)))) (R : Rs (xR P w K mg base f (.ref c) A outer sh H E) ⟨d.cfg, H0, B0⟩ EX) (g : GrpD n Gs) (done : ed.rt (.bl true)) :
    WSs (xR P w K mg base f (.ref c) A outer sh H E) ⟨d.cfg, H0, B0⟩ ((defBody sRight).drop 9) (gC d n Gs M (some (.val s4)) (some (.val s5)) (some (.val s7)) (some (.val s8)) (some (.val er)) none none) ed := by
  have T := G.T
  refine ws_cons ?_
  refine ws_for (passes_of rfl) rfl (wi_lst ?_)
  walk_at "cs"
  refine we_callC R (G.bent.dfn hr (by decide)) rfl ?_
  walk_at "cs"
  refine ⟨n, Gs, rfl, g, fun x1 k1 => ?_⟩
  walk_at "cs"
  refine we_callC R (G.bent.dfn hr (by decide)) rfl ?_
  walk_at "cs"
  refine ⟨n, Gs, rfl, g, fun x2 k2 => ?_⟩
  walk_at "cs"
  refine we_callC R (G.odd.dfn hr (by decide)) rfl ?_
  walk_at "cs"
  refine ⟨rfl, fun x3 k3 => ?_⟩
  walk_at "cs"
  refine ⟨_, rfl, ?_⟩
  refine ⟨fun _ Γ => ∃ x y, Γ = gC d n Gs M (some (.val s4)) (some (.val s5)) (some (.val s7)) (some (.val s8)) (some (.val er)) x y, ⟨none, none, rfl⟩, [10], ?_, ?_⟩
  · rintro i t Γ2 ht ⟨x, y, rfl⟩
    have tL : OkB t := by
      match i, ht with
      | 0, ht => exact Option.some.inj ht ▸ k1
      | 1, ht => exact Option.some.inj ht ▸ k2
      | 2, ht => exact Option.some.inj ht ▸ k3
      | i + 3, ht => simp at ht
    clear ht
    refine wg_name (i := 10) sc_right.nd rfl (by walk_at "loc") (Nat.le_of_ble_eq_true rfl) ?_
    show WSs _ _ _ (gC d n Gs M (some (.val s4)) (some (.val s5)) (some (.val s7)) (some (.val s8)) (some (.val er)) (some (.val t)) y) _
    refine ws_cons ?_
    refine ws_set (i := 11) sc_right.nd rfl (by walk_at "loc") (Nat.le_of_ble_eq_true rfl) ?_
    refine we_call R (G.lisg.dfn hr (by decide)) rfl ?_
    walk_at "cs"
    refine ⟨t, rfl, tL.l, ?_⟩
    show WSs _ _ _ (gC d n Gs M (some (.val s4)) (some (.val s5)) (some (.val s7)) (some (.val s8)) (some (.val er)) (some (.val t)) (some (.val (.bl t.isGrp)))) _
    refine ws_cons ?_
    walk_at "cs"
    refine ⟨t, rfl, tL.g, ?_⟩
    walk_at "cs"
    refine ⟨t, rfl, tL.g, ?_⟩
    walk_at "cs"
    refine rn_says (fun x hx => ?_) (Nat.le_of_ble_eq_true rfl) ⟨_, rfl, ?_⟩
    · simp only [List.mem_cons, List.not_mem_nil, or_false] at hx
      rcases hx with rfl | rfl <;> rfl
    walk_at "cs"
    refine wt_cmp (op_neX hr) ?_ (nomark _)
    refine we_isc (k := 6) (bo := !t.isGrp) (C := ad.group) rfl G.T.isinstance rfl LK.CA LK.TB rfl LK.tin LK.tun hr ls_mak rfl (fun _ _ _ _ _ => rfl) (lcfg LK.tin) rfl G.Z.group.g (fun B H1 A2 o2 sh2 HZ E2 f2 c2 hr2 R2 => ?_) ?_
    · refine we_call R2 (G.mak.gd.dfn hr2 (by decide)) rfl ?_
      exact wa_cons (we_name (i := 10) rfl (by walk_at "vis") rfl (wa_nil ⟨rfl, say_mak Z tL fun o h => say_run h⟩))
    walk_at "cs"
    refine ⟨_, rfl, ?_⟩
    refine od_ne rfl rfl ⟨_, rfl, ?_⟩
    rw [show D.eq (.bl (!t.isGrp)) (.bl (!t.isGrp)) = true from eqv_refl _ 60 rfl]
    walk_at "cs"
    exact ⟨_, _, rfl⟩
  · rintro Γ2 ⟨x, y, rfl⟩
    exact ws_cons (ws_ret (we_bl done))
def spRight (d : Dr) : DS := ⟨fun ds k => ds = [.obj d.a] ∧ k (.ret (.bl true)), fun _ _ _ i ⟨e, h⟩ => ⟨e, i _ h⟩⟩
theorem ok_right {fd : FuncData} (Fn : FunC K "_law_right" "_law_right" sRight f fd c) (G : GsR P w K mg base ad d) (Z : EK K ad CS) (LK : LamK base mg K d c Pt CS "_law_right.<locals>.<lambda>") :
    FnOk P w K mg base (L2.CX P w) 9 f fd ["draw"] (SpD K d.cfg 1 (spRight d)) := by
  refine defnC (k := 8) (ps := ["draw"]) Fn sc_right fun A outer sh H E hr H0 B0 ds Φ hlw h R => ?_
  obtain ⟨rfl, h⟩ := h
  refine right_0 G hr R fun n Gs g => ?_
  have h1 := g.g.h1
  have h5 := g.g.h5
  refine right_1 G hr R g (right_2 G hr R g (right_3 G hr R g fun S hS => right_4 G hr R g hS ?_))
  refine right_5 G hr R h5 fun lot l3 pm => right_6 G hr R h1 h5 l3 pm fun L cL => ?_
  have pL : ∀ m ∈ L, Pm n m := fun m hm => ((cL.mem m).mp hm).pm pm
  exact right_7 G Z LK hr R h1 h5 l3 pm cL fun er fo q => right_8 G hr R h1 h5 pL q (right_9 G Z LK hr R g h)
end
end L2.Px
end
section
/-! KL: law -/
namespace L2.Px
open PySem PySem.Spec
open PyProof.Rows LamX
variable [Wld]
local macro_rules | `(tactic| walk_at "vis") => `(tactic| first | exact .inl rfl | exact .inr (.inl rfl) | exact .inr (.inr rfl))
local macro_rules | `(tactic| walk_at "n") => `(tactic| first
  | refine we_name (i := 0) rfl (by walk_at "vis") rfl ?_
  | refine we_name (i := 1) rfl (by walk_at "vis") rfl ?_
  | refine we_name (i := 2) rfl (by walk_at "vis") rfl ?_
  | refine we_name (i := 3) rfl (by walk_at "vis") rfl ?_
  | refine we_name (i := 4) rfl (by walk_at "vis") rfl ?_
  | refine we_name (i := 5) rfl (by walk_at "vis") rfl ?_
  | refine we_name (i := 6) rfl (by walk_at "vis") rfl ?_
  | refine we_name (i := 7) rfl (by walk_at "vis") rfl ?_
  | refine we_name (i := 8) rfl (by walk_at "vis") rfl ?_
  | refine we_name (i := 9) rfl (by walk_at "vis") rfl ?_)
local macro_rules | `(tactic| walk_at "e1") => `(tactic| first
  | ((with_reducible show (if _ then _ else _)); first | refine itT ?_ | refine itF ?_)
  | ((with_reducible show WE _ _ (.Name _ _) _ _); walk_at "n")
  | ((with_reducible show WE _ _ (.Constant (.int _) _ _) _ _); refine we_int ?_)
  | ((with_reducible show WE _ _ (.Constant (.str _) _ _) _ _); refine we_str ?_)
  | ((with_reducible show WE _ _ (.Constant (.bool _) _ _) _ _); refine we_bl ?_)
  | ((with_reducible show WE _ _ (.Constant .none _ _) _ _); refine we_non ?_)
  | ((with_reducible show WA _ _ (_ :: _) _ _); refine wa_cons ?_)
  | ((with_reducible show WA _ _ [] _ _); refine wa_nil ?_)
  | ((with_reducible show WE _ _ (.BoolOp _ [_] _) _ _); refine we_one ?_)
  | ((with_reducible show WE _ _ (.BoolOp .And _ _) _ _); refine we_and ?_)
  | ((with_reducible show WE _ _ (.BoolOp .Or _ _) _ _); refine we_or ?_)
  | ((with_reducible show WE _ _ (.UnaryOp .Not _ _) _ _); refine we_not ?_)
  | ((with_reducible show WE _ _ (.IfExp _ _ _ _) _ _); refine we_ifExp ?_)
  | ((with_reducible show WE _ _ (.Tuple _ _ _) _ _); refine we_tup ?_)
  | ((with_reducible show WE _ _ (.List _ _) _ _); refine we_lst ?_)
  | ((with_reducible show WE _ _ (.BinOp _ .Add _ _) _ _); refine we_add ?_)
  | ((with_reducible show WE _ _ (.BinOp _ .Sub _ _) _ _); refine we_sub ?_)
  | ((with_reducible show WE _ _ (.BinOp _ .Mult _ _) _ _); refine we_mul ?_)
  | ((with_reducible show WE _ _ (.BinOp _ .Mod _ _) _ _); refine we_mod ?_)
  | ((with_reducible show WE _ _ (.BinOp _ .FloorDiv _ _) _ _); refine we_fdiv ?_)
  | ((with_reducible show WE _ _ (.BinOp _ .Pow _ _) _ _); refine we_pow ?_)
  | ((with_reducible show WT _ _ (.UnaryOp .Not _ _) _ _); refine wt_not ?_)
  | ((with_reducible show WT _ _ (.BoolOp .And _ _) _ _); refine wt_ww (ww_and ?_))
  | ((with_reducible show WT _ _ (.BoolOp .Or _ _) _ _); refine wt_ww (ww_or ?_))
  | ((with_reducible show WW _ _ (.BoolOp .And [_] _) _ _); refine ww_and1 ?_)
  | ((with_reducible show WW _ _ (.BoolOp .Or [_] _) _ _); refine ww_or1 ?_)
  | ((with_reducible show WW _ _ (.BoolOp .And _ _) _ _); refine ww_and ?_)
  | ((with_reducible show WW _ _ (.BoolOp .Or _ _) _ _); refine ww_or ?_)
  | ((with_reducible show WSs _ _ (_ :: _) _ _); refine ws_cons ?_)
  | ((with_reducible show WSs _ _ [] _ _); refine ws_nil ?_)
  | ((with_reducible show WS _ _ (.Return (some _) _) _ _); refine ws_ret ?_)
  | ((with_reducible show WS _ _ (.If _ _ _ _) _ _); refine ws_if ?_)
  | ((with_reducible show WT _ _ (.Call _ _ _ _) _ _); refine wt_val ?_)
  | ((with_reducible show WT _ _ (.Name _ _) _ _); refine wt_val ?_))
local macro_rules | `(tactic| walk_at "e") => `(tactic| repeat' walk_at "e1")
local macro_rules | `(tactic| walk_at "d1") => `(tactic| first
  | walk_at "e1"
  | ((with_reducible show WE _ _ (.UnaryOp .USub _ _) _ _); refine we_neg ?_)
  | ((with_reducible show WE _ _ (.Dict [] [] _) _ _); refine we_dict0 ?_)
  | ((with_reducible show WE _ _ (.Dict [_] _ _) _ _); refine we_dict1 ?_)
  | ((with_reducible show _ ≤ _ ∧ _); refine ⟨Nat.le_of_ble_eq_true rfl, ?_⟩)
  | ((with_reducible show ∃ i, D.int _ = D.int i ∧ _); refine ⟨_, rfl, ?_⟩)
  | ((with_reducible show ∃ i j, D.int _ = D.int i ∧ D.int _ = D.int j ∧ _); refine ⟨_, _, rfl, rfl, ?_⟩)
  | ((with_reducible show WE _ _ (.Call (.Name (Str.ofString "len") _) [Expr.Name _ _] [] _) _ _); refine we_callB cr_lenX rfl (Tx.len ‹Tx _›) bb_len ?_; walk_at "e"; refine cd_len (.inr rfl) ?_))
local macro_rules | `(tactic| walk_at "d") => `(tactic| repeat' walk_at "d1")


local macro_rules | `(tactic| walk_at "loc") => `(tactic| first | exact .inl rfl | exact .inr rfl)
set_option hygiene false in
local macro_rules | `(tactic| walk_at "c") => `(tactic| first
  | ((with_reducible show WE _ _ (.Call (.Name "is_group" _) (_ :: _) _ _) _ _); refine we_call R (G.isg.gd.dfn hr (by decide)) rfl ?_)
  | ((with_reducible show WE _ _ (.Call (.Name "is_group" _) [] _ _) _ _); refine we_callK1 R G.isg hr (by decide) rfl ?_)
  | ((with_reducible show WE _ _ (.Call (.Name "makers" _) (_ :: _) _ _) _ _); refine we_call R (G.mak.gd.dfn hr (by decide)) rfl ?_)
  | ((with_reducible show WE _ _ (.Call (.Name "makers" _) [] _ _) _ _); refine we_callK1 R G.mak hr (by decide) rfl ?_)
  | ((with_reducible show WE _ _ (.Call (.Name "closed" _) (_ :: _) _ _) _ _); refine we_call R (G.clo.gd.dfn hr (by decide)) rfl ?_)
  | ((with_reducible show WE _ _ (.Call (.Name "closed" _) [] _ _) _ _); refine we_callK2 R G.clo hr (by decide) rfl ?_)
  | ((with_reducible show WE _ _ (.Call (.Name "_law_says" _) (_ :: _) _ _) _ _); refine we_call R (G.says.dfn hr (by decide)) rfl ?_)
  | ((with_reducible show (_ = _ ∧ _)); refine ⟨rfl, ?_⟩)
  | walk_at "d1")
local macro_rules | `(tactic| walk_at "cs") => `(tactic| repeat' walk_at "c")

local macro_rules | `(tactic| walk_at "n") => `(tactic| first
  | refine we_name (i := 10) rfl (by walk_at "vis") rfl ?_
  | refine we_name (i := 11) rfl (by walk_at "vis") rfl ?_)

/-! ### the whole of five places -/
theorem bfs_fold {n : Nat} {ms : List (List Int)} {h : List Int} (rh : Reach n ms h) : ∀ (l : List (List Int)), (∀ m ∈ l, m ∈ ms) → ∀ p : List (List Int) × List (List Int), (∀ x ∈ p.1, Reach n ms x) → (∀ x ∈ p.2, Reach n ms x) →
    (∀ x ∈ (l.foldl (fun (p : List (List Int) × List (List Int)) m => let y := thenI h m; if p.1.contains y then p else (y :: p.1, y :: p.2)) p).1, Reach n ms x) ∧ ∀ x ∈ (l.foldl (fun (p : List (List Int) × List (List Int)) m => let y := thenI h m; if p.1.contains y then p else (y :: p.1, y :: p.2)) p).2, Reach n ms x
  | [], _, p, h1, h2 => ⟨h1, h2⟩
  | m :: l, hl, p, h1, h2 => by
    have ry : Reach n ms (thenI h m) := .step rh (hl m List.mem_cons_self)
    rw [List.foldl_cons]
    by_cases e : p.1.contains (thenI h m) = true
    · dsimp only
      rw [if_pos e]
      exact bfs_fold rh l (fun x hx => hl x (List.mem_cons_of_mem _ hx)) p h1 h2
    · dsimp only
      rw [if_neg e]
      refine bfs_fold rh l (fun x hx => hl x (List.mem_cons_of_mem _ hx)) _ (fun x hx => ?_) fun x hx => ?_
      · rcases List.mem_cons.mp hx with rfl | hx
        · exact ry
        · exact h1 x hx
      · rcases List.mem_cons.mp hx with rfl | hx
        · exact ry
        · exact h2 x hx
theorem bfs_re {n : Nat} {ms : List (List Int)} : ∀ (k : Nat) (f ln : List (List Int)), (∀ x ∈ f, Reach n ms x) → (∀ x ∈ ln, Reach n ms x) → ∀ x ∈ bfs ms k f ln, Reach n ms x
  | 0, f, ln, h1, h2, x, hx => h1 x hx
  | k + 1, f, [], h1, h2, x, hx => h1 x hx
  | k + 1, f, h :: ln, h1, h2, x, hx => by
    have q := bfs_fold (h2 h List.mem_cons_self) ms (fun m hm => hm) (f, ln) h1 fun x hx => h2 x (List.mem_cons_of_mem _ hx)
    exact bfs_re k _ _ q.1 q.2 x hx
omit [Wld] in
def s5 : List (List Int) := [[1, 2, 3, 4, 0], [1, 0, 2, 3, 4]]
omit [Wld] in
theorem s5_nd : (bfs s5 130 [unitI 5] [unitI 5]).Nodup := by decide +kernel
omit [Wld] in
theorem s5_len : (bfs s5 130 [unitI 5] [unitI 5]).length = 120 := by decide +kernel
theorem pm_c {n : Nat} {a : List Int} (h : (pms (unitI n)).contains a = true) : Pm n a := pm_of_perm (pms_perm _ _ (List.contains_iff_mem.mp h))
theorem pm_s5 : ∀ m ∈ s5, Pm 5 m := fun m hm => by
  unfold s5 at hm
  simp only [List.mem_cons, List.not_mem_nil, or_false] at hm
  rcases hm with rfl | rfl <;> exact pm_c (by decide +kernel)
theorem s5_big {L : List (List Int)} (c : Cls 5 s5 L) : ¬ L.length ≤ 60 := by
  have q := nodup_le s5_nd fun x hx => (c.mem x).mpr (bfs_re 130 [unitI 5] [unitI 5] (fun x hx => by rw [List.mem_singleton.mp hx]; exact .unit) (fun x hx => by rw [List.mem_singleton.mp hx]; exact .unit) x hx)
  rw [s5_len] at q
  omega
/-! ### small ones -/
theorem cls_c3 : Cls 3 [[1, 2, 0]] [[0, 1, 2], [1, 2, 0], [2, 0, 1]] := by
  have u : unitI 3 = [0, 1, 2] := by decide
  refine ⟨?_, fun x => ⟨fun hx => ?_, fun r => isCl_has (n := 3) (ms := [[1, 2, 0]]) (S := [[0, 1, 2], [1, 2, 0], [2, 0, 1]]) (by decide) r⟩⟩
  · unfold Asc
    simp [ltL]
  · have r0 : Reach 3 [[1, 2, 0]] [0, 1, 2] := u ▸ .unit
    have r1 : Reach 3 [[1, 2, 0]] [1, 2, 0] := .step r0 (m := [1, 2, 0]) (by simp)
    have r2 : Reach 3 [[1, 2, 0]] [2, 0, 1] := .step r1 (m := [1, 2, 0]) (by simp)
    simp only [List.mem_cons, List.not_mem_nil, or_false] at hx
    rcases hx with rfl | rfl | rfl
    · exact r0
    · exact r1
    · exact r2
theorem cls_c2 : Cls 2 [] [[0, 1]] := by
  have c := clo_cls (n := 2) (ms := []) (fun m hm => by cases hm) (by decide) (by decide)
  rw [clo_nil 2 (by decide) (by decide)] at c
  exact c
theorem grp_1 : GrpD 1 [[0]] := by
  have c := clo_cls (n := 1) (ms := []) (fun m hm => by cases hm) (by decide) (by decide)
  rw [clo_nil 1 (by decide) (by decide)] at c
  exact ⟨Grp.of (by decide) (by decide) (fun m hm => by cases hm) c, (by decide)⟩
theorem mkrs_1 : mkrs 1 [[0]] = [] := by
  show mkStep 1 [] [0] = []
  unfold mkStep
  rw [clo_nil 1 (by decide) (by decide), if_pos (by decide)]
theorem rn_closedB {ad : Ad} {p dd : D} {k : Out → Prop} (pt : p.plainTy = true) (pn : p.okPl = false) (hd : dd.okMs) (h : k (.exc ad.places)) : (spClosed ad).run [p, dd] k := by
  have no : ∀ {n : Nat}, p = .int n → 1 ≤ n → n ≤ 5 → False := fun {n} e h1 h5 => by
    subst e
    have : (decide (1 ≤ (n : Int)) && decide ((n : Int) ≤ 5)) = false := pn
    rw [decide_eq_true (by omega), decide_eq_true (by omega)] at this
    cases this
  exact ⟨p, dd, rfl, pt, hd, ⟨fun _ => h, fun e _ => absurd e (by rw [pn]; decide), fun xs e _ _ => absurd e (by rw [pn]; decide), fun n xs e a b _ _ _ => (no e a b).elim, fun n ms L e a b _ _ _ _ => (no e a b).elim⟩⟩
theorem rn_closedW {ad : Ad} {dd : D} {k : Out → Prop} (hd : dd.okMs) (bad : ∀ ms, (dd = .lst (perms ms) ∨ dd = .tup (perms ms)) → ms.length ≤ 60 → ¬ ∀ m ∈ ms, Pm 3 m) (h : k (.exc ad.members)) : (spClosed ad).run [.int 3, dd] k := by
  refine ⟨.int 3, dd, rfl, rfl, hd, ⟨fun e => absurd e (by decide), fun _ _ => h, fun _ _ _ _ => h, fun _ _ _ _ _ _ _ _ => h, fun n ms L e a b hm l pm c => ?_⟩⟩
  have en : n = 3 := by have := D.int_inj e; omega
  subst en
  exact absurd pm (bad ms hm l)
theorem bad_all {xs : List D} (h : xs.all (fun y => y.memb 3) = false) : ∀ ms, (D.lst xs = .lst (perms ms) ∨ D.lst xs = .tup (perms ms)) → ms.length ≤ 60 → ¬ ∀ m ∈ ms, Pm 3 m := fun ms e _ pm => by
  have e2 : xs = perms ms := by
    rcases e with e | e
    · cases e
      rfl
    · cases e
  subst e2
  have : (perms ms).all (fun y => y.memb 3) = true := List.all_eq_true.mpr fun x hx => by
    obtain ⟨a, ha, rfl⟩ := List.mem_map.mp (show x ∈ ms.map _ from hx)
    exact memb_pm (pm a ha)
  rw [this] at h
  cases h
theorem bad_len {xs : List D} (h : 60 < xs.length) : ∀ ms, (D.lst xs = .lst (perms ms) ∨ D.lst xs = .tup (perms ms)) → ms.length ≤ 60 → ¬ ∀ m ∈ ms, Pm 3 m := fun ms e l _ => by
  have e2 : xs = perms ms := by
    rcases e with e | e
    · cases e
      rfl
    · cases e
  subst e2
  rw [perms_len] at h
  omega
/-- wrong members -/
structure Wrg (x : D) : Prop where
  ok : x.okMs
  bad : ∀ ms, (x = .lst (perms ms) ∨ x = .tup (perms ms)) → ms.length ≤ 60 → ¬ ∀ m ∈ ms, Pm 3 m
theorem wrg_no {x : D} (p : x.plainTy = true) (n : x.isDix = false) (s : (x.isLst || x.isTup) = false) : Wrg x := ⟨⟨⟨p, n⟩, fun xs e => by rcases e with rfl | rfl <;> cases s⟩, fun ms e => by rcases e with rfl | rfl <;> cases s⟩
theorem okMs_l {xs : List D} (h : xs.length ≤ 1000) (e : ∀ x ∈ xs, Ele x) : (D.lst xs).okMs := ⟨⟨rfl, rfl⟩, fun ys z => by
  rcases z with z | z
  · cases z
    exact ⟨h, fun x hx => (e x hx).okT⟩
  · cases z⟩
end L2.Px
end
section
/-! KL: law, the walk -/
namespace L2.Px
open PySem PySem.Spec
open PyProof.Rows LamX
variable [Wld]
local macro_rules | `(tactic| walk_at "vis") => `(tactic| first | exact .inl rfl | exact .inr (.inl rfl) | exact .inr (.inr rfl))
local macro_rules | `(tactic| walk_at "n") => `(tactic| first
  | refine we_name (i := 0) rfl (by walk_at "vis") rfl ?_
  | refine we_name (i := 1) rfl (by walk_at "vis") rfl ?_
  | refine we_name (i := 2) rfl (by walk_at "vis") rfl ?_
  | refine we_name (i := 3) rfl (by walk_at "vis") rfl ?_
  | refine we_name (i := 4) rfl (by walk_at "vis") rfl ?_
  | refine we_name (i := 5) rfl (by walk_at "vis") rfl ?_
  | refine we_name (i := 6) rfl (by walk_at "vis") rfl ?_
  | refine we_name (i := 7) rfl (by walk_at "vis") rfl ?_
  | refine we_name (i := 8) rfl (by walk_at "vis") rfl ?_
  | refine we_name (i := 9) rfl (by walk_at "vis") rfl ?_)
local macro_rules | `(tactic| walk_at "e1") => `(tactic| first
  | ((with_reducible show (if _ then _ else _)); first | refine itT ?_ | refine itF ?_)
  | ((with_reducible show WE _ _ (.Name _ _) _ _); walk_at "n")
  | ((with_reducible show WE _ _ (.Constant (.int _) _ _) _ _); refine we_int ?_)
  | ((with_reducible show WE _ _ (.Constant (.str _) _ _) _ _); refine we_str ?_)
  | ((with_reducible show WE _ _ (.Constant (.bool _) _ _) _ _); refine we_bl ?_)
  | ((with_reducible show WE _ _ (.Constant .none _ _) _ _); refine we_non ?_)
  | ((with_reducible show WA _ _ (_ :: _) _ _); refine wa_cons ?_)
  | ((with_reducible show WA _ _ [] _ _); refine wa_nil ?_)
  | ((with_reducible show WE _ _ (.BoolOp _ [_] _) _ _); refine we_one ?_)
  | ((with_reducible show WE _ _ (.BoolOp .And _ _) _ _); refine we_and ?_)
  | ((with_reducible show WE _ _ (.BoolOp .Or _ _) _ _); refine we_or ?_)
  | ((with_reducible show WE _ _ (.UnaryOp .Not _ _) _ _); refine we_not ?_)
  | ((with_reducible show WE _ _ (.IfExp _ _ _ _) _ _); refine we_ifExp ?_)
  | ((with_reducible show WE _ _ (.Tuple _ _ _) _ _); refine we_tup ?_)
  | ((with_reducible show WE _ _ (.List _ _) _ _); refine we_lst ?_)
  | ((with_reducible show WE _ _ (.BinOp _ .Add _ _) _ _); refine we_add ?_)
  | ((with_reducible show WE _ _ (.BinOp _ .Sub _ _) _ _); refine we_sub ?_)
  | ((with_reducible show WE _ _ (.BinOp _ .Mult _ _) _ _); refine we_mul ?_)
  | ((with_reducible show WE _ _ (.BinOp _ .Mod _ _) _ _); refine we_mod ?_)
  | ((with_reducible show WE _ _ (.BinOp _ .FloorDiv _ _) _ _); refine we_fdiv ?_)
  | ((with_reducible show WE _ _ (.BinOp _ .Pow _ _) _ _); refine we_pow ?_)
  | ((with_reducible show WT _ _ (.UnaryOp .Not _ _) _ _); refine wt_not ?_)
  | ((with_reducible show WT _ _ (.BoolOp .And _ _) _ _); refine wt_ww (ww_and ?_))
  | ((with_reducible show WT _ _ (.BoolOp .Or _ _) _ _); refine wt_ww (ww_or ?_))
  | ((with_reducible show WW _ _ (.BoolOp .And [_] _) _ _); refine ww_and1 ?_)
  | ((with_reducible show WW _ _ (.BoolOp .Or [_] _) _ _); refine ww_or1 ?_)
  | ((with_reducible show WW _ _ (.BoolOp .And _ _) _ _); refine ww_and ?_)
  | ((with_reducible show WW _ _ (.BoolOp .Or _ _) _ _); refine ww_or ?_)
  | ((with_reducible show WSs _ _ (_ :: _) _ _); refine ws_cons ?_)
  | ((with_reducible show WSs _ _ [] _ _); refine ws_nil ?_)
  | ((with_reducible show WS _ _ (.Return (some _) _) _ _); refine ws_ret ?_)
  | ((with_reducible show WS _ _ (.If _ _ _ _) _ _); refine ws_if ?_)
  | ((with_reducible show WT _ _ (.Call _ _ _ _) _ _); refine wt_val ?_)
  | ((with_reducible show WT _ _ (.Name _ _) _ _); refine wt_val ?_))
local macro_rules | `(tactic| walk_at "e") => `(tactic| repeat' walk_at "e1")
local macro_rules | `(tactic| walk_at "d1") => `(tactic| first
  | walk_at "e1"
  | ((with_reducible show WE _ _ (.UnaryOp .USub _ _) _ _); refine we_neg ?_)
  | ((with_reducible show WE _ _ (.Dict [] [] _) _ _); refine we_dict0 ?_)
  | ((with_reducible show WE _ _ (.Dict [_] _ _) _ _); refine we_dict1 ?_)
  | ((with_reducible show _ ≤ _ ∧ _); refine ⟨Nat.le_of_ble_eq_true rfl, ?_⟩)
  | ((with_reducible show ∃ i, D.int _ = D.int i ∧ _); refine ⟨_, rfl, ?_⟩)
  | ((with_reducible show ∃ i j, D.int _ = D.int i ∧ D.int _ = D.int j ∧ _); refine ⟨_, _, rfl, rfl, ?_⟩)
  | ((with_reducible show WE _ _ (.Call (.Name (Str.ofString "len") _) [Expr.Name _ _] [] _) _ _); refine we_callB cr_lenX rfl (Tx.len ‹Tx _›) bb_len ?_; walk_at "e"; refine cd_len (.inr rfl) ?_))
local macro_rules | `(tactic| walk_at "d") => `(tactic| repeat' walk_at "d1")


local macro_rules | `(tactic| walk_at "loc") => `(tactic| first | exact .inl rfl | exact .inr rfl)
set_option hygiene false in
local macro_rules | `(tactic| walk_at "c") => `(tactic| first
  | ((with_reducible show WE _ _ (.Call (.Name "is_group" _) (_ :: _) _ _) _ _); refine we_call R (G.isg.gd.dfn hr (by decide)) rfl ?_)
  | ((with_reducible show WE _ _ (.Call (.Name "is_group" _) [] _ _) _ _); refine we_callK1 R G.isg hr (by decide) rfl ?_)
  | ((with_reducible show WE _ _ (.Call (.Name "makers" _) (_ :: _) _ _) _ _); refine we_call R (G.mak.gd.dfn hr (by decide)) rfl ?_)
  | ((with_reducible show WE _ _ (.Call (.Name "makers" _) [] _ _) _ _); refine we_callK1 R G.mak hr (by decide) rfl ?_)
  | ((with_reducible show WE _ _ (.Call (.Name "closed" _) (_ :: _) _ _) _ _); refine we_call R (G.clo.gd.dfn hr (by decide)) rfl ?_)
  | ((with_reducible show WE _ _ (.Call (.Name "closed" _) [] _ _) _ _); refine we_callK2 R G.clo hr (by decide) rfl ?_)
  | ((with_reducible show WE _ _ (.Call (.Name "_law_says" _) (_ :: _) _ _) _ _); refine we_call R (G.says.dfn hr (by decide)) rfl ?_)
  | ((with_reducible show (_ = _ ∧ _)); refine ⟨rfl, ?_⟩)
  | walk_at "d1")
local macro_rules | `(tactic| walk_at "cs") => `(tactic| repeat' walk_at "c")

local macro_rules | `(tactic| walk_at "n") => `(tactic| first
  | refine we_name (i := 10) rfl (by walk_at "vis") rfl ?_
  | refine we_name (i := 11) rfl (by walk_at "vis") rfl ?_)


abbrev nLaw : List Str := ["script", "draw", "lap", "bad", "wrong", "errors"]
theorem sc_law : FnScope nLaw ["script"] (defScope sLaw) := ⟨rfl, rfl, rfl, by decide +kernel, rfl, by decide +kernel, by decide +kernel⟩
section
variable {P : Program} {w : World} {K : PySem.W.Frag} {mg : Str → Option Value} {base : Heap} {ad : Ad} {d : Dr} {f c Pt CS : Addr} {A : Around} {outer : List Env} {sh : Shared} {H : Hp} {E : XK} {H0 B0 : Hp}
abbrev xL (P : Program) (w : World) (K : PySem.W.Frag) (mg : Str → Option Value) (base : Heap) (f : Addr) (cdv : Value) (A : Around) (outer : List Env) (sh : Shared) (H : Hp) (E : XK) : Cx := cxOf (L2.CX P w) P w K mg base nLaw "law" (defScope sLaw) f cdv A outer sh H E
abbrev gL (d : Dr) (ns : List Int) (x y z u : Option Sl) : Gam := [some (.val (.scr ns)), some (.val (.obj d.a)), x, y, z, u]
theorem lq_bad : LamS (defScope sLaw) { kind := .function, names := [("bad", .free), ("closed", .globalImplicit)], isGenerator := false, isCoroutine := false } := lamS_by (by decide +kernel)
theorem lq_wrong : LamS (defScope sLaw) { kind := .function, names := [("wrong", .free), ("closed", .globalImplicit)], isGenerator := false, isCoroutine := false } := lamS_by (by decide +kernel)
theorem lq_five : LamS (defScope sLaw) { kind := .function, names := [("closed", .globalImplicit)], isGenerator := false, isCoroutine := false } := lamS_by (by decide +kernel)
theorem all_one {a : List Int} (h : ¬ a.Perm (unitI 3)) : [D.tup (D.ints a)].all (fun y => y.memb 3) = false := by
  cases e : [D.tup (D.ints a)].all (fun y => y.memb 3) with
  | false => rfl
  | true =>
    obtain ⟨b, eb, pb⟩ := memb_ok (List.all_eq_true.mp e _ List.mem_cons_self)
    have := ints_inj (D.tup.inj eb)
    subst this
    exact absurd pb.perm h
theorem law_w {EX : EC → Prop} {ns : List Int} {ed : ED} (G : GsR P w K mg base ad d) (Z : EK K ad CS) (M : Tm K ad.many) (L : LamK base mg K d c Pt CS "law.<locals>.<lambda>") (gr : Gd P w K mg base "_law_right" 9 d.cfg ["draw"] (spRight d)) (hl : ns.length ≤ 1000)
    (hr : Room 9 (A.deeper (envOfC "law" (defScope sLaw) sh.heap.objs.size f (.ref c)))) (R : Rs (xL P w K mg base f (.ref c) A outer sh H E) ⟨d.cfg, H0, B0⟩ EX) (done : ed.rt (.bl true)) :
    WSs (xL P w K mg base f (.ref c) A outer sh H E) ⟨d.cfg, H0, B0⟩ ((defBody sLaw).drop 1) (gL d ns none none none none) ed := by
  have T := G.T
  refine ws_cons ?_
  refine ws_for (passes_of rfl) rfl (wi_range1 rfl G.T.range ?_)
  walk_at "cs"
  refine we_callB (cr_min2X rfl) rfl G.T.min bb_min ?_
  walk_at "e"
  refine we_callB cr_lenX rfl G.T.len bb_len ?_
  walk_at "e"
  refine cd_lenScr ?_
  walk_at "e"
  refine cd_min2 ?_
  refine od_add ?_
  have hb : ∀ j : Int, j = 4 + (if (7 : Int) < (ns.length : Int) then 7 else (ns.length : Int)) → 4 ≤ j ∧ j ≤ 11 := by
    intro j e
    split at e <;> omega
  have hb := hb _ rfl
  refine ⟨_, rfl, by omega, by omega, ?_⟩
  generalize (List.range _).map _ = us
  refine ⟨fun _ Γ => ∃ x, Γ = gL d ns x none none none, ⟨none, rfl⟩, [2], ?_, ?_⟩
  · rintro i t Γ2 ht ⟨x, rfl⟩
    refine wg_name (i := 2) sc_law.nd rfl (by walk_at "loc") (Nat.le_of_ble_eq_true rfl) ?_
    show WSs _ _ _ (gL d ns (some (.val t)) none none none) _
    refine ws_cons ?_
    walk_at "cs"
    refine we_callC R (gr.dfn hr (by decide)) rfl ?_
    walk_at "cs"
    exact ⟨rfl, _, rfl, itF (ws_nil (ws_nil ⟨_, rfl⟩))⟩
  · rintro Γ2 ⟨x, rfl⟩
    refine ws_cons ?_
    refine ws_set (i := 3) sc_law.nd rfl (by walk_at "loc") (Nat.le_of_ble_eq_true rfl) ?_
    refine we_callC R (G.pick.dfn hr (by decide)) rfl ?_
    walk_at "cs"
    refine ⟨_, rfl, Nat.le_of_ble_eq_true rfl, Nat.le_of_ble_eq_true rfl, fun bad hz => ?_⟩
    have hb : bad.plainTy = true ∧ bad.okPl = false := by
      simp only [List.mem_cons, List.not_mem_nil, or_false] at hz
      rcases hz with rfl | rfl | rfl | rfl | rfl <;> exact ⟨rfl, rfl⟩
    clear hz
    show WSs _ _ _ (gL d ns x (some (.val bad)) none none) _
    refine ws_cons ?_
    refine ws_set (i := 4) sc_law.nd rfl (by walk_at "loc") (Nat.le_of_ble_eq_true rfl) ?_
    refine we_callC R (G.pick.dfn hr (by decide)) rfl ?_
    walk_at "cs"
    refine od_rep (n := 61) (by decide) (Nat.le_of_ble_eq_true rfl) ?_
    walk_at "cs"
    refine ⟨_, rfl, Nat.le_of_ble_eq_true rfl, Nat.le_of_ble_eq_true rfl, fun wrong hz => ?_⟩
    have hw : Wrg wrong := by
      simp only [List.mem_cons, List.not_mem_nil, or_false] at hz
      rcases hz with rfl | rfl | rfl | rfl | rfl | rfl | rfl | rfl | rfl
      · exact wrg_no rfl rfl rfl
      · exact wrg_no rfl rfl rfl
      · exact wrg_no rfl rfl rfl
      · exact ⟨okMs_l (by decide) (fun x hx => by rw [List.mem_singleton.mp hx]; exact ele_ints (a := [0, 1]) (by decide)), bad_all (all_one (a := [0, 1]) (by decide))⟩
      · exact ⟨okMs_l (by decide) (fun x hx => by rw [List.mem_singleton.mp hx]; exact ele_ints (a := [0, 0, 1]) (by decide)), bad_all (all_one (a := [0, 0, 1]) (by decide))⟩
      · exact ⟨okMs_l (by decide) (fun x hx => by rw [List.mem_singleton.mp hx]; exact ele_of rfl), bad_all (by decide +kernel)⟩
      · refine ⟨okMs_l (Nat.le_of_ble_eq_true rfl) (fun x hx => ?_), bad_len (Nat.lt_of_lt_of_le (by decide : 60 < 61) (Nat.le_of_ble_eq_true rfl))⟩
        have e : x = .tup (D.ints [1, 0, 2]) := by
          obtain ⟨l, hl, hx⟩ := List.mem_flatten.mp hx
          rw [List.eq_of_mem_replicate hl] at hx
          exact List.mem_singleton.mp hx
        rw [e]
        exact ele_ints (by decide)
      · exact ⟨okMs_l (by decide) (fun x hx => by rw [List.mem_singleton.mp hx]; exact ele_lints (a := [1, 0, 2]) (by decide)), bad_all (by decide +kernel)⟩
      · exact wrg_no rfl rfl rfl
    clear hz
    show WSs _ _ _ (gL d ns x (some (.val bad)) (some (.val wrong)) none) _
    refine ws_cons (ws_setN (i := 5) sc_law.nd rfl (by walk_at "loc") (Nat.le_of_ble_eq_true rfl) (wn_lst (wa_cons ?_)))
    refine we_caught (k := 7) rfl L.CA L.TB rfl L.tin L.tun hr lq_bad rfl (fun _ _ _ _ _ => rfl) (lcfg L.tin) fun B H1 A2 o2 sh2 HZ E2 f2 c2 hr2 R2 => ?_
    refine we_call R2 (G.clo.gd.dfn hr2 (by decide)) rfl (wa_cons (we_name (i := 3) rfl (by walk_at "vis") rfl (wa_cons (we_non (wa_nil ?_)))))
    refine ⟨rfl, rn_closedB hb.1 hb.2 ⟨⟨rfl, rfl⟩, fun xs e => by rcases e with e | e <;> cases e⟩ ?_⟩
    refine ⟨Z.plaS, wa_nil ⟨Nat.le_of_ble_eq_true rfl, ?_⟩⟩
    show WSs _ _ _ (gL d ns x (some (.val bad)) (some (.val wrong)) (some (.own (.lst [.exc ad.places])))) _
    refine ws_cons (ws_expr (we_append (i := 5) rfl (by walk_at "vis") rfl ?_))
    refine we_caught (k := 7) rfl L.CA L.TB rfl L.tin L.tun hr lq_wrong rfl (fun _ _ _ _ _ => rfl) (lcfg L.tin) fun B H1 A2 o2 sh2 HZ E2 f2 c2 hr2 R2 => ?_
    refine we_call R2 (G.clo.gd.dfn hr2 (by decide)) rfl (wa_cons (we_int (wa_cons (we_name (i := 4) rfl (by walk_at "vis") rfl (wa_nil ?_)))))
    refine ⟨rfl, rn_closedW hw.ok hw.bad ?_⟩
    refine ⟨Z.memS, _, rfl, Nat.le_of_ble_eq_true rfl, ?_⟩
    show WSs _ _ _ (gL d ns x (some (.val bad)) (some (.val wrong)) (some (.own (.lst [.exc ad.places, .exc ad.members])))) _
    refine ws_cons (ws_expr (we_append (i := 5) rfl (by walk_at "vis") rfl ?_))
    refine we_caught (k := 7) rfl L.CA L.TB rfl L.tin L.tun hr lq_five rfl (fun _ _ _ _ _ => rfl) (lcfg L.tin) fun B H1 A2 o2 sh2 HZ E2 f2 c2 hr2 R2 => ?_
    refine we_call R2 (G.clo.gd.dfn hr2 (by decide)) rfl (wa_cons (we_int ?_))
    walk_at "d"
    refine ⟨rfl, ?_⟩
    show (spClosed ad).run [.int (5 : Nat), .lst (perms s5)] _
    refine rn_closed (by decide) (by decide) (.inl rfl) (by decide) pm_s5 fun S cS => ?_
    rw [if_neg (s5_big cS)]
    refine ⟨Z.manS, _, rfl, Nat.le_of_ble_eq_true rfl, ?_⟩
    show WSs _ _ _ (gL d ns x (some (.val bad)) (some (.val wrong)) (some (.own (.lst [.exc ad.places, .exc ad.members, .exc (.fd ad.many "most" 60)])))) _
    refine wss_give (i := 5) rfl ?_
    show WSs _ _ _ (gL d ns x (some (.val bad)) (some (.val wrong)) (some (.val (.lst [.exc ad.places, .exc ad.members, .exc (.fd ad.many "most" 60)])))) _
    refine ws_cons ?_
    walk_at "e"
    refine wt_cmp (op_neX hr) ?_ (nomark _)
    walk_at "e"
    refine we_callB cr_isB rfl G.T.isinstance bb_isinstance (wa_cons (we_ix (we_name (i := 5) rfl (by walk_at "vis") rfl (we_int (od_ix (d := .exc ad.places) (.inl rfl) rfl (wa_cons (we_globO rfl G.Z.places.g (wa_nil (cd_isExc Z.plaC Z.pla1 ?_)))))))))
    walk_at "e"
    refine we_callB cr_isB rfl G.T.isinstance bb_isinstance (wa_cons (we_ix (we_name (i := 5) rfl (by walk_at "vis") rfl (we_int (od_ix (d := .exc ad.members) (.inl rfl) rfl (wa_cons (we_globO rfl G.Z.members.g (wa_nil (cd_isExc Z.memC Z.mem1 ?_)))))))))
    walk_at "e"
    refine we_call R (G.tooMany.dfn hr (by decide)) rfl (wa_cons (we_ix (we_name (i := 5) rfl (by walk_at "vis") rfl (we_int (od_ix (d := .exc (.fd ad.many "most" 60)) (.inl rfl) rfl ?_)))))
    walk_at "e"
    refine ⟨rfl, _, rfl, .inr ⟨60, rfl⟩, ?_⟩
    have e60 : (D.exc (.fd ad.many "most" 60)).isMany ad.many = true := by
      show (ad.many == ad.many && (60 : Int) == 60) = true
      simp
    rw [e60]
    walk_at "d"
    refine od_rep (n := 3) (by decide) (Nat.le_of_ble_eq_true rfl) ?_
    refine od_ne rfl rfl ?_
    have e3 : D.eq (.lst [.bl true, .bl true, .bl true]) (.lst (List.replicate 3 [D.bl true]).flatten) = true := rfl
    rw [e3]
    refine ⟨_, rfl, itF (ws_nil ?_)⟩
    refine ws_cons (ws_ret ?_)
    refine we_call R (G.says.dfn hr (by decide)) rfl ?_
    refine wa_cons (we_lst (wa_cons ?_))
    refine we_call R (G.clo.gd.dfn hr (by decide)) rfl (wa_cons (we_int ?_))
    walk_at "d"
    refine ⟨rfl, ?_⟩
    show (spClosed ad).run [.int (3 : Nat), .lst (perms [[1, 2, 0]])] _
    refine rn_closed (by decide) (by decide) (.inl rfl) (by decide) (fun m hm => by rw [List.mem_singleton.mp hm]; exact pm_c (by decide +kernel)) fun S cS => ?_
    have := cS.one cls_c3
    subst this
    rw [if_pos (by decide)]
    refine wa_cons ?_
    refine we_call R (G.clo.gd.dfn hr (by decide)) rfl (wa_cons (we_int ?_))
    walk_at "d"
    refine ⟨rfl, ?_⟩
    show (spClosed ad).run [.int (2 : Nat), .lst (perms [])] _
    refine rn_closed (by decide) (by decide) (.inl rfl) (by decide) (fun m hm => by cases hm) fun S cS => ?_
    have := cS.one cls_c2
    subst this
    rw [if_pos (by decide)]
    refine wa_cons ?_
    refine we_call R (G.mak.gd.dfn hr (by decide)) rfl ?_
    walk_at "d"
    refine ⟨rfl, ?_⟩
    show (spMakers ad).run [.tup (perms [[0]])] _
    refine rn_mak grp_1 ?_
    rw [mkrs_1]
    refine wa_nil ⟨Nat.le_of_ble_eq_true rfl, ?_⟩
    walk_at "d"
    refine ⟨rfl, ?_⟩
    show spSays.run [.lst [.tup (perms [[0, 1, 2], [1, 2, 0], [2, 0, 1]]), .tup (perms [[0, 1]]), .tup (perms [])], .lst [.tup (perms [[0, 1, 2], [1, 2, 0], [2, 0, 1]]), .tup (perms [[0, 1]]), .tup (perms [])]] _
    refine rn_says (fun x hx => ?_) (Nat.le_of_ble_eq_true rfl) done
    simp only [List.mem_cons, List.not_mem_nil, or_false] at hx
    rcases hx with rfl | rfl | rfl <;> exact fl_tperms _
end
def SpLaw (K : PySem.W.Frag) (T : List (Addr × Str)) : Sp := fun vs H Q _ => ∃ (p : Addr) (ns : List Int), vs = [.ref p] ∧ Tabs T H ∧ SqL K H p (ns.map V.int) ∧ ns.length ≤ 1000 ∧ ∀ H', Q (.bl true) H'
/-- the def x stands in the module with the raw promise sp -/
structure GdR (P : Program) (w : World) (K : PySem.W.Frag) (mg : Str → Option Value) (base : Heap) (x : Str) (k : Nat) (ps : List Str) (sp : Sp) : Prop where
  ex : ∃ (f : Addr) (fd : FuncData), FnOk P w K mg base (L2.CX P w) k f fd ps sp ∧ mg x = some (.ref f) ∧ PySem.W.keepIn K (.ref f) = true ∧ Binds K fd ps []
section
variable {P : Program} {w : World} {K : PySem.W.Frag} {mg : Str → Option Value} {base : Heap} {ad : Ad} {c Pt CS : Addr}
theorem law_from {Tb : List (Addr × Str)} {A : Around} {outer : List Env} {sh : Shared} {H0 H H' B : Hp} {E : XK} {f p : Addr} {ns : List Int} {Q : VK} {d : Dr} (G : GsR P w K mg base ad d) (Z : EK K ad CS) (MM : Tm K ad.many)
    (L : LamK base mg K d c Pt CS "law.<locals>.<lambda>") (gr : Gd P w K mg base "_law_right" 9 d.cfg ["draw"] (spRight d))
    (hr : Room 9 (A.deeper (envOfC "law" (defScope sLaw) sh.heap.objs.size f (.ref c)))) (tk : Takes (xL P w K mg base f (.ref c) A outer sh H0 E) (fun cls d _ H => E cls d H)) (hT : Tabs d.T H) (hl : ns.length ≤ 1000) (h : ∀ H', Q (.bl true) H')
    (ex : ∀ a o, H a = some o → H' a = some o) (na : H d.a = none) (nL : H d.L = none) (nC : H d.C = none) (at_ : d.At H')
    (hB : ∀ b o, B b = some o → H b = some o ∧ ∀ ps, o ≠ .tbl ps) (hS : SqL K B p (ns.map V.int)) :
    wpSs (xL P w K mg base f (.ref c) A outer sh H0 E) ((defBody sLaw).drop 1) { nx := fun _ H' => Q .non H', rt := Q } [some (.ref p), some (.ref d.a), none, none, none, none] H' := by
  have nv : ∀ a o, B a = some o → ¬ d.cfg.V a := by
    intro a o e v
    obtain ⟨e1, e2⟩ := hB a o e
    rcases v with v | v | v | ⟨x, hx, v⟩
    · rw [v, na] at e1
      cases e1
    · rw [v, nL] at e1
      cases e1
    · rw [v, nC] at e1
      cases e1
    · obtain ⟨ps, h1, _⟩ := hT x hx
      rw [v, e1] at h1
      exact e2 ps (Option.some.inj h1)
  have vh : ∀ a, d.cfg.V a → H' a ≠ none := by
    obtain ⟨_, _, xs, r, t, g⟩ := at_
    intro a v q
    rcases v with v | v | v | ⟨x, hx, v⟩
    · rw [v, g.dic] at q
      cases q
    · rw [v, g.lar] at q
      cases q
    · rw [v, g.cel] at q
      cases q
    · obtain ⟨ps, h1, _⟩ := hT x hx
      rw [← v, ex _ _ h1] at q
      cases q
  have st : Stt K ⟨d.cfg, H', B⟩ B (gL d ns none none none none) [some (.ref p), some (.ref d.a), none, none, none, none] H' := by
    refine ⟨fun a o e _ => e, Ex.refl _, fun a o e => ⟨ex _ _ (hB a o e).1, nv a o e⟩, fun a o e => .inl e, vh, vh, at_, rfl, fun i sl e => ?_, fun i j oi oj q e1 _ _ _ => ?_⟩
    · match i, e with
      | 0, e =>
        cases e
        exact ⟨_, rfl, .scr hS⟩
      | 1, e =>
        cases e
        exact ⟨_, rfl, .obj _⟩
      | 2, e => cases e
      | 3, e => cases e
      | 4, e => cases e
      | 5, e => cases e
      | i + 6, e => simp at e
    · match i, e1 with
      | 0, e => cases e
      | 1, e => cases e
      | 2, e => cases e
      | 3, e => cases e
      | 4, e => cases e
      | 5, e => cases e
      | i + 6, e => simp at e
  refine law_w (EX := fun _ => False) (ed := { nx := fun _ => False, rt := fun dd => dd = .bl true }) G Z MM L gr hl hr ⟨E, tk, fun C B' H' q _ => q.elim⟩ rfl B _ H' st _ ⟨fun _ _ _ _ q => q.elim, fun B1 Γ1 σ1 H1 v dd q _ _ r => ?_, fun _ _ _ _ q => q.elim, fun _ _ _ _ q => q.elim⟩
  subst q
  cases r
  exact h H1
theorem ok_law {Tb : List (Addr × Str)} {f : Addr} {fd : FuncData} (Fn : FunC K "law" "law" sLaw f fd c) (gb : GdR P w K mg base "_law_begun" 1 ["script"] (SpBegun K Tb)) (G : ∀ d : Dr, d.T = Tb → GsR P w K mg base ad d) (Z : EK K ad CS) (MM : Tm K ad.many)
    (L : ∀ d : Dr, d.T = Tb → LamK base mg K d c Pt CS "law.<locals>.<lambda>") (gr : ∀ d : Dr, d.T = Tb → Gd P w K mg base "_law_right" 9 d.cfg ["draw"] (spRight d)) :
    FnOk P w K mg base (L2.CX P w) 10 f fd ["script"] (SpLaw K Tb) := by
  obtain ⟨oc, od, kV, doc, pm, an, ct, osl, rfl, lk, hcd⟩ := Fn.ex
  obtain ⟨g, gd, FO, hg, hk, hb⟩ := gb.ex
  refine fn_of lk hcd sc_law (fun vs H Q E h => ?_) fun A outer sh H vs Q E hr h => ?_
  · obtain ⟨p, ns, rfl, _⟩ := h
    rfl
  obtain ⟨p, ns, rfl, hT, hS, hl, h⟩ := h
  have tk : Takes (cxOf (L2.CX P w) P w K mg base nLaw "law" (defScope sLaw) f (.ref c) A outer sh H E) (fun cls d _ H => E cls d H) := takes_of rfl rfl rfl rfl
  refine ⟨_, pss_cons (ps_set (i := 1) sc_law.nd rfl (.inl rfl) (pe_call FO (hr.mono (by decide)) rfl hg hk hb .nil (passes_call tk fun _ _ _ _ h => h) (pa_cons (pe_var (i := 0) rfl (by walk_at "vis")) pa_nil) (by decide) rfl rfl) rfl (.inr rfl)) pss_wp, ?_⟩
  refine ⟨.ref p, rfl, p, ns, rfl, hT, hS, hl, fun d H' ex na nL nC dT at_ => ?_⟩
  have hT' : Tabs d.T H := by rw [dT]; exact hT
  rcases hS with hS | hS
  · have hn : ∀ o, H p = some o → ∀ ps, o ≠ .tbl ps := by
      intro o e ps q
      rcases hS with hS | ⟨ob, hS⟩
      · rw [e] at hS
        rw [q] at hS
        cases hS
      · rw [e] at hS
        rw [q] at hS
        cases hS
    refine law_from (H := H) (B := fun b => if b = p then H p else none) (Tb := Tb) (G d dT) Z MM (L d dT) (gr d dT) hr tk hT' hl h ex na nL nC at_ (fun b o e => ?_) (.inl ?_)
    · by_cases q : b = p
      · rw [if_pos q] at e
        rw [q]
        exact ⟨e, hn o e⟩
      · rw [if_neg q] at e
        cases e
    · rcases hS with hS | ⟨ob, hS⟩
      · exact .inl ((if_pos rfl).trans hS)
      · exact .inr ⟨ob, (if_pos rfl).trans hS⟩
  · exact law_from (H := H) (B := fun _ => none) (Tb := Tb) (G d dT) Z MM (L d dT) (gr d dT) hr tk hT' hl h ex na nL nC at_ (fun b o e => nomatch e) (.inr hS)
end
end L2.Px
end
section
/-! TB: what the head must show of a class like TooMany, as a test that the kernel runs -/
namespace L2.Px
open PySem PySem.Spec PyProof.Rows
theorem ev_of {o : Expr} {name m : Str} {j : Nat} {p2 p3 p4 : Pos} (hline : (p2.endLine == p4.line) = true) (env : Env) : ∃ pl : Sem Bool, eval (.Call (.Attribute o name p2) [.Constant (.str m) j p3] [] p4) env = (do
      let ov ← attributeBase o name env (eval o env)
      standAt p2.atName
      let (f, first) ← holding [ov] (getMethod ov name pl)
      callWith p4 f first (backTo p4 (starEach [.Constant (.str m) j p3] env)) []) := by
  refine ⟨(do return (← importBound o env).getD true), ?_⟩
  show (do
    let ov ← attributeBase o name env (eval o env)
    standAt p2.atName
    methodCall o name p2 p4 env ov 1 (backTo p4 (starEach [.Constant (.str m) j p3] env)) (backToKw p4 (keywordEach [] env))) = _
  have few : methodCallForm 1 (backTo p4 (starEach [.Constant (.str m) j p3] env)) [] = true := rfl
  have kw : backToKw p4 (keywordEach [] env) = [] := rfl
  have mp : methodCallPos true o env p2 p4 = pure p4 := by
    unfold methodCallPos
    rw [hline]
    rfl
  unfold methodCall
  simp only [few, kw, mp, calleeOf, if_true, pure_bind]
def oexB (K : PySem.W.Frag) (C : Addr) : Bool :=
  (match K.lookup C with
  | some ⟨.type t, _, .cls ⟨_, _, .ref C' :: bm, _, _, true, _, _, _, _, false⟩, ⟨[_, _, _, _, some (.builtin n), _]⟩⟩ => decide (t = "type") && (decide (n = "ValueError.__new__") && (decide (C' = C) && PySem.HandSPX.refsVE bm))
  | _ => false) && (He.eqO (PySem.W.findIn K (.ref C) "__setattr__") (some (some (.builtin "object.__setattr__"))) && (decide (PySem.W.subIn K (.ref C) (.type "BaseException") = some true) && (decide (PySem.W.typeIn K (.ref C) = some (.type "type")) && PySem.W.keepIn K (.ref C))))
theorem oexB_ok {K : PySem.W.Frag} {C : Addr} (h : oexB K C = true) : OexC K C := by
  obtain ⟨h1, h⟩ := He.ba h
  obtain ⟨h2, h⟩ := He.ba h
  obtain ⟨h3, h⟩ := He.ba h
  obtain ⟨h4, h5⟩ := He.ba h
  refine ⟨?_, He.eqO_ok h2, of_decide_eq_true h3, of_decide_eq_true h4, h5⟩
  split at h1
  · rename_i t dd nm bs C' bm N q sn sub ab col k0 k1 k2 k3 n k5 e
    obtain ⟨a1, h1⟩ := He.ba h1
    obtain ⟨a2, h1⟩ := He.ba h1
    obtain ⟨a3, a4⟩ := He.ba h1
    have a1 := of_decide_eq_true a1
    have a2 := of_decide_eq_true a2
    have a3 := of_decide_eq_true a3
    subst a1 a2 a3
    exact ⟨_, _, _, _, _, _, _, _, _, _, _, _, _, _, _, e, a4⟩
  · cases h1
def tmF (file : Str) (K : PySem.W.Frag) (C : Addr) (f : Str) : FuncData → Bool
  | ⟨nm, qual, ⟨[], [⟨a1, _, _⟩, ⟨a2, _, _⟩], none, [], [], none, []⟩, .stmts [.Expr (.Call (.Attribute (.Call (.Name s0 _) [] [] _) s1 p2) [.Constant (.str _) _ _] [] p4) _, .Assign [.Attribute (.Name s2 _) s3 _] (.Name s4 _) _], scope, gl, [(c0, cc)], .none, _, _, _, _, .ref cda, _, bl⟩ =>
    (decide (nm = "__init__") && (decide (a1 = "self") && (decide (a2 = f) && (decide (s0 = "super") && (decide (s1 = "__init__") && (decide (s2 = "self") && (decide (s3 = f) && (decide (s4 = f) && (decide (gl = mainGlobals) && (decide (c0 = "__class__") && decide (bl = builtinsNs))))))))))) &&
    ((p2.endLine == p4.line) && (PySem.W.codeIn K (.ref cda) qual && ((match K.lookup cda with
      | some ⟨_, _, .fields vs, _⟩ => (match (vs[2]? : Option Value) with
        | some (.str fl _) => file == fl
        | _ => false)
      | _ => false) && ((match K.lookup cc with
      | some ⟨_, _, .cell (some (.ref C')), _⟩ => decide (C' = C)
      | _ => false) && (decide (scope.names.lookup ("super" : Str) = some .globalImplicit) && (decide (scope.names.lookup ("__class__" : Str) = some .free) && (decide (scope.names.lookup ("self" : Str) = some .local) && (decide (scope.names.lookup f = some .local) &&
        (decide (scope.kind = .function) && (scope.names.all (fun x => decide (x.2 ≠ .cell)) && (!scope.isCoroutine && !scope.isGenerator)))))))))))
  | _ => false
def tmB (file : Str) (K : PySem.W.Frag) (C : Addr) (f : Str) : Bool :=
  (match PySem.W.findIn K (.ref C) "__init__" with
  | some (some (.ref fI)) => decide (PySem.W.typeIn K (.ref fI) = some (.type "function")) && (match K.lookup fI with
    | some ⟨_, _, .func fd, _⟩ => tmF file K C f fd
    | _ => false)
  | _ => false) && (oexB K C && (decide (PySem.W.mroIn K C (.ref C) = some true) && (He.eqO (PySem.W.ks_superIn K C C "__init__") (some (some (.builtin "ValueError.__init__"))) && (He.eqO (PySem.W.nsIn K cStatics "thirdparty.any") (some none) && (decide (PySem.W.subIn K (.ref C) (.type "ValueError") = some true) && He.eqO (PySem.W.findIn K (.ref C) f) (some none))))))
theorem tmB_ok {P : Program} {K : PySem.W.Frag} {C : Addr} (h : tmB P.main.file K C "most" = true) (tp : (P.main.scope.names.lookup ("super" : Str)).isSome = false) : TmC P K C "most" := by
  obtain ⟨h1, h⟩ := He.ba h
  obtain ⟨h2, h⟩ := He.ba h
  obtain ⟨h3, h⟩ := He.ba h
  obtain ⟨h4, h⟩ := He.ba h
  obtain ⟨h5, h⟩ := He.ba h
  obtain ⟨h6, h7⟩ := He.ba h
  refine ⟨oexB_ok h2, ?_, of_decide_eq_true h3, He.eqO_ok h4, He.eqO_ok h5, of_decide_eq_true h6, He.eqO_ok h7, tp, by decide, by decide⟩
  split at h1
  · rename_i fI ei
    obtain ⟨t1, h1⟩ := He.ba h1
    split at h1
    · rename_i oc od fd osl lk
      unfold tmF at h1
      split at h1
      · rename_i nm qual a1 an1 ap1 a2 an2 ap2 s0 p0 p1 s1 p2 m j p3 p4 p5 s2 p6 s3 p7 s4 p8 p9 scope gl c0 cc kV doc pm an cda ct bl
        obtain ⟨z, h1⟩ := He.ba h1
        obtain ⟨z1, z⟩ := He.ba z
        obtain ⟨z2, z⟩ := He.ba z
        obtain ⟨z3, z⟩ := He.ba z
        obtain ⟨z4, z⟩ := He.ba z
        obtain ⟨z5, z⟩ := He.ba z
        obtain ⟨z6, z⟩ := He.ba z
        obtain ⟨z7, z⟩ := He.ba z
        obtain ⟨z8, z⟩ := He.ba z
        obtain ⟨z9, z⟩ := He.ba z
        obtain ⟨z10, z11⟩ := He.ba z
        have z1 := of_decide_eq_true z1
        have z2 := of_decide_eq_true z2
        have z3 := of_decide_eq_true z3
        have z4 := of_decide_eq_true z4
        have z5 := of_decide_eq_true z5
        have z6 := of_decide_eq_true z6
        have z7 := of_decide_eq_true z7
        have z8 := of_decide_eq_true z8
        have z9 := of_decide_eq_true z9
        have z10 := of_decide_eq_true z10
        have z11 := of_decide_eq_true z11
        subst z1 z2 z3 z4 z5 z6 z7 z8 z9 z10 z11
        obtain ⟨y1, h1⟩ := He.ba h1
        obtain ⟨y2, h1⟩ := He.ba h1
        obtain ⟨y3, h1⟩ := He.ba h1
        obtain ⟨y4, h1⟩ := He.ba h1
        obtain ⟨y5, h1⟩ := He.ba h1
        obtain ⟨y6, h1⟩ := He.ba h1
        obtain ⟨y7, h1⟩ := He.ba h1
        obtain ⟨y8, h1⟩ := He.ba h1
        obtain ⟨y9, h1⟩ := He.ba h1
        obtain ⟨y10, h1⟩ := He.ba h1
        obtain ⟨y11, y12⟩ := He.ba h1
        obtain ⟨y13, y14⟩ := He.ba y12
        split at y4
        · rename_i ccl cdd vs ccs ec
          split at y4
          · rename_i fl tf ef
            split at y5
            · rename_i cl cld C' csl el
              have y5 := of_decide_eq_true y5
              subst y5
              refine ⟨fI, cda, cc, qual, m, j, p0, p1, p2, p3, p4, p5, p6, p7, p8, p9, _, ⟨"self", an1, ap1⟩, scope, .none, kV, doc, pm, ct, oc, ccl, cl, an, od, cdd, cld, osl, ccs, csl, vs, fl, tf, ei, of_decide_eq_true t1, lk, y3, ?_, rfl, rfl, ec, ef, y4, el, of_decide_eq_true y6, of_decide_eq_true y7, of_decide_eq_true y8, of_decide_eq_true y9, of_decide_eq_true y10, fun x hx => of_decide_eq_true (List.all_eq_true.mp y11 x hx), by simpa using y13, by simpa using y14, ev_of y2⟩
              exact Binds.all fun us hl => match us, hl with | [_, _], _ => rfl
            · cases y5
          · cases y4
        · cases y4
      · cases h1
    · cases h1
  · cases h1
end L2.Px
end
section
/-! KZ: the names, the head's run, the end -/
namespace L2.Px
open PySem PySem.Spec
open PyProof.Rows LamX L2
def topC (i : Nat) : Stmt := PySem.Challenge.pw_whatstays_k01_whole_groups.main.body.getD i (.Pass ⟨0, 0, 0, 0⟩)
def dD (x : Str) (i : Nat) : He.DefD := ⟨(x, none), x, x, defArgs (topC i), defBody (topC i), defScope (topC i), [], []⟩
def fnL0 : List He.DefD := [dD "is_number" 8, dD "are_each_once" 9, dD "is_member_of" 10, dD "is_any_member" 11, dD "need_places" 12, dD "unit_by" 13, dD "then_by" 14, dD "closed_by" 17, dD "makers_by" 18, dD "is_group_of" 19, dD "need_group" 20, dD "is_group" 21, dD "closed" 22, dD "makers" 23, dD "_law_begun" 25, dD "_law_mixed" 26, dD "_law_take" 27, dD "_law_pick" 28]
def fnL1 : List He.DefD := [dD "_law_shuffled" 29, dD "_law_caught" 30, dD "_law_is_too_many" 31, dD "_law_value_kinds" 32, dD "_law_says" 33, dD "_law_odd" 34, dD "_law_is_number" 35, dD "_law_is_line" 36, dD "_law_then" 37, dD "_law_back" 38, dD "_law_closed" 39, dD "_law_is_group" 40, dD "_law_makers" 41, dD "_law_group" 42, dD "_law_group_of" 43, dD "_law_bent" 44, dD "_law_own_makers" 45, dD "_law_right" 46]
def fnL2 : List He.DefD := [dD "law" 47]
def fnL : List He.DefD := fnL0 ++ (fnL1 ++ (fnL2))
def faL0 : List He.Fa := [.glo "is_number", .glo "are_each_once", .glo "is_member_of", .glo "is_any_member", .glo "need_places", .glo "unit_by", .glo "then_by", .glo "closed_by", .glo "makers_by", .glo "is_group_of", .glo "need_group", .glo "is_group", .glo "closed", .glo "makers", .glo "_law_begun", .glo "_law_mixed", .glo "_law_take", .glo "_law_pick"]
def faL1 : List He.Fa := [.glo "_law_shuffled", .glo "_law_caught", .glo "_law_is_too_many", .glo "_law_value_kinds", .glo "_law_says", .glo "_law_odd", .glo "_law_is_number", .glo "_law_is_line", .glo "_law_then", .glo "_law_back", .glo "_law_closed", .glo "_law_is_group", .glo "_law_makers", .glo "_law_group", .glo "_law_group_of", .glo "_law_bent", .glo "_law_own_makers", .glo "_law_right"]
def faL2 : List He.Fa := [.glo "law", .free "isinstance", .free "int", .free "bool", .free "tuple", .free "list", .free "dict", .free "all", .free "sorted", .free "range", .free "len", .free "abs", .free "min", .free "enumerate", .free "repr", .free "super", .int "MOST_PLACES" 5, .int "MOST_MEMBERS" 60]
def faL3 : List He.Fa := [.glo "BadGroup", .glo "BadMembers", .glo "BadPlaces", .glo "TooMany", .glo "StayError", .exc "BadGroup", .exc "BadMembers", .exc "BadPlaces", .exm "BadGroup" "StayError" true, .exm "BadMembers" "StayError" true, .exm "BadPlaces" "StayError" true, .exm "TooMany" "StayError" true]
def faL : List He.Fa := faL0 ++ (faL1 ++ (faL2 ++ (faL3)))
def looseL0 : List Str := ["StayError", "BadGroup", "BadMembers", "BadPlaces", "TooMany", "MOST_PLACES", "is_number", "are_each_once", "is_member_of", "is_any_member", "need_places", "unit_by", "then_by", "MOST_MEMBERS", "closed_by", "makers_by", "is_group_of", "need_group"]
def looseL1 : List Str := ["is_group", "closed", "makers", "_law_begun", "_law_mixed", "_law_take", "_law_pick", "_law_shuffled", "_law_caught", "_law_is_too_many", "_law_value_kinds", "_law_says", "_law_odd", "_law_is_number", "_law_is_line", "_law_then", "_law_back", "_law_closed"]
def looseL2 : List Str := ["_law_is_group", "_law_makers", "_law_group", "_law_group_of", "_law_bent", "_law_own_makers", "_law_right"]
def looseL : List Str := looseL0 ++ (looseL1 ++ (looseL2))
def excCB (K : PySem.W.Frag) (D : Addr) : Bool :=
  He.eqO (PySem.W.findIn K (.ref D) "__getattribute__") (some (some (.builtin "BaseException.__getattribute__"))) && (He.eqO (PySem.W.findIn K (.ref D) "__getattr__") (some none) && (decide (PySem.W.subIn K (.ref D) (.type "BaseException") = some true) && (PySem.W.hasDictIn K D && (He.eqO (PySem.W.findIn K (.ref D) "__class__") (some (some (.builtin "object.__class__"))) &&
    (He.eqO (PySem.W.specialIn K (.builtin "object.__class__") "__get__") (some (some (.builtin "getset_descriptor.__get__"))) && (decide (PySem.W.takesIn K (.builtin "object.__class__") = some true) && decide (PySem.W.mroIn K D (.type "object") = some true)))))))
def kit (K : PySem.W.Frag) (c : Value) (x : Str) (b : Bool) : Bool := decide (PySem.W.kitOne K c (.ref (He.ga K x)) = some b)
def tfL : List He.Defn := [("law", none), ("_law_right", none)]
def exL (K : PySem.W.Frag) : Bool := excCB K (He.ga K "BadGroup") && (excCB K (He.ga K "BadPlaces") && (excCB K (He.ga K "BadMembers") && (excCB K (He.ga K "TooMany") && (kit K (.ref (He.ga K "BadGroup")) "BadGroup" true && (kit K (.ref (He.ga K "BadPlaces")) "BadPlaces" true && (kit K (.ref (He.ga K "BadMembers")) "BadMembers" true && (kit K (.type "NoneType") "BadGroup" false && (kit K (.ref (He.ga K "TooMany")) "TooMany" true && (kit K (.type "NoneType") "TooMany" false && (xfB K (He.ga K "TooMany") && (tmB PySem.Challenge.rw_whatstays_k01_whole_groups.prog.main.file K (He.ga K "TooMany") "most" && ((!decide ((He.cT K ("law", none)).2 = (He.cT K ("_law_right", none)).2))))))))))))))
/-- what the names reach, and the interpreter's own statics -/
def asY (g : Addr → Option Obj) : List Addr := He.asD g 5 ++ [cStatics]
def obY (g : Addr → Option Obj) : He.AlX := (He.obsT faL fnL [] (He.frT g (asY g)), exL (He.frT g (asY g)) && He.tabsB g tfL (He.frT g (asY g)))
theorem saysY {w : World} {h : Heap} (q : obY h.get? = He.valX fnL [] w) : He.SaysX faL fnL [] tfL exL w h (He.frT h.get? (asY h.get?)) := by
  obtain ⟨r1, r2⟩ := Prod.mk.inj (show ((He.obsT faL fnL [] (He.frT h.get? (asY h.get?)), exL (He.frT h.get? (asY h.get?)) && He.tabsB h.get? tfL (He.frT h.get? (asY h.get?))) : He.AlX) = (He.valT fnL [] w, true) from q)
  obtain ⟨r3, r4⟩ := He.ba r2
  have tab : ∀ p ∈ tfL, PySem.W.codeHdIn (He.frT h.get? (asY h.get?)) (He.cT (He.frT h.get? (asY h.get?)) p).1 (He.cT (He.frT h.get? (asY h.get?)) p).2 = true ∧ ∃ u, h.get? (He.cT (He.frT h.get? (asY h.get?)) p).2 = some u ∧ He.emptyTab u = true := by
    intro p hp
    obtain ⟨s1, s2⟩ := He.ba (List.all_eq_true.mp r4 p hp)
    cases z : h.get? (He.cT (He.frT h.get? (asY h.get?)) p).2 with
    | none =>
      rw [z] at s2
      cases s2
    | some u =>
      rw [z] at s2
      exact ⟨s1, u, rfl, s2⟩
  refine ⟨r1, r3, fun p hp => (tab p hp).1, fun p hp => ?_, fun p hp => ?_⟩
  · obtain ⟨_, u, z, e⟩ := tab p hp
    exact He.frT_none z e
  · obtain ⟨_, u, z, e⟩ := tab p hp
    rw [z, He.emptyTab_eq e]
def hkL : PySem.W.Hook where
  α := He.AlX
  obs := fun s => obY s.heap.get?
  val := fun w => He.valX fnL [] w
  says := fun w h => ∃ K : PySem.W.Frag, K.In h ∧ He.SaysX faL fnL [] tfL exL w h K
  of := fun _ _ q => ⟨_, He.frT_in, saysY q⟩
  keeps := fun _ _ _ ⟨K, hK, c⟩ k => ⟨K, PySem.W.Frag.In.keeps hK k, ⟨c.t, c.more, c.hd, c.out, fun p hp => k _ _ (c.empty p hp)⟩⟩
abbrev Rw : PySem.W.OpenRow := PySem.W.OpenLaw.row PySem.Challenge.rw_whatstays_k01_whole_groups
def obL (s : PySem.W.SharedT) : He.AlX := obY (HandSHeadRun.getT s)
theorem obL_eq (s : PySem.W.SharedT) : obL s = hkL.obs s.abs := by
  have e : HandSHeadRun.getT s = s.abs.heap.get? := funext (HandSHeadRun.getT_eq s)
  unfold obL
  rw [e] <;> rfl
theorem runL (w : World) : HandSHeadRun.RunEq Rw (PySem.W.view Rw.prog [47]) hkL obL 6000 looseL w := by
  intro os
  kernel_rfl
variable [Wld]
/-- the def x as it stands: the i-th statement of the top -/
structure Nm (K : PySem.W.Frag) (mg : Str → Option Value) (x : Str) (i : Nat) (fd : FuncData) : Prop where
  F : Fun K x x (top i) (He.ga K x) fd
  g : mg x = some (.ref (He.ga K x))
theorem nm_of {K : PySem.W.Frag} {h : Heap} {mg : Str → Option Value} (X : K.In h) (G : h.Ns mainGlobals mg) (c : He.SaysD faL fnL K) {x : Str} {i : Nat} (k j : Nat) (hk : fnL[k]? = some (dD x i)) (hj : faL[j]? = some (.glo x)) : ∃ fd, Nm K mg x i fd := by
  obtain ⟨fd, F⟩ := c.def_ k hk
  obtain ⟨oc, od, dV, kV, doc, pm, an, cdv, ct, osl, e, lk, hcd, hD, hK⟩ := F.ex
  rcases hD with ⟨_, rfl⟩ | ⟨e2, _⟩
  · exact ⟨fd, ⟨⟨oc, od, kV, doc, pm, an, cdv, ct, osl, e, lk, hcd⟩, F.kp⟩, He.glo_ok X G (c.fact j hj)⟩
  · exact absurd rfl e2
section
variable {P : Program} {w : World} {K : PySem.W.Frag} {mg : Str → Option Value} {base : Heap}
theorem Nm.gd {x : Str} {i : Nat} {fd : FuncData} (N : Nm K mg x i fd) {k : Nat} {c : Cfg} {ps : List Str} {sp : DS} (ok : FnOk P w K mg base (L2.CX P w) k (He.ga K x) fd ps (SpD K c ps.length sp))
    (hb : ∀ (kV doc pm : Value) (an : Option Addr) (cdv ct : Value) (us : List Value), us.length = ps.length → bindArgs (PySem.W.fnOf x x (defArgs (top i)) (defBody (top i)) (defScope (top i)) .none kV doc pm an cdv ct) ⟨us, []⟩ = pure (ps.zip us)) : Gd P w K mg base x k c ps sp :=
  ⟨He.ga K x, fd, ok, N.g, N.F.kp, N.F.binds hb⟩
theorem Nm.gdR {x : Str} {i : Nat} {fd : FuncData} (N : Nm K mg x i fd) {k : Nat} {ps : List Str} {sp : Sp} (ok : FnOk P w K mg base (L2.CX P w) k (He.ga K x) fd ps sp)
    (hb : ∀ (kV doc pm : Value) (an : Option Addr) (cdv ct : Value) (us : List Value), us.length = ps.length → bindArgs (PySem.W.fnOf x x (defArgs (top i)) (defBody (top i)) (defScope (top i)) .none kV doc pm an cdv ct) ⟨us, []⟩ = pure (ps.zip us)) : GdR P w K mg base x k ps sp :=
  ⟨He.ga K x, fd, ok, N.g, N.F.kp, N.F.binds hb⟩
theorem Nm.gdK {x : Str} {i : Nat} {fd : FuncData} (N : Nm K mg x i fd) {k : Nat} {c : Cfg} {ps : List Str} {sp : DS} (ok : FnOk P w K mg base (L2.CX P w) k (He.ga K x) fd ps (SpD K c ps.length sp))
    (hb : ∀ (kV doc pm : Value) (an : Option Addr) (cdv ct : Value) (us : List Value), us.length = ps.length → bindArgs (PySem.W.fnOf x x (defArgs (top i)) (defBody (top i)) (defScope (top i)) .none kV doc pm an cdv ct) ⟨us, []⟩ = pure (ps.zip us))
    (hk : ∀ (kV doc pm : Value) (an : Option Addr) (cdv ct : Value) (ws : List Value), ws.length = ps.length → bindArgs (PySem.W.fnOf x x (defArgs (top i)) (defBody (top i)) (defScope (top i)) .none kV doc pm an cdv ct) ⟨[], ps.reverse.zip ws⟩ = pure (ps.zip ws.reverse)) : GdK P w K mg base x k c ps sp :=
  ⟨He.ga K x, fd, ok, N.g, N.F.kp, N.F.binds hb, krev_of N.F hk⟩
/-- the code object of a def -/
theorem Nm.code {x : Str} {i : Nat} {fd : FuncData} (N : Nm K mg x i fd) : FunC K x x (top i) (He.ga K x) fd (He.codeOf K (x, none)) := by
  obtain ⟨oc, od, kV, doc, pm, an, cdv, ct, osl, rfl, lk, hcd⟩ := N.F.ex
  obtain ⟨c, rfl⟩ := He.codeIn_ref hcd
  have e : He.codeOf K (x, none) = c := He.codeOf_eq (p := (x, none)) lk rfl
  rw [e]
  exact ⟨oc, od, kV, doc, pm, an, ct, osl, rfl, lk, hcd⟩
end
abbrev adK (K : PySem.W.Frag) : Ad := ⟨He.ga K "BadGroup", He.ga K "BadMembers", He.ga K "BadPlaces", He.ga K "TooMany", He.ga K "StayError"⟩
theorem kexn {K : PySem.W.Frag} {h : Heap} {mg : Str → Option Value} (X : K.In h) (G : h.Ns mainGlobals mg) (c : He.SaysD faL fnL K) {x : Str} (i j : Nat) (hi : faL[i]? = some (.glo x)) (hj : faL[j]? = some (.exc x)) : KExn K mg x (He.ga K x) := by
  obtain ⟨e1, e2, e3, e4⟩ := He.exc_ok (c.fact j hj)
  exact ⟨⟨_, _, _, _, PySem.F.excBase_ValueError, e1⟩, He.glo_ok X G (c.fact i hi), e2, e3, e4⟩
theorem excC_of {K : PySem.W.Frag} {D : Addr} (h : excCB K D = true) : ExcC K D := by
  obtain ⟨h1, h⟩ := He.ba h
  obtain ⟨h2, h⟩ := He.ba h
  obtain ⟨h3, h⟩ := He.ba h
  obtain ⟨h4, h⟩ := He.ba h
  obtain ⟨h5, h⟩ := He.ba h
  obtain ⟨h6, h⟩ := He.ba h
  obtain ⟨h7, h8⟩ := He.ba h
  exact ⟨He.eqO_ok h1, He.eqO_ok h2, of_decide_eq_true h3, h4, He.eqO_ok h5, He.eqO_ok h6, of_decide_eq_true h7, of_decide_eq_true h8⟩
theorem ek_of {K : PySem.W.Frag} {w : World} {h : Heap} (c : He.SaysX faL fnL [] tfL exL w h K) : EK K (adK K) (He.ga K "StayError") := by
  obtain ⟨h1, q⟩ := He.ba c.more
  obtain ⟨h2, q⟩ := He.ba q
  obtain ⟨h3, q⟩ := He.ba q
  obtain ⟨h4, q⟩ := He.ba q
  obtain ⟨h5, q⟩ := He.ba q
  obtain ⟨h6, q⟩ := He.ba q
  obtain ⟨h7, q⟩ := He.ba q
  obtain ⟨h8, q⟩ := He.ba q
  obtain ⟨h9, q⟩ := He.ba q
  obtain ⟨h10, q⟩ := He.ba q
  obtain ⟨h11, q⟩ := He.ba q
  obtain ⟨h12, h13⟩ := He.ba q
  exact ⟨excC_of h1, excC_of h2, excC_of h3, He.exm_ok (c.t.d.fact 62 (f := .exm "BadGroup" "StayError" true) rfl), He.exm_ok (c.t.d.fact 64 (f := .exm "BadPlaces" "StayError" true) rfl), He.exm_ok (c.t.d.fact 63 (f := .exm "BadMembers" "StayError" true) rfl), He.exm_ok (c.t.d.fact 65 (f := .exm "TooMany" "StayError" true) rfl), of_decide_eq_true h5, of_decide_eq_true h6, of_decide_eq_true h7, of_decide_eq_true h8⟩
theorem tm_of {K : PySem.W.Frag} {w : World} {h : Heap} (c : He.SaysX faL fnL [] tfL exL w h K) (tc : TmC PySem.Challenge.rw_whatstays_k01_whole_groups.prog K (He.ga K "TooMany") "most") : Tm K (adK K).many := by
  obtain ⟨h1, q⟩ := He.ba c.more
  obtain ⟨h2, q⟩ := He.ba q
  obtain ⟨h3, q⟩ := He.ba q
  obtain ⟨h4, q⟩ := He.ba q
  obtain ⟨h5, q⟩ := He.ba q
  obtain ⟨h6, q⟩ := He.ba q
  obtain ⟨h7, q⟩ := He.ba q
  obtain ⟨h8, q⟩ := He.ba q
  obtain ⟨h9, q⟩ := He.ba q
  obtain ⟨h10, q⟩ := He.ba q
  obtain ⟨h11, q⟩ := He.ba q
  obtain ⟨h12, h13⟩ := He.ba q
  exact ⟨xfB_ok h11, tc.no, excC_of h4, of_decide_eq_true h9, of_decide_eq_true h10⟩
theorem tc_of {K : PySem.W.Frag} {w : World} {h : Heap} (c : He.SaysX faL fnL [] tfL exL w h K) : TmC PySem.Challenge.rw_whatstays_k01_whole_groups.prog K (He.ga K "TooMany") "most" := by
  obtain ⟨h1, q⟩ := He.ba c.more
  obtain ⟨h2, q⟩ := He.ba q
  obtain ⟨h3, q⟩ := He.ba q
  obtain ⟨h4, q⟩ := He.ba q
  obtain ⟨h5, q⟩ := He.ba q
  obtain ⟨h6, q⟩ := He.ba q
  obtain ⟨h7, q⟩ := He.ba q
  obtain ⟨h8, q⟩ := He.ba q
  obtain ⟨h9, q⟩ := He.ba q
  obtain ⟨h10, q⟩ := He.ba q
  obtain ⟨h11, q⟩ := He.ba q
  obtain ⟨h12, h13⟩ := He.ba q
  exact tmB_ok h12 (by decide +kernel)
theorem tabs_ne {K : PySem.W.Frag} {w : World} {h : Heap} (c : He.SaysX faL fnL [] tfL exL w h K) : (He.cT K ("law", none)).2 ≠ (He.cT K ("_law_right", none)).2 := by
  obtain ⟨h1, q⟩ := He.ba c.more
  obtain ⟨h2, q⟩ := He.ba q
  obtain ⟨h3, q⟩ := He.ba q
  obtain ⟨h4, q⟩ := He.ba q
  obtain ⟨h5, q⟩ := He.ba q
  obtain ⟨h6, q⟩ := He.ba q
  obtain ⟨h7, q⟩ := He.ba q
  obtain ⟨h8, q⟩ := He.ba q
  obtain ⟨h9, q⟩ := He.ba q
  obtain ⟨h10, q⟩ := He.ba q
  obtain ⟨h11, q⟩ := He.ba q
  obtain ⟨h12, h13⟩ := He.ba q
  have z : (!decide ((He.cT K ("law", none)).2 = (He.cT K ("_law_right", none)).2)) = true := h13
  simpa using z
abbrev tbL (K : PySem.W.Frag) : List (Addr × Str) := [((He.cT K ("law", none)).2, "law.<locals>.<lambda>"), ((He.cT K ("_law_right", none)).2, "_law_right.<locals>.<lambda>")]
theorem kT {K : PySem.W.Frag} {w : World} {h : Heap} (c : He.SaysX faL fnL [] tfL exL w h K) : PySem.W.keepIn K (.ref (adK K).many) = true := by
  obtain ⟨h1, q⟩ := He.ba c.more
  obtain ⟨h2, q⟩ := He.ba q
  obtain ⟨h3, q⟩ := He.ba q
  obtain ⟨h4, q⟩ := He.ba q
  obtain ⟨h5, q⟩ := He.ba q
  obtain ⟨h6, q⟩ := He.ba q
  obtain ⟨h7, q⟩ := He.ba q
  obtain ⟨h8, q⟩ := He.ba q
  obtain ⟨h9, q⟩ := He.ba q
  obtain ⟨h10, q⟩ := He.ba q
  obtain ⟨h11, q⟩ := He.ba q
  obtain ⟨h12, h13⟩ := He.ba q
  obtain ⟨_, z⟩ := He.ba h12
  obtain ⟨z, _⟩ := He.ba z
  obtain ⟨_, z⟩ := He.ba z
  obtain ⟨_, z⟩ := He.ba z
  obtain ⟨_, z⟩ := He.ba z
  exact (He.ba z).2
theorem chain {P : Program} {w : World} {K : PySem.W.Frag} {h base : Heap} {mg : Str → Option Value} (hP : P = Wld.P) (hw : w = Wld.w) (X : K.In h) (G : h.Ns mainGlobals mg) (c : He.SaysX faL fnL [] tfL exL w h K) (tc : TmC P K (He.ga K "TooMany") "most") (tm : Tm K (adK K).many)
    (TB : ∀ p ∈ tfL.map (He.cT K), TabB base mg p.1 p.2) {fdl : FuncData} (NL : Nm K mg "law" 47 fdl) : FnOk P w K mg base (L2.CX P w) 10 (He.ga K "law") fdl ["script"] (SpLaw K (tbL K)) := by
  obtain ⟨f8, N8⟩ := nm_of X G c.t.d (x := "is_number") (i := 8) 0 0 rfl rfl
  obtain ⟨f9, N9⟩ := nm_of X G c.t.d (x := "are_each_once") (i := 9) 1 1 rfl rfl
  obtain ⟨f10, N10⟩ := nm_of X G c.t.d (x := "is_member_of") (i := 10) 2 2 rfl rfl
  obtain ⟨f11, N11⟩ := nm_of X G c.t.d (x := "is_any_member") (i := 11) 3 3 rfl rfl
  obtain ⟨f12, N12⟩ := nm_of X G c.t.d (x := "need_places") (i := 12) 4 4 rfl rfl
  obtain ⟨f13, N13⟩ := nm_of X G c.t.d (x := "unit_by") (i := 13) 5 5 rfl rfl
  obtain ⟨f14, N14⟩ := nm_of X G c.t.d (x := "then_by") (i := 14) 6 6 rfl rfl
  obtain ⟨f17, N17⟩ := nm_of X G c.t.d (x := "closed_by") (i := 17) 7 7 rfl rfl
  obtain ⟨f18, N18⟩ := nm_of X G c.t.d (x := "makers_by") (i := 18) 8 8 rfl rfl
  obtain ⟨f19, N19⟩ := nm_of X G c.t.d (x := "is_group_of") (i := 19) 9 9 rfl rfl
  obtain ⟨f20, N20⟩ := nm_of X G c.t.d (x := "need_group") (i := 20) 10 10 rfl rfl
  obtain ⟨f21, N21⟩ := nm_of X G c.t.d (x := "is_group") (i := 21) 11 11 rfl rfl
  obtain ⟨f22, N22⟩ := nm_of X G c.t.d (x := "closed") (i := 22) 12 12 rfl rfl
  obtain ⟨f23, N23⟩ := nm_of X G c.t.d (x := "makers") (i := 23) 13 13 rfl rfl
  obtain ⟨f25, N25⟩ := nm_of X G c.t.d (x := "_law_begun") (i := 25) 14 14 rfl rfl
  obtain ⟨f26, N26⟩ := nm_of X G c.t.d (x := "_law_mixed") (i := 26) 15 15 rfl rfl
  obtain ⟨f27, N27⟩ := nm_of X G c.t.d (x := "_law_take") (i := 27) 16 16 rfl rfl
  obtain ⟨f28, N28⟩ := nm_of X G c.t.d (x := "_law_pick") (i := 28) 17 17 rfl rfl
  obtain ⟨f29, N29⟩ := nm_of X G c.t.d (x := "_law_shuffled") (i := 29) 18 18 rfl rfl
  obtain ⟨f30, N30⟩ := nm_of X G c.t.d (x := "_law_caught") (i := 30) 19 19 rfl rfl
  obtain ⟨f31, N31⟩ := nm_of X G c.t.d (x := "_law_is_too_many") (i := 31) 20 20 rfl rfl
  obtain ⟨f32, N32⟩ := nm_of X G c.t.d (x := "_law_value_kinds") (i := 32) 21 21 rfl rfl
  obtain ⟨f33, N33⟩ := nm_of X G c.t.d (x := "_law_says") (i := 33) 22 22 rfl rfl
  obtain ⟨f34, N34⟩ := nm_of X G c.t.d (x := "_law_odd") (i := 34) 23 23 rfl rfl
  obtain ⟨f35, N35⟩ := nm_of X G c.t.d (x := "_law_is_number") (i := 35) 24 24 rfl rfl
  obtain ⟨f36, N36⟩ := nm_of X G c.t.d (x := "_law_is_line") (i := 36) 25 25 rfl rfl
  obtain ⟨f37, N37⟩ := nm_of X G c.t.d (x := "_law_then") (i := 37) 26 26 rfl rfl
  obtain ⟨f38, N38⟩ := nm_of X G c.t.d (x := "_law_back") (i := 38) 27 27 rfl rfl
  obtain ⟨f39, N39⟩ := nm_of X G c.t.d (x := "_law_closed") (i := 39) 28 28 rfl rfl
  obtain ⟨f40, N40⟩ := nm_of X G c.t.d (x := "_law_is_group") (i := 40) 29 29 rfl rfl
  obtain ⟨f41, N41⟩ := nm_of X G c.t.d (x := "_law_makers") (i := 41) 30 30 rfl rfl
  obtain ⟨f42, N42⟩ := nm_of X G c.t.d (x := "_law_group") (i := 42) 31 31 rfl rfl
  obtain ⟨f43, N43⟩ := nm_of X G c.t.d (x := "_law_group_of") (i := 43) 32 32 rfl rfl
  obtain ⟨f44, N44⟩ := nm_of X G c.t.d (x := "_law_bent") (i := 44) 33 33 rfl rfl
  obtain ⟨f45, N45⟩ := nm_of X G c.t.d (x := "_law_own_makers") (i := 45) 34 34 rfl rfl
  obtain ⟨f46, N46⟩ := nm_of X G c.t.d (x := "_law_right") (i := 46) 35 35 rfl rfl
  have T : Tx mg := ⟨He.free_ok X G (c.t.d.fact 37 (f := .free "isinstance") rfl), He.free_ok X G (c.t.d.fact 38 (f := .free "int") rfl), He.free_ok X G (c.t.d.fact 39 (f := .free "bool") rfl), He.free_ok X G (c.t.d.fact 40 (f := .free "tuple") rfl), He.free_ok X G (c.t.d.fact 41 (f := .free "list") rfl), He.free_ok X G (c.t.d.fact 42 (f := .free "dict") rfl), He.free_ok X G (c.t.d.fact 43 (f := .free "all") rfl), He.free_ok X G (c.t.d.fact 44 (f := .free "sorted") rfl), He.free_ok X G (c.t.d.fact 45 (f := .free "range") rfl), He.free_ok X G (c.t.d.fact 46 (f := .free "len") rfl), He.free_ok X G (c.t.d.fact 47 (f := .free "abs") rfl), He.free_ok X G (c.t.d.fact 48 (f := .free "min") rfl), He.free_ok X G (c.t.d.fact 49 (f := .free "enumerate") rfl)⟩
  have m5 : ∃ t, mg "MOST_PLACES" = some (.int 5 t) := He.int_ok X G (c.t.d.fact 52 (f := .int "MOST_PLACES" 5) rfl)
  have m60 : ∃ t, mg "MOST_MEMBERS" = some (.int 60 t) := He.int_ok X G (c.t.d.fact 53 (f := .int "MOST_MEMBERS" 60) rfl)
  have Z : Er K mg (adK K) := ⟨kexn X G c.t.d (x := "BadGroup") 54 59 rfl rfl, kexn X G c.t.d (x := "BadMembers") 55 60 rfl rfl, kexn X G c.t.d (x := "BadPlaces") 56 61 rfl rfl⟩
  have gT : mg "TooMany" = some (.ref (He.ga K "TooMany")) := He.glo_ok X G (c.t.d.fact 57 (f := .glo "TooMany") rfl)
  have M : Em P K mg (adK K).many := ⟨tc, gT, kT c, He.free_ok X G (c.t.d.fact 51 (f := .free "super") rfl)⟩
  have Ek := ek_of c
  have a8 : Gd P w K mg base "is_number" 1 c0 ["thing"] (spIsNumber) := N8.gd (ok_is_number N8.F T) (fun _ _ _ _ _ _ us hl => match us, hl with | [_], _ => rfl)
  have a9 : Gd P w K mg base "are_each_once" 2 c0 ["thing"] (spEach) := N9.gd (ok_each N9.F T a8) (fun _ _ _ _ _ _ us hl => match us, hl with | [_], _ => rfl)
  have a10 : Gd P w K mg base "is_member_of" 3 c0 ["places", "thing"] (spIsMemberOf) := N10.gd (ok_is_member_of N10.F T a9) (fun _ _ _ _ _ _ us hl => match us, hl with | [_, _], _ => rfl)
  have a11 : Gd P w K mg base "is_any_member" 3 c0 ["thing"] (spIsAny) := N11.gd (ok_is_any N11.F T m5 a9) (fun _ _ _ _ _ _ us hl => match us, hl with | [_], _ => rfl)
  have a12 : Gd P w K mg base "need_places" 2 c0 ["places"] (spNeedPlaces (adK K)) := N12.gd (ok_need_places N12.F Z m5 a8) (fun _ _ _ _ _ _ us hl => match us, hl with | [_], _ => rfl)
  have a13 : Gd P w K mg base "unit_by" 1 c0 ["places"] (spUnitBy) := N13.gd (ok_unit_by N13.F T) (fun _ _ _ _ _ _ us hl => match us, hl with | [_], _ => rfl)
  have a14 : Gd P w K mg base "then_by" 1 c0 ["one", "other"] (spThenBy) := N14.gd (ok_then_by N14.F T) (fun _ _ _ _ _ _ us hl => match us, hl with | [_, _], _ => rfl)
  have a17 : Gd P w K mg base "closed_by" 2 c0 ["places", "members"] (spClosedBy) := N17.gd (ok_closed_by hP hw N17.F T m60 a13 a14) (fun _ _ _ _ _ _ us hl => match us, hl with | [_, _], _ => rfl)
  have a18 : Gd P w K mg base "makers_by" 3 c0 ["group"] (spMakersBy) := N18.gd (ok_makers_by N18.F T a13 a17) (fun _ _ _ _ _ _ us hl => match us, hl with | [_], _ => rfl)
  have a19 : Gd P w K mg base "is_group_of" 4 c0 ["thing"] (spIsGroupOf) := N19.gd (ok_is_group_of N19.F T m60 a11 a10 a17) (fun _ _ _ _ _ _ us hl => match us, hl with | [_], _ => rfl)
  have a20 : Gd P w K mg base "need_group" 5 c0 ["group"] (spNeedGroup (adK K)) := N20.gd (ok_need_group N20.F Z a19) (fun _ _ _ _ _ _ us hl => match us, hl with | [_], _ => rfl)
  have a21 : GdK P w K mg base "is_group" 5 c0 ["thing"] (spIsGroupOf) := N21.gdK (ok_is_group N21.F a19) (fun _ _ _ _ _ _ us hl => match us, hl with | [_], _ => rfl) (fun _ _ _ _ _ _ us hl => match us, hl with | [_], _ => rfl)
  have a22 : GdK P w K mg base "closed" 4 c0 ["places", "members"] (spClosed (adK K)) := N22.gdK (ok_closed N22.F T Z M m60 a12 a10 a17) (fun _ _ _ _ _ _ us hl => match us, hl with | [_, _], _ => rfl) (fun _ _ _ _ _ _ us hl => match us, hl with | [_, _], _ => rfl)
  have a23 : GdK P w K mg base "makers" 6 c0 ["group"] (spMakers (adK K)) := N23.gdK (ok_makers N23.F a20 a18) (fun _ _ _ _ _ _ us hl => match us, hl with | [_], _ => rfl) (fun _ _ _ _ _ _ us hl => match us, hl with | [_], _ => rfl)
  have a31 : Gd P w K mg base "_law_is_too_many" 1 c0 ["error", "most"] (spTooMany (adK K)) := N31.gd (ok_too_many N31.F T tm gT) (fun _ _ _ _ _ _ us hl => match us, hl with | [_, _], _ => rfl)
  have a32 : Gd P w K mg base "_law_value_kinds" 1 c0 ["thing"] (spKinds) := N32.gd (ok_kinds N32.F T) (fun _ _ _ _ _ _ us hl => match us, hl with | [_], _ => rfl)
  have a33 : Gd P w K mg base "_law_says" 2 c0 ["told", "due"] (spSays) := N33.gd (ok_says N33.F a32) (fun _ _ _ _ _ _ us hl => match us, hl with | [_, _], _ => rfl)
  have a35 : Gd P w K mg base "_law_is_number" 1 c0 ["thing"] (spIsNumber) := N35.gd (ok_lnum N35.F T) (fun _ _ _ _ _ _ us hl => match us, hl with | [_], _ => rfl)
  have a36 : Gd P w K mg base "_law_is_line" 2 c0 ["thing"] (spLine) := N36.gd (ok_line N36.F T a35) (fun _ _ _ _ _ _ us hl => match us, hl with | [_], _ => rfl)
  have a37 : Gd P w K mg base "_law_then" 1 c0 ["one", "other"] (spThenBy) := N37.gd (ok_lthen N37.F T) (fun _ _ _ _ _ _ us hl => match us, hl with | [_, _], _ => rfl)
  have a38 : Gd P w K mg base "_law_back" 1 c0 ["one"] (spLBack) := N38.gd (ok_lback N38.F T) (fun _ _ _ _ _ _ us hl => match us, hl with | [_], _ => rfl)
  have a39 : Gd P w K mg base "_law_closed" 2 c0 ["places", "lot"] (spLClosed) := N39.gd (ok_lclosed hP hw N39.F T a37) (fun _ _ _ _ _ _ us hl => match us, hl with | [_, _], _ => rfl)
  have a40 : Gd P w K mg base "_law_is_group" 3 c0 ["thing"] (spLIsGroup) := N40.gd (ok_lis_group N40.F T a36 a39) (fun _ _ _ _ _ _ us hl => match us, hl with | [_], _ => rfl)
  have a41 : Gd P w K mg base "_law_makers" 1 c0 ["name"] (spLMakers) := N41.gd (ok_lmakers N41.F) (fun _ _ _ _ _ _ us hl => match us, hl with | [_], _ => rfl)
  have a45 : Gd P w K mg base "_law_own_makers" 3 c0 ["group"] (spMakersBy) := N45.gd (ok_own_makers N45.F T a39) (fun _ _ _ _ _ _ us hl => match us, hl with | [_], _ => rfl)
  have a25 : GdR P w K mg base "_law_begun" 1 ["script"] (SpBegun K (tbL K)) := N25.gdR (ok_begun N25.F T) (fun _ _ _ _ _ _ us hl => match us, hl with | [_], _ => rfl)
  have CA : CaughtAt K mg (He.ga K "StayError") := ⟨⟨_, _, N30.F, N30.g, N30.F.kp, N30.F.binds (fun _ _ _ _ _ _ us hl => match us, hl with | [_], _ => rfl)⟩, He.glo_ok X G (c.t.d.fact 58 (f := .glo "StayError") rfl)⟩
  have GG : ∀ d : Dr, GsR P w K mg base (adK K) d := by
    intro d
    have a26 : Gd P w K mg base "_law_mixed" 1 d.cfg ["draw"] (spMixed d) := N26.gd (ok_mixed N26.F T) (fun _ _ _ _ _ _ us hl => match us, hl with | [_], _ => rfl)
    have a27 : Gd P w K mg base "_law_take" 2 d.cfg ["draw", "amount"] (spTake d) := N27.gd (ok_take N27.F T a26) (fun _ _ _ _ _ _ us hl => match us, hl with | [_, _], _ => rfl)
    have a28 : Gd P w K mg base "_law_pick" 3 d.cfg ["draw", "some"] (spPick d) := N28.gd (ok_pick N28.F T a27) (fun _ _ _ _ _ _ us hl => match us, hl with | [_, _], _ => rfl)
    have a29 : Gd P w K mg base "_law_shuffled" 3 d.cfg ["draw", "some"] (spShufD d) := N29.gd (ok_shufD N29.F T a27) (fun _ _ _ _ _ _ us hl => match us, hl with | [_, _], _ => rfl)
    have a34 : Gd P w K mg base "_law_odd" 4 d.cfg ["draw"] (spOddB d) := N34.gd (ok_oddB N34.F a28) (fun _ _ _ _ _ _ us hl => match us, hl with | [_], _ => rfl)
    have a43 : Gd P w K mg base "_law_group_of" 4 d.cfg ["draw", "name"] (spGroupOf d) := N43.gd (ok_group_of N43.F T a41 (shuf_ints a29) a39 a37 a38) (fun _ _ _ _ _ _ us hl => match us, hl with | [_, _], _ => rfl)
    have a42 : Gd P w K mg base "_law_group" 5 d.cfg ["draw"] (spGroup d) := N42.gd (ok_group N42.F a28 a43) (fun _ _ _ _ _ _ us hl => match us, hl with | [_], _ => rfl)
    have a44 : Gd P w K mg base "_law_bent" 4 d.cfg ["draw", "group"] (spBent d) := N44.gd (ok_bent N44.F T a27 a28 (shuf_ints a29)) (fun _ _ _ _ _ _ us hl => match us, hl with | [_, _], _ => rfl)
    exact ⟨T, Z, a27, a28, a29, a34, a44, a33, a42, a43, a39, a45, a40, a31, a21, a23, a22⟩
  have LK : ∀ d : Dr, d.T = tbL K → LamK base mg K d (He.cT K ("law", none)).1 (He.cT K ("law", none)).2 (He.ga K "StayError") "law.<locals>.<lambda>" := by
    intro d e
    refine ⟨TB _ (List.mem_map.mpr ⟨("law", none), by simp [tfL], rfl⟩), by rw [e]; exact List.mem_cons_self, fun p hp q => ?_, CA⟩
    rw [e] at hp
    rcases List.mem_cons.mp hp with rfl | hp
    · rfl
    · rcases List.mem_cons.mp hp with rfl | hp
      · exact absurd q.symm (tabs_ne c)
      · cases hp
  have LR : ∀ d : Dr, d.T = tbL K → LamK base mg K d (He.cT K ("_law_right", none)).1 (He.cT K ("_law_right", none)).2 (He.ga K "StayError") "_law_right.<locals>.<lambda>" := by
    intro d e
    refine ⟨TB _ (List.mem_map.mpr ⟨("_law_right", none), by simp [tfL], rfl⟩), by rw [e]; exact List.mem_cons_of_mem _ List.mem_cons_self, fun p hp q => ?_, CA⟩
    rw [e] at hp
    rcases List.mem_cons.mp hp with rfl | hp
    · exact absurd q (tabs_ne c)
    · rcases List.mem_cons.mp hp with rfl | hp
      · rfl
      · cases hp
  refine ok_law NL.code a25 (fun d _ => GG d) Ek tm LK fun d e => ?_
  exact N46.gd (ok_right N46.code (GG d) Ek (LR d e)) (fun _ _ _ _ _ _ us hl => match us, hl with | [_], _ => rfl)
end L2.Px
namespace L2.Px
open PySem PySem.Spec
open PyProof.Rows LamX L2
/-- a law whose defs make lambdas, over a head by facts -/
theorem walk_ofX {l : PySem.W.OpenLaw} {n k : Nat} {q : Program} {loose : List Str} {XP : (Str → Option Value) → Heap → Prop} {YP : World → Heap → Prop} {d : DefRec} {CX : World → CXT} {x : Str}
    (hn : l.most = some n) (hn2 : n ≤ sizeLine) (hdf : d.params.defaults = []) (hr : Room k callerA)
    (F : ∀ (w : World) (mg : Str → Option Value) (fa : Addr) (h : Heap), YP w h → h.Ns mainGlobals mg → mg d.name = some (.ref fa) → ∃ K : PySem.W.Frag, K.In h ∧ LawAtS l w K (CX w) k n x mg fa h)
    (hCX : ∀ (w : World) (H : Hp) (s : Shared) (e : Value) (s' : Shared), CX w [] H s (fun _ _ _ => False) e s' → False) :
    PySem.W.WalkO q loose XP YP l.row.toRowW d [] (fun f vs => PySem.call f vs) := by
  refine Att.attach_callB hn hdf fun w s0 s1 mg mb fa o pm cd doc a vs ns Gr Y _ _ _ hmg hob hin hle hbi hge => ?_
  obtain ⟨K, KX, fd, cs, sp, hT, nT, C, hb, hsp, hF⟩ := F w mg fa _ Y Gr.T.g hmg
  exact law_callTs KX Gr.T.g Gr.T.b Gr.T.builtins Gr.T.nolimit hge hT nT C Gr.T.bmain hob hin (Nat.le_trans hle hn2) hr hF hb (fun H hH hS => hsp H a ns hle hbi hH hS) fun H e s' => hCX w H s1 e s'
theorem law_at {w : World} {K : PySem.W.Frag} {h : Heap} {mg : Str → Option Value} {fa : Addr} (X : K.In h) (G : h.Ns mainGlobals mg) (c : He.SaysX faL fnL [] tfL exL w h K) (hfa : mg ("law" : Str) = some (.ref fa)) :
    LawAtS PySem.Challenge.rw_whatstays_k01_whole_groups w K (L2.CX PySem.Challenge.rw_whatstays_k01_whole_groups.prog w) 10 63 "script" mg fa h := by
  letI : Wld := ⟨PySem.Challenge.rw_whatstays_k01_whole_groups.prog, w⟩
  obtain ⟨fdl, NL⟩ := nm_of X G c.t.d (x := "law") (i := 47) 36 36 rfl rfl
  have e := hfa.symm.trans NL.g
  cases e
  refine ⟨fdl, tfL.map (He.cT K), SpLaw K (tbL K), fun p hp => ?_, fun p hp => ?_, fun p hp => ?_, ?_, fun H a ns hn _ hT hS => ?_, fun base _ _ TB => chain rfl rfl X G c (tc_of c) (tm_of c (tc_of c)) TB NL⟩
  · obtain ⟨q, hq, rfl⟩ := List.mem_map.mp hp
    exact c.empty q hq
  · obtain ⟨q, hq, rfl⟩ := List.mem_map.mp hp
    exact c.out q hq
  · obtain ⟨q, hq, rfl⟩ := List.mem_map.mp hp
    exact PySem.W.codeHd_of_K X (c.hd q hq)
  · obtain ⟨oc, od, kV, doc, pm, an, cdv, ct, osl, rfl, lk, hcd⟩ := NL.F.ex
    exact fun s u => .of_eq rfl
  · refine ⟨a, ns, rfl, fun p hp => ?_, hS, by omega, fun _ => rfl⟩
    have h0 : ∀ q : He.Defn, q ∈ tfL → H (He.cT K q).2 = some (.tbl #[]) := fun q hq => hT _ (List.mem_map.mpr ⟨q, hq, rfl⟩)
    rcases List.mem_cons.mp hp with rfl | hp
    · exact TabS.nil (h0 ("law", none) (by simp [tfL]))
    · rcases List.mem_cons.mp hp with rfl | hp
      · exact TabS.nil (h0 ("_law_right", none) (by simp [tfL]))
      · cases hp
end L2.Px
end
open PySem PySem.W PySem.Calls PyProof.Rows
theorem PySem.Challenge.cw_whatstays_k01_whole_groups_holds : PySem.Challenge.rw_whatstays_k01_whole_groups.Holds := by
  w_on; o_law
  refine HandSHeadRun.head_any (r := OpenLaw.row PySem.Challenge.rw_whatstays_k01_whole_groups) (q := view (OpenLaw.row PySem.Challenge.rw_whatstays_k01_whole_groups).prog [47]) (H := L2.Px.hkL) (ob := L2.Px.obL) (M := 6000) (loose := L2.Px.looseL) (d := HandSHeadRun.topDef (OpenLaw.row PySem.Challenge.rw_whatstays_k01_whole_groups).prog 47) (kwd := []) L2.Px.obL_eq
    (by kernel_rfl) (fun s => by kernel_rfl) L2.Px.runL (by kernel_rfl) (by kernel_rfl) (by kernel_rfl) (by rfl) (by first | assumption | decide +kernel) (by decide +kernel) ⟨rfl, rfl, rfl, rfl, rfl, by decide +kernel⟩ ?hw ?hc
  case hw => w_witness2
  case hc =>
    refine L2.Px.walk_ofX (l := PySem.Challenge.rw_whatstays_k01_whole_groups) (n := 63) (k := 10) (x := "script") (CX := fun w => L2.CX PySem.Challenge.rw_whatstays_k01_whole_groups.prog w) rfl (by decide) (by kernel_rfl) ⟨rfl, by decide, by decide⟩ ?F ?X
    case F =>
      intro w mg fa h Y G hmg0
      obtain ⟨K, KX, c⟩ := Y
      have hmg : mg ("law" : PySem.Str) = some (.ref fa) := by
        have e : (HandSHeadRun.topDef (OpenLaw.row PySem.Challenge.rw_whatstays_k01_whole_groups).prog 47).name = ("law" : PySem.Str) := by kernel_rfl
        rw [← e]
        exact hmg0
      exact ⟨K, KX, L2.Px.law_at KX G c hmg⟩
    case X =>
      rintro w H s e s' ⟨_, _, _, _, _, _, _, _, _, _, _, _, z⟩
      exact z
